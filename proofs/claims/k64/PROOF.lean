import PyProof.Rows.All
import HandS.ForMost
import HandS.Exc
import HandS.ExcOwn
import HandS.TryOnly
import HandS.WordsExc
import HandS.Flow
import HandS.Wide
import HandS.More
import HandS.IsInst
import HandS.TupAny
import HandS.Style
import HandS.StrMore
import HandS.CallLocal
import HandS.SortInts
import HandS.DictComp
import HandS.ExcIs
import PyProof.StrOps2
import HandS.WideBits
import HandS.Codes
import PySem.Challenge.RW_meanwithin_k64_texts_of_data_and_integer
set_option Elab.async false
set_option linter.all false
set_option maxRecDepth 100000
/-! DW1: data without addresses: values D, a store of cells, and how they stand in the abstract heap. -/
namespace DW
open PySem PySem.Spec PyProof.Rows L2

/-- values: plain data, frozen containers, new containers that nobody holds (tl, td), references to cells of the store -/
inductive D where
  | non | bl (b : Bool) | int (i : Int) | str (x : Str) | tup (ds : List D) | ref (n : Nat)
  | fl (ds : List D) | sl (ds : List D) | tl (ds : List D)
  | fd (ks : List Key) (ds : List D) | td (ks : List Key) (ds : List D)
  | con (a : Addr) | ty (n : String)
  deriving Inhabited
/-- what a cell holds -/
inductive MO where
  | lst (ds : List D) | dic (kvs : List (Key × D)) | obj (C : Addr) (fs : List (Str × D))
  deriving Inhabited

section
variable (K : PySem.W.Frag) (Fr : Hp) (f : List Addr)
mutual
/-- the value v stands for d: Fr is what never changes, f where the cells stand -/
def Rep : D → V → Prop
  | .non, v => v = .non
  | .bl b, v => v = .bl b
  | .int i, v => v = .int i
  | .str x, v => v = .str x
  | .tup ds, v => ∃ a vs, v = .ref a ∧ SqT K Fr a vs ∧ Reps ds vs
  | .ref n, v => ∃ a, f[n]? = some a ∧ v = .ref a
  | .fl ds, v => ∃ a vs, v = .ref a ∧ Fr a = some (.lst vs) ∧ Reps ds vs
  | .sl ds, v => ∃ a vs, v = .ref a ∧ SqL K Fr a vs ∧ Reps ds vs
  | .fd ks ds, v => ∃ a kvs, v = .ref a ∧ Fr a = some (.dK kvs) ∧ kvs.map (·.1) = ks ∧ Reps ds (kvs.map (·.2))
  | .con a, v => v = .ref a
  | .ty n, v => v = .ty n
  | .tl _, _ => False
  | .td _ _, _ => False
def Reps : List D → List V → Prop
  | [], vs => vs = []
  | d :: ds, vs => ∃ v r, vs = v :: r ∧ Rep d v ∧ Reps ds r
end
end

theorem Same.seqT {K : PySem.W.Frag} {H H' : Hp} {a : Addr} {xs : List V} (e : Same H H') (h : SqT K H a xs) : SqT K H' a xs := by
  rcases h with (h | ⟨o, h⟩) | h
  · exact .inl (.inl (e _ _ h))
  · exact .inl (.inr ⟨o, e _ _ h⟩)
  · exact .inr h

theorem pre_get {α : Type} {f f' : List α} (h : f <+: f') {n : Nat} {a : α} (e : f[n]? = some a) : f'[n]? = some a := by
  obtain ⟨t, rfl⟩ := h
  rw [List.getElem?_append_left]
  · exact e
  · exact (List.getElem?_eq_some_iff.mp e).1

section
variable {K : PySem.W.Frag} {Fr Fr' : Hp} {f f' : List Addr}
mutual
theorem Rep.mono (hF : Same Fr Fr') (hf : f <+: f') : ∀ (d : D) (v : V), Rep K Fr f d v → Rep K Fr' f' d v
  | .non, _, h => h
  | .bl _, _, h => h
  | .int _, _, h => h
  | .str _, _, h => h
  | .tup ds, _, h => by
    obtain ⟨a, vs, e, s, r⟩ := h
    exact ⟨a, vs, e, Same.seqT hF s, Reps.mono hF hf ds vs r⟩
  | .ref _, _, h => by
    obtain ⟨a, e, q⟩ := h
    exact ⟨a, pre_get hf e, q⟩
  | .fl ds, _, h => by
    obtain ⟨a, vs, e, s, r⟩ := h
    exact ⟨a, vs, e, hF _ _ s, Reps.mono hF hf ds vs r⟩
  | .sl ds, _, h => by
    obtain ⟨a, vs, e, s, r⟩ := h
    exact ⟨a, vs, e, hF.seq s, Reps.mono hF hf ds vs r⟩
  | .fd ks ds, _, h => by
    obtain ⟨a, kvs, e, s, k, r⟩ := h
    exact ⟨a, kvs, e, hF _ _ s, k, Reps.mono hF hf ds _ r⟩
  | .con _, _, h => h
  | .ty _, _, h => h
  | .tl _, _, h => h
  | .td _ _, _, h => h
theorem Reps.mono (hF : Same Fr Fr') (hf : f <+: f') : ∀ (ds : List D) (vs : List V), Reps K Fr f ds vs → Reps K Fr' f' ds vs
  | [], _, h => h
  | d :: ds, _, h => by
    obtain ⟨v, r, e, h1, h2⟩ := h
    exact ⟨v, r, e, Rep.mono hF hf d v h1, Reps.mono hF hf ds r h2⟩
end

theorem Reps.length : ∀ {ds : List D} {vs : List V}, Reps K Fr f ds vs → ds.length = vs.length
  | [], vs, h => by cases (show vs = [] from h); rfl
  | d :: ds, vs, h => by
    obtain ⟨v, r, rfl, _, h2⟩ := h
    simp [Reps.length h2]
theorem Reps.get : ∀ {ds : List D} {vs : List V} {i : Nat} {d : D}, Reps K Fr f ds vs → ds[i]? = some d → ∃ v, vs[i]? = some v ∧ Rep K Fr f d v
  | [], vs, i, d, _, e => by simp at e
  | x :: ds, vs, 0, d, h, e => by
    obtain ⟨v, r, rfl, h1, _⟩ := h
    simp at e; subst e
    exact ⟨v, rfl, h1⟩
  | x :: ds, vs, i + 1, d, h, e => by
    obtain ⟨v, r, rfl, _, h2⟩ := h
    obtain ⟨w, e1, r1⟩ := Reps.get (i := i) h2 (by simpa using e)
    exact ⟨w, by simpa using e1, r1⟩
theorem Reps.get' {ds : List D} {vs : List V} {i : Nat} {v : V} (h : Reps K Fr f ds vs) (e : vs[i]? = some v) : ∃ d, ds[i]? = some d ∧ Rep K Fr f d v := by
  have hl := h.length
  have hi : i < vs.length := (List.getElem?_eq_some_iff.mp e).1
  obtain ⟨w, e1, r⟩ := Reps.get (i := i) (d := ds[i]'(by omega)) h (List.getElem?_eq_getElem _)
  rw [e] at e1; cases e1
  exact ⟨_, List.getElem?_eq_getElem (by omega), r⟩
theorem Reps.append : ∀ {ds es : List D} {vs ws : List V}, Reps K Fr f ds vs → Reps K Fr f es ws → Reps K Fr f (ds ++ es) (vs ++ ws)
  | [], es, vs, ws, h, h' => by cases (show vs = [] from h); exact h'
  | d :: ds, es, vs, ws, h, h' => by
    obtain ⟨v, r, rfl, h1, h2⟩ := h
    exact ⟨v, r ++ ws, rfl, h1, Reps.append h2 h'⟩
theorem Reps.take : ∀ {ds : List D} {vs : List V} (n : Nat), Reps K Fr f ds vs → Reps K Fr f (ds.take n) (vs.take n)
  | _, _, 0, _ => rfl
  | [], vs, n + 1, h => by cases (show vs = [] from h); rfl
  | d :: ds, vs, n + 1, h => by
    obtain ⟨v, r, rfl, h1, h2⟩ := h
    exact ⟨v, _, rfl, h1, Reps.take n h2⟩
theorem Reps.drop : ∀ {ds : List D} {vs : List V} (n : Nat), Reps K Fr f ds vs → Reps K Fr f (ds.drop n) (vs.drop n)
  | _, _, 0, h => h
  | [], vs, n + 1, h => by cases (show vs = [] from h); rfl
  | d :: ds, vs, n + 1, h => by
    obtain ⟨v, r, rfl, h1, h2⟩ := h
    exact Reps.drop n h2
theorem Reps.set : ∀ {ds : List D} {vs : List V} {d : D} {v : V} (i : Nat), Rep K Fr f d v → Reps K Fr f ds vs → Reps K Fr f (ds.set i d) (vs.set i v)
  | [], vs, d, v, i, _, h => by cases (show vs = [] from h); rfl
  | x :: ds, vs, d, v, 0, r, h => by
    obtain ⟨w, t, rfl, h1, h2⟩ := h
    exact ⟨v, t, rfl, r, h2⟩
  | x :: ds, vs, d, v, i + 1, r, h => by
    obtain ⟨w, t, rfl, h1, h2⟩ := h
    exact ⟨w, _, rfl, h1, Reps.set i r h2⟩
theorem Reps.reverse : ∀ {ds : List D} {vs : List V}, Reps K Fr f ds vs → Reps K Fr f ds.reverse vs.reverse
  | [], vs, h => by cases (show vs = [] from h); rfl
  | d :: ds, vs, h => by
    obtain ⟨v, r, rfl, h1, h2⟩ := h
    rw [List.reverse_cons, List.reverse_cons]
    exact Reps.append (Reps.reverse h2) ⟨v, [], rfl, h1, rfl⟩
theorem Reps.one {d : D} {vs : List V} (h : Reps K Fr f [d] vs) : ∃ v, vs = [v] ∧ Rep K Fr f d v := by
  obtain ⟨v, r, rfl, h1, h2⟩ := h
  cases (show r = [] from h2)
  exact ⟨v, rfl, h1⟩
theorem Reps.two {d e : D} {vs : List V} (h : Reps K Fr f [d, e] vs) : ∃ v w, vs = [v, w] ∧ Rep K Fr f d v ∧ Rep K Fr f e w := by
  obtain ⟨v, r, rfl, h1, h2⟩ := h
  obtain ⟨w, rfl, h3⟩ := Reps.one h2
  exact ⟨v, w, rfl, h1, h3⟩
theorem Reps.of1 {d : D} {v : V} (h : Rep K Fr f d v) : Reps K Fr f [d] [v] := ⟨v, [], rfl, h, rfl⟩
end

/-- a cell's content at the address a -/
def RepO (K : PySem.W.Frag) (Fr : Hp) (f : List Addr) (a : Addr) : MO → HO → Prop
  | .lst ds, o => ∃ vs, o = .lst vs ∧ Reps K Fr f ds vs
  | .dic kvs, o => ∃ ks, o = .dK ks ∧ ks.map (·.1) = kvs.map (·.1) ∧ Reps K Fr f (kvs.map (·.2)) (ks.map (·.2))
  | .obj C fs, o => ∃ dx gs, o = .ins C dx gs ∧ Fr dx = some (.own a) ∧ gs.map (·.1) = fs.map (·.1) ∧ Reps K Fr f (fs.map (·.2)) (gs.map (·.2))
theorem RepO.mono {K : PySem.W.Frag} {Fr Fr' : Hp} {f f' : List Addr} (hF : Same Fr Fr') (hf : f <+: f') {a : Addr} {m : MO} {o : HO} (h : RepO K Fr f a m o) : RepO K Fr' f' a m o := by
  cases m with
  | lst ds => obtain ⟨vs, e, r⟩ := h; exact ⟨vs, e, Reps.mono hF hf _ _ r⟩
  | dic kvs => obtain ⟨ks, e, k, r⟩ := h; exact ⟨ks, e, k, Reps.mono hF hf _ _ r⟩
  | obj C fs => obtain ⟨dx, gs, e, p, k, r⟩ := h; exact ⟨dx, gs, e, hF _ _ p, k, Reps.mono hF hf _ _ r⟩
theorem RepO.mut {K : PySem.W.Frag} {Fr : Hp} {f : List Addr} {a : Addr} {m : MO} {o : HO} (h : RepO K Fr f a m o) : Mut (some o) := by
  cases m with
  | lst ds => obtain ⟨vs, rfl, r⟩ := h; trivial
  | dic kvs => obtain ⟨ks, rfl, k, r⟩ := h; trivial
  | obj C fs => obtain ⟨dx, gs, rfl, p, k, r⟩ := h; trivial

abbrev Sto := List MO
abbrev Slots := List (Option D)

/-- the store alone; Pr: what else must stay as it is, and no value stands there -/
structure SimC (K : PySem.W.Frag) (Pr Fr : Hp) (f : List Addr) (st : Sto) (H : Hp) : Prop where
  fr : Same Fr H
  pr : Same Pr H
  pF : ∀ a o, Pr a = some o → Fr a = none
  pf : ∀ a o, Pr a = some o → a ∉ f
  nd : f.Nodup
  len : f.length = st.length
  nf : ∀ a ∈ f, Fr a = none
  cell : ∀ (n : Nat) (m : MO) (a : Addr), st[n]? = some m → f[n]? = some a → ∃ o, H a = some o ∧ RepO K Fr f a m o
/-- the slots -/
def RepS (K : PySem.W.Frag) (Fr : Hp) (f : List Addr) : Slots → L2.St → Prop
  | [], σ => σ = []
  | d :: ds, σ => ∃ v r, σ = v :: r ∧ (∀ x, d = some x → ∃ y, v = some y ∧ Rep K Fr f x y) ∧ RepS K Fr f ds r
structure Sim (K : PySem.W.Frag) (Pr Fr : Hp) (f : List Addr) (env : Slots) (st : Sto) (σ : L2.St) (H : Hp) : Prop extends SimC K Pr Fr f st H where
  env : RepS K Fr f env σ

section
variable {K : PySem.W.Frag} {Pr Fr Fr' : Hp} {f f' : List Addr} {st : Sto} {H H' : Hp} {σ : L2.St}
theorem RepS.mono (hF : Same Fr Fr') (hf : f <+: f') : ∀ {env : Slots} {σ : L2.St}, RepS K Fr f env σ → RepS K Fr' f' env σ
  | [], _, h => h
  | d :: ds, _, h => by
    obtain ⟨v, r, e, h1, h2⟩ := h
    exact ⟨v, r, e, fun x ex => let ⟨y, e1, r1⟩ := h1 x ex; ⟨y, e1, Rep.mono hF hf _ _ r1⟩, RepS.mono hF hf h2⟩
theorem RepS.get : ∀ {env : Slots} {σ : L2.St} {i : Nat} {x : D}, RepS K Fr f env σ → env[i]? = some (some x) → ∃ y, σ[i]? = some (some y) ∧ Rep K Fr f x y
  | [], σ, i, x, _, e => by simp at e
  | d :: ds, σ, 0, x, h, e => by
    obtain ⟨v, r, rfl, h1, _⟩ := h
    simp at e
    obtain ⟨y, e1, r1⟩ := h1 x e
    exact ⟨y, by simp [e1], r1⟩
  | d :: ds, σ, i + 1, x, h, e => by
    obtain ⟨v, r, rfl, _, h2⟩ := h
    obtain ⟨y, e1, r1⟩ := RepS.get (i := i) h2 (by simpa using e)
    exact ⟨y, by simpa using e1, r1⟩
theorem RepS.set : ∀ {env : Slots} {σ : L2.St} {x : D} {y : V} (i : Nat), Rep K Fr f x y → RepS K Fr f env σ → RepS K Fr f (env.set i (some x)) (σ.set i (some y))
  | [], σ, x, y, i, _, h => by cases (show σ = [] from h); rfl
  | d :: ds, σ, x, y, 0, r, h => by
    obtain ⟨v, t, rfl, h1, h2⟩ := h
    exact ⟨some y, t, rfl, fun z e => by cases e; exact ⟨y, rfl, r⟩, h2⟩
  | d :: ds, σ, x, y, i + 1, r, h => by
    obtain ⟨v, t, rfl, h1, h2⟩ := h
    exact ⟨v, _, rfl, h1, RepS.set i r h2⟩
theorem RepS.unset : ∀ {env : Slots} {σ : L2.St} (i : Nat), RepS K Fr f env σ → RepS K Fr f (env.set i none) (σ.set i none)
  | [], σ, i, h => by cases (show σ = [] from h); rfl
  | d :: ds, σ, 0, h => by
    obtain ⟨v, t, rfl, h1, h2⟩ := h
    exact ⟨none, t, rfl, (fun z e => by cases e), h2⟩
  | d :: ds, σ, i + 1, h => by
    obtain ⟨v, t, rfl, h1, h2⟩ := h
    exact ⟨v, _, rfl, h1, RepS.unset i h2⟩
theorem RepS.length : ∀ {env : Slots} {σ : L2.St}, RepS K Fr f env σ → env.length = σ.length
  | [], σ, h => by cases (show σ = [] from h); rfl
  | d :: ds, σ, h => by
    obtain ⟨v, t, rfl, h1, h2⟩ := h
    simp [RepS.length h2]

/-- a cell -/
theorem SimC.at (S : SimC K Pr Fr f st H) {n : Nat} {m : MO} (e : st[n]? = some m) : ∃ a o, f[n]? = some a ∧ H a = some o ∧ RepO K Fr f a m o := by
  have hn : n < st.length := (List.getElem?_eq_some_iff.mp e).1
  have hf : n < f.length := by rw [S.len]; exact hn
  have ef : f[n]? = some f[n] := List.getElem?_eq_getElem hf
  obtain ⟨o, h1, h2⟩ := S.cell n m _ e ef
  exact ⟨_, o, ef, h1, h2⟩
theorem SimC.lst (S : SimC K Pr Fr f st H) {n : Nat} {ds : List D} (e : st[n]? = some (.lst ds)) : ∃ a vs, f[n]? = some a ∧ H a = some (.lst vs) ∧ Reps K Fr f ds vs := by
  obtain ⟨a, o, h1, h2, vs, rfl, r⟩ := S.at e
  exact ⟨a, vs, h1, h2, r⟩
theorem SimC.dic (S : SimC K Pr Fr f st H) {n : Nat} {kvs : List (Key × D)} (e : st[n]? = some (.dic kvs)) : ∃ a ks, f[n]? = some a ∧ H a = some (.dK ks) ∧ ks.map (·.1) = kvs.map (·.1) ∧ Reps K Fr f (kvs.map (·.2)) (ks.map (·.2)) := by
  obtain ⟨a, o, h1, h2, vs, rfl, r⟩ := S.at e
  exact ⟨a, vs, h1, h2, r⟩
theorem get_inj {f : List Addr} (nd : f.Nodup) {i j : Nat} {a : Addr} (h1 : f[i]? = some a) (h2 : f[j]? = some a) : i = j := by
  obtain ⟨l1, e1⟩ := List.getElem?_eq_some_iff.mp h1
  obtain ⟨l2, e2⟩ := List.getElem?_eq_some_iff.mp h2
  exact (List.getElem_inj nd).mp (e1.trans e2.symm)
/-- a cell is written -/
theorem SimC.write (S : SimC K Pr Fr f st H) {n : Nat} {a : Addr} {m : MO} {o : HO} (ef : f[n]? = some a) (r : RepO K Fr f a m o) : SimC K Pr Fr f (st.set n m) (upd H a o) where
  fr := fun b u e => by
    rw [upd_ne]
    · exact S.fr b u e
    · intro z; subst z
      rw [S.nf _ (List.mem_of_getElem? ef)] at e; cases e
  pr := fun b u e => by
    rw [upd_ne]
    · exact S.pr b u e
    · intro z; subst z
      exact S.pf _ _ e (List.mem_of_getElem? ef)
  pF := S.pF
  pf := S.pf
  nd := S.nd
  len := by rw [S.len, List.length_set]
  nf := S.nf
  cell := fun k m' b e1 e2 => by
    by_cases hk : k = n
    · subst hk
      rw [ef] at e2; cases e2
      have hn : k < st.length := by rw [← S.len]; exact (List.getElem?_eq_some_iff.mp ef).1
      rw [List.getElem?_set_self hn] at e1
      cases e1
      exact ⟨o, upd_same, r⟩
    · rw [List.getElem?_set_ne (Ne.symm hk)] at e1
      obtain ⟨o', h1, h2⟩ := S.cell k m' b e1 e2
      refine ⟨o', ?_, h2⟩
      rw [upd_ne]
      · exact h1
      · intro z; subst z
        exact hk (get_inj S.nd e2 ef)
/-- something new is laid and never changes -/
theorem SimC.lay (S : SimC K Pr Fr f st H) {p : Addr} {o : HO} (hp : H p = none) : SimC K Pr (upd Fr p o) f st (upd H p o) ∧ Same Fr (upd Fr p o) := by
  have hFp : Fr p = none := S.fr.free hp
  have sm : Same Fr (upd Fr p o) := fun b u e => by rw [upd_ne (ne_of_none e hFp)]; exact e
  refine ⟨⟨fun b u e => ?_, fun b u e => ?_, fun b u e => ?_, S.pf, S.nd, S.len, fun a ha => ?_, fun n m a e1 e2 => ?_⟩, sm⟩
  · by_cases hb : b = p
    · subst hb; rw [upd_same] at e ⊢; exact e
    · rw [upd_ne hb] at e ⊢; exact S.fr b u e
  · rw [upd_ne (ne_of_none (S.pr b u e) hp)]; exact S.pr b u e
  · rw [upd_ne (ne_of_none (S.pr b u e) hp)]; exact S.pF b u e
  · rw [upd_ne]
    · exact S.nf a ha
    · intro z; subst z
      obtain ⟨n, hn, e⟩ := List.getElem_of_mem ha
      obtain ⟨b, o', h1, h2, _⟩ := S.at (n := n) (List.getElem?_eq_getElem (by rw [← S.len]; exact hn))
      rw [List.getElem?_eq_getElem hn, e] at h1
      cases h1
      rw [hp] at h2; cases h2
  · obtain ⟨o', h1, h2⟩ := S.cell n m a e1 e2
    exact ⟨o', by rw [upd_ne (ne_of_none h1 hp)]; exact h1, h2.mono sm (List.prefix_refl _)⟩
/-- what stands and nobody holds is frozen -/
theorem SimC.freeze (S : SimC K Pr Fr f st H) {p : Addr} {o : HO} (hp : H p = some o) (hF : Fr p = none) (hP : Pr p = none) (hn : p ∉ f) : SimC K Pr (upd Fr p o) f st H ∧ Same Fr (upd Fr p o) := by
  have sm : Same Fr (upd Fr p o) := fun b u e => by rw [upd_ne (ne_of_none e hF)]; exact e
  refine ⟨⟨fun b u e => ?_, S.pr, fun b u e => ?_, S.pf, S.nd, S.len, fun a ha => ?_, fun n m a e1 e2 => ?_⟩, sm⟩
  · by_cases hb : b = p
    · subst hb; rw [upd_same] at e; cases e; exact hp
    · rw [upd_ne hb] at e; exact S.fr b u e
  · rw [upd_ne (ne_of_none e hP)]; exact S.pF b u e
  · rw [upd_ne]
    · exact S.nf a ha
    · intro z; subst z; exact hn ha
  · obtain ⟨o', h1, h2⟩ := S.cell n m a e1 e2
    exact ⟨o', h1, h2.mono sm (List.prefix_refl _)⟩
/-- .. becomes a cell -/
theorem SimC.box (S : SimC K Pr Fr f st H) {p : Addr} {o : HO} {m : MO} (hp : H p = some o) (hF : Fr p = none) (hP : Pr p = none) (hn : p ∉ f) (r : RepO K Fr f p m o) : SimC K Pr Fr (f ++ [p]) (st ++ [m]) H where
  fr := S.fr
  pr := S.pr
  pF := S.pF
  pf := fun a u e ha => by
    rcases List.mem_append.mp ha with h | h
    · exact S.pf a u e h
    · have : a = p := by simpa using h
      subst this; rw [hP] at e; cases e
  nd := by
    rw [List.nodup_append]
    exact ⟨S.nd, by simp, fun a ha b hb => by
      have : b = p := by simpa using hb
      subst this
      intro z; subst z; exact hn ha⟩
  len := by simp [S.len]
  nf := fun a ha => by
    rcases List.mem_append.mp ha with h | h
    · exact S.nf a h
    · have : a = p := by simpa using h
      subst this; exact hF
  cell := fun n m' a e1 e2 => by
    by_cases hn : n < st.length
    · rw [List.getElem?_append_left hn] at e1
      rw [List.getElem?_append_left (by rw [S.len]; exact hn)] at e2
      obtain ⟨o', h1, h2⟩ := S.cell n m' a e1 e2
      exact ⟨o', h1, h2.mono (Same.refl _) (List.prefix_append _ _)⟩
    · have hn' : n = st.length := by
        have := (List.getElem?_eq_some_iff.mp e1).1
        simp at this
        omega
      subst hn'
      rw [List.getElem?_append_right (Nat.le_refl _)] at e1
      rw [← S.len, List.getElem?_append_right (Nat.le_refl _)] at e2
      simp at e1 e2
      subst e1 e2
      exact ⟨o, hp, r.mono (Same.refl _) (List.prefix_append _ _)⟩
/-- another object, neither frozen nor a cell, is laid or changed -/
theorem SimC.other (S : SimC K Pr Fr f st H) {p : Addr} {o : HO} (hF : Fr p = none) (hP : Pr p = none) (hn : p ∉ f) : SimC K Pr Fr f st (upd H p o) where
  fr := fun b u e => by rw [upd_ne (ne_of_none e hF)]; exact S.fr b u e
  pr := fun b u e => by rw [upd_ne (ne_of_none e hP)]; exact S.pr b u e
  pF := S.pF
  pf := S.pf
  nd := S.nd
  len := S.len
  nf := S.nf
  cell := fun n m a e1 e2 => by
    obtain ⟨o', h1, h2⟩ := S.cell n m a e1 e2
    refine ⟨o', ?_, h2⟩
    rw [upd_ne]
    · exact h1
    · intro z; subst z; exact hn (List.mem_of_getElem? e2)
theorem SimC.notCell (S : SimC K Pr Fr f st H) {p : Addr} (hp : H p = none) : p ∉ f := fun ha => by
  obtain ⟨n, hn, e⟩ := List.getElem_of_mem ha
  obtain ⟨b, o', h1, h2, _⟩ := S.at (n := n) (List.getElem?_eq_getElem (by rw [← S.len]; exact hn))
  rw [List.getElem?_eq_getElem hn, e] at h1
  cases h1
  rw [hp] at h2; cases h2
end
end DW

/-! DW2: what an expression does to data, and how it is lifted to the layer's readings. -/
namespace DW
open PySem PySem.Spec PyProof.Rows L2

abbrev EdT := Addr → Slots → Sto → Prop
abbrev DE := EdT → Slots → Sto → (D → Sto → Prop) → Prop
abbrev DT := EdT → Slots → Sto → (Bool → Sto → Prop) → Prop
abbrev DA := EdT → Slots → Sto → (List D → Sto → Prop) → Prop
abbrev DO := EdT → Slots → Sto → (Option Int → Sto → Prop) → Prop
abbrev noEd : EdT := fun _ _ _ => False
abbrev noW : WX := fun _ _ _ _ => False

def RepX (K : PySem.W.Frag) (Pr Fr : Hp) (f : List Addr) (H : Hp) : D → V → Prop
  | .tl ds, v => ∃ a vs, v = .ref a ∧ H a = some (.lst vs) ∧ Fr a = none ∧ Pr a = none ∧ a ∉ f ∧ Reps K Fr f ds vs
  | .td ks ds, v => ∃ a kvs, v = .ref a ∧ H a = some (.dK kvs) ∧ Fr a = none ∧ Pr a = none ∧ a ∉ f ∧ kvs.map (·.1) = ks ∧ Reps K Fr f ds (kvs.map (·.2))
  | d, v => Rep K Fr f d v
@[reducible] def frz : D → D
  | .tl ds => .fl ds
  | .td ks ds => .fd ks ds
  | d => d

section
variable {K : PySem.W.Frag} {Pr Fr Fr' : Hp} {f f' : List Addr} {st : Sto} {H H' : Hp} {σ : L2.St} {env : Slots}
theorem RepX.of {d : D} {v : V} (r : Rep K Fr f d v) : RepX K Pr Fr f H d v := by
  cases d <;> first | exact r | exact (show False from r).elim
theorem RepX.frz (S : SimC K Pr Fr f st H) {d : D} {v : V} (r : RepX K Pr Fr f H d v) : ∃ Fr', SimC K Pr Fr' f st H ∧ Same Fr Fr' ∧ Rep K Fr' f (frz d) v := by
  cases d with
  | tl ds =>
    obtain ⟨a, vs, rfl, h1, h2, h3, h4, r⟩ := r
    obtain ⟨S', sm⟩ := S.freeze h1 h2 h3 h4
    exact ⟨_, S', sm, a, vs, rfl, upd_same, Reps.mono sm (List.prefix_refl _) _ _ r⟩
  | td ks ds =>
    obtain ⟨a, kvs, rfl, h1, h2, h3, h4, e, r⟩ := r
    obtain ⟨S', sm⟩ := S.freeze h1 h2 h3 h4
    exact ⟨_, S', sm, a, kvs, rfl, upd_same, e, Reps.mono sm (List.prefix_refl _) _ _ r⟩
  | _ => exact ⟨Fr, S, Same.refl _, r⟩
theorem Sim.up (S : Sim K Pr Fr f env st σ H) {st' : Sto} (hF : Same Fr Fr') (hf : f <+: f') (C : SimC K Pr Fr' f' st' H') : Sim K Pr Fr' f' env st' σ H' :=
  ⟨C, RepS.mono hF hf S.env⟩
theorem SimC.frL (S : SimC K Pr Fr f st H) {a : Addr} {vs : List V} (h : SqL K Fr a vs) : SqL K H a vs := S.fr.seq h
theorem SimC.frT (S : SimC K Pr Fr f st H) {a : Addr} {vs : List V} (h : SqT K Fr a vs) : SqT K H a vs := Same.seqT S.fr h
end

/-- a new container becomes a cell -/
def box (st : Sto) : D → D × Sto
  | .tl ds => (.ref st.length, st ++ [.lst ds])
  | .td ks ds => (.ref st.length, st ++ [.dic (ks.zip ds)])
  | d => (d, st)
/-- what is held: a cell (bx) or frozen -/
@[reducible] def keep (bx : Bool) (st : Sto) (x : D) : D × Sto := if bx = true then box st x else (frz x, st)
theorem RepX.box {K : PySem.W.Frag} {Fr : Hp} {f : List Addr} {st : Sto} {H : Hp} (S : SimC K Pr Fr f st H) {d : D} {v : V} (r : RepX K Pr Fr f H d v) : ∃ f', f <+: f' ∧ SimC K Pr Fr f' (box st d).2 H ∧ Rep K Fr f' (box st d).1 v := by
  cases d with
  | tl ds =>
    obtain ⟨a, vs, rfl, h1, h2, h3, h4, r⟩ := r
    refine ⟨f ++ [a], List.prefix_append _ _, S.box (m := .lst ds) h1 h2 h3 h4 ⟨vs, rfl, r⟩, a, ?_, rfl⟩
    rw [← S.len, List.getElem?_append_right (Nat.le_refl _)]
    simp
  | td ks ds =>
    obtain ⟨a, kvs, rfl, h1, h2, h3, h4, e, r⟩ := r
    have hl := r.length
    have hl2 := congrArg List.length e
    simp only [List.length_map] at hl hl2
    refine ⟨f ++ [a], List.prefix_append _ _, S.box (m := .dic (ks.zip ds)) h1 h2 h3 h4 ⟨kvs, rfl, ?_, ?_⟩, a, ?_, rfl⟩
    · rw [List.map_fst_zip (by omega), e]
    · rw [List.map_snd_zip (by omega)]; exact r
    · rw [← S.len, List.getElem?_append_right (Nat.le_refl _)]
      simp
  | _ => exact ⟨f, List.prefix_refl _, S, r⟩
theorem RepX.keep {K : PySem.W.Frag} {Fr : Hp} {f : List Addr} {st : Sto} {H : Hp} (bx : Bool) (S : SimC K Pr Fr f st H) {d : D} {v : V} (r : RepX K Pr Fr f H d v) : ∃ Fr' f', Same Fr Fr' ∧ f <+: f' ∧ SimC K Pr Fr' f' (keep bx st d).2 H ∧ Rep K Fr' f' (keep bx st d).1 v := by
  cases bx with
  | true =>
    obtain ⟨f', p, S', r'⟩ := r.box S
    exact ⟨Fr, f', Same.refl _, p, S', r'⟩
  | false =>
    obtain ⟨Fr', S', s, r'⟩ := r.frz S
    exact ⟨Fr', f, s, List.prefix_refl _, S', r'⟩
theorem keep_false (st : Sto) (x : D) : keep false st x = (frz x, st) := rfl
theorem keep_true (st : Sto) (x : D) : keep true st x = box st x := rfl

/-- a state of the data stands in the layer's state, and what is wished of exceptions is granted -/
structure At (K : PySem.W.Frag) (W : WX) (Ed : EdT) (Pr Fr : Hp) (f : List Addr) (env : Slots) (st : Sto) (σ : L2.St) (H : Hp) : Prop extends Sim K Pr Fr f env st σ H where
  exn : ∀ C env' st' Fr' f' σ' H', Same Fr Fr' → f <+: f' → Sim K Pr Fr' f' env' st' σ' H' → Ed C env' st' → W (.ref C) none σ' H'
theorem At.up {K : PySem.W.Frag} {W : WX} {Ed : EdT} {Pr Fr Fr' : Hp} {f f' : List Addr} {env env' : Slots} {st st' : Sto} {σ σ' : L2.St} {H H' : Hp} (A : At K W Ed Pr Fr f env st σ H) (hF : Same Fr Fr') (hf : f <+: f')
    (S : Sim K Pr Fr' f' env' st' σ' H') : At K W Ed Pr Fr' f' env' st' σ' H' :=
  ⟨S, fun C e s Fr2 f2 σ2 H2 h1 h2 => A.exn C e s Fr2 f2 σ2 H2 (hF.trans h1) (hf.trans h2)⟩

section
variable (K : PySem.W.Frag) (W : WX)
def liftE (d : DE) : TE := fun σ H Q => ∃ Ed Pr Fr f env st Q0, At K W Ed Pr Fr f env st σ H ∧ d Ed env st Q0 ∧
  ∀ x st', Q0 x st' → ∀ v Fr' f' H', Same Fr Fr' → f <+: f' → Sim K Pr Fr' f' env st' σ H' → RepX K Pr Fr' f' H' x v → Q v H'
def liftT (d : DT) : TT := fun σ H Q => ∃ Ed Pr Fr f env st Q0, At K W Ed Pr Fr f env st σ H ∧ d Ed env st Q0 ∧
  ∀ x st', Q0 x st' → ∀ Fr' f' H', Same Fr Fr' → f <+: f' → Sim K Pr Fr' f' env st' σ H' → Q x H'
def liftA (d : DA) : TA := fun σ H Q => ∃ Ed Pr Fr f env st Q0, At K W Ed Pr Fr f env st σ H ∧ d Ed env st Q0 ∧
  ∀ xs st', Q0 xs st' → ∀ vs Fr' f' H', Same Fr Fr' → f <+: f' → Sim K Pr Fr' f' env st' σ H' → Reps K Fr' f' xs vs → Q vs H'
def liftO (d : DO) : TO := fun σ H Q => ∃ Ed Pr Fr f env st Q0, At K W Ed Pr Fr f env st σ H ∧ d Ed env st Q0 ∧
  ∀ x st', Q0 x st' → ∀ Fr' f' H', Same Fr Fr' → f <+: f' → Sim K Pr Fr' f' env st' σ H' → Q x H'
end

section
variable {X : Cx} {e : Expr} {es : List Expr}
theorem PEimp {t t' : TE} (h : PE X e t) (i : ∀ σ H Q, t' σ H Q → t σ H Q) : PE X e t' := ⟨fun pins s σ H Q I q => h.run pins s σ H Q I (i σ H Q q)⟩
theorem PTimp {t t' : TT} (h : PT X e t) (i : ∀ σ H Q, t' σ H Q → t σ H Q) : PT X e t' := ⟨fun pins s σ H Q I q => h.run pins s σ H Q I (i σ H Q q)⟩
theorem PWimp {t t' : TT} (h : PW X e t) (i : ∀ σ H Q, t' σ H Q → t σ H Q) : PW X e t' := ⟨fun w pins s σ H Q I q => h.run w pins s σ H Q I (i σ H Q q)⟩
theorem PAimp {t t' : TA} (h : PA X es t) (i : ∀ σ H Q, t' σ H Q → t σ H Q) : PA X es t' := ⟨fun p pins s σ H Q I q => h.run p pins s σ H Q I (i σ H Q q)⟩
theorem PSimp {s : Stmt} {t t' : TS} (h : PS X s t) (i : ∀ D σ H, t' D σ H → t D σ H) : PS X s t' := ⟨fun pins s σ H D I q => h.run pins s σ H D I (i D σ H q)⟩
theorem PSsimp {s : List Stmt} {t t' : TS} (h : PSs X s t) (i : ∀ D σ H, t' D σ H → t D σ H) : PSs X s t' := ⟨fun pins s σ H D I q => h.run pins s σ H D I (i D σ H q)⟩
end

/-! ### names, constants -/
def dVar (i : Nat) : DE := fun _ env st Q => match env[i]? with
  | some (some x) => Q x st
  | _ => False
def dC (x : D) : DE := fun _ _ st Q => Q x st

section
variable {X : Cx} {W : WX} {pos : Pos}
end
section
variable {X : Cx} {W : WX} {pos : Pos}
theorem de_var {i : Nat} {x : Str} (h : PE X (.Name x pos) (tVar i)) : PE X (.Name x pos) (liftE X.K W (dVar i)) := PEimp h fun σ H Q q => by
  obtain ⟨Ed, Pr, Fr, f, env, st, Q0, A, d, k⟩ := q
  unfold dVar at d
  split at d
  · rename_i x e
    obtain ⟨y, e1, r⟩ := RepS.get A.env e
    exact ⟨y, e1, k x st d y Fr f H (Same.refl _) (List.prefix_refl _) A.toSim (.of r)⟩
  · exact d.elim
/-- what a value that needs no heap stands for -/
def plainD : V → Option D
  | .non => some .non
  | .bl b => some (.bl b)
  | .int i => some (.int i)
  | .str x => some (.str x)
  | .ref a => some (.con a)
  | .ty n => some (.ty n)
  | _ => none
theorem de_c {e : Expr} {v : V} {x : D} (h : PE X e (tC v)) (hx : plainD v = some x := by rfl) : PE X e (liftE X.K W (dC x)) := PEimp h fun σ H Q q => by
  obtain ⟨Ed, Pr, Fr, f, env, st, Q0, A, d, k⟩ := q
  refine k x st d v Fr f H (Same.refl _) (List.prefix_refl _) A.toSim ?_
  cases v <;> first | (cases hx; exact rfl) | exact nomatch hx
end

/-! ### sequences -/
def lisOf (st : Sto) : D → Option (List D)
  | .fl ds => some ds
  | .ref n => match st[n]? with
    | some (.lst ds) => some ds
    | _ => none
  | _ => none
def seqOf (st : Sto) : D → Option (List D)
  | .tup ds => some ds
  | .sl ds => some ds
  | d => lisOf st d
section
variable {K : PySem.W.Frag} {Pr Fr Fr' : Hp} {f f' : List Addr} {st : Sto} {H H' : Hp} {σ : L2.St} {env : Slots}
theorem listOf_rep (S : SimC K Pr Fr f st H) {d : D} {v : V} {ds : List D} (e : lisOf st d = some ds) (r : Rep K Fr f d v) : ∃ a vs, v = .ref a ∧ H a = some (.lst vs) ∧ Reps K Fr f ds vs := by
  unfold lisOf at e
  split at e
  · cases e
    obtain ⟨a, vs, rfl, h1, r⟩ := r
    exact ⟨a, vs, rfl, S.fr _ _ h1, r⟩
  · obtain ⟨a, h1, rfl⟩ := r
    split at e
    · rename_i e1
      cases e
      obtain ⟨b, vs, h2, h3, r⟩ := S.lst e1
      rw [h1] at h2; cases h2
      exact ⟨a, vs, rfl, h3, r⟩
    · cases e
  · cases e
theorem seqOf_rep (S : SimC K Pr Fr f st H) {d : D} {v : V} {ds : List D} (e : seqOf st d = some ds) (r : Rep K Fr f d v) : ∃ a vs, v = .ref a ∧ (SqL K H a vs ∨ SqT K H a vs) ∧ Reps K Fr f ds vs := by
  unfold seqOf at e
  split at e
  · cases e
    obtain ⟨a, vs, rfl, h1, r⟩ := r
    exact ⟨a, vs, rfl, .inr (S.frT h1), r⟩
  · cases e
    obtain ⟨a, vs, rfl, h1, r⟩ := r
    exact ⟨a, vs, rfl, .inl (S.frL h1), r⟩
  · obtain ⟨a, vs, rfl, h1, r⟩ := listOf_rep S e r
    exact ⟨a, vs, rfl, .inl (.inl (.inl h1)), r⟩
end

/-! ### two-place operations -/
/-- an operation on values does what op does on data -/
def OpD (K : PySem.W.Frag) (r : R2) (op : Sto → D → D → (D → Prop) → Prop) : Prop :=
  ∀ (Pr Fr : Hp) (f : List Addr) (st : Sto) (H : Hp) (x y : D) (v u : V) (k : D → Prop) (Q : VK), SimC K Pr Fr f st H → Rep K Fr f x v → Rep K Fr f y u → op st x y k →
    (∀ z w Fr' H', k z → Same Fr Fr' → SimC K Pr Fr' f st H' → RepX K Pr Fr' f H' z w → Q w H') → r v u H Q
def dOp (op : Sto → D → D → (D → Prop) → Prop) (da db : DE) : DE := fun Ed env st Q => da Ed env st fun x st1 => db Ed env st1 fun y st2 => op st2 (frz x) (frz y) fun z => Q z st2
/-- two expressions in a row, both frozen -/
theorem lift2 {K : PySem.W.Frag} {W : WX} {da db : DE} {σ : L2.St} {H : Hp} {Ed : EdT} {Fr : Hp} {f : List Addr} {env : Slots} {st : Sto} {R : D → D → Sto → Prop} {Q : V → V → Hp → Prop} (A : At K W Ed Pr Fr f env st σ H)
    (h : da Ed env st fun x st1 => db Ed env st1 fun y st2 => R (frz x) (frz y) st2)
    (k : ∀ x y st2 v u Fr' f' H', R x y st2 → Same Fr Fr' → f <+: f' → Sim K Pr Fr' f' env st2 σ H' → Rep K Fr' f' x v → Rep K Fr' f' y u → Q v u H') :
    liftE K W da σ H fun v H1 => liftE K W db σ H1 fun u H2 => Q v u H2 := by
  refine ⟨Ed, Pr, Fr, f, env, st, _, A, h, fun x st1 h1 v Fr1 f1 H1 s1 p1 S1 r1 => ?_⟩
  obtain ⟨Fr2, C2, s2, r2⟩ := r1.frz S1.toSimC
  have A2 := A.up (s1.trans s2) p1 (S1.up s2 (List.prefix_refl _) C2)
  refine ⟨Ed, Pr, Fr2, f1, env, st1, _, A2, h1, fun y st2 h2 u Fr3 f3 H3 s3 p3 S3 r3 => ?_⟩
  obtain ⟨Fr4, C4, s4, r4⟩ := r3.frz S3.toSimC
  exact k _ _ _ _ _ _ _ _ h2 (((s1.trans s2).trans s3).trans s4) (p1.trans p3) (S3.up s4 (List.prefix_refl _) C4) (Rep.mono (s3.trans s4) p3 _ _ r2) r4
theorem lift1 {K : PySem.W.Frag} {W : WX} {da : DE} {σ : L2.St} {H : Hp} {Ed : EdT} {Fr : Hp} {f : List Addr} {env : Slots} {st : Sto} {R : D → Sto → Prop} {Q : V → Hp → Prop} (A : At K W Ed Pr Fr f env st σ H)
    (h : da Ed env st fun x st1 => R (frz x) st1)
    (k : ∀ x st1 v Fr' f' H', R x st1 → Same Fr Fr' → f <+: f' → Sim K Pr Fr' f' env st1 σ H' → Rep K Fr' f' x v → Q v H') :
    liftE K W da σ H Q := by
  refine ⟨Ed, Pr, Fr, f, env, st, _, A, h, fun x st1 h1 v Fr1 f1 H1 s1 p1 S1 r1 => ?_⟩
  obtain ⟨Fr2, C2, s2, r2⟩ := r1.frz S1.toSimC
  exact k _ _ _ _ _ _ h1 (s1.trans s2) p1 (S1.up s2 (List.prefix_refl _) C2) r2
theorem lift_op {K : PySem.W.Frag} {W : WX} {r : R2} {op : Sto → D → D → (D → Prop) → Prop} {da db : DE} (ho : OpD K r op) (σ : L2.St) (H : Hp) (Q : VK) (q : liftE K W (dOp op da db) σ H Q) : tOp r (liftE K W da) (liftE K W db) σ H Q := by
  obtain ⟨Ed, Pr, Fr, f, env, st, Q0, A, d, k⟩ := q
  refine lift2 (R := fun x y st2 => op st2 x y fun z => Q0 z st2) A d fun x y st2 v u Fr' f' H' h s p S r1 r2 => ?_
  exact ho Pr Fr' f' st2 H' x y v u _ Q S.toSimC r1 r2 h fun z w Fr2 H2 hz s2 C2 rz => k z st2 hz w Fr2 f' H2 (s.trans s2) p (S.up s2 (List.prefix_refl _) C2) rz

theorem OpD.or {K : PySem.W.Frag} {r r' : R2} {op : Sto → D → D → (D → Prop) → Prop} (h : ∀ st x y k, op st x y k → (∃ o, OpD K r o ∧ o st x y k) ∨ ∃ o, OpD K r' o ∧ o st x y k) : OpD K (fun x y H Q => r x y H Q ∨ r' x y H Q) op := by
  intro Pr Fr f st H x y v u k Q S r1 r2 o q
  rcases h st x y k o with ⟨o', h1, h2⟩ | ⟨o', h1, h2⟩
  · exact .inl (h1 Pr Fr f st H x y v u k Q S r1 r2 h2 q)
  · exact .inr (h1 Pr Fr f st H x y v u k Q S r1 r2 h2 q)
end DW

/-! DW3: the operations. -/
namespace DW
open PySem PySem.Spec PyProof.Rows L2

section
variable {K : PySem.W.Frag} {Fr Fr' : Hp} {f f' : List Addr} {st : Sto} {H H' : Hp} {σ : L2.St} {env : Slots}
theorem lay_tup (S : SimC K Pr Fr f st H) {p : Addr} {ds : List D} {vs : List V} (hp : H p = none) (r : Reps K Fr f ds vs) :
    Same Fr (upd Fr p (.tup vs)) ∧ SimC K Pr (upd Fr p (.tup vs)) f st (upd H p (.tup vs)) ∧ RepX K Pr (upd Fr p (.tup vs)) f (upd H p (.tup vs)) (.tup ds) (.ref p) := by
  obtain ⟨S', sm⟩ := S.lay (o := .tup vs) hp
  exact ⟨sm, S', p, vs, rfl, .inl (.inl upd_same), Reps.mono sm (List.prefix_refl _) _ _ r⟩
theorem lay_lst (S : SimC K Pr Fr f st H) {p : Addr} {ds : List D} {vs : List V} (hp : H p = none) (r : Reps K Fr f ds vs) :
    SimC K Pr Fr f st (upd H p (.lst vs)) ∧ RepX K Pr Fr f (upd H p (.lst vs)) (.tl ds) (.ref p) :=
  ⟨S.other (S.fr.free hp) (S.pr.free hp) (S.notCell hp), p, vs, rfl, upd_same, S.fr.free hp, S.pr.free hp, S.notCell hp, r⟩
theorem lay_dic (S : SimC K Pr Fr f st H) {p : Addr} {ks : List Key} {ds : List D} {kvs : List (Key × V)} (hp : H p = none) (e : kvs.map (·.1) = ks) (r : Reps K Fr f ds (kvs.map (·.2))) :
    SimC K Pr Fr f st (upd H p (.dK kvs)) ∧ RepX K Pr Fr f (upd H p (.dK kvs)) (.td ks ds) (.ref p) :=
  ⟨S.other (S.fr.free hp) (S.pr.free hp) (S.notCell hp), p, kvs, rfl, upd_same, S.fr.free hp, S.pr.free hp, S.notCell hp, e, r⟩
end

/-! ### + - * // % -/
def rAddAny (K : PySem.W.Frag) : R2 := fun x y H Q => rI0 (fun i j => .int (i + j)) x y H Q ∨ (fun x y H Q => ∃ i j, x = V.str i ∧ y = V.str j ∧ i.length + j.length ≤ sizeLine ∧ Q (.str (i ++ j)) H) x y H Q ∨ rCatA K x y H Q ∨ rCat x y H Q
theorem or_add {X : Cx} : OpR X (binaryOp .Add) (rAddAny X.K) := op_add.or (op_add_str.or (op_catA.or op_cat))
def opAdd : Sto → D → D → (D → Prop) → Prop := fun st x y k => match x, y with
  | .int i, .int j => k (.int (i + j))
  | .str a, .str b => a.length + b.length ≤ sizeLine ∧ k (.str (a ++ b))
  | .tup a, .tup b => a.length + b.length ≤ sizeLine ∧ k (.tup (a ++ b))
  | x, y => match lisOf st x, lisOf st y with
    | some a, some b => a.length + b.length ≤ sizeLine ∧ k (.tl (a ++ b))
    | _, _ => False
theorem od_add {K : PySem.W.Frag} : OpD K (rAddAny K) opAdd := by
  intro Pr Fr f st H x y v u k Q S r1 r2 o q
  unfold opAdd at o
  split at o
  · cases (show v = _ from r1); cases (show u = _ from r2)
    exact .inl ⟨_, _, rfl, rfl, q _ _ Fr H o (Same.refl _) S rfl⟩
  · cases (show v = _ from r1); cases (show u = _ from r2)
    exact .inr (.inl ⟨_, _, rfl, rfl, o.1, q _ _ Fr H o.2 (Same.refl _) S rfl⟩)
  · obtain ⟨a, xs, rfl, h1, r1⟩ := r1
    obtain ⟨b, ys, rfl, h2, r2⟩ := r2
    refine .inr (.inr (.inl ⟨a, b, xs, ys, rfl, rfl, S.frT h1, S.frT h2, by rw [← r1.length, ← r2.length]; exact o.1, fun e => ?_, fun _ e => ?_, fun _ _ p hp => ?_⟩))
    · subst e
      rename_i a1 b1
      have e : a1 = [] := List.eq_nil_of_length_eq_zero r1.length
      subst e
      exact q _ _ Fr H o.2 (Same.refl _) S ⟨b, ys, rfl, h2, r2⟩
    · subst e
      rename_i a1 b1 _
      have e : b1 = [] := List.eq_nil_of_length_eq_zero r2.length
      subst e
      exact q _ _ Fr H o.2 (Same.refl _) S ⟨a, xs, rfl, h1, by rw [List.append_nil]; exact r1⟩
    · obtain ⟨sm, S', rx⟩ := lay_tup S hp (r1.append r2)
      exact q _ _ _ _ o.2 sm S' rx
  · split at o
    · rename_i a b e1 e2
      obtain ⟨p1, xs, rfl, h1, r1⟩ := listOf_rep S e1 r1
      obtain ⟨p2, ys, rfl, h2, r2⟩ := listOf_rep S e2 r2
      refine .inr (.inr (.inr ⟨p1, p2, xs, ys, rfl, rfl, h1, h2, by rw [← r1.length, ← r2.length]; exact o.1, fun p hp => ?_⟩))
      obtain ⟨S', rx⟩ := lay_lst S hp (r1.append r2)
      exact q _ _ _ _ o.2 (Same.refl _) S' rx
    · exact o.elim
/-- operations on two ints -/
def opJ (C : Int → Int → Prop) (g : Int → Int → D) : Sto → D → D → (D → Prop) → Prop := fun _ x y k => match x, y with
  | .int i, .int j => C i j ∧ k (g i j)
  | _, _ => False
theorem rep_plain {K : PySem.W.Frag} {Fr : Hp} {f : List Addr} {H : Hp} {w : V} {z : D} (e : plainD w = some z) : RepX K Pr Fr f H z w := by
  cases w <;> first | (cases e; exact rfl) | exact nomatch e
theorem od_I {K : PySem.W.Frag} {C : Int → Int → Prop} {g : Int → Int → V} {g' : Int → Int → D} (hg : ∀ i j, plainD (g i j) = some (g' i j)) : OpD K (rI C g) (opJ C g') := by
  intro Pr Fr f st H x y v u k Q S r1 r2 o q
  unfold opJ at o
  split at o
  · cases (show v = _ from r1); cases (show u = _ from r2)
    rename_i i j
    exact ⟨_, _, rfl, rfl, o.1, q _ _ Fr H o.2 (Same.refl _) S (rep_plain (hg i j))⟩
  · exact o.elim
def opJ0 (g : Int → Int → D) : Sto → D → D → (D → Prop) → Prop := fun _ x y k => match x, y with
  | .int i, .int j => k (g i j)
  | _, _ => False
theorem od_I0 {K : PySem.W.Frag} {g : Int → Int → V} {g' : Int → Int → D} (hg : ∀ i j, plainD (g i j) = some (g' i j)) : OpD K (rI0 g) (opJ0 g') := by
  intro Pr Fr f st H x y v u k Q S r1 r2 o q
  unfold opJ0 at o
  split at o
  · cases (show v = _ from r1); cases (show u = _ from r2)
    rename_i i j
    exact ⟨_, _, rfl, rfl, q _ _ Fr H o (Same.refl _) S (rep_plain (hg i j))⟩
  · exact o.elim
def CDivD (_ j : Int) : Prop := j ≠ 0 ∧ j.natAbs.log2 < 9000
theorem or_sub {X : Cx} : OpR X (binaryOp .Sub) (rI0 fun i j => .int (i - j)) := op_sub
theorem od_sub {K : PySem.W.Frag} : OpD K (rI0 fun i j => .int (i - j)) (opJ0 fun i j => .int (i - j)) := od_I0 fun _ _ => rfl
theorem or_fdiv {X : Cx} : OpR X (binaryOp .FloorDiv) (rI CDivD fun i j => .int (i.fdiv j)) := L2.opI fun _ _ _ _ _ _ _ hc q => floordiv_int hc.1 q (.inl (PyProof.noPylong_of_log2 hc.2))
theorem od_fdiv {K : PySem.W.Frag} : OpD K (rI CDivD fun i j => .int (i.fdiv j)) (opJ CDivD fun i j => .int (i.fdiv j)) := od_I fun _ _ => rfl
theorem or_mod {X : Cx} : OpR X (binaryOp .Mod) (rI (fun _ j => j ≠ 0) fun i j => .int (i.fmod j)) := op_modN
theorem od_mod {K : PySem.W.Frag} : OpD K (rI (fun _ j => j ≠ 0) fun i j => .int (i.fmod j)) (opJ (fun _ j => j ≠ 0) fun i j => .int (i.fmod j)) := od_I fun _ _ => rfl
theorem or_pow {X : Cx} : OpR X (binaryOp .Pow) (rI CPow fun i j => .int (i ^ j.toNat)) := op_pow
theorem od_pow {K : PySem.W.Frag} : OpD K (rI CPow fun i j => .int (i ^ j.toNat)) (opJ CPow fun i j => .int (i ^ j.toNat)) := od_I fun _ _ => rfl
def rMulAny : R2 := fun x y H Q => rI IntMulOk (fun i j => .int (i * j)) x y H Q ∨ rRep x y H Q
theorem or_mul {X : Cx} : OpR X (binaryOp .Mult) rMulAny := (L2.opI fun _ _ _ _ _ _ _ hc q => mul_int q hc).or op_rep
def opMul : Sto → D → D → (D → Prop) → Prop := fun st x y k => match x, y with
  | .int i, .int j => IntMulOk i j ∧ k (.int (i * j))
  | x, .int j => match lisOf st x with
    | some ds => -(2 ^ 63) ≤ j ∧ j < 2 ^ 63 ∧ ds.length * j.toNat ≤ sizeLine ∧ k (.tl (List.replicate j.toNat ds).flatten)
    | none => False
  | _, _ => False
theorem Reps.rep {K : PySem.W.Frag} {Fr : Hp} {f : List Addr} {ds : List D} {vs : List V} (h : Reps K Fr f ds vs) : ∀ n : Nat, Reps K Fr f (List.replicate n ds).flatten (List.replicate n vs).flatten
  | 0 => rfl
  | n + 1 => by
    rw [List.replicate_succ, List.replicate_succ, List.flatten_cons, List.flatten_cons]
    exact h.append (Reps.rep h n)
theorem od_mul {K : PySem.W.Frag} : OpD K rMulAny opMul := by
  intro Pr Fr f st H x y v u k Q S r1 r2 o q
  unfold opMul at o
  split at o
  · cases (show v = _ from r1); cases (show u = _ from r2)
    exact .inl ⟨_, _, rfl, rfl, o.1, q _ _ Fr H o.2 (Same.refl _) S rfl⟩
  · cases (show u = _ from r2)
    split at o
    · rename_i ds e1
      obtain ⟨p1, xs, rfl, h1, r1⟩ := listOf_rep S e1 r1
      obtain ⟨o1, o2, o3, o4⟩ := o
      refine .inr ⟨p1, _, xs, rfl, rfl, h1, o1, o2, by rw [← r1.length]; exact o3, fun p hp => ?_⟩
      obtain ⟨S', rx⟩ := lay_lst S hp (r1.rep _)
      exact q _ _ _ _ o4 (Same.refl _) S' rx
    · exact o.elim
  · exact o.elim
/-- from bounds by powers of two -/
theorem mulOk {i j : Int} (a b : Nat) (ha : i.natAbs < 2 ^ a) (hb : j.natAbs < 2 ^ b) (h : a + b ≤ 1000000 := by decide) : IntMulOk i j := by
  have h1 : i.natAbs < 2 ^ (a + 1) := Nat.lt_of_lt_of_le ha (Nat.pow_le_pow_right (by omega) (by omega))
  have h2 : j.natAbs < 2 ^ (b + 1) := Nat.lt_of_lt_of_le hb (Nat.pow_le_pow_right (by omega) (by omega))
  have x := PySem.Flt.log2_lt_of (by omega) h1
  have y := PySem.Flt.log2_lt_of (by omega) h2
  refine CMulW.ok ?_
  by_cases h0 : a + b < 999998
  · unfold CMulW; omega
  · by_cases ha0 : a = 0
    · subst ha0
      have : i.natAbs = 0 := by simpa using ha
      have e : i.natAbs.log2 = 0 := by rw [this]; decide
      by_cases hb0 : b = 0
      · omega
      · have y' := PySem.Flt.log2_lt_of (by omega) hb
        unfold CMulW; omega
    · by_cases hb0 : b = 0
      · subst hb0
        have : j.natAbs = 0 := by simpa using hb
        have e : j.natAbs.log2 = 0 := by rw [this]; decide
        have x' := PySem.Flt.log2_lt_of (by omega) ha
        unfold CMulW; omega
      · have x' := PySem.Flt.log2_lt_of (by omega) ha
        have y' := PySem.Flt.log2_lt_of (by omega) hb
        unfold CMulW; omega

/-! ### comparisons -/
def rLtAny : R2 := fun x y H Q => rI0 (fun i j => .bl (decide (i < j))) x y H Q ∨ (fun x y H Q => ∃ i j, x = V.str i ∧ y = V.str j ∧ Q (.bl (decide (i.cps.toList < j.cps.toList))) H) x y H Q
def rLeAny : R2 := fun x y H Q => rI0 (fun i j => .bl (decide (i ≤ j))) x y H Q ∨ (fun x y H Q => ∃ i j, x = V.str i ∧ y = V.str j ∧ Q (.bl (!decide (j.cps.toList < i.cps.toList))) H) x y H Q
def rGtAny : R2 := fun x y H Q => rI0 (fun i j => .bl (decide (j < i))) x y H Q ∨ (fun x y H Q => ∃ i j, x = V.str i ∧ y = V.str j ∧ Q (.bl (decide (j.cps.toList < i.cps.toList))) H) x y H Q
def rGeAny : R2 := fun x y H Q => rI0 (fun i j => .bl (decide (j ≤ i))) x y H Q ∨ (fun x y H Q => ∃ i j, x = V.str i ∧ y = V.str j ∧ Q (.bl (!decide (i.cps.toList < j.cps.toList))) H) x y H Q
theorem or_lt {X : Cx} : OpR X (compareOp .Lt) rLtAny := op_lt.or op_lt_str
theorem or_le {X : Cx} : OpR X (compareOp .LtE) rLeAny := op_le.or op_le_str
theorem or_gt {X : Cx} : OpR X (compareOp .Gt) rGtAny := op_gt.or op_gt_str
theorem or_ge {X : Cx} : OpR X (compareOp .GtE) rGeAny := op_ge.or op_ge_str
def opCmp (g : Int → Int → Bool) (g' : List Nat → List Nat → Bool) : Sto → D → D → (D → Prop) → Prop := fun _ x y k => match x, y with
  | .int i, .int j => k (.bl (g i j))
  | .str a, .str b => k (.bl (g' a.cps.toList b.cps.toList))
  | _, _ => False
theorem od_cmp {K : PySem.W.Frag} {g : Int → Int → Bool} {g' : List Nat → List Nat → Bool} : OpD K (fun x y H Q => rI0 (fun i j => .bl (g i j)) x y H Q ∨ (fun x y H Q => ∃ i j, x = V.str i ∧ y = V.str j ∧ Q (.bl (g' i.cps.toList j.cps.toList)) H) x y H Q) (opCmp g g') := by
  intro Pr Fr f st H x y v u k Q S r1 r2 o q
  unfold opCmp at o
  split at o
  · cases (show v = _ from r1); cases (show u = _ from r2)
    exact .inl ⟨_, _, rfl, rfl, q _ _ Fr H o (Same.refl _) S rfl⟩
  · cases (show v = _ from r1); cases (show u = _ from r2)
    exact .inr ⟨_, _, rfl, rfl, q _ _ Fr H o (Same.refl _) S rfl⟩
  · exact o.elim
abbrev opLt := opCmp (fun i j => decide (i < j)) (fun a b => decide (a < b))
abbrev opLe := opCmp (fun i j => decide (i ≤ j)) (fun a b => !decide (b < a))
abbrev opGt := opCmp (fun i j => decide (j < i)) (fun a b => decide (b < a))
abbrev opGe := opCmp (fun i j => decide (j ≤ i)) (fun a b => !decide (a < b))
theorem od_lt {K : PySem.W.Frag} : OpD K rLtAny opLt := od_cmp
theorem od_le {K : PySem.W.Frag} : OpD K rLeAny opLe := od_cmp
theorem od_gt {K : PySem.W.Frag} : OpD K rGtAny opGt := od_cmp
theorem od_ge {K : PySem.W.Frag} : OpD K rGeAny opGe := od_cmp

/-! ### == of data -/
mutual
def toPy : D → PyData
  | .non => .none
  | .bl b => .bool b
  | .int i => .int i
  | .str x => .str x
  | .tup ds => .tuple (toPys ds)
  | .fl ds => .list (toPys ds)
  | .sl ds => .list (toPys ds)
  | _ => .none
def toPys : List D → List PyData
  | [] => []
  | d :: ds => toPy d :: toPys ds
end
mutual
def isDat : D → Bool
  | .non => true
  | .bl _ => true
  | .int _ => true
  | .str _ => true
  | .tup ds => areDat ds
  | .fl ds => areDat ds
  | .sl ds => areDat ds
  | _ => false
def areDat : List D → Bool
  | [] => true
  | d :: ds => isDat d && areDat ds
end
section
variable {K : PySem.W.Frag} {Fr : Hp} {f : List Addr} {st : Sto} {H : Hp}
mutual
theorem dp_of (S : Same Fr H) : ∀ (d : D) (v : V), isDat d = true → Rep K Fr f d v → Dp K H v (toPy d)
  | .non, v, _, r => by cases (show v = _ from r); exact .non
  | .bl _, v, _, r => by cases (show v = _ from r); exact .bl _
  | .int _, v, _, r => by cases (show v = _ from r); exact .int _
  | .str _, v, _, r => by cases (show v = _ from r); exact .str _
  | .tup ds, v, h, r => by
    obtain ⟨a, vs, rfl, h1, r⟩ := r
    exact .tup (Same.seqT S h1) (dps_of S ds vs h r)
  | .fl ds, v, h, r => by
    obtain ⟨a, vs, rfl, h1, r⟩ := r
    exact .lst (.inl (.inl (S _ _ h1))) (dps_of S ds vs h r)
  | .sl ds, v, h, r => by
    obtain ⟨a, vs, rfl, h1, r⟩ := r
    exact .lst (S.seq h1) (dps_of S ds vs h r)
  | .ref _, _, h, _ => by cases h
  | .tl _, _, h, _ => by cases h
  | .td _ _, _, h, _ => by cases h
  | .fd _ _, _, h, _ => by cases h
  | .con _, _, h, _ => by cases h
  | .ty _, _, h, _ => by cases h
theorem dps_of (S : Same Fr H) : ∀ (ds : List D) (vs : List V), areDat ds = true → Reps K Fr f ds vs → DpAll K H vs (toPys ds)
  | [], vs, _, r => by cases (show vs = [] from r); exact .nil
  | d :: ds, vs, h, r => by
    obtain ⟨v, t, rfl, r1, r2⟩ := r
    have h' := Bool.and_eq_true_iff.mp (show (isDat d && areDat ds) = true from h)
    exact .cons (dp_of S d v h'.1 r1) (dps_of S ds t h'.2 r2)
end
end
def opEqW (neg : Bool) : Sto → D → D → (D → Prop) → Prop := fun _ x y k => match x, y with
  | .int i, .int j => k (.bl (neg ^^ (i == j)))
  | .str a, .str b => k (.bl (neg ^^ (a == b)))
  | x, y => isDat x = true ∧ isDat y = true ∧ SeqAt.shaped (toPy x) = true ∧ SeqAt.shaped (toPy y) = true ∧ k (.bl (neg ^^ PyData.eqv (toPy x) (toPy y)))
abbrev opEq := opEqW false
abbrev opNe := opEqW true
def rEqAny (K : PySem.W.Frag) : R2 := fun x y H Q => rEq x y H Q ∨ rEqD K x y H Q
def rNeAny (K : PySem.W.Frag) : R2 := fun x y H Q => rNe x y H Q ∨ rNeD K x y H Q
theorem or_eq {X : Cx} (hu : X.A.units + 64 < cLine) : OpR X (compareOp .Eq) (rEqAny X.K) := op_eq.or (op_eqD hu)
theorem or_ne {X : Cx} (hu : X.A.units + 64 < cLine) : OpR X (compareOp .NotEq) (rNeAny X.K) := op_ne.or (op_neD hu)
theorem od_eq {K : PySem.W.Frag} : OpD K (rEqAny K) opEq := by
  intro Pr Fr f st H x y v u k Q S r1 r2 o q
  unfold opEq opEqW at o
  split at o
  · cases (show v = _ from r1); cases (show u = _ from r2)
    refine .inl ⟨rfl, ?_⟩
    rw [dec_int]
    exact q _ _ Fr H o (Same.refl _) S (by simp [RepX, Rep])
  · cases (show v = _ from r1); cases (show u = _ from r2)
    refine .inl ⟨rfl, ?_⟩
    rw [dec_str]
    exact q _ _ Fr H o (Same.refl _) S (by simp [RepX, Rep])
  · obtain ⟨o1, o2, o3, o4, o5⟩ := o
    exact .inr ⟨_, _, dp_of S.fr _ _ o1 r1, dp_of S.fr _ _ o2 r2, o3, o4, q _ _ Fr H o5 (Same.refl _) S (by simp [RepX, Rep])⟩
theorem od_ne {K : PySem.W.Frag} : OpD K (rNeAny K) opNe := by
  intro Pr Fr f st H x y v u k Q S r1 r2 o q
  unfold opNe opEqW at o
  split at o
  · cases (show v = _ from r1); cases (show u = _ from r2)
    refine .inl ⟨rfl, ?_⟩
    rw [dec_int]
    exact q _ _ Fr H o (Same.refl _) S (by simp [RepX, Rep])
  · cases (show v = _ from r1); cases (show u = _ from r2)
    refine .inl ⟨rfl, ?_⟩
    rw [dec_str]
    exact q _ _ Fr H o (Same.refl _) S (by simp [RepX, Rep])
  · obtain ⟨o1, o2, o3, o4, o5⟩ := o
    exact .inr ⟨_, _, dp_of S.fr _ _ o1 r1, dp_of S.fr _ _ o2 r2, o3, o4, q _ _ Fr H o5 (Same.refl _) S (by simp [RepX, Rep])⟩
end DW

/-! DW4: dicts as lists of pairs; in, subscripts, slices, truth. -/
namespace DW
open PySem PySem.Spec PyProof.Rows L2

/-! ### dicts as lists of pairs -/
section
variable {κ α : Type} [DecidableEq κ]
def valP (kvs : List (κ × α)) (k : κ) : Option α := (kvs.find? fun kv => decide (kv.1 = k)).map (·.2)
def putP (kvs : List (κ × α)) (k : κ) (v : α) : List (κ × α) :=
  if (kvs.any fun kv => decide (kv.1 = k)) = true then kvs.map (fun kv => if kv.1 = k then (kv.1, v) else kv) else kvs ++ [(k, v)]
def dropP (kvs : List (κ × α)) (k : κ) : List (κ × α) := kvs.filter fun kv => decide (kv.1 ≠ k)
end
section
variable {K : PySem.W.Frag} {Fr Fr' : Hp} {f f' : List Addr} {st : Sto} {H H' : Hp}
/-- two tables with the same keys -/
def RepK (K : PySem.W.Frag) (Fr : Hp) (f : List Addr) (kvs : List (Key × D)) (us : List (Key × V)) : Prop := us.map (·.1) = kvs.map (·.1) ∧ Reps K Fr f (kvs.map (·.2)) (us.map (·.2))
theorem RepK.nil : RepK K Fr f [] [] := ⟨rfl, rfl⟩
theorem RepK.inv0 {us : List (Key × V)} (h : RepK K Fr f [] us) : us = [] := by
  obtain ⟨e, _⟩ := h
  simpa using e
theorem RepK.inv {p : Key × D} {kvs : List (Key × D)} {us : List (Key × V)} (h : RepK K Fr f (p :: kvs) us) : ∃ v r, us = (p.1, v) :: r ∧ Rep K Fr f p.2 v ∧ RepK K Fr f kvs r := by
  obtain ⟨e, r⟩ := h
  cases us with
  | nil => simp at e
  | cons u us =>
    simp only [List.map_cons, List.cons.injEq] at e
    obtain ⟨v, t, e2, r1, r2⟩ := r
    simp only [List.map_cons, List.cons.injEq] at e2
    obtain ⟨e3, e4⟩ := e2
    subst e3 e4
    exact ⟨u.2, us, by rw [← e.1], r1, e.2, r2⟩
theorem RepK.cons {p : Key × D} {kvs : List (Key × D)} {v : V} {r : List (Key × V)} (h1 : Rep K Fr f p.2 v) (h2 : RepK K Fr f kvs r) : RepK K Fr f (p :: kvs) ((p.1, v) :: r) :=
  ⟨by simp [h2.1], v, _, rfl, h1, h2.2⟩
theorem RepK.mono (hF : Same Fr Fr') (hf : f <+: f') {kvs : List (Key × D)} {us : List (Key × V)} (h : RepK K Fr f kvs us) : RepK K Fr' f' kvs us := ⟨h.1, Reps.mono hF hf _ _ h.2⟩
theorem RepK.length {kvs : List (Key × D)} {us : List (Key × V)} (h : RepK K Fr f kvs us) : us.length = kvs.length := by
  have := congrArg List.length h.1
  simpa using this
theorem RepK.append : ∀ {kvs ms : List (Key × D)} {us ws : List (Key × V)}, RepK K Fr f kvs us → RepK K Fr f ms ws → RepK K Fr f (kvs ++ ms) (us ++ ws) := fun h h' =>
  ⟨by simp [h.1, h'.1], by simpa using h.2.append h'.2⟩
theorem RepK.val (k : Key) : ∀ {kvs : List (Key × D)} {us : List (Key × V)}, RepK K Fr f kvs us → (∀ d, valP kvs k = some d → ∃ v, valV us k = some v ∧ Rep K Fr f d v) ∧ (valP kvs k = none → valV us k = none)
  | [], us, h => by
    cases h.inv0
    exact ⟨fun d e => by simp [valP] at e, fun _ => rfl⟩
  | p :: kvs, us, h => by
    obtain ⟨v, r, rfl, h1, h2⟩ := h.inv
    by_cases e : p.1 = k
    · refine ⟨fun d q => ?_, fun q => ?_⟩
      · have q' : p.2 = d := by simpa [valP, List.find?_cons, e] using q
        subst q'
        exact ⟨v, valV_pos (p := (p.1, v)) e, h1⟩
      · simp [valP, List.find?_cons, e] at q
    · have ih := RepK.val k h2
      have e1 : valP (p :: kvs) k = valP kvs k := by simp [valP, List.find?_cons, e]
      have e2 : valV ((p.1, v) :: r) k = valV r k := valV_neg (p := (p.1, v)) e
      rw [e1, e2]
      exact ih
theorem RepK.some {k : Key} {kvs : List (Key × D)} {us : List (Key × V)} (h : RepK K Fr f kvs us) : (valV us k).isSome = (valP kvs k).isSome := by
  have := RepK.val k h
  cases e : valP kvs k with
  | none => rw [this.2 e]; rfl
  | some d => obtain ⟨v, e1, _⟩ := this.1 d e; rw [e1] <;> rfl
theorem RepK.any {k : Key} : ∀ {kvs : List (Key × D)} {us : List (Key × V)}, RepK K Fr f kvs us → (us.any fun kv => decide (kv.1 = k)) = kvs.any fun kv => decide (kv.1 = k)
  | [], us, h => by cases h.inv0; rfl
  | p :: kvs, us, h => by
    obtain ⟨v, r, rfl, h1, h2⟩ := h.inv
    simp only [List.any_cons, RepK.any h2]
theorem RepK.repl {k : Key} {d : D} {v : V} (hr : Rep K Fr f d v) : ∀ {kvs : List (Key × D)} {us : List (Key × V)}, RepK K Fr f kvs us →
    RepK K Fr f (kvs.map fun kv => if kv.1 = k then (kv.1, d) else kv) (us.map fun kv => if kv.1 = k then (kv.1, v) else kv)
  | [], us, h => by cases h.inv0; exact .nil
  | p :: kvs, us, h => by
    obtain ⟨w, r, rfl, h1, h2⟩ := h.inv
    have ih := RepK.repl (k := k) hr h2
    rw [List.map_cons, List.map_cons]
    by_cases e : p.1 = k
    · rw [if_pos e, if_pos e]
      exact RepK.cons (p := (p.1, d)) hr ih
    · rw [if_neg e, if_neg e]
      exact RepK.cons h1 ih
theorem RepK.put {k : Key} {d : D} {v : V} (hr : Rep K Fr f d v) {kvs : List (Key × D)} {us : List (Key × V)} (h : RepK K Fr f kvs us) : RepK K Fr f (putP kvs k d) (putK us k v) := by
  unfold putP putK
  rw [h.any]
  split
  · exact h.repl hr
  · exact h.append (RepK.cons (p := (k, d)) hr .nil)
theorem RepK.drop {k : Key} : ∀ {kvs : List (Key × D)} {us : List (Key × V)}, RepK K Fr f kvs us → RepK K Fr f (dropP kvs k) (dropK us k)
  | [], us, h => by cases h.inv0; exact .nil
  | p :: kvs, us, h => by
    obtain ⟨w, r, rfl, h1, h2⟩ := h.inv
    have ih := RepK.drop (k := k) h2
    unfold dropP dropK at *
    by_cases e : p.1 = k
    · rw [List.filter_cons_of_neg (by simp [e]), List.filter_cons_of_neg (by simp [e])]
      exact ih
    · rw [List.filter_cons_of_pos (by simp [e]), List.filter_cons_of_pos (by simp [e])]
      exact RepK.cons h1 ih
end
def dicOf (st : Sto) : D → Option (List (Key × D))
  | .fd ks ds => some (ks.zip ds)
  | .ref n => match st[n]? with
    | some (.dic kvs) => some kvs
    | _ => none
  | _ => none
theorem dicOf_rep {K : PySem.W.Frag} {Fr : Hp} {f : List Addr} {st : Sto} {H : Hp} (S : SimC K Pr Fr f st H) {d : D} {v : V} {kvs : List (Key × D)} (e : dicOf st d = some kvs) (r : Rep K Fr f d v) :
    ∃ a us, v = .ref a ∧ H a = some (.dK us) ∧ RepK K Fr f kvs us := by
  unfold dicOf at e
  split at e
  · cases e
    obtain ⟨a, us, rfl, h1, e1, r⟩ := r
    have hl := r.length
    have hl2 := congrArg List.length e1
    simp only [List.length_map] at hl hl2
    refine ⟨a, us, rfl, S.fr _ _ h1, ?_, ?_⟩
    · rw [List.map_fst_zip (by omega), e1]
    · rw [List.map_snd_zip (by omega)]
      exact r
  · obtain ⟨a, h1, rfl⟩ := r
    split at e
    · rename_i e1
      cases e
      obtain ⟨b, us, h2, h3, e2, r⟩ := S.dic e1
      rw [h1] at h2; cases h2
      exact ⟨a, us, rfl, h3, e2, r⟩
    · cases e
  · cases e
def keyOf : D → Option Key
  | .int i => some (.inl i)
  | .str x => some (.inr x)
  | _ => none
theorem keyOf_rep {K : PySem.W.Frag} {Fr : Hp} {f : List Addr} {d : D} {v : V} {k : Key} (e : keyOf d = some k) (r : Rep K Fr f d v) : v = kV k := by
  cases d <;> first | (cases e; exact r) | exact nomatch e
def unkey : Key → D
  | .inl i => .int i
  | .inr x => .str x

/-! ### in, not in -/
def flatD : D → Bool
  | .non => true
  | .bl _ => true
  | .int _ => true
  | .str _ => true
  | _ => false
def eqD : D → D → Bool
  | .non, .non => true
  | .bl a, .bl b => a == b
  | .bl a, .int b => (if a then 1 else 0) == b
  | .int a, .bl b => a == (if b then 1 else 0)
  | .int a, .int b => a == b
  | .str a, .str b => a == b
  | _, _ => false
section
variable {K : PySem.W.Frag} {Fr : Hp} {f : List Addr}
theorem flat_rep {d : D} {v : V} (h : flatD d = true) (r : Rep K Fr f d v) : flatV v = true := by
  cases d <;> first | (cases (show v = _ from r); rfl) | (cases h; done)
theorem eqD_rep {d e : D} {v u : V} (h1 : flatD d = true) (h2 : flatD e = true) (r1 : Rep K Fr f d v) (r2 : Rep K Fr f e u) : eqV v u = eqD d e := by
  cases d <;> first
    | (cases h1; done)
    | (cases (show v = _ from r1)
       cases e <;> first
        | (cases h2; done)
        | (cases (show u = _ from r2); rfl))
theorem flats_rep : ∀ {ds : List D} {vs : List V}, ds.all flatD = true → Reps K Fr f ds vs → vs.all flatV = true
  | [], vs, _, r => by cases (show vs = [] from r); rfl
  | d :: ds, vs, h, r => by
    obtain ⟨v, t, rfl, r1, r2⟩ := r
    simp only [List.all_cons, Bool.and_eq_true] at h ⊢
    exact ⟨flat_rep h.1 r1, flats_rep h.2 r2⟩
theorem inV_rep {x : D} {u : V} (hx : flatD x = true) (rx : Rep K Fr f x u) : ∀ {ds : List D} {vs : List V}, ds.all flatD = true → Reps K Fr f ds vs → inV u vs = ds.any fun d => eqD d x
  | [], vs, _, r => by cases (show vs = [] from r); rfl
  | d :: ds, vs, h, r => by
    obtain ⟨v, t, rfl, r1, r2⟩ := r
    simp only [List.all_cons, Bool.and_eq_true] at h
    have ih := inV_rep hx rx h.2 r2
    unfold inV at ih ⊢
    rw [List.any_cons, List.any_cons, ih, eqD_rep h.1 hx r1 rx]
end
def rInDic : R2 := fun x y H Q => ∃ a o, y = .ref a ∧ DGet H a x o ∧ Q (.bl o.isSome) H
def rNotInDic : R2 := fun x y H Q => ∃ a o, y = .ref a ∧ DGet H a x o ∧ Q (.bl (!o.isSome)) H
theorem op_in_dic {X : Cx} (hu : X.A.units + 1 < cLine) : OpR X (compareOp .In) rInDic := by
  intro pins s σ H x y v u Q I rx ry h
  obtain ⟨a, o, rfl, g, q⟩ := h
  cases ry
  exact d_in hu I g rx fun s' I' => ⟨.bl _, H, I', rfl, q⟩
theorem op_notIn_dic {X : Cx} (hu : X.A.units + 1 < cLine) : OpR X (compareOp .NotIn) rNotInDic := by
  intro pins s σ H x y v u Q I rx ry h
  obtain ⟨a, o, rfl, g, q⟩ := h
  cases ry
  exact d_notIn hu I g rx fun s' I' => ⟨.bl _, H, I', rfl, q⟩
def rInAny (K : PySem.W.Frag) : R2 := fun x y H Q => rIn K false x y H Q ∨ (fun x y H Q => ∃ (c : Nat) (z : Str), x = .str ⟨#[c]⟩ ∧ y = .str z ∧ Q (.bl (decide (c ∈ z.cps.toList))) H) x y H Q ∨ rInDic x y H Q
def rNotInAny (K : PySem.W.Frag) : R2 := fun x y H Q => rIn K true x y H Q ∨ (fun x y H Q => ∃ (c : Nat) (z : Str), x = .str ⟨#[c]⟩ ∧ y = .str z ∧ Q (.bl (!decide (c ∈ z.cps.toList))) H) x y H Q ∨ rNotInDic x y H Q
theorem or_in {X : Cx} (hu : X.A.units + 64 < cLine) : OpR X (compareOp .In) (rInAny X.K) := op_in_seq.or (op_in_sign.or (op_in_dic (by omega)))
theorem or_notIn {X : Cx} (hu : X.A.units + 64 < cLine) : OpR X (compareOp .NotIn) (rNotInAny X.K) := op_notIn_seq.or (op_notIn_sign.or (op_notIn_dic (by omega)))
def opInW (neg : Bool) : Sto → D → D → (D → Prop) → Prop := fun st x y k => match x, y with
  | .str a, .str b => ∃ c : Nat, a = ⟨#[c]⟩ ∧ k (.bl (neg ^^ decide (c ∈ b.cps.toList)))
  | x, y => match seqOf st y with
    | some ds => flatD x = true ∧ ds.all flatD = true ∧ k (.bl (neg ^^ ds.any fun d => eqD d x))
    | none => match dicOf st y, keyOf x with
      | some kvs, some q => k (.bl (neg ^^ (valP kvs q).isSome))
      | _, _ => False
abbrev opIn := opInW false
abbrev opNotIn := opInW true
theorem od_in {K : PySem.W.Frag} : OpD K (rInAny K) opIn := by
  intro Pr Fr f st H x y v u k Q S r1 r2 o q
  unfold opIn opInW at o
  split at o
  · obtain ⟨c, rfl, o⟩ := o
    cases (show v = _ from r1); cases (show u = _ from r2)
    exact .inr (.inl ⟨c, _, rfl, rfl, q _ _ Fr H o (Same.refl _) S (by simp [RepX, Rep])⟩)
  · split at o
    · rename_i ds e
      obtain ⟨o1, o2, o⟩ := o
      obtain ⟨a, vs, rfl, h1, r2⟩ := seqOf_rep S e r2
      refine .inl ⟨a, vs, rfl, h1, flat_rep o1 r1, flats_rep o2 r2, ?_⟩
      rw [if_neg (by simp)]
      exact q _ _ Fr H o (Same.refl _) S (by simp [RepX, Rep, inV_rep o1 r1 o2 r2])
    · split at o
      · rename_i kvs kk e1 e2
        obtain ⟨a, us, rfl, h1, r2⟩ := dicOf_rep S e1 r2
        obtain rfl := keyOf_rep e2 r1
        refine .inr (.inr ⟨a, _, rfl, DGet.k h1, ?_⟩)
        exact q _ _ Fr H o (Same.refl _) S (by simp [RepX, Rep, r2.some])
      · exact o.elim
theorem od_notIn {K : PySem.W.Frag} : OpD K (rNotInAny K) opNotIn := by
  intro Pr Fr f st H x y v u k Q S r1 r2 o q
  unfold opNotIn opInW at o
  split at o
  · obtain ⟨c, rfl, o⟩ := o
    cases (show v = _ from r1); cases (show u = _ from r2)
    exact .inr (.inl ⟨c, _, rfl, rfl, q _ _ Fr H o (Same.refl _) S (by simp [RepX, Rep])⟩)
  · split at o
    · rename_i ds e
      obtain ⟨o1, o2, o⟩ := o
      obtain ⟨a, vs, rfl, h1, r2⟩ := seqOf_rep S e r2
      refine .inl ⟨a, vs, rfl, h1, flat_rep o1 r1, flats_rep o2 r2, ?_⟩
      rw [if_pos rfl]
      exact q _ _ Fr H o (Same.refl _) S (by simp [RepX, Rep, inV_rep o1 r1 o2 r2])
    · split at o
      · rename_i kvs kk e1 e2
        obtain ⟨a, us, rfl, h1, r2⟩ := dicOf_rep S e1 r2
        obtain rfl := keyOf_rep e2 r1
        refine .inr (.inr ⟨a, _, rfl, DGet.k h1, ?_⟩)
        exact q _ _ Fr H o (Same.refl _) S (by simp [RepX, Rep, r2.some])
      · exact o.elim
/-! ### is -/
def rIsAny : R2 := fun x y H Q => rIsB x y H Q ∨ (fun x y H Q => y = V.non ∧ Q (.bl (decide (x = V.non))) H) x y H Q
def rNotIsAny : R2 := fun x y H Q => rNotB x y H Q ∨ (fun x y H Q => y = V.non ∧ Q (.bl (!decide (x = V.non))) H) x y H Q
theorem or_is {X : Cx} : OpR X (compareOp .Is) rIsAny := op_isBl.or op_isN
theorem or_isNot {X : Cx} : OpR X (compareOp .IsNot) rNotIsAny := op_notBl.or op_notN
def isNonD : D → Bool
  | .non => true
  | _ => false
def opIsW (neg : Bool) : Sto → D → D → (D → Prop) → Prop := fun _ x y k => match x, y with
  | .bl a, .bl b => k (.bl (neg ^^ (a == b)))
  | x, .non => k (.bl (neg ^^ isNonD x))
  | _, _ => False
abbrev opIs := opIsW false
abbrev opIsNot := opIsW true
theorem dec_beq {a b : Bool} : decide (a = b) = (a == b) := by cases a <;> cases b <;> rfl
theorem isNon_rep {K : PySem.W.Frag} {Fr : Hp} {f : List Addr} {d : D} {v : V} (r : Rep K Fr f d v) : decide (v = V.non) = isNonD d := by
  cases d with
  | tup _ => obtain ⟨a, _, rfl, _⟩ := r; rfl
  | ref _ => obtain ⟨a, _, rfl⟩ := r; rfl
  | fl _ => obtain ⟨a, _, rfl, _⟩ := r; rfl
  | sl _ => obtain ⟨a, _, rfl, _⟩ := r; rfl
  | fd _ _ => obtain ⟨a, _, rfl, _⟩ := r; rfl
  | tl _ => exact (show False from r).elim
  | td _ _ => exact (show False from r).elim
  | _ => cases (show v = _ from r); rfl
theorem od_is {K : PySem.W.Frag} : OpD K rIsAny opIs := by
  intro Pr Fr f st H x y v u k Q S r1 r2 o q
  unfold opIs opIsW at o
  split at o
  · cases (show v = _ from r1); cases (show u = _ from r2)
    refine .inl ⟨_, _, rfl, rfl, q _ _ Fr H o (Same.refl _) S ?_⟩
    simp only [RepX, Rep, Bool.false_xor, V.bl.injEq]
    exact dec_beq
  · cases (show u = _ from r2)
    refine .inr ⟨rfl, q _ _ Fr H o (Same.refl _) S ?_⟩
    simp only [RepX, Rep, Bool.false_xor, V.bl.injEq]
    exact isNon_rep r1
  · exact o.elim
theorem od_isNot {K : PySem.W.Frag} : OpD K rNotIsAny opIsNot := by
  intro Pr Fr f st H x y v u k Q S r1 r2 o q
  unfold opIsNot opIsW at o
  split at o
  · cases (show v = _ from r1); cases (show u = _ from r2)
    refine .inl ⟨_, _, rfl, rfl, q _ _ Fr H o (Same.refl _) S ?_⟩
    show V.bl _ = V.bl (true ^^ _)
    rw [Bool.true_xor, dec_beq]
  · cases (show u = _ from r2)
    refine .inr ⟨rfl, q _ _ Fr H o (Same.refl _) S ?_⟩
    show V.bl _ = V.bl (true ^^ _)
    rw [Bool.true_xor, isNon_rep r1]
  · exact o.elim

/-! ### subscripts -/
def rIxDic : R2 := fun x y H Q => ∃ a v, x = .ref a ∧ DGet H a y (some v) ∧ Q v H
theorem ix_dic {X : Cx} (hu : X.A.units + 1 < cLine) : IxR X rIxDic := by
  intro value slice pins s σ H x y v u Q I rx ry h hs
  obtain ⟨a, w, rfl, g, q⟩ := h
  obtain rfl : v = Value.ref a := rx
  exact tail_any (dict_typeIs I g) PySem.F.slot_dict_getitem.lookup (d_getItem hu I g ry fun w' s' I' r' => ⟨w, H, I', r', q⟩) hs
def rIxAny (K : PySem.W.Frag) : R2 := fun x y H Q => rIx K x y H Q ∨ rIxDic x y H Q
theorem xr_any {X : Cx} (hu : X.A.units + 64 < cLine) : IxR X (rIxAny X.K) := ix_seq.or (ix_dic (by omega))
def opIxDic : Sto → D → D → (D → Prop) → Prop := fun st x y k => match dicOf st x, keyOf y with
  | some kvs, some q => (match valP kvs q with
    | some d => k d
    | none => False)
  | _, _ => False
def opIx : Sto → D → D → (D → Prop) → Prop := fun st x y k => match y with
  | .int i => (match x with
    | .str z => z.length ≤ sizeLine ∧ (match atI z.cps.toList i with
      | some c => k (.str ⟨#[c]⟩)
      | none => False)
    | x => (match seqOf st x with
      | some ds => (match atI ds i with
        | some d => k d
        | none => False)
      | none => opIxDic st x (.int i) k))
  | y => opIxDic st x y k
theorem atI_rep {K : PySem.W.Frag} {Fr : Hp} {f : List Addr} {ds : List D} {vs : List V} {i : Int} {d : D} (r : Reps K Fr f ds vs) (e : atI ds i = some d) : ∃ v, atI vs i = some v ∧ Rep K Fr f d v := by
  unfold atI at e ⊢
  rw [← r.length]
  cases h : ixN ds.length i with
  | none => rw [h] at e; cases e
  | some j =>
    rw [h] at e
    obtain ⟨v, e1, r1⟩ := r.get (show ds[j]? = some d from e)
    exact ⟨v, e1, r1⟩
theorem od_ixDic {K : PySem.W.Frag} : OpD K (rIxAny K) opIxDic := by
  intro Pr Fr f st H x y v u k Q S r1 r2 o q
  unfold opIxDic at o
  split at o
  · rename_i kvs kk e1 e2
    obtain ⟨a, us, rfl, h1, r1⟩ := dicOf_rep S e1 r1
    obtain rfl := keyOf_rep e2 r2
    split at o
    · rename_i d ed
      obtain ⟨w, ew, rw'⟩ := (RepK.val kk r1).1 d ed
      exact .inr ⟨a, w, rfl, by rw [← ew]; exact DGet.k h1, q _ _ Fr H o (Same.refl _) S (.of rw')⟩
    · exact o.elim
  · exact o.elim
theorem od_ix {K : PySem.W.Frag} : OpD K (rIxAny K) opIx := by
  intro Pr Fr f st H x y v u k Q S r1 r2 o q
  unfold opIx at o
  split at o
  · cases (show u = _ from r2)
    split at o
    · cases (show v = _ from r1)
      obtain ⟨o1, o⟩ := o
      split at o
      · rename_i c e
        exact .inl (.inr (.inr ⟨_, _, c, rfl, rfl, o1, e, q _ _ Fr H o (Same.refl _) S rfl⟩))
      · exact o.elim
    · split at o
      · rename_i ds e
        obtain ⟨a, vs, rfl, h1, r1⟩ := seqOf_rep S e r1
        split at o
        · rename_i d ed
          obtain ⟨w, ew, rw'⟩ := atI_rep r1 ed
          rcases h1 with h1 | h1
          · exact .inl (.inl ⟨a, vs, _, w, rfl, rfl, h1, ew, q _ _ Fr H o (Same.refl _) S (.of rw')⟩)
          · exact .inl (.inr (.inl ⟨a, vs, _, w, rfl, rfl, h1, ew, q _ _ Fr H o (Same.refl _) S (.of rw')⟩))
        · exact o.elim
      · exact od_ixDic Pr Fr f st H _ (.int _) _ _ k Q S r1 rfl o q
  · exact od_ixDic Pr Fr f st H _ _ _ _ k Q S r1 r2 o q

/-! ### slices -/
def cutD {α : Type} (xs : List α) (lo hi : Option Int) : List α := (xs.drop (HT.sIx xs.length 0 lo)).take (HT.sIx xs.length xs.length hi - HT.sIx xs.length 0 lo)
theorem Reps.cut {K : PySem.W.Frag} {Fr : Hp} {f : List Addr} {ds : List D} {vs : List V} (r : Reps K Fr f ds vs) (lo hi : Option Int) : Reps K Fr f (cutD ds lo hi) (cutV vs lo hi) := by
  unfold cutD cutV
  rw [← r.length]
  exact (r.drop _).take _
theorem cutD_whole {α : Type} {xs : List α} {lo hi : Option Int} (h : HT.sIx xs.length 0 lo = 0 ∧ HT.sIx xs.length xs.length hi = xs.length) : cutD xs lo hi = xs := by
  unfold cutD
  rw [h.1, h.2]
  simp
def rSlAny (K : PySem.W.Frag) : V → Option Int → Option Int → Hp → VK → Prop := fun x lo hi H Q => rSlS x lo hi H Q ∨ rSlA K x lo hi H Q ∨ rSlL K x lo hi H Q
theorem sr_any {X : Cx} : SlR X (rSlAny X.K) := sl_str.or (sl_tupA.or sl_list)
def opSl : Sto → D → Option Int → Option Int → (D → Prop) → Prop := fun st x lo hi k => match x with
  | .str z => z.length ≤ sizeLine ∧ k (.str (cutS z lo hi))
  | .tup ds => k (.tup (cutD ds lo hi))
  | .sl ds => k (.tl (cutD ds lo hi))
  | x => match lisOf st x with
    | some ds => k (.tl (cutD ds lo hi))
    | none => False
def dSl (de : DE) (lo hi : DO) : DE := fun Ed env st Q => de Ed env st fun x st1 => lo Ed env st1 fun l st2 => hi Ed env st2 fun h st3 => opSl st3 (frz x) l h fun z => Q z st3
theorem sl_rep {K : PySem.W.Frag} {Fr : Hp} {f : List Addr} {st : Sto} {H : Hp} {x : D} {v : V} {lo hi : Option Int} {k : D → Prop} {Q : VK} (S : SimC K Pr Fr f st H) (r1 : Rep K Fr f x v) (o : opSl st x lo hi k)
    (q : ∀ z w Fr' H', k z → Same Fr Fr' → SimC K Pr Fr' f st H' → RepX K Pr Fr' f H' z w → Q w H') : rSlAny K v lo hi H Q := by
  unfold opSl at o
  split at o
  · cases (show v = _ from r1)
    exact .inl ⟨_, rfl, o.1, q _ _ Fr H o.2 (Same.refl _) S rfl⟩
  · rename_i ds
    obtain ⟨a, xs, rfl, h1, r1⟩ := r1
    refine .inr (.inl ⟨a, xs, rfl, S.frT h1, fun e => ?_, fun _ p hp => ?_⟩)
    · refine q _ _ Fr H o (Same.refl _) S ⟨a, xs, rfl, h1, ?_⟩
      rw [← r1.length] at e
      rw [cutD_whole e]
      exact r1
    · obtain ⟨sm, S', rx⟩ := lay_tup S hp (r1.cut lo hi)
      exact q _ _ _ _ o sm S' rx
  · obtain ⟨a, xs, rfl, h1, r1⟩ := r1
    refine .inr (.inr ⟨a, xs, rfl, S.frL h1, fun p hp => ?_⟩)
    obtain ⟨S', rx⟩ := lay_lst S hp (r1.cut lo hi)
    exact q _ _ _ _ o (Same.refl _) S' rx
  · split at o
    · rename_i ds e
      obtain ⟨a, xs, rfl, h1, r1⟩ := listOf_rep S e r1
      refine .inr (.inr ⟨a, xs, rfl, .inl (.inl h1), fun p hp => ?_⟩)
      obtain ⟨S', rx⟩ := lay_lst S hp (r1.cut lo hi)
      exact q _ _ _ _ o (Same.refl _) S' rx
    · exact o.elim

/-! ### truth -/
def opTru : Sto → D → (Bool → Prop) → Prop := fun st x k => match x with
  | .non => k false
  | .bl b => k b
  | .int i => k (i != 0)
  | .str z => z.length ≤ sizeLine ∧ k ((z.length : Int) != 0)
  | x => match seqOf st x with
    | some ds => k (!ds.isEmpty)
    | none => match dicOf st x with
      | some kvs => k (!kvs.isEmpty)
      | none => False
theorem tru_rep {K : PySem.W.Frag} {Fr : Hp} {f : List Addr} {st : Sto} {H : Hp} {x : D} {v : V} {k : Bool → Prop} (S : SimC K Pr Fr f st H) (r1 : Rep K Fr f x v) (o : opTru st x k) : ∃ b, TruV K v H b ∧ k b := by
  unfold opTru at o
  split at o
  · cases (show v = _ from r1); exact ⟨_, rfl, o⟩
  · cases (show v = _ from r1); exact ⟨_, rfl, o⟩
  · cases (show v = _ from r1); exact ⟨_, rfl, o⟩
  · cases (show v = _ from r1); exact ⟨_, ⟨o.1, rfl⟩, o.2⟩
  · split at o
    · rename_i ds e
      obtain ⟨a, vs, rfl, h1, r⟩ := seqOf_rep S e r1
      have e : ds.isEmpty = vs.isEmpty := by
        have := r.length
        cases ds <;> cases vs <;> simp_all
      rcases h1 with h1 | h1
      · exact ⟨_, .inl ⟨vs, h1, rfl⟩, by rw [← e]; exact o⟩
      · exact ⟨_, .inr (.inl ⟨vs, h1, rfl⟩), by rw [← e]; exact o⟩
    · split at o
      · rename_i kvs e
        obtain ⟨a, us, rfl, h1, r⟩ := dicOf_rep S e r1
        have e : kvs.isEmpty = us.isEmpty := by
          have := r.length
          cases kvs <;> cases us <;> simp_all
        exact ⟨_, .inr (.inr ⟨us, h1, rfl⟩), by rw [← e]; exact o⟩
      · exact o.elim
end DW

/-! DW5: the rules for expressions. -/
namespace DW
open PySem PySem.Spec PyProof.Rows L2

section
variable {X : Cx} {W : WX} {a b c e o i : Expr} {es rest : List Expr} {da db dc dx : DE} {ds : DA} {pos p1 p2 p3 : Pos}

/-! ### operators -/
theorem de_bin {op : Operator} {r : R2} {f : Sto → D → D → (D → Prop) → Prop} (hr : OpR X (binaryOp op) r) (ho : OpD X.K r f) (ha : PE X a (liftE X.K W da)) (hb : PE X b (liftE X.K W db)) : PE X (.BinOp a op b pos) (liftE X.K W (dOp f da db)) :=
  PEimp (pe_op hr ha hb) (lift_op ho)
theorem de_cmp {op : CmpOp} {r : R2} {f : Sto → D → D → (D → Prop) → Prop} (hr : OpR X (compareOp op) r) (ho : OpD X.K r f) (ha : PE X a (liftE X.K W da)) (hb : PE X b (liftE X.K W db)) (hm : behindInMarks op b = false) : PE X (.Compare a [op] [b] pos) (liftE X.K W (dOp f da db)) :=
  PEimp (pe_cmpR hr ha hb hm) (lift_op ho)
theorem de_ix (hu : X.A.units + 64 < cLine) (ha : PE X a (liftE X.K W da)) (hb : PE X b (liftE X.K W db)) (hs : PlainIx b) : PE X (.Subscript a b pos) (liftE X.K W (dOp opIx da db)) :=
  PEimp (pe_ix (xr_any hu) ha hb hs) (lift_op od_ix)
def dNeg (da : DE) : DE := fun Ed env st Q => da Ed env st fun x st1 => match x with
  | .int i => Q (.int (-i)) st1
  | _ => False
theorem de_neg (ha : PE X a (liftE X.K W da)) : PE X (.UnaryOp .USub a pos) (liftE X.K W (dNeg da)) := PEimp (pe_un un_neg ha) fun σ H Q q => by
  obtain ⟨Ed, Pr, Fr, f, env, st, Q0, A, d, k⟩ := q
  refine ⟨Ed, Pr, Fr, f, env, st, _, A, d, fun x st1 h1 v Fr1 f1 H1 s1 p1 S1 r1 => ?_⟩
  split at h1
  · cases (show v = _ from r1)
    exact ⟨_, rfl, k _ _ h1 _ Fr1 f1 H1 s1 p1 S1 rfl⟩
  · exact h1.elim

/-! ### displays, arguments -/
def dNil : DA := fun _ _ st Q => Q [] st
def dCons (bx : Bool) (da : DE) (ds : DA) : DA := fun Ed env st Q => da Ed env st fun x st1 => ds Ed env (keep bx st1 x).2 fun xs st2 => Q ((keep bx st1 x).1 :: xs) st2
theorem da_nil : PA X [] (liftA X.K W dNil) := PAimp pa_nil fun σ H Q q => by
  obtain ⟨Ed, Pr, Fr, f, env, st, Q0, A, d, k⟩ := q
  exact k _ _ d _ Fr f H (Same.refl _) (List.prefix_refl _) A.toSim rfl
theorem da_cons (bx : Bool) (ha : PE X e (liftE X.K W da)) (hr : PA X es (liftA X.K W ds)) (hs : starEach (e :: es) X.env = (false, eval e X.env) :: starEach es X.env := by rfl) : PA X (e :: es) (liftA X.K W (dCons bx da ds)) := PAimp (pa_cons ha hr hs) fun σ H Q q => by
  obtain ⟨Ed, Pr, Fr, f, env, st, Q0, A, d, k⟩ := q
  refine ⟨Ed, Pr, Fr, f, env, st, _, A, d, fun x st1 h1 v Fr1 f1 H1 s1 p1 S1 r1 => ?_⟩
  obtain ⟨Fr2, f2, s2, p2, C2, r2⟩ := r1.keep bx S1.toSimC
  have A2 := A.up (s1.trans s2) (p1.trans p2) (S1.up s2 p2 C2)
  refine ⟨Ed, Pr, Fr2, f2, env, _, _, A2, h1, fun xs st2 h2 vs Fr3 f3 H3 s3 p3 S3 r3 => ?_⟩
  exact k _ _ h2 _ Fr3 f3 H3 ((s1.trans s2).trans s3) ((p1.trans p2).trans p3) S3 ⟨v, vs, rfl, Rep.mono s3 p3 _ _ r2, r3⟩
theorem liftA1 {K : PySem.W.Frag} {W : WX} {ds : DA} {σ : L2.St} {H : Hp} {Ed : EdT} {Fr : Hp} {f : List Addr} {env : Slots} {st : Sto} {R : List D → Sto → Prop} {Q : List V → Hp → Prop} (A : At K W Ed Pr Fr f env st σ H)
    (h : ds Ed env st R)
    (k : ∀ xs st1 vs Fr' f' H', R xs st1 → Same Fr Fr' → f <+: f' → Sim K Pr Fr' f' env st1 σ H' → Reps K Fr' f' xs vs → Q vs H') : liftA K W ds σ H Q :=
  ⟨Ed, Pr, Fr, f, env, st, _, A, h, fun xs st1 h1 vs Fr1 f1 H1 s1 p1 S1 r1 => k _ _ _ _ _ _ h1 s1 p1 S1 r1⟩
def dTup (ds : DA) : DE := fun Ed env st Q => ds Ed env st fun xs st1 => xs.length ≤ sizeLine ∧ Q (.tup xs) st1
def dLst (ds : DA) : DE := fun Ed env st Q => ds Ed env st fun xs st1 => xs.length ≤ sizeLine ∧ Q (.tl xs) st1
theorem de_tup {k} (h : PA X es (liftA X.K W ds)) : PE X (.Tuple es k pos) (liftE X.K W (dTup ds)) := PEimp (pe_tup h) fun σ H Q q => by
  obtain ⟨Ed, Pr, Fr, f, env, st, Q0, A, d, k⟩ := q
  refine liftA1 A d fun xs st1 vs Fr1 f1 H1 h1 s1 p1 S1 r1 => ⟨by rw [← r1.length]; exact h1.1, fun p hp => ?_⟩
  obtain ⟨sm, S', rx⟩ := lay_tup S1.toSimC hp r1
  exact k _ _ h1.2 _ _ f1 _ (s1.trans sm) p1 (S1.up sm (List.prefix_refl _) S') rx
theorem de_lst (h : PA X es (liftA X.K W ds)) : PE X (.List es pos) (liftE X.K W (dLst ds)) := PEimp (pe_lst h) fun σ H Q q => by
  obtain ⟨Ed, Pr, Fr, f, env, st, Q0, A, d, k⟩ := q
  refine liftA1 A d fun xs st1 vs Fr1 f1 H1 h1 s1 p1 S1 r1 => ⟨by rw [← r1.length]; exact h1.1, fun p hp => ?_⟩
  obtain ⟨S', rx⟩ := lay_lst S1.toSimC hp r1
  exact k _ _ h1.2 _ _ f1 _ s1 p1 (S1.up (Same.refl _) (List.prefix_refl _) S') rx
/-- {} -/
def dDic0 : DE := fun _ _ st Q => Q (.td [] []) st
theorem de_dic0 : PE X (.Dict [] [] pos) (liftE X.K W dDic0) := PEimp pe_dnewK fun σ H Q q => by
  obtain ⟨Ed, Pr, Fr, f, env, st, Q0, A, d, k⟩ := q
  intro p hp
  obtain ⟨S', rx⟩ := lay_dic (ks := []) (ds := []) (kvs := []) A.toSimC hp rfl rfl
  exact k _ _ d _ _ f _ (Same.refl _) (List.prefix_refl _) (A.toSim.up (Same.refl _) (List.prefix_refl _) S') rx

/-! ### slices -/
def oNone : DO := fun _ _ st Q => Q none st
def oSome (de : DE) : DO := fun Ed env st Q => de Ed env st fun x st1 => match x with
  | .int i => Q (some i) st1
  | _ => False
theorem do_none : PO X none (liftO X.K W oNone) := ⟨fun pins s σ H Q I q => po_none.run pins s σ H Q I (by
  obtain ⟨Ed, Pr, Fr, f, env, st, Q0, A, d, k⟩ := q
  exact k _ _ d Fr f H (Same.refl _) (List.prefix_refl _) A.toSim)⟩
theorem do_some (h : PE X e (liftE X.K W dx)) : PO X (some e) (liftO X.K W (oSome dx)) := ⟨fun pins s σ H Q I q => (po_some h).run pins s σ H Q I (by
  obtain ⟨Ed, Pr, Fr, f, env, st, Q0, A, d, k⟩ := q
  refine ⟨Ed, Pr, Fr, f, env, st, _, A, d, fun x st1 h1 v Fr1 f1 H1 s1 p1 S1 r1 => ?_⟩
  split at h1
  · cases (show v = _ from r1)
    exact ⟨_, rfl, k _ _ h1 Fr1 f1 H1 s1 p1 S1⟩
  · exact h1.elim)⟩
theorem liftO1 {K : PySem.W.Frag} {W : WX} {d : DO} {σ : L2.St} {H : Hp} {Ed : EdT} {Fr : Hp} {f : List Addr} {env : Slots} {st : Sto} {R : Option Int → Sto → Prop} {Q : Option Int → Hp → Prop} (A : At K W Ed Pr Fr f env st σ H)
    (h : d Ed env st R) (k : ∀ x st1 Fr' f' H', R x st1 → Same Fr Fr' → f <+: f' → Sim K Pr Fr' f' env st1 σ H' → Q x H') : liftO K W d σ H Q :=
  ⟨Ed, Pr, Fr, f, env, st, _, A, h, fun x st1 h1 Fr1 f1 H1 s1 p1 S1 => k _ _ _ _ _ h1 s1 p1 S1⟩
theorem de_slice {lo hi : Option Expr} {dl dh : DO} (he : PE X e (liftE X.K W dx)) (hl : PO X lo (liftO X.K W dl)) (hh : PO X hi (liftO X.K W dh)) : PE X (.Subscript e (.Slice lo hi none p2) pos) (liftE X.K W (dSl dx dl dh)) :=
  PEimp (pe_slice sr_any he hl hh) fun σ H Q q => by
  obtain ⟨Ed, Pr, Fr, f, env, st, Q0, A, d, k⟩ := q
  refine lift1 (R := fun x st1 => dl Ed env st1 fun l st2 => dh Ed env st2 fun h st3 => opSl st3 x l h fun z => Q0 z st3) A d fun x st1 v Fr1 f1 H1 h1 s1 p1 S1 r1 => ?_
  have A1 := A.up s1 p1 S1
  refine liftO1 A1 h1 fun l st2 Fr2 f2 H2 h2 s2 p2 S2 => ?_
  refine liftO1 (A1.up s2 p2 S2) h2 fun hh st3 Fr3 f3 H3 h3 s3 p3 S3 => ?_
  exact sl_rep S3.toSimC (Rep.mono (s2.trans s3) (p2.trans p3) _ _ r1) h3 fun z w Fr4 H4 hz s4 S4 rz => k _ _ hz w Fr4 f3 H4 (((s1.trans s2).trans s3).trans s4) ((p1.trans p2).trans p3) (S3.up s4 (List.prefix_refl _) S4) rz
def dRev (da : DE) : DE := fun Ed env st Q => da Ed env st fun x st1 => match x with
  | .sl ds => Q (.tl ds.reverse) st1
  | x => match lisOf st1 (frz x) with
    | some ds => Q (.tl ds.reverse) st1
    | none => False
theorem de_rev {k : Nat} (ha : PE X a (liftE X.K W da)) : PE X (.Subscript a (.Slice none none (some (.UnaryOp .USub (.Constant (.int 1) k p1) p2)) p3) pos) (liftE X.K W (dRev da)) := PEimp (pe_revL ha) fun σ H Q q => by
  obtain ⟨Ed, Pr, Fr, f, env, st, Q0, A, d, k⟩ := q
  refine ⟨Ed, Pr, Fr, f, env, st, _, A, d, fun x st1 h1 v Fr1 f1 H1 s1 p1 S1 r1 => ?_⟩
  split at h1
  · obtain ⟨l, vs, rfl, h2, r⟩ := r1
    refine ⟨l, vs, rfl, S1.frL h2, fun p hp => ?_⟩
    obtain ⟨S', rx⟩ := lay_lst S1.toSimC hp r.reverse
    exact k _ _ h1 _ _ f1 _ s1 p1 (S1.up (Same.refl _) (List.prefix_refl _) S') rx
  · split at h1
    · rename_i ds e
      obtain ⟨Fr2, C2, s2, r2⟩ := r1.frz S1.toSimC
      obtain ⟨l, vs, rfl, h2, r⟩ := listOf_rep C2 e r2
      refine ⟨l, vs, rfl, .inl (.inl h2), fun p hp => ?_⟩
      obtain ⟨S', rx⟩ := lay_lst C2 hp r.reverse
      exact k _ _ h1 _ _ f1 _ (s1.trans s2) p1 (S1.up s2 (List.prefix_refl _) S') rx
    · exact h1.elim

/-! ### tests -/
def dTruth (da : DE) : DT := fun Ed env st Q => da Ed env st fun x st1 => opTru st1 (frz x) fun b => Q b st1
theorem lift_tru {K : PySem.W.Frag} (σ : L2.St) (H : Hp) (Q : Bool → Hp → Prop) (q : liftT K W (dTruth da) σ H Q) : liftE K W da σ H fun x H' => ∃ k, TruV K x H' k ∧ Q k H' := by
  obtain ⟨Ed, Pr, Fr, f, env, st, Q0, A, d, k⟩ := q
  refine lift1 (R := fun x st1 => opTru st1 x fun b => Q0 b st1) A d fun x st1 v Fr1 f1 H1 h1 s1 p1 S1 r1 => ?_
  obtain ⟨b, hb, h2⟩ := tru_rep S1.toSimC r1 h1
  exact ⟨b, hb, k _ _ h2 Fr1 f1 H1 s1 p1 S1⟩
/-- a name, a call, a subscript .. as a test -/
theorem dt_tru (ha : PE X a (liftE X.K W da)) (he : ∀ whole, isTrue a X.env whole = (do let v ← whole; standAt a.pos; holding [v] (truthy v)) := by intro _; rfl) : PT X a (liftT X.K W (dTruth da)) := PTimp (pt_truth ha he) lift_tru
def dBool (da : DE) : DT := fun Ed env st Q => da Ed env st fun x st1 => match x with
  | .bl b => Q b st1
  | _ => False
theorem lift_bool {K : PySem.W.Frag} (σ : L2.St) (H : Hp) (Q : Bool → Hp → Prop) (q : liftT K W (dBool da) σ H Q) : liftE K W da σ H fun x H' => ∃ k, x = .bl k ∧ Q k H' := by
  obtain ⟨Ed, Pr, Fr, f, env, st, Q0, A, d, k⟩ := q
  refine ⟨Ed, Pr, Fr, f, env, st, _, A, d, fun x st1 h1 v Fr1 f1 H1 s1 p1 S1 r1 => ?_⟩
  split at h1
  · cases (show v = _ from r1)
    exact ⟨_, rfl, k _ _ h1 Fr1 f1 H1 s1 p1 S1⟩
  · exact h1.elim
theorem dt_cmp {op : CmpOp} {r : R2} {f : Sto → D → D → (D → Prop) → Prop} (hr : OpR X (compareOp op) r) (ho : OpD X.K r f) (ha : PE X a (liftE X.K W da)) (hb : PE X b (liftE X.K W db)) (hm : behindInMarks op b = false) : PT X (.Compare a [op] [b] pos) (liftT X.K W (dBool (dOp f da db))) :=
  PTimp (pt_cmpR hr ha hb hm) fun σ H Q q => by
  obtain ⟨Ed, Pr, Fr, f, env, st, Q0, A, d, k⟩ := q
  refine lift_op ho σ H _ ⟨Ed, Pr, Fr, f, env, st, _, A, d, fun x st1 h1 v Fr1 f1 H1 s1 p1 S1 r1 => ?_⟩
  split at h1
  · cases (show v = _ from r1)
    exact ⟨_, rfl, k _ _ h1 Fr1 f1 H1 s1 p1 S1⟩
  · exact h1.elim
def dAnd (t u : DT) : DT := fun Ed env st Q => t Ed env st fun c st1 => if c = true then u Ed env st1 Q else Q false st1
def dOr (t u : DT) : DT := fun Ed env st Q => t Ed env st fun c st1 => if c = true then Q true st1 else u Ed env st1 Q
def dNot (t : DT) : DT := fun Ed env st Q => t Ed env st fun c st1 => Q (!c) st1
variable {t u : DT}
theorem dw_one (h : PW X e (liftT X.K W t)) : PT X e (liftT X.K W t) := h.pt
theorem dw_and1 (ha : PT X a (liftT X.K W t)) : PW X (.BoolOp .And [a] pos) (liftT X.K W t) := pw_and1 ha
theorem dw_or1 (ha : PT X a (liftT X.K W t)) : PW X (.BoolOp .Or [a] pos) (liftT X.K W t) := pw_or1 ha
theorem dw_and (ha : PT X a (liftT X.K W t)) (hb : PW X (.BoolOp .And (b :: rest) pos) (liftT X.K W u)) : PW X (.BoolOp .And (a :: b :: rest) pos) (liftT X.K W (dAnd t u)) := PWimp (pw_and ha hb) fun σ H Q q => by
  obtain ⟨Ed, Pr, Fr, f, env, st, Q0, A, d, k⟩ := q
  refine ⟨Ed, Pr, Fr, f, env, st, _, A, d, fun x st1 h1 Fr1 f1 H1 s1 p1 S1 => ?_⟩
  cases x with
  | true => exact ⟨Ed, Pr, Fr1, f1, env, st1, _, A.up s1 p1 S1, h1, fun y st2 h2 Fr2 f2 H2 s2 p2 S2 => k _ _ h2 Fr2 f2 H2 (s1.trans s2) (p1.trans p2) S2⟩
  | false => exact k _ _ h1 Fr1 f1 H1 s1 p1 S1
theorem dw_or (ha : PT X a (liftT X.K W t)) (hb : PW X (.BoolOp .Or (b :: rest) pos) (liftT X.K W u)) : PW X (.BoolOp .Or (a :: b :: rest) pos) (liftT X.K W (dOr t u)) := PWimp (pw_or ha hb) fun σ H Q q => by
  obtain ⟨Ed, Pr, Fr, f, env, st, Q0, A, d, k⟩ := q
  refine ⟨Ed, Pr, Fr, f, env, st, _, A, d, fun x st1 h1 Fr1 f1 H1 s1 p1 S1 => ?_⟩
  cases x with
  | true => exact k _ _ h1 Fr1 f1 H1 s1 p1 S1
  | false => exact ⟨Ed, Pr, Fr1, f1, env, st1, _, A.up s1 p1 S1, h1, fun y st2 h2 Fr2 f2 H2 s2 p2 S2 => k _ _ h2 Fr2 f2 H2 (s1.trans s2) (p1.trans p2) S2⟩
theorem dt_not (ha : PT X a (liftT X.K W t)) : PT X (.UnaryOp .Not a pos) (liftT X.K W (dNot t)) := PTimp (pt_not ha) fun σ H Q q => by
  obtain ⟨Ed, Pr, Fr, f, env, st, Q0, A, d, k⟩ := q
  exact ⟨Ed, Pr, Fr, f, env, st, _, A, d, fun x st1 h1 Fr1 f1 H1 s1 p1 S1 => k _ _ h1 Fr1 f1 H1 s1 p1 S1⟩
/-! as values -/
def dAndV (da db : DE) : DE := fun Ed env st Q => da Ed env st fun x st1 => opTru st1 (frz x) fun b => if b = true then db Ed env st1 Q else Q (frz x) st1
def dOrV (da db : DE) : DE := fun Ed env st Q => da Ed env st fun x st1 => opTru st1 (frz x) fun b => if b = true then Q (frz x) st1 else db Ed env st1 Q
def dNotV (t : DE) : DE := fun Ed env st Q => t Ed env st fun x st1 => opTru st1 (frz x) fun b => Q (.bl (!b)) st1
theorem de_one {op} (ha : PE X a (liftE X.K W da)) : PE X (.BoolOp op [a] pos) (liftE X.K W da) := pe_one ha
theorem de_and (ha : PE X a (liftE X.K W da)) (hb : PE X (.BoolOp .And (b :: rest) pos) (liftE X.K W db)) : PE X (.BoolOp .And (a :: b :: rest) pos) (liftE X.K W (dAndV da db)) := PEimp (pe_andT ha hb) fun σ H Q q => by
  obtain ⟨Ed, Pr, Fr, f, env, st, Q0, A, d, k⟩ := q
  refine lift1 (R := fun x st1 => opTru st1 x fun b => if b = true then db Ed env st1 Q0 else Q0 x st1) A d fun x st1 v Fr1 f1 H1 h1 s1 p1 S1 r1 => ?_
  obtain ⟨b, hb, h2⟩ := tru_rep S1.toSimC r1 h1
  refine ⟨b, hb, ?_⟩
  cases b with
  | true => exact ⟨Ed, Pr, Fr1, f1, env, st1, _, A.up s1 p1 S1, h2, fun y st2 h2 w Fr2 f2 H2 s2 p2 S2 r2 => k _ _ h2 w Fr2 f2 H2 (s1.trans s2) (p1.trans p2) S2 r2⟩
  | false => exact k _ _ h2 v Fr1 f1 H1 s1 p1 S1 (.of r1)
theorem de_or (ha : PE X a (liftE X.K W da)) (hb : PE X (.BoolOp .Or (b :: rest) pos) (liftE X.K W db)) : PE X (.BoolOp .Or (a :: b :: rest) pos) (liftE X.K W (dOrV da db)) := PEimp (pe_orT ha hb) fun σ H Q q => by
  obtain ⟨Ed, Pr, Fr, f, env, st, Q0, A, d, k⟩ := q
  refine lift1 (R := fun x st1 => opTru st1 x fun b => if b = true then Q0 x st1 else db Ed env st1 Q0) A d fun x st1 v Fr1 f1 H1 h1 s1 p1 S1 r1 => ?_
  obtain ⟨b, hb, h2⟩ := tru_rep S1.toSimC r1 h1
  refine ⟨b, hb, ?_⟩
  cases b with
  | true => exact k _ _ h2 v Fr1 f1 H1 s1 p1 S1 (.of r1)
  | false => exact ⟨Ed, Pr, Fr1, f1, env, st1, _, A.up s1 p1 S1, h2, fun y st2 h2 w Fr2 f2 H2 s2 p2 S2 r2 => k _ _ h2 w Fr2 f2 H2 (s1.trans s2) (p1.trans p2) S2 r2⟩
theorem de_not (ha : PE X a (liftE X.K W da)) : PE X (.UnaryOp .Not a pos) (liftE X.K W (dNotV da)) := PEimp (pe_notT ha) fun σ H Q q => by
  obtain ⟨Ed, Pr, Fr, f, env, st, Q0, A, d, k⟩ := q
  refine lift1 (R := fun x st1 => opTru st1 x fun b => Q0 (.bl (!b)) st1) A d fun x st1 v Fr1 f1 H1 h1 s1 p1 S1 r1 => ?_
  obtain ⟨b, hb, h2⟩ := tru_rep S1.toSimC r1 h1
  exact ⟨b, hb, k _ _ h2 _ Fr1 f1 H1 s1 p1 S1 rfl⟩
def dIf (t : DT) (da db : DE) : DE := fun Ed env st Q => t Ed env st fun c st1 => if c = true then da Ed env st1 Q else db Ed env st1 Q
theorem de_if {c : Expr} (hc : PT X c (liftT X.K W t)) (ha : PE X a (liftE X.K W da)) (hb : PE X b (liftE X.K W db)) : PE X (.IfExp c a b pos) (liftE X.K W (dIf t da db)) := PEimp (pe_ifExp hc ha hb) fun σ H Q q => by
  obtain ⟨Ed, Pr, Fr, f, env, st, Q0, A, d, k⟩ := q
  refine ⟨Ed, Pr, Fr, f, env, st, _, A, d, fun x st1 h1 Fr1 f1 H1 s1 p1 S1 => ?_⟩
  cases x with
  | true => exact ⟨Ed, Pr, Fr1, f1, env, st1, _, A.up s1 p1 S1, h1, fun y st2 h2 w Fr2 f2 H2 s2 p2 S2 r2 => k _ _ h2 w Fr2 f2 H2 (s1.trans s2) (p1.trans p2) S2 r2⟩
  | false => exact ⟨Ed, Pr, Fr1, f1, env, st1, _, A.up s1 p1 S1, h1, fun y st2 h2 w Fr2 f2 H2 s2 p2 S2 r2 => k _ _ h2 w Fr2 f2 H2 (s1.trans s2) (p1.trans p2) S2 r2⟩
end
end DW

/-! DW6: built-in functions and methods. -/
namespace DW
open PySem PySem.Spec PyProof.Rows L2

/-- a call of a built-in does what op does on data; the store stays -/
def CallD (K : PySem.W.Frag) (r : List V → Hp → VK → Prop) (op : Sto → List D → (D → Prop) → Prop) : Prop :=
  ∀ (Pr Fr : Hp) (f : List Addr) (st : Sto) (H : Hp) (xs : List D) (vs : List V) (k : D → Prop) (Q : VK), SimC K Pr Fr f st H → Reps K Fr f xs vs → op st xs k →
    (∀ z w Fr' H', k z → Same Fr Fr' → SimC K Pr Fr' f st H' → RepX K Pr Fr' f H' z w → Q w H') → r vs H Q
def dCB (op : Sto → List D → (D → Prop) → Prop) (ds : DA) : DE := fun Ed env st Q => ds Ed env st fun xs st1 => op st1 xs fun z => Q z st1
theorem lift_cb {K : PySem.W.Frag} {W : WX} {r : List V → Hp → VK → Prop} {op : Sto → List D → (D → Prop) → Prop} {ds : DA} (ho : CallD K r op) (σ : L2.St) (H : Hp) (Q : VK) (q : liftE K W (dCB op ds) σ H Q) : tCB r (liftA K W ds) σ H Q := by
  obtain ⟨Ed, Pr, Fr, f, env, st, Q0, A, d, k⟩ := q
  refine liftA1 A d fun xs st1 vs Fr1 f1 H1 h1 s1 p1 S1 r1 => ?_
  exact ho Pr Fr1 f1 st1 H1 xs vs _ Q S1.toSimC r1 h1 fun z w Fr2 H2 hz s2 C2 rz => k z st1 hz w Fr2 f1 H2 (s1.trans s2) p1 (S1.up s2 (List.prefix_refl _) C2) rz
section
variable {X : Cx} {W : WX} {e : Expr} {es : List Expr} {ds : DA} {x : Str} {p pos : Pos} {id T : String} {r : List V → Hp → VK → Prop} {op : Sto → List D → (D → Prop) → Prop}
theorem de_callB (hc : CallR X (.builtin id) r) (ho : CallD X.K r op) (hg : Gl X x) (hm : X.mg x = none) (hv : bootBuiltins x = some (.builtin id)) (ha : PA X (e :: es) (liftA X.K W ds)) (hn : x ≠ "__name__" := by decide) (hdb : (x == ("__debug__" : Str)) = false := by decide)
    (he : starEach (e :: es) X.env = (false, eval e X.env) :: starEach es X.env := by rfl) (hpl : (backTo pos (starEach es X.env)).any (·.1) = false := by rfl) : PE X (.Call (.Name x p) (e :: es) [] pos) (liftE X.K W (dCB op ds)) :=
  PEimp (pe_callB hc hg hm hv ha hn hdb he hpl) (lift_cb ho)
theorem de_callTy (hc : CallR X (.type T) r) (ho : CallD X.K r op) (hg : Gl X x) (hm : X.mg x = none) (hv : bootBuiltins x = some (.type T)) (ha : PA X (e :: es) (liftA X.K W ds)) (hn : x ≠ "__name__" := by decide) (hdb : (x == ("__debug__" : Str)) = false := by decide)
    (he : starEach (e :: es) X.env = (false, eval e X.env) :: starEach es X.env := by rfl) (hpl : (backTo pos (starEach es X.env)).any (·.1) = false := by rfl) : PE X (.Call (.Name x p) (e :: es) [] pos) (liftE X.K W (dCB op ds)) :=
  PEimp (pe_callTy hc hg hm hv ha hn hdb he hpl) (lift_cb ho)
end

/-! abs, max, min of two -/
def opAbs : Sto → List D → (D → Prop) → Prop := fun _ xs k => match xs with
  | [.int i] => k (.int (if i < 0 then -i else i))
  | _ => False
theorem cd_abs {K : PySem.W.Frag} : CallD K (fun xs H Q => ∃ i, xs = [.int i] ∧ Q (.int (if i < 0 then -i else i)) H) opAbs := by
  intro Pr Fr f st H xs vs k Q S r o q
  unfold opAbs at o
  split at o
  · obtain ⟨v, rfl, r1⟩ := r.one
    cases (show v = _ from r1)
    exact ⟨_, rfl, q _ _ Fr H o (Same.refl _) S rfl⟩
  · exact o.elim
def op2I (g : Int → Int → Int) : Sto → List D → (D → Prop) → Prop := fun _ xs k => match xs with
  | [.int i, .int j] => k (.int (g i j))
  | _ => False
theorem cd_2I {K : PySem.W.Frag} {g : Int → Int → Int} : CallD K (fun xs H Q => ∃ i j, xs = [.int i, .int j] ∧ Q (.int (g i j)) H) (op2I g) := by
  intro Pr Fr f st H xs vs k Q S r o q
  unfold op2I at o
  split at o
  · obtain ⟨v, u, rfl, r1, r2⟩ := r.two
    cases (show v = _ from r1); cases (show u = _ from r2)
    exact ⟨_, _, rfl, q _ _ Fr H o (Same.refl _) S rfl⟩
  · exact o.elim
abbrev opMax2 := op2I fun i j => if j > i then j else i
abbrev opMin2 := op2I fun i j => if j < i then j else i
/-! int, str, ord, chr, len -/
def rIntAny : List V → Hp → VK → Prop := fun xs H Q => ((∃ i, xs = [V.int i] ∧ Q (.int i) H) ∨ ∃ k, xs = [V.bl k] ∧ Q (.int (if k then 1 else 0)) H) ∨ ∃ a n, xs = [V.str a] ∧ PySem.intText? a = some n ∧ a.length ≤ 640 ∧ Q (.int n) H
theorem cr_int {X : Cx} : CallR X (.type "int") rIntAny := call_int1.or call_int_str
def opInt : Sto → List D → (D → Prop) → Prop := fun _ xs k => match xs with
  | [.int i] => k (.int i)
  | [.bl b] => k (.int (if b then 1 else 0))
  | [.str a] => a.length ≤ 640 ∧ (match PySem.intText? a with
    | some n => k (.int n)
    | none => False)
  | _ => False
theorem cd_int {K : PySem.W.Frag} : CallD K rIntAny opInt := by
  intro Pr Fr f st H xs vs k Q S r o q
  unfold opInt at o
  split at o
  · obtain ⟨v, rfl, r1⟩ := r.one; cases (show v = _ from r1)
    exact .inl (.inl ⟨_, rfl, q _ _ Fr H o (Same.refl _) S rfl⟩)
  · obtain ⟨v, rfl, r1⟩ := r.one; cases (show v = _ from r1)
    exact .inl (.inr ⟨_, rfl, q _ _ Fr H o (Same.refl _) S rfl⟩)
  · obtain ⟨v, rfl, r1⟩ := r.one; cases (show v = _ from r1)
    obtain ⟨o1, o⟩ := o
    split at o
    · rename_i n e
      exact .inr ⟨_, n, rfl, e, o1, q _ _ Fr H o (Same.refl _) S rfl⟩
    · exact o.elim
  · exact o.elim
def opStrI : Sto → List D → (D → Prop) → Prop := fun _ xs k => match xs with
  | [.int i] => i.natAbs.log2 < 1920 ∧ k (.str (toString i))
  | _ => False
theorem cd_strI {K : PySem.W.Frag} : CallD K (fun xs H Q => ∃ i, xs = [.int i] ∧ i.natAbs.log2 < 1920 ∧ Q (.str (toString i)) H) opStrI := by
  intro Pr Fr f st H xs vs k Q S r o q
  unfold opStrI at o
  split at o
  · obtain ⟨v, rfl, r1⟩ := r.one; cases (show v = _ from r1)
    exact ⟨_, rfl, o.1, q _ _ Fr H o.2 (Same.refl _) S rfl⟩
  · exact o.elim
def opOrd : Sto → List D → (D → Prop) → Prop := fun _ xs k => match xs with
  | [.str x] => x.length = 1 ∧ k (.int (x.cps.getD 0 0 : Nat))
  | _ => False
theorem cd_ord {K : PySem.W.Frag} : CallD K (fun xs H Q => ∃ x, xs = [.str x] ∧ x.length = 1 ∧ Q (.int (x.cps.getD 0 0 : Nat)) H) opOrd := by
  intro Pr Fr f st H xs vs k Q S r o q
  unfold opOrd at o
  split at o
  · obtain ⟨v, rfl, r1⟩ := r.one; cases (show v = _ from r1)
    exact ⟨_, rfl, o.1, q _ _ Fr H o.2 (Same.refl _) S rfl⟩
  · exact o.elim
def rLenAny (K : PySem.W.Frag) : List V → Hp → VK → Prop := fun xs H Q => (∃ p ys, xs = [V.ref p] ∧ (SqL K H p ys ∨ SqT K H p ys) ∧ Q (.int ys.length) H) ∨ (∃ z, xs = [V.str z] ∧ z.length ≤ sizeLine ∧ Q (.int z.length) H) ∨
  ∃ a kvs, xs = [V.ref a] ∧ Rd H a (.dK kvs) ∧ Q (.int kvs.length) H
theorem call_len_dic {X : Cx} : CallR X (.builtin "len") (fun xs H Q => ∃ a kvs, xs = [V.ref a] ∧ Rd H a (.dK kvs) ∧ Q (.int kvs.length) H) := by
  intro pins s σ H xs us Q I r h
  obtain ⟨a, kvs, rfl, e, q⟩ := h
  rw [Vals.ref1 r]
  exact d_len I e fun t s' I' => ⟨.int _, H, I', ⟨_, rfl⟩, q⟩
theorem cr_len {X : Cx} : CallR X (.builtin "len") (rLenAny X.K) := call_len_seq.or (call_len_str.or call_len_dic)
def opLen : Sto → List D → (D → Prop) → Prop := fun st xs k => match xs with
  | [.str z] => z.length ≤ sizeLine ∧ k (.int z.length)
  | [x] => (match seqOf st x with
    | some ds => k (.int ds.length)
    | none => match dicOf st x with
      | some kvs => k (.int kvs.length)
      | none => False)
  | _ => False
theorem cd_len {K : PySem.W.Frag} : CallD K (rLenAny K) opLen := by
  intro Pr Fr f st H xs vs k Q S r o q
  unfold opLen at o
  split at o
  · obtain ⟨v, rfl, r1⟩ := r.one; cases (show v = _ from r1)
    exact .inr (.inl ⟨_, rfl, o.1, q _ _ Fr H o.2 (Same.refl _) S rfl⟩)
  · obtain ⟨v, rfl, r1⟩ := r.one
    split at o
    · rename_i ds e
      obtain ⟨a, ys, rfl, h1, r⟩ := seqOf_rep S e r1
      exact .inl ⟨a, ys, rfl, h1, by rw [← r.length]; exact q _ _ Fr H o (Same.refl _) S rfl⟩
    · split at o
      · rename_i kvs e
        obtain ⟨a, us, rfl, h1, r⟩ := dicOf_rep S e r1
        exact .inr (.inr ⟨a, us, rfl, .inl h1, by rw [r.length]; exact q _ _ Fr H o (Same.refl _) S rfl⟩)
      · exact o.elim
  · exact o.elim
/-! divmod of a written or small divisor; the general one -/
def opDivmod : Sto → List D → (D → Prop) → Prop := fun _ xs k => match xs with
  | [.int i, .int j] => CDiv i j ∧ k (.tup [.int (i / j), .int (i % j)])
  | _ => False
theorem cd_divmod {K : PySem.W.Frag} : CallD K (fun xs H Q => ∃ i j, xs = [.int i, .int j] ∧ CDiv i j ∧ ∀ p, H p = none → Q (.ref p) (upd H p (.tup [.int (i / j), .int (i % j)]))) opDivmod := by
  intro Pr Fr f st H xs vs k Q S r o q
  unfold opDivmod at o
  split at o
  · obtain ⟨v, u, rfl, r1, r2⟩ := r.two
    cases (show v = _ from r1); cases (show u = _ from r2)
    rename_i i j
    refine ⟨_, _, rfl, o.1, fun p hp => ?_⟩
    obtain ⟨sm, S', rx⟩ := lay_tup (ds := [.int (i / j), .int (i % j)]) S hp (vs := [.int (i / j), .int (i % j)]) ⟨_, _, rfl, rfl, _, _, rfl, rfl, rfl⟩
    exact q _ _ _ _ o.2 sm S' rx
  · exact o.elim
/-! list, tuple -/
theorem cr_list {X : Cx} : CallR X (.type "list") (fun xs H Q => ∃ p ys, xs = [.ref p] ∧ (SqL X.K H p ys ∨ SqT X.K H p ys) ∧ ∀ l, H l = none → Q (.ref l) (upd H l (.lst ys))) := call_list_of
def opList : Sto → List D → (D → Prop) → Prop := fun st xs k => match xs with
  | [x] => (match seqOf st x with
    | some ds => k (.tl ds)
    | none => False)
  | _ => False
theorem cd_list {K : PySem.W.Frag} : CallD K (fun xs H Q => ∃ p ys, xs = [.ref p] ∧ (SqL K H p ys ∨ SqT K H p ys) ∧ ∀ l, H l = none → Q (.ref l) (upd H l (.lst ys))) opList := by
  intro Pr Fr f st H xs vs k Q S r o q
  unfold opList at o
  split at o
  · obtain ⟨v, rfl, r1⟩ := r.one
    split at o
    · rename_i ds e
      obtain ⟨a, ys, rfl, h1, r⟩ := seqOf_rep S e r1
      refine ⟨a, ys, rfl, h1, fun l hl => ?_⟩
      obtain ⟨S', rx⟩ := lay_lst S hl r
      exact q _ _ _ _ o (Same.refl _) S' rx
    · exact o.elim
  · exact o.elim
def opTuple : Sto → List D → (D → Prop) → Prop := fun st xs k => match xs with
  | [.tup ds] => k (.tup ds)
  | [.sl ds] => k (.tup ds)
  | [x] => (match lisOf st x with
    | some ds => k (.tup ds)
    | none => False)
  | _ => False
theorem cd_tuple {K : PySem.W.Frag} : CallD K (fun xs H Q => ∃ p ys, xs = [.ref p] ∧ ((SqL K H p ys ∧ ∀ l, H l = none → Q (.ref l) (upd H l (.tup ys))) ∨ (SqT K H p ys ∧ Q (.ref p) H))) opTuple := by
  intro Pr Fr f st H xs vs k Q S r o q
  unfold opTuple at o
  split at o
  · obtain ⟨v, rfl, a, ys, rfl, h1, r⟩ := r.one
    exact ⟨a, ys, rfl, .inr ⟨S.frT h1, q _ _ Fr H o (Same.refl _) S ⟨a, ys, rfl, h1, r⟩⟩⟩
  · obtain ⟨v, rfl, a, ys, rfl, h1, r⟩ := r.one
    refine ⟨a, ys, rfl, .inl ⟨S.frL h1, fun l hl => ?_⟩⟩
    obtain ⟨sm, S', rx⟩ := lay_tup S hl r
    exact q _ _ _ _ o sm S' rx
  · obtain ⟨v, rfl, r1⟩ := r.one
    split at o
    · rename_i ds e
      obtain ⟨a, ys, rfl, h1, r⟩ := listOf_rep S e r1
      refine ⟨a, ys, rfl, .inl ⟨.inl (.inl h1), fun l hl => ?_⟩⟩
      obtain ⟨sm, S', rx⟩ := lay_tup S hl r
      exact q _ _ _ _ o sm S' rx
    · exact o.elim
  · exact o.elim

/-! sum, any, all, sorted -/
def ints? : List D → Option (List Int)
  | [] => some []
  | .int i :: r => (ints? r).map (i :: ·)
  | _ :: _ => none
def bls? : List D → Option (List Bool)
  | [] => some []
  | .bl i :: r => (bls? r).map (i :: ·)
  | _ :: _ => none
def strs? : List D → Option (List Str)
  | [] => some []
  | .str i :: r => (strs? r).map (i :: ·)
  | _ :: _ => none
section
variable {K : PySem.W.Frag} {Fr : Hp} {f : List Addr}
theorem ints_rep : ∀ {ds : List D} {vs : List V} {ns : List Int}, ints? ds = some ns → Reps K Fr f ds vs → vs = ns.map V.int
  | [], vs, ns, e, r => by cases (show vs = [] from r); cases e; rfl
  | d :: ds, vs, ns, e, r => by
    obtain ⟨v, t, rfl, r1, r2⟩ := r
    cases d <;> first | (cases e; done) | skip
    rename_i i
    cases (show v = _ from r1)
    cases h : ints? ds with
    | none => simp [ints?, h] at e
    | some ms =>
      have e' : i :: ms = ns := by simpa [ints?, h] using e
      subst e'
      rw [ints_rep h r2]
      rfl
theorem bls_rep : ∀ {ds : List D} {vs : List V} {ns : List Bool}, bls? ds = some ns → Reps K Fr f ds vs → vs = ns.map V.bl
  | [], vs, ns, e, r => by cases (show vs = [] from r); cases e; rfl
  | d :: ds, vs, ns, e, r => by
    obtain ⟨v, t, rfl, r1, r2⟩ := r
    cases d <;> first | (cases e; done) | skip
    rename_i i
    cases (show v = _ from r1)
    cases h : bls? ds with
    | none => simp [bls?, h] at e
    | some ms =>
      have e' : i :: ms = ns := by simpa [bls?, h] using e
      subst e'
      rw [bls_rep h r2]
      rfl
theorem strs_rep : ∀ {ds : List D} {vs : List V} {ns : List Str}, strs? ds = some ns → Reps K Fr f ds vs → vs = ns.map V.str
  | [], vs, ns, e, r => by cases (show vs = [] from r); cases e; rfl
  | d :: ds, vs, ns, e, r => by
    obtain ⟨v, t, rfl, r1, r2⟩ := r
    cases d <;> first | (cases e; done) | skip
    rename_i i
    cases (show v = _ from r1)
    cases h : strs? ds with
    | none => simp [strs?, h] at e
    | some ms =>
      have e' : i :: ms = ns := by simpa [strs?, h] using e
      subst e'
      rw [strs_rep h r2]
      rfl
theorem reps_ints : ∀ ns : List Int, Reps K Fr f (ns.map D.int) (ns.map V.int)
  | [] => rfl
  | n :: ns => ⟨_, _, rfl, rfl, reps_ints ns⟩
theorem reps_strs : ∀ ns : List Str, Reps K Fr f (ns.map D.str) (ns.map V.str)
  | [] => rfl
  | n :: ns => ⟨_, _, rfl, rfl, reps_strs ns⟩
end
@[simp] theorem ints_map (ns : List Int) : ints? (ns.map D.int) = some ns := by
  induction ns with
  | nil => rfl
  | cons n ns ih => simp [ints?, ih]
@[simp] theorem bls_map (ns : List Bool) : bls? (ns.map D.bl) = some ns := by
  induction ns with
  | nil => rfl
  | cons n ns ih => simp [bls?, ih]
@[simp] theorem strs_map (ns : List Str) : strs? (ns.map D.str) = some ns := by
  induction ns with
  | nil => rfl
  | cons n ns ih => simp [strs?, ih]
def opSum : Sto → List D → (D → Prop) → Prop := fun st xs k => match xs with
  | [x] => (match (lisOf st x).bind ints? with
    | some ns => k (.int ns.sum)
    | none => False)
  | _ => False
theorem listOf_ints {K : PySem.W.Frag} {Fr : Hp} {f : List Addr} {st : Sto} {H : Hp} (S : SimC K Pr Fr f st H) {d : D} {v : V} {ns : List Int} (e : (lisOf st d).bind ints? = some ns) (r : Rep K Fr f d v) : ∃ a, v = .ref a ∧ H a = some (.lst (ns.map V.int)) := by
  cases h : lisOf st d with
  | none => rw [h] at e; cases e
  | some ds =>
    rw [h] at e
    obtain ⟨a, vs, rfl, h1, r⟩ := listOf_rep S h r
    rw [ints_rep (show ints? ds = some ns from e) r] at h1
    exact ⟨a, rfl, h1⟩
theorem cd_sum {K : PySem.W.Frag} : CallD K (L2.rSum K) opSum := by
  intro Pr Fr f st H xs vs k Q S r o q
  unfold opSum at o
  split at o
  · obtain ⟨v, rfl, r1⟩ := r.one
    split at o
    · rename_i ns e
      obtain ⟨a, rfl, h1⟩ := listOf_ints S e r1
      exact ⟨a, ns, rfl, .of h1, q _ _ Fr H o (Same.refl _) S rfl⟩
    · exact o.elim
  · exact o.elim
def opAnyAll (g : List Bool → Bool) : Sto → List D → (D → Prop) → Prop := fun st xs k => match xs with
  | [x] => (match (lisOf st x).bind bls? with
    | some ns => k (.bl (g ns))
    | none => False)
  | _ => False
theorem cd_anyAll {K : PySem.W.Frag} {g : List Bool → Bool} : CallD K (fun vs H Q => ∃ (a : Addr) (bs : List Bool), vs = [V.ref a] ∧ SqL K H a (bs.map V.bl) ∧ Q (.bl (g bs)) H) (opAnyAll g) := by
  intro Pr Fr f st H xs vs k Q S r o q
  unfold opAnyAll at o
  split at o
  · rename_i x
    obtain ⟨v, rfl, r1⟩ := r.one
    split at o
    · rename_i ns e
      cases h : lisOf st x with
      | none => rw [h] at e; cases e
      | some ds =>
        rw [h] at e
        obtain ⟨a, vs, rfl, h1, r⟩ := listOf_rep S h r1
        rw [bls_rep (show bls? ds = some ns from e) r] at h1
        exact ⟨a, ns, rfl, .of h1, q _ _ Fr H o (Same.refl _) S rfl⟩
    · exact o.elim
  · exact o.elim
abbrev opAny := opAnyAll fun bs => bs.any id
abbrev opAll := opAnyAll fun bs => bs.all id
/-- sorted of a list of ints or texts, of a dict with text keys -/
def rSortedAny (K : PySem.W.Frag) : List V → Hp → VK → Prop := fun xs H Q => rSortedI K xs H Q ∨ rSortedS K xs H Q ∨ ∃ (a : Addr) (kvs : List (Key × V)) (ks : List Str), xs = [V.ref a] ∧ Rd H a (.dK kvs) ∧ kvs.map (·.1) = ks.map Sum.inr ∧ ks.length < 64 ∧
    ∀ ys p, ys.Perm ks → sortedS ys = true → H p = none → Q (.ref p) (upd H p (.lst (ys.map V.str)))
theorem cr_sortedAny {X : Cx} (hc : X.calm = true) : CallR X (.builtin "sorted") (rSortedAny X.K) := cr_sortedI.or (cr_sortedS.or (call_sortedD hc))
def strKeys? : List Key → Option (List Str)
  | [] => some []
  | .inr x :: r => (strKeys? r).map (x :: ·)
  | .inl _ :: _ => none
theorem strKeys_eq : ∀ {ks : List Key} {xs : List Str}, strKeys? ks = some xs → ks = xs.map Sum.inr
  | [], xs, e => by cases e; rfl
  | .inl _ :: r, xs, e => by cases e
  | .inr x :: r, xs, e => by
    cases h : strKeys? r with
    | none => simp [strKeys?, h] at e
    | some ms =>
      have e' : x :: ms = xs := by simpa [strKeys?, h] using e
      subst e'
      rw [strKeys_eq h]
      rfl
@[simp] theorem strKeys_map (xs : List Str) : strKeys? (xs.map Sum.inr) = some xs := by
  induction xs with
  | nil => rfl
  | cons n ns ih => simp [strKeys?, ih]
def opSorted : Sto → List D → (D → Prop) → Prop := fun st xs k => match xs with
  | [x] => (match lisOf st x with
    | some ds => (match ints? ds with
      | some ns => ∀ ms : List Int, ms.Perm ns → ms.Pairwise (· ≤ ·) → k (.tl (ms.map D.int))
      | none => match strs? ds with
        | some zs => zs.length < 64 ∧ ∀ ys : List Str, ys.Perm zs → sortedS ys = true → k (.tl (ys.map D.str))
        | none => False)
    | none => match dicOf st x with
      | some kvs => (match strKeys? (kvs.map (·.1)) with
        | some zs => zs.length < 64 ∧ ∀ ys : List Str, ys.Perm zs → sortedS ys = true → k (.tl (ys.map D.str))
        | none => False)
      | none => False)
  | _ => False
theorem cd_sorted {K : PySem.W.Frag} : CallD K (rSortedAny K) opSorted := by
  intro Pr Fr f st H xs vs k Q S r o q
  unfold opSorted at o
  split at o
  · obtain ⟨v, rfl, r1⟩ := r.one
    split at o
    · rename_i ds e
      obtain ⟨a, us, rfl, h1, r⟩ := listOf_rep S e r1
      split at o
      · rename_i ns e1
        rw [ints_rep e1 r] at h1
        refine .inl ⟨a, ns, rfl, .of h1, fun ms p hp hs hn => ?_⟩
        obtain ⟨S', rx⟩ := lay_lst S hn (reps_ints ms)
        exact q _ _ _ _ (o ms hp hs) (Same.refl _) S' rx
      · split at o
        · rename_i zs e1
          rw [strs_rep e1 r] at h1
          refine .inr (.inl ⟨a, zs, rfl, .of h1, o.1, fun ms p hp hs hn => ?_⟩)
          obtain ⟨S', rx⟩ := lay_lst S hn (reps_strs ms)
          exact q _ _ _ _ (o.2 ms hp hs) (Same.refl _) S' rx
        · exact o.elim
    · split at o
      · rename_i kvs e
        obtain ⟨a, us, rfl, h1, r⟩ := dicOf_rep S e r1
        split at o
        · rename_i zs e1
          refine .inr (.inr ⟨a, us, zs, rfl, .inl h1, by rw [r.1]; exact strKeys_eq e1, o.1, fun ms p hp hs hn => ?_⟩)
          obtain ⟨S', rx⟩ := lay_lst S hn (reps_strs ms)
          exact q _ _ _ _ (o.2 ms hp hs) (Same.refl _) S' rx
        · exact o.elim
      · exact o.elim
  · exact o.elim

/-! isinstance of a built-in class -/
def typN (st : Sto) : D → Option String
  | .non => some "NoneType"
  | .bl _ => some "bool"
  | .int _ => some "int"
  | .str _ => some "str"
  | .tup _ => some "tuple"
  | .sl _ => some "list"
  | .fl _ => some "list"
  | .fd _ _ => some "dict"
  | .ref n => match st[n]? with
    | some (.lst _) => some "list"
    | some (.dic _) => some "dict"
    | _ => none
  | _ => none
def isiB (t c : String) : Bool := t == c || (t == "bool" && c == "int")
def opIsi : Sto → List D → (D → Prop) → Prop := fun st xs k => match xs with
  | [x, .ty c] => c ∈ ["int", "bool", "str", "tuple", "list"] ∧ (match typN st x with
    | some t => k (.bl (isiB t c))
    | none => False)
  | _ => False
theorem kit_all : ∀ t ∈ ["NoneType", "bool", "int", "str", "tuple", "list", "dict"], ∀ c ∈ ["int", "bool", "str", "tuple", "list"], kitB t c = some (isiB t c) := by decide +kernel
theorem tyx_L {K : PySem.W.Frag} {H : Hp} {a : Addr} {xs : List V} (h : SqL K H a xs) : TyX K H (.ref a) (.type "list") := by
  rcases h with (h | ⟨o, h⟩) | ⟨o, its, n, h1, h2, _⟩
  · exact .base (.lst h)
  · exact .base (.frz h)
  · exact .kList h1 h2
theorem tyx_T {K : PySem.W.Frag} {H : Hp} {a : Addr} {xs : List V} (h : SqT K H a xs) : TyX K H (.ref a) (.type "tuple") := by
  rcases h with (h | ⟨o, h⟩) | ⟨o, its, n, h1, h2, _⟩
  · exact .base (.tup h)
  · exact .fTuple h
  · exact .kTuple h1 h2
theorem typN_rep {K : PySem.W.Frag} {Fr : Hp} {f : List Addr} {st : Sto} {H : Hp} (S : SimC K Pr Fr f st H) {d : D} {v : V} {t : String} (e : typN st d = some t) (r : Rep K Fr f d v) : TyX K H v (.type t) ∧ t ∈ ["NoneType", "bool", "int", "str", "tuple", "list", "dict"] := by
  unfold typN at e
  split at e
  · cases e; cases (show v = _ from r); exact ⟨.base .non, by decide⟩
  · cases e; cases (show v = _ from r); exact ⟨.base (.bl _), by decide⟩
  · cases e; cases (show v = _ from r); exact ⟨.base (.int _), by decide⟩
  · cases e; cases (show v = _ from r); exact ⟨.base (.str _), by decide⟩
  · cases e; obtain ⟨a, vs, rfl, h, _⟩ := r; exact ⟨tyx_T (S.frT h), by decide⟩
  · cases e; obtain ⟨a, vs, rfl, h, _⟩ := r; exact ⟨tyx_L (S.frL h), by decide⟩
  · cases e; obtain ⟨a, vs, rfl, h, _⟩ := r; exact ⟨.base (.lst (S.fr _ _ h)), by decide⟩
  · cases e; obtain ⟨a, vs, rfl, h, _⟩ := r; exact ⟨.base (.dK (S.fr _ _ h)), by decide⟩
  · obtain ⟨a, h1, rfl⟩ := r
    split at e
    · rename_i h
      cases e
      obtain ⟨b, vs, h2, h3, _⟩ := S.lst h
      rw [h1] at h2; cases h2
      exact ⟨.base (.lst h3), by decide⟩
    · rename_i h
      cases e
      obtain ⟨b, vs, h2, h3, _⟩ := S.dic h
      rw [h1] at h2; cases h2
      exact ⟨.base (.dK h3), by decide⟩
    · cases e
  · cases e
theorem cd_isi {K : PySem.W.Frag} : CallD K (rIsi K) opIsi := by
  intro Pr Fr f st H xs vs k Q S r o q
  unfold opIsi at o
  split at o
  · obtain ⟨v, u, rfl, r1, r2⟩ := r.two
    cases (show u = _ from r2)
    obtain ⟨hc, o⟩ := o
    split at o
    · rename_i t e
      obtain ⟨ty, ht⟩ := typN_rep S e r1
      exact ⟨_, _, _, _, _, rfl, .ty _, ty, kit_ty (kit_all t ht _ hc), q _ _ Fr H o (Same.refl _) S rfl⟩
    · exact o.elim
  · exact o.elim
end DW

/-! DW7: methods of built-in types; calls of defs. -/
namespace DW
open PySem PySem.Spec PyProof.Rows L2

def tyOk (st : Sto) (T : String) (x : D) : Prop := match x with
  | .str _ => T = "str"
  | .int _ => T = "int"
  | x => (T = "list" ∧ (lisOf st x).isSome = true) ∨ (T = "dict" ∧ (dicOf st x).isSome = true)
theorem tyOk_rep {K : PySem.W.Frag} {Fr : Hp} {f : List Addr} {st : Sto} {H : Hp} (S : SimC K Pr Fr f st H) {d : D} {v : V} {T : String} (e : tyOk st T d) (r : Rep K Fr f d v) : tyV K T v H := by
  unfold tyOk at e
  split at e
  · cases (show v = _ from r); exact e
  · cases (show v = _ from r); exact e
  · rcases e with ⟨e1, e2⟩ | ⟨e1, e2⟩
    · obtain ⟨ds, h⟩ := Option.isSome_iff_exists.mp e2
      obtain ⟨a, vs, rfl, h1, _⟩ := listOf_rep S h r
      exact .inl ⟨e1, vs, .of h1⟩
    · obtain ⟨ds, h⟩ := Option.isSome_iff_exists.mp e2
      obtain ⟨a, vs, rfl, h1, _⟩ := dicOf_rep S h r
      exact .inr (.inr (.inl ⟨e1, .inl ⟨vs, h1⟩⟩))
/-- a method does what op does on data -/
def MethD (K : PySem.W.Frag) (r : V → List V → Hp → VK → Prop) (op : Sto → D → List D → (D → Sto → Prop) → Prop) : Prop :=
  ∀ (Pr Fr : Hp) (f : List Addr) (st : Sto) (H : Hp) (x : D) (v : V) (xs : List D) (vs : List V) (k : D → Sto → Prop) (Q : VK), SimC K Pr Fr f st H → Rep K Fr f x v → Reps K Fr f xs vs → op st x xs k →
    (∀ z st' w Fr' H', k z st' → Same Fr Fr' → SimC K Pr Fr' f st' H' → RepX K Pr Fr' f H' z w → Q w H') → r v vs H Q
def dBM (T : String) (op : Sto → D → List D → (D → Sto → Prop) → Prop) (dx : DE) (ds : DA) : DE := fun Ed env st Q => dx Ed env st fun x st1 => tyOk st1 T (frz x) ∧ ds Ed env st1 fun xs st2 => op st2 (frz x) xs Q
section
variable {X : Cx} {W : WX} {o e : Expr} {es : List Expr} {dx : DE} {ds : DA} {name : Str} {apos cpos : Pos} {T id : String} {r : V → List V → Hp → VK → Prop} {op : Sto → D → List D → (D → Sto → Prop) → Prop}
theorem lift_bm {K : PySem.W.Frag} (hm : MethD K r op) (σ : L2.St) (H : Hp) (Q : VK) (q : liftE K W (dBM T op dx ds) σ H Q) : tBM K T r (liftE K W dx) (liftA K W ds) σ H Q := by
  obtain ⟨Ed, Pr, Fr, f, env, st, Q0, A, d, k⟩ := q
  refine lift1 (R := fun x st1 => tyOk st1 T x ∧ ds Ed env st1 fun xs st2 => op st2 x xs Q0) A d fun x st1 v Fr1 f1 H1 h1 s1 p1 S1 r1 => ⟨tyOk_rep S1.toSimC h1.1 r1, ?_⟩
  refine liftA1 (A.up s1 p1 S1) h1.2 fun xs st2 vs Fr2 f2 H2 h2 s2 p2 S2 r2 => ?_
  exact hm Pr Fr2 f2 st2 H2 x v xs vs Q0 Q S2.toSimC (Rep.mono s2 p2 _ _ r1) r2 h2 fun z st3 w Fr3 H3 hz s3 C3 rz => k z st3 hz w Fr3 f2 H3 ((s1.trans s2).trans s3) (p1.trans p2) ⟨C3, RepS.mono s3 (List.prefix_refl _) S2.env⟩ rz
theorem de_bm (pa : PlainAttrs T) (slot : Slot T name id) (hty : typeOf (.builtin id) = pure (.type "method_descriptor")) (hr : MtR X id r) (hm : MethD X.K r op) (ho : PE X o (liftE X.K W dx)) (ha : PA X (e :: es) (liftA X.K W ds))
    (hbase : attributeBase o name X.env (eval o X.env) = eval o X.env := by rfl)
    (hfew : ((backTo cpos (starEach (e :: es) X.env)).all (fun x => !x.1) && (backToKw cpos (keywordEach [] X.env)).all (fun x => x.1.isSome)
      && decide ((e :: es).length + ([] : List Keyword).length + (if ([] : List Keyword).isEmpty then 0 else 1) < 30)) = true := by rfl)
    (hline : (apos.endLine == cpos.line) = true := by rfl) (hs : starEach (e :: es) X.env = (false, eval e X.env) :: starEach es X.env := by rfl) (hplain : (backTo cpos (starEach es X.env)).any (·.1) = false := by rfl) :
    PE X (.Call (.Attribute o name apos) (e :: es) [] cpos) (liftE X.K W (dBM T op dx ds)) := PEimp (pe_bm pa slot hty hr ho ha hbase hfew hline hs hplain) (lift_bm hm)
theorem de_bm0 (pa : PlainAttrs T) (slot : Slot T name id) (hty : typeOf (.builtin id) = pure (.type "method_descriptor")) (hr : MtR X id r) (hm : MethD X.K r op) (ho : PE X o (liftE X.K W dx))
    (hbase : attributeBase o name X.env (eval o X.env) = eval o X.env := by rfl) (hline : (apos.endLine == cpos.line) = true := by rfl) : PE X (.Call (.Attribute o name apos) [] [] cpos) (liftE X.K W (dBM T op dx dNil)) :=
  PEimp (pe_bm0 pa slot hty hr ho hbase hline) fun σ H Q q => by
  obtain ⟨Ed, Pr, Fr, f, env, st, Q0, A, d, k⟩ := q
  refine lift1 (R := fun x st1 => tyOk st1 T x ∧ op st1 x [] Q0) A d fun x st1 v Fr1 f1 H1 h1 s1 p1 S1 r1 => ⟨tyOk_rep S1.toSimC h1.1 r1, ?_⟩
  exact hm Pr Fr1 f1 st1 H1 x v [] [] Q0 Q S1.toSimC r1 rfl h1.2 fun z st3 w Fr3 H3 hz s3 C3 rz => k z st3 hz w Fr3 f1 H3 (s1.trans s3) p1 ⟨C3, RepS.mono s3 (List.prefix_refl _) S1.env⟩ rz
end

/-! ### lists -/
def onList (st : Sto) (x : D) (k : Nat → List D → Prop) : Prop := match x with
  | .ref n => (match st[n]? with
    | some (.lst ds) => k n ds
    | _ => False)
  | _ => False
theorem onList_rep {K : PySem.W.Frag} {Fr : Hp} {f : List Addr} {st : Sto} {H : Hp} (S : SimC K Pr Fr f st H) {x : D} {v : V} {k : Nat → List D → Prop} (o : onList st x k) (r : Rep K Fr f x v) :
    ∃ n ds a vs, v = .ref a ∧ st[n]? = some (.lst ds) ∧ f[n]? = some a ∧ H a = some (.lst vs) ∧ Reps K Fr f ds vs ∧ k n ds := by
  unfold onList at o
  split at o
  · rename_i n
    split at o
    · rename_i ds e
      obtain ⟨a, h1, rfl⟩ := r
      obtain ⟨b, vs, h2, h3, r⟩ := S.lst e
      rw [h1] at h2; cases h2
      exact ⟨n, ds, a, vs, rfl, e, h1, h3, r, o⟩
    · exact o.elim
  · exact o.elim
def opAppend : Sto → D → List D → (D → Sto → Prop) → Prop := fun st x xs k => onList st x fun n ds => match xs with
  | [y] => ds.length < sizeLine ∧ k .non (st.set n (.lst (ds ++ [y])))
  | _ => False
theorem md_append {K : PySem.W.Frag} : MethD K rAppend opAppend := by
  intro Pr Fr f st H x v xs vs k Q S r rs o q
  obtain ⟨n, ds, a, us, rfl, e, ef, h, r, o⟩ := onList_rep S o r
  split at o
  · obtain ⟨u, rfl, ru⟩ := rs.one
    exact ⟨a, us, u, rfl, rfl, h, by rw [← r.length]; exact o.1, q _ _ _ Fr _ o.2 (Same.refl _) (S.write ef ⟨_, rfl, r.append (.of1 ru)⟩) rfl⟩
  · exact o.elim
def opExtend : Sto → D → List D → (D → Sto → Prop) → Prop := fun st x xs k => onList st x fun n ds => match xs with
  | [y] => (match lisOf st y with
    | some es => ds.length + es.length ≤ sizeLine ∧ k .non (st.set n (.lst (ds ++ es)))
    | none => False)
  | _ => False
theorem md_extend {K : PySem.W.Frag} : MethD K rExtend opExtend := by
  intro Pr Fr f st H x v xs vs k Q S r rs o q
  obtain ⟨n, ds, a, us, rfl, e, ef, h, r, o⟩ := onList_rep S o r
  split at o
  · obtain ⟨u, rfl, ru⟩ := rs.one
    split at o
    · rename_i es e2
      obtain ⟨b, ws, rfl, h2, r2⟩ := listOf_rep S e2 ru
      exact ⟨a, b, us, ws, rfl, rfl, h, h2, by rw [← r.length, ← r2.length]; exact o.1, q _ _ _ Fr _ o.2 (Same.refl _) (S.write ef ⟨_, rfl, r.append r2⟩) rfl⟩
    · exact o.elim
  · exact o.elim
def rInsert : V → List V → Hp → VK → Prop := fun x vs H Q => ∃ (l : Addr) (xs : List V) (i : Int) (y : V), x = .ref l ∧ vs = [.int i, y] ∧ H l = some (.lst xs) ∧ xs.length < sizeLine ∧ 0 ≤ i ∧ i < 2 ^ 63 ∧
    Q .non (upd H l (.lst (xs.take i.toNat ++ [y] ++ xs.drop i.toNat)))
theorem mr_insert {X : Cx} : MtR X "list.insert" rInsert := mt_insert
def opInsert : Sto → D → List D → (D → Sto → Prop) → Prop := fun st x xs k => onList st x fun n ds => match xs with
  | [.int i, y] => ds.length < sizeLine ∧ 0 ≤ i ∧ i < 2 ^ 63 ∧ k .non (st.set n (.lst (ds.take i.toNat ++ [y] ++ ds.drop i.toNat)))
  | _ => False
theorem md_insert {K : PySem.W.Frag} : MethD K rInsert opInsert := by
  intro Pr Fr f st H x v xs vs k Q S r rs o q
  obtain ⟨n, ds, a, us, rfl, e, ef, h, r, o⟩ := onList_rep S o r
  split at o
  · obtain ⟨u1, u2, rfl, r1, r2⟩ := rs.two
    cases (show u1 = _ from r1)
    exact ⟨a, us, _, u2, rfl, rfl, h, by rw [← r.length]; exact o.1, o.2.1, o.2.2.1, q _ _ _ Fr _ o.2.2.2 (Same.refl _) (S.write ef ⟨_, rfl, ((r.take _).append (.of1 r2)).append (r.drop _)⟩) rfl⟩
  · exact o.elim
def opPop : Sto → D → List D → (D → Sto → Prop) → Prop := fun st x xs k => onList st x fun n ds => match xs with
  | [] => (match ds[ds.length - 1]? with
    | some y => k y (st.set n (.lst ds.dropLast))
    | none => False)
  | _ => False
theorem Reps.dropLast {K : PySem.W.Frag} {Fr : Hp} {f : List Addr} {ds : List D} {vs : List V} (r : Reps K Fr f ds vs) : Reps K Fr f ds.dropLast vs.dropLast := by
  rw [List.dropLast_eq_take, List.dropLast_eq_take, ← r.length]
  exact r.take _
theorem md_pop {K : PySem.W.Frag} : MethD K rPop opPop := by
  intro Pr Fr f st H x v xs vs k Q S r rs o q
  obtain ⟨n, ds, a, us, rfl, e, ef, h, r, o⟩ := onList_rep S o r
  split at o
  · cases (show vs = [] from rs)
    split at o
    · rename_i y ey
      obtain ⟨w, ew, rw'⟩ := r.get ey
      exact ⟨a, us, w, rfl, rfl, h, by rw [← r.length]; exact ew, q _ _ _ Fr _ o (Same.refl _) (S.write ef ⟨_, rfl, r.dropLast⟩) (.of rw')⟩
    · exact o.elim
  · exact o.elim

/-! ### texts -/
/-- a method of a text that gives plain data -/
def opS (g : Str → List D → (D → Prop) → Prop) : Sto → D → List D → (D → Sto → Prop) → Prop := fun st x xs k => match x with
  | .str a => g a xs fun z => k z st
  | _ => False
def gFind3 (a : Str) (xs : List D) (k : D → Prop) : Prop := match xs with
  | [.str b, .int i] => k (.int (Txt.find3 a b i))
  | _ => False
def rFind3 : V → List V → Hp → VK → Prop := fun x xs H Q => ∃ (a b : Str) (i : Int), x = .str a ∧ xs = [.str b, .int i] ∧ Q (.int (Txt.find3 a b i)) H
theorem mr_find3 {X : Cx} : MtR X "str.find" rFind3 := mt_find3
theorem md_find3 {K : PySem.W.Frag} : MethD K rFind3 (opS gFind3) := by
  intro Pr Fr f st H x v xs vs k Q S r rs o q
  unfold opS gFind3 at o
  split at o
  · cases (show v = _ from r)
    split at o
    · obtain ⟨u1, u2, rfl, r1, r2⟩ := rs.two
      cases (show u1 = _ from r1); cases (show u2 = _ from r2)
      exact ⟨_, _, _, rfl, rfl, q _ _ _ Fr H o (Same.refl _) S rfl⟩
    · exact o.elim
  · exact o.elim
def gZfill (a : Str) (xs : List D) (k : D → Prop) : Prop := match xs with
  | [.int i] => PadOk i = true ∧ k (.str (Txt.zfill a i))
  | _ => False
def rZfill : V → List V → Hp → VK → Prop := fun x xs H Q => ∃ (a : Str) (i : Int), x = .str a ∧ xs = [.int i] ∧ PadOk i = true ∧ Q (.str (Txt.zfill a i)) H
theorem mr_zfill {X : Cx} : MtR X "str.zfill" rZfill := mt_zfill
theorem md_zfill {K : PySem.W.Frag} : MethD K rZfill (opS gZfill) := by
  intro Pr Fr f st H x v xs vs k Q S r rs o q
  unfold opS gZfill at o
  split at o
  · cases (show v = _ from r)
    split at o
    · obtain ⟨u1, rfl, r1⟩ := rs.one
      cases (show u1 = _ from r1)
      exact ⟨_, _, rfl, rfl, o.1, q _ _ _ Fr H o.2 (Same.refl _) S rfl⟩
    · exact o.elim
  · exact o.elim
def rPart : V → List V → Hp → VK → Prop := fun x xs H Q => ∃ a b, x = .str a ∧ xs = [.str b] ∧ (b.length == 0) = false ∧ a.length ≤ sizeLine ∧
    ∀ p, H p = none → Q (.ref p) (upd H p (.tup [.str (Txt.partition a b).1, .str (Txt.partition a b).2.1, .str (Txt.partition a b).2.2]))
theorem mr_part {X : Cx} : MtR X "str.partition" rPart := mt_partition
def gPart (a : Str) (xs : List D) (k : D → Prop) : Prop := match xs with
  | [.str b] => (b.length == 0) = false ∧ a.length ≤ sizeLine ∧ k (.tup [.str (Txt.partition a b).1, .str (Txt.partition a b).2.1, .str (Txt.partition a b).2.2])
  | _ => False
theorem md_part {K : PySem.W.Frag} : MethD K rPart (opS gPart) := by
  intro Pr Fr f st H x v xs vs k Q S r rs o q
  unfold opS gPart at o
  split at o
  · cases (show v = _ from r)
    split at o
    · rename_i a _ b
      obtain ⟨u1, rfl, r1⟩ := rs.one
      cases (show u1 = _ from r1)
      refine ⟨a, b, rfl, rfl, o.1, o.2.1, fun p hp => ?_⟩
      obtain ⟨sm, S', rx⟩ := lay_tup (ds := [.str (Txt.partition a b).1, .str (Txt.partition a b).2.1, .str (Txt.partition a b).2.2]) (vs := [.str (Txt.partition a b).1, .str (Txt.partition a b).2.1, .str (Txt.partition a b).2.2]) S hp ⟨_, _, rfl, rfl, _, _, rfl, rfl, _, _, rfl, rfl, rfl⟩
      exact q _ _ _ _ _ o.2.2 sm S' rx
    · exact o.elim
  · exact o.elim
def rSplit : V → List V → Hp → VK → Prop := fun x xs H Q => ∃ a b, x = .str a ∧ xs = [.str b] ∧ (b.length == 0) = false ∧ a.length + 2 ≤ sizeLine ∧ rNewStrs (Txt.split a b) H Q
theorem mr_split {X : Cx} : MtR X "str.split" rSplit := mt_split
def gSplit (a : Str) (xs : List D) (k : D → Prop) : Prop := match xs with
  | [.str b] => (b.length == 0) = false ∧ a.length + 2 ≤ sizeLine ∧ k (.tl ((Txt.split a b).map D.str))
  | _ => False
theorem md_split {K : PySem.W.Frag} : MethD K rSplit (opS gSplit) := by
  intro Pr Fr f st H x v xs vs k Q S r rs o q
  unfold opS gSplit at o
  split at o
  · cases (show v = _ from r)
    split at o
    · rename_i a _ b
      obtain ⟨u1, rfl, r1⟩ := rs.one
      cases (show u1 = _ from r1)
      refine ⟨a, b, rfl, rfl, o.1, o.2.1, fun p hp => ?_⟩
      obtain ⟨S', rx⟩ := lay_lst S hp (reps_strs (Txt.split a b))
      exact q _ _ _ _ _ o.2.2 (Same.refl _) S' rx
    · exact o.elim
  · exact o.elim
def rJoin (K : PySem.W.Frag) : V → List V → Hp → VK → Prop := fun x xs H Q => ∃ a p, ∃ ys : List Str, x = .str a ∧ xs = [.ref p] ∧ (SqL K H p (ys.map V.str) ∨ SqT K H p (ys.map V.str)) ∧
    (ys.map (·.length)).sum + ys.length * a.length ≤ 16777216 ∧ Q (.str (Txt.join a ys)) H
theorem mr_join {X : Cx} : MtR X "str.join" (rJoin X.K) := mt_join
def opJoin : Sto → D → List D → (D → Sto → Prop) → Prop := fun st x xs k => match x, xs with
  | .str a, [y] => (match (seqOf st y).bind strs? with
    | some ys => (ys.map (·.length)).sum + ys.length * a.length ≤ 16777216 ∧ k (.str (Txt.join a ys)) st
    | none => False)
  | _, _ => False
theorem md_join {K : PySem.W.Frag} : MethD K (rJoin K) opJoin := by
  intro Pr Fr f st H x v xs vs k Q S r rs o q
  unfold opJoin at o
  split at o
  · rename_i a y
    cases (show v = _ from r)
    split at o
    · rename_i ys e
      obtain ⟨u1, rfl, r1⟩ := rs.one
      cases h : seqOf st y with
      | none => rw [h] at e; cases e
      | some ds =>
        rw [h] at e
        obtain ⟨p, vs, rfl, h1, r⟩ := seqOf_rep S h r1
        rw [strs_rep (show strs? ds = some ys from e) r] at h1
        exact ⟨a, p, ys, rfl, rfl, h1, o.1, q _ _ _ Fr H o.2 (Same.refl _) S rfl⟩
    · exact o.elim
  · exact o.elim

/-! ### d.get, d.pop -/
def dDGet2 (dd dk dx : DE) : DE := fun Ed env st Q => dd Ed env st fun x st1 => (dicOf st1 (frz x)).isSome = true ∧ dk Ed env st1 fun y st2 => dx Ed env st2 fun z st3 => match dicOf st3 (frz x), keyOf y with
  | some kvs, some q => Q ((valP kvs q).getD (frz z)) st3
  | _, _ => False
section
variable {X : Cx} {W : WX} {o e f : Expr} {dd dk dx : DE} {apos cpos : Pos}
theorem keyOf_frz {y : D} {k : Key} (e : keyOf y = some k) : frz y = y := by
  cases y <;> first | rfl | cases e
theorem de_dget2 (hu : X.A.units + 64 < cLine) (ho : PE X o (liftE X.K W dd)) (he : PE X e (liftE X.K W dk)) (hf : PE X f (liftE X.K W dx)) (m : M2 X o "get" apos e f cpos) : PE X (.Call (.Attribute o "get" apos) [e, f] [] cpos) (liftE X.K W (dDGet2 dd dk dx)) :=
  PEimp (pe_dget2 (by omega) ho he hf m) fun σ H Q q => by
  obtain ⟨Ed, Pr, Fr, f, env, st, Q0, A, d, k⟩ := q
  refine lift1 (R := fun x st1 => (dicOf st1 x).isSome = true ∧ dk Ed env st1 fun y st2 => dx Ed env st2 fun z st3 => match dicOf st3 x, keyOf y with
    | some kvs, some q => Q0 ((valP kvs q).getD (frz z)) st3
    | _, _ => False) A d fun x st1 v Fr1 f1 H1 h1 s1 p1 S1 r1 => ?_
  obtain ⟨hd, h1⟩ := h1
  obtain ⟨kvs, hk⟩ := Option.isSome_iff_exists.mp hd
  obtain ⟨a, us, rfl, ha, _⟩ := dicOf_rep S1.toSimC hk r1
  refine ⟨a, rfl, .inl ⟨us, .inl ha⟩, ?_⟩
  refine ⟨Ed, Pr, Fr1, f1, env, st1, _, A.up s1 p1 S1, h1, fun y st2 h2 u Fr2 f2 H2 s2 p2 S2 r2 => ?_⟩
  refine lift1 (R := fun z st3 => match dicOf st3 x, keyOf y with
    | some kvs, some q => Q0 ((valP kvs q).getD z) st3
    | _, _ => False) (A.up (s1.trans s2) (p1.trans p2) S2) h2 fun z st3 w Fr3 f3 H3 h3 s3 p3 S3 r3 => ?_
  split at h3
  · rename_i kvs2 kk e1 e2
    have r2' : Rep X.K Fr2 f2 y u := by cases y <;> first | exact r2 | exact nomatch e2
    obtain rfl := keyOf_rep e2 r2'
    obtain ⟨b, us2, hb, hb2, rk⟩ := dicOf_rep S3.toSimC e1 (Rep.mono (s2.trans s3) (p2.trans p3) _ _ r1)
    cases hb
    refine ⟨_, DGet.k hb2, k _ _ h3 _ Fr3 f3 H3 ((s1.trans s2).trans s3) ((p1.trans p2).trans p3) S3 (.of ?_)⟩
    have rv := RepK.val kk rk
    cases ev : valP kvs2 kk with
    | none => rw [rv.2 ev]; exact r3
    | some d =>
      obtain ⟨v', e3, r4⟩ := rv.1 d ev
      rw [e3]; exact r4
  · exact h3.elim
end

/-! ### calls of defs -/
/-- what a def promises of data: the arguments, the store, what is wished of exceptions and of the result -/
abbrev DSp := List D → Sto → (Addr → Sto → Prop) → (D → Sto → Prop) → Prop
def liftSp (K : PySem.W.Frag) (dsp : DSp) : Sp := fun vs H Q E => ∃ Pr Fr f st ds Ed Q0, SimC K Pr Fr f st H ∧ Reps K Fr f ds vs ∧ dsp ds st Ed Q0 ∧
  (∀ x st', Q0 x st' → ∀ v Fr' f' H', Same Fr Fr' → f <+: f' → SimC K Pr Fr' f' st' H' → RepX K Pr Fr' f' H' x v → Q v H') ∧
  (∀ C st', Ed C st' → ∀ Fr' f' H', Same Fr Fr' → f <+: f' → SimC K Pr Fr' f' st' H' → E (.ref C) none H')
def dCall (dsp : DSp) (ds : DA) : DE := fun Ed env st Q => ds Ed env st fun xs st1 => dsp xs st1 (fun C st' => Ed C env st') Q
section
variable {X : Cx} {W : WX} {e : Expr} {es : List Expr} {ds : DA} {x : Str} {p pos : Pos} {k : Nat} {f : Addr} {fd : FuncData} {ps : List Str} {dsp : DSp}
theorem lift_call {K : PySem.W.Frag} (σ : L2.St) (H : Hp) (Q : VK) (q : liftE K W (dCall dsp ds) σ H Q) : tCallS (liftSp K dsp) (WE W) (liftA K W ds) σ H Q := by
  obtain ⟨Ed, Pr, Fr, f, env, st, Q0, A, d, k⟩ := q
  refine liftA1 A d fun xs st1 vs Fr1 f1 H1 h1 s1 p1 S1 r1 => ?_
  refine ⟨Pr, Fr1, f1, st1, xs, _, _, S1.toSimC, r1, h1, fun z st2 hz w Fr2 f2 H2 s2 p2 C2 rz => k _ _ hz w Fr2 f2 H2 (s1.trans s2) (p1.trans p2) (S1.up s2 p2 C2) rz, fun C st2 hC Fr2 f2 H2 s2 p2 C2 => ?_⟩
  exact A.exn C env st2 Fr2 f2 σ H2 (s1.trans s2) (p1.trans p2) (S1.up s2 p2 C2) hC
theorem de_call (F : FnOk X.prog X.w X.K X.mg X.base (L2.CX X.prog X.w) k f fd ps (liftSp X.K dsp)) (hr : Room k X.A) (hg : Gl X x) (hm : X.mg x = some (.ref f)) (hk : PySem.W.keepIn X.K (.ref f) = true) (hb : Binds X.K fd ps []) (tk : Takes X W)
    (ha : PA X (e :: es) (liftA X.K W ds)) (hdb : (x == ("__debug__" : Str)) = false := by decide) (he : starEach (e :: es) X.env = (false, eval e X.env) :: starEach es X.env := by rfl) (hpl : (backTo pos (starEach es X.env)).any (·.1) = false := by rfl) :
    PE X (.Call (.Name x p) (e :: es) [] pos) (liftE X.K W (dCall dsp ds)) := PEimp (pe_callS F hr hg hm hk hb (fun σ => passAt tk σ) ha hdb he hpl) lift_call
end
end DW

/-! DW8: statements, loops, comprehensions. -/
namespace DW
open PySem PySem.Spec PyProof.Rows L2

structure DEnds where
  nx : Slots → Sto → Prop
  rt : D → Sto → Prop
  bk : Slots → Sto → Prop := fun _ _ => False
  ct : Slots → Sto → Prop := fun _ _ => False
abbrev DS := EdT → DEnds → Slots → Sto → Prop

structure EndsOk (K : PySem.W.Frag) (Pr Fr : Hp) (f : List Addr) (Dd : DEnds) (De : Ends) : Prop where
  nx : ∀ env st, Dd.nx env st → ∀ Fr' f' σ H, Same Fr Fr' → f <+: f' → Sim K Pr Fr' f' env st σ H → De.nx σ H
  bk : ∀ env st, Dd.bk env st → ∀ Fr' f' σ H, Same Fr Fr' → f <+: f' → Sim K Pr Fr' f' env st σ H → De.bk σ H
  ct : ∀ env st, Dd.ct env st → ∀ Fr' f' σ H, Same Fr Fr' → f <+: f' → Sim K Pr Fr' f' env st σ H → De.ct σ H
  rt : ∀ x st, Dd.rt x st → ∀ v Fr' f' H, Same Fr Fr' → f <+: f' → SimC K Pr Fr' f' st H → RepX K Pr Fr' f' H x v → De.rt v H
theorem EndsOk.up {K : PySem.W.Frag} {Fr Fr' : Hp} {f f' : List Addr} {Dd : DEnds} {De : Ends} (E : EndsOk K Pr Fr f Dd De) (s : Same Fr Fr') (p : f <+: f') : EndsOk K Pr Fr' f' Dd De :=
  ⟨fun e st h Fr2 f2 σ H s2 p2 => E.nx e st h Fr2 f2 σ H (s.trans s2) (p.trans p2), fun e st h Fr2 f2 σ H s2 p2 => E.bk e st h Fr2 f2 σ H (s.trans s2) (p.trans p2),
   fun e st h Fr2 f2 σ H s2 p2 => E.ct e st h Fr2 f2 σ H (s.trans s2) (p.trans p2), fun x st h v Fr2 f2 H s2 p2 => E.rt x st h v Fr2 f2 H (s.trans s2) (p.trans p2)⟩
def liftS (K : PySem.W.Frag) (W : WX) (d : DS) : TS := fun De σ H => ∃ Ed Pr Fr f env st Dd, At K W Ed Pr Fr f env st σ H ∧ d Ed Dd env st ∧ EndsOk K Pr Fr f Dd De

section
variable {X : Cx} {W : WX} {st : Stmt} {rest body : List Stmt} {e : Expr} {d1 d2 : DS} {de : DE} {dt : DT} {pos : Pos}

/-! ### blocks -/
def sNext : DS := fun _ D env st => D.nx env st
def sSeq (t u : DS) : DS := fun Ed D env st => t Ed { D with nx := u Ed D } env st
theorem dss_nil : PSs X [] (liftS X.K W sNext) := PSsimp pss_nil fun De σ H q => by
  obtain ⟨Ed, Pr, Fr, f, env, st, Dd, A, d, E⟩ := q
  exact E.nx _ _ d Fr f σ H (Same.refl _) (List.prefix_refl _) A.toSim
theorem dss_cons (h1 : PS X st (liftS X.K W d1)) (h2 : PSs X rest (liftS X.K W d2)) : PSs X (st :: rest) (liftS X.K W (sSeq d1 d2)) := PSsimp (pss_cons h1 h2) fun De σ H q => by
  obtain ⟨Ed, Pr, Fr, f, env, st, Dd, A, d, E⟩ := q
  exact ⟨Ed, Pr, Fr, f, env, st, _, A, d, ⟨fun e s h Fr' f' σ' H' s1 p1 S => ⟨Ed, Pr, Fr', f', e, s, Dd, A.up s1 p1 S, h, E.up s1 p1⟩, E.bk, E.ct, E.rt⟩⟩
theorem dss_one (h1 : PS X st (liftS X.K W d1)) : PSs X [st] (liftS X.K W d1) := pss_one h1
theorem ds_pass : PS X (.Pass pos) (liftS X.K W sNext) := PSimp ps_pass fun De σ H q => by
  obtain ⟨Ed, Pr, Fr, f, env, st, Dd, A, d, E⟩ := q
  exact E.nx _ _ d Fr f σ H (Same.refl _) (List.prefix_refl _) A.toSim
def sBreak : DS := fun _ D env st => D.bk env st
def sCont : DS := fun _ D env st => D.ct env st
theorem ds_break : PS X (.Break pos) (liftS X.K W sBreak) := PSimp ps_break fun De σ H q => by
  obtain ⟨Ed, Pr, Fr, f, env, st, Dd, A, d, E⟩ := q
  exact E.bk _ _ d Fr f σ H (Same.refl _) (List.prefix_refl _) A.toSim
theorem ds_continue : PS X (.Continue pos) (liftS X.K W sCont) := PSimp ps_continue fun De σ H q => by
  obtain ⟨Ed, Pr, Fr, f, env, st, Dd, A, d, E⟩ := q
  exact E.ct _ _ d Fr f σ H (Same.refl _) (List.prefix_refl _) A.toSim
def sExpr (de : DE) : DS := fun Ed D env st => de Ed env st fun _ st1 => D.nx env st1
theorem ds_expr (he : PE X e (liftE X.K W de)) (hs : swapsWith e none pos.line X.env = pure false := by rfl) : PS X (.Expr e pos) (liftS X.K W (sExpr de)) := PSimp (ps_expr he hs) fun De σ H q => by
  obtain ⟨Ed, Pr, Fr, f, env, st, Dd, A, d, E⟩ := q
  exact ⟨Ed, Pr, Fr, f, env, st, _, A, d, fun x st1 h v Fr' f' H' s p S _ => E.nx _ _ h Fr' f' σ H' s p S⟩
def sRet (de : DE) : DS := fun Ed D env st => de Ed env st D.rt
theorem ds_ret (he : PE X e (liftE X.K W de)) : PS X (.Return (some e) pos) (liftS X.K W (sRet de)) := PSimp (ps_ret he) fun De σ H q => by
  obtain ⟨Ed, Pr, Fr, f, env, st, Dd, A, d, E⟩ := q
  exact ⟨Ed, Pr, Fr, f, env, st, _, A, d, fun x st1 h v Fr' f' H' s p S r => E.rt _ _ h v Fr' f' H' s p S.toSimC r⟩
def sRetN : DS := fun _ D _ st => D.rt .non st
theorem ds_retN : PS X (.Return none pos) (liftS X.K W sRetN) := PSimp ps_retN fun De σ H q => by
  obtain ⟨Ed, Pr, Fr, f, env, st, Dd, A, d, E⟩ := q
  exact E.rt _ _ d _ Fr f H (Same.refl _) (List.prefix_refl _) A.toSimC rfl
def sIf (t : DT) (a b : DS) : DS := fun Ed D env st => t Ed env st fun c st1 => if c = true then a Ed D env st1 else b Ed D env st1
theorem ds_if {c : Expr} {a b : List Stmt} (hc : PT X c (liftT X.K W dt)) (ha : PSs X a (liftS X.K W d1)) (hb : PSs X b (liftS X.K W d2)) : PS X (.If c a b pos) (liftS X.K W (sIf dt d1 d2)) := PSimp (ps_if hc ha hb) fun De σ H q => by
  obtain ⟨Ed, Pr, Fr, f, env, st, Dd, A, d, E⟩ := q
  refine ⟨Ed, Pr, Fr, f, env, st, _, A, d, fun x st1 h Fr' f' H' s p S => ?_⟩
  cases x with
  | true => exact ⟨Ed, Pr, Fr', f', env, st1, Dd, A.up s p S, h, E.up s p⟩
  | false => exact ⟨Ed, Pr, Fr', f', env, st1, Dd, A.up s p S, h, E.up s p⟩
def sNever : DS := fun _ _ _ _ => False
theorem ds_never : PS X st (liftS X.K W sNever) := PSimp ps_never fun De σ H q => by
  obtain ⟨Ed, Pr, Fr, f, env, st, Dd, A, d, E⟩ := q
  exact d.elim

/-! ### targets -/
inductive Tg where
  | nm (i : Nat) | tp (ts : List Tg)
mutual
def tgSlots : Tg → List Nat
  | .nm i => [i]
  | .tp ts => tgsSlots ts
def tgsSlots : List Tg → List Nat
  | [] => []
  | t :: ts => tgSlots t ++ tgsSlots ts
end
mutual
def tgSet (st : Sto) : Tg → D → Slots → Option Slots
  | .nm i, x, env => some (env.set i (some x))
  | .tp ts, x, env => match seqOf st x with
    | some ds => tgsSet st ts ds env
    | none => none
def tgsSet (st : Sto) : List Tg → List D → Slots → Option Slots
  | [], [], env => some env
  | t :: ts, d :: ds, env => match tgSet st t d env with
    | some env' => tgsSet st ts ds env'
    | none => none
  | _, _, _ => none
end
def AgreeOff (js : List Nat) (σ σ' : L2.St) : Prop := σ'.length = σ.length ∧ ∀ i, i ∉ js → σ'[i]? = σ[i]?
theorem AgreeOff.refl (js : List Nat) (σ : L2.St) : AgreeOff js σ σ := ⟨rfl, fun _ _ => rfl⟩
theorem AgreeOff.trans {js ks : List Nat} {σ σ' σ'' : L2.St} (a : AgreeOff js σ σ') (b : AgreeOff ks σ' σ'') : AgreeOff (js ++ ks) σ σ'' :=
  ⟨b.1.trans a.1, fun i hi => (b.2 i fun h => hi (List.mem_append_right _ h)).trans (a.2 i fun h => hi (List.mem_append_left _ h))⟩
theorem AgreeOff.wipe {js vs : List Nat} {σ σ' : L2.St} (a : AgreeOff js σ σ') (h : ∀ j ∈ js, j ∈ vs) : L2.wipe σ' vs = L2.wipe σ vs := by
  have wl : ∀ (σ : L2.St) (vs : List Nat) (i : Nat), (L2.wipe σ vs)[i]? = if i ∈ vs then (if i < σ.length then some none else none) else σ[i]? := by
    intro σ vs i
    induction vs with
    | nil => simp [L2.wipe]
    | cons v vs ih =>
      unfold L2.wipe
      by_cases e : v = i
      · subst e
        by_cases hl : v < σ.length
        · rw [List.getElem?_set_self (by rw [L2.wipe_length]; exact hl)]; simp [hl]
        · rw [List.getElem?_eq_none (by rw [List.length_set, L2.wipe_length]; omega)]; simp [hl]
      · rw [List.getElem?_set_ne e, ih]
        simp [Ne.symm e]
  refine List.ext_getElem? fun i => ?_
  rw [wl, wl, a.1]
  by_cases hi : i ∈ vs
  · simp [hi]
  · simp only [if_neg hi]
    exact a.2 i fun hj => hi (h i hj)
/-- a target's reading -/
def gD (K : PySem.W.Frag) (tg : Tg) : TG := fun v σ H Q => ∃ Pr Fr f env st x env', Sim K Pr Fr f env st σ H ∧ Rep K Fr f x v ∧ tgSet st tg x env = some env' ∧ ∀ σ', AgreeOff (tgSlots tg) σ σ' → RepS K Fr f env' σ' → Q σ' H
def gDs (K : PySem.W.Frag) (tgs : List Tg) : TGs := fun vs σ H Q => ∃ Pr Fr f env st xs env', Sim K Pr Fr f env st σ H ∧ Reps K Fr f xs vs ∧ tgsSet st tgs xs env = some env' ∧ ∀ σ', AgreeOff (tgsSlots tgs) σ σ' → RepS K Fr f env' σ' → Q σ' H
theorem PGimp {tg : Expr} {t t' : TG} (h : PG X tg t) (i : ∀ v σ H Q, t' v σ H Q → t v σ H Q) : PG X tg t' := ⟨fun pins s σ H v u Q I r q => h.run pins s σ H v u Q I r (i v σ H Q q)⟩
theorem PGor {tg : Expr} {t t' : TG} (h : PG X tg t) (h' : PG X tg t') : PG X tg (fun v σ H Q => t v σ H Q ∨ t' v σ H Q) := ⟨fun pins s σ H v u Q I r q => q.elim (h.run pins s σ H v u Q I r) (h'.run pins s σ H v u Q I r)⟩
theorem dg_name {i : Nat} {x : Str} (hN : X.N.Nodup) (hi : X.N[i]? = some x) (hx : Loc X.env.scope x) (hf : X.fn x = true ∨ X.env.scope.names.lookup x = some .local := by first | exact .inl rfl | exact .inr rfl | assumption) : PG X (.Name x pos) (gD X.K (.nm i)) :=
  PGimp (pg_name hN hi hx hf) fun v σ H Q q => by
  obtain ⟨Pr, Fr, f, env, st, x, env', S, r, e, k⟩ := q
  cases e
  exact k _ ⟨List.length_set .., fun j hj => List.getElem?_set_ne (by simpa [tgSlots, eq_comm] using hj)⟩ (RepS.set i r S.env)
theorem dgs_nil : PGs X [] (gDs X.K []) := ⟨fun pins s σ H vs us Q I r q => pgs_nil.run pins s σ H vs us Q I r (by
  obtain ⟨Pr, Fr, f, env, st, xs, env', S, rs, e, k⟩ := q
  cases xs with
  | nil => cases e; exact ⟨rs, k σ (.refl _ _) S.env⟩
  | cons _ _ => cases e)⟩
theorem dgs_cons {t : Expr} {ts : List Expr} {tg : Tg} {tgs : List Tg} (h1 : PG X t (gD X.K tg)) (h2 : PGs X ts (gDs X.K tgs))
    (hs : (assignEach (t :: ts) X.env).map (·.2) = assign t X.env :: (assignEach ts X.env).map (·.2) := by rfl) : PGs X (t :: ts) (gDs X.K (tg :: tgs)) := ⟨fun pins s σ H vs us Q I r q => (pgs_cons h1 h2 hs).run pins s σ H vs us Q I r (by
  obtain ⟨Pr, Fr, f, env, st, xs, env', S, rs, e, k⟩ := q
  cases xs with
  | nil => cases e
  | cons x xs =>
    obtain ⟨v, vr, rfl, r1, r2⟩ := rs
    unfold tgsSet at e
    cases e1 : tgSet st tg x env with
    | none => rw [e1] at e; cases e
    | some env1 =>
      rw [e1] at e
      refine ⟨v, vr, rfl, Pr, Fr, f, env, st, x, env1, S, r1, e1, fun σ1 a1 R1 => ?_⟩
      exact ⟨Pr, Fr, f, env1, st, xs, env', ⟨S.toSimC, R1⟩, r2, e, fun σ2 a2 R2 => k σ2 (a1.trans a2) R2⟩)⟩
theorem dg_tup {ts : List Expr} {k : Nat} {tgs : List Tg} {n : Nat} (hc : X.calm = true) (h : PGs X ts (gDs X.K tgs)) (hl : tgs.length = n)
    (hn : (assignEach ts X.env).length = n := by rfl) (hst : (assignEach ts X.env).findIdx? (·.1) = none := by rfl) : PG X (.Tuple ts k pos) (gD X.K (.tp tgs)) :=
  PGimp (PGor (pg_tup hc h hn hst) (pg_lst hc h hn hst)) fun v σ H Q q => by
  obtain ⟨Pr, Fr, f, env, st, x, env', S, r, e, k⟩ := q
  unfold tgSet at e
  have len : ∀ (ts : List Tg) (ds : List D) (env : Slots) {env'}, tgsSet st ts ds env = some env' → ts.length = ds.length := by
    intro ts
    induction ts with
    | nil => intro ds env env' h; cases ds with
      | nil => rfl
      | cons _ _ => cases h
    | cons t ts ih => intro ds env env' h; cases ds with
      | nil => cases h
      | cons d ds =>
        unfold tgsSet at h
        cases e1 : tgSet st t d env with
        | none => rw [e1] at h; cases h
        | some env1 => rw [e1] at h; simp [ih ds env1 h]
  split at e
  · rename_i ds e1
    obtain ⟨a, vs, rfl, h1, r⟩ := seqOf_rep S.toSimC e1 r
    have l1 := len _ _ _ e
    have l2 := r.length
    rcases h1 with h1 | h1
    · exact .inr ⟨a, vs, rfl, h1, by omega, Pr, Fr, f, env, st, ds, env', S, r, e, k⟩
    · exact .inl ⟨a, vs, rfl, h1, by omega, Pr, Fr, f, env, st, ds, env', S, r, e, k⟩
  · cases e

/-! ### assignments -/
/-- x = e -/
def sAsg (bx : Bool) (i : Nat) (de : DE) : DS := fun Ed D env st => de Ed env st fun x st1 => D.nx (env.set i (some (keep bx st1 x).1)) (keep bx st1 x).2
theorem lift_asg {K : PySem.W.Frag} (bx : Bool) {i : Nat} (De : Ends) (σ : L2.St) (H : Hp) (q : liftS K W (sAsg bx i de) De σ H) : tAsg (liftE K W de) (gName i) De σ H := by
  obtain ⟨Ed, Pr, Fr, f, env, st, Dd, A, d, E⟩ := q
  refine ⟨Ed, Pr, Fr, f, env, st, _, A, d, fun x st1 h v Fr1 f1 H1 s1 p1 S1 r1 => ?_⟩
  obtain ⟨Fr2, f2, s2, p2, C2, r2⟩ := r1.keep bx S1.toSimC
  exact E.nx _ _ h Fr2 f2 _ H1 (s1.trans s2) (p1.trans p2) ⟨C2, RepS.set i r2 (RepS.mono s2 p2 S1.env)⟩
theorem ds_set (bx : Bool) {i : Nat} {x : Str} {pos' : Pos} (hN : X.N.Nodup) (hi : X.N[i]? = some x) (hx : Loc X.env.scope x) (he : PE X e (liftE X.K W de)) (hs : swapsWith e (some (.Name x pos')) pos.line X.env = pure false := by rfl) (hf : X.fn x = true ∨ X.env.scope.names.lookup x = some .local := by first | exact .inl rfl | exact .inr rfl | assumption) :
    PS X (.Assign [.Name x pos'] e pos) (liftS X.K W (sAsg bx i de)) := PSimp (ps_set hN hi hx he hs hf) (lift_asg bx)
/-- a, b = e -/
def sAsgT (tg : Tg) (de : DE) : DS := fun Ed D env st => de Ed env st fun x st1 => match tgSet st1 tg (frz x) env with
  | some env' => D.nx env' st1
  | none => False
theorem ds_asgT {t : Expr} {tg : Tg} (he : PE X e (liftE X.K W de)) (hg : PG X t (gD X.K tg)) (hs : swapsWithSole [t] e pos.line X.env = pure false := by rfl) (hw : swappedStores [t] e X.env = pure none := by rfl)
    (h1 : (assignEach [t] X.env).map (·.2) = [assign t X.env] := by rfl) : PS X (.Assign [t] e pos) (liftS X.K W (sAsgT tg de)) := PSimp (ps_asg he hg hs hw h1) fun De σ H q => by
  obtain ⟨Ed, Pr, Fr, f, env, st, Dd, A, d, E⟩ := q
  refine ⟨Ed, Pr, Fr, f, env, st, _, A, d, fun x st1 h v Fr1 f1 H1 s1 p1 S1 r1 => ?_⟩
  obtain ⟨Fr2, C2, s2, r2⟩ := r1.frz S1.toSimC
  split at h
  · rename_i env' e1
    exact ⟨Pr, Fr2, f1, env, st1, _, env', ⟨C2, RepS.mono s2 (List.prefix_refl _) S1.env⟩, r2, e1, fun σ' _ R => E.nx _ _ h Fr2 f1 σ' H1 (s1.trans s2) p1 ⟨C2, R⟩⟩
  · exact h.elim
/-- x op= e -/
def IpD (K : PySem.W.Frag) (t : TIp) (op : Sto → D → D → (D → Prop) → Prop) : Prop := OpD K t op
def sAug (bx : Bool) (op : Sto → D → D → (D → Prop) → Prop) (i : Nat) (de : DE) : DS := fun Ed D env st => match env[i]? with
  | some (some x) => de Ed env st fun y st1 => op st1 x (frz y) fun z => D.nx (env.set i (some (keep bx st1 z).1)) (keep bx st1 z).2
  | _ => False
theorem ds_aug (bx : Bool) {i : Nat} {x : Str} {op : Operator} {ti : TIp} {pos' : Pos} {o : Sto → D → D → (D → Prop) → Prop} (hN : X.N.Nodup) (hi : X.N[i]? = some x) (hx : Loc X.env.scope x) (hop : PIp X op ti) (ho : OpD X.K ti o) (he : PE X e (liftE X.K W de)) (hf : X.fn x = true ∨ X.env.scope.names.lookup x = some .local := by first | exact .inl rfl | exact .inr rfl | assumption) :
    PS X (.AugAssign (.Name x pos') op e pos) (liftS X.K W (sAug bx o i de)) := PSimp (ps_aug hN hi hx he hop hf) fun De σ H q => by
  obtain ⟨Ed, Pr, Fr, f, env, st, Dd, A, d, E⟩ := q
  unfold sAug at d
  split at d
  · rename_i x e1
    obtain ⟨v, ev, rv⟩ := RepS.get A.env e1
    refine ⟨v, ev, ?_⟩
    refine lift1 (R := fun y st1 => o st1 x y fun z => Dd.nx (env.set i (some (keep bx st1 z).1)) (keep bx st1 z).2) A d fun y st1 u Fr1 f1 H1 h1 s1 p1 S1 r1 => ?_
    refine ho Pr Fr1 f1 st1 H1 x y v u _ _ S1.toSimC (Rep.mono s1 p1 _ _ rv) r1 h1 fun z w Fr2 H2 hz s2 C2 rz => ?_
    obtain ⟨Fr3, f3, s3, p3, C3, r3⟩ := rz.keep bx C2
    exact E.nx _ _ hz Fr3 f3 _ H2 ((s1.trans s2).trans s3) (p1.trans p3) ⟨C3, RepS.set i r3 (RepS.mono (s2.trans s3) p3 S1.env)⟩
  · exact d.elim
theorem keyOf_repX {K : PySem.W.Frag} {Fr : Hp} {f : List Addr} {H : Hp} {d : D} {v : V} {k : Key} (e : keyOf d = some k) (r : RepX K Pr Fr f H d v) : v = kV k := by
  cases d <;> first | (cases e; exact r) | exact nomatch e
/-- o[i] = e -/
def opSet : Sto → D → D → D → (Sto → Prop) → Prop := fun st x y z k => match x with
  | .ref n => (match st[n]?, y with
    | some (.lst ds), .int i => (match ixN ds.length i with
      | some j => k (st.set n (.lst (ds.set j z)))
      | none => False)
    | some (.dic kvs), y => (match keyOf y with
      | some q => kvs.length < sizeLine ∧ k (st.set n (.dic (putP kvs q z)))
      | none => False)
    | _, _ => False)
  | _ => False
def rSetD : V → V → V → Hp → (Hp → Prop) → Prop := fun o i v H Q => ∃ a H', o = .ref a ∧ DPut H a i v H' ∧ Q H'
theorem set_dic (hu : X.A.units + 1 < cLine) : PSet X rSetD := by
  intro pins s σ H o i v ov iv u Q I ro ri rv h
  obtain ⟨a, H', rfl, g, q⟩ := h
  cases ro
  exact d_setItem hu I g ri rv fun s' I' => ⟨H', I', q⟩
theorem PSet.or {t t' : TSet} (h : PSet X t) (h' : PSet X t') : PSet X (fun o i v H Q => t o i v H Q ∨ t' o i v H Q) := by
  intro pins s σ H o i v ov iv u Q I ro ri rv q
  rcases q with q | q
  · exact h pins s σ H o i v ov iv u Q I ro ri rv q
  · exact h' pins s σ H o i v ov iv u Q I ro ri rv q
def sSet (bx : Bool) (dv dx dy : DE) : DS := fun Ed D env st => dv Ed env st fun z st1 => dx Ed env (keep bx st1 z).2 fun x st2 => dy Ed env st2 fun y st3 => opSet st3 x y (keep bx st1 z).1 fun st4 => D.nx env st4
theorem ds_setItem (bx : Bool) {o i : Expr} {dx dy : DE} {ipos : Pos} (hu : X.A.units + 64 < cLine) (he : PE X e (liftE X.K W de)) (ho : PE X o (liftE X.K W dx)) (hi : PE X i (liftE X.K W dy))
    (ha : ∀ v, assign (.Subscript o i ipos) X.env v = (do
      let ov ← holding [v] (eval o X.env)
      let iv ← holding [v, ov] (eval i X.env)
      standAt ipos
      holding [v, ov, iv] (setItem ov iv v)
      release [v, ov, iv] []) := by intro _; rfl) (hs : swapsWithSole [.Subscript o i ipos] e pos.line X.env = pure false := by rfl) (hw : swappedStores [.Subscript o i ipos] e X.env = pure none := by rfl)
    (h1 : (assignEach [.Subscript o i ipos] X.env).map (·.2) = [assign (.Subscript o i ipos) X.env] := by rfl) : PS X (.Assign [.Subscript o i ipos] e pos) (liftS X.K W (sSet bx de dx dy)) :=
  PSimp (ps_asg he (pg_sub ho hi (PSet.or set_list (set_dic (by omega))) ha) hs hw h1) fun De σ H q => by
  obtain ⟨Ed, Pr, Fr, f, env, st, Dd, A, d, E⟩ := q
  refine ⟨Ed, Pr, Fr, f, env, st, _, A, d, fun z st1 h v Fr1 f1 H1 s1 p1 S1 r1 => ?_⟩
  obtain ⟨Fr2, f2, s2, p2, C2, r2⟩ := r1.keep bx S1.toSimC
  have A2 := A.up (s1.trans s2) (p1.trans p2) (S1.up s2 p2 C2)
  generalize (keep bx st1 z).2 = st1' at *
  generalize (keep bx st1 z).1 = z' at *
  refine ⟨Ed, Pr, Fr2, f2, env, st1', _, A2, h, fun x st2 h2 ov Fr3 f3 H3 s3 p3 S3 r3 => ?_⟩
  refine ⟨Ed, Pr, Fr3, f3, env, st2, _, A2.up s3 p3 S3, h2, fun y st3 h3 iv Fr4 f4 H4 s4 p4 S4 r4 => ?_⟩
  have rz : Rep X.K Fr4 f4 z' v := Rep.mono (s3.trans s4) (p3.trans p4) _ _ r2
  unfold opSet at h3
  split at h3
  · rename_i n
    obtain ⟨a, ea, rfl⟩ := (show Rep X.K Fr4 f4 (.ref n) ov from Rep.mono s4 p4 _ _ (show Rep X.K Fr3 f3 (.ref n) ov from r3))
    split at h3
    · rename_i ds i e1
      cases (show iv = _ from r4)
      obtain ⟨b, vs, h5, h6, rl⟩ := S4.lst e1
      rw [ea] at h5; cases h5
      split at h3
      · rename_i j ej
        refine .inl ⟨a, vs, _, j, rfl, rfl, h6, by rw [← rl.length]; exact ej, ?_⟩
        exact E.nx _ _ h3 Fr4 f4 σ _ (((s1.trans s2).trans s3).trans s4) (((p1.trans p2).trans p3).trans p4) ⟨S4.toSimC.write ea ⟨_, rfl, rl.set j rz⟩, S4.env⟩
      · exact h3.elim
    · rename_i kvs e1
      obtain ⟨b, us, h5, h6, rk⟩ := S4.dic e1
      rw [ea] at h5; cases h5
      split at h3
      · rename_i q eq
        obtain rfl := keyOf_repX eq r4
        refine .inr ⟨a, _, rfl, DPut.k h6 (by rw [RepK.length (K := X.K) (Fr := Fr4) (f := f4) rk]; exact h3.1), ?_⟩
        exact E.nx _ _ h3.2 Fr4 f4 σ _ (((s1.trans s2).trans s3).trans s4) (((p1.trans p2).trans p3).trans p4) ⟨S4.toSimC.write ea (m := .dic (putP kvs q z')) ⟨_, rfl, RepK.put rz rk⟩, S4.env⟩
      · exact h3.elim
    · exact h3.elim
  · exact h3.elim

/-! ### while -/
def whileN (t : DT) (b : DS) (Ed : EdT) (D : DEnds) : Nat → Slots → Sto → Prop
  | 0 => fun _ _ => False
  | n + 1 => fun env st => t Ed env st fun c st1 => if c = true then b Ed { nx := whileN t b Ed D n, ct := whileN t b Ed D n, bk := D.nx, rt := D.rt } env st1 else D.nx env st1
def sWhile (t : DT) (b : DS) : DS := fun Ed D env st => ∃ n, whileN t b Ed D n env st
theorem ds_while {c : Expr} (hp : PassesOwn (model X.prog X.w) X.A X.env X.xe) (hc : PT X c (liftT X.K W dt)) (hb : PSs X body (liftS X.K W d1)) : PS X (.While c body [] pos) (liftS X.K W (sWhile dt d1)) := PSimp (ps_while hp hc hb) fun De σ H q => by
  obtain ⟨Ed, Pr, Fr, f, env, st, Dd, A, ⟨n, d⟩, E⟩ := q
  refine ⟨fun m σ H => ∃ Fr' f' env st, Same Fr Fr' ∧ f <+: f' ∧ Sim X.K Pr Fr' f' env st σ H ∧ whileN dt d1 Ed Dd m env st, ⟨n, Fr, f, env, st, Same.refl _, List.prefix_refl _, A.toSim, d⟩, ?_⟩
  rintro m σ' H' ⟨Fr1, f1, env1, st1, s1, p1, S1, h1⟩
  cases m with
  | zero => exact h1.elim
  | succ m =>
    have A1 := A.up s1 p1 S1
    refine ⟨Ed, Pr, Fr1, f1, env1, st1, _, A1, h1, fun b st2 h2 Fr2 f2 H2 s2 p2 S2 => ?_⟩
    cases b with
    | true =>
      refine ⟨fun σ H => ∃ Fr' f' env st, Same Fr Fr' ∧ f <+: f' ∧ Sim X.K Pr Fr' f' env st σ H ∧ whileN dt d1 Ed Dd m env st, fun σ3 H3 w => ⟨m, Nat.lt_succ_self _, w⟩, ?_⟩
      refine ⟨Ed, Pr, Fr2, f2, env1, st2, _, A1.up s2 p2 S2, h2, ⟨?_, ?_, ?_, ?_⟩⟩
      · exact fun e s h Fr3 f3 σ3 H3 s3 p3 S3 => ⟨Fr3, f3, e, s, (s1.trans s2).trans s3, (p1.trans p2).trans p3, S3, h⟩
      · exact fun e s h Fr3 f3 σ3 H3 s3 p3 S3 => E.nx _ _ h Fr3 f3 σ3 H3 ((s1.trans s2).trans s3) ((p1.trans p2).trans p3) S3
      · exact fun e s h Fr3 f3 σ3 H3 s3 p3 S3 => ⟨Fr3, f3, e, s, (s1.trans s2).trans s3, (p1.trans p2).trans p3, S3, h⟩
      · exact fun x s h v Fr3 f3 H3 s3 p3 S3 r => E.rt _ _ h v Fr3 f3 H3 ((s1.trans s2).trans s3) ((p1.trans p2).trans p3) S3 r
    | false => exact E.nx _ _ h2 Fr2 f2 σ' H2 (s1.trans s2) (p1.trans p2) S2

/-! ### what is walked -/
abbrev DI := EdT → Slots → Sto → (List D → (Sto → Prop) → Sto → Prop) → Prop
/-- the iterator J yields the items, while ok -/
def ItSim (K : PySem.W.Frag) (J : It) (its : List D) (ok : Sto → Prop) (Fr : Hp) (f : List Addr) : Prop :=
  ∀ i Pr Fr' f' st H, Same Fr Fr' → f <+: f' → SimC K Pr Fr' f' st H → ok st →
    (∀ x, its[i]? = some x → J.go i H ∧ ∀ v H2, J.yld i H v H2 → ∃ Fr2, Same Fr' Fr2 ∧ SimC K Pr Fr2 f' st H2 ∧ Rep K Fr2 f' x v) ∧ (its.length ≤ i → J.stop i H)
theorem ItSim.up {K : PySem.W.Frag} {J : It} {its : List D} {ok : Sto → Prop} {Fr Fr' : Hp} {f f' : List Addr} (h : ItSim K J its ok Fr f) (s : Same Fr Fr') (p : f <+: f') : ItSim K J its ok Fr' f' :=
  fun i Pr Fr2 f2 st H s2 p2 => h i Pr Fr2 f2 st H (s.trans s2) (p.trans p2)
def liftI (K : PySem.W.Frag) (W : WX) (d : DI) : TI := fun σ H R => ∃ Ed Pr Fr f env st Q0, At K W Ed Pr Fr f env st σ H ∧ d Ed env st Q0 ∧
  ∀ its ok st', Q0 its ok st' → ∀ J Fr' f' H', Same Fr Fr' → f <+: f' → Sim K Pr Fr' f' env st' σ H' → ItSim K J its ok Fr' f' → R J H'
theorem PIimp {tg iter : Expr} {t t' : TI} (h : PI X tg iter t) (i : ∀ σ H R, t' σ H R → t σ H R) : PI X tg iter t' := ⟨fun pins s σ H R I q => h.run pins s σ H R I (i σ H R q)⟩
/-- a list, a tuple, a text -/
def iDyn (K : PySem.W.Frag) (tl : TE) : TI := fun σ H R => tl σ H fun x H1 => (∃ a, x = .ref a ∧ (∃ xs, SqL K H1 a xs) ∧ R (Itl K a) H1) ∨ (∃ a, x = .ref a ∧ (∃ xs, SqT K H1 a xs) ∧ R (Itt K a) H1) ∨ ∃ z, x = .str z ∧ R (Its z) H1
theorem pi_dyn {tg l : Expr} {tl : TE} (hl : PE X l tl) : PI X tg l (iDyn X.K tl) := by
  refine ⟨fun pins s σ H R I h => ?_⟩
  refine thn (hl.run pins s σ H _ I h) fun v s1 ⟨x, H1, I1, r1, q1⟩ => ?_
  rcases q1 with ⟨a, e, ⟨xs, hq⟩, q⟩ | ⟨a, e, ⟨xs, hq⟩, q⟩ | ⟨z, ex, q⟩
  · subst e
    cases r1
    obtain ⟨its, rv, p, hz⟩ := I1.list hq
    refine wpAny_pyIter_list p.isList ?_
    refine ⟨s1.heap.objs.size, [s1.heap.objs.size], _, _, H1, rfl, I1.kept (t' := s1.toks) fun b o e => Heap.get?_push_of_some _ e, turn_list a _, ⟨_, Heap.get?_push_size _ rfl, rfl, rfl⟩, fun b hb => ?_, q⟩
    have e : b = s1.heap.objs.size := by simpa using hb
    subst e
    exact I1.fpOk (Nat.le_refl _) (I1.hok.fresh (Nat.le_refl _))
  · subst e
    cases r1
    obtain ⟨its, rv, p, hz⟩ := I1.tuple hq
    refine wpAny_pyIter_tuple (show s1.heap.IsTuple a its.toArray from p) ?_
    refine ⟨s1.heap.objs.size, [s1.heap.objs.size], _, _, H1, rfl, I1.kept (t' := s1.toks) fun b o e => Heap.get?_push_of_some _ e, turn_tuple a _, ⟨_, Heap.get?_push_size _ rfl, rfl, rfl⟩, fun b hb => ?_, q⟩
    have e : b = s1.heap.objs.size := by simpa using hb
    subst e
    exact I1.fpOk (Nat.le_refl _) (I1.hok.fresh (Nat.le_refl _))
  · subst ex
    obtain ⟨t, rfl⟩ := r1
    cases ha : z.cps.all (· < 128)
    · exact wpAny_pyIter_wide ha (pi_one (tk := s1.toks) I1 _ (turn_str _ z t "str_iterator" (.inr rfl)) ⟨_, Heap.get?_push_size _ rfl, rfl, rfl⟩ q)
    · exact wpAny_pyIter_ascii ha (pi_one (tk := s1.toks) I1 _ (turn_str _ z t "str_ascii_iterator" (.inl rfl)) ⟨_, Heap.get?_push_size _ rfl, rfl, rfl⟩ q)
/-- how a value is walked: its items, and what must stay -/
def itemsOf (st : Sto) : D → Option (List D)
  | .str z => some (z.cps.toList.map fun c => .str ⟨#[c]⟩)
  | d => seqOf st d
def stays (st : Sto) : D → Sto → Prop
  | .ref n => fun st' => st'[n]? = st[n]?
  | _ => fun _ => True
def iSeq (de : DE) : DI := fun Ed env st R => de Ed env st fun x st1 => match itemsOf st1 (frz x) with
  | some its => R its (stays st1 (frz x)) st1
  | none => False
theorem itl_sim {K : PySem.W.Frag} {Fr : Hp} {f : List Addr} {a : Addr} {ds : List D} {vs : List V} (h : SqL K Fr a vs) (r : Reps K Fr f ds vs) : ItSim K (Itl K a) ds (fun _ => True) Fr f := by
  intro i Pr Fr' f' st H s p S _
  have h' : SqL K H a vs := (s.trans S.fr).seq h
  refine ⟨fun x e => ?_, fun hi => ⟨vs, h', by rw [← r.length]; exact hi⟩⟩
  obtain ⟨v, ev, rv⟩ := r.get e
  refine ⟨⟨vs, v, h', ev⟩, fun w H2 y => ?_⟩
  obtain ⟨e2, y⟩ := y
  subst e2
  have := (y vs h').symm.trans ev
  cases this
  exact ⟨Fr', Same.refl _, S, Rep.mono s p _ _ rv⟩
theorem itt_sim {K : PySem.W.Frag} {Fr : Hp} {f : List Addr} {a : Addr} {ds : List D} {vs : List V} (h : SqT K Fr a vs) (r : Reps K Fr f ds vs) : ItSim K (Itt K a) ds (fun _ => True) Fr f := by
  intro i Pr Fr' f' st H s p S _
  have h' : SqT K H a vs := Same.seqT (s.trans S.fr) h
  refine ⟨fun x e => ?_, fun hi => ⟨vs, h', by rw [← r.length]; exact hi⟩⟩
  obtain ⟨v, ev, rv⟩ := r.get e
  refine ⟨⟨vs, v, h', ev⟩, fun w H2 y => ?_⟩
  obtain ⟨e2, y⟩ := y
  subst e2
  have := (y vs h').symm.trans ev
  cases this
  exact ⟨Fr', Same.refl _, S, Rep.mono s p _ _ rv⟩
theorem itc_sim {K : PySem.W.Frag} {Fr : Hp} {f : List Addr} {a : Addr} {n : Nat} {ds : List D} (ef : f[n]? = some a) : ItSim K (Itl K a) ds (fun st => st[n]? = some (.lst ds)) Fr f := by
  intro i Pr Fr' f' st H s p S e
  obtain ⟨b, vs, h1, h2, r⟩ := S.lst e
  rw [pre_get p ef] at h1; cases h1
  have h' : SqL K H a vs := .of h2
  refine ⟨fun x e => ?_, fun hi => ⟨vs, h', by rw [← r.length]; exact hi⟩⟩
  obtain ⟨v, ev, rv⟩ := r.get e
  refine ⟨⟨vs, v, h', ev⟩, fun w H2 y => ?_⟩
  obtain ⟨e2, y⟩ := y
  subst e2
  have := (y vs h').symm.trans ev
  cases this
  exact ⟨Fr', Same.refl _, S, rv⟩
theorem its_sim {K : PySem.W.Frag} {Fr : Hp} {f : List Addr} (z : Str) : ItSim K (Its z) (z.cps.toList.map fun c => .str ⟨#[c]⟩) (fun _ => True) Fr f := by
  intro i Pr Fr' f' st H s p S _
  refine ⟨fun x e => ?_, fun hi => by show z.cps.size ≤ i; simpa using hi⟩
  rw [List.getElem?_map] at e
  cases h : z.cps.toList[i]? with
  | none => rw [h] at e; cases e
  | some c =>
    rw [h] at e
    cases e
    have hi : i < z.cps.size := by simpa using (List.getElem?_eq_some_iff.mp h).1
    refine ⟨hi, fun v H2 y => ?_⟩
    obtain ⟨rfl, c', ec, rfl⟩ := y
    have : c = c' := by
      have h' : z.cps[i]? = some c := by simpa using h
      rw [h'] at ec
      exact Option.some.inj ec
    subst this
    exact ⟨Fr', Same.refl _, S, rfl⟩
theorem di_seq {tg l : Expr} (hl : PE X l (liftE X.K W de)) : PI X tg l (liftI X.K W (iSeq de)) := PIimp (pi_dyn hl) fun σ H R q => by
  obtain ⟨Ed, Pr, Fr, f, env, st, Q0, A, d, k⟩ := q
  refine lift1 (R := fun x st1 => match itemsOf st1 x with
    | some its => Q0 its (stays st1 x) st1
    | none => False) A d fun x st1 v Fr1 f1 H1 h1 s1 p1 S1 r1 => ?_
  cases x with
  | str z =>
    cases (show v = _ from r1)
    exact .inr (.inr ⟨z, rfl, k _ _ _ h1 _ Fr1 f1 H1 s1 p1 S1 (its_sim z)⟩)
  | tup ds =>
    obtain ⟨a, vs, rfl, h, r⟩ := r1
    exact .inr (.inl ⟨a, rfl, ⟨vs, S1.frT h⟩, k _ _ _ h1 _ Fr1 f1 H1 s1 p1 S1 (itt_sim h r)⟩)
  | sl ds =>
    obtain ⟨a, vs, rfl, h, r⟩ := r1
    exact .inl ⟨a, rfl, ⟨vs, S1.frL h⟩, k _ _ _ h1 _ Fr1 f1 H1 s1 p1 S1 (itl_sim h r)⟩
  | fl ds =>
    obtain ⟨a, vs, rfl, h, r⟩ := r1
    exact .inl ⟨a, rfl, ⟨vs, .inl (.inl (S1.fr _ _ h))⟩, k _ _ _ h1 _ Fr1 f1 H1 s1 p1 S1 (itl_sim (.inl (.inl h)) r)⟩
  | ref n =>
    obtain ⟨a, ef, rfl⟩ := r1
    have h1' : (match lisOf st1 (.ref n) with
      | some its => Q0 its (fun st' => st'[n]? = st1[n]?) st1
      | none => False) := h1
    cases hl : lisOf st1 (.ref n) with
    | none => rw [hl] at h1'; exact h1'.elim
    | some ds =>
      rw [hl] at h1'
      have e1 : st1[n]? = some (.lst ds) := by
        unfold lisOf at hl
        simp only at hl
        split at hl
        · rename_i e; cases hl; exact e
        · cases hl
      obtain ⟨b, vs, h2, h3, r⟩ := S1.lst e1
      rw [ef] at h2; cases h2
      rw [e1] at h1'
      exact .inl ⟨a, rfl, ⟨vs, .of h3⟩, k _ _ _ h1' _ Fr1 f1 H1 s1 p1 S1 (itc_sim ef)⟩
  | non => exact h1.elim
  | bl _ => exact h1.elim
  | int _ => exact h1.elim
  | con _ => exact h1.elim
  | ty _ => exact h1.elim
  | fd _ _ => exact h1.elim
  | tl _ => exact (show False from r1).elim
  | td _ _ => exact (show False from r1).elim
/-- range -/
def rangeD (lo : Int) (n : Nat) : List D := (List.range n).map fun i => .int (lo + (i : Nat))
def iRng1 (da : DA) : DI := fun Ed env st R => da Ed env st fun xs st1 => match xs with
  | [.int j] => -(2 ^ 62) ≤ j ∧ j < 2 ^ 62 ∧ R (rangeD 0 j.toNat) (fun _ => True) st1
  | _ => False
def iRng2 (da : DA) : DI := fun Ed env st R => da Ed env st fun xs st1 => match xs with
  | [.int i, .int j] => -(2 ^ 62) ≤ i ∧ i < 2 ^ 62 ∧ -(2 ^ 62) ≤ j ∧ j < 2 ^ 62 ∧ R (rangeD i (j - i).toNat) (fun _ => True) st1
  | _ => False
theorem itr_sim {K : PySem.W.Frag} {Fr : Hp} {f : List Addr} (lo : Int) (n : Nat) : ItSim K (Itr lo n) (rangeD lo n) (fun _ => True) Fr f := by
  intro i Pr Fr' f' st H s p S _
  refine ⟨fun x e => ?_, fun hi => by show n ≤ i; simpa [rangeD] using hi⟩
  unfold rangeD at e
  rw [List.getElem?_map] at e
  cases h : (List.range n)[i]? with
  | none => rw [h] at e; cases e
  | some c =>
    rw [h] at e
    cases e
    obtain ⟨hi, rfl⟩ := List.getElem?_eq_some_iff.mp h
    refine ⟨by show i < n; simpa using hi, fun v H2 y => ?_⟩
    obtain ⟨rfl, rfl⟩ := y
    exact ⟨Fr', Same.refl _, S, by simp [Rep]⟩
theorem di_range1 {tg a : Expr} {da : DA} {p : Pos} (hg : Gl X "range") (hm : X.mg "range" = none) (ha : PA X [a] (liftA X.K W da)) (hs : starEach [a] X.env = [(false, eval a X.env)] := by rfl) : PI X tg (.Call (.Name "range" p) [a] [] pos) (liftI X.K W (iRng1 da)) :=
  PIimp (pi_range1 hg hm ha hs) fun σ H R q => by
  obtain ⟨Ed, Pr, Fr, f, env, st, Q0, A, d, k⟩ := q
  refine liftA1 A d fun xs st1 vs Fr1 f1 H1 h1 s1 p1 S1 r1 => ?_
  split at h1
  · obtain ⟨v, rfl, r⟩ := r1.one
    cases (show v = _ from r)
    exact ⟨_, rfl, h1.1, h1.2.1, k _ _ _ h1.2.2 _ Fr1 f1 H1 s1 p1 S1 (itr_sim _ _)⟩
  · exact h1.elim
theorem di_range2 {tg a b : Expr} {da : DA} {p : Pos} (hg : Gl X "range") (hm : X.mg "range" = none) (ha : PA X [a, b] (liftA X.K W da)) (hs : starEach [a, b] X.env = [(false, eval a X.env), (false, eval b X.env)] := by rfl) (hs2 : starEach [b] X.env = [(false, eval b X.env)] := by rfl) : PI X tg (.Call (.Name "range" p) [a, b] [] pos) (liftI X.K W (iRng2 da)) :=
  PIimp (pi_range2 hg hm ha hs hs2) fun σ H R q => by
  obtain ⟨Ed, Pr, Fr, f, env, st, Q0, A, d, k⟩ := q
  refine liftA1 A d fun xs st1 vs Fr1 f1 H1 h1 s1 p1 S1 r1 => ?_
  split at h1
  · obtain ⟨v, u, rfl, r, r'⟩ := r1.two
    cases (show v = _ from r); cases (show u = _ from r')
    exact ⟨_, _, rfl, ⟨h1.1, h1.2.1, h1.2.2.1, h1.2.2.2.1⟩, k _ _ _ h1.2.2.2.2 _ Fr1 f1 H1 s1 p1 S1 (itr_sim _ _)⟩
  · exact h1.elim

/-! ### for -/
def forN (ok : Sto → Prop) (tg : Tg) (b : DS) (Ed : EdT) (De : DEnds) : List D → Slots → Sto → Prop
  | [] => fun env st => ok st ∧ De.nx env st
  | x :: xs => fun env st => ok st ∧ match tgSet st tg x env with
    | some env' => b Ed { nx := forN ok tg b Ed De xs, ct := forN ok tg b Ed De xs, bk := De.nx, rt := De.rt } env' st
    | none => False
def sFor (tg : Tg) (di : DI) (b : DS) : DS := fun Ed D env st => di Ed env st fun its ok st1 => forN ok tg b Ed D its env st1
theorem ds_for {tgE iter : Expr} {tg : Tg} {di : DI} (hp : PassesOwn (model X.prog X.w) X.A X.env X.xe) (hc : X.calm = true) (hi : PI X tgE iter (liftI X.K W di)) (hg : PG X tgE (gD X.K tg)) (hb : PSs X body (liftS X.K W d1))
    (hs : ∀ x, foldedSetIterable iter X.env x = pure x := by intro _; rfl) : PS X (.For tgE iter body [] pos) (liftS X.K W (sFor tg di d1)) := PSimp (ps_for hp hc hi hg hb hs) fun De σ H q => by
  obtain ⟨Ed, Pr, Fr, f, env, st, Dd, A, d, E⟩ := q
  refine ⟨Ed, Pr, Fr, f, env, st, _, A, d, fun its ok st1 h J Fr1 f1 H1 s1 p1 S1 J1 => ?_⟩
  refine ⟨fun i m σ H => m = its.length - i ∧ i ≤ its.length ∧ ∃ Fr' f' env st, Same Fr1 Fr' ∧ f1 <+: f' ∧ Sim X.K Pr Fr' f' env st σ H ∧ forN ok tg d1 Ed Dd (its.drop i) env st, ⟨its.length, rfl, Nat.zero_le _, Fr1, f1, env, st1, Same.refl _, List.prefix_refl _, S1, h⟩, ?_⟩
  rintro i m σ' H' ⟨rfl, hi, Fr2, f2, env2, st2, s2, p2, S2, h2⟩
  by_cases hlt : i < its.length
  · rw [List.drop_eq_getElem_cons hlt] at h2
    obtain ⟨hok, h2⟩ := h2
    obtain ⟨h3, h4⟩ := (J1 i Pr Fr2 f2 st2 H' s2 p2 S2.toSimC hok).1 _ (List.getElem?_eq_getElem hlt)
    refine .inr ⟨h3, fun σ H => ∃ Fr' f' env st, Same Fr1 Fr' ∧ f1 <+: f' ∧ Sim X.K Pr Fr' f' env st σ H ∧ forN ok tg d1 Ed Dd (its.drop (i + 1)) env st, fun σ3 H3 w => ⟨its.length - (i + 1), by omega, rfl, hlt, w⟩, fun v H3 y => ?_⟩
    obtain ⟨Fr3, s3, C3, r3⟩ := h4 v H3 y
    have S3 : Sim X.K Pr Fr3 f2 env2 st2 σ' H3 := S2.up s3 (List.prefix_refl _) C3
    split at h2
    · rename_i env3 e3
      refine ⟨Pr, Fr3, f2, env2, st2, _, env3, S3, r3, e3, fun σ4 _ R4 => ?_⟩
      have A4 := A.up ((s1.trans s2).trans s3) (p1.trans p2) (env' := env3) (st' := st2) (σ' := σ4) (H' := H3) ⟨C3, R4⟩
      refine ⟨Ed, Pr, Fr3, f2, env3, st2, _, A4, h2, ⟨?_, ?_, ?_, ?_⟩⟩
      · exact fun e s h Fr5 f5 σ5 H5 s5 p5 S5 => ⟨Fr5, f5, e, s, (s2.trans s3).trans s5, p2.trans p5, S5, h⟩
      · exact fun e s h Fr5 f5 σ5 H5 s5 p5 S5 => E.nx _ _ h Fr5 f5 σ5 H5 (((s1.trans s2).trans s3).trans s5) ((p1.trans p2).trans p5) S5
      · exact fun e s h Fr5 f5 σ5 H5 s5 p5 S5 => ⟨Fr5, f5, e, s, (s2.trans s3).trans s5, p2.trans p5, S5, h⟩
      · exact fun x s h v Fr5 f5 H5 s5 p5 S5 r => E.rt _ _ h v Fr5 f5 H5 (((s1.trans s2).trans s3).trans s5) ((p1.trans p2).trans p5) S5 r
    · exact h2.elim
  · have e : i = its.length := by omega
    subst e
    rw [List.drop_length] at h2
    exact .inl ⟨(J1 _ Pr Fr2 f2 st2 H' s2 p2 S2.toSimC h2.1).2 (Nat.le_refl _), E.nx _ _ h2.2 Fr2 f2 σ' H' (s1.trans s2) (p1.trans p2) S2⟩

/-! ### list comprehensions -/
def wipeD (env : Slots) : List Nat → Slots
  | [] => env
  | v :: vs => (wipeD env vs).set v none
theorem wipe_rep {K : PySem.W.Frag} {Fr : Hp} {f : List Addr} {env : Slots} {σ : L2.St} (r : RepS K Fr f env σ) : ∀ vs : List Nat, RepS K Fr f (wipeD env vs) (L2.wipe σ vs)
  | [] => r
  | v :: vs => RepS.unset v (wipe_rep r vs)
def lcN (ok : Sto → Prop) (vs : List Nat) (tg : Tg) (dt : DT) (bx : Bool) (de : DE) (env : Slots) (Q : D → Sto → Prop) : List D → List D → Sto → Prop
  | [], acc => fun st => ok st ∧ Q (.tl acc) st
  | x :: xs, acc => fun st => ok st ∧ match tgSet st tg x (wipeD env vs) with
    | some env' => dt noEd env' st fun b st1 => if b = true then de noEd env' st1 fun y st2 => acc.length < sizeLine ∧ lcN ok vs tg dt bx de env Q xs (acc ++ [(keep bx st2 y).1]) (keep bx st2 y).2 else lcN ok vs tg dt bx de env Q xs acc st1
    | none => False
def dLc (vs : List Nat) (tg : Tg) (di : DI) (dt : DT) (bx : Bool) (de : DE) : DE := fun Ed env st Q => di Ed env st fun its ok st1 => lcN ok vs tg dt bx de env Q its [] st1
def dYes : DT := fun _ _ st Q => Q true st
theorem dts_nil {X : Cx} : PTs X [] (liftT X.K noW dYes) := ⟨fun pins s σ H Q I q => pts_nil.run pins s σ H Q I (by
  obtain ⟨Ed, Pr, Fr, f, env, st, Q0, A, d, k⟩ := q
  exact k _ _ d Fr f H (Same.refl _) (List.prefix_refl _) A.toSim)⟩
theorem dts_one {X : Cx} {c : Expr} (h : PT X c (liftT X.K noW dt)) : PTs X [c] (liftT X.K noW dt) := pts_one h
theorem lift_lc {K : PySem.W.Frag} {W : WX} {vs : List Nat} {tg : Tg} {di : DI} {dt : DT} {bx : Bool} {de : DE} (hvs : ∀ j ∈ tgSlots tg, j ∈ vs) (σ : L2.St) (H : Hp) (Q : VK) (q : liftE K W (dLc vs tg di dt bx de) σ H Q) :
    tLc (liftI K W di) (gD K tg) (liftT K noW dt) (liftE K noW de) vs σ H Q := by
  obtain ⟨Ed, Pr, Fr, f, env, st, Q0, A, d, k⟩ := q
  refine ⟨Ed, Pr, Fr, f, env, st, _, A, d, fun its ok st1 h J Fr1 f1 H1 s1 p1 S1 J1 D hD => ?_⟩
  have hDF : Fr1 D = none := S1.fr.free hD
  have hDP : Pr D = none := S1.pr.free hD
  have hDf : D ∉ f1 := S1.toSimC.notCell hD
  -- the new list stands at D, neither frozen nor a cell
  have start : SimC K (upd Pr D (.lst [])) Fr1 f1 st1 (upd H1 D (.lst [])) := by
    have C := S1.toSimC.other (o := .lst []) hDF hDP hDf
    refine ⟨C.fr, fun b u e => ?_, fun b u e => ?_, fun b u e => ?_, C.nd, C.len, C.nf, C.cell⟩
    · by_cases hb : b = D
      · subst hb; rw [upd_same] at e ⊢; exact e
      · rw [upd_ne hb] at e; exact C.pr b u e
    · by_cases hb : b = D
      · subst hb; exact hDF
      · rw [upd_ne hb] at e; exact C.pF b u e
    · by_cases hb : b = D
      · subst hb; exact hDf
      · rw [upd_ne hb] at e; exact C.pf b u e
  refine ⟨fun i m H => m = its.length - i ∧ i ≤ its.length ∧ ∃ Fr' f' st acc us, Same Fr1 Fr' ∧ f1 <+: f' ∧ SimC K (upd Pr D (.lst us)) Fr' f' st H ∧ Reps K Fr' f' acc us ∧ lcN ok vs tg dt bx de env Q0 (its.drop i) acc st,
    ⟨its.length, rfl, Nat.zero_le _, Fr1, f1, st1, [], [], Same.refl _, List.prefix_refl _, start, rfl, h⟩, ?_⟩
  rintro i m H' ⟨rfl, hi, Fr2, f2, st2, acc, us, s2, p2, C2, r2, h2⟩
  have uD : ∀ {us : List V}, (upd Pr D (.lst us)) D = some (.lst us) := upd_same
  -- back to the old protection
  have back : ∀ {Fr' f' st H us}, SimC K (upd Pr D (.lst us)) Fr' f' st H → SimC K Pr Fr' f' st H := fun {Fr' f' st H us} C =>
    ⟨C.fr, fun b u e => C.pr b u (by rw [upd_ne (ne_of_none e hDP)]; exact e), fun b u e => C.pF b u (by rw [upd_ne (ne_of_none e hDP)]; exact e), fun b u e => C.pf b u (by rw [upd_ne (ne_of_none e hDP)]; exact e), C.nd, C.len, C.nf, C.cell⟩
  by_cases hlt : i < its.length
  · rw [List.drop_eq_getElem_cons hlt] at h2
    obtain ⟨hok, h2⟩ := h2
    obtain ⟨h3, h4⟩ := (J1 i _ Fr2 f2 st2 H' s2 p2 C2 hok).1 _ (List.getElem?_eq_getElem hlt)
    refine .inr ⟨h3, fun H => i + 1 ≤ its.length ∧ ∃ Fr' f' st acc us, Same Fr1 Fr' ∧ f1 <+: f' ∧ SimC K (upd Pr D (.lst us)) Fr' f' st H ∧ Reps K Fr' f' acc us ∧ lcN ok vs tg dt bx de env Q0 (its.drop (i + 1)) acc st, fun H3 w => ⟨its.length - (i + 1), by omega, rfl, w⟩, fun v H3 y => ?_⟩
    obtain ⟨Fr3, s3, C3, r3⟩ := h4 v H3 y
    have R0 : RepS K Fr3 f2 (wipeD env vs) (L2.wipe σ vs) := wipe_rep (RepS.mono ((s1.trans s2).trans s3) (p1.trans p2) A.env) vs
    split at h2
    · rename_i env3 e3
      refine ⟨_, Fr3, f2, wipeD env vs, st2, _, env3, ⟨C3, R0⟩, r3, e3, fun σ4 a4 R4 => ⟨?_, ?_⟩⟩
      · have := a4.wipe hvs
        rw [this]
        exact AgreeOff.wipe (js := vs) ⟨L2.wipe_length .., fun j hj => wipe_out hj⟩ fun _ h => h
      · refine ⟨noEd, _, Fr3, f2, env3, st2, _, ⟨⟨C3, R4⟩, fun _ _ _ _ _ _ _ _ _ _ z => z.elim⟩, h2, fun b st5 h5 Fr5 f5 H5 s5 p5 S5 => ?_⟩
        cases b with
        | true =>
          refine ⟨noEd, _, Fr5, f5, env3, st5, _, ⟨S5, fun _ _ _ _ _ _ _ _ _ _ z => z.elim⟩, h5, fun y st6 h6 w Fr6 f6 H6 s6 p6 S6 r6 => ?_⟩
          obtain ⟨Fr7, f7, s7, p7, C7, r7⟩ := r6.keep bx S6.toSimC
          have s27 := (((s3.trans s5).trans s6).trans s7)
          have p27 := ((p5.trans p6).trans p7)
          have eD : H6 D = some (.lst us) := C7.pr D _ uD
          refine ⟨us, eD, by rw [← r2.length]; exact h6.1, hlt, Fr7, f7, _, _, us ++ [w], s2.trans s27, p2.trans p27, ?_, (Reps.mono s27 p27 _ _ r2).append (.of1 r7), h6.2⟩
          have C8 := back C7
          have dF : Fr7 D = none := C7.pF D _ uD
          have df : D ∉ f7 := C7.pf D _ uD
          have C9 := C8.other (o := .lst (us ++ [w])) dF hDP df
          refine ⟨C9.fr, fun b u e => ?_, fun b u e => ?_, fun b u e => ?_, C9.nd, C9.len, C9.nf, C9.cell⟩
          · by_cases hb : b = D
            · subst hb; rw [upd_same] at e ⊢; exact e
            · rw [upd_ne hb] at e; exact C9.pr b u e
          · by_cases hb : b = D
            · subst hb; exact dF
            · rw [upd_ne hb] at e; exact C9.pF b u e
          · by_cases hb : b = D
            · subst hb; exact df
            · rw [upd_ne hb] at e; exact C9.pf b u e
        | false => exact ⟨hlt, Fr5, f5, st5, acc, us, (s2.trans s3).trans s5, p2.trans p5, S5.toSimC, Reps.mono (s3.trans s5) p5 _ _ r2, h5⟩
    · exact h2.elim
  · have e : i = its.length := by omega
    subst e
    rw [List.drop_length] at h2
    have S2 : Sim K Pr Fr2 f2 env st2 σ H' := ⟨back C2, RepS.mono (s1.trans s2) (p1.trans p2) A.env⟩
    exact .inl ⟨(J1 _ _ Fr2 f2 st2 H' s2 p2 C2 h2.1).2 (Nat.le_refl _), k _ _ h2.2 _ Fr2 f2 H' (s1.trans s2) (p1.trans p2) S2 ⟨D, us, rfl, C2.pr D _ uD, C2.pF D _ uD, hDP, C2.pf D _ uD, r2⟩⟩
theorem de_lc {elt tgE iter : Expr} {ifs : List Expr} {scope : Scope} {own : List (Str × Nat)} {tg : Tg} {di : DI} {dt : DT} (bx : Bool) (hc : X.calm = true) (hN : X.N.Nodup) (hi : PI X tgE iter (liftI X.K W di)) (ok : BlkOk X.N X.env.scope scope own)
    (hg : ∀ (s : Shared) (H : Hp) (C : Addr) (cl : List (Str × Addr)) (fp : List Addr), PG (X.blk s H scope (compEnvC scope cl C X.env) fp) tgE (gD X.K tg)) (ht : ∀ (s : Shared) (H : Hp) (C : Addr) (cl : List (Str × Addr)) (fp : List Addr), PTs (X.blk s H scope (compEnvC scope cl C X.env) fp) ifs (liftT X.K noW dt))
    (he : ∀ (s : Shared) (H : Hp) (C : Addr) (cl : List (Str × Addr)) (fp : List Addr), PE (X.blk s H scope (compEnvC scope cl C X.env) fp) elt (liftE X.K noW de)) (hvs : ∀ j ∈ tgSlots tg, j ∈ own.map (·.2)) (hs : ∀ x, foldedSetIterable iter X.env x = pure x := by intro _; rfl) :
    PE X (.ListComp elt [⟨tgE, iter, ifs, 0⟩] scope pos) (liftE X.K W (dLc (own.map (·.2)) tg di dt bx de)) := PEimp (pe_lc hc hN hi ok hg ht he hs) (lift_lc hvs)
theorem ds_setLc {i : Nat} {y : Str} {py : Pos} {elt tgE iter : Expr} {ifs : List Expr} {scope : Scope} {own : List (Str × Nat)} {spos : Pos} {tg : Tg} {di : DI} {dt : DT} (bx bx' : Bool) (hc : X.calm = true) (hN : X.N.Nodup) (hy : X.N[i]? = some y) (hyl : X.env.scope.names.lookup y = some .local)
    (hsw : swapsWith (.ListComp elt [⟨tgE, iter, ifs, 0⟩] scope pos) (some (.Name y py)) spos.line X.env = pure true) (hi : PI X tgE iter (liftI X.K W di)) (ok : BlkOk X.N X.env.scope scope own)
    (hg : ∀ (s : Shared) (H : Hp) (C : Addr) (cl : List (Str × Addr)) (fp : List Addr), PG (X.blk s H scope (compEnvC scope cl C X.env) fp) tgE (gD X.K tg)) (ht : ∀ (s : Shared) (H : Hp) (C : Addr) (cl : List (Str × Addr)) (fp : List Addr), PTs (X.blk s H scope (compEnvC scope cl C X.env) fp) ifs (liftT X.K noW dt))
    (he : ∀ (s : Shared) (H : Hp) (C : Addr) (cl : List (Str × Addr)) (fp : List Addr), PE (X.blk s H scope (compEnvC scope cl C X.env) fp) elt (liftE X.K noW de)) (hvs : ∀ j ∈ tgSlots tg, j ∈ own.map (·.2)) (hs : ∀ x, foldedSetIterable iter X.env x = pure x := by intro _; rfl) :
    PS X (.Assign [.Name y py] (.ListComp elt [⟨tgE, iter, ifs, 0⟩] scope pos) spos) (liftS X.K W (sAsg bx' i (dLc (own.map (·.2)) tg di dt bx de))) := PSimp (ps_setLc hc hN hy hyl hsw hi ok hg ht he hs) fun De σ H q => by
  have q' := lift_asg bx' De σ H q
  exact lift_lc hvs σ H _ q'
end
end DW

/-! DW9: dict displays and comprehensions, raise, try, the def's rule. -/
namespace DW
open PySem PySem.Spec PyProof.Rows L2

section
variable {X : Cx} {W : WX} {pos : Pos}

/-! ### {k: v, ..} written -/
def dPairs : List (DE × DE) → EdT → Slots → Sto → (List (D × D) → Sto → Prop) → Prop
  | [], _, _, st, Q => Q [] st
  | (dk, dv) :: r, Ed, env, st, Q => dk Ed env st fun x st1 => dv Ed env st1 fun y st2 => dPairs r Ed env st2 fun ps st3 => Q ((frz x, frz y) :: ps) st3
def keys? : List (D × D) → Option (List (Key × D))
  | [] => some []
  | (x, y) :: r => match keyOf x, keys? r with
    | some k, some s => some ((k, y) :: s)
    | _, _ => none
def mergeP (kvs more : List (Key × D)) : List (Key × D) := more.foldl (fun acc kv => putP acc kv.1 kv.2) kvs
def dDisp (ps : List (DE × DE)) : DE := fun Ed env st Q => dPairs ps Ed env st fun qs st1 => match keys? qs with
  | some kvs => kvs.length ≤ 15 ∧ Q (.td ((mergeP [] kvs).map (·.1)) ((mergeP [] kvs).map (·.2))) st1
  | none => False
theorem RepK.merge {K : PySem.W.Frag} {Fr : Hp} {f : List Addr} : ∀ {more : List (Key × D)} {us : List (Key × V)} {kvs : List (Key × D)} {ws : List (Key × V)}, RepK K Fr f more us → RepK K Fr f kvs ws → RepK K Fr f (mergeP kvs more) (mergeK ws us)
  | [], us, kvs, ws, h, h' => by cases h.inv0; exact h'
  | p :: more, us, kvs, ws, h, h' => by
    obtain ⟨v, r, rfl, h1, h2⟩ := h.inv
    have q := RepK.merge (more := more) (us := r) (kvs := putP kvs p.1 p.2) (ws := putK ws p.1 v) h2 (h'.put h1)
    exact q
/-- a list of pairs of values -/
def RepP (K : PySem.W.Frag) (Fr : Hp) (f : List Addr) : List (D × D) → List (V × V) → Prop
  | [], vs => vs = []
  | p :: ps, vs => ∃ v r, vs = v :: r ∧ Rep K Fr f p.1 v.1 ∧ Rep K Fr f p.2 v.2 ∧ RepP K Fr f ps r
theorem RepP.mono {K : PySem.W.Frag} {Fr Fr' : Hp} {f f' : List Addr} (s : Same Fr Fr') (p : f <+: f') : ∀ {ps : List (D × D)} {vs : List (V × V)}, RepP K Fr f ps vs → RepP K Fr' f' ps vs
  | [], _, h => h
  | q :: ps, _, h => by
    obtain ⟨v, r, e, h1, h2, h3⟩ := h
    exact ⟨v, r, e, Rep.mono s p _ _ h1, Rep.mono s p _ _ h2, RepP.mono s p h3⟩
theorem RepP.keys {K : PySem.W.Frag} {Fr : Hp} {f : List Addr} : ∀ {ps : List (D × D)} {vs : List (V × V)} {kvs : List (Key × D)}, RepP K Fr f ps vs → keys? ps = some kvs → ∃ us : List (Key × V), vs = us.map (fun kv => (kV kv.1, kv.2)) ∧ RepK K Fr f kvs us
  | [], vs, kvs, h, e => by
    cases (show vs = [] from h); cases e
    exact ⟨[], rfl, .nil⟩
  | q :: ps, vs, kvs, h, e => by
    obtain ⟨v, r, rfl, h1, h2, h3⟩ := h
    unfold keys? at e
    cases e1 : keyOf q.1 with
    | none => simp [e1] at e
    | some k =>
      cases e2 : keys? ps with
      | none => simp [e2] at e
      | some s =>
        simp only [e1, e2, Option.some.injEq] at e
        subst e
        obtain ⟨us, rfl, hu⟩ := RepP.keys h3 e2
        refine ⟨(k, v.2) :: us, ?_, RepK.cons (p := (k, q.2)) h2 hu⟩
        rw [List.map_cons, ← keyOf_rep e1 h1]
theorem lift_pairs {K : PySem.W.Frag} {W : WX} : ∀ (ps : List (DE × DE)) {σ : L2.St} {H : Hp} {Ed : EdT} {Pr Fr : Hp} {f : List Addr} {env : Slots} {st : Sto} {R : List (D × D) → Sto → Prop} {Q : List (V × V) → Hp → Prop}, At K W Ed Pr Fr f env st σ H → dPairs ps Ed env st R →
    (∀ qs st1 vs Fr' f' H', R qs st1 → Same Fr Fr' → f <+: f' → Sim K Pr Fr' f' env st1 σ H' → RepP K Fr' f' qs vs → Q vs H') → tPairs (ps.map fun p => (liftE K W p.1, liftE K W p.2)) σ H Q
  | [], σ, H, Ed, Pr, Fr, f, env, st, R, Q, A, d, k => k _ _ _ Fr f H d (Same.refl _) (List.prefix_refl _) A.toSim rfl
  | p :: ps, σ, H, Ed, Pr, Fr, f, env, st, R, Q, A, d, k => by
    refine lift2 (R := fun x y st2 => dPairs ps Ed env st2 fun qs st3 => R ((x, y) :: qs) st3) A d fun x y st2 v u Fr1 f1 H1 h1 s1 p1 S1 r1 r2 => ?_
    refine lift_pairs ps (A.up s1 p1 S1) h1 fun qs st3 vs Fr2 f2 H2 h2 s2 p2 S2 r3 => ?_
    exact k _ _ _ Fr2 f2 H2 h2 (s1.trans s2) (p1.trans p2) S2 ⟨(v, u), vs, rfl, Rep.mono s2 p2 _ _ r1, Rep.mono s2 p2 _ _ r2, r3⟩
theorem de_disp {keys : List (Option Expr)} {values : List Expr} {ps : List (DE × DE)} (h : PPs X pos keys values (ps.map fun p => (liftE X.K W p.1, liftE X.K W p.2))) (hall : keys.all (·.isSome) = true) (hl : keys.length = values.length) (h0 : keys ≠ [])
    (h15 : keys.length ≤ 15) : PE X (.Dict keys values pos) (liftE X.K W (dDisp ps)) := PEimp (pe_disp h hall hl h0 h15) fun σ H Q q => by
  obtain ⟨Ed, Pr, Fr, f, env, st, Q0, A, d, k⟩ := q
  intro D hD
  have hDF : Fr D = none := A.fr.free hD
  have hDP : Pr D = none := A.pr.free hD
  have hDf : D ∉ f := A.toSimC.notCell hD
  have C := A.toSimC.other (o := .dK []) hDF hDP hDf
  have C1 : SimC X.K (upd Pr D (.dK [])) Fr f st (upd H D (.dK [])) := by
    refine ⟨C.fr, fun b u e => ?_, fun b u e => ?_, fun b u e => ?_, C.nd, C.len, C.nf, C.cell⟩
    · by_cases hb : b = D
      · subst hb; rw [upd_same] at e ⊢; exact e
      · rw [upd_ne hb] at e; exact C.pr b u e
    · by_cases hb : b = D
      · subst hb; exact hDF
      · rw [upd_ne hb] at e; exact C.pF b u e
    · by_cases hb : b = D
      · subst hb; exact hDf
      · rw [upd_ne hb] at e; exact C.pf b u e
  have A1 : At X.K noW noEd (upd Pr D (.dK [])) Fr f env st σ (upd H D (.dK [])) := ⟨⟨C1, A.env⟩, fun _ _ _ _ _ _ _ _ _ _ z => z.elim⟩
  -- the parts may let an exception out: they are asked at the old protection's state
  have A2 : At X.K W Ed (upd Pr D (.dK [])) Fr f env st σ (upd H D (.dK [])) := ⟨⟨C1, A.env⟩, fun C0 e s Fr' f' σ' H' s1 p1 S1 hE => by
    refine A.exn C0 e s Fr' f' σ' H' s1 p1 ⟨⟨S1.fr, fun b u e => S1.pr b u ?_, fun b u e => S1.pF b u ?_, fun b u e => S1.pf b u ?_, S1.nd, S1.len, S1.nf, S1.cell⟩, S1.env⟩ hE
    all_goals (rw [upd_ne (ne_of_none e hDP)]; exact e)⟩
  refine lift_pairs ps A2 d fun qs st1 vs Fr1 f1 H1 h1 s1 p1 S1 r1 => ⟨S1.pr D _ upd_same, ?_⟩
  split at h1
  · rename_i kvs ek
    obtain ⟨us, rfl, hu⟩ := r1.keys ek
    refine ⟨us, rfl, by rw [hu.length]; exact h1.1, ?_⟩
    have hm := RepK.merge hu (RepK.nil (K := X.K) (Fr := Fr1) (f := f1))
    have dF : Fr1 D = none := S1.pF D _ upd_same
    have df : D ∉ f1 := S1.pf D _ upd_same
    have C2 : SimC X.K Pr Fr1 f1 st1 H1 := by
      refine ⟨S1.fr, fun b u e => S1.pr b u ?_, fun b u e => S1.pF b u ?_, fun b u e => S1.pf b u ?_, S1.nd, S1.len, S1.nf, S1.cell⟩
      all_goals (rw [upd_ne (ne_of_none e hDP)]; exact e)
    exact k _ _ h1.2 _ Fr1 f1 _ s1 p1 ⟨C2.other dF hDP df, S1.env⟩ ⟨D, _, rfl, upd_same, dF, hDP, df, hm.1, hm.2⟩
  · exact h1.elim

/-! ### raise, in a def or a try -/
def sRaise (C : Addr) : DS := fun Ed _ env st => Ed C env st
theorem ds_raise {x m : Str} {j : Nat} {p p2 p3 : Pos} {C : Addr} {bmB : List Value} {B newId initId : String} (hc : X.calm = true) (tk : Takes X W) (F : ExcBaseFacts B newId initId bmB) (q : PySem.W.excIn X.K C bmB newId = true) (gC : X.mg x = some (.ref C)) (kC : PySem.W.keepIn X.K (.ref C) = true) (r : Raises X (.ref C)) (hg : Gl X x)
    (hdb : (x == ("__debug__" : Str)) = false := by decide) : PS X (.Raise (some (.Call (.Name x p) [.Constant (.str m) j p2] [] p3)) none pos) (liftS X.K W (sRaise C)) := PSimp (ps_raise hc tk (pmk_own F q gC kC r hg hdb)) fun De σ H q => by
  obtain ⟨Ed, Pr, Fr, f, env, st, Dd, A, d, E⟩ := q
  exact A.exn C env st Fr f σ H (Same.refl _) (List.prefix_refl _) A.toSim d
/-! ### try: body, except C as n: suite -/
def sTryAs (cl : List (Addr × Bool)) (i : Nat) (db : DS) (dsu : Addr → Addr → DS) : DS := fun Ed D env st =>
  db (fun C env' st' => ∃ b, (C, b) ∈ cl ∧ (b = true → ∀ a, dsu C a noEd { nx := fun e s => D.nx (e.set i none) s, rt := D.rt, bk := fun e s => D.bk (e.set i none) s, ct := fun e s => D.ct (e.set i none) s } (env'.set i (some (.con a))) st') ∧ (b = false → Ed C env' st')) D env st
theorem RepS.unset' {K : PySem.W.Frag} {Fr : Hp} {f : List Addr} {env : Slots} {σ : L2.St} (i : Nat) (h : RepS K Fr f env σ) : RepS K Fr f (env.set i none) (σ.set i none) := RepS.unset i h
theorem ds_try_as {x n : Str} {c : Value} {i : Nat} {body suite : List Stmt} {b₀ : Stmt} {np pos' : Pos} {db : DS} {dsu : Addr → Addr → DS} {cl : List (Addr × Bool)} (hs : X.stack = X.env :: X.outer) (hf : X.env.frame = some X.env.locals) (hN : X.N.Nodup) (hi : X.N[i]? = some n) (hln : X.env.kindOf n = some .local) (hc : Names X x c) (tk : Takes X W)
    (hb : ∀ (W' : WX) (pn : List (Addr × Obj)) (xe : Value → Shared → Prop), Takes (X.tr pn xe) W' → PassesOwn (model X.prog X.w) X.A X.env xe → PSs (X.tr pn xe) body (liftS X.K W' db))
    (hsu : ∀ (a : Addr) (oe : Obj) (C : Addr) (pn : List (Addr × Obj)), Zc (.ref C) none oe → (∃ vs, oe.data = .fields vs) → PSs (X.suite a ((a, oe) :: pn)) (b₀ :: suite) (liftS X.K noW (dsu C a)))
    (hcl : ∀ p ∈ cl, PySem.W.exmOne X.K (.ref p.1) c = some p.2) :
    PS X (.Try body [.ExceptHandler (some (.Name x np)) (some n) (b₀ :: suite) pos'] [] [] pos) (liftS X.K W (sTryAs cl i db dsu)) := by
  refine PSimp (ps_try_as (tb := fun W' => liftS X.K W' db) (ts := fun a cls d => fun De σ H => ∃ C, cls = .ref C ∧ d = none ∧ liftS X.K noW (dsu C a) De σ H) hs hf hN hi hln hc tk hb
    (fun a oe cls d pn hz hfd => ⟨fun pins s σ H D I q => ?_⟩)) fun De σ H q => ?_
  · obtain ⟨C, rfl, rfl, q⟩ := q
    exact (hsu a oe C pn hz hfd).run pins s σ H D I q
  · obtain ⟨Ed, Pr, Fr, f, env, st, Dd, A, d, E⟩ := q
    refine ⟨_, Pr, Fr, f, env, st, Dd, ⟨A.toSim, fun C env' st' Fr1 f1 σ1 H1 s1 p1 S1 hE => ?_⟩, d, E⟩
    obtain ⟨b, hm, ht, hn⟩ := hE
    refine ⟨b, hcl _ hm, fun e a ha => ?_, fun e => A.exn C env' st' Fr1 f1 σ1 H1 s1 p1 S1 (hn e)⟩
    refine ⟨C, rfl, rfl, noEd, Pr, Fr1, f1, _, st', _, ⟨⟨S1.toSimC, RepS.set i (x := .con a) rfl S1.env⟩, fun _ _ _ _ _ _ _ _ _ _ z => z.elim⟩, ht e a, ⟨?_, ?_, ?_, ?_⟩⟩
    · exact fun e s h Fr2 f2 σ2 H2 s2 p2 S2 => E.nx _ _ h Fr2 f2 _ H2 (s1.trans s2) (p1.trans p2) ⟨S2.toSimC, RepS.unset i S2.env⟩
    · exact fun e s h Fr2 f2 σ2 H2 s2 p2 S2 => E.bk _ _ h Fr2 f2 _ H2 (s1.trans s2) (p1.trans p2) ⟨S2.toSimC, RepS.unset i S2.env⟩
    · exact fun e s h Fr2 f2 σ2 H2 s2 p2 S2 => E.ct _ _ h Fr2 f2 _ H2 (s1.trans s2) (p1.trans p2) ⟨S2.toSimC, RepS.unset i S2.env⟩
    · exact fun x s h v Fr2 f2 H2 s2 p2 S2 r => E.rt _ _ h v Fr2 f2 H2 (s1.trans s2) (p1.trans p2) S2 r
/-- isinstance of the error that is handled -/
def opIsE (a C : Addr) (b : Bool) : Sto → List D → (D → Prop) → Prop := fun _ xs k => match xs with
  | [.con a', .con C'] => a' = a ∧ C' = C ∧ k (.bl b)
  | _ => False
theorem cd_isE {K : PySem.W.Frag} {D0 a C : Addr} {b : Bool} (h : PySem.W.kitOne K (.ref D0) (.ref C) = some b) : CallD K (rIsE K D0 a) (opIsE a C b) := by
  intro Pr Fr f st H xs vs k Q S r o q
  unfold opIsE at o
  split at o
  · obtain ⟨v, u, rfl, r1, r2⟩ := r.two
    obtain ⟨rfl, rfl, o⟩ := o
    cases (show v = _ from r1); cases (show u = _ from r2)
    exact ⟨_, .ref _, b, rfl, fun u hu => hu, h, q _ _ Fr H o (Same.refl _) S rfl⟩
  · exact o.elim

/-! ### the def's rule -/
mutual
def cl (m : Nat) : D → Bool
  | .ref n => decide (n < m)
  | .tup ds => cls m ds
  | .fl ds => cls m ds
  | .sl ds => cls m ds
  | .tl ds => cls m ds
  | .fd _ ds => cls m ds
  | .td _ ds => cls m ds
  | _ => true
def cls (m : Nat) : List D → Bool
  | [] => true
  | d :: ds => cl m d && cls m ds
end
def clM (m : Nat) : MO → Bool
  | .lst ds => cls m ds
  | .dic kvs => cls m (kvs.map (·.2))
  | .obj _ fs => cls m (fs.map (·.2))
section
variable {K : PySem.W.Frag} {Fr : Hp} {f f' : List Addr} {m : Nat}
mutual
theorem Rep.shr (hf : f <+: f') (hm : f.length = m) : ∀ (d : D) (v : V), cl m d = true → Rep K Fr f' d v → Rep K Fr f d v
  | .non, _, _, h => h
  | .bl _, _, _, h => h
  | .int _, _, _, h => h
  | .str _, _, _, h => h
  | .tup ds, _, c, h => by
    obtain ⟨a, vs, e, s, r⟩ := h
    exact ⟨a, vs, e, s, Reps.shr hf hm ds vs c r⟩
  | .ref n, _, c, h => by
    obtain ⟨a, e, q⟩ := h
    refine ⟨a, ?_, q⟩
    have hn : n < m := of_decide_eq_true (show decide (n < m) = true from c)
    obtain ⟨t, rfl⟩ := hf
    rw [List.getElem?_append_left (by omega)] at e
    exact e
  | .fl ds, _, c, h => by
    obtain ⟨a, vs, e, s, r⟩ := h
    exact ⟨a, vs, e, s, Reps.shr hf hm ds vs c r⟩
  | .sl ds, _, c, h => by
    obtain ⟨a, vs, e, s, r⟩ := h
    exact ⟨a, vs, e, s, Reps.shr hf hm ds vs c r⟩
  | .fd ks ds, _, c, h => by
    obtain ⟨a, kvs, e, s, k, r⟩ := h
    exact ⟨a, kvs, e, s, k, Reps.shr hf hm ds _ c r⟩
  | .con _, _, _, h => h
  | .ty _, _, _, h => h
  | .tl _, _, _, h => h
  | .td _ _, _, _, h => h
theorem Reps.shr (hf : f <+: f') (hm : f.length = m) : ∀ (ds : List D) (vs : List V), cls m ds = true → Reps K Fr f' ds vs → Reps K Fr f ds vs
  | [], _, _, h => h
  | d :: ds, _, c, h => by
    obtain ⟨v, r, e, h1, h2⟩ := h
    have c' := Bool.and_eq_true_iff.mp (show (cl m d && cls m ds) = true from c)
    exact ⟨v, r, e, Rep.shr hf hm d v c'.1 h1, Reps.shr hf hm ds r c'.2 h2⟩
end
theorem RepO.cut (hf : f <+: f') (hm : f.length = m) {a : Addr} {mo : MO} {o : HO} (c : clM m mo = true) (h : RepO K Fr f' a mo o) : RepO K Fr f a mo o := by
  cases mo with
  | lst ds => obtain ⟨vs, e, r⟩ := h; exact ⟨vs, e, Reps.shr hf hm _ _ c r⟩
  | dic kvs => obtain ⟨ks, e, k, r⟩ := h; exact ⟨ks, e, k, Reps.shr hf hm _ _ c r⟩
  | obj C fs => obtain ⟨dx, gs, e, p, k, r⟩ := h; exact ⟨dx, gs, e, p, k, Reps.shr hf hm _ _ c r⟩
/-- the cells behind the first m are forgotten -/
theorem SimC.cut {Pr : Hp} {st : Sto} {H : Hp} (S : SimC K Pr Fr f' st H) (hf : f <+: f') (hm : f.length = m) (hl : m ≤ st.length) (c : (st.take m).all (clM m) = true) : SimC K Pr Fr f (st.take m) H where
  fr := S.fr
  pr := S.pr
  pF := S.pF
  pf := fun a o e h => S.pf a o e (hf.subset h)
  nd := S.nd.sublist hf.sublist
  len := by rw [List.length_take]; omega
  nf := fun a ha => S.nf a (hf.subset ha)
  cell := fun n mo a e1 e2 => by
    have hn : n < m := by
      have := (List.getElem?_eq_some_iff.mp e1).1
      rw [List.length_take] at this
      omega
    have e1' : st[n]? = some mo := by rw [List.getElem?_take_of_lt hn] at e1; exact e1
    obtain ⟨o, h1, h2⟩ := S.cell n mo a e1' (pre_get hf e2)
    exact ⟨o, h1, h2.cut hf hm (List.all_eq_true.mp c mo (List.mem_of_getElem? e1))⟩
end
section
variable {K : PySem.W.Frag} {Fr : Hp} {f : List Addr}
mutual
theorem Rep.cl : ∀ (d : D) (v : V), Rep K Fr f d v → cl f.length d = true
  | .non, _, _ => rfl
  | .bl _, _, _ => rfl
  | .int _, _, _ => rfl
  | .str _, _, _ => rfl
  | .tup ds, _, h => by
    obtain ⟨a, vs, e, s, r⟩ := h
    exact Reps.cl ds vs r
  | .ref n, _, h => by
    obtain ⟨a, e, q⟩ := h
    exact decide_eq_true (List.getElem?_eq_some_iff.mp e).1
  | .fl ds, _, h => by
    obtain ⟨a, vs, e, s, r⟩ := h
    exact Reps.cl ds vs r
  | .sl ds, _, h => by
    obtain ⟨a, vs, e, s, r⟩ := h
    exact Reps.cl ds vs r
  | .fd ks ds, _, h => by
    obtain ⟨a, kvs, e, s, k, r⟩ := h
    exact Reps.cl ds _ r
  | .con _, _, _ => rfl
  | .ty _, _, _ => rfl
  | .tl _, _, h => h.elim
  | .td _ _, _, h => h.elim
theorem Reps.cl : ∀ (ds : List D) (vs : List V), Reps K Fr f ds vs → cls f.length ds = true
  | [], _, _ => rfl
  | d :: ds, _, h => by
    obtain ⟨v, r, e, h1, h2⟩ := h
    exact Bool.and_eq_true_iff.mpr ⟨Rep.cl d v h1, Reps.cl ds r h2⟩
end
/-- a store that stands speaks of its own cells alone -/
theorem SimC.closed {Pr : Hp} {st : Sto} {H : Hp} (S : SimC K Pr Fr f st H) {n : Nat} {mo : MO} (e : st[n]? = some mo) : clM st.length mo = true := by
  obtain ⟨a, o, _, _, r⟩ := S.at e
  rw [← S.len]
  cases mo with
  | lst ds => obtain ⟨vs, _, r⟩ := r; exact Reps.cl _ _ r
  | dic kvs => obtain ⟨vs, _, _, r⟩ := r; exact Reps.cl _ _ r
  | obj C fs => obtain ⟨dx, gs, _, _, _, r⟩ := r; exact Reps.cl _ _ r
end
/-- the cells of the caller are as they were, or speak of the caller's cells alone -/
def CutOk (st0 st' : Sto) : Prop := st0.length ≤ st'.length ∧ ∀ n mo, n < st0.length → st'[n]? = some mo → st0[n]? = some mo ∨ clM st0.length mo = true
theorem CutOk.all {K : PySem.W.Frag} {Fr : Hp} {f : List Addr} {Pr : Hp} {st0 st' : Sto} {H : Hp} (S : SimC K Pr Fr f st0 H) (h : CutOk st0 st') : (st'.take st0.length).all (clM st0.length) = true := by
  rw [List.all_eq_true]
  intro mo hm
  obtain ⟨n, hn, e⟩ := List.getElem_of_mem hm
  have hn' : n < st0.length := by rw [List.length_take] at hn; omega
  have e1 : st'[n]? = some mo := by
    rw [← e, List.getElem_take]
    exact List.getElem?_eq_getElem _
  rcases h.2 n mo hn' e1 with q | q
  · exact S.closed q
  · exact q
/-- how a def's end is handed to its caller, who had the cells st0: as it is; the new cells forgotten; the new container that is handed back becomes nobody's -/
def Leave (st0 : Sto) (x : D) (st : Sto) (Q : D → Sto → Prop) : Prop :=
  Q x st ∨ (CutOk st0 st ∧ cl st0.length x = true ∧ Q x (st.take st0.length)) ∨
  ∃ n, x = .ref n ∧ st0.length ≤ n ∧ CutOk st0 st ∧ match st[n]? with
    | some (.lst ds) => cls st0.length ds = true ∧ Q (.tl ds) (st.take st0.length)
    | some (.dic kvs) => cls st0.length (kvs.map (·.2)) = true ∧ Q (.td (kvs.map (·.1)) (kvs.map (·.2))) (st.take st0.length)
    | _ => False
def LeaveE (st0 : Sto) (st : Sto) (Q : Sto → Prop) : Prop := Q st ∨ (CutOk st0 st ∧ Q (st.take st0.length))
theorem leave_rep {K : PySem.W.Frag} {Pr Fr Fr' : Hp} {f f' : List Addr} {x : D} {st0 st : Sto} {H0 H : Hp} {v : V} {Q0 : D → Sto → Prop} {Q : VK} (S0 : SimC K Pr Fr f st0 H0) (hf : f <+: f') (S : SimC K Pr Fr' f' st H) (r : RepX K Pr Fr' f' H x v) (h : Leave st0 x st Q0)
    (q : ∀ x st', Q0 x st' → ∀ v f'' H', f <+: f'' → SimC K Pr Fr' f'' st' H' → RepX K Pr Fr' f'' H' x v → Q v H') : Q v H := by
  have hm : f.length = st0.length := S0.len
  generalize hmm : st0.length = m at hm
  rcases h with h | ⟨h1, h2, h⟩ | ⟨n, rfl, h1, h3, h⟩
  · exact q _ _ h v f' H hf S r
  · have C := S.cut hf hm (by rw [← hmm]; exact h1.1) (by rw [← hmm]; exact h1.all S0)
    rw [hmm] at h2 h
    refine q _ _ h v f H (List.prefix_refl _) C ?_
    have sub : ∀ a, a ∉ f' → a ∉ f := fun a ha hb => ha (hf.subset hb)
    cases x with
    | tl ds =>
      obtain ⟨a, vs, rfl, e1, e2, e3, e4, r⟩ := r
      exact ⟨a, vs, rfl, e1, e2, e3, sub a e4, Reps.shr hf hm _ _ h2 r⟩
    | td ks ds =>
      obtain ⟨a, vs, rfl, e1, e2, e3, e4, e5, r⟩ := r
      exact ⟨a, vs, rfl, e1, e2, e3, sub a e4, e5, Reps.shr hf hm _ _ h2 r⟩
    | _ => exact Rep.shr hf hm _ _ h2 r
  · have C := S.cut hf hm (by rw [← hmm]; exact h3.1) (by rw [← hmm]; exact h3.all S0)
    rw [hmm] at h1 h
    obtain ⟨a, ea, rfl⟩ := (show Rep K Fr' f' (.ref n) v from r)
    have ha : a ∉ f := fun hb => by
      obtain ⟨j, hj, e⟩ := List.getElem_of_mem hb
      have e' : f'[j]? = some a := pre_get hf (by rw [List.getElem?_eq_getElem hj, e])
      have := get_inj S.nd e' ea
      omega
    have nf : Fr' a = none := S.nf a (List.mem_of_getElem? ea)
    have np : Pr a = none := by
      cases e : Pr a with
      | none => rfl
      | some o => exact (S.pf a o e (List.mem_of_getElem? ea)).elim
    split at h
    · rename_i ds e
      obtain ⟨b, vs, e1, e2, r⟩ := S.lst e
      rw [ea] at e1; cases e1
      exact q _ _ h.2 _ f H (List.prefix_refl _) C ⟨a, vs, rfl, e2, nf, np, ha, Reps.shr hf hm _ _ h.1 r⟩
    · rename_i kvs e
      obtain ⟨b, us, e1, e2, e3, r⟩ := S.dic e
      rw [ea] at e1; cases e1
      exact q _ _ h.2 _ f H (List.prefix_refl _) C ⟨a, us, rfl, e2, nf, np, ha, e3, Reps.shr hf hm _ _ h.1 r⟩
    · exact h.elim
end
section
variable {P : Program} {w : World} {K : PySem.W.Frag} {mg : Str → Option Value} {base : Heap}
/-- what is to be shown of a def's body on data -/
def BodyOk (N ps : List Str) (dsp : DSp) (body : DS) : Prop := ∀ (ds : List D) (st : Sto) (Ed : Addr → Sto → Prop) (Q : D → Sto → Prop), dsp ds st Ed Q → ds.length = ps.length ∧
  body (fun C _ st' => LeaveE st st' (Ed C)) { nx := fun _ st' => Leave st .non st' Q, rt := fun x st' => Leave st x st' Q } (ds.map some ++ List.replicate (N.length - ds.length) none) st
theorem start_rep {K : PySem.W.Frag} {Fr : Hp} {f : List Addr} : ∀ {ds : List D} {vs : List V} (n : Nat), Reps K Fr f ds vs → RepS K Fr f (ds.map some ++ List.replicate n none) (vs.map some ++ List.replicate n none)
  | [], vs, n, h => by
    cases (show vs = [] from h)
    simp only [List.map_nil, List.nil_append]
    induction n with
    | zero => rfl
    | succ n ih => exact ⟨none, _, rfl, (fun x e => by cases e), ih⟩
  | d :: ds, vs, n, h => by
    obtain ⟨v, r, rfl, h1, h2⟩ := h
    exact ⟨some v, _, rfl, (fun x e => by cases e; exact ⟨v, rfl, h1⟩), start_rep n h2⟩
/-- THE RULE for a def: its body walked (hb), and what that does to data (hw) -/
theorem fnD {x qual : Str} {st : Stmt} {f : Addr} {fd : FuncData} {N ps : List Str} {k : Nat} {dsp : DSp} {body : DS} (F : Fun K x qual st f fd) (S : FnScope N ps (defScope st)) (hw : BodyOk N ps dsp body)
    (hb : ∀ (cdv : Value) (A : Around) (outer : List Env) (s : Shared) (H : Hp) (E : XK), Room k (A.deeper (envOfC qual (defScope st) s.heap.objs.size f cdv)) → PSs (cxOf (L2.CX P w) P w K mg base N qual (defScope st) f cdv A outer s H E) (defBody st) (liftS K (fun cls d _ H => E cls d H) body)) :
    FnOk P w K mg base (L2.CX P w) (k + 1) f fd ps (liftSp K dsp) := by
  refine F.okX S (fun vs H Q E h => ?_) (fun cdv A outer s H vs Q E hr h => ?_)
  · obtain ⟨Pr, Fr, f, st, ds, Ed, Q0, C, r, d, _⟩ := h
    rw [← r.length]
    exact (hw _ _ _ _ d).1
  · obtain ⟨Pr, Fr, f, st0, ds, Ed, Q0, C, r, d, q, e⟩ := h
    refine ⟨_, hb cdv A outer s H E hr, ?_⟩
    have hl := (hw _ _ _ _ d).1
    refine ⟨_, Pr, Fr, f, _, st0, _, ⟨⟨C, ?_⟩, fun C0 env' st' Fr' f' σ' H' s1 p1 S1 hE => ?_⟩, (hw _ _ _ _ d).2, ⟨?_, ?_, ?_, ?_⟩⟩
    · unfold L2.start
      rw [← r.length]
      exact start_rep _ r
    · rcases hE with hE | ⟨h1, hE⟩
      · exact e _ _ hE Fr' f' H' s1 p1 S1.toSimC
      · exact e _ _ hE Fr' f H' s1 (List.prefix_refl _) (S1.toSimC.cut p1 C.len h1.1 (h1.all C))
    · exact fun env' st' h Fr' f' σ' H' s1 p1 S1 => leave_rep C p1 S1.toSimC (x := .non) (v := .non) rfl h fun x st2 hq v f2 H2 p2 C2 r2 => q _ _ hq v Fr' f2 H2 s1 p2 C2 r2
    · exact fun _ _ h => h.elim
    · exact fun _ _ h => h.elim
    · exact fun x st' h v Fr' f' H' s1 p1 S1 rx => leave_rep C p1 S1 rx h fun x st2 hq v f2 H2 p2 C2 r2 => q _ _ hq v Fr' f2 H2 s1 p2 C2 r2
theorem fnOk_no {f : Addr} {fd : FuncData} {ps : List Str} {k : Nat} {dsp : DSp} (no : ∀ ds st Ed Q, ¬ dsp ds st Ed Q) : FnOk P w K mg base (L2.CX P w) k f fd ps (liftSp K dsp) := by
  have no' : ∀ vs H Q E, ¬ liftSp K dsp vs H Q E := fun vs H Q E h => by
    obtain ⟨Pr, Fr, f, st, ds, Ed, Q0, _, _, h, _⟩ := h
    exact no _ _ _ _ h
  exact ⟨fun vs H Q E h => absurd h (no' vs H Q E), fun A outer s H args us vs Q E _ _ _ _ h => absurd h (no' vs H Q E)⟩
end
end DW

/-! DW10: dict comprehensions. -/
namespace DW
open PySem PySem.Spec PyProof.Rows L2

section
variable {X : Cx} {W : WX} {pos : Pos}
def dcN (ok : Sto → Prop) (vs : List Nat) (tg : Tg) (dt : DT) (bx : Bool) (dk de : DE) (env : Slots) (Q : D → Sto → Prop) : List D → List (Key × D) → Sto → Prop
  | [], acc => fun st => ok st ∧ Q (.td (acc.map (·.1)) (acc.map (·.2))) st
  | x :: xs, acc => fun st => ok st ∧ match tgSet st tg x (wipeD env vs) with
    | some env' => dt noEd env' st fun b st1 => if b = true then dk noEd env' st1 fun q st2 => de noEd env' st2 fun y st3 => match keyOf q with
        | some kk => acc.length < sizeLine ∧ dcN ok vs tg dt bx dk de env Q xs (putP acc kk (keep bx st3 y).1) (keep bx st3 y).2
        | none => False
      else dcN ok vs tg dt bx dk de env Q xs acc st1
    | none => False
def dDc (vs : List Nat) (tg : Tg) (di : DI) (dt : DT) (bx : Bool) (dk de : DE) : DE := fun Ed env st Q => di Ed env st fun its ok st1 => dcN ok vs tg dt bx dk de env Q its [] st1
theorem SimC.unpr {K : PySem.W.Frag} {Pr Fr : Hp} {f : List Addr} {st : Sto} {H : Hp} {D0 : Addr} {o : HO} (C : SimC K (upd Pr D0 o) Fr f st H) (hP : Pr D0 = none) : SimC K Pr Fr f st H :=
  ⟨C.fr, fun b u e => C.pr b u (by rw [upd_ne (ne_of_none e hP)]; exact e), fun b u e => C.pF b u (by rw [upd_ne (ne_of_none e hP)]; exact e), fun b u e => C.pf b u (by rw [upd_ne (ne_of_none e hP)]; exact e), C.nd, C.len, C.nf, C.cell⟩
/-- a thing that nobody holds is laid or changed, and is kept from now on -/
theorem SimC.intoPr {K : PySem.W.Frag} {Pr Fr : Hp} {f : List Addr} {st : Sto} {H : Hp} {D0 : Addr} {o : HO} (C : SimC K Pr Fr f st H) (hF : Fr D0 = none) (hP : Pr D0 = none) (hf : D0 ∉ f) : SimC K (upd Pr D0 o) Fr f st (upd H D0 o) := by
  have C := C.other (o := o) hF hP hf
  refine ⟨C.fr, fun b u e => ?_, fun b u e => ?_, fun b u e => ?_, C.nd, C.len, C.nf, C.cell⟩
  · by_cases hb : b = D0
    · subst hb; rw [upd_same] at e ⊢; exact e
    · rw [upd_ne hb] at e; exact C.pr b u e
  · by_cases hb : b = D0
    · subst hb; exact hF
    · rw [upd_ne hb] at e; exact C.pF b u e
  · by_cases hb : b = D0
    · subst hb; exact hf
    · rw [upd_ne hb] at e; exact C.pf b u e
theorem lift_dc {K : PySem.W.Frag} {W : WX} {vs : List Nat} {tg : Tg} {di : DI} {dt : DT} {bx : Bool} {dk de : DE} (hvs : ∀ j ∈ tgSlots tg, j ∈ vs) (σ : L2.St) (H : Hp) (Q : VK) (q : liftE K W (dDc vs tg di dt bx dk de) σ H Q) :
    tDc (liftI K W di) (gD K tg) (liftT K noW dt) (liftE K noW dk) (liftE K noW de) vs σ H Q := by
  obtain ⟨Ed, Pr, Fr, f, env, st, Q0, A, d, k⟩ := q
  refine ⟨Ed, Pr, Fr, f, env, st, _, A, d, fun its ok st1 h J Fr1 f1 H1 s1 p1 S1 J1 D hD => ?_⟩
  have hDF : Fr1 D = none := S1.fr.free hD
  have hDP : Pr D = none := S1.pr.free hD
  have hDf : D ∉ f1 := S1.toSimC.notCell hD
  refine ⟨fun i m H => m = its.length - i ∧ i ≤ its.length ∧ ∃ Fr' f' st acc us, Same Fr1 Fr' ∧ f1 <+: f' ∧ SimC K (upd Pr D (.dK us)) Fr' f' st H ∧ RepK K Fr' f' acc us ∧ dcN ok vs tg dt bx dk de env Q0 (its.drop i) acc st,
    ⟨its.length, rfl, Nat.zero_le _, Fr1, f1, st1, [], [], Same.refl _, List.prefix_refl _, S1.toSimC.intoPr hDF hDP hDf, .nil, h⟩, ?_⟩
  rintro i m H' ⟨rfl, hi, Fr2, f2, st2, acc, us, s2, p2, C2, r2, h2⟩
  by_cases hlt : i < its.length
  · rw [List.drop_eq_getElem_cons hlt] at h2
    obtain ⟨hok, h2⟩ := h2
    obtain ⟨h3, h4⟩ := (J1 i _ Fr2 f2 st2 H' s2 p2 C2 hok).1 _ (List.getElem?_eq_getElem hlt)
    refine .inr ⟨h3, fun H => i + 1 ≤ its.length ∧ ∃ Fr' f' st acc us, Same Fr1 Fr' ∧ f1 <+: f' ∧ SimC K (upd Pr D (.dK us)) Fr' f' st H ∧ RepK K Fr' f' acc us ∧ dcN ok vs tg dt bx dk de env Q0 (its.drop (i + 1)) acc st, fun H3 w => ⟨its.length - (i + 1), by omega, rfl, w⟩, fun v H3 y => ?_⟩
    obtain ⟨Fr3, s3, C3, r3⟩ := h4 v H3 y
    have R0 : RepS K Fr3 f2 (wipeD env vs) (L2.wipe σ vs) := wipe_rep (RepS.mono ((s1.trans s2).trans s3) (p1.trans p2) A.env) vs
    split at h2
    · rename_i env3 e3
      refine ⟨_, Fr3, f2, wipeD env vs, st2, _, env3, ⟨C3, R0⟩, r3, e3, fun σ4 a4 R4 => ⟨?_, ?_⟩⟩
      · have := a4.wipe hvs
        rw [this]
        exact AgreeOff.wipe (js := vs) ⟨L2.wipe_length .., fun j hj => wipe_out hj⟩ fun _ h => h
      · refine ⟨noEd, _, Fr3, f2, env3, st2, _, ⟨⟨C3, R4⟩, fun _ _ _ _ _ _ _ _ _ _ z => z.elim⟩, h2, fun b st5 h5 Fr5 f5 H5 s5 p5 S5 => ?_⟩
        cases b with
        | true =>
          have A5 : At K noW noEd (upd Pr D (.dK us)) Fr5 f5 env3 st5 σ4 H5 := ⟨S5, fun _ _ _ _ _ _ _ _ _ _ z => z.elim⟩
          refine ⟨noEd, _, Fr5, f5, env3, st5, _, A5, h5, fun q st6 h6 w Fr6 f6 H6 s6 p6 S6 r6 => ?_⟩
          refine ⟨noEd, _, Fr6, f6, env3, st6, _, A5.up s6 p6 S6, h6, fun z st7 h7 w7 Fr7 f7 H7 s7 p7 S7 r7 => ?_⟩
          obtain ⟨Fr8, f8, s8, p8, C8, r8⟩ := r7.keep bx S7.toSimC
          have s28 := ((((s3.trans s5).trans s6).trans s7).trans s8)
          have p28 := (((p5.trans p6).trans p7).trans p8)
          split at h7
          · rename_i kk ek
            obtain rfl := keyOf_repX ek r6
            have dF : Fr8 D = none := C8.pF D _ upd_same
            have df : D ∉ f8 := C8.pf D _ upd_same
            refine ⟨us, kk, rfl, C8.pr D _ upd_same, by rw [r2.length]; exact h7.1, hlt, Fr8, f8, _, _, putK us kk w7, s2.trans s28, p2.trans p28, (C8.unpr hDP).intoPr dF hDP df, (r2.mono s28 p28).put r8, h7.2⟩
          · exact h7.elim
        | false => exact ⟨hlt, Fr5, f5, st5, acc, us, (s2.trans s3).trans s5, p2.trans p5, S5.toSimC, r2.mono (s3.trans s5) p5, h5⟩
    · exact h2.elim
  · have e : i = its.length := by omega
    subst e
    rw [List.drop_length] at h2
    have S2 : Sim K Pr Fr2 f2 env st2 σ H' := ⟨C2.unpr hDP, RepS.mono (s1.trans s2) (p1.trans p2) A.env⟩
    exact .inl ⟨(J1 _ _ Fr2 f2 st2 H' s2 p2 C2 h2.1).2 (Nat.le_refl _), k _ _ h2.2 _ Fr2 f2 H' (s1.trans s2) (p1.trans p2) S2 ⟨D, us, rfl, C2.pr D _ upd_same, C2.pF D _ upd_same, hDP, C2.pf D _ upd_same, r2.1, r2.2⟩⟩
theorem de_dc {kx vx tgE iter : Expr} {ifs : List Expr} {scope : Scope} {own : List (Str × Nat)} {tg : Tg} {di : DI} {dt : DT} {dk de : DE} (bx : Bool) (hc : X.calm = true) (hN : X.N.Nodup) (hi : PI X tgE iter (liftI X.K W di)) (ok : BlkOk X.N X.env.scope scope own)
    (hg : ∀ (s : Shared) (H : Hp) (C : Addr) (cl : List (Str × Addr)) (fp : List Addr), PG (X.blk s H scope (compEnvC scope cl C X.env) fp) tgE (gD X.K tg)) (ht : ∀ (s : Shared) (H : Hp) (C : Addr) (cl : List (Str × Addr)) (fp : List Addr), PTs (X.blk s H scope (compEnvC scope cl C X.env) fp) ifs (liftT X.K noW dt))
    (hk : ∀ (s : Shared) (H : Hp) (C : Addr) (cl : List (Str × Addr)) (fp : List Addr), PE (X.blk s H scope (compEnvC scope cl C X.env) fp) kx (liftE X.K noW dk))
    (he : ∀ (s : Shared) (H : Hp) (C : Addr) (cl : List (Str × Addr)) (fp : List Addr), PE (X.blk s H scope (compEnvC scope cl C X.env) fp) vx (liftE X.K noW de)) (hvs : ∀ j ∈ tgSlots tg, j ∈ own.map (·.2)) (hs : ∀ x, foldedSetIterable iter X.env x = pure x := by intro _; rfl) :
    PE X (.DictComp kx vx [⟨tgE, iter, ifs, 0⟩] scope pos) (liftE X.K W (dDc (own.map (·.2)) tg di dt bx dk de)) := PEimp (pe_dc hc hN hi ok hg ht hk he hs) (lift_dc hvs)
/-- name = {..} on one line, the name a local -/
theorem ds_setDc {i : Nat} {y : Str} {py : Pos} {kx vx tgE iter : Expr} {ifs : List Expr} {scope : Scope} {own : List (Str × Nat)} {spos : Pos} {tg : Tg} {di : DI} {dt : DT} {dk de : DE} (bx bx' : Bool) (hc : X.calm = true) (hN : X.N.Nodup) (hy : X.N[i]? = some y) (hyl : X.env.scope.names.lookup y = some .local)
    (hsw : swapsWith (.DictComp kx vx [⟨tgE, iter, ifs, 0⟩] scope pos) (some (.Name y py)) spos.line X.env = pure true) (hi : PI X tgE iter (liftI X.K W di)) (ok : BlkOk X.N X.env.scope scope own)
    (hg : ∀ (s : Shared) (H : Hp) (C : Addr) (cl : List (Str × Addr)) (fp : List Addr), PG (X.blk s H scope (compEnvC scope cl C X.env) fp) tgE (gD X.K tg)) (ht : ∀ (s : Shared) (H : Hp) (C : Addr) (cl : List (Str × Addr)) (fp : List Addr), PTs (X.blk s H scope (compEnvC scope cl C X.env) fp) ifs (liftT X.K noW dt))
    (hk : ∀ (s : Shared) (H : Hp) (C : Addr) (cl : List (Str × Addr)) (fp : List Addr), PE (X.blk s H scope (compEnvC scope cl C X.env) fp) kx (liftE X.K noW dk))
    (he : ∀ (s : Shared) (H : Hp) (C : Addr) (cl : List (Str × Addr)) (fp : List Addr), PE (X.blk s H scope (compEnvC scope cl C X.env) fp) vx (liftE X.K noW de)) (hvs : ∀ j ∈ tgSlots tg, j ∈ own.map (·.2)) (hs : ∀ x, foldedSetIterable iter X.env x = pure x := by intro _; rfl) :
    PS X (.Assign [.Name y py] (.DictComp kx vx [⟨tgE, iter, ifs, 0⟩] scope pos) spos) (liftS X.K W (sAsg bx' i (dDc (own.map (·.2)) tg di dt bx dk de))) := by
  refine ⟨fun pins s σ H De I q => ?_⟩
  have h0 := lift_dc hvs σ H _ (lift_asg bx' De σ H q)
  rw [exec_Assign_Name_used _ _ _ _ hsw]
  refine wpAny_bind (wpAny_standAt (wpAny_bind ?_))
  show wpAny _ X.A (do let _ ← comprehension (.DictComp kx vx [⟨tgE, iter, ifs, 0⟩] scope pos) scope X.env (firstIterPos [⟨tgE, iter, ifs, 0⟩] pos) newDict false (eval iter X.env) (some (assign (.Name y py) X.env))) _ _ s
  refine wpAny_bind (thn (dc_core (Qf := fun _ s' => SP X pins De .next s') hc hN I hi ok hg ht hk he hs h0 fun L C s' m H' I' q hn f => ?_) fun _ s' hq => wpAny_pure (wpAny_pure hq))
  show wpAny _ _ (assign (.Name y py) X.env (.ref L)) _ _ _
  refine wpAny_assign_Name (store_ok2 (v := V.ref L) I' hN hy (.inl hyl) rfl (fun s2 I2 ⟨a, sb, ha⟩ => ?_) (.inr hyl))
  obtain ⟨f0, f1, f2, f3, f4, f5⟩ := f
  have haC : C ≠ a := by
    rcases ha with z | z
    · rw [z]; exact f1
    · exact fun e => f4 y a z e.symm
  refine ⟨m, hn.sameBut sb haC, fun h3 sb3 => ?_⟩
  exact ⟨_, H', I2.turned (t' := s2.toks) (fun b o hb e => (sb3.2 b hb).trans e) f0 f1 f3 f4 f5, q⟩
end
end DW

/-! DW11: constants of the module, own error classes, op=. -/
namespace DW
open PySem PySem.Spec PyProof.Rows L2

/-- a constant of the module is data -/
def ConstOf (K : PySem.W.Frag) (mg : Str → Option Value) (x : Str) (d : D) : Prop := ∃ u v, mg x = some u ∧ RelV v u ∧ ∀ Fr f, Rep K Fr f d v
theorem ConstOf.int {K : PySem.W.Frag} {mg : Str → Option Value} {x : Str} {i : Int} {t : Tok} (h : mg x = some (.int i t)) : ConstOf K mg x (.int i) := ⟨_, .int i, h, ⟨t, rfl⟩, fun _ _ => rfl⟩
theorem ConstOf.str {K : PySem.W.Frag} {mg : Str → Option Value} {x : Str} {i : Str} {t : Tok} (h : mg x = some (.str i t)) : ConstOf K mg x (.str i) := ⟨_, .str i, h, ⟨t, rfl⟩, fun _ _ => rfl⟩
theorem rep_ktup {K : PySem.W.Frag} {a : Addr} {od : Option Addr} {its : Array Value} {n : Nat} {sl : Array (Option Value)} {ds : List D} {vs : List V} (h : K.lookup a = some ⟨.type "tuple", od, .seq its n, sl⟩) (hz : its.size ≤ sizeLine) (r : Vals vs its.toList) (q : ∀ Fr f, Reps K Fr f ds vs) : ∀ Fr f, Rep K Fr f (.tup ds) (.ref a) :=
  fun Fr f => ⟨a, vs, rfl, .inr ⟨_, its, n, h, rfl, rfl, hz, r⟩, q Fr f⟩
theorem ConstOf.ref {K : PySem.W.Frag} {mg : Str → Option Value} {x : Str} {d : D} {a : Addr} (h : mg x = some (.ref a)) (r : ∀ Fr f, Rep K Fr f d (.ref a)) : ConstOf K mg x d := ⟨_, .ref a, h, rfl, r⟩

section
variable {X : Cx} {W : WX} {pos : Pos}
theorem de_glob {x : Str} {d : D} (hg : Gl X x) (c : ConstOf X.K X.mg x d) (hd : (x == ("__debug__" : Str)) = false := by decide) : PE X (.Name x pos) (liftE X.K W (dC d)) := by
  obtain ⟨u, v, hm, r, q⟩ := c
  refine PEimp (pe_glob hg hm r hd) fun σ H Q h => ?_
  obtain ⟨Ed, Pr, Fr, f, env, st, Q0, A, d, k⟩ := h
  exact k _ _ d v Fr f H (Same.refl _) (List.prefix_refl _) A.toSim (.of (q Fr f))
theorem sw_trueD {kx vx : Expr} {gs : List Comprehension} {scope : Scope} {pos py : Pos} {y : Str} {l : Nat} {env : Env} (hk : env.scope.kind = .function) (hy : env.scope.names.lookup y = some .local) (hl : (py.line == pos.line) = true)
    (ha : (scope.names.any fun (n, k) => n == y && (k == .local || k == .cell)) = false) : swapsWith (.DictComp kx vx gs scope pos) (some (.Name y py)) l env = pure true := by
  have ky : env.kindOf y = some .local := hy
  have hb : env.blockKind = .function := by unfold Env.blockKind; rw [hk]; rfl
  unfold swapsWith
  simp only [hb, ky, ha, Expr.pos, hl]
  rfl
end

/-! ### op= -/
def riAdd : TIp := fun x y H Q => rI0 (fun i j => .int (i + j)) x y H Q ∨ (fun x y H Q => ∃ i j, x = V.str i ∧ y = V.str j ∧ i.length + j.length ≤ sizeLine ∧ Q (.str (i ++ j)) H) x y H Q
theorem ir_add {X : Cx} : PIp X .Add riAdd := by
  intro pins s σ H x y v u Q I r1 r2 h
  rcases h with h | h
  · exact L2.iop_add pins s σ H x y v u Q I r1 r2 h
  · exact iop_add_str pins s σ H x y v u Q I r1 r2 h
def iop_add : Sto → D → D → (D → Prop) → Prop := fun _ x y k => match x, y with
  | .int i, .int j => k (.int (i + j))
  | .str a, .str b => a.length + b.length ≤ sizeLine ∧ k (.str (a ++ b))
  | _, _ => False
theorem id_add {K : PySem.W.Frag} : OpD K riAdd iop_add := by
  intro Pr Fr f st H x y v u k Q S r1 r2 o q
  unfold iop_add at o
  split at o
  · cases (show v = _ from r1); cases (show u = _ from r2)
    exact .inl ⟨_, _, rfl, rfl, q _ _ Fr H o (Same.refl _) S rfl⟩
  · cases (show v = _ from r1); cases (show u = _ from r2)
    exact .inr ⟨_, _, rfl, rfl, o.1, q _ _ Fr H o.2 (Same.refl _) S rfl⟩
  · exact o.elim
theorem ir_mul {X : Cx} : PIp X .Mult (rI IntMulOk fun i j => .int (i * j)) := by
  intro pins s σ H x y v u Q I r1 r2 h
  obtain ⟨i, j, rfl, rfl, hc, q⟩ := h
  obtain ⟨t, rfl⟩ := r1
  obtain ⟨t', rfl⟩ := r2
  exact imul_int ⟨.int _, H, I.tok _, ⟨_, rfl⟩, q⟩ hc
abbrev iop_mul : Sto → D → D → (D → Prop) → Prop := opJ IntMulOk fun i j => .int (i * j)
theorem id_mul {K : PySem.W.Frag} : OpD K (rI IntMulOk fun i j => .int (i * j)) iop_mul := od_I fun _ _ => rfl

/-- an own error class over ValueError -/
structure XCls (K : PySem.W.Frag) (C : Addr) : Prop where
  q : PySem.W.excIn K C [.type "ValueError", .type "Exception", .type "BaseException", .type "object"] "ValueError.__new__" = true
  k : PySem.W.keepIn K (.ref C) = true
  s : PySem.W.subIn K (.ref C) (.type "BaseException") = some true
  t : PySem.W.typeIn K (.ref C) = some (.type "type")
theorem XCls.r {X : Cx} {C : Addr} (x : XCls X.K C) : Raises X (.ref C) := raises_own x.s x.t
end DW

/-! DW12: how the data side is reckoned: one rule a combinator, tried from above. -/
namespace DW
open PySem L2

theorem lisOf_ref {st : Sto} {n : Nat} {ds : List D} (h : st[n]? = some (.lst ds)) : lisOf st (.ref n) = some ds := by simp [lisOf, h]
theorem seqOf_ref {st : Sto} {n : Nat} {ds : List D} (h : st[n]? = some (.lst ds)) : seqOf st (.ref n) = some ds := by simp [seqOf, lisOf, h]
theorem dicOf_ref {st : Sto} {n : Nat} {ds : List (Key × D)} (h : st[n]? = some (.dic ds)) : dicOf st (.ref n) = some ds := by simp [dicOf, h]
theorem leave_stay {st0 : Sto} {x : D} {st : Sto} {Q : D → Sto → Prop} (h : Q x st) : Leave st0 x st Q := .inl h
theorem CutOk.pre {st0 more : Sto} : CutOk st0 (st0 ++ more) := ⟨by simp, fun n mo hn e => .inl (by rw [List.getElem?_append_left hn] at e; exact e)⟩
theorem CutOk.head {a a' : MO} {rest more : Sto} (h : clM (rest.length + 1) a' = true) : CutOk (a :: rest) (a' :: (rest ++ more)) := ⟨by simp, fun n mo hn e => by
  cases n with
  | zero => cases e; exact .inr h
  | succ n =>
    have hn' : n < rest.length := by simpa using hn
    simp only [List.getElem?_cons_succ] at e ⊢
    rw [List.getElem?_append_left hn'] at e
    exact .inl e⟩
theorem leave_drop {st0 more : Sto} {x : D} {Q : D → Sto → Prop} (h2 : cl st0.length x = true) (h : Q x st0) : Leave st0 x (st0 ++ more) Q := .inr (.inl ⟨.pre, h2, by simpa using h⟩)
theorem leave_head {a a' : MO} {rest more : Sto} {x : D} {Q : D → Sto → Prop} (h1 : clM (rest.length + 1) a' = true) (h2 : cl (rest.length + 1) x = true) (h : Q x (a' :: rest)) : Leave (a :: rest) x (a' :: (rest ++ more)) Q := .inr (.inl ⟨.head h1, h2, by simpa using h⟩)
theorem leave_list {st0 more : Sto} {n : Nat} {ds : List D} {Q : D → Sto → Prop} (h1 : st0.length ≤ n) (e : (st0 ++ more)[n]? = some (.lst ds)) (h2 : cls st0.length ds = true) (h : Q (.tl ds) st0) : Leave st0 (.ref n) (st0 ++ more) Q :=
  .inr (.inr ⟨n, rfl, h1, .pre, by simp only [e]; exact ⟨h2, by simpa using h⟩⟩)
theorem leave_listH {a a' : MO} {rest more : Sto} {n : Nat} {ds : List D} {Q : D → Sto → Prop} (h0 : clM (rest.length + 1) a' = true) (h1 : rest.length + 1 ≤ n) (e : (a' :: (rest ++ more))[n]? = some (.lst ds)) (h2 : cls (rest.length + 1) ds = true) (h : Q (.tl ds) (a' :: rest)) : Leave (a :: rest) (.ref n) (a' :: (rest ++ more)) Q :=
  .inr (.inr ⟨n, rfl, h1, .head h0, by simp only [e]; exact ⟨h2, by simpa using h⟩⟩)
/-- a new container becomes a cell, and goes on -/
def boxK (st : Sto) (x : D) (k : D → Sto → Prop) : Prop := k (box st x).1 (box st x).2
@[simp ↓] theorem boxK_tl {st : Sto} {ds : List D} {k : D → Sto → Prop} : boxK st (.tl ds) k = k (.ref st.length) (st ++ [.lst ds]) := rfl
@[simp ↓] theorem boxK_td {st : Sto} {ks : List Key} {ds : List D} {k : D → Sto → Prop} : boxK st (.td ks ds) k = k (.ref st.length) (st ++ [.dic (ks.zip ds)]) := rfl
@[simp ↓] theorem boxK_i {st : Sto} {i : Int} {k : D → Sto → Prop} : boxK st (.int i) k = k (.int i) st := rfl
@[simp ↓] theorem boxK_s {st : Sto} {i : Str} {k : D → Sto → Prop} : boxK st (.str i) k = k (.str i) st := rfl
@[simp ↓] theorem boxK_t {st : Sto} {i : List D} {k : D → Sto → Prop} : boxK st (.tup i) k = k (.tup i) st := rfl
@[simp ↓] theorem boxK_r {st : Sto} {i : Nat} {k : D → Sto → Prop} : boxK st (.ref i) k = k (.ref i) st := rfl
/-! ### statements, one at a time -/
theorem seq_i {t u : DS} {Ed : EdT} {De : DEnds} {env : Slots} {st : Sto} (h : ∀ nx : Slots → Sto → Prop, (∀ e s, u Ed De e s → nx e s) → t Ed { De with nx := nx } env st) : sSeq t u Ed De env st := h _ fun _ _ q => q
section
variable {t u : DS} {Ed : EdT} {De : DEnds} {env : Slots} {st : Sto} {Q : D → Sto → Prop} {da db de dx : DE} {dt dt' : DT} {ds : DA} {i j : Int} {n : Nat} {x y : D} {xs : List D} {k : D → Prop}
@[simp ↓] theorem sNext_e : sNext Ed De env st = De.nx env st := rfl
@[simp ↓] theorem sBreak_e : sBreak Ed De env st = De.bk env st := rfl
@[simp ↓] theorem sCont_e : sCont Ed De env st = De.ct env st := rfl
@[simp ↓] theorem sExpr_e : sExpr de Ed De env st = de Ed env st fun _ st1 => De.nx env st1 := rfl
@[simp ↓] theorem sRet_e : sRet de Ed De env st = de Ed env st De.rt := rfl
@[simp ↓] theorem sRetN_e : sRetN Ed De env st = De.rt .non st := rfl
@[simp ↓] theorem sRaise_e {C : Addr} : sRaise C Ed De env st = Ed C env st := rfl
@[simp ↓] theorem sIf_e : sIf dt t u Ed De env st = dt Ed env st fun c st1 => if c = true then t Ed De env st1 else u Ed De env st1 := rfl
@[simp ↓] theorem sAsg_f : sAsg false n de Ed De env st = de Ed env st fun x st1 => De.nx (env.set n (some (frz x))) st1 := rfl
@[simp ↓] theorem sAsg_t : sAsg true n de Ed De env st = de Ed env st fun x st1 => boxK st1 x fun y st2 => De.nx (env.set n (some y)) st2 := rfl
@[simp ↓] theorem sAsgT_e {tg : Tg} : sAsgT tg de Ed De env st = de Ed env st fun x st1 => match tgSet st1 tg (frz x) env with
  | some env' => De.nx env' st1
  | none => False := rfl
@[simp ↓] theorem sSet_f : sSet false de da db Ed De env st = de Ed env st fun z st1 => da Ed env st1 fun x st2 => db Ed env st2 fun y st3 => opSet st3 x y (frz z) fun st4 => De.nx env st4 := rfl
@[simp ↓] theorem sSet_t : sSet true de da db Ed De env st = de Ed env st fun z st1 => boxK st1 z fun z' st1' => da Ed env st1' fun x st2 => db Ed env st2 fun y st3 => opSet st3 x y z' fun st4 => De.nx env st4 := rfl
@[simp ↓] theorem sAug_f {op : Sto → D → D → (D → Prop) → Prop} (h : env[n]? = some (some x)) : sAug false op n de Ed De env st = de Ed env st fun y st1 => op st1 x (frz y) fun z => De.nx (env.set n (some (frz z))) st1 := by
  unfold sAug; rw [h]; rfl
@[simp ↓] theorem sFor_e {tg : Tg} {di : DI} : sFor tg di t Ed De env st = di Ed env st fun its ok st1 => forN ok tg t Ed De its env st1 := rfl
/-! ### expressions -/
@[simp ↓] theorem dVar_e (h : env[n]? = some (some x)) : dVar n Ed env st Q = Q x st := by unfold dVar; rw [h]
@[simp ↓] theorem dC_e : dC x Ed env st Q = Q x st := rfl
@[simp ↓] theorem dOp_e {op : Sto → D → D → (D → Prop) → Prop} : dOp op da db Ed env st Q = da Ed env st fun x st1 => db Ed env st1 fun y st2 => op st2 (frz x) (frz y) fun z => Q z st2 := rfl
@[simp ↓] theorem dNeg_e : dNeg da Ed env st Q = da Ed env st fun x st1 => match x with
  | .int i => Q (.int (-i)) st1
  | _ => False := rfl
@[simp ↓] theorem dNil_e {R : List D → Sto → Prop} : dNil Ed env st R = R [] st := rfl
@[simp ↓] theorem dCons_f {R : List D → Sto → Prop} : dCons false da ds Ed env st R = da Ed env st fun x st1 => ds Ed env st1 fun xs st2 => R (frz x :: xs) st2 := rfl
@[simp ↓] theorem dCons_t {R : List D → Sto → Prop} : dCons true da ds Ed env st R = da Ed env st fun x st1 => boxK st1 x fun y st1' => ds Ed env st1' fun xs st2 => R (y :: xs) st2 := rfl
@[simp ↓] theorem dTup_e : dTup ds Ed env st Q = ds Ed env st fun xs st1 => xs.length ≤ sizeLine ∧ Q (.tup xs) st1 := rfl
@[simp ↓] theorem dLst_e : dLst ds Ed env st Q = ds Ed env st fun xs st1 => xs.length ≤ sizeLine ∧ Q (.tl xs) st1 := rfl
@[simp ↓] theorem dDic0_e : dDic0 Ed env st Q = Q (.td [] []) st := rfl
@[simp ↓] theorem oNone_e {R : Option Int → Sto → Prop} : oNone Ed env st R = R none st := rfl
@[simp ↓] theorem oSome_e {R : Option Int → Sto → Prop} : oSome de Ed env st R = de Ed env st fun x st1 => match x with
  | .int i => R (some i) st1
  | _ => False := rfl
@[simp ↓] theorem dSl_e {lo hi : DO} : dSl de lo hi Ed env st Q = de Ed env st fun x st1 => lo Ed env st1 fun l st2 => hi Ed env st2 fun h st3 => opSl st3 (frz x) l h fun z => Q z st3 := rfl
@[simp ↓] theorem dTruth_e {R : Bool → Sto → Prop} : dTruth da Ed env st R = da Ed env st fun x st1 => opTru st1 (frz x) fun b => R b st1 := rfl
@[simp ↓] theorem dBool_e {R : Bool → Sto → Prop} : dBool da Ed env st R = da Ed env st fun x st1 => match x with
  | .bl b => R b st1
  | _ => False := rfl
@[simp ↓] theorem dAnd_e {R : Bool → Sto → Prop} : dAnd dt dt' Ed env st R = dt Ed env st fun c st1 => if c = true then dt' Ed env st1 R else R false st1 := rfl
@[simp ↓] theorem dOr_e {R : Bool → Sto → Prop} : dOr dt dt' Ed env st R = dt Ed env st fun c st1 => if c = true then R true st1 else dt' Ed env st1 R := rfl
@[simp ↓] theorem dNot_e {R : Bool → Sto → Prop} : dNot dt Ed env st R = dt Ed env st fun c st1 => R (!c) st1 := rfl
@[simp ↓] theorem dYes_e {R : Bool → Sto → Prop} : dYes Ed env st R = R true st := rfl
@[simp ↓] theorem dAndV_e : dAndV da db Ed env st Q = da Ed env st fun x st1 => opTru st1 (frz x) fun b => if b = true then db Ed env st1 Q else Q (frz x) st1 := rfl
@[simp ↓] theorem dOrV_e : dOrV da db Ed env st Q = da Ed env st fun x st1 => opTru st1 (frz x) fun b => if b = true then Q (frz x) st1 else db Ed env st1 Q := rfl
@[simp ↓] theorem dNotV_e : dNotV de Ed env st Q = de Ed env st fun x st1 => opTru st1 (frz x) fun b => Q (.bl (!b)) st1 := rfl
@[simp ↓] theorem dIf_e : dIf dt da db Ed env st Q = dt Ed env st fun c st1 => if c = true then da Ed env st1 Q else db Ed env st1 Q := rfl
@[simp ↓] theorem dCB_e {op : Sto → List D → (D → Prop) → Prop} : dCB op ds Ed env st Q = ds Ed env st fun xs st1 => op st1 xs fun z => Q z st1 := rfl
@[simp ↓] theorem dBM_e {T : String} {op : Sto → D → List D → (D → Sto → Prop) → Prop} : dBM T op dx ds Ed env st Q = dx Ed env st fun x st1 => tyOk st1 T (frz x) ∧ ds Ed env st1 fun xs st2 => op st2 (frz x) xs Q := rfl
@[simp ↓] theorem dCall_e {sp : DSp} : dCall sp ds Ed env st Q = ds Ed env st fun xs st1 => sp xs st1 (fun C st' => Ed C env st') Q := rfl
@[simp ↓] theorem iSeq_e {R : List D → (Sto → Prop) → Sto → Prop} : iSeq de Ed env st R = de Ed env st fun x st1 => match itemsOf st1 (frz x) with
  | some its => R its (stays st1 (frz x)) st1
  | none => False := rfl
@[simp ↓] theorem iRng1_e {R : List D → (Sto → Prop) → Sto → Prop} : iRng1 ds Ed env st R = ds Ed env st fun xs st1 => match xs with
  | [.int j] => -(2 ^ 62) ≤ j ∧ j < 2 ^ 62 ∧ R (rangeD 0 j.toNat) (fun _ => True) st1
  | _ => False := rfl
@[simp ↓] theorem dLc_e {vs : List Nat} {tg : Tg} {di : DI} {bx : Bool} : dLc vs tg di dt bx de Ed env st Q = di Ed env st fun its ok st1 => lcN ok vs tg dt bx de env Q its [] st1 := rfl
@[simp ↓] theorem dDc_e {vs : List Nat} {tg : Tg} {di : DI} {bx : Bool} : dDc vs tg di dt bx da de Ed env st Q = di Ed env st fun its ok st1 => dcN ok vs tg dt bx da de env Q its [] st1 := rfl
/-! ### operations -/
variable {a b : Str} {ds1 ds2 : List D} {C : Int → Int → Prop} {g : Int → Int → D}
@[simp ↓] theorem opAdd_ii : opAdd st (.int i) (.int j) k = k (.int (i + j)) := rfl
@[simp ↓] theorem opAdd_ss : opAdd st (.str a) (.str b) k = (a.length + b.length ≤ sizeLine ∧ k (.str (a ++ b))) := rfl
@[simp ↓] theorem opAdd_tt : opAdd st (.tup ds1) (.tup ds2) k = (ds1.length + ds2.length ≤ sizeLine ∧ k (.tup (ds1 ++ ds2))) := rfl
theorem opAdd_ll (h1 : lisOf st x = some ds1) (h2 : lisOf st y = some ds2) : opAdd st x y k = (ds1.length + ds2.length ≤ sizeLine ∧ k (.tl (ds1 ++ ds2))) := by
  unfold opAdd
  cases x <;> first | (cases h1; done) | (cases y <;> first | (cases h2; done) | simp only [h1, h2])
@[simp ↓] theorem opJ_e : opJ C g st (.int i) (.int j) k = (C i j ∧ k (g i j)) := rfl
@[simp ↓] theorem opJ0_e : opJ0 g st (.int i) (.int j) k = k (g i j) := rfl
@[simp ↓] theorem opMul_ii : opMul st (.int i) (.int j) k = (IntMulOk i j ∧ k (.int (i * j))) := rfl
theorem opMul_li (h : lisOf st x = some ds1) : opMul st x (.int j) k = (-(2 ^ 63) ≤ j ∧ j < 2 ^ 63 ∧ ds1.length * j.toNat ≤ sizeLine ∧ k (.tl (List.replicate j.toNat ds1).flatten)) := by
  unfold opMul
  cases x <;> first | (cases h; done) | simp only [h]
@[simp ↓] theorem opCmp_ii {p : Int → Int → Bool} {q : List Nat → List Nat → Bool} : opCmp p q st (.int i) (.int j) k = k (.bl (p i j)) := rfl
@[simp ↓] theorem opCmp_ss {p : Int → Int → Bool} {q : List Nat → List Nat → Bool} : opCmp p q st (.str a) (.str b) k = k (.bl (q a.cps.toList b.cps.toList)) := rfl
@[simp ↓] theorem opEqW_ii {neg : Bool} : opEqW neg st (.int i) (.int j) k = k (.bl (neg ^^ (i == j))) := rfl
@[simp ↓] theorem opEqW_ss {neg : Bool} : opEqW neg st (.str a) (.str b) k = k (.bl (neg ^^ (a == b))) := rfl
@[simp ↓] theorem opIsW_bb {neg : Bool} {p q : Bool} : opIsW neg st (.bl p) (.bl q) k = k (.bl (neg ^^ (p == q))) := rfl
theorem opIx_seq (h : seqOf st x = some ds1) (e : atI ds1 i = some y) : opIx st x (.int i) k = k y := by
  unfold opIx
  cases x <;> first | (cases h; done) | simp only [h, e]
@[simp ↓] theorem opIx_tup (e : atI ds1 i = some y) : opIx st (.tup ds1) (.int i) k = k y := opIx_seq rfl e
@[simp ↓] theorem opIx_fl (e : atI ds1 i = some y) : opIx st (.fl ds1) (.int i) k = k y := opIx_seq rfl e
@[simp ↓] theorem opIx_ref (h : st[n]? = some (.lst ds1)) (e : atI ds1 i = some y) : opIx st (.ref n) (.int i) k = k y := opIx_seq (seqOf_ref h) e
theorem opIx_dic {kvs : List (Key × D)} {q : Key} (h : dicOf st x = some kvs) (hq : keyOf y = some q) (e : valP kvs q = some dv) : opIx st x y k = k dv := by
  have hd : opIxDic st x y k = k dv := by unfold opIxDic; rw [h, hq]; simp only [e]
  have hs : seqOf st x = none := by
    cases x <;> first | rfl | (cases h; done) | skip
    unfold dicOf at h
    unfold seqOf lisOf
    simp only at h ⊢
    split at h
    · rename_i e1; rw [e1]
    · cases h
  unfold opIx
  cases y <;> first | (cases hq; done) | exact hd | skip
  cases x <;> first | (cases h; done) | (simp only [hs]; exact hd)
@[simp ↓] theorem opSet_lst {kk : Sto → Prop} {m : Nat} (h : st[n]? = some (.lst ds1)) (e : ixN ds1.length i = some m) : opSet st (.ref n) (.int i) y kk = kk (st.set n (.lst (ds1.set m y))) := by
  unfold opSet; simp only [h, e]
theorem opSet_dic {kk : Sto → Prop} {kvs : List (Key × D)} {q : Key} (h : st[n]? = some (.dic kvs)) (e : keyOf x = some q) : opSet st (.ref n) x y kk = (kvs.length < sizeLine ∧ kk (st.set n (.dic (putP kvs q y)))) := by
  unfold opSet; simp only [h, e]
@[simp ↓] theorem opTru_b {p : Bool} {kk : Bool → Prop} : opTru st (.bl p) kk = kk p := rfl
@[simp ↓] theorem opTru_i {kk : Bool → Prop} : opTru st (.int i) kk = kk (i != 0) := rfl
@[simp ↓] theorem opTru_n {kk : Bool → Prop} : opTru st .non kk = kk false := rfl
@[simp ↓] theorem opTru_s {kk : Bool → Prop} : opTru st (.str a) kk = (a.length ≤ sizeLine ∧ kk ((a.length : Int) != 0)) := rfl
@[simp ↓] theorem opTru_t {kk : Bool → Prop} : opTru st (.tup ds1) kk = kk (!ds1.isEmpty) := rfl
@[simp ↓] theorem opTru_f {kk : Bool → Prop} : opTru st (.fl ds1) kk = kk (!ds1.isEmpty) := rfl
@[simp ↓] theorem opSl_s {lo hi : Option Int} : opSl st (.str a) lo hi k = (a.length ≤ sizeLine ∧ k (.str (cutS a lo hi))) := rfl
@[simp ↓] theorem opSl_t {lo hi : Option Int} : opSl st (.tup ds1) lo hi k = k (.tup (cutD ds1 lo hi)) := rfl
@[simp ↓] theorem opSl_f {lo hi : Option Int} : opSl st (.fl ds1) lo hi k = k (.tl (cutD ds1 lo hi)) := rfl
/-! ### built-ins -/
@[simp ↓] theorem opAbs_e : opAbs st [.int i] k = k (.int (if i < 0 then -i else i)) := rfl
@[simp ↓] theorem op2I_e {g : Int → Int → Int} : op2I g st [.int i, .int j] k = k (.int (g i j)) := rfl
@[simp ↓] theorem opInt_i : opInt st [.int i] k = k (.int i) := rfl
@[simp ↓] theorem opInt_b {p : Bool} : opInt st [.bl p] k = k (.int (if p then 1 else 0)) := rfl
@[simp ↓] theorem opStrI_e : opStrI st [.int i] k = (i.natAbs.log2 < 1920 ∧ k (.str (toString i))) := rfl
@[simp ↓] theorem opLen_s : opLen st [.str a] k = (a.length ≤ sizeLine ∧ k (.int a.length)) := rfl
theorem opLen_seq (h : seqOf st x = some ds1) : opLen st [x] k = k (.int ds1.length) := by
  unfold opLen
  cases x <;> first | (cases h; done) | simp only [h]
@[simp ↓] theorem opLen_t : opLen st [.tup ds1] k = k (.int ds1.length) := rfl
@[simp ↓] theorem opLen_f : opLen st [.fl ds1] k = k (.int ds1.length) := rfl
@[simp ↓] theorem opLen_r (h : st[n]? = some (.lst ds1)) : opLen st [.ref n] k = k (.int ds1.length) := opLen_seq (seqOf_ref h)
theorem opTuple_l (h : lisOf st x = some ds1) : opTuple st [x] k = k (.tup ds1) := by
  unfold opTuple
  cases x <;> first | (cases h; done) | simp only [h]
@[simp ↓] theorem opTuple_t : opTuple st [.tup ds1] k = k (.tup ds1) := rfl
@[simp ↓] theorem opTuple_f : opTuple st [.fl ds1] k = k (.tup ds1) := rfl
@[simp ↓] theorem opTuple_r (h : st[n]? = some (.lst ds1)) : opTuple st [.ref n] k = k (.tup ds1) := opTuple_l (lisOf_ref h)
theorem opList_l (h : seqOf st x = some ds1) : opList st [x] k = k (.tl ds1) := by
  unfold opList
  simp only [h]
@[simp ↓] theorem opList_t : opList st [.tup ds1] k = k (.tl ds1) := rfl
@[simp ↓] theorem opList_f : opList st [.fl ds1] k = k (.tl ds1) := rfl
@[simp ↓] theorem opList_s : opList st [.sl ds1] k = k (.tl ds1) := rfl
theorem opSum_e {ns : List Int} (h : lisOf st x = some (ns.map .int)) : opSum st [x] k = k (.int ns.sum) := by
  unfold opSum
  simp only [h, Option.bind_some, ints_map]
theorem opAnyAll_e {g : List Bool → Bool} {ns : List Bool} (h : lisOf st x = some (ns.map .bl)) : opAnyAll g st [x] k = k (.bl (g ns)) := by
  unfold opAnyAll
  simp only [h, Option.bind_some, bls_map]
/-! ### methods -/
variable {kk : D → Sto → Prop}
@[simp] theorem tyOk_str : tyOk st "str" (.str a) = True := by simp [tyOk]
theorem tyOk_list (h : st[n]? = some (.lst ds1)) : tyOk st "list" (.ref n) := .inl ⟨rfl, by rw [lisOf_ref h]; rfl⟩
@[simp ↓] theorem opAppend_e (h : st[n]? = some (.lst ds1)) : opAppend st (.ref n) [x] kk = (ds1.length < sizeLine ∧ kk .non (st.set n (.lst (ds1 ++ [x])))) := by
  unfold opAppend onList; simp only [h]
theorem opExtend_e (h : st[n]? = some (.lst ds1)) (h2 : lisOf st x = some ds2) : opExtend st (.ref n) [x] kk = (ds1.length + ds2.length ≤ sizeLine ∧ kk .non (st.set n (.lst (ds1 ++ ds2)))) := by
  unfold opExtend onList; simp only [h, h2]
@[simp ↓] theorem opInsert_e (h : st[n]? = some (.lst ds1)) : opInsert st (.ref n) [.int i, x] kk = (ds1.length < sizeLine ∧ 0 ≤ i ∧ i < 2 ^ 63 ∧ kk .non (st.set n (.lst (ds1.take i.toNat ++ [x] ++ ds1.drop i.toNat)))) := by
  unfold opInsert onList; simp only [h]
@[simp ↓] theorem opS_e {g : Str → List D → (D → Prop) → Prop} : opS g st (.str a) xs kk = g a xs fun z => kk z st := rfl
/-! ### places -/
@[simp] theorem atI_0 : atI xs (0 : Int) = xs[0]? := by unfold atI ixN; cases xs <;> simp
end
theorem atI_lit {α : Type} (xs : List α) (n : Nat) : atI xs (n : Int) = xs[n]? := by
  unfold atI ixN
  by_cases h : n < xs.length
  · simp [h]
  · simp [h, List.getElem?_eq_none (Nat.le_of_not_lt h)]
@[simp] theorem atI_1 {α : Type} {xs : List α} : atI xs (1 : Int) = xs[1]? := atI_lit xs 1
@[simp] theorem atI_2 {α : Type} {xs : List α} : atI xs (2 : Int) = xs[2]? := atI_lit xs 2
@[simp] theorem atI_3 {α : Type} {xs : List α} : atI xs (3 : Int) = xs[3]? := atI_lit xs 3
@[simp] theorem atI_4 {α : Type} {xs : List α} : atI xs (4 : Int) = xs[4]? := atI_lit xs 4
@[simp] theorem atI_5 {α : Type} {xs : List α} : atI xs (5 : Int) = xs[5]? := atI_lit xs 5
theorem ixN_lit (m n : Nat) (h : n < m) : ixN m (n : Int) = some n := by unfold ixN; simp [h]
@[simp] theorem ixN_0 {m : Nat} (h : 0 < m) : ixN m (0 : Int) = some 0 := ixN_lit m 0 h
@[simp] theorem ixN_1 {m : Nat} (h : 1 < m) : ixN m (1 : Int) = some 1 := ixN_lit m 1 h
@[simp] theorem ixN_2 {m : Nat} (h : 2 < m) : ixN m (2 : Int) = some 2 := ixN_lit m 2 h
@[simp] theorem ixN_3 {m : Nat} (h : 3 < m) : ixN m (3 : Int) = some 3 := ixN_lit m 3 h
theorem small_len {n : Nat} (h : n ≤ 1000000) : n ≤ sizeLine := Nat.le_trans h (by decide)
end DW
namespace DW
open PySem L2
/-! ### loops over known items -/
section
variable {ok : Sto → Prop} {vs : List Nat} {tg : Tg} {dt : DT} {bx : Bool} {de dk : DE} {env : Slots} {Q : D → Sto → Prop} {st : Sto} {α : Type}
/-- a comprehension whose turns leave the store as it is: p tells what a turn gives -/
theorem lcN_fm (e : α → D) (p : α → Option D) (hok : ok st) : ∀ (items : List α) (acc : List D), acc.length + items.length ≤ sizeLine →
    (∀ a ∈ items, ∀ (kt : D → Sto → Prop) (kf : Sto → Prop), (match p a with | some y => kt y st | none => kf st) → match tgSet st tg (e a) (wipeD env vs) with
      | some env' => dt noEd env' st fun b st1 => if b = true then de noEd env' st1 fun y st2 => kt (keep bx st2 y).1 (keep bx st2 y).2 else kf st1
      | none => False) →
    Q (.tl (acc ++ items.filterMap p)) st → lcN ok vs tg dt bx de env Q (items.map e) acc st
  | [], acc, _, _, h => ⟨hok, by simpa using h⟩
  | a :: items, acc, hl, hs, h => by
    rw [List.length_cons] at hl
    refine ⟨hok, hs a List.mem_cons_self (fun y' st' => acc.length < sizeLine ∧ lcN ok vs tg dt bx de env Q (items.map e) (acc ++ [y']) st') (fun st' => lcN ok vs tg dt bx de env Q (items.map e) acc st') ?_⟩
    rw [List.filterMap_cons] at h
    cases hp : p a with
    | none =>
      rw [hp] at h
      exact lcN_fm e p hok items acc (by omega) (fun b hb => hs b (List.mem_cons_of_mem _ hb)) h
    | some y =>
      rw [hp] at h
      refine ⟨by omega, lcN_fm e p hok items (acc ++ [y]) (by simp; omega) (fun b hb => hs b (List.mem_cons_of_mem _ hb)) ?_⟩
      rw [List.append_assoc]
      exact h
/-- .. without a test -/
theorem lcN_map (e : α → D) (p : α → D) (hok : ok st) (items : List α) (hl : items.length ≤ sizeLine)
    (hs : ∀ a ∈ items, ∀ (kt : D → Sto → Prop), kt (p a) st → match tgSet st tg (e a) (wipeD env vs) with
      | some env' => de noEd env' st fun y st2 => kt (keep bx st2 y).1 (keep bx st2 y).2
      | none => False) (h : Q (.tl (items.map p)) st) : lcN ok vs tg dYes bx de env Q (items.map e) [] st := by
  refine lcN_fm e (fun a => some (p a)) hok items [] (by simpa using hl) (fun a ha kt kf hk => ?_) (by simpa [List.filterMap_eq_map] using h)
  have := hs a ha kt hk
  revert this
  cases tgSet st tg (e a) (wipeD env vs) with
  | none => exact fun z => z.elim
  | some env' => exact fun z => z
end
theorem stays_app {st : Sto} {x : D} {ds : List D} (h : seqOf st x = some ds) (a b : Sto) : stays (st ++ a) x (st ++ b) := by
  cases x <;> first | trivial | skip
  rename_i n
  unfold seqOf lisOf at h
  simp only at h
  show (st ++ b)[n]? = (st ++ a)[n]?
  have hn : n < st.length := by
    split at h
    · rename_i e; exact (List.getElem?_eq_some_iff.mp e).1
    · cases h
  rw [List.getElem?_append_left hn, List.getElem?_append_left hn]
theorem seqOf_app {st : Sto} {x : D} {ds : List D} (h : seqOf st x = some ds) (a : Sto) : seqOf (st ++ a) x = some ds := by
  cases x <;> first | exact h | skip
  rename_i n
  unfold seqOf lisOf at h ⊢
  simp only at h ⊢
  have hn : n < st.length := by
    split at h
    · rename_i e; exact (List.getElem?_eq_some_iff.mp e).1
    · cases h
  rw [List.getElem?_append_left hn]
  exact h
theorem items_seq {st : Sto} {x : D} {ds : List D} (h : seqOf st x = some ds) : itemsOf st x = some ds := by
  cases x <;> first | exact h | cases h
theorem opSorted_dic {st : Sto} {x : D} {kvs : List (Key × D)} {zs : List Str} {k : D → Prop} (h : dicOf st x = some kvs) (e : strKeys? (kvs.map (·.1)) = some zs) :
    opSorted st [x] k = (zs.length < 64 ∧ ∀ ys : List Str, ys.Perm zs → PyProof.Rows.sortedS ys = true → k (.tl (ys.map D.str))) := by
  have hl : lisOf st x = none := by
    cases x <;> first | rfl | (cases h; done) | skip
    unfold dicOf at h
    unfold lisOf
    simp only at h ⊢
    split at h
    · rename_i e1; rw [e1]
    · cases h
  unfold opSorted
  simp only [hl, h, e]
end DW

/-! DW13: loops with an invariant, more rules of reckoning. -/
namespace DW
open PySem L2
section
variable {α : Type} {ok : Sto → Prop} {vs : List Nat} {tg : Tg} {b : DS} {dt : DT} {bx : Bool} {dk de : DE} {env : Slots} {Q : D → Sto → Prop} {st : Sto} {Ed : EdT} {De : DEnds}
/-- a for loop with an invariant: what is done, what is left -/
theorem forN_inv' (e : α → D) (I : List α → Slots → Sto → Prop) (items : List α) (hok : ∀ done env st, I done env st → ok st)
    (hs : ∀ done a rest, items = done ++ a :: rest → ∀ env st, I done env st → ∃ env', tgSet st tg (e a) env = some env' ∧ ∀ nx : Slots → Sto → Prop, (∀ e s, I (done ++ [a]) e s → nx e s) → b Ed { nx := nx, ct := nx, bk := De.nx, rt := De.rt } env' st)
    (he : ∀ env st, I items env st → De.nx env st) : ∀ (done rest : List α), items = done ++ rest → ∀ env st, I done env st → forN ok tg b Ed De (rest.map e) env st
  | done, [], hi, env, st, h => ⟨hok _ _ _ h, he _ _ (by rw [hi, List.append_nil]; exact h)⟩
  | done, a :: rest, hi, env, st, h => by
    refine ⟨hok _ _ _ h, ?_⟩
    obtain ⟨env', e1, h1⟩ := hs done a rest hi env st h
    rw [e1]
    exact h1 _ fun e2 s2 h2 => forN_inv' e I items hok hs he (done ++ [a]) rest (by rw [hi, List.append_assoc]; rfl) e2 s2 h2
theorem forN_inv (e : α → D) (I : List α → Slots → Sto → Prop) (items : List α) (h0 : I [] env st) (hok : ∀ done env st, I done env st → ok st)
    (hs : ∀ done a rest, items = done ++ a :: rest → ∀ env st, I done env st → ∃ env', tgSet st tg (e a) env = some env' ∧ ∀ nx : Slots → Sto → Prop, (∀ e s, I (done ++ [a]) e s → nx e s) → b Ed { nx := nx, ct := nx, bk := De.nx, rt := De.rt } env' st)
    (he : ∀ env st, I items env st → De.nx env st) : forN ok tg b Ed De (items.map e) env st := forN_inv' e I items hok hs he [] items rfl env st h0
/-- a comprehension with an invariant on the store and on what it has gathered -/
theorem lcN_inv' (e : α → D) (I : List α → List D → Sto → Prop) (items : List α) (hl : items.length ≤ sizeLine) (hok : ∀ done acc st, I done acc st → ok st)
    (hs : ∀ done a rest, items = done ++ a :: rest → ∀ acc st, I done acc st → ∃ env', tgSet st tg (e a) (wipeD env vs) = some env' ∧ ∀ kt : D → Sto → Prop, (∀ y s, I (done ++ [a]) (acc ++ [y]) s → kt y s) → de noEd env' st fun y st2 => kt (keep bx st2 y).1 (keep bx st2 y).2)
    (he : ∀ acc st, I items acc st → Q (.tl acc) st) : ∀ (done rest : List α), items = done ++ rest → ∀ acc st, acc.length = done.length → I done acc st → lcN ok vs tg dYes bx de env Q (rest.map e) acc st
  | done, [], hi, acc, st, _, h => ⟨hok _ _ _ h, he _ _ (by rw [hi, List.append_nil]; exact h)⟩
  | done, a :: rest, hi, acc, st, hlen, h => by
    refine ⟨hok _ _ _ h, ?_⟩
    obtain ⟨env', e1, h1⟩ := hs done a rest hi acc st h
    rw [e1]
    show de noEd env' st _
    refine h1 (fun y' st' => acc.length < sizeLine ∧ lcN ok vs tg dYes bx de env Q (rest.map e) (acc ++ [y']) st') fun y2 s2 h2 => ⟨?_, lcN_inv' e I items hl hok hs he (done ++ [a]) rest (by rw [hi, List.append_assoc]; rfl) (acc ++ [y2]) s2 (by simp [hlen]) h2⟩
    rw [hi, List.length_append, List.length_cons] at hl
    omega
theorem lcN_inv (e : α → D) (I : List α → List D → Sto → Prop) (items : List α) (hl : items.length ≤ sizeLine) (h0 : I [] [] st) (hok : ∀ done acc st, I done acc st → ok st)
    (hs : ∀ done a rest, items = done ++ a :: rest → ∀ acc st, I done acc st → ∃ env', tgSet st tg (e a) (wipeD env vs) = some env' ∧ ∀ kt : D → Sto → Prop, (∀ y s, I (done ++ [a]) (acc ++ [y]) s → kt y s) → de noEd env' st fun y st2 => kt (keep bx st2 y).1 (keep bx st2 y).2)
    (he : ∀ acc st, I items acc st → Q (.tl acc) st) : lcN ok vs tg dYes bx de env Q (items.map e) [] st := lcN_inv' e I items hl hok hs he [] items rfl [] st rfl h0
theorem putP_len {β γ : Type} [DecidableEq β] (kvs : List (β × γ)) (k : β) (y : γ) : (putP kvs k y).length ≤ kvs.length + 1 := by
  unfold putP
  split <;> simp
/-- a dict comprehension with an invariant -/
theorem dcN_inv' (e : α → D) (I : List α → List (Key × D) → Sto → Prop) (items : List α) (hl : items.length ≤ sizeLine) (hok : ∀ done acc st, I done acc st → ok st)
    (hs : ∀ done a rest, items = done ++ a :: rest → ∀ acc st, I done acc st → ∃ env', tgSet st tg (e a) (wipeD env vs) = some env' ∧ ∀ kt : D → D → Sto → Prop, (∀ q kk y s, keyOf q = some kk → I (done ++ [a]) (putP acc kk y) s → kt q y s) → dk noEd env' st fun q st2 => de noEd env' st2 fun y st3 => kt q (keep bx st3 y).1 (keep bx st3 y).2)
    (he : ∀ acc st, I items acc st → Q (.td (acc.map (·.1)) (acc.map (·.2))) st) : ∀ (done rest : List α), items = done ++ rest → ∀ acc st, acc.length ≤ done.length → I done acc st → dcN ok vs tg dYes bx dk de env Q (rest.map e) acc st
  | done, [], hi, acc, st, _, h => ⟨hok _ _ _ h, he _ _ (by rw [hi, List.append_nil]; exact h)⟩
  | done, a :: rest, hi, acc, st, hlen, h => by
    refine ⟨hok _ _ _ h, ?_⟩
    obtain ⟨env', e1, h1⟩ := hs done a rest hi acc st h
    rw [e1]
    show dk noEd env' st _
    refine h1 (fun q y' st' => match keyOf q with
      | some kk => acc.length < sizeLine ∧ dcN ok vs tg dYes bx dk de env Q (rest.map e) (putP acc kk y') st'
      | none => False) fun q kk y2 s2 hq h2 => ?_
    simp only [hq]
    refine ⟨?_, dcN_inv' e I items hl hok hs he (done ++ [a]) rest (by rw [hi, List.append_assoc]; rfl) _ s2 ?_ h2⟩
    · rw [hi, List.length_append, List.length_cons] at hl
      omega
    · have := putP_len acc kk y2
      simp
      omega
theorem dcN_inv (e : α → D) (I : List α → List (Key × D) → Sto → Prop) (items : List α) (hl : items.length ≤ sizeLine) (h0 : I [] [] st) (hok : ∀ done acc st, I done acc st → ok st)
    (hs : ∀ done a rest, items = done ++ a :: rest → ∀ acc st, I done acc st → ∃ env', tgSet st tg (e a) (wipeD env vs) = some env' ∧ ∀ kt : D → D → Sto → Prop, (∀ q kk y s, keyOf q = some kk → I (done ++ [a]) (putP acc kk y) s → kt q y s) → dk noEd env' st fun q st2 => de noEd env' st2 fun y st3 => kt q (keep bx st3 y).1 (keep bx st3 y).2)
    (he : ∀ acc st, I items acc st → Q (.td (acc.map (·.1)) (acc.map (·.2))) st) : dcN ok vs tg dYes bx dk de env Q (items.map e) [] st := dcN_inv' e I items hl hok hs he [] items rfl [] st (Nat.le_refl _) h0
end
/-! ### more rules -/
section
variable {t u : DS} {Ed : EdT} {De : DEnds} {env : Slots} {st : Sto} {Q : D → Sto → Prop} {da db de dx dd dk : DE} {dt dt' : DT} {ds : DA} {i j : Int} {n : Nat} {x y : D} {xs : List D} {k : D → Prop}
@[simp ↓] theorem dDGet2_e : dDGet2 dd dk dx Ed env st Q = dd Ed env st fun x st1 => (dicOf st1 (frz x)).isSome = true ∧ dk Ed env st1 fun y st2 => dx Ed env st2 fun z st3 => match dicOf st3 (frz x), keyOf y with
  | some kvs, some q => Q ((valP kvs q).getD (frz z)) st3
  | _, _ => False := rfl
@[simp] theorem dicOf_refS (h : st[n]? = some (.dic kvs)) : dicOf st (.ref n) = some kvs := dicOf_ref h
@[simp] theorem keyOf_s {a : Str} : keyOf (.str a) = some (.inr a) := rfl
@[simp] theorem keyOf_i {i : Int} : keyOf (.int i) = some (.inl i) := rfl
theorem frz_seq {ds : List D} (h : seqOf st x = some ds) : frz x = x := by cases x <;> first | rfl | cases h
@[simp] theorem tgSet_nm : tgSet st (.nm n) x env = some (env.set n (some x)) := rfl
@[simp] theorem tgSet_tp {ts : List Tg} {ds : List D} : tgSet st (.tp ts) (.tup ds) env = tgsSet st ts ds env := rfl
@[simp] theorem tgsSet_nil : tgsSet st [] [] env = some env := rfl
@[simp] theorem tgsSet_cons {t : Tg} {ts : List Tg} {d : D} {ds : List D} : tgsSet st (t :: ts) (d :: ds) env = match tgSet st t d env with
  | some env' => tgsSet st ts ds env'
  | none => none := rfl
theorem last_get (st : Sto) (a : MO) : (st ++ [a])[st.length]? = some a := by simp
theorem last_set (st : Sto) (a b : MO) : (st ++ [a]).set st.length b = st ++ [b] := by simp
@[simp] theorem dic_last {kvs : List (Key × D)} : dicOf (st ++ [.dic kvs]) (.ref st.length) = some kvs := dicOf_ref (last_get _ _)
@[simp] theorem lis_last {ds : List D} : lisOf (st ++ [.lst ds]) (.ref st.length) = some ds := lisOf_ref (last_get _ _)
@[simp] theorem seq_last {ds : List D} : seqOf (st ++ [.lst ds]) (.ref st.length) = some ds := seqOf_ref (last_get _ _)
@[simp ↓] theorem opSet_dicS {kk : Sto → Prop} {kvs : List (Key × D)} {a : Str} (h : st[n]? = some (.dic kvs)) : opSet st (.ref n) (.str a) y kk = (kvs.length < sizeLine ∧ kk (st.set n (.dic (putP kvs (.inr a) y)))) := opSet_dic h rfl
@[simp ↓] theorem opIx_refS {kvs : List (Key × D)} {a : Str} {dv : D} (h : st[n]? = some (.dic kvs)) (e : valP kvs (.inr a) = some dv) : opIx st (.ref n) (.str a) k = k dv := opIx_dic (dicOf_ref h) rfl e
end
theorem len_size {n : Nat} (h : n ≤ 1000000) : n ≤ sizeLine := Nat.le_trans h (by decide)
theorem len_lt {n : Nat} (h : n ≤ 1000000) : n < sizeLine := Nat.lt_of_le_of_lt h (by decide)
theorem cls_iff {m : Nat} : ∀ {ds : List D}, cls m ds = true ↔ ∀ d ∈ ds, cl m d = true
  | [] => by simp [cls]
  | d :: ds => by simp [cls, cls_iff (ds := ds)]
mutual
theorem cl_mono {m m' : Nat} (h : m ≤ m') : ∀ d : D, cl m d = true → cl m' d = true
  | .non, _ => rfl
  | .bl _, _ => rfl
  | .int _, _ => rfl
  | .str _, _ => rfl
  | .con _, _ => rfl
  | .ty _, _ => rfl
  | .ref n, e => by simp only [cl, decide_eq_true_eq] at e ⊢; omega
  | .tup ds, e => cls_mono h ds e
  | .fl ds, e => cls_mono h ds e
  | .sl ds, e => cls_mono h ds e
  | .tl ds, e => cls_mono h ds e
  | .fd _ ds, e => cls_mono h ds e
  | .td _ ds, e => cls_mono h ds e
theorem cls_mono {m m' : Nat} (h : m ≤ m') : ∀ ds : List D, cls m ds = true → cls m' ds = true
  | [], _ => rfl
  | d :: ds, e => by
    simp only [cls, Bool.and_eq_true] at e ⊢
    exact ⟨cl_mono h d e.1, cls_mono h ds e.2⟩
end
theorem opIsi_e {st : Sto} {x : D} {t c : String} {k : D → Prop} (h : typN st x = some t) (hc : c ∈ ["int", "bool", "str", "tuple", "list"]) : opIsi st [x, .ty c] k = k (.bl (isiB t c)) := by
  unfold opIsi
  simp only [h, hc, true_and]
theorem typN_frz {st : Sto} {x : D} {t : String} (h : typN st x = some t) : typN st (frz x) = some t := by
  cases x <;> first | exact h | (cases h; done)
theorem lg_small {m : Int} (h : 0 < m) (h2 : m < 2 ^ 64) : m.natAbs.log2 < 9000 := by
  have h3 : m.natAbs ≠ 0 := by omega
  have : m.natAbs.log2 < 64 := (Nat.log2_lt h3).mpr (by omega)
  omega
end DW

/-! DW14: the head's end. -/
namespace DW
open PySem PySem.Spec PyProof.Rows L2
/-- the def st stands at the top under x -/
def DefOk (K : PySem.W.Frag) (mg : Str → Option Value) (x : Str) (st : Stmt) : Prop := ∃ f fd, Fun K x x st f fd ∧ mg x = some (.ref f)
theorem def_mk {K : PySem.W.Frag} {h : Heap} {mg : Str → Option Value} (X : K.In h) (G : h.Ns mainGlobals mg) {x : Str} {st : Stmt} {f : Addr} {oc : Value} {od an : Option Addr} {osl : Array (Option Value)} {kV doc pm cdv ct : Value}
    (a : PySem.W.nsIn K mainGlobals x = some (some (.ref f))) (l : K.lookup f = some ⟨oc, od, .func (PySem.W.fnOf x x (defArgs st) (defBody st) (defScope st) .none kV doc pm an cdv ct), osl⟩)
    (c : PySem.W.codeIn K cdv x = true) (k : PySem.W.keepIn K (.ref f) = true) : DefOk K mg x st := ⟨f, _, fun_mk l c k, PySem.W.mg_of X G a⟩
theorem binds_one {K : PySem.W.Frag} {x : Str} {st : Stmt} {f : Addr} {fd : FuncData} {p : Str} (F : Fun K x x st f fd)
    (h : ∀ (kV doc pm : Value) (an : Option Addr) (cdv ct u : Value), bindArgs (PySem.W.fnOf x x (defArgs st) (defBody st) (defScope st) .none kV doc pm an cdv ct) ⟨[u], []⟩ = pure [(p, u)]) : ∀ (s : Shared) (u : Value), BindsTo s fd ⟨[u], []⟩ [(p, u)] := by
  obtain ⟨oc, od, kV, doc, pm, an, cdv, ct, osl, rfl, lk, hcd⟩ := F.ex
  exact fun s u => .of_eq (h ..)
theorem ints_reps {K : PySem.W.Frag} {Fr : Hp} {f : List Addr} : ∀ ns : List Int, Reps K Fr f (ns.map .int) (ns.map V.int)
  | [] => rfl
  | n :: ns => ⟨_, _, rfl, rfl, ints_reps ns⟩
/-- the script, as the judge hands it -/
theorem head_sp {K : PySem.W.Frag} {dsp : DSp} {H : Hp} {a : Addr} {ns : List Int} (hS : SqL K H a (ns.map V.int)) (h : dsp [.sl (ns.map .int)] [] (fun _ _ => False) fun x _ => x = .bl true) :
    liftSp K dsp [.ref a] H (fun v _ => v = .bl true) fun _ _ _ => False := by
  refine ⟨fun _ => none, H, [], [], [.sl (ns.map .int)], fun _ _ => False, fun x _ => x = .bl true, ⟨fun _ _ h => h, (fun _ _ h => by cases h), (fun _ _ h => by cases h), (fun _ _ h => by cases h), List.nodup_nil, rfl, (fun _ h => by cases h), (fun n m a h => by simp at h)⟩, ⟨_, _, rfl, ⟨a, _, rfl, hS, ints_reps ns⟩, rfl⟩, h, fun x st' e v Fr' f' H' _ _ _ r => ?_, fun _ _ h => h.elim⟩
  subst e
  exact r
theorem cx_no {P : Program} {w : World} {H : Hp} {s : Shared} {e : Value} {s' : Shared} (h : L2.CX P w [] H s (fun _ _ _ => False) e s') : False := by
  obtain ⟨_, _, _, _, _, _, _, _, _, _, _, _, hE⟩ := h
  exact hE
theorem const_int {K : PySem.W.Frag} {h : Heap} {mg : Str → Option Value} (X : K.In h) (G : h.Ns mainGlobals mg) {x : Str} {i : Int} {t : Tok} (a : PySem.W.nsIn K mainGlobals x = some (some (.int i t))) : ConstOf K mg x (.int i) := .int (PySem.W.mg_of X G a)
theorem const_str {K : PySem.W.Frag} {h : Heap} {mg : Str → Option Value} (X : K.In h) (G : h.Ns mainGlobals mg) {x : Str} {i : Str} {t : Tok} (a : PySem.W.nsIn K mainGlobals x = some (some (.str i t))) : ConstOf K mg x (.str i) := .str (PySem.W.mg_of X G a)
theorem const_ref {K : PySem.W.Frag} {h : Heap} {mg : Str → Option Value} (X : K.In h) (G : h.Ns mainGlobals mg) {x : Str} {d : D} {b : Addr} (a : PySem.W.nsIn K mainGlobals x = some (some (.ref b))) (r : ∀ Fr f, Rep K Fr f d (.ref b)) : ConstOf K mg x d := .ref (PySem.W.mg_of X G a) r
end DW

/-! DW15: a def in a slot, range by steps, a text many times. -/
namespace DW
open PySem PySem.Spec PyProof.Rows L2
section
variable {X : Cx} {W : WX} {e : Expr} {es : List Expr} {ds da : DA} {x : Str} {p pos : Pos} {k i : Nat} {f f' : Addr} {fd : FuncData} {ps : List Str} {dsp dsp' : DSp}
/-! ### calling what a slot holds -/
theorem pe_callLS (E : L2.St → XK) (F : FnOk X.prog X.w X.K X.mg X.base (L2.CX X.prog X.w) k f fd ps sp) (hr : Room k X.A) (hN : X.N[i]? = some x) (hv : Vis X.env.scope x) (hk : PySem.W.keepIn X.K (.ref f) = true) (hb : Binds X.K fd ps []) (hx : ∀ σ, PassesAt (L2.CX X.prog X.w) X σ (E σ)) (ha : PA X (e :: es) t)
    (hdb : (x == ("__debug__" : Str)) = false := by decide) (hcd : (x == ("__classdict__" : Str)) = false := by decide)
    (he : starEach (e :: es) X.env = (false, eval e X.env) :: starEach es X.env := by rfl) (hpl : (backTo pos (starEach es X.env)).any (·.1) = false := by rfl) : PE X (.Call (.Name x p) (e :: es) [] pos) (fun σ H Q => σ[i]? = some (some (.ref f)) ∧ tCallS sp E t σ H Q) := by
  refine ⟨fun pins s σ H Q I h => ?_⟩
  obtain ⟨hs, ht⟩ := h
  refine wpAny_Call_Name_kw (thn ((pe_var (pos := p) hN hv hdb hcd).run pins s σ H (fun v H1 => v = .ref f ∧ H1 = H) I ⟨.ref f, hs, rfl, rfl⟩) fun u s1 ⟨v, H1, I1, r1, q1⟩ => ?_)
  obtain ⟨rfl, rfl⟩ := q1
  cases r1
  refine PySem.W.callWith_K (h₀ := X.base) I.ok.mod.kin hk (thn (ha.run pos pins s1 σ _ _ I1 ht) fun us s2 ⟨vs, H2, I2, r, q⟩ => ⟨I2.kIn, ?_⟩) he hpl
  exact run_fnS F hr hb (hx σ) I2 r q
/-- one of two defs -/
def dCall2 (i : Nat) (f f' : Addr) (dsp dsp' : DSp) (ds : DA) : DE := fun Ed env st Q => (env[i]? = some (some (.con f)) ∧ dCall dsp ds Ed env st Q) ∨ (env[i]? = some (some (.con f')) ∧ dCall dsp' ds Ed env st Q)
theorem con_slot {K : PySem.W.Frag} {Pr Fr : Hp} {ff : List Addr} {env : Slots} {st : Sto} {σ : L2.St} {H : Hp} (S : Sim K Pr Fr ff env st σ H) (h : env[i]? = some (some (.con f))) : σ[i]? = some (some (.ref f)) := by
  obtain ⟨v, h1, h2⟩ := RepS.get S.env h
  cases (show v = _ from h2)
  exact h1
theorem de_call2 (F : FnOk X.prog X.w X.K X.mg X.base (L2.CX X.prog X.w) k f fd ps (liftSp X.K dsp)) (hk : PySem.W.keepIn X.K (.ref f) = true) (hb : Binds X.K fd ps []) {k' : Nat} {fd' : FuncData} {ps' : List Str} (F' : FnOk X.prog X.w X.K X.mg X.base (L2.CX X.prog X.w) k' f' fd' ps' (liftSp X.K dsp')) (hk' : PySem.W.keepIn X.K (.ref f') = true) (hb' : Binds X.K fd' ps' [])
    (hr : Room k X.A) (hr' : Room k' X.A) (hN : X.N[i]? = some x) (hv : Vis X.env.scope x) (tk : Takes X W)
    (ha : PA X (e :: es) (liftA X.K W ds)) (hdb : (x == ("__debug__" : Str)) = false := by decide) (hcd : (x == ("__classdict__" : Str)) = false := by decide) (he : starEach (e :: es) X.env = (false, eval e X.env) :: starEach es X.env := by rfl) (hpl : (backTo pos (starEach es X.env)).any (·.1) = false := by rfl) :
    PE X (.Call (.Name x p) (e :: es) [] pos) (liftE X.K W (dCall2 i f f' dsp dsp' ds)) := by
  have P1 := pe_callLS (i := i) (p := p) (pos := pos) (WE W) F hr hN hv hk hb (fun σ => passAt tk σ) ha hdb hcd he hpl
  have P2 := pe_callLS (i := i) (p := p) (pos := pos) (WE W) F' hr' hN hv hk' hb' (fun σ => passAt tk σ) ha hdb hcd he hpl
  refine ⟨fun pins s σ H Q I h => ?_⟩
  obtain ⟨Ed, Pr, Fr, ff, env, st, Q0, A, d, kk⟩ := h
  rcases d with ⟨d1, d⟩ | ⟨d1, d⟩
  · exact P1.run pins s σ H Q I ⟨con_slot A.toSim d1, lift_call σ H Q ⟨Ed, Pr, Fr, ff, env, st, Q0, A, d, kk⟩⟩
  · exact P2.run pins s σ H Q I ⟨con_slot A.toSim d1, lift_call σ H Q ⟨Ed, Pr, Fr, ff, env, st, Q0, A, d, kk⟩⟩
/-! ### range(i, j, c) -/
def stepD (lo c : Int) (n : Nat) : List D := (List.range n).map fun i => .int (lo + (i : Nat) * c)
def dRng3 (da : DA) : DI := fun Ed env st R => da Ed env st fun xs st1 => match xs with
  | [.int i, .int j, .int c] => ∃ n, RgC i j c n ∧ R (stepD i c n) (fun _ => True) st1
  | _ => False
theorem its3_sim {K : PySem.W.Frag} {Fr : Hp} {f : List Addr} (lo c : Int) (n : Nat) : ItSim K (Itc lo c n) (stepD lo c n) (fun _ => True) Fr f := by
  intro i Pr Fr' f' st H s p S _
  refine ⟨fun x e => ?_, fun hi => by show n ≤ i; simpa [stepD] using hi⟩
  unfold stepD at e
  rw [List.getElem?_map] at e
  cases h : (List.range n)[i]? with
  | none => rw [h] at e; cases e
  | some c =>
    rw [h] at e
    cases e
    obtain ⟨hi, rfl⟩ := List.getElem?_eq_some_iff.mp h
    refine ⟨by show i < n; simpa using hi, fun v H2 y => ?_⟩
    obtain ⟨rfl, rfl⟩ := y
    exact ⟨Fr', Same.refl _, S, by simp [Rep]⟩
theorem di_range3 {tg a b c : Expr} {p : Pos} (hg : Gl X "range") (hm : X.mg "range" = none) (ha : PA X [a, b, c] (liftA X.K W da)) (hs : starEach [a, b, c] X.env = (false, eval a X.env) :: starEach [b, c] X.env := by rfl) (hpl : (backTo pos (starEach [b, c] X.env)).any (·.1) = false := by rfl) : PI X tg (.Call (.Name "range" p) [a, b, c] [] pos) (liftI X.K W (dRng3 da)) :=
  PIimp (pi_range3 hg hm ha hs hpl) fun σ H R q => by
  obtain ⟨Ed, Pr, Fr, f, env, st, Q0, A, d, k⟩ := q
  refine liftA1 A d fun xs st1 vs Fr1 f1 H1 h1 s1 p1 S1 r1 => ?_
  split at h1
  · obtain ⟨v, r, rfl, r, r2⟩ := r1
    obtain ⟨u, r3, rfl, r', r2⟩ := r2
    obtain ⟨w, r4, rfl, r'', r2⟩ := r2
    cases (show v = _ from r); cases (show u = _ from r'); cases (show w = _ from r''); cases (show r4 = _ from r2)
    obtain ⟨n, h2, h3⟩ := h1
    exact ⟨_, _, _, n, rfl, h2, k _ _ _ h3 _ Fr1 f1 H1 s1 p1 S1 (its3_sim _ _ _)⟩
  · exact h1.elim
end
/-! ### a text many times -/
def repS (a : Str) (n : Nat) : Str := ⟨(List.replicate n a.cps).foldl (· ++ ·) #[]⟩
theorem repS_fold (c : Array Nat) : ∀ (n : Nat) (acc : Array Nat), ((List.replicate n c).foldl (· ++ ·) acc).toList = acc.toList ++ (List.replicate n c.toList).flatten
  | 0, acc => by simp
  | n + 1, acc => by
    rw [List.replicate_succ, List.foldl_cons, repS_fold c n, List.replicate_succ, List.flatten_cons]
    simp
theorem repS_cps (a : Str) (n : Nat) : (repS a n).cps.toList = (List.replicate n a.cps.toList).flatten := by
  unfold repS
  rw [repS_fold]
  simp
theorem repS_len (a : Str) (n : Nat) : (repS a n).length = n * a.length := by
  show (repS a n).cps.size = n * a.cps.size
  rw [← Array.length_toList, repS_cps]
  simp
def rMulS : R2 := fun x y H Q => ∃ (a : Str) (n : Int), x = .str a ∧ y = .int n ∧ 1 ≤ n ∧ n < 1000000 ∧ a.length * n.toNat ≤ 1000000 ∧ a.length ≠ 0 ∧ Q (.str (repS a n.toNat)) H
theorem op_mulS {X : Cx} : OpR X (binaryOp .Mult) rMulS := by
  intro pins s σ H x y v u Q I rx ry h
  obtain ⟨a, n, rfl, rfl, h1, h2, h3, h0, q⟩ := h
  obtain ⟨t, rfl⟩ := rx
  obtain ⟨t', rfl⟩ := ry
  have e1 : decide (n < -(2 ^ 63 : Int)) = false := decide_eq_false (by omega)
  have e2 : decide (n ≥ (2 ^ 63 : Int)) = false := decide_eq_false (by omega)
  refine P.mul_str (by rw [e1, e2]; rfl) (fun _ _ => ?_) (fun _ _ => ?_) ?_
  · have hn : ((n.toNat : Nat) : Int) = n := Int.toNat_of_nonneg (by omega)
    have : (a.length : Int) ≤ (2 ^ 63 - 1) / n := by
      refine Int.le_ediv_of_mul_le (by omega) ?_
      rw [← hn, ← Int.natCast_mul]
      omega
    omega
  · unfold Builtin.Str.tooLong
    exact decide_eq_false (by have : (sizeLine : Nat) = 16777216 := rfl; omega)
  · rw [if_neg (by omega)]
    split
    · rename_i e
      have en : n = 1 := by
        rw [Bool.or_eq_true] at e
        rcases e with e | e
        · exact eq_of_beq e
        · exact absurd (eq_of_beq e) h0
      subst en
      refine ⟨.str a, H, I, ⟨t, rfl⟩, ?_⟩
      have : repS a (1 : Int).toNat = a := by
        unfold repS
        show Str.mk (#[] ++ a.cps) = a
        simp
      rw [this] at q
      exact q
    · refine ⟨?_, .str (repS a n.toNat), H, I.tok _, ⟨_, rfl⟩, q⟩
      show (repS a n.toNat).length ≤ sizeLine
      rw [repS_len]
      exact len_size (by rw [Nat.mul_comm]; omega)
/-- * of ints, lists, texts -/
def rMul2 : R2 := fun x y H Q => rMulAny x y H Q ∨ rMulS x y H Q
theorem or_mul2 {X : Cx} : OpR X (binaryOp .Mult) rMul2 := or_mul.or op_mulS
def opMul2 : Sto → D → D → (D → Prop) → Prop := fun st x y k => match x, y with
  | .str a, .int n => 1 ≤ n ∧ n < 1000000 ∧ a.length * n.toNat ≤ 1000000 ∧ a.length ≠ 0 ∧ k (.str (repS a n.toNat))
  | x, y => opMul st x y k
theorem od_mul2 {K : PySem.W.Frag} : OpD K rMul2 opMul2 := by
  intro Pr Fr f st H x y v u k Q S r1 r2 o q
  unfold opMul2 at o
  split at o
  · cases (show v = _ from r1); cases (show u = _ from r2)
    obtain ⟨o1, o2, o3, o4, o5⟩ := o
    exact .inr ⟨_, _, rfl, rfl, o1, o2, o3, o4, q _ _ Fr H o5 (Same.refl _) S rfl⟩
  · exact .inl (od_mul Pr Fr f st H x y v u k Q S r1 r2 o q)
@[simp ↓] theorem opMul2_ii {st : Sto} {i j : Int} {k : D → Prop} : opMul2 st (.int i) (.int j) k = (IntMulOk i j ∧ k (.int (i * j))) := rfl
@[simp ↓] theorem opMul2_si {st : Sto} {a : Str} {n : Int} {k : D → Prop} : opMul2 st (.str a) (.int n) k = (1 ≤ n ∧ n < 1000000 ∧ a.length * n.toNat ≤ 1000000 ∧ a.length ≠ 0 ∧ k (.str (repS a n.toNat))) := rfl
/-- only where p holds -/
def sOnly (p : Prop) (d : DS) : DS := fun Ed De env st => p ∧ d Ed De env st
theorem pss_only {X : Cx} {W : WX} {b : List Stmt} {p : Prop} {d : DS} (h : p → PSs X b (liftS X.K W d)) : PSs X b (liftS X.K W (sOnly p d)) := by
  refine ⟨fun pins s σ H D I q => ?_⟩
  obtain ⟨Ed, Pr, Fr, f, env, st, Dd, A, ⟨hp, d⟩, E⟩ := q
  exact (h hp).run pins s σ H D I ⟨Ed, Pr, Fr, f, env, st, Dd, A, d, E⟩
theorem exm_own {K : PySem.W.Frag} {S : Addr} (x : XCls K S) (h2 : PySem.W.isClsIn K S = true) (h4 : PySem.W.subIn K (.ref S) (.ref S) = some true) :
    PySem.W.exmOne K (.ref S) (.ref S) = some true := by
  unfold PySem.W.exmOne PySem.W.kitCls
  have h2' : (PySem.W.clsIn K S).isSome = true := h2
  simp [x.s, x.t, h2', h4]
@[simp ↓] theorem sOnly_e {p : Prop} {d : DS} {Ed : EdT} {De : DEnds} {env : Slots} {st : Sto} : sOnly p d Ed De env st = (p ∧ d Ed De env st) := rfl
end DW

/-! DW16: divmod of any size; texts by their codes; the data of texts. -/
namespace DW
open PySem PySem.Spec PyProof.Rows L2
def opDivmodW : Sto → List D → (D → Prop) → Prop := fun _ xs k => match xs with
  | [.int i, .int j] => CDivP i j ∧ k (.tup [.int (i / j), .int (i % j)])
  | _ => False
theorem cd_divmodW {K : PySem.W.Frag} : CallD K (fun xs H Q => ∃ i j, xs = [.int i, .int j] ∧ CDivP i j ∧ ∀ p, H p = none → Q (.ref p) (upd H p (.tup [.int (i / j), .int (i % j)]))) opDivmodW := by
  intro Pr Fr f st H xs vs k Q S r o q
  unfold opDivmodW at o
  split at o
  · obtain ⟨v, u, rfl, r1, r2⟩ := r.two
    cases (show v = _ from r1); cases (show u = _ from r2)
    rename_i i j
    refine ⟨_, _, rfl, o.1, fun p hp => ?_⟩
    obtain ⟨sm, S', rx⟩ := lay_tup (ds := [.int (i / j), .int (i % j)]) S hp (vs := [.int (i / j), .int (i % j)]) ⟨_, _, rfl, rfl, _, _, rfl, rfl, rfl⟩
    exact q _ _ _ _ o.2 sm S' rx
  · exact o.elim
@[simp ↓] theorem opDivmodW_e {st : Sto} {i j : Int} {k : D → Prop} : opDivmodW st [.int i, .int j] k = (CDivP i j ∧ k (.tup [.int (i / j), .int (i % j)])) := rfl
theorem divp_lg {i j : Int} (h : 0 < j) (h2 : j.natAbs.log2 < 9000) : CDivP i j := ⟨h, PyProof.noPylong_of_log2 h2⟩
end DW
/-! ### texts by their codes -/
namespace TX
open PySem SX
/-- the codes of an int's text -/
def decL (i : Int) : List Nat := if i < 0 then 45 :: TL.numL i.natAbs else TL.numL i.natAbs
def valI : List Nat → Int
  | [] => 0
  | c :: r => if c = 45 then -(NumText.digitsVal r : Int) else (NumText.digitsVal (c :: r) : Int)
theorem numL_head0 {n : Nat} (h : 0 < n) : (TL.numL n).head? ≠ some 48 := by
  induction n using Nat.strongRecOn with
  | _ n ih =>
    by_cases h1 : n < 10
    · rw [TL.numL_lt h1]; simp; omega
    · rw [TL.numL_step (by omega)]
      have := ih (n / 10) (by omega) (by omega)
      cases e : TL.numL (n / 10) with
      | nil => exact absurd e (TL.numL_ne _)
      | cons c r => rw [e] at this; simpa using this
theorem numL_cons (n : Nat) : ∃ c r, TL.numL n = c :: r ∧ 48 ≤ c ∧ c ≤ 57 := by
  cases e : TL.numL n with
  | nil => exact absurd e (TL.numL_ne n)
  | cons c r =>
    have := TL.numL_digits n c (by rw [e]; simp)
    exact ⟨c, r, rfl, this.1, this.2⟩
theorem valI_dec (i : Int) : valI (decL i) = i := by
  unfold decL
  split
  · rename_i h
    simp only [valI, if_pos, TL.numL_val]
    omega
  · rename_i h
    obtain ⟨c, r, e, h1, h2⟩ := numL_cons i.natAbs
    rw [e]
    simp only [valI, if_neg (show ¬ c = 45 by omega)]
    rw [← e, TL.numL_val]
    omega
theorem decL_inj {i j : Int} (h : decL i = decL j) : i = j := by rw [← valI_dec i, h, valI_dec]
theorem decL_ne (i : Int) : decL i ≠ [] := by
  unfold decL
  split
  · simp
  · exact TL.numL_ne _
/-- reading -/
def readI (l : List Nat) : Option Int := if decL (valI l) = l then some (valI l) else none
theorem readI_dec (i : Int) : readI (decL i) = some i := by unfold readI; rw [valI_dec, if_pos rfl]
theorem readI_some {l : List Nat} {i : Int} (h : readI l = some i) : l = decL i := by
  unfold readI at h
  split at h
  · rename_i e; cases h; exact e.symm
  · cases h
theorem readI_none {l : List Nat} (h : readI l = none) (i : Int) : l ≠ decL i := fun e => by
  subst e
  rw [readI_dec] at h
  cases h
theorem readI_no {l : List Nat} (h : ∀ i, l ≠ decL i) : readI l = none := by
  cases e : readI l with
  | none => rfl
  | some i => exact absurd (readI_some e) (h i)
theorem digitsVal_app (a b : List Nat) : NumText.digitsVal (a ++ b) = NumText.digitsVal a * 10 ^ b.length + NumText.digitsVal b := by
  have key : ∀ (b : List Nat) (x y : Nat), b.foldl (fun acc c => acc * 10 + (c - 48)) (x + y) = x * 10 ^ b.length + b.foldl (fun acc c => acc * 10 + (c - 48)) y := by
    intro b
    induction b with
    | nil => intro x y; simp
    | cons c b ih =>
      intro x y
      rw [List.foldl_cons, List.foldl_cons, show (x + y) * 10 + (c - 48) = x * 10 + (y * 10 + (c - 48)) by omega, ih, List.length_cons, Nat.pow_succ, Nat.mul_assoc, Nat.mul_comm 10]
  unfold NumText.digitsVal
  rw [List.foldl_append]
  have := key b (a.foldl (fun acc c => acc * 10 + (c - 48)) 0) 0
  simpa using this
theorem digitsVal_cons (c : Nat) (l : List Nat) : NumText.digitsVal (c :: l) = (c - 48) * 10 ^ l.length + NumText.digitsVal l := by
  have := digitsVal_app [c] l
  simpa [NumText.digitsVal] using this
theorem digitsVal_lt : ∀ {l : List Nat}, NumText.AllDigits l → NumText.digitsVal l < 10 ^ l.length
  | [], _ => by simp [NumText.digitsVal]
  | c :: l, h => by
    have h1 := digitsVal_lt (l := l) fun d hd => h d (List.mem_cons_of_mem _ hd)
    have hc := h c List.mem_cons_self
    rw [digitsVal_cons, List.length_cons, Nat.pow_succ]
    have : (c - 48) * 10 ^ l.length ≤ 9 * 10 ^ l.length := Nat.mul_le_mul_right _ (by omega)
    omega
theorem numL_inv : ∀ (n : Nat) {l : List Nat}, l.length = n → NumText.AllDigits l → l ≠ [] → (l = [48] ∨ l.head? ≠ some 48) → TL.numL (NumText.digitsVal l) = l := by
  intro n
  induction n with
  | zero => intro l hl _ hn _; exact absurd (List.eq_nil_of_length_eq_zero hl) hn
  | succ n ih =>
    intro l hl hd hn hh
    have e := List.dropLast_concat_getLast hn
    generalize l.dropLast = a at e
    generalize l.getLast hn = c at e
    subst e
    have hc := hd c (by simp)
    have ha : NumText.AllDigits a := fun d h => hd d (by simp [h])
    have hv : NumText.digitsVal [c] = c - 48 := by simp [NumText.digitsVal]
    rw [digitsVal_app, hv, List.length_singleton, Nat.pow_one]
    cases a with
    | nil =>
      simp only [NumText.digitsVal, List.foldl_nil, Nat.zero_mul, Nat.zero_add, List.nil_append]
      rw [TL.numL_lt (by omega)]
      congr 1
      omega
    | cons d r =>
      have hd0 := ha d List.mem_cons_self
      have hne : d ≠ 48 := by
        rcases hh with hh | hh
        · simp at hh
        · simpa using hh
      have hpos : 1 ≤ NumText.digitsVal (d :: r) := by
        rw [digitsVal_cons]
        have : 1 * 1 ≤ (d - 48) * 10 ^ r.length := Nat.mul_le_mul (by omega) (Nat.one_le_pow _ _ (by decide))
        omega
      rw [TL.numL_step (by omega)]
      have h1 := ih (l := d :: r) (by simpa using hl) ha (by simp) (.inr (by simpa using hne))
      rw [show (NumText.digitsVal (d :: r) * 10 + (c - 48)) / 10 = NumText.digitsVal (d :: r) by omega, h1, show (NumText.digitsVal (d :: r) * 10 + (c - 48)) % 10 = c - 48 by omega, show 48 + (c - 48) = c by omega]
/-- what the reading looks at -/
theorem readI_pos {l : List Nat} (hd : NumText.AllDigits l) (hn : l ≠ []) (hh : l = [48] ∨ l.head? ≠ some 48) : readI l = some (NumText.digitsVal l : Int) := by
  have e : valI l = (NumText.digitsVal l : Int) := by
    cases l with
    | nil => exact absurd rfl hn
    | cons c r =>
      have := hd c List.mem_cons_self
      simp only [valI, if_neg (show ¬ c = 45 by omega)]
  unfold readI
  rw [e]
  have : decL (NumText.digitsVal l : Int) = l := by
    unfold decL
    rw [if_neg (by omega), Int.natAbs_natCast]
    exact numL_inv _ rfl hd hn hh
  rw [if_pos this]
theorem readI_neg {r : List Nat} (hd : NumText.AllDigits r) (hn : r ≠ []) (hh : r.head? ≠ some 48) : readI (45 :: r) = some (-(NumText.digitsVal r : Int)) := by
  have e : valI (45 :: r) = -(NumText.digitsVal r : Int) := by simp [valI]
  have hpos : 1 ≤ NumText.digitsVal r := by
    cases r with
    | nil => exact absurd rfl hn
    | cons d r =>
      have hd0 := hd d List.mem_cons_self
      have hne : d ≠ 48 := by simpa using hh
      rw [digitsVal_cons]
      have : 1 * 1 ≤ (d - 48) * 10 ^ r.length := Nat.mul_le_mul (by omega) (Nat.one_le_pow _ _ (by decide))
      omega
  unfold readI
  rw [e]
  have : decL (-(NumText.digitsVal r : Int)) = 45 :: r := by
    unfold decL
    rw [if_pos (by omega), Int.natAbs_neg, Int.natAbs_natCast]
    rw [numL_inv _ rfl hd hn (.inr hh)]
  rw [if_pos this]
theorem decL_cases (i : Int) : (∃ r, decL i = 45 :: r ∧ NumText.AllDigits r ∧ r ≠ [] ∧ r.head? ≠ some 48) ∨ (NumText.AllDigits (decL i) ∧ decL i ≠ [] ∧ (decL i = [48] ∨ (decL i).head? ≠ some 48)) := by
  unfold decL
  split
  · exact .inl ⟨_, rfl, TL.numL_digits _, TL.numL_ne _, numL_head0 (by omega)⟩
  · refine .inr ⟨TL.numL_digits _, TL.numL_ne _, ?_⟩
    by_cases h : i.natAbs = 0
    · rw [h]; exact .inl (TL.numL_lt (by decide))
    · exact .inr (numL_head0 (by omega))
theorem readI_noneNeg {r : List Nat} (h : ¬ (NumText.AllDigits r ∧ r ≠ [] ∧ r.head? ≠ some 48)) : readI (45 :: r) = none := readI_no fun i e => by
  rcases decL_cases i with ⟨r', e1, h1⟩ | ⟨h1, _⟩
  · rw [← e] at e1; cases e1; exact h h1
  · rw [← e] at h1
    have := h1 45 List.mem_cons_self
    omega
theorem readI_nonePos {l : List Nat} (h0 : l.head? ≠ some 45) (h : ¬ (NumText.AllDigits l ∧ l ≠ [] ∧ (l = [48] ∨ l.head? ≠ some 48))) : readI l = none := readI_no fun i e => by
  rcases decL_cases i with ⟨r', e1, h1⟩ | h1
  · rw [← e] at e1; subst e1; simp at h0
  · rw [← e] at h1; exact h h1
end TX

/-! DW17: texts by their codes on the data side; calls without arguments. -/
namespace DW
open PySem PySem.Spec PyProof.Rows L2
section
variable {X : Cx} {k : Nat} {f : Addr} {fd : FuncData} {ps : List Str} {x : Str} {p pos : Pos}
theorem pe_callS0 {sp : Sp} {E : L2.St → XK} (F : FnOk X.prog X.w X.K X.mg X.base (L2.CX X.prog X.w) k f fd ps sp) (hr : Room k X.A) (hg : Gl X x) (hm : X.mg x = some (.ref f)) (hk : PySem.W.keepIn X.K (.ref f) = true) (hb : Binds X.K fd ps []) (hx : ∀ σ, PassesAt (L2.CX X.prog X.w) X σ (E σ))
    (hdb : (x == ("__debug__" : Str)) = false := by decide) : PE X (.Call (.Name x p) [] [] pos) (tCallS sp E tNil) := by
  refine ⟨fun pins s σ H Q I h => ?_⟩
  refine wpAny_Call_Name_kw (ld_glob I hg hm ?_ hdb)
  exact PySem.W.callWith_K0 I.kIn hk (run_fnS (us := []) F hr hb (hx σ) I .nil h)
theorem de_call0 {W : WX} {dsp : DSp} (F : FnOk X.prog X.w X.K X.mg X.base (L2.CX X.prog X.w) k f fd ps (liftSp X.K dsp)) (hr : Room k X.A) (hg : Gl X x) (hm : X.mg x = some (.ref f)) (hk : PySem.W.keepIn X.K (.ref f) = true) (hb : Binds X.K fd ps []) (tk : Takes X W)
    (hdb : (x == ("__debug__" : Str)) = false := by decide) : PE X (.Call (.Name x p) [] [] pos) (liftE X.K W (dCall dsp dNil)) :=
  PEimp (pe_callS0 F hr hg hm hk hb (fun σ => passAt tk σ) hdb) fun σ H Q q => by
  obtain ⟨Ed, Pr, Fr, f, env, st, Q0, A, d, k⟩ := q
  refine ⟨Pr, Fr, f, st, [], _, _, A.toSimC, rfl, d, fun z st2 hz w Fr2 f2 H2 s2 p2 C2 rz => k _ _ hz w Fr2 f2 H2 s2 p2 (A.toSim.up s2 p2 C2) rz, fun C st2 hC Fr2 f2 H2 s2 p2 C2 => ?_⟩
  exact A.exn C env st2 Fr2 f2 σ H2 s2 p2 (A.toSim.up s2 p2 C2) hC
end
/-- the text of these codes -/
def tx (l : List Nat) : D := .str ⟨l.toArray⟩
theorem tx_str (x : Str) : D.str x = tx x.cps.toList := by unfold tx; exact congrArg D.str (SX.S_tl x).symm
theorem tx_lit (s : String) (l : List Nat) (h : (Str.ofString s).cps.toList = l) : D.str (Str.ofString s) = tx l := by rw [tx_str, h]
theorem tx_inj {a b : List Nat} (h : tx a = tx b) : a = b := by
  unfold tx at h
  injection h with h
  exact SX.S_inj h
@[simp] theorem frz_tx (l : List Nat) : frz (tx l) = tx l := rfl
@[simp ↓] theorem boxK_tx {st : Sto} {l : List Nat} {k : D → Sto → Prop} : boxK st (tx l) k = k (tx l) st := rfl
@[simp] theorem cl_tx (m : Nat) (l : List Nat) : cl m (tx l) = true := rfl
@[simp] theorem isDat_tx (l : List Nat) : isDat (tx l) = true := rfl
@[simp] theorem flatD_tx (l : List Nat) : flatD (tx l) = true := rfl
@[simp] theorem seqOf_tx (st : Sto) (l : List Nat) : seqOf st (tx l) = none := rfl
@[simp] theorem dicOf_tx (st : Sto) (l : List Nat) : dicOf st (tx l) = none := rfl
@[simp] theorem lisOf_tx (st : Sto) (l : List Nat) : lisOf st (tx l) = none := rfl
@[simp] theorem typN_tx (st : Sto) (l : List Nat) : typN st (tx l) = some "str" := rfl
@[simp] theorem tyOk_tx (st : Sto) (l : List Nat) : tyOk st "str" (tx l) = True := by unfold tx; simp
@[simp] theorem itemsOf_tx (st : Sto) (l : List Nat) : itemsOf st (tx l) = some (l.map fun c => tx [c]) := rfl
@[simp] theorem stays_tx (st st' : Sto) (l : List Nat) : stays st (tx l) st' = True := rfl
section
variable {st : Sto} {a b : List Nat} {k : D → Prop} {i : Int} {x : D}
theorem len_tx (a : List Nat) : (⟨a.toArray⟩ : Str).length = a.length := SX.S_len a
@[simp ↓] theorem opAdd_tx : opAdd st (tx a) (tx b) k = (a.length + b.length ≤ sizeLine ∧ k (tx (a ++ b))) := by
  unfold tx
  rw [opAdd_ss, len_tx, len_tx, show (⟨a.toArray⟩ : Str) ++ ⟨b.toArray⟩ = ⟨(a ++ b).toArray⟩ from SX.S_cat a b]
@[simp ↓] theorem iop_add_tx : DW.iop_add st (tx a) (tx b) k = (a.length + b.length ≤ sizeLine ∧ k (tx (a ++ b))) := by
  unfold tx
  show ((⟨a.toArray⟩ : Str).length + (⟨b.toArray⟩ : Str).length ≤ sizeLine ∧ k (.str (⟨a.toArray⟩ ++ ⟨b.toArray⟩))) = _
  rw [len_tx, len_tx, show (⟨a.toArray⟩ : Str) ++ ⟨b.toArray⟩ = ⟨(a ++ b).toArray⟩ from SX.S_cat a b]
@[simp ↓] theorem opEqW_tx {neg : Bool} : opEqW neg st (tx a) (tx b) k = k (.bl (neg ^^ decide (a = b))) := by
  unfold tx
  rw [opEqW_ss, show ((⟨a.toArray⟩ : Str) == ⟨b.toArray⟩) = decide (a = b) from SX.S_beq_eq]
@[simp ↓] theorem opCmp_tx {p : Int → Int → Bool} {q : List Nat → List Nat → Bool} : opCmp p q st (tx a) (tx b) k = k (.bl (q a b)) := rfl
@[simp ↓] theorem opInW_tx {neg : Bool} {c : Nat} : opInW neg st (tx [c]) (tx b) k = k (.bl (neg ^^ decide (c ∈ b))) := by
  unfold tx opInW
  refine propext ⟨fun ⟨c', e, h⟩ => ?_, fun h => ⟨c, rfl, h⟩⟩
  have : c = c' := by
    have := congrArg (fun z : Str => z.cps.toList) e
    simpa using this
  subst this
  exact h
theorem opIx_tx {c : Nat} (hl : a.length ≤ sizeLine) (e : atI a i = some c) : opIx st (tx a) (.int i) k = k (tx [c]) := by
  show ((⟨a.toArray⟩ : Str).length ≤ sizeLine ∧ (match atI a i with
      | some c => k (.str ⟨#[c]⟩)
      | none => False)) = _
  rw [len_tx, e]
  simp only [hl, true_and]
  rfl
@[simp ↓] theorem opSl_tx {lo hi : Option Int} : opSl st (tx a) lo hi k = (a.length ≤ sizeLine ∧ k (tx (cutD a lo hi))) := by
  unfold tx
  rw [opSl_s, len_tx]
  have : cutS (⟨a.toArray⟩ : Str) lo hi = ⟨(cutD a lo hi).toArray⟩ := by
    unfold cutS cutD
    rw [len_tx]
  rw [this]
@[simp ↓] theorem opLen_tx : opLen st [tx a] k = (a.length ≤ sizeLine ∧ k (.int a.length)) := by
  unfold tx
  rw [opLen_s, len_tx]
@[simp ↓] theorem opTru_tx {kk : Bool → Prop} : opTru st (tx a) kk = (a.length ≤ sizeLine ∧ kk ((a.length : Int) != 0)) := by
  unfold tx
  rw [opTru_s, len_tx]
@[simp ↓] theorem opOrd_tx {c : Nat} : opOrd st [tx [c]] k = k (.int c) := by
  show ((⟨[c].toArray⟩ : Str).length = 1 ∧ _) = _
  rw [len_tx]
  simp
@[simp ↓ high] theorem opStrI_tx {n : Nat} : opStrI st [.int n] k = (n.log2 < 1920 ∧ k (tx (TL.numL n))) := by
  rw [opStrI_e, Int.natAbs_natCast]
  unfold tx
  rw [show (((toString (n : Int) : String)) : Str) = ⟨(TL.numL n).toArray⟩ from SX.num_S n]
theorem opInt_tx {n : Int} (h : PySem.intText? (⟨a.toArray⟩ : Str) = some n) : opInt st [tx a] k = (a.length ≤ 640 ∧ k (.int n)) := by
  unfold tx opInt
  simp only [h]
  rw [len_tx]
theorem opInt_dig (h : NumText.AllDigits a) (h1 : a ≠ []) (h2 : a.length ≤ 640) : opInt st [tx a] k = k (.int (NumText.digitsVal a : Nat)) := by
  rw [opInt_tx (intText_digits (x := ⟨a.toArray⟩) h h1 (by rw [len_tx]; omega))]
  simp only [h2, true_and]
@[simp ↓] theorem opJoin_tx {kk : D → Sto → Prop} {ys : List (List Nat)} (h : seqOf st x = some (ys.map tx)) : opJoin st (tx a) [x] kk = ((ys.map List.length).sum + ys.length * a.length ≤ 16777216 ∧ kk (tx (TL.joinL a ys)) st) := by
  unfold tx at h ⊢
  unfold opJoin
  have e : ys.map (fun l => D.str ⟨l.toArray⟩) = (ys.map SX.S).map D.str := by rw [List.map_map]; rfl
  simp only [h, Option.bind_some]
  rw [e, strs_map]
  simp only
  rw [SX.lens, List.length_map, len_tx, show (List.map (fun x : List Nat => x.length) ys) = List.map List.length ys from rfl]
  rw [show Txt.join (⟨a.toArray⟩ : Str) (ys.map SX.S) = ⟨(TL.joinL a ys).toArray⟩ from SX.join_S a ys]
@[simp ↓] theorem opZfill_tx {kk : D → Sto → Prop} (h : ∀ c, a.head? = some c → c ≠ 43 ∧ c ≠ 45) : opS gZfill st (tx a) [.int i] kk = (PadOk i = true ∧ kk (tx (List.replicate (i.toNat - a.length) 48 ++ a)) st) := by
  unfold tx
  show (PadOk i = true ∧ kk (.str (Txt.zfill ⟨a.toArray⟩ i)) st) = _
  have : Txt.zfill (⟨a.toArray⟩ : Str) i = ⟨(List.replicate (i.toNat - a.length) 48 ++ a).toArray⟩ := by
    unfold Txt.zfill
    rw [len_tx]
    split
    · rw [show i.toNat - a.length = 0 by omega]
      rfl
    · have hz : zfilled (⟨a.toArray⟩ : Str) (i.toNat - a.length) = Builtin.Str.padded ⟨a.toArray⟩ (i.toNat - a.length) 0 48 := by
        unfold zfilled
        cases a with
        | nil => rfl
        | cons c r =>
          have := h c rfl
          show (match (some c : Option Nat) with | some 43 | some 45 => _ | _ => _) = _
          split
          · rename_i e; cases e; exact absurd rfl this.1
          · rename_i e; cases e; exact absurd rfl this.2
          · rfl
      rw [hz]
      unfold Builtin.Str.padded
      simp
  rw [this]
end
/-! find of one sign -/
theorem occ_stay (s sub : Str) (hi : Nat) : ∀ (l : List Nat) (st : Array Nat × Nat), st.1.size = 1 → (forIn l st (StrLaws.occBody s sub hi 1)).run.1 = st.1
  | [], st, h => rfl
  | a :: l, st, h => by
    rw [List.forIn_cons]
    unfold StrLaws.occBody
    rw [if_neg (by rw [h]; omega)]
    exact occ_stay s sub hi l _ h
theorem occ_one (a : List Nat) (c : Nat) : ∀ (m lo free : Nat), free ≤ lo → lo + m = a.length + 1 →
    (forIn (List.range' lo m) ((#[] : Array Nat), free) (StrLaws.occBody (⟨a.toArray⟩ : Str) ⟨#[c]⟩ a.length 1)).run.1.toList = if c ∈ a.drop lo then [lo + ((a.drop lo).takeWhile (· != c)).length] else []
  | 0, lo, free, _, h => by
    rw [List.drop_of_length_le (by omega)]
    simp
  | m + 1, lo, free, hf, h => by
    rw [List.range'_succ, List.forIn_cons]
    have hs := StrLaws.subAt_one (⟨a.toArray⟩ : Str) c lo
    rw [len_tx] at hs
    have hs : (lo + (⟨#[c]⟩ : Str).length ≤ a.length ∧ Builtin.Str.subAt ⟨a.toArray⟩ ⟨#[c]⟩ lo = true) ↔ a[lo]? = some c := hs
    unfold StrLaws.occBody
    by_cases e : a[lo]? = some c
    · have h2 := hs.mpr e
      rw [if_pos ⟨⟨⟨by simp, hf⟩, h2.1⟩, h2.2⟩]
      have hlt := (List.getElem?_eq_some_iff.mp e)
      obtain ⟨hl, ec⟩ := hlt
      have ed : a.drop lo = c :: a.drop (lo + 1) := by rw [List.drop_eq_getElem_cons hl, ec]
      rw [ed]
      have := occ_stay (⟨a.toArray⟩ : Str) ⟨#[c]⟩ a.length (List.range' (lo + 1) m) (#[lo], lo + (⟨#[c]⟩ : Str).length) rfl
      show (forIn (List.range' (lo + 1) m) ((#[] : Array Nat).push lo, lo + (⟨#[c]⟩ : Str).length) (StrLaws.occBody (⟨a.toArray⟩ : Str) ⟨#[c]⟩ a.length 1)).run.1.toList = _
      rw [show (#[] : Array Nat).push lo = #[lo] from rfl, this]
      simp
    · rw [if_neg (fun z => e (hs.mp ⟨z.1.2, z.2⟩))]
      have ih := occ_one a c m (lo + 1) free (by omega) (by omega)
      show (forIn (List.range' (lo + 1) m) ((#[] : Array Nat), free) (StrLaws.occBody (⟨a.toArray⟩ : Str) ⟨#[c]⟩ a.length 1)).run.1.toList = _
      rw [ih]
      by_cases hl : lo < a.length
      · have ed := List.drop_eq_getElem_cons hl
        have hne : a[lo] ≠ c := fun z => e (by rw [List.getElem?_eq_getElem hl, z])
        rw [ed]
        have hne2 : ¬ c = a[lo] := fun z => hne z.symm
        simp only [List.mem_cons, hne2, false_or, List.takeWhile_cons, bne_iff_ne, ne_eq, hne, not_false_iff, if_true, List.length_cons]
        split
        · rw [show lo + 1 + (List.takeWhile (· != c) (List.drop (lo + 1) a)).length = lo + ((List.takeWhile (· != c) (List.drop (lo + 1) a)).length + 1) by omega]
        · rfl
      · rw [List.drop_of_length_le (by omega), List.drop_of_length_le (by omega)]
        simp
@[simp ↓] theorem opFind_tx {st : Sto} {a : List Nat} {c i : Nat} {kk : D → Sto → Prop} (hi : i ≤ a.length) : opS gFind3 st (tx a) [tx [c], .int i] kk = kk (.int (if c ∈ a.drop i then ((i + ((a.drop i).takeWhile (· != c)).length : Nat) : Int) else -1)) st := by
  show kk (.int (Txt.find3 ⟨a.toArray⟩ ⟨#[c]⟩ i)) st = _
  have : Txt.find3 (⟨a.toArray⟩ : Str) ⟨#[c]⟩ i = if c ∈ a.drop i then ((i + ((a.drop i).takeWhile (· != c)).length : Nat) : Int) else -1 := by
    unfold Txt.find3
    rw [len_tx, show fromIndex a.length (i : Int) = i by unfold fromIndex; rw [if_neg (by omega)]; omega]
    rw [StrLaws.occ_eq, occ_one a c (a.length + 1 - i) i i (Nat.le_refl _) (by omega)]
    split
    · rename_i e
      split at e
      · rename_i h
        cases e
        rw [if_pos h]
      · cases e
    · rename_i e
      split at e
      · cases e
      · rename_i h
        rw [if_neg h]
  rw [this]
/-! slices -/
theorem cutD_from {α : Type} (l : List α) (i : Nat) : cutD l (some (i : Int)) none = l.drop i := by
  unfold cutD
  rw [HT.sIx_nat, HT.sIx_none]
  by_cases h : i ≤ l.length
  · rw [Nat.min_eq_left h, List.take_of_length_le (by simp)]
  · rw [Nat.min_eq_right (by omega), List.drop_of_length_le (Nat.le_refl _), List.drop_of_length_le (by omega)]
    simp
theorem cutD_to {α : Type} (l : List α) (i : Nat) : cutD l none (some (i : Int)) = l.take i := by
  unfold cutD
  rw [HT.sIx_nat, HT.sIx_none, List.drop_zero, Nat.sub_zero]
  by_cases h : i ≤ l.length
  · rw [Nat.min_eq_left h]
  · rw [Nat.min_eq_right (by omega), List.take_of_length_le (Nat.le_refl _), List.take_of_length_le (by omega)]
theorem cutD_mid {α : Type} (l : List α) (i j : Nat) : cutD l (some (i : Int)) (some (j : Int)) = (l.drop i).take (j - i) := by
  unfold cutD
  rw [HT.sIx_nat, HT.sIx_nat]
  by_cases h : i ≤ l.length
  · rw [Nat.min_eq_left h]
    by_cases h2 : j ≤ l.length
    · rw [Nat.min_eq_left h2]
    · rw [Nat.min_eq_right (show l.length ≤ j by omega), List.take_of_length_le (by simp), List.take_of_length_le (by simp; omega)]
  · rw [Nat.min_eq_right (show l.length ≤ i by omega), List.drop_of_length_le (Nat.le_refl _), List.drop_of_length_le (show l.length ≤ i by omega)]
    simp
theorem cutD_all {α : Type} (l : List α) : cutD l none none = l := by
  unfold cutD
  rw [HT.sIx_none, HT.sIx_none, List.drop_zero, Nat.sub_zero, List.take_of_length_le (Nat.le_refl _)]
/-! many times -/
@[simp ↓] theorem opMul2_tx {st : Sto} {a : List Nat} {n : Int} {k : D → Prop} : opMul2 st (tx a) (.int n) k = (1 ≤ n ∧ n < 1000000 ∧ a.length * n.toNat ≤ 1000000 ∧ a.length ≠ 0 ∧ k (tx (List.replicate n.toNat a).flatten)) := by
  unfold tx
  rw [opMul2_si, len_tx]
  have : repS (⟨a.toArray⟩ : Str) n.toNat = ⟨(List.replicate n.toNat a).flatten.toArray⟩ := TL.ext_tl (by
    show (repS _ _).cps.toList = _
    rw [repS_cps])
  rw [this]
theorem one_lt (a b : Nat) : decide ([a] < [b]) = decide (a < b) := by
  have : ([a] < [b]) ↔ a < b := by
    rw [List.cons_lt_cons_iff]
    simp
  simp only [this]
@[simp ↓] theorem dRng3_e {da : DA} {Ed : EdT} {env : Slots} {st : Sto} {R : List D → (Sto → Prop) → Sto → Prop} : dRng3 da Ed env st R = da Ed env st fun xs st1 => match xs with
  | [.int i, .int j, .int c] => ∃ n, RgC i j c n ∧ R (stepD i c n) (fun _ => True) st1
  | _ => False := rfl
@[simp ↓] theorem iRng2_e {ds : DA} {Ed : EdT} {env : Slots} {st : Sto} {R : List D → (Sto → Prop) → Sto → Prop} : iRng2 ds Ed env st R = ds Ed env st fun xs st1 => match xs with
  | [.int i, .int j] => -(2 ^ 62) ≤ i ∧ i < 2 ^ 62 ∧ -(2 ^ 62) ≤ j ∧ j < 2 ^ 62 ∧ R (rangeD i (j - i).toNat) (fun _ => True) st1
  | _ => False := rfl
theorem rgc_pos {a b c : Nat} (hc : 0 < c) (hc2 : c < 1000000) (ha : a < 2 ^ 40) (hb : b < 2 ^ 40) : RgC a b c (if a < b then (b - a - 1) / c + 1 else 0) := by
  have e : Builtin.Range.rangeSize a b c = ((if a < b then (b - a - 1) / c + 1 else 0 : Nat) : Int) := by
    unfold Builtin.Range.rangeSize
    rw [if_pos (show (c : Int) > 0 by omega)]
    by_cases h : a < b
    · rw [if_pos h, if_pos (by omega)]
      rw [show (b : Int) - a - 1 = ((b - a - 1 : Nat) : Int) by omega]
      rfl
    · rw [if_neg h, if_neg (by omega)]
      rfl
  refine ⟨by omega, by omega, ?_, e⟩
  have hn : (if a < b then (b - a - 1) / c + 1 else 0) < 2 ^ 41 := by
    split
    · have : (b - a - 1) / c ≤ b - a - 1 := Nat.div_le_self _ _
      omega
    · decide
  unfold Builtin.Range.small
  rw [e]
  generalize (if a < b then (b - a - 1) / c + 1 else 0) = n at hn
  simp only [Builtin.Range.rangeFitsLong, Bool.and_eq_true, Bool.or_eq_true, decide_eq_true_eq, beq_iff_eq, show (c : Int) > 0 by omega, if_true]
  omega
theorem range_mid {n a : Nat} {done rest : List Nat} (h : List.range n = done ++ a :: rest) : a = done.length ∧ done.length < n := by
  have h1 := congrArg List.length h
  simp at h1
  have hl : done.length < n := by omega
  have h2 : (List.range n)[done.length]? = some a := by rw [h]; simp
  rw [List.getElem?_range hl] at h2
  cases h2
  exact ⟨rfl, hl⟩
/-! while, by a bound -/
theorem while_by {t : DT} {b : DS} {Ed : EdT} {De : DEnds} {env : Slots} {st : Sto} (I : Nat → Slots → Sto → Prop) (n : Nat) (h0 : I n env st)
    (hs : ∀ n env st, I n env st → ∀ nx : Slots → Sto → Prop, (∀ m e s, m + 1 = n → I m e s → nx e s) → t Ed env st fun c st1 => if c = true then b Ed { nx := nx, ct := nx, bk := De.nx, rt := De.rt } env st1 else De.nx env st1) : sWhile t b Ed De env st := by
  have key : ∀ n env st, I n env st → whileN t b Ed De (n + 1) env st := by
    intro n
    induction n with
    | zero =>
      intro env st h
      exact hs 0 env st h (whileN t b Ed De 0) fun m e s hm => by omega
    | succ n ih =>
      intro env st h
      refine hs (n + 1) env st h (whileN t b Ed De (n + 1)) fun m e s hm hi => ?_
      have e1 : m = n := by omega
      subst e1
      exact ih e s hi
  exact ⟨n + 1, key n env st h0⟩
theorem joinL_nil : ∀ ys : List (List Nat), TL.joinL [] ys = ys.flatten
  | [] => rfl
  | [p] => by simp [TL.joinL]
  | p :: q :: r => by
    show p ++ ([] ++ TL.joinL [] (q :: r)) = _
    rw [joinL_nil (q :: r)]
    simp
@[simp ↓] theorem dRev_e {da : DE} {Ed : EdT} {env : Slots} {st : Sto} {Q : D → Sto → Prop} : dRev da Ed env st Q = da Ed env st fun x st1 => match x with
  | .sl ds => Q (.tl ds.reverse) st1
  | x => match lisOf st1 (frz x) with
    | some ds => Q (.tl ds.reverse) st1
    | none => False := rfl
theorem log_small {n k : Nat} (h : n < 2 ^ k) (hk : k ≤ 1919) : n.log2 < 1920 := by
  by_cases h0 : n = 0
  · subst h0; decide
  · have := (Nat.log2_lt h0).mpr h
    omega
end DW
namespace TX
open PySem
theorem digitsVal_zeros (l : List Nat) : ∀ z : Nat, NumText.digitsVal (List.replicate z 48 ++ l) = NumText.digitsVal l
  | 0 => by simp
  | z + 1 => by
    rw [List.replicate_succ, List.cons_append, digitsVal_cons, digitsVal_zeros l z]
    simp
theorem numL_big {n k : Nat} (hk : 0 < k) (h : 10 ^ k ≤ n) : TL.numL n = TL.numL (n / 10 ^ k) ++ (List.replicate (k - (TL.numL (n % 10 ^ k)).length) 48 ++ TL.numL (n % 10 ^ k)) := by
  have hP : 0 < 10 ^ k := Nat.pow_pos (by decide)
  have hl : (TL.numL (n % 10 ^ k)).length ≤ k := TL.numL_len hk (Nat.mod_lt _ hP)
  have hq : 0 < n / 10 ^ k := Nat.div_pos h hP
  have hv : NumText.digitsVal (TL.numL (n / 10 ^ k) ++ (List.replicate (k - (TL.numL (n % 10 ^ k)).length) 48 ++ TL.numL (n % 10 ^ k))) = n := by
    rw [digitsVal_app, digitsVal_zeros, TL.numL_val, TL.numL_val, List.length_append, List.length_replicate, show k - (TL.numL (n % 10 ^ k)).length + (TL.numL (n % 10 ^ k)).length = k by omega, Nat.mul_comm]
    exact Nat.div_add_mod n (10 ^ k)
  have hd : NumText.AllDigits (TL.numL (n / 10 ^ k) ++ (List.replicate (k - (TL.numL (n % 10 ^ k)).length) 48 ++ TL.numL (n % 10 ^ k))) := by
    intro c hc
    rcases List.mem_append.mp hc with hc | hc
    · exact TL.numL_digits _ c hc
    rcases List.mem_append.mp hc with hc | hc
    · rw [(List.mem_replicate.mp hc).2]; decide
    · exact TL.numL_digits _ c hc
  have := numL_inv _ rfl hd (by simp [TL.numL_ne]) (.inr (by
    have := numL_head0 hq
    cases e : TL.numL (n / 10 ^ k) with
    | nil => exact absurd e (TL.numL_ne _)
    | cons c r => rw [e] at this; simpa using this))
  rw [hv] at this
  exact this
end TX

/-! DW18: == of pure data. -/
namespace DW
open PySem PySem.Spec PyProof.Rows L2
mutual
/-- ints, texts, tuples, at most k deep -/
def ps : Nat → D → Prop
  | _, .int _ => True
  | _, .str x => PyData.strOk x = true
  | k + 1, .tup ds => pss k ds
  | _, _ => False
def pss : Nat → List D → Prop
  | _, [] => True
  | k, d :: r => ps k d ∧ pss k r
end
mutual
theorem ps_dat {k : Nat} : ∀ {d : D}, ps k d → isDat d = true
  | .int _, _ => rfl
  | .str _, _ => rfl
  | .tup ds, h => by
    cases k with
    | zero => exact h.elim
    | succ k => unfold ps at h; exact pss_dat h
  | .non, h => by cases k <;> exact h.elim
  | .bl _, h => by cases k <;> exact h.elim
  | .ref _, h => by cases k <;> exact h.elim
  | .fl _, h => by cases k <;> exact h.elim
  | .sl _, h => by cases k <;> exact h.elim
  | .tl _, h => by cases k <;> exact h.elim
  | .fd _ _, h => by cases k <;> exact h.elim
  | .td _ _, h => by cases k <;> exact h.elim
  | .con _, h => by cases k <;> exact h.elim
  | .ty _, h => by cases k <;> exact h.elim
theorem pss_dat {k : Nat} : ∀ {ds : List D}, pss k ds → areDat ds = true
  | [], _ => rfl
  | d :: r, h => by
    unfold pss at h
    simp only [areDat, Bool.and_eq_true]
    exact ⟨ps_dat h.1, pss_dat h.2⟩
end
mutual
theorem ps_lay {k : Nat} : ∀ {d : D}, ps k d → (toPy d).canLay0 = true ∧ (toPy d).depth ≤ k
  | .int _, _ => ⟨rfl, Nat.zero_le _⟩
  | .str _, h => by unfold ps at h; exact ⟨h, Nat.zero_le _⟩
  | .tup ds, h => by
    cases k with
    | zero => exact h.elim
    | succ k =>
      unfold ps at h
      have := pss_lay h
      unfold toPy
      refine ⟨by unfold PyData.canLay0; exact this.1, ?_⟩
      unfold PyData.depth
      omega
  | .non, h => by cases k <;> exact h.elim
  | .bl _, h => by cases k <;> exact h.elim
  | .ref _, h => by cases k <;> exact h.elim
  | .fl _, h => by cases k <;> exact h.elim
  | .sl _, h => by cases k <;> exact h.elim
  | .tl _, h => by cases k <;> exact h.elim
  | .fd _ _, h => by cases k <;> exact h.elim
  | .td _ _, h => by cases k <;> exact h.elim
  | .con _, h => by cases k <;> exact h.elim
  | .ty _, h => by cases k <;> exact h.elim
theorem pss_lay {k : Nat} : ∀ {ds : List D}, pss k ds → PyData.canLayAll0 (toPys ds) = true ∧ PyData.depthAll (toPys ds) ≤ k
  | [], _ => ⟨rfl, Nat.zero_le _⟩
  | d :: r, h => by
    unfold pss at h
    have h1 := ps_lay h.1
    have h2 := pss_lay h.2
    unfold toPys
    refine ⟨by unfold PyData.canLayAll0; rw [h1.1, h2.1]; rfl, ?_⟩
    unfold PyData.depthAll
    omega
end
theorem ps_shaped {k : Nat} {d : D} (h : ps k d) (hk : k ≤ 64) : SeqAt.shaped (toPy d) = true := by
  have := ps_lay h
  unfold SeqAt.shaped
  rw [this.1, decide_eq_true (show (toPy d).depth ≤ 64 by omega)]
  rfl
mutual
theorem ps_eqv {k m : Nat} : ∀ {x y : D}, ps k x → ps m y → (PyData.eqv (toPy x) (toPy y) = true ↔ x = y)
  | .int i, .int j, _, _ => by simp [toPy, PyData.eqv]
  | .str a, .str b, _, _ => by simp [toPy, PyData.eqv]
  | .int i, .str b, _, _ => by simp [toPy, PyData.eqv]
  | .str a, .int j, _, _ => by simp [toPy, PyData.eqv]
  | .tup xs, .int j, _, _ => by simp [toPy, PyData.eqv]
  | .tup xs, .str j, _, _ => by simp [toPy, PyData.eqv]
  | .int i, .tup ys, _, _ => by simp [toPy, PyData.eqv]
  | .str i, .tup ys, _, _ => by simp [toPy, PyData.eqv]
  | .tup xs, .tup ys, h, h' => by
    cases k with
    | zero => exact h.elim
    | succ k =>
      cases m with
      | zero => exact h'.elim
      | succ m =>
        unfold ps at h h'
        have := pss_eqv h h'
        simp only [toPy, PyData.eqv, D.tup.injEq]
        exact this
  | .non, _, h, _ => by cases k <;> exact h.elim
  | .bl _, _, h, _ => by cases k <;> exact h.elim
  | .ref _, _, h, _ => by cases k <;> exact h.elim
  | .fl _, _, h, _ => by cases k <;> exact h.elim
  | .sl _, _, h, _ => by cases k <;> exact h.elim
  | .tl _, _, h, _ => by cases k <;> exact h.elim
  | .fd _ _, _, h, _ => by cases k <;> exact h.elim
  | .td _ _, _, h, _ => by cases k <;> exact h.elim
  | .con _, _, h, _ => by cases k <;> exact h.elim
  | .ty _, _, h, _ => by cases k <;> exact h.elim
  | _, .non, _, h => by cases m <;> exact h.elim
  | _, .bl _, _, h => by cases m <;> exact h.elim
  | _, .ref _, _, h => by cases m <;> exact h.elim
  | _, .fl _, _, h => by cases m <;> exact h.elim
  | _, .sl _, _, h => by cases m <;> exact h.elim
  | _, .tl _, _, h => by cases m <;> exact h.elim
  | _, .fd _ _, _, h => by cases m <;> exact h.elim
  | _, .td _ _, _, h => by cases m <;> exact h.elim
  | _, .con _, _, h => by cases m <;> exact h.elim
  | _, .ty _, _, h => by cases m <;> exact h.elim
theorem pss_eqv {k m : Nat} : ∀ {xs ys : List D}, pss k xs → pss m ys → (PyData.eqvAll (toPys xs) (toPys ys) = true ↔ xs = ys)
  | [], [], _, _ => by simp [toPys, PyData.eqvAll]
  | [], _ :: _, _, _ => by simp [toPys, PyData.eqvAll]
  | _ :: _, [], _, _ => by simp [toPys, PyData.eqvAll]
  | x :: xs, y :: ys, h, h' => by
    unfold pss at h h'
    have h1 := ps_eqv h.1 h'.1
    have h2 := pss_eqv h.2 h'.2
    simp only [toPys, PyData.eqvAll, Bool.and_eq_true, List.cons.injEq]
    rw [h1, h2]
end
theorem opEqW_ps {neg : Bool} {st : Sto} {x y : D} {k : D → Prop} {n m : Nat} (hx : ps n x) (hy : ps m y) (hn : n ≤ 64) (hm : m ≤ 64) {b : Bool} (hb : b = true ↔ x = y) : opEqW neg st x y k = k (.bl (neg ^^ b)) := by
  have e := ps_eqv hx hy
  have hbe : PyData.eqv (toPy x) (toPy y) = b := by
    rw [Bool.eq_iff_iff, e, hb]
  have gen : (isDat x = true ∧ isDat y = true ∧ SeqAt.shaped (toPy x) = true ∧ SeqAt.shaped (toPy y) = true ∧ k (.bl (neg ^^ PyData.eqv (toPy x) (toPy y)))) = k (.bl (neg ^^ b)) := by
    rw [hbe]
    simp only [ps_dat hx, ps_dat hy, ps_shaped hx hn, ps_shaped hy hm, true_and]
  cases x with
  | int i =>
    cases y with
    | int j => rw [opEqW_ii]; rw [show (i == j) = b from hbe]
    | _ => exact gen
  | str i =>
    cases y with
    | str j => rw [opEqW_ss]; rw [show (i == j) = b from hbe]
    | _ => exact gen
  | _ => cases y <;> exact gen
theorem ps_mono {k : Nat} : ∀ {d : D}, ps k d → frz d = d := by
  intro d h
  cases d <;> first | rfl | (cases k <;> exact h.elim)
@[simp ↓] theorem opEqW_bb {neg : Bool} {st : Sto} {a b : Bool} {k : D → Prop} : opEqW neg st (.bl a) (.bl b) k = k (.bl (neg ^^ (a == b))) := by
  show (isDat (.bl a) = true ∧ isDat (.bl b) = true ∧ SeqAt.shaped (toPy (.bl a)) = true ∧ SeqAt.shaped (toPy (.bl b)) = true ∧ k (.bl (neg ^^ PyData.eqv (toPy (.bl a)) (toPy (.bl b))))) = _
  have h : ∀ c, SeqAt.shaped (toPy (.bl c)) = true := by decide
  simp only [h, isDat, true_and]
  rfl
theorem kit_own {K : PySem.W.Frag} {S S2 : Addr} (h1 : PySem.W.isClsIn K S2 = true) (h2 : PySem.W.typeIn K (.ref S2) = some (.type "type")) (h3 : PySem.W.subIn K (.ref S) (.ref S2) = some true) : PySem.W.kitOne K (.ref S) (.ref S2) = some true := by
  unfold PySem.W.kitOne PySem.W.kitCls
  split
  · rfl
  · have h1' : (PySem.W.clsIn K S2).isSome = true := h1
    simp [h1', h2, h3]
end DW


namespace K64
open PySem PySem.Spec PyProof.Rows L2 DW
/-! the text by places -/
def topS (i : Nat) : Stmt := PySem.Challenge.pw_meanwithin_k64_texts_of_data_and_integer.main.body.getD i (.Pass ⟨0, 0, 0, 0⟩)
abbrev s_write_integer : Stmt := topS 6
abbrev s_read_integer : Stmt := topS 7
abbrev s_write_data : Stmt := topS 11
abbrev s_plain_text : Stmt := topS 12
abbrev s_read_plain : Stmt := topS 13
abbrev s_read_data : Stmt := topS 14
abbrev s_law_start : Stmt := topS 16
abbrev s_law_draw : Stmt := topS 17
abbrev s_law_one_of : Stmt := topS 18
abbrev s_law_is_int : Stmt := topS 19
abbrev s_law_same : Stmt := topS 20
abbrev s_law_digits : Stmt := topS 21
abbrev s_law_some_text : Stmt := topS 22
abbrev s_law_some_integer : Stmt := topS 23
abbrev s_law_some_datum : Stmt := topS 24
abbrev s_law_written : Stmt := topS 25
abbrev s_law_read : Stmt := topS 26
abbrev s_law_changed : Stmt := topS 27
abbrev s_law_deep_fits : Stmt := topS 28
abbrev s_law : Stmt := topS 29
abbrev N_write_integer : List Str := ["n", "chunks", "low"]
abbrev P_write_integer : List Str := ["n"]
theorem sc_write_integer : FnScope N_write_integer P_write_integer (defScope s_write_integer) := ⟨rfl, rfl, rfl, by decide +kernel, rfl, by decide +kernel, by decide +kernel⟩
abbrev N_read_integer : List Str := ["text", "digits", "char", "head", "n", "start"]
abbrev P_read_integer : List Str := ["text"]
theorem sc_read_integer : FnScope N_read_integer P_read_integer (defScope s_read_integer) := ⟨rfl, rfl, rfl, by decide +kernel, rfl, by decide +kernel, by decide +kernel⟩
abbrev N_write_data : List Str := ["datum", "item"]
abbrev P_write_data : List Str := ["datum"]
theorem sc_write_data : FnScope N_write_data P_write_data (defScope s_write_data) := ⟨rfl, rfl, rfl, by decide +kernel, rfl, by decide +kernel, by decide +kernel⟩
abbrev N_plain_text : List Str := ["text", "char"]
abbrev P_plain_text : List Str := ["text"]
theorem sc_plain_text : FnScope N_plain_text P_plain_text (defScope s_plain_text) := ⟨rfl, rfl, rfl, by decide +kernel, rfl, by decide +kernel, by decide +kernel⟩
abbrev N_read_plain : List Str := ["text", "start", "end"]
abbrev P_read_plain : List Str := ["text", "start"]
theorem sc_read_plain : FnScope N_read_plain P_read_plain (defScope s_read_plain) := ⟨rfl, rfl, rfl, by decide +kernel, rfl, by decide +kernel, by decide +kernel⟩
abbrev N_read_data : List Str := ["text", "stack", "index", "fresh", "done", "item"]
abbrev P_read_data : List Str := ["text"]
theorem sc_read_data : FnScope N_read_data P_read_data (defScope s_read_data) := ⟨rfl, rfl, rfl, by decide +kernel, rfl, by decide +kernel, by decide +kernel⟩
abbrev N_law_start : List Str := ["script"]
abbrev P_law_start : List Str := ["script"]
theorem sc_law_start : FnScope N_law_start P_law_start (defScope s_law_start) := ⟨rfl, rfl, rfl, by decide +kernel, rfl, by decide +kernel, by decide +kernel⟩
abbrev N_law_draw : List Str := ["state", "most", "found", "cell", "mixed"]
abbrev P_law_draw : List Str := ["state", "most"]
theorem sc_law_draw : FnScope N_law_draw P_law_draw (defScope s_law_draw) := ⟨rfl, rfl, rfl, by decide +kernel, rfl, by decide +kernel, by decide +kernel⟩
abbrev N_law_one_of : List Str := ["state", "items"]
abbrev P_law_one_of : List Str := ["state", "items"]
theorem sc_law_one_of : FnScope N_law_one_of P_law_one_of (defScope s_law_one_of) := ⟨rfl, rfl, rfl, by decide +kernel, rfl, by decide +kernel, by decide +kernel⟩
abbrev N_law_is_int : List Str := ["x"]
abbrev P_law_is_int : List Str := ["x"]
theorem sc_law_is_int : FnScope N_law_is_int P_law_is_int (defScope s_law_is_int) := ⟨rfl, rfl, rfl, by decide +kernel, rfl, by decide +kernel, by decide +kernel⟩
abbrev N_law_same : List Str := ["x", "y", "k"]
abbrev P_law_same : List Str := ["x", "y"]
theorem sc_law_same : FnScope N_law_same P_law_same (defScope s_law_same) := ⟨rfl, rfl, rfl, by decide +kernel, rfl, by decide +kernel, by decide +kernel⟩
abbrev N_law_digits : List Str := ["n", "found", "left", "turn"]
abbrev P_law_digits : List Str := ["n"]
theorem sc_law_digits : FnScope N_law_digits P_law_digits (defScope s_law_digits) := ⟨rfl, rfl, rfl, by decide +kernel, rfl, by decide +kernel, by decide +kernel⟩
abbrev N_law_some_text : List Str := ["state", "signs", "turn"]
abbrev P_law_some_text : List Str := ["state"]
theorem sc_law_some_text : FnScope N_law_some_text P_law_some_text (defScope s_law_some_text) := ⟨rfl, rfl, rfl, by decide +kernel, rfl, by decide +kernel, by decide +kernel⟩
abbrev N_law_some_integer : List Str := ["state", "kind"]
abbrev P_law_some_integer : List Str := ["state"]
theorem sc_law_some_integer : FnScope N_law_some_integer P_law_some_integer (defScope s_law_some_integer) := ⟨rfl, rfl, rfl, by decide +kernel, rfl, by decide +kernel, by decide +kernel⟩
abbrev N_law_some_datum : List Str := ["state", "deep", "kind", "turn"]
abbrev P_law_some_datum : List Str := ["state", "deep"]
theorem sc_law_some_datum : FnScope N_law_some_datum P_law_some_datum (defScope s_law_some_datum) := ⟨rfl, rfl, rfl, by decide +kernel, rfl, by decide +kernel, by decide +kernel⟩
abbrev N_law_written : List Str := ["datum", "one"]
abbrev P_law_written : List Str := ["datum"]
theorem sc_law_written : FnScope N_law_written P_law_written (defScope s_law_written) := ⟨rfl, rfl, rfl, by decide +kernel, rfl, by decide +kernel, by decide +kernel⟩
abbrev N_law_read : List Str := ["reader", "text", "e"]
abbrev P_law_read : List Str := ["reader", "text"]
theorem sc_law_read : FnScope N_law_read P_law_read (defScope s_law_read) := ⟨rfl, rfl, rfl, by decide +kernel, rfl, by decide +kernel, by decide +kernel⟩
abbrev N_law_changed : List Str := ["state", "text", "found", "turn", "k", "sign"]
abbrev P_law_changed : List Str := ["state", "text"]
theorem sc_law_changed : FnScope N_law_changed P_law_changed (defScope s_law_changed) := ⟨rfl, rfl, rfl, by decide +kernel, rfl, by decide +kernel, by decide +kernel⟩
abbrev N_law_deep_fits : List Str := ["many", "due", "text"]
abbrev P_law_deep_fits : List Str := []
theorem sc_law_deep_fits : FnScope N_law_deep_fits P_law_deep_fits (defScope s_law_deep_fits) := ⟨rfl, rfl, rfl, by decide +kernel, rfl, by decide +kernel, by decide +kernel⟩
abbrev N_law : List Str := ["script", "state", "turn", "n", "text", "bent", "found", "datum", "bad"]
abbrev P_law : List Str := ["script"]
theorem sc_law : FnScope N_law P_law (defScope s_law) := ⟨rfl, rfl, rfl, by decide +kernel, rfl, by decide +kernel, by decide +kernel⟩
end K64


namespace K64
open PySem PySem.Spec PyProof.Rows L2 DW
def v_BASE : D := .int (10 ^ 64)
def v_DIGITS : D := .str "0123456789"
def v_DEPTH : D := .int 20
def v_SIGNS : D := .str "-0123456789"
/-- what the top has written, by names -/
structure Top (K : PySem.W.Frag) (mg : Str → Option Value) where
  f_write_integer : Addr
  fd_write_integer : FuncData
  F_write_integer : Fun K "write_integer" "write_integer" s_write_integer f_write_integer fd_write_integer
  g_write_integer : mg "write_integer" = some (.ref f_write_integer)
  b_write_integer : Binds K fd_write_integer P_write_integer []
  f_read_integer : Addr
  fd_read_integer : FuncData
  F_read_integer : Fun K "read_integer" "read_integer" s_read_integer f_read_integer fd_read_integer
  g_read_integer : mg "read_integer" = some (.ref f_read_integer)
  b_read_integer : Binds K fd_read_integer P_read_integer []
  f_write_data : Addr
  fd_write_data : FuncData
  F_write_data : Fun K "write_data" "write_data" s_write_data f_write_data fd_write_data
  g_write_data : mg "write_data" = some (.ref f_write_data)
  b_write_data : Binds K fd_write_data P_write_data []
  f_plain_text : Addr
  fd_plain_text : FuncData
  F_plain_text : Fun K "plain_text" "plain_text" s_plain_text f_plain_text fd_plain_text
  g_plain_text : mg "plain_text" = some (.ref f_plain_text)
  b_plain_text : Binds K fd_plain_text P_plain_text []
  f_read_plain : Addr
  fd_read_plain : FuncData
  F_read_plain : Fun K "read_plain" "read_plain" s_read_plain f_read_plain fd_read_plain
  g_read_plain : mg "read_plain" = some (.ref f_read_plain)
  b_read_plain : Binds K fd_read_plain P_read_plain []
  f_read_data : Addr
  fd_read_data : FuncData
  F_read_data : Fun K "read_data" "read_data" s_read_data f_read_data fd_read_data
  g_read_data : mg "read_data" = some (.ref f_read_data)
  b_read_data : Binds K fd_read_data P_read_data []
  f_law_start : Addr
  fd_law_start : FuncData
  F_law_start : Fun K "_law_start" "_law_start" s_law_start f_law_start fd_law_start
  g_law_start : mg "_law_start" = some (.ref f_law_start)
  b_law_start : Binds K fd_law_start P_law_start []
  f_law_draw : Addr
  fd_law_draw : FuncData
  F_law_draw : Fun K "_law_draw" "_law_draw" s_law_draw f_law_draw fd_law_draw
  g_law_draw : mg "_law_draw" = some (.ref f_law_draw)
  b_law_draw : Binds K fd_law_draw P_law_draw []
  f_law_one_of : Addr
  fd_law_one_of : FuncData
  F_law_one_of : Fun K "_law_one_of" "_law_one_of" s_law_one_of f_law_one_of fd_law_one_of
  g_law_one_of : mg "_law_one_of" = some (.ref f_law_one_of)
  b_law_one_of : Binds K fd_law_one_of P_law_one_of []
  f_law_is_int : Addr
  fd_law_is_int : FuncData
  F_law_is_int : Fun K "_law_is_int" "_law_is_int" s_law_is_int f_law_is_int fd_law_is_int
  g_law_is_int : mg "_law_is_int" = some (.ref f_law_is_int)
  b_law_is_int : Binds K fd_law_is_int P_law_is_int []
  f_law_same : Addr
  fd_law_same : FuncData
  F_law_same : Fun K "_law_same" "_law_same" s_law_same f_law_same fd_law_same
  g_law_same : mg "_law_same" = some (.ref f_law_same)
  b_law_same : Binds K fd_law_same P_law_same []
  f_law_digits : Addr
  fd_law_digits : FuncData
  F_law_digits : Fun K "_law_digits" "_law_digits" s_law_digits f_law_digits fd_law_digits
  g_law_digits : mg "_law_digits" = some (.ref f_law_digits)
  b_law_digits : Binds K fd_law_digits P_law_digits []
  f_law_some_text : Addr
  fd_law_some_text : FuncData
  F_law_some_text : Fun K "_law_some_text" "_law_some_text" s_law_some_text f_law_some_text fd_law_some_text
  g_law_some_text : mg "_law_some_text" = some (.ref f_law_some_text)
  b_law_some_text : Binds K fd_law_some_text P_law_some_text []
  f_law_some_integer : Addr
  fd_law_some_integer : FuncData
  F_law_some_integer : Fun K "_law_some_integer" "_law_some_integer" s_law_some_integer f_law_some_integer fd_law_some_integer
  g_law_some_integer : mg "_law_some_integer" = some (.ref f_law_some_integer)
  b_law_some_integer : Binds K fd_law_some_integer P_law_some_integer []
  f_law_some_datum : Addr
  fd_law_some_datum : FuncData
  F_law_some_datum : Fun K "_law_some_datum" "_law_some_datum" s_law_some_datum f_law_some_datum fd_law_some_datum
  g_law_some_datum : mg "_law_some_datum" = some (.ref f_law_some_datum)
  b_law_some_datum : Binds K fd_law_some_datum P_law_some_datum []
  f_law_written : Addr
  fd_law_written : FuncData
  F_law_written : Fun K "_law_written" "_law_written" s_law_written f_law_written fd_law_written
  g_law_written : mg "_law_written" = some (.ref f_law_written)
  b_law_written : Binds K fd_law_written P_law_written []
  f_law_read : Addr
  fd_law_read : FuncData
  F_law_read : Fun K "_law_read" "_law_read" s_law_read f_law_read fd_law_read
  g_law_read : mg "_law_read" = some (.ref f_law_read)
  b_law_read : Binds K fd_law_read P_law_read []
  f_law_changed : Addr
  fd_law_changed : FuncData
  F_law_changed : Fun K "_law_changed" "_law_changed" s_law_changed f_law_changed fd_law_changed
  g_law_changed : mg "_law_changed" = some (.ref f_law_changed)
  b_law_changed : Binds K fd_law_changed P_law_changed []
  f_law_deep_fits : Addr
  fd_law_deep_fits : FuncData
  F_law_deep_fits : Fun K "_law_deep_fits" "_law_deep_fits" s_law_deep_fits f_law_deep_fits fd_law_deep_fits
  g_law_deep_fits : mg "_law_deep_fits" = some (.ref f_law_deep_fits)
  b_law_deep_fits : Binds K fd_law_deep_fits P_law_deep_fits []
  f_law : Addr
  fd_law : FuncData
  F_law : Fun K "law" "law" s_law f_law fd_law
  g_law : mg "law" = some (.ref f_law)
  b_law : Binds K fd_law P_law []
  k_MeanwithinError : Addr
  gk_MeanwithinError : mg "MeanwithinError" = some (.ref k_MeanwithinError)
  x_MeanwithinError : XCls K k_MeanwithinError
  k_BadText : Addr
  gk_BadText : mg "BadText" = some (.ref k_BadText)
  x_BadText : XCls K k_BadText
  n_abs : mg "abs" = none
  n_all : mg "all" = none
  n_bool : mg "bool" = none
  n_divmod : mg "divmod" = none
  n_int : mg "int" = none
  n_isinstance : mg "isinstance" = none
  n_len : mg "len" = none
  n_list : mg "list" = none
  n_ord : mg "ord" = none
  n_range : mg "range" = none
  n_str : mg "str" = none
  n_tuple : mg "tuple" = none
  c_BASE : ConstOf K mg "BASE" v_BASE
  c_DIGITS : ConstOf K mg "DIGITS" v_DIGITS
  c_DEPTH : ConstOf K mg "DEPTH" v_DEPTH
  c_SIGNS : ConstOf K mg "SIGNS" v_SIGNS
  cl_M : PySem.W.isClsIn K k_MeanwithinError = true
  sb_M : PySem.W.subIn K (.ref k_BadText) (.ref k_MeanwithinError) = some true
  cl_BadText : PySem.W.isClsIn K k_BadText = true
  sb_BadText : PySem.W.subIn K (.ref k_BadText) (.ref k_BadText) = some true
  ec1 : PySem.W.findIn K (.ref k_BadText) "__getattribute__" = some (some (.builtin "BaseException.__getattribute__"))
  ec2 : PySem.W.findIn K (.ref k_BadText) "__getattr__" = some none
  ec4 : PySem.W.hasDictIn K k_BadText = true
  ec5 : PySem.W.findIn K (.ref k_BadText) "__class__" = some (some (.builtin "object.__class__"))
  ec6 : PySem.W.specialIn K (.builtin "object.__class__") "__get__" = some (some (.builtin "getset_descriptor.__get__"))
  ec7 : PySem.W.takesIn K (.builtin "object.__class__") = some true
  ec8 : PySem.W.mroIn K k_BadText (.type "object") = some true
theorem Top.ec {K : PySem.W.Frag} {mg : Str → Option Value} (T : Top K mg) : ExcC K T.k_BadText := ⟨T.ec1, T.ec2, T.x_BadText.s, T.ec4, T.ec5, T.ec6, T.ec7, T.ec8⟩
theorem Top.kit {K : PySem.W.Frag} {mg : Str → Option Value} (T : Top K mg) : PySem.W.kitOne K (.ref T.k_BadText) (.ref T.k_MeanwithinError) = some true := kit_own T.cl_M T.x_MeanwithinError.t T.sb_M
end K64

/-! K64M: data written and read. -/
namespace K64
open PySem L2 DW SX TX
/-! ### written forms -/
mutual
def wr : D → List Nat
  | .int i => decL i
  | .str x => 39 :: (x.cps.toList ++ [39])
  | .tup ds => 40 :: (wrs ds ++ [41])
  | _ => []
def wrs : List D → List Nat
  | [] => []
  | d :: r => wr d ++ wrt r
def wrt : List D → List Nat
  | [] => []
  | d :: r => 44 :: 32 :: (wr d ++ wrt r)
end
def plc (c : Nat) : Bool := decide (32 ≤ c) && decide (c ≤ 126) && decide (c ≠ 39) && decide (c ≠ 37)
mutual
/-- good data, at most k deep -/
def gd : Nat → D → Prop
  | _, .int _ => True
  | _, .str x => x.cps.toList.all plc = true
  | k + 1, .tup ds => gds k ds
  | _, _ => False
def gds : Nat → List D → Prop
  | _, [] => True
  | k, d :: r => gd k d ∧ gds k r
end
theorem gds_app {k : Nat} : ∀ {a b : List D}, gds k a → gds k b → gds k (a ++ b)
  | [], _, _, h => h
  | d :: a, b, h, h' => by unfold gds at h; rw [List.cons_append]; unfold gds; exact ⟨h.1, gds_app h.2 h'⟩
theorem gds1 {k : Nat} {d : D} (h : gd k d) : gds k [d] := by unfold gds; exact ⟨h, by unfold gds; trivial⟩
mutual
theorem gd_mono {k : Nat} : ∀ {d : D}, gd k d → gd (k + 1) d
  | .int _, _ => by unfold gd; trivial
  | .str _, h => by unfold gd at h ⊢; exact h
  | .tup ds, h => by
    cases k with
    | zero => exact h.elim
    | succ k => unfold gd at h ⊢; exact gds_mono h
  | .non, h => by cases k <;> exact h.elim
  | .bl _, h => by cases k <;> exact h.elim
  | .ref _, h => by cases k <;> exact h.elim
  | .fl _, h => by cases k <;> exact h.elim
  | .sl _, h => by cases k <;> exact h.elim
  | .tl _, h => by cases k <;> exact h.elim
  | .fd _ _, h => by cases k <;> exact h.elim
  | .td _ _, h => by cases k <;> exact h.elim
  | .con _, h => by cases k <;> exact h.elim
  | .ty _, h => by cases k <;> exact h.elim
theorem gds_mono {k : Nat} : ∀ {ds : List D}, gds k ds → gds (k + 1) ds
  | [], _ => by unfold gds; trivial
  | d :: r, h => by unfold gds at h ⊢; exact ⟨gd_mono h.1, gds_mono h.2⟩
end
theorem gd_le {k m : Nat} {d : D} (h : gd k d) (hm : k ≤ m) : gd m d := by
  induction hm with
  | refl => exact h
  | step _ ih => exact gd_mono ih
/-! ### reading -/
def sgn (c : Nat) : Bool := c == 45 || (decide (48 ≤ c) && decide (c ≤ 57))
def notQ (c : Nat) : Bool := c != 39
/-- an integer or a text, and what is behind it -/
def rp (l : List Nat) : Option (D × List Nat) :=
  if l.head? = some 39 then
    match l.tail.dropWhile notQ with
    | [] => none
    | _ :: r => match (l.tail.takeWhile notQ).all plc with
      | true => some (tx (l.tail.takeWhile notQ), r)
      | false => none
  else match readI (l.takeWhile sgn) with
    | some n => some (.int n, l.dropWhile sgn)
    | none => none
def fin : List D → List (List D) → Option D
  | [d], [] => some d
  | _, _ => none
def shut (top : List D) : List (List D) → Option (List D × List (List D))
  | s :: stk' => some (s ++ [.tup top], stk')
  | [] => none
def go : Nat → List D → List (List D) → Bool → Bool → List Nat → Option D
  | 0, _, _, _, _, _ => none
  | n + 1, top, stk, fresh, po, l => match l with
    | [] => fin top stk
    | c :: r =>
      if (fresh && c == 40 && decide (stk.length + 1 ≤ 20)) = true then go n [] (top :: stk) true true r
      else if (c == 41 && !stk.isEmpty && (!fresh || po)) = true then match shut top stk with
        | some (s, stk') => go n s stk' false false r
        | none => none
      else if (!fresh && !stk.isEmpty && c == 44 && r.head? == some 32) = true then go n top stk true false r.tail
      else if (fresh && c != 40) = true then match rp (c :: r) with
        | some (d, r') => go n (top ++ [d]) stk false false r'
        | none => none
      else none
theorem go_nil (n : Nat) (top : List D) (stk : List (List D)) (fresh po : Bool) : go (n + 1) top stk fresh po [] = fin top stk := rfl
theorem go_cons (n : Nat) (top : List D) (stk : List (List D)) (fresh po : Bool) (c : Nat) (r : List Nat) : go (n + 1) top stk fresh po (c :: r) =
      if (fresh && c == 40 && decide (stk.length + 1 ≤ 20)) = true then go n [] (top :: stk) true true r
      else if (c == 41 && !stk.isEmpty && (!fresh || po)) = true then match shut top stk with
        | some (s, stk') => go n s stk' false false r
        | none => none
      else if (!fresh && !stk.isEmpty && c == 44 && r.head? == some 32) = true then go n top stk true false r.tail
      else if (fresh && c != 40) = true then match rp (c :: r) with
        | some (d, r') => go n (top ++ [d]) stk false false r'
        | none => none
      else none := rfl
def rd (l : List Nat) : Option D := go (l.length + 1) [] [] true false l
/-! ### what is read is written so -/
theorem tw_dw (p : Nat → Bool) (l : List Nat) : l.takeWhile p ++ l.dropWhile p = l := List.takeWhile_append_dropWhile
theorem dw_head {p : Nat → Bool} : ∀ {l : List Nat} {c : Nat} {r : List Nat}, l.dropWhile p = c :: r → p c = false
  | [], _, _, h => by cases h
  | x :: l, c, r, h => by
    rw [List.dropWhile_cons] at h
    split at h
    · exact dw_head h
    · rename_i hp
      cases h
      simpa using hp
theorem rp_snd {l r : List Nat} {d : D} (h : rp l = some (d, r)) : l = wr d ++ r ∧ gd 0 d ∧ r.length < l.length := by
  unfold rp at h
  split at h
  · rename_i hq
    cases l with
    | nil => cases hq
    | cons q l =>
      simp only [List.head?_cons, Option.some.injEq] at hq
      subst hq
      simp only [List.tail_cons] at h
      have e0 := tw_dw notQ l
      cases e : l.dropWhile notQ with
      | nil => rw [e] at h; cases h
      | cons c r2 =>
        rw [e] at h e0
        have hc : c = 39 := by have := dw_head e; simpa [notQ] using this
        subst hc
        simp only at h
        cases hp : (List.takeWhile notQ l).all plc with
        | true =>
          rw [hp] at h
          cases h
          refine ⟨?_, ?_, ?_⟩
          · unfold wr
            show _ = 39 :: (List.takeWhile notQ l ++ [39]) ++ r
            generalize List.takeWhile notQ l = tw at *
            rw [← e0]
            simp
          · unfold gd; exact hp
          · rw [← e0]; simp; omega
        | false => rw [hp] at h; cases h
  · split at h
    · rename_i n e
      cases h
      have e0 := tw_dw sgn l
      have e1 := readI_some e
      refine ⟨?_, ?_, ?_⟩
      · unfold wr
        rw [← e1]
        exact e0.symm
      · unfold gd; trivial
      · have := decL_ne n
        rw [← e1] at this
        have h2 := congrArg List.length e0
        have h3 := List.length_pos_iff.mpr this
        rw [List.length_append] at h2
        omega
    · cases h
def sepd (s : List D) : List Nat := if s = [] then [] else wrs s ++ [44, 32]
def pre : List (List D) → List Nat
  | [] => []
  | s :: stk => pre stk ++ (sepd s ++ [40])
theorem wrt_app : ∀ (a b : List D), wrt (a ++ b) = wrt a ++ wrt b
  | [], b => by simp [wrt]
  | d :: a, b => by rw [List.cons_append, wrt, wrt, wrt_app a b]; simp
theorem wrs_snoc (s : List D) (x : D) : wrs (s ++ [x]) = sepd s ++ wr x := by
  cases s with
  | nil => simp [sepd, wrs, wrt]
  | cons d r =>
    rw [List.cons_append, wrs, sepd, if_neg (by simp), wrt_app]
    simp [wrs, wrt]
def good (top : List D) (stk : List (List D)) (fresh po : Bool) : Prop :=
  (stk = [] → ((fresh = true → top = []) ∧ (fresh = false → ∃ d, top = [d]))) ∧ (fresh = false → top ≠ []) ∧ (po = true → top = [] ∧ fresh = true)
/-- every level's items are good -/
def lev (top : List D) : List (List D) → Prop
  | [] => gds 20 top
  | s :: stk => gds (20 - (stk.length + 1)) top ∧ lev s stk ∧ (stk = [] → s = [])
theorem go_snd : ∀ (n : Nat) {top : List D} {stk : List (List D)} {fresh po : Bool} {l : List Nat} {d : D}, go n top stk fresh po l = some d → good top stk fresh po → lev top stk → stk.length ≤ 20 →
    pre stk ++ ((if fresh = true then sepd top else wrs top) ++ l) = wr d ∧ gd 20 d := by
  intro n
  induction n with
  | zero => intro top stk fresh po l d h; cases h
  | succ n ih =>
    intro top stk fresh po l d h hg hv hl
    cases l with
    | nil =>
      have : stk = [] ∧ top = [d] := by
        rw [go_nil] at h
        cases top with
        | nil => cases stk <;> cases h
        | cons a top => cases top with
          | nil => cases stk with
            | nil => cases h; exact ⟨rfl, rfl⟩
            | cons _ _ => cases h
          | cons _ _ => cases stk <;> cases h
      obtain ⟨rfl, rfl⟩ := this
      have hf : fresh = false := by
        cases fresh with
        | false => rfl
        | true => exact absurd ((hg.1 rfl).1 rfl) (by simp)
      subst hf
      unfold lev gds at hv
      exact ⟨by simp [pre, wrs, wrt], hv.1⟩
    | cons c r =>
      rw [go_cons] at h
      split at h
      · rename_i hc
        simp only [Bool.and_eq_true, beq_iff_eq, decide_eq_true_eq] at hc
        obtain ⟨⟨hf, rfl⟩, hs⟩ := hc
        subst hf
        have hv' : lev [] (top :: stk) := by
          unfold lev
          exact ⟨by unfold gds; trivial, hv, fun e => (hg.1 e).1 rfl⟩
        have := ih h ⟨(fun e => by cases e), (fun e => by cases e), fun _ => ⟨rfl, rfl⟩⟩ hv' (by simpa using hs)
        simpa [pre, sepd] using this
      · split at h
        · rename_i hc
          simp only [Bool.and_eq_true, beq_iff_eq, Bool.or_eq_true, Bool.not_eq_true'] at hc
          obtain ⟨⟨rfl, hs⟩, hp⟩ := hc
          cases stk with
          | nil => cases h
          | cons s stk =>
            simp only [shut] at h
            unfold lev at hv
            obtain ⟨hv1, hv2, hv3⟩ := hv
            have ht : gd (20 - stk.length) (.tup top) := by
              have : 20 - stk.length = (20 - (stk.length + 1)) + 1 := by simp at hl; omega
              rw [this]; unfold gd; exact hv1
            have hv' : lev (s ++ [.tup top]) stk := by
              cases stk with
              | nil => unfold lev at hv2 ⊢; exact gds_app hv2 (gds1 ht)
              | cons s2 stk2 => unfold lev at hv2 ⊢; exact ⟨gds_app hv2.1 (gds1 ht), hv2.2⟩
            have := ih h ⟨fun e => ⟨(fun z => by cases z), fun _ => ⟨_, by rw [hv3 e]; rfl⟩⟩, (fun _ => by simp), (fun e => by cases e)⟩ hv' (by simp at hl; omega)
            refine ⟨?_, this.2⟩
            rw [← this.1]
            have e1 : (if fresh = true then sepd top else wrs top) = wrs top := by
              cases fresh with
              | false => rfl
              | true =>
                have hpo : po = true := by simpa using hp
                rw [(hg.2.2 hpo).1]
                simp [sepd, wrs]
            rw [e1]
            simp only [Bool.false_eq_true, if_false]
            rw [wrs_snoc]
            rw [pre]
            rw [show wr (.tup top) = 40 :: (wrs top ++ [41]) from by unfold wr; rfl]
            simp
        · split at h
          · rename_i hc
            simp only [Bool.and_eq_true, beq_iff_eq, Bool.not_eq_true'] at hc
            obtain ⟨⟨⟨hf, hs⟩, rfl⟩, hr⟩ := hc
            subst hf
            cases r with
            | nil => cases hr
            | cons c r =>
              simp only [List.head?_cons, Option.some.injEq] at hr
              subst hr
              have hne := hg.2.1 rfl
              have := ih h ⟨fun e => by subst e; simp at hs, (fun e => by cases e), (fun e => by cases e)⟩ hv hl
              refine ⟨?_, this.2⟩
              rw [← this.1]
              simp only [if_true, Bool.false_eq_true, if_false, List.tail_cons]
              unfold sepd
              rw [if_neg hne]
              simp
          · split at h
            · rename_i hc
              simp only [Bool.and_eq_true, bne_iff_ne, ne_eq] at hc
              obtain ⟨hf, hc⟩ := hc
              subst hf
              cases e : rp (c :: r) with
              | none => rw [e] at h; cases h
              | some p =>
                obtain ⟨x, r'⟩ := p
                rw [e] at h
                obtain ⟨e1, e2, e3⟩ := rp_snd e
                have hv' : lev (top ++ [x]) stk := by
                  cases stk with
                  | nil => unfold lev at hv ⊢; exact gds_app hv (gds1 (gd_le e2 (Nat.zero_le _)))
                  | cons s2 stk2 => unfold lev at hv ⊢; exact ⟨gds_app hv.1 (gds1 (gd_le e2 (Nat.zero_le _))), hv.2⟩
                have := ih h ⟨fun z => ⟨(fun z => by cases z), fun _ => ⟨_, by rw [(hg.1 z).1 rfl]; rfl⟩⟩, (fun _ => by simp), (fun e => by cases e)⟩ hv' hl
                refine ⟨?_, this.2⟩
                rw [← this.1, e1]
                simp only [if_true, Bool.false_eq_true, if_false]
                rw [wrs_snoc]
                simp
            · cases h
theorem rd_snd {l : List Nat} {d : D} (h : rd l = some d) : wr d = l ∧ gd 20 d := by
  have := go_snd _ h ⟨fun _ => ⟨fun _ => rfl, fun e => by cases e⟩, (fun e => by cases e), (fun e => by cases e)⟩ (by unfold lev gds; trivial) (by simp)
  exact ⟨by rw [← this.1]; simp [pre, sepd], this.2⟩
/-! ### what is written is read -/
theorem tw_app {p : Nat → Bool} : ∀ {a b : List Nat}, a.all p = true → (∀ c, b.head? = some c → p c = false) → (a ++ b).takeWhile p = a ∧ (a ++ b).dropWhile p = b
  | [], b, _, h => by
    cases b with
    | nil => exact ⟨rfl, rfl⟩
    | cons c b =>
      have := h c rfl
      simp [this]
  | x :: a, b, ha, h => by
    simp only [List.all_cons, Bool.and_eq_true] at ha
    have := tw_app ha.2 h
    simp [ha.1, this.1, this.2]
theorem decL_sgn (i : Int) : (decL i).all sgn = true := by
  rw [List.all_eq_true]
  intro c hc
  rcases decL_cases i with ⟨r, e, h1, _⟩ | ⟨h1, _⟩
  · rw [e] at hc
    rcases List.mem_cons.mp hc with rfl | hc
    · rfl
    · have := h1 c hc; simp [sgn, this.1, this.2]
  · have := h1 c hc; simp [sgn, this.1, this.2]
theorem decL_head (i : Int) : ∃ c r, decL i = c :: r ∧ sgn c = true := by
  have h := decL_sgn i
  cases e : decL i with
  | nil => exact absurd e (decL_ne i)
  | cons c r => rw [e] at h; simp at h; exact ⟨c, r, rfl, h.1⟩
/-- what may stand behind an item -/
def dlm (rest : List Nat) : Prop := ∀ c, rest.head? = some c → c = 44 ∨ c = 41
theorem rp_int (i : Int) {rest : List Nat} (h : dlm rest) : rp (decL i ++ rest) = some (.int i, rest) := by
  obtain ⟨c, r, e, hc⟩ := decL_head i
  have := tw_app (p := sgn) (decL_sgn i) (b := rest) fun c hc => by rcases h c hc with rfl | rfl <;> rfl
  unfold rp
  rw [if_neg, this.1, this.2, readI_dec]
  rw [e]
  intro z
  simp at z
  subst z
  cases hc
theorem rp_str (x : Str) (hx : x.cps.toList.all plc = true) (rest : List Nat) : rp (39 :: (x.cps.toList ++ 39 :: rest)) = some (.str x, rest) := by
  have := tw_app (p := notQ) (a := x.cps.toList) (b := 39 :: rest) (by
    rw [List.all_eq_true] at hx ⊢
    intro c hc
    have := hx c hc
    simp [plc] at this
    simp [notQ, this]) (fun c hc => by cases hc; rfl)
  unfold rp
  rw [if_pos (by rfl), List.tail_cons, this.1, this.2]
  simp only
  rw [hx]
  exact congrArg (fun z => some (z, rest)) (tx_str x).symm
theorem wr_head {k : Nat} : ∀ {d : D}, gd k d → (∀ ds, d ≠ .tup ds) → ∃ c r, wr d = c :: r ∧ c ≠ 40 ∧ c ≠ 41 ∧ ∀ rest, dlm rest → rp (wr d ++ rest) = some (d, rest) := by
  intro d h ht
  cases d with
  | int i =>
    obtain ⟨c, r, e, hc⟩ := decL_head i
    refine ⟨c, r, by unfold wr; exact e, ?_, ?_, fun rest hr => by unfold wr; exact rp_int i hr⟩ <;> (intro z; subst z; cases hc)
  | str x =>
    unfold gd at h
    refine ⟨39, _, by unfold wr; rfl, by decide, by decide, fun rest hr => ?_⟩
    unfold wr
    have := rp_str x h rest
    simpa using this
  | tup ds => exact absurd rfl (ht ds)
  | _ => cases k <;> exact h.elim
mutual
theorem go_item : ∀ (d : D) {k : Nat}, gd k d → ∀ {stk : List (List D)}, stk.length + k ≤ 20 → ∀ (n : Nat) (top : List D) (po : Bool) (rest : List Nat), dlm rest → (wr d ++ rest).length < n →
    ∃ m, rest.length < m ∧ go n top stk true po (wr d ++ rest) = go m (top ++ [d]) stk false false rest
  | .tup ds, k, h, stk, hs, n, top, po, rest, hr, hn => by
    cases k with
    | zero => exact h.elim
    | succ k =>
      unfold gd at h
      cases n with
      | zero => simp at hn
      | succ n =>
        have e1 : wr (.tup ds) ++ rest = 40 :: (wrs ds ++ 41 :: rest) := by unfold wr; simp
        rw [e1] at hn ⊢
        obtain ⟨m, hm, e⟩ := go_list ds h (stk := top :: stk) (by simp; omega) (by simp) n rest (by simp at hn ⊢; omega)
        refine ⟨m, hm, ?_⟩
        have e2 : go (n + 1) top stk true po (40 :: (wrs ds ++ 41 :: rest)) = go n [] (top :: stk) true true (wrs ds ++ 41 :: rest) := by
          rw [go_cons, if_pos (by simp; omega)]
        rw [e2, e]
  | .int i, k, h, stk, hs, n, top, po, rest, hr, hn => by
    obtain ⟨c, r, e, h1, h2, h3⟩ := wr_head h (by intro ds z; cases z)
    exact go_plain h1 h2 (h3 rest hr) e hn
  | .str x, k, h, stk, hs, n, top, po, rest, hr, hn => by
    obtain ⟨c, r, e, h1, h2, h3⟩ := wr_head h (by intro ds z; cases z)
    exact go_plain h1 h2 (h3 rest hr) e hn
  | .non, k, h, _, _, _, _, _, _, _, _ => by cases k <;> exact h.elim
  | .bl _, k, h, _, _, _, _, _, _, _, _ => by cases k <;> exact h.elim
  | .ref _, k, h, _, _, _, _, _, _, _, _ => by cases k <;> exact h.elim
  | .fl _, k, h, _, _, _, _, _, _, _, _ => by cases k <;> exact h.elim
  | .sl _, k, h, _, _, _, _, _, _, _, _ => by cases k <;> exact h.elim
  | .tl _, k, h, _, _, _, _, _, _, _, _ => by cases k <;> exact h.elim
  | .fd _ _, k, h, _, _, _, _, _, _, _, _ => by cases k <;> exact h.elim
  | .td _ _, k, h, _, _, _, _, _, _, _, _ => by cases k <;> exact h.elim
  | .con _, k, h, _, _, _, _, _, _, _, _ => by cases k <;> exact h.elim
  | .ty _, k, h, _, _, _, _, _, _, _, _ => by cases k <;> exact h.elim
theorem go_list : ∀ (ds : List D) {k : Nat}, gds k ds → ∀ {stk : List (List D)}, stk.length + k ≤ 20 → stk ≠ [] → ∀ (n : Nat) (rest : List Nat), (wrs ds ++ 41 :: rest).length < n →
    ∃ m, rest.length < m ∧ go n [] stk true true (wrs ds ++ 41 :: rest) = match stk with | s :: stk' => go m (s ++ [.tup ds]) stk' false false rest | [] => none
  | [], k, h, stk, hs, h0, n, rest, hn => by
    cases n with
    | zero => simp at hn
    | succ n =>
      refine ⟨n, by simp [wrs] at hn; omega, ?_⟩
      cases stk with
      | nil => exact absurd rfl h0
      | cons s stk =>
        have : wrs [] ++ 41 :: rest = 41 :: rest := by simp [wrs]
        rw [this]
        rfl
  | d :: ds, k, h, stk, hs, h0, n, rest, hn => by
    unfold gds at h
    have e1 : wrs (d :: ds) ++ 41 :: rest = wr d ++ (wrt ds ++ 41 :: rest) := by unfold wrs; simp
    rw [e1] at hn ⊢
    have hd : dlm (wrt ds ++ 41 :: rest) := by
      intro c hc
      cases ds with
      | nil => simp [wrt] at hc; exact .inr hc.symm
      | cons x ds => simp [wrt] at hc; exact .inl hc.symm
    obtain ⟨m, hm, e⟩ := go_item d h.1 hs n [] true _ hd hn
    obtain ⟨m2, hm2, e2⟩ := go_tail ds h.2 hs h0 m rest [d] hm
    refine ⟨m2, hm2, ?_⟩
    rw [e, List.nil_append, e2]
    rfl
theorem go_tail : ∀ (ds : List D) {k : Nat}, gds k ds → ∀ {stk : List (List D)}, stk.length + k ≤ 20 → stk ≠ [] → ∀ (n : Nat) (rest : List Nat) (top : List D), (wrt ds ++ 41 :: rest).length < n →
    ∃ m, rest.length < m ∧ go n top stk false false (wrt ds ++ 41 :: rest) = match stk with | s :: stk' => go m (s ++ [.tup (top ++ ds)]) stk' false false rest | [] => none
  | [], k, h, stk, hs, h0, n, rest, top, hn => by
    cases n with
    | zero => simp at hn
    | succ n =>
      refine ⟨n, by simp [wrt] at hn; omega, ?_⟩
      cases stk with
      | nil => exact absurd rfl h0
      | cons s stk =>
        have : wrt [] ++ 41 :: rest = 41 :: rest := by simp [wrt]
        rw [this, List.append_nil]
        rfl
  | d :: ds, k, h, stk, hs, h0, n, rest, top, hn => by
    unfold gds at h
    cases n with
    | zero => simp at hn
    | succ n =>
      have e1 : wrt (d :: ds) ++ 41 :: rest = 44 :: 32 :: (wr d ++ (wrt ds ++ 41 :: rest)) := by rw [wrt]; simp
      rw [e1] at hn ⊢
      have hd : dlm (wrt ds ++ 41 :: rest) := by
        intro c hc
        cases ds with
        | nil => simp [wrt] at hc; exact .inr hc.symm
        | cons x ds => simp [wrt] at hc; exact .inl hc.symm
      have e2 : go (n + 1) top stk false false (44 :: 32 :: (wr d ++ (wrt ds ++ 41 :: rest))) = go n top stk true false (wr d ++ (wrt ds ++ 41 :: rest)) := by
        cases stk with
        | nil => exact absurd rfl h0
        | cons s stk => rfl
      obtain ⟨m, hm, e⟩ := go_item d h.1 hs n top false _ hd (by simp at hn ⊢; omega)
      obtain ⟨m2, hm2, e3⟩ := go_tail ds h.2 hs h0 m rest (top ++ [d]) hm
      refine ⟨m2, hm2, ?_⟩
      rw [e2, e, e3, List.append_assoc]
      rfl
theorem go_plain {d : D} {c : Nat} {r rest : List Nat} {n : Nat} {top : List D} {stk : List (List D)} {po : Bool} (h1 : c ≠ 40) (h2 : c ≠ 41) (h3 : rp (wr d ++ rest) = some (d, rest)) (e : wr d = c :: r) (hn : (wr d ++ rest).length < n) :
    ∃ m, rest.length < m ∧ go n top stk true po (wr d ++ rest) = go m (top ++ [d]) stk false false rest := by
  cases n with
  | zero => simp at hn
  | succ n =>
    rw [e] at hn h3 ⊢
    refine ⟨n, by simp at hn; omega, ?_⟩
    rw [List.cons_append] at h3 ⊢
    have : go (n + 1) top stk true po (c :: (r ++ rest)) = match rp (c :: (r ++ rest)) with
      | some (d, r') => go n (top ++ [d]) stk false false r'
      | none => none := by
      have q1 : (true && c == 40 && decide (stk.length + 1 ≤ 20)) = false := by simp [h1]
      have q2 : (c == 41 && !stk.isEmpty && (!true || po)) = false := by simp [h2]
      have q4 : (true && c != 40) = true := by simp [h1]
      rw [go_cons, q1, q2, q4]
      simp
    rw [this, h3]
end
theorem rd_wr {d : D} (h : gd 20 d) : rd (wr d) = some d := by
  obtain ⟨m, hm, e⟩ := go_item d h (stk := []) (by simp) ((wr d).length + 1) [] false [] (fun c hc => by cases hc) (by simp)
  unfold rd
  rw [List.append_nil] at e
  rw [e]
  cases m with
  | zero => simp at hm
  | succ m => rfl
theorem rd_no {l : List Nat} (h : ∀ d, gd 20 d → l ≠ wr d) : rd l = none := by
  cases e : rd l with
  | none => rfl
  | some d => obtain ⟨h1, h2⟩ := rd_snd e; exact absurd h1.symm (h d h2)
/-! ### runs of digits -/
def RunLe (B : Nat) (l : List Nat) : Prop := ∀ a b c, l = a ++ b ++ c → NumText.AllDigits b → b.length ≤ B
theorem RunLe.mono {B B' : Nat} {l : List Nat} (h : RunLe B l) (hb : B ≤ B') : RunLe B' l := fun a b c e hd => Nat.le_trans (h a b c e hd) hb
theorem RunLe.len (l : List Nat) : RunLe l.length l := fun a b c e _ => by rw [e]; simp; omega
theorem RunLe.app {A B : Nat} {l m : List Nat} (h1 : RunLe A l) (h2 : RunLe B m) : RunLe (A + B) (l ++ m) := by
  intro a b c e hd
  rw [List.append_assoc] at e
  rcases List.append_eq_append_iff.mp e with ⟨a', e1, e2⟩ | ⟨c', e1, e2⟩
  · -- a = l ++ a'
    have := h2 a' b c (by rw [e2, List.append_assoc]) hd
    omega
  · -- l = a ++ c', b ++ c = c' ++ m
    rcases List.append_eq_append_iff.mp e2 with ⟨b', e3, e4⟩ | ⟨c2, e3, e4⟩
    · -- c' = b ++ b'
      have := h1 a b b' (by rw [e1, e3, List.append_assoc]) hd
      omega
    · -- b = c' ++ c2
      have q1 := h1 a c' [] (by rw [e1]; simp) fun x hx => hd x (by rw [e3]; simp [hx])
      have q2 := h2 [] c2 c (by rw [e4]; simp) fun x hx => hd x (by rw [e3]; simp [hx])
      rw [e3, List.length_append]
      omega
theorem RunLe.sub {B : Nat} {l p m s : List Nat} (h : RunLe B l) (e : l = p ++ m ++ s) : RunLe B m := fun a b c e2 hd => h (p ++ a) b (c ++ s) (by rw [e, e2]; simp) hd
theorem RunLe.take {B : Nat} {l : List Nat} (h : RunLe B l) (n : Nat) : RunLe B (l.take n) := h.sub (p := []) (s := l.drop n) (by simp)
theorem RunLe.drop {B : Nat} {l : List Nat} (h : RunLe B l) (n : Nat) : RunLe B (l.drop n) := h.sub (p := l.take n) (s := []) (by simp)
/-- a sign that is no digit parts the runs -/
theorem RunLe.sep {B : Nat} {l m : List Nat} {c : Nat} (hc : c < 48 ∨ 57 < c) (h1 : RunLe B l) (h2 : RunLe B m) : RunLe B (l ++ c :: m) := by
  intro a b d e hd
  have hb : c ∉ b := fun h => by have := hd c h; omega
  rw [List.append_assoc] at e
  rcases List.append_eq_append_iff.mp e with ⟨a', e1, e2⟩ | ⟨c', e1, e2⟩
  · cases a' with
    | nil =>
      cases b with
      | nil => simp
      | cons x b => simp at e2; exact absurd (by rw [e2.1]; simp) hb
    | cons x a' =>
      simp at e2
      exact h2 a' b d (by rw [e2.2, List.append_assoc]) hd
  · rcases List.append_eq_append_iff.mp e2 with ⟨b', e3, e4⟩ | ⟨c2, e3, e4⟩
    · exact h1 a b b' (by rw [e1, e3, List.append_assoc]) hd
    · cases c2 with
      | nil =>
        rw [List.append_nil] at e3
        exact h1 a b [] (by rw [e1, e3]; simp) hd
      | cons x c2 =>
        simp at e4
        exact absurd (by rw [e3, e4.1]; simp) hb
mutual
/-- the ints of data -/
def intsOk (B : Nat) : D → Prop
  | .int i => (TL.numL i.natAbs).length ≤ B
  | .tup ds => intsOks B ds
  | _ => True
def intsOks (B : Nat) : List D → Prop
  | [] => True
  | d :: r => intsOk B d ∧ intsOks B r
end
mutual
theorem run_ints {B : Nat} : ∀ (d : D) (p s : List Nat), RunLe B (p ++ wr d ++ s) → intsOk B d
  | .int i, p, s, h => by
    unfold intsOk
    unfold wr decL at h
    split at h
    · exact h (p ++ [45]) (TL.numL i.natAbs) s (by simp) (TL.numL_digits _)
    · exact h p (TL.numL i.natAbs) s rfl (TL.numL_digits _)
  | .tup ds, p, s, h => by
    unfold intsOk
    unfold wr at h
    exact runs_ints ds (p ++ [40]) ([41] ++ s) (by simpa using h)
  | .str _, _, _, _ => by unfold intsOk; trivial
  | .non, _, _, _ => by unfold intsOk; trivial
  | .bl _, _, _, _ => by unfold intsOk; trivial
  | .ref _, _, _, _ => by unfold intsOk; trivial
  | .fl _, _, _, _ => by unfold intsOk; trivial
  | .sl _, _, _, _ => by unfold intsOk; trivial
  | .tl _, _, _, _ => by unfold intsOk; trivial
  | .fd _ _, _, _, _ => by unfold intsOk; trivial
  | .td _ _, _, _, _ => by unfold intsOk; trivial
  | .con _, _, _, _ => by unfold intsOk; trivial
  | .ty _, _, _, _ => by unfold intsOk; trivial
theorem runs_ints {B : Nat} : ∀ (ds : List D) (p s : List Nat), RunLe B (p ++ wrs ds ++ s) → intsOks B ds
  | [], _, _, _ => by unfold intsOks; trivial
  | d :: r, p, s, h => by
    unfold intsOks
    unfold wrs at h
    refine ⟨run_ints d p (wrt r ++ s) (by simpa using h), runt_ints r (p ++ wr d) s (by simpa using h)⟩
theorem runt_ints {B : Nat} : ∀ (ds : List D) (p s : List Nat), RunLe B (p ++ wrt ds ++ s) → intsOks B ds
  | [], _, _, _ => by unfold intsOks; trivial
  | d :: r, p, s, h => by
    unfold intsOks
    unfold wrt at h
    refine ⟨run_ints d (p ++ [44, 32]) (wrt r ++ s) (by simpa using h), runt_ints r (p ++ ([44, 32] ++ wr d)) s (by simpa using h)⟩
end
mutual
/-- small parts -/
def smOk (B : Nat) : D → Prop
  | .int i => (TL.numL i.natAbs).length ≤ B
  | .str x => x.length ≤ B
  | .tup ds => smOks B ds
  | _ => False
def smOks (B : Nat) : List D → Prop
  | [] => True
  | d :: r => smOk B d ∧ smOks B r
end
theorem RunLe.cons {B : Nat} {m : List Nat} {c : Nat} (hc : c < 48 ∨ 57 < c) (h2 : RunLe B m) : RunLe B (c :: m) := RunLe.sep (l := []) hc (fun a b c e _ => by
  have := congrArg List.length e
  simp at this
  omega) h2
theorem RunLe.snoc {B : Nat} {m : List Nat} {c : Nat} (hc : c < 48 ∨ 57 < c) (h2 : RunLe B m) : RunLe B (m ++ [c]) := RunLe.sep (m := []) hc h2 (fun a b c e _ => by
  have := congrArg List.length e
  simp at this
  omega)
theorem RunLe.nil {B : Nat} : RunLe B [] := fun a b c e _ => by
  have := congrArg List.length e
  simp at this
  omega
mutual
theorem run_wr {B : Nat} : ∀ (d : D), smOk B d → RunLe B (wr d)
  | .int i, h => by
    unfold smOk at h
    unfold wr decL
    split
    · exact .cons (by decide) ((RunLe.len _).mono h)
    · exact (RunLe.len _).mono h
  | .str x, h => by
    unfold smOk at h
    unfold wr
    refine .cons (by decide) (.snoc (by decide) ((RunLe.len _).mono ?_))
    simpa [Str.length] using h
  | .tup ds, h => by
    unfold smOk at h
    rw [wr]
    exact .cons (by decide) (run_wrs ds h)
  | .non, h => h.elim
  | .bl _, h => h.elim
  | .ref _, h => h.elim
  | .fl _, h => h.elim
  | .sl _, h => h.elim
  | .tl _, h => h.elim
  | .fd _ _, h => h.elim
  | .td _ _, h => h.elim
  | .con _, h => h.elim
  | .ty _, h => h.elim
theorem run_wrs {B : Nat} : ∀ (ds : List D), smOks B ds → RunLe B (wrs ds ++ [41])
  | [], _ => by rw [wrs]; exact .cons (by decide) .nil
  | d :: r, h => by
    unfold smOks at h
    rw [wrs, List.append_assoc]
    exact run_wrt r h.2 _ (run_wr d h.1)
theorem run_wrt {B : Nat} : ∀ (r : List D), smOks B r → ∀ m : List Nat, RunLe B m → RunLe B (m ++ (wrt r ++ [41]))
  | [], _, m, hm => by rw [wrt]; exact .sep (by decide) hm .nil
  | e :: r, h, m, hm => by
    unfold smOks at h
    rw [wrt, List.cons_append, List.cons_append, List.append_assoc]
    exact .sep (by decide) hm (.cons (by decide) (run_wrt r h.2 _ (run_wr e h.1)))
end
end K64

/-! K64B: the promises. -/
namespace K64
open PySem L2 DW TX
structure Sx where
  s : List Int
  a : Int
  b : Int
  c : Int
/-- the law's state, the first cell -/
def dst (x : Sx) : MO := .lst [.fl (x.s.map .int), .int x.a, .int x.b, .int x.c]
/-! ### the program -/
def spr_write_integer : Nat → DSp
  | 0 => fun _ _ _ _ => False
  | k + 1 => fun ds st _ Q => ∃ n, ds = [.int n] ∧ (k = 0 → 0 ≤ n) ∧ (TL.numL n.natAbs).length ≤ 600 ∧ Q (tx (decL n)) st
theorem no_write_integer : ∀ ds st Ed Q, ¬ spr_write_integer 0 ds st Ed Q := fun _ _ _ _ h => h
abbrev sp_write_integer : DSp := spr_write_integer 2
def sp_read_integer (k_BadText : Addr) : DSp := fun ds st Ed Q => ∃ l, ds = [tx l] ∧ l.length ≤ 100000 ∧ (∀ n, readI l = some n → Q (.int n) st) ∧ (readI l = none → Ed k_BadText st)
def sp_wd (B k : Nat) : DSp := fun ds st _ Q => ∃ d, ds = [d] ∧ gd k d ∧ intsOk B d ∧ (wr d).length ≤ 100000 ∧ Q (tx (wr d)) st
def spr_write_data : Nat → DSp
  | 0 => fun _ _ _ _ => False
  | k + 1 => sp_wd 600 k
theorem no_write_data : ∀ ds st Ed Q, ¬ spr_write_data 0 ds st Ed Q := fun _ _ _ _ h => h
abbrev sp_write_data : DSp := spr_write_data 25
def sp_plain_text : DSp := fun ds st _ Q => ∃ l, ds = [tx l] ∧ l.length ≤ 100000 ∧ Q (.bl (l.all plc)) st
def sp_read_plain (k_BadText : Addr) : DSp := fun ds st Ed Q => ∃ (l : List Nat) (i : Nat), ds = [tx l, .int i] ∧ l.length ≤ 100000 ∧ i < l.length ∧ (∀ d r, rp (l.drop i) = some (d, r) → Q (.tup [d, .int ((l.length - r.length : Nat) : Int)]) st) ∧ (rp (l.drop i) = none → Ed k_BadText st)
def sp_read_data (k_BadText : Addr) : DSp := fun ds st Ed Q => ∃ l, ds = [tx l] ∧ l.length ≤ 100000 ∧ (∀ d, rd l = some d → Q d st) ∧ (rd l = none → Ed k_BadText st)
/-! ### the law's own -/
def sp_law_start : DSp := fun ds st _ Q => ∃ s : List Int, ds = [.sl (s.map .int)] ∧ Q (.tl [.fl (s.map .int), .int 0, .int 0, .int 0]) st
def sp_law_draw : DSp := fun ds st _ Q => ∃ x m rest, ds = [.ref 0, .int m] ∧ st = dst x :: rest ∧ 0 < m ∧ m.natAbs.log2 < 9000 ∧ ∀ r x', 0 ≤ r → r < m → Q (.int r) (dst x' :: rest)
def sp_law_one_of : DSp := fun ds st _ Q => ∃ x items rest, ds = [.ref 0, .fl items] ∧ st = dst x :: rest ∧ items ≠ [] ∧ items.length < 1000 ∧ cls 1 items = true ∧ ∀ d x', d ∈ items → Q d (dst x' :: rest)
def sp_law_is_int : DSp := fun ds st _ Q => ∃ d t, ds = [d] ∧ typN st d = some t ∧ Q (.bl (t == "int")) st
mutual
/-- plain data, at most k deep -/
def dat : Nat → D → Prop
  | _, .int _ => True
  | _, .str _ => True
  | k + 1, .tup ds => ds.length < 1000000 ∧ dats k ds
  | _, _ => False
def dats : Nat → List D → Prop
  | _, [] => True
  | k, d :: ds => dat k d ∧ dats k ds
end
/-- the same data are the same -/
def sp_same (k : Nat) : DSp := fun ds st _ Q => ∃ d, ds = [d, d] ∧ dat k d ∧ Q (.bl true) st
def spr_law_same : Nat → DSp
  | 0 => fun _ _ _ _ => False
  | k + 1 => sp_same k
theorem no_law_same : ∀ ds st Ed Q, ¬ spr_law_same 0 ds st Ed Q := fun _ _ _ _ h => h
abbrev sp_law_same : DSp := spr_law_same 25
def sp_law_digits : DSp := fun ds st _ Q => ∃ n, ds = [.int n] ∧ (TL.numL n.natAbs).length ≤ 300 ∧ Q (tx (decL n)) st
def spr_law_written : Nat → DSp
  | 0 => fun _ _ _ _ => False
  | k + 1 => sp_wd 300 k
theorem no_law_written : ∀ ds st Ed Q, ¬ spr_law_written 0 ds st Ed Q := fun _ _ _ _ h => h
abbrev sp_law_written : DSp := spr_law_written 25
def sp_law_some_text : DSp := fun ds st _ Q => ∃ x rest, ds = [.ref 0] ∧ st = dst x :: rest ∧ ∀ l x', l.length ≤ 5 → l.all plc = true → Q (tx l) (dst x' :: rest)
def sp_law_some_integer : DSp := fun ds st _ Q => ∃ x rest, ds = [.ref 0] ∧ st = dst x :: rest ∧ ∀ n x', n.natAbs < 10 ^ 40 → Q (.int n) (dst x' :: rest)
def wl : Nat → Nat
  | 0 => 41
  | k + 1 => 3 * wl k + 6
def spr_law_some_datum : Nat → DSp
  | 0 => fun _ _ _ _ => False
  | k + 1 => fun ds st _ Q => ∃ x j rest, ds = [.ref 0, .int (j : Nat)] ∧ st = dst x :: rest ∧ j ≤ k ∧ j ≤ 4 ∧ ∀ d x', gd j d → smOk 40 d → (wr d).length ≤ wl j → Q d (dst x' :: rest)
theorem no_law_some_datum : ∀ ds st Ed Q, ¬ spr_law_some_datum 0 ds st Ed Q := fun _ _ _ _ h => h
abbrev sp_law_some_datum : DSp := spr_law_some_datum 6
def optI : Option Int → List D
  | some n => [.int n]
  | none => []
def sp_law_read (f_read_data f_read_integer k_BadText k_MeanwithinError : Addr) : DSp := fun ds st _ Q => ∃ l, l.length ≤ 100000 ∧ ((ds = [.con f_read_integer, tx l] ∧ Q (.tup (optI (readI l))) st) ∨ (ds = [.con f_read_data, tx l] ∧ Q (.tup (rd l).toList) st))
def Bent (l b : List Nat) : Prop := b.length ≤ 2 * l.length + 2 ∧ ∀ B, RunLe B l → RunLe (2 * B + 2) b
def sp_law_changed : DSp := fun ds st _ Q => ∃ x rest l, ds = [.ref 0, tx l] ∧ st = dst x :: rest ∧ l.length ≤ 10000 ∧ ∀ (bs : List (List Nat)) x', (∀ b ∈ bs, Bent l b) → bs.length ≤ 100 → Q (.fl (bs.map tx)) (dst x' :: rest)
def sp_law_deep_fits (f_read_data f_read_integer k_BadText k_MeanwithinError : Addr) : DSp := fun ds st _ Q => ds = [] ∧ Q (.bl true) st
def sp_law : DSp := fun ds st _ Q => ∃ s : List Int, ds = [.sl (s.map .int)] ∧ st = [] ∧ ∀ st', Q (.bl true) st'
end K64


namespace K64
open PySem PySem.Spec PyProof.Rows L2 DW
def d_write_integer (self : DSp) : DS :=
    (sSeq (sIf (dBool (dOp opLt (dVar 0) (dC (.int 0)))) (sRet (dOp opAdd (dC (.str "-")) (dCall self (dCons false (dNeg (dVar 0)) dNil)))) sNext)
    (sSeq (sAsg true 1 (dLst dNil))
    (sSeq (sWhile (dBool (dOp opGe (dVar 0) (dC v_BASE))) (sSeq (sAsgT (.tp [(.nm 0), (.nm 2)]) (dCB opDivmodW (dCons false (dVar 0) (dCons false (dC v_BASE) dNil))))
    (sExpr (dBM "list" opAppend (dVar 1) (dCons false (dBM "str" (opS gZfill) (dCB opStrI (dCons false (dVar 2) dNil)) (dCons false (dC (.int 64)) dNil)) dNil)))))
    (sSeq (sExpr (dBM "list" opAppend (dVar 1) (dCons false (dCB opStrI (dCons false (dVar 0) dNil)) dNil)))
    (sRet (dBM "str" opJoin (dC (.str "")) (dCons false (dRev (dVar 1)) dNil)))))))
def d_read_integer (k_BadText : Addr) : DS :=
    (sSeq (sAsg false 1 (dVar 0))
    (sSeq (sIf (dBool (dOp opEq (dSl (dVar 0) oNone (oSome (dC (.int 1)))) (dC (.str "-")))) (sAsg false 1 (dSl (dVar 0) (oSome (dC (.int 1))) oNone)) sNext)
    (sSeq (sIf (dOr (dBool (dOp opEq (dVar 1) (dC (.str "")))) (dAnd (dBool (dOp opEq (dOp opIx (dVar 1) (dC (.int 0))) (dC (.str "0")))) (dBool (dOp opNe (dVar 0) (dC (.str "0")))))) (sRaise k_BadText) sNext)
    (sSeq (sFor (.nm 2) (iSeq (dVar 1)) (sIf (dBool (dOp opNotIn (dVar 2) (dC v_DIGITS))) (sRaise k_BadText) sNext))
    (sSeq (sAsg false 3 (dOp (opJ (fun _ j => j ≠ 0) fun i j => .int (i.fmod j)) (dCB opLen (dCons false (dVar 1) dNil)) (dC (.int 64))))
    (sSeq (sAsg false 4 (dC (.int 0)))
    (sSeq (sIf (dBool (dOp opGt (dVar 3) (dC (.int 0)))) (sAsg false 4 (dCB opInt (dCons false (dSl (dVar 1) oNone (oSome (dVar 3))) dNil))) sNext)
    (sSeq (sFor (.nm 5) (dRng3 (dCons false (dVar 3) (dCons false (dCB opLen (dCons false (dVar 1) dNil)) (dCons false (dC (.int 64)) dNil)))) (sAsg false 4 (dOp opAdd (dOp opMul2 (dVar 4) (dC v_BASE)) (dCB opInt (dCons false (dSl (dVar 1) (oSome (dVar 5)) (oSome (dOp opAdd (dVar 5) (dC (.int 64))))) dNil)))))
    (sSeq (sIf (dBool (dOp opEq (dOp opIx (dVar 0) (dC (.int 0))) (dC (.str "-")))) (sRet (dNeg (dVar 4))) sNext)
    (sRet (dVar 4)))))))))))
def d_write_data (self : DSp) : DS :=
    (sSeq (sIf (dTruth (dCB opIsi (dCons false (dVar 0) (dCons false (dC (.ty "tuple")) dNil)))) (sRet (dOp opAdd (dOp opAdd (dC (.str "(")) (dBM "str" opJoin (dC (.str ", ")) (dCons false (dLc [1] (.nm 1) (iSeq (dVar 0)) dYes false (dCall self (dCons false (dVar 1) dNil))) dNil))) (dC (.str ")")))) sNext)
    (sSeq (sIf (dTruth (dCB opIsi (dCons false (dVar 0) (dCons false (dC (.ty "str")) dNil)))) (sRet (dOp opAdd (dOp opAdd (dC (.str "'")) (dVar 0)) (dC (.str "'")))) sNext)
    (sRet (dCall sp_write_integer (dCons false (dVar 0) dNil)))))
def d_plain_text : DS :=
    (sSeq (sFor (.nm 1) (iSeq (dVar 0)) (sIf (dOr (dBool (dOp opLt (dVar 1) (dC (.str " ")))) (dOr (dBool (dOp opGt (dVar 1) (dC (.str "~")))) (dOr (dBool (dOp opEq (dVar 1) (dC (.str "'")))) (dBool (dOp opEq (dCB opOrd (dCons false (dVar 1) dNil)) (dC (.int 37))))))) (sRet (dC (.bl false))) sNext))
    (sRet (dC (.bl true))))
def d_read_plain (k_BadText : Addr) : DS :=
    (sSeq (sIf (dBool (dOp opEq (dOp opIx (dVar 0) (dVar 1)) (dC (.str "'")))) (sSeq (sAsg false 2 (dBM "str" (opS gFind3) (dVar 0) (dCons false (dC (.str "'")) (dCons false (dOp opAdd (dVar 1) (dC (.int 1))) dNil))))
    (sSeq (sIf (dOr (dBool (dOp opLt (dVar 2) (dC (.int 0)))) (dNot (dTruth (dCall sp_plain_text (dCons false (dSl (dVar 0) (oSome (dOp opAdd (dVar 1) (dC (.int 1)))) (oSome (dVar 2))) dNil))))) (sRaise k_BadText) sNext)
    (sRet (dTup (dCons false (dSl (dVar 0) (oSome (dOp opAdd (dVar 1) (dC (.int 1)))) (oSome (dVar 2))) (dCons false (dOp opAdd (dVar 2) (dC (.int 1))) dNil)))))) sNext)
    (sSeq (sAsg false 2 (dVar 1))
    (sSeq (sWhile (dAnd (dBool (dOp opLt (dVar 2) (dCB opLen (dCons false (dVar 0) dNil)))) (dBool (dOp opIn (dOp opIx (dVar 0) (dVar 2)) (dC v_SIGNS)))) (sAug false iop_add 2 (dC (.int 1))))
    (sRet (dTup (dCons false (dCall (sp_read_integer k_BadText) (dCons false (dSl (dVar 0) (oSome (dVar 1)) (oSome (dVar 2))) dNil)) (dCons false (dVar 2) dNil)))))))
def d_read_data (k_BadText : Addr) : DS :=
    (sSeq (sAsg true 1 (dLst (dCons true (dLst dNil) dNil)))
    (sSeq (sAsg false 2 (dC (.int 0)))
    (sSeq (sAsg false 3 (dC (.bl true)))
    (sSeq (sWhile (dBool (dOp opLt (dVar 2) (dCB opLen (dCons false (dVar 0) dNil)))) (sIf (dAnd (dTruth (dVar 3)) (dAnd (dBool (dOp opEq (dOp opIx (dVar 0) (dVar 2)) (dC (.str "(")))) (dBool (dOp opLe (dCB opLen (dCons false (dVar 1) dNil)) (dC v_DEPTH))))) (sSeq (sExpr (dBM "list" opAppend (dVar 1) (dCons true (dLst dNil) dNil)))
    (sAug false iop_add 2 (dC (.int 1)))) (sIf (dAnd (dBool (dOp opEq (dOp opIx (dVar 0) (dVar 2)) (dC (.str ")")))) (dAnd (dBool (dOp opGt (dCB opLen (dCons false (dVar 1) dNil)) (dC (.int 1)))) (dOr (dNot (dTruth (dVar 3))) (dBool (dOp opEq (dOp opIx (dVar 0) (dOp (opJ0 fun i j => .int (i - j)) (dVar 2) (dC (.int 1)))) (dC (.str "("))))))) (sSeq (sAsg false 4 (dCB opTuple (dCons false (dBM "list" opPop (dVar 1) dNil) dNil)))
    (sSeq (sExpr (dBM "list" opAppend (dOp opIx (dVar 1) (dNeg (dC (.int 1)))) (dCons false (dVar 4) dNil)))
    (sSeq (sAug false iop_add 2 (dC (.int 1)))
    (sAsg false 3 (dC (.bl false)))))) (sIf (dAnd (dNot (dTruth (dVar 3))) (dAnd (dBool (dOp opGt (dCB opLen (dCons false (dVar 1) dNil)) (dC (.int 1)))) (dBool (dOp opEq (dSl (dVar 0) (oSome (dVar 2)) (oSome (dOp opAdd (dVar 2) (dC (.int 2))))) (dC (.str ", ")))))) (sSeq (sAug false iop_add 2 (dC (.int 2)))
    (sAsg false 3 (dC (.bl true)))) (sIf (dAnd (dTruth (dVar 3)) (dBool (dOp opNe (dOp opIx (dVar 0) (dVar 2)) (dC (.str "("))))) (sSeq (sAsgT (.tp [(.nm 5), (.nm 2)]) (dCall (sp_read_plain k_BadText) (dCons false (dVar 0) (dCons false (dVar 2) dNil))))
    (sSeq (sExpr (dBM "list" opAppend (dOp opIx (dVar 1) (dNeg (dC (.int 1)))) (dCons false (dVar 5) dNil)))
    (sAsg false 3 (dC (.bl false))))) (sRaise k_BadText))))))
    (sSeq (sIf (dOr (dBool (dOp opNe (dCB opLen (dCons false (dVar 1) dNil)) (dC (.int 1)))) (dBool (dOp opNe (dCB opLen (dCons false (dOp opIx (dVar 1) (dC (.int 0))) dNil)) (dC (.int 1))))) (sRaise k_BadText) sNext)
    (sRet (dOp opIx (dOp opIx (dVar 1) (dC (.int 0))) (dC (.int 0)))))))))
def d_law_start : DS :=
    (sRet (dLst (dCons false (dCB opList (dCons false (dVar 0) dNil)) (dCons false (dC (.int 0)) (dCons false (dC (.int 0)) (dCons false (dC (.int 0)) dNil))))))
def d_law_draw : DS :=
    (sSeq (sSet false (dOp opAdd (dOp opIx (dVar 0) (dC (.int 3))) (dC (.int 1))) (dVar 0) (dC (.int 3)))
    (sSeq (sIf (dBool (dOp opGt (dOp opIx (dVar 0) (dC (.int 2))) (dC (.int 0)))) (sSeq (sAsg false 2 (dOp (opJ (fun _ j => j ≠ 0) fun i j => .int (i.fmod j)) (dCB opInt (dCons false (dOp opIx (dVar 0) (dC (.int 2))) dNil)) (dVar 1)))
    (sSeq (sSet false (dOp (opJ CDivD fun i j => .int (i.fdiv j)) (dOp opIx (dVar 0) (dC (.int 2))) (dVar 1)) (dVar 0) (dC (.int 2)))
    (sRet (dVar 2)))) sNext)
    (sSeq (sAsg false 3 (dC (.int 0)))
    (sSeq (sIf (dBool (dOp opGt (dCB opLen (dCons false (dOp opIx (dVar 0) (dC (.int 0))) dNil)) (dC (.int 0)))) (sAsg false 3 (dCB opAbs (dCons false (dOp opIx (dOp opIx (dVar 0) (dC (.int 0))) (dOp (opJ (fun _ j => j ≠ 0) fun i j => .int (i.fmod j)) (dCB opInt (dCons false (dOp opIx (dVar 0) (dC (.int 1))) dNil)) (dCB opLen (dCons false (dOp opIx (dVar 0) (dC (.int 0))) dNil)))) dNil))) sNext)
    (sSeq (sSet false (dOp opAdd (dOp opIx (dVar 0) (dC (.int 1))) (dC (.int 1))) (dVar 0) (dC (.int 1)))
    (sSeq (sIf (dBool (dOp opGe (dVar 3) (dOp (opJ CPow fun i j => .int (i ^ j.toNat)) (dC (.int 10)) (dC (.int 18))))) (sSeq (sSet false (dOp (opJ CDivD fun i j => .int (i.fdiv j)) (dVar 3) (dVar 1)) (dVar 0) (dC (.int 2)))
    (sRet (dOp (opJ (fun _ j => j ≠ 0) fun i j => .int (i.fmod j)) (dCB opInt (dCons false (dVar 3) dNil)) (dVar 1)))) sNext)
    (sSeq (sAsg false 4 (dOp (opJ (fun _ j => j ≠ 0) fun i j => .int (i.fmod j)) (dCB opInt (dCons false (dOp opAdd (dOp opMul2 (dOp opAdd (dVar 3) (dC (.int 1))) (dC (.int 48271))) (dOp opMul2 (dOp opIx (dVar 0) (dC (.int 3))) (dC (.int 69621)))) dNil)) (dC (.int 2147483647))))
    (sSeq (sAsg false 4 (dOp (opJ (fun _ j => j ≠ 0) fun i j => .int (i.fmod j)) (dCB opInt (dCons false (dOp opAdd (dOp opAdd (dOp opMul2 (dVar 4) (dC (.int 16807))) (dOp (opJ CDivD fun i j => .int (i.fdiv j)) (dVar 3) (dC (.int 97)))) (dOp opIx (dVar 0) (dC (.int 3)))) dNil)) (dC (.int 2147483629))))
    (sRet (dOp (opJ (fun _ j => j ≠ 0) fun i j => .int (i.fmod j)) (dOp (opJ CDivD fun i j => .int (i.fdiv j)) (dVar 4) (dC (.int 11))) (dVar 1)))))))))))
def d_law_one_of : DS :=
    (sRet (dOp opIx (dVar 1) (dCall sp_law_draw (dCons false (dVar 0) (dCons false (dCB opLen (dCons false (dVar 1) dNil)) dNil)))))
def d_law_is_int : DS :=
    (sRet (dAndV (dCB opIsi (dCons false (dVar 0) (dCons false (dC (.ty "int")) dNil))) (dNotV (dCB opIsi (dCons false (dVar 0) (dCons false (dC (.ty "bool")) dNil))))))
def d_law_same (self : DSp) : DS :=
    (sSeq (sIf (dTruth (dCB opIsi (dCons false (dVar 1) (dCons false (dC (.ty "tuple")) dNil)))) (sSeq (sIf (dOr (dNot (dTruth (dCB opIsi (dCons false (dVar 0) (dCons false (dC (.ty "tuple")) dNil))))) (dBool (dOp opNe (dCB opLen (dCons false (dVar 0) dNil)) (dCB opLen (dCons false (dVar 1) dNil))))) (sRet (dC (.bl false))) sNext)
    (sRet (dCB opAll (dCons false (dLc [2] (.nm 2) (iRng1 (dCons false (dCB opLen (dCons false (dVar 1) dNil)) dNil)) dYes false (dCall self (dCons false (dOp opIx (dVar 0) (dVar 2)) (dCons false (dOp opIx (dVar 1) (dVar 2)) dNil)))) dNil)))) sNext)
    (sSeq (sIf (dTruth (dCB opIsi (dCons false (dVar 1) (dCons false (dC (.ty "str")) dNil)))) (sRet (dAndV (dCB opIsi (dCons false (dVar 0) (dCons false (dC (.ty "str")) dNil))) (dOp opEq (dVar 0) (dVar 1)))) sNext)
    (sRet (dAndV (dCall sp_law_is_int (dCons false (dVar 0) dNil)) (dOp opEq (dVar 0) (dVar 1))))))
def d_law_digits : DS :=
    (sSeq (sAsg false 1 (dC (.str "")))
    (sSeq (sAsg false 2 (dCB opAbs (dCons false (dVar 0) dNil)))
    (sSeq (sFor (.nm 3) (iRng1 (dCons false (dC (.int 300)) dNil)) (sSeq (sIf (dOr (dBool (dOp opGt (dVar 2) (dC (.int 0)))) (dBool (dOp opEq (dVar 3) (dC (.int 0))))) (sAsg false 1 (dOp opAdd (dOp opIx (dC (.str "0123456789")) (dOp (opJ (fun _ j => j ≠ 0) fun i j => .int (i.fmod j)) (dCB opInt (dCons false (dVar 2) dNil)) (dC (.int 10)))) (dVar 1))) sNext)
    (sAsg false 2 (dOp (opJ CDivD fun i j => .int (i.fdiv j)) (dVar 2) (dC (.int 10))))))
    (sRet (dOp opAdd (dOp opIx (dLst (dCons false (dC (.str "")) (dCons false (dC (.str "-")) dNil))) (dCB opInt (dCons false (dOp opLt (dVar 0) (dC (.int 0))) dNil))) (dVar 1))))))
def d_law_some_text : DS :=
    (sSeq (sAsg false 1 (dLst (dCons false (dC (.str "a")) (dCons false (dC (.str "z")) (dCons false (dC (.str "A")) (dCons false (dC (.str " ")) (dCons false (dC (.str ",")) (dCons false (dC (.str "(")) (dCons false (dC (.str ")")) (dCons false (dC (.str "-")) (dCons false (dC (.str "0")) (dCons false (dC (.str "7")) (dCons false (dC (.str "~")) (dCons false (dC (.str "\"")) (dCons false (dC (.str "\\")) (dCons false (dC (.str "#")) (dCons false (dC (.str "@")) (dCons false (dC (.str ".")) dNil))))))))))))))))))
    (sRet (dBM "str" opJoin (dC (.str "")) (dCons false (dLc [2] (.nm 2) (iRng1 (dCons false (dCall sp_law_draw (dCons false (dVar 0) (dCons false (dC (.int 6)) dNil))) dNil)) dYes false (dCall sp_law_one_of (dCons false (dVar 0) (dCons false (dVar 1) dNil)))) dNil))))
def d_law_some_integer : DS :=
    (sSeq (sAsg false 1 (dCall sp_law_draw (dCons false (dVar 0) (dCons false (dC (.int 4)) dNil))))
    (sSeq (sIf (dBool (dOp opEq (dVar 1) (dC (.int 0)))) (sRet (dCall sp_law_one_of (dCons false (dVar 0) (dCons false (dLst (dCons false (dC (.int 0)) (dCons false (dC (.int 1)) (dCons false (dNeg (dC (.int 1))) (dCons false (dC (.int 9)) (dCons false (dC (.int 10)) (dCons false (dNeg (dC (.int 10))) (dCons false (dC (.int 99)) (dCons false (dC (.int 100)) dNil))))))))) dNil)))) sNext)
    (sSeq (sIf (dBool (dOp opEq (dVar 1) (dC (.int 1)))) (sRet (dOp opAdd (dOp opMul2 (dOp opMul2 (dOp opAdd (dCall sp_law_draw (dCons false (dVar 0) (dCons false (dOp (opJ CPow fun i j => .int (i ^ j.toNat)) (dC (.int 10)) (dC (.int 9))) dNil))) (dC (.int 1))) (dOp (opJ CPow fun i j => .int (i ^ j.toNat)) (dC (.int 10)) (dC (.int 15)))) (dOp opAdd (dCall sp_law_draw (dCons false (dVar 0) (dCons false (dOp (opJ CPow fun i j => .int (i ^ j.toNat)) (dC (.int 10)) (dC (.int 9))) dNil))) (dC (.int 1)))) (dCall sp_law_draw (dCons false (dVar 0) (dCons false (dC (.int 1000)) dNil))))) sNext)
    (sRet (dOp (opJ0 fun i j => .int (i - j)) (dCall sp_law_draw (dCons false (dVar 0) (dCons false (dC (.int 4001)) dNil))) (dC (.int 2000)))))))
def d_law_some_datum (self : DSp) : DS :=
    (sSeq (sAsg false 2 (dCall sp_law_draw (dCons false (dVar 0) (dCons false (dC (.int 5)) dNil))))
    (sSeq (sIf (dAnd (dBool (dOp opGt (dVar 2) (dC (.int 2)))) (dBool (dOp opGt (dVar 1) (dC (.int 0))))) (sRet (dCB opTuple (dCons false (dLc [3] (.nm 3) (iRng1 (dCons false (dCall sp_law_draw (dCons false (dVar 0) (dCons false (dC (.int 4)) dNil))) dNil)) dYes false (dCall self (dCons false (dVar 0) (dCons false (dOp (opJ0 fun i j => .int (i - j)) (dVar 1) (dC (.int 1))) dNil)))) dNil))) sNext)
    (sSeq (sIf (dBool (dOp opEq (dVar 2) (dC (.int 1)))) (sRet (dCall sp_law_some_text (dCons false (dVar 0) dNil))) sNext)
    (sRet (dCall sp_law_some_integer (dCons false (dVar 0) dNil))))))
def d_law_written (self : DSp) : DS :=
    (sSeq (sIf (dTruth (dCB opIsi (dCons false (dVar 0) (dCons false (dC (.ty "tuple")) dNil)))) (sRet (dOp opAdd (dOp opAdd (dC (.str "(")) (dBM "str" opJoin (dC (.str ", ")) (dCons false (dLc [1] (.nm 1) (iSeq (dVar 0)) dYes false (dCall self (dCons false (dVar 1) dNil))) dNil))) (dC (.str ")")))) sNext)
    (sSeq (sIf (dTruth (dCB opIsi (dCons false (dVar 0) (dCons false (dC (.ty "str")) dNil)))) (sRet (dOp opAdd (dOp opAdd (dC (.str "'")) (dVar 0)) (dC (.str "'")))) sNext)
    (sRet (dCall sp_law_digits (dCons false (dVar 0) dNil)))))
def d_law_read (f_read_data : Addr) (f_read_integer : Addr) (k_BadText : Addr) (k_MeanwithinError : Addr) : DS :=
    (sTryAs [(k_BadText, true)] 2 (sRet (dTup (dCons false (dCall2 0 f_read_integer f_read_data (sp_read_integer k_BadText) (sp_read_data k_BadText) (dCons false (dVar 1) dNil)) dNil))) (fun C a => sOnly (C = k_BadText) (sRet (dOp opIx (dLst (dCons false (dC (.str "none")) (dCons false (dTup dNil) dNil))) (dCB opInt (dCons false (dCB (opIsE a k_MeanwithinError true) (dCons false (dVar 2) (dCons false (dC (.con k_MeanwithinError)) dNil))) dNil))))))
def d_law_changed : DS :=
    (sSeq (sAsg false 2 (dLst (dCons false (dOp opAdd (dVar 1) (dC (.str " "))) (dCons false (dOp opAdd (dC (.str " ")) (dVar 1)) (dCons false (dOp opAdd (dVar 1) (dC (.str ")"))) (dCons false (dOp opAdd (dC (.str "(")) (dVar 1)) (dCons false (dOp opAdd (dVar 1) (dVar 1)) (dCons false (dOp opAdd (dVar 1) (dC (.str ", "))) (dCons false (dC (.str "")) dNil)))))))))
    (sSeq (sFor (.nm 3) (iRng1 (dCons false (dC (.int 12)) dNil)) (sSeq (sAsg false 4 (dCall sp_law_draw (dCons false (dVar 0) (dCons false (dOp opAdd (dCB opLen (dCons false (dVar 1) dNil)) (dC (.int 1))) dNil))))
    (sSeq (sAsg false 5 (dCall sp_law_one_of (dCons false (dVar 0) (dCons false (dLst (dCons false (dC (.str "'")) (dCons false (dC (.str "(")) (dCons false (dC (.str ")")) (dCons false (dC (.str ",")) (dCons false (dC (.str " ")) (dCons false (dC (.str "0")) (dCons false (dC (.str "-")) (dCons false (dC (.str "1")) (dCons false (dC (.str "+")) (dCons false (dC (.str "\n")) (dCons false (dC (.str "_")) dNil)))))))))))) dNil))))
    (sAsg false 2 (dOp opAdd (dVar 2) (dLst (dCons false (dOp opAdd (dSl (dVar 1) oNone (oSome (dVar 4))) (dSl (dVar 1) (oSome (dOp opAdd (dVar 4) (dC (.int 1)))) oNone)) (dCons false (dOp opAdd (dOp opAdd (dSl (dVar 1) oNone (oSome (dVar 4))) (dVar 5)) (dSl (dVar 1) (oSome (dOp opAdd (dVar 4) (dC (.int 1)))) oNone)) (dCons false (dOp opAdd (dOp opAdd (dSl (dVar 1) oNone (oSome (dVar 4))) (dVar 5)) (dSl (dVar 1) (oSome (dVar 4)) oNone)) (dCons false (dOp opAdd (dOp opAdd (dSl (dVar 1) oNone (oSome (dVar 4))) (dSl (dVar 1) (oSome (dVar 4)) (oSome (dOp opAdd (dVar 4) (dC (.int 1)))))) (dSl (dVar 1) (oSome (dVar 4)) oNone)) dNil))))))))))
    (sRet (dVar 2))))
def d_law_deep_fits (f_read_data : Addr) (f_read_integer : Addr) (k_BadText : Addr) (k_MeanwithinError : Addr) : DS :=
    (sSeq (sFor (.tp [(.nm 0), (.nm 1)]) (iSeq (dLst (dCons false (dTup (dCons false (dC (.int 1)) (dCons false (dC (.bl true)) dNil))) (dCons false (dTup (dCons false (dC (.int 20)) (dCons false (dC (.bl true)) dNil))) (dCons false (dTup (dCons false (dC (.int 21)) (dCons false (dC (.bl false)) dNil))) (dCons false (dTup (dCons false (dC (.int 60)) (dCons false (dC (.bl false)) dNil))) dNil)))))) (sFor (.nm 2) (iSeq (dLst (dCons false (dOp opAdd (dOp opMul2 (dC (.str "(")) (dVar 0)) (dOp opMul2 (dC (.str ")")) (dVar 0))) (dCons false (dOp opAdd (dOp opAdd (dOp opMul2 (dC (.str "(")) (dVar 0)) (dC (.str "1, 'a'"))) (dOp opMul2 (dC (.str ")")) (dVar 0))) dNil)))) (sIf (dBool (dOp opNe (dOp opNe (dCall (sp_law_read f_read_data f_read_integer k_BadText k_MeanwithinError) (dCons false (dC (.con f_read_data)) (dCons false (dVar 2) dNil))) (dTup dNil)) (dVar 1))) (sRet (dC (.bl false))) sNext)))
    (sRet (dC (.bl true))))
def d_law (f_read_data : Addr) (f_read_integer : Addr) (k_BadText : Addr) (k_MeanwithinError : Addr) : DS :=
    (sSeq (sAsg true 1 (dCall sp_law_start (dCons false (dVar 0) dNil)))
    (sSeq (sFor (.nm 2) (iRng1 (dCons false (dC (.int 4)) dNil)) (sSeq (sAsg false 3 (dOp opMul2 (dCall sp_law_some_integer (dCons false (dVar 1) dNil)) (dOp opIx (dLst (dCons false (dC (.int 1)) (dCons false (dNeg (dC (.int 1))) dNil))) (dCall sp_law_draw (dCons false (dVar 1) (dCons false (dC (.int 2)) dNil))))))
    (sSeq (sAsg false 4 (dCall sp_law_digits (dCons false (dVar 3) dNil)))
    (sSeq (sIf (dOr (dNot (dTruth (dCall sp_law_same (dCons false (dCall sp_write_integer (dCons false (dVar 3) dNil)) (dCons false (dVar 4) dNil))))) (dNot (dTruth (dCall sp_law_same (dCons false (dCall (sp_law_read f_read_data f_read_integer k_BadText k_MeanwithinError) (dCons false (dC (.con f_read_integer)) (dCons false (dVar 4) dNil))) (dCons false (dTup (dCons false (dVar 3) dNil)) dNil)))))) (sRet (dC (.bl false))) sNext)
    (sSeq (sFor (.nm 5) (iSeq (dOp opAdd (dCall sp_law_changed (dCons false (dVar 1) (dCons false (dVar 4) dNil))) (dLst (dCons false (dOp opAdd (dC (.str "+")) (dVar 4)) (dCons false (dOp opAdd (dC (.str "0")) (dVar 4)) (dCons false (dOp opAdd (dC (.str "-")) (dVar 4)) (dCons false (dC (.str "--1")) (dCons false (dC (.str "-0")) (dCons false (dC (.str "00")) (dCons false (dC (.str "1_0")) (dCons false (dC (.str "0x1")) (dCons false (dC (.str "1e3")) dNil)))))))))))) (sSeq (sAsg false 6 (dCall (sp_law_read f_read_data f_read_integer k_BadText k_MeanwithinError) (dCons false (dC (.con f_read_integer)) (dCons false (dVar 5) dNil))))
    (sIf (dAnd (dBool (dOp opNe (dVar 6) (dTup dNil))) (dOr (dBool (dOp opNe (dCB opLen (dCons false (dVar 6) dNil)) (dC (.int 1)))) (dBool (dOp opNe (dCall sp_law_digits (dCons false (dOp opIx (dVar 6) (dC (.int 0))) dNil)) (dVar 5))))) (sRet (dC (.bl false))) sNext)))
    (sSeq (sAsg false 7 (dCall sp_law_some_datum (dCons false (dVar 1) (dCons false (dC (.int 4)) dNil))))
    (sSeq (sAsg false 4 (dCall sp_law_written (dCons false (dVar 7) dNil)))
    (sSeq (sIf (dOr (dNot (dTruth (dCall sp_law_same (dCons false (dCall sp_write_data (dCons false (dVar 7) dNil)) (dCons false (dVar 4) dNil))))) (dNot (dTruth (dCall sp_law_same (dCons false (dCall (sp_law_read f_read_data f_read_integer k_BadText k_MeanwithinError) (dCons false (dC (.con f_read_data)) (dCons false (dVar 4) dNil))) (dCons false (dTup (dCons false (dVar 7) dNil)) dNil)))))) (sRet (dC (.bl false))) sNext)
    (sFor (.nm 5) (iSeq (dCall sp_law_changed (dCons false (dVar 1) (dCons false (dVar 4) dNil)))) (sSeq (sAsg false 6 (dCall (sp_law_read f_read_data f_read_integer k_BadText k_MeanwithinError) (dCons false (dC (.con f_read_data)) (dCons false (dVar 5) dNil))))
    (sIf (dAnd (dBool (dOp opNe (dVar 6) (dTup dNil))) (dOr (dBool (dOp opNe (dCB opLen (dCons false (dVar 6) dNil)) (dC (.int 1)))) (dBool (dOp opNe (dCall sp_law_written (dCons false (dOp opIx (dVar 6) (dC (.int 0))) dNil)) (dVar 5))))) (sRet (dC (.bl false))) sNext)))))))))))
    (sSeq (sAsg false 8 (dLst (dCons false (dC (.str "")) (dCons false (dC (.str "'")) (dCons false (dC (.str "a")) (dCons false (dC (.str "(1,2)")) (dCons false (dC (.str "(1 , 2)")) (dCons false (dC (.str "(1, )")) (dCons false (dC (.str "(, 1)")) (dCons false (dC (.str "(1, 2")) (dCons false (dC (.str "1)")) (dCons false (dC (.str "'a'b")) (dCons false (dC (.str "''' ")) (dCons false (dC (.str "()()")) (dCons false (dC (.str "( )")) (dCons false (dC (.str "True")) (dCons false (dC (.str "[1]")) (dCons false (dC (.str "1.5")) (dCons false (dC (.str "(1;2)")) dNil)))))))))))))))))))
    (sRet (dAndV (dCB opAll (dCons false (dLc [4] (.nm 4) (iSeq (dVar 8)) dYes false (dOp opEq (dCall (sp_law_read f_read_data f_read_integer k_BadText k_MeanwithinError) (dCons false (dC (.con f_read_data)) (dCons false (dVar 4) dNil))) (dTup dNil))) dNil)) (dCall (sp_law_deep_fits f_read_data f_read_integer k_BadText k_MeanwithinError) dNil))))))
end K64

namespace K64
open PySem L2 DW TX
def B64 : Nat := 10 ^ 64
theorem vB : v_BASE = D.int (B64 : Int) := congrArg D.int (by decide)
theorem B64_pos : 0 < B64 := by decide
theorem l_minus : D.str (Str.ofString "-") = tx [45] := rfl
theorem l_nil : D.str (Str.ofString "") = tx [] := rfl
theorem l_0 : D.str (Str.ofString "0") = tx [48] := rfl
theorem b_write_integer (k : Nat) : BodyOk N_write_integer P_write_integer (spr_write_integer (k + 1)) (d_write_integer (spr_write_integer k)) := by
  rintro ds st Ed Q ⟨n, rfl, h0, hl, h⟩
  refine ⟨rfl, ?_⟩
  unfold d_write_integer
  simp only [List.map_cons, List.map_nil, List.length_cons, List.length_nil, N_write_integer, Nat.reduceAdd, Nat.reduceSub, List.replicate, List.cons_append, List.nil_append]
  refine seq_i fun nx hnx => ?_
  simp -implicitDefEqProofs
  by_cases hn : n < 0
  · rw [if_pos hn]
    cases k with
    | zero => exact absurd (h0 rfl) (by omega)
    | succ k =>
      refine ⟨-n, rfl, fun _ => by omega, by simpa using hl, ?_⟩
      have e : decL n = 45 :: decL (-n) := by
        unfold decL
        rw [if_pos hn, if_neg (by omega), Int.natAbs_neg]
      have hl2 : (decL (-n)).length ≤ 600 := by
        unfold decL
        rw [if_neg (by omega), Int.natAbs_neg]
        exact hl
      simp -implicitDefEqProofs [l_minus]
      refine ⟨len_size (by omega), leave_stay ?_⟩
      rw [← e]
      exact h
  · rw [if_neg hn]
    apply hnx
    clear hnx
    refine seq_i fun nx hnx => ?_
    simp -implicitDefEqProofs
    apply hnx
    clear hnx
    obtain ⟨m, rfl⟩ := Int.eq_ofNat_of_zero_le (show 0 ≤ n by omega)
    rw [show decL (m : Int) = TL.numL m by unfold decL; rw [if_neg (by omega)]; rfl] at h
    simp only [Int.natAbs_natCast] at hl
    refine seq_i fun nx hnx => ?_
    refine while_by (fun j env s => ∃ (q : Nat) (cs : List (List Nat)) (z : Option D), env = [some (D.int q), some (D.ref st.length), z] ∧ s = st ++ [.lst (cs.map tx)] ∧ TL.numL m = TL.numL q ++ cs.reverse.flatten ∧ (TL.numL q).length ≤ j ∧ cs.length + (TL.numL q).length ≤ 600) 600 ⟨m, [], none, rfl, rfl, by simp, hl, by simpa using hl⟩ ?_
    rintro j env s ⟨q, cs, z, rfl, rfl, e1, e2, e3⟩ nx2 hnx2
    simp -implicitDefEqProofs [vB]
    by_cases hq : B64 ≤ q
    · rw [if_pos hq]
      refine seq_i fun nx3 hnx3 => ?_
      simp -implicitDefEqProofs [vB]
      refine ⟨divp_lg (by decide) (by decide), ?_⟩
      apply hnx3
      clear hnx3
      rw [show (q : Int) % (B64 : Int) = ((q % B64 : Nat) : Int) from rfl, show (q : Int) / (B64 : Int) = ((q / B64 : Nat) : Int) from rfl]
      have hb : TL.numL q = TL.numL (q / B64) ++ (List.replicate (64 - (TL.numL (q % B64)).length) 48 ++ TL.numL (q % B64)) := numL_big (k := 64) (by decide) hq
      have hlow : q % B64 < B64 := Nat.mod_lt _ (by decide)
      have hlen : (TL.numL (q % B64)).length ≤ 64 := TL.numL_len (by decide) hlow
      have hbl := congrArg List.length hb
      simp only [List.length_append, List.length_replicate] at hbl
      generalize q % B64 = low at *
      generalize q / B64 = q' at *
      simp -implicitDefEqProofs
      refine ⟨tyOk_list (last_get _ _), log_small (k := 220) (Nat.lt_trans hlow (by decide)) (by decide), ?_⟩
      have hz : ∀ c, (TL.numL low).head? = some c → c ≠ 43 ∧ c ≠ 45 := fun c hc => by
        have := TL.numL_digits low c (List.mem_of_head? hc)
        omega
      refine Eq.mpr (opZfill_tx hz) ⟨by decide, ?_⟩
      refine Eq.mpr (opAppend_e (last_get _ _)) ⟨len_lt (by simp; omega), hnx2 (j - 1) _ _ ?_ ⟨q', cs ++ [List.replicate (64 - (TL.numL low).length) 48 ++ TL.numL low], _, rfl, ?_, ?_, ?_, ?_⟩⟩
      · have := List.length_pos_iff.mpr (TL.numL_ne q); omega
      · simp
      · rw [e1, hb]; simp
      · omega
      · simp; omega
    · rw [if_neg hq]
      apply hnx
      clear hnx
      refine seq_i fun nx3 hnx3 => ?_
      simp -implicitDefEqProofs
      refine ⟨tyOk_list (last_get _ _), log_small (k := 220) (Nat.lt_trans (show q < B64 by omega) (by decide)) (by decide), ?_⟩
      refine ⟨len_lt (by omega), ?_⟩
      apply hnx3
      clear hnx3
      have hg : ∀ ds : List D, lisOf (st ++ [.lst ds]) (.ref st.length) = some ds := fun ds => lis_last
      simp -implicitDefEqProofs [l_nil]
      have e4 : tx (TL.numL q) :: (List.map tx cs).reverse = (TL.numL q :: cs.reverse).map tx := by simp
      rw [e4]
      have hml := congrArg List.length e1
      rw [List.length_append] at hml
      refine Eq.mpr (opJoin_tx (a := []) (ys := TL.numL q :: cs.reverse) rfl) ⟨?_, leave_drop rfl ?_⟩
      · rw [List.length_flatten] at hml
        simp at hml ⊢
        omega
      · rw [joinL_nil, List.flatten_cons, ← e1]
        exact h
end K64

namespace K64
open PySem L2 DW TX
theorem vD : v_DIGITS = tx [48, 49, 50, 51, 52, 53, 54, 55, 56, 57] := rfl
theorem mem_dig (c : Nat) : (c ∈ [48, 49, 50, 51, 52, 53, 54, 55, 56, 57]) ↔ (48 ≤ c ∧ c ≤ 57) := by
  simp only [List.mem_cons, List.not_mem_nil, or_false]
  omega
theorem b_plain_text : BodyOk N_plain_text P_plain_text sp_plain_text d_plain_text := by
  rintro ds st Ed Q ⟨l, rfl, hl, h⟩
  refine ⟨rfl, ?_⟩
  unfold d_plain_text
  simp only [List.map_cons, List.map_nil, List.length_cons, List.length_nil, N_plain_text, Nat.reduceAdd, Nat.reduceSub, List.replicate, List.cons_append, List.nil_append]
  refine seq_i fun nx hnx => ?_
  simp -implicitDefEqProofs
  refine forN_inv (fun c => tx [c]) (fun done env s => ∃ z, env = [some (tx l), z] ∧ s = st ∧ done.all plc = true) l ⟨none, rfl, rfl, rfl⟩ (fun _ _ _ _ => trivial) ?_ ?_
  · rintro done c rest hi env s ⟨z, rfl, rfl, hd⟩
    refine ⟨_, rfl, fun nx2 hnx2 => ?_⟩
    have e1 : D.str (Str.ofString " ") = tx [32] := rfl
    have e2 : D.str (Str.ofString "~") = tx [126] := rfl
    have e3 : D.str (Str.ofString "'") = tx [39] := rfl
    simp -implicitDefEqProofs [e1, e2, e3, one_lt]
    have no : plc c = false → DW.Leave s (.bl false) s Q := fun hc => by
      have : l.all plc = false := by rw [hi]; simp [hc]
      rw [this] at h
      exact leave_stay h
    have yes : plc c = true → nx2 [some (tx l), some (tx [c])] s := fun hc => hnx2 _ _ ⟨_, rfl, rfl, by simp [hc] at hd ⊢; exact hd⟩
    by_cases c1 : c < 32
    · rw [if_pos c1]; exact no (by simp [plc]; omega)
    rw [if_neg c1]
    by_cases c2 : 126 < c
    · rw [if_pos c2]; exact no (by simp [plc]; omega)
    rw [if_neg c2]
    by_cases c3 : c = 39
    · rw [if_pos c3]; exact no (by simp [plc]; omega)
    rw [if_neg c3]
    by_cases c4 : (c : Int) = 37
    · rw [if_pos c4]; exact no (by simp [plc]; omega)
    rw [if_neg c4]
    exact yes (by simp [plc]; omega)
  · rintro env s ⟨z, rfl, rfl, hd⟩
    apply hnx
    clear hnx
    simp -implicitDefEqProofs
    rw [hd] at h
    exact leave_stay h
theorem pow10 (n : Nat) : 10 ^ n ≤ 2 ^ (4 * n) := by
  rw [Nat.pow_mul]
  exact Nat.pow_le_pow_left (by decide) n
theorem b_read_integer (k_BadText : Addr) : BodyOk N_read_integer P_read_integer (sp_read_integer k_BadText) (d_read_integer k_BadText) := by
  rintro ds st Ed Q ⟨l, rfl, hl, h, hb⟩
  refine ⟨rfl, ?_⟩
  have hsz : l.length ≤ sizeLine := len_size (by omega)
  unfold d_read_integer
  simp only [List.map_cons, List.map_nil, List.length_cons, List.length_nil, N_read_integer, Nat.reduceAdd, Nat.reduceSub, List.replicate, List.cons_append, List.nil_append]
  refine seq_i fun nx hnx => ?_
  simp -implicitDefEqProofs
  apply hnx
  clear hnx
  refine seq_i fun nx hnx => ?_
  simp -implicitDefEqProofs [l_minus, l_nil, l_0]
  have main : ∀ dig (sg : Bool), (sg = true → l = 45 :: dig) → (sg = false → l = dig ∧ l.head? ≠ some 45) → nx [some (tx l), some (tx dig), none, none, none, none] st := by
    intro dig sg hs1 hs2
    have hdl : dig.length ≤ 100000 := by
      cases sg with
      | true => have := hs1 rfl; rw [this] at hl; simp at hl; omega
      | false => rw [← (hs2 rfl).1]; exact hl
    have hdz : dig.length ≤ sizeLine := len_size (by omega)
    have bad : ¬ (NumText.AllDigits dig ∧ dig ≠ [] ∧ (dig.head? = some 48 → l = [48])) → LeaveE st st (Ed k_BadText) := fun hg => .inl (hb (by
      cases sg with
      | true =>
        rw [hs1 rfl]
        refine readI_noneNeg fun z => hg ⟨z.1, z.2.1, fun q => absurd q z.2.2⟩
      | false =>
        obtain ⟨e1, e2⟩ := hs2 rfl
        subst e1
        refine readI_nonePos e2 fun z => hg ⟨z.1, z.2.1, fun q => ?_⟩
        rcases z.2.2 with w | w
        · exact w
        · exact absurd q w))
    have fine : NumText.AllDigits dig → dig ≠ [] → (dig.head? = some 48 → l = [48]) → DW.Leave st (.int (if sg = true then -(NumText.digitsVal dig : Int) else (NumText.digitsVal dig : Int))) st Q := fun g1 g2 g3 => leave_stay (h _ (by
      cases sg with
      | true =>
        rw [hs1 rfl, readI_neg g1 g2 (fun q => by have := g3 q; rw [hs1 rfl] at this; cases this)]
        rfl
      | false =>
        obtain ⟨e1, e2⟩ := hs2 rfl
        subst e1
        rw [readI_pos g1 g2 (by
          by_cases q : l.head? = some 48
          · exact .inl (g3 q)
          · exact .inr q)]
        rfl))
    apply hnx
    clear hnx
    refine seq_i fun nx hnx => ?_
    cases dig with
    | nil =>
      simp -implicitDefEqProofs [l_minus, l_nil, l_0]
      exact bad (by simp)
    | cons c0 d0 =>
      have ix : ∀ (s2 : Sto) (k : D → Prop), opIx s2 (tx (c0 :: d0)) (.int 0) k = k (tx [c0]) := fun _ _ => opIx_tx hdz (atI_lit (c0 :: d0) 0)
      have hgo : (c0 = 48 → l = [48]) → nx [some (tx l), some (tx (c0 :: d0)), none, none, none, none] st := fun g3 => by
        apply hnx
        clear hnx
        have g3' : (c0 :: d0).head? = some 48 → l = [48] := fun z => g3 (by simpa using z)
        refine seq_i fun nx hnx => ?_
        simp -implicitDefEqProofs
        refine forN_inv (fun c => tx [c]) (fun done env s => ∃ z, env = [some (tx l), some (tx (c0 :: d0)), z, none, none, none] ∧ s = st ∧ NumText.AllDigits done) (c0 :: d0) ⟨none, rfl, rfl, fun _ h => by cases h⟩ (fun _ _ _ _ => trivial) ?_ ?_
        · rintro done c rest hi env s ⟨z, rfl, rfl, hd⟩
          refine ⟨_, rfl, fun nx2 hnx2 => ?_⟩
          simp -implicitDefEqProofs [vD]
          by_cases hc : 48 ≤ c ∧ c ≤ 57
          · rw [if_neg (by omega)]
            refine hnx2 _ _ ⟨_, rfl, rfl, fun x hx => ?_⟩
            rcases List.mem_append.mp hx with hx | hx
            · exact hd x hx
            · cases List.mem_singleton.mp hx; exact hc
          · rw [if_pos (by omega)]
            exact bad fun z => hc (z.1 c (by rw [hi]; simp))
        · rintro env s ⟨z, rfl, rfl, hd⟩
          generalize hdg : c0 :: d0 = dig at *
          have hne : dig ≠ [] := by rw [← hdg]; simp
          have fin := fine hd hne g3'
          apply hnx
          clear hnx
          obtain ⟨hd64, hh⟩ : ∃ h, h = dig.length % 64 := ⟨_, rfl⟩
          have hm : ((dig.length : Nat) : Int).fmod 64 = (hd64 : Int) := by rw [Int.fmod_eq_emod_of_nonneg _ (by decide), hh]; rfl
          refine seq_i fun nx hnx => ?_
          simp -implicitDefEqProofs [hm]
          have hlt : hd64 < 64 := by omega
          have hle : hd64 ≤ dig.length := by omega
          refine ⟨hdz, ?_⟩
          apply hnx
          clear hnx
          refine seq_i fun nx hnx => ?_
          simp -implicitDefEqProofs
          apply hnx
          clear hnx
          refine seq_i fun nx hnx => ?_
          have hdt : ∀ i j, NumText.AllDigits ((dig.drop i).take j) := fun i j x hx => hd x (List.drop_subset _ _ (List.take_subset _ _ hx))
          have hgo2 : nx [some (tx l), some (tx dig), z, some (.int (hd64 : Nat)), some (.int (NumText.digitsVal (dig.take hd64) : Nat)), none] s := by
            apply hnx
            clear hnx
            refine seq_i fun nx hnx => ?_
            simp -implicitDefEqProofs
            refine ⟨hdz, _, rgc_pos (a := hd64) (b := dig.length) (c := 64) (by decide) (by decide) (by omega) (by omega), ?_⟩
            have hcount : (if hd64 < dig.length then (dig.length - hd64 - 1) / 64 + 1 else 0) = (dig.length - hd64) / 64 := by
              split
              · omega
              · rw [show dig.length - hd64 = 0 by omega]
            rw [hcount]
            unfold stepD
            refine forN_inv (fun i : Nat => D.int ((hd64 : Int) + (i : Nat) * ((64 : Nat) : Int))) (fun done env s2 => ∃ y, env = [some (tx l), some (tx dig), z, some (.int (hd64 : Nat)), some (.int (NumText.digitsVal (dig.take (hd64 + 64 * done.length)) : Nat)), y] ∧ s2 = s) (List.range ((dig.length - hd64) / 64)) ⟨none, rfl, rfl⟩ (fun _ _ _ _ => trivial) ?_ ?_
            · rintro done a rest hi env s2 ⟨y, rfl, rfl⟩
              obtain ⟨rfl, ha⟩ := range_mid hi
              refine ⟨_, rfl, fun nx2 hnx2 => ?_⟩
              have e1 : (hd64 : Int) + (done.length : Int) * ((64 : Nat) : Int) = ((hd64 + 64 * done.length : Nat) : Int) := by omega
              have e2 : (hd64 : Int) + (done.length : Int) * ((64 : Nat) : Int) + 64 = ((hd64 + 64 * done.length + 64 : Nat) : Int) := by omega
              simp -implicitDefEqProofs [vB]
              have hsl : hd64 + 64 * done.length + 64 ≤ dig.length := by omega
              have hv : NumText.digitsVal (List.take (hd64 + 64 * done.length) dig) < 2 ^ 400000 := by
                have h1 := digitsVal_lt (l := List.take (hd64 + 64 * done.length) dig) (fun x hx => hd x (List.take_subset _ _ hx))
                have h2 := Nat.lt_of_lt_of_le h1 (pow10 _)
                refine Nat.lt_of_lt_of_le h2 (Nat.pow_le_pow_right (by decide) ?_)
                rw [List.length_take]
                omega
              refine ⟨mulOk 400000 213 hv (by decide), hdz, ?_⟩
              rw [show ((hd64 : Int) + (done.length : Int) * 64) = ((hd64 + 64 * done.length : Nat) : Int) by omega, show ((hd64 + 64 * done.length : Nat) : Int) + 64 = ((hd64 + 64 * done.length + 64 : Nat) : Int) from rfl, cutD_mid, show hd64 + 64 * done.length + 64 - (hd64 + 64 * done.length) = 64 by omega]
              have hcl : ((dig.drop (hd64 + 64 * done.length)).take 64).length = 64 := by rw [List.length_take, List.length_drop]; omega
              refine Eq.mpr (opInt_dig (hdt _ _) (fun z => by rw [z] at hcl; cases hcl) (by omega)) ?_
              simp -implicitDefEqProofs
              have : NumText.digitsVal (List.take (hd64 + 64 * (done ++ [done.length]).length) dig) = NumText.digitsVal (List.take (hd64 + 64 * done.length) dig) * B64 + NumText.digitsVal ((dig.drop (hd64 + 64 * done.length)).take 64) := by
                rw [show hd64 + 64 * (done ++ [done.length]).length = hd64 + 64 * done.length + 64 by simp; omega, List.take_add, digitsVal_app, hcl]
                rfl
              exact hnx2 _ _ ⟨_, by rw [this]; rfl, rfl⟩
            · rintro env s2 ⟨y, rfl, rfl⟩
              apply hnx
              clear hnx
              rw [show hd64 + 64 * (List.range ((dig.length - hd64) / 64)).length = dig.length by rw [List.length_range]; omega, List.take_length]
              cases l with
              | nil =>
                cases sg with
                | true => have := hs1 rfl; cases this
                | false => exact absurd (hs2 rfl).1.symm hne
              | cons c1 l1 =>
                have ix1 : ∀ (s2 : Sto) (k : D → Prop), opIx s2 (tx (c1 :: l1)) (.int 0) k = k (tx [c1]) := fun _ _ => opIx_tx hsz (atI_lit (c1 :: l1) 0)
                refine seq_i fun nx hnx => ?_
                simp -implicitDefEqProofs [ix1, l_minus]
                cases sg with
                | true =>
                  have := hs1 rfl
                  rw [if_pos (by simpa using (List.cons.inj this).1)]
                  exact fin
                | false =>
                  have := (hs2 rfl).2
                  rw [if_neg (by simpa using this)]
                  apply hnx
                  clear hnx
                  simp -implicitDefEqProofs
                  exact fin
          by_cases h0 : hd64 = 0
          · subst h0
            simp -implicitDefEqProofs
            simpa [NumText.digitsVal] using hgo2
          · simp -implicitDefEqProofs
            rw [if_pos (by omega)]
            refine ⟨hdz, ?_⟩
            rw [cutD_to]
            refine Eq.mpr (opInt_dig (fun x hx => hd x (List.take_subset _ _ hx)) (fun z => by have := congrArg List.length z; rw [List.length_take, List.length_nil] at this; omega) (by rw [List.length_take]; omega)) ?_
            exact hgo2
      simp -implicitDefEqProofs [l_minus, l_nil, l_0, ix]
      by_cases h48 : c0 = 48
      · rw [if_pos h48]
        by_cases hl48 : l = [48]
        · rw [if_pos hl48]
          exact hgo fun _ => hl48
        · rw [if_neg hl48]
          exact bad fun z => hl48 (z.2.2 (by simp [h48]))
      · rw [if_neg h48]
        exact hgo fun z => absurd z h48
  refine ⟨hsz, ?_⟩
  rw [show cutD l none (some 1) = l.take 1 from cutD_to l 1, show cutD l (some 1) none = l.drop 1 from cutD_from l 1]
  cases l with
  | nil =>
    rw [if_neg (by simp)]
    exact main [] false (by simp) (by simp)
  | cons c r =>
    by_cases hc : c = 45
    · subst hc
      rw [if_pos (by rfl)]
      exact ⟨hsz, main r true (fun _ => rfl) (by simp)⟩
    · rw [if_neg (by simpa using hc)]
      exact main (c :: r) false (by simp) (fun _ => ⟨rfl, by simpa using hc⟩)
end K64

namespace K64
open PySem L2 DW TX
theorem isi_i (st : Sto) (i : Int) (c : String) (k : D → Prop) : opIsi st [.int i, .ty c] k = (c ∈ ["int", "bool", "str", "tuple", "list"] ∧ k (.bl (isiB "int" c))) := rfl
theorem isi_s (st : Sto) (i : Str) (c : String) (k : D → Prop) : opIsi st [.str i, .ty c] k = (c ∈ ["int", "bool", "str", "tuple", "list"] ∧ k (.bl (isiB "str" c))) := rfl
theorem isi_x (st : Sto) (i : List Nat) (c : String) (k : D → Prop) : opIsi st [tx i, .ty c] k = (c ∈ ["int", "bool", "str", "tuple", "list"] ∧ k (.bl (isiB "str" c))) := rfl
theorem isi_t (st : Sto) (i : List D) (c : String) (k : D → Prop) : opIsi st [.tup i, .ty c] k = (c ∈ ["int", "bool", "str", "tuple", "list"] ∧ k (.bl (isiB "tuple" c))) := rfl
theorem wrs_joinT (d : D) : ∀ r : List D, TL.joinL [44, 32] ((d :: r).map wr) = wr d ++ wrt r
  | [] => by simp [TL.joinL, wrt]
  | e :: r => by
    show wr d ++ ([44, 32] ++ TL.joinL [44, 32] ((e :: r).map wr)) = _
    rw [wrs_joinT e r, wrt]
    simp
theorem wrs_join : ∀ ds : List D, TL.joinL [44, 32] (ds.map wr) = wrs ds
  | [] => by simp [TL.joinL, wrs]
  | d :: r => by rw [wrs_joinT, wrs]
theorem wrt_len : ∀ ds : List D, (wrt ds).length = (ds.map fun d => (wr d).length).sum + 2 * ds.length
  | [] => by simp [wrt]
  | d :: r => by
    rw [wrt]
    simp only [List.length_cons, List.length_append, List.map_cons, List.sum_cons, wrt_len r]
    omega
theorem wrs_len : ∀ ds : List D, (ds.map fun d => (wr d).length).sum + 2 * ds.length ≤ (wrs ds).length + 2
  | [] => by simp [wrs]
  | d :: r => by
    rw [wrs]
    simp only [List.length_cons, List.length_append, List.map_cons, List.sum_cons, wrt_len r]
    omega
theorem sum_mem {α : Type} (f : α → Nat) : ∀ {l : List α} {a : α}, a ∈ l → f a ≤ (l.map f).sum
  | x :: l, a, h => by
    rw [List.map_cons, List.sum_cons]
    rcases List.mem_cons.mp h with rfl | h
    · omega
    · have := sum_mem f h; omega
theorem gds_mem {k : Nat} : ∀ {ds : List D}, gds k ds → ∀ d ∈ ds, gd k d
  | d :: r, h, x, hx => by
    unfold gds at h
    rcases List.mem_cons.mp hx with rfl | hx
    · exact h.1
    · exact gds_mem h.2 x hx
theorem intsOks_mem {B : Nat} : ∀ {ds : List D}, intsOks B ds → ∀ d ∈ ds, intsOk B d
  | d :: r, h, x, hx => by
    unfold intsOks at h
    rcases List.mem_cons.mp hx with rfl | hx
    · exact h.1
    · exact intsOks_mem h.2 x hx
theorem wr_mem {ds : List D} {d : D} (h : d ∈ ds) (h2 : (wr (.tup ds)).length ≤ 100000) : (wr d).length ≤ 100000 := by
  have h1 : (wr d).length ≤ (ds.map fun d => (wr d).length).sum := sum_mem (fun d => (wr d).length) h
  have h3 := wrs_len ds
  have h4 : 0 < ds.length := List.length_pos_iff.mpr (List.ne_nil_of_mem h)
  rw [wr, List.length_cons, List.length_append] at h2
  omega
theorem wr_tx (l : List Nat) : wr (tx l) = 39 :: (l ++ [39]) := by unfold tx wr; rfl
theorem gd_frz {k : Nat} {d : D} (h : gd k d) : frz d = d := by cases d <;> first | rfl | (cases k <;> exact h.elim)
theorem l_op : D.str (Str.ofString "(") = tx [40] := rfl
theorem l_cl : D.str (Str.ofString ")") = tx [41] := rfl
theorem l_sep : D.str (Str.ofString ", ") = tx [44, 32] := rfl
theorem l_q : D.str (Str.ofString "'") = tx [39] := rfl
theorem b_write_data (k : Nat) : BodyOk N_write_data P_write_data (spr_write_data (k + 1)) (d_write_data (spr_write_data k)) := by
  rintro ds st Ed Q ⟨d, rfl, hg, hi, hl, h⟩
  refine ⟨rfl, ?_⟩
  unfold d_write_data
  simp only [List.map_cons, List.map_nil, List.length_cons, List.length_nil, N_write_data, Nat.reduceAdd, Nat.reduceSub, List.replicate, List.cons_append, List.nil_append]
  refine seq_i fun nx hnx => ?_
  cases d with
  | int n =>
    simp -implicitDefEqProofs [isi_i, isiB]
    apply hnx
    clear hnx
    refine seq_i fun nx hnx => ?_
    simp -implicitDefEqProofs [isi_i, isiB]
    apply hnx
    clear hnx
    simp -implicitDefEqProofs
    unfold intsOk at hi
    refine ⟨n, rfl, (fun e => by cases e), hi, ?_⟩
    rw [show wr (.int n) = decL n by unfold wr; rfl] at h
    exact leave_stay h
  | str x =>
    rw [tx_str x] at h hl ⊢
    rw [wr_tx] at h hl
    generalize x.cps.toList = l at *
    simp -implicitDefEqProofs [isi_x, isiB]
    apply hnx
    clear hnx
    refine seq_i fun nx hnx => ?_
    simp -implicitDefEqProofs [isi_x, isiB, l_q]
    simp only [List.length_cons, List.length_append, List.length_nil] at hl
    exact ⟨len_size (by omega), len_size (by omega), leave_stay h⟩
  | tup xs =>
    cases k with
    | zero => exact hg.elim
    | succ k =>
      unfold gd at hg
      unfold intsOk at hi
      have hl2 := hl
      rw [wr, List.length_cons, List.length_append] at hl2
      have hlen := wrs_len xs
      simp -implicitDefEqProofs [isi_t, isiB, l_op, l_cl, l_sep, itemsOf, seqOf]
      have key := lcN_map (ok := stays st (.tup xs)) (vs := [1]) (tg := .nm 1) (bx := false) (de := dCall (spr_write_data (k + 1)) (dCons false (dVar 1) dNil)) (env := [some (.tup xs), none]) (st := st) (Q := fun x st1 => opJoin st1 (tx [44, 32]) [frz x] fun x st1 => opAdd st1 (tx [40]) (frz x) fun z => opAdd st1 (frz z) (tx [41]) fun x => DW.Leave st x st1 Q)
        (fun d : D => d) (fun d => tx (wr d)) trivial xs (len_size (by simp at hl2; omega)) (fun a ha kt hkt => ?_) ?_
      · rw [List.map_id'] at key
        exact key
      · simp -implicitDefEqProofs [wipeD]
        refine ⟨a, by rw [gd_frz (gds_mem hg a ha)], gds_mem hg a ha, intsOks_mem hi a ha, wr_mem ha hl, hkt⟩
      · refine Eq.mpr (opJoin_tx (ys := xs.map wr) (by rw [List.map_map]; rfl)) ⟨?_, ?_⟩
        · rw [List.map_map]
          simp only [List.length_map, List.length_cons, List.length_nil]
          have : (List.map (List.length ∘ wr) xs).sum = (xs.map fun d => (wr d).length).sum := rfl
          rw [this]
          simp at hl2
          omega
        · rw [wrs_join]
          simp at hl2
          simp -implicitDefEqProofs
          rw [wr] at h
          exact ⟨len_size (by omega), len_size (by omega), leave_stay h⟩
  | _ => cases k <;> exact hg.elim
end K64

namespace K64
open PySem L2 DW TX
theorem b_law_written (k : Nat) : BodyOk N_law_written P_law_written (spr_law_written (k + 1)) (d_law_written (spr_law_written k)) := by
  rintro ds st Ed Q ⟨d, rfl, hg, hi, hl, h⟩
  refine ⟨rfl, ?_⟩
  unfold d_law_written
  simp only [List.map_cons, List.map_nil, List.length_cons, List.length_nil, N_law_written, Nat.reduceAdd, Nat.reduceSub, List.replicate, List.cons_append, List.nil_append]
  refine seq_i fun nx hnx => ?_
  cases d with
  | int n =>
    simp -implicitDefEqProofs [isi_i, isiB]
    apply hnx
    clear hnx
    refine seq_i fun nx hnx => ?_
    simp -implicitDefEqProofs [isi_i, isiB]
    apply hnx
    clear hnx
    simp -implicitDefEqProofs
    unfold intsOk at hi
    refine ⟨n, rfl, hi, ?_⟩
    rw [show wr (.int n) = decL n by unfold wr; rfl] at h
    exact leave_stay h
  | str x =>
    rw [tx_str x] at h hl ⊢
    rw [wr_tx] at h hl
    generalize x.cps.toList = l at *
    simp -implicitDefEqProofs [isi_x, isiB]
    apply hnx
    clear hnx
    refine seq_i fun nx hnx => ?_
    simp -implicitDefEqProofs [isi_x, isiB, l_q]
    simp only [List.length_cons, List.length_append, List.length_nil] at hl
    exact ⟨len_size (by omega), len_size (by omega), leave_stay h⟩
  | tup xs =>
    cases k with
    | zero => exact hg.elim
    | succ k =>
      unfold gd at hg
      unfold intsOk at hi
      have hl2 := hl
      rw [wr, List.length_cons, List.length_append] at hl2
      have hlen := wrs_len xs
      simp -implicitDefEqProofs [isi_t, isiB, l_op, l_cl, l_sep, itemsOf, seqOf]
      have key := lcN_map (ok := stays st (.tup xs)) (vs := [1]) (tg := .nm 1) (bx := false) (de := dCall (spr_law_written (k + 1)) (dCons false (dVar 1) dNil)) (env := [some (.tup xs), none]) (st := st) (Q := fun x st1 => opJoin st1 (tx [44, 32]) [frz x] fun x st1 => opAdd st1 (tx [40]) (frz x) fun z => opAdd st1 (frz z) (tx [41]) fun x => DW.Leave st x st1 Q)
        (fun d : D => d) (fun d => tx (wr d)) trivial xs (len_size (by simp at hl2; omega)) (fun a ha kt hkt => ?_) ?_
      · rw [List.map_id'] at key
        exact key
      · simp -implicitDefEqProofs [wipeD]
        refine ⟨a, by rw [gd_frz (gds_mem hg a ha)], gds_mem hg a ha, intsOks_mem hi a ha, wr_mem ha hl, hkt⟩
      · refine Eq.mpr (opJoin_tx (ys := xs.map wr) (by rw [List.map_map]; rfl)) ⟨?_, ?_⟩
        · rw [List.map_map]
          simp only [List.length_map, List.length_cons, List.length_nil]
          have : (List.map (List.length ∘ wr) xs).sum = (xs.map fun d => (wr d).length).sum := rfl
          rw [this]
          simp at hl2
          omega
        · rw [wrs_join]
          simp at hl2
          simp -implicitDefEqProofs
          rw [wr] at h
          exact ⟨len_size (by omega), len_size (by omega), leave_stay h⟩
  | _ => cases k <;> exact hg.elim

theorem dig_at : ∀ m : Nat, m < 10 → [48, 49, 50, 51, 52, 53, 54, 55, 56, 57][m]? = some (48 + m) := by decide
theorem b_law_digits : BodyOk N_law_digits P_law_digits sp_law_digits d_law_digits := by
  rintro ds st Ed Q ⟨n, rfl, hl, h⟩
  refine ⟨rfl, ?_⟩
  unfold d_law_digits
  simp only [List.map_cons, List.map_nil, List.length_cons, List.length_nil, N_law_digits, Nat.reduceAdd, Nat.reduceSub, List.replicate, List.cons_append, List.nil_append]
  refine seq_i fun nx hnx => ?_
  simp -implicitDefEqProofs [l_nil]
  apply hnx
  clear hnx
  refine seq_i fun nx hnx => ?_
  simp -implicitDefEqProofs
  have hab : (if n < 0 then -n else n) = (n.natAbs : Int) := by split <;> omega
  rw [hab]
  obtain ⟨m, hm⟩ : ∃ m, m = n.natAbs := ⟨_, rfl⟩
  rw [← hm] at hl ⊢
  apply hnx
  clear hnx
  refine seq_i fun nx hnx => ?_
  simp -implicitDefEqProofs
  unfold rangeD
  have hmlt : m < 10 ^ 300 := by
    have h1 := digitsVal_lt (TL.numL_digits m)
    rw [TL.numL_val] at h1
    exact Nat.lt_of_lt_of_le h1 (Nat.pow_le_pow_right (by decide) hl)
  refine forN_inv (fun i : Nat => D.int (0 + (i : Nat))) (fun done env s => ∃ (q : Nat) (f : List Nat) (z : Option D), env = [some (.int n), some (tx f), some (.int q), z] ∧ s = st ∧ q = m / 10 ^ done.length ∧ f.length ≤ done.length ∧ (0 < q → TL.numL m = TL.numL q ++ f) ∧ (q = 0 → (done.length = 0 ∧ m = 0 ∧ f = []) ∨ TL.numL m = f)) (List.range _) ⟨m, [], none, rfl, rfl, by simp, by simp, fun _ => by simp, fun e => .inl ⟨rfl, e, rfl⟩⟩ (fun _ _ _ _ => trivial) ?_ ?_
  · rintro done a rest hi env s ⟨q, f, z, rfl, rfl, e1, e2, e3, e4⟩
    obtain ⟨rfl, ha⟩ := range_mid hi
    refine ⟨_, rfl, fun nx2 hnx2 => ?_⟩
    refine seq_i fun nx hnx => ?_
    have hfd : (q : Int).fdiv 10 = ((q / 10 : Nat) : Int) := by rw [Int.fdiv_eq_ediv_of_nonneg _ (by decide)]; rfl
    have hfm : (q : Int).fmod 10 = ((q % 10 : Nat) : Int) := by rw [Int.fmod_eq_emod_of_nonneg _ (by decide)]; rfl
    have hq1 : q / 10 = m / 10 ^ (done.length + 1) := by rw [e1, Nat.div_div_eq_div_mul, Nat.pow_succ]
    have rest1 : ∀ f', (f' = (48 + q % 10) :: f ∧ (0 < q ∨ done.length = 0)) ∨ (f' = f ∧ q = 0 ∧ done.length ≠ 0) → nx [some (.int n), some (tx f'), some (.int q), some (.int done.length)] s := by
      intro f' hf
      apply hnx
      clear hnx
      simp -implicitDefEqProofs [hfd]
      refine ⟨⟨by decide, by decide⟩, ?_⟩
      have : ((q : Int) / 10) = ((q / 10 : Nat) : Int) := rfl
      rw [this]
      refine hnx2 _ _ ⟨q / 10, f', _, rfl, rfl, by rw [hq1]; simp, ?_, ?_, ?_⟩
      · rcases hf with ⟨rfl, _⟩ | ⟨rfl, _⟩ <;> simp <;> omega
      · intro hp
        rcases hf with ⟨rfl, _⟩ | ⟨rfl, hz, _⟩
        · rw [e3 (by omega), TL.numL_step (n := q) (by omega)]
          simp
        · omega
      · intro hz
        rcases hf with ⟨rfl, hh⟩ | ⟨rfl, hz2, hd⟩
        · refine .inr ?_
          by_cases hq0 : 0 < q
          · rw [e3 hq0, TL.numL_lt (n := q) (by omega), show q % 10 = q by omega]
            rfl
          · have hq00 : q = 0 := by omega
            rcases e4 hq00 with ⟨_, h2, h3⟩ | h2
            · subst h3; rw [h2, hq00]; rfl
            · rcases hh with hh | hh
              · omega
              · exfalso
                have hf0 : f = [] := List.eq_nil_of_length_eq_zero (by omega)
                rw [hf0] at h2
                exact TL.numL_ne m h2
        · rcases e4 hz2 with ⟨h1, _, _⟩ | h2
          · exact absurd h1 hd
          · exact .inr h2
    simp -implicitDefEqProofs
    have key : ∀ K : D → Prop, opIx s (frz (D.str (Str.ofString "0123456789"))) (frz (D.int ((q : Int).fmod 10))) K = K (tx [48 + q % 10]) := fun K => by
      rw [hfm]
      exact opIx_tx (a := [48, 49, 50, 51, 52, 53, 54, 55, 56, 57]) (by decide) (by rw [atI_lit]; exact dig_at _ (Nat.mod_lt _ (by decide)))
    simp only [key]
    have hdl : done.length < 300 := by simpa using ha
    by_cases hq0 : 0 < q
    · rw [if_pos hq0]
      simp -implicitDefEqProofs
      exact ⟨len_size (by omega), rest1 _ (.inl ⟨rfl, .inl hq0⟩)⟩
    · rw [if_neg hq0]
      by_cases hd0 : done = []
      · rw [if_pos hd0]
        simp -implicitDefEqProofs
        exact ⟨len_size (by omega), rest1 _ (.inl ⟨rfl, .inr (by rw [hd0]; rfl)⟩)⟩
      · rw [if_neg hd0]
        exact rest1 _ (.inr ⟨rfl, by omega, fun e => hd0 (List.eq_nil_of_length_eq_zero e)⟩)
  · rintro env s ⟨q, f, z, rfl, rfl, e1, e2, e3, e4⟩
    have hr : (List.range 300).length = 300 := by simp
    rw [hr] at e1 e2 e4
    have hq0 : q = 0 := by rw [e1]; exact Nat.div_eq_of_lt hmlt
    have hf : TL.numL m = f := by
      rcases e4 hq0 with ⟨h1, _⟩ | h2
      · cases h1
      · exact h2
    apply hnx
    clear hnx
    simp -implicitDefEqProofs [l_nil, l_minus]
    have hmul : ∀ K : D → Prop, (opIx s (.fl [tx [], tx [45]]) (.int (if n < 0 then 1 else 0)) K) = K (tx (if n < 0 then [45] else [])) := fun K => by
      split <;> rfl
    refine ⟨by decide, Eq.mpr (hmul _) ?_⟩
    simp -implicitDefEqProofs
    refine ⟨len_size (by split <;> simp <;> omega), leave_stay ?_⟩
    have : decL n = (if n < 0 then [45] else []) ++ f := by
      unfold decL
      rw [← hm, hf]
      split <;> simp
    rw [← this]
    exact h

theorem vS : v_SIGNS = tx [45, 48, 49, 50, 51, 52, 53, 54, 55, 56, 57] := rfl
theorem mem_sgn (c : Nat) : decide (c ∈ [45, 48, 49, 50, 51, 52, 53, 54, 55, 56, 57]) = sgn c := by
  rw [Bool.eq_iff_iff]
  simp only [decide_eq_true_eq, List.mem_cons, List.not_mem_nil, or_false, sgn, Bool.or_eq_true, Bool.and_eq_true, beq_iff_eq]
  omega
theorem tw_len {p : Nat → Bool} (l : List Nat) : (l.takeWhile p).length + (l.dropWhile p).length = l.length := by
  have := congrArg List.length (tw_dw p l)
  rwa [List.length_append] at this
theorem tw_take {p : Nat → Bool} : ∀ l : List Nat, l.take (l.takeWhile p).length = l.takeWhile p
  | [] => rfl
  | c :: l => by
    simp only [List.takeWhile_cons]
    split
    · simp [tw_take l]
    · simp
theorem dw_drop {p : Nat → Bool} : ∀ l : List Nat, l.drop (l.takeWhile p).length = l.dropWhile p
  | [] => rfl
  | c :: l => by
    simp only [List.takeWhile_cons, List.dropWhile_cons]
    split
    · simp [dw_drop l]
    · simp
theorem dwQ_nil {l : List Nat} (h : 39 ∉ l) : l.dropWhile notQ = [] := by
  induction l with
  | nil => rfl
  | cons c l ih =>
    simp only [List.mem_cons, not_or] at h
    rw [List.dropWhile_cons, if_pos (by simp [notQ]; exact fun e => h.1 e.symm), ih h.2]
theorem dwQ_cons {l : List Nat} (h : 39 ∈ l) : ∃ r, l.dropWhile notQ = 39 :: r := by
  induction l with
  | nil => cases h
  | cons c l ih =>
    by_cases e : c = 39
    · subst e; exact ⟨l, rfl⟩
    · rcases List.mem_cons.mp h with h | h
      · exact absurd h.symm e
      · obtain ⟨r, hr⟩ := ih h
        exact ⟨r, by rw [List.dropWhile_cons, if_pos (by simp [notQ]; exact e), hr]⟩
theorem b_read_plain (k_BadText : Addr) : BodyOk N_read_plain P_read_plain (sp_read_plain k_BadText) (d_read_plain k_BadText) := by
  rintro ds st Ed Q ⟨l, i, rfl, hl, hi, h, hb⟩
  refine ⟨rfl, ?_⟩
  have hsz : l.length ≤ sizeLine := len_size (by omega)
  have ix : ∀ (j : Nat) (s2 : Sto) (k : D → Prop) (hj : j < l.length), opIx s2 (tx l) (.int (j : Nat)) k = k (tx [l[j]]) := fun j s2 k hj => opIx_tx hsz (by rw [atI_lit, List.getElem?_eq_getElem hj])
  have ed : l.drop i = l[i] :: l.drop (i + 1) := List.drop_eq_getElem_cons hi
  unfold d_read_plain
  simp only [List.map_cons, List.map_nil, List.length_cons, List.length_nil, N_read_plain, Nat.reduceAdd, Nat.reduceSub, List.replicate, List.cons_append, List.nil_append]
  refine seq_i fun nx hnx => ?_
  simp -implicitDefEqProofs [ix i _ _ hi, l_q]
  by_cases hq : l[i] = 39
  · rw [if_pos hq]
    obtain ⟨r, hr⟩ : ∃ r, r = l.drop (i + 1) := ⟨_, rfl⟩
    rw [hq] at ed
    rw [ed] at h hb
    rw [← hr] at h hb
    have hrl : r.length = l.length - (i + 1) := by rw [hr, List.length_drop]
    refine seq_i fun nx2 hnx2 => ?_
    simp -implicitDefEqProofs [l_q]
    refine Eq.mpr (opFind_tx (i := i + 1) (by omega)) ?_
    rw [← hr]
    apply hnx2
    clear hnx2
    refine seq_i fun nx2 hnx2 => ?_
    have hb0 : rp (39 :: r) = none → LeaveE st st (Ed k_BadText) := fun e => .inl (hb e)
    by_cases hm : 39 ∈ r
    · rw [if_pos hm]
      obtain ⟨rr, hrr⟩ := dwQ_cons hm
      have htl := tw_len (p := notQ) r
      rw [hrr] at htl
      rw [show (fun x : Nat => x != 39) = notQ from rfl]
      obtain ⟨tw, htw⟩ : ∃ t, t = r.takeWhile notQ := ⟨_, rfl⟩
      have hcut : cutD l (some ((i : Int) + 1)) (some ((i + 1 + tw.length : Nat) : Int)) = tw := by
        rw [show (i : Int) + 1 = ((i + 1 : Nat) : Int) from rfl, cutD_mid, ← hr, show i + 1 + tw.length - (i + 1) = tw.length by omega, htw, tw_take]
      have hneg : ¬ (((i + 1 + tw.length : Nat) : Int) < 0) := by omega
      rw [← htw] at htl ⊢
      simp only [List.length_cons] at htl
      have hrp : rp (39 :: r) = match tw.all plc with
        | true => some (tx tw, rr)
        | false => none := by
        unfold rp
        rw [if_pos (by rfl), List.tail_cons, hrr, htw] <;> (cases (List.takeWhile notQ r).all plc <;> rfl)
      generalize hend : i + 1 + tw.length = en at *
      simp -implicitDefEqProofs [hneg, hcut]
      refine ⟨hsz, tw, rfl, by omega, ?_⟩
      cases hp : tw.all plc with
      | false =>
        rw [hp] at hrp
        simp -implicitDefEqProofs
        exact hb0 hrp
      | true =>
        rw [hp] at hrp
        simp -implicitDefEqProofs
        apply hnx2
        clear hnx2
        simp -implicitDefEqProofs [hcut]
        refine ⟨hsz, by decide, leave_stay ?_⟩
        have := h _ _ hrp
        rw [show l.length - rr.length = en + 1 by omega] at this
        exact this
    · rw [if_neg hm]
      simp -implicitDefEqProofs
      refine hb0 ?_
      unfold rp
      rw [if_pos (by rfl), List.tail_cons, dwQ_nil hm]
  · rw [if_neg hq]
    apply hnx
    clear hnx
    refine seq_i fun nx hnx => ?_
    simp -implicitDefEqProofs
    apply hnx
    clear hnx
    refine seq_i fun nx hnx => ?_
    have hrp : rp (l.drop i) = match readI ((l.drop i).takeWhile sgn) with
        | some n => some (.int n, (l.drop i).dropWhile sgn)
        | none => none := by
      unfold rp
      rw [if_neg (by rw [ed]; intro z; exact hq (Option.some.inj z))] <;> (cases readI ((l.drop i).takeWhile sgn) <;> rfl)
    have fin : ∀ e : Nat, e ≤ l.length → i ≤ e → (l.drop i).takeWhile sgn = (l.drop i).take (e - i) → nx [some (tx l), some (.int (i : Nat)), some (.int (e : Nat))] st := by
      intro e he hie htw
      apply hnx
      clear hnx
      simp -implicitDefEqProofs
      refine ⟨hsz, ?_⟩
      rw [cutD_mid, ← htw]
      have htl := tw_len (p := sgn) (l.drop i)
      have hlen : ((l.drop i).takeWhile sgn).length = e - i := by rw [htw, List.length_take, List.length_drop]; omega
      rw [List.length_drop] at htl
      refine ⟨_, rfl, by omega, fun n hn => ⟨by decide, leave_stay ?_⟩, fun hn => .inl (hb (by rw [hrp, hn]))⟩
      have := h _ _ (by rw [hrp, hn])
      rw [show l.length - ((l.drop i).dropWhile sgn).length = e by omega] at this
      exact this
    refine while_by (fun m env s => ∃ e : Nat, env = [some (tx l), some (.int (i : Nat)), some (.int (e : Nat))] ∧ s = st ∧ i ≤ e ∧ e ≤ l.length ∧ l.length - e ≤ m ∧ (l.drop i).takeWhile sgn = (l.drop i).take (e - i) ++ (l.drop e).takeWhile sgn) l.length ⟨i, rfl, rfl, Nat.le_refl _, by omega, by omega, by simp⟩ ?_
    rintro m env s ⟨e, rfl, rfl, h1, h2, h3, h4⟩ nx2 hnx2
    simp -implicitDefEqProofs [vS]
    refine ⟨hsz, ?_⟩
    by_cases he : e < l.length
    · rw [if_pos he]
      have ede : l.drop e = l[e] :: l.drop (e + 1) := List.drop_eq_getElem_cons he
      refine Eq.mpr (ix e _ _ he) ?_
      simp -implicitDefEqProofs
      by_cases hs : sgn l[e] = true
      · rw [if_pos (by
          have := hs
          rw [← mem_sgn, decide_eq_true_eq] at this
          simpa only [List.mem_cons, List.not_mem_nil, or_false] using this)]
        simp -implicitDefEqProofs [DW.iop_add]
        refine hnx2 (m - 1) _ _ (by omega) ⟨e + 1, rfl, rfl, by omega, by omega, by omega, ?_⟩
        rw [h4, ede, List.takeWhile_cons, if_pos hs, show e + 1 - i = (e - i) + 1 by omega, List.take_add]
        rw [List.drop_drop, show i + (e - i) = e by omega, ede, List.append_assoc]
        rfl
      · rw [if_neg (by
          intro z
          refine hs ?_
          rw [← mem_sgn, decide_eq_true_eq]
          simpa only [List.mem_cons, List.not_mem_nil, or_false] using z)]
        exact fin e h2 h1 (by rw [h4, ede, List.takeWhile_cons, if_neg hs]; simp)
    · rw [if_neg he]
      exact fin e h2 h1 (by rw [h4, List.drop_of_length_le (show l.length ≤ e by omega)]; simp)
end K64

namespace K64
open PySem L2 DW TX
/-- the cells js hold the lists vs -/
def LV (s : Sto) : List Nat → List (List D) → Prop
  | [], [] => True
  | j :: js, v :: vs => s[j]? = some (.lst v) ∧ LV s js vs
  | _, _ => False
theorem LV.set {s : Sto} {m : MO} {i : Nat} : ∀ {js : List Nat} {vs : List (List D)}, i ∉ js → LV s js vs → LV (s.set i m) js vs
  | [], [], _, h => h
  | j :: js, v :: vs, hn, h => by
    simp only [List.mem_cons, not_or] at hn
    exact ⟨by rw [List.getElem?_set_ne hn.1]; exact h.1, LV.set hn.2 h.2⟩
  | [], _ :: _, _, h => h.elim
  | _ :: _, [], _, h => h.elim
theorem get_app {s t : Sto} {j : Nat} {m : MO} (h : s[j]? = some m) : (s ++ t)[j]? = some m := by
  rw [List.getElem?_append_left (List.getElem?_eq_some_iff.mp h).1]; exact h
theorem LV.app {s t : Sto} : ∀ {js : List Nat} {vs : List (List D)}, LV s js vs → LV (s ++ t) js vs
  | [], [], h => h
  | j :: js, v :: vs, h => ⟨get_app h.1, LV.app h.2⟩
  | [], _ :: _, h => h.elim
  | _ :: _, [], h => h.elim
theorem LV.snoc {s : Sto} {j : Nat} {v : List D} : ∀ {js : List Nat} {vs : List (List D)}, LV s js vs → s[j]? = some (.lst v) → LV s (js ++ [j]) (vs ++ [v])
  | [], [], _, h => ⟨h, trivial⟩
  | _ :: _, _ :: _, h, h2 => ⟨h.1, LV.snoc h.2 h2⟩
  | [], _ :: _, h, _ => h.elim
  | _ :: _, [], h, _ => h.elim
theorem LV.inv {s : Sto} {v : List D} : ∀ {js : List Nat} {vs : List (List D)}, LV s js (vs ++ [v]) → ∃ bs j, js = bs ++ [j] ∧ LV s bs vs ∧ s[j]? = some (.lst v)
  | [j], [], h => ⟨[], j, rfl, trivial, h.1⟩
  | j :: js, w :: vs, h => by
    obtain ⟨bs, k, rfl, h1, h2⟩ := LV.inv h.2
    exact ⟨j :: bs, k, rfl, ⟨h.1, h1⟩, h2⟩
  | [], [], h => h.elim
  | [], _ :: _, h => h.elim
  | _ :: _ :: _, [], h => h.2.elim
theorem LV.len {s : Sto} : ∀ {js : List Nat} {vs : List (List D)}, LV s js vs → js.length = vs.length
  | [], [], _ => rfl
  | _ :: js, _ :: vs, h => by simp [LV.len h.2]
  | [], _ :: _, h => h.elim
  | _ :: _, [], h => h.elim
mutual
theorem cl_gd {k : Nat} (m : Nat) : ∀ d : D, gd k d → cl m d = true
  | .int _, _ => rfl
  | .str _, _ => rfl
  | .tup ds, h => by
    cases k with
    | zero => exact h.elim
    | succ k => unfold gd at h; exact cls_gd m ds h
  | .non, h => by cases k <;> exact h.elim
  | .bl _, h => by cases k <;> exact h.elim
  | .ref _, h => by cases k <;> exact h.elim
  | .fl _, h => by cases k <;> exact h.elim
  | .sl _, h => by cases k <;> exact h.elim
  | .tl _, h => by cases k <;> exact h.elim
  | .fd _ _, h => by cases k <;> exact h.elim
  | .td _ _, h => by cases k <;> exact h.elim
  | .con _, h => by cases k <;> exact h.elim
  | .ty _, h => by cases k <;> exact h.elim
theorem cls_gd {k : Nat} (m : Nat) : ∀ ds : List D, gds k ds → cls m ds = true
  | [], _ => rfl
  | d :: r, h => by
    unfold gds at h
    simp only [cls, Bool.and_eq_true]
    exact ⟨cl_gd m d h.1, cls_gd m r h.2⟩
end
/-- the stack in the store -/
structure Stk (st s : Sto) (A : Nat) (bs : List Nat) (j : Nat) (top : List D) (stk : List (List D)) : Prop where
  out : s[A]? = some (.lst ((bs ++ [j]).map D.ref))
  lv : LV s bs stk.reverse
  top : s[j]? = some (.lst top)
  nd : (bs ++ [j]).Nodup
  nA : A ∉ bs ++ [j]
  pre : s.take st.length = st
  hA : st.length ≤ A
  hj : ∀ x ∈ bs ++ [j], st.length ≤ x
theorem take_set {s : Sto} {n i : Nat} {m : MO} (h : n ≤ i) : (s.set i m).take n = s.take n := by
  rw [List.take_set, List.set_eq_of_length_le (by rw [List.length_take]; omega)]
theorem Stk.put {st s : Sto} {A : Nat} {bs : List Nat} {j : Nat} {top : List D} {stk : List (List D)} (S : Stk st s A bs j top stk) (d : D) : Stk st (s.set j (.lst (top ++ [d]))) A bs j (top ++ [d]) stk := by
  have hl := (List.getElem?_eq_some_iff.mp S.top).1
  have hb : j ∉ bs := fun h => (List.nodup_append.mp S.nd).2.2 j h j (by simp) rfl
  refine ⟨?_, S.lv.set hb, List.getElem?_set_self hl, S.nd, S.nA, ?_, S.hA, S.hj⟩
  · rw [List.getElem?_set_ne (fun e => S.nA (by rw [← e]; simp))]
    exact S.out
  · rw [take_set (S.hj j (by simp))]; exact S.pre
theorem Stk.push {st s : Sto} {A : Nat} {bs : List Nat} {j : Nat} {top : List D} {stk : List (List D)} (S : Stk st s A bs j top stk) : Stk st ((s ++ [MO.lst []]).set A (MO.lst (bs.map D.ref ++ [D.ref j, D.ref s.length]))) A (bs ++ [j]) s.length [] (top :: stk) := by
  have hA := (List.getElem?_eq_some_iff.mp S.out).1
  have hlt : ∀ x ∈ bs ++ [j], x < s.length := by
    have hlv : ∀ {js : List Nat} {vs : List (List D)}, LV s js vs → ∀ x ∈ js, x < s.length := by
      intro js
      induction js with
      | nil => intro vs _ x hx; cases hx
      | cons a js ih =>
        intro vs h x hx
        cases vs with
        | nil => exact h.elim
        | cons v vs =>
          rcases List.mem_cons.mp hx with rfl | hx
          · exact (List.getElem?_eq_some_iff.mp h.1).1
          · exact ih h.2 x hx
    intro x hx
    rcases List.mem_append.mp hx with hx | hx
    · exact hlv S.lv x hx
    · cases List.mem_singleton.mp hx; exact (List.getElem?_eq_some_iff.mp S.top).1
  refine ⟨?_, ?_, ?_, ?_, ?_, ?_, S.hA, ?_⟩
  · rw [List.getElem?_set_self (by simp; omega)]; simp
  · rw [List.reverse_cons]
    exact (LV.app (S.lv.snoc S.top)).set S.nA
  · rw [List.getElem?_set_ne (by omega)]; simp
  · rw [List.nodup_append]
    exact ⟨S.nd, by simp, fun a ha b hb => by cases List.mem_singleton.mp hb; have := hlt a ha; omega⟩
  · intro h
    rcases List.mem_append.mp h with h | h
    · exact S.nA h
    · have := List.mem_singleton.mp h; omega
  · rw [take_set S.hA, List.take_append_of_le_length (by have := congrArg List.length S.pre; rw [List.length_take] at this; omega)]
    exact S.pre
  · intro x hx
    rcases List.mem_append.mp hx with hx | hx
    · exact S.hj x hx
    · cases List.mem_singleton.mp hx
      have := S.hA; omega
theorem Stk.pop {st s : Sto} {A : Nat} {bs : List Nat} {j : Nat} {top v : List D} {stk : List (List D)} (S : Stk st s A bs j top (v :: stk)) : ∃ bs' j', bs = bs' ++ [j'] ∧ (s.set A (.lst (bs.map D.ref)))[j]? = some (.lst top) ∧ Stk st (s.set A (.lst (bs.map D.ref))) A bs' j' v stk := by
  have hA := (List.getElem?_eq_some_iff.mp S.out).1
  have hlv := S.lv
  rw [List.reverse_cons] at hlv
  obtain ⟨bs', j', rfl, h1, h2⟩ := hlv.inv
  have nAb : A ∉ bs' ++ [j'] := fun h => S.nA (List.mem_append_left _ h)
  refine ⟨bs', j', rfl, ?_, ?_, ?_, ?_, ?_, nAb, ?_, S.hA, fun x hx => S.hj x (List.mem_append_left _ hx)⟩
  · rw [List.getElem?_set_ne (fun e => S.nA (by rw [e]; simp))]; exact S.top
  · rw [List.getElem?_set_self hA]
  · exact h1.set fun h => nAb (List.mem_append_left _ h)
  · rw [List.getElem?_set_ne (fun e => nAb (by rw [e]; simp))]; exact h2
  · exact (List.nodup_append.mp S.nd).1
  · rw [take_set S.hA]; exact S.pre
theorem Stk.eq {st s : Sto} {A : Nat} {bs : List Nat} {j : Nat} {top : List D} {stk : List (List D)} (S : Stk st s A bs j top stk) : s = st ++ s.drop st.length := by
  have := List.take_append_drop st.length s
  rw [S.pre] at this
  exact this.symm
theorem Stk.cut {st s : Sto} {A : Nat} {bs : List Nat} {j : Nat} {top : List D} {stk : List (List D)} (S : Stk st s A bs j top stk) {Q : Sto → Prop} (h : Q st) : LeaveE st s Q := by
  refine .inr ⟨?_, by rw [S.pre]; exact h⟩
  rw [S.eq]
  exact CutOk.pre
theorem atI_last {α : Type} (xs : List α) (x : α) : atI (xs ++ [x]) (-1) = some x := by
  unfold atI ixN
  rw [if_neg (by decide), if_pos (by simp; omega)]
  simp only [Option.bind_some, List.length_append, List.length_singleton]
  rw [show ((-1 : Int) + ((xs.length + 1 : Nat) : Int)).toNat = xs.length by omega]
  simp
theorem opPop_e {st : Sto} {n : Nat} {ds : List D} {y : D} {kk : D → Sto → Prop} (h : st[n]? = some (.lst (ds ++ [y]))) : opPop st (.ref n) [] kk = kk y (st.set n (.lst ds)) := by
  unfold opPop onList
  simp only [h, List.length_append, List.length_singleton, Nat.add_sub_cancel]
  simp
theorem vDep : v_DEPTH = .int 20 := rfl
theorem b_read_data (k_BadText : Addr) : BodyOk N_read_data P_read_data (sp_read_data k_BadText) (d_read_data k_BadText) := by
  rintro ds st Ed Q ⟨l, rfl, hl, h, hb⟩
  refine ⟨rfl, ?_⟩
  have hsz : l.length ≤ sizeLine := len_size (by omega)
  have ix : ∀ (j : Nat) (s2 : Sto) (k : D → Prop) (hj : j < l.length), opIx s2 (tx l) (.int (j : Nat)) k = k (tx [l[j]]) := fun j s2 k hj => opIx_tx hsz (by rw [atI_lit, List.getElem?_eq_getElem hj])
  unfold d_read_data
  simp only [List.map_cons, List.map_nil, List.length_cons, List.length_nil, N_read_data, Nat.reduceAdd, Nat.reduceSub, List.replicate, List.cons_append, List.nil_append]
  refine seq_i fun nx hnx => ?_
  simp -implicitDefEqProofs
  refine ⟨by decide, ?_⟩
  apply hnx
  clear hnx
  refine seq_i fun nx hnx => ?_
  simp -implicitDefEqProofs
  apply hnx
  clear hnx
  refine seq_i fun nx hnx => ?_
  simp -implicitDefEqProofs
  apply hnx
  clear hnx
  refine seq_i fun nx hnx => ?_
  refine while_by (fun m env s => ∃ (top : List D) (stk : List (List D)) (fresh po : Bool) (idx n : Nat) (bs : List Nat) (j : Nat) (z4 z5 : Option D), env = [some (tx l), some (.ref (st.length + 1)), some (.int (idx : Nat)), some (.bl fresh), z4, z5] ∧ Stk st s (st.length + 1) bs j top stk ∧
    idx ≤ l.length ∧ l.length - idx ≤ m ∧ l.length - idx < n ∧ rd l = go n top stk fresh po (l.drop idx) ∧ (stk ≠ [] → 1 ≤ idx) ∧ (fresh = true → 1 ≤ idx → po = decide (l[idx - 1]? = some 40)) ∧ stk.length ≤ idx ∧ ∀ v ∈ top :: stk, v.length ≤ idx) l.length
    ⟨[], [], true, false, 0, l.length + 1, [], st.length, none, none, rfl, ?_, by omega, by omega, by omega, rfl, fun e => absurd rfl e, (fun _ e => by omega), by simp, by simp⟩ ?_
  · refine ⟨by simp, trivial, by simp, by simp, by simp, by simp, by omega, by simp⟩
  rintro m env s ⟨top, stk, fresh, po, idx, n, bs, j, z4, z5, rfl, S, h1, h2, h3, h4, h5, h6, h7, h8⟩ nx2 hnx2
  have hbl : bs.length = stk.length := by have := S.lv.len; simpa using this
  simp -implicitDefEqProofs
  refine ⟨hsz, ?_⟩
  by_cases hi : idx < l.length
  · rw [if_pos hi]
    have ed : l.drop idx = l[idx] :: l.drop (idx + 1) := List.drop_eq_getElem_cons hi
    obtain ⟨n, rfl⟩ : ∃ n', n = n' + 1 := ⟨n - 1, by omega⟩
    rw [ed, go_cons] at h4
    obtain ⟨c, hc⟩ : ∃ c, c = l[idx] := ⟨_, rfl⟩
    rw [← hc] at h4
    have ixc : ∀ (s2 : Sto) (k : D → Prop), opIx s2 (tx l) (.int (idx : Nat)) k = k (tx [c]) := fun s2 k => by rw [ix idx s2 k hi, hc]
    have hlen : ∀ (k : D → Prop), opLen s [.ref (st.length + 1)] k = k (.int ((bs.length + 1 : Nat) : Int)) := fun k => by
      rw [opLen_r S.out]; simp
    have bad : rd l = none → LeaveE st s (Ed k_BadText) := fun e => S.cut (hb e)
    have hlast : ∀ (k : D → Prop), opIx s (.ref (st.length + 1)) (.int (-1)) k = k (.ref j) := fun k => opIx_ref S.out (by rw [List.map_append]; exact atI_last _ _)
    have hbl2 : bs.length ≤ 100000 := by omega
    have htl : top.length ≤ idx := h8 top (by simp)
    have hbs : bs = [] ↔ stk = [] := by
      constructor <;> intro e
      · subst e; exact List.eq_nil_of_length_eq_zero (by simpa using hbl.symm)
      · subst e; exact List.eq_nil_of_length_eq_zero (by simpa using hbl)
    have item : fresh = true → c ≠ 40 → ¬ (c = 41 ∧ stk ≠ [] ∧ po = true) → (sSeq (sAsgT (Tg.tp [Tg.nm 5, Tg.nm 2]) (dCall (sp_read_plain k_BadText) (dCons false (dVar 0) (dCons false (dVar 2) dNil))))
              (sSeq (sExpr (dBM "list" opAppend (dOp opIx (dVar 1) (dNeg (dC (D.int 1)))) (dCons false (dVar 5) dNil)))
                (sAsg false 3 (dC (D.bl false)))))
              (fun C x st' => LeaveE st st' (Ed C)) { nx := nx2, rt := fun x st' => DW.Leave st x st' Q, bk := nx, ct := nx2 } [some (tx l), some (D.ref (List.length st + 1)), some (D.int idx), some (D.bl fresh), z4, z5] s := by
      intro hf c40 c41
      subst hf
      rw [if_neg (by simp [c40]), if_neg (by
        simp only [Bool.and_eq_true, beq_iff_eq, Bool.not_true, Bool.false_or, Bool.not_eq_true']
        rintro ⟨⟨a, b⟩, d⟩
        exact c41 ⟨a, (fun e => by rw [e] at b; cases b), d⟩), if_neg (by simp), if_pos (by simp [c40]), hc, ← ed] at h4
      refine seq_i fun nx3 hnx3 => ?_
      simp -implicitDefEqProofs
      refine ⟨l, idx, rfl, by omega, hi, fun d r hd => ?_, fun hn => ?_⟩
      · rw [hd] at h4
        obtain ⟨e1, e2, e3⟩ := rp_snd hd
        have e1l := congrArg List.length e1
        rw [List.length_append, List.length_drop] at e1l
        rw [List.length_drop] at e3
        have hr : l.drop (l.length - r.length) = r := by
          rw [show l.length - r.length = idx + (wr d).length by omega, ← List.drop_drop, e1]
          simp
        simp -implicitDefEqProofs
        apply hnx3
        clear hnx3
        refine seq_i fun nx3 hnx3 => ?_
        simp -implicitDefEqProofs [hlast]
        refine ⟨tyOk_list S.top, Eq.mpr (opAppend_e S.top) ⟨len_lt (by omega), ?_⟩⟩
        apply hnx3
        clear hnx3
        simp -implicitDefEqProofs
        rw [gd_frz e2]
        refine hnx2 (m - 1) _ _ (by omega) ⟨top ++ [d], stk, false, false, l.length - r.length, n, bs, j, z4, some d, rfl, S.put d, by omega, by omega, by omega, ?_, (fun e => by have := h5 e; omega), (fun e => by cases e), by omega, ?_⟩
        · rw [hr]; exact h4
        · intro v hv
          rcases List.mem_cons.mp hv with rfl | hv
          · simp; omega
          · have := h8 v (List.mem_cons_of_mem _ hv); omega
      · rw [hn] at h4
        exact bad h4
    have close : c = 41 → bs ≠ [] → (fresh = true → po = true) → (sSeq (sAsg false 4 (dCB opTuple (dCons false (dBM "list" opPop (dVar 1) dNil) dNil)))
                      (sSeq
                        (sExpr
                          (dBM "list" opAppend (dOp opIx (dVar 1) (dNeg (dC (D.int 1)))) (dCons false (dVar 4) dNil)))
                        (sSeq (sAug false DW.iop_add 2 (dC (D.int 1))) (sAsg false 3 (dC (D.bl false))))))
                      (fun C x st' => LeaveE st st' (Ed C)) { nx := nx2, rt := fun x st' => DW.Leave st x st' Q, bk := nx, ct := nx2 } [some (tx l), some (D.ref (List.length st + 1)), some (D.int idx), some (D.bl fresh), z4, z5] s := by
      intro c41 hne hp
      cases stk with
      | nil => exact absurd (hbs.mpr rfl) hne
      | cons v stk =>
        rw [if_neg (by simp [c41]), if_pos (by
          simp only [Bool.and_eq_true, beq_iff_eq, Bool.or_eq_true, Bool.not_eq_true']
          refine ⟨⟨c41, rfl⟩, ?_⟩
          cases fresh with
          | false => exact .inl rfl
          | true => exact .inr (hp rfl))] at h4
        simp only [shut] at h4
        obtain ⟨bs', j', rfl, hjt, S'⟩ := S.pop
        obtain ⟨s2, hs2⟩ : ∃ s2, s2 = s.set (st.length + 1) (.lst ((bs' ++ [j']).map D.ref)) := ⟨_, rfl⟩
        rw [← hs2] at hjt S'
        have hout : s[st.length + 1]? = some (.lst ((bs' ++ [j']).map D.ref ++ [.ref j])) := by rw [S.out]; simp
        have hlast' : ∀ (k : D → Prop), opIx s2 (.ref (st.length + 1)) (.int (-1)) k = k (.ref j') := fun k => opIx_ref S'.out (by rw [List.map_append]; exact atI_last _ _)
        refine seq_i fun nx3 hnx3 => ?_
        simp -implicitDefEqProofs
        refine ⟨tyOk_list S.out, Eq.mpr (opPop_e hout) ?_⟩
        rw [← hs2]
        refine Eq.mpr (opTuple_r hjt) ?_
        apply hnx3
        clear hnx3
        refine seq_i fun nx3 hnx3 => ?_
        simp -implicitDefEqProofs [hlast']
        refine ⟨tyOk_list S'.top, Eq.mpr (opAppend_e S'.top) ⟨len_lt (by have := h8 v (by simp); omega), ?_⟩⟩
        apply hnx3
        clear hnx3
        refine seq_i fun nx3 hnx3 => ?_
        simp -implicitDefEqProofs [DW.iop_add]
        apply hnx3
        clear hnx3
        simp -implicitDefEqProofs
        refine hnx2 (m - 1) _ _ (by omega) ⟨v ++ [.tup top], stk, false, false, idx + 1, n, bs', j', _, _, rfl, S'.put _, by omega, by omega, by omega, h4, (fun e => by omega), (fun e => by cases e), by simp at h7; omega, ?_⟩
        intro w hw
        rcases List.mem_cons.mp hw with rfl | hw
        · have := h8 v (by simp); simp; omega
        · have := h8 w (by simp [hw]); omega
    cases fresh with
    | true =>
      by_cases c40 : c = 40
      · by_cases hd : bs.length + 1 ≤ 20
        · have hd' : (bs.length : Int) + 1 ≤ 20 := by omega
          rw [if_pos (by simp [c40]; omega)] at h4
          simp -implicitDefEqProofs [ixc, l_op, l_cl, vDep, hlen, c40, hd']
          refine seq_i fun nx3 hnx3 => ?_
          have hg : (s ++ [MO.lst []])[st.length + 1]? = some (.lst ((bs ++ [j]).map D.ref)) := get_app S.out
          simp -implicitDefEqProofs
          refine ⟨tyOk_list S.out, ?_⟩
          refine Eq.mpr (opAppend_e hg) ⟨len_lt (by simp; omega), ?_⟩
          apply hnx3
          clear hnx3
          simp -implicitDefEqProofs [DW.iop_add]
          refine hnx2 (m - 1) _ _ (by omega) ⟨[], top :: stk, true, true, idx + 1, n, bs ++ [j], s.length, z4, z5, rfl, S.push, by omega, by omega, by omega, h4, (fun _ => by omega), (fun _ _ => ?_), by simp; omega, ?_⟩
          · rw [show idx + 1 - 1 = idx by omega, List.getElem?_eq_getElem hi, ← hc, c40]; rfl
          · intro v hv
            rcases List.mem_cons.mp hv with rfl | hv
            · simp
            · have := h8 v hv; omega
        · have hd' : ¬ (bs.length : Int) + 1 ≤ 20 := by omega
          rw [if_neg (by simp [c40]; omega), if_neg (by simp [c40]), if_neg (by simp), if_neg (by simp [c40])] at h4
          simp -implicitDefEqProofs [ixc, l_op, l_cl, vDep, hlen, c40, hd']
          exact bad h4
      · by_cases c41 : c = 41
        · by_cases hb0 : bs = []
          · have hg1 : ¬ (1 : Int) < (bs.length : Int) + 1 := by rw [hb0]; decide
            simp -implicitDefEqProofs [ixc, l_op, l_cl, vDep, hlen, c40, c41, hg1]
            refine item rfl c40 (fun z => z.2.1 (hbs.mp hb0))
          · have hg1 : (1 : Int) < (bs.length : Int) + 1 := by have := List.length_pos_iff.mpr hb0; omega
            have hi1 := h5 fun e => hb0 (hbs.mpr e)
            have hpo := h6 rfl hi1
            have hi2 : idx - 1 < l.length := by omega
            rw [List.getElem?_eq_getElem hi2] at hpo
            have ixp : ∀ (s2 : Sto) (k : D → Prop), opIx s2 (tx l) (.int ((idx : Int) - 1)) k = k (tx [l[idx - 1]]) := fun s2 k => by
              rw [show (idx : Int) - 1 = ((idx - 1 : Nat) : Int) by omega]
              exact ix (idx - 1) s2 k hi2
            simp -implicitDefEqProofs [ixc, l_op, l_cl, vDep, hlen, c40, c41, hg1, ixp]
            by_cases hp : l[idx - 1] = 40
            · rw [if_pos hp]
              exact close c41 hb0 fun _ => by rw [hpo, hp]; rfl
            · rw [if_neg hp]
              exact item rfl c40 fun z => by
                rw [hpo] at z
                exact hp (Option.some.inj (of_decide_eq_true z.2.2))
        · simp -implicitDefEqProofs [ixc, l_op, l_cl, vDep, hlen, c40, c41]
          exact item rfl c40 fun z => c41 z.1
    | false =>
      by_cases c41 : c = 41
      · by_cases hb0 : bs = []
        · have hg1 : ¬ (1 : Int) < (bs.length : Int) + 1 := by rw [hb0]; decide
          rw [if_neg (by simp), if_neg (by simp [hbs.mp hb0]), if_neg (by simp [hbs.mp hb0]), if_neg (by simp)] at h4
          simp -implicitDefEqProofs [ixc, l_op, l_cl, vDep, hlen, c41, hg1]
          exact bad h4
        · have hg1 : (1 : Int) < (bs.length : Int) + 1 := by have := List.length_pos_iff.mpr hb0; omega
          simp -implicitDefEqProofs [ixc, l_op, l_cl, vDep, hlen, c41, hg1]
          exact close c41 hb0 fun e => by cases e
      · by_cases hb0 : bs = []
        · have hg1 : ¬ (1 : Int) < (bs.length : Int) + 1 := by rw [hb0]; decide
          rw [if_neg (by simp), if_neg (by simp [hbs.mp hb0]), if_neg (by simp [hbs.mp hb0]), if_neg (by simp)] at h4
          simp -implicitDefEqProofs [ixc, l_op, l_cl, vDep, hlen, c41, hg1]
          exact bad h4
        · have hg1 : (1 : Int) < (bs.length : Int) + 1 := by have := List.length_pos_iff.mpr hb0; omega
          have hcut : cutD l (some (idx : Int)) (some ((idx : Int) + 2)) = c :: (l.drop (idx + 1)).take 1 := by
            rw [show (idx : Int) + 2 = ((idx + 2 : Nat) : Int) from rfl, cutD_mid, show idx + 2 - idx = 2 by omega, ed, hc]
            rfl
          simp -implicitDefEqProofs [ixc, l_op, l_cl, l_sep, vDep, hlen, c41, hg1, hcut]
          refine ⟨hsz, ?_⟩
          have hiff : (c = 44 ∧ List.take 1 (l.drop (idx + 1)) = [32]) ↔ (c = 44 ∧ (l.drop (idx + 1)).head? = some 32) := by
            cases l.drop (idx + 1) with
            | nil => simp
            | cons a r => simp
          by_cases hsep : c = 44 ∧ (l.drop (idx + 1)).head? = some 32
          · rw [if_pos (hiff.mpr hsep)]
            have hh := hsep.2
            rw [List.head?_drop] at hh
            have hl2 := (List.getElem?_eq_some_iff.mp hh).1
            rw [if_neg (by simp), if_neg (by simp [c41]), if_pos (by
              simp only [Bool.and_eq_true, beq_iff_eq, Bool.not_false, Bool.not_eq_true', true_and]
              refine ⟨⟨?_, hsep.1⟩, by rw [List.head?_drop]; exact hh⟩
              cases stk with
              | nil => exact absurd (hbs.mpr rfl) hb0
              | cons _ _ => rfl), List.tail_drop] at h4
            refine seq_i fun nx3 hnx3 => ?_
            simp -implicitDefEqProofs [DW.iop_add]
            apply hnx3
            clear hnx3
            simp -implicitDefEqProofs
            refine hnx2 (m - 1) _ _ (by omega) ⟨top, stk, true, false, idx + 2, n, bs, j, z4, z5, rfl, S, by omega, by omega, by omega, h4, (fun e => by omega), (fun _ _ => ?_), by omega, fun v hv => by have := h8 v hv; omega⟩
            rw [show idx + 2 - 1 = idx + 1 by omega, hh]
            rfl
          · rw [if_neg (fun z => hsep (hiff.mp z))]
            rw [if_neg (by simp), if_neg (by simp [c41]), if_neg (by simp; intro _ a b; exact hsep ⟨a, by rw [List.head?_drop]; exact b⟩), if_neg (by simp)] at h4
            exact bad h4
  · rw [if_neg hi]
    have e0 : idx = l.length := by omega
    obtain ⟨n, rfl⟩ : ∃ n', n = n' + 1 := ⟨n - 1, by omega⟩
    rw [e0, List.drop_length, go_nil] at h4
    have bad : rd l = none → LeaveE st s (Ed k_BadText) := fun e => S.cut (hb e)
    have hlen : ∀ (k : D → Prop), opLen s [.ref (st.length + 1)] k = k (.int ((bs.length + 1 : Nat) : Int)) := fun k => by
      rw [opLen_r S.out]; simp
    apply hnx
    clear hnx
    refine seq_i fun nx3 hnx3 => ?_
    cases stk with
    | cons v stk =>
      have hg1 : ¬ ((bs.length : Int) + 1 = 1) := by rw [hbl]; simp; omega
      have : rd l = none := by rw [h4]; unfold fin; cases top <;> first | rfl | (rename_i a b; cases b <;> rfl)
      simp -implicitDefEqProofs [hlen, hg1]
      exact bad this
    | nil =>
      have hb0 : bs = [] := List.eq_nil_of_length_eq_zero hbl
      subst hb0
      have hout : ∀ (k : D → Prop), opIx s (.ref (st.length + 1)) (.int 0) k = k (.ref j) := fun k => opIx_ref S.out (atI_lit _ 0)
      have htop : ∀ (k : D → Prop), opLen s [.ref j] k = k (.int top.length) := fun k => opLen_r S.top
      simp -implicitDefEqProofs [hlen, hout, htop]
      by_cases h1 : (top.length : Int) = 1
      · rw [if_pos h1]
        have h1' : top.length = 1 := by omega
        obtain ⟨d, rfl⟩ := List.length_eq_one_iff.mp h1'
        have hr : rd l = some d := h4
        have hit : ∀ (k : D → Prop), opIx s (.ref j) (.int 0) k = k d := fun k => opIx_ref S.top (atI_lit _ 0)
        apply hnx3
        clear hnx3
        simp -implicitDefEqProofs [hlen, hout, hit]
        obtain ⟨_, hgd⟩ := rd_snd hr
        rw [S.eq]
        exact leave_drop (cl_gd _ _ hgd) (h d hr)
      · rw [if_neg h1]
        refine bad ?_
        rw [h4]
        cases top with
        | nil => rfl
        | cons a r => cases r with
          | nil => exact absurd rfl h1
          | cons _ _ => rfl
end K64

namespace K64
open PySem L2 DW TX
theorem cls_map {α : Type} (m : Nat) (e : α → D) (h : ∀ a, cl m (e a) = true) : ∀ xs : List α, cls m (xs.map e) = true
  | [] => rfl
  | x :: xs => by simp [cls, h, cls_map m e h xs]
theorem cl_dst (m : Nat) (x : Sx) : clM m (dst x) = true := by
  have h : cls m (x.s.map D.int) = true := cls_map m D.int (fun _ => rfl) _
  simp [dst, clM, cls, cl, h]

theorem b_law_start : BodyOk N_law_start P_law_start sp_law_start d_law_start := by
  rintro ds st Ed Q ⟨s, rfl, h⟩
  refine ⟨rfl, ?_⟩
  unfold d_law_start
  simp only [List.map_cons, List.map_nil, List.length_cons, List.length_nil, N_law_start, Nat.reduceAdd, Nat.reduceSub, List.replicate, List.cons_append, List.nil_append]
  simp -implicitDefEqProofs
  exact ⟨by decide, leave_stay h⟩

theorem b_law_is_int : BodyOk N_law_is_int P_law_is_int sp_law_is_int d_law_is_int := by
  rintro ds st Ed Q ⟨d, t, rfl, ht, h⟩
  refine ⟨rfl, ?_⟩
  unfold d_law_is_int
  simp only [List.map_cons, List.map_nil, List.length_cons, List.length_nil, N_law_is_int, Nat.reduceAdd, Nat.reduceSub, List.replicate, List.cons_append, List.nil_append]
  simp -implicitDefEqProofs
  have a1 := opIsi_e (c := "int") (k := fun z => opTru st (frz z) fun b => if b = true then opIsi st [frz d, frz (D.ty "bool")] fun z => opTru st (frz z) fun b => DW.Leave st (D.bl !b) st Q else DW.Leave st (frz z) st Q) (typN_frz ht) (by decide)
  refine Eq.mpr a1 ?_
  show if isiB t "int" = true then _ else _
  have a2 := opIsi_e (c := "bool") (k := fun z => opTru st (frz z) fun b => DW.Leave st (D.bl !b) st Q) (typN_frz ht) (by decide)
  by_cases e : t = "int"
  · subst e
    rw [if_pos (by decide)]
    refine Eq.mpr a2 ?_
    exact leave_stay h
  · by_cases e2 : t = "bool"
    · subst e2
      rw [if_pos (by decide)]
      refine Eq.mpr a2 ?_
      exact leave_stay h
    · have e3 : isiB t "int" = false := by unfold isiB; simp [e, e2]
      rw [e3]
      refine leave_stay ?_
      rw [show (t == "int") = false by simp [e]] at h
      exact h

theorem b_law_one_of : BodyOk N_law_one_of P_law_one_of sp_law_one_of d_law_one_of := by
  rintro ds st Ed Q ⟨x, items, rest, rfl, rfl, hne, hl, hc, h⟩
  refine ⟨rfl, ?_⟩
  unfold d_law_one_of
  simp only [List.map_cons, List.map_nil, List.length_cons, List.length_nil, N_law_one_of, Nat.reduceAdd, Nat.reduceSub, List.replicate, List.cons_append, List.nil_append]
  simp -implicitDefEqProofs
  refine ⟨x, items.length, rest, rfl, rfl, ?_, ?_, fun r x' h0 h1 => ?_⟩
  · have := List.length_pos_iff.mpr hne; omega
  · exact lg_small (by have := List.length_pos_iff.mpr hne; omega) (by omega)
  · obtain ⟨n, rfl⟩ := Int.eq_ofNat_of_zero_le h0
    have hn : n < items.length := by omega
    have e : atI items (n : Int) = some items[n] := by rw [atI_lit, List.getElem?_eq_getElem hn]
    rw [opIx_fl e]
    exact leave_stay (h _ _ (List.getElem_mem hn))

theorem b_law_draw : BodyOk N_law_draw P_law_draw sp_law_draw d_law_draw := by
  rintro ds st Ed Q ⟨x, m, rest, rfl, rfl, hm, hl, h⟩
  refine ⟨rfl, ?_⟩
  have hm0 : ¬ m = 0 := by omega
  have hd : ∀ i, CDivD i m := fun _ => ⟨hm0, hl⟩
  have fm : ∀ i : Int, 0 ≤ i.fmod m ∧ i.fmod m < m := fun i => ⟨Int.fmod_nonneg_of_pos i hm, Int.fmod_lt_of_pos i hm⟩
  have stay : ∀ {r a b c : Int}, 0 ≤ r → r < m → DW.Leave (dst x :: rest) (.int r) (.lst [.fl (x.s.map .int), .int a, .int b, .int c] :: rest) Q := fun {r a b c} h0 h1 => leave_stay (h r ⟨x.s, a, b, c⟩ h0 h1)
  unfold d_law_draw dst
  simp only [List.map_cons, List.map_nil, List.length_cons, List.length_nil, N_law_draw, Nat.reduceAdd, Nat.reduceSub, List.replicate, List.cons_append, List.nil_append]
  refine seq_i fun nx hnx => ?_
  simp -implicitDefEqProofs
  apply hnx
  refine seq_i fun nx hnx => ?_
  simp -implicitDefEqProofs
  split
  · refine seq_i fun nx hnx => ?_
    simp -implicitDefEqProofs [hm0]
    apply hnx
    refine seq_i fun nx hnx => ?_
    simp -implicitDefEqProofs [hd]
    apply hnx
    simp -implicitDefEqProofs
    exact stay (fm _).1 (fm _).2
  apply hnx
  refine seq_i fun nx hnx => ?_
  simp -implicitDefEqProofs
  apply hnx
  -- the cell
  refine seq_i fun nx hnx => ?_
  simp -implicitDefEqProofs
  have rest1 : ∀ cell : Int, 0 ≤ cell → nx [some (D.ref 0), some (D.int m), none, some (D.int cell), none] (MO.lst [D.fl (List.map D.int x.s), D.int x.a, D.int x.b, D.int (x.c + 1)] :: rest) := fun cell hc => by
    apply hnx
    clear hnx
    refine seq_i fun nx hnx => ?_
    simp -implicitDefEqProofs
    apply hnx
    refine seq_i fun nx hnx => ?_
    simp -implicitDefEqProofs
    refine ⟨⟨by decide, by decide, by decide⟩, ?_⟩
    split
    · refine seq_i fun nx hnx => ?_
      simp -implicitDefEqProofs [hd]
      apply hnx
      simp -implicitDefEqProofs [hm0]
      exact stay (fm _).1 (fm _).2
    · rename_i hc2
      apply hnx
      clear hnx
      have b1 : ∀ i j : Int, -(2 ^ 64) < j → j < 2 ^ 64 → IntMulOk i j := fun i j h1 h2 => CMul.ok (.inr ⟨h1, h2⟩)
      refine seq_i fun nx hnx => ?_
      simp -implicitDefEqProofs [b1]
      apply hnx
      refine seq_i fun nx hnx => ?_
      simp -implicitDefEqProofs [b1]
      refine ⟨⟨by decide, by decide⟩, ?_⟩
      apply hnx
      simp -implicitDefEqProofs [hm0]
      exact ⟨⟨by decide, by decide⟩, stay (fm _).1 (fm _).2⟩
  split
  · rename_i hs
    have hs' : 0 < x.s.length := hs
    have hi : 0 ≤ x.a.fmod x.s.length ∧ x.a.fmod x.s.length < x.s.length := ⟨Int.fmod_nonneg_of_pos _ (by omega), Int.fmod_lt_of_pos _ (by omega)⟩
    obtain ⟨j, hj, hj2⟩ : ∃ j : Nat, x.a.fmod x.s.length = (j : Int) ∧ j < x.s.length := ⟨(x.a.fmod x.s.length).toNat, by omega, by omega⟩
    have e : atI (x.s.map D.int) (x.a.fmod x.s.length) = some (D.int x.s[j]) := by rw [hj, atI_lit]; simp -implicitDefEqProofs [hj2]
    simp -implicitDefEqProofs [e, hs]
    refine ⟨fun z => by simp [z] at hs', rest1 _ ?_⟩
    split <;> omega
  · exact rest1 0 (by omega)


theorem dat_frz {k : Nat} {d : D} (h : dat k d) : frz d = d := by cases d <;> first | rfl | (cases k <;> exact h.elim)
theorem dats_get {k : Nat} : ∀ {ds : List D}, dats k ds → ∀ (i : Nat) (h : i < ds.length), dat k ds[i]
  | d :: ds, h, 0, _ => by unfold dats at h; exact h.1
  | d :: ds, h, i + 1, hi => by unfold dats at h; exact dats_get h.2 i (by simpa using hi)
theorem b_law_same (k : Nat) : BodyOk N_law_same P_law_same (spr_law_same (k+1)) (d_law_same (spr_law_same k)) := by
  rintro ds st Ed Q ⟨d, rfl, hd, h⟩
  refine ⟨rfl, ?_⟩
  unfold d_law_same
  simp only [List.map_cons, List.map_nil, List.length_cons, List.length_nil, N_law_same, Nat.reduceAdd, Nat.reduceSub, List.replicate, List.cons_append, List.nil_append]
  refine seq_i fun nx hnx => ?_
  cases d with
  | int i =>
    simp -implicitDefEqProofs [isi_i, isiB]
    apply hnx
    clear hnx
    refine seq_i fun nx hnx => ?_
    simp -implicitDefEqProofs [isi_i, isiB]
    apply hnx
    clear hnx
    simp -implicitDefEqProofs [isi_i, isiB]
    refine ⟨_, _, rfl, rfl, ?_⟩
    simp -implicitDefEqProofs
    exact leave_stay h
  | str i =>
    simp -implicitDefEqProofs [isi_s, isiB]
    apply hnx
    clear hnx
    refine seq_i fun nx hnx => ?_
    simp -implicitDefEqProofs [isi_s, isiB]
    exact leave_stay h
  | tup xs =>
    cases k with
    | zero => exact hd.elim
    | succ k =>
      obtain ⟨hl, hds⟩ := hd
      simp -implicitDefEqProofs [isi_t, isiB]
      refine seq_i fun nx2 hnx2 => ?_
      simp -implicitDefEqProofs [isi_t, isiB]
      apply hnx2
      clear hnx2
      simp -implicitDefEqProofs [isi_t, isiB]
      refine ⟨by omega, ?_⟩
      unfold rangeD
      refine lcN_map (fun i : Nat => D.int (0 + (i : Nat))) (fun _ => D.bl true) trivial (List.range xs.length) (len_size (by simp; omega)) (fun a ha kt hkt => ?_) ?_
      · have ha' : a < xs.length := List.mem_range.mp ha
        have e : atI xs (a : Int) = some xs[a] := by rw [atI_lit, List.getElem?_eq_getElem ha']
        simp -implicitDefEqProofs [wipeD, e]
        have hda := dats_get hds a ha'
        exact ⟨xs[a], by rw [dat_frz hda], hda, hkt⟩
      · rw [show ((List.range xs.length).map fun _ => D.bl true) = ((List.range xs.length).map fun _ => true).map .bl by rw [List.map_map]; rfl]
        unfold opAll
        rw [opAnyAll_e (show lisOf _ (.fl _) = some _ from rfl)]
        simp -implicitDefEqProofs
        exact leave_stay (by rw [show ((List.range xs.length).all fun _ => true) = true by rw [List.all_eq_true]; exact fun _ _ => rfl]; exact h)
  | _ => cases k <;> exact hd.elim


end K64

namespace K64
open PySem L2 DW TX
theorem b_law_some_integer : BodyOk N_law_some_integer P_law_some_integer sp_law_some_integer d_law_some_integer := by
  rintro ds st Ed Q ⟨x, rest, rfl, rfl, h⟩
  refine ⟨rfl, ?_⟩
  unfold d_law_some_integer
  simp only [List.map_cons, List.map_nil, List.length_cons, List.length_nil, N_law_some_integer, Nat.reduceAdd, Nat.reduceSub, List.replicate, List.cons_append, List.nil_append]
  refine seq_i fun nx hnx => ?_
  simp -implicitDefEqProofs
  refine ⟨x, 4, rest, rfl, rfl, by decide, lg_small (by decide) (by decide), fun r x1 h0 h1 => ?_⟩
  have sm : ∀ {i : Int}, i.natAbs < 10 ^ 10 → i.natAbs < 10 ^ 40 := fun {i} h => Nat.lt_trans h (by decide)
  apply hnx
  clear hnx
  refine seq_i fun nx hnx => ?_
  simp -implicitDefEqProofs
  split
  · refine ⟨by decide, x1, _, rest, rfl, rfl, by simp, by simp, rfl, fun d x2 hd => ?_⟩
    simp only [List.mem_cons, List.not_mem_nil, or_false] at hd
    rcases hd with rfl | rfl | rfl | rfl | rfl | rfl | rfl | rfl <;> exact leave_stay (h _ x2 (sm (by decide)))
  apply hnx
  clear hnx
  refine seq_i fun nx hnx => ?_
  simp -implicitDefEqProofs
  split
  · refine ⟨⟨by decide, by decide, by decide⟩, x1, _, rest, rfl, rfl, by decide, lg_small (by decide) (by decide), fun a x2 ha0 ha1 => ?_⟩
    simp -implicitDefEqProofs
    refine ⟨⟨by decide, by decide, by decide⟩, CMul.ok (.inr ⟨by decide, by decide⟩), ⟨by decide, by decide, by decide⟩, x2, _, rest, rfl, rfl, by decide, lg_small (by decide) (by decide), fun b x3 hb0 hb1 => ?_⟩
    simp -implicitDefEqProofs
    have hA : 0 ≤ (a + 1) * 1000000000000000 ∧ (a + 1) * 1000000000000000 < 10 ^ 25 := by omega
    obtain ⟨A, eA⟩ : ∃ A, A = (a + 1) * 1000000000000000 := ⟨_, rfl⟩
    rw [← eA] at hA ⊢
    refine ⟨CMul.ok (.inr ⟨by omega, by omega⟩), x3, _, rest, rfl, rfl, by decide, lg_small (by decide) (by decide), fun c x4 hc0 hc1 => ?_⟩
    simp -implicitDefEqProofs
    refine leave_stay (h _ x4 ?_)
    have hm : 0 ≤ A * (b + 1) ∧ A * (b + 1) ≤ 10 ^ 25 * 10 ^ 9 := ⟨Int.mul_nonneg hA.1 (by omega), Int.mul_le_mul (by omega) (by omega) (by omega) (by decide)⟩
    have h40 : (10 : Int) ^ 25 * 10 ^ 9 + 1000 < 10 ^ 40 := by decide
    omega
  · apply hnx
    clear hnx
    simp -implicitDefEqProofs
    refine ⟨x1, _, rest, rfl, rfl, by decide, lg_small (by decide) (by decide), fun a x2 ha0 ha1 => ?_⟩
    exact leave_stay (h _ x2 (sm (by omega)))
theorem sTryAs_e {cl : List (Addr × Bool)} {i : Nat} {db : DS} {dsu : Addr → Addr → DS} {Ed : EdT} {De : DEnds} {env : Slots} {st : Sto} : sTryAs cl i db dsu Ed De env st =
  db (fun C env' st' => ∃ b, (C, b) ∈ cl ∧ (b = true → ∀ a, dsu C a noEd { nx := fun e s => De.nx (e.set i none) s, rt := De.rt, bk := fun e s => De.bk (e.set i none) s, ct := fun e s => De.ct (e.set i none) s } (env'.set i (some (.con a))) st') ∧ (b = false → Ed C env' st')) De env st := rfl
theorem b_law_read (f1 f2 k1 k2 : Addr) : BodyOk N_law_read P_law_read (sp_law_read f1 f2 k1 k2) (d_law_read f1 f2 k1 k2) := by
  rintro ds st Ed Q ⟨l, hl, h⟩
  have exc : ∀ (st' : Sto) (a : Addr), DW.Leave st (.tup []) st' Q → opIsE a k2 true st' [frz (D.con a), frz (D.con k2)] fun z =>
                opInt st' [frz z] fun z =>
                  opIx st' (frz (D.tl [frz (D.str (Str.ofString "none")), frz (D.tup [])])) (frz z) fun z =>
                    DW.Leave st z st' Q := fun st' a h => ⟨rfl, rfl, h⟩
  rcases h with ⟨rfl, h⟩ | ⟨rfl, h⟩
  · refine ⟨rfl, ?_⟩
    unfold d_law_read
    simp only [List.map_cons, List.map_nil, List.length_cons, List.length_nil, N_law_read, Nat.reduceAdd, Nat.reduceSub, List.replicate, List.cons_append, List.nil_append]
    rw [sTryAs_e]
    simp -implicitDefEqProofs
    refine .inl ⟨rfl, ?_⟩
    simp -implicitDefEqProofs
    refine ⟨l, rfl, hl, fun n hn => ⟨by decide, leave_stay ?_⟩, fun hn => ⟨rfl, fun a => ⟨rfl, by decide, exc _ _ (leave_stay ?_)⟩⟩⟩
    · rw [hn] at h; exact h
    · rw [hn] at h; exact h
  · refine ⟨rfl, ?_⟩
    unfold d_law_read
    simp only [List.map_cons, List.map_nil, List.length_cons, List.length_nil, N_law_read, Nat.reduceAdd, Nat.reduceSub, List.replicate, List.cons_append, List.nil_append]
    rw [sTryAs_e]
    simp -implicitDefEqProofs
    refine .inr ⟨rfl, ?_⟩
    simp -implicitDefEqProofs
    refine ⟨l, rfl, hl, fun n hn => ⟨by decide, leave_stay ?_⟩, fun hn => ⟨rfl, fun a => ⟨rfl, by decide, exc _ _ (leave_stay ?_)⟩⟩⟩
    · rw [hn] at h
      rw [gd_frz (rd_snd hn).2]
      exact h
    · rw [hn] at h; exact h
theorem flat1 : ∀ l : List Nat, (l.map fun c => [c]).flatten = l
  | [] => rfl
  | c :: l => by rw [List.map_cons, List.flatten_cons, flat1 l]; rfl
theorem smOks_app {B : Nat} : ∀ {a b : List D}, smOks B a → smOks B b → smOks B (a ++ b)
  | [], _, _, h => h
  | d :: a, b, h, h' => by unfold smOks at h; rw [List.cons_append]; unfold smOks; exact ⟨h.1, smOks_app h.2 h'⟩
theorem sum_le {α : Type} (f : α → Nat) {B : Nat} : ∀ {l : List α}, (∀ a ∈ l, f a ≤ B) → (l.map f).sum ≤ l.length * B
  | [], _ => by simp
  | a :: l, h => by
    have h1 := h a List.mem_cons_self
    have h2 := sum_le f (l := l) fun b hb => h b (List.mem_cons_of_mem _ hb)
    rw [List.map_cons, List.sum_cons, List.length_cons, Nat.succ_mul]
    omega
theorem wrs_len2 : ∀ ds : List D, (wrs ds).length ≤ (ds.map fun d => (wr d).length).sum + 2 * (ds.length - 1)
  | [] => by simp [wrs]
  | d :: r => by
    rw [wrs]
    simp only [List.length_append, List.map_cons, List.sum_cons, wrt_len r, List.length_cons]
    omega
theorem b_law_some_text : BodyOk N_law_some_text P_law_some_text sp_law_some_text d_law_some_text := by
  rintro ds st Ed Q ⟨x, rest, rfl, rfl, h⟩
  refine ⟨rfl, ?_⟩
  unfold d_law_some_text
  simp only [List.map_cons, List.map_nil, List.length_cons, List.length_nil, N_law_some_text, Nat.reduceAdd, Nat.reduceSub, List.replicate, List.cons_append, List.nil_append]
  refine seq_i fun nx hnx => ?_
  simp -implicitDefEqProofs
  refine ⟨by decide, ?_⟩
  apply hnx
  clear hnx
  simp -implicitDefEqProofs [l_nil]
  refine ⟨x, _, rest, rfl, rfl, by decide, lg_small (by decide) (by decide), fun r x1 h0 h1 => ?_⟩
  refine ⟨by omega, by omega, ?_⟩
  unfold rangeD
  refine lcN_inv (fun i : Nat => D.int (0 + (i : Nat))) (fun done acc s => ∃ (l : List Nat) (x2 : Sx), acc = (l.map fun c => [c]).map tx ∧ s = dst x2 :: rest ∧ l.length = done.length ∧ l.all plc = true) (List.range r.toNat) (len_size (by simp; omega)) ⟨[], x1, rfl, rfl, rfl, rfl⟩ (fun _ _ _ _ => trivial) ?_ ?_
  · rintro done a rs hi acc s ⟨l, x2, rfl, rfl, hl, hp⟩
    refine ⟨_, rfl, fun kt hkt => ?_⟩
    simp -implicitDefEqProofs [wipeD]
    refine ⟨x2, _, rest, rfl, rfl, by simp, by simp, rfl, fun d x3 hd => ?_⟩
    obtain ⟨c, rfl, hc⟩ : ∃ c, d = tx [c] ∧ plc c = true := by
      simp only [List.mem_cons, List.not_mem_nil, or_false] at hd
      rcases hd with rfl | rfl | rfl | rfl | rfl | rfl | rfl | rfl | rfl | rfl | rfl | rfl | rfl | rfl | rfl | rfl <;> exact ⟨_, rfl, by decide⟩
    refine hkt _ _ ⟨l ++ [c], x3, by simp [keep], rfl, by simp [hl], by rw [List.all_append, hp]; simp [hc]⟩
  · rintro acc s ⟨l, x2, rfl, rfl, hl, hp⟩
    have e1 : TL.joinL [] (l.map fun c => [c]) = l := by
      rw [joinL_nil]
      exact flat1 l
    have e2 : ∀ l : List Nat, ((l.map fun c => [c]).map List.length).sum = l.length := by
      intro l
      induction l with
      | nil => rfl
      | cons c l ih => rw [List.map_cons, List.map_cons, List.sum_cons, ih, List.length_cons]; simp; omega
    have hl5 : l.length ≤ 5 := by rw [hl, List.length_range]; omega
    refine Eq.mpr (opJoin_tx (ys := l.map fun c => [c]) rfl) ⟨?_, ?_⟩
    · rw [e2, List.length_map]
      simp
      omega
    · rw [e1]
      exact leave_stay (h l x2 hl5 hp)
theorem b_law_some_datum (k : Nat) : BodyOk N_law_some_datum P_law_some_datum (spr_law_some_datum (k + 1)) (d_law_some_datum (spr_law_some_datum k)) := by
  rintro ds st Ed Q ⟨x, j, rest, rfl, rfl, hj, hj4, h⟩
  refine ⟨rfl, ?_⟩
  have wlm : ∀ j, 41 ≤ wl j := by
    intro j
    induction j with
    | zero => exact Nat.le_refl _
    | succ j ih => unfold wl; omega
  unfold d_law_some_datum
  simp only [List.map_cons, List.map_nil, List.length_cons, List.length_nil, N_law_some_datum, Nat.reduceAdd, Nat.reduceSub, List.replicate, List.cons_append, List.nil_append]
  refine seq_i fun nx hnx => ?_
  simp -implicitDefEqProofs
  refine ⟨x, _, rest, rfl, rfl, by decide, lg_small (by decide) (by decide), fun r x1 h0 h1 => ?_⟩
  apply hnx
  clear hnx
  refine seq_i fun nx hnx => ?_
  simp -implicitDefEqProofs
  have more : nx [some (.ref 0), some (.int (j : Nat)), some (.int r), none] (dst x1 :: rest) := by
    apply hnx
    clear hnx
    refine seq_i fun nx hnx => ?_
    simp -implicitDefEqProofs
    split
    · refine ⟨x1, rest, rfl, rfl, fun l x2 hl hp => leave_stay (h _ x2 ?_ ?_ ?_)⟩
      · unfold tx gd; exact hp
      · unfold tx smOk
        show (⟨l.toArray⟩ : Str).length ≤ 40
        rw [len_tx]; omega
      · rw [wr_tx]
        have := wlm j
        simp
        omega
    · apply hnx
      clear hnx
      simp -implicitDefEqProofs
      refine ⟨x1, rest, rfl, rfl, fun n x2 hn => leave_stay (h _ x2 ?_ ?_ ?_)⟩
      · unfold gd; trivial
      · unfold smOk; exact TL.numL_len (by decide) hn
      · have h40 : (TL.numL n.natAbs).length ≤ 40 := TL.numL_len (by decide) hn
        have := wlm j
        unfold wr decL
        split <;> simp <;> omega
  by_cases hk : 2 < r ∧ 0 < j
  · rw [if_pos hk.1, if_pos hk.2]
    obtain ⟨k, rfl⟩ : ∃ k', k = k' + 1 := ⟨k - 1, by omega⟩
    obtain ⟨j, rfl⟩ : ∃ j', j = j' + 1 := ⟨j - 1, by omega⟩
    refine ⟨x1, _, rest, rfl, rfl, by decide, lg_small (by decide) (by decide), fun c x2 hc0 hc1 => ?_⟩
    refine ⟨by omega, by omega, ?_⟩
    unfold rangeD
    refine lcN_inv (fun i : Nat => D.int (0 + (i : Nat))) (fun done acc s => ∃ (x2 : Sx), s = dst x2 :: rest ∧ acc.length = done.length ∧ gds j acc ∧ smOks 40 acc ∧ ∀ d ∈ acc, (wr d).length ≤ wl j) (List.range c.toNat) (len_size (by simp; omega)) ⟨x2, rfl, rfl, by unfold gds; trivial, by unfold smOks; trivial, by simp⟩ (fun _ _ _ _ => trivial) ?_ ?_
    · rintro done a rs hi acc s ⟨x2, rfl, hl, hg, hs, hw⟩
      refine ⟨_, rfl, fun kt hkt => ?_⟩
      simp -implicitDefEqProofs [wipeD]
      refine ⟨x2, j, rest, ?_, rfl, by omega, by omega, fun d x3 hd hsm hwl => ?_⟩
      · rfl
      · refine hkt _ _ ⟨x3, rfl, by simp [hl], ?_, ?_, ?_⟩
        · exact gds_app hg (gds1 (by show gd j (frz d); rw [gd_frz hd]; exact hd))
        · refine smOks_app hs ?_
          show smOks 40 [frz d]
          rw [gd_frz hd]
          unfold smOks
          exact ⟨hsm, by unfold smOks; trivial⟩
        · intro e he
          rcases List.mem_append.mp he with he | he
          · exact hw e he
          · cases List.mem_singleton.mp he
            show (wr (frz d)).length ≤ wl j
            rw [gd_frz hd]
            exact hwl
    · rintro acc s ⟨x2, rfl, hl, hg, hs, hw⟩
      simp -implicitDefEqProofs
      have hal : acc.length ≤ 3 := by rw [hl, List.length_range]; omega
      refine leave_stay (h _ x2 (by unfold gd; exact hg) (by unfold smOk; exact hs) ?_)
      have h1 := wrs_len2 acc
      have h2 := sum_le (fun d => (wr d).length) hw
      have h3 : acc.length * wl j ≤ 3 * wl j := Nat.mul_le_mul_right _ hal
      rw [wr]
      unfold wl
      simp only [List.length_cons, List.length_append, List.length_nil]
      omega
  · by_cases h2 : 2 < r
    · rw [if_pos h2, if_neg (fun z => hk ⟨h2, z⟩)]
      exact more
    · rw [if_neg h2]
      exact more
theorem RunLe.bent {l : List Nat} {a b c : List Nat} (ha : ∀ B, RunLe B l → RunLe B a) (hb : b.length ≤ 2) (hc : ∀ B, RunLe B l → RunLe B c) (hl : a.length + c.length ≤ 2 * l.length) : Bent l (a ++ b ++ c) := by
  refine ⟨by simp; omega, fun B h => ?_⟩
  have := ((ha B h).app ((RunLe.len b).mono hb)).app (hc B h)
  exact this.mono (by omega)
theorem b_law_changed : BodyOk N_law_changed P_law_changed sp_law_changed d_law_changed := by
  rintro ds st Ed Q ⟨x, rest, l, rfl, rfl, hl, h⟩
  refine ⟨rfl, ?_⟩
  have hsz : l.length ≤ sizeLine := len_size (by omega)
  have l_sp : D.str (Str.ofString " ") = tx [32] := rfl
  unfold d_law_changed
  simp only [List.map_cons, List.map_nil, List.length_cons, List.length_nil, N_law_changed, Nat.reduceAdd, Nat.reduceSub, List.replicate, List.cons_append, List.nil_append]
  refine seq_i fun nx hnx => ?_
  simp -implicitDefEqProofs [l_nil, l_op, l_cl, l_sep, l_sp]
  refine ⟨len_size (by omega), len_size (by omega), len_size (by omega), len_size (by omega), len_size (by omega), len_size (by omega), by decide, ?_⟩
  apply hnx
  clear hnx
  refine seq_i fun nx hnx => ?_
  have pl : ∀ B, RunLe B l → RunLe B l := fun _ h => h
  have pn : ∀ B, RunLe B l → RunLe B [] := fun _ _ => .nil
  have pt : ∀ k B, RunLe B l → RunLe B (l.take k) := fun k _ h => h.take k
  have pd : ∀ k B, RunLe B l → RunLe B (l.drop k) := fun k _ h => h.drop k
  have b0 : ∀ b ∈ [l ++ [32], 32 :: l, l ++ [41], 40 :: l, l ++ l, l ++ [44, 32], []], Bent l b := by
    intro b hb
    simp only [List.mem_cons, List.not_mem_nil, or_false] at hb
    rcases hb with rfl | rfl | rfl | rfl | rfl | rfl | rfl
    · simpa using RunLe.bent (l := l) (b := [32]) pl (by decide) pn (by simp; omega)
    · simpa using RunLe.bent (l := l) (b := [32]) pn (by decide) pl (by simp; omega)
    · simpa using RunLe.bent (l := l) (b := [41]) pl (by decide) pn (by simp; omega)
    · simpa using RunLe.bent (l := l) (b := [40]) pn (by decide) pl (by simp; omega)
    · simpa using RunLe.bent (l := l) (b := []) pl (by decide) pl (by omega)
    · simpa using RunLe.bent (l := l) (b := [44, 32]) pl (by decide) pn (by simp; omega)
    · simpa using RunLe.bent (l := l) (b := []) pn (by decide) pn (by simp)
  simp -implicitDefEqProofs
  unfold rangeD
  refine forN_inv (fun i : Nat => D.int (0 + (i : Nat))) (fun done env s => ∃ (bs : List (List Nat)) (x2 : Sx) (z3 z4 z5 : Option D), env = [some (.ref 0), some (tx l), some (.fl (bs.map tx)), z3, z4, z5] ∧ s = dst x2 :: rest ∧ (∀ b ∈ bs, Bent l b) ∧ bs.length = 7 + 4 * done.length) (List.range _) ⟨_, x, none, none, none, rfl, rfl, b0, rfl⟩ (fun _ _ _ _ => trivial) ?_ ?_
  · rintro done a rs hi env s ⟨bs, x2, z3, z4, z5, rfl, rfl, hbs, hbl⟩
    obtain ⟨rfl, ha⟩ := range_mid hi
    refine ⟨_, rfl, fun nx2 hnx2 => ?_⟩
    refine seq_i fun nx hnx => ?_
    simp -implicitDefEqProofs
    refine ⟨hsz, x2, _, rest, rfl, rfl, by omega, lg_small (by omega) (by omega), fun r x3 h0 h1 => ?_⟩
    obtain ⟨k, rfl⟩ := Int.eq_ofNat_of_zero_le h0
    have hk : k ≤ l.length := by omega
    apply hnx
    clear hnx
    refine seq_i fun nx hnx => ?_
    simp -implicitDefEqProofs [l_q, l_op, l_cl, l_sp]
    refine ⟨by decide, x3, _, rest, rfl, rfl, by simp, by simp, rfl, fun d x4 hd => ?_⟩
    obtain ⟨c, rfl⟩ : ∃ c, d = tx [c] := by
      simp only [List.mem_cons, List.not_mem_nil, or_false] at hd
      rcases hd with rfl | rfl | rfl | rfl | rfl | rfl | rfl | rfl | rfl | rfl | rfl <;> exact ⟨_, rfl⟩
    apply hnx
    clear hnx
    have c1 : cutD l none (some (k : Int)) = l.take k := cutD_to l k
    have c2 : cutD l (some ((k : Int) + 1)) none = l.drop (k + 1) := cutD_from l (k + 1)
    have c3 : cutD l (some (k : Int)) none = l.drop k := cutD_from l k
    have c4 : cutD l (some (k : Int)) (some ((k : Int) + 1)) = (l.drop k).take 1 := by
      rw [show (k : Int) + 1 = ((k + 1 : Nat) : Int) from rfl, cutD_mid, show k + 1 - k = 1 by omega]
    simp -implicitDefEqProofs [c1, c2, c3, c4]
    have le : ∀ n, n ≤ 3 * l.length + 4 → n ≤ sizeLine := fun n hn => len_size (by omega)
    refine ⟨hsz, le _ (by omega), hsz, le _ (by omega), hsz, le _ (by omega), hsz, le _ (by omega), hsz, le _ (by omega), hsz, le _ (by omega), hsz, le _ (by omega), by decide, ?_⟩
    refine Eq.mpr (opAdd_ll (ds1 := bs.map tx) rfl rfl) ⟨len_size (by simp at ha ⊢; omega), ?_⟩
    refine hnx2 _ _ ⟨bs ++ [l.take k ++ l.drop (k + 1), l.take k ++ c :: l.drop (k + 1), l.take k ++ c :: l.drop k, l.take k ++ ((l.drop k).take 1 ++ l.drop k)], x4, some (.int done.length), some (.int k), some (tx [c]), ?_, rfl, ?_, ?_⟩
    · rw [List.map_append]
      rfl
    · intro b hb
      rcases List.mem_append.mp hb with hb | hb
      · exact hbs b hb
      have hd1 : (l.drop (k + 1)).length = l.length - (k + 1) := List.length_drop
      have hd2 : (l.drop k).length = l.length - k := List.length_drop
      have ht1 : (l.take k).length ≤ k := by rw [List.length_take]; omega
      simp only [List.mem_cons, List.not_mem_nil, or_false] at hb
      rcases hb with rfl | rfl | rfl | rfl
      · have := RunLe.bent (l := l) (b := []) (pt k) (by decide) (pd (k + 1)) (by omega)
        rwa [List.append_nil] at this
      · have := RunLe.bent (l := l) (b := [c]) (pt k) (by simp) (pd (k + 1)) (by omega)
        rwa [List.append_assoc] at this
      · have := RunLe.bent (l := l) (b := [c]) (pt k) (by simp) (pd k) (by omega)
        rwa [List.append_assoc] at this
      · have := RunLe.bent (l := l) (b := (l.drop k).take 1) (pt k) (by rw [List.length_take]; omega) (pd k) (by omega)
        rwa [List.append_assoc] at this
    · simp at hbl ⊢
      omega
  · rintro env s ⟨bs, x2, z3, z4, z5, rfl, rfl, hbs, hbl⟩
    apply hnx
    clear hnx
    simp -implicitDefEqProofs
    exact leave_stay (h bs x2 hbs (by rw [hbl]; simp))
mutual
theorem gd_ps {k : Nat} : ∀ {d : D}, gd k d → ps k d
  | .int _, _ => by unfold ps; trivial
  | .str x, h => by
    unfold gd at h
    unfold ps
    show x.cps.all (· < 0x110000) = true
    rw [← Array.all_toList, List.all_eq_true]
    rw [List.all_eq_true] at h
    intro c hc
    have := h c hc
    simp [plc] at this
    exact decide_eq_true (by omega)
  | .tup ds, h => by
    cases k with
    | zero => exact h.elim
    | succ k => unfold gd at h; unfold ps; exact gds_pss h
  | .non, h => by cases k <;> exact h.elim
  | .bl _, h => by cases k <;> exact h.elim
  | .ref _, h => by cases k <;> exact h.elim
  | .fl _, h => by cases k <;> exact h.elim
  | .sl _, h => by cases k <;> exact h.elim
  | .tl _, h => by cases k <;> exact h.elim
  | .fd _ _, h => by cases k <;> exact h.elim
  | .td _ _, h => by cases k <;> exact h.elim
  | .con _, h => by cases k <;> exact h.elim
  | .ty _, h => by cases k <;> exact h.elim
theorem gds_pss {k : Nat} : ∀ {ds : List D}, gds k ds → pss k ds
  | [], _ => by unfold pss; trivial
  | d :: r, h => by unfold gds at h; unfold pss; exact ⟨gd_ps h.1, gds_pss h.2⟩
end
theorem nil_ps : ps 1 (.tup []) := by unfold ps pss; trivial
/-- compared with () -/
theorem eq_nil {neg : Bool} {st : Sto} {k : D → Prop} {o : Option D} (h : ∀ d, o = some d → gd 20 d) : opEqW neg st (.tup o.toList) (.tup []) k = k (.bl (neg ^^ o.isNone)) := by
  cases o with
  | none => exact opEqW_ps nil_ps nil_ps (by decide) (by decide) (by simp)
  | some d => exact opEqW_ps (x := .tup [d]) (n := 21) (by unfold ps pss; exact ⟨gd_ps (h d rfl), by unfold pss; trivial⟩) nil_ps (by decide) (by decide) (by simp)
theorem rd_gd {l : List Nat} : ∀ d, rd l = some d → gd 20 d := fun d h => (rd_snd h).2
def deepT (m : Nat) : List (List Nat) := [List.replicate m 40 ++ List.replicate m 41, List.replicate m 40 ++ 49 :: 44 :: 32 :: 39 :: 97 :: 39 :: List.replicate m 41]
theorem deep_ok : ∀ p ∈ [((1 : Nat), true), (20, true), (21, false), (60, false)], ∀ w ∈ deepT p.1, (rd w).isNone = !p.2 := by decide +kernel
theorem b_law_deep_fits (f1 f2 k1 k2 : Addr) : BodyOk N_law_deep_fits P_law_deep_fits (sp_law_deep_fits f1 f2 k1 k2) (d_law_deep_fits f1 f2 k1 k2) := by
  rintro ds st Ed Q ⟨rfl, h⟩
  refine ⟨rfl, ?_⟩
  have l_one : D.str (Str.ofString "1, 'a'") = tx [49, 44, 32, 39, 97, 39] := rfl
  unfold d_law_deep_fits
  simp only [List.map_cons, List.map_nil, List.length_cons, List.length_nil, N_law_deep_fits, Nat.reduceAdd, Nat.reduceSub, List.replicate, List.cons_append, List.nil_append]
  refine seq_i fun nx hnx => ?_
  simp -implicitDefEqProofs
  refine ⟨by decide, by decide, ?_⟩
  refine forN_inv (fun p : Nat × Bool => D.tup [.int p.1, .bl p.2]) (fun _ env s => ∃ z1 z2 z3, env = [z1, z2, z3] ∧ s = st) [(1, true), (20, true), (21, false), (60, false)] ⟨_, _, _, rfl, rfl⟩ (fun _ _ _ _ => trivial) ?_ ?_
  · rintro done ⟨m, due⟩ rest hi env s ⟨z1, z2, z3, rfl, rfl⟩
    have hp : (m, due) ∈ [((1 : Nat), true), (20, true), (21, false), (60, false)] := by rw [hi]; simp
    have hok := deep_ok _ hp
    have hm : 1 ≤ m ∧ m ≤ 60 := by
      simp only [List.mem_cons, List.not_mem_nil, or_false, Prod.mk.injEq] at hp
      omega
    have hfl : ∀ c : Nat, ((List.replicate m [c]).flatten).length = m := fun c => by simp
    refine ⟨_, rfl, fun nx2 hnx2 => ?_⟩
    simp only [l_op, l_cl, l_one]
    simp -implicitDefEqProofs
    refine ⟨by omega, by omega, by omega, by omega, by omega, by omega, len_size (by omega), by omega, by omega, by omega, len_size (by omega), by omega, by omega, by omega, len_size (by omega), by decide, ?_⟩
    refine forN_inv tx (fun _ env s2 => ∃ y, env = [some (.int m), some (.bl due), y] ∧ s2 = s) (deepT m) ⟨z3, rfl, rfl⟩ (fun _ _ _ _ => trivial) ?_ ?_
    · rintro done2 w rest2 hi2 env s2 ⟨y, rfl, rfl⟩
      have hw : w ∈ deepT m := by rw [hi2]; simp
      have hr := hok w hw
      have hwl : w.length ≤ 126 := by
        unfold deepT at hw
        simp only [List.mem_cons, List.not_mem_nil, or_false] at hw
        rcases hw with rfl | rfl <;> simp <;> omega
      refine ⟨_, rfl, fun nx3 hnx3 => ?_⟩
      simp -implicitDefEqProofs
      refine ⟨w, by omega, .inr ⟨rfl, ?_⟩⟩
      refine Eq.mpr (eq_nil rd_gd) ?_
      rw [hr]
      simp -implicitDefEqProofs
      exact hnx3 _ _ ⟨_, rfl, rfl⟩
    · rintro env s2 ⟨y, rfl, rfl⟩
      exact hnx2 _ _ ⟨_, _, _, rfl, rfl⟩
  · rintro env s ⟨z1, z2, z3, rfl, rfl⟩
    apply hnx
    clear hnx
    simp -implicitDefEqProofs
    exact leave_stay h
end K64

namespace K64
open PySem L2 DW TX
abbrev L9 (scr z2 z3 z4 z5 z6 z7 z8 : Option D) : Slots := [scr, some (.ref 0), z2, z3, z4, z5, z6, z7, z8]
def badT : List (List Nat) := [[], [39], [97], [40, 49, 44, 50, 41], [40, 49, 32, 44, 32, 50, 41], [40, 49, 44, 32, 41], [40, 44, 32, 49, 41], [40, 49, 44, 32, 50], [49, 41], [39, 97, 39, 98], [39, 39, 39, 32], [40, 41, 40, 41], [40, 32, 41], [84, 114, 117, 101], [91, 49, 93], [49, 46, 53], [40, 49, 59, 50, 41]]
theorem bad_no : ∀ w ∈ badT, (rd w).isNone = true ∧ w.length ≤ 10 := by decide +kernel
theorem optI_eq (o : Option Int) : optI o = (o.map D.int).toList := by cases o <;> rfl
theorem nilI (b : List Nat) {st : Sto} {neg : Bool} {k : D → Prop} : opEqW neg st (.tup (optI (readI b))) (.tup []) k = k (.bl (neg ^^ (readI b).isNone)) := by
  rw [optI_eq]
  refine (eq_nil fun d h => ?_).trans ?_
  · cases e : readI b with
    | none => rw [e] at h; cases h
    | some n => rw [e] at h; cases h; unfold gd; trivial
  · cases readI b <;> rfl
mutual
theorem gd_dat {k : Nat} : ∀ {d : D}, gd k d → (wr d).length ≤ 100000 → dat k d
  | .int _, _, _ => by unfold dat; trivial
  | .str _, _, _ => by unfold dat; trivial
  | .tup ds, h, hl => by
    cases k with
    | zero => exact h.elim
    | succ k =>
      unfold gd at h
      unfold dat
      have h1 := wrs_len ds
      have hl2 := hl
      rw [wr, List.length_cons, List.length_append] at hl2
      exact ⟨by omega, gds_dat h fun d hd => wr_mem hd hl⟩
  | .non, h, _ => by cases k <;> exact h.elim
  | .bl _, h, _ => by cases k <;> exact h.elim
  | .ref _, h, _ => by cases k <;> exact h.elim
  | .fl _, h, _ => by cases k <;> exact h.elim
  | .sl _, h, _ => by cases k <;> exact h.elim
  | .tl _, h, _ => by cases k <;> exact h.elim
  | .fd _ _, h, _ => by cases k <;> exact h.elim
  | .td _ _, h, _ => by cases k <;> exact h.elim
  | .con _, h, _ => by cases k <;> exact h.elim
  | .ty _, h, _ => by cases k <;> exact h.elim
theorem gds_dat {k : Nat} : ∀ {ds : List D}, gds k ds → (∀ d ∈ ds, (wr d).length ≤ 100000) → dats k ds
  | [], _, _ => by unfold dats; trivial
  | d :: r, h, hl => by
    unfold gds at h
    unfold dats
    exact ⟨gd_dat h.1 (hl d List.mem_cons_self), gds_dat h.2 fun e he => hl e (List.mem_cons_of_mem _ he)⟩
end
theorem b_law (f1 f2 k1 k2 : Addr) : BodyOk N_law P_law sp_law (d_law f1 f2 k1 k2) := by
  rintro ds st Ed Q ⟨s, rfl, rfl, h⟩
  refine ⟨rfl, ?_⟩
  unfold d_law
  simp only [List.map_cons, List.map_nil, List.length_cons, List.length_nil, N_law, Nat.reduceAdd, Nat.reduceSub, List.replicate, List.cons_append, List.nil_append]
  refine seq_i fun nx hnx => ?_
  simp -implicitDefEqProofs
  refine ⟨s, rfl, ?_⟩
  simp -implicitDefEqProofs
  apply hnx
  clear hnx
  refine seq_i fun nx hnx => ?_
  simp -implicitDefEqProofs
  unfold rangeD
  refine forN_inv (fun i : Nat => D.int (0 + (i : Nat))) (fun _ env s2 => ∃ z2 z3 z4 z5 z6 z7 z8 x, env = L9 (some (.sl (s.map .int))) z2 z3 z4 z5 z6 z7 z8 ∧ s2 = [dst x]) (List.range _) ⟨_, _, _, _, _, _, _, ⟨s, 0, 0, 0⟩, rfl, rfl⟩ (fun _ _ _ _ => trivial) ?_ ?_
  · rintro _ turn _ _ env s2 ⟨z2, z3, z4, z5, z6, z7, z8, x, rfl, rfl⟩
    refine ⟨_, rfl, fun nx2 hnx2 => ?_⟩
    refine seq_i fun nx hnx => ?_
    simp -implicitDefEqProofs
    refine ⟨x, [], rfl, rfl, fun n0 x hn0 => ?_⟩
    simp -implicitDefEqProofs
    refine ⟨by decide, x, 2, [], rfl, rfl, by decide, lg_small (by decide) (by decide), fun r x hr0 hr1 => ?_⟩
    have hix : ∀ k : D → Prop, opIx [dst x] (.fl [.int 1, .int (-1)]) (.int r) k = k (.int (if r = 0 then 1 else -1)) := fun k => by
      have : r = 0 ∨ r = 1 := by omega
      rcases this with rfl | rfl <;> rfl
    refine Eq.mpr (hix _) ?_
    have hmul : n0 * (if r = 0 then 1 else -1) = if r = 0 then n0 else -n0 := by split <;> omega
    simp -implicitDefEqProofs [hmul]
    obtain ⟨n, en⟩ : ∃ n, n = if r = 0 then n0 else -n0 := ⟨_, rfl⟩
    have hn : n.natAbs < 10 ^ 40 := by rw [en]; split <;> omega
    have hnl : (TL.numL n.natAbs).length ≤ 40 := TL.numL_len (by decide) hn
    refine ⟨CMul.ok (.inr (by split <;> constructor <;> decide)), ?_⟩
    rw [show frz (D.int (if r = 0 then n0 else -n0)) = D.int n by rw [en]]
    clear en hmul hix
    -- text
    apply hnx
    clear hnx
    refine seq_i fun nx hnx => ?_
    simp -implicitDefEqProofs
    refine ⟨n, rfl, by omega, ?_⟩
    apply hnx
    clear hnx
    -- the right reading
    refine seq_i fun nx hnx => ?_
    simp -implicitDefEqProofs
    have hdl : (decL n).length ≤ 41 := by unfold decL; split <;> (try simp only [List.length_cons]) <;> omega
    refine ⟨n, rfl, (fun e => by cases e), by omega, ?_⟩
    refine ⟨tx (decL n), rfl, by unfold tx dat; trivial, ?_⟩
    simp -implicitDefEqProofs
    refine ⟨decL n, by omega, .inl ⟨rfl, ?_⟩⟩
    rw [readI_dec]
    simp -implicitDefEqProofs
    refine ⟨by decide, .tup [.int n], rfl, by unfold dat dats; exact ⟨by simp, by unfold dat; trivial, by unfold dats; trivial⟩, ?_⟩
    simp -implicitDefEqProofs
    apply hnx
    clear hnx
    -- the changed ones
    refine seq_i fun nx hnx => ?_
    have l1 : D.str (Str.ofString "+") = tx [43] := rfl
    have l2 : D.str (Str.ofString "--1") = tx [45, 45, 49] := rfl
    have l3 : D.str (Str.ofString "-0") = tx [45, 48] := rfl
    have l4 : D.str (Str.ofString "00") = tx [48, 48] := rfl
    have l5 : D.str (Str.ofString "1_0") = tx [49, 95, 48] := rfl
    have l6 : D.str (Str.ofString "0x1") = tx [48, 120, 49] := rfl
    have l7 : D.str (Str.ofString "1e3") = tx [49, 101, 51] := rfl
    simp only [l1, l2, l3, l4, l5, l6, l7, l_0, l_minus]
    simp -implicitDefEqProofs
    refine ⟨x, [], decL n, rfl, rfl, by omega, fun bs x hbs hbl => ?_⟩
    refine ⟨len_size (by omega), by decide, len_size (by simp; omega), ?_⟩
    obtain ⟨cs, hcs⟩ : ∃ cs, cs = bs ++ [43 :: decL n, 48 :: decL n, 45 :: decL n, [45, 45, 49], [45, 48], [48, 48], [49, 95, 48], [48, 120, 49], [49, 101, 51]] := ⟨_, rfl⟩
    have ecs : List.map tx bs ++ [tx (43 :: decL n), tx (48 :: decL n), tx (45 :: decL n), tx [45, 45, 49], tx [45, 48], tx [48, 48], tx [49, 95, 48], tx [48, 120, 49], tx [49, 101, 51]] = cs.map tx := by rw [hcs, List.map_append]; rfl
    rw [ecs]
    clear ecs
    have hcl : ∀ c ∈ cs, c.length ≤ 200 := by
      intro c hc
      rw [hcs] at hc
      rcases List.mem_append.mp hc with hc | hc
      · have := (hbs c hc).1; omega
      · simp only [List.mem_cons, List.not_mem_nil, or_false] at hc
        rcases hc with rfl | rfl | rfl | rfl | rfl | rfl | rfl | rfl | rfl <;> simp <;> omega
    clear hcs hbs
    refine forN_inv tx (fun _ env s2 => ∃ z5 z6, env = L9 (some (.sl (s.map .int))) (some (.int turn)) (some (.int n)) (some (tx (decL n))) z5 z6 z7 z8 ∧ s2 = [dst x]) cs ⟨_, _, rfl, rfl⟩ (fun _ _ _ _ => trivial) ?_ ?_
    · rintro done b rs hi env s2 ⟨z5, z6, rfl, rfl⟩
      have hbl := hcl b (by rw [hi]; simp)
      refine ⟨_, rfl, fun nx3 hnx3 => ?_⟩
      refine seq_i fun nx hnx => ?_
      simp -implicitDefEqProofs
      refine ⟨b, by omega, .inl ⟨rfl, ?_⟩⟩
      apply hnx
      clear hnx
      simp -implicitDefEqProofs
      refine Eq.mpr (nilI b) ?_
      cases hrb : readI b with
      | none =>
        simp -implicitDefEqProofs
        exact hnx3 _ _ ⟨_, _, rfl, rfl⟩
      | some m =>
        have hb := readI_some hrb
        simp -implicitDefEqProofs [optI]
        have hdm : (TL.numL m.natAbs).length ≤ 300 := by
          have := congrArg List.length hb
          unfold decL at this
          split at this <;> (try simp only [List.length_cons] at this) <;> omega
        refine ⟨m, rfl, hdm, ?_⟩
        rw [← hb]
        simp -implicitDefEqProofs
        exact hnx3 _ _ ⟨_, _, rfl, rfl⟩
    · rintro env s2 ⟨z5, z6, rfl, rfl⟩
      apply hnx
      clear hnx
      -- data
      refine seq_i fun nx hnx => ?_
      simp -implicitDefEqProofs
      refine ⟨x, 4, [], rfl, rfl, by decide, by decide, fun d x hgd hsm hwl => ?_⟩
      have hwl2 : (wr d).length ≤ 3561 := hwl
      have hrun := run_wr d hsm
      have hints : intsOk 300 d := run_ints d [] [] (by simpa using hrun.mono (show 40 ≤ 300 by decide))
      have hints6 : intsOk 600 d := run_ints d [] [] (by simpa using hrun.mono (show 40 ≤ 600 by decide))
      have hfr := gd_frz hgd
      dsimp only
      rw [hfr]
      apply hnx
      clear hnx
      refine seq_i fun nx hnx => ?_
      simp -implicitDefEqProofs
      rw [hfr]
      refine ⟨d, rfl, gd_le hgd (by decide), hints, by omega, ?_⟩
      apply hnx
      clear hnx
      refine seq_i fun nx hnx => ?_
      simp -implicitDefEqProofs
      rw [hfr]
      refine ⟨d, rfl, gd_le hgd (by decide), hints6, by omega, ?_⟩
      refine ⟨tx (wr d), rfl, by unfold tx dat; trivial, ?_⟩
      simp -implicitDefEqProofs
      refine ⟨wr d, by omega, .inr ⟨rfl, ?_⟩⟩
      rw [rd_wr (gd_le hgd (by decide))]
      simp -implicitDefEqProofs [hfr]
      refine ⟨by decide, .tup [d], rfl, ?_, ?_⟩
      · unfold dat dats
        exact ⟨by simp, gd_dat (gd_le hgd (show 4 ≤ 23 by decide)) (by omega), by unfold dats; trivial⟩
      simp -implicitDefEqProofs
      apply hnx
      clear hnx
      simp -implicitDefEqProofs
      refine ⟨x, [], wr d, rfl, rfl, by omega, fun bs x hbs hbl => ?_⟩
      refine forN_inv tx (fun _ env s2 => ∃ z5 z6, env = L9 (some (.sl (s.map .int))) (some (.int turn)) (some (.int n)) (some (tx (wr d))) z5 z6 (some d) z8 ∧ s2 = [dst x]) bs ⟨_, _, rfl, rfl⟩ (fun _ _ _ _ => trivial) ?_ ?_
      · rintro done b rs hi env s2 ⟨z5, z6, rfl, rfl⟩
        have hb := hbs b (by rw [hi]; simp)
        refine ⟨_, rfl, fun nx3 hnx3 => ?_⟩
        refine seq_i fun nx hnx => ?_
        simp -implicitDefEqProofs
        refine ⟨b, by have := hb.1; omega, .inr ⟨rfl, ?_⟩⟩
        apply hnx
        clear hnx
        simp -implicitDefEqProofs
        refine Eq.mpr (eq_nil rd_gd) ?_
        cases hrb : rd b with
        | none =>
          simp -implicitDefEqProofs
          exact hnx3 _ _ ⟨_, _, rfl, rfl⟩
        | some e =>
          obtain ⟨he, hge⟩ := rd_snd hrb
          have hfe := gd_frz hge
          simp -implicitDefEqProofs [hfe]
          have hie : intsOk 300 e := run_ints e [] [] (by
            rw [he]
            have := hb.2 40 hrun
            simpa using this.mono (show 2 * 40 + 2 ≤ 300 by decide))
          refine ⟨e, rfl, gd_le hge (by decide), hie, by rw [he]; have := hb.1; omega, ?_⟩
          rw [he]
          simp -implicitDefEqProofs
          exact hnx3 _ _ ⟨_, _, rfl, rfl⟩
      · rintro env s2 ⟨z5, z6, rfl, rfl⟩
        exact hnx2 _ _ ⟨_, _, _, _, _, _, _, x, rfl, rfl⟩
  · rintro env s2 ⟨z2, z3, z4, z5, z6, z7, z8, x, rfl, rfl⟩
    apply hnx
    clear hnx
    have b1 : D.str (Str.ofString "'") = tx [39] := rfl
    have b2 : D.str (Str.ofString "a") = tx [97] := rfl
    have b3 : D.str (Str.ofString "(1,2)") = tx [40, 49, 44, 50, 41] := rfl
    have b4 : D.str (Str.ofString "(1 , 2)") = tx [40, 49, 32, 44, 32, 50, 41] := rfl
    have b5 : D.str (Str.ofString "(1, )") = tx [40, 49, 44, 32, 41] := rfl
    have b6 : D.str (Str.ofString "(, 1)") = tx [40, 44, 32, 49, 41] := rfl
    have b7 : D.str (Str.ofString "(1, 2") = tx [40, 49, 44, 32, 50] := rfl
    have b8 : D.str (Str.ofString "1)") = tx [49, 41] := rfl
    have b9 : D.str (Str.ofString "'a'b") = tx [39, 97, 39, 98] := rfl
    have b10 : D.str (Str.ofString "''' ") = tx [39, 39, 39, 32] := rfl
    have b11 : D.str (Str.ofString "()()") = tx [40, 41, 40, 41] := rfl
    have b12 : D.str (Str.ofString "( )") = tx [40, 32, 41] := rfl
    have b13 : D.str (Str.ofString "True") = tx [84, 114, 117, 101] := rfl
    have b14 : D.str (Str.ofString "[1]") = tx [91, 49, 93] := rfl
    have b15 : D.str (Str.ofString "1.5") = tx [49, 46, 53] := rfl
    have b16 : D.str (Str.ofString "(1;2)") = tx [40, 49, 59, 50, 41] := rfl
    refine seq_i fun nx hnx => ?_
    simp only [l_nil, b1, b2, b3, b4, b5, b6, b7, b8, b9, b10, b11, b12, b13, b14, b15, b16]
    simp -implicitDefEqProofs
    refine ⟨by decide, ?_⟩
    apply hnx
    clear hnx
    simp -implicitDefEqProofs
    refine lcN_map tx (fun _ => .bl true) trivial badT (by decide) (fun a ha kt hkt => ?_) ?_
    · obtain ⟨hno, hal⟩ := bad_no a ha
      simp -implicitDefEqProofs [wipeD]
      refine ⟨a, by omega, .inr ⟨rfl, ?_⟩⟩
      refine Eq.mpr (eq_nil rd_gd) ?_
      rw [hno]
      exact hkt
    · unfold opAll
      rw [opAnyAll_e (ns := badT.map fun _ => true) rfl]
      rw [show (badT.map fun _ => true).all id = true by decide]
      simp -implicitDefEqProofs
      exact ⟨rfl, leave_stay (h _)⟩
end K64

namespace K64
open PySem L2 DW
theorem head_law (ns : List Int) (_ : ns.length ≤ 63) : sp_law [.sl (ns.map .int)] [] (fun _ _ => False) fun x _ => x = .bl true := ⟨ns, rfl, rfl, fun _ => rfl⟩
end K64


namespace K64
open PySem PySem.Spec PyProof.Rows L2 DW
section
variable {P : Program} {w : World} {K : PySem.W.Frag} {mg : Str → Option Value} {base : Heap}
theorem w_write_integer (T : Top K mg) {k : Nat} (hk : 0 ≤ k) {self : DSp} (slf : FnOk P w K mg base (L2.CX P w) k T.f_write_integer T.fd_write_integer P_write_integer (liftSp K self)) {cdv : Value} {A : Around} {outer : List Env} {s : Shared} {H : Hp} {E : XK} (hr : Room k (A.deeper (envOfC "write_integer" (defScope s_write_integer) s.heap.objs.size T.f_write_integer cdv))) :
    PSs (cxOf (L2.CX P w) P w K mg base N_write_integer "write_integer" (defScope s_write_integer) T.f_write_integer cdv A outer s H E) (defBody s_write_integer) (liftS K (fun cls d _ H => E cls d H) (d_write_integer self)) := by
  have nd := (sc_write_integer).nd
  have hu := hr.units
  have tk : Takes (cxOf (L2.CX P w) P w K mg base N_write_integer "write_integer" (defScope s_write_integer) T.f_write_integer cdv A outer s H E) (fun cls d _ H => E cls d H) := takes_of rfl rfl rfl rfl
  have hp : PassesOwn (model P w) (A.deeper (envOfC "write_integer" (defScope s_write_integer) s.heap.objs.size T.f_write_integer cdv)) (envOfC "write_integer" (defScope s_write_integer) s.heap.objs.size T.f_write_integer cdv) (cxOf (L2.CX P w) P w K mg base N_write_integer "write_integer" (defScope s_write_integer) T.f_write_integer cdv A outer s H E).xe := passes_of (X := cxOf (L2.CX P w) P w K mg base N_write_integer "write_integer" (defScope s_write_integer) T.f_write_integer cdv A outer s H E) rfl
  exact (dss_cons (ds_if (dt_cmp or_lt od_lt (de_var (pv 0)) (de_c pe_int) (nomark _))
      (dss_one (ds_ret (de_bin or_add od_add (de_c pe_str) (de_call slf hr (by rfl) T.g_write_integer T.F_write_integer.kp T.b_write_integer tk (da_cons false (de_neg (de_var (pv 0))) da_nil)))))
      dss_nil)
      (dss_cons (ds_set true (i := 1) nd rfl (by first | exact Or.inl rfl | exact Or.inr rfl) (de_lst da_nil))
      (dss_cons (ds_while hp (dt_cmp or_ge od_ge (de_var (pv 0)) (de_glob (by rfl) T.c_BASE) (nomark _))
      (dss_cons (ds_asgT (de_callB call_divmodW cd_divmodW (by rfl) T.n_divmod (by decide +kernel) (da_cons false (de_var (pv 0)) (da_cons false (de_glob (by rfl) T.c_BASE) da_nil))) (dg_tup rfl (dgs_cons (dg_name (i := 0) nd rfl (by first | exact Or.inl rfl | exact Or.inr rfl)) (dgs_cons (dg_name (i := 2) nd rfl (by first | exact Or.inl rfl | exact Or.inr rfl)) dgs_nil)) rfl))
      (dss_one (ds_expr (de_bm PySem.F.plainAttrs_list PySem.F.slot_list_append PySem.F.type_list_append mt_append md_append (de_var (pv 1)) (da_cons false (de_bm PySem.F.plainAttrs_str PySem.F.slot_str_zfill PySem.F.type_str_zfill mr_zfill md_zfill (de_callTy call_str_int cd_strI (by rfl) T.n_str (by decide +kernel) (da_cons false (de_var (pv 2)) da_nil)) (da_cons false (de_c pe_int) da_nil)) da_nil))))))
      (dss_cons (ds_expr (de_bm PySem.F.plainAttrs_list PySem.F.slot_list_append PySem.F.type_list_append mt_append md_append (de_var (pv 1)) (da_cons false (de_callTy call_str_int cd_strI (by rfl) T.n_str (by decide +kernel) (da_cons false (de_var (pv 0)) da_nil)) da_nil)))
      (dss_one (ds_ret (de_bm PySem.F.plainAttrs_str PySem.F.slot_str_join PySem.F.type_str_join mr_join md_join (de_c pe_str) (da_cons false (de_rev (de_var (pv 1))) da_nil))))))))
theorem okr_write_integer (T : Top K mg) : ∀ k : Nat, FnOk P w K mg base (L2.CX P w) (0 + k) T.f_write_integer T.fd_write_integer P_write_integer (liftSp K (spr_write_integer k))
  | 0 => fnOk_no (no_write_integer)
  | k + 1 => fnD T.F_write_integer sc_write_integer (b_write_integer k) fun _ _ _ _ _ _ hr => w_write_integer T (Nat.le_add_right _ _) (okr_write_integer T k) hr
theorem ok_write_integer (T : Top K mg) : FnOk P w K mg base (L2.CX P w) 2 T.f_write_integer T.fd_write_integer P_write_integer (liftSp K (sp_write_integer)) := okr_write_integer T 2
theorem w_read_integer (T : Top K mg) {cdv : Value} {A : Around} {outer : List Env} {s : Shared} {H : Hp} {E : XK} (hr : Room 0 (A.deeper (envOfC "read_integer" (defScope s_read_integer) s.heap.objs.size T.f_read_integer cdv))) :
    PSs (cxOf (L2.CX P w) P w K mg base N_read_integer "read_integer" (defScope s_read_integer) T.f_read_integer cdv A outer s H E) (defBody s_read_integer) (liftS K (fun cls d _ H => E cls d H) (d_read_integer T.k_BadText)) := by
  have nd := (sc_read_integer).nd
  have hu := hr.units
  have tk : Takes (cxOf (L2.CX P w) P w K mg base N_read_integer "read_integer" (defScope s_read_integer) T.f_read_integer cdv A outer s H E) (fun cls d _ H => E cls d H) := takes_of rfl rfl rfl rfl
  have hp : PassesOwn (model P w) (A.deeper (envOfC "read_integer" (defScope s_read_integer) s.heap.objs.size T.f_read_integer cdv)) (envOfC "read_integer" (defScope s_read_integer) s.heap.objs.size T.f_read_integer cdv) (cxOf (L2.CX P w) P w K mg base N_read_integer "read_integer" (defScope s_read_integer) T.f_read_integer cdv A outer s H E).xe := passes_of (X := cxOf (L2.CX P w) P w K mg base N_read_integer "read_integer" (defScope s_read_integer) T.f_read_integer cdv A outer s H E) rfl
  exact (dss_cons (ds_set false (i := 1) nd rfl (by first | exact Or.inl rfl | exact Or.inr rfl) (de_var (pv 0)))
      (dss_cons (ds_if (dt_cmp (or_eq hu) od_eq (de_slice (de_var (pv 0)) do_none (do_some (de_c pe_int))) (de_c pe_str) (nomark _))
      (dss_one (ds_set false (i := 1) nd rfl (by first | exact Or.inl rfl | exact Or.inr rfl) (de_slice (de_var (pv 0)) (do_some (de_c pe_int)) do_none)))
      dss_nil)
      (dss_cons (ds_if (dw_or (dt_cmp (or_eq hu) od_eq (de_var (pv 1)) (de_c pe_str) (nomark _)) (dw_or1 (dw_and (dt_cmp (or_eq hu) od_eq (de_ix hu (de_var (pv 1)) (de_c pe_int) (fun _ _ => rfl)) (de_c pe_str) (nomark _)) (dw_and1 (dt_cmp (or_ne hu) od_ne (de_var (pv 0)) (de_c pe_str) (nomark _)))).pt)).pt
      (dss_one (ds_raise rfl tk PySem.F.excBase_ValueError T.x_BadText.q T.gk_BadText T.x_BadText.k T.x_BadText.r (by rfl)))
      dss_nil)
      (dss_cons (ds_for hp rfl (di_seq (de_var (pv 1))) (dg_name (i := 2) nd rfl (by first | exact Or.inl rfl | exact Or.inr rfl))
      (dss_one (ds_if (dt_cmp (or_notIn hu) od_notIn (de_var (pv 2)) (de_glob (by rfl) T.c_DIGITS) (by rfl))
      (dss_one (ds_raise rfl tk PySem.F.excBase_ValueError T.x_BadText.q T.gk_BadText T.x_BadText.k T.x_BadText.r (by rfl)))
      dss_nil)))
      (dss_cons (ds_set false (i := 3) nd rfl (by first | exact Or.inl rfl | exact Or.inr rfl) (de_bin or_mod od_mod (de_callB cr_len cd_len (by rfl) T.n_len (by decide +kernel) (da_cons false (de_var (pv 1)) da_nil)) (de_c pe_int)))
      (dss_cons (ds_set false (i := 4) nd rfl (by first | exact Or.inl rfl | exact Or.inr rfl) (de_c pe_int))
      (dss_cons (ds_if (dt_cmp or_gt od_gt (de_var (pv 3)) (de_c pe_int) (nomark _))
      (dss_one (ds_set false (i := 4) nd rfl (by first | exact Or.inl rfl | exact Or.inr rfl) (de_callTy cr_int cd_int (by rfl) T.n_int (by decide +kernel) (da_cons false (de_slice (de_var (pv 1)) do_none (do_some (de_var (pv 3)))) da_nil))))
      dss_nil)
      (dss_cons (ds_for hp rfl (di_range3 (by rfl) T.n_range (da_cons false (de_var (pv 3)) (da_cons false (de_callB cr_len cd_len (by rfl) T.n_len (by decide +kernel) (da_cons false (de_var (pv 1)) da_nil)) (da_cons false (de_c pe_int) da_nil)))) (dg_name (i := 5) nd rfl (by first | exact Or.inl rfl | exact Or.inr rfl))
      (dss_one (ds_set false (i := 4) nd rfl (by first | exact Or.inl rfl | exact Or.inr rfl) (de_bin or_add od_add (de_bin or_mul2 od_mul2 (de_var (pv 4)) (de_glob (by rfl) T.c_BASE)) (de_callTy cr_int cd_int (by rfl) T.n_int (by decide +kernel) (da_cons false (de_slice (de_var (pv 1)) (do_some (de_var (pv 5))) (do_some (de_bin or_add od_add (de_var (pv 5)) (de_c pe_int)))) da_nil))))))
      (dss_cons (ds_if (dt_cmp (or_eq hu) od_eq (de_ix hu (de_var (pv 0)) (de_c pe_int) (fun _ _ => rfl)) (de_c pe_str) (nomark _))
      (dss_one (ds_ret (de_neg (de_var (pv 4)))))
      dss_nil)
      (dss_one (ds_ret (de_var (pv 4)))))))))))))
theorem ok_read_integer (T : Top K mg) : FnOk P w K mg base (L2.CX P w) 1 T.f_read_integer T.fd_read_integer P_read_integer (liftSp K (sp_read_integer T.k_BadText)) :=
  fnD T.F_read_integer sc_read_integer (b_read_integer T.k_BadText) fun _ _ _ _ _ _ hr => w_read_integer T hr
theorem w_write_data (T : Top K mg) {k : Nat} (hk : 2 ≤ k) {self : DSp} (slf : FnOk P w K mg base (L2.CX P w) k T.f_write_data T.fd_write_data P_write_data (liftSp K self)) {cdv : Value} {A : Around} {outer : List Env} {s : Shared} {H : Hp} {E : XK} (hr : Room k (A.deeper (envOfC "write_data" (defScope s_write_data) s.heap.objs.size T.f_write_data cdv))) :
    PSs (cxOf (L2.CX P w) P w K mg base N_write_data "write_data" (defScope s_write_data) T.f_write_data cdv A outer s H E) (defBody s_write_data) (liftS K (fun cls d _ H => E cls d H) (d_write_data self)) := by
  have nd := (sc_write_data).nd
  have hu := hr.units
  have tk : Takes (cxOf (L2.CX P w) P w K mg base N_write_data "write_data" (defScope s_write_data) T.f_write_data cdv A outer s H E) (fun cls d _ H => E cls d H) := takes_of rfl rfl rfl rfl
  have hp : PassesOwn (model P w) (A.deeper (envOfC "write_data" (defScope s_write_data) s.heap.objs.size T.f_write_data cdv)) (envOfC "write_data" (defScope s_write_data) s.heap.objs.size T.f_write_data cdv) (cxOf (L2.CX P w) P w K mg base N_write_data "write_data" (defScope s_write_data) T.f_write_data cdv A outer s H E).xe := passes_of (X := cxOf (L2.CX P w) P w K mg base N_write_data "write_data" (defScope s_write_data) T.f_write_data cdv A outer s H E) rfl
  exact (dss_cons (ds_if (dt_tru (de_callB call_isi cd_isi (by rfl) T.n_isinstance (by decide +kernel) (da_cons false (de_var (pv 0)) (da_cons false (de_c (pe_bltn (v := .ty "tuple") (by rfl) T.n_tuple (by decide +kernel) rfl)) da_nil))))
      (dss_one (ds_ret (de_bin or_add od_add (de_bin or_add od_add (de_c pe_str) (de_bm PySem.F.plainAttrs_str PySem.F.slot_str_join PySem.F.type_str_join mr_join md_join (de_c pe_str) (da_cons false (de_lc (own := [("item", 1)]) false rfl nd (di_seq (de_var (pv 0))) (blkOk_by (own := [("item", 1)]) (N := N_write_data) (sc := defScope s_write_data) (by decide +kernel)) (fun _ _ _ _ _ => (dg_name (i := 1) nd rfl (by first | exact Or.inl rfl | exact Or.inr rfl))) (fun _ _ _ _ _ => dts_nil) (fun _ _ _ _ _ => (de_call slf hr (by rfl) T.g_write_data T.F_write_data.kp T.b_write_data takes0 (da_cons false (de_var (pv 1)) da_nil))) (by decide)) da_nil))) (de_c pe_str))))
      dss_nil)
      (dss_cons (ds_if (dt_tru (de_callB call_isi cd_isi (by rfl) T.n_isinstance (by decide +kernel) (da_cons false (de_var (pv 0)) (da_cons false (de_c (pe_bltn (v := .ty "str") (by rfl) T.n_str (by decide +kernel) rfl)) da_nil))))
      (dss_one (ds_ret (de_bin or_add od_add (de_bin or_add od_add (de_c pe_str) (de_var (pv 0))) (de_c pe_str))))
      dss_nil)
      (dss_one (ds_ret (de_call (ok_write_integer T) (hr.mono (Nat.le_trans (by decide) hk)) (by rfl) T.g_write_integer T.F_write_integer.kp T.b_write_integer tk (da_cons false (de_var (pv 0)) da_nil))))))
theorem okr_write_data (T : Top K mg) : ∀ k : Nat, FnOk P w K mg base (L2.CX P w) (2 + k) T.f_write_data T.fd_write_data P_write_data (liftSp K (spr_write_data k))
  | 0 => fnOk_no (no_write_data)
  | k + 1 => fnD T.F_write_data sc_write_data (b_write_data k) fun _ _ _ _ _ _ hr => w_write_data T (Nat.le_add_right _ _) (okr_write_data T k) hr
theorem ok_write_data (T : Top K mg) : FnOk P w K mg base (L2.CX P w) 27 T.f_write_data T.fd_write_data P_write_data (liftSp K (sp_write_data)) := okr_write_data T 25
theorem w_plain_text (T : Top K mg) {cdv : Value} {A : Around} {outer : List Env} {s : Shared} {H : Hp} {E : XK} (hr : Room 0 (A.deeper (envOfC "plain_text" (defScope s_plain_text) s.heap.objs.size T.f_plain_text cdv))) :
    PSs (cxOf (L2.CX P w) P w K mg base N_plain_text "plain_text" (defScope s_plain_text) T.f_plain_text cdv A outer s H E) (defBody s_plain_text) (liftS K (fun cls d _ H => E cls d H) (d_plain_text)) := by
  have nd := (sc_plain_text).nd
  have hu := hr.units
  have tk : Takes (cxOf (L2.CX P w) P w K mg base N_plain_text "plain_text" (defScope s_plain_text) T.f_plain_text cdv A outer s H E) (fun cls d _ H => E cls d H) := takes_of rfl rfl rfl rfl
  have hp : PassesOwn (model P w) (A.deeper (envOfC "plain_text" (defScope s_plain_text) s.heap.objs.size T.f_plain_text cdv)) (envOfC "plain_text" (defScope s_plain_text) s.heap.objs.size T.f_plain_text cdv) (cxOf (L2.CX P w) P w K mg base N_plain_text "plain_text" (defScope s_plain_text) T.f_plain_text cdv A outer s H E).xe := passes_of (X := cxOf (L2.CX P w) P w K mg base N_plain_text "plain_text" (defScope s_plain_text) T.f_plain_text cdv A outer s H E) rfl
  exact (dss_cons (ds_for hp rfl (di_seq (de_var (pv 0))) (dg_name (i := 1) nd rfl (by first | exact Or.inl rfl | exact Or.inr rfl))
      (dss_one (ds_if (dw_or (dt_cmp or_lt od_lt (de_var (pv 1)) (de_c pe_str) (nomark _)) (dw_or (dt_cmp or_gt od_gt (de_var (pv 1)) (de_c pe_str) (nomark _)) (dw_or (dt_cmp (or_eq hu) od_eq (de_var (pv 1)) (de_c pe_str) (nomark _)) (dw_or1 (dt_cmp (or_eq hu) od_eq (de_callB call_ord cd_ord (by rfl) T.n_ord (by decide +kernel) (da_cons false (de_var (pv 1)) da_nil)) (de_c pe_int) (nomark _)))))).pt
      (dss_one (ds_ret (de_c pe_bl)))
      dss_nil)))
      (dss_one (ds_ret (de_c pe_bl))))
theorem ok_plain_text (T : Top K mg) : FnOk P w K mg base (L2.CX P w) 1 T.f_plain_text T.fd_plain_text P_plain_text (liftSp K (sp_plain_text)) :=
  fnD T.F_plain_text sc_plain_text (b_plain_text) fun _ _ _ _ _ _ hr => w_plain_text T hr
theorem w_read_plain (T : Top K mg) {cdv : Value} {A : Around} {outer : List Env} {s : Shared} {H : Hp} {E : XK} (hr : Room 1 (A.deeper (envOfC "read_plain" (defScope s_read_plain) s.heap.objs.size T.f_read_plain cdv))) :
    PSs (cxOf (L2.CX P w) P w K mg base N_read_plain "read_plain" (defScope s_read_plain) T.f_read_plain cdv A outer s H E) (defBody s_read_plain) (liftS K (fun cls d _ H => E cls d H) (d_read_plain T.k_BadText)) := by
  have nd := (sc_read_plain).nd
  have hu := hr.units
  have tk : Takes (cxOf (L2.CX P w) P w K mg base N_read_plain "read_plain" (defScope s_read_plain) T.f_read_plain cdv A outer s H E) (fun cls d _ H => E cls d H) := takes_of rfl rfl rfl rfl
  have hp : PassesOwn (model P w) (A.deeper (envOfC "read_plain" (defScope s_read_plain) s.heap.objs.size T.f_read_plain cdv)) (envOfC "read_plain" (defScope s_read_plain) s.heap.objs.size T.f_read_plain cdv) (cxOf (L2.CX P w) P w K mg base N_read_plain "read_plain" (defScope s_read_plain) T.f_read_plain cdv A outer s H E).xe := passes_of (X := cxOf (L2.CX P w) P w K mg base N_read_plain "read_plain" (defScope s_read_plain) T.f_read_plain cdv A outer s H E) rfl
  exact (dss_cons (ds_if (dt_cmp (or_eq hu) od_eq (de_ix hu (de_var (pv 0)) (de_var (pv 1)) (fun _ _ => rfl)) (de_c pe_str) (nomark _))
      (dss_cons (ds_set false (i := 2) nd rfl (by first | exact Or.inl rfl | exact Or.inr rfl) (de_bm PySem.F.plainAttrs_str PySem.F.slot_str_find PySem.F.type_str_find mr_find3 md_find3 (de_var (pv 0)) (da_cons false (de_c pe_str) (da_cons false (de_bin or_add od_add (de_var (pv 1)) (de_c pe_int)) da_nil))))
      (dss_cons (ds_if (dw_or (dt_cmp or_lt od_lt (de_var (pv 2)) (de_c pe_int) (nomark _)) (dw_or1 (dt_not (dt_tru (de_call (ok_plain_text T) (hr.mono (by decide)) (by rfl) T.g_plain_text T.F_plain_text.kp T.b_plain_text tk (da_cons false (de_slice (de_var (pv 0)) (do_some (de_bin or_add od_add (de_var (pv 1)) (de_c pe_int))) (do_some (de_var (pv 2)))) da_nil)))))).pt
      (dss_one (ds_raise rfl tk PySem.F.excBase_ValueError T.x_BadText.q T.gk_BadText T.x_BadText.k T.x_BadText.r (by rfl)))
      dss_nil)
      (dss_one (ds_ret (de_tup (da_cons false (de_slice (de_var (pv 0)) (do_some (de_bin or_add od_add (de_var (pv 1)) (de_c pe_int))) (do_some (de_var (pv 2)))) (da_cons false (de_bin or_add od_add (de_var (pv 2)) (de_c pe_int)) da_nil)))))))
      dss_nil)
      (dss_cons (ds_set false (i := 2) nd rfl (by first | exact Or.inl rfl | exact Or.inr rfl) (de_var (pv 1)))
      (dss_cons (ds_while hp (dw_and (dt_cmp or_lt od_lt (de_var (pv 2)) (de_callB cr_len cd_len (by rfl) T.n_len (by decide +kernel) (da_cons false (de_var (pv 0)) da_nil)) (nomark _)) (dw_and1 (dt_cmp (or_in hu) od_in (de_ix hu (de_var (pv 0)) (de_var (pv 2)) (fun _ _ => rfl)) (de_glob (by rfl) T.c_SIGNS) (by rfl)))).pt
      (dss_one (ds_aug false (i := 2) nd rfl (by first | exact Or.inl rfl | exact Or.inr rfl) ir_add id_add (de_c pe_int))))
      (dss_one (ds_ret (de_tup (da_cons false (de_call (ok_read_integer T) (hr.mono (by decide)) (by rfl) T.g_read_integer T.F_read_integer.kp T.b_read_integer tk (da_cons false (de_slice (de_var (pv 0)) (do_some (de_var (pv 1))) (do_some (de_var (pv 2)))) da_nil)) (da_cons false (de_var (pv 2)) da_nil))))))))
theorem ok_read_plain (T : Top K mg) : FnOk P w K mg base (L2.CX P w) 2 T.f_read_plain T.fd_read_plain P_read_plain (liftSp K (sp_read_plain T.k_BadText)) :=
  fnD T.F_read_plain sc_read_plain (b_read_plain T.k_BadText) fun _ _ _ _ _ _ hr => w_read_plain T hr
theorem w_read_data (T : Top K mg) {cdv : Value} {A : Around} {outer : List Env} {s : Shared} {H : Hp} {E : XK} (hr : Room 2 (A.deeper (envOfC "read_data" (defScope s_read_data) s.heap.objs.size T.f_read_data cdv))) :
    PSs (cxOf (L2.CX P w) P w K mg base N_read_data "read_data" (defScope s_read_data) T.f_read_data cdv A outer s H E) (defBody s_read_data) (liftS K (fun cls d _ H => E cls d H) (d_read_data T.k_BadText)) := by
  have nd := (sc_read_data).nd
  have hu := hr.units
  have tk : Takes (cxOf (L2.CX P w) P w K mg base N_read_data "read_data" (defScope s_read_data) T.f_read_data cdv A outer s H E) (fun cls d _ H => E cls d H) := takes_of rfl rfl rfl rfl
  have hp : PassesOwn (model P w) (A.deeper (envOfC "read_data" (defScope s_read_data) s.heap.objs.size T.f_read_data cdv)) (envOfC "read_data" (defScope s_read_data) s.heap.objs.size T.f_read_data cdv) (cxOf (L2.CX P w) P w K mg base N_read_data "read_data" (defScope s_read_data) T.f_read_data cdv A outer s H E).xe := passes_of (X := cxOf (L2.CX P w) P w K mg base N_read_data "read_data" (defScope s_read_data) T.f_read_data cdv A outer s H E) rfl
  exact (dss_cons (ds_set true (i := 1) nd rfl (by first | exact Or.inl rfl | exact Or.inr rfl) (de_lst (da_cons true (de_lst da_nil) da_nil)))
      (dss_cons (ds_set false (i := 2) nd rfl (by first | exact Or.inl rfl | exact Or.inr rfl) (de_c pe_int))
      (dss_cons (ds_set false (i := 3) nd rfl (by first | exact Or.inl rfl | exact Or.inr rfl) (de_c pe_bl))
      (dss_cons (ds_while hp (dt_cmp or_lt od_lt (de_var (pv 2)) (de_callB cr_len cd_len (by rfl) T.n_len (by decide +kernel) (da_cons false (de_var (pv 0)) da_nil)) (nomark _))
      (dss_one (ds_if (dw_and (dt_tru (de_var (pv 3))) (dw_and (dt_cmp (or_eq hu) od_eq (de_ix hu (de_var (pv 0)) (de_var (pv 2)) (fun _ _ => rfl)) (de_c pe_str) (nomark _)) (dw_and1 (dt_cmp or_le od_le (de_callB cr_len cd_len (by rfl) T.n_len (by decide +kernel) (da_cons false (de_var (pv 1)) da_nil)) (de_glob (by rfl) T.c_DEPTH) (nomark _))))).pt
      (dss_cons (ds_expr (de_bm PySem.F.plainAttrs_list PySem.F.slot_list_append PySem.F.type_list_append mt_append md_append (de_var (pv 1)) (da_cons true (de_lst da_nil) da_nil)))
      (dss_one (ds_aug false (i := 2) nd rfl (by first | exact Or.inl rfl | exact Or.inr rfl) ir_add id_add (de_c pe_int))))
      (dss_one (ds_if (dw_and (dt_cmp (or_eq hu) od_eq (de_ix hu (de_var (pv 0)) (de_var (pv 2)) (fun _ _ => rfl)) (de_c pe_str) (nomark _)) (dw_and (dt_cmp or_gt od_gt (de_callB cr_len cd_len (by rfl) T.n_len (by decide +kernel) (da_cons false (de_var (pv 1)) da_nil)) (de_c pe_int) (nomark _)) (dw_and1 (dw_or (dt_not (dt_tru (de_var (pv 3)))) (dw_or1 (dt_cmp (or_eq hu) od_eq (de_ix hu (de_var (pv 0)) (de_bin or_sub od_sub (de_var (pv 2)) (de_c pe_int)) (fun _ _ => rfl)) (de_c pe_str) (nomark _)))).pt))).pt
      (dss_cons (ds_set false (i := 4) nd rfl (by first | exact Or.inl rfl | exact Or.inr rfl) (de_callTy call_tuple_of cd_tuple (by rfl) T.n_tuple (by decide +kernel) (da_cons false (de_bm0 PySem.F.plainAttrs_list PySem.F.slot_list_pop PySem.F.type_list_pop mt_pop md_pop (de_var (pv 1))) da_nil)))
      (dss_cons (ds_expr (de_bm PySem.F.plainAttrs_list PySem.F.slot_list_append PySem.F.type_list_append mt_append md_append (de_ix hu (de_var (pv 1)) (de_neg (de_c pe_int)) (fun _ _ => rfl)) (da_cons false (de_var (pv 4)) da_nil)))
      (dss_cons (ds_aug false (i := 2) nd rfl (by first | exact Or.inl rfl | exact Or.inr rfl) ir_add id_add (de_c pe_int))
      (dss_one (ds_set false (i := 3) nd rfl (by first | exact Or.inl rfl | exact Or.inr rfl) (de_c pe_bl))))))
      (dss_one (ds_if (dw_and (dt_not (dt_tru (de_var (pv 3)))) (dw_and (dt_cmp or_gt od_gt (de_callB cr_len cd_len (by rfl) T.n_len (by decide +kernel) (da_cons false (de_var (pv 1)) da_nil)) (de_c pe_int) (nomark _)) (dw_and1 (dt_cmp (or_eq hu) od_eq (de_slice (de_var (pv 0)) (do_some (de_var (pv 2))) (do_some (de_bin or_add od_add (de_var (pv 2)) (de_c pe_int)))) (de_c pe_str) (nomark _))))).pt
      (dss_cons (ds_aug false (i := 2) nd rfl (by first | exact Or.inl rfl | exact Or.inr rfl) ir_add id_add (de_c pe_int))
      (dss_one (ds_set false (i := 3) nd rfl (by first | exact Or.inl rfl | exact Or.inr rfl) (de_c pe_bl))))
      (dss_one (ds_if (dw_and (dt_tru (de_var (pv 3))) (dw_and1 (dt_cmp (or_ne hu) od_ne (de_ix hu (de_var (pv 0)) (de_var (pv 2)) (fun _ _ => rfl)) (de_c pe_str) (nomark _)))).pt
      (dss_cons (ds_asgT (de_call (ok_read_plain T) (hr.mono (by decide)) (by rfl) T.g_read_plain T.F_read_plain.kp T.b_read_plain tk (da_cons false (de_var (pv 0)) (da_cons false (de_var (pv 2)) da_nil))) (dg_tup rfl (dgs_cons (dg_name (i := 5) nd rfl (by first | exact Or.inl rfl | exact Or.inr rfl)) (dgs_cons (dg_name (i := 2) nd rfl (by first | exact Or.inl rfl | exact Or.inr rfl)) dgs_nil)) rfl))
      (dss_cons (ds_expr (de_bm PySem.F.plainAttrs_list PySem.F.slot_list_append PySem.F.type_list_append mt_append md_append (de_ix hu (de_var (pv 1)) (de_neg (de_c pe_int)) (fun _ _ => rfl)) (da_cons false (de_var (pv 5)) da_nil)))
      (dss_one (ds_set false (i := 3) nd rfl (by first | exact Or.inl rfl | exact Or.inr rfl) (de_c pe_bl)))))
      (dss_one (ds_raise rfl tk PySem.F.excBase_ValueError T.x_BadText.q T.gk_BadText T.x_BadText.k T.x_BadText.r (by rfl))))))))))))
      (dss_cons (ds_if (dw_or (dt_cmp (or_ne hu) od_ne (de_callB cr_len cd_len (by rfl) T.n_len (by decide +kernel) (da_cons false (de_var (pv 1)) da_nil)) (de_c pe_int) (nomark _)) (dw_or1 (dt_cmp (or_ne hu) od_ne (de_callB cr_len cd_len (by rfl) T.n_len (by decide +kernel) (da_cons false (de_ix hu (de_var (pv 1)) (de_c pe_int) (fun _ _ => rfl)) da_nil)) (de_c pe_int) (nomark _)))).pt
      (dss_one (ds_raise rfl tk PySem.F.excBase_ValueError T.x_BadText.q T.gk_BadText T.x_BadText.k T.x_BadText.r (by rfl)))
      dss_nil)
      (dss_one (ds_ret (de_ix hu (de_ix hu (de_var (pv 1)) (de_c pe_int) (fun _ _ => rfl)) (de_c pe_int) (fun _ _ => rfl)))))))))
theorem ok_read_data (T : Top K mg) : FnOk P w K mg base (L2.CX P w) 3 T.f_read_data T.fd_read_data P_read_data (liftSp K (sp_read_data T.k_BadText)) :=
  fnD T.F_read_data sc_read_data (b_read_data T.k_BadText) fun _ _ _ _ _ _ hr => w_read_data T hr
theorem w_law_start (T : Top K mg) {cdv : Value} {A : Around} {outer : List Env} {s : Shared} {H : Hp} {E : XK} (hr : Room 0 (A.deeper (envOfC "_law_start" (defScope s_law_start) s.heap.objs.size T.f_law_start cdv))) :
    PSs (cxOf (L2.CX P w) P w K mg base N_law_start "_law_start" (defScope s_law_start) T.f_law_start cdv A outer s H E) (defBody s_law_start) (liftS K (fun cls d _ H => E cls d H) (d_law_start)) := by
  have nd := (sc_law_start).nd
  have hu := hr.units
  have tk : Takes (cxOf (L2.CX P w) P w K mg base N_law_start "_law_start" (defScope s_law_start) T.f_law_start cdv A outer s H E) (fun cls d _ H => E cls d H) := takes_of rfl rfl rfl rfl
  have hp : PassesOwn (model P w) (A.deeper (envOfC "_law_start" (defScope s_law_start) s.heap.objs.size T.f_law_start cdv)) (envOfC "_law_start" (defScope s_law_start) s.heap.objs.size T.f_law_start cdv) (cxOf (L2.CX P w) P w K mg base N_law_start "_law_start" (defScope s_law_start) T.f_law_start cdv A outer s H E).xe := passes_of (X := cxOf (L2.CX P w) P w K mg base N_law_start "_law_start" (defScope s_law_start) T.f_law_start cdv A outer s H E) rfl
  exact (dss_one (ds_ret (de_lst (da_cons false (de_callTy cr_list cd_list (by rfl) T.n_list (by decide +kernel) (da_cons false (de_var (pv 0)) da_nil)) (da_cons false (de_c pe_int) (da_cons false (de_c pe_int) (da_cons false (de_c pe_int) da_nil)))))))
theorem ok_law_start (T : Top K mg) : FnOk P w K mg base (L2.CX P w) 1 T.f_law_start T.fd_law_start P_law_start (liftSp K (sp_law_start)) :=
  fnD T.F_law_start sc_law_start (b_law_start) fun _ _ _ _ _ _ hr => w_law_start T hr
theorem w_law_draw (T : Top K mg) {cdv : Value} {A : Around} {outer : List Env} {s : Shared} {H : Hp} {E : XK} (hr : Room 0 (A.deeper (envOfC "_law_draw" (defScope s_law_draw) s.heap.objs.size T.f_law_draw cdv))) :
    PSs (cxOf (L2.CX P w) P w K mg base N_law_draw "_law_draw" (defScope s_law_draw) T.f_law_draw cdv A outer s H E) (defBody s_law_draw) (liftS K (fun cls d _ H => E cls d H) (d_law_draw)) := by
  have nd := (sc_law_draw).nd
  have hu := hr.units
  have tk : Takes (cxOf (L2.CX P w) P w K mg base N_law_draw "_law_draw" (defScope s_law_draw) T.f_law_draw cdv A outer s H E) (fun cls d _ H => E cls d H) := takes_of rfl rfl rfl rfl
  have hp : PassesOwn (model P w) (A.deeper (envOfC "_law_draw" (defScope s_law_draw) s.heap.objs.size T.f_law_draw cdv)) (envOfC "_law_draw" (defScope s_law_draw) s.heap.objs.size T.f_law_draw cdv) (cxOf (L2.CX P w) P w K mg base N_law_draw "_law_draw" (defScope s_law_draw) T.f_law_draw cdv A outer s H E).xe := passes_of (X := cxOf (L2.CX P w) P w K mg base N_law_draw "_law_draw" (defScope s_law_draw) T.f_law_draw cdv A outer s H E) rfl
  exact (dss_cons (ds_setItem false hu (de_bin or_add od_add (de_ix hu (de_var (pv 0)) (de_c pe_int) (fun _ _ => rfl)) (de_c pe_int)) (de_var (pv 0)) (de_c pe_int))
      (dss_cons (ds_if (dt_cmp or_gt od_gt (de_ix hu (de_var (pv 0)) (de_c pe_int) (fun _ _ => rfl)) (de_c pe_int) (nomark _))
      (dss_cons (ds_set false (i := 2) nd rfl (by first | exact Or.inl rfl | exact Or.inr rfl) (de_bin or_mod od_mod (de_callTy cr_int cd_int (by rfl) T.n_int (by decide +kernel) (da_cons false (de_ix hu (de_var (pv 0)) (de_c pe_int) (fun _ _ => rfl)) da_nil)) (de_var (pv 1))))
      (dss_cons (ds_setItem false hu (de_bin or_fdiv od_fdiv (de_ix hu (de_var (pv 0)) (de_c pe_int) (fun _ _ => rfl)) (de_var (pv 1))) (de_var (pv 0)) (de_c pe_int))
      (dss_one (ds_ret (de_var (pv 2))))))
      dss_nil)
      (dss_cons (ds_set false (i := 3) nd rfl (by first | exact Or.inl rfl | exact Or.inr rfl) (de_c pe_int))
      (dss_cons (ds_if (dt_cmp or_gt od_gt (de_callB cr_len cd_len (by rfl) T.n_len (by decide +kernel) (da_cons false (de_ix hu (de_var (pv 0)) (de_c pe_int) (fun _ _ => rfl)) da_nil)) (de_c pe_int) (nomark _))
      (dss_one (ds_set false (i := 3) nd rfl (by first | exact Or.inl rfl | exact Or.inr rfl) (de_callB call_abs cd_abs (by rfl) T.n_abs (by decide +kernel) (da_cons false (de_ix hu (de_ix hu (de_var (pv 0)) (de_c pe_int) (fun _ _ => rfl)) (de_bin or_mod od_mod (de_callTy cr_int cd_int (by rfl) T.n_int (by decide +kernel) (da_cons false (de_ix hu (de_var (pv 0)) (de_c pe_int) (fun _ _ => rfl)) da_nil)) (de_callB cr_len cd_len (by rfl) T.n_len (by decide +kernel) (da_cons false (de_ix hu (de_var (pv 0)) (de_c pe_int) (fun _ _ => rfl)) da_nil))) (fun _ _ => rfl)) da_nil))))
      dss_nil)
      (dss_cons (ds_setItem false hu (de_bin or_add od_add (de_ix hu (de_var (pv 0)) (de_c pe_int) (fun _ _ => rfl)) (de_c pe_int)) (de_var (pv 0)) (de_c pe_int))
      (dss_cons (ds_if (dt_cmp or_ge od_ge (de_var (pv 3)) (de_bin or_pow od_pow (de_c pe_int) (de_c pe_int)) (nomark _))
      (dss_cons (ds_setItem false hu (de_bin or_fdiv od_fdiv (de_var (pv 3)) (de_var (pv 1))) (de_var (pv 0)) (de_c pe_int))
      (dss_one (ds_ret (de_bin or_mod od_mod (de_callTy cr_int cd_int (by rfl) T.n_int (by decide +kernel) (da_cons false (de_var (pv 3)) da_nil)) (de_var (pv 1))))))
      dss_nil)
      (dss_cons (ds_set false (i := 4) nd rfl (by first | exact Or.inl rfl | exact Or.inr rfl) (de_bin or_mod od_mod (de_callTy cr_int cd_int (by rfl) T.n_int (by decide +kernel) (da_cons false (de_bin or_add od_add (de_bin or_mul2 od_mul2 (de_bin or_add od_add (de_var (pv 3)) (de_c pe_int)) (de_c pe_int)) (de_bin or_mul2 od_mul2 (de_ix hu (de_var (pv 0)) (de_c pe_int) (fun _ _ => rfl)) (de_c pe_int))) da_nil)) (de_c pe_int)))
      (dss_cons (ds_set false (i := 4) nd rfl (by first | exact Or.inl rfl | exact Or.inr rfl) (de_bin or_mod od_mod (de_callTy cr_int cd_int (by rfl) T.n_int (by decide +kernel) (da_cons false (de_bin or_add od_add (de_bin or_add od_add (de_bin or_mul2 od_mul2 (de_var (pv 4)) (de_c pe_int)) (de_bin or_fdiv od_fdiv (de_var (pv 3)) (de_c pe_int))) (de_ix hu (de_var (pv 0)) (de_c pe_int) (fun _ _ => rfl))) da_nil)) (de_c pe_int)))
      (dss_one (ds_ret (de_bin or_mod od_mod (de_bin or_fdiv od_fdiv (de_var (pv 4)) (de_c pe_int)) (de_var (pv 1)))))))))))))
theorem ok_law_draw (T : Top K mg) : FnOk P w K mg base (L2.CX P w) 1 T.f_law_draw T.fd_law_draw P_law_draw (liftSp K (sp_law_draw)) :=
  fnD T.F_law_draw sc_law_draw (b_law_draw) fun _ _ _ _ _ _ hr => w_law_draw T hr
theorem w_law_one_of (T : Top K mg) {cdv : Value} {A : Around} {outer : List Env} {s : Shared} {H : Hp} {E : XK} (hr : Room 1 (A.deeper (envOfC "_law_one_of" (defScope s_law_one_of) s.heap.objs.size T.f_law_one_of cdv))) :
    PSs (cxOf (L2.CX P w) P w K mg base N_law_one_of "_law_one_of" (defScope s_law_one_of) T.f_law_one_of cdv A outer s H E) (defBody s_law_one_of) (liftS K (fun cls d _ H => E cls d H) (d_law_one_of)) := by
  have nd := (sc_law_one_of).nd
  have hu := hr.units
  have tk : Takes (cxOf (L2.CX P w) P w K mg base N_law_one_of "_law_one_of" (defScope s_law_one_of) T.f_law_one_of cdv A outer s H E) (fun cls d _ H => E cls d H) := takes_of rfl rfl rfl rfl
  have hp : PassesOwn (model P w) (A.deeper (envOfC "_law_one_of" (defScope s_law_one_of) s.heap.objs.size T.f_law_one_of cdv)) (envOfC "_law_one_of" (defScope s_law_one_of) s.heap.objs.size T.f_law_one_of cdv) (cxOf (L2.CX P w) P w K mg base N_law_one_of "_law_one_of" (defScope s_law_one_of) T.f_law_one_of cdv A outer s H E).xe := passes_of (X := cxOf (L2.CX P w) P w K mg base N_law_one_of "_law_one_of" (defScope s_law_one_of) T.f_law_one_of cdv A outer s H E) rfl
  exact (dss_one (ds_ret (de_ix hu (de_var (pv 1)) (de_call (ok_law_draw T) (hr.mono (by decide)) (by rfl) T.g_law_draw T.F_law_draw.kp T.b_law_draw tk (da_cons false (de_var (pv 0)) (da_cons false (de_callB cr_len cd_len (by rfl) T.n_len (by decide +kernel) (da_cons false (de_var (pv 1)) da_nil)) da_nil))) (fun _ _ => rfl))))
theorem ok_law_one_of (T : Top K mg) : FnOk P w K mg base (L2.CX P w) 2 T.f_law_one_of T.fd_law_one_of P_law_one_of (liftSp K (sp_law_one_of)) :=
  fnD T.F_law_one_of sc_law_one_of (b_law_one_of) fun _ _ _ _ _ _ hr => w_law_one_of T hr
theorem w_law_is_int (T : Top K mg) {cdv : Value} {A : Around} {outer : List Env} {s : Shared} {H : Hp} {E : XK} (hr : Room 0 (A.deeper (envOfC "_law_is_int" (defScope s_law_is_int) s.heap.objs.size T.f_law_is_int cdv))) :
    PSs (cxOf (L2.CX P w) P w K mg base N_law_is_int "_law_is_int" (defScope s_law_is_int) T.f_law_is_int cdv A outer s H E) (defBody s_law_is_int) (liftS K (fun cls d _ H => E cls d H) (d_law_is_int)) := by
  have nd := (sc_law_is_int).nd
  have hu := hr.units
  have tk : Takes (cxOf (L2.CX P w) P w K mg base N_law_is_int "_law_is_int" (defScope s_law_is_int) T.f_law_is_int cdv A outer s H E) (fun cls d _ H => E cls d H) := takes_of rfl rfl rfl rfl
  have hp : PassesOwn (model P w) (A.deeper (envOfC "_law_is_int" (defScope s_law_is_int) s.heap.objs.size T.f_law_is_int cdv)) (envOfC "_law_is_int" (defScope s_law_is_int) s.heap.objs.size T.f_law_is_int cdv) (cxOf (L2.CX P w) P w K mg base N_law_is_int "_law_is_int" (defScope s_law_is_int) T.f_law_is_int cdv A outer s H E).xe := passes_of (X := cxOf (L2.CX P w) P w K mg base N_law_is_int "_law_is_int" (defScope s_law_is_int) T.f_law_is_int cdv A outer s H E) rfl
  exact (dss_one (ds_ret (de_and (de_callB call_isi cd_isi (by rfl) T.n_isinstance (by decide +kernel) (da_cons false (de_var (pv 0)) (da_cons false (de_c (pe_bltn (v := .ty "int") (by rfl) T.n_int (by decide +kernel) rfl)) da_nil))) (de_one (de_not (de_callB call_isi cd_isi (by rfl) T.n_isinstance (by decide +kernel) (da_cons false (de_var (pv 0)) (da_cons false (de_c (pe_bltn (v := .ty "bool") (by rfl) T.n_bool (by decide +kernel) rfl)) da_nil))))))))
theorem ok_law_is_int (T : Top K mg) : FnOk P w K mg base (L2.CX P w) 1 T.f_law_is_int T.fd_law_is_int P_law_is_int (liftSp K (sp_law_is_int)) :=
  fnD T.F_law_is_int sc_law_is_int (b_law_is_int) fun _ _ _ _ _ _ hr => w_law_is_int T hr
theorem w_law_same (T : Top K mg) {k : Nat} (hk : 1 ≤ k) {self : DSp} (slf : FnOk P w K mg base (L2.CX P w) k T.f_law_same T.fd_law_same P_law_same (liftSp K self)) {cdv : Value} {A : Around} {outer : List Env} {s : Shared} {H : Hp} {E : XK} (hr : Room k (A.deeper (envOfC "_law_same" (defScope s_law_same) s.heap.objs.size T.f_law_same cdv))) :
    PSs (cxOf (L2.CX P w) P w K mg base N_law_same "_law_same" (defScope s_law_same) T.f_law_same cdv A outer s H E) (defBody s_law_same) (liftS K (fun cls d _ H => E cls d H) (d_law_same self)) := by
  have nd := (sc_law_same).nd
  have hu := hr.units
  have tk : Takes (cxOf (L2.CX P w) P w K mg base N_law_same "_law_same" (defScope s_law_same) T.f_law_same cdv A outer s H E) (fun cls d _ H => E cls d H) := takes_of rfl rfl rfl rfl
  have hp : PassesOwn (model P w) (A.deeper (envOfC "_law_same" (defScope s_law_same) s.heap.objs.size T.f_law_same cdv)) (envOfC "_law_same" (defScope s_law_same) s.heap.objs.size T.f_law_same cdv) (cxOf (L2.CX P w) P w K mg base N_law_same "_law_same" (defScope s_law_same) T.f_law_same cdv A outer s H E).xe := passes_of (X := cxOf (L2.CX P w) P w K mg base N_law_same "_law_same" (defScope s_law_same) T.f_law_same cdv A outer s H E) rfl
  exact (dss_cons (ds_if (dt_tru (de_callB call_isi cd_isi (by rfl) T.n_isinstance (by decide +kernel) (da_cons false (de_var (pv 1)) (da_cons false (de_c (pe_bltn (v := .ty "tuple") (by rfl) T.n_tuple (by decide +kernel) rfl)) da_nil))))
      (dss_cons (ds_if (dw_or (dt_not (dt_tru (de_callB call_isi cd_isi (by rfl) T.n_isinstance (by decide +kernel) (da_cons false (de_var (pv 0)) (da_cons false (de_c (pe_bltn (v := .ty "tuple") (by rfl) T.n_tuple (by decide +kernel) rfl)) da_nil))))) (dw_or1 (dt_cmp (or_ne hu) od_ne (de_callB cr_len cd_len (by rfl) T.n_len (by decide +kernel) (da_cons false (de_var (pv 0)) da_nil)) (de_callB cr_len cd_len (by rfl) T.n_len (by decide +kernel) (da_cons false (de_var (pv 1)) da_nil)) (nomark _)))).pt
      (dss_one (ds_ret (de_c pe_bl)))
      dss_nil)
      (dss_one (ds_ret (de_callB (cr_all rfl) cd_anyAll (by rfl) T.n_all (by decide +kernel) (da_cons false (de_lc (own := [("k", 2)]) false rfl nd (di_range1 (by rfl) T.n_range (da_cons false (de_callB cr_len cd_len (by rfl) T.n_len (by decide +kernel) (da_cons false (de_var (pv 1)) da_nil)) da_nil)) (blkOk_by (own := [("k", 2)]) (N := N_law_same) (sc := defScope s_law_same) (by decide +kernel)) (fun _ _ _ _ _ => (dg_name (i := 2) nd rfl (by first | exact Or.inl rfl | exact Or.inr rfl))) (fun _ _ _ _ _ => dts_nil) (fun _ _ _ _ _ => (de_call slf hr (by rfl) T.g_law_same T.F_law_same.kp T.b_law_same takes0 (da_cons false (de_ix hu (de_var (pv 0)) (de_var (pv 2)) (fun _ _ => rfl)) (da_cons false (de_ix hu (de_var (pv 1)) (de_var (pv 2)) (fun _ _ => rfl)) da_nil)))) (by decide)) da_nil)))))
      dss_nil)
      (dss_cons (ds_if (dt_tru (de_callB call_isi cd_isi (by rfl) T.n_isinstance (by decide +kernel) (da_cons false (de_var (pv 1)) (da_cons false (de_c (pe_bltn (v := .ty "str") (by rfl) T.n_str (by decide +kernel) rfl)) da_nil))))
      (dss_one (ds_ret (de_and (de_callB call_isi cd_isi (by rfl) T.n_isinstance (by decide +kernel) (da_cons false (de_var (pv 0)) (da_cons false (de_c (pe_bltn (v := .ty "str") (by rfl) T.n_str (by decide +kernel) rfl)) da_nil))) (de_one (de_cmp (or_eq hu) od_eq (de_var (pv 0)) (de_var (pv 1)) (nomark _))))))
      dss_nil)
      (dss_one (ds_ret (de_and (de_call (ok_law_is_int T) (hr.mono (Nat.le_trans (by decide) hk)) (by rfl) T.g_law_is_int T.F_law_is_int.kp T.b_law_is_int tk (da_cons false (de_var (pv 0)) da_nil)) (de_one (de_cmp (or_eq hu) od_eq (de_var (pv 0)) (de_var (pv 1)) (nomark _))))))))
theorem okr_law_same (T : Top K mg) : ∀ k : Nat, FnOk P w K mg base (L2.CX P w) (1 + k) T.f_law_same T.fd_law_same P_law_same (liftSp K (spr_law_same k))
  | 0 => fnOk_no (no_law_same)
  | k + 1 => fnD T.F_law_same sc_law_same (b_law_same k) fun _ _ _ _ _ _ hr => w_law_same T (Nat.le_add_right _ _) (okr_law_same T k) hr
theorem ok_law_same (T : Top K mg) : FnOk P w K mg base (L2.CX P w) 26 T.f_law_same T.fd_law_same P_law_same (liftSp K (sp_law_same)) := okr_law_same T 25
theorem w_law_digits (T : Top K mg) {cdv : Value} {A : Around} {outer : List Env} {s : Shared} {H : Hp} {E : XK} (hr : Room 0 (A.deeper (envOfC "_law_digits" (defScope s_law_digits) s.heap.objs.size T.f_law_digits cdv))) :
    PSs (cxOf (L2.CX P w) P w K mg base N_law_digits "_law_digits" (defScope s_law_digits) T.f_law_digits cdv A outer s H E) (defBody s_law_digits) (liftS K (fun cls d _ H => E cls d H) (d_law_digits)) := by
  have nd := (sc_law_digits).nd
  have hu := hr.units
  have tk : Takes (cxOf (L2.CX P w) P w K mg base N_law_digits "_law_digits" (defScope s_law_digits) T.f_law_digits cdv A outer s H E) (fun cls d _ H => E cls d H) := takes_of rfl rfl rfl rfl
  have hp : PassesOwn (model P w) (A.deeper (envOfC "_law_digits" (defScope s_law_digits) s.heap.objs.size T.f_law_digits cdv)) (envOfC "_law_digits" (defScope s_law_digits) s.heap.objs.size T.f_law_digits cdv) (cxOf (L2.CX P w) P w K mg base N_law_digits "_law_digits" (defScope s_law_digits) T.f_law_digits cdv A outer s H E).xe := passes_of (X := cxOf (L2.CX P w) P w K mg base N_law_digits "_law_digits" (defScope s_law_digits) T.f_law_digits cdv A outer s H E) rfl
  exact (dss_cons (ds_set false (i := 1) nd rfl (by first | exact Or.inl rfl | exact Or.inr rfl) (de_c pe_str))
      (dss_cons (ds_set false (i := 2) nd rfl (by first | exact Or.inl rfl | exact Or.inr rfl) (de_callB call_abs cd_abs (by rfl) T.n_abs (by decide +kernel) (da_cons false (de_var (pv 0)) da_nil)))
      (dss_cons (ds_for hp rfl (di_range1 (by rfl) T.n_range (da_cons false (de_c pe_int) da_nil)) (dg_name (i := 3) nd rfl (by first | exact Or.inl rfl | exact Or.inr rfl))
      (dss_cons (ds_if (dw_or (dt_cmp or_gt od_gt (de_var (pv 2)) (de_c pe_int) (nomark _)) (dw_or1 (dt_cmp (or_eq hu) od_eq (de_var (pv 3)) (de_c pe_int) (nomark _)))).pt
      (dss_one (ds_set false (i := 1) nd rfl (by first | exact Or.inl rfl | exact Or.inr rfl) (de_bin or_add od_add (de_ix hu (de_c pe_str) (de_bin or_mod od_mod (de_callTy cr_int cd_int (by rfl) T.n_int (by decide +kernel) (da_cons false (de_var (pv 2)) da_nil)) (de_c pe_int)) (fun _ _ => rfl)) (de_var (pv 1)))))
      dss_nil)
      (dss_one (ds_set false (i := 2) nd rfl (by first | exact Or.inl rfl | exact Or.inr rfl) (de_bin or_fdiv od_fdiv (de_var (pv 2)) (de_c pe_int))))))
      (dss_one (ds_ret (de_bin or_add od_add (de_ix hu (de_lst (da_cons false (de_c pe_str) (da_cons false (de_c pe_str) da_nil))) (de_callTy cr_int cd_int (by rfl) T.n_int (by decide +kernel) (da_cons false (de_cmp or_lt od_lt (de_var (pv 0)) (de_c pe_int) (nomark _)) da_nil)) (fun _ _ => rfl)) (de_var (pv 1))))))))
theorem ok_law_digits (T : Top K mg) : FnOk P w K mg base (L2.CX P w) 1 T.f_law_digits T.fd_law_digits P_law_digits (liftSp K (sp_law_digits)) :=
  fnD T.F_law_digits sc_law_digits (b_law_digits) fun _ _ _ _ _ _ hr => w_law_digits T hr
theorem w_law_some_text (T : Top K mg) {cdv : Value} {A : Around} {outer : List Env} {s : Shared} {H : Hp} {E : XK} (hr : Room 2 (A.deeper (envOfC "_law_some_text" (defScope s_law_some_text) s.heap.objs.size T.f_law_some_text cdv))) :
    PSs (cxOf (L2.CX P w) P w K mg base N_law_some_text "_law_some_text" (defScope s_law_some_text) T.f_law_some_text cdv A outer s H E) (defBody s_law_some_text) (liftS K (fun cls d _ H => E cls d H) (d_law_some_text)) := by
  have nd := (sc_law_some_text).nd
  have hu := hr.units
  have tk : Takes (cxOf (L2.CX P w) P w K mg base N_law_some_text "_law_some_text" (defScope s_law_some_text) T.f_law_some_text cdv A outer s H E) (fun cls d _ H => E cls d H) := takes_of rfl rfl rfl rfl
  have hp : PassesOwn (model P w) (A.deeper (envOfC "_law_some_text" (defScope s_law_some_text) s.heap.objs.size T.f_law_some_text cdv)) (envOfC "_law_some_text" (defScope s_law_some_text) s.heap.objs.size T.f_law_some_text cdv) (cxOf (L2.CX P w) P w K mg base N_law_some_text "_law_some_text" (defScope s_law_some_text) T.f_law_some_text cdv A outer s H E).xe := passes_of (X := cxOf (L2.CX P w) P w K mg base N_law_some_text "_law_some_text" (defScope s_law_some_text) T.f_law_some_text cdv A outer s H E) rfl
  exact (dss_cons (ds_set false (i := 1) nd rfl (by first | exact Or.inl rfl | exact Or.inr rfl) (de_lst (da_cons false (de_c pe_str) (da_cons false (de_c pe_str) (da_cons false (de_c pe_str) (da_cons false (de_c pe_str) (da_cons false (de_c pe_str) (da_cons false (de_c pe_str) (da_cons false (de_c pe_str) (da_cons false (de_c pe_str) (da_cons false (de_c pe_str) (da_cons false (de_c pe_str) (da_cons false (de_c pe_str) (da_cons false (de_c pe_str) (da_cons false (de_c pe_str) (da_cons false (de_c pe_str) (da_cons false (de_c pe_str) (da_cons false (de_c pe_str) da_nil))))))))))))))))))
      (dss_one (ds_ret (de_bm PySem.F.plainAttrs_str PySem.F.slot_str_join PySem.F.type_str_join mr_join md_join (de_c pe_str) (da_cons false (de_lc (own := [("turn", 2)]) false rfl nd (di_range1 (by rfl) T.n_range (da_cons false (de_call (ok_law_draw T) (hr.mono (by decide)) (by rfl) T.g_law_draw T.F_law_draw.kp T.b_law_draw tk (da_cons false (de_var (pv 0)) (da_cons false (de_c pe_int) da_nil))) da_nil)) (blkOk_by (own := [("turn", 2)]) (N := N_law_some_text) (sc := defScope s_law_some_text) (by decide +kernel)) (fun _ _ _ _ _ => (dg_name (i := 2) nd rfl (by first | exact Or.inl rfl | exact Or.inr rfl))) (fun _ _ _ _ _ => dts_nil) (fun _ _ _ _ _ => (de_call (ok_law_one_of T) (hr.mono (by decide)) (by rfl) T.g_law_one_of T.F_law_one_of.kp T.b_law_one_of takes0 (da_cons false (de_var (pv 0)) (da_cons false (de_var (pv 1)) da_nil)))) (by decide)) da_nil)))))
theorem ok_law_some_text (T : Top K mg) : FnOk P w K mg base (L2.CX P w) 3 T.f_law_some_text T.fd_law_some_text P_law_some_text (liftSp K (sp_law_some_text)) :=
  fnD T.F_law_some_text sc_law_some_text (b_law_some_text) fun _ _ _ _ _ _ hr => w_law_some_text T hr
theorem w_law_some_integer (T : Top K mg) {cdv : Value} {A : Around} {outer : List Env} {s : Shared} {H : Hp} {E : XK} (hr : Room 2 (A.deeper (envOfC "_law_some_integer" (defScope s_law_some_integer) s.heap.objs.size T.f_law_some_integer cdv))) :
    PSs (cxOf (L2.CX P w) P w K mg base N_law_some_integer "_law_some_integer" (defScope s_law_some_integer) T.f_law_some_integer cdv A outer s H E) (defBody s_law_some_integer) (liftS K (fun cls d _ H => E cls d H) (d_law_some_integer)) := by
  have nd := (sc_law_some_integer).nd
  have hu := hr.units
  have tk : Takes (cxOf (L2.CX P w) P w K mg base N_law_some_integer "_law_some_integer" (defScope s_law_some_integer) T.f_law_some_integer cdv A outer s H E) (fun cls d _ H => E cls d H) := takes_of rfl rfl rfl rfl
  have hp : PassesOwn (model P w) (A.deeper (envOfC "_law_some_integer" (defScope s_law_some_integer) s.heap.objs.size T.f_law_some_integer cdv)) (envOfC "_law_some_integer" (defScope s_law_some_integer) s.heap.objs.size T.f_law_some_integer cdv) (cxOf (L2.CX P w) P w K mg base N_law_some_integer "_law_some_integer" (defScope s_law_some_integer) T.f_law_some_integer cdv A outer s H E).xe := passes_of (X := cxOf (L2.CX P w) P w K mg base N_law_some_integer "_law_some_integer" (defScope s_law_some_integer) T.f_law_some_integer cdv A outer s H E) rfl
  exact (dss_cons (ds_set false (i := 1) nd rfl (by first | exact Or.inl rfl | exact Or.inr rfl) (de_call (ok_law_draw T) (hr.mono (by decide)) (by rfl) T.g_law_draw T.F_law_draw.kp T.b_law_draw tk (da_cons false (de_var (pv 0)) (da_cons false (de_c pe_int) da_nil))))
      (dss_cons (ds_if (dt_cmp (or_eq hu) od_eq (de_var (pv 1)) (de_c pe_int) (nomark _))
      (dss_one (ds_ret (de_call (ok_law_one_of T) (hr.mono (by decide)) (by rfl) T.g_law_one_of T.F_law_one_of.kp T.b_law_one_of tk (da_cons false (de_var (pv 0)) (da_cons false (de_lst (da_cons false (de_c pe_int) (da_cons false (de_c pe_int) (da_cons false (de_neg (de_c pe_int)) (da_cons false (de_c pe_int) (da_cons false (de_c pe_int) (da_cons false (de_neg (de_c pe_int)) (da_cons false (de_c pe_int) (da_cons false (de_c pe_int) da_nil))))))))) da_nil)))))
      dss_nil)
      (dss_cons (ds_if (dt_cmp (or_eq hu) od_eq (de_var (pv 1)) (de_c pe_int) (nomark _))
      (dss_one (ds_ret (de_bin or_add od_add (de_bin or_mul2 od_mul2 (de_bin or_mul2 od_mul2 (de_bin or_add od_add (de_call (ok_law_draw T) (hr.mono (by decide)) (by rfl) T.g_law_draw T.F_law_draw.kp T.b_law_draw tk (da_cons false (de_var (pv 0)) (da_cons false (de_bin or_pow od_pow (de_c pe_int) (de_c pe_int)) da_nil))) (de_c pe_int)) (de_bin or_pow od_pow (de_c pe_int) (de_c pe_int))) (de_bin or_add od_add (de_call (ok_law_draw T) (hr.mono (by decide)) (by rfl) T.g_law_draw T.F_law_draw.kp T.b_law_draw tk (da_cons false (de_var (pv 0)) (da_cons false (de_bin or_pow od_pow (de_c pe_int) (de_c pe_int)) da_nil))) (de_c pe_int))) (de_call (ok_law_draw T) (hr.mono (by decide)) (by rfl) T.g_law_draw T.F_law_draw.kp T.b_law_draw tk (da_cons false (de_var (pv 0)) (da_cons false (de_c pe_int) da_nil))))))
      dss_nil)
      (dss_one (ds_ret (de_bin or_sub od_sub (de_call (ok_law_draw T) (hr.mono (by decide)) (by rfl) T.g_law_draw T.F_law_draw.kp T.b_law_draw tk (da_cons false (de_var (pv 0)) (da_cons false (de_c pe_int) da_nil))) (de_c pe_int)))))))
theorem ok_law_some_integer (T : Top K mg) : FnOk P w K mg base (L2.CX P w) 3 T.f_law_some_integer T.fd_law_some_integer P_law_some_integer (liftSp K (sp_law_some_integer)) :=
  fnD T.F_law_some_integer sc_law_some_integer (b_law_some_integer) fun _ _ _ _ _ _ hr => w_law_some_integer T hr
theorem w_law_some_datum (T : Top K mg) {k : Nat} (hk : 3 ≤ k) {self : DSp} (slf : FnOk P w K mg base (L2.CX P w) k T.f_law_some_datum T.fd_law_some_datum P_law_some_datum (liftSp K self)) {cdv : Value} {A : Around} {outer : List Env} {s : Shared} {H : Hp} {E : XK} (hr : Room k (A.deeper (envOfC "_law_some_datum" (defScope s_law_some_datum) s.heap.objs.size T.f_law_some_datum cdv))) :
    PSs (cxOf (L2.CX P w) P w K mg base N_law_some_datum "_law_some_datum" (defScope s_law_some_datum) T.f_law_some_datum cdv A outer s H E) (defBody s_law_some_datum) (liftS K (fun cls d _ H => E cls d H) (d_law_some_datum self)) := by
  have nd := (sc_law_some_datum).nd
  have hu := hr.units
  have tk : Takes (cxOf (L2.CX P w) P w K mg base N_law_some_datum "_law_some_datum" (defScope s_law_some_datum) T.f_law_some_datum cdv A outer s H E) (fun cls d _ H => E cls d H) := takes_of rfl rfl rfl rfl
  have hp : PassesOwn (model P w) (A.deeper (envOfC "_law_some_datum" (defScope s_law_some_datum) s.heap.objs.size T.f_law_some_datum cdv)) (envOfC "_law_some_datum" (defScope s_law_some_datum) s.heap.objs.size T.f_law_some_datum cdv) (cxOf (L2.CX P w) P w K mg base N_law_some_datum "_law_some_datum" (defScope s_law_some_datum) T.f_law_some_datum cdv A outer s H E).xe := passes_of (X := cxOf (L2.CX P w) P w K mg base N_law_some_datum "_law_some_datum" (defScope s_law_some_datum) T.f_law_some_datum cdv A outer s H E) rfl
  exact (dss_cons (ds_set false (i := 2) nd rfl (by first | exact Or.inl rfl | exact Or.inr rfl) (de_call (ok_law_draw T) (hr.mono (Nat.le_trans (by decide) hk)) (by rfl) T.g_law_draw T.F_law_draw.kp T.b_law_draw tk (da_cons false (de_var (pv 0)) (da_cons false (de_c pe_int) da_nil))))
      (dss_cons (ds_if (dw_and (dt_cmp or_gt od_gt (de_var (pv 2)) (de_c pe_int) (nomark _)) (dw_and1 (dt_cmp or_gt od_gt (de_var (pv 1)) (de_c pe_int) (nomark _)))).pt
      (dss_one (ds_ret (de_callTy call_tuple_of cd_tuple (by rfl) T.n_tuple (by decide +kernel) (da_cons false (de_lc (own := [("turn", 3)]) false rfl nd (di_range1 (by rfl) T.n_range (da_cons false (de_call (ok_law_draw T) (hr.mono (Nat.le_trans (by decide) hk)) (by rfl) T.g_law_draw T.F_law_draw.kp T.b_law_draw tk (da_cons false (de_var (pv 0)) (da_cons false (de_c pe_int) da_nil))) da_nil)) (blkOk_by (own := [("turn", 3)]) (N := N_law_some_datum) (sc := defScope s_law_some_datum) (by decide +kernel)) (fun _ _ _ _ _ => (dg_name (i := 3) nd rfl (by first | exact Or.inl rfl | exact Or.inr rfl))) (fun _ _ _ _ _ => dts_nil) (fun _ _ _ _ _ => (de_call slf hr (by rfl) T.g_law_some_datum T.F_law_some_datum.kp T.b_law_some_datum takes0 (da_cons false (de_var (pv 0)) (da_cons false (de_bin or_sub od_sub (de_var (pv 1)) (de_c pe_int)) da_nil)))) (by decide)) da_nil))))
      dss_nil)
      (dss_cons (ds_if (dt_cmp (or_eq hu) od_eq (de_var (pv 2)) (de_c pe_int) (nomark _))
      (dss_one (ds_ret (de_call (ok_law_some_text T) (hr.mono (Nat.le_trans (by decide) hk)) (by rfl) T.g_law_some_text T.F_law_some_text.kp T.b_law_some_text tk (da_cons false (de_var (pv 0)) da_nil))))
      dss_nil)
      (dss_one (ds_ret (de_call (ok_law_some_integer T) (hr.mono (Nat.le_trans (by decide) hk)) (by rfl) T.g_law_some_integer T.F_law_some_integer.kp T.b_law_some_integer tk (da_cons false (de_var (pv 0)) da_nil)))))))
theorem okr_law_some_datum (T : Top K mg) : ∀ k : Nat, FnOk P w K mg base (L2.CX P w) (3 + k) T.f_law_some_datum T.fd_law_some_datum P_law_some_datum (liftSp K (spr_law_some_datum k))
  | 0 => fnOk_no (no_law_some_datum)
  | k + 1 => fnD T.F_law_some_datum sc_law_some_datum (b_law_some_datum k) fun _ _ _ _ _ _ hr => w_law_some_datum T (Nat.le_add_right _ _) (okr_law_some_datum T k) hr
theorem ok_law_some_datum (T : Top K mg) : FnOk P w K mg base (L2.CX P w) 9 T.f_law_some_datum T.fd_law_some_datum P_law_some_datum (liftSp K (sp_law_some_datum)) := okr_law_some_datum T 6
theorem w_law_written (T : Top K mg) {k : Nat} (hk : 1 ≤ k) {self : DSp} (slf : FnOk P w K mg base (L2.CX P w) k T.f_law_written T.fd_law_written P_law_written (liftSp K self)) {cdv : Value} {A : Around} {outer : List Env} {s : Shared} {H : Hp} {E : XK} (hr : Room k (A.deeper (envOfC "_law_written" (defScope s_law_written) s.heap.objs.size T.f_law_written cdv))) :
    PSs (cxOf (L2.CX P w) P w K mg base N_law_written "_law_written" (defScope s_law_written) T.f_law_written cdv A outer s H E) (defBody s_law_written) (liftS K (fun cls d _ H => E cls d H) (d_law_written self)) := by
  have nd := (sc_law_written).nd
  have hu := hr.units
  have tk : Takes (cxOf (L2.CX P w) P w K mg base N_law_written "_law_written" (defScope s_law_written) T.f_law_written cdv A outer s H E) (fun cls d _ H => E cls d H) := takes_of rfl rfl rfl rfl
  have hp : PassesOwn (model P w) (A.deeper (envOfC "_law_written" (defScope s_law_written) s.heap.objs.size T.f_law_written cdv)) (envOfC "_law_written" (defScope s_law_written) s.heap.objs.size T.f_law_written cdv) (cxOf (L2.CX P w) P w K mg base N_law_written "_law_written" (defScope s_law_written) T.f_law_written cdv A outer s H E).xe := passes_of (X := cxOf (L2.CX P w) P w K mg base N_law_written "_law_written" (defScope s_law_written) T.f_law_written cdv A outer s H E) rfl
  exact (dss_cons (ds_if (dt_tru (de_callB call_isi cd_isi (by rfl) T.n_isinstance (by decide +kernel) (da_cons false (de_var (pv 0)) (da_cons false (de_c (pe_bltn (v := .ty "tuple") (by rfl) T.n_tuple (by decide +kernel) rfl)) da_nil))))
      (dss_one (ds_ret (de_bin or_add od_add (de_bin or_add od_add (de_c pe_str) (de_bm PySem.F.plainAttrs_str PySem.F.slot_str_join PySem.F.type_str_join mr_join md_join (de_c pe_str) (da_cons false (de_lc (own := [("one", 1)]) false rfl nd (di_seq (de_var (pv 0))) (blkOk_by (own := [("one", 1)]) (N := N_law_written) (sc := defScope s_law_written) (by decide +kernel)) (fun _ _ _ _ _ => (dg_name (i := 1) nd rfl (by first | exact Or.inl rfl | exact Or.inr rfl))) (fun _ _ _ _ _ => dts_nil) (fun _ _ _ _ _ => (de_call slf hr (by rfl) T.g_law_written T.F_law_written.kp T.b_law_written takes0 (da_cons false (de_var (pv 1)) da_nil))) (by decide)) da_nil))) (de_c pe_str))))
      dss_nil)
      (dss_cons (ds_if (dt_tru (de_callB call_isi cd_isi (by rfl) T.n_isinstance (by decide +kernel) (da_cons false (de_var (pv 0)) (da_cons false (de_c (pe_bltn (v := .ty "str") (by rfl) T.n_str (by decide +kernel) rfl)) da_nil))))
      (dss_one (ds_ret (de_bin or_add od_add (de_bin or_add od_add (de_c pe_str) (de_var (pv 0))) (de_c pe_str))))
      dss_nil)
      (dss_one (ds_ret (de_call (ok_law_digits T) (hr.mono (Nat.le_trans (by decide) hk)) (by rfl) T.g_law_digits T.F_law_digits.kp T.b_law_digits tk (da_cons false (de_var (pv 0)) da_nil))))))
theorem okr_law_written (T : Top K mg) : ∀ k : Nat, FnOk P w K mg base (L2.CX P w) (1 + k) T.f_law_written T.fd_law_written P_law_written (liftSp K (spr_law_written k))
  | 0 => fnOk_no (no_law_written)
  | k + 1 => fnD T.F_law_written sc_law_written (b_law_written k) fun _ _ _ _ _ _ hr => w_law_written T (Nat.le_add_right _ _) (okr_law_written T k) hr
theorem ok_law_written (T : Top K mg) : FnOk P w K mg base (L2.CX P w) 26 T.f_law_written T.fd_law_written P_law_written (liftSp K (sp_law_written)) := okr_law_written T 25
theorem w_law_read (T : Top K mg) {cdv : Value} {A : Around} {outer : List Env} {s : Shared} {H : Hp} {E : XK} (hr : Room 3 (A.deeper (envOfC "_law_read" (defScope s_law_read) s.heap.objs.size T.f_law_read cdv))) :
    PSs (cxOf (L2.CX P w) P w K mg base N_law_read "_law_read" (defScope s_law_read) T.f_law_read cdv A outer s H E) (defBody s_law_read) (liftS K (fun cls d _ H => E cls d H) (d_law_read T.f_read_data T.f_read_integer T.k_BadText T.k_MeanwithinError)) := by
  have nd := (sc_law_read).nd
  have hu := hr.units
  have tk : Takes (cxOf (L2.CX P w) P w K mg base N_law_read "_law_read" (defScope s_law_read) T.f_law_read cdv A outer s H E) (fun cls d _ H => E cls d H) := takes_of rfl rfl rfl rfl
  have hp : PassesOwn (model P w) (A.deeper (envOfC "_law_read" (defScope s_law_read) s.heap.objs.size T.f_law_read cdv)) (envOfC "_law_read" (defScope s_law_read) s.heap.objs.size T.f_law_read cdv) (cxOf (L2.CX P w) P w K mg base N_law_read "_law_read" (defScope s_law_read) T.f_law_read cdv A outer s H E).xe := passes_of (X := cxOf (L2.CX P w) P w K mg base N_law_read "_law_read" (defScope s_law_read) T.f_law_read cdv A outer s H E) rfl
  exact (dss_one (ds_try_as (i := 2) (cl := [(T.k_BadText, true)]) (dsu := fun C a => sOnly (C = T.k_BadText) (sRet (dOp opIx (dLst (dCons false (dC (.str "none")) (dCons false (dTup dNil) dNil))) (dCB opInt (dCons false (dCB (opIsE a T.k_MeanwithinError true) (dCons false (dVar 2) (dCons false (dC (.con T.k_MeanwithinError)) dNil))) dNil))))) rfl rfl nd rfl rfl ⟨rfl, by decide, Or.inl T.gk_BadText⟩ tk (fun W2 pn xe tk hp => (dss_one (ds_ret (de_tup (da_cons false (de_call2 (i := 0) (ok_read_integer T) T.F_read_integer.kp T.b_read_integer (ok_read_data T) T.F_read_data.kp T.b_read_data (hr.mono (by decide)) (hr.mono (by decide)) rfl (by first | exact Or.inl rfl | exact Or.inr (Or.inl rfl) | exact Or.inr (Or.inr rfl)) tk (da_cons false (de_var (pv 1)) da_nil)) da_nil))))) (fun a oe C pn hz hf => pss_only fun eC => by subst eC; exact (dss_one (ds_ret (de_ix hu (de_lst (da_cons false (de_c pe_str) (da_cons false (de_tup da_nil) da_nil))) (de_callTy cr_int cd_int (by rfl) T.n_int (by decide +kernel) (da_cons false (de_callB (call_isE T.ec hz hf) (cd_isE T.kit) (by rfl) T.n_isinstance (by decide +kernel) (da_cons false (de_var (pv 2)) (da_cons false (de_c (v := .ref T.k_MeanwithinError) (x := .con T.k_MeanwithinError) (pe_glob (by rfl) T.gk_MeanwithinError rfl)) da_nil))) da_nil)) (fun _ _ => rfl))))) (fun p hp => by cases List.mem_singleton.mp hp; exact exm_own T.x_BadText T.cl_BadText T.sb_BadText)))
theorem ok_law_read (T : Top K mg) : FnOk P w K mg base (L2.CX P w) 4 T.f_law_read T.fd_law_read P_law_read (liftSp K (sp_law_read T.f_read_data T.f_read_integer T.k_BadText T.k_MeanwithinError)) :=
  fnD T.F_law_read sc_law_read (b_law_read T.f_read_data T.f_read_integer T.k_BadText T.k_MeanwithinError) fun _ _ _ _ _ _ hr => w_law_read T hr
theorem w_law_changed (T : Top K mg) {cdv : Value} {A : Around} {outer : List Env} {s : Shared} {H : Hp} {E : XK} (hr : Room 2 (A.deeper (envOfC "_law_changed" (defScope s_law_changed) s.heap.objs.size T.f_law_changed cdv))) :
    PSs (cxOf (L2.CX P w) P w K mg base N_law_changed "_law_changed" (defScope s_law_changed) T.f_law_changed cdv A outer s H E) (defBody s_law_changed) (liftS K (fun cls d _ H => E cls d H) (d_law_changed)) := by
  have nd := (sc_law_changed).nd
  have hu := hr.units
  have tk : Takes (cxOf (L2.CX P w) P w K mg base N_law_changed "_law_changed" (defScope s_law_changed) T.f_law_changed cdv A outer s H E) (fun cls d _ H => E cls d H) := takes_of rfl rfl rfl rfl
  have hp : PassesOwn (model P w) (A.deeper (envOfC "_law_changed" (defScope s_law_changed) s.heap.objs.size T.f_law_changed cdv)) (envOfC "_law_changed" (defScope s_law_changed) s.heap.objs.size T.f_law_changed cdv) (cxOf (L2.CX P w) P w K mg base N_law_changed "_law_changed" (defScope s_law_changed) T.f_law_changed cdv A outer s H E).xe := passes_of (X := cxOf (L2.CX P w) P w K mg base N_law_changed "_law_changed" (defScope s_law_changed) T.f_law_changed cdv A outer s H E) rfl
  exact (dss_cons (ds_set false (i := 2) nd rfl (by first | exact Or.inl rfl | exact Or.inr rfl) (de_lst (da_cons false (de_bin or_add od_add (de_var (pv 1)) (de_c pe_str)) (da_cons false (de_bin or_add od_add (de_c pe_str) (de_var (pv 1))) (da_cons false (de_bin or_add od_add (de_var (pv 1)) (de_c pe_str)) (da_cons false (de_bin or_add od_add (de_c pe_str) (de_var (pv 1))) (da_cons false (de_bin or_add od_add (de_var (pv 1)) (de_var (pv 1))) (da_cons false (de_bin or_add od_add (de_var (pv 1)) (de_c pe_str)) (da_cons false (de_c pe_str) da_nil)))))))))
      (dss_cons (ds_for hp rfl (di_range1 (by rfl) T.n_range (da_cons false (de_c pe_int) da_nil)) (dg_name (i := 3) nd rfl (by first | exact Or.inl rfl | exact Or.inr rfl))
      (dss_cons (ds_set false (i := 4) nd rfl (by first | exact Or.inl rfl | exact Or.inr rfl) (de_call (ok_law_draw T) (hr.mono (by decide)) (by rfl) T.g_law_draw T.F_law_draw.kp T.b_law_draw tk (da_cons false (de_var (pv 0)) (da_cons false (de_bin or_add od_add (de_callB cr_len cd_len (by rfl) T.n_len (by decide +kernel) (da_cons false (de_var (pv 1)) da_nil)) (de_c pe_int)) da_nil))))
      (dss_cons (ds_set false (i := 5) nd rfl (by first | exact Or.inl rfl | exact Or.inr rfl) (de_call (ok_law_one_of T) (hr.mono (by decide)) (by rfl) T.g_law_one_of T.F_law_one_of.kp T.b_law_one_of tk (da_cons false (de_var (pv 0)) (da_cons false (de_lst (da_cons false (de_c pe_str) (da_cons false (de_c pe_str) (da_cons false (de_c pe_str) (da_cons false (de_c pe_str) (da_cons false (de_c pe_str) (da_cons false (de_c pe_str) (da_cons false (de_c pe_str) (da_cons false (de_c pe_str) (da_cons false (de_c pe_str) (da_cons false (de_c pe_str) (da_cons false (de_c pe_str) da_nil)))))))))))) da_nil))))
      (dss_one (ds_set false (i := 2) nd rfl (by first | exact Or.inl rfl | exact Or.inr rfl) (de_bin or_add od_add (de_var (pv 2)) (de_lst (da_cons false (de_bin or_add od_add (de_slice (de_var (pv 1)) do_none (do_some (de_var (pv 4)))) (de_slice (de_var (pv 1)) (do_some (de_bin or_add od_add (de_var (pv 4)) (de_c pe_int))) do_none)) (da_cons false (de_bin or_add od_add (de_bin or_add od_add (de_slice (de_var (pv 1)) do_none (do_some (de_var (pv 4)))) (de_var (pv 5))) (de_slice (de_var (pv 1)) (do_some (de_bin or_add od_add (de_var (pv 4)) (de_c pe_int))) do_none)) (da_cons false (de_bin or_add od_add (de_bin or_add od_add (de_slice (de_var (pv 1)) do_none (do_some (de_var (pv 4)))) (de_var (pv 5))) (de_slice (de_var (pv 1)) (do_some (de_var (pv 4))) do_none)) (da_cons false (de_bin or_add od_add (de_bin or_add od_add (de_slice (de_var (pv 1)) do_none (do_some (de_var (pv 4)))) (de_slice (de_var (pv 1)) (do_some (de_var (pv 4))) (do_some (de_bin or_add od_add (de_var (pv 4)) (de_c pe_int))))) (de_slice (de_var (pv 1)) (do_some (de_var (pv 4))) do_none)) da_nil)))))))))))
      (dss_one (ds_ret (de_var (pv 2))))))
theorem ok_law_changed (T : Top K mg) : FnOk P w K mg base (L2.CX P w) 3 T.f_law_changed T.fd_law_changed P_law_changed (liftSp K (sp_law_changed)) :=
  fnD T.F_law_changed sc_law_changed (b_law_changed) fun _ _ _ _ _ _ hr => w_law_changed T hr
theorem w_law_deep_fits (T : Top K mg) {cdv : Value} {A : Around} {outer : List Env} {s : Shared} {H : Hp} {E : XK} (hr : Room 4 (A.deeper (envOfC "_law_deep_fits" (defScope s_law_deep_fits) s.heap.objs.size T.f_law_deep_fits cdv))) :
    PSs (cxOf (L2.CX P w) P w K mg base N_law_deep_fits "_law_deep_fits" (defScope s_law_deep_fits) T.f_law_deep_fits cdv A outer s H E) (defBody s_law_deep_fits) (liftS K (fun cls d _ H => E cls d H) (d_law_deep_fits T.f_read_data T.f_read_integer T.k_BadText T.k_MeanwithinError)) := by
  have nd := (sc_law_deep_fits).nd
  have hu := hr.units
  have tk : Takes (cxOf (L2.CX P w) P w K mg base N_law_deep_fits "_law_deep_fits" (defScope s_law_deep_fits) T.f_law_deep_fits cdv A outer s H E) (fun cls d _ H => E cls d H) := takes_of rfl rfl rfl rfl
  have hp : PassesOwn (model P w) (A.deeper (envOfC "_law_deep_fits" (defScope s_law_deep_fits) s.heap.objs.size T.f_law_deep_fits cdv)) (envOfC "_law_deep_fits" (defScope s_law_deep_fits) s.heap.objs.size T.f_law_deep_fits cdv) (cxOf (L2.CX P w) P w K mg base N_law_deep_fits "_law_deep_fits" (defScope s_law_deep_fits) T.f_law_deep_fits cdv A outer s H E).xe := passes_of (X := cxOf (L2.CX P w) P w K mg base N_law_deep_fits "_law_deep_fits" (defScope s_law_deep_fits) T.f_law_deep_fits cdv A outer s H E) rfl
  exact (dss_cons (ds_for hp rfl (di_seq (de_lst (da_cons false (de_tup (da_cons false (de_c pe_int) (da_cons false (de_c pe_bl) da_nil))) (da_cons false (de_tup (da_cons false (de_c pe_int) (da_cons false (de_c pe_bl) da_nil))) (da_cons false (de_tup (da_cons false (de_c pe_int) (da_cons false (de_c pe_bl) da_nil))) (da_cons false (de_tup (da_cons false (de_c pe_int) (da_cons false (de_c pe_bl) da_nil))) da_nil)))))) (dg_tup rfl (dgs_cons (dg_name (i := 0) nd rfl (by first | exact Or.inl rfl | exact Or.inr rfl)) (dgs_cons (dg_name (i := 1) nd rfl (by first | exact Or.inl rfl | exact Or.inr rfl)) dgs_nil)) rfl)
      (dss_one (ds_for hp rfl (di_seq (de_lst (da_cons false (de_bin or_add od_add (de_bin or_mul2 od_mul2 (de_c pe_str) (de_var (pv 0))) (de_bin or_mul2 od_mul2 (de_c pe_str) (de_var (pv 0)))) (da_cons false (de_bin or_add od_add (de_bin or_add od_add (de_bin or_mul2 od_mul2 (de_c pe_str) (de_var (pv 0))) (de_c pe_str)) (de_bin or_mul2 od_mul2 (de_c pe_str) (de_var (pv 0)))) da_nil)))) (dg_name (i := 2) nd rfl (by first | exact Or.inl rfl | exact Or.inr rfl))
      (dss_one (ds_if (dt_cmp (or_ne hu) od_ne (de_cmp (or_ne hu) od_ne (de_call (ok_law_read T) (hr.mono (by decide)) (by rfl) T.g_law_read T.F_law_read.kp T.b_law_read tk (da_cons false (de_c (v := .ref T.f_read_data) (x := .con T.f_read_data) (pe_glob (by rfl) T.g_read_data rfl)) (da_cons false (de_var (pv 2)) da_nil))) (de_tup da_nil) (nomark _)) (de_var (pv 1)) (nomark _))
      (dss_one (ds_ret (de_c pe_bl)))
      dss_nil)))))
      (dss_one (ds_ret (de_c pe_bl))))
theorem ok_law_deep_fits (T : Top K mg) : FnOk P w K mg base (L2.CX P w) 5 T.f_law_deep_fits T.fd_law_deep_fits P_law_deep_fits (liftSp K (sp_law_deep_fits T.f_read_data T.f_read_integer T.k_BadText T.k_MeanwithinError)) :=
  fnD T.F_law_deep_fits sc_law_deep_fits (b_law_deep_fits T.f_read_data T.f_read_integer T.k_BadText T.k_MeanwithinError) fun _ _ _ _ _ _ hr => w_law_deep_fits T hr
theorem w_law (T : Top K mg) {cdv : Value} {A : Around} {outer : List Env} {s : Shared} {H : Hp} {E : XK} (hr : Room 27 (A.deeper (envOfC "law" (defScope s_law) s.heap.objs.size T.f_law cdv))) :
    PSs (cxOf (L2.CX P w) P w K mg base N_law "law" (defScope s_law) T.f_law cdv A outer s H E) (defBody s_law) (liftS K (fun cls d _ H => E cls d H) (d_law T.f_read_data T.f_read_integer T.k_BadText T.k_MeanwithinError)) := by
  have nd := (sc_law).nd
  have hu := hr.units
  have tk : Takes (cxOf (L2.CX P w) P w K mg base N_law "law" (defScope s_law) T.f_law cdv A outer s H E) (fun cls d _ H => E cls d H) := takes_of rfl rfl rfl rfl
  have hp : PassesOwn (model P w) (A.deeper (envOfC "law" (defScope s_law) s.heap.objs.size T.f_law cdv)) (envOfC "law" (defScope s_law) s.heap.objs.size T.f_law cdv) (cxOf (L2.CX P w) P w K mg base N_law "law" (defScope s_law) T.f_law cdv A outer s H E).xe := passes_of (X := cxOf (L2.CX P w) P w K mg base N_law "law" (defScope s_law) T.f_law cdv A outer s H E) rfl
  exact (dss_cons (ds_set true (i := 1) nd rfl (by first | exact Or.inl rfl | exact Or.inr rfl) (de_call (ok_law_start T) (hr.mono (by decide)) (by rfl) T.g_law_start T.F_law_start.kp T.b_law_start tk (da_cons false (de_var (pv 0)) da_nil)))
      (dss_cons (ds_for hp rfl (di_range1 (by rfl) T.n_range (da_cons false (de_c pe_int) da_nil)) (dg_name (i := 2) nd rfl (by first | exact Or.inl rfl | exact Or.inr rfl))
      (dss_cons (ds_set false (i := 3) nd rfl (by first | exact Or.inl rfl | exact Or.inr rfl) (de_bin or_mul2 od_mul2 (de_call (ok_law_some_integer T) (hr.mono (by decide)) (by rfl) T.g_law_some_integer T.F_law_some_integer.kp T.b_law_some_integer tk (da_cons false (de_var (pv 1)) da_nil)) (de_ix hu (de_lst (da_cons false (de_c pe_int) (da_cons false (de_neg (de_c pe_int)) da_nil))) (de_call (ok_law_draw T) (hr.mono (by decide)) (by rfl) T.g_law_draw T.F_law_draw.kp T.b_law_draw tk (da_cons false (de_var (pv 1)) (da_cons false (de_c pe_int) da_nil))) (fun _ _ => rfl))))
      (dss_cons (ds_set false (i := 4) nd rfl (by first | exact Or.inl rfl | exact Or.inr rfl) (de_call (ok_law_digits T) (hr.mono (by decide)) (by rfl) T.g_law_digits T.F_law_digits.kp T.b_law_digits tk (da_cons false (de_var (pv 3)) da_nil)))
      (dss_cons (ds_if (dw_or (dt_not (dt_tru (de_call (ok_law_same T) (hr.mono (by decide)) (by rfl) T.g_law_same T.F_law_same.kp T.b_law_same tk (da_cons false (de_call (ok_write_integer T) (hr.mono (by decide)) (by rfl) T.g_write_integer T.F_write_integer.kp T.b_write_integer tk (da_cons false (de_var (pv 3)) da_nil)) (da_cons false (de_var (pv 4)) da_nil))))) (dw_or1 (dt_not (dt_tru (de_call (ok_law_same T) (hr.mono (by decide)) (by rfl) T.g_law_same T.F_law_same.kp T.b_law_same tk (da_cons false (de_call (ok_law_read T) (hr.mono (by decide)) (by rfl) T.g_law_read T.F_law_read.kp T.b_law_read tk (da_cons false (de_c (v := .ref T.f_read_integer) (x := .con T.f_read_integer) (pe_glob (by rfl) T.g_read_integer rfl)) (da_cons false (de_var (pv 4)) da_nil))) (da_cons false (de_tup (da_cons false (de_var (pv 3)) da_nil)) da_nil))))))).pt
      (dss_one (ds_ret (de_c pe_bl)))
      dss_nil)
      (dss_cons (ds_for hp rfl (di_seq (de_bin or_add od_add (de_call (ok_law_changed T) (hr.mono (by decide)) (by rfl) T.g_law_changed T.F_law_changed.kp T.b_law_changed tk (da_cons false (de_var (pv 1)) (da_cons false (de_var (pv 4)) da_nil))) (de_lst (da_cons false (de_bin or_add od_add (de_c pe_str) (de_var (pv 4))) (da_cons false (de_bin or_add od_add (de_c pe_str) (de_var (pv 4))) (da_cons false (de_bin or_add od_add (de_c pe_str) (de_var (pv 4))) (da_cons false (de_c pe_str) (da_cons false (de_c pe_str) (da_cons false (de_c pe_str) (da_cons false (de_c pe_str) (da_cons false (de_c pe_str) (da_cons false (de_c pe_str) da_nil)))))))))))) (dg_name (i := 5) nd rfl (by first | exact Or.inl rfl | exact Or.inr rfl))
      (dss_cons (ds_set false (i := 6) nd rfl (by first | exact Or.inl rfl | exact Or.inr rfl) (de_call (ok_law_read T) (hr.mono (by decide)) (by rfl) T.g_law_read T.F_law_read.kp T.b_law_read tk (da_cons false (de_c (v := .ref T.f_read_integer) (x := .con T.f_read_integer) (pe_glob (by rfl) T.g_read_integer rfl)) (da_cons false (de_var (pv 5)) da_nil))))
      (dss_one (ds_if (dw_and (dt_cmp (or_ne hu) od_ne (de_var (pv 6)) (de_tup da_nil) (nomark _)) (dw_and1 (dw_or (dt_cmp (or_ne hu) od_ne (de_callB cr_len cd_len (by rfl) T.n_len (by decide +kernel) (da_cons false (de_var (pv 6)) da_nil)) (de_c pe_int) (nomark _)) (dw_or1 (dt_cmp (or_ne hu) od_ne (de_call (ok_law_digits T) (hr.mono (by decide)) (by rfl) T.g_law_digits T.F_law_digits.kp T.b_law_digits tk (da_cons false (de_ix hu (de_var (pv 6)) (de_c pe_int) (fun _ _ => rfl)) da_nil)) (de_var (pv 5)) (nomark _)))).pt)).pt
      (dss_one (ds_ret (de_c pe_bl)))
      dss_nil))))
      (dss_cons (ds_set false (i := 7) nd rfl (by first | exact Or.inl rfl | exact Or.inr rfl) (de_call (ok_law_some_datum T) (hr.mono (by decide)) (by rfl) T.g_law_some_datum T.F_law_some_datum.kp T.b_law_some_datum tk (da_cons false (de_var (pv 1)) (da_cons false (de_c pe_int) da_nil))))
      (dss_cons (ds_set false (i := 4) nd rfl (by first | exact Or.inl rfl | exact Or.inr rfl) (de_call (ok_law_written T) (hr.mono (by decide)) (by rfl) T.g_law_written T.F_law_written.kp T.b_law_written tk (da_cons false (de_var (pv 7)) da_nil)))
      (dss_cons (ds_if (dw_or (dt_not (dt_tru (de_call (ok_law_same T) (hr.mono (by decide)) (by rfl) T.g_law_same T.F_law_same.kp T.b_law_same tk (da_cons false (de_call (ok_write_data T) (hr.mono (by decide)) (by rfl) T.g_write_data T.F_write_data.kp T.b_write_data tk (da_cons false (de_var (pv 7)) da_nil)) (da_cons false (de_var (pv 4)) da_nil))))) (dw_or1 (dt_not (dt_tru (de_call (ok_law_same T) (hr.mono (by decide)) (by rfl) T.g_law_same T.F_law_same.kp T.b_law_same tk (da_cons false (de_call (ok_law_read T) (hr.mono (by decide)) (by rfl) T.g_law_read T.F_law_read.kp T.b_law_read tk (da_cons false (de_c (v := .ref T.f_read_data) (x := .con T.f_read_data) (pe_glob (by rfl) T.g_read_data rfl)) (da_cons false (de_var (pv 4)) da_nil))) (da_cons false (de_tup (da_cons false (de_var (pv 7)) da_nil)) da_nil))))))).pt
      (dss_one (ds_ret (de_c pe_bl)))
      dss_nil)
      (dss_one (ds_for hp rfl (di_seq (de_call (ok_law_changed T) (hr.mono (by decide)) (by rfl) T.g_law_changed T.F_law_changed.kp T.b_law_changed tk (da_cons false (de_var (pv 1)) (da_cons false (de_var (pv 4)) da_nil)))) (dg_name (i := 5) nd rfl (by first | exact Or.inl rfl | exact Or.inr rfl))
      (dss_cons (ds_set false (i := 6) nd rfl (by first | exact Or.inl rfl | exact Or.inr rfl) (de_call (ok_law_read T) (hr.mono (by decide)) (by rfl) T.g_law_read T.F_law_read.kp T.b_law_read tk (da_cons false (de_c (v := .ref T.f_read_data) (x := .con T.f_read_data) (pe_glob (by rfl) T.g_read_data rfl)) (da_cons false (de_var (pv 5)) da_nil))))
      (dss_one (ds_if (dw_and (dt_cmp (or_ne hu) od_ne (de_var (pv 6)) (de_tup da_nil) (nomark _)) (dw_and1 (dw_or (dt_cmp (or_ne hu) od_ne (de_callB cr_len cd_len (by rfl) T.n_len (by decide +kernel) (da_cons false (de_var (pv 6)) da_nil)) (de_c pe_int) (nomark _)) (dw_or1 (dt_cmp (or_ne hu) od_ne (de_call (ok_law_written T) (hr.mono (by decide)) (by rfl) T.g_law_written T.F_law_written.kp T.b_law_written tk (da_cons false (de_ix hu (de_var (pv 6)) (de_c pe_int) (fun _ _ => rfl)) da_nil)) (de_var (pv 5)) (nomark _)))).pt)).pt
      (dss_one (ds_ret (de_c pe_bl)))
      dss_nil)))))))))))))
      (dss_cons (ds_set false (i := 8) nd rfl (by first | exact Or.inl rfl | exact Or.inr rfl) (de_lst (da_cons false (de_c pe_str) (da_cons false (de_c pe_str) (da_cons false (de_c pe_str) (da_cons false (de_c pe_str) (da_cons false (de_c pe_str) (da_cons false (de_c pe_str) (da_cons false (de_c pe_str) (da_cons false (de_c pe_str) (da_cons false (de_c pe_str) (da_cons false (de_c pe_str) (da_cons false (de_c pe_str) (da_cons false (de_c pe_str) (da_cons false (de_c pe_str) (da_cons false (de_c pe_str) (da_cons false (de_c pe_str) (da_cons false (de_c pe_str) (da_cons false (de_c pe_str) da_nil)))))))))))))))))))
      (dss_one (ds_ret (de_and (de_callB (cr_all rfl) cd_anyAll (by rfl) T.n_all (by decide +kernel) (da_cons false (de_lc (own := [("text", 4)]) false rfl nd (di_seq (de_var (pv 8))) (blkOk_by (own := [("text", 4)]) (N := N_law) (sc := defScope s_law) (by decide +kernel)) (fun _ _ _ _ _ => (dg_name (i := 4) nd rfl (by first | exact Or.inl rfl | exact Or.inr rfl))) (fun _ _ _ _ _ => dts_nil) (fun _ _ _ _ _ => (de_cmp (or_eq hu) od_eq (de_call (ok_law_read T) (hr.mono (by decide)) (by rfl) T.g_law_read T.F_law_read.kp T.b_law_read takes0 (da_cons false (de_c (v := .ref T.f_read_data) (x := .con T.f_read_data) (pe_glob (by rfl) T.g_read_data rfl)) (da_cons false (de_var (pv 4)) da_nil))) (de_tup da_nil) (nomark _))) (by decide)) da_nil)) (de_one (de_call0 (ok_law_deep_fits T) (hr.mono (by decide)) (by rfl) T.g_law_deep_fits T.F_law_deep_fits.kp T.b_law_deep_fits tk ))))))))
theorem ok_law (T : Top K mg) : FnOk P w K mg base (L2.CX P w) 28 T.f_law T.fd_law P_law (liftSp K (sp_law)) :=
  fnD T.F_law sc_law (b_law T.f_read_data T.f_read_integer T.k_BadText T.k_MeanwithinError) fun _ _ _ _ _ _ hr => w_law T hr
end
end K64


namespace K64
open PySem PySem.Spec PyProof.Rows L2 DW
theorem bnd_write_integer {K : PySem.W.Frag} {f : Addr} {fd : FuncData} (F : Fun K "write_integer" "write_integer" s_write_integer f fd) : Binds K fd P_write_integer [] := F.binds fun _ _ _ _ _ _ us hl => match us, hl with | [_], _ => rfl
theorem bnd_read_integer {K : PySem.W.Frag} {f : Addr} {fd : FuncData} (F : Fun K "read_integer" "read_integer" s_read_integer f fd) : Binds K fd P_read_integer [] := F.binds fun _ _ _ _ _ _ us hl => match us, hl with | [_], _ => rfl
theorem bnd_write_data {K : PySem.W.Frag} {f : Addr} {fd : FuncData} (F : Fun K "write_data" "write_data" s_write_data f fd) : Binds K fd P_write_data [] := F.binds fun _ _ _ _ _ _ us hl => match us, hl with | [_], _ => rfl
theorem bnd_plain_text {K : PySem.W.Frag} {f : Addr} {fd : FuncData} (F : Fun K "plain_text" "plain_text" s_plain_text f fd) : Binds K fd P_plain_text [] := F.binds fun _ _ _ _ _ _ us hl => match us, hl with | [_], _ => rfl
theorem bnd_read_plain {K : PySem.W.Frag} {f : Addr} {fd : FuncData} (F : Fun K "read_plain" "read_plain" s_read_plain f fd) : Binds K fd P_read_plain [] := F.binds fun _ _ _ _ _ _ us hl => match us, hl with | [_, _], _ => rfl
theorem bnd_read_data {K : PySem.W.Frag} {f : Addr} {fd : FuncData} (F : Fun K "read_data" "read_data" s_read_data f fd) : Binds K fd P_read_data [] := F.binds fun _ _ _ _ _ _ us hl => match us, hl with | [_], _ => rfl
theorem bnd_law_start {K : PySem.W.Frag} {f : Addr} {fd : FuncData} (F : Fun K "_law_start" "_law_start" s_law_start f fd) : Binds K fd P_law_start [] := F.binds fun _ _ _ _ _ _ us hl => match us, hl with | [_], _ => rfl
theorem bnd_law_draw {K : PySem.W.Frag} {f : Addr} {fd : FuncData} (F : Fun K "_law_draw" "_law_draw" s_law_draw f fd) : Binds K fd P_law_draw [] := F.binds fun _ _ _ _ _ _ us hl => match us, hl with | [_, _], _ => rfl
theorem bnd_law_one_of {K : PySem.W.Frag} {f : Addr} {fd : FuncData} (F : Fun K "_law_one_of" "_law_one_of" s_law_one_of f fd) : Binds K fd P_law_one_of [] := F.binds fun _ _ _ _ _ _ us hl => match us, hl with | [_, _], _ => rfl
theorem bnd_law_is_int {K : PySem.W.Frag} {f : Addr} {fd : FuncData} (F : Fun K "_law_is_int" "_law_is_int" s_law_is_int f fd) : Binds K fd P_law_is_int [] := F.binds fun _ _ _ _ _ _ us hl => match us, hl with | [_], _ => rfl
theorem bnd_law_same {K : PySem.W.Frag} {f : Addr} {fd : FuncData} (F : Fun K "_law_same" "_law_same" s_law_same f fd) : Binds K fd P_law_same [] := F.binds fun _ _ _ _ _ _ us hl => match us, hl with | [_, _], _ => rfl
theorem bnd_law_digits {K : PySem.W.Frag} {f : Addr} {fd : FuncData} (F : Fun K "_law_digits" "_law_digits" s_law_digits f fd) : Binds K fd P_law_digits [] := F.binds fun _ _ _ _ _ _ us hl => match us, hl with | [_], _ => rfl
theorem bnd_law_some_text {K : PySem.W.Frag} {f : Addr} {fd : FuncData} (F : Fun K "_law_some_text" "_law_some_text" s_law_some_text f fd) : Binds K fd P_law_some_text [] := F.binds fun _ _ _ _ _ _ us hl => match us, hl with | [_], _ => rfl
theorem bnd_law_some_integer {K : PySem.W.Frag} {f : Addr} {fd : FuncData} (F : Fun K "_law_some_integer" "_law_some_integer" s_law_some_integer f fd) : Binds K fd P_law_some_integer [] := F.binds fun _ _ _ _ _ _ us hl => match us, hl with | [_], _ => rfl
theorem bnd_law_some_datum {K : PySem.W.Frag} {f : Addr} {fd : FuncData} (F : Fun K "_law_some_datum" "_law_some_datum" s_law_some_datum f fd) : Binds K fd P_law_some_datum [] := F.binds fun _ _ _ _ _ _ us hl => match us, hl with | [_, _], _ => rfl
theorem bnd_law_written {K : PySem.W.Frag} {f : Addr} {fd : FuncData} (F : Fun K "_law_written" "_law_written" s_law_written f fd) : Binds K fd P_law_written [] := F.binds fun _ _ _ _ _ _ us hl => match us, hl with | [_], _ => rfl
theorem bnd_law_read {K : PySem.W.Frag} {f : Addr} {fd : FuncData} (F : Fun K "_law_read" "_law_read" s_law_read f fd) : Binds K fd P_law_read [] := F.binds fun _ _ _ _ _ _ us hl => match us, hl with | [_, _], _ => rfl
theorem bnd_law_changed {K : PySem.W.Frag} {f : Addr} {fd : FuncData} (F : Fun K "_law_changed" "_law_changed" s_law_changed f fd) : Binds K fd P_law_changed [] := F.binds fun _ _ _ _ _ _ us hl => match us, hl with | [_, _], _ => rfl
theorem bnd_law_deep_fits {K : PySem.W.Frag} {f : Addr} {fd : FuncData} (F : Fun K "_law_deep_fits" "_law_deep_fits" s_law_deep_fits f fd) : Binds K fd P_law_deep_fits [] := F.binds fun _ _ _ _ _ _ us hl => match us, hl with | [], _ => rfl
theorem bnd_law {K : PySem.W.Frag} {f : Addr} {fd : FuncData} (F : Fun K "law" "law" s_law f fd) : Binds K fd P_law [] := F.binds fun _ _ _ _ _ _ us hl => match us, hl with | [_], _ => rfl
def ClsFacts (K : PySem.W.Frag) (mg : Str → Option Value) : Prop := ∃ k_MeanwithinError k_BadText : Addr, mg "MeanwithinError" = some (.ref k_MeanwithinError) ∧ XCls K k_MeanwithinError ∧ mg "BadText" = some (.ref k_BadText) ∧ XCls K k_BadText ∧ PySem.W.isClsIn K k_MeanwithinError = true ∧ PySem.W.subIn K (.ref k_BadText) (.ref k_MeanwithinError) = some true ∧ PySem.W.isClsIn K k_BadText = true ∧ PySem.W.subIn K (.ref k_BadText) (.ref k_BadText) = some true ∧ PySem.W.findIn K (.ref k_BadText) "__getattribute__" = some (some (.builtin "BaseException.__getattribute__")) ∧ PySem.W.findIn K (.ref k_BadText) "__getattr__" = some none ∧ PySem.W.hasDictIn K k_BadText = true ∧ PySem.W.findIn K (.ref k_BadText) "__class__" = some (some (.builtin "object.__class__")) ∧ PySem.W.specialIn K (.builtin "object.__class__") "__get__" = some (some (.builtin "getset_descriptor.__get__")) ∧ PySem.W.takesIn K (.builtin "object.__class__") = some true ∧ PySem.W.mroIn K k_BadText (.type "object") = some true
theorem clsFacts_mk {K : PySem.W.Frag} {h : Heap} {mg : Str → Option Value} (X : K.In h) (G : h.Ns mainGlobals mg) {k_MeanwithinError k_BadText : Addr} (a_MeanwithinError : PySem.W.nsIn K mainGlobals "MeanwithinError" = some (some (.ref k_MeanwithinError))) (q_MeanwithinError : PySem.W.excIn K k_MeanwithinError [.type "ValueError", .type "Exception", .type "BaseException", .type "object"] "ValueError.__new__" = true) (e_MeanwithinError : PySem.W.keepIn K (.ref k_MeanwithinError) = true) (s_MeanwithinError : PySem.W.subIn K (.ref k_MeanwithinError) (.type "BaseException") = some true) (t_MeanwithinError : PySem.W.typeIn K (.ref k_MeanwithinError) = some (.type "type")) (a_BadText : PySem.W.nsIn K mainGlobals "BadText" = some (some (.ref k_BadText))) (q_BadText : PySem.W.excIn K k_BadText [.type "ValueError", .type "Exception", .type "BaseException", .type "object"] "ValueError.__new__" = true) (e_BadText : PySem.W.keepIn K (.ref k_BadText) = true) (s_BadText : PySem.W.subIn K (.ref k_BadText) (.type "BaseException") = some true) (t_BadText : PySem.W.typeIn K (.ref k_BadText) = some (.type "type")) (cl_M : PySem.W.isClsIn K k_MeanwithinError = true) (sb_M : PySem.W.subIn K (.ref k_BadText) (.ref k_MeanwithinError) = some true) (cl_BadText : PySem.W.isClsIn K k_BadText = true) (sb_BadText : PySem.W.subIn K (.ref k_BadText) (.ref k_BadText) = some true) (ec1 : PySem.W.findIn K (.ref k_BadText) "__getattribute__" = some (some (.builtin "BaseException.__getattribute__"))) (ec2 : PySem.W.findIn K (.ref k_BadText) "__getattr__" = some none) (ec4 : PySem.W.hasDictIn K k_BadText = true) (ec5 : PySem.W.findIn K (.ref k_BadText) "__class__" = some (some (.builtin "object.__class__"))) (ec6 : PySem.W.specialIn K (.builtin "object.__class__") "__get__" = some (some (.builtin "getset_descriptor.__get__"))) (ec7 : PySem.W.takesIn K (.builtin "object.__class__") = some true) (ec8 : PySem.W.mroIn K k_BadText (.type "object") = some true) : ClsFacts K mg := ⟨k_MeanwithinError, k_BadText, PySem.W.mg_of X G a_MeanwithinError, ⟨q_MeanwithinError, e_MeanwithinError, s_MeanwithinError, t_MeanwithinError⟩, PySem.W.mg_of X G a_BadText, ⟨q_BadText, e_BadText, s_BadText, t_BadText⟩, cl_M, sb_M, cl_BadText, sb_BadText, ec1, ec2, ec4, ec5, ec6, ec7, ec8⟩
theorem all_mk {P : Program} {w : World} {K : PySem.W.Frag} {h : Heap} {mg : Str → Option Value} {fa : Addr} (X : K.In h) (G : h.Ns mainGlobals mg) (hfa : mg "law" = some (.ref fa))
    (D_write_integer : DefOk K mg "write_integer" s_write_integer)
    (D_read_integer : DefOk K mg "read_integer" s_read_integer)
    (D_write_data : DefOk K mg "write_data" s_write_data)
    (D_plain_text : DefOk K mg "plain_text" s_plain_text)
    (D_read_plain : DefOk K mg "read_plain" s_read_plain)
    (D_read_data : DefOk K mg "read_data" s_read_data)
    (D_law_start : DefOk K mg "_law_start" s_law_start)
    (D_law_draw : DefOk K mg "_law_draw" s_law_draw)
    (D_law_one_of : DefOk K mg "_law_one_of" s_law_one_of)
    (D_law_is_int : DefOk K mg "_law_is_int" s_law_is_int)
    (D_law_same : DefOk K mg "_law_same" s_law_same)
    (D_law_digits : DefOk K mg "_law_digits" s_law_digits)
    (D_law_some_text : DefOk K mg "_law_some_text" s_law_some_text)
    (D_law_some_integer : DefOk K mg "_law_some_integer" s_law_some_integer)
    (D_law_some_datum : DefOk K mg "_law_some_datum" s_law_some_datum)
    (D_law_written : DefOk K mg "_law_written" s_law_written)
    (D_law_read : DefOk K mg "_law_read" s_law_read)
    (D_law_changed : DefOk K mg "_law_changed" s_law_changed)
    (D_law_deep_fits : DefOk K mg "_law_deep_fits" s_law_deep_fits)
    (D_law : DefOk K mg "law" s_law)
    (D_cls : ClsFacts K mg)
    (z_abs : PySem.W.nsIn K mainGlobals "abs" = some none)
    (z_all : PySem.W.nsIn K mainGlobals "all" = some none)
    (z_bool : PySem.W.nsIn K mainGlobals "bool" = some none)
    (z_divmod : PySem.W.nsIn K mainGlobals "divmod" = some none)
    (z_int : PySem.W.nsIn K mainGlobals "int" = some none)
    (z_isinstance : PySem.W.nsIn K mainGlobals "isinstance" = some none)
    (z_len : PySem.W.nsIn K mainGlobals "len" = some none)
    (z_list : PySem.W.nsIn K mainGlobals "list" = some none)
    (z_ord : PySem.W.nsIn K mainGlobals "ord" = some none)
    (z_range : PySem.W.nsIn K mainGlobals "range" = some none)
    (z_str : PySem.W.nsIn K mainGlobals "str" = some none)
    (z_tuple : PySem.W.nsIn K mainGlobals "tuple" = some none)
    (c_BASE : ConstOf K mg "BASE" v_BASE)
    (c_DIGITS : ConstOf K mg "DIGITS" v_DIGITS)
    (c_DEPTH : ConstOf K mg "DEPTH" v_DEPTH)
    (c_SIGNS : ConstOf K mg "SIGNS" v_SIGNS)
    : ∃ fd : FuncData, (∀ (s : Shared) (u : Value), BindsTo s fd ⟨[u], []⟩ [("script", u)]) ∧ ∀ base : Heap, K.In base → base.Ns mainGlobals mg → FnOk P w K mg base (L2.CX P w) 28 fa fd ["script"] (liftSp K sp_law) := by
  obtain ⟨f_write_integer, fd_write_integer, F_write_integer, g_write_integer⟩ := D_write_integer
  obtain ⟨f_read_integer, fd_read_integer, F_read_integer, g_read_integer⟩ := D_read_integer
  obtain ⟨f_write_data, fd_write_data, F_write_data, g_write_data⟩ := D_write_data
  obtain ⟨f_plain_text, fd_plain_text, F_plain_text, g_plain_text⟩ := D_plain_text
  obtain ⟨f_read_plain, fd_read_plain, F_read_plain, g_read_plain⟩ := D_read_plain
  obtain ⟨f_read_data, fd_read_data, F_read_data, g_read_data⟩ := D_read_data
  obtain ⟨f_law_start, fd_law_start, F_law_start, g_law_start⟩ := D_law_start
  obtain ⟨f_law_draw, fd_law_draw, F_law_draw, g_law_draw⟩ := D_law_draw
  obtain ⟨f_law_one_of, fd_law_one_of, F_law_one_of, g_law_one_of⟩ := D_law_one_of
  obtain ⟨f_law_is_int, fd_law_is_int, F_law_is_int, g_law_is_int⟩ := D_law_is_int
  obtain ⟨f_law_same, fd_law_same, F_law_same, g_law_same⟩ := D_law_same
  obtain ⟨f_law_digits, fd_law_digits, F_law_digits, g_law_digits⟩ := D_law_digits
  obtain ⟨f_law_some_text, fd_law_some_text, F_law_some_text, g_law_some_text⟩ := D_law_some_text
  obtain ⟨f_law_some_integer, fd_law_some_integer, F_law_some_integer, g_law_some_integer⟩ := D_law_some_integer
  obtain ⟨f_law_some_datum, fd_law_some_datum, F_law_some_datum, g_law_some_datum⟩ := D_law_some_datum
  obtain ⟨f_law_written, fd_law_written, F_law_written, g_law_written⟩ := D_law_written
  obtain ⟨f_law_read, fd_law_read, F_law_read, g_law_read⟩ := D_law_read
  obtain ⟨f_law_changed, fd_law_changed, F_law_changed, g_law_changed⟩ := D_law_changed
  obtain ⟨f_law_deep_fits, fd_law_deep_fits, F_law_deep_fits, g_law_deep_fits⟩ := D_law_deep_fits
  obtain ⟨f_law, fd_law, F_law, g_law⟩ := D_law
  obtain ⟨k_MeanwithinError, k_BadText, gk_MeanwithinError, x_MeanwithinError, gk_BadText, x_BadText, cl_M, sb_M, cl_BadText, sb_BadText, ec1, ec2, ec4, ec5, ec6, ec7, ec8⟩ := D_cls
  obtain ⟨T, h1, h2⟩ : ∃ T : Top K mg, T.f_law = f_law ∧ T.fd_law = fd_law := ⟨{ f_write_integer := f_write_integer, fd_write_integer := fd_write_integer, F_write_integer := F_write_integer, g_write_integer := g_write_integer, b_write_integer := bnd_write_integer F_write_integer, f_read_integer := f_read_integer, fd_read_integer := fd_read_integer, F_read_integer := F_read_integer, g_read_integer := g_read_integer, b_read_integer := bnd_read_integer F_read_integer, f_write_data := f_write_data, fd_write_data := fd_write_data, F_write_data := F_write_data, g_write_data := g_write_data, b_write_data := bnd_write_data F_write_data, f_plain_text := f_plain_text, fd_plain_text := fd_plain_text, F_plain_text := F_plain_text, g_plain_text := g_plain_text, b_plain_text := bnd_plain_text F_plain_text, f_read_plain := f_read_plain, fd_read_plain := fd_read_plain, F_read_plain := F_read_plain, g_read_plain := g_read_plain, b_read_plain := bnd_read_plain F_read_plain, f_read_data := f_read_data, fd_read_data := fd_read_data, F_read_data := F_read_data, g_read_data := g_read_data, b_read_data := bnd_read_data F_read_data, f_law_start := f_law_start, fd_law_start := fd_law_start, F_law_start := F_law_start, g_law_start := g_law_start, b_law_start := bnd_law_start F_law_start, f_law_draw := f_law_draw, fd_law_draw := fd_law_draw, F_law_draw := F_law_draw, g_law_draw := g_law_draw, b_law_draw := bnd_law_draw F_law_draw, f_law_one_of := f_law_one_of, fd_law_one_of := fd_law_one_of, F_law_one_of := F_law_one_of, g_law_one_of := g_law_one_of, b_law_one_of := bnd_law_one_of F_law_one_of, f_law_is_int := f_law_is_int, fd_law_is_int := fd_law_is_int, F_law_is_int := F_law_is_int, g_law_is_int := g_law_is_int, b_law_is_int := bnd_law_is_int F_law_is_int, f_law_same := f_law_same, fd_law_same := fd_law_same, F_law_same := F_law_same, g_law_same := g_law_same, b_law_same := bnd_law_same F_law_same, f_law_digits := f_law_digits, fd_law_digits := fd_law_digits, F_law_digits := F_law_digits, g_law_digits := g_law_digits, b_law_digits := bnd_law_digits F_law_digits, f_law_some_text := f_law_some_text, fd_law_some_text := fd_law_some_text, F_law_some_text := F_law_some_text, g_law_some_text := g_law_some_text, b_law_some_text := bnd_law_some_text F_law_some_text, f_law_some_integer := f_law_some_integer, fd_law_some_integer := fd_law_some_integer, F_law_some_integer := F_law_some_integer, g_law_some_integer := g_law_some_integer, b_law_some_integer := bnd_law_some_integer F_law_some_integer, f_law_some_datum := f_law_some_datum, fd_law_some_datum := fd_law_some_datum, F_law_some_datum := F_law_some_datum, g_law_some_datum := g_law_some_datum, b_law_some_datum := bnd_law_some_datum F_law_some_datum, f_law_written := f_law_written, fd_law_written := fd_law_written, F_law_written := F_law_written, g_law_written := g_law_written, b_law_written := bnd_law_written F_law_written, f_law_read := f_law_read, fd_law_read := fd_law_read, F_law_read := F_law_read, g_law_read := g_law_read, b_law_read := bnd_law_read F_law_read, f_law_changed := f_law_changed, fd_law_changed := fd_law_changed, F_law_changed := F_law_changed, g_law_changed := g_law_changed, b_law_changed := bnd_law_changed F_law_changed, f_law_deep_fits := f_law_deep_fits, fd_law_deep_fits := fd_law_deep_fits, F_law_deep_fits := F_law_deep_fits, g_law_deep_fits := g_law_deep_fits, b_law_deep_fits := bnd_law_deep_fits F_law_deep_fits, f_law := f_law, fd_law := fd_law, F_law := F_law, g_law := g_law, b_law := bnd_law F_law, n_abs := PySem.W.mg_none_of X G z_abs, n_all := PySem.W.mg_none_of X G z_all, n_bool := PySem.W.mg_none_of X G z_bool, n_divmod := PySem.W.mg_none_of X G z_divmod, n_int := PySem.W.mg_none_of X G z_int, n_isinstance := PySem.W.mg_none_of X G z_isinstance, n_len := PySem.W.mg_none_of X G z_len, n_list := PySem.W.mg_none_of X G z_list, n_ord := PySem.W.mg_none_of X G z_ord, n_range := PySem.W.mg_none_of X G z_range, n_str := PySem.W.mg_none_of X G z_str, n_tuple := PySem.W.mg_none_of X G z_tuple, c_BASE := c_BASE, c_DIGITS := c_DIGITS, c_DEPTH := c_DEPTH, c_SIGNS := c_SIGNS, k_MeanwithinError := k_MeanwithinError, gk_MeanwithinError := gk_MeanwithinError, x_MeanwithinError := x_MeanwithinError, k_BadText := k_BadText, gk_BadText := gk_BadText, x_BadText := x_BadText, cl_M := cl_M, sb_M := sb_M, cl_BadText := cl_BadText, sb_BadText := sb_BadText, ec1 := ec1, ec2 := ec2, ec4 := ec4, ec5 := ec5, ec6 := ec6, ec7 := ec7, ec8 := ec8 }, rfl, rfl⟩
  have e : fa = f_law := by
    have e := hfa.symm.trans g_law
    cases e
    rfl
  rw [e]
  refine ⟨fd_law, binds_one F_law fun _ _ _ _ _ _ _ => rfl, fun base _ _ => ?_⟩
  rw [← h1, ← h2]
  exact ok_law T
end K64
open PySem PySem.W PyProof.Rows
set_option maxHeartbeats 0 in
theorem PySem.Challenge.cw_meanwithin_k64_texts_of_data_and_integer_holds : PySem.Challenge.rw_meanwithin_k64_texts_of_data_and_integer.Holds := by
  w_on; o_law; k_head; (case hw => w_witness2)
  k_fill
  refine L2.walk_of (l := PySem.Challenge.rw_meanwithin_k64_texts_of_data_and_integer) (n := 63) (k := 28) (x := "script") (CX := fun w => L2.CX (PySem.Challenge.rw_meanwithin_k64_texts_of_data_and_integer).prog w) (sp := fun w => DW.liftSp _ K64.sp_law) rfl (by decide) rfl ⟨rfl, by decide, by decide⟩ (fun w h Y => PySem.W.kIn_of Y) ?F (fun w H a ns hl _ hS => DW.head_sp hS (K64.head_law ns hl)) (fun w H s e s' h => DW.cx_no h)
  case F =>
    intro w mg fa h KX G hmg
    have D_write_integer : DW.DefOk _ mg "write_integer" K64.s_write_integer := DW.def_mk KX G (by k_is) (by k_is) (by k_is) (by k_is)
    have D_read_integer : DW.DefOk _ mg "read_integer" K64.s_read_integer := DW.def_mk KX G (by k_is) (by k_is) (by k_is) (by k_is)
    have D_write_data : DW.DefOk _ mg "write_data" K64.s_write_data := DW.def_mk KX G (by k_is) (by k_is) (by k_is) (by k_is)
    have D_plain_text : DW.DefOk _ mg "plain_text" K64.s_plain_text := DW.def_mk KX G (by k_is) (by k_is) (by k_is) (by k_is)
    have D_read_plain : DW.DefOk _ mg "read_plain" K64.s_read_plain := DW.def_mk KX G (by k_is) (by k_is) (by k_is) (by k_is)
    have D_read_data : DW.DefOk _ mg "read_data" K64.s_read_data := DW.def_mk KX G (by k_is) (by k_is) (by k_is) (by k_is)
    have D_law_start : DW.DefOk _ mg "_law_start" K64.s_law_start := DW.def_mk KX G (by k_is) (by k_is) (by k_is) (by k_is)
    have D_law_draw : DW.DefOk _ mg "_law_draw" K64.s_law_draw := DW.def_mk KX G (by k_is) (by k_is) (by k_is) (by k_is)
    have D_law_one_of : DW.DefOk _ mg "_law_one_of" K64.s_law_one_of := DW.def_mk KX G (by k_is) (by k_is) (by k_is) (by k_is)
    have D_law_is_int : DW.DefOk _ mg "_law_is_int" K64.s_law_is_int := DW.def_mk KX G (by k_is) (by k_is) (by k_is) (by k_is)
    have D_law_same : DW.DefOk _ mg "_law_same" K64.s_law_same := DW.def_mk KX G (by k_is) (by k_is) (by k_is) (by k_is)
    have D_law_digits : DW.DefOk _ mg "_law_digits" K64.s_law_digits := DW.def_mk KX G (by k_is) (by k_is) (by k_is) (by k_is)
    have D_law_some_text : DW.DefOk _ mg "_law_some_text" K64.s_law_some_text := DW.def_mk KX G (by k_is) (by k_is) (by k_is) (by k_is)
    have D_law_some_integer : DW.DefOk _ mg "_law_some_integer" K64.s_law_some_integer := DW.def_mk KX G (by k_is) (by k_is) (by k_is) (by k_is)
    have D_law_some_datum : DW.DefOk _ mg "_law_some_datum" K64.s_law_some_datum := DW.def_mk KX G (by k_is) (by k_is) (by k_is) (by k_is)
    have D_law_written : DW.DefOk _ mg "_law_written" K64.s_law_written := DW.def_mk KX G (by k_is) (by k_is) (by k_is) (by k_is)
    have D_law_read : DW.DefOk _ mg "_law_read" K64.s_law_read := DW.def_mk KX G (by k_is) (by k_is) (by k_is) (by k_is)
    have D_law_changed : DW.DefOk _ mg "_law_changed" K64.s_law_changed := DW.def_mk KX G (by k_is) (by k_is) (by k_is) (by k_is)
    have D_law_deep_fits : DW.DefOk _ mg "_law_deep_fits" K64.s_law_deep_fits := DW.def_mk KX G (by k_is) (by k_is) (by k_is) (by k_is)
    have D_law : DW.DefOk _ mg "law" K64.s_law := DW.def_mk KX G (by k_is) (by k_is) (by k_is) (by k_is)
    have c_BASE : DW.ConstOf _ mg "BASE" K64.v_BASE := DW.const_int KX G (by k_is)
    have c_DIGITS : DW.ConstOf _ mg "DIGITS" K64.v_DIGITS := DW.const_str KX G (by k_is)
    have c_DEPTH : DW.ConstOf _ mg "DEPTH" K64.v_DEPTH := DW.const_int KX G (by k_is)
    have c_SIGNS : DW.ConstOf _ mg "SIGNS" K64.v_SIGNS := DW.const_str KX G (by k_is)
    have D_cls : K64.ClsFacts _ mg := K64.clsFacts_mk KX G (by first | k_is | k_exc) (by first | k_is | k_exc) (by first | k_is | k_exc) (by first | k_is | k_exc) (by first | k_is | k_exc) (by first | k_is | k_exc) (by first | k_is | k_exc) (by first | k_is | k_exc) (by first | k_is | k_exc) (by first | k_is | k_exc) (by first | k_is | k_exc) (by first | k_is | k_exc) (by first | k_is | k_exc) (by first | k_is | k_exc) (by first | k_is | k_exc) (by first | k_is | k_exc) (by first | k_is | k_exc) (by first | k_is | k_exc) (by first | k_is | k_exc) (by first | k_is | k_exc) (by first | k_is | k_exc)
    refine K64.all_mk KX G hmg D_write_integer D_read_integer D_write_data D_plain_text D_read_plain D_read_data D_law_start D_law_draw D_law_one_of D_law_is_int D_law_same D_law_digits D_law_some_text D_law_some_integer D_law_some_datum D_law_written D_law_read D_law_changed D_law_deep_fits D_law D_cls ?z_abs ?z_all ?z_bool ?z_divmod ?z_int ?z_isinstance ?z_len ?z_list ?z_ord ?z_range ?z_str ?z_tuple c_BASE c_DIGITS c_DEPTH c_SIGNS
    case z_abs => k_is
    case z_all => k_is
    case z_bool => k_is
    case z_divmod => k_is
    case z_int => k_is
    case z_isinstance => k_is
    case z_len => k_is
    case z_list => k_is
    case z_ord => k_is
    case z_range => k_is
    case z_str => k_is
    case z_tuple => k_is

