import PyProof.Rows.All
import Wide.All
import OpenK.AllK
import Wide.FinOn
import HandS.ForMost
import KE.SortData
import HandS.IsInst
import HandS.TupAny
import KE.GoesNew
import HandS.Set
import HandS.SetFor
import KE.KDictSum
import KE.KDictCopyH
import PyProof.Transfer
import HandS.DictComp
import PyProof.Rows.IntBool
import HandS.TupSets
import KE.DataEq
import HandS.SetKeys
import HandS.ListItems
import KE.KItemsList
import KE.DataMinMax
import PyProof.DictWalks
import PySem.Challenge.RW_breedpost_k05_when_letters_come
set_option Elab.async false
set_option linter.all false
set_option maxRecDepth 100000
namespace G
open PySem PySem.Spec PyProof.Rows L2

abbrev Frag := PySem.W.Frag
def keyD : Key → PyData
  | .inl i => .int i
  | .inr x => .str x
def keysD (k : List Key) : PyData := .tuple (k.map keyD)

mutual
/-- the value v is the data d, read in F -/
def IsD (K : Frag) (F : Hp) : PyData → V → Prop
  | .none, v => v = .non
  | .bool b, v => v = .bl b
  | .int i, v => v = .int i
  | .str x, v => v = .str x
  | .list ds, v => ∃ a vs, v = .ref a ∧ F a = some (.lst vs) ∧ IsDs K F ds vs
  | .tuple ds, v => ∃ a vs, v = .ref a ∧ F a = some (.tup vs) ∧ IsDs K F ds vs
  | .dict kds, v => ∃ a, v = .ref a ∧ ((∃ kvs : List (Key × V), Rd F a (.dK kvs) ∧ IsKs K F kds kvs) ∨ (∃ kvs : List (List Key × V), Rd F a (.dT kvs) ∧ IsTm K F kds kvs))
def IsDs (K : Frag) (F : Hp) : List PyData → List V → Prop
  | [], vs => vs = []
  | d :: ds, vs => ∃ v r, vs = v :: r ∧ IsD K F d v ∧ IsDs K F ds r
def IsKs (K : Frag) (F : Hp) : List (PyData × PyData) → List (Key × V) → Prop
  | [], l => l = []
  | (k, d) :: r, l => ∃ kk v l', l = (kk, v) :: l' ∧ k = keyD kk ∧ IsD K F d v ∧ IsKs K F r l'
def IsTs (K : Frag) (F : Hp) : List (PyData × PyData) → List (List Key × V) → Prop
  | [], l => l = []
  | (k, d) :: r, l => ∃ kk v l', l = (kk, v) :: l' ∧ k = keysD kk ∧ IsD K F d v ∧ IsTs K F r l'
/-- a dict of tuple keys bears a mark ahead -/
def IsTm (K : Frag) (F : Hp) : List (PyData × PyData) → List (List Key × V) → Prop
  | [], _ => False
  | (k, d) :: r, l => k = .none ∧ d = .none ∧ IsTs K F r l
end

theorem Rd.mono' {F F' : Hp} {a : Addr} {u : HO} (m : ∀ b o, F b = some o → F' b = some o) (h : Rd F a u) : Rd F' a u := by
  rcases h with h | ⟨o, h⟩
  · exact .inl (m _ _ h)
  · exact .inr ⟨o, m _ _ h⟩
theorem SqL.mono' {K : Frag} {F F' : Hp} {a : Addr} {xs : List V} (m : ∀ b o, F b = some o → F' b = some o) (h : SqL K F a xs) : SqL K F' a xs := by
  rcases h with h | h
  · exact .inl (Rd.mono' m h)
  · exact .inr h
theorem SqT.mono' {K : Frag} {F F' : Hp} {a : Addr} {xs : List V} (m : ∀ b o, F b = some o → F' b = some o) (h : SqT K F a xs) : SqT K F' a xs := by
  rcases h with h | h
  · exact .inl (Rd.mono' m h)
  · exact .inr h
/-- no locked thing -/
def Nz : HO → Prop
  | .frz _ _ => False
  | _ => True
def isDic : HO → Prop
  | .dK _ => True
  | .dT _ => True
  | _ => False
/-- as it stands, but that dicts may be locked -/
def Le (F F' : Hp) : Prop := ∀ a o, F a = some o → F' a = some o ∨ (isDic o ∧ ∃ od, F' a = some (.frz od o))
theorem Le.of {F F' : Hp} (m : ∀ b o, F b = some o → F' b = some o) : Le F F' := fun a o h => .inl (m a o h)
theorem Le.nd {F F' : Hp} (m : Le F F') {a : Addr} {o : HO} (h : F a = some o) (n : ¬ isDic o) : F' a = some o := by
  rcases m a o h with h | ⟨d, _⟩
  · exact h
  · exact absurd d n
theorem Le.trans {F F1 F2 : Hp} (m : Le F F1) (n : Le F1 F2) : Le F F2 := fun a o h => by
  rcases m a o h with h | ⟨d, od, h⟩
  · exact n a o h
  · exact .inr ⟨d, od, n.nd h fun z => z⟩
/-- more is frozen (a dict may be locked) -/
structure FSub (F F' : Hp) : Prop where
  rd : ∀ a u, Nz u → Rd F a u → Rd F' a u
  lst : ∀ a vs, F a = some (.lst vs) → F' a = some (.lst vs)
  tup : ∀ a vs, F a = some (.tup vs) → F' a = some (.tup vs)
theorem FSub.of {F F' : Hp} (m : ∀ b o, F b = some o → F' b = some o) : FSub F F' := ⟨fun _ _ _ => Rd.mono' m, fun a vs h => m _ _ h, fun a vs h => m _ _ h⟩
theorem FSub.refl {F : Hp} : FSub F F := ⟨fun _ _ _ h => h, fun _ _ h => h, fun _ _ h => h⟩
theorem Le.fsub {F F' : Hp} (m : Le F F') : FSub F F' := by
  refine ⟨fun a u nz r => ?_, fun a vs h => m.nd h fun z => z, fun a vs h => m.nd h fun z => z⟩
  rcases r with r | ⟨o, r⟩
  · rcases m a u r with h | ⟨_, od, h⟩
    · exact .inl h
    · exact .inr ⟨od, h⟩
  · exact .inr ⟨o, m.nd r fun z => z⟩
mutual
/-- more is frozen: what was read is read -/
theorem IsD.rd {K : Frag} {F F' : Hp} (m : FSub F F') : ∀ (d : PyData) (v : V), IsD K F d v → IsD K F' d v
  | .none, _, h => h
  | .bool _, _, h => h
  | .int _, _, h => h
  | .str _, _, h => h
  | .list ds, v, h => by
    unfold IsD at h ⊢
    obtain ⟨a, vs, e, q, r⟩ := h
    exact ⟨a, vs, e, m.lst _ _ q, IsDs.rd m ds vs r⟩
  | .tuple ds, v, h => by
    unfold IsD at h ⊢
    obtain ⟨a, vs, e, q, r⟩ := h
    exact ⟨a, vs, e, m.tup _ _ q, IsDs.rd m ds vs r⟩
  | .dict kds, v, h => by
    unfold IsD at h ⊢
    obtain ⟨a, e, q⟩ := h
    refine ⟨a, e, ?_⟩
    rcases q with ⟨kvs, q, r⟩ | ⟨kvs, q, r⟩
    · exact .inl ⟨kvs, m.rd _ _ trivial q, IsKs.rd m kds kvs r⟩
    · exact .inr ⟨kvs, m.rd _ _ trivial q, IsTm.rd m kds kvs r⟩
theorem IsDs.rd {K : Frag} {F F' : Hp} (m : FSub F F') : ∀ (ds : List PyData) (vs : List V), IsDs K F ds vs → IsDs K F' ds vs
  | [], _, h => h
  | d :: ds, vs, h => by
    unfold IsDs at h ⊢
    obtain ⟨v, r, e, h1, h2⟩ := h
    exact ⟨v, r, e, IsD.rd m d v h1, IsDs.rd m ds r h2⟩
theorem IsKs.rd {K : Frag} {F F' : Hp} (m : FSub F F') : ∀ (ds : List (PyData × PyData)) (vs : List (Key × V)), IsKs K F ds vs → IsKs K F' ds vs
  | [], _, h => h
  | (k, d) :: ds, vs, h => by
    unfold IsKs at h ⊢
    obtain ⟨kk, v, r, e, e2, h1, h2⟩ := h
    exact ⟨kk, v, r, e, e2, IsD.rd m d v h1, IsKs.rd m ds r h2⟩
theorem IsTs.rd {K : Frag} {F F' : Hp} (m : FSub F F') : ∀ (ds : List (PyData × PyData)) (vs : List (List Key × V)), IsTs K F ds vs → IsTs K F' ds vs
  | [], _, h => h
  | (k, d) :: ds, vs, h => by
    unfold IsTs at h ⊢
    obtain ⟨kk, v, r, e, e2, h1, h2⟩ := h
    exact ⟨kk, v, r, e, e2, IsD.rd m d v h1, IsTs.rd m ds r h2⟩
theorem IsTm.rd {K : Frag} {F F' : Hp} (m : FSub F F') : ∀ (ds : List (PyData × PyData)) (vs : List (List Key × V)), IsTm K F ds vs → IsTm K F' ds vs
  | [], _, h => h
  | (k, d) :: ds, vs, h => by
    unfold IsTm at h ⊢
    exact ⟨h.1, h.2.1, IsTs.rd m ds vs h.2.2⟩
end
abbrev Sub (F F' : Hp) : Prop := ∀ b o, F b = some o → F' b = some o
theorem IsD.mono {K : Frag} {F F' : Hp} (m : Sub F F') {d : PyData} {v : V} (h : IsD K F d v) : IsD K F' d v := IsD.rd (.of m) d v h
theorem IsDs.mono {K : Frag} {F F' : Hp} (m : Sub F F') {d : List PyData} {v : List V} (h : IsDs K F d v) : IsDs K F' d v := IsDs.rd (.of m) d v h
theorem IsKs.mono {K : Frag} {F F' : Hp} (m : Sub F F') {d : List (PyData × PyData)} {v : List (Key × V)} (h : IsKs K F d v) : IsKs K F' d v := IsKs.rd (.of m) d v h
theorem IsTs.mono {K : Frag} {F F' : Hp} (m : Sub F F') {d : List (PyData × PyData)} {v : List (List Key × V)} (h : IsTs K F d v) : IsTs K F' d v := IsTs.rd (.of m) d v h
theorem IsDs.length {K : Frag} {F : Hp} : ∀ {ds : List PyData} {vs : List V}, IsDs K F ds vs → vs.length = ds.length
  | [], vs, h => by unfold IsDs at h; subst h; rfl
  | d :: ds, vs, h => by
    unfold IsDs at h
    obtain ⟨v, r, e, h1, h2⟩ := h
    subst e
    simp [IsDs.length h2]
theorem IsDs.get {K : Frag} {F : Hp} : ∀ {ds : List PyData} {vs : List V} {i : Nat} {d : PyData}, IsDs K F ds vs → ds[i]? = some d → ∃ v, vs[i]? = some v ∧ IsD K F d v
  | [], _, _, _, _, e => by simp at e
  | d :: ds, vs, i, x, h, e => by
    unfold IsDs at h
    obtain ⟨v, r, rfl, h1, h2⟩ := h
    cases i with
    | zero => simp at e; subst e; exact ⟨v, rfl, h1⟩
    | succ i => simp at e; obtain ⟨u, e1, e2⟩ := IsDs.get h2 e; exact ⟨u, by simpa using e1, e2⟩
theorem IsDs.getV {K : Frag} {F : Hp} {ds : List PyData} {vs : List V} {i : Nat} {v : V} (h : IsDs K F ds vs) (e : vs[i]? = some v) : ∃ d, ds[i]? = some d ∧ IsD K F d v := by
  have hl := h.length
  obtain ⟨hi, _⟩ := List.getElem?_eq_some_iff.mp e
  have : ds[i]? = some ds[i] := List.getElem?_eq_getElem (by omega)
  obtain ⟨u, e1, e2⟩ := h.get this
  rw [e] at e1; cases e1
  exact ⟨_, this, e2⟩
theorem IsDs.cons {K : Frag} {F : Hp} {d : PyData} {ds : List PyData} {v : V} {vs : List V} (h : IsD K F d v) (r : IsDs K F ds vs) : IsDs K F (d :: ds) (v :: vs) := by
  unfold IsDs; exact ⟨v, vs, rfl, h, r⟩
theorem IsDs.nil {K : Frag} {F : Hp} : IsDs K F [] [] := by unfold IsDs; rfl
theorem IsDs.append {K : Frag} {F : Hp} : ∀ {d1 d2 : List PyData} {v1 v2 : List V}, IsDs K F d1 v1 → IsDs K F d2 v2 → IsDs K F (d1 ++ d2) (v1 ++ v2)
  | [], _, _, _, h, r => by unfold IsDs at h; subst h; exact r
  | d :: ds, _, _, _, h, r => by
    unfold IsDs at h
    obtain ⟨v, q, rfl, h1, h2⟩ := h
    exact .cons h1 (IsDs.append h2 r)
theorem IsDs.take {K : Frag} {F : Hp} : ∀ {ds : List PyData} {vs : List V} (n : Nat), IsDs K F ds vs → IsDs K F (ds.take n) (vs.take n)
  | [], _, n, h => by unfold IsDs at h; subst h; simp; exact .nil
  | d :: ds, _, 0, h => by simp; exact .nil
  | d :: ds, _, n + 1, h => by
    unfold IsDs at h
    obtain ⟨v, q, rfl, h1, h2⟩ := h
    exact .cons h1 (h2.take n)
theorem IsDs.drop {K : Frag} {F : Hp} : ∀ {ds : List PyData} {vs : List V} (n : Nat), IsDs K F ds vs → IsDs K F (ds.drop n) (vs.drop n)
  | [], _, n, h => by unfold IsDs at h; subst h; simp; exact .nil
  | d :: ds, _, 0, h => h
  | d :: ds, _, n + 1, h => by
    unfold IsDs at h
    obtain ⟨v, q, rfl, h1, h2⟩ := h
    simpa using h2.drop n
theorem IsDs.of_get {K : Frag} {F : Hp} : ∀ {ds : List PyData} {vs : List V}, vs.length = ds.length → (∀ (i : Nat) d v, ds[i]? = some d → vs[i]? = some v → IsD K F d v) → IsDs K F ds vs
  | [], [], _, _ => .nil
  | [], _ :: _, h, _ => by simp at h
  | _ :: _, [], h, _ => by simp at h
  | d :: ds, v :: vs, h, g => .cons (g 0 d v rfl rfl) (IsDs.of_get (by simpa using h) fun i d v a b => g (i + 1) d v (by simpa using a) (by simpa using b))

/-! ### own trees -/
inductive M where
  | leaf (d : PyData)
  | lst (l : List M)
  | dK (l : List (Key × M))
  | dT (l : List (List Key × M))
  | ins (C : Addr) (l : List (Str × M))
  /-- a list that is read alone (the script) -/
  | ro (l : List PyData)

mutual
def M.frz : M → Option PyData
  | .leaf d => some d
  | .lst l => (M.frzs l).map .list
  | .dK l => (M.frzK l).map .dict
  | .dT l => (M.frzT l).map fun r => .dict ((.none, .none) :: r)
  | .ins _ _ => none
  | .ro _ => none
def M.frzs : List M → Option (List PyData)
  | [] => some []
  | m :: r => match M.frz m, M.frzs r with
    | some d, some ds => some (d :: ds)
    | _, _ => none
def M.frzK : List (Key × M) → Option (List (PyData × PyData))
  | [] => some []
  | (k, m) :: r => match M.frz m, M.frzK r with
    | some d, some ds => some ((keyD k, d) :: ds)
    | _, _ => none
def M.frzT : List (List Key × M) → Option (List (PyData × PyData))
  | [] => some []
  | (k, m) :: r => match M.frz m, M.frzT r with
    | some d, some ds => some ((keysD k, d) :: ds)
    | _, _ => none
end

mutual
/-- the own tree m at v; fp: the addresses that it owns -/
inductive Rep (K : Frag) (F H : Hp) : V → M → List Addr → Prop
  | leaf {v d} : IsD K F d v → Rep K F H v (.leaf d) []
  | ro {a vs ds} : SqL K F a vs → IsDs K F ds vs → Rep K F H (.ref a) (.ro ds) []
  | lst {a vs ms fp} : H a = some (.lst vs) → F a = none → Reps K F H vs ms fp → a ∉ fp → Rep K F H (.ref a) (.lst ms) (a :: fp)
  | dK {a} {kvs : List (Key × V)} {kms : List (Key × M)} {fp} : H a = some (.dK kvs) → F a = none → kvs.map (·.1) = kms.map (·.1) → (kms.map (·.1)).Nodup → Reps K F H (kvs.map (·.2)) (kms.map (·.2)) fp → a ∉ fp → Rep K F H (.ref a) (.dK kms) (a :: fp)
  | dT {a} {kvs : List (List Key × V)} {kms : List (List Key × M)} {fp} : H a = some (.dT kvs) → F a = none → kvs.map (·.1) = kms.map (·.1) → (kms.map (·.1)).Nodup → Reps K F H (kvs.map (·.2)) (kms.map (·.2)) fp → a ∉ fp → Rep K F H (.ref a) (.dT kms) (a :: fp)
  | ins {a C dx} {fvs : List (Str × V)} {fms : List (Str × M)} {fp} : H a = some (.ins C dx fvs) → F a = none → fvs.map (·.1) = fms.map (·.1) → Reps K F H (fvs.map (·.2)) (fms.map (·.2)) fp → a ∉ fp → Rep K F H (.ref a) (.ins C fms) (a :: fp)
inductive Reps (K : Frag) (F H : Hp) : List V → List M → List Addr → Prop
  | nil : Reps K F H [] [] []
  | cons {v vs m ms f1 f2} : Rep K F H v m f1 → Reps K F H vs ms f2 → (∀ a ∈ f1, a ∉ f2) → Reps K F H (v :: vs) (m :: ms) (f1 ++ f2)
end

/-- no tuple stands at a -/
def Ob (H : Hp) (a : Addr) : Prop := ∃ o, H a = some o ∧ (∀ vs, o ≠ .tup vs) ∧ Nz o
/-- nothing stands at a, or a tuple (which nobody owns) -/
def Fre (H : Hp) (a : Addr) : Prop := H a = none ∨ ∃ vs, H a = some (.tup vs)
theorem Ob.not {H : Hp} {a : Addr} (h : Ob H a) : ¬ Fre H a := fun z => by
  obtain ⟨o, ho, n⟩ := h
  rcases z with z | ⟨vs, z⟩
  · rw [ho] at z; cases z
  · rw [ho] at z; exact n.1 vs (Option.some.inj z)
theorem Ob.some {H : Hp} {a : Addr} (h : Ob H a) : ∃ o, H a = some o := let ⟨o, e, _⟩ := h; ⟨o, e⟩
mutual
theorem Rep.fp {K : Frag} {F H : Hp} {v : V} {m : M} {f : List Addr} : Rep K F H v m f → ∀ a ∈ f, Ob H a ∧ F a = none
  | .leaf _, a, h => by simp at h
  | .ro _ _, a, h => by simp at h
  | .lst h1 h2 r _, a, h => by
    rcases List.mem_cons.mp h with rfl | h
    · exact ⟨⟨_, h1, (fun _ z => nomatch z), trivial⟩, h2⟩
    · exact Reps.fp r a h
  | .dK h1 h2 _ _ r _, a, h => by
    rcases List.mem_cons.mp h with rfl | h
    · exact ⟨⟨_, h1, (fun _ z => nomatch z), trivial⟩, h2⟩
    · exact Reps.fp r a h
  | .dT h1 h2 _ _ r _, a, h => by
    rcases List.mem_cons.mp h with rfl | h
    · exact ⟨⟨_, h1, (fun _ z => nomatch z), trivial⟩, h2⟩
    · exact Reps.fp r a h
  | .ins h1 h2 _ r _, a, h => by
    rcases List.mem_cons.mp h with rfl | h
    · exact ⟨⟨_, h1, (fun _ z => nomatch z), trivial⟩, h2⟩
    · exact Reps.fp r a h
theorem Reps.fp {K : Frag} {F H : Hp} {v : List V} {m : List M} {f : List Addr} : Reps K F H v m f → ∀ a ∈ f, Ob H a ∧ F a = none
  | .nil, a, h => by simp at h
  | .cons r1 r2 _, a, h => by
    rcases List.mem_append.mp h with h | h
    · exact Rep.fp r1 a h
    · exact Reps.fp r2 a h
end
mutual
theorem Rep.keep {K : Frag} {F H F' H' : Hp} {v : V} {m : M} {f : List Addr} (hF : FSub F F') : Rep K F H v m f → (∀ a ∈ f, ∀ o, H a = some o → H' a = some o) → (∀ a ∈ f, F' a = none) → Rep K F' H' v m f
  | .leaf h, _, _ => .leaf (IsD.rd hF _ _ h)
  | .ro q h, _, _ => .ro (q.imp (hF.rd _ _ trivial) id) (IsDs.rd hF _ _ h)
  | .lst h1 h2 r n, k, z => .lst (k _ (by simp) _ h1) (z _ (by simp)) (Reps.keep hF r (fun a ha => k a (by simp [ha])) fun a ha => z a (by simp [ha])) n
  | .dK h1 h2 e nd r n, k, z => .dK (k _ (by simp) _ h1) (z _ (by simp)) e nd (Reps.keep hF r (fun a ha => k a (by simp [ha])) fun a ha => z a (by simp [ha])) n
  | .dT h1 h2 e nd r n, k, z => .dT (k _ (by simp) _ h1) (z _ (by simp)) e nd (Reps.keep hF r (fun a ha => k a (by simp [ha])) fun a ha => z a (by simp [ha])) n
  | .ins h1 h2 e r n, k, z => .ins (k _ (by simp) _ h1) (z _ (by simp)) e (Reps.keep hF r (fun a ha => k a (by simp [ha])) fun a ha => z a (by simp [ha])) n
theorem Reps.keep {K : Frag} {F H F' H' : Hp} {v : List V} {m : List M} {f : List Addr} (hF : FSub F F') : Reps K F H v m f → (∀ a ∈ f, ∀ o, H a = some o → H' a = some o) → (∀ a ∈ f, F' a = none) → Reps K F' H' v m f
  | .nil, _, _ => .nil
  | .cons r1 r2 d, k, z => .cons (Rep.keep hF r1 (fun a ha => k a (by simp [ha])) fun a ha => z a (by simp [ha])) (Reps.keep hF r2 (fun a ha => k a (by simp [ha])) fun a ha => z a (by simp [ha])) d
end
/-- F with the objects at f frozen as they stand in H -/
def fz (F H : Hp) (f : List Addr) : Hp := fun a => if a ∈ f then H a else F a
theorem fz_sub {F H : Hp} {f : List Addr} (hs : Sub F H) : Sub (fz F H f) H := fun a o e => by
  unfold fz at e; split at e
  · exact e
  · exact hs _ _ e
theorem fz_mono {F H : Hp} {f : List Addr} (hn : ∀ a ∈ f, F a = none) : Sub F (fz F H f) := fun a o e => by
  unfold fz; split
  · rename_i h; rw [hn a h] at e; cases e
  · exact e
theorem frzs_cons {m : M} {r : List M} {l : List PyData} (h : M.frzs (m :: r) = some l) : ∃ d ds, M.frz m = some d ∧ M.frzs r = some ds ∧ l = d :: ds := by
  unfold M.frzs at h
  split at h
  · rename_i d ds e1 e2; exact ⟨d, ds, e1, e2, (Option.some.inj h).symm⟩
  · cases h
theorem frzK_eq : ∀ (l : List (Key × M)), M.frzK l = (M.frzs (l.map (·.2))).map fun ds => (l.map fun x => keyD x.1).zip ds
  | [] => by simp [M.frzK, M.frzs]
  | (k, m) :: r => by
    have ih := frzK_eq r
    simp only [M.frzK, List.map_cons, M.frzs]
    rw [ih]
    cases M.frz m <;> cases M.frzs (r.map (·.2)) <;> simp
theorem frzT_eq : ∀ (l : List (List Key × M)), M.frzT l = (M.frzs (l.map (·.2))).map fun ds => (l.map fun x => keysD x.1).zip ds
  | [] => by simp [M.frzT, M.frzs]
  | (k, m) :: r => by
    have ih := frzT_eq r
    simp only [M.frzT, List.map_cons, M.frzs]
    rw [ih]
    cases M.frz m <;> cases M.frzs (r.map (·.2)) <;> simp
theorem isKs_of {K : Frag} {F : Hp} : ∀ {kvs : List (Key × V)} {kms : List (Key × M)} {ds : List PyData}, kvs.map (·.1) = kms.map (·.1) → IsDs K F ds (kvs.map (·.2)) → IsKs K F ((kms.map fun x => keyD x.1).zip ds) kvs
  | [], kms, ds, e, h => by
    have : kms = [] := by cases kms <;> simp at e ⊢
    subst this
    unfold IsKs; simp
  | (k, v) :: r, [], ds, e, h => by simp at e
  | (k, v) :: r, (k', m) :: kms, ds, e, h => by
    simp only [List.map_cons, List.cons.injEq] at e
    cases ds with
    | nil => unfold IsDs at h; simp at h
    | cons d ds =>
      unfold IsDs at h
      obtain ⟨v', r', e', h1, h2⟩ := h
      simp only [List.map_cons, List.cons.injEq] at e'
      simp only [List.map_cons, List.zip_cons_cons]
      unfold IsKs
      exact ⟨k, v, r, rfl, by rw [e.1], by rw [e'.1]; exact h1, isKs_of e.2 (by rw [e'.2]; exact h2)⟩
theorem isTs_of {K : Frag} {F : Hp} : ∀ {kvs : List (List Key × V)} {kms : List (List Key × M)} {ds : List PyData}, kvs.map (·.1) = kms.map (·.1) → IsDs K F ds (kvs.map (·.2)) → IsTs K F ((kms.map fun x => keysD x.1).zip ds) kvs
  | [], kms, ds, e, h => by
    have : kms = [] := by cases kms <;> simp at e ⊢
    subst this
    unfold IsTs; simp
  | (k, v) :: r, [], ds, e, h => by simp at e
  | (k, v) :: r, (k', m) :: kms, ds, e, h => by
    simp only [List.map_cons, List.cons.injEq] at e
    cases ds with
    | nil => unfold IsDs at h; simp at h
    | cons d ds =>
      unfold IsDs at h
      obtain ⟨v', r', e', h1, h2⟩ := h
      simp only [List.map_cons, List.cons.injEq] at e'
      simp only [List.map_cons, List.zip_cons_cons]
      unfold IsTs
      exact ⟨k, v, r, rfl, by rw [e.1], by rw [e'.1]; exact h1, isTs_of e.2 (by rw [e'.2]; exact h2)⟩
mutual
/-- what an own tree is, read in any G that holds F and what it owns -/
theorem Rep.data {K : Frag} {F H G : Hp} {v : V} {m : M} {f : List Addr} (hF : Sub F G) : Rep K F H v m f → (∀ a ∈ f, ∀ o, H a = some o → G a = some o) → ∀ d, m.frz = some d → IsD K G d v
  | .leaf h, _, d, e => by simp [M.frz] at e; subst e; exact h.mono hF
  | .ro q h, _, d, e => by simp [M.frz] at e
  | .lst h1 h2 r n, k, d, e => by
    simp only [M.frz, Option.map_eq_some_iff] at e
    obtain ⟨ds, e1, rfl⟩ := e
    unfold IsD
    exact ⟨_, _, rfl, k _ (by simp) _ h1, Reps.data hF r (fun a ha => k a (by simp [ha])) ds e1⟩
  | .dK h1 h2 he nd r n, k, d, e => by
    simp only [M.frz, Option.map_eq_some_iff] at e
    obtain ⟨ds, e1, rfl⟩ := e
    rw [frzK_eq, Option.map_eq_some_iff] at e1
    obtain ⟨es, e2, rfl⟩ := e1
    unfold IsD
    exact ⟨_, rfl, .inl ⟨_, .inl (k _ (by simp) _ h1), isKs_of he (Reps.data hF r (fun a ha => k a (by simp [ha])) es e2)⟩⟩
  | .dT h1 h2 he nd r n, k, d, e => by
    simp only [M.frz, Option.map_eq_some_iff] at e
    obtain ⟨ds, e1, rfl⟩ := e
    rw [frzT_eq, Option.map_eq_some_iff] at e1
    obtain ⟨es, e2, rfl⟩ := e1
    unfold IsD
    refine ⟨_, rfl, .inr ⟨_, .inl (k _ (by simp) _ h1), ?_⟩⟩
    unfold IsTm
    exact ⟨rfl, rfl, isTs_of he (Reps.data hF r (fun a ha => k a (by simp [ha])) es e2)⟩
  | .ins h1 h2 he r n, k, d, e => by simp [M.frz] at e
theorem Reps.data {K : Frag} {F H G : Hp} {v : List V} {m : List M} {f : List Addr} (hF : Sub F G) : Reps K F H v m f → (∀ a ∈ f, ∀ o, H a = some o → G a = some o) → ∀ d, M.frzs m = some d → IsDs K G d v
  | .nil, _, d, e => by simp [M.frzs] at e; subst e; exact .nil
  | .cons r1 r2 _, k, d, e => by
    obtain ⟨d1, ds, e1, e2, rfl⟩ := frzs_cons e
    exact .cons (Rep.data hF r1 (fun a ha => k a (by simp [ha])) d1 e1) (Reps.data hF r2 (fun a ha => k a (by simp [ha])) ds e2)
end

/-! ### the environment of slots -/
abbrev Env' := List (Option M)
structure EnvOk (K : Frag) (F H : Hp) (σ : L2.St) (ρ : Env') (φ : Nat → List Addr) : Prop where
  sub : Sub F H
  len : σ.length = ρ.length
  rep : ∀ (i : Nat) m, ρ[i]? = some (some m) → ∃ v, σ[i]? = some (some v) ∧ Rep K F H v m (φ i)
  dis : ∀ i j a, a ∈ φ i → a ∈ φ j → i = j
  emp : ∀ i, (∀ m, ρ[i]? ≠ some (some m)) → φ i = []
def Om (φ : Nat → List Addr) (a : Addr) : Prop := ∃ i, a ∈ φ i
/-- from one point to a later one: the frozen part, the heap, what is owned -/
structure Ext (F H : Hp) (O : Addr → Prop) (F' H' : Hp) (O' : Addr → Prop) : Prop where
  mono : Sub F F'
  new : ∀ a o, F' a = some o → F a = some o ∨ Fre H a ∨ O a
  keep : ∀ a o, H a = some o → ¬ O a → H' a = some o
  own : ∀ a, O' a → O a ∨ H a = none
section
variable {K : Frag} {F H F1 H1 F2 H2 : Hp} {O O1 O2 : Addr → Prop} {σ : L2.St} {ρ : Env'} {φ : Nat → List Addr}
theorem Ext.refl : Ext F H O F H O := ⟨fun _ _ h => h, fun _ _ h => .inl h, fun _ _ h _ => h, fun _ h => .inl h⟩
theorem Ext.trans (a : Ext F H O F1 H1 O1) (b : Ext F1 H1 O1 F2 H2 O2) : Ext F H O F2 H2 O2 := by
  refine ⟨fun x o h => b.mono _ _ (a.mono _ _ h), fun x o h => ?_, fun x o h n => ?_, fun x h => ?_⟩
  · rcases b.new x o h with h | h | h
    · exact a.new x o h
    · by_cases hO : O x
      · exact .inr (.inr hO)
      · cases e : H x with
        | none => exact .inr (.inl (.inl e))
        | some u =>
          have k := a.keep x u e hO
          rcases h with h | ⟨vs, h⟩
          · rw [k] at h; cases h
          · rw [k] at h; cases h; exact .inr (.inl (.inr ⟨_, e⟩))
    · rcases a.own x h with h | h
      · exact .inr (.inr h)
      · exact .inr (.inl (.inl h))
  · refine b.keep x o (a.keep x o h n) fun h1 => ?_
    rcases a.own x h1 with h1 | h1
    · exact n h1
    · rw [h] at h1; cases h1
  · rcases b.own x h with h | h
    · exact a.own x h
    · by_cases hO : O x
      · exact .inl hO
      · cases e : H x with
        | none => exact .inr rfl
        | some u => rw [a.keep x u e hO] at h; cases h
theorem Ext.less (a : Ext F H O F1 H1 O1) (h : ∀ x, O2 x → O1 x) : Ext F H O F1 H1 O2 := ⟨a.mono, a.new, a.keep, fun x q => a.own x (h x q)⟩
/-- what is held beside stays -/
theorem Ext.frame (a : Ext F H O F1 H1 O1) {f : List Addr} (hf : ∀ x ∈ f, Ob H x ∧ F x = none) (hd : ∀ x ∈ f, ¬ O x) :
    Ext F H (fun x => O x ∨ x ∈ f) F1 H1 (fun x => O1 x ∨ x ∈ f) := by
  refine ⟨a.mono, fun x o h => ?_, fun x o h n => a.keep x o h fun q => n (.inl q), fun x h => ?_⟩
  · rcases a.new x o h with h | h | h
    · exact .inl h
    · exact .inr (.inl h)
    · exact .inr (.inr (.inl h))
  · rcases h with h | h
    · rcases a.own x h with h | h
      · exact .inl (.inl h)
      · exact .inr h
    · exact .inl (.inr h)
theorem Ext.beside (a : Ext F H O F1 H1 O1) {f : List Addr} (hf : ∀ x ∈ f, Ob H x ∧ F x = none) (hd : ∀ x ∈ f, ¬ O x) :
    (∀ x ∈ f, ∀ o, H x = some o → H1 x = some o) ∧ (∀ x ∈ f, F1 x = none) ∧ ∀ x ∈ f, ¬ O1 x := by
  refine ⟨fun x hx o e => a.keep x o e (hd x hx), fun x hx => ?_, fun x hx q => ?_⟩
  · cases e : F1 x with
    | none => rfl
    | some o =>
      obtain ⟨hu, hn⟩ := hf x hx
      rcases a.new x o e with h | h | h
      · rw [hn] at h; cases h
      · exact absurd h hu.not
      · exact absurd h (hd x hx)
  · obtain ⟨⟨u, hu, _⟩, hn⟩ := hf x hx
    rcases a.own x q with h | h
    · exact hd x hx h
    · rw [hu] at h; cases h
theorem Rep.ext {v : V} {m : M} {f : List Addr} (r : Rep K F H v m f) (a : Ext F H O F1 H1 O1) (hd : ∀ x ∈ f, ¬ O x) : Rep K F1 H1 v m f ∧ ∀ x ∈ f, ¬ O1 x :=
  let ⟨h1, h2, h3⟩ := a.beside r.fp hd
  ⟨r.keep (.of a.mono) h1 h2, h3⟩
/-- a fresh tree is frozen -/
theorem Ext.freeze {f : List Addr} (a : Ext F H O F1 H1 (fun x => O1 x ∨ x ∈ f)) (hn : ∀ x ∈ f, F1 x = none) : Ext F H O (fz F1 H1 f) H1 O1 := by
  refine ⟨fun x o h => fz_mono hn _ _ (a.mono x o h), fun x o h => ?_, a.keep, fun x h => a.own x (.inl h)⟩
  unfold fz at h
  split at h
  · rename_i hx
    rcases a.own x (.inr hx) with q | q
    · exact .inr (.inr q)
    · exact .inr (.inl (.inl q))
  · exact a.new x o h
theorem EnvOk.freeze (e : EnvOk K F H σ ρ φ) {f : List Addr} (hd : ∀ x ∈ f, ¬ Om φ x) (hn : ∀ x ∈ f, F x = none) : EnvOk K (fz F H f) H σ ρ φ := by
  refine ⟨fz_sub e.sub, e.len, fun i m h => ?_, e.dis, e.emp⟩
  obtain ⟨v, hv, r⟩ := e.rep i m h
  refine ⟨v, hv, r.keep (.of (fz_mono hn)) (fun _ _ _ h => h) fun a ha => ?_⟩
  unfold fz
  rw [if_neg fun hx => hd a hx ⟨i, ha⟩]
  exact (r.fp a ha).2
theorem Rep.frozen {v : V} {m : M} {f : List Addr} {d : PyData} (r : Rep K F H v m f) (h : m.frz = some d) : IsD K (fz F H f) d v :=
  r.data (fz_mono fun a ha => (r.fp a ha).2) (fun a ha o e => by unfold fz; rw [if_pos ha]; exact e) d h
theorem Rep.read {v : V} {m : M} {f : List Addr} {d : PyData} (r : Rep K F H v m f) (s : Sub F H) (h : m.frz = some d) : IsD K H d v :=
  r.data s (fun _ _ _ h => h) d h
/-- a slot is set -/
theorem EnvOk.set (e : EnvOk K F H σ ρ φ) {i : Nat} {v : V} {m : M} {f : List Addr} (r : Rep K F H v m f) (hd : ∀ x ∈ f, ¬ Om φ x) :
    EnvOk K F H (σ.set i (some v)) (ρ.set i (some m)) (fun j => if j = i ∧ i < ρ.length then f else if j = i then [] else φ j) := by
  refine ⟨e.sub, by simp [e.len], fun j x h => ?_, fun j k a hj hk => ?_, fun j h => ?_⟩
  · by_cases hji : j = i
    · subst hji
      by_cases hl : j < ρ.length
      · rw [List.getElem?_set_self hl] at h
        cases h
        exact ⟨v, List.getElem?_set_self (by rw [e.len]; exact hl), by rw [if_pos ⟨rfl, hl⟩]; exact r⟩
      · rw [List.getElem?_eq_none (by simpa using hl)] at h; cases h
    · rw [List.getElem?_set_ne (Ne.symm hji)] at h
      obtain ⟨u, hu, q⟩ := e.rep j x h
      exact ⟨u, by rw [List.getElem?_set_ne (Ne.symm hji)]; exact hu, by rw [if_neg (fun z => hji z.1), if_neg hji]; exact q⟩
  · by_cases h1 : j = i
    · by_cases h2 : k = i
      · rw [h1, h2]
      · subst h1
        simp only [true_and, if_true, h2, false_and, if_false] at hj hk
        split at hj
        · exact absurd ⟨k, hk⟩ (hd a hj)
        · simp at hj
    · by_cases h2 : k = i
      · subst h2
        simp only [true_and, if_true, h1, false_and, if_false] at hj hk
        split at hk
        · exact absurd ⟨j, hj⟩ (hd a hk)
        · simp at hk
      · simp only [h1, h2, false_and, if_false] at hj hk
        exact e.dis j k a hj hk
  · by_cases hji : j = i
    · subst hji
      by_cases hl : j < ρ.length
      · exact absurd (List.getElem?_set_self hl) (h m)
      · simp [hl]
    · simp only [hji, false_and, if_false]
      refine e.emp j fun x hx => h x ?_
      rw [List.getElem?_set_ne (Ne.symm hji)]; exact hx
theorem om_set {i : Nat} {f : List Addr} {a : Addr} {n : Nat} (h : Om (fun j => if j = i ∧ i < n then f else if j = i then [] else φ j) a) : Om φ a ∨ a ∈ f := by
  obtain ⟨j, h⟩ := h
  dsimp only at h
  split at h
  · exact .inr h
  · split at h
    · simp at h
    · exact .inl ⟨j, h⟩
/-- a slot is forgotten -/
theorem EnvOk.drop (e : EnvOk K F H σ ρ φ) (i : Nat) (o : Option V) : EnvOk K F H (σ.set i o) (ρ.set i none) (fun j => if j = i then [] else φ j) := by
  refine ⟨e.sub, by simp [e.len], fun j x h => ?_, fun j k a hj hk => ?_, fun j h => ?_⟩
  · by_cases hji : j = i
    · subst hji
      by_cases hl : j < ρ.length
      · rw [List.getElem?_set_self hl] at h; cases h
      · rw [List.getElem?_eq_none (by simpa using hl)] at h; cases h
    · rw [List.getElem?_set_ne (Ne.symm hji)] at h
      obtain ⟨u, hu, q⟩ := e.rep j x h
      exact ⟨u, by rw [List.getElem?_set_ne (Ne.symm hji)]; exact hu, by rw [if_neg hji]; exact q⟩
  · by_cases h1 : j = i
    · simp [h1] at hj
    · by_cases h2 : k = i
      · simp [h2] at hk
      · simp only [h1, h2, if_false] at hj hk
        exact e.dis j k a hj hk
  · by_cases hji : j = i
    · simp [hji]
    · simp only [hji, if_false]
      refine e.emp j fun x hx => h x ?_
      rw [List.getElem?_set_ne (Ne.symm hji)]; exact hx
theorem om_drop {i : Nat} {a : Addr} (h : Om (fun j => if j = i then [] else φ j) a) : Om φ a := by
  obtain ⟨j, h⟩ := h
  dsimp only at h
  split at h
  · simp at h
  · exact ⟨j, h⟩
end
end G
namespace G
open PySem PySem.Spec PyProof.Rows L2

structure Exc where
  cls : Str
  fld : Option (Str × PyData)
inductive R (α : Type) where
  | ok (a : α) (ρ : Env')
  | err (x : Exc) (ρ : Env')
  | bad
@[inline] def R.bind {α β : Type} (r : R α) (f : α → Env' → R β) : R β := match r with
  | .ok a ρ => f a ρ
  | .err x ρ => .err x ρ
  | .bad => .bad
@[simp] theorem R.bind_ok {α β : Type} (a : α) (ρ : Env') (f : α → Env' → R β) : (R.ok a ρ).bind f = f a ρ := rfl
@[simp] theorem R.bind_err {α β : Type} (x : Exc) (ρ : Env') (f : α → Env' → R β) : (R.err x ρ).bind f = .err x ρ := rfl
@[simp] theorem R.bind_bad {α β : Type} (f : α → Env' → R β) : (R.bad).bind f = .bad := rfl

/-- an exception as it flies: its class, its own dict -/
def XRep (K : Frag) (mg : Str → Option Value) (F H : Hp) (c : Value) (d : Option Addr) (x : Exc) : Prop :=
  mg x.cls = some c ∧ match x.fld with
    | none => True
    | some (n, y) => ∃ a v, d = some a ∧ H a = some (.xd [(n, v)]) ∧ IsD K F y v
def XOk (K : Frag) (mg : Str → Option Value) (E : XK) (F H : Hp) (φ : Nat → List Addr) (σ : L2.St) (x : Exc) (ρ' : Env') : Prop :=
  ∀ F' H' φ' c d, EnvOk K F' H' σ ρ' φ' → XRep K mg F' H' c d x → Ext F H (Om φ) F' H' (Om φ') → E c d H'

def tE (K : Frag) (mg : Str → Option Value) (E : XK) (m : Env' → R M) : TE := fun σ H Q => ∃ F ρ φ, EnvOk K F H σ ρ φ ∧ match m ρ with
  | .ok x ρ' => ∀ F' H' φ' v f, EnvOk K F' H' σ ρ' φ' → Rep K F' H' v x f → (∀ a ∈ f, ¬ Om φ' a) → Ext F H (Om φ) F' H' (fun a => Om φ' a ∨ a ∈ f) → Q v H'
  | .err x ρ' => XOk K mg E F H φ σ x ρ'
  | .bad => False
/-- read off the state as it stands -/
def tQ (K : Frag) (q : Env' → Option M) : TE := fun σ H Q => ∃ F ρ φ, EnvOk K F H σ ρ φ ∧ ∃ x, q ρ = some x ∧ ∀ v f, Rep K F H v x f → Q v H
/-- written items, all frozen -/
def tAr (K : Frag) (mg : Str → Option Value) (E : XK) (n : Nat) (m : Env' → R (List PyData)) : TA := fun σ H Q => ∃ F ρ φ, EnvOk K F H σ ρ φ ∧ match m ρ with
  | .ok ds ρ' => ∀ F' H' φ' vs, EnvOk K F' H' σ ρ' φ' → IsDs K F' ds vs → vs.length = n → Ext F H (Om φ) F' H' (Om φ') → Q vs H'
  | .err x ρ' => XOk K mg E F H φ σ x ρ'
  | .bad => False
def tB' (K : Frag) (mg : Str → Option Value) (E : XK) (m : Env' → R Bool) : TT := fun σ H Q => ∃ F ρ φ, EnvOk K F H σ ρ φ ∧ match m ρ with
  | .ok b ρ' => ∀ F' H' φ', EnvOk K F' H' σ ρ' φ' → Ext F H (Om φ) F' H' (Om φ') → Q b H'
  | .err x ρ' => XOk K mg E F H φ σ x ρ'
  | .bad => False

abbrev DE (X : Cx) (E : XK) (e : Expr) (m : Env' → R M) : Prop := PE X e (tE X.K X.mg E m)
abbrev DQ (X : Cx) (e : Expr) (q : Env' → Option M) : Prop := PE X e (tQ X.K q)
abbrev DA (X : Cx) (E : XK) (n : Nat) (es : List Expr) (m : Env' → R (List PyData)) : Prop := PA X es (tAr X.K X.mg E n m)
abbrev DT (X : Cx) (E : XK) (e : Expr) (m : Env' → R Bool) : Prop := PT X e (tB' X.K X.mg E m)
abbrev DW (X : Cx) (E : XK) (e : Expr) (m : Env' → R Bool) : Prop := PW X e (tB' X.K X.mg E m)

theorem _root_.L2.PE.imp {X : Cx} {e : Expr} {t t' : TE} (h : PE X e t) (i : ∀ σ H Q, t' σ H Q → t σ H Q) : PE X e t' := ⟨fun pins s σ H Q I q => h.run pins s σ H Q I (i σ H Q q)⟩
theorem _root_.L2.PT.imp {X : Cx} {e : Expr} {t t' : TT} (h : PT X e t) (i : ∀ σ H Q, t' σ H Q → t σ H Q) : PT X e t' := ⟨fun pins s σ H Q I q => h.run pins s σ H Q I (i σ H Q q)⟩
theorem _root_.L2.PW.imp {X : Cx} {e : Expr} {t t' : TT} (h : PW X e t) (i : ∀ σ H Q, t' σ H Q → t σ H Q) : PW X e t' := ⟨fun wh pins s σ H Q I q => h.run wh pins s σ H Q I (i σ H Q q)⟩
theorem _root_.L2.PA.imp {X : Cx} {e : List Expr} {t t' : TA} (h : PA X e t) (i : ∀ σ H Q, t' σ H Q → t σ H Q) : PA X e t' := ⟨fun p pins s σ H Q I q => h.run p pins s σ H Q I (i σ H Q q)⟩
theorem _root_.L2.PS.imp {X : Cx} {e : Stmt} {t t' : TS} (h : PS X e t) (i : ∀ D σ H, t' D σ H → t D σ H) : PS X e t' := ⟨fun pins s σ H D I q => h.run pins s σ H D I (i D σ H q)⟩
theorem _root_.L2.PSs.imp {X : Cx} {e : List Stmt} {t t' : TS} (h : PSs X e t) (i : ∀ D σ H, t' D σ H → t D σ H) : PSs X e t' := ⟨fun pins s σ H D I q => h.run pins s σ H D I (i D σ H q)⟩
theorem _root_.L2.PI.imp {X : Cx} {tg e : Expr} {t t' : TI} (h : PI X tg e t) (i : ∀ σ H Q, t' σ H Q → t σ H Q) : PI X tg e t' := ⟨fun pins s σ H Q I q => h.run pins s σ H Q I (i σ H Q q)⟩
theorem _root_.L2.PG.imp {X : Cx} {e : Expr} {t t' : TG} (h : PG X e t) (i : ∀ v σ H Q, t' v σ H Q → t v σ H Q) : PG X e t' := ⟨fun pins s σ H v u Q I r q => h.run pins s σ H v u Q I r (i v σ H Q q)⟩

section
variable {K : Frag} {mg : Str → Option Value} {E : XK} {F H F1 H1 F2 H2 : Hp} {O O1 O2 : Addr → Prop} {σ : L2.St} {ρ ρ' : Env'} {φ φ1 φ2 : Nat → List Addr}
theorem XOk.next {x : Exc} (h : XOk K mg E F H φ σ x ρ') (a : Ext F H (Om φ) F1 H1 (Om φ1)) : XOk K mg E F1 H1 φ1 σ x ρ' := fun F' H' φ' c d e r b => h F' H' φ' c d e r (a.trans b)
theorem XOk.nextT {x : Exc} {f : List Addr} (h : XOk K mg E F H φ σ x ρ') (a : Ext F H (Om φ) F1 H1 (fun a => Om φ1 a ∨ a ∈ f)) : XOk K mg E F1 H1 φ1 σ x ρ' :=
  h.next (a.less fun _ q => .inl q)
/-- a step with a tree held beside -/
theorem Ext.tmp {f : List Addr} (a : Ext F H O F1 H1 (fun a => O1 a ∨ a ∈ f)) (hf : ∀ x ∈ f, Ob H1 x ∧ F1 x = none) (hd : ∀ x ∈ f, ¬ O1 x) (b : Ext F1 H1 O1 F2 H2 O2) :
    Ext F H O F2 H2 (fun a => O2 a ∨ a ∈ f) := a.trans (b.frame hf hd)
theorem Ext.drop {f : List Addr} (a : Ext F H O F1 H1 (fun a => O1 a ∨ a ∈ f)) : Ext F H O F1 H1 O1 := a.less fun _ q => .inl q
theorem Ext.nilT (a : Ext F H O F1 H1 O1) : Ext F H O F1 H1 (fun a => O1 a ∨ a ∈ ([] : List Addr)) := a.less fun x q => q.elim id fun z => by simp at z
/-- the heap grows by new things: f are the new addresses owned -/
structure Grow (F H F' H' : Hp) (f : List Addr) : Prop where
  mono : Sub F F'
  sub : Sub F' H'
  same : Sub H H'
  new : ∀ a o, F' a = some o → F a = some o ∨ Fre H a
  own : ∀ a ∈ f, H a = none
theorem Grow.refl (s : Sub F H) : Grow F H F H [] := ⟨fun _ _ h => h, s, fun _ _ h => h, fun _ _ h => .inl h, fun _ h => by simp at h⟩
theorem Grow.ext {f : List Addr} (g : Grow F H F1 H1 f) : Ext F H O F1 H1 (fun a => O a ∨ a ∈ f) :=
  ⟨g.mono, fun a o h => (g.new a o h).imp id .inl, fun a o h _ => g.same a o h, fun a h => h.imp id (g.own a)⟩
theorem Grow.ext0 {f : List Addr} (g : Grow F H F1 H1 f) : Ext F H O F1 H1 O :=
  ⟨g.mono, fun a o h => (g.new a o h).imp id .inl, fun a o h _ => g.same a o h, fun a h => .inl h⟩
theorem Grow.isN {f : List Addr} (g : Grow F H F1 H1 f) {a : Addr} (h1 : Ob H a) (h2 : F a = none) : F1 a = none := by
  cases e : F1 a with
  | none => rfl
  | some o =>
    rcases g.new a o e with h | h
    · rw [h2] at h; cases h
    · exact absurd h h1.not
theorem Grow.env {f : List Addr} (g : Grow F H F1 H1 f) (e : EnvOk K F H σ ρ φ) : EnvOk K F1 H1 σ ρ φ := by
  refine ⟨g.sub, e.len, fun i m h => ?_, e.dis, e.emp⟩
  obtain ⟨v, hv, r⟩ := e.rep i m h
  exact ⟨v, hv, r.keep (.of g.mono) (fun a _ o h => g.same a o h) fun a ha => g.isN (r.fp a ha).1 (r.fp a ha).2⟩
theorem Grow.off {f : List Addr} (g : Grow F H F1 H1 f) (e : EnvOk K F H σ ρ φ) : ∀ a ∈ f, ¬ Om φ a := fun a ha ⟨i, hi⟩ => by
  have hn := g.own a ha
  by_cases h : ∃ m, ρ[i]? = some (some m)
  · obtain ⟨m, hm⟩ := h
    obtain ⟨v, _, r⟩ := e.rep i m hm
    obtain ⟨⟨o, ho, _⟩, _⟩ := r.fp a hi
    rw [ho] at hn; cases hn
  · rw [e.emp i fun m hm => h ⟨m, hm⟩] at hi
    simp at hi
theorem EnvOk.tracked (e : EnvOk K F H σ ρ φ) {a : Addr} (h : Om φ a) : Ob H a ∧ F a = none := by
  obtain ⟨i, hi⟩ := h
  by_cases h : ∃ m, ρ[i]? = some (some m)
  · obtain ⟨m, hm⟩ := h
    obtain ⟨v, _, r⟩ := e.rep i m hm
    exact r.fp a hi
  · rw [e.emp i fun m hm => h ⟨m, hm⟩] at hi
    simp at hi
theorem Grow.rep {f g : List Addr} {v : V} {m : M} (g' : Grow F H F1 H1 f) (r : Rep K F H v m g) : Rep K F1 H1 v m g :=
  r.keep (.of g'.mono) (fun a _ o h => g'.same a o h) fun a ha => g'.isN (r.fp a ha).1 (r.fp a ha).2
theorem upd_sub {p : Addr} {o : HO} (h : H p = none) : Sub H (upd H p o) := fun a u e => by rw [upd_ne (ne_of_none e h)]; exact e
/-- a new object that is owned, its items frozen -/
theorem Grow.own1 {p : Addr} {o : HO} (s : Sub F H) (h : H p = none) : Grow F H F (upd H p o) [p] :=
  ⟨fun _ _ h => h, fun a u e => upd_sub h a u (s a u e), upd_sub h, fun _ _ h => .inl h, fun a ha => by simp at ha; subst ha; exact h⟩
/-- a new object that is frozen at once -/
theorem Grow.frz1 {p : Addr} {o : HO} (s : Sub F H) (h : H p = none) : Grow F H (upd F p o) (upd H p o) [] := by
  have hF : F p = none := by
    cases e : F p with
    | none => rfl
    | some u => rw [s p u e] at h; cases h
  refine ⟨upd_sub hF, fun a u e => ?_, upd_sub h, fun a u e => ?_, fun a ha => by simp at ha⟩
  · by_cases ha : a = p
    · subst ha; rw [upd_same] at e ⊢; exact e
    · rw [upd_ne ha] at e ⊢; exact s a u e
  · by_cases ha : a = p
    · subst ha; exact .inr (.inl h)
    · rw [upd_ne ha] at e; exact .inl e
theorem rep_leaf_fp {v : V} {d : PyData} {f : List Addr} (r : Rep K F H v (.leaf d) f) : f = [] := by cases r; rfl
theorem rep_leaf {v : V} {d : PyData} {f : List Addr} (r : Rep K F H v (.leaf d) f) : IsD K F d v := by cases r; assumption
/-- items all frozen, as own leaves -/
theorem reps_leaves : ∀ {ds : List PyData} {vs : List V}, IsDs K F ds vs → Reps K F H vs (ds.map M.leaf) []
  | [], vs, h => by unfold IsDs at h; subst h; exact .nil
  | d :: ds, vs, h => by
    unfold IsDs at h
    obtain ⟨v, r, rfl, h1, h2⟩ := h
    exact Reps.cons (.leaf h1) (reps_leaves h2) (fun a ha => by simp at ha)
end

/-! ### simple expressions -/
section
variable {X : Cx} {E : XK} {e a b c : Expr} {pos : Pos}
def qName (i : Nat) : Env' → Option M := fun ρ => (ρ[i]?).join
theorem qName_some {i : Nat} {ρ : Env'} {m : M} (h : qName i ρ = some m) : ρ[i]? = some (some m) := by
  unfold qName at h
  cases e : ρ[i]? with
  | none => rw [e] at h; cases h
  | some o => rw [e] at h; cases o with
    | none => cases h
    | some x => cases h; rfl
theorem dq_name {i : Nat} (h : PE X e (tVar i)) : DQ X e (qName i) := h.imp fun σ H Q ⟨F, ρ, φ, e, x, hx, q⟩ => by
  obtain ⟨v, hv, r⟩ := e.rep i x (qName_some hx)
  exact ⟨v, hv, q v _ r⟩
/-- a name whose tree is frozen where it stands -/
def mName (i : Nat) : Env' → R M := fun ρ => match qName i ρ with
  | some (.leaf d) => .ok (.leaf d) ρ
  | some m => match m.frz with
    | some d => .ok (.leaf d) (ρ.set i (some (.leaf d)))
    | none => .bad
  | none => .bad
theorem EnvOk.freezeAt {K : Frag} {F H : Hp} {σ : L2.St} {ρ : Env'} {φ : Nat → List Addr} {i : Nat} {m : M} {d : PyData} (e : EnvOk K F H σ ρ φ) (hm : ρ[i]? = some (some m)) (hd : m.frz = some d) :
    ∃ F' φ' v, σ[i]? = some (some v) ∧ IsD K F' d v ∧ EnvOk K F' H σ (ρ.set i (some (.leaf d))) φ' ∧ Ext F H (Om φ) F' H (Om φ') := by
  obtain ⟨v, hv, r⟩ := e.rep i m hm
  have hσ : σ.set i (some v) = σ := by
    apply List.ext_getElem?
    intro j
    by_cases hj : i = j
    · subst hj
      obtain ⟨hl, _⟩ := List.getElem?_eq_some_iff.mp hv
      rw [List.getElem?_set_self hl, hv]
    · rw [List.getElem?_set_ne hj]
  have hn : ∀ a ∈ φ i, F a = none := fun a ha => (r.fp a ha).2
  have e1 := e.drop i (some v)
  rw [hσ] at e1
  have hoff : ∀ a ∈ φ i, ¬ Om (fun j => if j = i then [] else φ j) a := fun a ha ⟨j, hj⟩ => by
    dsimp only at hj
    split at hj
    · simp at hj
    · rename_i hne; exact hne (e.dis j i a hj ha)
  have e2 := e1.freeze hoff hn
  have rd : IsD K (fz F H (φ i)) d v := r.frozen hd
  have e3 := e2.set (i := i) (v := v) (m := .leaf d) (f := []) (.leaf rd) (fun a ha => by simp at ha)
  rw [hσ, List.set_set] at e3
  refine ⟨_, _, v, hv, rd, e3, fz_mono hn, fun a o h => ?_, fun a o h _ => h, fun a h => ?_⟩
  · unfold fz at h
    split at h
    · rename_i ha; exact .inr (.inr ⟨i, ha⟩)
    · exact .inl h
  · rcases om_set h with h | h
    · exact .inl (om_drop h)
    · simp at h
theorem de_name {i : Nat} (h : PE X e (tVar i)) : DE X E e (mName i) := h.imp fun σ H Q ⟨F, ρ, φ, e, q⟩ => by
  unfold mName at q
  cases hx : qName i ρ with
  | none => rw [hx] at q; exact q.elim
  | some m =>
    rw [hx] at q
    have hm := qName_some hx
    have frz : ∀ d, m.frz = some d → (∀ F' H' φ' v f, EnvOk X.K F' H' σ (ρ.set i (some (.leaf d))) φ' → Rep X.K F' H' v (.leaf d) f → (∀ a ∈ f, ¬ Om φ' a) → Ext F H (Om φ) F' H' (fun a => Om φ' a ∨ a ∈ f) → Q v H') → tVar i σ H Q := fun d hd q => by
      obtain ⟨F', φ', v, hv, rd, e', x'⟩ := e.freezeAt hm hd
      exact ⟨v, hv, q F' H φ' v [] e' (.leaf rd) (fun a ha => by simp at ha) x'.nilT⟩
    cases m with
    | leaf d =>
      obtain ⟨v, hv, r⟩ := e.rep i _ hm
      exact ⟨v, hv, q F H φ v [] e (.leaf (rep_leaf r)) (fun a ha => by simp at ha) Ext.refl.nilT⟩
    | lst l =>
      dsimp only at q
      split at q
      · rename_i x d hd; split at hd
        · rename_i d' hd'; cases hd; exact frz _ hd' q
        · cases hd
      · rename_i hd; split at hd <;> cases hd
      · exact q.elim
    | dK l =>
      dsimp only at q
      split at q
      · rename_i x d hd; split at hd
        · rename_i d' hd'; cases hd; exact frz _ hd' q
        · cases hd
      · rename_i hd; split at hd <;> cases hd
      · exact q.elim
    | dT l =>
      dsimp only at q
      split at q
      · rename_i x d hd; split at hd
        · rename_i d' hd'; cases hd; exact frz _ hd' q
        · cases hd
      · rename_i hd; split at hd <;> cases hd
      · exact q.elim
    | ins C l =>
      simp only [M.frz] at q
    | ro l =>
      simp only [M.frz] at q
/-- a name whose tree is taken away (it is not asked again) -/
def mMove (i : Nat) : Env' → R M := fun ρ => match qName i ρ with
  | some m => .ok m (ρ.set i none)
  | none => .bad
theorem de_move {i : Nat} (h : PE X e (tVar i)) : DE X E e (mMove i) := h.imp fun σ H Q ⟨F, ρ, φ, e, q⟩ => by
  unfold mMove at q
  cases hx : qName i ρ with
  | none => rw [hx] at q; exact q.elim
  | some m =>
    rw [hx] at q
    obtain ⟨v, hv, r⟩ := e.rep i m (qName_some hx)
    have hσ : σ.set i (some v) = σ := by
      apply List.ext_getElem?
      intro j
      by_cases hj : i = j
      · subst hj
        obtain ⟨hl, _⟩ := List.getElem?_eq_some_iff.mp hv
        rw [List.getElem?_set_self hl, hv]
      · rw [List.getElem?_set_ne hj]
    have e1 := e.drop i (some v)
    rw [hσ] at e1
    refine ⟨v, hv, q F H _ v (φ i) e1 r (fun a ha ⟨j, hj⟩ => ?_) ⟨fun _ _ h => h, fun _ _ h => .inl h, fun _ _ h _ => h, fun a h => ?_⟩⟩
    · dsimp only at hj
      split at hj
      · simp at hj
      · rename_i hne; exact hne (e.dis j i a hj ha)
    · rcases h with h | h
      · exact .inl (om_drop h)
      · exact .inl ⟨i, h⟩
def qC (d : PyData) : Env' → Option M := fun _ => some (.leaf d)
def mC (d : PyData) : Env' → R M := fun ρ => .ok (.leaf d) ρ
theorem dq_c {v : V} {d : PyData} (h : PE X e (tC v)) (r : ∀ F, IsD X.K F d v) : DQ X e (qC d) := h.imp fun σ H Q ⟨F, ρ, φ, e, x, hx, q⟩ => by
  cases hx; exact q v [] (.leaf (r F))
theorem dq_int {i j pos} : DQ X (.Constant (.int i) j pos) (qC (.int i)) := dq_c pe_int fun F => by unfold IsD; rfl
theorem dq_bl {b j pos} : DQ X (.Constant (.bool b) j pos) (qC (.bool b)) := dq_c pe_bl fun F => by unfold IsD; rfl
theorem dq_non {j pos} : DQ X (.Constant .none j pos) (qC .none) := dq_c pe_non fun F => by unfold IsD; rfl
theorem dq_str {x j pos} : DQ X (.Constant (.str x) j pos) (qC (.str x)) := dq_c pe_str fun F => by unfold IsD; rfl
/-- what is read and frozen, as an expression -/
def mQ (q : Env' → Option M) : Env' → R M := fun ρ => match q ρ with
  | some (.leaf d) => .ok (.leaf d) ρ
  | _ => .bad
theorem de_q {q : Env' → Option M} (h : DQ X e q) : DE X E e (mQ q) := h.imp fun σ H Q ⟨F, ρ, φ, e, k⟩ => by
  unfold mQ at k
  split at k
  · rename_i x y ρ' hh
    split at hh
    · rename_i d hq
      cases hh
      exact ⟨F, ρ, φ, e, _, hq, fun v f r => k F H φ v f e r (fun a ha => by rw [rep_leaf_fp r] at ha; simp at ha) (by rw [rep_leaf_fp r]; exact Ext.refl.nilT)⟩
    · cases hh
  · rename_i hh; split at hh <;> cases hh
  · exact k.elim

/-! ### argument lists and displays -/
def mNil : Env' → R (List PyData) := fun ρ => .ok [] ρ
def mCons (m : Env' → R M) (ms : Env' → R (List PyData)) : Env' → R (List PyData) := fun ρ => (m ρ).bind fun x ρ1 => match x.frz with
  | some d => (ms ρ1).bind fun ds ρ2 => .ok (d :: ds) ρ2
  | none => .bad
theorem da_nil : DA X E 0 [] mNil := pa_nil.imp fun σ H Q ⟨F, ρ, φ, e, q⟩ => q F H φ [] e .nil rfl Ext.refl
theorem da_cons {n : Nat} {es : List Expr} {m : Env' → R M} {ms : Env' → R (List PyData)} (ha : DE X E a m) (hr : DA X E n es ms) (hs : starEach (a :: es) X.env = (false, eval a X.env) :: starEach es X.env := by rfl) : DA X E (n + 1) (a :: es) (mCons m ms) :=
  (pa_cons ha hr hs).imp fun σ H Q ⟨F, ρ, φ, e, q⟩ => by
    refine ⟨F, ρ, φ, e, ?_⟩
    unfold mCons at q
    cases hm : m ρ with
    | bad => rw [hm] at q; exact q.elim
    | err x ρ' => rw [hm] at q; exact q
    | ok x ρ1 =>
      rw [hm] at q
      simp only [R.bind_ok] at q
      intro F1 H1 φ1 v f e1 r1 d1 x1
      cases hz : x.frz with
      | none => rw [hz] at q; exact q.elim
      | some d =>
        rw [hz] at q
        simp only at q
        have hn : ∀ a ∈ f, F1 a = none := fun a ha => (r1.fp a ha).2
        have e2 := e1.freeze d1 hn
        have x2 := x1.freeze hn
        have rd := r1.frozen hz
        refine ⟨_, ρ1, φ1, e2, ?_⟩
        cases hm2 : ms ρ1 with
        | bad => rw [hm2] at q; exact q.elim
        | err x ρ' => rw [hm2] at q; exact q.next x2
        | ok ds ρ2 =>
          rw [hm2] at q
          intro F3 H3 φ3 vs e3 r3 hl x3
          exact q F3 H3 φ3 (v :: vs) e3 (.cons (rd.mono x3.mono) r3) (by simp [hl]) (x2.trans x3)
def mTup (ms : Env' → R (List PyData)) : Env' → R M := fun ρ => (ms ρ).bind fun ds ρ1 => .ok (.leaf (.tuple ds)) ρ1
def mLst (ms : Env' → R (List PyData)) : Env' → R M := fun ρ => (ms ρ).bind fun ds ρ1 => .ok (.lst (ds.map .leaf)) ρ1
theorem isD_tup {K : Frag} {F : Hp} {p : Addr} {vs : List V} {ds : List PyData} (h : F p = some (.tup vs)) (r : IsDs K F ds vs) : IsD K F (.tuple ds) (.ref p) := by
  unfold IsD; exact ⟨p, vs, rfl, h, r⟩
theorem isD_lst {K : Frag} {F : Hp} {p : Addr} {vs : List V} {ds : List PyData} (h : F p = some (.lst vs)) (r : IsDs K F ds vs) : IsD K F (.list ds) (.ref p) := by
  unfold IsD; exact ⟨p, vs, rfl, h, r⟩
theorem de_tup {n k : Nat} {es : List Expr} {ms : Env' → R (List PyData)} (h : DA X E n es ms) (hn : n ≤ 1000 := by decide) : DE X E (.Tuple es k pos) (mTup ms) :=
  (pe_tup h).imp fun σ H Q ⟨F, ρ, φ, e, q⟩ => by
    refine ⟨F, ρ, φ, e, ?_⟩
    unfold mTup at q
    cases hm : ms ρ with
    | bad => rw [hm] at q; exact q.elim
    | err x ρ' => rw [hm] at q; exact q
    | ok ds ρ1 =>
      rw [hm] at q
      intro F1 H1 φ1 vs e1 r1 hl x1
      refine ⟨Nat.le_trans (by omega) (show 1000 ≤ sizeLine by decide), fun p hp => ?_⟩
      have g : Grow F1 H1 (upd F1 p (.tup vs)) (upd H1 p (.tup vs)) [] := Grow.frz1 e1.sub hp
      exact q _ _ φ1 _ [] (g.env e1) (.leaf (isD_tup upd_same (r1.mono g.mono))) (fun a ha => by simp at ha) (x1.trans g.ext)
theorem de_lst {n k : Nat} {es : List Expr} {ms : Env' → R (List PyData)} (h : DA X E n es ms) (hn : n ≤ 1000 := by decide) : DE X E (.List es pos) (mLst ms) :=
  (pe_lst h).imp fun σ H Q ⟨F, ρ, φ, e, q⟩ => by
    refine ⟨F, ρ, φ, e, ?_⟩
    unfold mLst at q
    cases hm : ms ρ with
    | bad => rw [hm] at q; exact q.elim
    | err x ρ' => rw [hm] at q; exact q
    | ok ds ρ1 =>
      rw [hm] at q
      intro F1 H1 φ1 vs e1 r1 hl x1
      refine ⟨Nat.le_trans (by omega) (show 1000 ≤ sizeLine by decide), fun p hp => ?_⟩
      have g : Grow F1 H1 F1 (upd H1 p (.lst vs)) [p] := Grow.own1 e1.sub hp
      have hF : F1 p = none := by
        cases e : F1 p with
        | none => rfl
        | some u => rw [e1.sub p u e] at hp; cases hp
      exact q _ _ φ1 _ [p] (g.env e1) (.lst upd_same hF (reps_leaves r1) (by simp)) (g.off e1) (x1.trans g.ext)
end
end G
namespace G
open PySem PySem.Spec PyProof.Rows L2

/-! ### one and two holes -/
/-- what an operation asks of values, against a function of data: no heap changes -/
def R1S (K : Frag) (r : V → Hp → VK → Prop) (g : M → Option PyData) : Prop :=
  ∀ F H v x f d Q, Sub F H → Rep K F H v x f → g x = some d → (∀ v', IsD K F d v' → Q v' H) → r v H Q
def R2S (K : Frag) (r : V → V → Hp → VK → Prop) (g : M → M → Option PyData) : Prop :=
  ∀ F H v x f v2 x2 f2 d Q, Sub F H → Rep K F H v x f → Rep K F H v2 x2 f2 → g x x2 = some d → (∀ v', IsD K F d v' → Q v' H) → r v v2 H Q
/-- .. new things may be laid -/
def R1 (K : Frag) (r : V → Hp → VK → Prop) (g : M → Option M) : Prop :=
  ∀ F H v x f y Q, Sub F H → Rep K F H v x f → g x = some y → (∀ F' H' v' f', Grow F H F' H' f' → Rep K F' H' v' y f' → Q v' H') → r v H Q
def R2 (K : Frag) (r : V → V → Hp → VK → Prop) (g : M → M → Option M) : Prop :=
  ∀ F H v x f v2 x2 f2 y Q, Sub F H → Rep K F H v x f → Rep K F H v2 x2 f2 → g x x2 = some y → (∀ F' H' v' f', Grow F H F' H' f' → Rep K F' H' v' y f' → Q v' H') → r v v2 H Q
def lf (g : M → Option PyData) : M → Option M := fun x => (g x).map .leaf
def lf2 (g : M → M → Option PyData) : M → M → Option M := fun x y => (g x y).map .leaf
theorem R1S.up {K : Frag} {r g} (h : R1S K r g) : R1 K r (lf g) := fun F H v x f y Q s rx e q => by
  unfold lf at e
  rw [Option.map_eq_some_iff] at e
  obtain ⟨d, e, rfl⟩ := e
  exact h F H v x f d Q s rx e fun v' hv => q F H v' [] (.refl s) (.leaf hv)
theorem R2S.up {K : Frag} {r g} (h : R2S K r g) : R2 K r (lf2 g) := fun F H v x f v2 x2 f2 y Q s rx rx2 e q => by
  unfold lf2 at e
  rw [Option.map_eq_some_iff] at e
  obtain ⟨d, e, rfl⟩ := e
  exact h F H v x f v2 x2 f2 d Q s rx rx2 e fun v' hv => q F H v' [] (.refl s) (.leaf hv)

def q1 (g : M → Option PyData) (q : Env' → Option M) : Env' → Option M := fun ρ => match q ρ with
  | some x => lf g x
  | none => none
def q2 (g : M → M → Option PyData) (qa qb : Env' → Option M) : Env' → Option M := fun ρ => match qa ρ, qb ρ with
  | some x, some y => lf2 g x y
  | _, _ => none
def m1 (g : M → Option M) (m : Env' → R M) : Env' → R M := fun ρ => (m ρ).bind fun x ρ1 => match g x with
  | some y => .ok y ρ1
  | none => .bad
def m1q (g : M → Option M) (q : Env' → Option M) : Env' → R M := fun ρ => match q ρ with
  | some x => match g x with
    | some y => .ok y ρ
    | none => .bad
  | none => .bad
def m2 (g : M → M → Option M) (ma mb : Env' → R M) : Env' → R M := fun ρ => (ma ρ).bind fun x ρ1 => (mb ρ1).bind fun y ρ2 => match g x y with
  | some z => .ok z ρ2
  | none => .bad
def m2q (g : M → M → Option M) (qa qb : Env' → Option M) : Env' → R M := fun ρ => match qa ρ, qb ρ with
  | some x, some y => match g x y with
    | some z => .ok z ρ
    | none => .bad
  | _, _ => .bad
def m2eq (g : M → M → Option M) (ma : Env' → R M) (qb : Env' → Option M) : Env' → R M := fun ρ => (ma ρ).bind fun x ρ1 => match qb ρ1 with
  | some y => match g x y with
    | some z => .ok z ρ1
    | none => .bad
  | none => .bad
/-- the first one a name, whose tree is looked at when the second one has come -/
def m2l (g : M → M → Option M) (i : Nat) (mb : Env' → R M) : Env' → R M := fun ρ => match qName i ρ with
  | none => .bad
  | some _ => (mb ρ).bind fun y ρ1 => match qName i ρ1 with
    | some x => match g x y with
      | some z => .ok z ρ1
      | none => .bad
    | none => .bad

section
variable {X : Cx} {K : Frag} {mg : Str → Option Value} {E : XK} {e : Expr} {r : V → Hp → VK → Prop} {r2 : V → V → Hp → VK → Prop} {q qa qb : Env' → Option M} {m ma mb : Env' → R M}
theorem i_q1 {g : M → Option PyData} (hr : R1S K r g) (σ : L2.St) (H : Hp) (Q : VK) : tQ K (q1 g q) σ H Q → tQ K q σ H fun v H1 => r v H1 Q := fun ⟨F, ρ, φ, e, y, hy, k⟩ => by
  unfold q1 at hy
  split at hy
  · rename_i x hx
    unfold lf at hy
    rw [Option.map_eq_some_iff] at hy
    obtain ⟨d, hd, rfl⟩ := hy
    exact ⟨F, ρ, φ, e, x, hx, fun v f rx => hr F H v x f d Q e.sub rx hd fun v' hv => k v' [] (.leaf hv)⟩
  · cases hy
theorem i_q2 {g : M → M → Option PyData} (hr : R2S K r2 g) (σ : L2.St) (H : Hp) (Q : VK) : tQ K (q2 g qa qb) σ H Q → tQ K qa σ H fun v H1 => tQ K qb σ H1 fun u H2 => r2 v u H2 Q := fun ⟨F, ρ, φ, e, y, hy, k⟩ => by
  unfold q2 at hy
  split at hy
  · rename_i x x2 hx hx2
    unfold lf2 at hy
    rw [Option.map_eq_some_iff] at hy
    obtain ⟨d, hd, rfl⟩ := hy
    exact ⟨F, ρ, φ, e, x, hx, fun v f rx => ⟨F, ρ, φ, e, x2, hx2, fun v2 f2 rx2 => hr F H v x f v2 x2 f2 d Q e.sub rx rx2 hd fun v' hv => k v' [] (.leaf hv)⟩⟩
  · cases hy
theorem i_1 {g : M → Option M} (hr : R1 K r g) (σ : L2.St) (H : Hp) (Q : VK) : tE K mg E (m1 g m) σ H Q → tE K mg E m σ H fun v H1 => r v H1 Q := fun ⟨F, ρ, φ, e, k⟩ => by
  refine ⟨F, ρ, φ, e, ?_⟩
  unfold m1 at k
  cases hm : m ρ with
  | bad => rw [hm] at k; exact k.elim
  | err x ρ' => rw [hm] at k; exact k
  | ok x ρ1 =>
    rw [hm] at k
    simp only [R.bind_ok] at k
    intro F1 H1 φ1 v f e1 r1 d1 x1
    cases hg : g x with
    | none => rw [hg] at k; exact k.elim
    | some y =>
      rw [hg] at k
      refine hr F1 H1 v x f y Q e1.sub r1 hg fun F2 H2 v2 f2 gr r2 => ?_
      exact k F2 H2 φ1 v2 f2 (gr.env e1) r2 (gr.off e1) (x1.drop.trans gr.ext)
theorem i_1q {g : M → Option M} (hr : R1 K r g) (σ : L2.St) (H : Hp) (Q : VK) : tE K mg E (m1q g q) σ H Q → tQ K q σ H fun v H1 => r v H1 Q := fun ⟨F, ρ, φ, e, k⟩ => by
  unfold m1q at k
  cases hq : q ρ with
  | none => rw [hq] at k; exact k.elim
  | some x =>
    rw [hq] at k
    dsimp only at k
    cases hg : g x with
    | none => rw [hg] at k; exact k.elim
    | some y =>
      rw [hg] at k
      refine ⟨F, ρ, φ, e, x, hq, fun v f rx => hr F H v x f y Q e.sub rx hg fun F2 H2 v2 f2 gr r2 => ?_⟩
      exact k F2 H2 φ v2 f2 (gr.env e) r2 (gr.off e) gr.ext
theorem i_2 {g : M → M → Option M} (hr : R2 K r2 g) (σ : L2.St) (H : Hp) (Q : VK) : tE K mg E (m2 g ma mb) σ H Q → tE K mg E ma σ H fun v H1 => tE K mg E mb σ H1 fun u H2 => r2 v u H2 Q := fun ⟨F, ρ, φ, e, k⟩ => by
  refine ⟨F, ρ, φ, e, ?_⟩
  unfold m2 at k
  cases hm : ma ρ with
  | bad => rw [hm] at k; exact k.elim
  | err x ρ' => rw [hm] at k; exact k
  | ok x ρ1 =>
    rw [hm] at k
    simp only [R.bind_ok] at k
    intro F1 H1 φ1 v f e1 r1 d1 x1
    refine ⟨F1, ρ1, φ1, e1, ?_⟩
    cases hm2 : mb ρ1 with
    | bad => rw [hm2] at k; exact k.elim
    | err x ρ' => rw [hm2] at k; exact k.next x1.drop
    | ok y ρ2 =>
      rw [hm2] at k
      simp only [R.bind_ok] at k
      intro F2 H2 φ2 u f2 e2 r2' d2 x2
      cases hg : g x y with
      | none => rw [hg] at k; exact k.elim
      | some z =>
        rw [hg] at k
        obtain ⟨r1', d1'⟩ := r1.ext x2.drop d1
        refine hr F2 H2 v x f u y f2 z Q e2.sub r1' r2' hg fun F3 H3 v3 f3 gr r3 => ?_
        exact k F3 H3 φ2 v3 f3 (gr.env e2) r3 (gr.off e2) ((x1.drop.trans x2.drop).trans gr.ext)
theorem i_2q {g : M → M → Option M} (hr : R2 K r2 g) (σ : L2.St) (H : Hp) (Q : VK) : tE K mg E (m2q g qa qb) σ H Q → tQ K qa σ H fun v H1 => tQ K qb σ H1 fun u H2 => r2 v u H2 Q := fun ⟨F, ρ, φ, e, k⟩ => by
  unfold m2q at k
  cases hq : qa ρ with
  | none => rw [hq] at k; exact k.elim
  | some x =>
    rw [hq] at k
    cases hq2 : qb ρ with
    | none => rw [hq2] at k; exact k.elim
    | some y =>
      rw [hq2] at k
      dsimp only at k
      cases hg : g x y with
      | none => rw [hg] at k; exact k.elim
      | some z =>
        rw [hg] at k
        refine ⟨F, ρ, φ, e, x, hq, fun v f rx => ⟨F, ρ, φ, e, y, hq2, fun v2 f2 rx2 => hr F H v x f v2 y f2 z Q e.sub rx rx2 hg fun F3 H3 v3 f3 gr r3 => ?_⟩⟩
        exact k F3 H3 φ v3 f3 (gr.env e) r3 (gr.off e) gr.ext
theorem i_2eq {g : M → M → Option M} (hr : R2 K r2 g) (σ : L2.St) (H : Hp) (Q : VK) : tE K mg E (m2eq g ma qb) σ H Q → tE K mg E ma σ H fun v H1 => tQ K qb σ H1 fun u H2 => r2 v u H2 Q := fun ⟨F, ρ, φ, e, k⟩ => by
  refine ⟨F, ρ, φ, e, ?_⟩
  unfold m2eq at k
  cases hm : ma ρ with
  | bad => rw [hm] at k; exact k.elim
  | err x ρ' => rw [hm] at k; exact k
  | ok x ρ1 =>
    rw [hm] at k
    simp only [R.bind_ok] at k
    intro F1 H1 φ1 v f e1 r1 d1 x1
    cases hq : qb ρ1 with
    | none => rw [hq] at k; exact k.elim
    | some y =>
      rw [hq] at k
      dsimp only at k
      cases hg : g x y with
      | none => rw [hg] at k; exact k.elim
      | some z =>
        rw [hg] at k
        refine ⟨F1, ρ1, φ1, e1, y, hq, fun v2 f2 rx2 => hr F1 H1 v x f v2 y f2 z Q e1.sub r1 rx2 hg fun F3 H3 v3 f3 gr r3 => ?_⟩
        exact k F3 H3 φ1 v3 f3 (gr.env e1) r3 (gr.off e1) (x1.drop.trans gr.ext)
theorem i_2l {g : M → M → Option M} {i : Nat} (hr : R2 K r2 g) (σ : L2.St) (H : Hp) (Q : VK) : tE K mg E (m2l g i mb) σ H Q → tVar i σ H fun v H1 => tE K mg E mb σ H1 fun u H2 => r2 v u H2 Q := fun ⟨F, ρ, φ, e, k⟩ => by
  unfold m2l at k
  cases hq0 : qName i ρ with
  | none => rw [hq0] at k; exact k.elim
  | some x0 =>
  rw [hq0] at k
  dsimp only at k
  obtain ⟨v, hv, _⟩ := e.rep i x0 (qName_some hq0)
  refine ⟨v, hv, F, ρ, φ, e, ?_⟩
  cases hm2 : mb ρ with
  | bad => rw [hm2] at k; exact k.elim
  | err x ρ' => rw [hm2] at k; exact k
  | ok y ρ2 =>
    rw [hm2] at k
    simp only [R.bind_ok] at k
    intro F2 H2 φ2 u f2 e2 r2' d2 x2
    cases hq : qName i ρ2 with
    | none => rw [hq] at k; exact k.elim
    | some x =>
      rw [hq] at k
      dsimp only at k
      cases hg : g x y with
      | none => rw [hg] at k; exact k.elim
      | some z =>
        rw [hg] at k
        obtain ⟨v', hv', rx⟩ := e2.rep i x (qName_some hq)
        rw [hv] at hv'; cases hv'
        refine hr F2 H2 v x _ u y f2 z Q e2.sub rx r2' hg fun F3 H3 v3 f3 gr r3 => ?_
        exact k F3 H3 φ2 v3 f3 (gr.env e2) r3 (gr.off e2) (x2.drop.trans gr.ext)

/-! ### tests -/
/-- a value that is True or False, as a test -/
def mTest (m : Env' → R M) : Env' → R Bool := fun ρ => (m ρ).bind fun x ρ1 => match x with
  | .leaf (.bool b) => .ok b ρ1
  | _ => .bad
theorem i_test {t : TE} (i : ∀ σ H Q, tE K mg E m σ H Q → t σ H Q) (σ : L2.St) (H : Hp) (Q : Bool → Hp → Prop) : tB' K mg E (mTest m) σ H Q → tTest t σ H Q := fun ⟨F, ρ, φ, e, k⟩ => by
  refine i σ H _ ⟨F, ρ, φ, e, ?_⟩
  unfold mTest at k
  cases hm : m ρ with
  | bad => rw [hm] at k; exact k.elim
  | err x ρ' => rw [hm] at k; exact k
  | ok x ρ1 =>
    rw [hm] at k
    simp only [R.bind_ok] at k
    intro F1 H1 φ1 v f e1 r1 d1 x1
    split at k
    · rename_i b ρ' hh
      split at hh
      · rename_i b'
        cases hh
        have := rep_leaf r1
        unfold IsD at this
        exact ⟨b, this, k F1 H1 φ1 e1 x1.drop⟩
      · cases hh
    · rename_i hh; split at hh <;> cases hh
    · exact k.elim
theorem i_testQ {t : TE} {q : Env' → Option M} (i : ∀ σ H Q, tQ K q σ H Q → t σ H Q) (σ : L2.St) (H : Hp) (Q : Bool → Hp → Prop) : tB' K mg E (mTest (mQ q)) σ H Q → tTest t σ H Q := fun ⟨F, ρ, φ, e, k⟩ => by
  unfold mTest mQ at k
  cases hq : q ρ with
  | none => rw [hq] at k; exact k.elim
  | some x =>
    rw [hq] at k
    cases x with
    | leaf d =>
      cases d with
      | bool b =>
        refine i σ H _ ⟨F, ρ, φ, e, _, hq, fun v f r => ?_⟩
        have := rep_leaf r
        unfold IsD at this
        exact ⟨b, this, k F H φ e Ext.refl⟩
      | _ => exact k.elim
    | _ => exact k.elim
theorem dt_val {e : Expr} (h : DE X E e m) (he : ∀ whole, isTrue e X.env whole = (do let v ← whole; standAt e.pos; holding [v] (truthy v)) := by intro _; rfl) : DT X E e (mTest m) :=
  (pt_val h he).imp fun σ H Q => i_test (t := tE X.K X.mg E m) (fun _ _ _ z => z) σ H Q
def mAndT (ma mb : Env' → R Bool) : Env' → R Bool := fun ρ => (ma ρ).bind fun b ρ1 => bif b then mb ρ1 else .ok false ρ1
def mOrT (ma mb : Env' → R Bool) : Env' → R Bool := fun ρ => (ma ρ).bind fun b ρ1 => bif b then .ok true ρ1 else mb ρ1
def mNotT (ma : Env' → R Bool) : Env' → R Bool := fun ρ => (ma ρ).bind fun b ρ1 => .ok (!b) ρ1
variable {ba bb : Env' → R Bool} {a b c : Expr} {rest : List Expr} {pos : Pos}
theorem i_bind {f : Bool → Env' → R Bool} {u : Bool → TT} (hu : ∀ b σ H Q, tB' K mg E (f b) σ H Q → u b σ H Q) (σ : L2.St) (H : Hp) (Q : Bool → Hp → Prop) :
    tB' K mg E (fun ρ => (ba ρ).bind fun b ρ1 => f b ρ1) σ H Q → tB' K mg E ba σ H fun b H1 => u b σ H1 Q := fun ⟨F, ρ, φ, e, k⟩ => by
  dsimp only at k
  refine ⟨F, ρ, φ, e, ?_⟩
  cases hm : ba ρ with
  | bad => rw [hm] at k; exact k.elim
  | err x ρ' => rw [hm] at k; exact k
  | ok b ρ1 =>
    rw [hm] at k
    simp only [R.bind_ok] at k
    intro F1 H1 φ1 e1 x1
    refine hu b σ H1 Q ⟨F1, ρ1, φ1, e1, ?_⟩
    cases hf : f b ρ1 with
    | bad => rw [hf] at k; exact k.elim
    | err x ρ' => rw [hf] at k; exact k.next x1
    | ok b' ρ2 =>
      rw [hf] at k
      intro F2 H2 φ2 e2 x2
      exact k F2 H2 φ2 e2 (x1.trans x2)
theorem i_okB {b : Bool} (σ : L2.St) (H : Hp) (Q : Bool → Hp → Prop) : tB' K mg E (fun ρ => .ok b ρ) σ H Q → Q b H := fun ⟨F, ρ, φ, e, k⟩ => k F H φ e Ext.refl
theorem dw_and1 (ha : DT X E a ba) : DW X E (.BoolOp .And [a] pos) ba := pw_and1 ha
theorem dw_or1 (ha : DT X E a ba) : DW X E (.BoolOp .Or [a] pos) ba := pw_or1 ha
theorem dw_and (ha : DT X E a ba) (hb : DW X E (.BoolOp .And (b :: rest) pos) bb) : DW X E (.BoolOp .And (a :: b :: rest) pos) (mAndT ba bb) :=
  (pw_and ha hb).imp fun σ H Q h => i_bind (f := fun b ρ1 => bif b then bb ρ1 else .ok false ρ1) (u := fun b σ H Q => if b = true then tB' X.K X.mg E bb σ H Q else Q false H)
    (fun b σ H Q z => by cases b with
      | true => exact z
      | false => exact i_okB σ H Q z) σ H Q h
theorem dw_or (ha : DT X E a ba) (hb : DW X E (.BoolOp .Or (b :: rest) pos) bb) : DW X E (.BoolOp .Or (a :: b :: rest) pos) (mOrT ba bb) :=
  (pw_or ha hb).imp fun σ H Q h => i_bind (f := fun b ρ1 => bif b then .ok true ρ1 else bb ρ1) (u := fun b σ H Q => if b = true then Q true H else tB' X.K X.mg E bb σ H Q)
    (fun b σ H Q z => by cases b with
      | false => exact z
      | true => exact i_okB σ H Q z) σ H Q h
theorem dt_bool (h : DW X E a ba) : DT X E a ba := h.pt
theorem dt_not (ha : DT X E a ba) : DT X E (.UnaryOp .Not a pos) (mNotT ba) :=
  (pt_not ha).imp fun σ H Q h => i_bind (f := fun b ρ1 => .ok (!b) ρ1) (u := fun b σ H Q => Q (!b) H) (fun b σ H Q z => i_okB σ H Q z) σ H Q h
/-! .. as values -/
def mAnd (ma mb : Env' → R M) : Env' → R M := fun ρ => (mTest ma ρ).bind fun b ρ1 => bif b then mb ρ1 else .ok (.leaf (.bool false)) ρ1
def mOr (ma mb : Env' → R M) : Env' → R M := fun ρ => (mTest ma ρ).bind fun b ρ1 => bif b then .ok (.leaf (.bool true)) ρ1 else mb ρ1
def mNot (ma : Env' → R M) : Env' → R M := fun ρ => (mTest ma ρ).bind fun b ρ1 => .ok (.leaf (.bool (!b))) ρ1
def mIf (c : Env' → R Bool) (ma mb : Env' → R M) : Env' → R M := fun ρ => (c ρ).bind fun b ρ1 => bif b then ma ρ1 else mb ρ1
theorem i_bindE {f : Bool → Env' → R M} {u : Bool → TE} (hu : ∀ b σ H Q, tE K mg E (f b) σ H Q → u b σ H Q) (σ : L2.St) (H : Hp) (Q : VK) :
    tE K mg E (fun ρ => (ba ρ).bind fun b ρ1 => f b ρ1) σ H Q → tB' K mg E ba σ H fun b H1 => u b σ H1 Q := fun ⟨F, ρ, φ, e, k⟩ => by
  dsimp only at k
  refine ⟨F, ρ, φ, e, ?_⟩
  cases hm : ba ρ with
  | bad => rw [hm] at k; exact k.elim
  | err x ρ' => rw [hm] at k; exact k
  | ok b ρ1 =>
    rw [hm] at k
    simp only [R.bind_ok] at k
    intro F1 H1 φ1 e1 x1
    refine hu b σ H1 Q ⟨F1, ρ1, φ1, e1, ?_⟩
    cases hf : f b ρ1 with
    | bad => rw [hf] at k; exact k.elim
    | err x ρ' => rw [hf] at k; exact k.next x1
    | ok b' ρ2 =>
      rw [hf] at k
      intro F2 H2 φ2 v f e2 r2 d2 x2
      exact k F2 H2 φ2 v f e2 r2 d2 (x1.trans x2)
theorem i_okE {d : PyData} {v : V} (σ : L2.St) (H : Hp) (Q : VK) (hv : ∀ F, IsD K F d v) : tE K mg E (fun ρ => .ok (.leaf d) ρ) σ H Q → Q v H := fun ⟨F, ρ, φ, e, k⟩ => k F H φ v [] e (.leaf (hv F)) (fun a ha => by simp at ha) Ext.refl.nilT
theorem isD_bl {K : Frag} (b : Bool) (F : Hp) : IsD K F (.bool b) (.bl b) := by unfold IsD; rfl
theorem de_and1 {op} (ha : DE X E a m) : DE X E (.BoolOp op [a] pos) m := pe_one ha
theorem de_and (ha : DE X E a ma) (hb : DE X E (.BoolOp .And (b :: rest) pos) mb) : DE X E (.BoolOp .And (a :: b :: rest) pos) (mAnd ma mb) :=
  (pe_and ha hb).imp fun σ H Q h => by
    have h2 := i_bindE (f := fun b ρ1 => bif b then mb ρ1 else .ok (.leaf (.bool false)) ρ1) (u := fun b σ H Q => if b = true then tE X.K X.mg E mb σ H Q else Q (.bl false) H)
      (fun b σ H Q z => by cases b with
        | true => exact z
        | false => exact i_okE (d := .bool false) σ H Q (isD_bl _) z) σ H Q h
    exact i_test (t := tE X.K X.mg E ma) (fun _ _ _ z => z) σ H _ h2
theorem de_or (ha : DE X E a ma) (hb : DE X E (.BoolOp .Or (b :: rest) pos) mb) : DE X E (.BoolOp .Or (a :: b :: rest) pos) (mOr ma mb) :=
  (pe_or ha hb).imp fun σ H Q h => by
    have h2 := i_bindE (f := fun b ρ1 => bif b then .ok (.leaf (.bool true)) ρ1 else mb ρ1) (u := fun b σ H Q => if b = true then Q (.bl true) H else tE X.K X.mg E mb σ H Q)
      (fun b σ H Q z => by cases b with
        | false => exact z
        | true => exact i_okE (d := .bool true) σ H Q (isD_bl _) z) σ H Q h
    exact i_test (t := tE X.K X.mg E ma) (fun _ _ _ z => z) σ H _ h2
theorem de_not (ha : DE X E a m) : DE X E (.UnaryOp .Not a pos) (mNot m) :=
  (pe_not ha).imp fun σ H Q h => by
    have h2 := i_bindE (f := fun b ρ1 => .ok (.leaf (.bool (!b))) ρ1) (u := fun b σ H Q => Q (.bl (!b)) H) (fun b σ H Q z => i_okE (d := .bool (!b)) σ H Q (isD_bl _) z) σ H Q h
    exact i_test (t := tE X.K X.mg E m) (fun _ _ _ z => z) σ H _ h2
theorem de_if (hc : DT X E c ba) (ha : DE X E a ma) (hb : DE X E b mb) : DE X E (.IfExp c a b pos) (mIf ba ma mb) :=
  (pe_ifExp hc ha hb).imp fun σ H Q h => i_bindE (f := fun b ρ1 => bif b then ma ρ1 else mb ρ1) (u := fun b σ H Q => if b = true then tE X.K X.mg E ma σ H Q else tE X.K X.mg E mb σ H Q)
    (fun b σ H Q z => by cases b <;> exact z) σ H Q h

/-! ### operators and comparisons by their rules -/
theorem dq_op {op : Operator} {g : M → M → Option PyData} (ho : OpR X (binaryOp op) r2) (hr : R2S X.K r2 g) (ha : DQ X a qa) (hb : DQ X b qb) : DQ X (.BinOp a op b pos) (q2 g qa qb) := (pe_op ho ha hb).imp fun σ H Q h => i_q2 hr σ H Q h
theorem de_op {op : Operator} {g : M → M → Option M} (ho : OpR X (binaryOp op) r2) (hr : R2 X.K r2 g) (ha : DE X E a ma) (hb : DE X E b mb) : DE X E (.BinOp a op b pos) (m2 g ma mb) := (pe_op ho ha hb).imp fun σ H Q h => i_2 hr σ H Q h
theorem de_opq {op : Operator} {g : M → M → Option M} (ho : OpR X (binaryOp op) r2) (hr : R2 X.K r2 g) (ha : DQ X a qa) (hb : DQ X b qb) : DE X E (.BinOp a op b pos) (m2q g qa qb) := (pe_op ho ha hb).imp fun σ H Q h => i_2q hr σ H Q h
theorem de_opl {op : Operator} {g : M → M → Option M} {i : Nat} (ho : OpR X (binaryOp op) r2) (hr : R2 X.K r2 g) (ha : PE X a (tVar i)) (hb : DE X E b mb) : DE X E (.BinOp a op b pos) (m2l g i mb) := (pe_op ho ha hb).imp fun σ H Q h => i_2l hr σ H Q h
theorem de_opeq {op : Operator} {g : M → M → Option M} (ho : OpR X (binaryOp op) r2) (hr : R2 X.K r2 g) (ha : DE X E a ma) (hb : DQ X b qb) : DE X E (.BinOp a op b pos) (m2eq g ma qb) := (pe_op ho ha hb).imp fun σ H Q h => i_2eq hr σ H Q h
theorem dq_cmp {op : CmpOp} {g : M → M → Option PyData} (ho : OpR X (compareOp op) r2) (hr : R2S X.K r2 g) (ha : DQ X a qa) (hb : DQ X b qb) (hm : behindInMarks op b = false) : DQ X (.Compare a [op] [b] pos) (q2 g qa qb) := (pe_cmpR ho ha hb hm).imp fun σ H Q h => i_q2 hr σ H Q h
theorem dt_cmpq {op : CmpOp} {g : M → M → Option PyData} (ho : OpR X (compareOp op) r2) (hr : R2S X.K r2 g) (ha : DQ X a qa) (hb : DQ X b qb) (hm : behindInMarks op b = false) : DT X E (.Compare a [op] [b] pos) (mTest (mQ (q2 g qa qb))) := (pt_cmpR ho ha hb hm).imp fun σ H Q h => i_testQ (fun σ H Q h => i_q2 hr σ H Q h) σ H Q h
theorem de_cmp {op : CmpOp} {g : M → M → Option M} (ho : OpR X (compareOp op) r2) (hr : R2 X.K r2 g) (ha : DE X E a ma) (hb : DE X E b mb) (hm : behindInMarks op b = false) : DE X E (.Compare a [op] [b] pos) (m2 g ma mb) := (pe_cmpR ho ha hb hm).imp fun σ H Q h => i_2 hr σ H Q h
theorem dt_cmp {op : CmpOp} {g : M → M → Option M} (ho : OpR X (compareOp op) r2) (hr : R2 X.K r2 g) (ha : DE X E a ma) (hb : DE X E b mb) (hm : behindInMarks op b = false) : DT X E (.Compare a [op] [b] pos) (mTest (m2 g ma mb)) := (pt_cmpR ho ha hb hm).imp fun σ H Q h => i_test (fun σ H Q h => i_2 hr σ H Q h) σ H Q h
theorem de_cmpl {op : CmpOp} {g : M → M → Option M} {i : Nat} (ho : OpR X (compareOp op) r2) (hr : R2 X.K r2 g) (ha : PE X a (tVar i)) (hb : DE X E b mb) (hm : behindInMarks op b = false) : DE X E (.Compare a [op] [b] pos) (m2l g i mb) := (pe_cmpR ho ha hb hm).imp fun σ H Q h => i_2l hr σ H Q h
theorem dt_cmpl {op : CmpOp} {g : M → M → Option M} {i : Nat} (ho : OpR X (compareOp op) r2) (hr : R2 X.K r2 g) (ha : PE X a (tVar i)) (hb : DE X E b mb) (hm : behindInMarks op b = false) : DT X E (.Compare a [op] [b] pos) (mTest (m2l g i mb)) := (pt_cmpR ho ha hb hm).imp fun σ H Q h => i_test (fun σ H Q h => i_2l hr σ H Q h) σ H Q h
theorem de_cmpeq {op : CmpOp} {g : M → M → Option M} (ho : OpR X (compareOp op) r2) (hr : R2 X.K r2 g) (ha : DE X E a ma) (hb : DQ X b qb) (hm : behindInMarks op b = false) : DE X E (.Compare a [op] [b] pos) (m2eq g ma qb) := (pe_cmpR ho ha hb hm).imp fun σ H Q h => i_2eq hr σ H Q h
theorem dt_cmpeq {op : CmpOp} {g : M → M → Option M} (ho : OpR X (compareOp op) r2) (hr : R2 X.K r2 g) (ha : DE X E a ma) (hb : DQ X b qb) (hm : behindInMarks op b = false) : DT X E (.Compare a [op] [b] pos) (mTest (m2eq g ma qb)) := (pt_cmpR ho ha hb hm).imp fun σ H Q h => i_test (fun σ H Q h => i_2eq hr σ H Q h) σ H Q h
theorem dq_un {op : UnaryOp} {g : M → Option PyData} (ho : UnR X (unaryOp op) r) (hr : R1S X.K r g) (ha : DQ X a q) : DQ X (.UnaryOp op a pos) (q1 g q) := (pe_un ho ha).imp fun σ H Q h => i_q1 hr σ H Q h
theorem de_un {op : UnaryOp} {g : M → Option M} (ho : UnR X (unaryOp op) r) (hr : R1 X.K r g) (ha : DE X E a m) : DE X E (.UnaryOp op a pos) (m1 g m) := (pe_un ho ha).imp fun σ H Q h => i_1 hr σ H Q h
/-- a op1 b op2 c, all three read off -/
def qCh (g g' : M → M → Option PyData) (qa qb qc : Env' → Option M) : Env' → Option M := fun ρ => match qa ρ, qb ρ with
  | some x, some y => match g x y with
    | some (.bool true) => match qc ρ with
      | some z => lf2 g' y z
      | none => none
    | some (.bool false) => some (.leaf (.bool false))
    | _ => none
  | _, _ => none
theorem i_chain {r2' : V → V → Hp → VK → Prop} {g g' : M → M → Option PyData} {qc : Env' → Option M} (hr : R2S K r2 g) (hr' : R2S K r2' g') (σ : L2.St) (H : Hp) (Q : VK) : tQ K (qCh g g' qa qb qc) σ H Q → tChain r2 r2' (tQ K qa) (tQ K qb) (tQ K qc) σ H Q := fun ⟨F, ρ, φ, e, y, hy, k⟩ => by
  unfold qCh at hy
  split at hy
  · rename_i x y' hx hy'
    split at hy
    · rename_i hg
      split at hy
      · rename_i z hz
        unfold lf2 at hy
        rw [Option.map_eq_some_iff] at hy
        obtain ⟨d, hd, rfl⟩ := hy
        refine ⟨F, ρ, φ, e, x, hx, fun v f rx => ⟨F, ρ, φ, e, y', hy', fun v2 f2 rx2 => hr F H v x f v2 y' f2 _ _ e.sub rx rx2 hg fun v' hv => ?_⟩⟩
        unfold IsD at hv
        refine ⟨true, hv, ?_⟩
        rw [if_pos rfl]
        exact ⟨F, ρ, φ, e, z, hz, fun v3 f3 rx3 => hr' F H v2 y' f2 v3 z f3 d Q e.sub rx2 rx3 hd fun v' hv => k v' [] (.leaf hv)⟩
      · cases hy
    · rename_i hg
      cases hy
      refine ⟨F, ρ, φ, e, x, hx, fun v f rx => ⟨F, ρ, φ, e, y', hy', fun v2 f2 rx2 => hr F H v x f v2 y' f2 _ _ e.sub rx rx2 hg fun v' hv => ?_⟩⟩
      unfold IsD at hv
      refine ⟨false, hv, ?_⟩
      rw [if_neg Bool.false_ne_true]
      exact k _ [] (.leaf (isD_bl false F))
    · cases hy
  · cases hy
theorem dq_chain {op op' : CmpOp} {r2' : V → V → Hp → VK → Prop} {g g' : M → M → Option PyData} {qc : Env' → Option M} (ho : OpR X (compareOp op) r2) (hr : R2S X.K r2 g) (ho' : OpR X (compareOp op') r2') (hr' : R2S X.K r2' g') (ha : DQ X a qa) (hb : DQ X b qb) (hc : DQ X c qc)
    (hm : lastMarks [op, op'] [b, c] = false := by with_unfolding_all rfl) : DQ X (.Compare a [op, op'] [b, c] pos) (qCh g g' qa qb qc) := (pe_chain ho ho' ha hb hc hm).imp fun σ H Q h => i_chain hr hr' σ H Q h
theorem dt_chain {op op' : CmpOp} {r2' : V → V → Hp → VK → Prop} {g g' : M → M → Option PyData} {qc : Env' → Option M} (ho : OpR X (compareOp op) r2) (hr : R2S X.K r2 g) (ho' : OpR X (compareOp op') r2') (hr' : R2S X.K r2' g') (ha : DQ X a qa) (hb : DQ X b qb) (hc : DQ X c qc)
    (hm : lastMarks [op, op'] [b, c] = false := by with_unfolding_all rfl) : DT X E (.Compare a [op, op'] [b, c] pos) (mTest (mQ (qCh g g' qa qb qc))) := (pt_chain ho ho' ha hb hc hm).imp fun σ H Q h => i_testQ (fun σ H Q h => i_chain hr hr' σ H Q h) σ H Q h
end
end G
namespace G
open PySem PySem.Spec PyProof.Rows L2

/-! ### statements -/
inductive O where
  | next (ρ : Env')
  | ret (x : M) (ρ : Env')
  | brk (ρ : Env')
  | cont (ρ : Env')
  | err (x : Exc) (ρ : Env')
  | bad
/-- the slots that are kept as they are (what is handed in by reference) -/
def Pin (J : List Nat) (σ σ' : L2.St) : Prop := ∀ j ∈ J, σ'[j]? = σ[j]?
theorem Pin.refl {J : List Nat} {σ : L2.St} : Pin J σ σ := fun _ _ => rfl
theorem Pin.trans {J : List Nat} {σ σ1 σ2 : L2.St} (a : Pin J σ σ1) (b : Pin J σ1 σ2) : Pin J σ σ2 := fun j h => (b j h).trans (a j h)
theorem Pin.set {J : List Nat} {σ : L2.St} {i : Nat} {o : Option V} (h : i ∉ J) : Pin J σ (σ.set i o) := fun j hj => by
  rw [List.getElem?_set_ne (by rintro rfl; exact h hj)]
def tO (K : Frag) (mg : Str → Option Value) (E : XK) (J : List Nat) (F H : Hp) (φ : Nat → List Addr) (σ : L2.St) (o : O) (D : Ends) : Prop := match o with
  | .next ρ' => ∀ F' H' φ' σ', EnvOk K F' H' σ' ρ' φ' → Ext F H (Om φ) F' H' (Om φ') → Pin J σ σ' → D.nx σ' H'
  | .brk ρ' => ∀ F' H' φ' σ', EnvOk K F' H' σ' ρ' φ' → Ext F H (Om φ) F' H' (Om φ') → Pin J σ σ' → D.bk σ' H'
  | .cont ρ' => ∀ F' H' φ' σ', EnvOk K F' H' σ' ρ' φ' → Ext F H (Om φ) F' H' (Om φ') → Pin J σ σ' → D.ct σ' H'
  | .ret x ρ' => ∀ F' H' φ' σ' v f, EnvOk K F' H' σ' ρ' φ' → Rep K F' H' v x f → (∀ a ∈ f, ¬ Om φ' a) → Ext F H (Om φ) F' H' (fun a => Om φ' a ∨ a ∈ f) → Pin J σ σ' → D.rt v H'
  | .err x ρ' => ∀ F' H' φ' σ' c d, EnvOk K F' H' σ' ρ' φ' → XRep K mg F' H' c d x → Ext F H (Om φ) F' H' (Om φ') → Pin J σ σ' → E c d H'
  | .bad => False
def tS (K : Frag) (mg : Str → Option Value) (E : XK) (J : List Nat) (m : Env' → O) : TS := fun D σ H => ∃ F ρ φ, EnvOk K F H σ ρ φ ∧ tO K mg E J F H φ σ (m ρ) D
abbrev DS (X : Cx) (E : XK) (J : List Nat) (st : Stmt) (m : Env' → O) : Prop := PS X st (tS X.K X.mg E J m)
abbrev DSs (X : Cx) (E : XK) (J : List Nat) (st : List Stmt) (m : Env' → O) : Prop := PSs X st (tS X.K X.mg E J m)

section
variable {K : Frag} {mg : Str → Option Value} {E : XK} {J : List Nat} {F H F1 H1 : Hp} {φ φ1 : Nat → List Addr} {σ σ1 : L2.St} {o : O} {D : Ends}
theorem tO.next (h : tO K mg E J F H φ σ o D) (a : Ext F H (Om φ) F1 H1 (Om φ1)) (p : Pin J σ σ1) : tO K mg E J F1 H1 φ1 σ1 o D := by
  cases o with
  | next ρ => exact fun F' H' φ' σ' e b q => h F' H' φ' σ' e (a.trans b) (p.trans q)
  | brk ρ => exact fun F' H' φ' σ' e b q => h F' H' φ' σ' e (a.trans b) (p.trans q)
  | cont ρ => exact fun F' H' φ' σ' e b q => h F' H' φ' σ' e (a.trans b) (p.trans q)
  | ret x ρ => exact fun F' H' φ' σ' v f e r d b q => h F' H' φ' σ' v f e r d (a.trans b) (p.trans q)
  | err x ρ => exact fun F' H' φ' σ' c d e r b q => h F' H' φ' σ' c d e r (a.trans b) (p.trans q)
  | bad => exact h
theorem tO.err {x : Exc} {ρ : Env'} (h : tO K mg E J F H φ σ (.err x ρ) D) : XOk K mg E F H φ σ x ρ := fun F' H' φ' c d e r b => h F' H' φ' σ c d e r b .refl
/-- another end -/
theorem tO.to {D' : Ends} (h : tO K mg E J F H φ σ o D) (hn : ∀ ρ, o = .next ρ → tO K mg E J F H φ σ (.next ρ) D → tO K mg E J F H φ σ (.next ρ) D')
    (hb : ∀ ρ, o = .brk ρ → tO K mg E J F H φ σ (.brk ρ) D → tO K mg E J F H φ σ (.brk ρ) D') (hc : ∀ ρ, o = .cont ρ → tO K mg E J F H φ σ (.cont ρ) D → tO K mg E J F H φ σ (.cont ρ) D')
    (hr : ∀ v H, D.rt v H → D'.rt v H) : tO K mg E J F H φ σ o D' := by
  cases o with
  | next ρ => exact hn ρ rfl h
  | brk ρ => exact hb ρ rfl h
  | cont ρ => exact hc ρ rfl h
  | ret x ρ => exact fun F' H' φ' σ' v f e r d b q => hr v H' (h F' H' φ' σ' v f e r d b q)
  | err x ρ => exact h
  | bad => exact h
end

def mSkip : Env' → O := fun ρ => .next ρ
def mSeq (a b : Env' → O) : Env' → O := fun ρ => match a ρ with
  | .next ρ1 => b ρ1
  | o => o
def mSet (i : Nat) (m : Env' → R M) : Env' → O := fun ρ => match m ρ with
  | .ok x ρ1 => .next (ρ1.set i (some x))
  | .err x ρ1 => .err x ρ1
  | .bad => .bad
def mExpr (m : Env' → R M) : Env' → O := fun ρ => match m ρ with
  | .ok _ ρ1 => .next ρ1
  | .err x ρ1 => .err x ρ1
  | .bad => .bad
def mRet (m : Env' → R M) : Env' → O := fun ρ => match m ρ with
  | .ok x ρ1 => .ret x ρ1
  | .err x ρ1 => .err x ρ1
  | .bad => .bad
def mIfS (c : Env' → R Bool) (a b : Env' → O) : Env' → O := fun ρ => match c ρ with
  | .ok true ρ1 => a ρ1
  | .ok false ρ1 => b ρ1
  | .err x ρ1 => .err x ρ1
  | .bad => .bad
def mWhile (c : Env' → R Bool) (b : Env' → O) : Nat → Env' → O
  | 0, _ => .bad
  | n + 1, ρ => match c ρ with
    | .ok true ρ1 => match b ρ1 with
      | .next ρ2 => mWhile c b n ρ2
      | .cont ρ2 => mWhile c b n ρ2
      | .brk ρ2 => .next ρ2
      | o => o
    | .ok false ρ1 => .next ρ1
    | .err x ρ1 => .err x ρ1
    | .bad => .bad
section
variable {X : Cx} {E : XK} {J : List Nat} {st : Stmt} {rest : List Stmt} {a b : Env' → O} {m : Env' → R M} {c : Env' → R Bool} {e : Expr} {pos : Pos}
theorem dss_nil : DSs X E J [] mSkip := pss_nil.imp fun D σ H ⟨F, ρ, φ, e, k⟩ => k F H φ σ e .refl .refl
theorem dss_one (h : DS X E J st a) : DSs X E J [st] a := pss_one h
theorem dss_cons (h1 : DS X E J st a) (h2 : DSs X E J rest b) : DSs X E J (st :: rest) (mSeq a b) := (pss_cons h1 h2).imp fun D σ H ⟨F, ρ, φ, e, k⟩ => by
  refine ⟨F, ρ, φ, e, ?_⟩
  unfold mSeq at k
  cases ha : a ρ with
  | next ρ1 =>
    rw [ha] at k
    intro F' H' φ' σ' e' x' p'
    exact ⟨F', ρ1, φ', e', k.next x' p'⟩
  | ret x ρ1 => rw [ha] at k; exact k
  | brk ρ1 => rw [ha] at k; exact k
  | cont ρ1 => rw [ha] at k; exact k
  | err x ρ1 => rw [ha] at k; exact k
  | bad => rw [ha] at k; exact k
theorem ds_pass : DS X E J (.Pass pos) mSkip := ps_pass.imp fun D σ H ⟨F, ρ, φ, e, k⟩ => k F H φ σ e .refl .refl
theorem ds_brk : DS X E J (.Break pos) (fun ρ => .brk ρ) := ps_break.imp fun D σ H ⟨F, ρ, φ, e, k⟩ => k F H φ σ e .refl .refl
theorem ds_cont : DS X E J (.Continue pos) (fun ρ => .cont ρ) := ps_continue.imp fun D σ H ⟨F, ρ, φ, e, k⟩ => k F H φ σ e .refl .refl
/-- a statement that the proof never comes to -/
theorem ds_never : DS X E J st (fun _ => .bad) := ps_never.imp fun D σ H ⟨F, ρ, φ, e, k⟩ => k
theorem ds_doc {x j pos pos'} : DS X E J (.Expr (.Constant (.str x) j pos) pos') mSkip := ps_doc.imp fun D σ H ⟨F, ρ, φ, e, k⟩ => k F H φ σ e .refl .refl
theorem i_set {K : Frag} {mg : Str → Option Value} {i : Nat} (hj : i ∉ J) (D : Ends) (σ : L2.St) (H : Hp) : tS K mg E J (mSet i m) D σ H → tE K mg E m σ H fun x H1 => gName i x σ H1 D.nx := fun ⟨F, ρ, φ, e, k⟩ => by
  refine ⟨F, ρ, φ, e, ?_⟩
  unfold mSet at k
  cases hm : m ρ with
  | bad => rw [hm] at k; exact k.elim
  | err x ρ' => rw [hm] at k; exact k.err
  | ok x ρ1 =>
    rw [hm] at k
    intro F1 H1 φ1 v f e1 r1 d1 x1
    refine k F1 H1 _ (σ.set i (some v)) (e1.set r1 d1) (x1.less fun a h => ?_) (.set hj)
    exact om_set h
theorem ds_set {i : Nat} {x : Str} {pos' : Pos} (hj : i ∉ J) (hN : X.N.Nodup) (hi : X.N[i]? = some x) (hx : Loc X.env.scope x) (he : DE X E e m) (hs : swapsWith e (some (.Name x pos')) pos.line X.env = pure false := by rfl) (hf : X.fn x = true ∨ X.env.scope.names.lookup x = some .local := by first | exact .inl rfl | exact .inr rfl | assumption) :
    DS X E J (.Assign [.Name x pos'] e pos) (mSet i m) := (ps_set hN hi hx he hs hf).imp fun D σ H h => i_set hj D σ H h
theorem ds_expr (he : DE X E e m) (hs : swapsWith e none pos.line X.env = pure false := by rfl) : DS X E J (.Expr e pos) (mExpr m) := (ps_expr he hs).imp fun D σ H ⟨F, ρ, φ, e, k⟩ => by
  refine ⟨F, ρ, φ, e, ?_⟩
  unfold mExpr at k
  cases hm : m ρ with
  | bad => rw [hm] at k; exact k.elim
  | err x ρ' => rw [hm] at k; exact k.err
  | ok x ρ1 =>
    rw [hm] at k
    intro F1 H1 φ1 v f e1 r1 d1 x1
    exact k F1 H1 φ1 σ e1 x1.drop .refl
theorem ds_ret (he : DE X E e m) : DS X E J (.Return (some e) pos) (mRet m) := (ps_ret he).imp fun D σ H ⟨F, ρ, φ, e, k⟩ => by
  refine ⟨F, ρ, φ, e, ?_⟩
  unfold mRet at k
  cases hm : m ρ with
  | bad => rw [hm] at k; exact k.elim
  | err x ρ' => rw [hm] at k; exact k.err
  | ok x ρ1 =>
    rw [hm] at k
    intro F1 H1 φ1 v f e1 r1 d1 x1
    exact k F1 H1 φ1 σ v f e1 r1 d1 x1 .refl
theorem ds_retN : DS X E J (.Return none pos) (fun ρ => .ret (.leaf .none) ρ) := ps_retN.imp fun D σ H ⟨F, ρ, φ, e, k⟩ =>
  k F H φ σ .non [] e (.leaf (by unfold IsD; rfl)) (fun a ha => by simp at ha) Ext.refl.nilT .refl
theorem ds_if {t : Expr} {sa sb : List Stmt} (hc : DT X E t c) (ha : DSs X E J sa a) (hb : DSs X E J sb b) : DS X E J (.If t sa sb pos) (mIfS c a b) := (ps_if hc ha hb).imp fun D σ H ⟨F, ρ, φ, e, k⟩ => by
  refine ⟨F, ρ, φ, e, ?_⟩
  unfold mIfS at k
  cases hm : c ρ with
  | bad => rw [hm] at k; exact k.elim
  | err x ρ' => rw [hm] at k; exact k.err
  | ok x ρ1 =>
    rw [hm] at k
    intro F1 H1 φ1 e1 x1
    cases x with
    | true => exact ⟨F1, ρ1, φ1, e1, k.next x1 .refl⟩
    | false => exact ⟨F1, ρ1, φ1, e1, k.next x1 .refl⟩
theorem ds_while {t : Expr} {sb : List Stmt} (n : Nat) (hp : PassesOwn (model X.prog X.w) X.A X.env X.xe) (hc : DT X E t c) (hb : DSs X E J sb b) : DS X E J (.While t sb [] pos) (mWhile c b n) := (ps_while hp hc hb).imp fun D σ H ⟨F, ρ, φ, e, k⟩ => by
  generalize ho : mWhile c b n ρ = o at k
  refine ⟨fun m' σ' H' => ∃ F' ρ' φ', EnvOk X.K F' H' σ' ρ' φ' ∧ Ext F H (Om φ) F' H' (Om φ') ∧ Pin J σ σ' ∧ mWhile c b m' ρ' = o, ⟨n, F, ρ, φ, e, .refl, .refl, ho⟩, ?_⟩
  rintro m' σ' H' ⟨F', ρ', φ', e', x', p', h'⟩
  cases m' with
  | zero =>
    rw [mWhile] at h'
    subst h'
    exact k.elim
  | succ m' =>
    rw [mWhile] at h'
    refine ⟨F', ρ', φ', e', ?_⟩
    cases hm : c ρ' with
    | bad => rw [hm] at h'; subst h'; exact k.elim
    | err x ρ' => rw [hm] at h'; subst h'; exact (k.next x' p').err
    | ok x ρ1 =>
      rw [hm] at h'
      intro F1 H1 φ1 e1 x1
      cases x with
      | false =>
        dsimp only at h'
        subst h'
        exact k F1 H1 φ1 σ' e1 (x'.trans x1) p'
      | true =>
        dsimp only at h'
        rw [if_pos rfl]
        refine ⟨fun σ2 H2 => ∃ F' ρ' φ', EnvOk X.K F' H2 σ2 ρ' φ' ∧ Ext F H (Om φ) F' H2 (Om φ') ∧ Pin J σ σ2 ∧ mWhile c b m' ρ' = o, fun σ2 H2 h2 => ⟨m', Nat.lt_succ_self _, h2⟩, F1, ρ1, φ1, e1, ?_⟩
        cases hb' : b ρ1 with
        | next ρ2 => rw [hb'] at h'; exact fun F2 H2 φ2 σ2 e2 x2 p2 => ⟨F2, ρ2, φ2, e2, (x'.trans x1).trans x2, p'.trans p2, h'⟩
        | cont ρ2 => rw [hb'] at h'; exact fun F2 H2 φ2 σ2 e2 x2 p2 => ⟨F2, ρ2, φ2, e2, (x'.trans x1).trans x2, p'.trans p2, h'⟩
        | brk ρ2 => rw [hb'] at h'; dsimp only at h'; subst h'; exact k.next (x'.trans x1) p'
        | ret y ρ2 => rw [hb'] at h'; dsimp only at h'; subst h'; exact k.next (x'.trans x1) p'
        | err y ρ2 => rw [hb'] at h'; dsimp only at h'; subst h'; exact k.next (x'.trans x1) p'
        | bad => rw [hb'] at h'; dsimp only at h'; subst h'; exact k.elim
end

/-! ### a def -/
inductive RF where
  | ret (x : M) (outs : Env')
  | err (x : Exc) (outs : Env')
  | bad
def mask (J : List Nat) : Nat → Nat → Env' → Env'
  | _, 0, _ => []
  | i, n + 1, [] => none :: mask J (i + 1) n []
  | i, n + 1, o :: r => (if i ∈ J then o else none) :: mask J (i + 1) n r
theorem mask_get (J : List Nat) : ∀ (n i j : Nat) (ρ : Env'), (mask J i n ρ)[j]? = if j < n then some (if i + j ∈ J then (ρ[j]?).join else none) else none
  | 0, i, j, ρ => by simp [mask]
  | n + 1, i, j, [] => by
    cases j with
    | zero => simp [mask]
    | succ j =>
      simp only [mask, List.getElem?_cons_succ]
      rw [mask_get J n (i + 1) j []]
      simp
  | n + 1, i, j, o :: r => by
    cases j with
    | zero => simp [mask]
    | succ j =>
      simp only [mask, List.getElem?_cons_succ]
      rw [mask_get J n (i + 1) j r]
      simp [Nat.add_assoc, Nat.add_comm 1 j]
theorem mask_len (J : List Nat) : ∀ (n i : Nat) (ρ : Env'), (mask J i n ρ).length = n
  | 0, _, _ => rfl
  | n + 1, i, [] => by simp [mask, mask_len J n]
  | n + 1, i, o :: r => by simp [mask, mask_len J n]
/-- a def's answer: its body is run at the arguments; n parameters of N names; J: those that are handed in by reference -/
def runF (n N : Nat) (J : List Nat) (body : Env' → O) (ms : List M) : RF := match body (ms.map some ++ List.replicate (N - ms.length) none) with
  | .next ρ => .ret (.leaf .none) (mask J 0 n ρ)
  | .ret x ρ => .ret x (mask J 0 n ρ)
  | .err x ρ => .err x (mask J 0 n ρ)
  | _ => .bad
def spD (K : Frag) (mg : Str → Option Value) (n : Nat) (mf : List M → RF) : Sp := fun vs H Q E => vs.length = n ∧ ∃ F ms φ, EnvOk K F H (vs.map some) (ms.map some) φ ∧ match mf ms with
  | .ret x outs => ∀ F' H' φ' v f, EnvOk K F' H' (vs.map some) outs φ' → Rep K F' H' v x f → (∀ a ∈ f, ¬ Om φ' a) → Ext F H (Om φ) F' H' (fun a => Om φ' a ∨ a ∈ f) → Q v H'
  | .err x outs => False
  | .bad => False
section
variable {K : Frag} {F H : Hp} {σ : L2.St} {ρ : Env'} {φ : Nat → List Addr}
theorem EnvOk.pad (e : EnvOk K F H σ ρ φ) (n : Nat) : EnvOk K F H (σ ++ List.replicate n none) (ρ ++ List.replicate n none) φ := by
  have get : ∀ i (m : M), (ρ ++ List.replicate n (none : Option M))[i]? = some (some m) → ρ[i]? = some (some m) := fun i m h => by
    by_cases hi : i < ρ.length
    · rw [List.getElem?_append_left hi] at h; exact h
    · rw [List.getElem?_append_right (by omega), List.getElem?_replicate] at h
      split at h <;> cases h
  refine ⟨e.sub, by simp [e.len], fun i m h => ?_, e.dis, fun i h => e.emp i fun m hm => h m ?_⟩
  · obtain ⟨v, hv, r⟩ := e.rep i m (get i m h)
    obtain ⟨hl, _⟩ := List.getElem?_eq_some_iff.mp hv
    exact ⟨v, by rw [List.getElem?_append_left hl]; exact hv, r⟩
  · obtain ⟨hl, _⟩ := List.getElem?_eq_some_iff.mp hm
    rw [List.getElem?_append_left hl]; exact hm
theorem EnvOk.masked {J : List Nat} {n : Nat} {σ0 : L2.St} {vs : List V} (e : EnvOk K F H σ ρ φ) (p : Pin J σ0 σ) (hn : vs.length = n) (h0 : ∀ i, i < n → σ0[i]? = (vs.map some)[i]?) :
    EnvOk K F H (vs.map some) (mask J 0 n ρ) (fun i => if i ∈ J ∧ i < n then φ i else []) ∧ ∀ a, Om (fun i => if i ∈ J ∧ i < n then φ i else []) a → Om φ a := by
  refine ⟨⟨e.sub, by simp [mask_len, hn], fun i m h => ?_, fun i j a hi hj => ?_, fun i h => ?_⟩, fun a ⟨i, hi⟩ => ?_⟩
  · rw [mask_get] at h
    split at h
    · rename_i hi
      rw [Nat.zero_add] at h
      split at h
      · rename_i hJ
        have h' : (ρ[i]?).join = some m := Option.some.inj h
        obtain ⟨v, hv, r⟩ := e.rep i m (qName_some h')
        refine ⟨v, ?_, ?_⟩
        · rw [← h0 i hi, ← p i hJ]; exact hv
        · rw [if_pos ⟨hJ, hi⟩]; exact r
      · cases h
    · cases h
  · split at hi
    · split at hj
      · exact e.dis i j a hi hj
      · simp at hj
    · simp at hi
  · split
    · rename_i hJ
      refine e.emp i fun m hm => h m ?_
      rw [mask_get, if_pos hJ.2, Nat.zero_add, if_pos hJ.1, hm]
      rfl
    · rfl
  · dsimp only at hi
    split at hi
    · exact ⟨i, hi⟩
    · simp at hi
end
section
variable {P : Program} {w : World} {K : Frag} {mg : Str → Option Value} {base : Heap}
/-- THE RULE of a def that lets no exception out -/
theorem fnD {x qual : Str} {st : Stmt} {f : Addr} {fd : FuncData} {N ps : List Str} {k : Nat} (J : List Nat) {body : Env' → O} (F : Fun K x qual st f fd) (S : FnScope N ps (defScope st)) (hl : ps.length ≤ N.length)
    (hb : ∀ (cdv : Value) (A : Around) (outer : List Env) (s : Shared) (H : Hp) (E : XK), Room k (A.deeper (envOfC qual (defScope st) s.heap.objs.size f cdv)) →
      DSs (cxOf CX0 P w K mg base N qual (defScope st) f cdv A outer s H E).nox E0 J (defBody st) body) :
    FnOk P w K mg base CX0 (k + 1) f fd ps (spD K mg ps.length (runF ps.length N.length J body)) := by
  refine F.ok S (fun vs H Q E h => h.1) fun cdv A outer s H vs Q E hr h => ⟨_, hb cdv A outer s H E hr, ?_⟩
  obtain ⟨hn, Fz, ms, φ, e, h⟩ := h
  have hlm : ms.length = vs.length := by have := e.len; simpa using this.symm
  have hst : start N vs = vs.map some ++ List.replicate (N.length - ms.length) none := by rw [hlm]; rfl
  have e0 : EnvOk K Fz H (start N vs) (ms.map some ++ List.replicate (N.length - ms.length) none) φ := by rw [hst]; exact e.pad _
  have h0 : ∀ i, i < ps.length → (start N vs)[i]? = (vs.map some)[i]? := fun i hi => by
    rw [hst, List.getElem?_append_left (by simp; omega)]
  refine ⟨Fz, _, φ, e0, ?_⟩
  unfold runF at h
  cases hB : body (ms.map some ++ List.replicate (N.length - ms.length) none) with
  | next ρ =>
    rw [hB] at h
    intro F' H' φ' σ' e' x' p'
    obtain ⟨e2, ho⟩ := e'.masked p' hn h0
    refine h F' H' _ .non [] e2 (.leaf (by unfold IsD; rfl)) (fun a ha => by simp at ha) (x'.less fun a q => ?_)
    rcases q with q | q
    · exact ho a q
    · simp at q
  | ret y ρ =>
    rw [hB] at h
    intro F' H' φ' σ' v fv e' r' d' x' p'
    obtain ⟨e2, ho⟩ := e'.masked p' hn h0
    exact h F' H' _ v fv e2 r' (fun a ha q => d' a ha (ho a q)) (x'.less fun a q => q.imp (ho a) id)
  | err y ρ => rw [hB] at h; exact h.elim
  | brk ρ => rw [hB] at h; exact h.elim
  | cont ρ => rw [hB] at h; exact h.elim
  | bad => rw [hB] at h; exact h.elim
end
end G
namespace G
open PySem PySem.Spec PyProof.Rows L2

/-! ### calls of the text's own defs -/
/-- an argument: a value, or a slot's tree handed in by reference -/
inductive Am where
  | val (m : Env' → R M)
  | ref (j : Nat)
def evA : List Am → Env' → R (List (Option PyData))
  | [], ρ => .ok [] ρ
  | .val m :: r, ρ => (m ρ).bind fun x ρ1 => match x.frz with
    | some d => (evA r ρ1).bind fun ds ρ2 => .ok (some d :: ds) ρ2
    | none => .bad
  | .ref j :: r, ρ => match qName j ρ with
    | some _ => (evA r ρ).bind fun ds ρ2 => .ok (none :: ds) ρ2
    | none => .bad
def AOk (K : Frag) (F : Hp) (σ : L2.St) : List Am → List (Option PyData) → List V → Prop
  | [], [], [] => True
  | .val _ :: as, some d :: ds, v :: vs => IsD K F d v ∧ AOk K F σ as ds vs
  | .ref j :: as, none :: ds, v :: vs => σ[j]? = some (some v) ∧ AOk K F σ as ds vs
  | _, _, _ => False
theorem AOk.mono {K : Frag} {F F' : Hp} {σ : L2.St} (h : Sub F F') : ∀ {as : List Am} {ds : List (Option PyData)} {vs : List V}, AOk K F σ as ds vs → AOk K F' σ as ds vs
  | [], [], [], _ => trivial
  | .val _ :: as, some d :: ds, v :: vs, q => ⟨q.1.mono h, AOk.mono h q.2⟩
  | .ref j :: as, none :: ds, v :: vs, q => ⟨q.1, AOk.mono h q.2⟩
  | [], _ :: _, _, q => q.elim
  | [], [], _ :: _, q => q.elim
  | .val _ :: _, [], _, q => q.elim
  | .val _ :: _, none :: _, _, q => q.elim
  | .val _ :: _, some _ :: _, [], q => q.elim
  | .ref _ :: _, [], _, q => q.elim
  | .ref _ :: _, some _ :: _, _, q => q.elim
  | .ref _ :: _, none :: _, [], q => q.elim
/-- the trees that the callee gets -/
def gat : List Am → List (Option PyData) → Env' → Option (List M)
  | [], [], _ => some []
  | .val _ :: as, some d :: ds, ρ => (gat as ds ρ).map (.leaf d :: ·)
  | .ref j :: as, none :: ds, ρ => match qName j ρ with
    | some m => (gat as ds ρ).map (m :: ·)
    | none => none
  | _, _, _ => none
/-- at which place slot j is handed in -/
def refAt : List Am → Nat → Nat → Option Nat
  | [], _, _ => none
  | .val _ :: as, i, j => refAt as (i + 1) j
  | .ref k :: as, i, j => if k = j then some i else refAt as (i + 1) j
def scat (as : List Am) (outs : Env') : Nat → Env' → Env'
  | _, [] => []
  | j, o :: r => (match refAt as 0 j with
    | some i => (outs[i]?).join
    | none => o) :: scat as outs (j + 1) r
def refs : List Am → List Nat
  | [] => []
  | .val _ :: as => refs as
  | .ref j :: as => j :: refs as
def mCall (mf : List M → RF) (as : List Am) : Env' → R M := fun ρ => (evA as ρ).bind fun ds ρ1 => match gat as ds ρ1 with
  | some ms => match mf ms with
    | .ret x outs => .ok x (scat as outs 0 ρ1)
    | _ => .bad
  | none => .bad
theorem scat_get {as : List Am} {outs : Env'} : ∀ {k : Nat} {ρ : Env'} {j : Nat}, (scat as outs k ρ)[j]? = (ρ[j]?).map fun o => match refAt as 0 (k + j) with
    | some i => (outs[i]?).join
    | none => o
  | k, [], j => by simp [scat]
  | k, o :: r, 0 => by simp [scat]
  | k, o :: r, j + 1 => by
    simp only [scat, List.getElem?_cons_succ]
    rw [scat_get (k := k + 1) (ρ := r) (j := j)]
    simp [Nat.add_assoc, Nat.add_comm 1 j]
theorem scat_len {as : List Am} {outs : Env'} : ∀ {k : Nat} {ρ : Env'}, (scat as outs k ρ).length = ρ.length
  | _, [] => rfl
  | k, o :: r => by simp [scat, scat_len (k := k + 1) (ρ := r)]
theorem refAt_mem : ∀ {as : List Am} {k i j : Nat}, refAt as k j = some i → j ∈ refs as ∧ k ≤ i ∧ as[i - k]? = some (.ref j)
  | [], _, _, _, h => by simp [refAt] at h
  | .val m :: as, k, i, j, h => by
    obtain ⟨h1, h2, h3⟩ := refAt_mem (as := as) (k := k + 1) h
    refine ⟨h1, by omega, ?_⟩
    have : i - k = (i - (k + 1)) + 1 := by omega
    rw [this]; simpa using h3
  | .ref l :: as, k, i, j, h => by
    unfold refAt at h
    split at h
    · rename_i e
      cases h; subst e
      exact ⟨by simp [refs], Nat.le_refl _, by simp⟩
    · obtain ⟨h1, h2, h3⟩ := refAt_mem (as := as) (k := k + 1) h
      refine ⟨by simp [refs, h1], by omega, ?_⟩
      have : i - k = (i - (k + 1)) + 1 := by omega
      rw [this]; simpa using h3
theorem refAt_of : ∀ {as : List Am} {k i j : Nat}, (refs as).Nodup → as[i]? = some (.ref j) → refAt as k j = some (k + i)
  | [], _, _, _, _, h => by simp at h
  | .val m :: as, k, 0, j, _, h => by simp at h
  | .val m :: as, k, i + 1, j, hn, h => by
    unfold refAt
    rw [refAt_of (as := as) (k := k + 1) hn (by simpa using h)]
    congr 1; omega
  | .ref l :: as, k, 0, j, hn, h => by
    simp at h; subst h
    simp [refAt]
  | .ref l :: as, k, i + 1, j, hn, h => by
    have h' : as[i]? = some (.ref j) := by simpa using h
    simp only [refs, List.nodup_cons] at hn
    have hne : l ≠ j := fun e => hn.1 (by
      subst e
      have := refAt_of (as := as) (k := 0) hn.2 h'
      exact (refAt_mem this).1)
    unfold refAt
    rw [if_neg hne, refAt_of (as := as) (k := k + 1) hn.2 h']
    congr 1; omega
section
variable {K : Frag} {F H : Hp} {σ : L2.St} {ρ : Env'} {φ : Nat → List Addr}
theorem AOk.length : ∀ {as : List Am} {ds : List (Option PyData)} {vs : List V}, AOk K F σ as ds vs → vs.length = as.length
  | [], [], [], _ => rfl
  | .val _ :: as, some d :: ds, v :: vs, q => by simp [AOk.length q.2]
  | .ref j :: as, none :: ds, v :: vs, q => by simp [AOk.length q.2]
  | [], _ :: _, _, q => q.elim
  | [], [], _ :: _, q => q.elim
  | .val _ :: _, [], _, q => q.elim
  | .val _ :: _, none :: _, _, q => q.elim
  | .val _ :: _, some _ :: _, [], q => q.elim
  | .ref _ :: _, [], _, q => q.elim
  | .ref _ :: _, some _ :: _, _, q => q.elim
  | .ref _ :: _, none :: _, [], q => q.elim
theorem gat_len : ∀ {as : List Am} {ds : List (Option PyData)} {ms : List M}, gat as ds ρ = some ms → ms.length = as.length
  | [], [], ms, h => by simp [gat] at h; simp [h]
  | .val _ :: as, some d :: ds, ms, h => by
    simp only [gat, Option.map_eq_some_iff] at h
    obtain ⟨r, h, rfl⟩ := h
    simp [gat_len h]
  | .ref j :: as, none :: ds, ms, h => by
    unfold gat at h
    split at h
    · simp only [Option.map_eq_some_iff] at h
      obtain ⟨r, h, rfl⟩ := h
      simp [gat_len h]
    · cases h
  | [], _ :: _, _, h => by simp [gat] at h
  | .val _ :: _, [], _, h => by simp [gat] at h
  | .val _ :: _, none :: _, _, h => by simp [gat] at h
  | .ref _ :: _, [], _, h => by simp [gat] at h
  | .ref _ :: _, some _ :: _, _, h => by simp [gat] at h
/-- what stands at each place -/
theorem gat_rep (e : EnvOk K F H σ ρ φ) : ∀ {as : List Am} {ds : List (Option PyData)} {vs : List V} {ms : List M} {i : Nat} {m : M}, AOk K F σ as ds vs → gat as ds ρ = some ms → ms[i]? = some m →
    ∃ v, vs[i]? = some v ∧ Rep K F H v m (match as[i]? with | some (.ref j) => φ j | _ => [])
  | [], [], [], ms, i, m, _, h, hm => by simp [gat] at h; subst h; simp at hm
  | .val _ :: as, some d :: ds, v :: vs, ms, i, m, q, h, hm => by
    simp only [gat, Option.map_eq_some_iff] at h
    obtain ⟨r, h, rfl⟩ := h
    cases i with
    | zero => simp at hm; subst hm; exact ⟨v, rfl, .leaf q.1⟩
    | succ i => simpa using gat_rep e (i := i) q.2 h (by simpa using hm)
  | .ref j :: as, none :: ds, v :: vs, ms, i, m, q, h, hm => by
    unfold gat at h
    split at h
    · rename_i x hx
      simp only [Option.map_eq_some_iff] at h
      obtain ⟨r, h, rfl⟩ := h
      cases i with
      | zero =>
        simp at hm; subst hm
        obtain ⟨v', hv', rx⟩ := e.rep j x (qName_some hx)
        rw [q.1] at hv'; cases hv'
        exact ⟨v, rfl, rx⟩
      | succ i => simpa using gat_rep e (i := i) q.2 h (by simpa using hm)
    · cases h
  | [], _ :: _, _, _, _, _, q, _, _ => q.elim
  | [], [], _ :: _, _, _, _, q, _, _ => q.elim
  | .val _ :: _, [], _, _, _, _, q, _, _ => q.elim
  | .val _ :: _, none :: _, _, _, _, _, q, _, _ => q.elim
  | .val _ :: _, some _ :: _, [], _, _, _, q, _, _ => q.elim
  | .ref _ :: _, [], _, _, _, _, q, _, _ => q.elim
  | .ref _ :: _, some _ :: _, _, _, _, _, q, _, _ => q.elim
  | .ref _ :: _, none :: _, [], _, _, _, q, _, _ => q.elim
theorem AOk.refv : ∀ {as : List Am} {ds : List (Option PyData)} {vs : List V} {i j : Nat}, AOk K F σ as ds vs → as[i]? = some (.ref j) → ∃ v, vs[i]? = some v ∧ σ[j]? = some (some v)
  | [], [], [], i, j, _, h => by simp at h
  | .val _ :: as, some d :: ds, v :: vs, i, j, q, h => by
    cases i with
    | zero => simp at h
    | succ i => simpa using AOk.refv (i := i) q.2 (by simpa using h)
  | .ref k :: as, none :: ds, v :: vs, i, j, q, h => by
    cases i with
    | zero => simp at h; subst h; exact ⟨v, rfl, q.1⟩
    | succ i => simpa using AOk.refv (i := i) q.2 (by simpa using h)
  | [], _ :: _, _, _, _, q, _ => q.elim
  | [], [], _ :: _, _, _, q, _ => q.elim
  | .val _ :: _, [], _, _, _, q, _ => q.elim
  | .val _ :: _, none :: _, _, _, _, q, _ => q.elim
  | .val _ :: _, some _ :: _, [], _, _, q, _ => q.elim
  | .ref _ :: _, [], _, _, _, q, _ => q.elim
  | .ref _ :: _, some _ :: _, _, _, _, q, _ => q.elim
  | .ref _ :: _, none :: _, [], _, _, q, _ => q.elim
def psi (as : List Am) (φ : Nat → List Addr) : Nat → List Addr := fun i => match as[i]? with
  | some (.ref j) => φ j
  | _ => []
theorem gat_env (e : EnvOk K F H σ ρ φ) {as : List Am} {ds : List (Option PyData)} {vs : List V} {ms : List M} (hn : (refs as).Nodup) (q : AOk K F σ as ds vs) (h : gat as ds ρ = some ms) :
    EnvOk K F H (vs.map some) (ms.map some) (psi as φ) := by
  refine ⟨e.sub, by simp [q.length, gat_len h], fun i m hm => ?_, fun i j a hi hj => ?_, fun i hi => ?_⟩
  · rw [List.getElem?_map, Option.map_eq_some_iff] at hm
    obtain ⟨m', hm, e'⟩ := hm
    cases e'
    obtain ⟨v, hv, r⟩ := gat_rep e q h hm
    exact ⟨v, by rw [List.getElem?_map, hv]; rfl, r⟩
  · unfold psi at hi hj
    split at hi
    · rename_i k hk
      split at hj
      · rename_i l hl
        have := e.dis k l a hi hj
        subst this
        have h1 := refAt_of (k := 0) hn hk
        have h2 := refAt_of (k := 0) hn hl
        rw [h1] at h2
        simpa using h2
      · simp at hj
    · simp at hi
  · unfold psi
    split
    · rename_i j hj
      have hl : i < ms.length := by
        rw [gat_len h]
        exact (List.getElem?_eq_some_iff.mp hj).1
      exact absurd (by rw [List.getElem?_map, List.getElem?_eq_getElem hl]; rfl) (hi ms[i])
    · rfl
/-- behind the call -/
theorem scat_env (e : EnvOk K F H σ ρ φ) {as : List Am} {ds : List (Option PyData)} {vs : List V} (hn : (refs as).Nodup) (q : AOk K F σ as ds vs) {F' H' : Hp} {outs : Env'} {ψ' : Nat → List Addr} {f : List Addr}
    (e' : EnvOk K F' H' (vs.map some) outs ψ') (hd : ∀ a ∈ f, ¬ Om ψ' a) (x : Ext F H (Om (psi as φ)) F' H' (fun a => Om ψ' a ∨ a ∈ f)) :
    ∃ φ', EnvOk K F' H' σ (scat as outs 0 ρ) φ' ∧ (∀ a ∈ f, ¬ Om φ' a) ∧ Ext F H (Om φ) F' H' (fun a => Om φ' a ∨ a ∈ f) := by
  let φ' : Nat → List Addr := fun j => if j < ρ.length then (match refAt as 0 j with | some i => ψ' i | none => φ j) else []
  have hsub : ∀ a, Om (psi as φ) a → Om φ a := fun a ⟨i, hi⟩ => by
    unfold psi at hi
    split at hi
    · exact ⟨_, hi⟩
    · simp at hi
  -- a slot that is not handed in lies beside
  have off : ∀ j a, refAt as 0 j = none → a ∈ φ j → ¬ Om (psi as φ) a := fun j a hj ha ⟨i, hi⟩ => by
    unfold psi at hi
    split at hi
    · rename_i k hk
      have := e.dis k j a hi ha
      subst this
      rw [refAt_of (k := 0) hn hk] at hj
      cases hj
    · simp at hi
  have offO : ∀ j a, refAt as 0 j = none → a ∈ φ j → ¬ (Om ψ' a ∨ a ∈ f) := fun j a hj ha z => by
    rcases x.own a z with h | h
    · exact off j a hj ha h
    · obtain ⟨⟨o, ho, _⟩, _⟩ := e.tracked ⟨j, ha⟩
      rw [ho] at h; cases h
  have mem : ∀ a, Om φ' a → Om ψ' a ∨ ∃ j, refAt as 0 j = none ∧ a ∈ φ j := fun a ⟨j, hj⟩ => by
    simp only [φ'] at hj
    split at hj
    · split at hj
      · exact .inl ⟨_, hj⟩
      · rename_i h; exact .inr ⟨j, h, hj⟩
    · simp at hj
  refine ⟨φ', ⟨e'.sub, by rw [scat_len]; exact e.len, fun j m hm => ?_, fun j k a hj hk => ?_, fun j hj => ?_⟩, fun a ha z => ?_, ⟨x.mono, fun a o h => ?_, fun a o h n => x.keep a o h fun z => n (hsub a z), fun a h => ?_⟩⟩
  · rw [scat_get, Option.map_eq_some_iff] at hm
    obtain ⟨o, ho, hm⟩ := hm
    have hlt : j < ρ.length := (List.getElem?_eq_some_iff.mp ho).1
    rw [Nat.zero_add] at hm
    simp only [φ', if_pos hlt]
    split at hm
    · rename_i i hi
      obtain ⟨_, _, hr⟩ := refAt_mem hi
      obtain ⟨v, hv, hs⟩ := q.refv (by simpa using hr)
      obtain ⟨v', hv', r⟩ := e'.rep i m (qName_some hm)
      rw [List.getElem?_map, hv] at hv'
      simp at hv'; subst hv'
      exact ⟨v, hs, r⟩
    · rename_i hi
      subst hm
      obtain ⟨v, hv, r⟩ := e.rep j m ho
      exact ⟨v, hv, (r.ext x (fun a ha => off j a hi ha)).1⟩
  · simp only [φ'] at hj hk
    split at hj
    · split at hk
      · split at hj
        · rename_i i1 h1
          split at hk
          · rename_i i2 h2
            have := e'.dis i1 i2 a hj hk
            subst this
            obtain ⟨_, _, g1⟩ := refAt_mem h1
            obtain ⟨_, _, g2⟩ := refAt_mem h2
            rw [g1] at g2
            simpa using g2
          · rename_i h2
            exact absurd (Or.inl ⟨i1, hj⟩) (offO k a h2 hk)
        · rename_i h1
          split at hk
          · rename_i i2 h2
            exact absurd (Or.inl ⟨i2, hk⟩) (offO j a h1 hj)
          · exact e.dis j k a hj hk
      · simp at hk
    · simp at hj
  · simp only [φ']
    split
    · rename_i hlt
      split
      · rename_i i hi
        refine e'.emp i fun m hm => hj m ?_
        rw [scat_get, List.getElem?_eq_getElem hlt]
        simp only [Option.map_some, Nat.zero_add, hi, hm]
        rfl
      · rename_i hi
        refine e.emp j fun m hm => hj m ?_
        rw [scat_get, hm]
        simp only [Option.map_some, Nat.zero_add, hi]
    · rfl
  · rcases mem a z with h | ⟨j, h1, h2⟩
    · exact hd a ha h
    · exact offO j a h1 h2 (.inr ha)
  · rcases x.new a o h with h | h | h
    · exact .inl h
    · exact .inr (.inl h)
    · exact .inr (.inr (hsub a h))
  · have key : ∀ a, (Om ψ' a ∨ a ∈ f) → Om φ a ∨ H a = none := fun a z => (x.own a z).imp (hsub a) id
    rcases h with h | h
    · rcases mem a h with h | ⟨j, _, h⟩
      · exact key a (.inl h)
      · exact .inl ⟨j, h⟩
    · exact key a (.inr h)
end
def tAm (K : Frag) (mg : Str → Option Value) (E : XK) (as : List Am) : TA := fun σ H Q => ∃ F ρ φ, EnvOk K F H σ ρ φ ∧ match evA as ρ with
  | .ok ds ρ' => ∀ F' H' φ' vs, EnvOk K F' H' σ ρ' φ' → AOk K F' σ as ds vs → Ext F H (Om φ) F' H' (Om φ') → Q vs H'
  | .err x ρ' => XOk K mg E F H φ σ x ρ'
  | .bad => False
abbrev DM (X : Cx) (E : XK) (es : List Expr) (as : List Am) : Prop := PA X es (tAm X.K X.mg E as)
section
variable {X : Cx} {E : XK} {a : Expr} {es : List Expr} {as : List Am} {m : Env' → R M} {pos : Pos}
theorem dm_nil : DM X E [] [] := pa_nil.imp fun σ H Q ⟨F, ρ, φ, e, k⟩ => k F H φ [] e trivial .refl
theorem dm_val (ha : DE X E a m) (hr : DM X E es as) (hs : starEach (a :: es) X.env = (false, eval a X.env) :: starEach es X.env := by rfl) : DM X E (a :: es) (.val m :: as) :=
  (pa_cons ha hr hs).imp fun σ H Q ⟨F, ρ, φ, e, q⟩ => by
    refine ⟨F, ρ, φ, e, ?_⟩
    unfold evA at q
    cases hm : m ρ with
    | bad => rw [hm] at q; exact q.elim
    | err x ρ' => rw [hm] at q; exact q
    | ok x ρ1 =>
      rw [hm] at q
      simp only [R.bind_ok] at q
      intro F1 H1 φ1 v f e1 r1 d1 x1
      cases hz : x.frz with
      | none => rw [hz] at q; exact q.elim
      | some d =>
        rw [hz] at q
        simp only at q
        have hn : ∀ a ∈ f, F1 a = none := fun a ha => (r1.fp a ha).2
        have e2 := e1.freeze d1 hn
        have x2 := x1.freeze hn
        have rd := r1.frozen hz
        refine ⟨_, ρ1, φ1, e2, ?_⟩
        cases hm2 : evA as ρ1 with
        | bad => rw [hm2] at q; exact q.elim
        | err x ρ' => rw [hm2] at q; exact q.next x2
        | ok ds ρ2 =>
          rw [hm2] at q
          intro F3 H3 φ3 vs e3 r3 x3
          exact q F3 H3 φ3 (v :: vs) e3 ⟨rd.mono x3.mono, r3⟩ (x2.trans x3)
theorem dm_ref {j : Nat} (ha : PE X a (tVar j)) (hr : DM X E es as) (hs : starEach (a :: es) X.env = (false, eval a X.env) :: starEach es X.env := by rfl) : DM X E (a :: es) (.ref j :: as) :=
  (pa_cons ha hr hs).imp fun σ H Q ⟨F, ρ, φ, e, q⟩ => by
    unfold evA at q
    cases hj : qName j ρ with
    | none => rw [hj] at q; exact q.elim
    | some m =>
      rw [hj] at q
      dsimp only at q
      obtain ⟨v, hv, _⟩ := e.rep j m (qName_some hj)
      refine ⟨v, hv, F, ρ, φ, e, ?_⟩
      cases hm2 : evA as ρ with
      | bad => rw [hm2] at q; exact q.elim
      | err x ρ' => rw [hm2] at q; exact q
      | ok ds ρ2 =>
        rw [hm2] at q
        intro F3 H3 φ3 vs e3 r3 x3
        exact q F3 H3 φ3 (v :: vs) e3 ⟨hv, r3⟩ x3
theorem i_call {K : Frag} {mg : Str → Option Value} {n : Nat} {mf : List M → RF} {E' : XK} (hn : (refs as).Nodup) (hl : as.length = n) (σ : L2.St) (H : Hp) (Q : VK) :
    tE K mg E (mCall mf as) σ H Q → tAm K mg E as σ H fun vs H1 => spD K mg n mf vs H1 Q E' := fun ⟨F, ρ, φ, e, k⟩ => by
  refine ⟨F, ρ, φ, e, ?_⟩
  unfold mCall at k
  cases hm : evA as ρ with
  | bad => rw [hm] at k; exact k.elim
  | err x ρ' => rw [hm] at k; exact k
  | ok ds ρ1 =>
    rw [hm] at k
    simp only [R.bind_ok] at k
    intro F1 H1 φ1 vs e1 r1 x1
    cases hg : gat as ds ρ1 with
    | none => rw [hg] at k; exact k.elim
    | some ms =>
      rw [hg] at k
      dsimp only at k
      refine ⟨by rw [r1.length, hl], F1, ms, psi as φ1, gat_env e1 hn r1 hg, ?_⟩
      cases hf : mf ms with
      | bad => rw [hf] at k; exact k.elim
      | err x o => rw [hf] at k; exact k.elim
      | ret x outs =>
        rw [hf] at k
        intro F2 H2 ψ2 v f e2 r2 d2 x2
        obtain ⟨φ3, e3, d3, x3⟩ := scat_env e1 hn r1 e2 d2 x2
        exact k F2 H2 φ3 v f e3 r2 d3 (x1.trans x3)
/-- f(..), f a def of the text, every parameter given by its place -/
theorem de_call {x : Str} {p : Pos} {f : Addr} {fd : FuncData} {ps : List Str} {n : Nat} {mf : List M → RF} {j : Nat} {e0 : Expr} (Gf : FnOk X.prog X.w X.K X.mg X.base CX0 j f fd ps (spD X.K X.mg n mf)) (hr : Room j X.A) (hg : Gl X x) (hm : X.mg x = some (.ref f)) (hk : PySem.W.keepIn X.K (.ref f) = true) (hb : Binds X.K fd ps [])
    (ha : DM X E (e0 :: es) as) (hl : as.length = n := by rfl) (hn : (refs as).Nodup := by decide) (hdb : (x == ("__debug__" : Str)) = false := by decide) (he : starEach (e0 :: es) X.env = (false, eval e0 X.env) :: starEach es X.env := by rfl)
    (hpl : (backTo pos (starEach es X.env)).any (·.1) = false := by rfl) : DE X E (.Call (.Name x p) (e0 :: es) [] pos) (mCall mf as) :=
  (pe_call Gf hr hg hm hk hb .nil pass0 ha hdb he hpl).imp fun σ H Q h => by
    have := i_call (E' := E0) hn hl σ H Q h
    simpa only [tCall, List.append_nil] using this
end
end G
namespace G
open PySem PySem.Spec PyProof.Rows L2

/-! ### targets -/
structure KeepS (T : List Nat) (σ σ' : L2.St) : Prop where
  at' : ∀ i, i ∉ T → σ'[i]? = σ[i]?
  len : σ'.length = σ.length
def tG' (K : Frag) (T : List Nat) (g : PyData → Env' → Option Env') : TG := fun v σ H Q => ∃ F ρ φ d, EnvOk K F H σ ρ φ ∧ IsD K F d v ∧ match g d ρ with
  | some ρ' => ∀ φ' σ', EnvOk K F H σ' ρ' φ' → (∀ a, Om φ' a → Om φ a) → KeepS T σ σ' → Q σ' H
  | none => False
def tGs (K : Frag) (T : List Nat) (g : List PyData → Env' → Option Env') : TGs := fun vs σ H Q => ∃ F ρ φ ds, EnvOk K F H σ ρ φ ∧ IsDs K F ds vs ∧ match g ds ρ with
  | some ρ' => ∀ φ' σ', EnvOk K F H σ' ρ' φ' → (∀ a, Om φ' a → Om φ a) → KeepS T σ σ' → Q σ' H
  | none => False
abbrev DG (X : Cx) (T : List Nat) (tg : Expr) (g : PyData → Env' → Option Env') : Prop := PG X tg (tG' X.K T g)
abbrev DGs (X : Cx) (T : List Nat) (ts : List Expr) (g : List PyData → Env' → Option Env') : Prop := PGs X ts (tGs X.K T g)
theorem _root_.L2.PGs.imp {X : Cx} {e : List Expr} {t t' : TGs} (h : PGs X e t) (i : ∀ v σ H Q, t' v σ H Q → t v σ H Q) : PGs X e t' := ⟨fun pins s σ H v u Q I r q => h.run pins s σ H v u Q I r (i v σ H Q q)⟩
def gN (i : Nat) : PyData → Env' → Option Env' := fun d ρ => some (ρ.set i (some (.leaf d)))
def gNil' : List PyData → Env' → Option Env'
  | [], ρ => some ρ
  | _ :: _, _ => none
def gCons' (g : PyData → Env' → Option Env') (r : List PyData → Env' → Option Env') : List PyData → Env' → Option Env'
  | d :: ds, ρ => match g d ρ with
    | some ρ1 => r ds ρ1
    | none => none
  | [], _ => none
def gTp (n : Nat) (r : List PyData → Env' → Option Env') : PyData → Env' → Option Env' := fun d ρ => match d with
  | .tuple ds => if ds.length = n then r ds ρ else none
  | _ => none
section
variable {X : Cx} {T U : List Nat} {pos : Pos} {g : PyData → Env' → Option Env'} {r : List PyData → Env' → Option Env'} {tg : Expr} {ts : List Expr}
theorem dg_name {i : Nat} {x : Str} (hN : X.N.Nodup) (hi : X.N[i]? = some x) (hx : Loc X.env.scope x) (hf : X.fn x = true ∨ X.env.scope.names.lookup x = some .local := by first | exact .inl rfl | exact .inr rfl | assumption) : DG X [i] (.Name x pos) (gN i) :=
  (pg_name hN hi hx hf).imp fun v σ H Q ⟨F, ρ, φ, d, e, hd, k⟩ => by
    refine k _ _ (e.set (i := i) (.leaf hd) (fun a ha => by simp at ha)) (fun a h => ?_) ⟨fun j hj => ?_, by simp⟩
    · rcases om_set h with h | h
      · exact h
      · simp at h
    · rw [List.getElem?_set_ne (by intro e; exact hj (by simp [e]))]
theorem dgs_nil : DGs X [] [] gNil' := pgs_nil.imp fun vs σ H Q ⟨F, ρ, φ, ds, e, hd, k⟩ => by
  cases ds with
  | nil =>
    unfold IsDs at hd
    exact ⟨hd, k φ σ e (fun _ h => h) ⟨fun _ _ => rfl, rfl⟩⟩
  | cons d ds => exact k.elim
theorem dgs_cons (h1 : DG X T tg g) (h2 : DGs X U ts r) (hs : (assignEach (tg :: ts) X.env).map (·.2) = assign tg X.env :: (assignEach ts X.env).map (·.2) := by rfl) : DGs X (T ++ U) (tg :: ts) (gCons' g r) :=
  (pgs_cons h1 h2 hs).imp fun vs σ H Q ⟨F, ρ, φ, ds, e, hd, k⟩ => by
    cases ds with
    | nil => exact k.elim
    | cons d ds =>
      unfold IsDs at hd
      obtain ⟨v, vr, rfl, hd1, hd2⟩ := hd
      refine ⟨v, vr, rfl, F, ρ, φ, d, e, hd1, ?_⟩
      unfold gCons' at k
      dsimp only at k
      cases hg : g d ρ with
      | none => rw [hg] at k; exact k.elim
      | some ρ1 =>
        rw [hg] at k
        intro φ1 σ1 e1 o1 s1
        refine ⟨F, ρ1, φ1, ds, e1, hd2, ?_⟩
        dsimp only at k
        cases hr : r ds ρ1 with
        | none => rw [hr] at k; exact k.elim
        | some ρ2 =>
          rw [hr] at k
          intro φ2 σ2 e2 o2 s2
          exact k φ2 σ2 e2 (fun a h => o1 a (o2 a h)) ⟨fun i hi => (s2.at' i fun z => hi (List.mem_append_right _ z)).trans (s1.at' i fun z => hi (List.mem_append_left _ z)), s2.len.trans s1.len⟩
theorem dg_tup {n k : Nat} (hc : X.calm = true) (h : DGs X T ts r) (hn : (assignEach ts X.env).length = n := by rfl) (hst : (assignEach ts X.env).findIdx? (·.1) = none := by rfl) : DG X T (.Tuple ts k pos) (gTp n r) :=
  (pg_tup hc h hn hst).imp fun v σ H Q ⟨F, ρ, φ, d, e, hd, k⟩ => by
    cases d with
    | tuple ds =>
      unfold gTp at k
      dsimp only at k
      split at k
      · rename_i hh ρ' hk
        split at hk
        · rename_i hlen
          unfold IsD at hd
          obtain ⟨a, vs, rfl, hq, hd⟩ := hd
          refine ⟨a, vs, rfl, SqT.of (e.sub _ _ hq), by rw [hd.length, hlen], F, ρ, φ, ds, e, hd, ?_⟩
          rw [hk]
          exact k
        · cases hk
      · exact k.elim
    | _ => exact k.elim
end
/-! a, b = e -/
def mAsgT (m : Env' → R M) (g : PyData → Env' → Option Env') : Env' → O := fun ρ => match m ρ with
  | .ok x ρ1 => match x.frz with
    | some d => match g d ρ1 with
      | some ρ2 => .next ρ2
      | none => .bad
    | none => .bad
  | .err x ρ1 => .err x ρ1
  | .bad => .bad
section
variable {X : Cx} {E : XK} {J T : List Nat} {pos : Pos} {g : PyData → Env' → Option Env'} {m : Env' → R M} {tg e : Expr}
theorem pin_of {J T : List Nat} {σ σ' : L2.St} (h : KeepS T σ σ') (d : ∀ j ∈ J, j ∉ T) : Pin J σ σ' := fun j hj => h.at' j (d j hj)
theorem ds_asgT (hj : ∀ j ∈ J, j ∉ T) (he : DE X E e m) (hg : DG X T tg g) (hs : swapsWithSole [tg] e pos.line X.env = pure false := by rfl) (hw : swappedStores [tg] e X.env = pure none := by rfl)
    (h1 : (assignEach [tg] X.env).map (·.2) = [assign tg X.env] := by rfl) : DS X E J (.Assign [tg] e pos) (mAsgT m g) := (ps_asg he hg hs hw h1).imp fun D σ H ⟨F, ρ, φ, e, k⟩ => by
  refine ⟨F, ρ, φ, e, ?_⟩
  unfold mAsgT at k
  cases hm : m ρ with
  | bad => rw [hm] at k; exact k.elim
  | err x ρ' => rw [hm] at k; exact k.err
  | ok x ρ1 =>
    rw [hm] at k
    dsimp only at k
    intro F1 H1 φ1 v f e1 r1 d1 x1
    cases hz : x.frz with
    | none => rw [hz] at k; exact k.elim
    | some d =>
      rw [hz] at k
      dsimp only at k
      have hn : ∀ a ∈ f, F1 a = none := fun a ha => (r1.fp a ha).2
      have e2 := e1.freeze d1 hn
      have x2 := x1.freeze hn
      have rd := r1.frozen hz
      refine ⟨_, ρ1, φ1, d, e2, rd, ?_⟩
      cases hg : g d ρ1 with
      | none => rw [hg] at k; exact k.elim
      | some ρ2 =>
        rw [hg] at k
        intro φ2 σ2 e3 o3 s3
        exact k _ H1 φ2 σ2 e3 (x2.less o3) (pin_of s3 hj)
end

/-! ### what is walked -/
structure WalkD (K : Frag) (F : Hp) (J : It) (ds : List PyData) : Prop where
  go : ∀ i F1 H1, i < ds.length → Le F F1 → Sub F1 H1 → J.go i H1
  yld : ∀ (i : Nat) d F1 H1 x H2, ds[i]? = some d → Le F F1 → Sub F1 H1 → J.yld i H1 x H2 → ∃ F2, Grow F1 H1 F2 H2 [] ∧ IsD K F2 d x
  stop : ∀ F1 H1, Le F F1 → Sub F1 H1 → J.stop ds.length H1
def tI' (K : Frag) (mg : Str → Option Value) (E : XK) (m : Env' → R (List PyData)) : TI := fun σ H R => ∃ F ρ φ, EnvOk K F H σ ρ φ ∧ match m ρ with
  | .ok ds ρ' => ∀ F' H' φ' J, EnvOk K F' H' σ ρ' φ' → WalkD K F' J ds → Ext F H (Om φ) F' H' (Om φ') → R J H'
  | .err x ρ' => XOk K mg E F H φ σ x ρ'
  | .bad => False
abbrev DI (X : Cx) (E : XK) (tg iter : Expr) (m : Env' → R (List PyData)) : Prop := PI X tg iter (tI' X.K X.mg E m)
def mLoop (g : PyData → Env' → Option Env') (b : Env' → O) : List PyData → Env' → O
  | [], ρ => .next ρ
  | d :: ds, ρ => match g d ρ with
    | none => .bad
    | some ρ1 => match b ρ1 with
      | .next ρ2 => mLoop g b ds ρ2
      | .cont ρ2 => mLoop g b ds ρ2
      | .brk ρ2 => .next ρ2
      | o => o
def mFor (it : Env' → R (List PyData)) (g : PyData → Env' → Option Env') (b : Env' → O) : Env' → O := fun ρ => match it ρ with
  | .ok ds ρ1 => mLoop g b ds ρ1
  | .err x ρ1 => .err x ρ1
  | .bad => .bad
section
variable {X : Cx} {E : XK} {J T : List Nat} {pos : Pos} {g : PyData → Env' → Option Env'} {it : Env' → R (List PyData)} {b : Env' → O} {tg iter : Expr} {body : List Stmt}
theorem ds_for (hj : ∀ j ∈ J, j ∉ T) (hp : PassesOwn (model X.prog X.w) X.A X.env X.xe) (hc : X.calm = true) (hi : DI X E tg iter it) (hg : DG X T tg g) (hb : DSs X E J body b)
    (hs : ∀ x, foldedSetIterable iter X.env x = pure x := by intro _; rfl) : DS X E J (.For tg iter body [] pos) (mFor it g b) := (ps_for hp hc hi hg hb hs).imp fun D σ H ⟨F, ρ, φ, e, k⟩ => by
  refine ⟨F, ρ, φ, e, ?_⟩
  unfold mFor at k
  cases hm : it ρ with
  | bad => rw [hm] at k; exact k.elim
  | err x ρ' => rw [hm] at k; exact k.err
  | ok ds ρ1 =>
    rw [hm] at k
    intro F1 H1 φ1 Jt e1 w1 x1
    dsimp only at k
    generalize ho : mLoop g b ds ρ1 = o at k
    refine ⟨fun i m σ' H' => m = ds.length - i ∧ i ≤ ds.length ∧ ∃ F' ρ' φ', EnvOk X.K F' H' σ' ρ' φ' ∧ Sub F1 F' ∧ Ext F H (Om φ) F' H' (Om φ') ∧ Pin J σ σ' ∧ mLoop g b (ds.drop i) ρ' = o,
      ⟨_, rfl, Nat.zero_le _, F1, ρ1, φ1, e1, fun _ _ h => h, x1, .refl, ho⟩, ?_⟩
    rintro i m σ' H' ⟨rfl, hi, F', ρ', φ', e', s', x', p', h'⟩
    by_cases hlt : i < ds.length
    · refine .inr ⟨w1.go i F' H' hlt (.of s') e'.sub, fun σ2 H2 => ∃ F2 ρ2 φ2, EnvOk X.K F2 H2 σ2 ρ2 φ2 ∧ Sub F1 F2 ∧ Ext F H (Om φ) F2 H2 (Om φ2) ∧ Pin J σ σ2 ∧ mLoop g b (ds.drop (i + 1)) ρ2 = o, fun σ2 H2 h2 => ⟨ds.length - (i + 1), by omega, rfl, hlt, h2⟩, fun x H2 hy => ?_⟩
      have hd : ds[i]? = some ds[i] := List.getElem?_eq_getElem hlt
      obtain ⟨F2, gr, rx⟩ := w1.yld i _ F' H' x H2 hd (.of s') e'.sub hy
      have e2 := gr.env e'
      rw [List.drop_eq_getElem_cons hlt, mLoop] at h'
      refine ⟨F2, ρ', φ', ds[i], e2, rx, ?_⟩
      cases hgd : g ds[i] ρ' with
      | none => rw [hgd] at h'; subst h'; exact k.elim
      | some ρ2 =>
        rw [hgd] at h'
        intro φ3 σ3 e3 o3 s3
        have p3 : Pin J σ' σ3 := pin_of s3 hj
        have x3 : Ext F H (Om φ) F2 H2 (Om φ3) := (x'.trans gr.ext0).less o3
        refine ⟨F2, ρ2, φ3, e3, ?_⟩
        dsimp only at h'
        cases hb' : b ρ2 with
        | next ρ4 => rw [hb'] at h'; exact fun F4 H4 φ4 σ4 e4 x4 p4 => ⟨F4, ρ4, φ4, e4, fun a o q => x4.mono _ _ (gr.mono _ _ (s' _ _ q)), x3.trans x4, (p'.trans p3).trans p4, h'⟩
        | cont ρ4 => rw [hb'] at h'; exact fun F4 H4 φ4 σ4 e4 x4 p4 => ⟨F4, ρ4, φ4, e4, fun a o q => x4.mono _ _ (gr.mono _ _ (s' _ _ q)), x3.trans x4, (p'.trans p3).trans p4, h'⟩
        | brk ρ4 => rw [hb'] at h'; dsimp only at h'; subst h'; exact k.next x3 (p'.trans p3)
        | ret y ρ4 => rw [hb'] at h'; dsimp only at h'; subst h'; exact k.next x3 (p'.trans p3)
        | err y ρ4 => rw [hb'] at h'; dsimp only at h'; subst h'; exact k.next x3 (p'.trans p3)
        | bad => rw [hb'] at h'; dsimp only at h'; subst h'; exact k.elim
    · have hil : i = ds.length := by omega
      subst hil
      rw [List.drop_length, mLoop] at h'
      subst h'
      exact .inl ⟨w1.stop F' H' (.of s') e'.sub, k F' H' φ' σ' e' x' p'⟩
end

/-! ### comprehensions -/
def wipeE (ρ : Env') : List Nat → Env'
  | [] => ρ
  | v :: vs => (wipeE ρ vs).set v none
def rest' (vs : List Nat) (ρ0 : Env') : Nat → Env' → Env'
  | _, [] => []
  | k, o :: r => (if k ∈ vs then (ρ0[k]?).join else o) :: rest' vs ρ0 (k + 1) r
def isLeaf : Option (Option M) → Bool
  | some (some (.leaf _)) => true
  | some none => true
  | none => true
  | _ => false
def cLoop (g : PyData → Env' → Option Env') (t : Env' → R Bool) (elt : Env' → R M) (vs : List Nat) : List PyData → Env' → List M → R (List M)
  | [], ρ, acc => .ok acc ρ
  | d :: ds, ρ, acc => match g d ρ with
    | none => .bad
    | some ρ1 => match t ρ1 with
      | .ok true ρ2 => match elt ρ2 with
        | .ok x ρ3 => cLoop g t elt vs ds (wipeE ρ3 vs) (acc ++ [x])
        | _ => .bad
      | .ok false ρ2 => cLoop g t elt vs ds (wipeE ρ2 vs) acc
      | _ => .bad
def mComp (it : Env' → R (List PyData)) (g : PyData → Env' → Option Env') (t : Env' → R Bool) (elt : Env' → R M) (vs : List Nat) : Env' → R M := fun ρ => match it ρ with
  | .ok ds ρ1 => if ds.length ≤ 1000000 ∧ (vs.all fun i => isLeaf ρ1[i]?) = true then match cLoop g t elt vs ds (wipeE ρ1 vs) [] with
      | .ok ms ρ2 => .ok (.lst ms) (rest' vs ρ1 0 ρ2)
      | _ => .bad
    else .bad
  | .err x ρ1 => .err x ρ1
  | .bad => .bad
theorem rest_get {vs : List Nat} {ρ0 : Env'} : ∀ {k : Nat} {ρ : Env'} {j : Nat}, (rest' vs ρ0 k ρ)[j]? = (ρ[j]?).map fun o => if k + j ∈ vs then (ρ0[k + j]?).join else o
  | k, [], j => by simp [rest']
  | k, o :: r, 0 => by simp [rest']
  | k, o :: r, j + 1 => by
    simp only [rest', List.getElem?_cons_succ]
    rw [rest_get (k := k + 1) (ρ := r) (j := j)]
    simp [Nat.add_assoc, Nat.add_comm 1 j]
theorem rest_len {vs : List Nat} {ρ0 : Env'} : ∀ {k : Nat} {ρ : Env'}, (rest' vs ρ0 k ρ).length = ρ.length
  | _, [] => rfl
  | k, o :: r => by simp [rest', rest_len (k := k + 1) (ρ := r)]
theorem wipeE_len {ρ : Env'} : ∀ vs : List Nat, (wipeE ρ vs).length = ρ.length
  | [] => rfl
  | v :: vs => by simp [wipeE, wipeE_len vs]
theorem wipeE_get {ρ : Env'} {i : Nat} : ∀ {vs : List Nat}, (wipeE ρ vs)[i]? = if i ∈ vs then (ρ[i]?).map fun _ => none else ρ[i]?
  | [] => by simp [wipeE]
  | v :: vs => by
    simp only [wipeE]
    by_cases h : v = i
    · subst h
      by_cases hl : v < ρ.length
      · rw [List.getElem?_set_self (by rw [wipeE_len]; exact hl)]; simp [hl]
      · rw [List.getElem?_eq_none (by simp [wipeE_len]; omega)]; simp [hl]
    · rw [List.getElem?_set_ne h, wipeE_get]
      have : (i ∈ v :: vs) ↔ i ∈ vs := by simp [Ne.symm h]
      simp only [this]
section
variable {K : Frag} {F H : Hp} {σ : L2.St} {ρ : Env'} {φ : Nat → List Addr}
def wphi (φ : Nat → List Addr) (vs : List Nat) : Nat → List Addr := fun j => if j ∈ vs then [] else φ j
theorem EnvOk.wipe (e : EnvOk K F H σ ρ φ) : ∀ vs : List Nat, EnvOk K F H (L2.wipe σ vs) (wipeE ρ vs) (wphi φ vs)
  | [] => by
    have : wphi φ [] = φ := by funext j; simp [wphi]
    rw [this]; exact e
  | v :: vs => by
    have h := (e.wipe vs).drop v none
    have : (fun j => if j = v then [] else wphi φ vs j) = wphi φ (v :: vs) := by
      funext j
      by_cases h1 : j = v <;> by_cases h2 : j ∈ vs <;> simp [wphi, h1, h2]
    rw [this] at h
    exact h
theorem om_wphi {vs : List Nat} {a : Addr} (h : Om (wphi φ vs) a) : Om φ a := by
  obtain ⟨j, h⟩ := h
  unfold wphi at h
  split at h
  · simp at h
  · exact ⟨j, h⟩
/-- behind the block -/
theorem EnvOk.unwipe {F0 H0 : Hp} {ρ0 : Env'} {φ0 φ' : Nat → List Addr} {vs : List Nat} {ρ' : Env'} (e0 : EnvOk K F0 H0 σ ρ0 φ0) (hl : (vs.all fun i => isLeaf ρ0[i]?) = true) (s : Sub F0 F) (e : EnvOk K F H (L2.wipe σ vs) ρ' φ') :
    EnvOk K F H σ (rest' vs ρ0 0 ρ') (wphi φ' vs) := by
  have hlen : σ.length = ρ'.length := by rw [← e.len, wipe_length]
  refine ⟨e.sub, by rw [rest_len]; exact hlen, fun i m h => ?_, fun i j a hi hj => ?_, fun i h => ?_⟩
  · rw [rest_get, Nat.zero_add, Option.map_eq_some_iff] at h
    obtain ⟨o, ho, h⟩ := h
    by_cases hv : i ∈ vs
    · rw [if_pos hv] at h
      have h' := qName_some h
      obtain ⟨v, hv', r⟩ := e0.rep i m h'
      have := List.all_eq_true.mp hl i hv
      rw [h'] at this
      cases m with
      | leaf d => exact ⟨v, hv', by rw [wphi, if_pos hv]; exact .leaf ((rep_leaf r).mono s)⟩
      | _ => cases this
    · rw [if_neg hv] at h
      subst h
      obtain ⟨v, hv', r⟩ := e.rep i m ho
      rw [wipe_out hv] at hv'
      exact ⟨v, hv', by rw [wphi, if_neg hv]; exact r⟩
  · unfold wphi at hi hj
    split at hi
    · simp at hi
    · split at hj
      · simp at hj
      · exact e.dis i j a hi hj
  · unfold wphi
    split
    · rfl
    · rename_i hv
      refine e.emp i fun m hm => h m ?_
      rw [rest_get, Nat.zero_add, hm]
      simp [hv]
theorem wipe_eq {σ σ' : L2.St} {vs : List Nat} (h : ∀ i, i ∉ vs → σ'[i]? = σ[i]?) (hl : σ'.length = σ.length) : L2.wipe σ' vs = L2.wipe σ vs := by
  apply List.ext_getElem?
  intro i
  have hw : ∀ (τ : L2.St), i < τ.length → i ∈ vs → (L2.wipe τ vs)[i]? = some none := by
    intro τ hi hv
    induction vs with
    | nil => simp at hv
    | cons v vs ih =>
      show ((L2.wipe τ vs).set v none)[i]? = some none
      by_cases e : v = i
      · subst e; rw [List.getElem?_set_self (by rw [wipe_length]; exact hi)]
      · rw [List.getElem?_set_ne e]
        have hv' : i ∈ vs := by
          rcases List.mem_cons.mp hv with q | q
          · exact absurd q.symm e
          · exact q
        by_cases hin : ∀ j, j ∉ vs → σ'[j]? = σ[j]?
        · exact ih hin hv'
        · -- no need of the premise
          clear ih h hin
          induction vs with
          | nil => simp at hv'
          | cons u us ih2 =>
            show ((L2.wipe τ us).set u none)[i]? = some none
            by_cases e2 : u = i
            · subst e2; rw [List.getElem?_set_self (by rw [wipe_length]; exact hi)]
            · rw [List.getElem?_set_ne e2]
              refine ih2 ?_ ?_
              · rcases List.mem_cons.mp hv with q | q
                · exact absurd q.symm e
                · rcases List.mem_cons.mp q with q | q
                  · exact absurd q.symm e2
                  · exact List.mem_cons_of_mem _ q
              · rcases List.mem_cons.mp hv' with q | q
                · exact absurd q.symm e2
                · exact q
  by_cases hv : i ∈ vs
  · by_cases hi : i < σ.length
    · rw [hw σ hi hv, hw σ' (by omega) hv]
    · rw [List.getElem?_eq_none (by rw [wipe_length]; omega), List.getElem?_eq_none (by rw [wipe_length]; omega)]
  · rw [wipe_out hv, wipe_out hv, h i hv]
end
end G
namespace G
open PySem PySem.Spec PyProof.Rows L2

/-! ### dicts that are locked while they are walked -/
/-- what may be unlocked in this frame: it was not locked at the frame's entry -/
def NF (X : Cx) (d : Addr) : Prop := ∀ o' u', X.H_0 d ≠ some (.frz o' u')
theorem isDic.mut {u : HO} (h : isDic u) : Mut (some u) := by cases u <;> first | exact h.elim | trivial
/-- the thing asked may stand locked, to be unlocked now -/
def unl (N : Addr → Prop) (Q : Hp → Prop) (H : Hp) : Prop := Q H ∨ ∃ d od u, H d = some (.frz od u) ∧ N d ∧ Q (L2.upd H d u)
def unlE (N : Addr → Prop) (Q : VK) : VK := fun v H => unl N (Q v) H
def unlD (N : Addr → Prop) (D : Ends) : Ends := ⟨fun σ H => unl N (D.nx σ) H, fun v H => unl N (D.rt v) H, fun σ H => unl N (D.bk σ) H, fun σ H => unl N (D.ct σ) H⟩
section
variable {X : Cx}
theorem unl_inv {pins : List (Addr × Obj)} {σ : L2.St} {H : Hp} {s : Shared} {Q : Hp → Prop} (I : Inv X pins σ H s) (h : unl (NF X) Q H) : ∃ H', Inv X pins σ H' s ∧ Q H' := by
  rcases h with h | ⟨d, od, u, e, n, h⟩
  · exact ⟨H, I, h⟩
  · exact ⟨_, I.unlock e n, h⟩
theorem pe_unlk {e : Expr} {t : TE} (h : PE X e t) : PE X e (fun σ H Q => t σ H (unlE (NF X) Q)) :=
  ⟨fun pins s σ H Q I hw => thn (h.run pins s σ H _ I hw) fun v s1 ⟨x, H1, I2, r, q⟩ => let ⟨H', I3, q'⟩ := unl_inv I2 q; ⟨x, H', I3, r, q'⟩⟩
theorem ps_unlk {st : Stmt} {t : TS} (h : PS X st t) : PS X st (fun D σ H => t (unlD (NF X) D) σ H) := by
  refine ⟨fun pins s σ H D I hw => thn (h.run pins s σ H _ I hw) fun f s1 q => ?_⟩
  cases f with
  | next => obtain ⟨σ', H', I2, q⟩ := q; obtain ⟨H3, I3, q'⟩ := unl_inv I2 q; exact ⟨σ', H3, I3, q'⟩
  | brk => obtain ⟨σ', H', I2, q⟩ := q; obtain ⟨H3, I3, q'⟩ := unl_inv I2 q; exact ⟨σ', H3, I3, q'⟩
  | cont => obtain ⟨σ', H', I2, q⟩ := q; obtain ⟨H3, I3, q'⟩ := unl_inv I2 q; exact ⟨σ', H3, I3, q'⟩
  | ret v => obtain ⟨x, σ', H', I2, r, q⟩ := q; obtain ⟨H3, I3, q'⟩ := unl_inv I2 q; exact ⟨x, σ', H3, I3, r, q'⟩
/-- a dict that was just read is locked -/
def tLk (N : Addr → Prop) (t : TE) : TE := fun σ H Q => t σ H fun v H1 => Q v H1 ∨ ∃ d u, H1 d = some u ∧ isDic u ∧ ∀ od, N d → Q v (L2.upd H1 d (.frz od u))
theorem pe_lk {e : Expr} {t : TE} (h : PE X e t) : PE X e (tLk (NF X) t) := by
  refine ⟨fun pins s σ H Q I hw => thn (h.run pins s σ H _ I hw) fun v s1 ⟨x, H1, I2, r, q⟩ => ?_⟩
  rcases q with q | ⟨d, u, hd, mu, q⟩
  · exact ⟨x, H1, I2, r, q⟩
  · obtain ⟨od, I3⟩ := I2.lock hd mu.mut
    exact ⟨x, _, I3, r, q od (I2.nofrz hd mu.mut)⟩
end
structure LockAt (N : Addr → Prop) (d : Addr) (od : Obj) (u : HO) (F0 H0 F1 H1 : Hp) : Prop where
  at' : F0 d = some u
  dic : isDic u
  nf : N d
  f : F1 = L2.upd F0 d (.frz od u)
  h : H1 = L2.upd H0 d (.frz od u)
def LockOf (N : Addr → Prop) (F0 H0 F1 H1 : Hp) : Prop := (F1 = F0 ∧ H1 = H0) ∨ ∃ d od u, LockAt N d od u F0 H0 F1 H1
theorem LockOf.refl {N : Addr → Prop} {F H : Hp} : LockOf N F H F H := .inl ⟨rfl, rfl⟩
section
variable {K : Frag} {F0 H0 F1 H1 F2 H2 : Hp} {O O1 O2 : Addr → Prop} {σ σ1 : L2.St} {ρ ρ1 : Env'} {φ φ1 : Nat → List Addr} {N : Addr → Prop}
theorem fsub_lock {F : Hp} {d : Addr} {od : Obj} {u : HO} (h : F d = some u) (hu : isDic u) : FSub F (L2.upd F d (.frz od u)) := by
  refine ⟨fun a x nz r => ?_, fun a vs e => ?_, fun a vs e => ?_⟩
  · by_cases ha : a = d
    · subst ha
      rcases r with r | ⟨o, r⟩
      · rw [h] at r; cases r; exact .inr ⟨od, upd_same⟩
      · rw [h] at r; cases r; exact hu.elim
    · rcases r with r | ⟨o, r⟩
      · exact .inl (by rw [upd_ne ha]; exact r)
      · exact .inr ⟨o, by rw [upd_ne ha]; exact r⟩
  · rw [upd_ne (fun z => by rw [z, h] at e; cases e; exact hu)]; exact e
  · rw [upd_ne (fun z => by rw [z, h] at e; cases e; exact hu)]; exact e
theorem fsub_unlock {F : Hp} {d : Addr} {od : Obj} {u : HO} (h : F d = some (.frz od u)) : FSub F (L2.upd F d u) := by
  refine ⟨fun a x nz r => ?_, fun a vs e => ?_, fun a vs e => ?_⟩
  · by_cases ha : a = d
    · subst ha
      rcases r with r | ⟨o, r⟩
      · rw [h] at r; cases r; exact nz.elim
      · rw [h] at r; cases r; exact .inl upd_same
    · rcases r with r | ⟨o, r⟩
      · exact .inl (by rw [upd_ne ha]; exact r)
      · exact .inr ⟨o, by rw [upd_ne ha]; exact r⟩
  · rw [upd_ne (fun z => by rw [z, h] at e; cases e)]; exact e
  · rw [upd_ne (fun z => by rw [z, h] at e; cases e)]; exact e
/-- the frozen thing at d becomes o, in F and in H -/
theorem EnvOk.swap {F H : Hp} {d : Addr} {x o : HO} (e : EnvOk K F H σ ρ φ) (h : F d = some x) (s : FSub F (L2.upd F d o)) : EnvOk K (L2.upd F d o) (L2.upd H d o) σ ρ φ := by
  refine ⟨fun a u q => ?_, e.len, fun i m hm => ?_, e.dis, e.emp⟩
  · by_cases ha : a = d
    · subst ha; rw [upd_same] at q ⊢; exact q
    · rw [upd_ne ha] at q ⊢; exact e.sub _ _ q
  · obtain ⟨v, hv, r⟩ := e.rep i m hm
    have nd : ∀ a ∈ φ i, a ≠ d := fun a ha z => by have := (r.fp a ha).2; rw [z, h] at this; cases this
    exact ⟨v, hv, r.keep s (fun a ha u q => by rw [upd_ne (nd a ha)]; exact q) fun a ha => by rw [upd_ne (nd a ha)]; exact (r.fp a ha).2⟩
theorem Rep.swap {F H : Hp} {d : Addr} {x o : HO} {v : V} {m : M} {f : List Addr} (r : Rep K F H v m f) (h : F d = some x) (s : FSub F (L2.upd F d o)) : Rep K (L2.upd F d o) (L2.upd H d o) v m f := by
  have nd : ∀ a ∈ f, a ≠ d := fun a ha z => by have := (r.fp a ha).2; rw [z, h] at this; cases this
  exact r.keep s (fun a ha u q => by rw [upd_ne (nd a ha)]; exact q) fun a ha => by rw [upd_ne (nd a ha)]; exact (r.fp a ha).2
theorem LockOf.env (l : LockOf N F0 H0 F1 H1) (e : EnvOk K F0 H0 σ ρ φ) : EnvOk K F1 H1 σ ρ φ := by
  rcases l with ⟨rfl, rfl⟩ | ⟨d, od, u, l⟩
  · exact e
  · have z := e.swap l.at' (fsub_lock (od := od) l.at' l.dic)
    rw [← l.f, ← l.h] at z
    exact z
theorem LockOf.none (l : LockOf N F0 H0 F1 H1) (s : Sub F0 H0) {a : Addr} (h : H1 a = none) : H0 a = none := by
  rcases l with ⟨rfl, rfl⟩ | ⟨d, od, u, l⟩
  · exact h
  · rw [l.h] at h
    by_cases ha : a = d
    · subst ha; rw [upd_same] at h; cases h
    · rw [upd_ne ha] at h; exact h
/-- where the lock is taken away -/
theorem LockOf.open' (l : LockOf N F0 H0 F1 H1) (s0 : Sub F0 H0) (x : Ext F1 H1 O1 F2 H2 O2) (s2 : Sub F2 H2) : ∃ F3 H3, Ext F0 H0 O1 F3 H3 O2 ∧ (∀ σ ρ φ, EnvOk K F2 H2 σ ρ φ → EnvOk K F3 H3 σ ρ φ) ∧ (∀ v m f, Rep K F2 H2 v m f → Rep K F3 H3 v m f) ∧ ∀ Q : Hp → Prop, Q H3 → unl N Q H2 := by
  rcases l with ⟨rfl, rfl⟩ | ⟨d, od, u, l⟩
  · exact ⟨F2, H2, x, fun _ _ _ e => e, fun _ _ _ r => r, fun _ q => .inl q⟩
  · have f1 : F1 d = some (.frz od u) := by rw [l.f, upd_same]
    have f2 := x.mono _ _ f1
    have h2 := s2 _ _ f2
    refine ⟨L2.upd F2 d u, L2.upd H2 d u, ⟨fun a o e => ?_, fun a o e => ?_, fun a o e n => ?_, fun a e => ?_⟩, fun σ ρ φ e => e.swap f2 (fsub_unlock f2), fun v m f r => r.swap f2 (fsub_unlock f2), fun Q q => .inr ⟨d, od, u, h2, l.nf, q⟩⟩
    · by_cases ha : a = d
      · subst ha; rw [l.at'] at e; cases e; exact upd_same
      · rw [upd_ne ha]; exact x.mono _ _ (by rw [l.f, upd_ne ha]; exact e)
    · by_cases ha : a = d
      · subst ha; rw [upd_same] at e; cases e; exact .inl l.at'
      · rw [upd_ne ha] at e
        rcases x.new a o e with z | z | z
        · rw [l.f, upd_ne ha] at z; exact .inl z
        · unfold Fre at z ⊢; rw [l.h, upd_ne ha] at z; exact .inr (.inl z)
        · exact .inr (.inr z)
    · by_cases ha : a = d
      · subst ha
        rw [s0 _ _ l.at'] at e; cases e; exact upd_same
      · rw [upd_ne ha]; exact x.keep a o (by rw [l.h, upd_ne ha]; exact e) n
    · rcases x.own a e with z | z
      · exact .inl z
      · refine .inr ?_
        rw [l.h] at z
        by_cases ha : a = d
        · subst ha; rw [upd_same] at z; cases z
        · rw [upd_ne ha] at z; exact z
end
/-! ### what is walked, maybe locked -/
def tIL (N : Addr → Prop) (K : Frag) (mg : Str → Option Value) (E : XK) (m : Env' → R (List PyData)) : TI := fun σ H R => ∃ F ρ φ, EnvOk K F H σ ρ φ ∧ match m ρ with
  | .ok ds ρ' => ∀ F0 H0 φ' F' H' J, EnvOk K F0 H0 σ ρ' φ' → Ext F H (Om φ) F0 H0 (Om φ') → LockOf N F0 H0 F' H' → WalkD K F' J ds → R J H'
  | .err x ρ' => XOk K mg E F H φ σ x ρ'
  | .bad => False
abbrev DIL (X : Cx) (E : XK) (tg iter : Expr) (m : Env' → R (List PyData)) : Prop := PI X tg iter (tIL (NF X) X.K X.mg E m)
theorem _root_.L2.PI.lk {X : Cx} {E : XK} {tg iter : Expr} {m : Env' → R (List PyData)} (h : DI X E tg iter m) : DIL X E tg iter m := PI.imp h fun σ H Rt ⟨F, ρ, φ, e, k⟩ => by
  refine ⟨F, ρ, φ, e, ?_⟩
  cases hm : m ρ with
  | bad => rw [hm] at k; exact k.elim
  | err x ρ' => rw [hm] at k; exact k
  | ok ds ρ1 =>
    rw [hm] at k
    exact fun F1 H1 φ1 J e1 w1 x1 => k F1 H1 φ1 F1 H1 J e1 x1 .refl w1
/-- a loop over a dict: nothing is raised in it -/
def mForD (it : Env' → R (List PyData)) (g : PyData → Env' → Option Env') (b : Env' → O) : Env' → O := fun ρ => match it ρ with
  | .ok ds ρ1 => match mLoop g b ds ρ1 with
    | .err _ _ => .bad
    | o => o
  | .err x ρ1 => .err x ρ1
  | .bad => .bad
section
variable {X : Cx} {E : XK} {J T : List Nat} {pos : Pos} {g : PyData → Env' → Option Env'} {it : Env' → R (List PyData)} {b : Env' → O} {tg iter : Expr} {body : List Stmt}
theorem tO.lock {K : Frag} {mg : Str → Option Value} {F0 H0 F1 H1 : Hp} {φ : Nat → List Addr} {σ : L2.St} {o : O} {D : Ends} {N : Addr → Prop} (l : LockOf N F0 H0 F1 H1) (s0 : Sub F0 H0) (ne : ∀ x ρ, o ≠ .err x ρ) (h : tO K mg E J F0 H0 φ σ o D) : tO K mg E J F1 H1 φ σ o (unlD N D) := by
  cases o with
  | next ρ =>
    intro F2 H2 φ2 σ2 e2 x2 p2
    obtain ⟨F3, H3, x3, e3, _, q3⟩ := l.open' (K := K) s0 x2 e2.sub
    exact q3 _ (h F3 H3 φ2 σ2 (e3 _ _ _ e2) x3 p2)
  | brk ρ =>
    intro F2 H2 φ2 σ2 e2 x2 p2
    obtain ⟨F3, H3, x3, e3, _, q3⟩ := l.open' (K := K) s0 x2 e2.sub
    exact q3 _ (h F3 H3 φ2 σ2 (e3 _ _ _ e2) x3 p2)
  | cont ρ =>
    intro F2 H2 φ2 σ2 e2 x2 p2
    obtain ⟨F3, H3, x3, e3, _, q3⟩ := l.open' (K := K) s0 x2 e2.sub
    exact q3 _ (h F3 H3 φ2 σ2 (e3 _ _ _ e2) x3 p2)
  | ret y ρ =>
    intro F2 H2 φ2 σ2 v f e2 r2 d2 x2 p2
    obtain ⟨F3, H3, x3, e3, r3, q3⟩ := l.open' (K := K) s0 x2 e2.sub
    exact q3 _ (h F3 H3 φ2 σ2 v f (e3 _ _ _ e2) (r3 _ _ _ r2) d2 x3 p2)
  | err y ρ => exact absurd rfl (ne y ρ)
  | bad => exact h
/-- the loop's turns -/
theorem loop_turns {K : Frag} {mg : Str → Option Value} {F1 H1 : Hp} {φ1 : Nat → List Addr} {σ : L2.St} {ρ1 : Env'} {ds : List PyData} {Jt : It} {D : Ends} (hj : ∀ j ∈ J, j ∉ T) (e1 : EnvOk K F1 H1 σ ρ1 φ1) (w1 : WalkD K F1 Jt ds)
    (k : tO K mg E J F1 H1 φ1 σ (mLoop g b ds ρ1) D) (W0 : Nat → Nat → L2.St → Hp → Prop)
    (hW : W0 = fun i m σ' H' => m = ds.length - i ∧ i ≤ ds.length ∧ ∃ F' ρ' φ', EnvOk K F' H' σ' ρ' φ' ∧ Sub F1 F' ∧ Ext F1 H1 (Om φ1) F' H' (Om φ') ∧ Pin J σ σ' ∧ mLoop g b (ds.drop i) ρ' = mLoop g b ds ρ1) :
    (∃ m, W0 0 m σ H1) ∧ ∀ i m σ' H', W0 i m σ' H' → (Jt.stop i H' ∧ D.nx σ' H') ∨ (Jt.go i H' ∧ ∃ Nx : L2.St → Hp → Prop, (∀ σ2 H2, Nx σ2 H2 → ∃ m', m' < m ∧ W0 (i + 1) m' σ2 H2) ∧ ∀ x H2, Jt.yld i H' x H2 → tG' K T g x σ' H2 fun σ3 H3 => tS K mg E J b { D with nx := Nx, bk := D.nx, ct := Nx } σ3 H3) := by
  subst hW
  refine ⟨⟨_, rfl, Nat.zero_le _, F1, ρ1, φ1, e1, fun _ _ h => h, .refl, .refl, rfl⟩, ?_⟩
  generalize ho : mLoop g b ds ρ1 = o at k
  rintro i m σ' H' ⟨rfl, hi, F', ρ', φ', e', s', x', p', h'⟩
  by_cases hlt : i < ds.length
  · refine .inr ⟨w1.go i F' H' hlt (.of s') e'.sub, fun σ2 H2 => ∃ F2 ρ2 φ2, EnvOk K F2 H2 σ2 ρ2 φ2 ∧ Sub F1 F2 ∧ Ext F1 H1 (Om φ1) F2 H2 (Om φ2) ∧ Pin J σ σ2 ∧ mLoop g b (ds.drop (i + 1)) ρ2 = o, fun σ2 H2 h2 => ⟨ds.length - (i + 1), by omega, rfl, hlt, h2⟩, fun x H2 hy => ?_⟩
    have hd : ds[i]? = some ds[i] := List.getElem?_eq_getElem hlt
    obtain ⟨F2, gr, rx⟩ := w1.yld i _ F' H' x H2 hd (.of s') e'.sub hy
    have e2 := gr.env e'
    rw [List.drop_eq_getElem_cons hlt, mLoop] at h'
    refine ⟨F2, ρ', φ', ds[i], e2, rx, ?_⟩
    cases hgd : g ds[i] ρ' with
    | none => rw [hgd] at h'; subst h'; exact k.elim
    | some ρ2 =>
      rw [hgd] at h'
      intro φ3 σ3 e3 o3 s3
      have p3 : Pin J σ' σ3 := pin_of s3 hj
      have x3 : Ext F1 H1 (Om φ1) F2 H2 (Om φ3) := (x'.trans gr.ext0).less o3
      refine ⟨F2, ρ2, φ3, e3, ?_⟩
      dsimp only at h'
      cases hb' : b ρ2 with
      | next ρ4 => rw [hb'] at h'; exact fun F4 H4 φ4 σ4 e4 x4 p4 => ⟨F4, ρ4, φ4, e4, fun a o q => x4.mono _ _ (gr.mono _ _ (s' _ _ q)), x3.trans x4, (p'.trans p3).trans p4, h'⟩
      | cont ρ4 => rw [hb'] at h'; exact fun F4 H4 φ4 σ4 e4 x4 p4 => ⟨F4, ρ4, φ4, e4, fun a o q => x4.mono _ _ (gr.mono _ _ (s' _ _ q)), x3.trans x4, (p'.trans p3).trans p4, h'⟩
      | brk ρ4 => rw [hb'] at h'; dsimp only at h'; subst h'; exact k.next x3 (p'.trans p3)
      | ret y ρ4 => rw [hb'] at h'; dsimp only at h'; subst h'; exact k.next x3 (p'.trans p3)
      | err y ρ4 => rw [hb'] at h'; dsimp only at h'; subst h'; exact k.next x3 (p'.trans p3)
      | bad => rw [hb'] at h'; dsimp only at h'; subst h'; exact k.elim
  · have hil : i = ds.length := by omega
    subst hil
    rw [List.drop_length, mLoop] at h'
    subst h'
    exact .inl ⟨w1.stop F' H' (.of s') e'.sub, k F' H' φ' σ' e' x' p'⟩
theorem ds_forD (hj : ∀ j ∈ J, j ∉ T) (hp : PassesOwn (model X.prog X.w) X.A X.env X.xe) (hc : X.calm = true) (hi : DIL X E tg iter it) (hg : DG X T tg g) (hb : DSs X E J body b)
    (hs : ∀ x, foldedSetIterable iter X.env x = pure x := by intro _; rfl) : DS X E J (.For tg iter body [] pos) (mForD it g b) := (ps_unlk (ps_for hp hc hi hg hb hs)).imp fun D σ H ⟨F, ρ, φ, e, k⟩ => by
  refine ⟨F, ρ, φ, e, ?_⟩
  unfold mForD at k
  cases hm : it ρ with
  | bad => rw [hm] at k; exact k.elim
  | err x ρ' => rw [hm] at k; exact k.err
  | ok ds ρ1 =>
    rw [hm] at k
    intro F0 H0 φ1 F1 H1 Jt e0 x0 hL w1
    dsimp only at k
    have ne : ∀ x ρ, mLoop g b ds ρ1 ≠ .err x ρ := fun x ρ z => by rw [z] at k; exact k
    have k1 : tO X.K X.mg E J F H φ σ (mLoop g b ds ρ1) D := by
      revert k ne
      cases mLoop g b ds ρ1 <;> intro k ne <;> first | exact k | exact absurd rfl (ne _ _)
    have k2 := (k1.next x0 .refl).lock hL e0.sub ne
    exact ⟨_, loop_turns hj (hL.env e0) w1 k2 _ rfl⟩
end
end G
namespace G
open PySem PySem.Spec PyProof.Rows L2

abbrev DTs (X : Cx) (E : XK) (ifs : List Expr) (t : Env' → R Bool) : Prop := PTs X ifs (tB' X.K X.mg E t)
def tTrue : Env' → R Bool := fun ρ => .ok true ρ
theorem dts_nil {X : Cx} {E : XK} : DTs X E [] tTrue := ⟨fun pins s σ H Q I ⟨F, ρ, φ, e, k⟩ => pts_nil.run pins s σ H Q I (k F H φ e .refl)⟩
theorem dts_one {X : Cx} {E : XK} {c : Expr} {t : Env' → R Bool} (h : DT X E c t) : DTs X E [c] t := pts_one h
section
variable {K : Frag} {F H F1 H1 : Hp} {O O1 : Addr → Prop} {σ : L2.St} {ρ : Env'} {φ : Nat → List Addr} {D : Addr} {o : HO}
theorem Ext.upd (a : Ext F H O F1 H1 O1) (hD : O1 D) : Ext F H O F1 (L2.upd H1 D o) O1 := ⟨a.mono, a.new, fun x u h n => by
  have hx : x ≠ D := by
    rintro rfl
    rcases a.own x hD with q | q
    · exact n q
    · rw [h] at q; cases q
  rw [upd_ne hx]; exact a.keep x u h n, a.own⟩
theorem sub_upd (s : Sub F H) (hF : F D = none) : Sub F (L2.upd H D o) := fun a u e => by
  have : a ≠ D := by rintro rfl; rw [hF] at e; cases e
  rw [upd_ne this]; exact s a u e
theorem EnvOk.upd (e : EnvOk K F H σ ρ φ) (hD : ¬ Om φ D) (hF : F D = none) : EnvOk K F (L2.upd H D o) σ ρ φ := by
  refine ⟨sub_upd e.sub hF, e.len, fun i m h => ?_, e.dis, e.emp⟩
  obtain ⟨v, hv, r⟩ := e.rep i m h
  refine ⟨v, hv, r.keep .refl (fun a ha u q => ?_) fun a ha => (r.fp a ha).2⟩
  rw [upd_ne (by rintro rfl; exact hD ⟨i, ha⟩)]; exact q
theorem Reps.updN {vs : List V} {ms : List M} {f : List Addr} (r : Reps K F H vs ms f) (hD : D ∉ f) : Reps K F (L2.upd H D o) vs ms f :=
  r.keep .refl (fun a ha u q => by rw [upd_ne (by rintro rfl; exact hD ha)]; exact q) fun a ha => (r.fp a ha).2
theorem Rep.updN {v : V} {m : M} {f : List Addr} (r : Rep K F H v m f) (hD : D ∉ f) : Rep K F (L2.upd H D o) v m f :=
  r.keep .refl (fun a ha u q => by rw [upd_ne (by rintro rfl; exact hD ha)]; exact q) fun a ha => (r.fp a ha).2
theorem Reps.len : ∀ {vl : List V} {ms : List M} {fs : List Addr}, Reps K F H vl ms fs → vl.length = ms.length
  | _, _, _, .nil => rfl
  | _, _, _, .cons _ r _ => by simp [Reps.len r]
theorem Reps.snoc : ∀ {vs : List V} {ms : List M} {fs : List Addr} {v : V} {m : M} {f : List Addr}, Reps K F H vs ms fs → Rep K F H v m f → (∀ a ∈ f, a ∉ fs) → Reps K F H (vs ++ [v]) (ms ++ [m]) (fs ++ f)
  | _, _, _, v, m, f, .nil, r, _ => by
    have := Reps.cons r Reps.nil (fun a _ => by simp)
    simpa using this
  | _, _, _, v, m, f, .cons (f1 := f1) (f2 := f2) r1 r2 d, r, h => by
    have := Reps.cons r1 (Reps.snoc r2 r fun a ha z => h a ha (List.mem_append_right _ z)) (fun a ha z => by
      rcases List.mem_append.mp z with z | z
      · exact d a ha z
      · exact h a z (List.mem_append_left _ ha))
    simpa using this
end
section
variable {X : Cx} {E Eb : XK} {T : List Nat} {pos : Pos} {g : PyData → Env' → Option Env'} {it : Env' → R (List PyData)} {t : Env' → R Bool} {me : Env' → R M} {elt tg iter : Expr} {ifs : List Expr} {scope : Scope} {own : List (Str × Nat)}
theorem i_comp {N : Addr → Prop} {vs : List Nat} (hT : ∀ i ∈ T, i ∈ vs) {K : Frag} {mg : Str → Option Value} (hE : ∀ c d H, ¬ Eb c d H) (σ : L2.St) (H : Hp) (Q : VK) :
    tE K mg E (mComp it g t me vs) σ H Q → tLc (tIL N K mg E it) (tG' K T g) (tB' K mg Eb t) (tE K mg Eb me) vs σ H (unlE N Q) := fun ⟨F, ρ, φ, e, k⟩ => by
  refine ⟨F, ρ, φ, e, ?_⟩
  unfold mComp at k
  cases hm : it ρ with
  | bad => rw [hm] at k; exact k.elim
  | err x ρ' => rw [hm] at k; exact k
  | ok ds ρ1 =>
    rw [hm] at k
    dsimp only at k
    intro F0 H0 φ1 F1 H1 Jt e0 x0 hL w1 D hD
    have e1 := hL.env e0
    by_cases hw : ds.length ≤ 1000000 ∧ (vs.all fun i => isLeaf ρ1[i]?) = true
    case neg => rw [if_neg hw] at k; exact k.elim
    rw [if_pos hw] at k
    obtain ⟨hlen, hleaf⟩ := hw
    generalize ho : cLoop g t me vs ds (wipeE ρ1 vs) [] = o at k
    have hFD : F1 D = none := by
      cases q : F1 D with
      | none => rfl
      | some u => rw [e1.sub D u q] at hD; cases hD
    have g0 : Grow F1 H1 F1 (L2.upd H1 D (.lst [])) [D] := Grow.own1 e1.sub hD
    let W : Nat → Hp → Prop := fun i H' => ∃ F' ρ' φ' ms vl fs, EnvOk K F' H' (L2.wipe σ vs) ρ' φ' ∧ H' D = some (.lst vl) ∧ Reps K F' H' vl ms fs ∧ D ∉ fs ∧ F' D = none ∧ (∀ a ∈ D :: fs, ¬ Om φ' a) ∧ Sub F1 F' ∧
        Ext F1 H1 (Om φ1) F' H' (fun a => Om φ' a ∨ a ∈ D :: fs) ∧ ms.length ≤ i ∧ cLoop g t me vs (ds.drop i) ρ' ms = o
    refine ⟨fun i m H' => m = ds.length - i ∧ i ≤ ds.length ∧ W i H', ⟨_, rfl, Nat.zero_le _, F1, wipeE ρ1 vs, wphi φ1 vs, [], [], [], g0.env (e1.wipe vs), upd_same, .nil, by simp, hFD, fun a h => g0.off (e1.wipe vs) a h, fun _ _ h => h, ?_, Nat.zero_le _, ho⟩, ?_⟩
    · refine (g0.ext).less fun a h => ?_
      rcases h with h | h
      · exact .inl (om_wphi h)
      · exact .inr h
    rintro i m H' ⟨rfl, hi, F', ρ', φ', ms, vl, fs, e', hD', rs, nD, fD, off, s', x', hms, h'⟩
    have hvl := rs.len
    by_cases hlt : i < ds.length
    · refine .inr ⟨w1.go i F' H' hlt (.of s') e'.sub, W (i + 1), fun H2 h2 => ⟨ds.length - (i + 1), by omega, rfl, hlt, h2⟩, fun x H2 hy => ?_⟩
      have hd : ds[i]? = some ds[i] := List.getElem?_eq_getElem hlt
      obtain ⟨F2, gr, rx⟩ := w1.yld i _ F' H' x H2 hd (.of s') e'.sub hy
      have e2 := gr.env e'
      have rD : Rep K F' H' (.ref D) (.lst ms) (D :: fs) := .lst hD' fD rs nD
      have rD2 := gr.rep rD
      have x2 := x'.trans (gr.ext0 (O := fun a => Om φ' a ∨ a ∈ D :: fs))
      rw [List.drop_eq_getElem_cons hlt, cLoop] at h'
      refine ⟨F2, ρ', φ', ds[i], e2, rx, ?_⟩
      cases hgd : g ds[i] ρ' with
      | none => rw [hgd] at h'; subst h'; exact k.elim
      | some ρ2 =>
        rw [hgd] at h'
        dsimp only at h'
        intro φ3 σ3 e3 o3 s3
        have hwip : L2.wipe σ3 vs = L2.wipe σ vs := by
          rw [wipe_eq (σ := L2.wipe σ vs) (fun i hi => s3.at' i fun z => hi (hT i z)) s3.len]
          exact wipe_eq (fun i hi => wipe_out hi) (wipe_length _ _)
        have off3 : ∀ a ∈ D :: fs, ¬ Om φ3 a := fun a ha z => off a ha (o3 a z)
        have x3 : Ext F1 H1 (Om φ1) F2 H2 (fun a => Om φ3 a ∨ a ∈ D :: fs) := x2.less fun a h => h.imp (o3 a) id
        refine ⟨hwip, F2, ρ2, φ3, e3, ?_⟩
        cases ht : t ρ2 with
        | bad => rw [ht] at h'; subst h'; exact k.elim
        | err y ρ4 => rw [ht] at h'; subst h'; exact k.elim
        | ok b ρ4 =>
          rw [ht] at h'
          intro F4 H4 φ4 e4 x4
          obtain ⟨rD4, off4⟩ := rD2.ext x4 off3
          have x4' : Ext F1 H1 (Om φ1) F4 H4 (fun a => Om φ4 a ∨ a ∈ D :: fs) := x3.tmp rD2.fp off3 x4
          have s4 : Sub F1 F4 := fun a o q => x4.mono _ _ (gr.mono _ _ (s' _ _ q))
          cases b with
          | false =>
            rw [if_neg Bool.false_ne_true]
            dsimp only at h'
            have e5 := e4.wipe vs
            rw [hwip] at e5
            cases rD4 with | lst q1 q2 q3 q4 => ?_
            exact ⟨F4, _, _, ms, _, fs, e5, q1, q3, q4, q2, fun a ha z => off4 a ha (om_wphi z), s4, x4'.less fun a h => h.imp om_wphi id, by omega, h'⟩
          | true =>
            rw [if_pos rfl]
            dsimp only at h'
            refine ⟨F4, ρ4, φ4, e4, ?_⟩
            cases hme : me ρ4 with
            | bad => rw [hme] at h'; subst h'; exact k.elim
            | err y ρ5 => rw [hme] at h'; subst h'; exact k.elim
            | ok y ρ5 =>
              rw [hme] at h'
              dsimp only at h'
              intro F5 H5 φ5 v f e5 r5 d5 x5
              obtain ⟨rD5, off5⟩ := rD4.ext x5 off4
              have x5' := x4'.tmp rD4.fp off4 x5
              cases rD5 with | lst q1 q2 q3 q4 => ?_
              rename_i vl5
              have q3l := q3.len
              have s5 : Sub F1 F5 := fun a o q => x5.mono _ _ (s4 _ _ q)
              have nf : ∀ a ∈ f, a ∉ D :: fs := fun a ha hb => off5 a hb (.inr ha)
              have hDf : D ∉ f := fun ha => nf D ha (by simp)
              have offD : ¬ Om φ5 D := fun z => off5 D (by simp) (.inl z)
              refine ⟨vl5, q1, ?_, ?_⟩
              · have : sizeLine = 16777216 := sizeLine_eq
                omega
              have e6 := (e5.upd (D := D) (o := .lst (vl5 ++ [v])) offD q2).wipe vs
              rw [hwip] at e6
              refine ⟨F5, _, _, ms ++ [y], vl5 ++ [v], fs ++ f, e6, upd_same, (q3.updN q4).snoc (r5.updN hDf) (fun a ha hb => nf a ha (by simp [hb])), ?_, q2, ?_, s5, ?_, by simp; omega, h'⟩
              · intro h
                rcases List.mem_append.mp h with h | h
                · exact q4 h
                · exact hDf h
              · intro a ha z
                have z' := om_wphi z
                rcases List.mem_cons.mp ha with rfl | ha
                · exact offD z'
                · rcases List.mem_append.mp ha with ha | ha
                  · exact off5 a (by simp [ha]) (.inl z')
                  · exact d5 a ha z'
              · refine (x5'.upd (D := D) (.inr (by simp))).less fun a h => ?_
                rcases h with h | h
                · exact .inl (.inl (om_wphi h))
                · rcases List.mem_cons.mp h with rfl | h
                  · exact .inr (by simp)
                  · rcases List.mem_append.mp h with h | h
                    · exact .inr (by simp [h])
                    · exact .inl (.inr h)
    · have hil : i = ds.length := by omega
      subst hil
      rw [List.drop_length, cLoop] at h'
      subst h'
      refine .inl ⟨w1.stop F' H' (.of s') e'.sub, ?_⟩
      dsimp only at k
      have xe : Ext F1 H1 (Om φ1) F' H' (fun a => Om (wphi φ' vs) a ∨ a ∈ D :: fs) := x'.less fun a h => h.imp om_wphi id
      obtain ⟨F3, H3, x3, e3, r3, q3⟩ := hL.open' (K := K) e0.sub xe e'.sub
      exact q3 _ (k F3 H3 (wphi φ' vs) (.ref D) (D :: fs) (e3 _ _ _ (e1.unwipe hleaf s' e')) (r3 _ _ _ (.lst hD' fD rs nD)) (fun a ha z => off a ha (om_wphi z)) (x0.trans x3))
theorem de_comp (hT : ∀ i ∈ T, i ∈ own.map (·.2)) (hc : X.calm = true) (hN : X.N.Nodup) (hi : DIL X E tg iter it) (ok : BlkOk X.N X.env.scope scope own)
    (hg : ∀ (s : Shared) (H : Hp) (C : Addr) (cl : List (Str × Addr)) (fp : List Addr), DG (X.blk s H scope (compEnvC scope cl C X.env) fp) T tg g) (ht : ∀ (s : Shared) (H : Hp) (C : Addr) (cl : List (Str × Addr)) (fp : List Addr), DTs (X.blk s H scope (compEnvC scope cl C X.env) fp) E0 ifs t)
    (he : ∀ (s : Shared) (H : Hp) (C : Addr) (cl : List (Str × Addr)) (fp : List Addr), DE (X.blk s H scope (compEnvC scope cl C X.env) fp) E0 elt me) (hs : ∀ x, foldedSetIterable iter X.env x = pure x := by intro _; rfl) :
    DE X E (.ListComp elt [⟨tg, iter, ifs, 0⟩] scope pos) (mComp it g t me (own.map (·.2))) := (pe_unlk (pe_lc hc hN hi ok hg ht he hs)).imp fun σ H Q h => i_comp hT (fun _ _ _ z => z) σ H Q h
theorem ds_setComp {J : List Nat} {i : Nat} {y : Str} {py spos : Pos} (hj : i ∉ J) (hT : ∀ i ∈ T, i ∈ own.map (·.2)) (hc : X.calm = true) (hN : X.N.Nodup) (hy : X.N[i]? = some y) (hyl : X.env.scope.names.lookup y = some .local)
    (hsw : swapsWith (.ListComp elt [⟨tg, iter, ifs, 0⟩] scope pos) (some (.Name y py)) spos.line X.env = pure true) (hi : DIL X E tg iter it) (ok : BlkOk X.N X.env.scope scope own)
    (hg : ∀ (s : Shared) (H : Hp) (C : Addr) (cl : List (Str × Addr)) (fp : List Addr), DG (X.blk s H scope (compEnvC scope cl C X.env) fp) T tg g) (ht : ∀ (s : Shared) (H : Hp) (C : Addr) (cl : List (Str × Addr)) (fp : List Addr), DTs (X.blk s H scope (compEnvC scope cl C X.env) fp) E0 ifs t)
    (he : ∀ (s : Shared) (H : Hp) (C : Addr) (cl : List (Str × Addr)) (fp : List Addr), DE (X.blk s H scope (compEnvC scope cl C X.env) fp) E0 elt me) (hs : ∀ x, foldedSetIterable iter X.env x = pure x := by intro _; rfl) :
    DS X E J (.Assign [.Name y py] (.ListComp elt [⟨tg, iter, ifs, 0⟩] scope pos) spos) (mSet i (mComp it g t me (own.map (·.2)))) :=
  (ps_unlk (ps_setLc hc hN hy hyl hsw hi ok hg ht he hs)).imp fun D σ H h => i_comp hT (fun _ _ _ z => z) σ H _ (i_set hj D σ H h)
end
end G
namespace G
open PySem PySem.Spec PyProof.Rows L2

/-! ### views -/
def leaves : List M → Option (List PyData)
  | [] => some []
  | .leaf d :: r => (leaves r).map (d :: ·)
  | _ :: _ => none
@[simp] theorem leaves_map (ds : List PyData) : leaves (ds.map .leaf) = some ds := by
  induction ds with
  | nil => rfl
  | cons d r ih => simp [leaves, ih]
def M.lv : M → Option (List PyData)
  | .leaf (.list ds) => some ds
  | .lst ms => leaves ms
  | _ => none
def M.tv : M → Option (List PyData)
  | .leaf (.tuple ds) => some ds
  | _ => none
/-- what may be read by places -/
def M.sv : M → Option (List PyData)
  | .leaf (.list ds) => some ds
  | .lst ms => leaves ms
  | .leaf (.tuple ds) => some ds
  | .ro ds => some ds
  | _ => none
section
variable {K : Frag} {F H : Hp}
theorem leaves_isDs : ∀ {ms : List M} {ds : List PyData} {vs : List V} {f : List Addr}, leaves ms = some ds → Reps K F H vs ms f → IsDs K F ds vs
  | [], ds, vs, f, h, r => by simp [leaves] at h; subst h; cases r; exact .nil
  | .leaf d :: ms, ds, vs, f, h, r => by
    simp only [leaves, Option.map_eq_some_iff] at h
    obtain ⟨l, h, rfl⟩ := h
    cases r with | cons r1 r2 _ => exact .cons (rep_leaf r1) (leaves_isDs h r2)
  | .lst _ :: _, _, _, _, h, _ => by simp [leaves] at h
  | .dK _ :: _, _, _, _, h, _ => by simp [leaves] at h
  | .dT _ :: _, _, _, _, h, _ => by simp [leaves] at h
  | .ins _ _ :: _, _, _, _, h, _ => by simp [leaves] at h
  | .ro _ :: _, _, _, _, h, _ => by simp [leaves] at h
theorem rep_lv {v : V} {x : M} {f : List Addr} {ds : List PyData} (s : Sub F H) (r : Rep K F H v x f) (h : x.lv = some ds) : ∃ a vs, v = .ref a ∧ H a = some (.lst vs) ∧ IsDs K F ds vs := by
  cases r with
  | leaf q =>
    rename_i d
    cases d with
    | list ds' =>
      cases h
      unfold IsD at q
      obtain ⟨a, vs, rfl, h1, h2⟩ := q
      exact ⟨a, vs, rfl, s _ _ h1, h2⟩
    | _ => cases h
  | lst h1 h2 h3 h4 => exact ⟨_, _, rfl, h1, leaves_isDs h h3⟩
  | dK _ _ _ _ _ _ => cases h
  | dT _ _ _ _ _ _ => cases h
  | ins _ _ _ _ _ => cases h
  | ro _ _ => cases h
theorem rep_tv {v : V} {x : M} {f : List Addr} {ds : List PyData} (s : Sub F H) (r : Rep K F H v x f) (h : x.tv = some ds) : ∃ a vs, v = .ref a ∧ F a = some (.tup vs) ∧ IsDs K F ds vs := by
  cases r with
  | leaf q =>
    rename_i d
    cases d with
    | tuple ds' =>
      cases h
      unfold IsD at q
      obtain ⟨a, vs, rfl, h1, h2⟩ := q
      exact ⟨a, vs, rfl, h1, h2⟩
    | _ => cases h
  | lst h1 h2 h3 h4 => cases h
  | dK _ _ _ _ _ _ => cases h
  | dT _ _ _ _ _ _ => cases h
  | ins _ _ _ _ _ => cases h
  | ro _ _ => cases h
theorem rep_sv {v : V} {x : M} {f : List Addr} {ds : List PyData} (s : Sub F H) (r : Rep K F H v x f) (h : x.sv = some ds) : ∃ a vs, v = .ref a ∧ (SqL K H a vs ∨ SqT K H a vs) ∧ IsDs K F ds vs := by
  cases r with
  | leaf q =>
    rename_i d
    cases d with
    | list ds' =>
      cases h
      unfold IsD at q
      obtain ⟨a, vs, rfl, h1, h2⟩ := q
      exact ⟨a, vs, rfl, .inl (.of (s _ _ h1)), h2⟩
    | tuple ds' =>
      cases h
      unfold IsD at q
      obtain ⟨a, vs, rfl, h1, h2⟩ := q
      exact ⟨a, vs, rfl, .inr (SqT.of (s _ _ h1)), h2⟩
    | _ => cases h
  | lst h1 h2 h3 h4 => exact ⟨_, _, rfl, .inl (.of h1), leaves_isDs h h3⟩
  | dK _ _ _ _ _ _ => cases h
  | dT _ _ _ _ _ _ => cases h
  | ins _ _ _ _ _ => cases h
  | ro q1 q2 => cases h; exact ⟨_, _, rfl, .inl (G.SqL.mono' s q1), q2⟩
theorem isD_int_iff {i : Int} {v : V} : IsD K F (.int i) v ↔ v = .int i := by unfold IsD; rfl
theorem isD_str_iff {i : Str} {v : V} : IsD K F (.str i) v ↔ v = .str i := by unfold IsD; rfl
theorem isD_bool_iff {i : Bool} {v : V} : IsD K F (.bool i) v ↔ v = .bl i := by unfold IsD; rfl
theorem isD_none_iff {v : V} : IsD K F .none v ↔ v = .non := by unfold IsD; rfl
theorem isD_int (i : Int) : IsD K F (.int i) (.int i) := isD_int_iff.mpr rfl
theorem isD_str (i : Str) : IsD K F (.str i) (.str i) := isD_str_iff.mpr rfl
theorem isD_bool (i : Bool) : IsD K F (.bool i) (.bl i) := isD_bool_iff.mpr rfl
theorem isD_none : IsD K F .none .non := isD_none_iff.mpr rfl
end

/-! ### a built-in called by its name -/
section
variable {X : Cx} {E : XK} {a b : Expr} {r : List V → Hp → VK → Prop} {q qa qb : Env' → Option M} {m ma mb : Env' → R M} {x : Str} {p pos : Pos} {id T : String}
theorem dq_b1 {g : M → Option PyData} (hc : CallR X (.builtin id) r) (hr : R1S X.K (fun v => r [v]) g) (hg : Gl X x) (hm : X.mg x = none) (hv : bootBuiltins x = some (.builtin id)) (ha : DQ X a q) (hn : x ≠ "__name__" := by decide) (hdb : (x == ("__debug__" : Str)) = false := by decide)
    (he : starEach [a] X.env = (false, eval a X.env) :: starEach [] X.env := by rfl) (hpl : (backTo pos (starEach [] X.env)).any (·.1) = false := by rfl) : DQ X (.Call (.Name x p) [a] [] pos) (q1 g q) :=
  (pe_callB hc hg hm hv (pa_cons ha pa_nil he) hn hdb he hpl).imp fun σ H Q h => i_q1 hr σ H Q h
theorem de_b1 {g : M → Option M} (hc : CallR X (.builtin id) r) (hr : R1 X.K (fun v => r [v]) g) (hg : Gl X x) (hm : X.mg x = none) (hv : bootBuiltins x = some (.builtin id)) (ha : DE X E a m) (hn : x ≠ "__name__" := by decide) (hdb : (x == ("__debug__" : Str)) = false := by decide)
    (he : starEach [a] X.env = (false, eval a X.env) :: starEach [] X.env := by rfl) (hpl : (backTo pos (starEach [] X.env)).any (·.1) = false := by rfl) : DE X E (.Call (.Name x p) [a] [] pos) (m1 g m) :=
  (pe_callB hc hg hm hv (pa_cons ha pa_nil he) hn hdb he hpl).imp fun σ H Q h => i_1 hr σ H Q h
theorem de_b1q {g : M → Option M} (hc : CallR X (.builtin id) r) (hr : R1 X.K (fun v => r [v]) g) (hg : Gl X x) (hm : X.mg x = none) (hv : bootBuiltins x = some (.builtin id)) (ha : DQ X a q) (hn : x ≠ "__name__" := by decide) (hdb : (x == ("__debug__" : Str)) = false := by decide)
    (he : starEach [a] X.env = (false, eval a X.env) :: starEach [] X.env := by rfl) (hpl : (backTo pos (starEach [] X.env)).any (·.1) = false := by rfl) : DE X E (.Call (.Name x p) [a] [] pos) (m1q g q) :=
  (pe_callB hc hg hm hv (pa_cons ha pa_nil he) hn hdb he hpl).imp fun σ H Q h => i_1q hr σ H Q h
theorem dq_t1 {g : M → Option PyData} (hc : CallR X (.type T) r) (hr : R1S X.K (fun v => r [v]) g) (hg : Gl X x) (hm : X.mg x = none) (hv : bootBuiltins x = some (.type T)) (ha : DQ X a q) (hn : x ≠ "__name__" := by decide) (hdb : (x == ("__debug__" : Str)) = false := by decide)
    (he : starEach [a] X.env = (false, eval a X.env) :: starEach [] X.env := by rfl) (hpl : (backTo pos (starEach [] X.env)).any (·.1) = false := by rfl) : DQ X (.Call (.Name x p) [a] [] pos) (q1 g q) :=
  (pe_callTy hc hg hm hv (pa_cons ha pa_nil he) hn hdb he hpl).imp fun σ H Q h => i_q1 hr σ H Q h
theorem de_t1 {g : M → Option M} (hc : CallR X (.type T) r) (hr : R1 X.K (fun v => r [v]) g) (hg : Gl X x) (hm : X.mg x = none) (hv : bootBuiltins x = some (.type T)) (ha : DE X E a m) (hn : x ≠ "__name__" := by decide) (hdb : (x == ("__debug__" : Str)) = false := by decide)
    (he : starEach [a] X.env = (false, eval a X.env) :: starEach [] X.env := by rfl) (hpl : (backTo pos (starEach [] X.env)).any (·.1) = false := by rfl) : DE X E (.Call (.Name x p) [a] [] pos) (m1 g m) :=
  (pe_callTy hc hg hm hv (pa_cons ha pa_nil he) hn hdb he hpl).imp fun σ H Q h => i_1 hr σ H Q h
theorem de_t1q {g : M → Option M} (hc : CallR X (.type T) r) (hr : R1 X.K (fun v => r [v]) g) (hg : Gl X x) (hm : X.mg x = none) (hv : bootBuiltins x = some (.type T)) (ha : DQ X a q) (hn : x ≠ "__name__" := by decide) (hdb : (x == ("__debug__" : Str)) = false := by decide)
    (he : starEach [a] X.env = (false, eval a X.env) :: starEach [] X.env := by rfl) (hpl : (backTo pos (starEach [] X.env)).any (·.1) = false := by rfl) : DE X E (.Call (.Name x p) [a] [] pos) (m1q g q) :=
  (pe_callTy hc hg hm hv (pa_cons ha pa_nil he) hn hdb he hpl).imp fun σ H Q h => i_1q hr σ H Q h
theorem dq_b2 {g : M → M → Option PyData} (hc : CallR X (.builtin id) r) (hr : R2S X.K (fun v u => r [v, u]) g) (hg : Gl X x) (hm : X.mg x = none) (hv : bootBuiltins x = some (.builtin id)) (ha : DQ X a qa) (hb : DQ X b qb) (hn : x ≠ "__name__" := by decide) (hdb : (x == ("__debug__" : Str)) = false := by decide)
    (he : starEach [a, b] X.env = (false, eval a X.env) :: starEach [b] X.env := by rfl) (he2 : starEach [b] X.env = (false, eval b X.env) :: starEach [] X.env := by rfl) (hpl : (backTo pos (starEach [b] X.env)).any (·.1) = false := by rfl) : DQ X (.Call (.Name x p) [a, b] [] pos) (q2 g qa qb) :=
  (pe_callB hc hg hm hv (pa_cons ha (pa_cons hb pa_nil he2) he) hn hdb he hpl).imp fun σ H Q h => i_q2 hr σ H Q h
theorem de_b2 {g : M → M → Option M} (hc : CallR X (.builtin id) r) (hr : R2 X.K (fun v u => r [v, u]) g) (hg : Gl X x) (hm : X.mg x = none) (hv : bootBuiltins x = some (.builtin id)) (ha : DE X E a ma) (hb : DE X E b mb) (hn : x ≠ "__name__" := by decide) (hdb : (x == ("__debug__" : Str)) = false := by decide)
    (he : starEach [a, b] X.env = (false, eval a X.env) :: starEach [b] X.env := by rfl) (he2 : starEach [b] X.env = (false, eval b X.env) :: starEach [] X.env := by rfl) (hpl : (backTo pos (starEach [b] X.env)).any (·.1) = false := by rfl) : DE X E (.Call (.Name x p) [a, b] [] pos) (m2 g ma mb) :=
  (pe_callB hc hg hm hv (pa_cons ha (pa_cons hb pa_nil he2) he) hn hdb he hpl).imp fun σ H Q h => i_2 hr σ H Q h
end

/-! ### numbers -/
def gI2 (f : Int → Int → PyData) (c : Int → Int → Bool) : M → M → Option PyData
  | .leaf (.int i), .leaf (.int j) => if c i j then some (f i j) else none
  | _, _ => none
theorem r_I2 {K : Frag} {C : Int → Int → Prop} {f : Int → Int → PyData} {g : Int → Int → V} {c : Int → Int → Bool} (hc : ∀ i j, c i j = true → C i j) (hf : ∀ F i j, IsD K F (f i j) (g i j)) : R2S K (rI C g) (gI2 f c) := by
  intro F H v x fa v2 x2 f2 d Q s r r2 h q
  unfold gI2 at h
  split at h
  · split at h
    · rename_i hcc
      cases h
      exact ⟨_, _, isD_int_iff.mp (rep_leaf r), isD_int_iff.mp (rep_leaf r2), hc _ _ hcc, q _ (hf _ _ _)⟩
    · cases h
  · cases h
theorem r_I2' {K : Frag} {f : Int → Int → PyData} {g : Int → Int → V} (hf : ∀ F i j, IsD K F (f i j) (g i j)) : R2S K (rI0 g) (gI2 f fun _ _ => true) := by
  intro F H v x fa v2 x2 f2 d Q s r r2 h q
  unfold gI2 at h
  split at h
  · rw [if_pos rfl] at h
    cases h
    exact ⟨_, _, isD_int_iff.mp (rep_leaf r), isD_int_iff.mp (rep_leaf r2), q _ (hf _ _ _)⟩
  · cases h
/-- a bound that the kernel never counts down -/
def absB (i : Int) (n : Nat) : Bool := Nat.ble i.natAbs n
theorem absB_iff {i : Int} {n : Nat} : absB i n = true ↔ i.natAbs ≤ n := by unfold absB; rw [Nat.ble_eq]
def gSub : M → M → Option PyData := gI2 (fun i j => .int (i - j)) fun _ _ => true
def gFdiv : M → M → Option PyData := gI2 (fun i j => .int (i / j)) fun i j => decide (0 < j) && absB j 1073741823
def gMod : M → M → Option PyData := gI2 (fun i j => .int (i % j)) fun i j => decide (0 < j)
def gPow : M → M → Option PyData := gI2 (fun i j => .int (i ^ j.toNat)) fun i j => decide (0 ≤ j) && absB j 1000000 && absB i 18446744073709551615
def gMulI : M → M → Option PyData := gI2 (fun i j => .int (i * j)) fun i j => absB i 18446744073709551615 || absB j 18446744073709551615
def gLtI : M → M → Option PyData := gI2 (fun i j => .bool (decide (i < j))) fun _ _ => true
def gLeI : M → M → Option PyData := gI2 (fun i j => .bool (decide (i ≤ j))) fun _ _ => true
def gGtI : M → M → Option PyData := gI2 (fun i j => .bool (decide (j < i))) fun _ _ => true
def gGeI : M → M → Option PyData := gI2 (fun i j => .bool (decide (j ≤ i))) fun _ _ => true
section
variable {K : Frag}
theorem r_sub : R2S K (rI0 fun i j => .int (i - j)) gSub := r_I2' fun _ _ _ => isD_int _
theorem r_fdiv : R2S K (rI CDiv fun i j => .int (i / j)) gFdiv := r_I2 (fun i j h => by simp only [Bool.and_eq_true, decide_eq_true_eq, absB_iff] at h; unfold CDiv; omega) fun _ _ _ => isD_int _
theorem r_mod : R2S K (rI (fun _ j => 0 < j) fun i j => .int (i % j)) gMod := r_I2 (fun i j h => by simpa using h) fun _ _ _ => isD_int _
theorem r_pow : R2S K (rI CPow fun i j => .int (i ^ j.toNat)) gPow := r_I2 (fun i j h => by
  simp only [Bool.and_eq_true, decide_eq_true_eq, absB_iff] at h
  unfold CPow
  omega) fun _ _ _ => isD_int _
theorem cmul_of {i j : Int} (h : (absB i 18446744073709551615 || absB j 18446744073709551615) = true) : CMul i j := by
  simp only [Bool.or_eq_true, absB_iff] at h
  unfold CMul
  omega
theorem r_mulI : R2S K (rI CMul fun i j => .int (i * j)) gMulI := r_I2 (fun i j h => cmul_of h) fun _ _ _ => isD_int _
theorem r_ltI : R2S K (rI0 fun i j => .bl (decide (i < j))) gLtI := r_I2' fun _ _ _ => isD_bool _
theorem r_leI : R2S K (rI0 fun i j => .bl (decide (i ≤ j))) gLeI := r_I2' fun _ _ _ => isD_bool _
theorem r_gtI : R2S K (rI0 fun i j => .bl (decide (j < i))) gGtI := r_I2' fun _ _ _ => isD_bool _
theorem r_geI : R2S K (rI0 fun i j => .bl (decide (j ≤ i))) gGeI := r_I2' fun _ _ _ => isD_bool _
def gNeg : M → Option PyData
  | .leaf (.int i) => some (.int (-i))
  | _ => none
theorem r_neg : R1S K (rU fun i => .int (-i)) gNeg := by
  intro F H v x f d Q s r h q
  unfold gNeg at h
  split at h
  · cases h; exact ⟨_, isD_int_iff.mp (rep_leaf r), q _ (isD_int _)⟩
  · cases h
def gAbs : M → Option PyData
  | .leaf (.int i) => some (.int (if i < 0 then -i else i))
  | _ => none
/-! sums: ints, texts; tuples, lists -/
def rAddS : L2.R2 := fun x y H Q => (∃ i j, x = .int i ∧ y = .int j ∧ Q (.int (i + j)) H) ∨ (∃ i j, x = .str i ∧ y = .str j ∧ i.length + j.length ≤ sizeLine ∧ Q (.str (i ++ j)) H)
theorem op_addS {X : Cx} : OpR X (binaryOp .Add) rAddS := op_add.or op_add_str
def gAddS : M → M → Option PyData
  | .leaf (.int i), .leaf (.int j) => some (.int (i + j))
  | .leaf (.str i), .leaf (.str j) => if i.length + j.length ≤ 16777216 then some (.str (i ++ j)) else none
  | _, _ => none
theorem r_addS : R2S K rAddS gAddS := by
  intro F H v x fa v2 x2 f2 d Q s r r2 h q
  unfold gAddS at h
  split at h
  · cases h
    exact .inl ⟨_, _, isD_int_iff.mp (rep_leaf r), isD_int_iff.mp (rep_leaf r2), q _ (isD_int _)⟩
  · split at h
    · rename_i hz
      cases h
      exact .inr ⟨_, _, isD_str_iff.mp (rep_leaf r), isD_str_iff.mp (rep_leaf r2), by rw [sizeLine_eq]; exact hz, q _ (isD_str _)⟩
    · cases h
  · cases h
def rAdd' (K : Frag) : L2.R2 := fun x y H Q => rAddS x y H Q ∨ rCatA K x y H Q ∨ rCat x y H Q
theorem op_add' {X : Cx} : OpR X (binaryOp .Add) (rAdd' X.K) := op_addS.or (op_catA.or op_cat)
/-- + -/
def gAdd : M → M → Option M := fun x y => match gAddS x y with
  | some d => some (.leaf d)
  | none => match x.tv, y.tv with
    | some a, some b => if a.length + b.length ≤ 16777216 then some (.leaf (.tuple (a ++ b))) else none
    | _, _ => match x.lv, y.lv with
      | some a, some b => if a.length + b.length ≤ 16777216 then some (.lst ((a ++ b).map .leaf)) else none
      | _, _ => none
theorem r_add : R2 K (rAdd' K) gAdd := by
  intro F H v x fa v2 x2 f2 y Q s r r2 h q
  unfold gAdd at h
  split at h
  · rename_i d hd
    cases h
    exact .inl (r_addS F H v x fa v2 x2 f2 d Q s r r2 hd fun v' hv => q F H v' [] (.refl s) (.leaf hv))
  · split at h
    · rename_i a b ha hb
      split at h
      · rename_i hz
        cases h
        obtain ⟨p1, vs1, rfl, h1, d1⟩ := rep_tv s r ha
        obtain ⟨p2, vs2, rfl, h2, d2⟩ := rep_tv s r2 hb
        have l1 := d1.length
        have l2 := d2.length
        refine .inr (.inl ⟨p1, p2, vs1, vs2, rfl, rfl, SqT.of (s _ _ h1), SqT.of (s _ _ h2), by rw [sizeLine_eq]; omega, fun e => ?_, fun _ e => ?_, fun _ _ p hp => ?_⟩)
        · subst e
          have : a = [] := List.eq_nil_of_length_eq_zero (by simpa using l1.symm)
          subst this
          refine q F H _ [] (.refl s) (.leaf ?_)
          unfold IsD; exact ⟨_, _, rfl, h2, by simpa using d2⟩
        · subst e
          have : b = [] := List.eq_nil_of_length_eq_zero (by simpa using l2.symm)
          subst this
          refine q F H _ [] (.refl s) (.leaf ?_)
          unfold IsD; exact ⟨_, _, rfl, h1, by simpa using d1⟩
        · have g := Grow.frz1 (o := .tup (vs1 ++ vs2)) s hp
          exact q _ _ _ [] g (.leaf (isD_tup upd_same ((d1.append d2).mono g.mono)))
      · cases h
    · split at h
      · rename_i a b ha hb
        split at h
        · rename_i hz
          cases h
          obtain ⟨p1, vs1, rfl, h1, d1⟩ := rep_lv s r ha
          obtain ⟨p2, vs2, rfl, h2, d2⟩ := rep_lv s r2 hb
          have l1 := d1.length
          have l2 := d2.length
          refine .inr (.inr ⟨p1, p2, vs1, vs2, rfl, rfl, h1, h2, by rw [sizeLine_eq]; omega, fun p hp => ?_⟩)
          have hF : F p = none := by
            cases e : F p with
            | none => rfl
            | some u => rw [s p u e] at hp; cases hp
          exact q _ _ _ [p] (Grow.own1 s hp) (.lst upd_same hF (reps_leaves (d1.append d2)) (by simp))
        · cases h
      · cases h
end

/-! ### len, subscripts -/
def rLen (K : Frag) : List V → Hp → VK → Prop := fun xs H Q => (∃ p ys, xs = [.ref p] ∧ (SqL K H p ys ∨ SqT K H p ys) ∧ Q (.int ys.length) H) ∨ (∃ z, xs = [.str z] ∧ z.length ≤ sizeLine ∧ Q (.int z.length) H)
theorem call_len' {X : Cx} : CallR X (.builtin "len") (rLen X.K) := call_len_seq.or call_len_str
def gLen : M → Option PyData
  | .leaf (.str z) => if z.length ≤ 16777216 then some (.int z.length) else none
  | .lst ms => some (.int ms.length)
  | x => x.sv.map fun ds => .int ds.length
theorem r_len {K : Frag} : R1S K (fun v => rLen K [v]) gLen := by
  intro F H v x f d Q s r h q
  unfold gLen at h
  split at h
  · split at h
    · rename_i hz
      cases h
      exact .inr ⟨_, by rw [isD_str_iff.mp (rep_leaf r)], by rw [sizeLine_eq]; exact hz, q _ (isD_int _)⟩
    · cases h
  · cases h
    cases r with
    | lst h1 h2 h3 h4 => exact .inl ⟨_, _, rfl, .inl (.of h1), by rw [h3.len]; exact q _ (isD_int _)⟩
  · rw [Option.map_eq_some_iff] at h
    obtain ⟨ds, h, rfl⟩ := h
    obtain ⟨a, vs, rfl, h1, h2⟩ := rep_sv s r h
    exact .inl ⟨a, vs, rfl, h1, by rw [h2.length]; exact q _ (isD_int _)⟩
def atD (ds : List PyData) (i : Int) : Option PyData := atI ds i
theorem atI_isD {K : Frag} {F : Hp} {ds : List PyData} {vs : List V} {i : Int} {d : PyData} (h : IsDs K F ds vs) (e : atI ds i = some d) : ∃ v, atI vs i = some v ∧ IsD K F d v := by
  unfold atI at e ⊢
  rw [h.length]
  cases hj : ixN ds.length i with
  | none => rw [hj] at e; cases e
  | some j =>
    rw [hj] at e
    exact h.get e
/-- o[i]: an item of a list, a tuple, a text -/
def gIx : M → M → Option PyData
  | .leaf (.str z), .leaf (.int i) => if z.length ≤ 16777216 then (atI z.cps.toList i).map fun c => .str ⟨#[c]⟩ else none
  | x, .leaf (.int i) => match x.sv with
    | some ds => atI ds i
    | none => none
  | _, _ => none
theorem r_ix {K : Frag} : R2S K (rIx K) gIx := by
  intro F H v x fa v2 x2 f2 d Q s r r2 h q
  unfold gIx at h
  split at h
  · split at h
    · rename_i hz
      rw [Option.map_eq_some_iff] at h
      obtain ⟨c, hc, rfl⟩ := h
      exact .inr (.inr ⟨_, _, c, isD_str_iff.mp (rep_leaf r), isD_int_iff.mp (rep_leaf r2), by rw [sizeLine_eq]; exact hz, hc, q _ (isD_str _)⟩)
    · cases h
  · split at h
    · rename_i ds hds
      obtain ⟨a, vs, rfl, h1, h2⟩ := rep_sv s r hds
      obtain ⟨u, hu, hd⟩ := atI_isD h2 h
      rcases h1 with h1 | h1
      · exact .inl ⟨a, vs, _, u, rfl, isD_int_iff.mp (rep_leaf r2), h1, hu, q _ hd⟩
      · exact .inr (.inl ⟨a, vs, _, u, rfl, isD_int_iff.mp (rep_leaf r2), h1, hu, q _ hd⟩)
    · cases h
  · cases h
section
variable {X : Cx} {E : XK} {a b : Expr} {qa qb : Env' → Option M} {ma mb : Env' → R M} {pos : Pos}
theorem dq_ix (ha : DQ X a qa) (hb : DQ X b qb) (hs : PlainIx b := by exact fun _ _ => rfl) : DQ X (.Subscript a b pos) (q2 gIx qa qb) := (pe_ix ix_seq ha hb hs).imp fun σ H Q h => i_q2 r_ix σ H Q h
theorem de_ix (ha : DE X E a ma) (hb : DE X E b mb) (hs : PlainIx b := by exact fun _ _ => rfl) : DE X E (.Subscript a b pos) (m2 (lf2 gIx) ma mb) := (pe_ix ix_seq ha hb hs).imp fun σ H Q h => i_2 r_ix.up σ H Q h
theorem de_ixl {i : Nat} (ha : PE X a (tVar i)) (hb : DE X E b mb) (hs : PlainIx b := by exact fun _ _ => rfl) : DE X E (.Subscript a b pos) (m2l (lf2 gIx) i mb) := (pe_ix ix_seq ha hb hs).imp fun σ H Q h => i_2l r_ix.up σ H Q h
end
end G
namespace G
open PySem PySem.Spec PyProof.Rows L2

/-! ### data as the library reads it -/
section
variable {K : Frag} {F H : Hp}
mutual
def nd : PyData → Bool
  | .list ds => nds ds
  | .tuple ds => nds ds
  | .dict _ => false
  | _ => true
def nds : List PyData → Bool
  | [] => true
  | d :: ds => nd d && nds ds
end
mutual
theorem IsD.dp : ∀ (d : PyData) (v : V), nd d = true → IsD K H d v → Dp K H v d
  | .none, v, _, h => by unfold IsD at h; subst h; exact .non
  | .bool b, v, _, h => by unfold IsD at h; subst h; exact .bl b
  | .int b, v, _, h => by unfold IsD at h; subst h; exact .int b
  | .str b, v, _, h => by unfold IsD at h; subst h; exact .str b
  | .list ds, v, n, h => by
    unfold IsD at h
    unfold nd at n
    obtain ⟨a, vs, rfl, h1, h2⟩ := h
    exact .lst (.of h1) (IsDs.dp ds vs n h2)
  | .tuple ds, v, n, h => by
    unfold IsD at h
    unfold nd at n
    obtain ⟨a, vs, rfl, h1, h2⟩ := h
    exact .tup (.of h1) (IsDs.dp ds vs n h2)
  | .dict _, v, n, h => by unfold nd at n; cases n
theorem IsDs.dp : ∀ (ds : List PyData) (vs : List V), nds ds = true → IsDs K H ds vs → DpAll K H vs ds
  | [], vs, _, h => by unfold IsDs at h; subst h; exact .nil
  | d :: ds, vs, n, h => by
    unfold IsDs at h
    unfold nds at n
    rw [Bool.and_eq_true] at n
    obtain ⟨v, r, rfl, h1, h2⟩ := h
    exact .cons (IsD.dp d v n.1 h1) (IsDs.dp ds r n.2 h2)
end
mutual
theorem nd_of_lay : ∀ d : PyData, d.canLay0 = true → nd d = true
  | .none, _ => rfl
  | .bool _, _ => rfl
  | .int _, _ => rfl
  | .str _, _ => rfl
  | .list ds, h => by unfold PyData.canLay0 at h; unfold nd; exact nds_of_lay ds h
  | .tuple ds, h => by unfold PyData.canLay0 at h; unfold nd; exact nds_of_lay ds h
  | .dict _, h => by unfold PyData.canLay0 at h; cases h
theorem nds_of_lay : ∀ d : List PyData, PyData.canLayAll0 d = true → nds d = true
  | [], _ => rfl
  | d :: ds, h => by
    unfold PyData.canLayAll0 at h
    rw [Bool.and_eq_true] at h
    unfold nds
    rw [nd_of_lay d h.1, nds_of_lay ds h.2]; rfl
end
end

/-! ### ==, != -/
def gEq : M → M → Option PyData := fun x y => match x.frz, y.frz with
  | some d, some e => if SeqAt.shaped d && SeqAt.shaped e then some (.bool (PyData.eqv d e)) else none
  | _, _ => none
def gNe : M → M → Option PyData := fun x y => match x.frz, y.frz with
  | some d, some e => if SeqAt.shaped d && SeqAt.shaped e then some (.bool (!PyData.eqv d e)) else none
  | _, _ => none
section
variable {K : Frag}
theorem nd_shaped {d : PyData} (h : SeqAt.shaped d = true) : nd d = true := nd_of_lay d (SeqAt.canLay_of_shaped h)
theorem r_eq : R2S K (rEqD K) gEq := by
  intro F H v x fa v2 x2 f2 d Q s r r2 h q
  unfold gEq at h
  split at h
  · rename_i d1 d2 h1 h2
    split at h
    · rename_i hs
      cases h
      rw [Bool.and_eq_true] at hs
      exact ⟨d1, d2, IsD.dp _ _ (nd_shaped hs.1) (r.read s h1), IsD.dp _ _ (nd_shaped hs.2) (r2.read s h2), hs.1, hs.2, q _ (isD_bool _)⟩
    · cases h
  · cases h
theorem r_ne : R2S K (rNeD K) gNe := by
  intro F H v x fa v2 x2 f2 d Q s r r2 h q
  unfold gNe at h
  split at h
  · rename_i d1 d2 h1 h2
    split at h
    · rename_i hs
      cases h
      rw [Bool.and_eq_true] at hs
      exact ⟨d1, d2, IsD.dp _ _ (nd_shaped hs.1) (r.read s h1), IsD.dp _ _ (nd_shaped hs.2) (r2.read s h2), hs.1, hs.2, q _ (isD_bool _)⟩
    · cases h
  · cases h
/-! is None -/
def gIsN : M → Option PyData
  | .leaf .none => some (.bool true)
  | .leaf _ => some (.bool false)
  | .lst _ => some (.bool false)
  | _ => none
def isNd : PyData → Bool
  | .none => true
  | _ => false
theorem isN_of {F : Hp} {d : PyData} {v : V} (h : IsD K F d v) : decide (v = .non) = isNd d := by
  cases d with
  | none => rw [isD_none_iff.mp h]; rfl
  | bool b => rw [isD_bool_iff.mp h]; rfl
  | int b => rw [isD_int_iff.mp h]; rfl
  | str b => rw [isD_str_iff.mp h]; rfl
  | list b => unfold IsD at h; obtain ⟨_, _, rfl, _⟩ := h; rfl
  | tuple b => unfold IsD at h; obtain ⟨_, _, rfl, _⟩ := h; rfl
  | dict b => unfold IsD at h; obtain ⟨_, rfl, _⟩ := h; rfl
def gIsN2 (neg : Bool) : M → M → Option PyData
  | x, .leaf .none => match gIsN x with
    | some (.bool b) => some (.bool (if neg then !b else b))
    | _ => none
  | _, _ => none
theorem r_isN : R2S K (fun x y H Q => y = .non ∧ Q (.bl (decide (x = .non))) H) (gIsN2 false) := by
  intro F H v x fa v2 x2 f2 d Q s r r2 h q
  unfold gIsN2 at h
  split at h
  · split at h
    · rename_i b hb
      cases h
      refine ⟨isD_none_iff.mp (rep_leaf r2), q _ ?_⟩
      unfold gIsN at hb
      split at hb
      · cases hb; rw [isN_of (rep_leaf r)]; exact isD_bool _
      · cases hb; rename_i d hd; rw [isN_of (rep_leaf r)]; cases d <;> first | exact absurd rfl hd | exact isD_bool _
      · cases hb; cases r; exact isD_bool _
      · cases hb
    · cases h
  · cases h
theorem r_notN : R2S K (fun x y H Q => y = .non ∧ Q (.bl (!decide (x = .non))) H) (gIsN2 true) := by
  intro F H v x fa v2 x2 f2 d Q s r r2 h q
  unfold gIsN2 at h
  split at h
  · split at h
    · rename_i b hb
      cases h
      refine ⟨isD_none_iff.mp (rep_leaf r2), q _ ?_⟩
      unfold gIsN at hb
      split at hb
      · cases hb; rw [isN_of (rep_leaf r)]; exact isD_bool _
      · cases hb; rename_i d hd; rw [isN_of (rep_leaf r)]; cases d <;> first | exact absurd rfl hd | exact isD_bool _
      · cases hb; cases r; exact isD_bool _
      · cases hb
    · cases h
  · cases h
/-! in -/
def flatD : PyData → Bool
  | .none => true
  | .bool _ => true
  | .int _ => true
  | .str _ => true
  | _ => false
theorem flat_of {F : Hp} {d : PyData} {v : V} (h : IsD K F d v) (f : flatD d = true) : flatV v = true := by
  cases d with
  | none => rw [isD_none_iff.mp h]; rfl
  | bool b => rw [isD_bool_iff.mp h]; rfl
  | int b => rw [isD_int_iff.mp h]; rfl
  | str b => rw [isD_str_iff.mp h]; rfl
  | _ => cases f
theorem eqV_of {F G : Hp} {d e : PyData} {v u : V} (h : IsD K F d v) (h2 : IsD K G e u) (f : flatD d = true) (f2 : flatD e = true) : eqV v u = PyData.eqv d e := by
  cases d with
  | none => rw [isD_none_iff.mp h]; cases e with
    | none => rw [isD_none_iff.mp h2]; rfl
    | bool b => rw [isD_bool_iff.mp h2]; rfl
    | int b => rw [isD_int_iff.mp h2]; rfl
    | str b => rw [isD_str_iff.mp h2]; rfl
    | _ => cases f2
  | bool b => rw [isD_bool_iff.mp h]; cases e with
    | none => rw [isD_none_iff.mp h2]; rfl
    | bool b => rw [isD_bool_iff.mp h2]; simp [eqV, PyData.eqv]
    | int b => rw [isD_int_iff.mp h2]; simp [eqV, PyData.eqv]
    | str b => rw [isD_str_iff.mp h2]; rfl
    | _ => cases f2
  | int b => rw [isD_int_iff.mp h]; cases e with
    | none => rw [isD_none_iff.mp h2]; rfl
    | bool b => rw [isD_bool_iff.mp h2]; simp [eqV, PyData.eqv]
    | int b => rw [isD_int_iff.mp h2]; simp [eqV, PyData.eqv]
    | str b => rw [isD_str_iff.mp h2]; rfl
    | _ => cases f2
  | str b => rw [isD_str_iff.mp h]; cases e with
    | none => rw [isD_none_iff.mp h2]; rfl
    | bool b => rw [isD_bool_iff.mp h2]; rfl
    | int b => rw [isD_int_iff.mp h2]; rfl
    | str b => rw [isD_str_iff.mp h2]; simp [eqV, PyData.eqv]
    | _ => cases f2
  | _ => cases f
theorem inV_of {F G : Hp} {d : PyData} {v : V} (h : IsD K G d v) (f : flatD d = true) : ∀ {ds : List PyData} {vs : List V}, IsDs K F ds vs → ds.all flatD = true → vs.all flatV = true ∧ inV v vs = ds.any fun y => PyData.eqv y d
  | [], vs, hs, _ => by unfold IsDs at hs; subst hs; exact ⟨rfl, rfl⟩
  | e :: ds, vs, hs, a => by
    unfold IsDs at hs
    obtain ⟨u, r, rfl, h1, h2⟩ := hs
    rw [List.all_cons, Bool.and_eq_true] at a
    obtain ⟨i1, i2⟩ := inV_of h f h2 a.2
    refine ⟨by rw [List.all_cons, flat_of h1 a.1, i1]; rfl, ?_⟩
    unfold inV at i2 ⊢
    rw [List.any_cons, List.any_cons, i2, eqV_of h1 h a.1 f]
def rIn' (K : Frag) : L2.R2 := fun x y H Q => rIn K false x y H Q ∨ (∃ (c : Nat) (z : Str), x = .str ⟨#[c]⟩ ∧ y = .str z ∧ Q (.bl (decide (c ∈ z.cps.toList))) H)
def rNi' (K : Frag) : L2.R2 := fun x y H Q => rIn K true x y H Q ∨ (∃ (c : Nat) (z : Str), x = .str ⟨#[c]⟩ ∧ y = .str z ∧ Q (.bl (!decide (c ∈ z.cps.toList))) H)
theorem op_in' {X : Cx} : OpR X (compareOp .In) (rIn' X.K) := op_in_seq.or op_in_sign
theorem op_ni' {X : Cx} : OpR X (compareOp .NotIn) (rNi' X.K) := op_notIn_seq.or op_notIn_sign
def inD : M → M → Option Bool
  | .leaf (.str s), .leaf (.str z) => match s.cps.toList with
    | [c] => some (decide (c ∈ z.cps.toList))
    | _ => none
  | .leaf d, y => match y.sv with
    | some ds => if flatD d && ds.all flatD then some (ds.any fun e => PyData.eqv e d) else none
    | none => none
  | _, _ => none
def gIn : M → M → Option PyData := fun x y => (inD x y).map .bool
def gNi : M → M → Option PyData := fun x y => (inD x y).map fun b => .bool (!b)
theorem sign_of {s : Str} {c : Nat} (h : s.cps.toList = [c]) : s = ⟨#[c]⟩ := by
  cases s with | mk a => ?_
  simp only at h
  congr 1
  apply Array.toList_inj.mp
  rw [h]
theorem r_in : R2S K (rIn' K) gIn := by
  intro F H v x fa v2 x2 f2 d Q s r r2 h q
  unfold gIn at h
  rw [Option.map_eq_some_iff] at h
  obtain ⟨b, h, rfl⟩ := h
  unfold inD at h
  split at h
  · split at h
    · rename_i z c hc
      cases h
      exact .inr ⟨c, _, by rw [isD_str_iff.mp (rep_leaf r), sign_of hc], isD_str_iff.mp (rep_leaf r2), q _ (isD_bool _)⟩
    · cases h
  · split at h
    · rename_i ds hds
      split at h
      · rename_i hf
        rw [Bool.and_eq_true] at hf
        cases h
        obtain ⟨a, vs, rfl, h1, h2⟩ := rep_sv s r2 hds
        obtain ⟨i1, i2⟩ := inV_of (rep_leaf r) hf.1 h2 hf.2
        refine .inl ⟨a, vs, rfl, h1, flat_of (rep_leaf r) hf.1, i1, ?_⟩
        rw [if_neg (by simp), i2]
        exact q _ (isD_bool _)
      · cases h
    · cases h
  · cases h
theorem r_ni : R2S K (rNi' K) gNi := by
  intro F H v x fa v2 x2 f2 d Q s r r2 h q
  unfold gNi at h
  rw [Option.map_eq_some_iff] at h
  obtain ⟨b, h, rfl⟩ := h
  unfold inD at h
  split at h
  · split at h
    · rename_i z c hc
      cases h
      exact .inr ⟨c, _, by rw [isD_str_iff.mp (rep_leaf r), sign_of hc], isD_str_iff.mp (rep_leaf r2), q _ (isD_bool _)⟩
    · cases h
  · split at h
    · rename_i ds hds
      split at h
      · rename_i hf
        rw [Bool.and_eq_true] at hf
        cases h
        obtain ⟨a, vs, rfl, h1, h2⟩ := rep_sv s r2 hds
        obtain ⟨i1, i2⟩ := inV_of (rep_leaf r) hf.1 h2 hf.2
        refine .inl ⟨a, vs, rfl, h1, flat_of (rep_leaf r) hf.1, i1, ?_⟩
        rw [if_pos rfl, i2]
        exact q _ (isD_bool _)
      · cases h
    · cases h
  · cases h
/-! all, any, sum, max, min of a list -/
def boolsD : List PyData → Option (List Bool)
  | [] => some []
  | .bool b :: r => (boolsD r).map (b :: ·)
  | _ :: _ => none
def intsD : List PyData → Option (List Int)
  | [] => some []
  | .int b :: r => (intsD r).map (b :: ·)
  | _ :: _ => none
@[simp] theorem bools_map (l : List Bool) : boolsD (l.map .bool) = some l := by induction l with
  | nil => rfl
  | cons a r ih => simp [boolsD, ih]
@[simp] theorem ints_map (l : List Int) : intsD (l.map .int) = some l := by induction l with
  | nil => rfl
  | cons a r ih => simp [intsD, ih]
theorem bools_is {F : Hp} : ∀ {ds : List PyData} {bs : List Bool} {vs : List V}, boolsD ds = some bs → IsDs K F ds vs → vs = bs.map .bl
  | [], bs, vs, h, r => by simp [boolsD] at h; subst h; unfold IsDs at r; subst r; rfl
  | d :: ds, bs, vs, h, r => by
    unfold IsDs at r
    obtain ⟨v, u, rfl, h1, h2⟩ := r
    cases d with
    | bool b =>
      simp only [boolsD, Option.map_eq_some_iff] at h
      obtain ⟨l, h, rfl⟩ := h
      rw [isD_bool_iff.mp h1, bools_is h h2]; rfl
    | _ => simp [boolsD] at h
theorem ints_is {F : Hp} : ∀ {ds : List PyData} {bs : List Int} {vs : List V}, intsD ds = some bs → IsDs K F ds vs → vs = bs.map .int
  | [], bs, vs, h, r => by simp [intsD] at h; subst h; unfold IsDs at r; subst r; rfl
  | d :: ds, bs, vs, h, r => by
    unfold IsDs at r
    obtain ⟨v, u, rfl, h1, h2⟩ := r
    cases d with
    | int b =>
      simp only [intsD, Option.map_eq_some_iff] at h
      obtain ⟨l, h, rfl⟩ := h
      rw [isD_int_iff.mp h1, ints_is h h2]; rfl
    | _ => simp [intsD] at h
def gAll : M → Option PyData := fun x => x.lv.bind fun ds => (boolsD ds).map fun bs => .bool (bs.all id)
def gAny : M → Option PyData := fun x => x.lv.bind fun ds => (boolsD ds).map fun bs => .bool (bs.any id)
def gSum : M → Option PyData := fun x => x.lv.bind fun ds => (intsD ds).map fun ns => .int ns.sum
def maxI : List Int → Int
  | [] => 0
  | [a] => a
  | a :: r => max a (maxI r)
def minI : List Int → Int
  | [] => 0
  | [a] => a
  | a :: r => min a (minI r)
theorem maxI_mem : ∀ {l : List Int}, l ≠ [] → maxI l ∈ l ∧ ∀ y ∈ l, y ≤ maxI l
  | [], h => absurd rfl h
  | [a], _ => by simp [maxI]
  | a :: b :: r, _ => by
    obtain ⟨h1, h2⟩ := maxI_mem (l := b :: r) (by simp)
    have e : maxI (a :: b :: r) = max a (maxI (b :: r)) := rfl
    rw [e]
    refine ⟨?_, fun y hy => ?_⟩
    · rcases Int.le_total a (maxI (b :: r)) with h | h
      · rw [Int.max_eq_right h]; exact List.mem_cons_of_mem _ h1
      · rw [Int.max_eq_left h]; exact List.mem_cons_self
    · rcases List.mem_cons.mp hy with rfl | hy
      · exact Int.le_max_left _ _
      · exact Int.le_trans (h2 y hy) (Int.le_max_right _ _)
theorem minI_mem : ∀ {l : List Int}, l ≠ [] → minI l ∈ l ∧ ∀ y ∈ l, minI l ≤ y
  | [], h => absurd rfl h
  | [a], _ => by simp [minI]
  | a :: b :: r, _ => by
    obtain ⟨h1, h2⟩ := minI_mem (l := b :: r) (by simp)
    have e : minI (a :: b :: r) = min a (minI (b :: r)) := rfl
    rw [e]
    refine ⟨?_, fun y hy => ?_⟩
    · rcases Int.le_total a (minI (b :: r)) with h | h
      · rw [Int.min_eq_left h]; exact List.mem_cons_self
      · rw [Int.min_eq_right h]; exact List.mem_cons_of_mem _ h1
    · rcases List.mem_cons.mp hy with rfl | hy
      · exact Int.min_le_left _ _
      · exact Int.le_trans (Int.min_le_right _ _) (h2 y hy)
def gMax : M → Option PyData := fun x => x.lv.bind fun ds => (intsD ds).bind fun ns => if ns.isEmpty then none else some (.int (maxI ns))
def gMin : M → Option PyData := fun x => x.lv.bind fun ds => (intsD ds).bind fun ns => if ns.isEmpty then none else some (.int (minI ns))
theorem r_all : R1S K (fun v => rAll K [v]) gAll := by
  intro F H v x f d Q s r h q
  unfold gAll at h
  simp only [Option.bind_eq_some_iff, Option.map_eq_some_iff] at h
  obtain ⟨ds, h1, bs, h2, rfl⟩ := h
  obtain ⟨a, vs, rfl, h3, h4⟩ := rep_lv s r h1
  have e := bools_is h2 h4
  subst e
  exact ⟨a, bs, rfl, .of h3, q _ (isD_bool _)⟩
theorem r_any : R1S K (fun v => rAny K [v]) gAny := by
  intro F H v x f d Q s r h q
  unfold gAny at h
  simp only [Option.bind_eq_some_iff, Option.map_eq_some_iff] at h
  obtain ⟨ds, h1, bs, h2, rfl⟩ := h
  obtain ⟨a, vs, rfl, h3, h4⟩ := rep_lv s r h1
  have e := bools_is h2 h4
  subst e
  exact ⟨a, bs, rfl, .of h3, q _ (isD_bool _)⟩
theorem r_sum : R1S K (fun v => rSum K [v]) gSum := by
  intro F H v x f d Q s r h q
  unfold gSum at h
  simp only [Option.bind_eq_some_iff, Option.map_eq_some_iff] at h
  obtain ⟨ds, h1, bs, h2, rfl⟩ := h
  obtain ⟨a, vs, rfl, h3, h4⟩ := rep_lv s r h1
  have e := ints_is h2 h4
  subst e
  exact ⟨a, bs, rfl, .of h3, q _ (isD_int _)⟩
theorem r_max : R1S K (fun v => rMax K [v]) gMax := by
  intro F H v x f d Q s r h q
  unfold gMax at h
  simp only [Option.bind_eq_some_iff] at h
  obtain ⟨ds, h1, bs, h2, h⟩ := h
  split at h
  · cases h
  · rename_i hne
    cases h
    obtain ⟨a, vs, rfl, h3, h4⟩ := rep_lv s r h1
    have e := ints_is h2 h4
    subst e
    have hne' : bs ≠ [] := by intro e; subst e; simp at hne
    refine ⟨a, bs, rfl, .of h3, List.length_pos_iff.mpr hne', fun m hm hle => ?_⟩
    obtain ⟨g1, g2⟩ := maxI_mem hne'
    have : m = maxI bs := Int.le_antisymm (g2 m hm) (hle _ g1)
    rw [this]
    exact q _ (isD_int _)
theorem r_min : R1S K (fun v => rMin K [v]) gMin := by
  intro F H v x f d Q s r h q
  unfold gMin at h
  simp only [Option.bind_eq_some_iff] at h
  obtain ⟨ds, h1, bs, h2, h⟩ := h
  split at h
  · cases h
  · rename_i hne
    cases h
    obtain ⟨a, vs, rfl, h3, h4⟩ := rep_lv s r h1
    have e := ints_is h2 h4
    subst e
    have hne' : bs ≠ [] := by intro e; subst e; simp at hne
    refine ⟨a, bs, rfl, .of h3, List.length_pos_iff.mpr hne', fun m hm hle => ?_⟩
    obtain ⟨g1, g2⟩ := minI_mem hne'
    have : m = minI bs := Int.le_antisymm (hle _ g1) (g2 m hm)
    rw [this]
    exact q _ (isD_int _)
/-! list(..), tuple(..), abs, max and min of two intsD -/
def gList : M → Option M := fun x => x.sv.map fun ds => .lst (ds.map .leaf)
theorem r_list : R1 K (fun v => fun H Q => ∃ p ys, [v] = [.ref p] ∧ (SqL K H p ys ∨ SqT K H p ys) ∧ ∀ l, H l = none → Q (.ref l) (upd H l (.lst ys))) gList := by
  intro F H v x f y Q s r h q
  unfold gList at h
  rw [Option.map_eq_some_iff] at h
  obtain ⟨ds, h, rfl⟩ := h
  obtain ⟨a, vs, rfl, h1, h2⟩ := rep_sv s r h
  refine ⟨a, vs, rfl, h1, fun l hl => ?_⟩
  have hF : F l = none := by
    cases e : F l with
    | none => rfl
    | some u => rw [s l u e] at hl; cases hl
  exact q _ _ _ [l] (Grow.own1 s hl) (.lst upd_same hF (reps_leaves h2) (by simp))
def gTuple : M → Option M := fun x => match x.tv with
  | some ds => some (.leaf (.tuple ds))
  | none => x.lv.map fun ds => .leaf (.tuple ds)
theorem r_tuple : R1 K (fun v => fun H Q => ∃ p ys, [v] = [.ref p] ∧ ((SqL K H p ys ∧ ∀ l, H l = none → Q (.ref l) (upd H l (.tup ys))) ∨ (SqT K H p ys ∧ Q (.ref p) H))) gTuple := by
  intro F H v x f y Q s r h q
  unfold gTuple at h
  split at h
  · rename_i ds hds
    cases h
    obtain ⟨a, vs, rfl, h1, h2⟩ := rep_tv s r hds
    refine ⟨a, vs, rfl, .inr ⟨SqT.of (s _ _ h1), q F H _ [] (.refl s) (.leaf ?_)⟩⟩
    unfold IsD; exact ⟨a, vs, rfl, h1, h2⟩
  · rw [Option.map_eq_some_iff] at h
    obtain ⟨ds, h, rfl⟩ := h
    obtain ⟨a, vs, rfl, h1, h2⟩ := rep_lv s r h
    refine ⟨a, vs, rfl, .inl ⟨.of h1, fun l hl => ?_⟩⟩
    have g := Grow.frz1 (o := .tup vs) s hl
    exact q _ _ _ [] g (.leaf (isD_tup upd_same (h2.mono g.mono)))
theorem r_abs : R1S K (fun v => fun H Q => ∃ i, [v] = [.int i] ∧ Q (.int (if i < 0 then -i else i)) H) gAbs := by
  intro F H v x f d Q s r h q
  unfold gAbs at h
  split at h
  · cases h; exact ⟨_, by rw [isD_int_iff.mp (rep_leaf r)], q _ (isD_int _)⟩
  · cases h
def gMax2 : M → M → Option PyData := gI2 (fun i j => .int (if j > i then j else i)) fun _ _ => true
def gMin2 : M → M → Option PyData := gI2 (fun i j => .int (if j < i then j else i)) fun _ _ => true
theorem r_max2 : R2S K (fun v u => fun H Q => ∃ i j, [v, u] = [.int i, .int j] ∧ Q (.int (if j > i then j else i)) H) gMax2 := by
  intro F H v x fa v2 x2 f2 d Q s r r2 h q
  unfold gMax2 gI2 at h
  split at h
  · rw [if_pos rfl] at h; cases h
    exact ⟨_, _, by rw [isD_int_iff.mp (rep_leaf r), isD_int_iff.mp (rep_leaf r2)], q _ (isD_int _)⟩
  · cases h
theorem r_min2 : R2S K (fun v u => fun H Q => ∃ i j, [v, u] = [.int i, .int j] ∧ Q (.int (if j < i then j else i)) H) gMin2 := by
  intro F H v x fa v2 x2 f2 d Q s r r2 h q
  unfold gMin2 gI2 at h
  split at h
  · rw [if_pos rfl] at h; cases h
    exact ⟨_, _, by rw [isD_int_iff.mp (rep_leaf r), isD_int_iff.mp (rep_leaf r2)], q _ (isD_int _)⟩
  · cases h
def gStr : M → Option PyData
  | .leaf (.int i) => if i.natAbs.log2 < 1920 then some (.str (toString i)) else none
  | _ => none
end
end G
namespace G
open PySem PySem.Spec PyProof.Rows L2

/-! ### lists and tuples alike -/
def SqA (K : Frag) (H : Hp) (t : Bool) (a : Addr) (xs : List V) : Prop := if t = true then SqT K H a xs else SqL K H a xs
def IsIterA (t : Bool) (h : Heap) (it a : Addr) (i : Nat) : Prop := if t = true then h.IsTupleIter it a i else h.IsListIter it a i
def IsSeqA (t : Bool) (h : Heap) (a : Addr) (items : Array Value) : Prop := if t = true then h.IsTuple a items else h.IsList a items
theorem SqA.items {X : Cx} {pins : List (Addr × Obj)} {σ : L2.St} {H : Hp} {s : Shared} {t : Bool} {a : Addr} {xs : List V} (I : Inv X pins σ H s) (q : SqA X.K H t a xs) : ∃ its : List Value, Vals xs its ∧ IsSeqA t s.heap a its.toArray ∧ xs.length ≤ sizeLine := by
  cases t with
  | true =>
    obtain ⟨its, rv, p, hz⟩ := I.tuple (show SqT X.K H a xs from q)
    exact ⟨its, rv, show s.heap.IsTuple a its.toArray from p, hz⟩
  | false =>
    obtain ⟨its, rv, p, hz⟩ := I.list (show SqL X.K H a xs from q)
    exact ⟨its, rv, show s.heap.IsList a its.toArray from p.isList, hz⟩
theorem SqA.inj {X : Cx} {pins : List (Addr × Obj)} {σ : L2.St} {H : Hp} {s : Shared} {t : Bool} {a : Addr} {xs ys : List V} (I : Inv X pins σ H s) (q : SqA X.K H t a xs) (q2 : SqA X.K H t a ys) : xs = ys := by
  cases t with
  | true => exact I.tuple_inj (show SqT X.K H a xs from q) (show SqT X.K H a ys from q2)
  | false => exact I.list_inj (show SqL X.K H a xs from q) (show SqL X.K H a ys from q2)
theorem SqA.mono {K : Frag} {F F' : Hp} {t : Bool} {a : Addr} {xs : List V} (m : Sub F F') (q : SqA K F t a xs) : SqA K F' t a xs := by
  cases t with
  | true => exact G.SqT.mono' m (show SqT K F a xs from q)
  | false => exact G.SqL.mono' m (show SqL K F a xs from q)
theorem SqA.le {K : Frag} {F F' : Hp} {t : Bool} {a : Addr} {xs : List V} (m : Le F F') (q : SqA K F t a xs) : SqA K F' t a xs := by
  cases t with
  | true => exact Or.imp (m.fsub.rd _ _ trivial) id q
  | false => exact Or.imp (m.fsub.rd _ _ trivial) id q
theorem drawsA {prog : Program} {w : World} {A : Around} (hh : A.handled = none) (t : Bool) (it a : Addr) (hne : a ≠ it) (items : Array Value) :
    Draws prog w A it [it, a] items.size (fun i v => items[i]? = some v) (fun i h => IsIterA t h it a i ∧ IsSeqA t h a items) := by
  cases t with
  | true => exact Draws.tuple hh it a hne items
  | false => exact Draws.list hh it a hne items
theorem IsSeqA.lt {t : Bool} {h : Heap} {a : Addr} {items : Array Value} (p : IsSeqA t h a items) : a < h.objs.size := by
  cases t with
  | true => obtain ⟨o, e, _⟩ := (show h.IsTuple a items from p); exact Heap.lt_size e
  | false => obtain ⟨o, e, _⟩ := (show h.IsList a items from p); exact Heap.lt_size e
theorem IsIterA.at {t : Bool} {h h' : Heap} {it a : Addr} {i : Nat} (p : IsIterA t h it a i) (k : ∀ o, h.get? it = some o → h'.get? it = some o) : IsIterA t h' it a i := by
  cases t with
  | true => exact Heap.IsTupleIter.at (show h.IsTupleIter it a i from p) k
  | false => exact Heap.IsListIter.at (show h.IsListIter it a i from p) k
theorem IsIterA.obj {t : Bool} {h : Heap} {it a : Addr} {i : Nat} (p : IsIterA t h it a i) : ∃ o, h.get? it = some o ∧ ∀ v, o.data ≠ .cell v := by
  cases t with
  | true => obtain ⟨o, e, c, d⟩ := (show h.IsTupleIter it a i from p); exact ⟨o, e, fun v z => by rw [d] at z; cases z⟩
  | false => obtain ⟨o, e, c, d⟩ := (show h.IsListIter it a i from p); exact ⟨o, e, fun v z => by rw [d] at z; cases z⟩
def beginObj (t : Bool) (a : Addr) : Obj := if t = true then { cls := .type "tuple_iterator", data := .fields #[.ref a, .int 0 0] } else { cls := .type "list_iterator", data := .fields #[.ref a, .int 0 0] }
theorem beginsA (t : Bool) (a : Addr) (items : Array Value) : Begins (.ref a) (beginObj t a) fun h => IsSeqA t h a items := by
  cases t with
  | true => exact begins_tuple a items
  | false => exact begins_list a items
theorem iter_of_begin {t : Bool} {h : Heap} {it a : Addr} (e : h.get? it = some (beginObj t a)) : IsIterA t h it a 0 := by
  cases t with
  | true => exact ⟨_, e, rfl, rfl⟩
  | false => exact ⟨_, e, rfl, rfl⟩

/-! ### enumerate -/
def IteA (K : Frag) (t : Bool) (a : Addr) : It :=
  ⟨fun i H => ∃ (xs : List V) (x : V), SqA K H t a xs ∧ xs[i]? = some x, fun i H v H' => ∃ T x, v = .ref T ∧ H T = none ∧ H' = upd H T (.tup [.int (i : Nat), x]) ∧ ∀ xs, SqA K H t a xs → xs[i]? = some x, fun i H => ∃ xs : List V, SqA K H t a xs ∧ xs.length = i⟩
theorem turn_enumA {P : Program} {w : World} {K : Frag} {elts : List Expr} {kk : Nat} {tpos : Pos} (t : Bool) (a e it : Addr) :
    Turn P w K (.Tuple elts kk tpos) (IteA K t a) [e, it] e (fun i h => (∃ old, IsEnum h e it (0 + (i : Int)) old) ∧ IsIterA t h it a i ∧ e ≠ it ∧ a ≠ it ∧ e ≠ a) where
  mem := by simp
  obj := fun i h st b hb => by
    obtain ⟨⟨old, he⟩, hi, _⟩ := st
    have e' : b = e ∨ b = it := by simpa using hb
    rcases e' with z | z
    · rw [z]; exact ⟨_, he, fun v q => nomatch q⟩
    · rw [z]; exact hi.obj
  keep := fun i h h' st k => let ⟨⟨old, he⟩, hi, hne⟩ := st; ⟨⟨old, k e (by simp) _ he⟩, hi.at fun o q => k it (by simp) o q, hne⟩
  item := by
    intro X hP hw hK hc i pins s σ H E I hf st hg
    subst hP hw hK
    obtain ⟨he, hi, n1, n2, n3⟩ := st
    obtain ⟨xs, x, hq, hx⟩ := hg
    obtain ⟨its, rv, p, hz⟩ := hq.items I
    obtain ⟨u, hu, ru⟩ := rv.get hx
    have D := drawsA (prog := X.prog) (w := X.w) (A := X.A.in1) (I.ok.hd hc) t it a n2 its.toArray
    have W := GoesN.enumFrom (elts := elts) (x1 := kk) (pos := tpos) 0 D e n1 (by simp [n1, n3]) (by simp)
    have hlt : i < its.toArray.size := by
      have := (List.getElem?_eq_some_iff.mp hu).1
      simpa using this
    refine wpAny_mono (W.goes i s (fun v s2 => ∃ y H', Inv X pins σ H' s2 ∧ RelV y v ∧ (IteA X.K t a).yld i H y H' ∧ ((∃ old, IsEnum s2.heap e it (0 + ((i + 1 : Nat) : Int)) old) ∧ IsIterA t s2.heap it a (i + 1) ∧ e ≠ it ∧ a ≠ it ∧ e ≠ a) ∧ ∀ b ∈ [e, it], H' b = none) E hlt ⟨he, hi, p⟩ fun v h' tk hY st' hk _ => ?_) (fun r s1 ⟨v, hr, h⟩ => ⟨v, hr, h⟩) fun _ _ h => h
    obtain ⟨T, tt, y, ev, hT, hy, hTup⟩ := hY
    subst ev
    have hyu : y = u := by
      have : its.toArray[i]? = some u := by simpa using hu
      rw [this] at hy; exact (Option.some.inj hy).symm
    subst hyu
    obtain ⟨oT, hoT, hcT, nT, hdT⟩ := hTup
    have new : ObjOk X.prog X.w (upd H T (.tup [.int (i : Nat), x])) h' T (.tup [.int (i : Nat), x]) :=
      ⟨by show 2 ≤ sizeLine; decide, [.int (0 + (i : Int)) tt, y], .cons ⟨tt, by rw [Int.zero_add]⟩ (.cons ru .nil), ⟨oT, hoT, hcT, nT, hdT⟩⟩
    have I1 : Inv X pins σ (upd H T (.tup [.int (i : Nat), x])) { s with heap := h', toks := tk } := I.turnedNew (t' := tk) (ch := [e, it]) hk hf hT new
    refine ⟨.ref T, _, I1, rfl, ⟨T, x, rfl, I.hok.fresh hT, rfl, fun ys hy => by rw [hy.inj I hq]; exact hx⟩, ⟨st'.1, st'.2.1, n1, n2, n3⟩, fun b hb => ?_⟩
    have hb' : b < s.heap.objs.size := by
      have e' : b = e ∨ b = it := by simpa using hb
      rcases e' with z | z
      · rw [z]; obtain ⟨old, he⟩ := he; exact Heap.lt_size he
      · rw [z]; obtain ⟨o, q, _⟩ := hi.obj; exact Heap.lt_size q
    rw [upd_ne (Nat.ne_of_lt (Nat.lt_of_lt_of_le hb' hT))]
    exact (hf b hb).1
  done := by
    intro X hP hw hK hc i pins s σ H E I hf st hg
    subst hP hw hK
    obtain ⟨he, hi, n1, n2, n3⟩ := st
    obtain ⟨xs, hq, hx⟩ := hg
    obtain ⟨its, rv, p, hz⟩ := hq.items I
    have hl := rv.length
    -- the end: behind the last item
    have D := drawsA (prog := X.prog) (w := X.w) (A := X.A.in1) (I.ok.hd hc) t it a n2 its.toArray
    have W := GoesN.enumFrom (elts := elts) (x1 := kk) (pos := tpos) 0 D e n1 (by simp [n1, n3]) (by simp)
    have hn : its.toArray.size = i := by simp; omega
    rw [hn] at W
    refine wpAny_mono (W.stops s (fun s1 => Inv X pins σ H s1) E ⟨he, hi, p⟩ fun h' tk hk _ => ?_) (fun r s1 h => h) fun _ _ h => h
    exact I.turnedL (t' := tk) (ch := [e, it]) hk hf
  self := fun A i s Q E st h => let ⟨⟨_, he⟩, _⟩ := st; wpAny_pyIter_enum he h

set_option maxHeartbeats 1000000 in
theorem meets_enumerate_newB1 {v : Value} {o : Obj} {H : Heap → Prop} (B : Begins v o H) :
    Meets (Builtin.«enumerate.__new__» ⟨[.type "enumerate", v], []⟩) (fun _ R s => H s.heap ∧
      R (.ok (.ret (.ref (s.heap.push o).objs.size))) { s with heap := (s.heap.push o).push { cls := .type "enumerate", data := .fields #[.none, .bool false, .ref s.heap.objs.size, rawInt 0, .none, .none] } }) :=
  .of_wp fun prog w A R s h => by
    obtain ⟨hp, g, d, tk, os⟩ := s; obtain ⟨h1, h⟩ := h
    have hsub := sub_enumerate
    have q1 : ∀ {A' : Around} {E : Value → Shared → Prop} {Q : Value → Shared → Prop}, Q (.ref hp.objs.size) ⟨hp.push o, g, d, tk, os⟩ → wpAny (model prog w) A' (pyIter v) Q E ⟨hp, g, d, tk, os⟩ :=
      fun q => B.iter prog w _ _ ⟨hp, g, d, tk, os⟩ _ h1 q
    wp_walk using q1
    refine wpAny_stack_any fun st => wpAny_pure ?_
    split
    · rename_i c _ _ _ _ _
      cases (c == Value.type "enumerate")
      · wp_walk using q1
        exact ⟨_, rfl, h⟩
      · wp_walk using q1
        exact ⟨_, rfl, h⟩
    · wp_walk using q1
      exact ⟨_, rfl, h⟩
theorem enum_begins1 {prog : Program} {w : World} {A : Around} {E : Value → Shared → Prop} {s : Shared} {v : Value} {o : Obj} {H : Heap → Prop} {Q : Value → Shared → Prop} (B : Begins v o H) (h1 : H s.heap)
    (h : ∀ h', IsEnum h' (s.heap.objs.size + 1) s.heap.objs.size 0 .none → h'.get? s.heap.objs.size = some o → h'.objs.size = s.heap.objs.size + 2 →
      (∀ b o, s.heap.get? b = some o → h'.get? b = some o) → Q (.ref (s.heap.objs.size + 1)) { s with heap := h' }) :
    wpAny (model prog w) A (call (.type "enumerate") [v]) Q E s := by
  refine callType_new F.called_enumerate (by decide) (F.typeCall_enumerate_1 _) (F.newCall_enumerate_1 _) (fun obj => F.args_object_init_2 obj _) F.entry_enumerate_new
    (meets_enumerate_newB1 B) ⟨h1, ?_⟩
  have hz : (s.heap.push o).objs.size = s.heap.objs.size + 1 := Heap.size_push ..
  show _ ∧ _
  rw [hz]
  have he : IsEnum ((s.heap.push o).push { cls := .type "enumerate", data := .fields #[.none, .bool false, .ref s.heap.objs.size, rawInt 0, .none, .none] }) (s.heap.objs.size + 1) s.heap.objs.size 0 .none := by
    have := Heap.get?_push_size (s.heap.push o) (o := { cls := .type "enumerate", data := .fields #[.none, .bool false, .ref s.heap.objs.size, rawInt 0, .none, .none] }) rfl
    rw [hz] at this; exact this
  refine ⟨⟨_, he, rfl⟩, h _ he (Heap.get?_push_of_some _ (Heap.get?_push_size _ B.free)) (by rw [Heap.size_push, hz]) fun b o x => Heap.get?_push_of_some _ (Heap.get?_push_of_some _ x)⟩
def iEnumA (K : Frag) (ta : TA) : TI := fun σ H R => ta σ H fun vs H1 => ∃ t a xs, vs = [.ref a] ∧ SqA K H1 t a xs ∧ R (IteA K t a) H1
theorem pi_enumA {X : Cx} {e : Expr} {ta : TA} {p pos tpos : Pos} {elts : List Expr} {kk : Nat} (hg : Gl X "enumerate") (hm : X.mg "enumerate" = none) (ha : PA X [e] ta) (hs : starEach [e] X.env = [(false, eval e X.env)] := by rfl) :
    PI X (.Tuple elts kk tpos) (.Call (.Name "enumerate" p) [e] [] pos) (iEnumA X.K ta) := by
  refine ⟨fun pins s σ H R I h => ?_⟩
  refine Call_ (ld_blt I hg hm boot_enumerate (PyProof.Rows.callWith_type1 (thn (ha.run pos pins s σ H _ I h) fun us s1 ⟨vs, H1, I1, r1, q1⟩ => ?_) hs rfl))
  obtain ⟨t, a, xs, rfl, hq, q⟩ := q1
  cases r1 with
  | cons r rr =>
    cases rr
    cases r
    obtain ⟨its, rv, p', hz⟩ := hq.items I1
    refine enum_begins1 (beginsA t a its.toArray) p' fun h' he hit hsz hk => wpAny_pyIter_enum he ?_
    have I2 : Inv X pins σ H1 { s1 with heap := h' } := I1.kept (t' := s1.toks) hk
    have la := p'.lt
    refine ⟨s1.heap.objs.size + 1, [s1.heap.objs.size + 1, s1.heap.objs.size], _, _, H1, rfl, I2, turn_enumA t a (s1.heap.objs.size + 1) s1.heap.objs.size, ⟨⟨.none, he⟩, iter_of_begin hit, Nat.succ_ne_self _, Nat.ne_of_lt la, Nat.ne_of_gt (Nat.lt_succ_of_lt la)⟩, fun b hb => ?_, q⟩
    have e' : b = s1.heap.objs.size + 1 ∨ b = s1.heap.objs.size := by simpa using hb
    have hle : s1.heap.objs.size ≤ b := by
      rcases e' with z | z
      · rw [z]; exact Nat.le_add_right _ _
      · rw [z]; exact Nat.le_refl _
    exact I1.fpOk hle (I1.hok.fresh hle)

/-! ### zip of two -/
def ItzA (K : Frag) (t1 t2 : Bool) (a b : Addr) : It :=
  ⟨fun i H => ∃ (xs ys : List V) (x y : V), SqA K H t1 a xs ∧ SqA K H t2 b ys ∧ xs[i]? = some x ∧ ys[i]? = some y,
    fun i H v H' => ∃ T x y, v = .ref T ∧ H T = none ∧ H' = upd H T (.tup [x, y]) ∧ (∀ xs, SqA K H t1 a xs → xs[i]? = some x) ∧ ∀ ys, SqA K H t2 b ys → ys[i]? = some y,
    fun i H => ∃ xs ys : List V, SqA K H t1 a xs ∧ SqA K H t2 b ys ∧ min xs.length ys.length = i⟩
theorem turn_zipA {P : Program} {w : World} {K : Frag} {elts : List Expr} {kk : Nat} {tpos : Pos} (t1 t2 : Bool) {a b z TI TO i1 i2 : Addr} (D : ZipSep2 z TI TO i1 i2 [i1, a] [i2, b]) (n1 : a ≠ i1) (n2 : b ≠ i2) :
    Turn P w K (.Tuple elts kk tpos) (ItzA K t1 t2 a b) [z, TI, TO, i1, i2] z (fun i h => IsZip h z TI TO .none ∧ IsTupOf2 h TI (.ref i1) (.ref i2) ∧ (∃ x y, IsTupOf2 h TO x y) ∧ IsIterA t1 h i1 a i ∧ IsIterA t2 h i2 b i) where
  mem := by simp
  obj := fun i h st c hc => by
    obtain ⟨hz, hTI, ⟨x, y, hTO⟩, h1, h2⟩ := st
    have e' : c = z ∨ c = TI ∨ c = TO ∨ c = i1 ∨ c = i2 := by simpa using hc
    rcases e' with q | q | q | q | q
    · rw [q]; exact ⟨_, hz, fun v q => nomatch q⟩
    · rw [q]; exact ⟨_, hTI, fun v q => nomatch q⟩
    · rw [q]; exact ⟨_, hTO, fun v q => nomatch q⟩
    · rw [q]; exact h1.obj
    · rw [q]; exact h2.obj
  keep := fun i h h' st k => by
    obtain ⟨hz, hTI, ⟨x, y, hTO⟩, h1, h2⟩ := st
    exact ⟨k z (by simp) _ hz, k TI (by simp) _ hTI, ⟨x, y, k TO (by simp) _ hTO⟩, h1.at fun o q => k i1 (by simp) o q, h2.at fun o q => k i2 (by simp) o q⟩
  item := by
    intro X hP hw hK hc i pins s σ H E I hf st hg
    subst hP hw hK
    obtain ⟨hz, hTI, hTO, h1, h2⟩ := st
    obtain ⟨xs, ys, x, y, hqx, hqy, hx, hy⟩ := hg
    obtain ⟨its, rv, p, _⟩ := hqx.items I
    obtain ⟨its2, rv2, p2, _⟩ := hqy.items I
    obtain ⟨u, hu, ru⟩ := rv.get hx
    obtain ⟨u2, hu2, ru2⟩ := rv2.get hy
    have D1 := drawsA (prog := X.prog) (w := X.w) (A := X.A.in1) (I.ok.hd hc) t1 i1 a n1 its.toArray
    have D2 := drawsA (prog := X.prog) (w := X.w) (A := X.A.in1) (I.ok.hd hc) t2 i2 b n2 its2.toArray
    have W := GoesN.zip2 (elts := elts) (x1 := kk) (pos := tpos) D D1 D2
    have hlt : i < min its.toArray.size its2.toArray.size := by
      have l1 := (List.getElem?_eq_some_iff.mp hu).1
      have l2 := (List.getElem?_eq_some_iff.mp hu2).1
      simp; omega
    refine wpAny_mono (W.goes i s (fun v s2 => ∃ y H', Inv X pins σ H' s2 ∧ RelV y v ∧ (ItzA X.K t1 t2 a b).yld i H y H' ∧ (IsZip s2.heap z TI TO .none ∧ IsTupOf2 s2.heap TI (.ref i1) (.ref i2) ∧ (∃ x y, IsTupOf2 s2.heap TO x y) ∧ IsIterA t1 s2.heap i1 a (i + 1) ∧ IsIterA t2 s2.heap i2 b (i + 1)) ∧ ∀ b ∈ [z, TI, TO, i1, i2], H' b = none) E hlt ⟨hz, hTI, hTO, ⟨h1, p⟩, ⟨h2, p2⟩⟩ fun v h' tk hY st' hk _ => ?_) (fun r s1 ⟨v, hr, h⟩ => ⟨v, hr, h⟩) fun _ _ h => h
    obtain ⟨T, v1, v2, ev, hT, hy1, hy2, hTup⟩ := hY
    subst ev
    have e1 : v1 = u := by
      have : its.toArray[i]? = some u := by simpa using hu
      rw [this] at hy1; exact (Option.some.inj hy1).symm
    have e2 : v2 = u2 := by
      have : its2.toArray[i]? = some u2 := by simpa using hu2
      rw [this] at hy2; exact (Option.some.inj hy2).symm
    subst e1 e2
    obtain ⟨oT, hoT, hcT, nT, hdT⟩ := hTup
    have new : ObjOk X.prog X.w (upd H T (.tup [x, y])) h' T (.tup [x, y]) :=
      ⟨by show 2 ≤ sizeLine; decide, [v1, v2], .cons ru (.cons ru2 .nil), ⟨oT, hoT, hcT, nT, hdT⟩⟩
    have hf' : ∀ b ∈ [z, TO, i1, i2], FpOk X pins H b := fun b hb => hf b (by
      have : b = z ∨ b = TO ∨ b = i1 ∨ b = i2 := by simpa using hb
      rcases this with q | q | q | q <;> simp [q])
    have I1 : Inv X pins σ (upd H T (.tup [x, y])) { s with heap := h', toks := tk } := I.turnedNew (t' := tk) (ch := [z, TO, i1, i2]) hk hf' hT new
    refine ⟨.ref T, _, I1, rfl, ⟨T, x, y, rfl, I.hok.fresh hT, rfl, fun ys hy => by rw [hy.inj I hqx]; exact hx, fun l hl => by rw [hl.inj I hqy]; exact hy⟩, ⟨st'.1, st'.2.1, st'.2.2.1, st'.2.2.2.1.1, st'.2.2.2.2.1⟩, fun c hcm => ?_⟩
    have hlt : c < s.heap.objs.size := by
      have e' : c = z ∨ c = TI ∨ c = TO ∨ c = i1 ∨ c = i2 := by simpa using hcm
      rcases e' with q | q | q | q | q
      · rw [q]; exact Heap.lt_size hz
      · rw [q]; exact Heap.lt_size hTI
      · rw [q]; obtain ⟨_, _, e⟩ := hTO; exact Heap.lt_size e
      · rw [q]; obtain ⟨_, e, _⟩ := h1.obj; exact Heap.lt_size e
      · rw [q]; obtain ⟨_, e, _⟩ := h2.obj; exact Heap.lt_size e
    rw [upd_ne (Nat.ne_of_lt (Nat.lt_of_lt_of_le hlt hT))]
    exact (hf c hcm).1
  done := by
    intro X hP hw hK hc i pins s σ H E I hf st hg
    subst hP hw hK
    obtain ⟨hz, hTI, hTO, h1, h2⟩ := st
    obtain ⟨xs, ys, hqx, hqy, hend⟩ := hg
    obtain ⟨its, rv, p, _⟩ := hqx.items I
    obtain ⟨its2, rv2, p2, _⟩ := hqy.items I
    have l1 := rv.length
    have l2 := rv2.length
    have D1 := drawsA (prog := X.prog) (w := X.w) (A := X.A.in1) (I.ok.hd hc) t1 i1 a n1 its.toArray
    have D2 := drawsA (prog := X.prog) (w := X.w) (A := X.A.in1) (I.ok.hd hc) t2 i2 b n2 its2.toArray
    have W := GoesN.zip2 (elts := elts) (x1 := kk) (pos := tpos) D D1 D2
    have hn : min its.toArray.size its2.toArray.size = i := by simp; omega
    rw [hn] at W
    have hf' : ∀ b ∈ [z, TO, i1, i2], FpOk X pins H b := fun b hb => hf b (by
      have : b = z ∨ b = TO ∨ b = i1 ∨ b = i2 := by simpa using hb
      rcases this with q | q | q | q <;> simp [q])
    refine wpAny_mono (W.stops s (fun s1 => Inv X pins σ H s1) E ⟨hz, hTI, hTO, ⟨h1, p⟩, ⟨h2, p2⟩⟩ fun h' tk hk _ => ?_) (fun r s1 h => h) fun _ _ h => h
    exact I.turnedL (t' := tk) (ch := [z, TO, i1, i2]) hk hf'
  self := fun A i s Q E st h => wpAny_pyIter_zip st.1 h
def iZipAny (K : Frag) (ta : TA) : TI := fun σ H R => ta σ H fun vs H1 => ∃ t1 t2 a b xs ys, vs = [.ref a, .ref b] ∧ SqA K H1 t1 a xs ∧ SqA K H1 t2 b ys ∧ R (ItzA K t1 t2 a b) H1
theorem pi_zipAny {X : Cx} {e e2 : Expr} {ta : TA} {p pos tpos : Pos} {elts : List Expr} {kk : Nat} (hg : Gl X "zip") (hm : X.mg "zip" = none) (ha : PA X [e, e2] ta)
    (hs : starEach [e, e2] X.env = (false, eval e X.env) :: starEach [e2] X.env := by rfl) (hpl : (backTo pos (starEach [e2] X.env)).any (·.1) = false := by rfl) :
    PI X (.Tuple elts kk tpos) (.Call (.Name "zip" p) [e, e2] [] pos) (iZipAny X.K ta) := by
  refine ⟨fun pins s σ H R I h => ?_⟩
  refine Call_ (ld_blt I hg hm PyProof.Rows.boot_zip (PyProof.Rows.callWith_type1 (thn (ha.run pos pins s σ H _ I h) fun us s1 ⟨vs, H1, I1, r1, q1⟩ => ?_) hs hpl))
  obtain ⟨t1, t2, a, b, xs, ys, ex, hqx, hqy, q⟩ := q1
  subst ex
  cases r1 with
  | cons r rr =>
    cases rr with
    | cons r' rr =>
      cases rr
      cases r
      cases r'
      obtain ⟨its, rv, p1, _⟩ := hqx.items I1
      obtain ⟨its2, rv2, p2, _⟩ := hqy.items I1
      have la := p1.lt
      have lb := p2.lt
      refine zip_begins2 (beginsA t1 a its.toArray) (beginsA t2 b its2.toArray) p1 p2 fun h' hz hTI hTO h1 h2 hsz hk => wpAny_pyIter_zip hz ?_
      have I2 : Inv X pins σ H1 { s1 with heap := h' } := I1.kept (t' := s1.toks) hk
      have S := zip_sep2 (N := s1.heap.objs.size) (fp1 := [a]) (fp2 := [b]) (by simpa using la) (by simpa using lb)
      refine ⟨s1.heap.objs.size + 4, [s1.heap.objs.size + 4, s1.heap.objs.size + 2, s1.heap.objs.size + 3, s1.heap.objs.size, s1.heap.objs.size + 1], _, _, H1, rfl, I2, turn_zipA t1 t2 S (Nat.ne_of_lt la) (Nat.ne_of_lt (Nat.lt_succ_of_lt lb)), ⟨hz, hTI, ⟨_, _, hTO⟩, iter_of_begin h1, iter_of_begin h2⟩, fun c hcm => ?_, q⟩
      have e' : c = s1.heap.objs.size + 4 ∨ c = s1.heap.objs.size + 2 ∨ c = s1.heap.objs.size + 3 ∨ c = s1.heap.objs.size ∨ c = s1.heap.objs.size + 1 := by simpa using hcm
      have hle : s1.heap.objs.size ≤ c := by
        rcases e' with z | z | z | z | z
        · rw [z]; exact Nat.le_add_right _ _
        · rw [z]; exact Nat.le_add_right _ _
        · rw [z]; exact Nat.le_add_right _ _
        · rw [z]; exact Nat.le_refl _
        · rw [z]; exact Nat.le_add_right _ _
      exact I1.fpOk hle (I1.hok.fresh hle)

/-! ### a list, a tuple walked -/
def ItA (K : Frag) (t : Bool) (a : Addr) : It := if t = true then Itt K a else Itl K a
def iSeqA (K : Frag) (te : TE) : TI := fun σ H R => te σ H fun x H1 => ∃ t a xs, x = .ref a ∧ SqA K H1 t a xs ∧ R (ItA K t a) H1
theorem pi_seqA {X : Cx} {tg l : Expr} {tl : TE} (hl : PE X l tl) : PI X tg l (iSeqA X.K tl) := by
  refine ⟨fun pins s σ H R I h => ?_⟩
  refine thn (hl.run pins s σ H _ I h) fun v s1 ⟨x, H1, I1, r1, q1⟩ => ?_
  obtain ⟨t, a, xs, e, hq, q⟩ := q1
  subst e
  cases r1
  have fin : ∀ {h' : Heap} {it : Addr}, it = s1.heap.objs.size → ∀ b ∈ [it], FpOk X pins H1 b := fun {h' it} hit b hb => by
    have e : b = s1.heap.objs.size := by rw [← hit]; simpa using hb
    subst e
    exact I1.fpOk (Nat.le_refl _) (I1.hok.fresh (Nat.le_refl _))
  cases t with
  | true =>
    obtain ⟨its, rv, p, hz⟩ := I1.tuple (show SqT X.K H1 a xs from hq)
    refine wpAny_pyIter_tuple (show s1.heap.IsTuple a its.toArray from p) ?_
    exact ⟨s1.heap.objs.size, [s1.heap.objs.size], _, _, H1, rfl, I1.kept (t' := s1.toks) fun b o e => Heap.get?_push_of_some _ e, turn_tuple a _, ⟨_, Heap.get?_push_size _ rfl, rfl, rfl⟩, fin (h' := s1.heap) rfl, q⟩
  | false =>
    obtain ⟨its, rv, p, hz⟩ := I1.list (show SqL X.K H1 a xs from hq)
    refine wpAny_pyIter_list p.isList ?_
    exact ⟨s1.heap.objs.size, [s1.heap.objs.size], _, _, H1, rfl, I1.kept (t' := s1.toks) fun b o e => Heap.get?_push_of_some _ e, turn_list a _, ⟨_, Heap.get?_push_size _ rfl, rfl, rfl⟩, fin (h' := s1.heap) rfl, q⟩
end G
namespace G
open PySem PySem.Spec PyProof.Rows L2

/-! ### walks over data -/
section
variable {K : Frag} {F : Hp}
theorem walkD_seq {t : Bool} {a : Addr} {vs : List V} {ds : List PyData} (q : SqA K F t a vs) (h : IsDs K F ds vs) : WalkD K F (ItA K t a) ds := by
  have hl := h.length
  have q1 : ∀ {F1 H1 : Hp}, Le F F1 → Sub F1 H1 → SqA K H1 t a vs := fun m s => (q.le m).mono s
  refine ⟨fun i F1 H1 hi m s => ?_, fun i d F1 H1 x H2 hd m s y => ?_, fun F1 H1 m s => ?_⟩
  · have z := q1 m s
    have : vs[i]? = some (vs[i]'(by omega)) := List.getElem?_eq_getElem (by omega)
    cases t with
    | true => exact ⟨vs, _, z, this⟩
    | false => exact ⟨vs, _, z, this⟩
  · have z := q1 m s
    obtain ⟨v, hv, r⟩ := h.get hd
    have key : H2 = H1 ∧ vs[i]? = some x := by
      cases t with
      | true => exact ⟨y.1, y.2 vs z⟩
      | false => exact ⟨y.1, y.2 vs z⟩
    obtain ⟨rfl, e⟩ := key
    rw [hv] at e; cases e
    exact ⟨F1, .refl s, IsD.rd m.fsub _ _ r⟩
  · have z := q1 m s
    cases t with
    | true => exact ⟨vs, z, by omega⟩
    | false => exact ⟨vs, z, by omega⟩
def enumD : Nat → List PyData → List PyData
  | _, [] => []
  | i, d :: ds => .tuple [.int i, d] :: enumD (i + 1) ds
theorem enumD_len : ∀ (ds : List PyData) (i : Nat), (enumD i ds).length = ds.length
  | [], _ => rfl
  | d :: ds, i => by simp [enumD, enumD_len ds]
theorem enumD_get : ∀ (ds : List PyData) (i j : Nat), (enumD i ds)[j]? = (ds[j]?).map fun d => .tuple [.int ((i + j : Nat) : Int), d]
  | [], _, j => by simp [enumD]
  | d :: ds, i, 0 => by simp [enumD]
  | d :: ds, i, j + 1 => by
    simp only [enumD, List.getElem?_cons_succ]
    rw [enumD_get ds (i + 1) j, show i + 1 + j = i + (j + 1) by omega]
theorem walkD_enum {t : Bool} {a : Addr} {vs : List V} {ds : List PyData} (q : SqA K F t a vs) (h : IsDs K F ds vs) : WalkD K F (IteA K t a) (enumD 0 ds) := by
  have hl := h.length
  have q1 : ∀ {F1 H1 : Hp}, Le F F1 → Sub F1 H1 → SqA K H1 t a vs := fun m s => (q.le m).mono s
  refine ⟨fun i F1 H1 hi m s => ?_, fun i d F1 H1 x H2 hd m s y => ?_, fun F1 H1 m s => ?_⟩
  · rw [enumD_len] at hi
    exact ⟨vs, _, q1 m s, List.getElem?_eq_getElem (by omega)⟩
  · rw [enumD_get, Option.map_eq_some_iff] at hd
    obtain ⟨d', hd', rfl⟩ := hd
    obtain ⟨v, hv, r⟩ := h.get hd'
    obtain ⟨T, u, rfl, hT, rfl, e⟩ := y
    have e := e vs (q1 m s)
    rw [hv] at e; cases e
    have g := Grow.frz1 (o := .tup [.int (i : Nat), v]) s hT
    refine ⟨_, g, isD_tup upd_same ?_⟩
    rw [Nat.zero_add]
    exact .cons (isD_int _) (.cons ((IsD.rd m.fsub _ _ r).mono g.mono) .nil)
  · rw [enumD_len]
    exact ⟨vs, q1 m s, hl⟩
def zipD : List PyData → List PyData → List PyData
  | a :: as, b :: bs => .tuple [a, b] :: zipD as bs
  | _, _ => []
theorem zipD_len : ∀ (a b : List PyData), (zipD a b).length = min a.length b.length
  | [], _ => by simp [zipD]
  | _ :: _, [] => by simp [zipD]
  | a :: as, b :: bs => by simp [zipD, zipD_len as bs]
theorem zipD_get : ∀ (a b : List PyData) (j : Nat) (d : PyData), (zipD a b)[j]? = some d → ∃ x y, a[j]? = some x ∧ b[j]? = some y ∧ d = .tuple [x, y]
  | [], _, j, d, h => by simp [zipD] at h
  | _ :: _, [], j, d, h => by simp [zipD] at h
  | a :: as, b :: bs, 0, d, h => by simp [zipD] at h; exact ⟨a, b, rfl, rfl, h.symm⟩
  | a :: as, b :: bs, j + 1, d, h => by
    simp only [zipD, List.getElem?_cons_succ] at h
    simpa using zipD_get as bs j d h
theorem walkD_zip {t1 t2 : Bool} {a b : Addr} {vs us : List V} {ds es : List PyData} (q : SqA K F t1 a vs) (h : IsDs K F ds vs) (q' : SqA K F t2 b us) (h' : IsDs K F es us) : WalkD K F (ItzA K t1 t2 a b) (zipD ds es) := by
  have hl := h.length
  have hl' := h'.length
  have q1 : ∀ {F1 H1 : Hp}, Le F F1 → Sub F1 H1 → SqA K H1 t1 a vs := fun m s => (q.le m).mono s
  have q2 : ∀ {F1 H1 : Hp}, Le F F1 → Sub F1 H1 → SqA K H1 t2 b us := fun m s => (q'.le m).mono s
  refine ⟨fun i F1 H1 hi m s => ?_, fun i d F1 H1 x H2 hd m s y => ?_, fun F1 H1 m s => ?_⟩
  · rw [zipD_len] at hi
    exact ⟨vs, us, _, _, q1 m s, q2 m s, List.getElem?_eq_getElem (by omega), List.getElem?_eq_getElem (by omega)⟩
  · obtain ⟨d1, d2, h1, h2, rfl⟩ := zipD_get _ _ _ _ hd
    obtain ⟨v, hv, r⟩ := h.get h1
    obtain ⟨u, hu, r'⟩ := h'.get h2
    obtain ⟨T, x1, x2, rfl, hT, rfl, e1, e2⟩ := y
    have e1 := e1 vs (q1 m s)
    have e2 := e2 us (q2 m s)
    rw [hv] at e1; cases e1
    rw [hu] at e2; cases e2
    have g := Grow.frz1 (o := .tup [v, u]) s hT
    exact ⟨_, g, isD_tup upd_same (.cons ((IsD.rd m.fsub _ _ r).mono g.mono) (.cons ((IsD.rd m.fsub _ _ r').mono g.mono) .nil))⟩
  · rw [zipD_len]
    exact ⟨vs, us, q1 m s, q2 m s, by omega⟩
def rangeD (lo : Int) (c : Int) (n : Nat) : List PyData := (List.range n).map fun i => .int (lo + (i : Nat) * c)
theorem walkD_range {lo : Int} {n : Nat} : WalkD K F (Itr lo n) (rangeD lo 1 n) := by
  refine ⟨fun i F1 H1 hi m s => by show i < n; simpa [rangeD] using hi, fun i d F1 H1 x H2 hd m s y => ?_, fun F1 H1 m s => ?_⟩
  · obtain ⟨rfl, rfl⟩ := y
    simp only [rangeD, List.getElem?_map, Option.map_eq_some_iff] at hd
    obtain ⟨j, hj, rfl⟩ := hd
    have : j = i := by
      obtain ⟨h1, h2⟩ := List.getElem?_eq_some_iff.mp hj
      simpa using h2.symm
    subst this
    exact ⟨F1, .refl s, by rw [Int.mul_one]; exact isD_int _⟩
  · show n ≤ (rangeD lo 1 n).length
    simp [rangeD]
theorem walkD_rangeC {lo c : Int} {n : Nat} : WalkD K F (Itc lo c n) (rangeD lo c n) := by
  refine ⟨fun i F1 H1 hi m s => by show i < n; simpa [rangeD] using hi, fun i d F1 H1 x H2 hd m s y => ?_, fun F1 H1 m s => ?_⟩
  · obtain ⟨rfl, rfl⟩ := y
    simp only [rangeD, List.getElem?_map, Option.map_eq_some_iff] at hd
    obtain ⟨j, hj, rfl⟩ := hd
    have : j = i := by
      obtain ⟨h1, h2⟩ := List.getElem?_eq_some_iff.mp hj
      simpa using h2.symm
    subst this
    exact ⟨F1, .refl s, isD_int _⟩
  · show n ≤ (rangeD lo c n).length
    simp [rangeD]
def signsD (z : Str) : List PyData := z.cps.toList.map fun c => .str ⟨#[c]⟩
theorem walkD_str {z : Str} : WalkD K F (Its z) (signsD z) := by
  refine ⟨fun i F1 H1 hi m s => by show i < z.cps.size; simpa [signsD] using hi, fun i d F1 H1 x H2 hd m s y => ?_, fun F1 H1 m s => ?_⟩
  · obtain ⟨rfl, c, hc, rfl⟩ := y
    simp only [signsD, List.getElem?_map, Option.map_eq_some_iff] at hd
    obtain ⟨c', hc', rfl⟩ := hd
    have : c' = c := by
      have h : z.cps.toList[i]? = some c := by simpa using hc
      rw [h] at hc'; exact (Option.some.inj hc').symm
    subst this
    exact ⟨F1, .refl s, isD_str _⟩
  · show z.cps.size ≤ (signsD z).length
    simp [signsD]
end
/-- the items of a list or tuple -/
def itemsD : PyData → Option (List PyData)
  | .list ds => some ds
  | .tuple ds => some ds
  | _ => none
theorem itemsD_sq {K : Frag} {F : Hp} {d : PyData} {v : V} {ds : List PyData} (h : IsD K F d v) (e : itemsD d = some ds) : ∃ t a vs, v = .ref a ∧ SqA K F t a vs ∧ IsDs K F ds vs := by
  cases d with
  | list l => cases e; unfold IsD at h; obtain ⟨a, vs, rfl, h1, h2⟩ := h; exact ⟨false, a, vs, rfl, SqL.of h1, h2⟩
  | tuple l => cases e; unfold IsD at h; obtain ⟨a, vs, rfl, h1, h2⟩ := h; exact ⟨true, a, vs, rfl, SqT.of h1, h2⟩
  | _ => cases e
def mIt (m : Env' → R M) : Env' → R (List PyData) := fun ρ => (m ρ).bind fun x ρ1 => match x.frz.bind itemsD with
  | some ds => .ok ds ρ1
  | none => .bad
def mItE (m : Env' → R M) : Env' → R (List PyData) := fun ρ => (m ρ).bind fun x ρ1 => match x.frz.bind itemsD with
  | some ds => .ok (enumD 0 ds) ρ1
  | none => .bad
def mItZ (ms : Env' → R (List PyData)) : Env' → R (List PyData) := fun ρ => (ms ρ).bind fun l ρ1 => match l with
  | [x, y] => match itemsD x, itemsD y with
    | some ds, some es => .ok (zipD ds es) ρ1
    | _, _ => .bad
  | _ => .bad
def inR (i : Int) : Bool := absB i 4611686018427387903
def mItR1 (ms : Env' → R (List PyData)) : Env' → R (List PyData) := fun ρ => (ms ρ).bind fun l ρ1 => match l with
  | [.int j] => if inR j then .ok (rangeD 0 1 j.toNat) ρ1 else .bad
  | _ => .bad
def mItR2 (ms : Env' → R (List PyData)) : Env' → R (List PyData) := fun ρ => (ms ρ).bind fun l ρ1 => match l with
  | [.int i, .int j] => if inR i && inR j then .ok (rangeD i 1 (j - i).toNat) ρ1 else .bad
  | _ => .bad
/-- range(i, j, -1) -/
def mItR3 (ms : Env' → R (List PyData)) : Env' → R (List PyData) := fun ρ => (ms ρ).bind fun l ρ1 => match l with
  | [.int i, .int j, .int c] => if inR i && inR j && decide (c = -1) then .ok (rangeD i (-1) (i - j).toNat) ρ1 else .bad
  | _ => .bad
def mItS (m : Env' → R M) : Env' → R (List PyData) := fun ρ => (m ρ).bind fun x ρ1 => match x with
  | .leaf (.str z) => .ok (signsD z) ρ1
  | _ => .bad
section
variable {X : Cx} {E : XK} {tg e a b c : Expr} {m : Env' → R M} {ms : Env' → R (List PyData)} {p pos tpos : Pos} {elts : List Expr} {kk : Nat}
theorem i_frz {K : Frag} {mg : Str → Option Value} {f : PyData → Option (List PyData)} {P : Hp → V → List PyData → (It → Hp → Prop) → Hp → Prop} (hP : ∀ F H d v ds Rt, Sub F H → IsD K F d v → f d = some ds → (∀ J, WalkD K F J ds → Rt J H) → P F v ds Rt H) (σ : L2.St) (H : Hp) (Rt : It → Hp → Prop)
    (h : tI' K mg E (fun ρ => (m ρ).bind fun x ρ1 => match x.frz.bind f with | some ds => .ok ds ρ1 | none => .bad) σ H Rt) : tE K mg E m σ H fun v H1 => ∃ F ds, P F v ds Rt H1 := by
  obtain ⟨F, ρ, φ, e, k⟩ := h
  refine ⟨F, ρ, φ, e, ?_⟩
  dsimp only at k
  cases hm : m ρ with
  | bad => rw [hm] at k; exact k.elim
  | err x ρ' => rw [hm] at k; exact k
  | ok x ρ1 =>
    rw [hm] at k
    simp only [R.bind_ok] at k
    intro F1 H1 φ1 v f1 e1 r1 d1 x1
    cases hz : x.frz with
    | none => rw [hz] at k; exact k.elim
    | some d =>
      rw [hz] at k
      simp only [Option.bind_some] at k
      cases hf : f d with
      | none => rw [hf] at k; exact k.elim
      | some ds =>
        rw [hf] at k
        have hn : ∀ a ∈ f1, F1 a = none := fun a ha => (r1.fp a ha).2
        have e2 := e1.freeze d1 hn
        refine ⟨fz F1 H1 f1, ds, hP _ H1 d v ds Rt e2.sub (r1.frozen hz) hf fun J hJ => ?_⟩
        exact k _ H1 φ1 J e2 hJ (x1.freeze hn)
theorem di_seq (he : DE X E e m) : DI X E tg e (mIt m) := (pi_seqA he).imp fun σ H Rt h => by
  have := i_frz (f := itemsD) (P := fun F v ds Rt H => ∃ t a xs, v = .ref a ∧ SqA X.K H t a xs ∧ Rt (ItA X.K t a) H) (fun F H d v ds Rt s hd hf k => by
    obtain ⟨t, a, vs, rfl, hq, hds⟩ := itemsD_sq hd hf
    exact ⟨t, a, vs, rfl, hq.mono s, k _ (walkD_seq hq hds)⟩) σ H Rt h
  obtain ⟨F, ρ, φ, e, k⟩ := this
  refine ⟨F, ρ, φ, e, ?_⟩
  cases hm : m ρ with
  | bad => rw [hm] at k; exact k
  | err x ρ' => rw [hm] at k; exact k
  | ok x ρ1 =>
    rw [hm] at k
    exact fun F1 H1 φ1 v f e1 r1 d1 x1 => let ⟨_, _, z⟩ := k F1 H1 φ1 v f e1 r1 d1 x1; z
theorem di_enum (hg : Gl X "enumerate") (hm : X.mg "enumerate" = none) (he : DE X E e m) (hs : starEach [e] X.env = [(false, eval e X.env)] := by rfl) : DI X E (.Tuple elts kk tpos) (.Call (.Name "enumerate" p) [e] [] pos) (mItE m) :=
  (pi_enumA hg hm (pa_cons he pa_nil hs) hs).imp fun σ H Rt h => by
    have h' : tI' X.K X.mg E (fun ρ => (m ρ).bind fun x ρ1 => match x.frz.bind fun d => (itemsD d).map (enumD 0) with | some ds => .ok ds ρ1 | none => .bad) σ H Rt := by
      have : mItE m = fun ρ => (m ρ).bind fun x ρ1 => match x.frz.bind fun d => (itemsD d).map (enumD 0) with | some ds => .ok ds ρ1 | none => .bad := by
        funext ρ
        unfold mItE
        congr 1
        funext x ρ1
        cases x.frz with
        | none => rfl
        | some d => simp only [Option.bind_some]; cases itemsD d <;> rfl
      rw [this] at h; exact h
    have := i_frz (f := fun d => (itemsD d).map (enumD 0)) (P := fun F v ds Rt H => ∃ t a xs, [v] = [.ref a] ∧ SqA X.K H t a xs ∧ Rt (IteA X.K t a) H) (fun F H d v ds Rt s hd hf k => by
      rw [Option.map_eq_some_iff] at hf
      obtain ⟨es, hf, rfl⟩ := hf
      obtain ⟨t, a, vs, rfl, hq, hds⟩ := itemsD_sq hd hf
      exact ⟨t, a, vs, rfl, hq.mono s, k _ (walkD_enum hq hds)⟩) σ H Rt h'
    obtain ⟨F, ρ, φ, e, k⟩ := this
    refine ⟨F, ρ, φ, e, ?_⟩
    cases hm : m ρ with
    | bad => rw [hm] at k; exact k
    | err x ρ' => rw [hm] at k; exact k
    | ok x ρ1 =>
      rw [hm] at k
      exact fun F1 H1 φ1 v f e1 r1 d1 x1 => let ⟨_, _, z⟩ := k F1 H1 φ1 v f e1 r1 d1 x1; z
theorem i_args {K : Frag} {mg : Str → Option Value} {n : Nat} {f : List PyData → Option (List PyData)} {P : List V → (It → Hp → Prop) → Hp → Prop} (hP : ∀ F H l vs ds Rt, Sub F H → IsDs K F l vs → f l = some ds → (∀ J, WalkD K F J ds → Rt J H) → P vs Rt H) (σ : L2.St) (H : Hp) (Rt : It → Hp → Prop)
    {mm : Env' → R (List PyData)} (hmm : ∀ ρ, mm ρ = (ms ρ).bind fun l ρ1 => match f l with | some ds => .ok ds ρ1 | none => .bad)
    (h : tI' K mg E mm σ H Rt) : tAr K mg E n ms σ H fun vs H1 => P vs Rt H1 := by
  obtain ⟨F, ρ, φ, e, k⟩ := h
  refine ⟨F, ρ, φ, e, ?_⟩
  rw [hmm] at k
  cases hm : ms ρ with
  | bad => rw [hm] at k; exact k.elim
  | err x ρ' => rw [hm] at k; exact k
  | ok l ρ1 =>
    rw [hm] at k
    simp only [R.bind_ok] at k
    intro F1 H1 φ1 vs e1 r1 hl x1
    cases hf : f l with
    | none => rw [hf] at k; exact k.elim
    | some ds =>
      rw [hf] at k
      exact hP F1 H1 l vs ds Rt e1.sub r1 hf fun J hJ => k F1 H1 φ1 J e1 hJ x1
def fZ : List PyData → Option (List PyData)
  | [x, y] => match itemsD x, itemsD y with
    | some ds, some es => some (zipD ds es)
    | _, _ => none
  | _ => none
def fR1 : List PyData → Option (List PyData)
  | [.int j] => if inR j then some (rangeD 0 1 j.toNat) else none
  | _ => none
def fR2 : List PyData → Option (List PyData)
  | [.int i, .int j] => if inR i && inR j then some (rangeD i 1 (j - i).toNat) else none
  | _ => none
def fR3 : List PyData → Option (List PyData)
  | [.int i, .int j, .int c] => if inR i && inR j && decide (c = -1) then some (rangeD i (-1) (i - j).toNat) else none
  | _ => none
theorem inR_iff {i : Int} (h : inR i = true) : -(2 ^ 62) ≤ i ∧ i < 2 ^ 62 := by
  unfold inR at h
  rw [absB_iff] at h
  omega
theorem isDs_cons {K : Frag} {F : Hp} {d : PyData} {ds : List PyData} {vs : List V} (h : IsDs K F (d :: ds) vs) : ∃ v r, vs = v :: r ∧ IsD K F d v ∧ IsDs K F ds r := by
  unfold IsDs at h; exact h
theorem isDs_nil {K : Frag} {F : Hp} {vs : List V} (h : IsDs K F [] vs) : vs = [] := by
  unfold IsDs at h; exact h
theorem di_zip {n : Nat} (hg : Gl X "zip") (hm : X.mg "zip" = none) (he : DA X E n [a, b] ms) (hs : starEach [a, b] X.env = (false, eval a X.env) :: starEach [b] X.env := by rfl) (hpl : (backTo pos (starEach [b] X.env)).any (·.1) = false := by rfl) :
    DI X E (.Tuple elts kk tpos) (.Call (.Name "zip" p) [a, b] [] pos) (mItZ ms) := (pi_zipAny hg hm he hs hpl).imp fun σ H Rt h => by
  refine i_args (f := fZ) (P := fun vs Rt H => ∃ t1 t2 a b xs ys, vs = [.ref a, .ref b] ∧ SqA X.K H t1 a xs ∧ SqA X.K H t2 b ys ∧ Rt (ItzA X.K t1 t2 a b) H) (fun F H l vs ds Rt s hl hf k => ?_) σ H Rt (fun ρ => ?_) h
  · unfold fZ at hf
    split at hf
    · split at hf
      · rename_i x y es fs h1 h2
        cases hf
        obtain ⟨v, r, rfl, i1, i2⟩ := isDs_cons hl
        obtain ⟨u, r, rfl, i3, i4⟩ := isDs_cons i2
        cases isDs_nil i4
        obtain ⟨t1, a1, xs, rfl, q1, z1⟩ := itemsD_sq i1 h1
        obtain ⟨t2, a2, ys, rfl, q2, z2⟩ := itemsD_sq i3 h2
        exact ⟨t1, t2, a1, a2, xs, ys, rfl, q1.mono s, q2.mono s, k _ (walkD_zip q1 z1 q2 z2)⟩
      · cases hf
    · cases hf
  · unfold mItZ
    congr 1
    funext l ρ1
    unfold fZ
    match l with
    | [] => rfl
    | [_] => rfl
    | [x, y] => dsimp only; cases itemsD x <;> cases itemsD y <;> rfl
    | _ :: _ :: _ :: _ => rfl
theorem di_range1 {n : Nat} (hg : Gl X "range") (hm : X.mg "range" = none) (he : DA X E n [a] ms) (hs : starEach [a] X.env = [(false, eval a X.env)] := by rfl) : DI X E tg (.Call (.Name "range" p) [a] [] pos) (mItR1 ms) := (pi_range1 hg hm he hs).imp fun σ H Rt h => by
  refine i_args (f := fR1) (P := fun vs Rt H => ∃ j : Int, vs = [.int j] ∧ -(2 ^ 62) ≤ j ∧ j < 2 ^ 62 ∧ Rt (Itr 0 j.toNat) H) (fun F H l vs ds Rt s hl hf k => ?_) σ H Rt (fun ρ => ?_) h
  · unfold fR1 at hf
    split at hf
    · split at hf
      · rename_i j hj
        cases hf
        obtain ⟨v, r, rfl, i1, i2⟩ := isDs_cons hl
        cases isDs_nil i2
        rw [isD_int_iff.mp i1]
        exact ⟨j, rfl, (inR_iff hj).1, (inR_iff hj).2, k _ walkD_range⟩
      · cases hf
    · cases hf
  · unfold mItR1
    congr 1
    funext l ρ1
    unfold fR1
    split
    · split <;> rfl
    · rfl
theorem di_range2 {n : Nat} (hg : Gl X "range") (hm : X.mg "range" = none) (he : DA X E n [a, b] ms) (hs : starEach [a, b] X.env = [(false, eval a X.env), (false, eval b X.env)] := by rfl) (hs2 : starEach [b] X.env = [(false, eval b X.env)] := by rfl) :
    DI X E tg (.Call (.Name "range" p) [a, b] [] pos) (mItR2 ms) := (pi_range2 hg hm he hs hs2).imp fun σ H Rt h => by
  refine i_args (f := fR2) (P := fun vs Rt H => ∃ i j : Int, vs = [.int i, .int j] ∧ (-(2 ^ 62) ≤ i ∧ i < 2 ^ 62 ∧ -(2 ^ 62) ≤ j ∧ j < 2 ^ 62) ∧ Rt (Itr i (j - i).toNat) H) (fun F H l vs ds Rt s hl hf k => ?_) σ H Rt (fun ρ => ?_) h
  · unfold fR2 at hf
    split at hf
    · split at hf
      · rename_i i j hj
        rw [Bool.and_eq_true] at hj
        cases hf
        obtain ⟨v, r, rfl, i1, i2⟩ := isDs_cons hl
        obtain ⟨u, r, rfl, i3, i4⟩ := isDs_cons i2
        cases isDs_nil i4
        rw [isD_int_iff.mp i1, isD_int_iff.mp i3]
        exact ⟨i, j, rfl, ⟨(inR_iff hj.1).1, (inR_iff hj.1).2, (inR_iff hj.2).1, (inR_iff hj.2).2⟩, k _ walkD_range⟩
      · cases hf
    · cases hf
  · unfold mItR2
    congr 1
    funext l ρ1
    unfold fR2
    split
    · split <;> rfl
    · rfl
theorem di_range3 {n : Nat} (hg : Gl X "range") (hm : X.mg "range" = none) (he : DA X E n [a, b, c] ms)
    (hs : starEach [a, b, c] X.env = (false, eval a X.env) :: starEach [b, c] X.env := by rfl) (hpl : ((backTo pos (starEach [b, c] X.env)).any (·.1)) = false := by rfl) :
    DI X E tg (.Call (.Name "range" p) [a, b, c] [] pos) (mItR3 ms) := by
  refine PI.imp (pi_range3 hg hm he hs hpl) fun σ H Rt h => ?_
  refine i_args (f := fR3) (P := fun vs Rt H => ∃ (i j c : Int) (n : Nat), vs = [.int i, .int j, .int c] ∧ RgC i j c n ∧ Rt (Itc i c n) H) (fun F H l vs ds Rt s hl hf k => ?_) σ H Rt (fun ρ => ?_) h
  · unfold fR3 at hf
    split at hf
    · split at hf
      · rename_i i j c hj
        rw [Bool.and_eq_true, Bool.and_eq_true, decide_eq_true_eq] at hj
        cases hf
        obtain ⟨v, r, rfl, i1, i2⟩ := isDs_cons hl
        obtain ⟨u, r, rfl, i3, i4⟩ := isDs_cons i2
        obtain ⟨w, r, rfl, i5, i6⟩ := isDs_cons i4
        cases isDs_nil i6
        rw [isD_int_iff.mp i1, isD_int_iff.mp i3, isD_int_iff.mp i5, hj.2]
        exact ⟨i, j, -1, _, rfl, RgC.neg (inR_iff hj.1.1).1 (inR_iff hj.1.1).2 (inR_iff hj.1.2).1 (inR_iff hj.1.2).2, k _ walkD_rangeC⟩
      · cases hf
    · cases hf
  · unfold mItR3
    congr 1
    funext l ρ1
    unfold fR3
    split
    · split <;> rfl
    · rfl
theorem di_str (he : DE X E e m) : DI X E tg e (mItS m) := (pi_str he).imp fun σ H Rt h => by
  obtain ⟨F, ρ, φ, e, k⟩ := h
  refine ⟨F, ρ, φ, e, ?_⟩
  unfold mItS at k
  cases hm : m ρ with
  | bad => rw [hm] at k; exact k.elim
  | err x ρ' => rw [hm] at k; exact k
  | ok x ρ1 =>
    rw [hm] at k
    simp only [R.bind_ok] at k
    intro F1 H1 φ1 v f1 e1 r1 d1 x1
    split at k
    · rename_i ds ρ2 hh
      split at hh
      · rename_i z
        cases hh
        exact ⟨z, isD_str_iff.mp (rep_leaf r1), k F1 H1 φ1 _ e1 walkD_str x1.drop⟩
      · cases hh
    · rename_i hh; split at hh <;> cases hh
    · exact k.elim
end
end G
namespace G
open PySem PySem.Spec PyProof.Rows L2

/-! ### isinstance -/
inductive Kd | non | bl | int | str | lst | tup
  deriving DecidableEq
def Kd.nm : Kd → String
  | .non => "NoneType" | .bl => "bool" | .int => "int" | .str => "str" | .lst => "list" | .tup => "tuple"
def isiK : Kd → Kd → Bool
  | .bl, .int => true
  | a, b => decide (a = b)
theorem kit_kd : ∀ a b : Kd, kitB a.nm b.nm = some (isiK a b) := by
  intro a b
  cases a <;> cases b <;> decide +kernel
def M.kd : M → Option Kd
  | .leaf .none => some .non
  | .leaf (.bool _) => some .bl
  | .leaf (.int _) => some .int
  | .leaf (.str _) => some .str
  | .leaf (.list _) => some .lst
  | .leaf (.tuple _) => some .tup
  | .lst _ => some .lst
  | _ => none
section
variable {K : Frag} {F H : Hp}
theorem rep_kd {v : V} {x : M} {f : List Addr} {k : Kd} (s : Sub F H) (r : Rep K F H v x f) (h : x.kd = some k) : TyX K H v (.type k.nm) := by
  unfold M.kd at h
  split at h
  · cases h; rw [isD_none_iff.mp (rep_leaf r)]; exact .base .non
  · cases h; rw [isD_bool_iff.mp (rep_leaf r)]; exact .base (.bl _)
  · cases h; rw [isD_int_iff.mp (rep_leaf r)]; exact .base (.int _)
  · cases h; rw [isD_str_iff.mp (rep_leaf r)]; exact .base (.str _)
  · cases h
    have q := rep_leaf r
    unfold IsD at q
    obtain ⟨a, vs, rfl, h1, _⟩ := q
    exact .base (.lst (s _ _ h1))
  · cases h
    have q := rep_leaf r
    unfold IsD at q
    obtain ⟨a, vs, rfl, h1, _⟩ := q
    exact .base (.tup (s _ _ h1))
  · cases h
    cases r with
    | lst h1 h2 h3 h4 => exact .base (.lst h1)
  · cases h
def gIsi (t : Kd) : M → Option PyData := fun x => x.kd.map fun k => .bool (isiK k t)
theorem r_isi (t : Kd) : R1S K (fun v => rIsi K [v, .ty t.nm]) (gIsi t) := by
  intro F H v x f d Q s r h q
  unfold gIsi at h
  rw [Option.map_eq_some_iff] at h
  obtain ⟨k, h, rfl⟩ := h
  exact ⟨v, .ty t.nm, .type k.nm, .type t.nm, isiK k t, rfl, .ty _, rep_kd s r h, kit_ty (kit_kd k t), q _ (isD_bool _)⟩
def gIsi2 (t u : Kd) : M → Option M := fun x => x.kd.map fun k => .leaf (.bool (isiK k t || isiK k u))
theorem r_isi2 (t u : Kd) : R1 K (fun v H Q => 2 ≤ sizeLine ∧ ∀ p, H p = none → rIsiT K [v, .ref p] (upd H p (.tup [.ty t.nm, .ty u.nm])) Q) (gIsi2 t u) := by
  intro F H v x f y Q s r h q
  unfold gIsi2 at h
  rw [Option.map_eq_some_iff] at h
  obtain ⟨k, h, rfl⟩ := h
  refine ⟨by decide, fun p hp => ?_⟩
  have g : Grow F H F (upd H p (.tup [.ty t.nm, .ty u.nm])) [p] := Grow.own1 s hp
  have ha : PySem.W.kitAny K (.type k.nm) [.type t.nm, .type u.nm] = some (isiK k t || isiK k u) := by
    refine kitAny_cons (kit_ty (kit_kd k t)) (fun e => ?_) (fun e => by rw [e]; rfl)
    rw [e, Bool.false_or]
    refine kitAny_cons (kit_ty (kit_kd k u)) (fun e2 => ?_) (fun e2 => e2)
    rw [e2]
    rfl
  refine ⟨v, p, [.ty t.nm, .ty u.nm], .type k.nm, [.type t.nm, .type u.nm], _, rfl, upd_same, .cons (.ty _) (.cons (.ty _) .nil), rep_kd g.sub (g.rep r) h, ha, ?_⟩
  exact q _ _ _ [] ⟨g.mono, g.sub, g.same, g.new, fun a ha => by simp at ha⟩ (.leaf (isD_bool _))
end
section
variable {X : Cx} {E : XK} {a : Expr} {q : Env' → Option M} {m : Env' → R M} {p p2 p3 pos : Pos} {x y : Str}
theorem pe_isi {te : TE} (t : Kd) (hg : Gl X "isinstance") (hm : X.mg "isinstance" = none) (hgt : Gl X x) (hmt : X.mg x = none) (hvt : bootBuiltins x = some (.type t.nm)) (ha : PE X a te) (hn : x ≠ "__name__" := by decide) (hdb : (x == ("__debug__" : Str)) = false := by decide)
    (he : starEach [a, .Name x p2] X.env = (false, eval a X.env) :: starEach [.Name x p2] X.env := by rfl) (he2 : starEach [.Name x p2] X.env = (false, eval (.Name x p2) X.env) :: starEach [] X.env := by rfl) (hpl : (backTo pos (starEach [.Name x p2] X.env)).any (·.1) = false := by rfl) :
    PE X (.Call (.Name "isinstance" p) [a, .Name x p2] [] pos) (fun σ H Q => te σ H fun v H1 => rIsi X.K [v, .ty t.nm] H1 Q) :=
  pe_callB call_isi hg hm PyProof.Rows.boot_isinstance (pa_cons ha (pa_cons (pe_bltn (v := .ty t.nm) hgt hmt hvt rfl hn hdb) pa_nil he2) he) (by decide) (by decide) he hpl
theorem dq_isi (t : Kd) (hg : Gl X "isinstance") (hm : X.mg "isinstance" = none) (hgt : Gl X x) (hmt : X.mg x = none) (hvt : bootBuiltins x = some (.type t.nm)) (ha : DQ X a q) (hn : x ≠ "__name__" := by decide) (hdb : (x == ("__debug__" : Str)) = false := by decide)
    (he : starEach [a, .Name x p2] X.env = (false, eval a X.env) :: starEach [.Name x p2] X.env := by rfl) (he2 : starEach [.Name x p2] X.env = (false, eval (.Name x p2) X.env) :: starEach [] X.env := by rfl) (hpl : (backTo pos (starEach [.Name x p2] X.env)).any (·.1) = false := by rfl) :
    DQ X (.Call (.Name "isinstance" p) [a, .Name x p2] [] pos) (q1 (gIsi t) q) := (pe_isi t hg hm hgt hmt hvt ha hn hdb he he2 hpl).imp fun σ H Q h => i_q1 (r_isi t) σ H Q h
theorem pe_isi2 {te : TE} {kk : Nat} (t u : Kd) (hg : Gl X "isinstance") (hm : X.mg "isinstance" = none) (hgt : Gl X x) (hmt : X.mg x = none) (hvt : bootBuiltins x = some (.type t.nm)) (hgu : Gl X y) (hmu : X.mg y = none) (hvu : bootBuiltins y = some (.type u.nm)) (ha : PE X a te)
    (hn : x ≠ "__name__" := by decide) (hdb : (x == ("__debug__" : Str)) = false := by decide) (hn2 : y ≠ "__name__" := by decide) (hdb2 : (y == ("__debug__" : Str)) = false := by decide)
    (he : starEach [a, .Tuple [.Name x p2, .Name y p3] kk pos'] X.env = (false, eval a X.env) :: starEach [.Tuple [.Name x p2, .Name y p3] kk pos'] X.env := by rfl) (he2 : starEach [.Tuple [.Name x p2, .Name y p3] kk pos'] X.env = (false, eval (.Tuple [.Name x p2, .Name y p3] kk pos') X.env) :: starEach [] X.env := by rfl)
    (he3 : starEach [.Name x p2, .Name y p3] X.env = (false, eval (.Name x p2) X.env) :: starEach [.Name y p3] X.env := by rfl) (he4 : starEach [.Name y p3] X.env = (false, eval (.Name y p3) X.env) :: starEach [] X.env := by rfl)
    (hpl : (backTo pos (starEach [.Tuple [.Name x p2, .Name y p3] kk pos'] X.env)).any (·.1) = false := by rfl) :
    PE X (.Call (.Name "isinstance" p) [a, .Tuple [.Name x p2, .Name y p3] kk pos'] [] pos) (fun σ H Q => te σ H fun v H1 => 2 ≤ sizeLine ∧ ∀ p, H1 p = none → rIsiT X.K [v, .ref p] (upd H1 p (.tup [.ty t.nm, .ty u.nm])) Q) :=
  pe_callB call_isiT hg hm PyProof.Rows.boot_isinstance (pa_cons ha (pa_cons (pe_tup (pa_cons (pe_bltn (v := .ty t.nm) hgt hmt hvt rfl hn hdb) (pa_cons (pe_bltn (v := .ty u.nm) hgu hmu hvu rfl hn2 hdb2) pa_nil he4) he3)) pa_nil he2) he) (by decide) (by decide) he hpl
theorem de_isi2q {kk : Nat} (t u : Kd) (hg : Gl X "isinstance") (hm : X.mg "isinstance" = none) (hgt : Gl X x) (hmt : X.mg x = none) (hvt : bootBuiltins x = some (.type t.nm)) (hgu : Gl X y) (hmu : X.mg y = none) (hvu : bootBuiltins y = some (.type u.nm)) (ha : DQ X a q)
    (hn : x ≠ "__name__" := by decide) (hdb : (x == ("__debug__" : Str)) = false := by decide) (hn2 : y ≠ "__name__" := by decide) (hdb2 : (y == ("__debug__" : Str)) = false := by decide)
    (he : starEach [a, .Tuple [.Name x p2, .Name y p3] kk pos'] X.env = (false, eval a X.env) :: starEach [.Tuple [.Name x p2, .Name y p3] kk pos'] X.env := by rfl) (he2 : starEach [.Tuple [.Name x p2, .Name y p3] kk pos'] X.env = (false, eval (.Tuple [.Name x p2, .Name y p3] kk pos') X.env) :: starEach [] X.env := by rfl)
    (he3 : starEach [.Name x p2, .Name y p3] X.env = (false, eval (.Name x p2) X.env) :: starEach [.Name y p3] X.env := by rfl) (he4 : starEach [.Name y p3] X.env = (false, eval (.Name y p3) X.env) :: starEach [] X.env := by rfl)
    (hpl : (backTo pos (starEach [.Tuple [.Name x p2, .Name y p3] kk pos'] X.env)).any (·.1) = false := by rfl) :
    DE X E (.Call (.Name "isinstance" p) [a, .Tuple [.Name x p2, .Name y p3] kk pos'] [] pos) (m1q (gIsi2 t u) q) :=
  (pe_isi2 t u hg hm hgt hmt hvt hgu hmu hvu ha hn hdb hn2 hdb2 he he2 he3 he4 hpl).imp fun σ H Q h => i_1q (r_isi2 t u) σ H Q h
end

/-! ### < of data -/
def ltOk (d e : PyData) : Bool := nd d && nd e && PySem.W.alike d e && !isNd d && decide (d.depth ≤ 64)
def rLtD (K : Frag) : L2.R2 := fun x y H Q => ∃ d e, IsD K H d x ∧ IsD K H e y ∧ ltOk d e = true ∧ Q (.bl (PySem.W.dataLt d e)) H
theorem op_ltD {X : Cx} (hu : X.A.units + 64 < cLine) : OpR X (compareOp .Lt) (rLtD X.K) := by
  intro pins s σ H x y v u Q I rx ry h
  obtain ⟨d, e, hd, he, ok, q⟩ := h
  unfold ltOk at ok
  simp only [Bool.and_eq_true, decide_eq_true_eq, Bool.not_eq_true'] at ok
  obtain ⟨⟨⟨⟨n1, n2⟩, al⟩, nn⟩, dp⟩ := ok
  obtain ⟨as, r1⟩ := Dp.reads I d x v (IsD.dp _ _ n1 hd) rx
  obtain ⟨bs, r2⟩ := Dp.reads I e y u (IsD.dp _ _ n2 he) ry
  have hm : min d.depth e.depth ≤ d.depth := Nat.min_le_left _ _
  exact PySem.W.rcLt_alike d e X.A s v u as bs r1 r2 al (fun z => by rw [z] at nn; cases nn) (by omega) X.prog X.w X.xe _ ⟨.bl _, H, I, rfl, q⟩
def gLtD : M → M → Option PyData := fun x y => match x.frz, y.frz with
  | some d, some e => if ltOk d e then some (.bool (PySem.W.dataLt d e)) else none
  | _, _ => none
theorem r_ltD {K : Frag} : R2S K (rLtD K) gLtD := by
  intro F H v x fa v2 x2 f2 d Q s r r2 h q
  unfold gLtD at h
  split at h
  · rename_i d1 d2 h1 h2
    split at h
    · rename_i hs
      cases h
      exact ⟨d1, d2, r.read s h1, r2.read s h2, hs, q _ (isD_bool _)⟩
    · cases h
  · cases h

/-! ### sorted of a list -/
def sortOk (ds : List PyData) : Bool := (ds.all fun d => nd d && decide (d.depth ≤ 60)) && (ds.all fun d => ds.all fun e => PySem.W.alike d e) &&
  ((ds.all fun d => match d with | .tuple (_ :: _) => true | _ => false) || (ds.all fun d => match d with | .none => false | .tuple _ => false | _ => true)) && decide (ds.length ≤ 16777216)
abbrev sortD (ds : List PyData) : List PyData := ds.mergeSort (PySem.W.dataLe false id)
theorem sortOk_spec {ds : List PyData} (h : sortOk ds = true) : (∀ d ∈ ds, nd d = true ∧ d.depth ≤ 60) ∧ PySem.W.AllAlike ds ∧ PySem.W.Sortable ds ∧ ds.length ≤ sizeLine := by
  unfold sortOk at h
  simp only [Bool.and_eq_true, decide_eq_true_eq, List.all_eq_true, Bool.or_eq_true] at h
  obtain ⟨⟨⟨h1, h2⟩, h3⟩, h4⟩ := h
  refine ⟨h1, h2, ?_, by rw [sizeLine_eq]; exact h4⟩
  rcases h3 with h3 | h3
  · refine .inl fun d hd => ?_
    have := h3 d hd
    split at this
    · exact ⟨_, _, rfl⟩
    · cases this
  · refine .inr fun d hd => ?_
    have := h3 d hd
    constructor
    · rintro rfl; cases this
    · rintro xs rfl; cases this
theorem each_of {K : Frag} {G : Hp} : ∀ {ds : List PyData} {vs : List V} {us : List Value}, IsDs K G ds vs → Vals vs us → PySem.W.EachIs (fun u d => ∃ x, RelV x u ∧ IsD K G d x) us ds
  | [], vs, us, h, r => by unfold IsDs at h; subst h; cases r; exact .nil
  | d :: ds, vs, us, h, r => by
    unfold IsDs at h
    obtain ⟨v, l, rfl, h1, h2⟩ := h
    cases r with | cons r1 r2 => exact .cons ⟨v, r1, h1⟩ (each_of h2 r2)
theorem of_each {K : Frag} {G : Hp} : ∀ {ds : List PyData} {us : List Value}, PySem.W.EachIs (fun u d => ∃ x, RelV x u ∧ IsD K G d x) us ds → ∃ vs, Vals vs us ∧ IsDs K G ds vs
  | _, _, .nil => ⟨[], .nil, .nil⟩
  | _, _, .cons ⟨x, h1, h2⟩ r => let ⟨vs, a, b⟩ := of_each r; ⟨x :: vs, .cons h1 a, .cons h2 b⟩
theorem each_reads {X : Cx} {pins : List (Addr × Obj)} {σ : L2.St} {H : Hp} {s : Shared} (I : Inv X pins σ H s) {G : Hp} (hG : Sub G H) : ∀ {ds : List PyData} {us : List Value}, (∀ d ∈ ds, nd d = true) → PySem.W.EachIs (fun u d => ∃ x, RelV x u ∧ IsD X.K G d x) us ds →
    PySem.W.EachIs (fun u d => ∃ as, Reads s.heap u (id d) as) us ds
  | _, _, _, .nil => .nil
  | _, _, n, .cons ⟨x, h1, h2⟩ r => .cons (Dp.reads I _ x _ (IsD.dp _ _ (n _ (by simp)) (h2.mono hG)) h1) (each_reads I hG (fun d hd => n d (by simp [hd])) r)
def rSortD (K : Frag) : List V → Hp → VK → Prop := fun xs H Q => ∃ a vs ds G, xs = [.ref a] ∧ SqL K H a vs ∧ Sub G H ∧ IsDs K G ds vs ∧ sortOk ds = true ∧ ∀ p ws, H p = none → IsDs K G (sortD ds) ws → Q (.ref p) (upd H p (.lst ws))
theorem call_sortD {X : Cx} (hu : X.A.units + 64 < cLine) : CallR X (.builtin "sorted") (rSortD X.K) := by
  intro pins s σ H xs us Q I r h
  obtain ⟨a, vs, ds, G, rfl, hq, hG, hd, ok, q⟩ := h
  obtain ⟨u, rfl, rx⟩ := vals1 r
  cases rx
  obtain ⟨o1, o2, o3, o4⟩ := sortOk_spec ok
  obtain ⟨its, rv, p, hz⟩ := I.list hq
  have e := each_of hd rv
  refine PySem.W.sorted_data (enc := id) p.isList e (each_reads I hG (fun d hd => (o1 d hd).1) e) (by rw [List.map_id]; exact o2) (by rw [List.map_id]; exact o3) o4 (fun d hd => ?_) fun out ho eo => ?_
  · have := (o1 d hd).2
    show X.A.units + 2 + d.depth < cLine
    omega
  · obtain ⟨ws, w1, w2⟩ := of_each eo
    obtain ⟨c, hc⟩ := PyProof.Rows.sortedAll_at s.heap its (List.toArray out)
    have hfresh : H (s.heap.objs.size + 1) = none := I.hok.fresh (Nat.le_succ _)
    have hl : ws.length ≤ sizeLine := by
      have h1 := w1.length
      rw [h1, ho]; exact o4
    refine ⟨.ref (s.heap.objs.size + 1), _, I.laid (t' := s.toks) (fun b o e => PyProof.Rows.sortedAll_old e) (Nat.le_succ _) ?_, rfl, q _ ws hfresh w2⟩
    exact ⟨hl, out, c, w1, hc⟩
def gSortL : M → Option M := fun x => x.lv.bind fun ds => if sortOk ds then some (.lst ((sortD ds).map .leaf)) else none
theorem r_sortL {K : Frag} : R1 K (fun v => rSortD K [v]) gSortL := by
  intro F H v x f y Q s r h q
  unfold gSortL at h
  rw [Option.bind_eq_some_iff] at h
  obtain ⟨ds, h, hh⟩ := h
  split at hh
  · rename_i ok
    cases hh
    obtain ⟨a, vs, rfl, h1, h2⟩ := rep_lv s r h
    refine ⟨a, vs, ds, F, rfl, .of h1, s, h2, ok, fun p ws hp hw => ?_⟩
    have hF : F p = none := by
      cases e : F p with
      | none => rfl
      | some u => rw [s p u e] at hp; cases hp
    exact q _ _ _ [p] (Grow.own1 s hp) (.lst upd_same hF (reps_leaves hw) (by simp))
  · cases hh

/-! ### slices -/
def tO' (K : Frag) (mg : Str → Option Value) (E : XK) (m : Env' → R (Option Int)) : TO := fun σ H Q => ∃ F ρ φ, EnvOk K F H σ ρ φ ∧ match m ρ with
  | .ok o ρ' => ∀ F' H' φ', EnvOk K F' H' σ ρ' φ' → Ext F H (Om φ) F' H' (Om φ') → Q o H'
  | .err x ρ' => XOk K mg E F H φ σ x ρ'
  | .bad => False
abbrev DO (X : Cx) (E : XK) (e : Option Expr) (m : Env' → R (Option Int)) : Prop := PO X e (tO' X.K X.mg E m)
theorem _root_.L2.PO.imp {X : Cx} {e : Option Expr} {t t' : TO} (h : PO X e t) (i : ∀ σ H Q, t' σ H Q → t σ H Q) : PO X e t' := ⟨fun pins s σ H Q I q => h.run pins s σ H Q I (i σ H Q q)⟩
def mNoPart : Env' → R (Option Int) := fun ρ => .ok none ρ
def mPart (m : Env' → R M) : Env' → R (Option Int) := fun ρ => (m ρ).bind fun x ρ1 => match x with
  | .leaf (.int i) => .ok (some i) ρ1
  | _ => .bad
def cutD (xs : List PyData) (lo hi : Option Int) : List PyData := (xs.drop (HT.sIx xs.length 0 lo)).take (HT.sIx xs.length xs.length hi - HT.sIx xs.length 0 lo)
theorem cut_isDs {K : Frag} {F : Hp} {ds : List PyData} {vs : List V} (h : IsDs K F ds vs) (lo hi : Option Int) : IsDs K F (cutD ds lo hi) (cutV vs lo hi) := by
  unfold cutD cutV
  rw [h.length]
  exact (h.drop _).take _
def rSlAny (K : Frag) : V → Option Int → Option Int → Hp → VK → Prop := fun x lo hi H Q => rSlL K x lo hi H Q ∨ rSlA K x lo hi H Q ∨ rSlS x lo hi H Q
theorem sl_any {X : Cx} : SlR X (rSlAny X.K) := sl_list.or (sl_tupA.or sl_str)
def gSl (x : M) (lo hi : Option Int) : Option M := match x with
  | .leaf (.str z) => if z.length ≤ 16777216 then some (.leaf (.str (cutS z lo hi))) else none
  | _ => match x.tv with
    | some ds => some (.leaf (.tuple (cutD ds lo hi)))
    | none => x.lv.map fun ds => .lst ((cutD ds lo hi).map .leaf)
theorem r_sl {K : Frag} {lo hi : Option Int} : R1 K (fun v => rSlAny K v lo hi) (fun x => gSl x lo hi) := by
  intro F H v x f y Q s r h q
  have main : ∀ {x : M}, Rep K F H v x f → (match x.tv with
    | some ds => some (M.leaf (.tuple (cutD ds lo hi)))
    | none => x.lv.map fun ds => .lst ((cutD ds lo hi).map .leaf)) = some y → rSlAny K v lo hi H Q := by
    clear h
    intro x r h
    split at h
    · rename_i ds hds
      cases h
      obtain ⟨a, vs, rfl, h1, h2⟩ := rep_tv s r hds
      refine .inr (.inl ⟨a, vs, rfl, SqT.of (s _ _ h1), fun hw => ?_, fun hw p hp => ?_⟩)
      · have e : cutD ds lo hi = ds := by
          unfold cutD
          rw [← h2.length, hw.1, hw.2]
          simp [h2.length]
        rw [e] at q
        refine q F H _ [] (.refl s) (.leaf ?_)
        unfold IsD; exact ⟨a, vs, rfl, h1, h2⟩
      · have g := Grow.frz1 (o := .tup (cutV vs lo hi)) s hp
        exact q _ _ _ [] g (.leaf (isD_tup upd_same ((cut_isDs h2 lo hi).mono g.mono)))
    · rw [Option.map_eq_some_iff] at h
      obtain ⟨ds, hlv, rfl⟩ := h
      obtain ⟨a, vs, rfl, h1, h2⟩ := rep_lv s r hlv
      refine .inl ⟨a, vs, rfl, .of h1, fun p hp => ?_⟩
      have hF : F p = none := by
        cases e : F p with
        | none => rfl
        | some u => rw [s p u e] at hp; cases hp
      exact q _ _ _ [p] (Grow.own1 s hp) (.lst upd_same hF (reps_leaves (cut_isDs h2 lo hi)) (by simp))
  unfold gSl at h
  dsimp only at h
  split at h
  · split at h
    · rename_i hz
      cases h
      exact .inr (.inr ⟨_, isD_str_iff.mp (rep_leaf r), by rw [sizeLine_eq]; exact hz, q F H _ [] (.refl s) (.leaf (isD_str _))⟩)
    · cases h
  · exact main r h
def mSl (m : Env' → R M) (l h : Env' → R (Option Int)) : Env' → R M := fun ρ => (m ρ).bind fun x ρ1 => (l ρ1).bind fun lo ρ2 => (h ρ2).bind fun hi ρ3 => match gSl x lo hi with
  | some y => .ok y ρ3
  | none => .bad
section
variable {X : Cx} {E : XK} {e : Expr} {m : Env' → R M} {lo hi : Option Expr} {l h : Env' → R (Option Int)} {pos p2 : Pos}
theorem do_none : DO X E none mNoPart := po_none.imp fun σ H Q ⟨F, ρ, φ, e, k⟩ => k F H φ e .refl
theorem do_some (he : DE X E e m) : DO X E (some e) (mPart m) := (po_some he).imp fun σ H Q ⟨F, ρ, φ, e, k⟩ => by
  refine ⟨F, ρ, φ, e, ?_⟩
  unfold mPart at k
  cases hm : m ρ with
  | bad => rw [hm] at k; exact k.elim
  | err x ρ' => rw [hm] at k; exact k
  | ok x ρ1 =>
    rw [hm] at k
    simp only [R.bind_ok] at k
    intro F1 H1 φ1 v f1 e1 r1 d1 x1
    split at k
    · rename_i o ρ2 hh
      split at hh
      · rename_i i
        cases hh
        exact ⟨i, isD_int_iff.mp (rep_leaf r1), k F1 H1 φ1 e1 x1.drop⟩
      · cases hh
    · rename_i hh; split at hh <;> cases hh
    · exact k.elim
theorem de_slice (he : DE X E e m) (hl : DO X E lo l) (hh : DO X E hi h) : DE X E (.Subscript e (.Slice lo hi none p2) pos) (mSl m l h) := (pe_slice sl_any he hl hh).imp fun σ H Q ⟨F, ρ, φ, e, k⟩ => by
  refine ⟨F, ρ, φ, e, ?_⟩
  unfold mSl at k
  cases hm : m ρ with
  | bad => rw [hm] at k; exact k.elim
  | err x ρ' => rw [hm] at k; exact k
  | ok x ρ1 =>
    rw [hm] at k
    simp only [R.bind_ok] at k
    intro F1 H1 φ1 v f1 e1 r1 d1 x1
    refine ⟨F1, ρ1, φ1, e1, ?_⟩
    cases hm2 : l ρ1 with
    | bad => rw [hm2] at k; exact k.elim
    | err x ρ' => rw [hm2] at k; exact k.next x1.drop
    | ok lo' ρ2 =>
      rw [hm2] at k
      simp only [R.bind_ok] at k
      intro F2 H2 φ2 e2 x2
      obtain ⟨r2, d2⟩ := r1.ext x2 d1
      refine ⟨F2, ρ2, φ2, e2, ?_⟩
      cases hm3 : h ρ2 with
      | bad => rw [hm3] at k; exact k.elim
      | err x ρ' => rw [hm3] at k; exact k.next (x1.drop.trans x2)
      | ok hi' ρ3 =>
        rw [hm3] at k
        simp only [R.bind_ok] at k
        intro F3 H3 φ3 e3 x3
        obtain ⟨r3, d3⟩ := r2.ext x3 d2
        cases hg : gSl x lo' hi' with
        | none => rw [hg] at k; exact k.elim
        | some y =>
          rw [hg] at k
          refine r_sl F3 H3 v x f1 y Q e3.sub r3 hg fun F4 H4 v4 f4 gr r4 => ?_
          exact k F4 H4 φ3 v4 f4 (gr.env e3) r4 (gr.off e3) (((x1.drop.trans x2).trans x3).trans gr.ext)
end
end G
namespace G
open PySem PySem.Spec PyProof.Rows L2

/-! ### own trees changed -/
section
variable {K : Frag} {F H : Hp} {σ : L2.St} {ρ : Env'} {φ : Nat → List Addr}
theorem EnvOk.mut (e : EnvOk K F H σ ρ φ) {i : Nat} {v : V} {m m' : M} {c : Addr} {o : HO} {f' : List Addr} (hi : ρ[i]? = some (some m)) (hv : σ[i]? = some (some v)) (hc : c ∈ φ i) (r : Rep K F (L2.upd H c o) v m' f') (hf : ∀ a ∈ f', a ∈ φ i ∨ ¬ Om φ a) :
    EnvOk K F (L2.upd H c o) σ (ρ.set i (some m')) (fun j => if j = i then f' else φ j) := by
  have hFc : F c = none := (e.tracked ⟨i, hc⟩).2
  have hlt : i < ρ.length := (List.getElem?_eq_some_iff.mp hi).1
  refine ⟨sub_upd e.sub hFc, by simp [e.len], fun j x h => ?_, fun j k a hj hk => ?_, fun j h => ?_⟩
  · by_cases hji : j = i
    · subst hji
      rw [List.getElem?_set_self hlt] at h
      cases h
      exact ⟨v, hv, by rw [if_pos rfl]; exact r⟩
    · rw [List.getElem?_set_ne (Ne.symm hji)] at h
      obtain ⟨u, hu, q⟩ := e.rep j x h
      refine ⟨u, hu, ?_⟩
      rw [if_neg hji]
      exact q.updN fun hcj => hji (e.dis j i c hcj hc)
  · by_cases h1 : j = i
    · by_cases h2 : k = i
      · rw [h1, h2]
      · subst h1
        simp only [if_true, h2, if_false] at hj hk
        rcases hf a hj with h | h
        · exact e.dis j k a h hk
        · exact absurd ⟨k, hk⟩ h
    · by_cases h2 : k = i
      · subst h2
        simp only [if_true, h1, if_false] at hj hk
        rcases hf a hk with h | h
        · exact (e.dis k j a h hj).symm
        · exact absurd ⟨j, hj⟩ h
      · simp only [h1, h2, if_false] at hj hk
        exact e.dis j k a hj hk
  · by_cases hji : j = i
    · subst hji
      exact absurd (List.getElem?_set_self hlt) (h m')
    · simp only [hji, if_false]
      refine e.emp j fun x hx => h x ?_
      rw [List.getElem?_set_ne (Ne.symm hji)]; exact hx
theorem om_mut {i : Nat} {f' : List Addr} {a : Addr} (h : Om (fun j => if j = i then f' else φ j) a) : Om φ a ∨ a ∈ f' := by
  obtain ⟨j, h⟩ := h
  dsimp only at h
  split at h
  · exact .inr h
  · exact .inl ⟨j, h⟩
end
section
variable {κ α : Type} [DecidableEq κ]
def putG (kvs : List (κ × α)) (k : κ) (v : α) : List (κ × α) :=
  if (kvs.any fun kv => decide (kv.1 = k)) = true then kvs.map (fun kv => if kv.1 = k then (kv.1, v) else kv) else kvs ++ [(k, v)]
def getG (kvs : List (κ × α)) (k : κ) : Option α := (kvs.find? fun kv => decide (kv.1 = k)).map (·.2)
theorem any_keys {β : Type} {l : List (κ × α)} {l2 : List (κ × β)} (h : l.map (·.1) = l2.map (·.1)) (k : κ) : (l.any fun kv => decide (kv.1 = k)) = l2.any fun kv => decide (kv.1 = k) := by
  have e1 : (l.any fun kv => decide (kv.1 = k)) = (l.map (·.1)).any fun x => decide (x = k) := by rw [List.any_map]; rfl
  have e2 : (l2.any fun kv => decide (kv.1 = k)) = (l2.map (·.1)).any fun x => decide (x = k) := by rw [List.any_map]; rfl
  rw [e1, e2, h]
theorem keys_putG (kvs : List (κ × α)) (k : κ) (v : α) : (putG kvs k v).map (·.1) = if (kvs.any fun kv => decide (kv.1 = k)) = true then kvs.map (·.1) else kvs.map (·.1) ++ [k] := by
  unfold putG
  split
  · rw [List.map_map]
    apply List.map_congr_left
    intro x _
    simp only [Function.comp_apply]
    split <;> rfl
  · simp
theorem nodup_putG {kvs : List (κ × α)} (h : (kvs.map (·.1)).Nodup) (k : κ) (v : α) : ((putG kvs k v).map (·.1)).Nodup := by
  rw [keys_putG]
  split
  · exact h
  · rename_i hn
    rw [List.nodup_append]
    refine ⟨h, by simp, fun a ha b hb e => hn ?_⟩
    simp only [List.mem_singleton] at hb
    subst hb e
    obtain ⟨x, hx, e⟩ := List.mem_map.mp ha
    exact List.any_eq_true.mpr ⟨x, hx, by simpa using e⟩
end
section
variable {K : Frag} {F H : Hp} {κ : Type} [DecidableEq κ]
theorem reps_repl {v : V} {m : M} {f : List Addr} (r : Rep K F H v m f) {k : κ} : ∀ {kvs : List (κ × V)} {kms : List (κ × M)} {fp : List Addr}, kvs.map (·.1) = kms.map (·.1) → (kms.map (·.1)).Nodup → Reps K F H (kvs.map (·.2)) (kms.map (·.2)) fp → (∀ a ∈ f, a ∉ fp) → (kms.any fun kv => decide (kv.1 = k)) = true →
    ∃ fp', (∀ a ∈ fp', a ∈ fp ∨ a ∈ f) ∧ Reps K F H ((kvs.map fun kv => if kv.1 = k then (kv.1, v) else kv).map (·.2)) ((kms.map fun kv => if kv.1 = k then (kv.1, m) else kv).map (·.2)) fp'
  | [], kms, fp, e, _, rs, _, ha => by
    have : kms = [] := by cases kms <;> simp at e ⊢
    subst this
    simp at ha
  | (k1, v1) :: kvs, [], fp, e, _, rs, _, _ => by simp at e
  | (k1, v1) :: kvs, (k2, m2) :: kms, fp, e, nd, rs, hd, ha => by
    simp only [List.map_cons, List.cons.injEq] at e
    obtain ⟨rfl, e⟩ := e
    simp only [List.map_cons] at rs nd ⊢
    rw [List.nodup_cons] at nd
    cases rs with
    | cons r1 r2 d =>
      rename_i f1 f2
      by_cases hk : k1 = k
      · subst hk
        have same : ∀ {α : Type} {l : List (κ × α)} {y : α}, k1 ∉ l.map (·.1) → (l.map fun kv => if kv.1 = k1 then (kv.1, y) else kv) = l := fun {α l y} hn => by
          conv => rhs; rw [← List.map_id l]
          apply List.map_congr_left
          intro x hx
          have : x.1 ≠ k1 := fun e => hn (List.mem_map.mpr ⟨x, hx, e⟩)
          simp [this]
        rw [same nd.1, same (by rw [e]; exact nd.1), if_pos rfl, if_pos rfl]
        exact ⟨f ++ f2, fun a h => (List.mem_append.mp h).elim .inr fun h => .inl (List.mem_append_right _ h), .cons r r2 fun a h h2 => hd a h (List.mem_append_right _ h2)⟩
      · rw [if_neg hk, if_neg hk]
        simp only [List.any_cons, hk, decide_false, Bool.false_or] at ha
        obtain ⟨fp', h1, h2⟩ := reps_repl r e nd.2 r2 (fun a h h2 => hd a h (List.mem_append_right _ h2)) ha
        refine ⟨f1 ++ fp', fun a h => ?_, .cons r1 h2 fun a ha' hb => ?_⟩
        · rcases List.mem_append.mp h with h | h
          · exact .inl (List.mem_append_left _ h)
          · exact (h1 a h).imp (List.mem_append_right _) id
        · rcases h1 a hb with h | h
          · exact d a ha' h
          · exact hd a h (List.mem_append_left _ ha')
theorem reps_put {v : V} {m : M} {f : List Addr} (r : Rep K F H v m f) {k : κ} {kvs : List (κ × V)} {kms : List (κ × M)} {fp : List Addr} (e : kvs.map (·.1) = kms.map (·.1)) (nd : (kms.map (·.1)).Nodup) (rs : Reps K F H (kvs.map (·.2)) (kms.map (·.2)) fp) (hd : ∀ a ∈ f, a ∉ fp) :
    ∃ fp', (∀ a ∈ fp', a ∈ fp ∨ a ∈ f) ∧ Reps K F H ((putK kvs k v).map (·.2)) ((putG kms k m).map (·.2)) fp' ∧ (putK kvs k v).map (·.1) = (putG kms k m).map (·.1) := by
  have ek : (putK kvs k v).map (·.1) = (putG kms k m).map (·.1) := by
    have h1 := keys_putG kvs k v
    have h2 := keys_putG kms k m
    rw [h2]
    rw [show (putK kvs k v) = putG kvs k v from rfl, h1, any_keys e, e]
  by_cases ha : (kms.any fun kv => decide (kv.1 = k)) = true
  · obtain ⟨fp', h1, h2⟩ := reps_repl r e nd rs hd ha
    refine ⟨fp', h1, ?_, ek⟩
    unfold putK putG
    rw [if_pos ha, if_pos (by rw [any_keys e]; exact ha)]
    exact h2
  · refine ⟨fp ++ f, fun a h => List.mem_append.mp h, ?_, ek⟩
    unfold putK putG
    rw [if_neg ha, if_neg (by rw [any_keys e]; exact ha)]
    simpa using rs.snoc r hd
theorem reps_set {v : V} {m : M} {f : List Addr} (r : Rep K F H v m f) : ∀ {vs : List V} {ms : List M} {fp : List Addr} (j : Nat), Reps K F H vs ms fp → (∀ a ∈ f, a ∉ fp) → ∃ fp', (∀ a ∈ fp', a ∈ fp ∨ a ∈ f) ∧ Reps K F H (vs.set j v) (ms.set j m) fp'
  | _, _, _, j, .nil, _ => ⟨[], by simp, by simp; exact .nil⟩
  | _, _, _, 0, .cons (f1 := f1) (f2 := f2) r1 r2 d, hd => ⟨f ++ f2, fun a h => (List.mem_append.mp h).elim .inr fun h => .inl (List.mem_append_right _ h), by simpa using Reps.cons r r2 fun a h h2 => hd a h (List.mem_append_right _ h2)⟩
  | _, _, _, j + 1, .cons (f1 := f1) (f2 := f2) r1 r2 d, hd => by
    obtain ⟨fp', h1, h2⟩ := reps_set r j r2 fun a h h2 => hd a h (List.mem_append_right _ h2)
    rw [List.set_cons_succ, List.set_cons_succ]
    refine ⟨f1 ++ fp', fun a h => ?_, Reps.cons r1 h2 fun a ha' hb => ?_⟩
    · rcases List.mem_append.mp h with h | h
      · exact .inl (List.mem_append_left _ h)
      · exact (h1 a h).imp (List.mem_append_right _) id
    · rcases h1 a hb with h | h
      · exact d a ha' h
      · exact hd a h (List.mem_append_left _ ha')
end
def keyOf : PyData → Option Key
  | .int i => some (.inl i)
  | .str s => some (.inr s)
  | _ => none
def keysOf : List PyData → Option (List Key)
  | [] => some []
  | d :: ds => match keyOf d, keysOf ds with
    | some k, some ks => some (k :: ks)
    | _, _ => none
theorem keyOf_is {K : Frag} {F : Hp} {d : PyData} {k : Key} {v : V} (h : keyOf d = some k) (r : IsD K F d v) : v = kV k := by
  cases d with
  | int i => cases h; exact isD_int_iff.mp r
  | str i => cases h; exact isD_str_iff.mp r
  | _ => cases h
theorem keysOf_is {K : Frag} {F : Hp} : ∀ {ds : List PyData} {ks : List Key} {vs : List V}, keysOf ds = some ks → IsDs K F ds vs → vs = ks.map kV
  | [], ks, vs, h, r => by simp [keysOf] at h; subst h; unfold IsDs at r; subst r; rfl
  | d :: ds, ks, vs, h, r => by
    unfold IsDs at r
    obtain ⟨v, u, rfl, h1, h2⟩ := r
    unfold keysOf at h
    split at h
    · rename_i k ks' e1 e2
      cases h
      rw [keyOf_is e1 h1, keysOf_is e2 h2]; rfl
    · cases h
/-- m[k] = y -/
def M.put : M → PyData → M → Option M
  | .lst ms, .int j, y => match ixN ms.length j with
    | some n => some (.lst (ms.set n y))
    | none => none
  | .dK kms, d, y => match keyOf d with
    | some k => if kms.length < 16777216 then some (.dK (putG kms k y)) else none
    | none => none
  | .dT kms, .tuple ds, y => match keysOf ds with
    | some k => if kms.length < 16777216 then some (.dT (putG kms k y)) else none
    | none => none
  | _, _, _ => none
def rSetAny : V → V → V → Hp → (Hp → Prop) → Prop := fun o i v H Q => rSetL o i v H Q ∨ ∃ a H4, o = .ref a ∧ DPut H a i v H4 ∧ Q H4
theorem set_any {X : Cx} (hu : X.A.units + 1 < cLine) : PSet X rSetAny := by
  intro pins s σ H o i v ov iv u Q I ro ri rv h
  rcases h with h | ⟨a, H4, rfl, g, q⟩
  · exact set_list pins s σ H o i v ov iv u Q I ro ri rv h
  · cases ro
    exact d_setItem hu I g ri rv fun s' I' => ⟨H4, I', q⟩
/-- an own tree is changed at its root -/
theorem rep_put {K : Frag} {F H : Hp} {v vk vy : V} {m m' y : M} {d : PyData} {fp f : List Addr} (s : Sub F H) (r : Rep K F H v m fp) (rk : IsD K F d vk) (ry : Rep K F H vy y f) (hd : ∀ a ∈ f, a ∉ fp) (h : m.put d y = some m') :
    ∃ c o fp', c ∈ fp ∧ (∀ a ∈ fp', a ∈ fp ∨ a ∈ f) ∧ Rep K F (L2.upd H c o) v m' fp' ∧ ∀ Q, Q (L2.upd H c o) → rSetAny v vk vy H Q := by
  cases r with
  | lst h1 h2 h3 h4 =>
    rename_i a vs ms fs
    cases d with
    | int j =>
      unfold M.put at h
      dsimp only at h
      cases hj : ixN ms.length j with
      | none => rw [hj] at h; cases h
      | some n =>
        rw [hj] at h
        cases h
        have ha : a ∉ f := fun z => hd a z (by simp)
        obtain ⟨fp', g1, g2⟩ := reps_set (ry.updN (D := a) (o := .lst (vs.set n vy)) ha) n (h3.updN (D := a) (o := .lst (vs.set n vy)) h4) fun b hb z => hd b hb (by simp [z])
        refine ⟨a, .lst (vs.set n vy), a :: fp', by simp, fun b hb => ?_, .lst upd_same h2 g2 fun z => ?_, fun Q q => ?_⟩
        · rcases List.mem_cons.mp hb with rfl | hb
          · exact .inl (by simp)
          · exact (g1 b hb).imp (List.mem_cons_of_mem _) id
        · rcases g1 a z with z | z
          · exact h4 z
          · exact ha z
        · refine .inl ⟨a, vs, j, n, rfl, isD_int_iff.mp rk, h1, ?_, q⟩
          rw [h3.len]; exact hj
    | _ => cases h
  | dK h1 h2 he nd' h3 h4 =>
    rename_i a kvs kms fs
    unfold M.put at h
    dsimp only at h
    cases hj : keyOf d with
    | none => rw [hj] at h; cases h
    | some k =>
      rw [hj] at h
      dsimp only at h
      split at h
      · rename_i hz
        cases h
        have hl : kvs.length = kms.length := by have := congrArg List.length he; simpa using this
        have ha : a ∉ f := fun z => hd a z (by simp)
        obtain ⟨fp', g1, g2, g3⟩ := reps_put (k := k) (ry.updN (D := a) (o := .dK (putK kvs k vy)) ha) he nd' (h3.updN (D := a) (o := .dK (putK kvs k vy)) h4) fun b hb z => hd b hb (by simp [z])
        refine ⟨a, .dK (putK kvs k vy), a :: fp', by simp, fun b hb => ?_, .dK upd_same h2 g3 (nodup_putG nd' k y) g2 fun z => ?_, fun Q q => ?_⟩
        · rcases List.mem_cons.mp hb with rfl | hb
          · exact .inl (by simp)
          · exact (g1 b hb).imp (List.mem_cons_of_mem _) id
        · rcases g1 a z with z | z
          · exact h4 z
          · exact ha z
        · refine .inr ⟨a, _, rfl, ?_, q⟩
          rw [keyOf_is hj rk]
          exact DPut.k h1 (by rw [sizeLine_eq]; omega)
      · cases h
  | dT h1 h2 he nd' h3 h4 =>
    rename_i a kvs kms fs
    cases d with
    | tuple ds =>
      unfold M.put at h
      dsimp only at h
      cases hj : keysOf ds with
      | none => rw [hj] at h; cases h
      | some k =>
        rw [hj] at h
        dsimp only at h
        split at h
        · rename_i hz
          cases h
          have hl : kvs.length = kms.length := by have := congrArg List.length he; simpa using this
          have ha : a ∉ f := fun z => hd a z (by simp)
          unfold IsD at rk
          obtain ⟨b, us, rfl, hb, rd⟩ := rk
          rw [keysOf_is hj rd] at hb
          obtain ⟨fp', g1, g2, g3⟩ := reps_put (k := k) (ry.updN (D := a) (o := .dT (putK kvs k vy)) ha) he nd' (h3.updN (D := a) (o := .dT (putK kvs k vy)) h4) fun b hb z => hd b hb (by simp [z])
          refine ⟨a, .dT (putK kvs k vy), a :: fp', by simp, fun b hb => ?_, .dT upd_same h2 g3 (nodup_putG nd' k y) g2 fun z => ?_, fun Q q => ?_⟩
          · rcases List.mem_cons.mp hb with rfl | hb
            · exact .inl (by simp)
            · exact (g1 b hb).imp (List.mem_cons_of_mem _) id
          · rcases g1 a z with z | z
            · exact h4 z
            · exact ha z
          · refine .inr ⟨a, _, rfl, DPut.t h1 (s _ _ hb) (by rw [sizeLine_eq]; omega), q⟩
        · cases h
    | _ => cases h
  | leaf h => cases h
  | ro _ _ => cases h
  | ins _ _ _ _ _ => cases h
def mPut (i : Nat) (mv mk : Env' → R M) : Env' → O := fun ρ => match mv ρ with
  | .ok y ρ1 => match qName i ρ1 with
    | none => .bad
    | some _ => match mk ρ1 with
      | .ok k ρ2 => match k.frz, qName i ρ2 with
        | some d, some m => match m.put d y with
          | some m' => .next (ρ2.set i (some m'))
          | none => .bad
        | _, _ => .bad
      | .err x ρ2 => .err x ρ2
      | .bad => .bad
  | .err x ρ1 => .err x ρ1
  | .bad => .bad
def mAppend (i : Nat) (mv : Env' → R M) : Env' → O := fun ρ => match qName i ρ with
  | some (.lst _) => match mv ρ with
    | .ok y ρ1 => match qName i ρ1 with
      | some (.lst ms) => if ms.length < 16777216 then .next (ρ1.set i (some (.lst (ms ++ [y])))) else .bad
      | _ => .bad
    | .err x ρ1 => .err x ρ1
    | .bad => .bad
  | _ => .bad
section
variable {X : Cx} {E : XK} {J : List Nat} {i : Nat} {o k e : Expr} {mv mk : Env' → R M} {pos pos' apos : Pos}
theorem ds_put (hu : X.A.units + 1 < cLine) (he : DE X E e mv) (ho : PE X o (tVar i)) (hk : DE X E k mk) (hs : swapsWithSole [.Subscript o k pos'] e pos.line X.env = pure false := by rfl) (hw : swappedStores [.Subscript o k pos'] e X.env = pure none := by rfl)
    (h1 : (assignEach [.Subscript o k pos'] X.env).map (·.2) = [assign (.Subscript o k pos') X.env] := by rfl)
    (ha : ∀ v, assign (.Subscript o k pos') X.env v = (do
      let ov ← holding [v] (eval o X.env)
      let iv ← holding [v, ov] (eval k X.env)
      standAt pos'
      holding [v, ov, iv] (setItem ov iv v)
      release [v, ov, iv] []) := by intro _; rfl) : DS X E J (.Assign [.Subscript o k pos'] e pos) (mPut i mv mk) := (ps_asg he (pg_sub ho hk (set_any hu) ha) hs hw h1).imp fun D σ H ⟨F, ρ, φ, e, q⟩ => by
  refine ⟨F, ρ, φ, e, ?_⟩
  unfold mPut at q
  cases hm : mv ρ with
  | bad => rw [hm] at q; exact q.elim
  | err x ρ' => rw [hm] at q; exact q.err
  | ok y ρ1 =>
    rw [hm] at q
    dsimp only at q
    intro F1 H1 φ1 vy f e1 r1 d1 x1
    cases hq : qName i ρ1 with
    | none => rw [hq] at q; exact q.elim
    | some m0 =>
      rw [hq] at q
      dsimp only at q
      obtain ⟨v, hv, _⟩ := e1.rep i m0 (qName_some hq)
      refine ⟨v, hv, F1, ρ1, φ1, e1, ?_⟩
      cases hmk : mk ρ1 with
      | bad => rw [hmk] at q; exact q.elim
      | err x ρ' => rw [hmk] at q; exact q.err.next x1.drop
      | ok kx ρ2 =>
        rw [hmk] at q
        dsimp only at q
        intro F2 H2 φ2 vk fk e2 r2 d2 x2
        cases hz : kx.frz with
        | none => rw [hz] at q; exact q.elim
        | some d =>
          cases hq2 : qName i ρ2 with
          | none => rw [hz, hq2] at q; exact q.elim
          | some m =>
            rw [hz, hq2] at q
            dsimp only at q
            cases hp : m.put d y with
            | none => rw [hp] at q; exact q.elim
            | some m' =>
              rw [hp] at q
              obtain ⟨r1', d1'⟩ := r1.ext x2 d1
              -- the key is frozen
              have hn : ∀ a ∈ fk, F2 a = none := fun a ha => (r2.fp a ha).2
              have e3 := e2.freeze d2 hn
              have x3 := x2.freeze hn
              have rk := r2.frozen hz
              have hff : ∀ a ∈ f, a ∉ fk := fun a ha hb => d1' a ha (.inr hb)
              have rv : Rep X.K (fz F2 H2 fk) H2 vy y f := r1'.keep (.of (fz_mono hn)) (fun _ _ _ h => h) fun a ha => by
                unfold fz; rw [if_neg (hff a ha)]; exact (r1'.fp a ha).2
              obtain ⟨v2, hv2, rm⟩ := e3.rep i m (qName_some hq2)
              rw [hv] at hv2; cases hv2
              have dm : ∀ a ∈ f, a ∉ φ2 i := fun a ha hb => d1' a ha (.inl ⟨i, hb⟩)
              obtain ⟨c, ob, fp', g1, g2, g3, g4⟩ := rep_put e3.sub rm rk rv dm hp
              refine g4 _ ?_
              have e4 := e3.mut (qName_some hq2) hv g1 g3 fun a ha => (g2 a ha).imp id fun h z => d1' a h (.inl z)
              have xx : Ext F H (Om φ) (fz F2 H2 fk) H2 (fun a => Om φ2 a ∨ a ∈ f) := x1.tmp r1.fp d1 x3
              refine q _ _ _ σ e4 ((xx.upd (D := c) (.inl ⟨i, g1⟩)).less fun a h => ?_) .refl
              rcases om_mut h with h | h
              · exact .inl h
              · exact (g2 a h).imp (fun h => ⟨i, h⟩) id
theorem ds_append (he : DE X E e mv) (ho : PE X o (tVar i)) (hs : swapsWith (.Call (.Attribute o "append" apos) [e] [] pos) none pos'.line X.env = pure false := by rfl)
    (hbase : attributeBase o "append" X.env (eval o X.env) = eval o X.env := by rfl)
    (hfew : ((backTo pos (starEach [e] X.env)).all (fun x => !x.1) && (backToKw pos (keywordEach [] X.env)).all (fun x => x.1.isSome)
      && decide ([e].length + ([] : List Keyword).length + (if ([] : List Keyword).isEmpty then 0 else 1) < 30)) = true := by rfl)
    (hline : (apos.endLine == pos.line) = true := by rfl) (hst : starEach [e] X.env = (false, eval e X.env) :: starEach [] X.env := by rfl) (hplain : (backTo pos (starEach [] X.env)).any (·.1) = false := by rfl) :
    DS X E J (.Expr (.Call (.Attribute o "append" apos) [e] [] pos) pos') (mAppend i mv) :=
  (ps_expr (pe_bm PySem.F.plainAttrs_list PySem.F.slot_list_append PySem.F.type_list_append mt_append ho (pa_cons he pa_nil hst) hbase hfew hline hst hplain) hs).imp fun D σ H ⟨F, ρ, φ, e, q⟩ => by
    unfold mAppend at q
    split at q
    · rename_i ms0 hq
      obtain ⟨v, hv, r0⟩ := e.rep i _ (qName_some hq)
      refine ⟨v, hv, ?_, F, ρ, φ, e, ?_⟩
      · generalize φ i = fi at r0
        cases r0 with | lst h1 h2 h3 h4 => exact .inl ⟨rfl, _, .of (h1)⟩
      · cases hm : mv ρ with
        | bad => rw [hm] at q; exact q.elim
        | err x ρ' => rw [hm] at q; exact q.err
        | ok y ρ1 =>
          rw [hm] at q
          dsimp only at q
          intro F1 H1 φ1 vy f e1 r1 d1 x1
          split at q
          · rename_i ms hq2
            split at q
            · rename_i hz
              obtain ⟨v2, hv2, rm⟩ := e1.rep i _ (qName_some hq2)
              rw [hv] at hv2; cases hv2
              have dm : ∀ a ∈ f, a ∉ φ1 i := fun a ha hb => d1 a ha ⟨i, hb⟩
              generalize hφ : φ1 i = fi at rm dm
              cases rm with
              | lst h1 h2 h3 h4 =>
                rename_i a vs fs
                have ha : a ∉ f := fun z => dm a z (by simp)
                refine ⟨a, vs, vy, rfl, rfl, h1, by rw [h3.len, sizeLine_eq]; exact hz, ?_⟩
                have g3 : Rep X.K F1 (L2.upd H1 a (.lst (vs ++ [vy]))) (.ref a) (.lst (ms ++ [y])) (a :: (fs ++ f)) := .lst upd_same h2 ((h3.updN h4).snoc (r1.updN ha) fun b hb z => dm b hb (by simp [z])) (by simp [h4, ha])
                have hc : a ∈ φ1 i := by rw [hφ]; simp
                have e4 := e1.mut (qName_some hq2) hv hc g3 fun b hb => by
                  rw [hφ]
                  rcases List.mem_cons.mp hb with rfl | hb
                  · exact .inl (by simp)
                  · rcases List.mem_append.mp hb with hb | hb
                    · exact .inl (by simp [hb])
                    · exact .inr (d1 b hb)
                refine q _ _ _ σ e4 ((x1.upd (D := a) (.inl ⟨i, hc⟩)).less fun b h => ?_) .refl
                rcases om_mut h with h | h
                · exact .inl h
                · rcases List.mem_cons.mp h with rfl | h
                  · exact .inl ⟨i, hc⟩
                  · rcases List.mem_append.mp h with h | h
                    · exact .inl ⟨i, by rw [hφ]; simp [h]⟩
                    · exact .inr h
            · exact q.elim
          · exact q.elim
    · exact q.elim
end
end G
namespace G
open PySem PySem.Spec PyProof.Rows L2

/-! ### sorted of whatever is gathered -/
theorem sorted_from {X : Cx} (hu : X.A.units + 64 < cLine) {pins : List (Addr × Obj)} {σ : L2.St} {H : Hp} {s : Shared} {u : Value} {Q : VK}
    (h : wpAny (model X.prog X.w) X.A.in1 (collect u) (fun vs s1 => ∃ ds G, Inv X pins σ H s1 ∧ Sub G H ∧ PySem.W.EachIs (fun u d => ∃ x, RelV x u ∧ IsD X.K G d x) vs ds ∧ sortOk ds = true ∧
      ∀ p ws, H p = none → IsDs X.K G (sortD ds) ws → Q (.ref p) (L2.upd H p (.lst ws))) X.xe s) :
    wpAny (model X.prog X.w) X.A (call (.builtin "sorted") [u]) (fun v s1 => ∃ x H1, Inv X pins σ H1 s1 ∧ RelV x v ∧ Q x H1) X.xe s := by
  refine Calls.call_function_entry PyProof.Rows.kind_sorted PyProof.Rows.plain_sorted PyProof.Rows.entry_sorted (PyProof.Rows.args_sorted1 _) ?_
  unfold Builtin.«sorted»
  refine wpAny_bind (m := checkCount "sorted" 1 1 _) (wpAny_pure ?_)
  refine wpAny_bind (thn h fun vs s1 ⟨ds, G, I1, hG, e, ok, q⟩ => ?_)
  obtain ⟨o1, o2, o3, o4⟩ := sortOk_spec ok
  have hl : vs.length ≤ sizeLine := by rw [e.length]; exact o4
  refine wpAny_bind (wpAny_newList ?_ hl)
  have at0 : (s1.heap.push (seqObj "list" vs.toArray 0)).get? s1.heap.objs.size = some (seqObj "list" vs.toArray 0) := Heap.get?_push_size _ rfl
  have keep0 : ∀ b o, s1.heap.get? b = some o → (s1.heap.push (seqObj "list" vs.toArray 0)).get? b = some o := fun b o e => Heap.get?_push_of_some _ e
  have er : PySem.W.EachIs (fun v d => ∃ as, Reads (s1.heap.push (seqObj "list" vs.toArray 0)) v (id d) as ∧ s1.heap.objs.size ∉ as) vs ds := by
    refine (each_reads I1 hG (fun d hd => (o1 d hd).1) e).mono fun v d ⟨as, r⟩ => ⟨as, PyProof.Rows.Reads.keeps keep0 r, fun hm => ?_⟩
    obtain ⟨o, ho⟩ := PyProof.On.reads_mem_get r _ hm
    exact absurd (Heap.lt_size ho) (Nat.lt_irrefl _)
  refine wpAny_bind (wpAny_holding (PySem.W.list_sort_data (enc := id) (s := { s1 with heap := s1.heap.push (seqObj "list" vs.toArray 0) }) at0 e er (by rw [List.map_id]; exact o2) (by rw [List.map_id]; exact o3) o4 (fun d hd => ?_) fun out ho eo => ?_))
  · have := (o1 d hd).2
    show X.A.units + 1 + 1 + d.depth < cLine
    omega
  · obtain ⟨ws, w1, w2⟩ := of_each eo
    obtain ⟨c, hc⟩ := PyProof.Rows.sortedHeap_at (vs := vs) (out := List.toArray out) at0
    have hfresh : H s1.heap.objs.size = none := I1.hok.fresh (Nat.le_refl _)
    have hlw : ws.length ≤ sizeLine := by rw [w1.length, ho]; exact o4
    refine wpAny_pure ⟨_, rfl, .ref s1.heap.objs.size, _, I1.laid (t' := s1.toks) (fun b o e => ?_) (Nat.le_refl _) (show ObjOk X.prog X.w _ _ _ (.lst ws) from ⟨hlw, out, c, w1, hc⟩), rfl, q _ ws hfresh w2⟩
    have hb := Heap.lt_size e
    rw [PyProof.Rows.sortedHeap_old (Nat.ne_of_lt hb) (by rw [size_push']; exact Nat.lt_succ_of_lt hb)]
    exact keep0 b o e

/-! ### a set of keys of one kind, its members in any order -/
section
variable {P : Program} {w : World} {κ : Type} [DecidableEq κ] (knd : PySem.KeyKind P w κ) (kf : Value → κ)
/-- the set at a holds just the keys ks; its table can be walked -/
def SetG (h : Heap) (a : Addr) (ks : List κ) : Prop :=
  ∃ o es ep t, h.get? a = some o ∧ o.ExactSet ∧ o.data = .set es ep t ∧ ElemsOf knd es.toList ∧ (es.toList.map fun e => kf e.2).Perm ks ∧ ks.Nodup ∧
    es.size < scanBound ∧ t.fits es.size = true ∧ Ris t.place.toList ∧ (w.params.followText "set-order" = true ∨ t.led = true)
def addK (ks : List κ) (k : κ) : List κ := if k ∈ ks then ks else k :: ks
end
section
variable {P : Program} {w : World} {κ : Type} [DecidableEq κ] {knd : PySem.KeyKind P w κ} {kf : Value → κ} {h h' : Heap} {a : Addr} {ks : List κ}
theorem SetG.at (R : SetG knd kf h a ks) (k : ∀ o, h.get? a = some o → h'.get? a = some o) : SetG knd kf h' a ks :=
  let ⟨o, es, ep, t, ho, r⟩ := R; ⟨o, es, ep, t, k o ho, r⟩
theorem setG_is (hk : ∀ k v, knd.is k v = true → kf v = k) {l : List (Int × Value)} (g : ElemsOf knd l) {e : Int × Value} (he : e ∈ l) (k : κ) : knd.is k e.2 = true ↔ kf e.2 = k := by
  obtain ⟨⟨k0, h0, _⟩, _⟩ := g e he
  constructor
  · exact hk k e.2
  · intro z
    have := hk _ _ h0
    rw [← z, this]
    exact h0
theorem setG_fresh {g : Heap} (b : Addr) (hb : g.get? b = some { cls := .type "set", dict := none, data := .set #[] 0 (.fresh 0 0 (!w.params.followText "set-order")) }) : SetG knd kf g b [] :=
  ⟨_, #[], 0, _, hb, ⟨rfl, rfl, rfl⟩, rfl, (fun e he => by simp at he), (by simp), List.nodup_nil, (by decide), (by rfl), List.Pairwise.nil, by
    show _ ∨ (!w.params.followText "set-order") = true
    cases w.params.followText "set-order" <;> simp⟩
end
section
variable {P : Program} {w : World} {A : Around} {E : Value → Shared → Prop} {s : Shared} {a : Addr} {κ : Type} [DecidableEq κ] {knd : PySem.KeyKind P w κ} {kf : Value → κ}
theorem setG_store {g : Bool → Sem Unit} (hg : ∀ (b : Bool) (s₁ : Shared) (Q' : Unit → Shared → Prop), Q' () s₁ → wpAny (model P w) A (g b) Q' E s₁)
    {o : Obj} {es es1 : Array (Int × Value)} {ep : Nat} {t t2 : SetTable} {ks : List κ} (ho : s.heap.get? a = some o) (hex : o.ExactSet) (hd : o.data = .set es ep t) (g1 : ElemsOf knd es1.toList) (p1 : (es1.toList.map fun e => kf e.2).Perm ks) (nd : ks.Nodup)
    (hb1 : es1.size < scanBound) (hf2 : t2.fits es1.size = true) (hr : Ris t2.place.toList) (hl : w.params.followText "set-order" = true ∨ t2.led = true) {wasDummy : Bool} {R : Option Bool → Shared → Prop}
    (hR : ∀ h', Heap.SameBut a s.heap h' → SetG knd kf h' a ks → R (some true) { s with heap := h' }) :
    wpAny (model P w) A (do
        storeSet a es1 t2
        if (!wasDummy && t2.tooFull) = true then do
            g (relayAll t2 es1 (SetTable.grown es1.size)).2.2
            storeSet a (relayAll t2 es1 (SetTable.grown es1.size)).1 (relayAll t2 es1 (SetTable.grown es1.size)).2.1
            pure (some true)
          else pure (some true)) R E s := by
  have o1 := store_at (es' := es1) (t' := t2) ho hd
  have sb := Heap.SameBut.update s.heap a (Obj.putSet es1 t2)
  refine wpAny_bind (wpAny_storeSet_of ho hd ?_ (fits_of_scanBound hb1))
  split
  · have q1 := relayAll_perm t2 es1 (SetTable.grown es1.size)
    have q2 := relayAll_fits t2 es1 (SetTable.grown es1.size)
    have q3 := relayAll_ris t2 es1 (SetTable.grown es1.size)
    have q4 := relayAll_led t2 es1 (SetTable.grown es1.size)
    generalize relayAll t2 es1 (SetTable.grown es1.size) = Z at q1 q2 q3 q4 ⊢
    obtain ⟨es2, t3, gv⟩ := Z
    dsimp only at q1 q2 q3 q4 ⊢
    have hb2 : es2.size < scanBound := by rw [← Array.length_toList, q1.length_eq, Array.length_toList]; exact hb1
    refine wpAny_bind (hg _ _ _ ?_)
    refine wpAny_bind (wpAny_storeSet_of o1 rfl ?_ (fits_of_scanBound hb2))
    have o2 := store_at (es' := es2) (t' := t3) o1 rfl
    exact wpAny_pure (hR _ (sb.trans (Heap.SameBut.update _ a _)) ⟨_, es2, _, t3, o2, hex, rfl, fun e he => g1 e (q1.mem_iff.mp he), (q1.map _).trans p1, nd, hb2, q2, q3, hl.imp id fun z => by rw [q4]; exact z⟩)
  · exact wpAny_pure (hR _ sb ⟨_, es1, _, t2, o1, hex, rfl, g1, p1, nd, hb1, hf2, hr, hl⟩)
theorem setG_add (hk : ∀ k v, knd.is k v = true → kf v = k) {ks : List κ} {k : κ} {x : Value} {Q : Bool → Shared → Prop} (R : SetG knd kf s.heap a ks) (room : ks.length + 1 < scanBound) (hx : knd.is k x = true) (hsc : x.scannable = true)
    (hQ : ∀ b h', Heap.SameBut a s.heap h' → SetG knd kf h' a (addK ks k) → Q b { s with heap := h' }) :
    wpAny (model P w) A (setAddHashed a x (knd.hash k)) Q E s := by
  obtain ⟨o, es, ep, t, ho, hex, hd, g, pm, nd, hb, hf, hr, hl⟩ := R
  unfold setAddHashed setAddHashedIn
  refine wpAny_holding (wpAny_bind (wpAny_setState_of ho hd hf ?_))
  dsimp only
  rw [byScan_of hsc hb g]
  simp only [↓reduceIte]
  unfold setAddByScan
  refine wpAny_bind ?_
  refine wpAny_bind (wpAny_rule ?_)
  refine wpAny_bind (wpAny_setScan_of hx ho hd hf g ?_)
  cases hfi : List.findIdx? (fun e => knd.is k e.2) es.toList with
  | some j =>
    dsimp only
    obtain ⟨hj, pj, _⟩ := List.findIdx?_eq_some_iff_getElem.mp hfi
    have hm : k ∈ ks := pm.mem_iff.mp (List.mem_map.mpr ⟨_, List.getElem_mem hj, hk _ _ pj⟩)
    refine wpAny_pure (wpAny_pure (hQ _ s.heap (Heap.SameBut.refl a s.heap) ?_))
    unfold addK
    rw [if_pos hm]
    exact ⟨o, es, ep, t, ho, hex, hd, g, pm, nd, hb, hf, hr, hl⟩
  | none =>
    dsimp only
    have hn : k ∉ ks := fun z => by
      obtain ⟨e, he, q⟩ := List.mem_map.mp (pm.mem_iff.mpr z)
      have c := List.findIdx?_eq_none_iff.mp hfi e he
      rw [(setG_is hk g he k).mpr q] at c
      cases c
    have hgw : ∀ (b : Bool) {s₁ : Shared} {Q' : Unit → Shared → Prop}, Q' () s₁ → wpAny (model P w) A (match b with | true => rule "set.scan.the-table-gave-way" | false => pure ()) Q' E s₁ :=
      fun b s₁ Q' q => by cases b <;> first | exact wpAny_pure q | exact wpAny_rule q
    have q1 := layNew_perm t es (knd.hash k) x
    have q2 := layNew_fits t es (knd.hash k) x
    have q3 := layNew_ris t es (knd.hash k) x hr
    have q4 := layNew_led t es (knd.hash k) x
    generalize layNew t es (knd.hash k) x = Z at q1 q2 q3 q4 ⊢
    obtain ⟨es1, t1, wd, gv⟩ := Z
    dsimp only at q1 q2 q3 q4 ⊢
    rw [Array.toList_push] at q1
    have pc : es1.toList.Perm ((knd.hash k, x) :: es.toList) := q1.trans (List.perm_append_singleton _ _)
    have g1 : ElemsOf knd es1.toList := fun e he => by
      rcases List.mem_cons.mp (pc.mem_iff.mp he) with z | z
      · rw [z]; exact ⟨⟨k, hx, rfl⟩, hsc⟩
      · exact g e z
    have p1 : (es1.toList.map fun e => kf e.2).Perm (addK ks k) := by
      unfold addK
      rw [if_neg hn]
      have := pc.map fun e => kf e.2
      rw [List.map_cons, hk _ _ hx] at this
      exact this.trans (pm.cons k)
    have nd1 : (addK ks k).Nodup := by unfold addK; rw [if_neg hn]; exact List.nodup_cons.mpr ⟨hn, nd⟩
    have hsz : es1.size = ks.length + 1 := by
      rw [← Array.length_toList, pc.length_eq, List.length_cons, ← pm.length_eq, List.length_map]
    have hb1 : es1.size < scanBound := by rw [hsz]; exact room
    have hled : w.params.followText "set-order" = true ∨ t1.led = true := hl.imp id fun z => by rw [q4]; exact z
    refine wpAny_bind (hgw _ ?_)
    split
    · refine wpAny_bind ?_
      rw [hashByValue_scannable 8 hsc]
      refine wpAny_pure ?_
      refine setG_store ?_ ho hex hd g1 p1 nd1 hb1 ?_ ?_ ?_ ?_
      · intro b s₁ Q' q; cases b <;> first | exact wpAny_pure q | exact wpAny_rule q
      · first | (split <;> first | exact q2 | exact SetTable.fits_plain_off q2) | exact q2
      · first | (split <;> exact q3) | exact q3
      · first | (split <;> exact hled) | exact hled
      · intro h' sb r; dsimp only; exact wpAny_pure (hQ _ h' sb r)
    · refine wpAny_bind (wpAny_pure ?_)
      simp only [↓reduceIte]
      refine setG_store ?_ ho hex hd g1 p1 nd1 hb1 q2 q3 hled ?_
      · intro b s₁ Q' q; cases b <;> first | exact wpAny_pure q | exact wpAny_rule q
      · intro h' sb r; dsimp only; exact wpAny_pure (hQ _ h' sb r)
def addAll (ks : List κ) (l : List κ) : List κ := l.foldl addK ks
theorem addK_len (ks : List κ) (k : κ) : (addK ks k).length ≤ ks.length + 1 := by unfold addK; split <;> simp
theorem addAll_mem (l : List κ) : ∀ (ks : List κ) (k : κ), k ∈ addAll ks l ↔ k ∈ ks ∨ k ∈ l := by
  induction l with
  | nil => intro ks k; simp [addAll]
  | cons x l ih =>
    intro ks k
    have := ih (addK ks x) k
    unfold addAll at this ⊢
    rw [List.foldl_cons, this]
    unfold addK
    split
    · rename_i h
      constructor
      · rintro (z | z)
        · exact .inl z
        · exact .inr (List.mem_cons_of_mem _ z)
      · rintro (z | z)
        · exact .inl z
        · rcases List.mem_cons.mp z with rfl | z
          · exact .inl h
          · exact .inr z
    · simp only [List.mem_cons]
      constructor
      · rintro ((z | z) | z)
        · exact .inr (.inl z)
        · exact .inl z
        · exact .inr (.inr z)
      · rintro (z | z | z)
        · exact .inl (.inr z)
        · exact .inl (.inl z)
        · exact .inr z
theorem set_update_G (hk : ∀ k v, knd.is k v = true → kf v = k) {I : Addr} {fp wr : List Addr} {G : Array GenState → Array GenState → Prop} {n : Nat} {Pv : Nat → Value → Prop} {St : Nat → Shared → Prop} {R : Result → Shared → Prop}
    (W : WalksS P w A.in1 I fp wr G n Pv St) (S : Addr) (hSf : S ∉ fp) (l : List κ) (hn : n = l.length) (hb : l.length + 1 < scanBound) (hval : ∀ i v, Pv i v → ∃ k, l[i]? = some k ∧ knd.is k v = true ∧ v.scannable = true) :
    ∀ (m i : Nat) (s : Shared), n - i = m → i ≤ n → St i s → (∃ ks, ks.length ≤ i ∧ SetG knd kf s.heap S ks ∧ addAll ks (l.drop i) = addAll [] l) →
      (∀ s', Moved (S :: wr) G s s' → SetG knd kf s'.heap S (addAll [] l) → R (.ok (.ret .none)) s') →
      codeAny (model P w) A (.builtin "set.update.loop" ⟨[.ref S, .ref I], []⟩) R s := by
  have hSw : S ∉ wr := fun h => hSf (W.sub _ h)
  have hsub : ∀ b ∈ wr, b ∈ S :: wr := fun b hb => List.mem_cons_of_mem _ hb
  intro m
  induction m with
  | zero =>
    intro i s hm hi hst ⟨ks, hc, hS, ek⟩ hR
    have hin : i = n := by omega
    subst hin
    refine codeAny_builtin PyProof.Rows.F.entry_set_update_loop ?_
    rw [Around.under_plainId PyProof.Rows.F.plain_set_update_loop _]
    show wpAny _ A.in1 (pyNext (.ref I) >>= _) _ _ s
    refine wpAny_bind (W.done s _ _ hst fun s' hm' => ?_)
    show wpAny _ A.in1 (ret Value.none) _ _ s'
    rw [hn, List.drop_length] at ek
    have ek' : ks = addAll [] l := ek
    rw [ek'] at hS
    exact wpAny_pure (hR s' (hm'.mono hsub) (hS.at fun o e => hm'.heap S o hSw e))
  | succ m ih =>
    intro i s hm hi hst ⟨ks, hc, hS, ek⟩ hR
    have hlt : i < n := by omega
    refine codeAny_builtin PyProof.Rows.F.entry_set_update_loop ?_
    rw [Around.under_plainId PyProof.Rows.F.plain_set_update_loop _]
    show wpAny _ A.in1 (pyNext (.ref I) >>= _) _ _ s
    refine wpAny_bind (W.item i s _ _ hlt hst fun v s' hP hst' hm' => ?_)
    obtain ⟨k, hz, hx, hsc⟩ := hval i v hP
    have hS' : SetG knd kf s'.heap S ks := hS.at fun o e => hm'.heap S o hSw e
    show wpAny _ A.in1 (holding [v] (setAdd S v) >>= _) _ _ s'
    refine wpAny_bind (wpAny_holding ?_)
    unfold setAdd
    refine wpAny_holding ?_
    refine wpAny_bind (knd.pyHash hx ?_)
    refine setG_add hk (s := { s' with toks := s'.toks + 1 }) hS' (by omega) hx hsc fun b h' hsb hS2 => ?_
    have hd : l.drop i = k :: l.drop (i + 1) := by
      obtain ⟨h1, h2⟩ := List.getElem?_eq_some_iff.mp hz
      rw [List.drop_eq_getElem_cons h1, h2]
    have ek2 : addAll (addK ks k) (l.drop (i + 1)) = addAll [] l := by
      rw [← ek, hd]; rfl
    refine wpAny_pure ⟨plainId_quiet PyProof.Rows.F.plain_set_update_loop _, ih (i + 1) _ (by omega) hlt (W.frame _ s' _ _ hst' (Nat.le_succ _) fun b hb o e => ?_) ⟨_, Nat.le_trans (addK_len _ _) (Nat.succ_le_succ hc), hS2, ek2⟩ fun s'' hm'' hS'' => ?_⟩
    · rw [hsb.2 b (fun h : b = S => hSf (by rw [← h]; exact hb))]; exact e
    · refine hR s'' (Moved.trans W.gtrans ((hm'.mono hsub).then_heap (Nat.le_succ _) fun b o hb e => ?_) hm'') hS''
      rw [hsb.2 b (fun h : b = S => hb (by rw [h]; exact List.mem_cons_self))]; exact e
end
end G
namespace G
open PySem PySem.Spec PyProof.Rows L2

/-! ### set(xs) of keys -/
def kOf : Value → Key
  | .int i _ => .inl i
  | .str x _ => .inr x
  | _ => .inl 0
theorem kOf_is (P : Program) (w : World) (k : Key) (v : Value) (h : (mixKind P w).is k v = true) : kOf v = k := by
  rcases keyIs_shape (show keyIs k v = true from h) with ⟨i, t, rfl, rfl⟩ | ⟨x, t, rfl, rfl⟩ <;> rfl
theorem key_is (P : Program) (w : World) {k : Key} {u : Value} (r : RelV (kV k) u) : (mixKind P w).is k u = true ∧ u.scannable = true := by
  cases k with
  | inl i => obtain ⟨t, rfl⟩ := (show ∃ t, u = Value.int i t from r); exact ⟨intKind_is P w i t, rfl⟩
  | inr x => obtain ⟨t, rfl⟩ := (show ∃ t, u = Value.str x t from r); exact ⟨strKind_is P w x t, rfl⟩
section
variable {P : Program} {w : World} {A : Around} {E : Value → Shared → Prop} {s : Shared}
/-- an empty set -/
abbrev set0 (w : World) : Obj := { cls := .type "set", dict := none, data := .set #[] 0 (.fresh 0 0 (!w.params.followText "set-order")) }
theorem call_setG_vals {ks : List Key} {items : Array Value} (hit : Vals (ks.map kV) items.toList) : items.size = ks.length ∧ ∀ (i : Nat) (v : Value), items[i]? = some v → ∃ k, ks[i]? = some k ∧ (mixKind P w).is k v = true ∧ v.scannable = true := by
  have hisz : items.size = ks.length := by
    have q : (ks.map kV).length = items.toList.length := Vals.length hit
    rw [List.length_map, Array.length_toList] at q
    exact q.symm
  refine ⟨hisz, fun i v hv => ?_⟩
  have hi : i < ks.length := by rw [← hisz]; exact (Array.getElem?_eq_some_iff.mp hv).1
  refine ⟨ks[i], List.getElem?_eq_getElem hi, key_is P w ?_⟩
  obtain ⟨u, hu, ru⟩ := Vals.get hit (i := i) (x := kV ks[i]) (by rw [List.getElem?_map, List.getElem?_eq_getElem hi]; rfl)
  rw [Array.getElem?_toList, hv] at hu
  cases hu
  exact ru
/-- what the walk of set.update leaves -/
theorem setG_moved {s s' : Shared} {I : Addr} {o : Obj} {S : Addr} {ks : List Key} (hS : S = s.heap.objs.size) (hI : I = (s.heap.push (set0 w)).objs.size)
    (hm : Moved (S :: [I]) (fun a b => b = a) { s with heap := (s.heap.push (set0 w)).push o } s') (hS' : SetG (mixKind P w) kOf s'.heap S ks) :
    ∃ h' tk, s' = { s with heap := h', toks := tk } ∧ SetG (mixKind P w) kOf h' s.heap.objs.size ks ∧ (∀ b o, s.heap.get? b = some o → h'.get? b = some o) := by
  obtain ⟨h', g2, d', tk', os'⟩ := s'
  have eg : g2 = s.gens := hm.gens
  have ed : d' = s.drawn := hm.drawn
  have eo : os' = s.os := hm.os
  subst eg; subst ed; subst eo
  refine ⟨h', tk', rfl, by rw [← hS]; exact hS', fun b o e => ?_⟩
  have hb0 : b < s.heap.objs.size := Heap.lt_size e
  refine hm.heap b o ?_ (Heap.get?_push_of_some _ (Heap.get?_push_of_some _ e))
  rw [hS, hI, Heap.size_push]
  simp only [List.mem_cons, List.not_mem_nil, or_false, not_or]
  exact ⟨Nat.ne_of_lt hb0, Nat.ne_of_lt (Nat.lt_succ_of_lt hb0)⟩
set_option maxHeartbeats 3200000 in
theorem init_setT {l : Addr} {items : Array Value} (ks : List Key) (hh : A.handled = none) (hl : s.heap.IsTuple l items) (hit : Vals (ks.map kV) items.toList) (hb : ks.length + 1 < scanBound) {R : PySem.Fin → Shared → Prop}
    (h : ∀ (h' : Heap) (tk : Nat), SetG (mixKind P w) kOf h' s.heap.objs.size (addAll [] ks) → (∀ b o, s.heap.get? b = some o → h'.get? b = some o) → R (.done (.ret .none)) { s with heap := h', toks := tk }) :
    wpAny (model P w) A (Builtin.«set.__init__» ⟨[.ref s.heap.objs.size, .ref l], []⟩) R E { s with heap := s.heap.push (set0 w) } := by
  have hlS : l < s.heap.objs.size := let ⟨o, e, _⟩ := hl; Heap.lt_size e
  obtain ⟨ol, hol, hcl, nl, hdl⟩ := hl
  obtain ⟨ocls, odict, odata, oslots⟩ := ol
  simp only at hcl hdl
  subst hcl; subst hdl
  have hol' : (s.heap.push (set0 w)).get? l = some { cls := .type "tuple", dict := odict, data := .seq items nl, slots := oslots } := Heap.get?_push_of_some _ hol
  have hsls := F.sub_tuple_set
  have hslf := F.sub_tuple_frozenset
  have hne : (Value.type "tuple" == Value.type "dict") = false := by decide
  have hl1 : (s.heap.push (set0 w)).IsTuple l items := ⟨_, hol', rfl, nl, rfl⟩
  unfold Builtin.«set.__init__» noKeywords Builtin.Frozenset.updateFrom
  generalize hPI : pyIter = PI
  wp_walk
  subst hPI
  refine wpAny_pyIter_tuple hl1 ?_
  refine wpAny_bind (wpAny_runValue ?_)
  obtain ⟨hisz, hval⟩ := call_setG_vals (P := P) (w := w) hit
  have hneI : l ≠ (s.heap.push (set0 w)).objs.size := by
    rw [Heap.size_push]; exact Nat.ne_of_lt (Nat.lt_succ_of_lt hlS)
  have hSf : s.heap.objs.size ∉ [(s.heap.push (set0 w)).objs.size, l] := by
    rw [Heap.size_push]; simp only [List.mem_cons, List.mem_singleton, List.not_mem_nil, or_false, not_or]
    exact ⟨Nat.ne_of_lt (Nat.lt_succ_self _), Nat.ne_of_gt hlS⟩
  have hget : ((s.heap.push (set0 w)).push { cls := .type "tuple_iterator", data := .fields #[.ref l, .int 0 0] }).get? s.heap.objs.size = some (set0 w) := Heap.get?_push_of_some _ (Heap.get?_push_size _ rfl)
  refine set_update_G (kOf_is P w) ((Walks.tuple (by simp [hh]) _ l hneI items).toS) s.heap.objs.size hSf ks hisz hb hval (items.size - 0) 0 _ (by omega) (Nat.zero_le _)
    ⟨⟨_, Heap.get?_push_size _ rfl, rfl, rfl⟩, (hl1.push _)⟩ ⟨[], Nat.le_refl _, setG_fresh _ hget, rfl⟩ fun s' hm hS' => ?_
  obtain ⟨h', tk, e, a1, a2⟩ := setG_moved rfl rfl hm hS'
  subst e
  refine wpAny_pure ?_
  show wpAny _ _ (ret Value.none) _ _ _
  exact wpAny_pure (h h' tk a1 a2)
set_option maxHeartbeats 3200000 in
theorem init_setL {l : Addr} {items : Array Value} (ks : List Key) (hh : A.handled = none) (hl : s.heap.IsList l items) (hit : Vals (ks.map kV) items.toList) (hb : ks.length + 1 < scanBound) {R : PySem.Fin → Shared → Prop}
    (h : ∀ (h' : Heap) (tk : Nat), SetG (mixKind P w) kOf h' s.heap.objs.size (addAll [] ks) → (∀ b o, s.heap.get? b = some o → h'.get? b = some o) → R (.done (.ret .none)) { s with heap := h', toks := tk }) :
    wpAny (model P w) A (Builtin.«set.__init__» ⟨[.ref s.heap.objs.size, .ref l], []⟩) R E { s with heap := s.heap.push (set0 w) } := by
  have hlS : l < s.heap.objs.size := let ⟨o, e, _⟩ := hl; Heap.lt_size e
  obtain ⟨ol, hol, hcl, nl, hdl⟩ := hl
  obtain ⟨ocls, odict, odata, oslots⟩ := ol
  simp only at hcl hdl
  subst hcl; subst hdl
  have hol' : (s.heap.push (set0 w)).get? l = some { cls := .type "list", dict := odict, data := .seq items nl, slots := oslots } := Heap.get?_push_of_some _ hol
  have hsls := F.sub_list_set
  have hslf := F.sub_list_frozenset
  have hne : (Value.type "list" == Value.type "dict") = false := by decide
  have hl1 : (s.heap.push (set0 w)).IsList l items := ⟨_, hol', rfl, nl, rfl⟩
  unfold Builtin.«set.__init__» noKeywords Builtin.Frozenset.updateFrom
  generalize hPI : pyIter = PI
  wp_walk
  subst hPI
  refine wpAny_pyIter_list hl1 ?_
  refine wpAny_bind (wpAny_runValue ?_)
  obtain ⟨hisz, hval⟩ := call_setG_vals (P := P) (w := w) hit
  have hneI : l ≠ (s.heap.push (set0 w)).objs.size := by
    rw [Heap.size_push]; exact Nat.ne_of_lt (Nat.lt_succ_of_lt hlS)
  have hSf : s.heap.objs.size ∉ [(s.heap.push (set0 w)).objs.size, l] := by
    rw [Heap.size_push]; simp only [List.mem_cons, List.mem_singleton, List.not_mem_nil, or_false, not_or]
    exact ⟨Nat.ne_of_lt (Nat.lt_succ_self _), Nat.ne_of_gt hlS⟩
  have hget : ((s.heap.push (set0 w)).push { cls := .type "list_iterator", data := .fields #[.ref l, .int 0 0] }).get? s.heap.objs.size = some (set0 w) := Heap.get?_push_of_some _ (Heap.get?_push_size _ rfl)
  refine set_update_G (kOf_is P w) ((Walks.list (by simp [hh]) _ l hneI items).toS) s.heap.objs.size hSf ks hisz hb hval (items.size - 0) 0 _ (by omega) (Nat.zero_le _)
    ⟨⟨_, Heap.get?_push_size _ rfl, rfl, rfl⟩, (hl1.push _)⟩ ⟨[], Nat.le_refl _, setG_fresh _ hget, rfl⟩ fun s' hm hS' => ?_
  obtain ⟨h', tk, e, a1, a2⟩ := setG_moved rfl rfl hm hS'
  subst e
  refine wpAny_pure ?_
  show wpAny _ _ (ret Value.none) _ _ _
  exact wpAny_pure (h h' tk a1 a2)
set_option maxHeartbeats 3200000 in
theorem call_setG (isT : Bool) {l : Addr} {items : Array Value} (ks : List Key) {Q : Value → Shared → Prop} (hh : A.handled = none) (hl : IsSeqA isT s.heap l items) (hit : Vals (ks.map kV) items.toList) (hb : ks.length + 1 < scanBound)
    (h : ∀ (h' : Heap) (tk : Nat), SetG (mixKind P w) kOf h' s.heap.objs.size (addAll [] ks) → (∀ b o, s.heap.get? b = some o → h'.get? b = some o) → Q (.ref s.heap.objs.size) { s with heap := h', toks := tk }) :
    wpAny (model P w) A (call (.type "set") [.ref l]) Q E s := by
  obtain ⟨c, tl, hmro⟩ := F.called_set.mro
  have hmade := F.called_set.made
  have hsub := F.called_set.sub
  refine wpAny_call (codeAny_of_tree ?_)
  show wpAny _ _ (callAny (.type "set") _) _ _ _
  refine wpAny_pure ⟨Code.quiet_builtin _ (by decide +kernel), codeAny_builtin F.entry_type_call ?_⟩
  rw [Around.under_plain (weight_type_call_type "set" [.ref l] []) rfl]
  have h1 := F.called_set.notType
  have h2 := F.called_set.canCreate
  have hct := F.typeCall_set_1 (.ref l)
  repeat (any_goals (first | assumption | wp_step))
  refine codeAny_mono (code_set_led1 (.ref l) (E := E) (Q₁ := fun obj s₁ => obj = .ref s.heap.objs.size ∧ s₁ = { s with heap := s.heap.push (set0 w) }) ⟨rfl, rfl⟩) fun r s₁ hr => ?_
  cases r with
  | error e => exact hr
  | ok fl =>
    cases fl with
    | ret obj =>
      obtain ⟨rfl, rfl⟩ := hr
      have hS : (s.heap.push (set0 w)).get? s.heap.objs.size = some (set0 w) := Heap.get?_push_size _ rfl
      have hT : Shared.TypeIs { s with heap := s.heap.push (set0 w) } (.ref s.heap.objs.size) "set" := ⟨_, hS, rfl⟩
      have hli := F.called_set.init.lookup
      have hbi := F.called_set.init.bind (.ref s.heap.objs.size)
      repeat (any_goals (first | assumption | wp_step))
      refine codeAny_mono (codeAny_call_builtin (R := wants (fun r s₂ => r = .none ∧ ∃ h' tk, s₂ = { s with heap := h', toks := tk } ∧ SetG (mixKind P w) kOf h' s.heap.objs.size (addAll [] ks) ∧
          (∀ b o, s.heap.get? b = some o → h'.get? b = some o)) E) F.called_set.init.plain F.entry_set_init (check_set_init_1 hT ?_)) fun r₂ s₂ hr₂ => ?_
      · cases isT with
        | true => exact init_setT ks (by simp [hh]) hl hit hb fun h' tk a b => ⟨rfl, h', tk, rfl, a, b⟩
        | false => exact init_setL ks (by simp [hh]) hl hit hb fun h' tk a b => ⟨rfl, h', tk, rfl, a, b⟩
      · cases r₂ with
        | error e => exact hr₂
        | ok fl₂ =>
          cases fl₂ with
          | ret r =>
            obtain ⟨rfl, h', tk, rfl, hS', hk'⟩ := hr₂
            repeat (any_goals (first | assumption | wp_step))
            exact h _ _ hS' hk'
          | _ => exact hr₂.elim
    | _ => exact hr.elim
end
end G
namespace G
open PySem PySem.Spec PyProof.Rows L2

/-! ### orders of keys -/
theorem le_total : PySem.W.TotalLe (PySem.W.dataLe false (id : PyData → PyData)) := PySem.W.sortLe_total _ _ _
theorem le_int (i j : Int) : PySem.W.dataLe false id (PyData.int i) (PyData.int j) = decide (i ≤ j) := congrFun (congrFun (PySem.W.dataLe_int fun b : Int => b) i) j
theorem le_str (x y : Str) : PySem.W.dataLe false id (PyData.str x) (PyData.str y) = decide (x.cps.toList ≤ y.cps.toList) := congrFun (congrFun (PySem.W.dataLe_str fun b : Str => b) x) y
theorem le_key_anti {k l : Key} (al : PySem.W.alike (keyD k) (keyD l) = true) (h1 : PySem.W.dataLe false id (keyD k) (keyD l) = true) (h2 : PySem.W.dataLe false id (keyD l) (keyD k) = true) : keyD k = keyD l := by
  cases k with
  | inl i =>
    cases l with
    | inl j =>
      simp only [keyD, le_int, decide_eq_true_eq] at h1 h2 ⊢
      rw [Int.le_antisymm h1 h2]
    | inr y => cases al
  | inr x =>
    cases l with
    | inl j => cases al
    | inr y =>
      simp only [keyD, le_str, decide_eq_true_eq] at h1 h2 ⊢
      have := List.le_antisymm h1 h2
      have e : x = y := by
        cases x; cases y
        simpa using this
      rw [e]
theorem sortOk_perm {ds es : List PyData} (p : ds.Perm es) (h : sortOk es = true) : sortOk ds = true := by
  unfold sortOk at h ⊢
  simp only [Bool.and_eq_true, decide_eq_true_eq, List.all_eq_true, Bool.or_eq_true] at h ⊢
  obtain ⟨⟨⟨h1, h2⟩, h3⟩, h4⟩ := h
  refine ⟨⟨⟨fun d hd => h1 d (p.mem_iff.mp hd), fun d hd e he => h2 d (p.mem_iff.mp hd) e (p.mem_iff.mp he)⟩, ?_⟩, by rw [p.length_eq]; exact h4⟩
  rcases h3 with h3 | h3
  · exact .inl fun d hd => h3 d (p.mem_iff.mp hd)
  · exact .inr fun d hd => h3 d (p.mem_iff.mp hd)
theorem sortD_perm {ks ls : List Key} (p : ks.Perm ls) (h : sortOk (ls.map keyD) = true) : sortD (ks.map keyD) = sortD (ls.map keyD) := by
  have al := (sortOk_spec h).2.1
  refine List.Perm.eq_of_pairwise (le := fun a b => PySem.W.dataLe false id a b = true) (fun a b ha hb h1 h2 => ?_) (PySem.W.sort_pairwise le_total _) (PySem.W.sort_pairwise le_total _)
    ((List.mergeSort_perm _ _).trans ((p.map _).trans (List.mergeSort_perm _ _).symm))
  have ha' := (p.map keyD).mem_iff.mp (List.mem_mergeSort.mp ha)
  have hb' := List.mem_mergeSort.mp hb
  obtain ⟨k, _, rfl⟩ := List.mem_map.mp ha'
  obtain ⟨l, _, rfl⟩ := List.mem_map.mp hb'
  exact le_key_anti (al _ ha' _ hb') h1 h2

/-! ### tuples are frozen late -/
def unT (F H : Hp) : Hp := fun a => match F a with
  | some o => some o
  | none => match H a with
    | some (.tup vs) => some (.tup vs)
    | _ => none
theorem Grow.unT {F H : Hp} (s : Sub F H) : Grow F H (unT F H) H [] := by
  refine ⟨fun a o e => by unfold G.unT; rw [e], fun a o e => ?_, fun _ _ e => e, fun a o e => ?_, fun a ha => by simp at ha⟩
  · unfold G.unT at e
    split at e
    · rename_i u hu; cases e; exact s _ _ hu
    · split at e
      · rename_i vs hv; cases e; exact hv
      · cases e
  · unfold G.unT at e
    split at e
    · rename_i u hu; cases e; exact .inl hu
    · split at e
      · rename_i vs hv; exact .inr (.inr ⟨vs, hv⟩)
      · cases e
theorem unT_tup {F H : Hp} (s : Sub F H) {a : Addr} {vs : List V} (h : H a = some (.tup vs)) : unT F H a = some (.tup vs) := by
  unfold unT
  cases e : F a with
  | none => simp [h]
  | some o => have := s _ _ e; rw [h] at this; cases this; rfl
theorem keys_isDs {K : Frag} {F : Hp} : ∀ (ks : List Key), IsDs K F (ks.map keyD) (ks.map kV)
  | [] => .nil
  | .inl i :: r => .cons (isD_int i) (keys_isDs r)
  | .inr x :: r => .cons (isD_str x) (keys_isDs r)
/-- what the items of a dict's walk are -/
theorem key_isD {K : Frag} {F : Hp} (k : Key) : IsD K F (keyD k) (kV k) := by
  cases k with
  | inl i => exact isD_int i
  | inr x => exact isD_str x
theorem keys_isD {K : Frag} {F : Hp} {k : List Key} {b : Addr} (h : F b = some (.tup (k.map kV))) : IsD K F (keysD k) (.ref b) := by
  unfold keysD IsD
  exact ⟨b, _, rfl, h, keys_isDs k⟩
theorem each_of_at {α β : Type} {R : α → β → Prop} : ∀ {us : List α} {ds : List β}, us.length = ds.length → (∀ (j : Nat) u d, us[j]? = some u → ds[j]? = some d → R u d) → PySem.W.EachIs R us ds
  | [], [], _, _ => .nil
  | u :: us, d :: ds, h, r => .cons (r 0 u d rfl rfl) (each_of_at (by simpa using h) fun j u d a b => r (j + 1) u d (by simpa using a) (by simpa using b))
  | [], _ :: _, h, _ => by simp at h
  | _ :: _, [], h, _ => by simp at h

/-! ### sorted of a dict's keys -/
def rSortK (K : Frag) : List V → Hp → VK → Prop := fun xs H Q => ∃ a ds, xs = [.ref a] ∧ ((∃ kvs : List (Key × V), Rd H a (.dK kvs) ∧ ds = kvs.map fun kv => keyD kv.1) ∨ (∃ kvs : List (List Key × V), Rd H a (.dT kvs) ∧ ds = kvs.map fun kv => keysD kv.1)) ∧
  sortOk ds = true ∧ ∀ G p ws, G = unT (fun _ => none) H → H p = none → IsDs K G (sortD ds) ws → Q (.ref p) (L2.upd H p (.lst ws))
theorem unT_sub (H : Hp) : Sub (unT (fun _ => none) H) H := fun a o e => (Grow.unT (F := fun _ => none) (H := H) (fun _ _ h => nomatch h)).sub a o e
theorem call_sortK {X : Cx} (hcalm : X.calm = true) (hu : X.A.units + 64 < cLine) : CallR X (.builtin "sorted") (rSortK X.K) := by
  intro pins s σ H xs us Q I r h
  obtain ⟨a, ds, rfl, hd, ok, q⟩ := h
  obtain ⟨u, rfl, rx⟩ := vals1 r
  cases rx
  refine sorted_from (H := H) hu ?_
  rcases hd with ⟨kvs, hr, rfl⟩ | ⟨kvs, hr, rfl⟩
  · obtain ⟨z, lo, vs, rel, dd⟩ := dk_rd I.hok hr
    obtain ⟨ep, hat⟩ := dd.dictAt
    have hl : vs.length = kvs.length := by
      have e := congrArg List.length rel.keys
      simpa using e.symm
    refine PySem.W.kdu_collect (A := X.A.in1) (PySem.W.kdl_dict (knd := mixKind X.prog X.w) (kvs := vs) (ep := ep) lo) (I.ok.hd hcalm) hat (by rw [hl]; exact z) fun h' tk acc hk hacc => ?_
    refine ⟨_, _, I.kept (t' := tk) hk, unT_sub H, each_of_at (by rw [Array.length_toList, hacc.1, hl, List.length_map]) fun j u d hu2 hd2 => ?_, ok, fun p ws hp hw => q _ p ws rfl hp hw⟩
    obtain ⟨k, x, e1, e2⟩ := hacc.2 j u (by rw [← Array.getElem?_toList]; exact hu2)
    have e3 : (vs.map (·.1))[j]? = some k := by rw [List.getElem?_map, e1]; rfl
    have e4 : (kvs.map (·.1))[j]? = some k := by
      have hk2 : kvs.map (·.1) = vs.map (·.1) := rel.keys
      rw [hk2]; exact e3
    rw [List.getElem?_map, Option.map_eq_some_iff] at hd2 e4
    obtain ⟨kv, hkv, rfl⟩ := hd2
    obtain ⟨kv', hkv', e5⟩ := e4
    rw [hkv] at hkv'
    cases hkv'
    refine ⟨kV k, ?_, by rw [e5]; exact key_isD k⟩
    rcases keyIs_shape (show keyIs k u = true from e2) with ⟨i, t, ek, ev⟩ | ⟨z, t, ek, ev⟩
    · subst ek; exact ⟨t, ev⟩
    · subst ek; exact ⟨t, ev⟩
  · obtain ⟨z, lo, vs, rel, o, es, ep, ho, hex, hdat, he, _, _⟩ := dt_rd I.hok hr
    have hl : vs.length = kvs.length := (Paired.length rel).symm
    have hsz : es.size = vs.length := by rw [← Array.length_toList, he, List.length_map]
    refine PySem.W.kdu_collect (A := X.A.in1) (PySem.KdlSrc.rawDict (es := es) (ep := ep) lo) (I.ok.hd hcalm) ⟨o, ho, hex, hdat⟩ (by rw [hsz, hl]; exact z) fun h' tk acc hk hacc => ?_
    refine ⟨_, _, I.kept (t' := tk) hk, unT_sub H, each_of_at (by rw [Array.length_toList, hacc.1, hsz, hl, List.length_map]) fun j u d hu2 hd2 => ?_, ok, fun p ws hp hw => q _ p ws rfl hp hw⟩
    obtain ⟨hi, e1⟩ := hacc.2 j u (by rw [← Array.getElem?_toList]; exact hu2)
    rw [List.getElem?_map, Option.map_eq_some_iff] at hd2
    obtain ⟨kv, hkv, rfl⟩ := hd2
    have hv : ∀ {l : List (List Key × V)} {m : List (List Key × Addr × Value)} {j : Nat} {kv : List Key × V}, KT H l m → l[j]? = some kv → ∃ x, m[j]? = some x ∧ H x.2.1 = some (.tup (kv.1.map kV)) := by
      intro l m j kv q
      induction q generalizing j with
      | nil => intro hx; simp at hx
      | @cons p q ps qs hq t ih =>
        intro hx
        cases j with
        | zero => simp at hx; subst hx; exact ⟨q, rfl, hq.2.1⟩
        | succ j => simpa using ih (j := j) (by simpa using hx)
    obtain ⟨x, hx, hb⟩ := hv rel hkv
    have e2 : es[j]? = some (entryOfKey (tupleKind (mixKind X.prog X.w)) x) := by
      rw [← Array.getElem?_toList, he, List.getElem?_map, hx]; rfl
    rw [Array.getElem?_eq_getElem hi] at e2
    have e3 := Option.some.inj e2
    refine ⟨.ref x.2.1, ?_, keys_isD (unT_tup (F := fun _ => none) (fun _ _ h => nomatch h) hb)⟩
    rw [e1, e3]
    rfl
/-- the rows of a frozen dict, without the mark -/
def dRows : List (PyData × PyData) → List (PyData × PyData)
  | (.none, _) :: r => r
  | kds => kds
def M.kv : M → Option (List PyData)
  | .dK l => some (l.map fun kv => keyD kv.1)
  | .dT l => some (l.map fun kv => keysD kv.1)
  | .leaf (.dict kds) => some ((dRows kds).map (·.1))
  | _ => none
theorem isKs_keys {K : Frag} {F : Hp} : ∀ {kds : List (PyData × PyData)} {kvs : List (Key × V)}, IsKs K F kds kvs → kds.map (·.1) = kvs.map fun kv => keyD kv.1
  | [], kvs, h => by unfold IsKs at h; subst h; rfl
  | (k, d) :: r, kvs, h => by
    unfold IsKs at h
    obtain ⟨kk, v, l', rfl, rfl, _, h2⟩ := h
    simp [isKs_keys h2]
theorem isTs_keys {K : Frag} {F : Hp} : ∀ {kds : List (PyData × PyData)} {kvs : List (List Key × V)}, IsTs K F kds kvs → kds.map (·.1) = kvs.map fun kv => keysD kv.1
  | [], kvs, h => by unfold IsTs at h; subst h; rfl
  | (k, d) :: r, kvs, h => by
    unfold IsTs at h
    obtain ⟨kk, v, l', rfl, rfl, _, h2⟩ := h
    simp [isTs_keys h2]
theorem dRows_K {K : Frag} {F : Hp} {kds : List (PyData × PyData)} {kvs : List (Key × V)} (h : IsKs K F kds kvs) : dRows kds = kds := by
  cases kds with
  | nil => rfl
  | cons p r =>
    obtain ⟨k, d⟩ := p
    unfold IsKs at h
    obtain ⟨kk, v, l', _, rfl, _, _⟩ := h
    cases kk <;> rfl
theorem isTm {K : Frag} {F : Hp} {kds : List (PyData × PyData)} {kvs : List (List Key × V)} (h : IsTm K F kds kvs) : ∃ r, kds = (.none, .none) :: r ∧ dRows kds = r ∧ IsTs K F r kvs := by
  cases kds with
  | nil => unfold IsTm at h; exact h.elim
  | cons p r =>
    obtain ⟨k, d⟩ := p
    unfold IsTm at h
    obtain ⟨rfl, rfl, h⟩ := h
    exact ⟨r, rfl, rfl, h⟩
theorem map_keyD {α β γ : Type} {f : α → γ} {l : List (α × β)} {r : List (α × δ)} (h : l.map (·.1) = r.map (·.1)) : (r.map fun kv => f kv.1) = l.map fun kv => f kv.1 := by
  have := congrArg (List.map f) h
  simpa [List.map_map, Function.comp_def] using this.symm
theorem rep_kv {K : Frag} {F H : Hp} {v : V} {x : M} {f : List Addr} {ds : List PyData} (s : Sub F H) (r : Rep K F H v x f) (h : x.kv = some ds) :
    ∃ a, v = .ref a ∧ ((∃ kvs : List (Key × V), Rd H a (.dK kvs) ∧ ds = kvs.map fun kv => keyD kv.1) ∨ (∃ kvs : List (List Key × V), Rd H a (.dT kvs) ∧ ds = kvs.map fun kv => keysD kv.1)) := by
  cases r with
  | leaf q =>
    rename_i d
    cases d with
    | dict kds =>
      cases h
      unfold IsD at q
      obtain ⟨a, rfl, ⟨kvs, hr, hk⟩ | ⟨kvs, hr, hk⟩⟩ := q
      · exact ⟨a, rfl, .inl ⟨kvs, Rd.mono' s hr, by rw [dRows_K hk]; exact isKs_keys hk⟩⟩
      · obtain ⟨r, _, er, hk⟩ := isTm hk
        exact ⟨a, rfl, .inr ⟨kvs, Rd.mono' s hr, by rw [er]; exact isTs_keys hk⟩⟩
    | _ => cases h
  | lst _ _ _ _ => cases h
  | dK h1 h2 e nd rs n => cases h; exact ⟨_, rfl, .inl ⟨_, .inl h1, map_keyD e⟩⟩
  | dT h1 h2 e nd rs n => cases h; exact ⟨_, rfl, .inr ⟨_, .inl h1, map_keyD e⟩⟩
  | ins _ _ _ _ _ => cases h
  | ro _ _ => cases h
def gSortK : M → Option M := fun x => x.kv.bind fun ds => if sortOk ds then some (.lst ((sortD ds).map .leaf)) else none
theorem r_sortK {K : Frag} : R1 K (fun v => rSortK K [v]) gSortK := by
  intro F H v x f y Q s r h q
  unfold gSortK at h
  rw [Option.bind_eq_some_iff] at h
  obtain ⟨ds, h, hh⟩ := h
  split at hh
  · rename_i ok
    cases hh
    obtain ⟨a, rfl, hd⟩ := rep_kv s r h
    refine ⟨a, ds, rfl, hd, ok, fun G p ws hG hp hw => ?_⟩
    have g0 := Grow.unT s
    have hs : Sub G (unT F H) := fun b o e => by
      subst hG
      unfold unT at e ⊢
      cases eF : F b with
      | none => simpa using e
      | some u =>
        have := s _ _ eF
        rw [this] at e
        dsimp only at e ⊢
        cases u <;> first | (cases e; rfl) | cases e
    have hF : unT F H p = none := by
      cases e : unT F H p with
      | none => rfl
      | some u => rw [g0.sub p u e] at hp; cases hp
    have g1 := Grow.own1 (o := .lst ws) g0.sub hp
    refine q _ _ _ [p] ⟨fun _ _ e => g0.mono _ _ e, g1.sub, g1.same, fun a o e => ?_, fun a ha => by simp at ha; subst ha; exact hp⟩ (.lst upd_same hF (reps_leaves (hw.mono hs)) (by simp))
    exact g0.new a o e
  · cases hh

/-! ### sorted(set(xs)) of keys -/
def rSortSet (K : Frag) : V → Hp → VK → Prop := fun x H Q => ∃ t a ks, x = .ref a ∧ SqA K H t a (ks.map kV) ∧ ks.length + 1 < scanBound ∧ sortOk ((addAll [] ks).map keyD) = true ∧
  ∀ p ws, H p = none → IsDs K H (sortD ((addAll [] ks).map keyD)) ws → Q (.ref p) (L2.upd H p (.lst ws))
theorem pe_sortSet {X : Cx} {a : Expr} {ta : TE} {p p2 q pos : Pos} (hc : X.calm = true) (hu : X.A.units + 64 < cLine) (hg : Gl X "sorted") (hm : X.mg "sorted" = none) (hg2 : Gl X "set") (hm2 : X.mg "set" = none) (ha : PE X a ta)
    (na : starEach [a] X.env = (false, eval a X.env) :: starEach [] X.env := by rfl) : PE X (.Call (.Name "sorted" p) [.Call (.Name "set" p2) [a] [] q] [] pos) (fun σ H Q => ta σ H fun x H1 => rSortSet X.K x H1 Q) := by
  refine ⟨fun pins s σ H Q I h => ?_⟩
  refine Call_ (ld_blt I hg hm PyProof.Rows.boot_sorted ?_)
  refine PyProof.Rows.callWith_builtin1 (PyProof.Rows.args_cons ?_ rfl) rfl rfl
  refine Call_ (ld_blt I hg2 hm2 PyProof.Rows.boot_set ?_)
  refine PyProof.Rows.callWith_type1 (PyProof.Rows.args_cons (thn (ha.run pins s σ H _ I h) fun v s1 ⟨x, H1, I1, r1, q1⟩ => PyProof.Rows.args_nil ?_) na) na rfl
  obtain ⟨t, l, ks, rfl, hq, hb, ok, q1⟩ := q1
  cases r1
  obtain ⟨its, rv, pl, hz⟩ := SqA.items I1 hq
  refine call_setG t ks (I1.ok.hd hc) pl (by simpa using rv) hb fun h' tk hS hk => ?_
  refine PyProof.Rows.args_nil ?_
  have I2 : Inv X pins σ H1 { s1 with heap := h', toks := tk } := I1.kept hk
  refine sorted_from (H := H1) hu ?_
  obtain ⟨o, es, ep, tb, ho, hex, hd, g, pm, nd, hb2, hf, hr, hl⟩ := hS
  refine collect_set (A := X.A.in1) (I1.ok.hd hc) ⟨o, ho, hex.1, hd⟩ hf hb2 hr hl fun s2 out k2 hz2 g2 o2 pm2 => ?_
  have pk : (out.map kOf).Perm (addAll [] ks) := by
    have z := pm2.map kOf
    rw [List.map_map] at z
    exact z.trans pm
  have hval : ∀ u ∈ out, RelV (kV (kOf u)) u := fun u hu2 => by
    obtain ⟨e, he, eu⟩ := List.mem_map.mp (pm2.mem_iff.mp hu2)
    obtain ⟨⟨k, hk1, _⟩, _⟩ := g e he
    subst eu
    rw [kOf_is _ _ _ _ hk1]
    rcases keyIs_shape (show keyIs k e.2 = true from hk1) with ⟨i, t, ek, ev⟩ | ⟨z, t, ek, ev⟩
    · subst ek; exact ⟨t, ev⟩
    · subst ek; exact ⟨t, ev⟩
  have I3 : Inv X pins σ H1 s2 := by
    have e : s2 = { s2 with gens := s2.gens } := rfl
    exact I2.call' (ch := []) o2 (Un.kept k2) (I2.hok.kept k2) (by rw [g2]; exact I2.bare) (fun _ z => nomatch z)
  refine ⟨(out.map kOf).map keyD, H1, I3, fun _ _ h => h, each_of_at (by simp) fun j u d hu2 hd2 => ?_, sortOk_perm (pk.map keyD) ok, fun p ws hp hw => q1 p ws hp ?_⟩
  · rw [List.getElem?_map, List.getElem?_map, hu2] at hd2
    cases hd2
    exact ⟨kV (kOf u), hval u (List.mem_of_getElem? hu2), key_isD _⟩
  · rw [← sortD_perm pk ok]; exact hw
def gSortSet : M → Option M := fun x => x.sv.bind fun ds => (keysOf ds).bind fun ks => if decide (ks.length < 1000) && sortOk ((addAll [] ks).map keyD) then some (.lst ((sortD ((addAll [] ks).map keyD)).map .leaf)) else none
theorem r_sortSet {K : Frag} : R1 K (rSortSet K) gSortSet := by
  intro F H v x f y Q s r h q
  unfold gSortSet at h
  rw [Option.bind_eq_some_iff] at h
  obtain ⟨ds, h, hh⟩ := h
  rw [Option.bind_eq_some_iff] at hh
  obtain ⟨ks, hk, hh⟩ := hh
  split at hh
  · rename_i ok
    cases hh
    rw [Bool.and_eq_true, decide_eq_true_eq] at ok
    obtain ⟨a, vs, rfl, h1, h2⟩ := rep_sv s r h
    have e := keysOf_is hk h2
    subst e
    have hF : ∀ p, H p = none → F p = none := fun p hp => by
      cases e : F p with
      | none => rfl
      | some u => rw [s p u e] at hp; cases hp
    have fin : ∀ p ws, H p = none → IsDs K H (sortD ((addAll [] ks).map keyD)) ws → Q (.ref p) (L2.upd H p (.lst ws)) := fun p ws hp hw => by
      have hw' : IsDs K F (sortD ((addAll [] ks).map keyD)) ws := by
        have hall : ∀ (l : List PyData), (∀ d ∈ l, ∃ k, d = keyD k) → ∀ ws, IsDs K H l ws → IsDs K F l ws := by
          intro l
          induction l with
          | nil => intro _ ws hw; unfold IsDs at hw; subst hw; exact .nil
          | cons d l ih =>
            intro hl ws hw
            unfold IsDs at hw
            obtain ⟨v, r, rfl, a1, a2⟩ := hw
            refine .cons ?_ (ih (fun d hd => hl d (by simp [hd])) r a2)
            obtain ⟨k, rfl⟩ := hl d (by simp)
            cases k with
            | inl i => exact isD_int_iff.mpr (isD_int_iff.mp a1)
            | inr z => exact isD_str_iff.mpr (isD_str_iff.mp a1)
        refine hall _ (fun d hd => ?_) ws hw
        obtain ⟨k, _, rfl⟩ := List.mem_map.mp (List.mem_mergeSort.mp hd)
        exact ⟨k, rfl⟩
      exact q _ _ _ [p] (Grow.own1 s hp) (.lst upd_same (hF p hp) (reps_leaves hw') (by simp))
    rcases h1 with h1 | h1
    · exact ⟨false, a, ks, rfl, h1, by unfold scanBound; omega, ok.2, fin⟩
    · exact ⟨true, a, ks, rfl, h1, by unfold scanBound; omega, ok.2, fin⟩
  · cases hh
section
variable {X : Cx} {E : XK} {a : Expr} {m : Env' → R M} {q : Env' → Option M} {p p2 q2 pos : Pos}
theorem de_sortSet (hc : X.calm = true) (hu : X.A.units + 64 < cLine) (hg : Gl X "sorted") (hm : X.mg "sorted" = none) (hg2 : Gl X "set") (hm2 : X.mg "set" = none) (ha : DE X E a m)
    (na : starEach [a] X.env = (false, eval a X.env) :: starEach [] X.env := by rfl) : DE X E (.Call (.Name "sorted" p) [.Call (.Name "set" p2) [a] [] q2] [] pos) (m1 gSortSet m) :=
  (pe_sortSet hc hu hg hm hg2 hm2 ha na).imp fun σ H Q h => i_1 r_sortSet σ H Q h
theorem de_sortSetq (hc : X.calm = true) (hu : X.A.units + 64 < cLine) (hg : Gl X "sorted") (hm : X.mg "sorted" = none) (hg2 : Gl X "set") (hm2 : X.mg "set" = none) (ha : DQ X a q)
    (na : starEach [a] X.env = (false, eval a X.env) :: starEach [] X.env := by rfl) : DE X E (.Call (.Name "sorted" p) [.Call (.Name "set" p2) [a] [] q2] [] pos) (m1q gSortSet q) :=
  (pe_sortSet hc hu hg hm hg2 hm2 ha na).imp fun σ H Q h => i_1q r_sortSet σ H Q h
end

/-! ### new dicts, a module's constant -/
def mNewK : Env' → R M := fun ρ => .ok (.dK []) ρ
def mNewT : Env' → R M := fun ρ => .ok (.dT []) ρ
section
variable {X : Cx} {E : XK} {pos : Pos} {x : Str}
theorem de_newK : DE X E (.Dict [] [] pos) mNewK := pe_dnewK.imp fun σ H Q ⟨F, ρ, φ, e, k⟩ => by
  intro p hp
  have g := Grow.own1 (o := .dK []) e.sub hp
  have hF : F p = none := by
    cases eF : F p with
    | none => rfl
    | some u => rw [e.sub p u eF] at hp; cases hp
  exact k F _ φ _ [p] (g.env e) (.dK (kvs := []) (kms := []) upd_same hF rfl List.nodup_nil .nil (by simp)) (g.off e) g.ext
theorem de_newT : DE X E (.Dict [] [] pos) mNewT := pe_dnewT.imp fun σ H Q ⟨F, ρ, φ, e, k⟩ => by
  intro p hp
  have g := Grow.own1 (o := .dT []) e.sub hp
  have hF : F p = none := by
    cases eF : F p with
    | none => rfl
    | some u => rw [e.sub p u eF] at hp; cases hp
  exact k F _ φ _ [p] (g.env e) (.dT (kvs := []) (kms := []) upd_same hF rfl List.nodup_nil .nil (by simp)) (g.off e) g.ext
theorem dq_globI {i : Int} {t : Tok} (hg : Gl X x) (hm : X.mg x = some (.int i t)) (hd : (x == ("__debug__" : Str)) = false := by decide) : DQ X (.Name x pos) (qC (.int i)) := dq_c (pe_glob (v := .int i) hg hm ⟨t, rfl⟩ hd) fun F => isD_int _
theorem dq_globS {i : Str} {t : Tok} (hg : Gl X x) (hm : X.mg x = some (.str i t)) (hd : (x == ("__debug__" : Str)) = false := by decide) : DQ X (.Name x pos) (qC (.str i)) := dq_c (pe_glob (v := .str i) hg hm ⟨t, rfl⟩ hd) fun F => isD_str _
end
end G
namespace G
open PySem PySem.Spec PyProof.Rows L2

/-! ### dict comprehensions, keys ints or texts -/
def M.key : M → Option Key
  | .leaf d => keyOf d
  | _ => none
def dLoop (g : PyData → Env' → Option Env') (t : Env' → R Bool) (mk mv : Env' → R M) (vs : List Nat) : List PyData → Env' → List (Key × M) → R (List (Key × M))
  | [], ρ, acc => .ok acc ρ
  | d :: ds, ρ, acc => match g d ρ with
    | none => .bad
    | some ρ2 => match t ρ2 with
      | .ok false ρ4 => dLoop g t mk mv vs ds (wipeE ρ4 vs) acc
      | .ok true ρ4 => match mk ρ4 with
        | .ok x ρ5 => match x.key with
          | none => .bad
          | some k => match mv ρ5 with
            | .ok y ρ6 => dLoop g t mk mv vs ds (wipeE ρ6 vs) (putG acc k y)
            | _ => .bad
        | _ => .bad
      | _ => .bad
def mDComp (it : Env' → R (List PyData)) (g : PyData → Env' → Option Env') (t : Env' → R Bool) (mk mv : Env' → R M) (vs : List Nat) : Env' → R M := fun ρ => match it ρ with
  | .ok ds ρ1 => if ds.length ≤ 1000000 ∧ (vs.all fun i => isLeaf ρ1[i]?) = true then match dLoop g t mk mv vs ds (wipeE ρ1 vs) [] with
      | .ok ms ρ2 => .ok (.dK ms) (rest' vs ρ1 0 ρ2)
      | _ => .bad
    else .bad
  | .err x ρ1 => .err x ρ1
  | .bad => .bad
theorem putG_len {κ α : Type} [DecidableEq κ] (kvs : List (κ × α)) (k : κ) (v : α) : (putG kvs k v).length ≤ kvs.length + 1 := by
  unfold putG; split <;> simp
theorem M.key_is {K : Frag} {F H : Hp} {x : M} {k : Key} {v : V} {f : List Addr} (h : x.key = some k) (r : Rep K F H v x f) : v = kV k := by
  cases r with
  | leaf q => exact keyOf_is h q
  | _ => cases h
section
variable {X : Cx} {E Eb : XK} {T : List Nat} {pos : Pos} {g : PyData → Env' → Option Env'} {it : Env' → R (List PyData)} {t : Env' → R Bool} {mk mv : Env' → R M} {kx vx tg iter : Expr} {ifs : List Expr} {scope : Scope} {own : List (Str × Nat)}
theorem i_dcomp {N : Addr → Prop} {vs : List Nat} (hT : ∀ i ∈ T, i ∈ vs) {K : Frag} {mg : Str → Option Value} (hE : ∀ c d H, ¬ Eb c d H) (σ : L2.St) (H : Hp) (Q : VK) :
    tE K mg E (mDComp it g t mk mv vs) σ H Q → tDc (tIL N K mg E it) (tG' K T g) (tB' K mg Eb t) (tE K mg Eb mk) (tE K mg Eb mv) vs σ H (unlE N Q) := fun ⟨F, ρ, φ, e, k⟩ => by
  refine ⟨F, ρ, φ, e, ?_⟩
  unfold mDComp at k
  cases hm : it ρ with
  | bad => rw [hm] at k; exact k.elim
  | err x ρ' => rw [hm] at k; exact k
  | ok ds ρ1 =>
    rw [hm] at k
    dsimp only at k
    intro F0 H0 φ1 F1 H1 Jt e0 x0 hL w1 D hD
    have e1 := hL.env e0
    by_cases hw : ds.length ≤ 1000000 ∧ (vs.all fun i => isLeaf ρ1[i]?) = true
    case neg => rw [if_neg hw] at k; exact k.elim
    rw [if_pos hw] at k
    obtain ⟨hlen, hleaf⟩ := hw
    generalize ho : dLoop g t mk mv vs ds (wipeE ρ1 vs) [] = o at k
    have hFD : F1 D = none := by
      cases q : F1 D with
      | none => rfl
      | some u => rw [e1.sub D u q] at hD; cases hD
    have g0 : Grow F1 H1 F1 (L2.upd H1 D (.dK [])) [D] := Grow.own1 e1.sub hD
    let W : Nat → Hp → Prop := fun i H' => ∃ F' ρ' φ' ms fs, EnvOk K F' H' (L2.wipe σ vs) ρ' φ' ∧ Rep K F' H' (.ref D) (.dK ms) (D :: fs) ∧ (∀ a ∈ D :: fs, ¬ Om φ' a) ∧ Sub F1 F' ∧
        Ext F1 H1 (Om φ1) F' H' (fun a => Om φ' a ∨ a ∈ D :: fs) ∧ ms.length ≤ i ∧ dLoop g t mk mv vs (ds.drop i) ρ' ms = o
    refine ⟨fun i m H' => m = ds.length - i ∧ i ≤ ds.length ∧ W i H', ⟨_, rfl, Nat.zero_le _, F1, wipeE ρ1 vs, wphi φ1 vs, [], [], g0.env (e1.wipe vs), .dK (kvs := []) upd_same hFD rfl List.nodup_nil .nil (by simp), fun a h => g0.off (e1.wipe vs) a h, fun _ _ h => h, ?_, Nat.zero_le _, ho⟩, ?_⟩
    · refine (g0.ext).less fun a h => ?_
      rcases h with h | h
      · exact .inl (om_wphi h)
      · exact .inr h
    rintro i m H' ⟨rfl, hi, F', ρ', φ', ms, fs, e', rD, off, s', x', hms, h'⟩
    by_cases hlt : i < ds.length
    · refine .inr ⟨w1.go i F' H' hlt (.of s') e'.sub, W (i + 1), fun H2 h2 => ⟨ds.length - (i + 1), by omega, rfl, hlt, h2⟩, fun x H2 hy => ?_⟩
      have hd : ds[i]? = some ds[i] := List.getElem?_eq_getElem hlt
      obtain ⟨F2, gr, rx⟩ := w1.yld i _ F' H' x H2 hd (.of s') e'.sub hy
      have e2 := gr.env e'
      have rD2 := gr.rep rD
      have x2 := x'.trans (gr.ext0 (O := fun a => Om φ' a ∨ a ∈ D :: fs))
      rw [List.drop_eq_getElem_cons hlt, dLoop] at h'
      refine ⟨F2, ρ', φ', ds[i], e2, rx, ?_⟩
      cases hgd : g ds[i] ρ' with
      | none => rw [hgd] at h'; subst h'; exact k.elim
      | some ρ2 =>
        rw [hgd] at h'
        dsimp only at h'
        intro φ3 σ3 e3 o3 s3
        have hwip : L2.wipe σ3 vs = L2.wipe σ vs := by
          rw [wipe_eq (σ := L2.wipe σ vs) (fun i hi => s3.at' i fun z => hi (hT i z)) s3.len]
          exact wipe_eq (fun i hi => wipe_out hi) (wipe_length _ _)
        have off3 : ∀ a ∈ D :: fs, ¬ Om φ3 a := fun a ha z => off a ha (o3 a z)
        have x3 : Ext F1 H1 (Om φ1) F2 H2 (fun a => Om φ3 a ∨ a ∈ D :: fs) := x2.less fun a h => h.imp (o3 a) id
        refine ⟨hwip, F2, ρ2, φ3, e3, ?_⟩
        cases ht : t ρ2 with
        | bad => rw [ht] at h'; subst h'; exact k.elim
        | err y ρ4 => rw [ht] at h'; subst h'; exact k.elim
        | ok b ρ4 =>
          rw [ht] at h'
          intro F4 H4 φ4 e4 x4
          obtain ⟨rD4, off4⟩ := rD2.ext x4 off3
          have x4' : Ext F1 H1 (Om φ1) F4 H4 (fun a => Om φ4 a ∨ a ∈ D :: fs) := x3.tmp rD2.fp off3 x4
          have s4 : Sub F1 F4 := fun a o q => x4.mono _ _ (gr.mono _ _ (s' _ _ q))
          cases b with
          | false =>
            rw [if_neg Bool.false_ne_true]
            dsimp only at h'
            have e5 := e4.wipe vs
            rw [hwip] at e5
            exact ⟨F4, _, _, ms, _, e5, rD4, fun a ha z => off4 a ha (om_wphi z), s4, x4'.less fun a h => h.imp om_wphi id, by omega, h'⟩
          | true =>
            rw [if_pos rfl]
            dsimp only at h'
            refine ⟨F4, ρ4, φ4, e4, ?_⟩
            cases hmk : mk ρ4 with
            | bad => rw [hmk] at h'; subst h'; exact k.elim
            | err y ρ5 => rw [hmk] at h'; subst h'; exact k.elim
            | ok y ρ5 =>
              rw [hmk] at h'
              dsimp only at h'
              intro F5 H5 φ5 v f e5 r5 d5 x5
              cases hk : y.key with
              | none => rw [hk] at h'; subst h'; exact k.elim
              | some kk =>
                rw [hk] at h'
                dsimp only at h'
                have hv := M.key_is hk r5
                obtain ⟨rD5, off5⟩ := rD4.ext x5.drop off4
                have x5' := x4'.tmp rD4.fp off4 x5.drop
                have s5 : Sub F1 F5 := fun a o q => x5.mono _ _ (s4 _ _ q)
                refine ⟨F5, ρ5, φ5, e5, ?_⟩
                cases hme : mv ρ5 with
                | bad => rw [hme] at h'; subst h'; exact k.elim
                | err y ρ6 => rw [hme] at h'; subst h'; exact k.elim
                | ok z ρ6 =>
                  rw [hme] at h'
                  dsimp only at h'
                  intro F6 H6 φ6 v6 f6 e6 r6 d6 x6
                  obtain ⟨rD6, off6⟩ := rD5.ext x6 off5
                  have x6' := x5'.tmp rD5.fp off5 x6
                  have s6 : Sub F1 F6 := fun a o q => x6.mono _ _ (s5 _ _ q)
                  have nf : ∀ a ∈ f6, a ∉ D :: fs := fun a ha hb => off6 a hb (.inr ha)
                  have hDf : D ∉ f6 := fun ha => nf D ha (by simp)
                  have offD : ¬ Om φ6 D := fun z => off6 D (by simp) (.inl z)
                  cases rD6 with
                  | dK q1 q2 he nd q3 q4 =>
                    rename_i kvs
                    have hl : kvs.length = ms.length := by have := congrArg List.length he; simpa using this
                    refine ⟨kvs, kk, hv, q1, ?_, ?_⟩
                    · have : sizeLine = 16777216 := sizeLine_eq
                      omega
                    obtain ⟨fp', g1, g2, g3⟩ := reps_put (k := kk) (r6.updN (D := D) (o := .dK (putK kvs kk v6)) hDf) he nd (q3.updN (D := D) (o := .dK (putK kvs kk v6)) q4) fun b hb z => nf b hb (by simp [z])
                    have e7 := (e6.upd (D := D) (o := .dK (putK kvs kk v6)) offD q2).wipe vs
                    rw [hwip] at e7
                    have nD' : D ∉ fp' := fun z => (g1 D z).elim q4 hDf
                    refine ⟨F6, _, _, putG ms kk z, fp', e7, .dK upd_same q2 g3 (nodup_putG nd kk z) g2 nD', fun a ha zz => ?_, s6, ?_, Nat.le_trans (putG_len _ _ _) (Nat.succ_le_succ hms), h'⟩
                    · have z' := om_wphi zz
                      rcases List.mem_cons.mp ha with rfl | ha
                      · exact offD z'
                      · rcases g1 a ha with ha | ha
                        · exact off6 a (by simp [ha]) (.inl z')
                        · exact d6 a ha z'
                    · refine (x6'.upd (D := D) (.inr (by simp))).less fun a h => ?_
                      rcases h with h | h
                      · exact .inl (.inl (om_wphi h))
                      · rcases List.mem_cons.mp h with rfl | h
                        · exact .inr (by simp)
                        · rcases g1 a h with h | h
                          · exact .inr (by simp [h])
                          · exact .inl (.inr h)
    · have hil : i = ds.length := by omega
      subst hil
      rw [List.drop_length, dLoop] at h'
      subst h'
      refine .inl ⟨w1.stop F' H' (.of s') e'.sub, ?_⟩
      dsimp only at k
      have xe : Ext F1 H1 (Om φ1) F' H' (fun a => Om (wphi φ' vs) a ∨ a ∈ D :: fs) := x'.less fun a h => h.imp om_wphi id
      obtain ⟨F3, H3, x3, e3, r3, q3⟩ := hL.open' (K := K) e0.sub xe e'.sub
      exact q3 _ (k F3 H3 (wphi φ' vs) (.ref D) (D :: fs) (e3 _ _ _ (e1.unwipe hleaf s' e')) (r3 _ _ _ rD) (fun a ha z => off a ha (om_wphi z)) (x0.trans x3))
theorem de_dcomp (hT : ∀ i ∈ T, i ∈ own.map (·.2)) (hc : X.calm = true) (hN : X.N.Nodup) (hi : DIL X E tg iter it) (ok : BlkOk X.N X.env.scope scope own)
    (hg : ∀ (s : Shared) (H : Hp) (C : Addr) (cl : List (Str × Addr)) (fp : List Addr), DG (X.blk s H scope (compEnvC scope cl C X.env) fp) T tg g) (ht : ∀ (s : Shared) (H : Hp) (C : Addr) (cl : List (Str × Addr)) (fp : List Addr), DTs (X.blk s H scope (compEnvC scope cl C X.env) fp) E0 ifs t)
    (hk : ∀ (s : Shared) (H : Hp) (C : Addr) (cl : List (Str × Addr)) (fp : List Addr), DE (X.blk s H scope (compEnvC scope cl C X.env) fp) E0 kx mk)
    (he : ∀ (s : Shared) (H : Hp) (C : Addr) (cl : List (Str × Addr)) (fp : List Addr), DE (X.blk s H scope (compEnvC scope cl C X.env) fp) E0 vx mv) (hs : ∀ x, foldedSetIterable iter X.env x = pure x := by intro _; rfl) :
    DE X E (.DictComp kx vx [⟨tg, iter, ifs, 0⟩] scope pos) (mDComp it g t mk mv (own.map (·.2))) := (pe_unlk (pe_dc hc hN hi ok hg ht hk he hs)).imp fun σ H Q h => i_dcomp hT (fun _ _ _ z => z) σ H Q h
theorem ps_setDc {i : Nat} {y : Str} {py spos : Pos} {wi : TI} {g : TG} {tt : TT} {tk tv : TE} (hc : X.calm = true) (hN : X.N.Nodup) (hy : X.N[i]? = some y) (hyl : X.env.scope.names.lookup y = some .local)
    (hsw : swapsWith (.DictComp kx vx [⟨tg, iter, ifs, 0⟩] scope pos) (some (.Name y py)) spos.line X.env = pure true) (hi : PI X tg iter wi) (ok : BlkOk X.N X.env.scope scope own)
    (hg : ∀ (s : Shared) (H : Hp) (C : Addr) (cl : List (Str × Addr)) (fp : List Addr), PG (X.blk s H scope (compEnvC scope cl C X.env) fp) tg g) (ht : ∀ (s : Shared) (H : Hp) (C : Addr) (cl : List (Str × Addr)) (fp : List Addr), PTs (X.blk s H scope (compEnvC scope cl C X.env) fp) ifs tt)
    (hk : ∀ (s : Shared) (H : Hp) (C : Addr) (cl : List (Str × Addr)) (fp : List Addr), PE (X.blk s H scope (compEnvC scope cl C X.env) fp) kx tk)
    (he : ∀ (s : Shared) (H : Hp) (C : Addr) (cl : List (Str × Addr)) (fp : List Addr), PE (X.blk s H scope (compEnvC scope cl C X.env) fp) vx tv) (hs : ∀ x, foldedSetIterable iter X.env x = pure x := by intro _; rfl) :
    PS X (.Assign [.Name y py] (.DictComp kx vx [⟨tg, iter, ifs, 0⟩] scope pos) spos) (tAsg (tDc wi g tt tk tv (own.map (·.2))) (gName i)) := by
  refine ⟨fun pins s σ H D I h => ?_⟩
  rw [exec_Assign_Name_used _ _ _ _ hsw]
  refine wpAny_bind (wpAny_standAt (wpAny_bind ?_))
  show wpAny _ X.A (do let _ ← comprehension (.DictComp kx vx [⟨tg, iter, ifs, 0⟩] scope pos) scope X.env (firstIterPos [⟨tg, iter, ifs, 0⟩] pos) newDict false (eval iter X.env) (some (assign (.Name y py) X.env))) _ _ s
  have h : tDc wi g tt tk tv (own.map (·.2)) σ H (fun x H1 => gName i x σ H1 D.nx) := h
  refine wpAny_bind (thn (dc_core (Qf := fun _ s' => SP X pins D .next s') hc hN I hi ok hg ht hk he hs h fun L C s' m H' I' q hn f => ?_) fun _ s' hq => wpAny_pure (wpAny_pure hq))
  show wpAny _ _ (assign (.Name y py) X.env (.ref L)) _ _ _
  refine wpAny_assign_Name (store_ok2 (v := V.ref L) I' hN hy (.inl hyl) rfl (fun s2 I2 ⟨a, sb, ha⟩ => ?_) (.inr hyl))
  obtain ⟨f0, f1, f2, f3, f4, f5⟩ := f
  have haC : C ≠ a := by
    rcases ha with z | z
    · rw [z]; exact f1
    · exact fun e => f4 y a z e.symm
  refine ⟨m, hn.sameBut sb haC, fun h3 sb3 => ?_⟩
  exact ⟨_, H', I2.turned (t' := s2.toks) (fun b o hb e => (sb3.2 b hb).trans e) f0 f1 f3 f4 f5, q⟩
theorem ds_setDComp {J : List Nat} {i : Nat} {y : Str} {py spos : Pos} (hj : i ∉ J) (hT : ∀ i ∈ T, i ∈ own.map (·.2)) (hc : X.calm = true) (hN : X.N.Nodup) (hy : X.N[i]? = some y) (hyl : X.env.scope.names.lookup y = some .local)
    (hsw : swapsWith (.DictComp kx vx [⟨tg, iter, ifs, 0⟩] scope pos) (some (.Name y py)) spos.line X.env = pure true) (hi : DIL X E tg iter it) (ok : BlkOk X.N X.env.scope scope own)
    (hg : ∀ (s : Shared) (H : Hp) (C : Addr) (cl : List (Str × Addr)) (fp : List Addr), DG (X.blk s H scope (compEnvC scope cl C X.env) fp) T tg g) (ht : ∀ (s : Shared) (H : Hp) (C : Addr) (cl : List (Str × Addr)) (fp : List Addr), DTs (X.blk s H scope (compEnvC scope cl C X.env) fp) E0 ifs t)
    (hk : ∀ (s : Shared) (H : Hp) (C : Addr) (cl : List (Str × Addr)) (fp : List Addr), DE (X.blk s H scope (compEnvC scope cl C X.env) fp) E0 kx mk)
    (he : ∀ (s : Shared) (H : Hp) (C : Addr) (cl : List (Str × Addr)) (fp : List Addr), DE (X.blk s H scope (compEnvC scope cl C X.env) fp) E0 vx mv) (hs : ∀ x, foldedSetIterable iter X.env x = pure x := by intro _; rfl) :
    DS X E J (.Assign [.Name y py] (.DictComp kx vx [⟨tg, iter, ifs, 0⟩] scope pos) spos) (mSet i (mDComp it g t mk mv (own.map (·.2)))) :=
  (ps_unlk (ps_setDc hc hN hy hyl hsw hi ok hg ht hk he hs)).imp fun D σ H h => i_dcomp hT (fun _ _ _ z => z) σ H _ (i_set hj D σ H h)
end
end G
namespace G
open PySem PySem.Spec PyProof.Rows L2

/-! ### xs[i], xs[j] = a, b -/
def putQ (i : Nat) (q : Env' → Option M) (d : PyData) : Env' → Option Env' := fun ρ => match qName i ρ, q ρ with
  | some m, some (.leaf kd) => (m.put kd (.leaf d)).map fun m' => ρ.set i (some m')
  | _, _ => none
def tPQ (K : Frag) (g : PyData → Env' → Option Env') : TG := fun v σ H Q => ∃ F ρ φ d, EnvOk K F H σ ρ φ ∧ IsD K F d v ∧ match g d ρ with
  | some ρ' => ∀ H' φ', EnvOk K F H' σ ρ' φ' → Ext F H (Om φ) F H' (Om φ') → Q σ H'
  | none => False
theorem pg_putQ {X : Cx} {i : Nat} {o k : Expr} {q : Env' → Option M} {pos : Pos} (hu : X.A.units + 1 < cLine) (ho : PE X o (tVar i)) (hk : DQ X k q) (ha : ∀ v, assign (.Subscript o k pos) X.env v = (do
      let ov ← holding [v] (eval o X.env)
      let iv ← holding [v, ov] (eval k X.env)
      standAt pos
      holding [v, ov, iv] (setItem ov iv v)
      release [v, ov, iv] []) := by intro _; rfl) : PG X (.Subscript o k pos) (tPQ X.K (putQ i q)) := (pg_sub ho hk (set_any hu) ha).imp fun v σ H Q ⟨F, ρ, φ, d, e, hd, h⟩ => by
  unfold putQ at h
  split at h
  · rename_i hh ρ' hp
    split at hp
    · rename_i m kd hq hk
      rw [Option.map_eq_some_iff] at hp
      obtain ⟨m', hm, rfl⟩ := hp
      obtain ⟨vm, hv, r⟩ := e.rep i _ (qName_some hq)
      refine ⟨vm, hv, F, ρ, φ, e, _, hk, fun vk fk rk => ?_⟩
      obtain ⟨c, ob, fp', g1, g2, g3, g4⟩ := rep_put e.sub r (rep_leaf rk) (.leaf hd) (fun a ha => by simp at ha) hm
      refine g4 _ ?_
      have e4 := e.mut (qName_some hq) hv g1 g3 fun a ha => (g2 a ha).imp id fun h => by simp at h
      refine h _ _ e4 ⟨fun _ _ h => h, fun a o h => .inl h, fun a o h n => ?_, fun a h => ?_⟩
      · rw [upd_ne (by rintro rfl; exact n ⟨i, g1⟩)]; exact h
      · rcases om_mut h with h | h
        · exact .inl h
        · rcases g2 a h with h | h
          · exact .inl ⟨i, h⟩
          · simp at h
    · cases hp
  · exact h.elim
def mSwap (i : Nat) (q1 q2 : Env' → Option M) (me : Env' → R M) : Env' → O := fun ρ => match me ρ with
  | .ok x ρ1 => match x.frz with
    | some (.tuple [d1, d2]) => match putQ i q1 d1 ρ1 with
      | some ρ2 => match putQ i q2 d2 ρ2 with
        | some ρ3 => .next ρ3
        | none => .bad
      | none => .bad
    | _ => .bad
  | .err x ρ1 => .err x ρ1
  | .bad => .bad
theorem ds_swap {X : Cx} {E : XK} {J : List Nat} {i kk : Nat} {o o2 k1 k2 e : Expr} {q1 q2 : Env' → Option M} {me : Env' → R M} {p1 p2 tp pos : Pos} (hc : X.calm = true) (hu : X.A.units + 1 < cLine) (he : DE X E e me) (ho : PE X o (tVar i)) (h1 : DQ X k1 q1) (ho2 : PE X o2 (tVar i)) (h2 : DQ X k2 q2)
    (hs : swapsWithSole [.Tuple [.Subscript o k1 p1, .Subscript o2 k2 p2] kk tp] e pos.line X.env = pure false := by rfl) (hw : swappedStores [.Tuple [.Subscript o k1 p1, .Subscript o2 k2 p2] kk tp] e X.env = pure none := by rfl)
    (h3 : (assignEach [.Tuple [.Subscript o k1 p1, .Subscript o2 k2 p2] kk tp] X.env).map (·.2) = [assign (.Tuple [.Subscript o k1 p1, .Subscript o2 k2 p2] kk tp) X.env] := by rfl)
    (hn : (assignEach [.Subscript o k1 p1, .Subscript o2 k2 p2] X.env).length = 2 := by rfl) (hst : (assignEach [.Subscript o k1 p1, .Subscript o2 k2 p2] X.env).findIdx? (·.1) = none := by rfl)
    (ha : ∀ v, assign (.Subscript o k1 p1) X.env v = (do
      let ov ← holding [v] (eval o X.env)
      let iv ← holding [v, ov] (eval k1 X.env)
      standAt p1
      holding [v, ov, iv] (setItem ov iv v)
      release [v, ov, iv] []) := by intro _; rfl)
    (ha2 : ∀ v, assign (.Subscript o2 k2 p2) X.env v = (do
      let ov ← holding [v] (eval o2 X.env)
      let iv ← holding [v, ov] (eval k2 X.env)
      standAt p2
      holding [v, ov, iv] (setItem ov iv v)
      release [v, ov, iv] []) := by intro _; rfl)
    (hs1 : (assignEach [.Subscript o k1 p1, .Subscript o2 k2 p2] X.env).map (·.2) = assign (.Subscript o k1 p1) X.env :: (assignEach [.Subscript o2 k2 p2] X.env).map (·.2) := by rfl)
    (hs2 : (assignEach [.Subscript o2 k2 p2] X.env).map (·.2) = assign (.Subscript o2 k2 p2) X.env :: (assignEach [] X.env).map (·.2) := by rfl) :
    DS X E J (.Assign [.Tuple [.Subscript o k1 p1, .Subscript o2 k2 p2] kk tp] e pos) (mSwap i q1 q2 me) :=
  (ps_asg he (pg_tup hc (pgs_cons (pg_putQ hu ho h1 ha) (pgs_cons (pg_putQ hu ho2 h2 ha2) pgs_nil hs2) hs1) hn hst) hs hw h3).imp fun D σ H ⟨F, ρ, φ, e, k⟩ => by
    refine ⟨F, ρ, φ, e, ?_⟩
    unfold mSwap at k
    cases hm : me ρ with
    | bad => rw [hm] at k; exact k.elim
    | err x ρ' => rw [hm] at k; exact k.err
    | ok x ρ1 =>
      rw [hm] at k
      dsimp only at k
      intro F1 H1 φ1 v f e1 r1 d1 x1
      split at k
      · rename_i d1' d2' hz
        have hn : ∀ a ∈ f, F1 a = none := fun a ha => (r1.fp a ha).2
        have e2 := e1.freeze d1 hn
        have x2 := x1.freeze hn
        have rd := r1.frozen hz
        unfold IsD at rd
        obtain ⟨a, vs, rfl, hq, hd⟩ := rd
        unfold IsDs at hd
        obtain ⟨v1, r', rfl, hd1, hd⟩ := hd
        unfold IsDs at hd
        obtain ⟨v2, r', rfl, hd2, hd⟩ := hd
        unfold IsDs at hd
        subst hd
        refine ⟨a, [v1, v2], rfl, SqT.of (e2.sub _ _ hq), rfl, v1, [v2], rfl, _, ρ1, φ1, d1', e2, hd1, ?_⟩
        cases hp1 : putQ i q1 d1' ρ1 with
        | none => rw [hp1] at k; exact k.elim
        | some ρ2 =>
          rw [hp1] at k
          dsimp only at k ⊢
          intro H3 φ3 e3 x3
          refine ⟨v2, [], rfl, _, ρ2, φ3, d2', e3, hd2, ?_⟩
          cases hp2 : putQ i q2 d2' ρ2 with
          | none => rw [hp2] at k; exact k.elim
          | some ρ3 =>
            rw [hp2] at k
            dsimp only at k ⊢
            intro H4 φ4 e4 x4
            exact ⟨rfl, k _ _ φ4 σ e4 ((x2.trans x3).trans x4) .refl⟩
      · exact k.elim

/-! ### name.update({..}), keys ints or texts -/
def mergeV {α : Type} (ks ls : List (Key × α)) : List (Key × α) := ls.foldl (fun acc kv => putG acc kv.1 kv.2) ks
theorem kv_merge {ls : List (Key × V)} {ws : List (Key × Value)} (r : KV ls ws) : ∀ {ks : List (Key × V)} {vs : List (Key × Value)}, KV ks vs → KV (mergeV ks ls) (PySem.merged vs ws) := by
  unfold KV at r
  induction r with
  | nil => intro ks vs h; exact h
  | @cons p q ps qs hq t ih =>
    intro ks vs h
    unfold mergeV PySem.merged
    rw [List.foldl_cons, List.foldl_cons]
    have := h.put p.1 hq.2
    rw [show putK ks p.1 p.2 = putG ks p.1 p.2 from rfl, show stored vs p.1 q.2 = stored vs q.1 q.2 by rw [hq.1]] at this
    exact ih this
theorem mergeV_len {α : Type} : ∀ (ls ks : List (Key × α)), (mergeV ks ls).length ≤ ks.length + ls.length
  | [], ks => by simp [mergeV]
  | l :: ls, ks => by
    have := mergeV_len ls (putG ks l.1 l.2)
    have h2 := putG_len ks l.1 l.2
    unfold mergeV at this ⊢
    rw [List.foldl_cons, List.length_cons]
    omega
def rUpd : V → List V → Hp → VK → Prop := fun x xs H Q => ∃ a b ks ls, x = .ref a ∧ xs = [.ref b] ∧ a ≠ b ∧ H a = some (.dK ks) ∧ Rd H b (.dK ls) ∧ ks.length + ls.length ≤ sizeLine ∧ Q .non (L2.upd H a (.dK (mergeV ks ls)))
theorem mt_update {X : Cx} : MtM X "dict.update" rUpd := by
  intro pins s σ H x xs v us Q I rx rxs h
  obtain ⟨a, b, ks, ls, rfl, rfl, hne, ha, hb, hz, q⟩ := h
  cases rx
  obtain ⟨u, rfl, ru⟩ := rxs.one
  cases ru
  obtain ⟨z, hd, vs, rel, dd⟩ := dk_of I.hok ha
  obtain ⟨z2, hd2, ws, rel2, dd2⟩ := dk_rd I.hok hb
  have l1 : ks.length = vs.length := by have := congrArg List.length rel.keys; simpa using this
  have l2 : ls.length = ws.length := by have := congrArg List.length rel2.keys; simpa using this
  refine call_meetsIn PySem.F.slot_dict_update dd.typeIs PySem.F.entry_dict_update (PySem.F.args_dict_update_2 _ _) (meets_dict_update (mixKind X.prog X.w) a b hne hd2) ⟨vs, ws, dd, dd2, by rw [← l1, ← l2]; exact hz, fun h' dd' _ hs => ?_⟩
  have he : ∃ q, h'.get? a = some q := let ⟨q, _, _, hq, _⟩ := dd'; ⟨q, hq⟩
  refine ⟨.non, _, d_write (t' := s.toks) I (by rw [ha]; exact True.intro) hs he (dk_new (Nat.le_trans (mergeV_len _ _) hz) hd (kv_merge rel2 rel) dd'), rfl, q⟩
theorem reps_merge {K : Frag} {F H : Hp} : ∀ {ls : List (Key × V)} {ds : List PyData} {ks : List (Key × V)} {ms : List (Key × M)} {fp : List Addr}, IsDs K F ds (ls.map (·.2)) → ks.map (·.1) = ms.map (·.1) → (ms.map (·.1)).Nodup → Reps K F H (ks.map (·.2)) (ms.map (·.2)) fp →
    ∃ fp', (∀ a ∈ fp', a ∈ fp) ∧ Reps K F H ((mergeV ks ls).map (·.2)) ((mergeV ms ((ls.map (·.1)).zip (ds.map M.leaf))).map (·.2)) fp' ∧ (mergeV ks ls).map (·.1) = (mergeV ms ((ls.map (·.1)).zip (ds.map M.leaf))).map (·.1) ∧ ((mergeV ms ((ls.map (·.1)).zip (ds.map M.leaf))).map (·.1)).Nodup
  | [], ds, ks, ms, fp, hd, e, nd, rs => ⟨fp, fun _ h => h, by simpa [mergeV] using rs, by simpa [mergeV] using e, by simpa [mergeV] using nd⟩
  | (k, v) :: ls, [], ks, ms, fp, hd, e, nd, rs => by unfold IsDs at hd; simp at hd
  | (k, v) :: ls, d :: ds, ks, ms, fp, hd, e, nd, rs => by
    unfold IsDs at hd
    obtain ⟨v', r', e', h1, h2⟩ := hd
    simp only [List.map_cons, List.cons.injEq] at e'
    obtain ⟨rfl, rfl⟩ := e'
    obtain ⟨fp1, g1, g2, g3⟩ := reps_put (k := k) (.leaf h1) e nd rs (fun a ha => by simp at ha)
    obtain ⟨fp2, p1, p2, p3, p4⟩ := reps_merge h2 g3 (nodup_putG nd k _) g2
    refine ⟨fp2, fun a ha => (g1 a (p1 a ha)).elim id fun z => by simp at z, ?_, ?_, ?_⟩
    · exact p2
    · exact p3
    · exact p4
def mUpd (i : Nat) (mv : Env' → R M) : Env' → O := fun ρ => match qName i ρ with
  | some (.dK _) => match mv ρ with
    | .ok (.dK ls) ρ1 => match M.frzs (ls.map (·.2)), qName i ρ1 with
      | some ds, some (.dK ms) => if ms.length + ls.length ≤ 16777216 then .next (ρ1.set i (some (.dK (mergeV ms ((ls.map (·.1)).zip (ds.map M.leaf)))))) else .bad
      | _, _ => .bad
    | .err x ρ1 => .err x ρ1
    | _ => .bad
  | _ => .bad
theorem frzK_dom {ls : List (Key × M)} {ds : List PyData} (h : M.frzs (ls.map (·.2)) = some ds) : (M.dK ls).frz = some (.dict ((ls.map fun x => keyD x.1).zip ds)) := by
  unfold M.frz
  rw [frzK_eq, h]; rfl
theorem ds_update {X : Cx} {E : XK} {J : List Nat} {i : Nat} {o e : Expr} {mv : Env' → R M} {pos pos' apos : Pos} (he : DE X E e mv) (ho : PE X o (tVar i)) (hs : swapsWith (.Call (.Attribute o "update" apos) [e] [] pos) none pos'.line X.env = pure false := by rfl)
    (hbase : attributeBase o "update" X.env (eval o X.env) = eval o X.env := by rfl)
    (hfew : ((backTo pos (starEach [e] X.env)).all (fun x => !x.1) && (backToKw pos (keywordEach [] X.env)).all (fun x => x.1.isSome)
      && decide ([e].length + ([] : List Keyword).length + (if ([] : List Keyword).isEmpty then 0 else 1) < 30)) = true := by rfl)
    (hline : (apos.endLine == pos.line) = true := by rfl) (hst : starEach [e] X.env = (false, eval e X.env) :: starEach [] X.env := by rfl) (hplain : (backTo pos (starEach [] X.env)).any (·.1) = false := by rfl) :
    DS X E J (.Expr (.Call (.Attribute o "update" apos) [e] [] pos) pos') (mUpd i mv) :=
  (ps_expr (pe_bm PySem.F.plainAttrs_dict PySem.F.slot_dict_update PySem.F.type_dict_update mt_update ho (pa_cons he pa_nil hst) hbase hfew hline hst hplain) hs).imp fun D σ H ⟨F, ρ, φ, e, q⟩ => by
    unfold mUpd at q
    split at q
    · rename_i ms0 hq
      obtain ⟨v, hv, r0⟩ := e.rep i _ (qName_some hq)
      refine ⟨v, hv, ?_, F, ρ, φ, e, ?_⟩
      · generalize φ i = fi at r0
        cases r0 with | dK h1 h2 h3 h4 h5 h6 => exact .inr (.inr (.inl ⟨rfl, .inl ⟨_, h1⟩⟩))
      · cases hm : mv ρ with
        | bad => rw [hm] at q; exact q.elim
        | err x ρ' => rw [hm] at q; exact q.err
        | ok y ρ1 =>
          rw [hm] at q
          intro F1 H1 φ1 vy f e1 r1 d1 x1
          cases y with
          | dK ls =>
            dsimp only at q
            split at q
            · rename_i ds ms hfz hq2
              split at q
              · rename_i hz
                have hn : ∀ a ∈ f, F1 a = none := fun a ha => (r1.fp a ha).2
                have hfr := r1.frozen (frzK_dom hfz)
                have e2 := e1.freeze d1 hn
                have x2 := x1.freeze hn
                obtain ⟨v2, hv2, rm⟩ := e2.rep i _ (qName_some hq2)
                rw [hv] at hv2; cases hv2
                have dm : ∀ a ∈ f, a ∉ φ1 i := fun a ha hb => d1 a ha ⟨i, hb⟩
                cases r1 with
                | dK b1 b2 bk bn bs bf =>
                  rename_i b lvs fs
                  have hds : IsDs X.K (fz F1 H1 (b :: fs)) ds (lvs.map (·.2)) := bs.data (fz_mono hn) (fun a ha o ho => by unfold fz; rw [if_pos (List.mem_cons_of_mem _ ha)]; exact ho) ds hfz
                  generalize hφ : φ1 i = fi at rm dm
                  cases rm with
                  | dK h1 h2 h3 h4 h5 h6 =>
                    rename_i a kvs fa
                    have hne : a ≠ b := fun z => dm b (by simp) (by rw [← z]; simp)
                    have l1 : kvs.length = ms.length := by have := congrArg List.length h3; simpa using this
                    have l2 : lvs.length = ls.length := by have := congrArg List.length bk; simpa using this
                    refine ⟨a, b, kvs, lvs, rfl, rfl, hne, h1, .inl b1, by rw [l1, l2, sizeLine_eq]; exact hz, ?_⟩
                    obtain ⟨fp', g1, g2, g3, g4⟩ := reps_merge hds h3 h4 (h5.updN (D := a) (o := .dK (mergeV kvs lvs)) h6)
                    rw [bk] at g2 g3 g4
                    have g5 : Rep X.K (fz F1 H1 (b :: fs)) (L2.upd H1 a (.dK (mergeV kvs lvs))) (.ref a) _ (a :: fp') := .dK upd_same h2 g3 g4 g2 fun z => h6 (g1 a z)
                    have hc : a ∈ φ1 i := by rw [hφ]; simp
                    have e4 := e2.mut (qName_some hq2) hv hc g5 fun b hb => by
                      rw [hφ]
                      rcases List.mem_cons.mp hb with rfl | hb
                      · exact .inl (by simp)
                      · exact .inl (by simp [g1 b hb])
                    refine q _ _ _ σ e4 ((x2.upd (D := a) ⟨i, hc⟩).less fun b h => ?_) .refl
                    rcases om_mut h with h | h
                    · exact h
                    · rcases List.mem_cons.mp h with rfl | h
                      · exact ⟨i, hc⟩
                      · exact ⟨i, by rw [hφ]; simp [g1 b h]⟩
              · exact q.elim
            · exact q.elim
          | _ => exact q.elim
    · exact q.elim

/-! ### text.upper(), str(int), list * int -/
def gUpper : M → Option PyData
  | .leaf (.str z) => if z.length ≤ 5592405 then some (.str (Txt.upper z)) else none
  | _ => none
theorem dq_upper {X : Cx} {o : Expr} {q : Env' → Option M} {apos pos : Pos} (ho : DQ X o q) (hbase : attributeBase o "upper" X.env (eval o X.env) = eval o X.env := by rfl) (hline : (apos.endLine == pos.line) = true := by rfl) :
    DQ X (.Call (.Attribute o "upper" apos) [] [] pos) (q1 gUpper q) := (pe_upper ho hbase hline).imp fun σ H Q h => by
  have hr : R1S X.K (fun v H Q => (∃ a, v = .str a) ∧ ∃ a, v = .str a ∧ ([] : List V) = [] ∧ a.length ≤ 5592405 ∧ Q (.str (Txt.upper a)) H) gUpper := by
    intro F H v x f d Q s r h q
    unfold gUpper at h
    split at h
    · split at h
      · rename_i hz
        cases h
        have := isD_str_iff.mp (rep_leaf r)
        subst this
        exact ⟨⟨_, rfl⟩, _, rfl, rfl, hz, q _ (isD_str _)⟩
      · cases h
    · cases h
  exact i_q1 hr σ H Q h
theorem r_str {K : Frag} : R1S K (fun v => fun H Q => ∃ i, [v] = [V.int i] ∧ i.natAbs.log2 < 1920 ∧ Q (.str (toString i)) H) gStr := by
  intro F H v x f d Q s r h q
  unfold gStr at h
  split at h
  · split at h
    · rename_i hz
      cases h
      have := isD_int_iff.mp (rep_leaf r)
      subst this
      exact ⟨_, rfl, hz, q _ (isD_str _)⟩
    · cases h
  · cases h
def gMul : M → M → Option M := fun x y => match y with
  | .leaf (.int k) => match x with
    | .leaf (.int i) => (gMulI (.leaf (.int i)) (.leaf (.int k))).map .leaf
    | _ => x.lv.bind fun ds => if decide (0 ≤ k) && absB k 9223372036854775807 && decide (ds.length * k.toNat ≤ 16777216) then some (.lst ((List.replicate k.toNat ds).flatten.map .leaf)) else none
  | _ => none
theorem isDs_rep {K : Frag} {F : Hp} {ds : List PyData} {vs : List V} (h : IsDs K F ds vs) : ∀ k : Nat, IsDs K F (List.replicate k ds).flatten (List.replicate k vs).flatten
  | 0 => by simpa using IsDs.nil
  | k + 1 => by
    rw [List.replicate_succ, List.replicate_succ, List.flatten_cons, List.flatten_cons]
    exact h.append (isDs_rep h k)
def rMulA : L2.R2 := fun x y H Q => rI CMul (fun i j => .int (i * j)) x y H Q ∨ rRep x y H Q
theorem op_mulA {X : Cx} : OpR X (binaryOp .Mult) rMulA := by
  intro pins s σ H x y v u Q I rx ry h
  rcases h with h | h
  · exact op_mul pins s σ H x y v u Q I rx ry h
  · exact op_rep pins s σ H x y v u Q I rx ry h
theorem r_mul {K : Frag} : R2 K rMulA gMul := by
  intro F H v x fa v2 x2 f2 y Q s r r2 h q
  unfold gMul at h
  split at h
  · rename_i k
    have h2 := isD_int_iff.mp (rep_leaf r2)
    subst h2
    split at h
    · rename_i i
      rw [Option.map_eq_some_iff] at h
      obtain ⟨d, h, rfl⟩ := h
      have h1 := isD_int_iff.mp (rep_leaf r)
      subst h1
      unfold gMulI gI2 at h
      dsimp only at h
      split at h
      · rename_i hz
        cases h
        refine .inl ⟨i, k, rfl, rfl, ?_, q F H _ [] (.refl s) (.leaf (isD_int _))⟩
        exact cmul_of hz
      · cases h
    · rename_i hx
      rw [Option.bind_eq_some_iff] at h
      obtain ⟨ds, hl, h⟩ := h
      split at h
      · rename_i hz
        cases h
        simp only [Bool.and_eq_true, decide_eq_true_eq, absB_iff] at hz
        obtain ⟨a, vs, rfl, h1, h2⟩ := rep_lv s r hl
        refine .inr ⟨a, k, vs, rfl, rfl, h1, by omega, by have := hz.1.2; omega, by rw [h2.length, sizeLine_eq]; exact hz.2, fun p hp => ?_⟩
        have hF : F p = none := by
          cases e : F p with
          | none => rfl
          | some u => rw [s p u e] at hp; cases hp
        exact q _ _ _ [p] (Grow.own1 s hp) (.lst upd_same hF (reps_leaves (isDs_rep h2 _)) (by simp))
      · cases h
  · cases h
end G
namespace G
open PySem PySem.Spec PyProof.Rows L2

/-- a def of the text with its mirror, at level k -/
structure FnT (P : Program) (w : World) (K : Frag) (mg : Str → Option Value) (base : Heap) (k : Nat) (x : Str) (n : Nat) (mf : List M → RF) : Prop where
  ex : ∃ f fd ps, FnOk P w K mg base CX0 k f fd ps (spD K mg n mf) ∧ mg x = some (.ref f) ∧ PySem.W.keepIn K (.ref f) = true ∧ Binds K fd ps []
theorem FnT.of {P : Program} {w : World} {K : Frag} {mg : Str → Option Value} {base : Heap} {k : Nat} {x x' qual : Str} {n : Nat} {mf : List M → RF} {st : Stmt} {f : Addr} {fd : FuncData} {ps : List Str} (F : Fun K x' qual st f fd) (hm : mg x = some (.ref f)) (b : Binds K fd ps [])
    (h : FnOk P w K mg base CX0 k f fd ps (spD K mg n mf)) : FnT P w K mg base k x n mf := ⟨f, fd, ps, h, hm, F.kp, b⟩
/-- a def that is never come to -/
theorem fnBad {P : Program} {w : World} {K : Frag} {mg : Str → Option Value} {base : Heap} {x qual : Str} {st : Stmt} {f : Addr} {fd : FuncData} {N ps : List Str} {k n : Nat} (F : Fun K x qual st f fd) (S : FnScope N ps (defScope st)) :
    FnOk P w K mg base CX0 (k + 1) f fd ps (spD K mg n fun _ => .bad) :=
  F.ok S (fun vs H Q E ⟨_, _, _, _, _, h⟩ => h.elim) fun cdv A outer s H vs Q E hr ⟨_, _, _, _, _, h⟩ => h.elim
section
variable {X : Cx} {E : XK} {es : List Expr} {as : List Am} {e0 : Expr} {x : Str} {p pos : Pos}
theorem de_callT {k n : Nat} {mf : List M → RF} (h : FnT X.prog X.w X.K X.mg X.base k x n mf) (hr : Room k X.A) (hg : Gl X x) (ha : DM X E (e0 :: es) as) (hl : as.length = n := by rfl) (hn : (refs as).Nodup := by decide) (hdb : (x == ("__debug__" : Str)) = false := by decide)
    (he : starEach (e0 :: es) X.env = (false, eval e0 X.env) :: starEach es X.env := by rfl) (hpl : (backTo pos (starEach es X.env)).any (·.1) = false := by rfl) : DE X E (.Call (.Name x p) (e0 :: es) [] pos) (mCall mf as) := by
  obtain ⟨f, fd, ps, h1, h2, h3, h4⟩ := h
  exact de_call h1 hr hg h2 h3 h4 ha hl hn hdb he hpl
theorem dq_cI {i : Int} (hg : Gl X x) (hm : ∃ t, X.mg x = some (.int i t)) (hd : (x == ("__debug__" : Str)) = false := by decide) : DQ X (.Name x pos) (qC (.int i)) := let ⟨_, h⟩ := hm; dq_globI hg h hd
theorem dq_cS {i : Str} (hg : Gl X x) (hm : ∃ t, X.mg x = some (.str i t)) (hd : (x == ("__debug__" : Str)) = false := by decide) : DQ X (.Name x pos) (qC (.str i)) := let ⟨_, h⟩ := hm; dq_globS hg h hd
end
/-- the script, as it is handed in -/
theorem spD_start {K : Frag} {mg : Str → Option Value} {H : Hp} {a : Addr} {ns : List Int} {mf : List M → RF} (hS : SqL K H a (ns.map V.int)) (h : ∃ outs, mf [.ro (ns.map .int)] = .ret (.leaf (.bool true)) outs) :
    spD K mg 1 mf [.ref a] H (fun v _ => v = .bl true) fun _ _ _ => False := by
  obtain ⟨outs, h⟩ := h
  have hF : Sub (fun b => if b = a then H a else none) H := fun b o e => by
    dsimp only at e
    split at e
    · rename_i hb; subst hb; exact e
    · cases e
  have hd : ∀ l : List Int, IsDs K (fun b => if b = a then H a else none) (l.map .int) (l.map V.int) := by
    intro l
    induction l with
    | nil => exact .nil
    | cons i l ih => exact .cons (isD_int i) ih
  have hq : SqL K (fun b => if b = a then H a else none) a (ns.map V.int) := by
    rcases hS with hS | hS
    · refine .inl ?_
      rcases hS with hS | ⟨o, hS⟩
      · exact .inl (by simpa using hS)
      · exact .inr ⟨o, by simpa using hS⟩
    · exact .inr hS
  refine ⟨rfl, fun b => if b = a then H a else none, [.ro (ns.map .int)], fun _ => [], ⟨hF, rfl, fun i m h => ?_, fun i j b h => by simp at h, fun _ _ => rfl⟩, ?_⟩
  · cases i with
    | zero =>
      simp at h; subst h
      exact ⟨.ref a, rfl, .ro hq (hd ns)⟩
    | succ i => simp at h
  · rw [h]
    intro F' H' φ' v f _ r _ _
    exact isD_bool_iff.mp (rep_leaf r)
end G
namespace G
open PySem PySem.Spec PyProof.Rows L2

/-! ### mirrors, run by simp -/
def O.seq (o : O) (b : Env' → O) : O := match o with
  | .next ρ => b ρ
  | o => o
@[simp] theorem O.seq_next (ρ : Env') (b : Env' → O) : (O.next ρ).seq b = b ρ := rfl
@[simp] theorem O.seq_ret (x : M) (ρ : Env') (b : Env' → O) : (O.ret x ρ).seq b = .ret x ρ := rfl
@[simp] theorem O.seq_brk (ρ : Env') (b : Env' → O) : (O.brk ρ).seq b = .brk ρ := rfl
@[simp] theorem O.seq_cont (ρ : Env') (b : Env' → O) : (O.cont ρ).seq b = .cont ρ := rfl
@[simp] theorem O.seq_bad (b : Env' → O) : O.bad.seq b = .bad := rfl
@[simp] theorem ap_seq (a b : Env' → O) (ρ : Env') : mSeq a b ρ = (a ρ).seq b := by unfold mSeq O.seq; rfl
@[simp] theorem ap_skip (ρ : Env') : mSkip ρ = .next ρ := rfl
def R.set (r : R M) (i : Nat) : O := match r with
  | .ok x ρ => .next (ρ.set i (some x))
  | .err x ρ => .err x ρ
  | .bad => .bad
@[simp] theorem R.set_ok (x : M) (ρ : Env') (i : Nat) : (R.ok x ρ).set i = .next (ρ.set i (some x)) := rfl
@[simp] theorem R.set_bad (i : Nat) : (R.bad : R M).set i = .bad := rfl
@[simp] theorem ap_set (i : Nat) (m : Env' → R M) (ρ : Env') : mSet i m ρ = (m ρ).set i := by unfold mSet R.set; rfl
def R.exp (r : R M) : O := match r with
  | .ok _ ρ => .next ρ
  | .err x ρ => .err x ρ
  | .bad => .bad
@[simp] theorem R.exp_ok (x : M) (ρ : Env') : (R.ok x ρ).exp = .next ρ := rfl
@[simp] theorem ap_expr (m : Env' → R M) (ρ : Env') : mExpr m ρ = (m ρ).exp := by unfold mExpr R.exp; rfl
def R.out (r : R M) : O := match r with
  | .ok x ρ => .ret x ρ
  | .err x ρ => .err x ρ
  | .bad => .bad
@[simp] theorem R.out_ok (x : M) (ρ : Env') : (R.ok x ρ).out = .ret x ρ := rfl
@[simp] theorem R.out_bad : (R.bad : R M).out = .bad := rfl
@[simp] theorem ap_ret (m : Env' → R M) (ρ : Env') : mRet m ρ = (m ρ).out := by unfold mRet R.out; rfl
def R.iff (r : R Bool) (a b : Env' → O) : O := match r with
  | .ok true ρ => a ρ
  | .ok false ρ => b ρ
  | .err x ρ => .err x ρ
  | .bad => .bad
@[simp] theorem R.iff_t (ρ : Env') (a b : Env' → O) : (R.ok true ρ).iff a b = a ρ := rfl
@[simp] theorem R.iff_f (ρ : Env') (a b : Env' → O) : (R.ok false ρ).iff a b = b ρ := rfl
theorem R.iff_ok (c : Bool) (ρ : Env') (a b : Env' → O) : (R.ok c ρ).iff a b = bif c then a ρ else b ρ := by cases c <;> rfl
@[simp] theorem R.iff_bad (a b : Env' → O) : (R.bad).iff a b = .bad := rfl
@[simp] theorem ap_ifS (c : Env' → R Bool) (a b : Env' → O) (ρ : Env') : mIfS c a b ρ = (c ρ).iff a b := by unfold mIfS R.iff; rfl
def R.for_ (r : R (List PyData)) (g : PyData → Env' → Option Env') (b : Env' → O) : O := match r with
  | .ok ds ρ => mLoop g b ds ρ
  | .err x ρ => .err x ρ
  | .bad => .bad
@[simp] theorem R.for_ok (ds : List PyData) (ρ : Env') (g : PyData → Env' → Option Env') (b : Env' → O) : (R.ok ds ρ).for_ g b = mLoop g b ds ρ := rfl
@[simp] theorem ap_for (it : Env' → R (List PyData)) (g : PyData → Env' → Option Env') (b : Env' → O) (ρ : Env') : mFor it g b ρ = (it ρ).for_ g b := by unfold mFor R.for_; rfl
def O.loop (o : O) (g : PyData → Env' → Option Env') (b : Env' → O) (ds : List PyData) : O := match o with
  | .next ρ => mLoop g b ds ρ
  | .cont ρ => mLoop g b ds ρ
  | .brk ρ => .next ρ
  | o => o
@[simp] theorem O.loop_next (ρ : Env') (g : PyData → Env' → Option Env') (b : Env' → O) (ds : List PyData) : (O.next ρ).loop g b ds = mLoop g b ds ρ := rfl
@[simp] theorem O.loop_ret (x : M) (ρ : Env') (g : PyData → Env' → Option Env') (b : Env' → O) (ds : List PyData) : (O.ret x ρ).loop g b ds = .ret x ρ := rfl
@[simp] theorem O.loop_bad (g : PyData → Env' → Option Env') (b : Env' → O) (ds : List PyData) : (O.bad).loop g b ds = .bad := rfl
@[simp] theorem loop_nil (g : PyData → Env' → Option Env') (b : Env' → O) (ρ : Env') : mLoop g b [] ρ = .next ρ := rfl
theorem loop_cons {g : PyData → Env' → Option Env'} {b : Env' → O} {d : PyData} {ds : List PyData} {ρ ρ1 : Env'} (h : g d ρ = some ρ1) : mLoop g b (d :: ds) ρ = (b ρ1).loop g b ds := by
  rw [mLoop, h]; unfold O.loop; rfl
def tstM (x : M) (ρ : Env') : R Bool := match x with
  | .leaf (.bool b) => .ok b ρ
  | _ => .bad
@[simp] theorem tstM_b (b : Bool) (ρ : Env') : tstM (.leaf (.bool b)) ρ = .ok b ρ := rfl
@[simp] theorem ap_test (m : Env' → R M) (ρ : Env') : mTest m ρ = (m ρ).bind tstM := by unfold mTest tstM; rfl
@[simp] theorem ap_andT (a b : Env' → R Bool) (ρ : Env') : mAndT a b ρ = (a ρ).bind fun c ρ1 => bif c then b ρ1 else .ok false ρ1 := rfl
@[simp] theorem ap_orT (a b : Env' → R Bool) (ρ : Env') : mOrT a b ρ = (a ρ).bind fun c ρ1 => bif c then .ok true ρ1 else b ρ1 := rfl
@[simp] theorem ap_notT (a : Env' → R Bool) (ρ : Env') : mNotT a ρ = (a ρ).bind fun c ρ1 => .ok (!c) ρ1 := rfl
@[simp] theorem ap_and (a b : Env' → R M) (ρ : Env') : mAnd a b ρ = ((a ρ).bind tstM).bind fun c ρ1 => bif c then b ρ1 else .ok (.leaf (.bool false)) ρ1 := by unfold mAnd; rw [ap_test]
@[simp] theorem ap_or (a b : Env' → R M) (ρ : Env') : mOr a b ρ = ((a ρ).bind tstM).bind fun c ρ1 => bif c then .ok (.leaf (.bool true)) ρ1 else b ρ1 := by unfold mOr; rw [ap_test]
@[simp] theorem ap_not (a : Env' → R M) (ρ : Env') : mNot a ρ = ((a ρ).bind tstM).bind fun c ρ1 => .ok (.leaf (.bool (!c))) ρ1 := by unfold mNot; rw [ap_test]
@[simp] theorem ap_if (c : Env' → R Bool) (a b : Env' → R M) (ρ : Env') : mIf c a b ρ = (c ρ).bind fun t ρ1 => bif t then a ρ1 else b ρ1 := rfl
def rd (o : Option M) (ρ : Env') : R M := match o with
  | some (.leaf d) => .ok (.leaf d) ρ
  | _ => .bad
@[simp] theorem rd_leaf (d : PyData) (ρ : Env') : rd (some (.leaf d)) ρ = .ok (.leaf d) ρ := rfl
@[simp] theorem ap_Q (q : Env' → Option M) (ρ : Env') : mQ q ρ = rd (q ρ) ρ := by unfold mQ rd; rfl
@[simp] theorem ap_C (d : PyData) (ρ : Env') : qC d ρ = some (.leaf d) := rfl
@[simp] theorem ap_q (i : Nat) (ρ : Env') : qName i ρ = (ρ[i]?).join := rfl
def nmM (o : Option M) (i : Nat) (ρ : Env') : R M := match o with
  | some (.leaf d) => .ok (.leaf d) ρ
  | some m => match m.frz with
    | some d => .ok (.leaf d) (ρ.set i (some (.leaf d)))
    | none => .bad
  | none => .bad
@[simp] theorem nmM_leaf (d : PyData) (i : Nat) (ρ : Env') : nmM (some (.leaf d)) i ρ = .ok (.leaf d) ρ := rfl
@[simp] theorem frzs_leaves (ds : List PyData) : M.frzs (ds.map .leaf) = some ds := by
  induction ds with
  | nil => rfl
  | cons d r ih => simp [M.frzs, M.frz, ih]
@[simp] theorem frz_leaf (d : PyData) : (M.leaf d).frz = some d := rfl
@[simp] theorem frz_lst (ds : List PyData) : (M.lst (ds.map .leaf)).frz = some (.list ds) := by simp [M.frz]
@[simp] theorem frz_lst2 (ds : List M) : (M.lst ds).frz = (M.frzs ds).map .list := by simp [M.frz]
@[simp] theorem frzs_nil : M.frzs [] = some [] := rfl
@[simp] theorem frzs_cons1 (d : PyData) (ms : List M) : M.frzs (.leaf d :: ms) = (M.frzs ms).map (d :: ·) := by
  simp only [M.frzs, M.frz]; cases M.frzs ms <;> rfl
@[simp] theorem nmM_lst (ds : List PyData) (i : Nat) (ρ : Env') : nmM (some (.lst (ds.map .leaf))) i ρ = .ok (.leaf (.list ds)) (ρ.set i (some (.leaf (.list ds)))) := by
  unfold nmM; simp
@[simp] theorem ap_name (i : Nat) (ρ : Env') : mName i ρ = nmM (qName i ρ) i ρ := by unfold mName nmM; rfl
def mvM (o : Option M) (i : Nat) (ρ : Env') : R M := match o with
  | some m => .ok m (ρ.set i none)
  | none => .bad
@[simp] theorem mvM_some (m : M) (i : Nat) (ρ : Env') : mvM (some m) i ρ = .ok m (ρ.set i none) := rfl
@[simp] theorem ap_move (i : Nat) (ρ : Env') : mMove i ρ = mvM (qName i ρ) i ρ := by unfold mMove mvM; rfl
@[simp] theorem ap_q1 (g : M → Option PyData) (q : Env' → Option M) (ρ : Env') : q1 g q ρ = (q ρ).bind fun x => (g x).map .leaf := by
  unfold q1 lf; cases q ρ <;> rfl
@[simp] theorem ap_q2 (g : M → M → Option PyData) (a b : Env' → Option M) (ρ : Env') : q2 g a b ρ = (a ρ).bind fun x => (b ρ).bind fun y => (g x y).map .leaf := by
  unfold q2 lf2; cases a ρ <;> cases b ρ <;> rfl
def opt (o : Option M) (ρ : Env') : R M := match o with
  | some y => .ok y ρ
  | none => .bad
@[simp] theorem opt_some (y : M) (ρ : Env') : opt (some y) ρ = .ok y ρ := rfl
@[simp] theorem opt_none (ρ : Env') : opt none ρ = .bad := rfl
@[simp] theorem ap_m1 (g : M → Option M) (m : Env' → R M) (ρ : Env') : m1 g m ρ = (m ρ).bind fun x ρ1 => opt (g x) ρ1 := by unfold m1 opt; rfl
@[simp] theorem ap_m1q (g : M → Option M) (q : Env' → Option M) (ρ : Env') : m1q g q ρ = opt ((q ρ).bind g) ρ := by
  unfold m1q opt; cases q ρ with
  | none => rfl
  | some x => first | (dsimp only [Option.bind]; done) | (dsimp only [Option.bind]; rfl)
@[simp] theorem ap_m2 (g : M → M → Option M) (a b : Env' → R M) (ρ : Env') : m2 g a b ρ = (a ρ).bind fun x ρ1 => (b ρ1).bind fun y ρ2 => opt (g x y) ρ2 := by unfold m2 opt; rfl
@[simp] theorem ap_m2q (g : M → M → Option M) (a b : Env' → Option M) (ρ : Env') : m2q g a b ρ = opt ((a ρ).bind fun x => (b ρ).bind fun y => g x y) ρ := by
  unfold m2q opt; cases a ρ with
  | none => rfl
  | some x => cases b ρ with
    | none => rfl
    | some y => rfl
@[simp] theorem ap_m2eq (g : M → M → Option M) (a : Env' → R M) (b : Env' → Option M) (ρ : Env') : m2eq g a b ρ = (a ρ).bind fun x ρ1 => opt ((b ρ1).bind fun y => g x y) ρ1 := by
  unfold m2eq opt; congr 1; funext x ρ1; cases b ρ1 <;> rfl
def oM {α : Type} (o : Option M) (r : R α) : R α := match o with
  | some _ => r
  | none => .bad
@[simp] theorem oM_some {α : Type} (m : M) (r : R α) : oM (some m) r = r := rfl
@[simp] theorem ap_m2l (g : M → M → Option M) (i : Nat) (b : Env' → R M) (ρ : Env') : m2l g i b ρ = oM (qName i ρ) ((b ρ).bind fun y ρ1 => opt ((qName i ρ1).bind fun x => g x y) ρ1) := by
  unfold m2l oM opt
  cases qName i ρ with
  | none => rfl
  | some x => dsimp only; congr 1; funext y ρ1; cases qName i ρ1 <;> rfl
@[simp] theorem ap_lf (g : M → Option PyData) (x : M) : lf g x = (g x).map .leaf := rfl
@[simp] theorem ap_lf2 (g : M → M → Option PyData) (x y : M) : lf2 g x y = (g x y).map .leaf := rfl
@[simp] theorem ap_nil (ρ : Env') : mNil ρ = .ok [] ρ := rfl
def fz1 (o : Option PyData) (r : R (List PyData)) : R (List PyData) := match o with
  | some d => r.bind fun ds ρ => .ok (d :: ds) ρ
  | none => .bad
@[simp] theorem fz1_some (d : PyData) (r : R (List PyData)) : fz1 (some d) r = r.bind fun ds ρ => .ok (d :: ds) ρ := rfl
@[simp] theorem ap_cons (m : Env' → R M) (ms : Env' → R (List PyData)) (ρ : Env') : mCons m ms ρ = (m ρ).bind fun x ρ1 => fz1 x.frz (ms ρ1) := by
  unfold mCons fz1; congr 1; all_goals (try (funext x ρ1; cases x.frz <;> rfl))
@[simp] theorem ap_tup (ms : Env' → R (List PyData)) (ρ : Env') : mTup ms ρ = (ms ρ).bind fun ds ρ1 => .ok (.leaf (.tuple ds)) ρ1 := rfl
@[simp] theorem ap_lst (ms : Env' → R (List PyData)) (ρ : Env') : mLst ms ρ = (ms ρ).bind fun ds ρ1 => .ok (.lst (ds.map .leaf)) ρ1 := rfl
@[simp] theorem ap_newK (ρ : Env') : mNewK ρ = .ok (.dK []) ρ := rfl
@[simp] theorem ap_newT (ρ : Env') : mNewT ρ = .ok (.dT []) ρ := rfl
/-! calls -/
def fz2 (o : Option PyData) (r : R (List (Option PyData))) : R (List (Option PyData)) := match o with
  | some d => r.bind fun ds ρ => .ok (some d :: ds) ρ
  | none => .bad
@[simp] theorem fz2_some (d : PyData) (r : R (List (Option PyData))) : fz2 (some d) r = r.bind fun ds ρ => .ok (some d :: ds) ρ := rfl
@[simp] theorem evA_nil (ρ : Env') : evA [] ρ = .ok [] ρ := rfl
@[simp] theorem evA_val (m : Env' → R M) (as : List Am) (ρ : Env') : evA (.val m :: as) ρ = (m ρ).bind fun x ρ1 => fz2 x.frz (evA as ρ1) := by
  rw [evA]; rfl
@[simp] theorem evA_ref (j : Nat) (as : List Am) (ρ : Env') : evA (.ref j :: as) ρ = oM (qName j ρ) ((evA as ρ).bind fun ds ρ1 => .ok (none :: ds) ρ1) := by
  rw [evA]; unfold oM; cases qName j ρ <;> rfl
@[simp] theorem gat_nil (ρ : Env') : gat [] [] ρ = some [] := rfl
@[simp] theorem gat_val (m : Env' → R M) (as : List Am) (d : PyData) (ds : List (Option PyData)) (ρ : Env') : gat (.val m :: as) (some d :: ds) ρ = (gat as ds ρ).map (.leaf d :: ·) := rfl
@[simp] theorem gat_ref (j : Nat) (as : List Am) (ds : List (Option PyData)) (ρ : Env') : gat (.ref j :: as) (none :: ds) ρ = (qName j ρ).bind fun m => (gat as ds ρ).map (m :: ·) := by
  rw [gat]; cases qName j ρ <;> rfl
def cal (mf : List M → RF) (as : List Am) (o : Option (List M)) (ρ : Env') : R M := match o with
  | some ms => match mf ms with
    | .ret x outs => .ok x (scat as outs 0 ρ)
    | _ => .bad
  | none => .bad
def RF.back (r : RF) (as : List Am) (ρ : Env') : R M := match r with
  | .ret x outs => .ok x (scat as outs 0 ρ)
  | _ => .bad
@[simp] theorem RF.back_ret (x : M) (outs : Env') (as : List Am) (ρ : Env') : (RF.ret x outs).back as ρ = .ok x (scat as outs 0 ρ) := rfl
@[simp] theorem cal_some (mf : List M → RF) (as : List Am) (ms : List M) (ρ : Env') : cal mf as (some ms) ρ = (mf ms).back as ρ := rfl
@[simp] theorem ap_call (mf : List M → RF) (as : List Am) (ρ : Env') : mCall mf as ρ = (evA as ρ).bind fun ds ρ1 => cal mf as (gat as ds ρ1) ρ1 := by
  unfold mCall cal; rfl
@[simp] theorem refAt_nil (k j : Nat) : refAt [] k j = none := rfl
@[simp] theorem refAt_val (m : Env' → R M) (as : List Am) (k j : Nat) : refAt (.val m :: as) k j = refAt as (k + 1) j := rfl
@[simp] theorem refAt_ref (i : Nat) (as : List Am) (k j : Nat) : refAt (.ref i :: as) k j = if i = j then some k else refAt as (k + 1) j := rfl
def put1 (o : Option Nat) (outs : Env') (old : Option M) : Option M := match o with
  | some i => (outs[i]?).join
  | none => old
@[simp] theorem put1_some (i : Nat) (outs : Env') (old : Option M) : put1 (some i) outs old = (outs[i]?).join := rfl
@[simp] theorem put1_none (outs : Env') (old : Option M) : put1 none outs old = old := rfl
@[simp] theorem scat_nil (as : List Am) (outs : Env') (k : Nat) : scat as outs k [] = [] := rfl
@[simp] theorem scat_cons (as : List Am) (outs : Env') (k : Nat) (o : Option M) (r : Env') : scat as outs k (o :: r) = put1 (refAt as 0 k) outs o :: scat as outs (k + 1) r := rfl
def O.fin (o : O) (n : Nat) (J : List Nat) : RF := match o with
  | .next ρ => .ret (.leaf .none) (mask J 0 n ρ)
  | .ret x ρ => .ret x (mask J 0 n ρ)
  | .err x ρ => .err x (mask J 0 n ρ)
  | _ => .bad
@[simp] theorem O.fin_ret (x : M) (ρ : Env') (n : Nat) (J : List Nat) : (O.ret x ρ).fin n J = .ret x (mask J 0 n ρ) := rfl
@[simp] theorem O.fin_next (ρ : Env') (n : Nat) (J : List Nat) : (O.next ρ).fin n J = .ret (.leaf .none) (mask J 0 n ρ) := rfl
theorem run_ap (n N : Nat) (J : List Nat) (body : Env' → O) (ms : List M) : runF n N J body ms = (body (ms.map some ++ List.replicate (N - ms.length) none)).fin n J := by unfold runF O.fin; rfl
@[simp] theorem mask_0 (J : List Nat) (i : Nat) (ρ : Env') : mask J i 0 ρ = [] := rfl
@[simp] theorem mask_cons (J : List Nat) (i n : Nat) (o : Option M) (r : Env') : mask J i (n + 1) (o :: r) = (if i ∈ J then o else none) :: mask J (i + 1) n r := rfl
/-! stores -/
def putO (o : Option M) (i : Nat) (ρ : Env') : O := match o with
  | some m => .next (ρ.set i (some m))
  | none => .bad
@[simp] theorem putO_some (m : M) (i : Nat) (ρ : Env') : putO (some m) i ρ = .next (ρ.set i (some m)) := rfl
def R.oo (r : R M) (f : M → Env' → O) : O := match r with
  | .ok x ρ => f x ρ
  | .err x ρ => .err x ρ
  | .bad => .bad
@[simp] theorem R.oo_ok (x : M) (ρ : Env') (f : M → Env' → O) : (R.ok x ρ).oo f = f x ρ := rfl
@[simp] theorem R.oo_bad (f : M → Env' → O) : (R.bad : R M).oo f = .bad := rfl
def oO (o : Option M) (r : O) : O := match o with
  | some _ => r
  | none => .bad
@[simp] theorem oO_some (m : M) (r : O) : oO (some m) r = r := rfl
@[simp] theorem ap_put (i : Nat) (mv mk : Env' → R M) (ρ : Env') : mPut i mv mk ρ = (mv ρ).oo fun y ρ1 => oO (qName i ρ1) ((mk ρ1).oo fun k ρ2 => putO (k.frz.bind fun d => (qName i ρ2).bind fun m => m.put d y) i ρ2) := by
  unfold mPut R.oo oO putO
  cases mv ρ with
  | ok y ρ1 =>
    dsimp only
    cases qName i ρ1 with
    | none => rfl
    | some m0 =>
      dsimp only
      cases mk ρ1 with
      | ok k ρ2 =>
        dsimp only
        cases k.frz with
        | none => rfl
        | some d => cases qName i ρ2 <;> rfl
      | err x ρ2 => rfl
      | bad => rfl
  | err x ρ1 => rfl
  | bad => rfl
end G
namespace G
open PySem PySem.Spec PyProof.Rows L2

@[simp] theorem ap_noPart (ρ : Env') : mNoPart ρ = .ok none ρ := rfl
def prt (x : M) (ρ : Env') : R (Option Int) := match x with
  | .leaf (.int i) => .ok (some i) ρ
  | _ => .bad
@[simp] theorem prt_int (i : Int) (ρ : Env') : prt (.leaf (.int i)) ρ = .ok (some i) ρ := rfl
@[simp] theorem ap_part (m : Env' → R M) (ρ : Env') : mPart m ρ = (m ρ).bind prt := by unfold mPart prt; rfl
@[simp] theorem ap_sl (m : Env' → R M) (l h : Env' → R (Option Int)) (ρ : Env') : mSl m l h ρ = (m ρ).bind fun x ρ1 => (l ρ1).bind fun lo ρ2 => (h ρ2).bind fun hi ρ3 => opt (gSl x lo hi) ρ3 := by
  unfold mSl opt; rfl
theorem cutD_mem {ds : List PyData} {lo hi : Option Int} {x : PyData} (h : x ∈ cutD ds lo hi) : x ∈ ds := List.mem_of_mem_drop (List.mem_of_mem_take h)
theorem cutD_len {ds : List PyData} {lo hi : Option Int} : (cutD ds lo hi).length ≤ ds.length := by
  unfold cutD; rw [List.length_take, List.length_drop]; omega
@[simp] theorem gSl_list (ds : List PyData) (lo hi : Option Int) : gSl (.leaf (.list ds)) lo hi = some (.lst ((cutD ds lo hi).map .leaf)) := rfl
@[simp] theorem gSl_tuple (ds : List PyData) (lo hi : Option Int) : gSl (.leaf (.tuple ds)) lo hi = some (.leaf (.tuple (cutD ds lo hi))) := rfl
def put2 (o : Option Env') : O := match o with
  | some ρ => .next ρ
  | none => .bad
@[simp] theorem put2_some (ρ : Env') : put2 (some ρ) = .next ρ := rfl
def two2 (o : Option PyData) (f : PyData → PyData → Option Env') : O := match o with
  | some (.tuple [a, b]) => put2 (f a b)
  | _ => .bad
@[simp] theorem two2_t (a b : PyData) (f : PyData → PyData → Option Env') : two2 (some (.tuple [a, b])) f = put2 (f a b) := rfl
@[simp] theorem ap_swap (i : Nat) (q1 q2 : Env' → Option M) (me : Env' → R M) (ρ : Env') : mSwap i q1 q2 me ρ = (me ρ).oo fun x ρ1 => two2 x.frz fun a b => (putQ i q1 a ρ1).bind (putQ i q2 b) := by
  unfold mSwap R.oo
  cases me ρ with
  | ok x ρ1 =>
    dsimp only
    cases hx : x.frz with
    | none => rfl
    | some d =>
      cases d with
      | tuple ds =>
        match ds with
        | [a, b] =>
          simp only [two2_t]
          cases h : putQ i q1 a ρ1 with
          | none => simp [h, put2]
          | some ρ2 => simp only [h, Option.bind_some]; cases h2 : putQ i q2 b ρ2 <;> simp [h2, put2]
        | [] => rfl
        | [a] => rfl
        | a :: b :: c :: r => rfl
      | _ => rfl
  | err x ρ1 => rfl
  | bad => rfl
theorem putQ_lst {i : Nat} {q : Env' → Option M} {d : PyData} {ρ : Env'} {ms : List M} {j : Int} {n : Nat} (h1 : qName i ρ = some (.lst ms)) (h2 : q ρ = some (.leaf (.int j))) (h3 : ixN ms.length j = some n) : putQ i q d ρ = some (ρ.set i (some (.lst (ms.set n (.leaf d))))) := by
  unfold putQ
  rw [h1, h2]
  simp [M.put, h3]
def itm (o : Option (List PyData)) (ρ : Env') : R (List PyData) := match o with
  | some ds => .ok ds ρ
  | none => .bad
@[simp] theorem itm_some (ds : List PyData) (ρ : Env') : itm (some ds) ρ = .ok ds ρ := rfl
@[simp] theorem ap_it (m : Env' → R M) (ρ : Env') : mIt m ρ = (m ρ).bind fun x ρ1 => itm (x.frz.bind itemsD) ρ1 := by unfold mIt itm; rfl
@[simp] theorem items_list (ds : List PyData) : itemsD (.list ds) = some ds := rfl
@[simp] theorem items_tuple (ds : List PyData) : itemsD (.tuple ds) = some ds := rfl
def rg1 (l : List PyData) (ρ : Env') : R (List PyData) := match l with
  | [.int j] => if inR j then .ok (rangeD 0 1 j.toNat) ρ else .bad
  | _ => .bad
theorem rg1_ok {j : Int} (ρ : Env') (h : inR j = true) : rg1 [.int j] ρ = .ok (rangeD 0 1 j.toNat) ρ := by unfold rg1; simp [h]
@[simp] theorem ap_itR1 (ms : Env' → R (List PyData)) (ρ : Env') : mItR1 ms ρ = (ms ρ).bind rg1 := by unfold mItR1 rg1; rfl
theorem rangeD_mem {n : Nat} {d : PyData} (h : d ∈ rangeD 0 1 n) : ∃ k : Nat, k < n ∧ d = .int k := by
  unfold rangeD at h
  obtain ⟨k, hk, rfl⟩ := List.mem_map.mp h
  exact ⟨k, List.mem_range.mp hk, by simp⟩
@[simp] theorem ap_true (ρ : Env') : tTrue ρ = .ok true ρ := rfl

/-- a loop with an invariant -/
theorem loop_inv {g : PyData → Env' → Option Env'} {b : Env' → O} (P : Env' → Prop) {ds : List PyData} (hs : ∀ d ∈ ds, ∀ ρ, P ρ → ∃ ρ1 ρ2, g d ρ = some ρ1 ∧ b ρ1 = .next ρ2 ∧ P ρ2) : ∀ ρ, P ρ → ∃ ρ', mLoop g b ds ρ = .next ρ' ∧ P ρ' := by
  induction ds with
  | nil => intro ρ h; exact ⟨ρ, rfl, h⟩
  | cons d ds ih =>
    intro ρ h
    obtain ⟨ρ1, ρ2, h1, h2, h3⟩ := hs d (by simp) ρ h
    rw [loop_cons h1, h2, O.loop_next]
    exact ih (fun d hd => hs d (by simp [hd])) ρ2 h3
/-- a loop that may return -/
theorem loop_ret {g : PyData → Env' → Option Env'} {b : Env' → O} {ds : List PyData} {ρ0 : Env'} {x : M} {ρr : PyData → Env'} {f : PyData → Bool} {nx : PyData → Env'} (ok : Env' → Prop) (h0 : ok ρ0)
    (hs : ∀ d ∈ ds, ∀ ρ, ok ρ → ∃ ρ1, g d ρ = some ρ1 ∧ (f d = true → ∃ ρ2, b ρ1 = .next ρ2 ∧ ok ρ2) ∧ (f d = false → ∃ ρ2, b ρ1 = .ret x ρ2 ∧ ok ρ2)) :
    (ds.all f = true → ∃ ρ', mLoop g b ds ρ0 = .next ρ' ∧ ok ρ') ∧ (ds.all f = false → ∃ ρ', mLoop g b ds ρ0 = .ret x ρ' ∧ ok ρ') := by
  induction ds generalizing ρ0 with
  | nil => exact ⟨fun _ => ⟨ρ0, rfl, h0⟩, fun h => by simp at h⟩
  | cons d ds ih =>
    obtain ⟨ρ1, h1, h2, h3⟩ := hs d (by simp) ρ0 h0
    rw [loop_cons h1]
    cases hf : f d with
    | true =>
      obtain ⟨ρ2, h4, h5⟩ := h2 hf
      rw [h4, O.loop_next]
      simpa [hf] using ih h5 fun d hd => hs d (by simp [hd])
    | false =>
      obtain ⟨ρ2, h4, h5⟩ := h3 hf
      rw [h4, O.loop_ret]
      exact ⟨fun h => by simp [hf] at h, fun _ => ⟨ρ2, rfl, h5⟩⟩
/-! comprehensions over one name, without a test -/
theorem cLoop_map {i : Nat} {el : Env' → R M} {f : PyData → M} {ρ : Env'} : ∀ {ds : List PyData} {acc : List M}, (∀ d ∈ ds, el (ρ.set i (some (.leaf d))) = .ok (f d) (ρ.set i (some (.leaf d)))) →
    cLoop (gN i) tTrue el [i] ds (ρ.set i none) acc = .ok (acc ++ ds.map f) (ρ.set i none)
  | [], acc, _ => by simp [cLoop]
  | d :: ds, acc, h => by
    have e := h d (by simp)
    rw [cLoop]
    simp only [gN, List.set_set, ap_true, e, wipeE]
    rw [cLoop_map fun d hd => h d (by simp [hd])]
    simp
theorem rest_one {i : Nat} {ρ : Env'} (h : i < ρ.length) : rest' [i] ρ 0 (ρ.set i none) = ρ := by
  apply List.ext_getElem?
  intro j
  rw [rest_get, Nat.zero_add]
  by_cases hj : j = i
  · subst hj
    rw [List.getElem?_set_self h]
    simp [h]
  · rw [List.getElem?_set_ne (Ne.symm hj)]
    simp [hj]
theorem comp_map {i : Nat} {it : Env' → R (List PyData)} {el : Env' → R M} {f : PyData → M} {ρ0 ρ : Env'} {ds : List PyData} (hi : it ρ0 = .ok ds ρ) (hl : i < ρ.length) (hf : isLeaf ρ[i]? = true) (hz : ds.length ≤ 1000000)
    (h : ∀ d ∈ ds, el (ρ.set i (some (.leaf d))) = .ok (f d) (ρ.set i (some (.leaf d)))) : mComp it (gN i) tTrue el [i] ρ0 = .ok (.lst (ds.map f)) ρ := by
  unfold mComp
  rw [hi]
  simp only [List.all_cons, List.all_nil, hf, Bool.and_true, hz, and_self, if_true, wipeE]
  rw [cLoop_map h]
  simp [rest_one hl]
theorem dLoop_fold {i : Nat} {mk mv : Env' → R M} {kf : PyData → Key} {v : PyData} {ρ : Env'} : ∀ {ds : List PyData} {acc : List (Key × M)}, (∀ d ∈ ds, mk (ρ.set i (some (.leaf d))) = .ok (.leaf (keyD (kf d))) (ρ.set i (some (.leaf d))) ∧ mv (ρ.set i (some (.leaf d))) = .ok (.leaf v) (ρ.set i (some (.leaf d)))) →
    dLoop (gN i) tTrue mk mv [i] ds (ρ.set i none) acc = .ok (ds.foldl (fun a d => putG a (kf d) (.leaf v)) acc) (ρ.set i none)
  | [], acc, _ => by simp [dLoop]
  | d :: ds, acc, h => by
    obtain ⟨e1, e2⟩ := h d (by simp)
    have hk : (M.leaf (keyD (kf d))).key = some (kf d) := by cases kf d <;> rfl
    rw [dLoop]
    simp only [gN, List.set_set, ap_true, e1, e2, wipeE, hk]
    rw [dLoop_fold fun d hd => h d (by simp [hd])]
    simp
theorem dcomp_fold {i : Nat} {it : Env' → R (List PyData)} {mk mv : Env' → R M} {kf : PyData → Key} {v : PyData} {ρ0 ρ : Env'} {ds : List PyData} (hi : it ρ0 = .ok ds ρ) (hl : i < ρ.length) (hf : isLeaf ρ[i]? = true) (hz : ds.length ≤ 1000000)
    (h : ∀ d ∈ ds, mk (ρ.set i (some (.leaf d))) = .ok (.leaf (keyD (kf d))) (ρ.set i (some (.leaf d))) ∧ mv (ρ.set i (some (.leaf d))) = .ok (.leaf v) (ρ.set i (some (.leaf d)))) :
    mDComp it (gN i) tTrue mk mv [i] ρ0 = .ok (.dK (ds.foldl (fun a d => putG a (kf d) (.leaf v)) [])) ρ := by
  unfold mDComp
  rw [hi]
  simp only [List.all_cons, List.all_nil, hf, Bool.and_true, hz, and_self, if_true, wipeE]
  rw [dLoop_fold h]
  simp [rest_one hl]
theorem mem_putG {κ α : Type} [DecidableEq κ] {l : List (κ × α)} {k k' : κ} {v : α} : k' ∈ (putG l k v).map (·.1) ↔ k' ∈ l.map (·.1) ∨ k' = k := by
  rw [keys_putG]
  split
  · rename_i h
    constructor
    · exact .inl
    · rintro (h' | rfl)
      · exact h'
      · obtain ⟨x, hx, e⟩ := List.any_eq_true.mp h
        exact List.mem_map.mpr ⟨x, hx, by simpa using e⟩
  · simp
theorem mem_foldG {κ : Type} [DecidableEq κ] {kf : PyData → κ} {v : M} {k : κ} : ∀ {ds : List PyData} {acc : List (κ × M)}, k ∈ (ds.foldl (fun a d => putG a (kf d) v) acc).map (·.1) ↔ k ∈ acc.map (·.1) ∨ ∃ d ∈ ds, kf d = k
  | [], acc => by simp
  | d :: ds, acc => by
    rw [List.foldl_cons, mem_foldG, mem_putG]
    simp only [List.mem_cons, exists_eq_or_imp]
    constructor
    · rintro ((h | h) | h)
      · exact .inl h
      · exact .inr (.inl h.symm)
      · exact .inr (.inr h)
    · rintro (h | h | h)
      · exact .inl (.inl h)
      · exact .inl (.inr h.symm)
      · exact .inr h
theorem mem_mergeV {α : Type} {k : Key} : ∀ {ls ks : List (Key × α)}, k ∈ (mergeV ks ls).map (·.1) ↔ k ∈ ks.map (·.1) ∨ k ∈ ls.map (·.1)
  | [], ks => by simp [mergeV]
  | l :: ls, ks => by
    have := mem_mergeV (k := k) (ls := ls) (ks := putG ks l.1 l.2)
    unfold mergeV at this ⊢
    rw [List.foldl_cons, this, mem_putG]
    simp only [List.map_cons, List.mem_cons]
    constructor
    · rintro ((h | h) | h)
      · exact .inl h
      · exact .inr (.inl h)
      · exact .inr (.inr h)
    · rintro (h | h | h)
      · exact .inl (.inl h)
      · exact .inl (.inr h)
      · exact .inr h
theorem foldG_len {κ : Type} [DecidableEq κ] {kf : PyData → κ} {v : M} : ∀ {ds : List PyData} {acc : List (κ × M)}, (ds.foldl (fun a d => putG a (kf d) v) acc).length ≤ acc.length + ds.length
  | [], acc => by simp
  | d :: ds, acc => by
    have h1 := foldG_len (kf := kf) (v := v) (ds := ds) (acc := putG acc (kf d) v)
    have h2 := putG_len acc (kf d) v
    rw [List.foldl_cons, List.length_cons]
    omega
theorem foldG_vals {kf : PyData → Key} {v : PyData} : ∀ {ds : List PyData} {acc : List (Key × M)}, (∀ x ∈ acc, x.2 = .leaf v) → ∀ x ∈ ds.foldl (fun a d => putG a (kf d) (.leaf v)) acc, x.2 = .leaf v
  | [], acc, h => h
  | d :: ds, acc, h => by
    rw [List.foldl_cons]
    refine foldG_vals fun x hx => ?_
    unfold putG at hx
    split at hx
    · obtain ⟨y, hy, rfl⟩ := List.mem_map.mp hx
      split
      · rfl
      · exact h y hy
    · rcases List.mem_append.mp hx with hx | hx
      · exact h x hx
      · simp at hx; rw [hx]
theorem frzs_of_vals {v : PyData} : ∀ {l : List (Key × M)}, (∀ x ∈ l, x.2 = .leaf v) → M.frzs (l.map (·.2)) = some (l.map fun _ => v)
  | [], _ => rfl
  | x :: l, h => by
    rw [List.map_cons, h x (by simp), frzs_cons1, frzs_of_vals fun x hx => h x (by simp [hx])]
    rfl
def updM (o : Option M) (r : R M) (i : Nat) : O := match o with
  | some (.dK _) => match r with
    | .ok (.dK ls) ρ1 => match M.frzs (ls.map (·.2)), qName i ρ1 with
      | some ds, some (.dK ms) => if ms.length + ls.length ≤ 16777216 then .next (ρ1.set i (some (.dK (mergeV ms ((ls.map (·.1)).zip (ds.map M.leaf)))))) else .bad
      | _, _ => .bad
    | .err x ρ1 => .err x ρ1
    | _ => .bad
  | _ => .bad
@[simp] theorem ap_upd (i : Nat) (m : Env' → R M) (ρ : Env') : mUpd i m ρ = updM (qName i ρ) (m ρ) i := by unfold mUpd updM; rfl
theorem updM_ok {m0 ms ls : List (Key × M)} {ρ1 : Env'} {i : Nat} {ds : List PyData} (h1 : M.frzs (ls.map (·.2)) = some ds) (h2 : qName i ρ1 = some (.dK ms)) (h3 : ms.length + ls.length ≤ 16777216) :
    updM (some (.dK m0)) (.ok (.dK ls) ρ1) i = .next (ρ1.set i (some (.dK (mergeV ms ((ls.map (·.1)).zip (ds.map M.leaf)))))) := by
  unfold updM
  simp only [h1, h2, h3, if_true]
/-! what may be sorted -/
theorem alike_str (a b : Str) : PySem.W.alike (.str a) (.str b) = true := rfl
theorem sortOk_strs {ds : List PyData} (h : ∀ d ∈ ds, ∃ z, d = .str z) (hl : ds.length ≤ 16777216) : sortOk ds = true := by
  unfold sortOk
  simp only [Bool.and_eq_true, decide_eq_true_eq, List.all_eq_true, Bool.or_eq_true]
  refine ⟨⟨⟨fun d hd => ?_, fun d hd e he => ?_⟩, .inr fun d hd => ?_⟩, hl⟩
  · obtain ⟨z, rfl⟩ := h d hd; exact ⟨rfl, by show (0 : Nat) ≤ 60; decide⟩
  · obtain ⟨z, rfl⟩ := h d hd; obtain ⟨y, rfl⟩ := h e he; rfl
  · obtain ⟨z, rfl⟩ := h d hd; rfl
def isRow (d : PyData) : Prop := ∃ a b t c k, d = .tuple [.str a, .str b, .int t, .int c, .int k]
theorem sortOk_rows {ds : List PyData} (h : ∀ d ∈ ds, isRow d) (hl : ds.length ≤ 16777216) : sortOk ds = true := by
  unfold sortOk
  simp only [Bool.and_eq_true, decide_eq_true_eq, List.all_eq_true, Bool.or_eq_true]
  refine ⟨⟨⟨fun d hd => ?_, fun d hd e he => ?_⟩, .inl fun d hd => ?_⟩, hl⟩
  · obtain ⟨a, b, t, c, k, rfl⟩ := h d hd; exact ⟨rfl, by simp [PyData.depth, PyData.depthAll]⟩
  · obtain ⟨a, b, t, c, k, rfl⟩ := h d hd; obtain ⟨a, b, t, c, k, rfl⟩ := h e he; rfl
  · obtain ⟨a, b, t, c, k, rfl⟩ := h d hd; rfl
end G
namespace G
open PySem PySem.Spec PyProof.Rows L2

/-! ### bools reckoned with as numbers -/
def bI (b : Bool) : Int := if b = true then 1 else 0
theorem op_addB {X : Cx} : OpR X (binaryOp .Add) (fun x y H Q => rAddS x y H Q ∨ ∃ b j, x = .bl b ∧ y = .int j ∧ Q (.int (bI b + j)) H) := op_addS.or (by
  intro pins s σ H x y v u Q I rx ry h
  obtain ⟨b, j, rfl, rfl, q⟩ := h
  obtain rfl : v = Value.bool b := rx
  obtain ⟨t, rfl⟩ := ry
  exact PySem.IntBool.add_bool_int ⟨.int _, H, I.tok _, ⟨_, rfl⟩, q⟩)
def gAddB : M → M → Option PyData
  | .leaf (.bool b), .leaf (.int j) => some (.int (bI b + j))
  | x, y => gAddS x y
theorem r_addB {K : Frag} : R2S K (fun x y H Q => rAddS x y H Q ∨ ∃ b j, x = .bl b ∧ y = .int j ∧ Q (.int (bI b + j)) H) gAddB := by
  intro F H v x fa v2 x2 f2 d Q s r r2 h q
  unfold gAddB at h
  split at h
  · cases h
    exact .inr ⟨_, _, isD_bool_iff.mp (rep_leaf r), isD_int_iff.mp (rep_leaf r2), q _ (isD_int _)⟩
  · exact .inl (r_addS F H v _ fa v2 _ f2 d Q s r r2 h q)
theorem op_subB {X : Cx} : OpR X (binaryOp .Sub) (fun x y H Q => rI0 (fun i j => .int (i - j)) x y H Q ∨ ∃ b j, x = .bl b ∧ y = .int j ∧ Q (.int (bI b - j)) H) := op_sub.or (by
  intro pins s σ H x y v u Q I rx ry h
  obtain ⟨b, j, rfl, rfl, q⟩ := h
  obtain rfl : v = Value.bool b := rx
  obtain ⟨t, rfl⟩ := ry
  exact PySem.IntBool.sub_bool_int ⟨.int _, H, I.tok _, ⟨_, rfl⟩, q⟩)
def gSubB : M → M → Option PyData
  | .leaf (.bool b), .leaf (.int j) => some (.int (bI b - j))
  | x, y => gSub x y
theorem r_subB {K : Frag} : R2S K (fun x y H Q => rI0 (fun i j => .int (i - j)) x y H Q ∨ ∃ b j, x = .bl b ∧ y = .int j ∧ Q (.int (bI b - j)) H) gSubB := by
  intro F H v x fa v2 x2 f2 d Q s r r2 h q
  unfold gSubB at h
  split at h
  · cases h
    exact .inr ⟨_, _, isD_bool_iff.mp (rep_leaf r), isD_int_iff.mp (rep_leaf r2), q _ (isD_int _)⟩
  · exact .inl (r_sub F H v _ fa v2 _ f2 d Q s r r2 h q)
theorem gives_neg_bool (b : Bool) : Gives (Builtin.«int.__neg__» ⟨[.bool b], []⟩) (.int (-(if b = true then (1 : Int) else 0))) := by cases b <;> exact .of_eq rfl
theorem un_negB {X : Cx} : UnR X (unaryOp .USub) (fun x H Q => rU (fun i => .int (-i)) x H Q ∨ ∃ b, x = .bl b ∧ Q (.int (-(bI b))) H) := by
  intro pins s σ H x v Q I rx h
  rcases h with h | ⟨b, rfl, q⟩
  · exact un_neg pins s σ H x v Q I rx h
  · obtain rfl : v = Value.bool b := rx
    exact unaryOp_gives (op := .USub) (PySem.typeIs_bool s b) rfl PySem.F.slot_bool_neg PySem.F.entry_int_neg (PySem.F.args_int_neg_1 _) (gives_neg_bool b) ⟨.int _, H, I.tok _, ⟨_, rfl⟩, q⟩
def gNegB : M → Option PyData
  | .leaf (.bool b) => some (.int (-(bI b)))
  | x => gNeg x
theorem r_negB {K : Frag} : R1S K (fun x H Q => rU (fun i => .int (-i)) x H Q ∨ ∃ b, x = .bl b ∧ Q (.int (-(bI b))) H) gNegB := by
  intro F H v x f d Q s r h q
  unfold gNegB at h
  split at h
  · cases h; exact .inr ⟨_, isD_bool_iff.mp (rep_leaf r), q _ (isD_int _)⟩
  · exact .inl (r_neg F H v _ f d Q s r h q)
def rStrB : List V → Hp → VK → Prop := fun xs H Q => (∃ i, xs = [.int i] ∧ i.natAbs.log2 < 1920 ∧ Q (.str (toString i)) H) ∨ ∃ b, xs = [.bl b] ∧ Q (.str (if b then "True" else "False")) H
theorem call_strB {X : Cx} : CallR X (.type "str") rStrB := call_str_int.or (by
  intro pins s σ H xs us Q I r h
  obtain ⟨b, rfl, q⟩ := h
  obtain ⟨u, rfl, r1⟩ := vals1 r
  obtain rfl : u = Value.bool b := r1
  refine PySem.P.str_of_bool ⟨.str _, H, I.tok _, ⟨_, rfl⟩, ?_⟩
  cases b <;> exact q)
def gStrB : M → Option PyData
  | .leaf (.bool b) => some (.str (if b then "True" else "False"))
  | x => gStr x
theorem r_strB {K : Frag} : R1S K (fun v => rStrB [v]) gStrB := by
  intro F H v x f d Q s r h q
  unfold gStrB at h
  split at h
  · cases h
    have := isD_bool_iff.mp (rep_leaf r)
    subst this
    exact .inr ⟨_, rfl, q _ (isD_str _)⟩
  · exact .inl (r_str F H v _ f d Q s r h q)
end G
namespace G
open PySem PySem.Spec PyProof.Rows L2

/-! ### sets of tuples of ints and texts (HandS.TupSets, for ints, turned) -/
abbrev mhash (P : Program) (w : World) (k : List Key) : Int := tupleKeyHash (mixKind P w) k
abbrev IsM (P : Program) (w : World) (h : Heap) (k : List Key) (a : Addr) : Prop := IsTupleKey (mixKind P w) h k a
section
variable {P : Program} {w : World} {A : Around} {E : Value → Shared → Prop} {s : Shared}
def Plain1 (v : Value) : Prop := (∀ n, ofAClassStatement n v = pure false) ∧ ∃ c, ∀ n, hashByValue n v = pure c
theorem items_plain {k : List Key} {vs : List Value} (h : ItemsAre (mixKind P w) k vs) : ∀ v ∈ vs, Plain1 v := by
  induction h with
  | nil => intro v hv; cases hv
  | @cons k0 v' ks vs h1 _ ih =>
    intro v hv
    rcases List.mem_cons.mp hv with e | hv
    · subst e
      rcases keyIs_shape (show keyIs k0 v = true from h1) with ⟨i, t, _, rfl⟩ | ⟨x, t, _, rfl⟩
      · exact ⟨fun n => by cases n <;> rfl, true, fun n => by cases n <;> rfl⟩
      · exact ⟨fun n => by cases n <;> rfl, false, fun n => by cases n <;> rfl⟩
    · exact ih v hv

theorem ofAClassM {k : List Key} {b : Addr} {Q : Bool → Shared → Prop} (hk : IsM P w s.heap k b) (h : Q false s) : wpAny (model P w) A (ofAClassStatement 8 (.ref b)) Q E s := by
  have hT := hk.typeIs
  obtain ⟨o, items, n, ho, _, hd, hi⟩ := hk
  unfold ofAClassStatement
  refine wpAny_bind (wpAny_typeOf hT ?_)
  dsimp only
  have e : (("tuple" : String) == "tuple") = true := by decide
  simp only [e, if_true, Bool.not_true, Bool.false_eq_true, if_false]
  try refine wpAny_bind (wpAny_pure ?_)
  try simp only [Bool.not_true, Bool.false_eq_true, if_false]
  show wpAny _ _ (seqItems? (.ref b) >>= _) _ _ s
  refine wpAny_bind (wpAny_seqItems ho hd ?_)
  dsimp only
  refine wpAny_bind ?_
  show wpAny _ _ (forIn items _ _) _ _ s
  rw [← Array.forIn_toList]
  refine wpAny_forIn_list _ (fun rest r s' => r.1 = none ∧ s' = s ∧ ∀ v ∈ rest, Plain1 v) _ ?_ ?_ _ _ ⟨rfl, rfl, items_plain hi⟩
  · rintro v rest r s' ⟨hr, rfl, hall⟩
    rw [(hall v List.mem_cons_self).1]
    refine wpAny_bind (wpAny_pure ?_)
    simp only [Bool.false_eq_true, if_false]
    exact wpAny_pure ⟨rfl, rfl, fun u hu' => hall u (List.mem_cons_of_mem _ hu')⟩
  · rintro ⟨r1, r2⟩ s' ⟨hr, rfl, _⟩
    simp only at hr
    subst hr
    exact wpAny_pure h
theorem hashByM {k : List Key} {b : Addr} {Q : Bool → Shared → Prop} (hk : IsM P w s.heap k b) (h : ∀ c, Q c s) : wpAny (model P w) A (hashByValue 8 (.ref b)) Q E s := by
  have hT := hk.typeIs
  obtain ⟨o, items, n, ho, _, hd, hi⟩ := hk
  unfold hashByValue
  refine wpAny_bind (wpAny_specialOf hT PySem.F.slot_tuple_hash.lookup ?_)
  show wpAny _ _ (seqItems? (.ref b) >>= _) _ _ s
  refine wpAny_bind (wpAny_seqItems ho hd ?_)
  refine wpAny_bind ?_
  show wpAny _ _ (forIn items _ _) _ _ s
  rw [← Array.forIn_toList]
  refine wpAny_forIn_list _ (fun rest r s' => s' = s ∧ ∀ v ∈ rest, Plain1 v) _ ?_ ?_ _ _ ⟨rfl, items_plain hi⟩
  · rintro v rest r s' ⟨rfl, hall⟩
    obtain ⟨c, e⟩ := (hall v List.mem_cons_self).2
    rw [e]
    refine wpAny_bind (wpAny_pure ?_)
    cases c with
    | true =>
      simp only [Bool.not_true, Bool.false_eq_true, if_false]
      exact wpAny_pure ⟨rfl, fun u hu' => hall u (List.mem_cons_of_mem _ hu')⟩
    | false =>
      simp only [Bool.not_false, if_true]
      refine wpAny_pure ?_
      exact wpAny_pure (h false)
  · rintro ⟨r1, r2⟩ s' ⟨rfl, _⟩
    dsimp only
    cases r1 with
    | none => exact wpAny_pure (h true)
    | some c => exact wpAny_pure (h c)
/-- a search among tuples shows nothing -/
theorem seenM {k : List Key} {b : Addr} {Q : Bool → Shared → Prop} (hk : IsM P w s.heap k b) {ys : List Value} (hy : ∀ y ∈ ys, ∃ k' c, y = Value.ref c ∧ IsM P w s.heap k' c) (h : Q false s) :
    wpAny (model P w) A (searchCouldBeSeen (.ref b) ys) Q E s := by
  unfold searchCouldBeSeen
  refine wpAny_bind ?_
  refine wpAny_forIn_list _ (fun rest r s' => r.1 = none ∧ s' = s ∧ ∀ y ∈ rest, ∃ k' c, y = Value.ref c ∧ IsM P w s.heap k' c) _ ?_ ?_ _ _ ⟨rfl, rfl, hy⟩
  · rintro v rest r s' ⟨hr, rfl, hall⟩
    obtain ⟨k', c, rfl, hc⟩ := hall v List.mem_cons_self
    have rest' : ∀ y ∈ rest, ∃ k' c, y = Value.ref c ∧ IsM P w s'.heap k' c := fun u hu' => hall u (List.mem_cons_of_mem _ hu')
    dsimp only
    by_cases hv : (b == c || (carriedByValue (.ref b) && carriedByValue (.ref c))) = true
    · refine wp_if_pos hv ?_
      exact wpAny_pure ⟨rfl, rfl, rest'⟩
    · refine wp_if_neg hv ?_
      refine wpAny_bind (wpAny_eqIsQuiet_tuple hk ?_)
      simp only [Bool.not_true, Bool.false_eq_true, if_false]
      refine wpAny_bind (wpAny_eqIsQuiet_tuple hc ?_)
      simp only [Bool.not_true, Bool.false_eq_true, if_false]
      refine wpAny_bind (ofAClassM hk ?_)
      simp only [Bool.false_eq_true, if_false]
      refine wpAny_bind (ofAClassM hc ?_)
      simp only [Bool.false_eq_true, if_false]
      exact wpAny_pure ⟨rfl, rfl, rest'⟩
  · rintro ⟨r1, r2⟩ s' ⟨hr, rfl, _⟩
    simp only at hr
    subst hr
    exact wpAny_pure h

def rowsM (P : Program) (w : World) (L : List (Addr × List Key)) : List (Int × Value) := L.map fun p => (mhash P w p.2, Value.ref p.1)
structure SetM (P : Program) (w : World) (h : Heap) (a : Addr) (L : List (Addr × List Key)) (es : Array (Int × Value)) (ep : Nat) (t : SetTable) : Prop where
  ob : ∃ o, h.get? a = some o ∧ o.ExactSet ∧ o.data = .set es ep t
  rows : es.toList = rowsM P w L
  tab : TabOk t (L.map fun p => mhash P w p.2)
  nd : (L.map (·.2)).Nodup
  tup : ∀ p ∈ L, IsM P w h p.2 p.1
  led : w.params.followText "set-order" = true ∨ t.led = true
  room : L.length * 5 < t.mask * 3
  few : L.length < 64
variable {a : Addr} {L : List (Addr × List Key)} {es : Array (Int × Value)} {ep : Nat} {t : SetTable}
theorem SetM.size (R : SetM P w s.heap a L es ep t) : es.size = L.length := by
  have h := congrArg List.length R.rows
  unfold rowsM at h
  rw [Array.length_toList, List.length_map] at h
  exact h
theorem SetM.fits (R : SetM P w s.heap a L es ep t) : t.fits es.size = true := by
  have h1 := R.tab.sz
  rw [List.length_map] at h1
  have h2 := R.size
  have h3 := R.room
  unfold SetTable.fits SetTable.fill
  rw [R.tab.dm, Bool.and_eq_true, beq_iff_eq, decide_eq_true_eq]
  show t.place.size = es.size ∧ t.place.size + 0 ≤ t.mask
  omega
theorem SetM.entry (R : SetM P w s.heap a L es ep t) {i : Nat} {p : Addr × List Key} (h : L[i]? = some p) : es[i]? = some (mhash P w p.2, Value.ref p.1) := by
  rw [← Array.getElem?_toList, R.rows]
  unfold rowsM
  rw [List.getElem?_map, h] <;> rfl
theorem SetM.gw (R : SetM P w s.heap a L es ep t) : ¬ t.gaveWay = true := by
  unfold SetTable.gaveWay
  rw [mask_odd R.tab.mok]
  decide
/-- THE SEARCH: from the c-th step of the way on -/
theorem searchM_from (R : SetM P w s.heap a L es ep t) {x : Addr} {k : List Key} (hx : IsM P w s.heap k x) (hu : A.units < cLine) {K : Nat} (hKf : K < 10 * SetTable.turns t.mask)
    (hK : way t.mask (mhash P w k) K ∉ t.place.toList) (hKb : ∀ c, c < K → way t.mask (mhash P w k) c ∈ t.place.toList) {Q : SetFound → Shared → Prop}
    (hin : k ∈ L.map (·.2) → Q (.there none) s) (hout : k ∉ L.map (·.2) → Q (.free (way t.mask (mhash P w k) K) false) s) :
    ∀ (f c : Nat) (stand : Option SetTable.Probe), stand.getD (t.probeStart (mhash P w k)) = nth t.mask (runAt t.mask (SetTable.bits (mhash P w k) % (t.mask + 1)) (SetTable.bits (mhash P w k))) c → c ≤ K → K - c < f →
      (∀ (i : Nat) p, L[i]? = some p → p.2 = k → ∃ c', c ≤ c' ∧ c' < K ∧ t.place.toList[i]? = some (way t.mask (mhash P w k) c')) →
      wpAny (model P w) A (setSearchFrom a (.ref x) (mhash P w k) true f stand) Q E s
  | 0, c, stand, _, _, hf, _ => absurd hf (Nat.not_lt_zero _)
  | f + 1, c, stand, hst, hc, hf, hre => by
    obtain ⟨o, ho, hex, hd⟩ := R.ob
    rw [setSearchFrom_succ]
    refine wpAny_bind (wpAny_setState_of ho hd R.fits ?_)
    dsimp only
    refine wp_if_neg R.gw ?_
    try refine wpAny_bind (wpAny_pure ?_)
    have hnd : (nth t.mask (runAt t.mask (SetTable.bits (mhash P w k) % (t.mask + 1)) (SetTable.bits (mhash P w k))) c).dummy = none := by
      have key : ∀ (n : Nat) (p : SetTable.Probe), p.dummy = none → (nth t.mask p n).dummy = none := by
        intro n
        induction n with
        | zero => intro p h; exact h
        | succ n ih =>
          intro p h
          refine ih (adv t.mask p) ?_
          unfold adv
          split <;> exact h
      exact key c _ rfl
    have sh : ∀ q, nth t.mask (nth t.mask (runAt t.mask (SetTable.bits (mhash P w k) % (t.mask + 1)) (SetTable.bits (mhash P w k))) c) q = nth t.mask (runAt t.mask (SetTable.bits (mhash P w k) % (t.mask + 1)) (SetTable.bits (mhash P w k))) (c + q) := fun q => (nth_add t.mask c _ q).symm
    have e1 : ∀ q, (nth t.mask (nth t.mask (runAt t.mask (SetTable.bits (mhash P w k) % (t.mask + 1)) (SetTable.bits (mhash P w k))) c) q).j = way t.mask (mhash P w k) (c + q) := fun q => congrArg SetTable.Probe.j (sh q)
    have spec := go_spec t R.tab.ris R.tab.dm (fun i => (es[i]?.map (·.1)).getD 0) (mhash P w k) (10 * SetTable.turns t.mask) (K - c) _ hnd (by omega)
      (fun q hq => by rw [e1]; exact hKb (c + q) (by omega)) (by rw [e1, show c + (K - c) = K by omega]; exact hK)
    have hashAt : ∀ (i : Nat) p, L[i]? = some p → (fun i => (es[i]?.map (·.1)).getD 0) i = mhash P w p.2 := fun i p hp => by
      show (es[i]?.map (·.1)).getD 0 = _
      rw [R.entry hp] <;> rfl
    rcases spec with ⟨q, i, hq, hi, hh, hno, hpr⟩ | ⟨hno, hpr⟩
    · -- a candidate
      have hpr' : t.probe (fun i => (es[i]?.map (·.1)).getD 0) (mhash P w k) (stand.getD (t.probeStart (mhash P w k))) = some (.candidate (way t.mask (mhash P w k) (c + q)) i (nth t.mask (runAt t.mask (SetTable.bits (mhash P w k) % (t.mask + 1)) (SetTable.bits (mhash P w k))) (c + (q + 1)))) := by
        rw [hst, ← e1, ← sh]
        exact hpr
      rw [hpr']
      dsimp only
      rw [e1] at hi
      -- the entry
      have hil : i < L.length := by
        have h1 : i < t.place.toList.length := (List.getElem?_eq_some_iff.mp hi).1
        have h2 := R.tab.sz
        rw [List.length_map] at h2
        rw [Array.length_toList] at h1
        omega
      have hp : L[i]? = some L[i] := List.getElem?_eq_getElem hil
      generalize hpe : L[i] = p at hp
      have hmem : p ∈ L := List.mem_of_getElem? hp
      have hpt := R.tup p hmem
      have rest : wpAny (model P w) A (searchRest a (.ref x) (mhash P w k) true f es t (way t.mask (mhash P w k) (c + q)) i (nth t.mask (runAt t.mask (SetTable.bits (mhash P w k) % (t.mask + 1)) (SetTable.bits (mhash P w k))) (c + (q + 1)))) Q E s := by
        unfold searchRest
        rw [R.entry hp]
        dsimp only
        refine wpAny_bind (wpAny_holding (wpAny_eqBool_tuple hu hpt hx ?_))
        refine wpAny_bind (wpAny_setState_of ho hd R.fits ?_)
        dsimp only
        by_cases hkk : p.2 = k
        · refine wp_if_pos (by simp [hkk]) ?_
          refine wpAny_pure (hin ?_)
          exact List.mem_map.mpr ⟨p, hmem, hkk⟩
        · refine wp_if_neg (by simp [hkk]) ?_
          try refine wpAny_bind (wpAny_pure ?_)
          rw [sameMem]
          dsimp only
          have hsl : t.slot (way t.mask (mhash P w k) (c + q)) = .live i := slot_live R.tab.ris hi
          simp only [if_true, hsl, R.entry hp]
          refine wpAny_bind (wpAny_isSame_ref_self (wpAny_bind (wpAny_pure ?_)))
          simp only [if_true]
          refine wp_if_neg (by simp [hkk]) ?_
          refine searchM_from R hx hu hKf hK hKb hin hout f (c + (q + 1)) _ rfl (by omega) (by omega) fun i0 p0 h0 hk0 => ?_
          obtain ⟨c', a1, a2, a3⟩ := hre i0 p0 h0 hk0
          refine ⟨c', ?_, a2, a3⟩
          -- it isn't passed
          rcases Nat.lt_or_ge c' (c + q) with z | z
          · exfalso
            refine hno (c' - c) i0 (by omega) (by rw [e1, show c + (c' - c) = c' by omega]; exact a3) ?_
            exact (hashAt i0 p0 h0).trans (congrArg (mhash P w) hk0)
          · rcases Nat.lt_or_ge (c + q) c' with y | y
            · omega
            · exfalso
              have ec : c' = c + q := Nat.le_antisymm y z
              rw [ec] at a3
              have s0 := slot_live R.tab.ris a3
              rw [hsl] at s0
              injection s0 with s0
              rw [← s0, hp] at h0
              exact hkk ((congrArg Prod.snd (Option.some.inj h0)).trans hk0)
      by_cases hl : t.led = true
      · refine wp_if_neg (by simp [hl]) ?_
        try refine wpAny_bind (wpAny_pure ?_)
        exact rest
      · refine wp_if_pos (by simp [hl]) ?_
        refine wpAny_bind (seenM hx (fun y hy => ?_) ?_)
        · obtain ⟨e, he, ee⟩ := List.mem_map.mp hy
          have he1 : e ∈ es ∧ e.1 = mhash P w k := by simpa using he
          have he2 : e ∈ es.toList := by simpa using he1.1
          rw [R.rows] at he2
          obtain ⟨p2, hp2, e2⟩ := List.mem_map.mp he2
          refine ⟨p2.2, p2.1, ?_, R.tup p2 hp2⟩
          rw [← ee, ← e2]
        · refine wp_if_neg (by decide) ?_
          try refine wpAny_bind (wpAny_pure ?_)
          exact rest
    · -- the empty slot
      have hpr' : t.probe (fun i => (es[i]?.map (·.1)).getD 0) (mhash P w k) (stand.getD (t.probeStart (mhash P w k))) = some (.empty (way t.mask (mhash P w k) K) none) := by
        have e2 : way t.mask (mhash P w k) K = (nth t.mask (nth t.mask (runAt t.mask (SetTable.bits (mhash P w k) % (t.mask + 1)) (SetTable.bits (mhash P w k))) c) (K - c)).j := by
          rw [e1, show c + (K - c) = K by omega]
        rw [hst, e2]
        exact hpr
      rw [hpr']
      dsimp only
      refine wpAny_pure (hout fun hm => ?_)
      obtain ⟨p0, h0, hk0⟩ := List.mem_map.mp hm
      obtain ⟨i0, hi0, e0⟩ := List.getElem_of_mem h0
      have h00 : L[i0]? = some p0 := by rw [List.getElem?_eq_getElem hi0, e0]
      obtain ⟨c', a1, a2, a3⟩ := hre i0 p0 h00 hk0
      refine hno (c' - c) i0 (by omega) (by rw [e1, show c + (c' - c) = c' by omega]; exact a3) ?_
      exact (hashAt i0 p0 h00).trans (congrArg (mhash P w) hk0)

/-- the search as adding asks for it -/
theorem searchM_at (R : SetM P w s.heap a L es ep t) {x : Addr} {k : List Key} (hx : IsM P w s.heap k x) (hu : A.units < cLine) {Q : SetFound → Shared → Prop}
    (hin : k ∈ L.map (·.2) → Q (.there none) s)
    (hout : ∀ K, k ∉ L.map (·.2) → way t.mask (mhash P w k) K ∉ t.place.toList → (∀ c, c < K → way t.mask (mhash P w k) c ∈ t.place.toList) → Q (.free (way t.mask (mhash P w k) K) false) s) :
    wpAny (model P w) A (setSearch a (.ref x) (mhash P w k) true) Q E s := by
  have hroom := R.room
  obtain ⟨K, hKf, hK, hKb⟩ := R.tab.first (by rw [List.length_map]; omega) (mhash P w k)
  have hbig : K < 100000 := by
    have : 10 * SetTable.turns t.mask ≤ 1420 := by
      unfold SetTable.turns
      rcases R.tab.mok with e | e | e <;> omega
    omega
  unfold setSearch
  refine searchM_from R hx hu hKf hK hKb hin (fun hn => hout K hn hK hKb) 100000 0 none rfl (Nat.zero_le _) (by omega) fun i p hp hk => ?_
  have hi : (L.map fun p => mhash P w p.2)[i]? = some (mhash P w k) := by rw [List.getElem?_map, hp, ← hk] <;> rfl
  have hil : i < t.place.toList.length := by
    have h1 : i < L.length := (List.getElem?_eq_some_iff.mp hp).1
    have h2 := R.tab.sz
    rw [List.length_map] at h2
    rw [Array.length_toList]
    omega
  have hj := List.getElem?_eq_getElem hil
  obtain ⟨c, hc, e⟩ := R.tab.before hK hi hj
  exact ⟨c, Nat.zero_le _, hc, by rw [hj, e]⟩
end
section
variable {P : Program} {w : World} {A : Around} {E : Value → Shared → Prop} {s : Shared}
/-- a tuple isn't the set -/
theorem isM_same {h h' : Heap} {k : List Key} {a b : Addr} {o : Obj} {es : Array (Int × Value)} {ep : Nat} {t : SetTable} (hb : IsM P w h k b) (ho : h.get? a = some o) (hd : o.data = .set es ep t) (hs : Heap.SameBut a h h') : IsM P w h' k b := by
  obtain ⟨o', items, n, ho', hc, hd', hi⟩ := hb
  have hne : b ≠ a := by
    rintro rfl
    obtain rfl : o' = o := Option.some.inj (ho'.symm.trans ho)
    rw [hd] at hd'
    exact nomatch hd'
  exact ⟨o', items, n, (hs.2 b hne).trans ho', hc, hd', hi⟩
theorem rowsM_put (L : List (Addr × List Key)) (p : Nat) (x : Addr) (k : List Key) : rowsM P w (L.take p ++ (x, k) :: L.drop p) = (rowsM P w L).take p ++ (mhash P w k, Value.ref x) :: (rowsM P w L).drop p := by
  unfold rowsM
  rw [List.map_append, List.map_cons, List.map_take, List.map_drop]
theorem orderM (L : List (Addr × List Key)) (es : Array (Int × Value)) (order : Array Nat) (hr : es.toList = rowsM P w L) (hp : order.toList.Perm (List.range L.length)) :
    ∃ L2, (order.filterMap (es[·]?)).toList = rowsM P w L2 ∧ L2.Perm L ∧ (L2.map fun p => mhash P w p.2) = order.toList.map fun i => (es.map (·.1)).getD i 0 := by
  have hsz : es.size = L.length := by
    have h := congrArg List.length hr
    unfold rowsM at h
    rw [Array.length_toList, List.length_map] at h
    exact h
  have ent : ∀ i (h : i < L.length), es[i]? = some (mhash P w (L[i]).2, Value.ref (L[i]).1) := fun i h => by
    rw [← Array.getElem?_toList, hr]
    unfold rowsM
    rw [List.getElem?_map, List.getElem?_eq_getElem h] <;> rfl
  have key : ∀ l : List Nat, (∀ i ∈ l, i < L.length) → ∃ L2 : List (Addr × List Key), l.filterMap (fun i => es[i]?) = rowsM P w L2 ∧ L2 = l.filterMap (fun i => L[i]?) ∧ (L2.map fun p => mhash P w p.2) = l.map fun i => (es.map (·.1)).getD i 0 := by
    intro l
    induction l with
    | nil => intro _; exact ⟨[], rfl, rfl, rfl⟩
    | cons i l ih =>
      intro hl
      have hi := hl i List.mem_cons_self
      obtain ⟨L2, e1, e2, e3⟩ := ih fun j hj => hl j (List.mem_cons_of_mem _ hj)
      refine ⟨L[i] :: L2, ?_, ?_, ?_⟩
      · rw [List.filterMap_cons_some (ent i hi), e1] <;> rfl
      · rw [List.filterMap_cons_some (List.getElem?_eq_getElem hi), e2]
      · rw [List.map_cons, List.map_cons, e3]
        have hi2 : i < (es.map (·.1)).size := by rw [Array.size_map, hsz]; exact hi
        have e4 : (es.map (·.1)).getD i 0 = mhash P w (L[i]).2 := by
          have e5 : (es.map (·.1))[i]? = some (mhash P w (L[i]).2) := by rw [Array.getElem?_map, ent i hi] <;> rfl
          simp [Array.getD_eq_getD_getElem?, e5]
        rw [e4]
  obtain ⟨L2, e1, e2, e3⟩ := key order.toList fun i hi => List.mem_range.mp (hp.mem_iff.mp hi)
  refine ⟨L2, by first | (rw [Array.toList_filterMap]; exact e1) | simpa using e1, ?_, e3⟩
  have h1 : L2.Perm ((List.range L.length).filterMap fun i => L[i]?) := by
    rw [e2]
    exact hp.filterMap _
  have h2 : (List.range L.length).filterMap (fun i => L[i]?) = L := by
    have key2 : ∀ n, n ≤ L.length → (List.range n).filterMap (fun i => L[i]?) = L.take n := by
      intro n
      induction n with
      | zero => intro _; rfl
      | succ n ih =>
        intro hn
        have hlt : n < L.length := hn
        rw [List.range_succ, List.filterMap_append, ih (Nat.le_of_lt hlt), List.take_succ, List.getElem?_eq_getElem hlt]
        rw [List.filterMap_cons_some (List.getElem?_eq_getElem hlt)] <;> rfl
    rw [key2 L.length (Nat.le_refl _), List.take_length]
  rw [h2] at h1
  exact h1

variable {a : Addr} {L : List (Addr × List Key)} {es : Array (Int × Value)} {ep : Nat} {t : SetTable}
/-- the table laid anew, larger -/
theorem relayM {o : Obj} (ho : s.heap.get? a = some o) (hex : o.ExactSet) (hd : o.data = .set es ep t) (hrows : es.toList = rowsM P w L) (hsz : t.place.size = es.size) (hdm : t.dummies = #[]) (hfl : es.size ≤ t.mask)
    (nd : (L.map (·.2)).Nodup) (tup : ∀ p ∈ L, IsM P w s.heap p.2 p.1) (ld : w.params.followText "set-order" = true ∨ t.led = true) (few : L.length < 64) {wanted M : Nat}
    (hw : SetTable.sizeAbove wanted - 1 = M) (hM : MaskOk M) (hw2 : SetTable.sizeAbove wanted ≤ 128) (hn : L.length * 5 < M * 3) {Q : Unit → Shared → Prop}
    (hQ : ∀ h' L' es' ep' t', Heap.SameBut a s.heap h' → SetM P w h' a L' es' ep' t' → L'.Perm L → Q () { s with heap := h' }) : wpAny (model P w) A (setRelay a wanted) Q E s := by
  have hsl : es.size = L.length := by
    have h := congrArg List.length hrows
    unfold rowsM at h
    rw [Array.length_toList, List.length_map] at h
    exact h
  have hfits : t.fits es.size = true := by
    unfold SetTable.fits SetTable.fill
    rw [hdm, Bool.and_eq_true, beq_iff_eq, decide_eq_true_eq]
    show t.place.size = es.size ∧ t.place.size + 0 ≤ t.mask
    omega
  obtain ⟨t', order, e, hp, T, em, el, ep', ed⟩ := relaid_ok t (hs := es.map (·.1)) (wanted := wanted) hw hM (by rw [Array.size_map, hsl]; omega)
  rw [Array.size_map, hsl] at hp
  obtain ⟨L2, r1, r2, r3⟩ := orderM L es order hrows hp
  rw [← r3] at T
  have hs2 : (order.filterMap (es[·]?)).size = es.size := by
    have h := congrArg List.length r1
    unfold rowsM at h
    rw [Array.length_toList, List.length_map, r2.length_eq] at h
    rw [h, hsl]
  rw [setRelay_eq]
  refine wpAny_bind (wpAny_setState_of ho hd hfits ?_)
  dsimp only
  refine wp_if_neg (by rw [sizeLine_eq]; omega) ?_
  try refine wpAny_bind (wpAny_pure ?_)
  rw [e]
  dsimp only
  refine wpAny_bind ?_
  refine wp_if_neg (by rw [hs2]; simp) ?_
  try refine wpAny_bind (wpAny_pure ?_)
  refine wpAny_pure ?_
  dsimp only
  refine wpAny_storeSet_of ho hd ?_ (by rw [hs2, hsl, sizeLine_eq]; omega)
  have sb : Heap.SameBut a s.heap (s.heap.update a (Obj.putSet (order.filterMap (es[·]?)) t')) := Heap.SameBut.update ..
  refine hQ _ L2 (order.filterMap (es[·]?)) (ep + 1) t' sb ?_ r2
  refine ⟨⟨_, store_at ho hd, ⟨hex.1, hex.2.1, hex.2.2⟩, rfl⟩, r1, T, ?_, fun p hpm => isM_same (tup p (r2.mem_iff.mp hpm)) ho hd sb, by rw [el]; exact ld, ?_, by rw [r2.length_eq]; exact few⟩
  · exact (r2.map (·.2)).nodup_iff.mpr nd
  · rw [r2.length_eq, em]
    exact hn

theorem byAny {b : Bool} {x : Addr} {k : List Key} {α : Type} (hx : IsM P w s.heap k x) {f : Bool → Sem α} {Q : α → Shared → Prop} (h : ∀ c, wpAny (model P w) A (f c) Q E s) : wpAny (model P w) A (if b = true then hashByValue 8 (.ref x) >>= f else pure true >>= f) Q E s := by
  cases b with
  | true => exact wp_if_pos rfl (wpAny_bind (hashByM hx h))
  | false => exact wp_if_neg (by simp) (wpAny_bind (wpAny_pure (h true)))
/-- ADDING -/
theorem addM (R : SetM P w s.heap a L es ep t) {x : Addr} {k : List Key} (hx : IsM P w s.heap k x) (hu : A.units < cLine) (hfew : L.length + 1 < 64) {Q : Bool → Shared → Prop}
    (hQ : ∀ b h' L' es' ep' t', Heap.SameBut a s.heap h' → SetM P w h' a L' es' ep' t' → (k ∈ L.map (·.2) → L' = L) → (k ∉ L.map (·.2) → L'.Perm ((x, k) :: L)) → Q b { s with heap := h' }) :
    wpAny (model P w) A (setAddHashed a (.ref x) (mhash P w k)) Q E s := by
  obtain ⟨o, ho, hex, hd⟩ := R.ob
  have hsl := R.size
  have hroom := R.room
  unfold setAddHashed
  refine wpAny_holding ?_
  rw [show (100000 : Nat) = 99999 + 1 from rfl, setAddHashedIn_succ]
  refine wpAny_bind (wpAny_setState_of ho hd R.fits ?_)
  dsimp only
  refine wp_if_neg (by simp [byScan, Value.scannable]) ?_
  try refine wpAny_bind (wpAny_pure ?_)
  refine wpAny_bind (searchM_at R hx hu (fun hm => ?_) fun K hm hK hb => ?_)
  · dsimp only
    exact wpAny_pure (hQ false s.heap L es ep t (Heap.SameBut.refl a s.heap) R (fun _ => rfl) fun z => absurd hm z)
  · dsimp only
    refine wpAny_bind (wpAny_setState_of ho hd R.fits ?_)
    dsimp only
    obtain ⟨q1, q2, q3, q4, q5, q6, q7, q8, q9⟩ := R.tab.put hK hb
    generalize hpt : t.put (way t.mask (mhash P w k) K) = pt at q1 q3 q4 q5 q6 q7 q8 q9 ⊢
    obtain ⟨t1, p⟩ := pt
    dsimp only at q1 q3 q4 q5 q6 q7 q8 q9 ⊢
    subst q1
    refine byAny hx fun c => ?_
    have hpl : ∃ pl, (if c = true then t1 else { t1 with plain := false }) = { t1 with plain := pl } := by
      cases c with
      | true => exact ⟨t1.plain, rfl⟩
      | false => exact ⟨false, rfl⟩
    obtain ⟨pl, hpl⟩ := hpl
    try dsimp only
    rw [hpl]
    have q3' : TabOk { t1 with plain := pl } _ := ⟨q3.ris, q3.dm, q3.sz, q3.mok, q3.bd, q3.reach⟩
    have q4' : ({ t1 with plain := pl } : SetTable).mask = t.mask := q4
    have q5' : ({ t1 with plain := pl } : SetTable).led = t.led := q5
    have q9' := q9
    have q10 : ({ t1 with plain := pl } : SetTable).fill = t1.fill := rfl
    clear hpl q3 q4 q5 q6 q7 q8 q9
    generalize ({ t1 with plain := pl } : SetTable) = t1 at q3' q4' q5' q10 ⊢
    rw [← q10] at q9'
    clear q10 hpt
    have q3 := q3'
    have q4 := q4'
    have q5 := q5'
    have q9 := q9'
    clear q3' q4' q5' q9'
    have hin : (SetTable.insertAt es (SetTable.below t.place (way t.mask (mhash P w k) K)) (mhash P w k, Value.ref x)).toList = rowsM P w (L.take (SetTable.below t.place (way t.mask (mhash P w k) K)) ++ (x, k) :: L.drop (SetTable.below t.place (way t.mask (mhash P w k) K))) := by
      rw [SetTable.toList_insertAt, rowsM_put, R.rows]
    generalize hpp : SetTable.below t.place (way t.mask (mhash P w k) K) = p at q2 q3 hin ⊢
    have pm := put_perm L p (x, k)
    have hlen : (L.take p ++ (x, k) :: L.drop p).length = L.length + 1 := pm.length_eq
    have hhs : (L.take p ++ (x, k) :: L.drop p).map (fun p => mhash P w p.2) = (L.map fun p => mhash P w p.2).take p ++ mhash P w k :: (L.map fun p => mhash P w p.2).drop p := by
      rw [List.map_append, List.map_cons, List.map_take, List.map_drop]
    rw [← hhs] at q3
    have nd1 : ((L.take p ++ (x, k) :: L.drop p).map (·.2)).Nodup := by
      refine (pm.map (·.2)).nodup_iff.mpr ?_
      rw [List.map_cons]
      exact List.nodup_cons.mpr ⟨hm, R.nd⟩
    have hes : (SetTable.insertAt es p (mhash P w k, Value.ref x)).size = L.length + 1 := by
      have h := congrArg List.length hin
      unfold rowsM at h
      rw [Array.length_toList, List.length_map, hlen] at h
      exact h
    generalize SetTable.insertAt es p (mhash P w k, Value.ref x) = es1 at hin hes ⊢
    generalize L.take p ++ (x, k) :: L.drop p = L1 at pm hlen q3 nd1 hin
    refine wpAny_bind (wpAny_storeSet_of ho hd ?_ (by rw [hes, sizeLine_eq]; omega))
    have sb : Heap.SameBut a s.heap (s.heap.update a (Obj.putSet es1 t1)) := Heap.SameBut.update ..
    have ho1 := store_at (es' := es1) (t' := t1) ho hd
    generalize s.heap.update a (Obj.putSet es1 t1) = h1 at sb ho1 ⊢
    have tup1 : ∀ p ∈ L1, IsM P w h1 p.2 p.1 := fun p hp => by
      rcases List.mem_cons.mp (pm.mem_iff.mp hp) with e | hp
      · rw [e]; exact isM_same hx ho hd sb
      · exact isM_same (R.tup p hp) ho hd sb
    have ld1 : w.params.followText "set-order" = true ∨ t1.led = true := by rw [q5]; exact R.led
    by_cases hf : t1.tooFull = true
    · first
        | (refine wpAny_bind ?_; refine wp_if_pos (by simp [hf]) ?_)
        | (refine wp_if_pos (by simp [hf]) ?_; refine wpAny_bind ?_)
      have hfull : (L.length + 1) * 5 ≥ t1.mask * 3 := by
        have h := hf
        unfold SetTable.tooFull at h
        rw [decide_eq_true_eq, q9, List.length_map] at h
        exact h
      rw [hsl]
      have hsz1 : t1.place.size = es1.size := by
        have h := q3.sz
        rw [List.length_map, hlen] at h
        rw [h, hes]
      have cases2 : (t.mask = 7 ∧ L.length = 4) ∨ (t.mask = 31 ∧ L.length = 18) := by
        rcases R.tab.mok with e | e | e
        · left; rw [q4, e] at hfull; rw [e] at hroom; exact ⟨e, by omega⟩
        · right; rw [q4, e] at hfull; rw [e] at hroom; exact ⟨e, by omega⟩
        · exfalso; rw [q4, e] at hfull; omega
      have go : ∀ M, SetTable.sizeAbove (SetTable.grown (L.length + 1)) - 1 = M → MaskOk M → SetTable.sizeAbove (SetTable.grown (L.length + 1)) ≤ 128 → (L.length + 1) * 5 < M * 3 →
          wpAny (model P w) A (setRelay a (SetTable.grown (L.length + 1))) (fun _ s' => wpAny (model P w) A (pure true) Q E s') E { s with heap := h1 } := fun M h1' h2' h3' h4' => by
        refine relayM (s := { s with heap := h1 }) ho1 ⟨hex.1, hex.2.1, hex.2.2⟩ rfl hin hsz1 q3.dm (by rw [hes, q4]; rcases cases2 with ⟨e, e2⟩ | ⟨e, e2⟩ <;> omega) nd1 tup1 ld1 (by rw [hlen]; exact hfew) h1' h2' h3' (by rw [hlen]; exact h4') ?_
        intro h2 L2 es2 ep2 t2 sb2 R2 pm2
        refine wpAny_pure (hQ true h2 L2 es2 ep2 t2 (sb.trans sb2) R2 (fun z => absurd z hm) fun _ => pm2.trans pm)
      rcases cases2 with ⟨_, e2⟩ | ⟨_, e2⟩
      · refine go 31 (by rw [e2, size_20]) (.inr (.inl rfl)) (by rw [e2, size_20]; decide) (by omega)
      · refine go 127 (by rw [e2, size_76]) (.inr (.inr rfl)) (by rw [e2, size_76]; decide) (by omega)
    · first
        | refine wp_if_neg (by simp [hf]) ?_
        | (refine wpAny_bind ?_; refine wp_if_neg (by simp [hf]) ?_; refine wpAny_pure ?_)
      refine wpAny_pure (hQ true h1 L1 es1 (ep + 1) t1 sb ⟨⟨_, ho1, ⟨hex.1, hex.2.1, hex.2.2⟩, rfl⟩, hin, q3, nd1, tup1, ld1, ?_, by rw [hlen]; exact hfew⟩ (fun z => absurd z hm) fun _ => pm)
      have h := hf
      unfold SetTable.tooFull at h
      rw [decide_eq_true_eq, q9, List.length_map] at h
      rw [hlen]
      omega
end
/-- what the set has got from the first i items -/
structure GotM (ks : List (Addr × List Key)) (i : Nat) (L : List (Addr × List Key)) : Prop where
  sub : ∀ p ∈ L, p ∈ ks.take i
  all : ∀ p ∈ ks.take i, p.2 ∈ L.map (·.2)
  len : L.length ≤ i
theorem GotM.zero (ks : List (Addr × List Key)) : GotM ks 0 [] := ⟨fun p h => (by cases h), fun p h => (by simp at h), Nat.le_refl _⟩
theorem GotM.same {ks L : List (Addr × List Key)} {i : Nat} {x : Addr × List Key} (g : GotM ks i L) (h : ks[i]? = some x) (hm : x.2 ∈ L.map (·.2)) : GotM ks (i + 1) L := by
  refine ⟨fun p hp => ?_, fun p hp => ?_, Nat.le_succ_of_le g.len⟩
  · rw [take_next h]
    exact List.mem_append_left _ (g.sub p hp)
  · rw [take_next h] at hp
    rcases List.mem_append.mp hp with z | z
    · exact g.all p z
    · rw [List.mem_singleton.mp z]; exact hm
theorem GotM.more {ks L L' : List (Addr × List Key)} {i : Nat} {x : Addr × List Key} (g : GotM ks i L) (h : ks[i]? = some x) (pm : L'.Perm (x :: L)) : GotM ks (i + 1) L' := by
  refine ⟨fun p hp => ?_, fun p hp => ?_, ?_⟩
  · rw [take_next h]
    rcases List.mem_cons.mp (pm.mem_iff.mp hp) with e | z
    · rw [e]; exact List.mem_append_right _ (List.mem_singleton.mpr rfl)
    · exact List.mem_append_left _ (g.sub p z)
  · rw [(pm.map (·.2)).mem_iff, List.map_cons]
    rw [take_next h] at hp
    rcases List.mem_append.mp hp with z | z
    · exact List.mem_cons_of_mem _ (g.all p z)
    · rw [List.mem_singleton.mp z]; exact List.mem_cons_self
  · rw [pm.length_eq, List.length_cons]
    exact Nat.succ_le_succ g.len

section
variable {P : Program} {w : World} {A : Around} {E : Value → Shared → Prop} {s : Shared}
theorem isM_keep {h h' : Heap} {k : List Key} {b : Addr} (x : IsM P w h k b) (hk : ∀ c o, h.get? c = some o → h'.get? c = some o) : IsM P w h' k b := by
  obtain ⟨o, items, n, ho, r⟩ := x
  exact ⟨o, items, n, hk b o ho, r⟩
theorem SetM.keep {h h' : Heap} {a : Addr} {L : List (Addr × List Key)} {es : Array (Int × Value)} {ep : Nat} {t : SetTable} (R : SetM P w h a L es ep t) (ha : ∀ o, h.get? a = some o → h'.get? a = some o) (ht : ∀ p ∈ L, IsM P w h' p.2 p.1) : SetM P w h' a L es ep t := by
  obtain ⟨o, ho, r⟩ := R.ob
  exact ⟨⟨o, ha o ho, r⟩, R.rows, R.tab, R.nd, ht, R.led, R.room, R.few⟩
/-- a new set -/
theorem setM_fresh {h : Heap} {a : Addr} (ho : h.get? a = some { cls := .type "set", dict := none, data := .set #[] 0 (.fresh 0 0 (!w.params.followText "set-order")) }) : SetM P w h a [] #[] 0 (.fresh 0 0 (!w.params.followText "set-order")) where
  ob := ⟨_, ho, ⟨rfl, rfl, rfl⟩, rfl⟩
  rows := rfl
  tab := ⟨List.Pairwise.nil, rfl, rfl, .inl rfl, fun x hx => (by cases hx), fun i h j hi => (by simp at hi)⟩
  nd := List.nodup_nil
  tup := fun p hp => (by cases hp)
  led := by
    show _ ∨ (!w.params.followText "set-order") = true
    cases w.params.followText "set-order"
    · exact .inr rfl
    · exact .inl rfl
  room := by
    show 0 * 5 < 7 * 3
    decide
  few := by
    show 0 < 64
    decide

/-- set.update's loop -/
theorem set_update_M {I : Addr} {fp wr : List Addr} {G : Array GenState → Array GenState → Prop} {n : Nat} {Pv : Nat → Value → Prop} {St : Nat → Shared → Prop} {R : Result → Shared → Prop}
    (W : WalksS P w A.in1 I fp wr G n Pv St) (S : Addr) (hSf : S ∉ fp) (ks : List (Addr × List Key)) (hn : n = ks.length) (hfew : ks.length < 64) (hval : ∀ i v, Pv i v → ∃ p, ks[i]? = some p ∧ v = .ref p.1)
    (h0 : Heap) (hk : ∀ p ∈ ks, IsM P w h0 p.2 p.1) (hS0 : h0.get? S = none) (hw0 : ∀ b ∈ wr, h0.get? b = none) (hu : A.in1.units < cLine) :
    ∀ (k i : Nat) (s : Shared), n - i = k → i ≤ n → St i s → (∀ b o, h0.get? b = some o → s.heap.get? b = some o) → (∃ L es ep t, SetM P w s.heap S L es ep t ∧ GotM ks i L) →
      (∀ s' L es ep t, Moved (S :: wr) G s s' → SetM P w s'.heap S L es ep t → GotM ks n L → (∀ b o, h0.get? b = some o → s'.heap.get? b = some o) → R (.ok (.ret .none)) s') →
      codeAny (model P w) A (.builtin "set.update.loop" ⟨[.ref S, .ref I], []⟩) R s := by
  have hSw : S ∉ wr := fun h => hSf (W.sub _ h)
  have hsub : ∀ b ∈ wr, b ∈ S :: wr := fun b hb => List.mem_cons_of_mem _ hb
  have keepM : ∀ {s s' : Shared}, Moved wr G s s' → (∀ b o, h0.get? b = some o → s.heap.get? b = some o) → ∀ b o, h0.get? b = some o → s'.heap.get? b = some o := fun hm hkp b o e =>
    hm.heap b o (fun hb => by rw [hw0 b hb] at e; cases e) (hkp b o e)
  intro k
  induction k with
  | zero =>
    intro i s hk' hi hst hkp ⟨L, es, ep, t, hS, g⟩ hR
    have hin : i = n := by omega
    subst hin
    refine codeAny_builtin PyProof.Rows.F.entry_set_update_loop ?_
    rw [Around.under_plainId PyProof.Rows.F.plain_set_update_loop _]
    show wpAny _ A.in1 (pyNext (.ref I) >>= _) _ _ s
    refine wpAny_bind (W.done s _ _ hst fun s' hm => ?_)
    show wpAny _ A.in1 (ret Value.none) _ _ s'
    have hkp' := keepM hm hkp
    have sub : ∀ p ∈ L, p ∈ ks := fun p hp => List.mem_of_mem_take (g.sub p hp)
    exact wpAny_pure (hR s' L es ep t (hm.mono hsub) (hS.keep (fun o e => hm.heap S o hSw e) fun p hp => isM_keep (hk p (sub p hp)) hkp') g hkp')
  | succ k ih =>
    intro i s hk' hi hst hkp ⟨L, es, ep, t, hS, g⟩ hR
    have hlt : i < n := by omega
    refine codeAny_builtin PyProof.Rows.F.entry_set_update_loop ?_
    rw [Around.under_plainId PyProof.Rows.F.plain_set_update_loop _]
    show wpAny _ A.in1 (pyNext (.ref I) >>= _) _ _ s
    refine wpAny_bind (W.item i s _ _ hlt hst fun v s' hP hst' hm => ?_)
    obtain ⟨p, hp, rfl⟩ := hval i v hP
    have hkp' := keepM hm hkp
    have sub : ∀ p ∈ L, p ∈ ks := fun p hp => List.mem_of_mem_take (g.sub p hp)
    have hS' : SetM P w s'.heap S L es ep t := hS.keep (fun o e => hm.heap S o hSw e) fun q hq => isM_keep (hk q (sub q hq)) hkp'
    have hx : IsM P w s'.heap p.2 p.1 := isM_keep (hk p (List.mem_of_getElem? hp)) hkp'
    show wpAny _ A.in1 (holding [Value.ref p.1] (setAdd S (.ref p.1)) >>= _) _ _ s'
    refine wpAny_bind (wpAny_holding ?_)
    unfold setAdd
    refine wpAny_holding ?_
    refine wpAny_bind (wpAny_pyHash_tuple hu hx ?_)
    refine addM (s := { s' with toks := s'.toks + (p.2.length + 1) }) hS' hx hu (by have := g.len; omega) fun b h' L' es' ep' t' hsb hS2 c1 c2 => ?_
    have g' : GotM ks (i + 1) L' := by
      rcases Classical.em (p.2 ∈ L.map (·.2)) with c | c
      · rw [c1 c]; exact g.same hp c
      · exact g.more hp (c2 c)
    have hkp2 : ∀ b o, h0.get? b = some o → h'.get? b = some o := fun b o e => (hsb.2 b (fun z => by rw [z, hS0] at e; cases e)).trans (hkp' b o e)
    refine wpAny_pure ⟨plainId_quiet PyProof.Rows.F.plain_set_update_loop _, ih (i + 1) _ (by omega) hlt (W.frame _ s' _ _ hst' (Nat.le_add_right _ _) fun b hb o e => ?_) hkp2 ⟨L', es', ep', t', hS2, g'⟩ fun s'' L2 es2 ep2 t2 hm'' hS'' g'' hkp'' => ?_⟩
    · rw [hsb.2 b (fun h : b = S => hSf (by rw [← h]; exact hb))]; exact e
    · refine hR s'' L2 es2 ep2 t2 (Moved.trans W.gtrans ((hm.mono hsub).then_heap (Nat.le_add_right _ _) fun b o hb e => ?_) hm'') hS'' g'' hkp''
      rw [hsb.2 b (fun h : b = S => hb (by rw [h]; exact List.mem_cons_self))]; exact e

end
end G
namespace G
open PySem PySem.Spec PyProof.Rows L2

/-! ### set(rows) -/
section
variable {P : Program} {w : World} {A : Around} {E : Value → Shared → Prop} {s : Shared}
theorem rows_vals {ks : List (Addr × List Key)} {items : Array Value} (hit : items.toList = ks.map fun p => Value.ref p.1) : items.size = ks.length ∧ ∀ (i : Nat) (v : Value), items[i]? = some v → ∃ p, ks[i]? = some p ∧ v = .ref p.1 := by
  constructor
  · have q := congrArg List.length hit
    rw [Array.length_toList, List.length_map] at q
    exact q
  · intro i v hv
    have q : items.toList[i]? = some v := by rw [Array.getElem?_toList]; exact hv
    rw [hit, List.getElem?_map] at q
    cases hq : ks[i]? with
    | none => rw [hq] at q; cases q
    | some p =>
      rw [hq] at q
      exact ⟨p, rfl, (Option.some.inj q).symm⟩
theorem moved_shape {s s' : Shared} {h : Heap} {wr : List Addr} (hm : Moved wr (fun a b => b = a) { s with heap := h } s') : ∃ h' tk, s' = { s with heap := h', toks := tk } := by
  obtain ⟨h', g2, d', tk', os'⟩ := s'
  have eg : g2 = s.gens := hm.gens
  have ed : d' = s.drawn := hm.drawn
  have eo : os' = s.os := hm.os
  subst eg; subst ed; subst eo
  exact ⟨h', tk', rfl⟩
set_option maxHeartbeats 3200000 in
theorem init_rowsT {l : Addr} {items : Array Value} (ks : List (Addr × List Key)) (hh : A.handled = none) (hl : s.heap.IsTuple l items) (hit : items.toList = ks.map fun p => Value.ref p.1) (hk : ∀ p ∈ ks, IsM P w s.heap p.2 p.1) (hb : ks.length < 64) (hu : A.units + 1 < cLine) {R : PySem.Fin → Shared → Prop}
    (h : ∀ (h' : Heap) (tk : Nat) L es ep t, SetM P w h' s.heap.objs.size L es ep t → GotM ks ks.length L → (∀ b o, s.heap.get? b = some o → h'.get? b = some o) → R (.done (.ret .none)) { s with heap := h', toks := tk }) :
    wpAny (model P w) A (Builtin.«set.__init__» ⟨[.ref s.heap.objs.size, .ref l], []⟩) R E { s with heap := s.heap.push (set0 w) } := by
  have hlS : l < s.heap.objs.size := let ⟨o, e, _⟩ := hl; Heap.lt_size e
  obtain ⟨ol, hol, hcl, nl, hdl⟩ := hl
  obtain ⟨ocls, odict, odata, oslots⟩ := ol
  simp only at hcl hdl
  subst hcl; subst hdl
  have hol' : (s.heap.push (set0 w)).get? l = some { cls := .type "tuple", dict := odict, data := .seq items nl, slots := oslots } := Heap.get?_push_of_some _ hol
  have hsls := F.sub_tuple_set
  have hslf := F.sub_tuple_frozenset
  have hne : (Value.type "tuple" == Value.type "dict") = false := by decide
  have hl1 : (s.heap.push (set0 w)).IsTuple l items := ⟨_, hol', rfl, nl, rfl⟩
  unfold Builtin.«set.__init__» noKeywords Builtin.Frozenset.updateFrom
  generalize hPI : pyIter = PI
  wp_walk
  subst hPI
  refine wpAny_pyIter_tuple hl1 ?_
  refine wpAny_bind (wpAny_runValue ?_)
  obtain ⟨hisz, hval⟩ := rows_vals hit
  have none_of : ∀ b, s.heap.objs.size ≤ b → s.heap.get? b = none := fun b hb => by
    cases q : s.heap.get? b with
    | none => rfl
    | some o => exact absurd (Nat.lt_of_lt_of_le (Heap.lt_size q) hb) (Nat.lt_irrefl _)
  have hneI : l ≠ (s.heap.push (set0 w)).objs.size := by
    rw [Heap.size_push]; exact Nat.ne_of_lt (Nat.lt_succ_of_lt hlS)
  have hSf : s.heap.objs.size ∉ [(s.heap.push (set0 w)).objs.size, l] := by
    rw [Heap.size_push]; simp only [List.mem_cons, List.mem_singleton, List.not_mem_nil, or_false, not_or]
    exact ⟨Nat.ne_of_lt (Nat.lt_succ_self _), Nat.ne_of_gt hlS⟩
  have hget : ((s.heap.push (set0 w)).push { cls := .type "tuple_iterator", data := .fields #[.ref l, .int 0 0] }).get? s.heap.objs.size = some (set0 w) := Heap.get?_push_of_some _ (Heap.get?_push_size _ rfl)
  refine set_update_M ((Walks.tuple (by simp [hh]) _ l hneI items).toS) s.heap.objs.size hSf ks hisz hb hval s.heap hk (none_of _ (Nat.le_refl _)) (fun b hb => none_of b (by rw [List.mem_singleton.mp hb, Heap.size_push]; exact Nat.le_succ _)) hu (items.size - 0) 0 _ (by omega) (Nat.zero_le _)
    ⟨⟨_, Heap.get?_push_size _ rfl, rfl, rfl⟩, (hl1.push _)⟩ (fun b o e => Heap.get?_push_of_some _ (Heap.get?_push_of_some _ e)) ⟨[], #[], 0, _, setM_fresh hget, GotM.zero ks⟩ fun s' L es ep t hm hS' g' hkp => ?_
  obtain ⟨h', tk, e⟩ := moved_shape (s := s) (h := _) hm
  subst e
  refine wpAny_pure ?_
  show wpAny _ _ (ret Value.none) _ _ _
  exact wpAny_pure (h h' tk L es ep t hS' (hisz ▸ g') hkp)
set_option maxHeartbeats 3200000 in
theorem init_rowsL {l : Addr} {items : Array Value} (ks : List (Addr × List Key)) (hh : A.handled = none) (hl : s.heap.IsList l items) (hit : items.toList = ks.map fun p => Value.ref p.1) (hk : ∀ p ∈ ks, IsM P w s.heap p.2 p.1) (hb : ks.length < 64) (hu : A.units + 1 < cLine) {R : PySem.Fin → Shared → Prop}
    (h : ∀ (h' : Heap) (tk : Nat) L es ep t, SetM P w h' s.heap.objs.size L es ep t → GotM ks ks.length L → (∀ b o, s.heap.get? b = some o → h'.get? b = some o) → R (.done (.ret .none)) { s with heap := h', toks := tk }) :
    wpAny (model P w) A (Builtin.«set.__init__» ⟨[.ref s.heap.objs.size, .ref l], []⟩) R E { s with heap := s.heap.push (set0 w) } := by
  have hlS : l < s.heap.objs.size := let ⟨o, e, _⟩ := hl; Heap.lt_size e
  obtain ⟨ol, hol, hcl, nl, hdl⟩ := hl
  obtain ⟨ocls, odict, odata, oslots⟩ := ol
  simp only at hcl hdl
  subst hcl; subst hdl
  have hol' : (s.heap.push (set0 w)).get? l = some { cls := .type "list", dict := odict, data := .seq items nl, slots := oslots } := Heap.get?_push_of_some _ hol
  have hsls := F.sub_list_set
  have hslf := F.sub_list_frozenset
  have hne : (Value.type "list" == Value.type "dict") = false := by decide
  have hl1 : (s.heap.push (set0 w)).IsList l items := ⟨_, hol', rfl, nl, rfl⟩
  unfold Builtin.«set.__init__» noKeywords Builtin.Frozenset.updateFrom
  generalize hPI : pyIter = PI
  wp_walk
  subst hPI
  refine wpAny_pyIter_list hl1 ?_
  refine wpAny_bind (wpAny_runValue ?_)
  obtain ⟨hisz, hval⟩ := rows_vals hit
  have none_of : ∀ b, s.heap.objs.size ≤ b → s.heap.get? b = none := fun b hb => by
    cases q : s.heap.get? b with
    | none => rfl
    | some o => exact absurd (Nat.lt_of_lt_of_le (Heap.lt_size q) hb) (Nat.lt_irrefl _)
  have hneI : l ≠ (s.heap.push (set0 w)).objs.size := by
    rw [Heap.size_push]; exact Nat.ne_of_lt (Nat.lt_succ_of_lt hlS)
  have hSf : s.heap.objs.size ∉ [(s.heap.push (set0 w)).objs.size, l] := by
    rw [Heap.size_push]; simp only [List.mem_cons, List.mem_singleton, List.not_mem_nil, or_false, not_or]
    exact ⟨Nat.ne_of_lt (Nat.lt_succ_self _), Nat.ne_of_gt hlS⟩
  have hget : ((s.heap.push (set0 w)).push { cls := .type "list_iterator", data := .fields #[.ref l, .int 0 0] }).get? s.heap.objs.size = some (set0 w) := Heap.get?_push_of_some _ (Heap.get?_push_size _ rfl)
  refine set_update_M ((Walks.list (by simp [hh]) _ l hneI items).toS) s.heap.objs.size hSf ks hisz hb hval s.heap hk (none_of _ (Nat.le_refl _)) (fun b hb => none_of b (by rw [List.mem_singleton.mp hb, Heap.size_push]; exact Nat.le_succ _)) hu (items.size - 0) 0 _ (by omega) (Nat.zero_le _)
    ⟨⟨_, Heap.get?_push_size _ rfl, rfl, rfl⟩, (hl1.push _)⟩ (fun b o e => Heap.get?_push_of_some _ (Heap.get?_push_of_some _ e)) ⟨[], #[], 0, _, setM_fresh hget, GotM.zero ks⟩ fun s' L es ep t hm hS' g' hkp => ?_
  obtain ⟨h', tk, e⟩ := moved_shape (s := s) (h := _) hm
  subst e
  refine wpAny_pure ?_
  show wpAny _ _ (ret Value.none) _ _ _
  exact wpAny_pure (h h' tk L es ep t hS' (hisz ▸ g') hkp)
set_option maxHeartbeats 3200000 in
theorem call_rows (isT : Bool) {l : Addr} {items : Array Value} (ks : List (Addr × List Key)) {Q : Value → Shared → Prop} (hh : A.handled = none) (hl : IsSeqA isT s.heap l items) (hit : items.toList = ks.map fun p => Value.ref p.1) (hk : ∀ p ∈ ks, IsM P w s.heap p.2 p.1) (hb : ks.length < 64) (hu : A.units + 3 < cLine)
    (h : ∀ (h' : Heap) (tk : Nat) L es ep t, SetM P w h' s.heap.objs.size L es ep t → GotM ks ks.length L → (∀ b o, s.heap.get? b = some o → h'.get? b = some o) → Q (.ref s.heap.objs.size) { s with heap := h', toks := tk }) :
    wpAny (model P w) A (call (.type "set") [.ref l]) Q E s := by
  obtain ⟨c, tl, hmro⟩ := F.called_set.mro
  have hmade := F.called_set.made
  have hsub := F.called_set.sub
  refine wpAny_call (codeAny_of_tree ?_)
  show wpAny _ _ (callAny (.type "set") _) _ _ _
  refine wpAny_pure ⟨Code.quiet_builtin _ (by decide +kernel), codeAny_builtin F.entry_type_call ?_⟩
  rw [Around.under_plain (weight_type_call_type "set" [.ref l] []) rfl]
  have h1 := F.called_set.notType
  have h2 := F.called_set.canCreate
  have hct := F.typeCall_set_1 (.ref l)
  repeat (any_goals (first | assumption | wp_step))
  refine codeAny_mono (code_set_led1 (.ref l) (E := E) (Q₁ := fun obj s₁ => obj = .ref s.heap.objs.size ∧ s₁ = { s with heap := s.heap.push (set0 w) }) ⟨rfl, rfl⟩) fun r s₁ hr => ?_
  cases r with
  | error e => exact hr
  | ok fl =>
    cases fl with
    | ret obj =>
      obtain ⟨rfl, rfl⟩ := hr
      have hS : (s.heap.push (set0 w)).get? s.heap.objs.size = some (set0 w) := Heap.get?_push_size _ rfl
      have hT : Shared.TypeIs { s with heap := s.heap.push (set0 w) } (.ref s.heap.objs.size) "set" := ⟨_, hS, rfl⟩
      have hli := F.called_set.init.lookup
      have hbi := F.called_set.init.bind (.ref s.heap.objs.size)
      repeat (any_goals (first | assumption | wp_step))
      refine codeAny_mono (codeAny_call_builtin (R := wants (fun r s₂ => r = .none ∧ ∃ h' tk L es ep t, s₂ = { s with heap := h', toks := tk } ∧ SetM P w h' s.heap.objs.size L es ep t ∧ GotM ks ks.length L ∧
          (∀ b o, s.heap.get? b = some o → h'.get? b = some o)) E) F.called_set.init.plain F.entry_set_init (check_set_init_1 hT ?_)) fun r₂ s₂ hr₂ => ?_
      · cases isT with
        | true => exact init_rowsT ks (by simp [hh]) hl hit hk hb hu fun h' tk L es ep t a g b => ⟨rfl, h', tk, L, es, ep, t, rfl, a, g, b⟩
        | false => exact init_rowsL ks (by simp [hh]) hl hit hk hb hu fun h' tk L es ep t a g b => ⟨rfl, h', tk, L, es, ep, t, rfl, a, g, b⟩
      · cases r₂ with
        | error e => exact hr₂
        | ok fl₂ =>
          cases fl₂ with
          | ret r =>
            obtain ⟨rfl, h', tk, L, es, ep, t, rfl, hS', g', hk'⟩ := hr₂
            repeat (any_goals (first | assumption | wp_step))
            exact h _ _ _ _ _ _ hS' g' hk'
          | _ => exact hr₂.elim
    | _ => exact hr.elim
end
end G
namespace G
open PySem PySem.Spec PyProof.Rows L2

/-! ### sorted(set(rows)) -/
theorem perm_lift {α β : Type} {g : α → β} {l m : List β} (h : l.Perm m) : ∀ L : List α, m = L.map g → ∃ L1 : List α, L1.Perm L ∧ l = L1.map g := by
  induction h with
  | nil => intro L e; exact ⟨[], by cases L with | nil => exact .nil | cons _ _ => simp at e, rfl⟩
  | cons x _ ih =>
    intro L e
    cases L with
    | nil => simp at e
    | cons y L =>
      rw [List.map_cons] at e
      injection e with e1 e2
      obtain ⟨L1, p, e3⟩ := ih L e2
      exact ⟨y :: L1, p.cons y, by rw [List.map_cons, e1, e3]⟩
  | swap x y l =>
    intro L e
    cases L with
    | nil => simp at e
    | cons a L =>
      cases L with
      | nil => simp at e
      | cons b L =>
        rw [List.map_cons, List.map_cons] at e
        injection e with e1 e2
        injection e2 with e2 e3
        exact ⟨b :: a :: L, List.Perm.swap a b L, by rw [List.map_cons, List.map_cons, e1, e2, e3]⟩
  | trans _ _ ih1 ih2 =>
    intro L e
    obtain ⟨L1, p1, e1⟩ := ih2 L e
    obtain ⟨L2, p2, e2⟩ := ih1 L1 e1
    exact ⟨L2, p2.trans p1, e2⟩
theorem vals_refs {as : List Addr} : ∀ {us : List Value}, Vals (as.map V.ref) us → us = as.map Value.ref := by
  induction as with
  | nil => intro us h; cases h; rfl
  | cons a as ih =>
    intro us h
    cases h with
    | cons r t =>
      have e : _ = Value.ref a := r
      rw [List.map_cons, ← ih t, e]
theorem addK_nodup {κ : Type} [DecidableEq κ] {ks : List κ} {k : κ} (h : ks.Nodup) : (addK ks k).Nodup := by
  unfold addK
  split
  · exact h
  · rename_i hk; exact List.nodup_cons.mpr ⟨hk, h⟩
theorem addAll_nodup {κ : Type} [DecidableEq κ] : ∀ {l ks : List κ}, ks.Nodup → (addAll ks l).Nodup
  | [], ks, h => h
  | x :: l, ks, h => addAll_nodup (l := l) (addK_nodup h)
theorem GotM.perm {ks L : List (Addr × List Key)} (g : GotM ks ks.length L) (nd : (L.map (·.2)).Nodup) : (L.map (·.2)).Perm (addAll [] (ks.map (·.2))) := by
  refine (List.perm_ext_iff_of_nodup nd (addAll_nodup List.nodup_nil)).mpr fun k => ?_
  rw [addAll_mem]
  have e : ks.take ks.length = ks := List.take_length
  constructor
  · intro h
    obtain ⟨p, hp, rfl⟩ := List.mem_map.mp h
    have := g.sub p hp
    rw [e] at this
    exact .inr (List.mem_map.mpr ⟨p, this, rfl⟩)
  · rintro (h | h)
    · cases h
    · obtain ⟨p, hp, rfl⟩ := List.mem_map.mp h
      exact g.all p (by rw [e]; exact hp)
theorem toks_inj : ∀ {k l : List Key}, PySem.W.keyToksAll (k.map keyD) = PySem.W.keyToksAll (l.map keyD) → k = l
  | [], [], _ => rfl
  | [], y :: l, h => by simp [PySem.W.keyToksAll] at h
  | x :: k, [], h => by simp [PySem.W.keyToksAll] at h
  | x :: k, y :: l, h => by
    rw [List.map_cons, List.map_cons, PySem.W.toks_all_cons, PySem.W.toks_all_cons] at h
    injection h with _ h
    have two : ∀ z : Key, ∃ t, PySem.W.keyToks (keyD z) = [t] := fun z => by cases z <;> exact ⟨_, by simp only [keyD, PySem.W.keyToks]; rfl⟩
    have inj : ∀ z u : Key, PySem.W.keyToks (keyD z) = PySem.W.keyToks (keyD u) → z = u := fun z u e => by
      cases z <;> cases u <;> simp only [keyD, PySem.W.keyToks] at e
      · injection e with e _; injection e with e; rw [e]
      · injection e with e _; injection e
      · injection e with e _; injection e
      · injection e with e _; injection e with e; rw [PySem.W.str_of_cps e]
    obtain ⟨t, e1⟩ := two x
    obtain ⟨u, e2⟩ := two y
    rw [e1, e2] at h
    injection h with h1 h2
    rw [inj x y (by rw [e1, e2, h1]), toks_inj h2]
theorem le_keys_anti {k l : List Key} (h1 : PySem.W.dataLe false id (keysD k) (keysD l) = true) (h2 : PySem.W.dataLe false id (keysD l) (keysD k) = true) : k = l := by
  have a1 : PyProof.Rows.lexLt itemOrd (PySem.W.keyToks (keysD l)) (PySem.W.keyToks (keysD k)) = false := by
    have z : (!PyProof.Rows.lexLt itemOrd (PySem.W.keyToks (keysD l)) (PySem.W.keyToks (keysD k))) = true := h1
    simpa using z
  have a2 : PyProof.Rows.lexLt itemOrd (PySem.W.keyToks (keysD k)) (PySem.W.keyToks (keysD l)) = false := by
    have z : (!PyProof.Rows.lexLt itemOrd (PySem.W.keyToks (keysD k)) (PySem.W.keyToks (keysD l))) = true := h2
    simpa using z
  have e := (listOrd itemOrd).total _ _ a1 a2
  refine (toks_inj ?_).symm
  simpa only [keysD, PySem.W.keyToks] using e
theorem sortD_permT {ks ls : List (List Key)} (p : ks.Perm ls) : sortD (ks.map keysD) = sortD (ls.map keysD) := by
  refine List.Perm.eq_of_pairwise (le := fun a b => PySem.W.dataLe false id a b = true) (fun a b ha hb h1 h2 => ?_) (PySem.W.sort_pairwise le_total _) (PySem.W.sort_pairwise le_total _)
    ((List.mergeSort_perm _ _).trans ((p.map _).trans (List.mergeSort_perm _ _).symm))
  have ha' := List.mem_mergeSort.mp ha
  have hb' := List.mem_mergeSort.mp hb
  obtain ⟨k, _, rfl⟩ := List.mem_map.mp ha'
  obtain ⟨l, _, rfl⟩ := List.mem_map.mp hb'
  rw [le_keys_anti h1 h2]

def rSortRows (K : Frag) : V → Hp → VK → Prop := fun x H Q => ∃ t a, ∃ rows : List (Addr × List Key), x = .ref a ∧ SqA K H t a ((rows.map (·.1)).map V.ref) ∧ (∀ p ∈ rows, H p.1 = some (.tup (p.2.map kV))) ∧ rows.length < 64 ∧
  sortOk ((addAll [] (rows.map (·.2))).map keysD) = true ∧ ∀ G p ws, G = unT (fun _ => none) H → H p = none → IsDs K G (sortD ((addAll [] (rows.map (·.2))).map keysD)) ws → Q (.ref p) (L2.upd H p (.lst ws))
theorem pe_sortRows {X : Cx} {a : Expr} {ta : TE} {p p2 q pos : Pos} (hc : X.calm = true) (hu : X.A.units + 64 < cLine) (hg : Gl X "sorted") (hm : X.mg "sorted" = none) (hg2 : Gl X "set") (hm2 : X.mg "set" = none) (ha : PE X a ta)
    (na : starEach [a] X.env = (false, eval a X.env) :: starEach [] X.env := by rfl) : PE X (.Call (.Name "sorted" p) [.Call (.Name "set" p2) [a] [] q] [] pos) (fun σ H Q => ta σ H fun x H1 => rSortRows X.K x H1 Q) := by
  refine ⟨fun pins s σ H Q I h => ?_⟩
  refine Call_ (ld_blt I hg hm PyProof.Rows.boot_sorted ?_)
  refine PyProof.Rows.callWith_builtin1 (PyProof.Rows.args_cons ?_ rfl) rfl rfl
  refine Call_ (ld_blt I hg2 hm2 PyProof.Rows.boot_set ?_)
  refine PyProof.Rows.callWith_type1 (PyProof.Rows.args_cons (thn (ha.run pins s σ H _ I h) fun v s1 ⟨x, H1, I1, r1, q1⟩ => PyProof.Rows.args_nil ?_) na) na rfl
  obtain ⟨t, l, rows, rfl, hq, hk, hb, ok, q1⟩ := q1
  cases r1
  obtain ⟨its, rv, pl, hz⟩ := SqA.items I1 hq
  refine call_rows t rows (I1.ok.hd hc) pl (by rw [vals_refs rv]; simp [List.map_map, Function.comp_def]) (fun p hp => key_of I1.hok (hk p hp)) hb (by omega) fun h' tk L es ep tb hS g hkp => ?_
  refine PyProof.Rows.args_nil ?_
  have I2 : Inv X pins σ H1 { s1 with heap := h', toks := tk } := I1.kept hkp
  refine sorted_from (H := H1) hu ?_
  obtain ⟨o, ho, hex, hd⟩ := hS.ob
  have hsz := hS.size (s := { s1 with heap := h', toks := tk })
  have hfew := hS.few
  refine collect_set (A := X.A.in1) (I1.ok.hd hc) ⟨o, ho, hex.1, hd⟩ (hS.fits (s := { s1 with heap := h', toks := tk })) (by unfold scanBound; omega) hS.tab.ris hS.led fun s2 out k2 hz2 g2 o2 pm2 => ?_
  have hes : es.toList.map (·.2) = L.map fun q => Value.ref q.1 := by
    rw [hS.rows]
    unfold rowsM
    rw [List.map_map] <;> rfl
  obtain ⟨L1, pL, rfl⟩ := perm_lift pm2 L hes
  have I3 : Inv X pins σ H1 s2 := by
    have e : s2 = { s2 with gens := s2.gens } := rfl
    exact I2.call' (ch := []) o2 (Un.kept k2) (I2.hok.kept k2) (by rw [g2]; exact I2.bare) (fun _ z => nomatch z)
  have pk : (L1.map (·.2)).Perm (addAll [] (rows.map (·.2))) := (pL.map (·.2)).trans (g.perm hS.nd)
  have sub : ∀ q ∈ L1, q ∈ rows := fun q hq => by
    have := g.sub q (pL.mem_iff.mp hq)
    rwa [List.take_length] at this
  refine ⟨(L1.map (·.2)).map keysD, unT (fun _ => none) H1, I3, unT_sub H1, each_of_at (by simp) fun j u d hu2 hd2 => ?_, sortOk_perm (pk.map keysD) ok, fun p ws hp hw => q1 _ p ws rfl hp ?_⟩
  · rw [List.getElem?_map, List.getElem?_map] at hd2
    rw [List.getElem?_map] at hu2
    cases hj : L1[j]? with
    | none => rw [hj] at hu2; cases hu2
    | some q =>
      rw [hj] at hu2 hd2
      cases hu2
      cases hd2
      exact ⟨.ref q.1, rfl, keys_isD (unT_tup (F := fun _ => none) (fun _ _ h => nomatch h) (hk q (sub q (List.mem_of_getElem? hj))))⟩
  · rw [← sortD_permT pk]; exact hw
def keyRows : List PyData → Option (List (List Key))
  | [] => some []
  | d :: ds => match d with
    | .tuple es => (keysOf es).bind fun k => (keyRows ds).map fun r => k :: r
    | _ => none
theorem keyRows_is {K : Frag} {F : Hp} : ∀ {ds : List PyData} {kss : List (List Key)} {vs : List V}, keyRows ds = some kss → IsDs K F ds vs →
    ∃ rows : List (Addr × List Key), rows.map (·.2) = kss ∧ vs = (rows.map (·.1)).map V.ref ∧ ∀ p ∈ rows, F p.1 = some (.tup (p.2.map kV))
  | [], kss, vs, h, r => by
    simp [keyRows] at h; subst h; unfold IsDs at r; subst r
    exact ⟨[], rfl, rfl, fun _ h => nomatch h⟩
  | d :: ds, kss, vs, h, r => by
    unfold IsDs at r
    obtain ⟨v, vs', rfl, r1, r2⟩ := r
    cases d with
    | tuple es =>
      simp only [keyRows, Option.bind_eq_some_iff, Option.map_eq_some_iff] at h
      obtain ⟨k, hk, r, hr, rfl⟩ := h
      obtain ⟨rows, e1, e2, e3⟩ := keyRows_is hr r2
      unfold IsD at r1
      obtain ⟨b, us, rfl, hb, hus⟩ := r1
      have e := keysOf_is hk hus
      subst e
      refine ⟨(b, k) :: rows, by simp [e1], by simp [e2], fun p hp => ?_⟩
      rcases List.mem_cons.mp hp with z | z
      · subst z; exact hb
      · exact e3 p z
    | _ => simp [keyRows] at h
def gSortRows : M → Option M := fun x => x.sv.bind fun ds => (keyRows ds).bind fun kss => if decide (kss.length < 64) && sortOk ((addAll [] kss).map keysD) then some (.lst ((sortD ((addAll [] kss).map keysD)).map .leaf)) else none
theorem r_sortRows {K : Frag} : R1 K (rSortRows K) gSortRows := by
  intro F H v x f y Q s r h q
  unfold gSortRows at h
  rw [Option.bind_eq_some_iff] at h
  obtain ⟨ds, h, hh⟩ := h
  rw [Option.bind_eq_some_iff] at hh
  obtain ⟨kss, hk, hh⟩ := hh
  split at hh
  · rename_i ok
    cases hh
    rw [Bool.and_eq_true, decide_eq_true_eq] at ok
    obtain ⟨a, vs, rfl, h1, h2⟩ := rep_sv s r h
    obtain ⟨rows, rfl, rfl, e3⟩ := keyRows_is hk h2
    have fin : ∀ G p ws, G = unT (fun _ => none) H → H p = none → IsDs K G (sortD ((addAll [] (rows.map (·.2))).map keysD)) ws → Q (.ref p) (L2.upd H p (.lst ws)) := fun G p ws hG hp hw => by
      have g0 := Grow.unT s
      have hs : Sub G (unT F H) := fun b o e => by
        subst hG
        unfold unT at e ⊢
        cases eF : F b with
        | none => simpa using e
        | some u =>
          have := s _ _ eF
          rw [this] at e
          dsimp only at e ⊢
          cases u <;> first | (cases e; rfl) | cases e
      have hF : unT F H p = none := by
        cases e : unT F H p with
        | none => rfl
        | some u => rw [g0.sub p u e] at hp; cases hp
      have g1 := Grow.own1 (o := .lst ws) g0.sub hp
      refine q _ _ _ [p] ⟨fun _ _ e => g0.mono _ _ e, g1.sub, g1.same, fun a o e => ?_, fun a ha => by simp at ha; subst ha; exact hp⟩ (.lst upd_same hF (reps_leaves (hw.mono hs)) (by simp))
      exact g0.new a o e
    have hl : rows.length < 64 := by simpa using ok.1
    rcases h1 with h1 | h1
    · exact ⟨false, a, rows, rfl, h1, fun p hp => s _ _ (e3 p hp), hl, ok.2, fin⟩
    · exact ⟨true, a, rows, rfl, h1, fun p hp => s _ _ (e3 p hp), hl, ok.2, fin⟩
  · cases hh
section
variable {X : Cx} {E : XK} {a : Expr} {m : Env' → R M} {q : Env' → Option M} {p p2 q2 pos : Pos}
theorem de_sortRows (hc : X.calm = true) (hu : X.A.units + 64 < cLine) (hg : Gl X "sorted") (hm : X.mg "sorted" = none) (hg2 : Gl X "set") (hm2 : X.mg "set" = none) (ha : DE X E a m)
    (na : starEach [a] X.env = (false, eval a X.env) :: starEach [] X.env := by rfl) : DE X E (.Call (.Name "sorted" p) [.Call (.Name "set" p2) [a] [] q2] [] pos) (m1 gSortRows m) :=
  (pe_sortRows hc hu hg hm hg2 hm2 ha na).imp fun σ H Q h => i_1 r_sortRows σ H Q h
theorem de_sortRowsq (hc : X.calm = true) (hu : X.A.units + 64 < cLine) (hg : Gl X "sorted") (hm : X.mg "sorted" = none) (hg2 : Gl X "set") (hm2 : X.mg "set" = none) (ha : DQ X a q)
    (na : starEach [a] X.env = (false, eval a X.env) :: starEach [] X.env := by rfl) : DE X E (.Call (.Name "sorted" p) [.Call (.Name "set" p2) [a] [] q2] [] pos) (m1q gSortRows q) :=
  (pe_sortRows hc hu hg hm hg2 hm2 ha na).imp fun σ H Q h => i_1q r_sortRows σ H Q h
end
end G
namespace G
open PySem PySem.Spec PyProof.Rows L2

/-! ### t[::-1] of a tuple -/
theorem IsDs.reverse {K : Frag} {F : Hp} : ∀ {ds : List PyData} {vs : List V}, IsDs K F ds vs → IsDs K F ds.reverse vs.reverse
  | [], vs, h => by unfold IsDs at h; subst h; exact .nil
  | d :: ds, vs, h => by
    unfold IsDs at h
    obtain ⟨v, r, rfl, h1, h2⟩ := h
    rw [List.reverse_cons, List.reverse_cons]
    exact (IsDs.reverse h2).append (.cons h1 .nil)
section
variable {prog : Program} {w : World} {A : Around} {E : Value → Shared → Prop} {s : Shared}
theorem pick_rev (xs : Array Value) : ((List.range xs.size).filterMap fun (k : Nat) => xs[(((xs.size : Int) - 1) + (k : Int) * (-1)).toNat]?).toArray = xs.toList.reverse.toArray := by
  have e := PySem.W.krv_pick xs
  unfold slicePick at e
  rw [PySem.W.krv_bounds] at e
  rw [← e]
  show _ = ((sliceRange ((xs.size : Int) - 1) (-1) (-1)).filterMap (xs[·]?)).toArray
  rw [PySem.W.krv_sliceRange, List.filterMap_map]
  have key : ∀ l : List Nat, (∀ k ∈ l, k < xs.size) → (l.filterMap fun (k : Nat) => xs[(((xs.size : Int) - 1) + (k : Int) * (-1)).toNat]?) = l.filterMap ((fun i => xs[i]?) ∘ fun k => xs.size - 1 - k) := by
    intro l
    induction l with
    | nil => intro _; rfl
    | cons k l ih =>
      intro hl
      have hk := hl k List.mem_cons_self
      have e2 : (((xs.size : Int) - 1) + (k : Int) * (-1)).toNat = xs.size - 1 - k := by omega
      rw [List.filterMap_cons, List.filterMap_cons, e2, ih fun j hj => hl j (List.mem_cons_of_mem _ hj)]
      rfl
  rw [key _ fun k hk => List.mem_range.mp hk]
theorem getItem_tuple_rev {t sl : Addr} {items : Array Value} {vl vu vs : Value} {Q : Value → Shared → Prop} (ht : IsTup s.heap t items) (hs : s.heap.IsSliceOf sl vl vu vs) (pl : IsPart vl none) (pu : IsPart vu none) (ps : IsPart vs (some (-1)))
    (h : Q (.ref s.heap.objs.size) { s with heap := s.heap.push { cls := .type "tuple", data := .seq items.toList.reverse.toArray } })
    (hsz : items.size ≤ sizeLine) : wpAny (model prog w) A (getItem (.ref t) (.ref sl)) Q E s := by
  have htake : sizeOk (.seq items.toList.reverse.toArray) := by
    show items.toList.reverse.toArray.size ≤ sizeLine
    simpa using hsz
  obtain ⟨os, hos, hcs, hds⟩ := id hs
  have hTs : s.TypeIs (.ref sl) "slice" := ⟨os, hos, hcs⟩
  unfold getItem
  try with_reducible refine wpAny_holding ?_
  first | refine wpAny_bind (wpAny_pure ?_) | skip
  refine wpAny_bind (wpAny_sequenceKey ht.typeIs (by decide) ?_)
  refine wpAny_bind (wpAny_callSpecial?_slot (name := Str.ofString "__getitem__") ht.typeIs PyProof.Rows.slot_tuple_getitem
    (wpAny_call_entry PyProof.Rows.slot_tuple_getitem ht.typeIs entry_tuple_getitem ?_ (args_tuple_getitem _ _)))
  show wpAny _ _ (Builtin.Tuple.tupleItemsOf (.ref t) >>= _) _ _ s
  refine wpAny_bind (tupleItemsOf_ ht ?_)
  refine wpAny_bind (wpAny_typeOf hTs ?_)
  rw [if_pos (by decide)]
  refine wpAny_bind (m := Builtin.Slice.sliceApplied _ _) ?_
  unfold Builtin.Slice.sliceApplied Builtin.Slice.sliceFields
  refine wpAny_bind (wpAny_bind (wpAny_field hos hds (x := vl) rfl (wpAny_bind (wpAny_field hos hds (x := vu) rfl (wpAny_bind (wpAny_field hos hds (x := vs) rfl (wpAny_pure ?_)))))))
  refine wpAny_bind (HT.slicePart_ ps ?_)
  show wpAny _ _ (if ((-1 : Int) == 0) = true then _ else _) _ _ s
  rw [if_neg (by decide)]
  refine wpAny_bind (HT.slicePart_ pl (wpAny_bind (HT.slicePart_ pu (wpAny_bind (wpAny_pure ?_)))))
  have e1 : Builtin.Slice.sliceAdjust none none (-1) (items.size : Int) = ((items.size : Int) - 1, -1) := by
    simp [Builtin.Slice.sliceAdjust]
  have e2 : Builtin.Slice.slicePlaces ((items.size : Int) - 1) (-1) (-1) = items.size := by
    unfold Builtin.Slice.slicePlaces
    rw [if_neg (by decide)]
    split
    · rw [show (- -1 : Int) = 1 by decide, Int.ediv_one]; omega
    · omega
  show wpAny _ _ (match Builtin.Slice.sliceAdjust none none (-1) (items.size : Int) with | (lo, hi) => pure (lo, (-1 : Int), Builtin.Slice.slicePlaces lo hi (-1))) _ _ s
  rw [e1]
  show wpAny _ _ (pure ((items.size : Int) - 1, (-1 : Int), Builtin.Slice.slicePlaces ((items.size : Int) - 1) (-1) (-1))) _ _ s
  rw [e2]
  refine wpAny_pure ?_
  show wpAny _ _ (if ((((items.size : Int) - 1) == 0 && (-1 : Int) == 1 && items.size == items.size)) = true then _ else _) _ _ s
  rw [if_neg (by simp), pick_rev]
  first
    | exact wpAny_bind (m := Builtin.Tuple.tupleExact _) (wpAny_newObj_type (wpAny_pure ⟨_, rfl, wpAny_pure h⟩) htake)
    | exact wpAny_bind (m := Builtin.Tuple.tupleExact _) (wpAny_newObj_type (wpAny_bind (wpAny_pure (wpAny_pure ⟨_, rfl, wpAny_pure h⟩))) htake)
    | exact wpAny_bind (wpAny_bind (m := Builtin.Tuple.tupleExact _) (wpAny_newObj_type (wpAny_pure (wpAny_pure ⟨_, rfl, wpAny_pure h⟩)) htake))
    | exact wpAny_bind (wpAny_bind (m := Builtin.Tuple.tupleExact _) (wpAny_newObj_type (wpAny_pure ⟨_, rfl, wpAny_pure h⟩) htake))
end
def rRevT (K : Frag) : V → Hp → VK → Prop := fun x H Q => ∃ a xs, x = .ref a ∧ SqT K H a xs ∧ ∀ p, H p = none → Q (.ref p) (L2.upd H p (.tup xs.reverse))
theorem pe_revT {X : Cx} {e : Expr} {te : TE} {k : Nat} {p1 p2 p3 pos : Pos} (he : PE X e te) : PE X (.Subscript e (.Slice none none (some (.UnaryOp .USub (.Constant (.int 1) k p1) p2)) p3) pos) (fun σ H Q => te σ H fun x H1 => rRevT X.K x H1 Q) := by
  refine ⟨fun pins s σ H Q I h => ?_⟩
  refine Subscript_ (thn (he.run pins s σ H _ I h) fun v s1 ⟨x, H1, I1, r1, q1⟩ => ?_)
  obtain ⟨a, xs, ex, hx, q⟩ := q1
  subst ex
  cases r1
  have hst : PO X (some (.UnaryOp .USub (.Constant (.int 1) k p1) p2)) (tPart (tUn (rU fun i => .int (-i)) (tC (.int 1)))) := po_some (pe_un un_neg pe_int)
  refine wpAny_Slice (thn (po_none.run pins s1 σ H1 (fun o H2 => o = none ∧ H2 = H1) I1 ⟨rfl, rfl⟩) fun vl s2 ⟨l, H2, I2, pl, el, e2⟩ => ?_)
  subst el e2
  refine thn (po_none.run pins s2 σ H2 (fun o H3 => o = none ∧ H3 = H2) I2 ⟨rfl, rfl⟩) fun vu s3 ⟨u, H3, I3, pu, eu, e3⟩ => ?_
  subst eu e3
  refine thn (hst.run pins s3 σ H3 (fun o H4 => o = some (-1) ∧ H4 = H3) I3 ⟨1, rfl, -1, rfl, rfl, rfl⟩) fun vs s4 ⟨o, H4, I4, ps, eo, e4⟩ => ?_
  subst eo e4
  have I5 : Inv X pins σ H4 { s4 with heap := s4.heap.push { cls := .type "slice", data := .fields #[vl, vu, vs] } } := I4.kept (t' := s4.toks) fun b ob q => Heap.get?_push_of_some _ q
  obtain ⟨its, r, ht, hz⟩ := I5.tuple hx
  have hlen := r.length
  show wpAny (model X.prog X.w) X.A (subscriptTail e (.Slice none none (some (.UnaryOp .USub (.Constant (.int 1) k p1) p2)) p3) (.ref a) (.ref s4.heap.objs.size)) (EP X pins σ Q) X.xe { s4 with heap := s4.heap.push { cls := .type "slice", data := .fields #[vl, vu, vs] } }
  refine tail_any (ops := [.ref a, .ref s4.heap.objs.size]) ht.typeIs PyProof.Rows.slot_tuple_getitem.lookup ?_ (by with_unfolding_all rfl)
  refine getItem_tuple_rev ht (Heap.IsSliceOf.new _ vl vu vs) pl pu ps ?_ (by rw [List.size_toArray]; omega)
  refine ⟨.ref _, _, I5.laid (t' := s4.toks) (o := .tup xs.reverse) (fun b ob q => Heap.get?_push_of_some _ q) (Nat.le_refl _) ?_, rfl, q _ (I5.hok.fresh (Nat.le_refl _))⟩
  exact ⟨by rw [List.length_reverse]; exact hz, _, r.reverse, _, Heap.get?_push_size _ rfl, rfl, 0, rfl⟩
def gRevT : M → Option M := fun x => x.tv.map fun ds => .leaf (.tuple ds.reverse)
theorem r_revT {K : Frag} : R1 K (rRevT K) gRevT := by
  intro F H v x f y Q s r h q
  unfold gRevT at h
  rw [Option.map_eq_some_iff] at h
  obtain ⟨ds, h, rfl⟩ := h
  obtain ⟨a, vs, rfl, h1, h2⟩ := rep_tv s r h
  refine ⟨a, vs, rfl, SqT.of (s _ _ h1), fun p hp => ?_⟩
  have g := Grow.frz1 (o := .tup vs.reverse) s hp
  exact q _ _ _ [] g (.leaf (isD_tup upd_same (h2.reverse.mono g.mono)))
section
variable {X : Cx} {E : XK} {a : Expr} {m : Env' → R M} {q : Env' → Option M} {k : Nat} {p1 p2 p3 pos : Pos}
theorem de_revT (ha : DE X E a m) : DE X E (.Subscript a (.Slice none none (some (.UnaryOp .USub (.Constant (.int 1) k p1) p2)) p3) pos) (m1 gRevT m) :=
  (pe_revT ha).imp fun σ H Q h => i_1 r_revT σ H Q h
end
end G
namespace G
open PySem PySem.Spec PyProof.Rows L2

/-! ### plain lemmas for all laws -/
theorem gEq_int (i j : Int) : gEq (.leaf (.int i)) (.leaf (.int j)) = some (.bool (decide (i = j))) := by
  have : (i == j) = decide (i = j) := rfl
  simp [gEq, SeqAt.shaped, PyData.eqv, PyData.canLay0, PyData.depth, this]
theorem gNe_int (i j : Int) : gNe (.leaf (.int i)) (.leaf (.int j)) = some (.bool (!decide (i = j))) := by
  have : (i == j) = decide (i = j) := rfl
  simp [gNe, SeqAt.shaped, PyData.eqv, PyData.canLay0, PyData.depth, this]
theorem gNe_bool (i j : Bool) : gNe (.leaf (.bool i)) (.leaf (.bool j)) = some (.bool (!decide (i = j))) := by
  cases i <;> cases j <;> simp [gNe, SeqAt.shaped, PyData.eqv, PyData.canLay0, PyData.depth]
theorem nds_mem {ds : List PyData} (h : nds ds = true) : ∀ d ∈ ds, nd d = true := by
  induction ds with
  | nil => intro d hd; simp at hd
  | cons x r ih =>
    simp only [nds, Bool.and_eq_true] at h
    intro d hd
    rcases List.mem_cons.mp hd with rfl | hd
    · exact h.1
    · exact ih h.2 d hd
theorem nds_of : ∀ {ds : List PyData}, (∀ d ∈ ds, nd d = true) → nds ds = true
  | [], _ => rfl
  | d :: r, h => by simp only [nds, Bool.and_eq_true]; exact ⟨h d (by simp), nds_of fun x hx => h x (by simp [hx])⟩
theorem keysOf_map (kf : PyData → Key) : ∀ l : List PyData, keysOf (l.map fun d => keyD (kf d)) = some (l.map kf)
  | [] => rfl
  | d :: l => by
    have : keyOf (keyD (kf d)) = some (kf d) := by cases kf d <;> rfl
    simp [keysOf, this, keysOf_map kf l]
theorem keysOf_app : ∀ {a b : List PyData} {x y : List Key}, keysOf a = some x → keysOf b = some y → keysOf (a ++ b) = some (x ++ y)
  | [], b, x, y, h, h2 => by simp [keysOf] at h; subst h; simpa using h2
  | d :: a, b, x, y, h, h2 => by
    simp only [keysOf] at h
    split at h
    · rename_i k ks e1 e2
      cases h
      simp [keysOf, e1, keysOf_app e2 h2]
    · cases h
theorem addAll_len {κ : Type} [DecidableEq κ] : ∀ (l ks : List κ), (addAll ks l).length ≤ ks.length + l.length
  | [], ks => by simp [addAll]
  | x :: l, ks => by
    have h1 := addAll_len l (addK ks x)
    have h2 := addK_len ks x
    unfold addAll at h1 ⊢
    rw [List.foldl_cons, List.length_cons]
    omega
/-- a comprehension, as it is -/
theorem cLoop_gen {g : PyData → Env' → Option Env'} {t : Env' → R Bool} {el : Env' → R M} {vs : List Nat} {p : PyData → Bool} {f : PyData → M} {ρw : Env'} : ∀ {ds : List PyData} {acc : List M},
    (∀ d ∈ ds, ∃ ρ1, g d ρw = some ρ1 ∧ wipeE ρ1 vs = ρw ∧ t ρ1 = .ok (p d) ρ1 ∧ (p d = true → el ρ1 = .ok (f d) ρ1)) → cLoop g t el vs ds ρw acc = .ok (acc ++ (ds.filter p).map f) ρw
  | [], acc, _ => by simp [cLoop]
  | d :: ds, acc, h => by
    obtain ⟨ρ1, h1, h2, h3, h4⟩ := h d (by simp)
    rw [cLoop]
    simp only [h1, h3]
    cases hp : p d with
    | true =>
      simp only [h4 hp, h2]
      rw [cLoop_gen fun d hd => h d (by simp [hd])]
      simp [hp]
    | false =>
      simp only [h2]
      rw [cLoop_gen fun d hd => h d (by simp [hd])]
      simp [hp]
theorem comp_gen {g : PyData → Env' → Option Env'} {it : Env' → R (List PyData)} {t : Env' → R Bool} {el : Env' → R M} {vs : List Nat} (p : PyData → Bool) (f : PyData → M) {ρ0 ρ ρw : Env'} {ds : List PyData} (hi : it ρ0 = .ok ds ρ) (hf : (vs.all fun i => isLeaf ρ[i]?) = true) (hz : ds.length ≤ 1000000)
    (hw : wipeE ρ vs = ρw) (hr : rest' vs ρ 0 ρw = ρ) (h : ∀ d ∈ ds, ∃ ρ1, g d ρw = some ρ1 ∧ wipeE ρ1 vs = ρw ∧ t ρ1 = .ok (p d) ρ1 ∧ (p d = true → el ρ1 = .ok (f d) ρ1)) :
    mComp it g t el vs ρ0 = .ok (.lst ((ds.filter p).map f)) ρ := by
  unfold mComp
  rw [hi]
  simp only [hf, hz, and_self, if_true, hw]
  rw [cLoop_gen h]
  simp [hr]
end G
namespace G
open PySem PySem.Spec PyProof.Rows L2

/-! ### == of data without dicts, whatever their texts -/
mutual
theorem plain_nd : ∀ d : PyData, nd d = true → d.plain = true
  | .none, _ => rfl
  | .bool _, _ => rfl
  | .int _, _ => rfl
  | .str _, _ => rfl
  | .list ds, h => by unfold PyData.plain; unfold nd at h; exact plain_nds ds h
  | .tuple ds, h => by unfold PyData.plain; unfold nd at h; exact plain_nds ds h
  | .dict _, h => by unfold nd at h; cases h
theorem plain_nds : ∀ ds : List PyData, nds ds = true → PyData.plainAll ds = true
  | [], _ => rfl
  | d :: ds, h => by
    unfold nds at h
    rw [Bool.and_eq_true] at h
    unfold PyData.plainAll
    rw [plain_nd d h.1, plain_nds ds h.2]; rfl
end
def eqOk (d e : PyData) : Bool := nd d && nd e && decide (d.depth ≤ 64)
def rEqP (K : Frag) : L2.R2 := fun x y H Q => ∃ d e, IsD K H d x ∧ IsD K H e y ∧ eqOk d e = true ∧ Q (.bl (PyData.eqv d e)) H
def rNeP (K : Frag) : L2.R2 := fun x y H Q => ∃ d e, IsD K H d x ∧ IsD K H e y ∧ eqOk d e = true ∧ Q (.bl (!PyData.eqv d e)) H
theorem op_eqP {X : Cx} (hu : X.A.units + 64 < cLine) : OpR X (compareOp .Eq) (rEqP X.K) := by
  intro pins s σ H x y v u Q I rx ry h
  obtain ⟨d, e, hd, he, ok, q⟩ := h
  unfold eqOk at ok
  simp only [Bool.and_eq_true, decide_eq_true_eq] at ok
  obtain ⟨⟨n1, n2⟩, dp⟩ := ok
  obtain ⟨as, r1⟩ := Dp.reads I d x v (IsD.dp _ _ n1 hd) rx
  obtain ⟨bs, r2⟩ := Dp.reads I e y u (IsD.dp _ _ n2 he) ry
  have hm : min d.depth e.depth ≤ d.depth := Nat.min_le_left _ _
  exact SeqAt.eq_plain r1 r2 (plain_nd d n1) (plain_nd e n2) (by omega) ⟨.bl _, H, I, rfl, q⟩
theorem op_neP {X : Cx} (hu : X.A.units + 64 < cLine) : OpR X (compareOp .NotEq) (rNeP X.K) := by
  intro pins s σ H x y v u Q I rx ry h
  obtain ⟨d, e, hd, he, ok, q⟩ := h
  unfold eqOk at ok
  simp only [Bool.and_eq_true, decide_eq_true_eq] at ok
  obtain ⟨⟨n1, n2⟩, dp⟩ := ok
  obtain ⟨as, r1⟩ := Dp.reads I d x v (IsD.dp _ _ n1 hd) rx
  obtain ⟨bs, r2⟩ := Dp.reads I e y u (IsD.dp _ _ n2 he) ry
  have hm : min d.depth e.depth ≤ d.depth := Nat.min_le_left _ _
  exact SeqAt.ne_plain r1 r2 (plain_nd d n1) (plain_nd e n2) (by omega) ⟨.bl _, H, I, rfl, q⟩
def gEqP : M → M → Option PyData := fun x y => match x.frz, y.frz with
  | some d, some e => if eqOk d e then some (.bool (PyData.eqv d e)) else none
  | _, _ => none
def gNeP : M → M → Option PyData := fun x y => match x.frz, y.frz with
  | some d, some e => if eqOk d e then some (.bool (!PyData.eqv d e)) else none
  | _, _ => none
theorem r_eqP {K : Frag} : R2S K (rEqP K) gEqP := by
  intro F H v x fa v2 x2 f2 d Q s r r2 h q
  unfold gEqP at h
  split at h
  · rename_i d1 d2 h1 h2
    split at h
    · rename_i hs
      cases h
      exact ⟨d1, d2, r.read s h1, r2.read s h2, hs, q _ (isD_bool _)⟩
    · cases h
  · cases h
theorem r_neP {K : Frag} : R2S K (rNeP K) gNeP := by
  intro F H v x fa v2 x2 f2 d Q s r r2 h q
  unfold gNeP at h
  split at h
  · rename_i d1 d2 h1 h2
    split at h
    · rename_i hs
      cases h
      exact ⟨d1, d2, r.read s h1, r2.read s h2, hs, q _ (isD_bool _)⟩
    · cases h
  · cases h
end G
namespace G
open PySem PySem.Spec PyProof.Rows L2

/-! ### walks over dicts -/
def keysOfD : PyData → Option (List PyData)
  | .dict kds => some ((dRows kds).map (·.1))
  | _ => none
def valsOfD : PyData → Option (List PyData)
  | .dict ((.none, _) :: _) => none
  | .dict kds => some (kds.map (·.2))
  | _ => none
def itemsOfD : PyData → Option (List PyData)
  | .dict ((.none, _) :: _) => none
  | .dict kds => some (kds.map fun kd => .tuple [kd.1, kd.2])
  | _ => none
def mItF (f : PyData → Option (List PyData)) (m : Env' → R M) : Env' → R (List PyData) := fun ρ => (m ρ).bind fun x ρ1 => match x.frz.bind f with
  | some ds => .ok ds ρ1
  | none => .bad
section
variable {K : Frag} {F : Hp} {d : Addr} {o : Obj}
theorem isKs_get : ∀ {kds : List (PyData × PyData)} {kvs : List (Key × V)} {i : Nat} {k : Key} {v : V}, IsKs K F kds kvs → kvs[i]? = some (k, v) → ∃ e, kds[i]? = some (keyD k, e) ∧ IsD K F e v
  | [], kvs, i, k, v, h, e => by unfold IsKs at h; subst h; simp at e
  | (a, b) :: r, kvs, i, k, v, h, e => by
    unfold IsKs at h
    obtain ⟨kk, u, l', rfl, rfl, h1, h2⟩ := h
    cases i with
    | zero => simp at e; obtain ⟨rfl, rfl⟩ := e; exact ⟨b, rfl, h1⟩
    | succ i => simp at e; obtain ⟨x, e1, e2⟩ := isKs_get h2 e; exact ⟨x, by simpa using e1, e2⟩
theorem isTs_get : ∀ {kds : List (PyData × PyData)} {kvs : List (List Key × V)} {i : Nat} {k : List Key} {v : V}, IsTs K F kds kvs → kvs[i]? = some (k, v) → ∃ e, kds[i]? = some (keysD k, e) ∧ IsD K F e v
  | [], kvs, i, k, v, h, e => by unfold IsTs at h; subst h; simp at e
  | (a, b) :: r, kvs, i, k, v, h, e => by
    unfold IsTs at h
    obtain ⟨kk, u, l', rfl, rfl, h1, h2⟩ := h
    cases i with
    | zero => simp at e; obtain ⟨rfl, rfl⟩ := e; exact ⟨b, rfl, h1⟩
    | succ i => simp at e; obtain ⟨x, e1, e2⟩ := isTs_get h2 e; exact ⟨x, by simpa using e1, e2⟩
theorem isKs_len {kds : List (PyData × PyData)} {kvs : List (Key × V)} (h : IsKs K F kds kvs) : kds.length = kvs.length := by have := congrArg List.length (isKs_keys h); simpa using this
theorem isTs_len {kds : List (PyData × PyData)} {kvs : List (List Key × V)} (h : IsTs K F kds kvs) : kds.length = kvs.length := by have := congrArg List.length (isTs_keys h); simpa using this
theorem walkD_keysK {kds : List (PyData × PyData)} {kvs : List (Key × V)} (h : F d = some (.frz o (.dK kvs))) (hk : IsKs K F kds kvs) : WalkD K F (Itk d o kvs) (kds.map (·.1)) where
  go i F1 H1 hi s1 s2 := ⟨s2 _ _ (s1.nd h fun z => z), by have := isKs_len hk; simp at hi; omega⟩
  yld i e F1 H1 x H2 he s1 s2 y := by
    obtain ⟨rfl, k, v, q, rfl⟩ := y
    obtain ⟨u, e1, _⟩ := isKs_get hk q
    rw [List.getElem?_map, e1] at he
    cases he
    exact ⟨F1, Grow.refl s2, key_isD k⟩
  stop F1 H1 s1 s2 := ⟨s2 _ _ (s1.nd h fun z => z), by have := isKs_len hk; simp; omega⟩
theorem walkD_keysT {kds : List (PyData × PyData)} {kvs : List (List Key × V)} (h : F d = some (.frz o (.dT kvs))) (hk : IsTs K F kds kvs) : WalkD K F (Itkt d o kvs) (kds.map (·.1)) where
  go i F1 H1 hi s1 s2 := ⟨s2 _ _ (s1.nd h fun z => z), by have := isTs_len hk; simp at hi; omega⟩
  yld i e F1 H1 x H2 he s1 s2 y := by
    obtain ⟨rfl, k, v, q, hq, rfl, ht⟩ := y
    obtain ⟨u, e1, _⟩ := isTs_get hk hq
    rw [List.getElem?_map, e1] at he
    cases he
    exact ⟨unT F1 H2, Grow.unT s2, keys_isD (unT_tup s2 ht)⟩
  stop F1 H1 s1 s2 := ⟨s2 _ _ (s1.nd h fun z => z), by have := isTs_len hk; simp; omega⟩
theorem walkD_vals {kds : List (PyData × PyData)} {kvs : List (Key × V)} (h : F d = some (.frz o (.dK kvs))) (hk : IsKs K F kds kvs) : WalkD K F (Itd d o kvs) (kds.map (·.2)) where
  go i F1 H1 hi s1 s2 := ⟨s2 _ _ (s1.nd h fun z => z), by have := isKs_len hk; simp at hi; omega⟩
  yld i e F1 H1 x H2 he s1 s2 y := by
    obtain ⟨rfl, k, q⟩ := y
    obtain ⟨u, e1, hu⟩ := isKs_get hk q
    rw [List.getElem?_map, e1] at he
    cases he
    exact ⟨F1, Grow.refl s2, IsD.rd s1.fsub _ _ hu⟩
  stop F1 H1 s1 s2 := ⟨s2 _ _ (s1.nd h fun z => z), by have := isKs_len hk; simp; omega⟩
theorem walkD_items {kds : List (PyData × PyData)} {kvs : List (Key × V)} (h : F d = some (.frz o (.dK kvs))) (hk : IsKs K F kds kvs) : WalkD K F (Iti d o kvs) (kds.map fun kd => .tuple [kd.1, kd.2]) where
  go i F1 H1 hi s1 s2 := ⟨s2 _ _ (s1.nd h fun z => z), by have := isKs_len hk; simp at hi; omega⟩
  yld i e F1 H1 x H2 he s1 s2 y := by
    obtain ⟨T, k, v, q, rfl, hT, rfl⟩ := y
    obtain ⟨u, e1, hu⟩ := isKs_get hk q
    rw [List.getElem?_map, e1] at he
    cases he
    have g := Grow.frz1 (o := .tup [kV k, v]) s2 hT
    refine ⟨_, g, isD_tup upd_same (.cons (key_isD k) (.cons ((IsD.rd s1.fsub _ _ hu).mono g.mono) .nil))⟩
  stop F1 H1 s1 s2 := ⟨s2 _ _ (s1.nd h fun z => z), by have := isKs_len hk; simp; omega⟩
end
section
variable {X : Cx} {E : XK} {m : Env' → R M}
theorem i_dicW {N : Addr → Prop} {K : Frag} {mg : Str → Option Value} {f : PyData → Option (List PyData)} {P : V → (It → Hp → Prop) → Hp → Prop} (hf : ∀ d ds, f d = some ds → ∃ kds, d = .dict kds)
    (hP : ∀ F H a kds ds o Rt, f (.dict kds) = some ds → Sub F H → ((∃ kvs : List (Key × V), F a = some (.frz o (.dK kvs)) ∧ IsKs K F kds kvs) ∨ ∃ kvs : List (List Key × V), F a = some (.frz o (.dT kvs)) ∧ IsTm K F kds kvs) → (∀ J, WalkD K F J ds → Rt J H) → P (.ref a) Rt H)
    (σ : L2.St) (H : Hp) (Rt : It → Hp → Prop) (h : tIL N K mg E (mItF f m) σ H Rt) : tLk N (tE K mg E m) σ H fun v H1 => P v Rt H1 := by
  obtain ⟨F, ρ, φ, e, k⟩ := h
  refine ⟨F, ρ, φ, e, ?_⟩
  unfold mItF at k
  cases hm : m ρ with
  | bad => rw [hm] at k; exact k.elim
  | err x ρ' => rw [hm] at k; exact k
  | ok x ρ1 =>
    rw [hm] at k
    simp only [R.bind_ok] at k
    intro F1 H1 φ1 v f1 e1 r1 d1 x1
    cases hz : x.frz with
    | none => rw [hz] at k; exact k.elim
    | some d =>
      rw [hz] at k
      simp only [Option.bind_some] at k
      cases hfd : f d with
      | none => rw [hfd] at k; exact k.elim
      | some ds =>
        rw [hfd] at k
        dsimp only at k
        have hn : ∀ a ∈ f1, F1 a = none := fun a ha => (r1.fp a ha).2
        have e2 := e1.freeze d1 hn
        have x2 := x1.freeze hn
        have hd := r1.frozen hz
        obtain ⟨kds, rfl⟩ := hf _ _ hfd
        unfold IsD at hd
        obtain ⟨a, rfl, hd⟩ := hd
        rcases hd with ⟨kvs, hr, hk⟩ | ⟨kvs, hr, hk⟩
        · rcases hr with hr | ⟨o, hr⟩
          · refine .inr ⟨a, _, e2.sub _ _ hr, trivial, fun od nd => ?_⟩
            have l : LockOf N (fz F1 H1 f1) H1 (L2.upd (fz F1 H1 f1) a (.frz od (.dK kvs))) (L2.upd H1 a (.frz od (.dK kvs))) := .inr ⟨a, od, _, ⟨hr, trivial, nd, rfl, rfl⟩⟩
            exact hP _ _ a kds ds od Rt hfd (l.env e2).sub (.inl ⟨kvs, upd_same, IsKs.rd (fsub_lock hr trivial) _ _ hk⟩) fun J w => k _ _ φ1 _ _ J e2 x2 l w
          · exact .inl (hP _ _ a kds ds o Rt hfd e2.sub (.inl ⟨kvs, hr, hk⟩) fun J w => k _ _ φ1 _ _ J e2 x2 .refl w)
        · rcases hr with hr | ⟨o, hr⟩
          · refine .inr ⟨a, _, e2.sub _ _ hr, trivial, fun od nd => ?_⟩
            have l : LockOf N (fz F1 H1 f1) H1 (L2.upd (fz F1 H1 f1) a (.frz od (.dT kvs))) (L2.upd H1 a (.frz od (.dT kvs))) := .inr ⟨a, od, _, ⟨hr, trivial, nd, rfl, rfl⟩⟩
            exact hP _ _ a kds ds od Rt hfd (l.env e2).sub (.inr ⟨kvs, upd_same, IsTm.rd (fsub_lock hr trivial) _ _ hk⟩) fun J w => k _ _ φ1 _ _ J e2 x2 l w
          · exact .inl (hP _ _ a kds ds o Rt hfd e2.sub (.inr ⟨kvs, hr, hk⟩) fun J w => k _ _ φ1 _ _ J e2 x2 .refl w)
variable {e tg : Expr} {elts : List Expr} {kk : Nat} {apos cpos tpos : Pos}
/-- for x in d -/
theorem di_keys (he : DE X E e m) : DIL X E tg e (mItF keysOfD m) := (pi_keys (pe_lk he)).imp fun σ H Rt h =>
  i_dicW (P := fun v Rt H1 => ∃ d o, v = .ref d ∧ ((∃ kvs, H1 d = some (.frz o (.dK kvs)) ∧ Rt (Itk d o kvs) H1) ∨ ∃ kvs, H1 d = some (.frz o (.dT kvs)) ∧ Rt (Itkt d o kvs) H1)) (fun d ds q => by cases d <;> first | exact ⟨_, rfl⟩ | cases q)
    (fun F H a kds ds o Rt q s hd k => by
      cases q
      rcases hd with ⟨kvs, hr, hk⟩ | ⟨kvs, hr, hk⟩
      · exact ⟨a, o, rfl, .inl ⟨kvs, s _ _ hr, k _ (by rw [dRows_K hk]; exact walkD_keysK hr hk)⟩⟩
      · obtain ⟨r, _, er, ht⟩ := isTm hk
        exact ⟨a, o, rfl, .inr ⟨kvs, s _ _ hr, k _ (by rw [er]; exact walkD_keysT hr ht)⟩⟩) σ H Rt h
theorem valsOfD_dict {d : PyData} {ds : List PyData} (q : valsOfD d = some ds) : ∃ kds, d = .dict kds ∧ ds = kds.map (·.2) ∧ ∀ r, kds ≠ (.none, .none) :: r := by
  cases d with
  | dict kds =>
    refine ⟨kds, rfl, ?_⟩
    unfold valsOfD at q
    split at q
    · cases q
    · rename_i kds' hne heq
      cases heq; cases q
      exact ⟨rfl, fun r e => hne _ _ (by rw [e])⟩
    · cases q
  | _ => cases q
theorem itemsOfD_dict {d : PyData} {ds : List PyData} (q : itemsOfD d = some ds) : ∃ kds, d = .dict kds ∧ (ds = kds.map fun kd => .tuple [kd.1, kd.2]) ∧ ∀ r, kds ≠ (.none, .none) :: r := by
  cases d with
  | dict kds =>
    refine ⟨kds, rfl, ?_⟩
    unfold itemsOfD at q
    split at q
    · cases q
    · rename_i kds' hne heq
      cases heq; cases q
      exact ⟨rfl, fun r e => hne _ _ (by rw [e])⟩
    · cases q
  | _ => cases q
/-- for x in d.values() -/
theorem di_vals (he : DE X E e m) (hbase : attributeBase e "values" X.env (eval e X.env) = eval e X.env := by rfl) (hline : (apos.endLine == cpos.line) = true := by rfl) : DIL X E tg (.Call (.Attribute e "values" apos) [] [] cpos) (mItF valsOfD m) :=
  (pi_values (pe_lk he) hbase hline).imp fun σ H Rt h =>
  i_dicW (P := fun v Rt H1 => ∃ d o kvs, v = .ref d ∧ H1 d = some (.frz o (.dK kvs)) ∧ Rt (Itd d o kvs) H1) (fun d ds q => let ⟨kds, e, _⟩ := valsOfD_dict q; ⟨kds, e⟩)
    (fun F H a kds ds o Rt q s hd k => by
      obtain ⟨kds', e, rfl, nm⟩ := valsOfD_dict q
      cases e
      rcases hd with ⟨kvs, hr, hk⟩ | ⟨kvs, hr, hk⟩
      · exact ⟨a, o, kvs, rfl, s _ _ hr, k _ (walkD_vals hr hk)⟩
      · obtain ⟨r, er, _, ht⟩ := isTm hk
        exact absurd er (nm r)) σ H Rt h
/-- for k, v in d.items() -/
theorem di_items (he : DE X E e m) (hbase : attributeBase e "items" X.env (eval e X.env) = eval e X.env := by rfl) (hline : (apos.endLine == cpos.line) = true := by rfl) : DIL X E (.Tuple elts kk tpos) (.Call (.Attribute e "items" apos) [] [] cpos) (mItF itemsOfD m) :=
  (pi_items (pe_lk he) hbase hline).imp fun σ H Rt h =>
  i_dicW (P := fun v Rt H1 => ∃ d o kvs, v = .ref d ∧ H1 d = some (.frz o (.dK kvs)) ∧ Rt (Iti d o kvs) H1) (fun d ds q => let ⟨kds, e, _⟩ := itemsOfD_dict q; ⟨kds, e⟩)
    (fun F H a kds ds o Rt q s hd k => by
      obtain ⟨kds', e, rfl, nm⟩ := itemsOfD_dict q
      cases e
      rcases hd with ⟨kvs, hr, hk⟩ | ⟨kvs, hr, hk⟩
      · exact ⟨a, o, kvs, rfl, s _ _ hr, k _ (walkD_items hr hk)⟩
      · obtain ⟨r, er, _, ht⟩ := isTm hk
        exact absurd er (nm r)) σ H Rt h
end

/-! ### looking a key up -/
def tupIs (ks : List Key) : PyData → Bool
  | .tuple es => decide (keysOf es = some ks)
  | _ => false
def lookD (kds : List (PyData × PyData)) (d : PyData) : Option (Option PyData) := match kds with
  | (.none, _) :: r => match d with
    | .tuple ds => (keysOf ds).map fun ks => (r.find? fun kd => tupIs ks kd.1).map (·.2)
    | _ => none
  | kds => (keyOf d).map fun k => (kds.find? fun kd => decide (keyOf kd.1 = some k)).map (·.2)
def M.look (x : M) (d : PyData) : Option (Option M) := match x with
  | .dK l => (keyOf d).map fun k => getG l k
  | .dT l => match d with
    | .tuple ds => (keysOf ds).map fun ks => getG l ks
    | _ => none
  | .leaf (.dict kds) => (lookD kds d).map fun o => o.map .leaf
  | _ => none
theorem keyOf_keyD (k : Key) : keyOf (keyD k) = some k := by cases k <;> rfl
theorem keysOf_keyD : ∀ ks : List Key, keysOf (ks.map keyD) = some ks
  | [] => rfl
  | k :: r => by simp only [List.map_cons, keysOf, keyOf_keyD, keysOf_keyD r]
/-- what is found, beside what is found -/
def LookR (K : Frag) (F H : Hp) (f : List Addr) : Option M → Option V → Prop
  | some m, some v => ∃ f', Rep K F H v m f' ∧ ∀ a ∈ f', a ∈ f
  | none, none => True
  | _, _ => False
section
variable {K : Frag} {F H : Hp}
theorem own_look {κ : Type} [DecidableEq κ] {k : κ} : ∀ {kvs : List (κ × V)} {kms : List (κ × M)} {fp : List Addr}, kvs.map (·.1) = kms.map (·.1) → Reps K F H (kvs.map (·.2)) (kms.map (·.2)) fp → LookR K F H fp (getG kms k) (valV kvs k)
  | [], [], fp, _, _ => trivial
  | [], _ :: _, _, e, _ => by simp at e
  | _ :: _, [], _, e, _ => by simp at e
  | (k1, v) :: kvs, (k2, m) :: kms, fp, e, r => by
    simp only [List.map_cons, List.cons.injEq] at e
    obtain ⟨rfl, e⟩ := e
    cases r with | cons r1 r2 d => ?_
    rename_i f1 f2
    by_cases hk : k1 = k
    · rw [valV_pos hk]
      simp only [getG, List.find?_cons, hk, decide_true, Option.map_some]
      exact ⟨f1, r1, fun a ha => by simp [ha]⟩
    · rw [valV_neg hk]
      have ih := own_look (k := k) e r2
      have : getG ((k1, m) :: kms) k = getG kms k := by simp [getG, List.find?_cons, hk]
      rw [this]
      revert ih
      cases getG kms k <;> cases valV kvs k <;> intro ih <;> first | exact ih | skip
      obtain ⟨f', q, s⟩ := ih
      exact ⟨f', q, fun a ha => by simp [s a ha]⟩
theorem ks_look {k : Key} : ∀ {kds : List (PyData × PyData)} {kvs : List (Key × V)}, IsKs K F kds kvs → LookR K F H [] (((kds.find? fun kd => decide (keyOf kd.1 = some k)).map (·.2)).map .leaf) (valV kvs k)
  | [], kvs, h => by unfold IsKs at h; subst h; trivial
  | (a, b) :: r, kvs, h => by
    unfold IsKs at h
    obtain ⟨kk, v, l', rfl, rfl, h1, h2⟩ := h
    by_cases hk : kk = k
    · rw [valV_pos hk]
      simp only [List.find?_cons, keyOf_keyD, hk, decide_true, Option.map_some]
      exact ⟨[], .leaf h1, fun a ha => ha⟩
    · rw [valV_neg hk]
      have : (decide (keyOf (keyD kk) = some k)) = false := by rw [keyOf_keyD]; simp [hk]
      simp only [List.find?_cons, this]
      exact ks_look h2
theorem ts_look {k : List Key} : ∀ {kds : List (PyData × PyData)} {kvs : List (List Key × V)}, IsTs K F kds kvs → LookR K F H [] (((kds.find? fun kd => tupIs k kd.1).map (·.2)).map .leaf) (valV kvs k)
  | [], kvs, h => by unfold IsTs at h; subst h; trivial
  | (a, b) :: r, kvs, h => by
    unfold IsTs at h
    obtain ⟨kk, v, l', rfl, rfl, h1, h2⟩ := h
    have ht : tupIs k (keysD kk) = decide (kk = k) := by simp only [tupIs, keysD, keysOf_keyD, Option.some.injEq]
    by_cases hk : kk = k
    · rw [valV_pos hk]
      have ht' : tupIs k (keysD kk) = true := by rw [ht]; simp [hk]
      simp only [List.find?_cons, ht', Option.map_some]
      exact ⟨[], .leaf h1, fun a ha => ha⟩
    · rw [valV_neg hk]
      have ht' : tupIs k (keysD kk) = false := by rw [ht]; simp [hk]
      simp only [List.find?_cons, ht']
      exact ts_look h2
theorem tup_key {d : PyData} {vk : V} {ds : List PyData} {ks : List Key} (s : Sub F H) (rk : IsD K F (.tuple ds) vk) (h : keysOf ds = some ks) : ∃ b, vk = .ref b ∧ H b = some (.tup (ks.map kV)) := by
  unfold IsD at rk
  obtain ⟨b, vs, rfl, q, r⟩ := rk
  exact ⟨b, rfl, by rw [← keysOf_is h r]; exact s _ _ q⟩
theorem look_rep {v vk : V} {x : M} {f : List Addr} {d : PyData} {o : Option M} (s : Sub F H) (r : Rep K F H v x f) (rk : IsD K F d vk) (h : x.look d = some o) : ∃ a ov, v = .ref a ∧ DGet H a vk ov ∧ LookR K F H f o ov := by
  cases r with
  | leaf q =>
    rename_i dd
    cases dd with
    | dict kds =>
      simp only [M.look, Option.map_eq_some_iff] at h
      obtain ⟨o', h, rfl⟩ := h
      unfold IsD at q
      obtain ⟨a, rfl, ⟨kvs, hr, hk⟩ | ⟨kvs, hr, hk⟩⟩ := q
      · have hl : lookD kds d = (keyOf d).map fun k => (kds.find? fun kd => decide (keyOf kd.1 = some k)).map (·.2) := by
          cases kds with
          | nil => rfl
          | cons p r =>
            obtain ⟨k, e⟩ := p
            unfold IsKs at hk
            obtain ⟨kk, _, _, _, rfl, _, _⟩ := hk
            cases kk <;> rfl
        rw [hl, Option.map_eq_some_iff] at h
        obtain ⟨k, hk', rfl⟩ := h
        exact ⟨a, _, rfl, .inl ⟨kvs, k, Rd.mono' s hr, keyOf_is hk' rk, rfl⟩, ks_look hk⟩
      · obtain ⟨r, rfl, _, ht⟩ := isTm hk
        cases d with
        | tuple ds =>
          simp only [lookD, Option.map_eq_some_iff] at h
          obtain ⟨ks, hk', rfl⟩ := h
          obtain ⟨b, rfl, hb⟩ := tup_key (d := .none) s rk hk'
          exact ⟨a, _, rfl, .inr ⟨kvs, ks, b, Rd.mono' s hr, rfl, hb, rfl⟩, ts_look ht⟩
        | _ => simp [lookD] at h
    | _ => simp [M.look] at h
  | lst _ _ _ _ => simp [M.look] at h
  | ro _ _ => simp [M.look] at h
  | ins _ _ _ _ _ => simp [M.look] at h
  | dK h1 h2 e nd rs n =>
    rename_i a kvs kms fp
    simp only [M.look, Option.map_eq_some_iff] at h
    obtain ⟨k, hk', rfl⟩ := h
    refine ⟨a, _, rfl, .inl ⟨kvs, k, .inl h1, keyOf_is hk' rk, rfl⟩, ?_⟩
    have z := own_look (k := k) e rs
    revert z
    cases getG kms k <;> cases valV kvs k <;> intro z <;> first | exact z | skip
    obtain ⟨f', q, t⟩ := z
    exact ⟨f', q, fun b hb => by simp [t b hb]⟩
  | dT h1 h2 e nd rs n =>
    rename_i a kvs kms fp
    cases d with
    | tuple ds =>
      simp only [M.look, Option.map_eq_some_iff] at h
      obtain ⟨k, hk', rfl⟩ := h
      obtain ⟨b, rfl, hb⟩ := tup_key (d := .none) s rk hk'
      refine ⟨a, _, rfl, .inr ⟨kvs, k, b, .inl h1, rfl, hb, rfl⟩, ?_⟩
      have z := own_look (k := k) e rs
      revert z
      cases getG kms k <;> cases valV kvs k <;> intro z <;> first | exact z | skip
      obtain ⟨f', q, t⟩ := z
      exact ⟨f', q, fun b hb => by simp [t b hb]⟩
    | _ => simp [M.look] at h
end
/-! ### d[k], k in d, d.get(k, x) -/
def leafD : Option (Option M) → Option PyData
  | some (some (.leaf d)) => some d
  | _ => none
def gDIx : M → M → Option PyData := fun x y => match y with
  | .leaf d => leafD (x.look d)
  | _ => none
theorem leafD_some {o : Option (Option M)} {d : PyData} (h : leafD o = some d) : o = some (some (.leaf d)) := by
  unfold leafD at h
  split at h
  · cases h; rfl
  · cases h
theorem r_dix {K : Frag} : R2S K (fun x y H Q => ∃ a v, x = .ref a ∧ DGet H a y (some v) ∧ Q v H) gDIx := by
  intro F H v x f v2 x2 f2 d Q s r r2 h k
  unfold gDIx at h
  split at h
  · rename_i kd
    obtain ⟨a, ov, rfl, g, l⟩ := look_rep s r (rep_leaf r2) (leafD_some h)
    cases ov with
    | none => exact l.elim
    | some v' =>
      obtain ⟨f', q, _⟩ := l
      exact ⟨a, v', rfl, g, k v' (rep_leaf q)⟩
  · cases h
def gDIn : M → M → Option PyData := fun y x => match y with
  | .leaf d => (x.look d).map fun o => .bool o.isSome
  | _ => none
def gDNi : M → M → Option PyData := fun y x => match y with
  | .leaf d => (x.look d).map fun o => .bool (!o.isSome)
  | _ => none
theorem look_isSome {K : Frag} {F H : Hp} {f : List Addr} {o : Option M} {ov : Option V} (h : LookR K F H f o ov) : o.isSome = ov.isSome := by
  cases o <;> cases ov <;> first | rfl | exact h.elim
theorem r_din {K : Frag} : R2S K (fun y x H Q => ∃ a o, x = .ref a ∧ DGet H a y o ∧ Q (.bl o.isSome) H) gDIn := by
  intro F H v x f v2 x2 f2 d Q s r r2 h k
  unfold gDIn at h
  split at h
  · rw [Option.map_eq_some_iff] at h
    obtain ⟨o, h, rfl⟩ := h
    obtain ⟨a, ov, rfl, g, l⟩ := look_rep s r2 (rep_leaf r) h
    exact ⟨a, ov, rfl, g, k _ (by rw [look_isSome l]; exact isD_bool _)⟩
  · cases h
theorem r_dni {K : Frag} : R2S K (fun y x H Q => ∃ a o, x = .ref a ∧ DGet H a y o ∧ Q (.bl (!o.isSome)) H) gDNi := by
  intro F H v x f v2 x2 f2 d Q s r r2 h k
  unfold gDNi at h
  split at h
  · rw [Option.map_eq_some_iff] at h
    obtain ⟨o, h, rfl⟩ := h
    obtain ⟨a, ov, rfl, g, l⟩ := look_rep s r2 (rep_leaf r) h
    exact ⟨a, ov, rfl, g, k _ (by rw [look_isSome l]; exact isD_bool _)⟩
  · cases h
theorem op_din {X : Cx} (hu : X.A.units + 1 < cLine) : OpR X (compareOp .In) (fun y x H Q => ∃ a o, x = .ref a ∧ DGet H a y o ∧ Q (.bl o.isSome) H) := by
  intro pins s σ H x y v u Q I r1 r2 h
  obtain ⟨a, o, rfl, g, k⟩ := h
  cases (show u = Value.ref a from r2)
  exact d_in hu I g r1 fun s' I' => ⟨.bl _, H, I', rfl, k⟩
theorem op_dni {X : Cx} (hu : X.A.units + 1 < cLine) : OpR X (compareOp .NotIn) (fun y x H Q => ∃ a o, x = .ref a ∧ DGet H a y o ∧ Q (.bl (!o.isSome)) H) := by
  intro pins s σ H x y v u Q I r1 r2 h
  obtain ⟨a, o, rfl, g, k⟩ := h
  cases (show u = Value.ref a from r2)
  exact d_notIn hu I g r1 fun s' I' => ⟨.bl _, H, I', rfl, k⟩
end G
namespace G
open PySem PySem.Spec PyProof.Rows L2

section
variable {X : Cx} {E : XK} {o k x : Expr} {qo qk qx : Env' → Option M} {mk mx : Env' → R M} {pos apos cpos : Pos}
theorem dq_dix (hu : X.A.units + 1 < cLine) (ho : DQ X o qo) (hk : DQ X k qk) (hs : NoSl k := by intro _ _; rfl) : DQ X (.Subscript o k pos) (q2 gDIx qo qk) :=
  (pe_dget hu ho hk hs).imp fun σ H Q h => i_q2 r_dix σ H Q h
theorem de_dixl (hu : X.A.units + 1 < cLine) {i : Nat} (ho : PE X o (tVar i)) (hk : DE X E k mk) (hs : NoSl k := by intro _ _; rfl) : DE X E (.Subscript o k pos) (m2l (lf2 gDIx) i mk) :=
  (pe_dget hu ho hk hs).imp fun σ H Q h => i_2l (R2S.up r_dix) σ H Q h
end
/-! ### d.get(k, x) -/
def gDGet : M → M → M → Option PyData := fun x y z => match y, z with
  | .leaf d, .leaf e => match x.look d with
    | some (some (.leaf u)) => some u
    | some none => some e
    | _ => none
  | _, _ => none
def q3 (g : M → M → M → Option PyData) (qa qb qc : Env' → Option M) : Env' → Option M := fun ρ => match qa ρ, qb ρ, qc ρ with
  | some x, some y, some z => (g x y z).map .leaf
  | _, _, _ => none
/-- the first one a name, whose tree is looked at when the others have come -/
def m3l (g : M → M → M → Option PyData) (i : Nat) (mb mc : Env' → R M) : Env' → R M := fun ρ => match (qName i ρ).bind M.kv with
  | none => .bad
  | some _ => (mb ρ).bind fun y ρ1 => match y with
    | .leaf d => (mc ρ1).bind fun z ρ2 => match qName i ρ2 with
      | some x => match g x (.leaf d) z with
        | some u => .ok (.leaf u) ρ2
        | none => .bad
      | none => .bad
    | _ => .bad
theorem kv_isD {K : Frag} {F H : Hp} {v : V} {x : M} {f : List Addr} {ds : List PyData} (s : Sub F H) (r : Rep K F H v x f) (h : x.kv = some ds) : ∃ a, v = .ref a ∧ L2.IsD H a := by
  obtain ⟨a, rfl, ⟨kvs, h, _⟩ | ⟨kvs, h, _⟩⟩ := rep_kv s r h
  · exact ⟨a, rfl, .inl ⟨_, h⟩⟩
  · exact ⟨a, rfl, .inr ⟨_, h⟩⟩
theorem look_kv {x : M} {d : PyData} {o : Option M} (h : x.look d = some o) : ∃ ds, x.kv = some ds := by
  cases x with
  | leaf e =>
    cases e with
    | dict kds => exact ⟨_, rfl⟩
    | _ => simp [M.look] at h
  | dK l => exact ⟨_, rfl⟩
  | dT l => exact ⟨_, rfl⟩
  | _ => simp [M.look] at h
theorem gDGet_rep {K : Frag} {F H : Hp} {v vk vz : V} {x z : M} {d u : PyData} {f fz : List Addr} {Q : VK} (s : Sub F H) (r : Rep K F H v x f) (rk : IsD K F d vk) (rz : Rep K F H vz z fz) (h : gDGet x (.leaf d) z = some u) (k : ∀ v', IsD K F u v' → Q v' H) :
    ∃ a, v = .ref a ∧ L2.IsD H a ∧ ∃ o, DGet H a vk o ∧ Q (o.getD vz) H := by
  unfold gDGet at h
  cases z with
  | leaf e =>
    dsimp only at h
    cases hl : x.look d with
    | none => rw [hl] at h; cases h
    | some o =>
      obtain ⟨ds, hk⟩ := look_kv hl
      obtain ⟨a, rfl, hd⟩ := kv_isD s r hk
      obtain ⟨a', ov, e', g, l⟩ := look_rep s r rk hl
      cases e'
      refine ⟨a, rfl, hd, ov, g, ?_⟩
      rw [hl] at h
      cases o with
      | none =>
        cases h
        cases ov with
        | none => exact k _ (rep_leaf rz)
        | some _ => exact l.elim
      | some m =>
        cases m with
        | leaf w =>
          cases h
          cases ov with
          | none => exact l.elim
          | some v' =>
            obtain ⟨f', q, _⟩ := l
            exact k _ (rep_leaf q)
        | _ => cases h
  | _ => simp at h
section
variable {X : Cx} {E : XK} {o k x : Expr} {qo qk qx : Env' → Option M} {mk mx : Env' → R M} {apos cpos : Pos}
theorem i_q3get {K : Frag} (σ : L2.St) (H : Hp) (Q : VK) : tQ K (q3 gDGet qo qk qx) σ H Q → tDGet2 (tQ K qo) (tQ K qk) (tQ K qx) σ H Q := fun ⟨F, ρ, φ, e, y, hy, k⟩ => by
  unfold q3 at hy
  split at hy
  · rename_i x y' z h1 h2 h3
    rw [Option.map_eq_some_iff] at hy
    obtain ⟨u, hg, rfl⟩ := hy
    refine ⟨F, ρ, φ, e, x, h1, fun v f r => ?_⟩
    have hg' := hg
    unfold gDGet at hg'
    cases y' with
    | leaf d =>
      cases hl : x.look d with
      | none => cases z <;> simp [hl] at hg'
      | some o =>
        obtain ⟨ds, hk⟩ := look_kv hl
        obtain ⟨a, rfl, hd⟩ := kv_isD e.sub r hk
        refine ⟨a, rfl, hd, F, ρ, φ, e, _, h2, fun vk fk rk => ⟨F, ρ, φ, e, z, h3, fun vz fz rz => ?_⟩⟩
        obtain ⟨a', e', _, o', g', q'⟩ := gDGet_rep (Q := Q) e.sub r (rep_leaf rk) rz hg fun v' hv => k v' [] (.leaf hv)
        cases e'
        exact ⟨o', g', q'⟩
    | _ => simp at hg'
  · cases hy
theorem i_m3get {K : Frag} {mg : Str → Option Value} {i : Nat} (σ : L2.St) (H : Hp) (Q : VK) : tE K mg E (m3l gDGet i mk mx) σ H Q → tDGet2 (tVar i) (tE K mg E mk) (tE K mg E mx) σ H Q := fun ⟨F, ρ, φ, e, k⟩ => by
  unfold m3l at k
  cases hq0 : qName i ρ with
  | none => rw [hq0] at k; exact k.elim
  | some x0 =>
  rw [hq0] at k
  simp only [Option.bind_some] at k
  cases hkv : x0.kv with
  | none => rw [hkv] at k; exact k.elim
  | some ds =>
  rw [hkv] at k
  dsimp only at k
  obtain ⟨v, hv, rx0⟩ := e.rep i x0 (qName_some hq0)
  obtain ⟨a, rfl, hd⟩ := kv_isD e.sub rx0 hkv
  refine ⟨_, hv, a, rfl, hd, F, ρ, φ, e, ?_⟩
  cases hm1 : mk ρ with
  | bad => rw [hm1] at k; exact k.elim
  | err x ρ' => rw [hm1] at k; exact k
  | ok y ρ1 =>
    rw [hm1] at k
    simp only [R.bind_ok] at k
    intro F1 H1 φ1 vk f1 e1 r1 d1 x1
    cases y with
    | leaf d =>
      cases (rep_leaf_fp r1)
      dsimp only at k
      refine ⟨F1, ρ1, φ1, e1, ?_⟩
      cases hm2 : mx ρ1 with
      | bad => rw [hm2] at k; exact k.elim
      | err x ρ' =>
        rw [hm2] at k
        exact XOk.next (φ := φ) k x1.drop
      | ok z ρ2 =>
        rw [hm2] at k
        simp only [R.bind_ok] at k
        intro F2 H2 φ2 vz f2 e2 r2 d2 x2
        cases hq : qName i ρ2 with
        | none => rw [hq] at k; exact k.elim
        | some x =>
          rw [hq] at k
          dsimp only at k
          cases hg : gDGet x (.leaf d) z with
          | none => rw [hg] at k; exact k.elim
          | some u =>
            rw [hg] at k
            obtain ⟨v', hv', rx⟩ := e2.rep i x (qName_some hq)
            rw [hv] at hv'; cases hv'
            obtain ⟨a', e', _, o', g', q'⟩ := gDGet_rep (Q := Q) e2.sub rx ((rep_leaf r1).mono x2.mono) r2 hg fun v' hv => k F2 H2 φ2 v' [] e2 (.leaf hv) (fun a ha => by simp at ha) ((x1.drop.trans x2.drop).nilT)
            cases e'
            exact ⟨o', g', q'⟩
    | _ => exact k.elim
theorem dq_dgetq (hu : X.A.units + 1 < cLine) (ho : DQ X o qo) (hk : DQ X k qk) (hx : DQ X x qx) (m : M2 X o "get" apos k x cpos := by exact ⟨rfl, rfl, rfl, rfl⟩) : DQ X (.Call (.Attribute o "get" apos) [k, x] [] cpos) (q3 gDGet qo qk qx) :=
  (pe_dget2 hu ho hk hx m).imp fun σ H Q h => i_q3get σ H Q h
theorem de_dgetl (hu : X.A.units + 1 < cLine) {i : Nat} (ho : PE X o (tVar i)) (hk : DE X E k mk) (hx : DE X E x mx) (m : M2 X o "get" apos k x cpos := by exact ⟨rfl, rfl, rfl, rfl⟩) : DE X E (.Call (.Attribute o "get" apos) [k, x] [] cpos) (m3l gDGet i mk mx) :=
  (pe_dget2 hu ho hk hx m).imp fun σ H Q h => i_m3get σ H Q h
end
/-! ### d != {} -/
theorem same_empty {prog : Program} {w : World} {A : Around} {E : Value → Shared → Prop} {s : Shared} {nm : String} {a b : Addr} {oa ob : Obj} {es es' : Array DictEntry} {ep ep' : Nat} {Q : Bool → Shared → Prop} (ha : (a == sysModules) = false) (hb : (b == sysModules) = false)
    (hoa : s.heap.get? a = some oa) (hda : oa.data = .dict es ep) (hob : s.heap.get? b = some ob) (hdb : ob.data = .dict es' ep') (h0 : es'.size = 0) (h : Q (es.size == 0) s) : wpAny (model prog w) A (Builtin.Dict.samePairs nm a b) Q E s := by
  unfold Builtin.Dict.samePairs Builtin.Dict.showsAll
  rw [if_neg (show ¬ (a == sysModules) = true by rw [ha]; exact Bool.false_ne_true), if_neg (show ¬ (b == sysModules) = true by rw [hb]; exact Bool.false_ne_true)]
  refine wpAny_bind (wpAny_pure (wpAny_bind (wpAny_pure ?_)))
  refine wpAny_bind (wpAny_dictEntries hoa hda ?_)
  dsimp only
  refine wpAny_bind (wpAny_dictEntries hob hdb ?_)
  by_cases hz : es.size = 0
  · rw [h0, hz, if_neg (by simp)]
    refine wpAny_bind (wpAny_dictEpoch hoa hda ?_)
    refine wpAny_bind ?_
    rw [Std.Legacy.Range.forIn_eq_forIn_range']
    simp only [Std.Legacy.Range.size, Nat.sub_zero, Nat.add_sub_cancel, Nat.div_one, List.range'_zero, List.forIn_nil]
    rw [hz] at h
    exact wpAny_pure (wpAny_pure h)
  · rw [h0, if_pos (by simpa using hz)]
    have : (es.size == 0) = false := by simpa using hz
    rw [this] at h
    exact wpAny_bind (wpAny_rule (wpAny_pure h))
theorem ne_empty {prog : Program} {w : World} {A : Around} {E : Value → Shared → Prop} {s : Shared} {a b : Addr} {oa ob : Obj} {es es' : Array DictEntry} {ep ep' : Nat} {Q : Value → Shared → Prop} (ha : (a == sysModules) = false) (hb : (b == sysModules) = false) (hu : A.units < cLine)
    (ta : s.TypeIs (.ref a) "dict") (tb : s.TypeIs (.ref b) "dict") (hoa : s.heap.get? a = some oa) (hda : oa.data = .dict es ep) (hob : s.heap.get? b = some ob) (hdb : ob.data = .dict es' ep') (h0 : es'.size = 0) (h : Q (.bool (!(es.size == 0))) s) :
    wpAny (model prog w) A (richCompare .NotEq (.ref a) (.ref b)) Q E s := by
  refine wpAny_richCompare_same_room (op := .NotEq) ta tb PySem.F.slot_dict_ne (wpAny_call_entry PySem.F.slot_dict_ne ta PySem.F.entry_dict_ne ?_ (PySem.F.args_dict_ne_2 _ _)) hu
  show wpAny _ _ (Builtin.Dict.dictSlotArgs "__ne__" ⟨[.ref a, .ref b], []⟩ >>= _) _ _ s
  refine wpAny_bind ?_
  unfold Builtin.Dict.dictSlotArgs
  refine wpAny_bind (wpAny_notOrdered_dict ta ?_)
  show wpAny _ _ (pure (Value.ref a, Value.ref b)) _ _ s
  refine wpAny_pure ?_
  refine wpAny_bind (wpAny_isInstance (T := "dict") tb PySem.F.sub_dict_dict ?_)
  simp only [Bool.not_true, Bool.false_eq_true, if_false]
  refine wpAny_bind (wpAny_pure (wpAny_bind (wpAny_pure ?_)))
  refine wpAny_bind (same_empty ha hb hoa hda hob hdb h0 ?_)
  refine wpAny_pure ⟨_, rfl, ?_, ?_⟩
  · exact fun x => nomatch x
  · cases hz : (es.size == 0) <;> rw [hz] at h <;> simpa using h
def rNeE : V → V → Hp → VK → Prop := fun x y H Q => ∃ a b ds, x = .ref a ∧ y = .ref b ∧ Rd H b (.dK []) ∧
  ((∃ kvs : List (Key × V), Rd H a (.dK kvs) ∧ ds = kvs.map fun kv => keyD kv.1) ∨ (∃ kvs : List (List Key × V), Rd H a (.dT kvs) ∧ ds = kvs.map fun kv => keysD kv.1)) ∧ Q (.bl (!(ds : List PyData).isEmpty)) H
theorem op_neE {X : Cx} (hu : X.A.units < cLine) : OpR X (compareOp .NotEq) rNeE := by
  intro pins s σ H x y v u Q I r1 r2 h
  obtain ⟨a, b, ds, rfl, rfl, hb, ha, k⟩ := h
  cases (show v = Value.ref a from r1)
  cases (show u = Value.ref b from r2)
  obtain ⟨zb, nb, vs, relb, db⟩ := dk_rd I.hok hb
  obtain ⟨ob, es', ep', hob, xb, hdb, kb, pb, _⟩ := id db
  have e0 : es'.size = 0 := by
    have := pb.length
    cases relb
    simpa using this
  have fin : ∀ n : Nat, (!(n == 0)) = (!ds.isEmpty) → n = ds.length → EP X pins σ Q (.bool (!(n == 0))) s := fun n e _ => ⟨.bl (!ds.isEmpty), H, I, by rw [e]; rfl, k⟩
  rcases ha with ⟨kvs, ha, rfl⟩ | ⟨kvs, ha, rfl⟩
  · obtain ⟨za, na, vs', rela, da⟩ := dk_rd I.hok ha
    obtain ⟨oa, es, ep, hoa, xa, hda, ka, pa, _⟩ := id da
    have ez : es.size = kvs.length := by have h1 := pa.length; have h2 := rela.length; rw [h2, ← h1]; exact Array.length_toList.symm
    refine ne_empty na nb hu da.typeIs db.typeIs hoa hda hob hdb e0 (fin _ ?_ (by simp [ez]))
    rw [ez]; cases kvs <;> rfl
  · obtain ⟨za, na, xs, rela, da⟩ := dt_rd I.hok ha
    obtain ⟨oa, es, ep, hoa, xa, hda, ea, _, _⟩ := id da
    have ez : es.size = kvs.length := by
      have h1 := congrArg List.length ea
      have h2 : kvs.length = xs.length := rela.length
      simp at h1; omega
    refine ne_empty na nb hu da.typeIs db.typeIs hoa hda hob hdb e0 (fin _ ?_ (by simp [ez]))
    rw [ez]; cases kvs <;> rfl
def mNeE (q : Env' → Option M) : Env' → R M := fun ρ => match (q ρ).bind M.kv with
  | some ds => .ok (.leaf (.bool (!ds.isEmpty))) ρ
  | none => .bad
theorem de_neE {X : Cx} {E : XK} {o : Expr} {q : Env' → Option M} {p pos : Pos} (hu : X.A.units < cLine) (ho : DQ X o q) : DE X E (.Compare o [.NotEq] [.Dict [] [] p] pos) (mNeE q) :=
  (pe_cmpR (op_neE hu) ho pe_dnewK (nomark _)).imp fun σ H Q ⟨F, ρ, φ, e, k⟩ => by
    unfold mNeE at k
    cases hq : q ρ with
    | none => rw [hq] at k; exact k.elim
    | some x =>
      rw [hq] at k
      simp only [Option.bind_some] at k
      cases hkv : x.kv with
      | none => rw [hkv] at k; exact k.elim
      | some ds =>
        rw [hkv] at k
        dsimp only at k
        refine ⟨F, ρ, φ, e, x, hq, fun v f r p hp => ?_⟩
        have g : Grow F H F (L2.upd H p (.dK [])) [p] := Grow.own1 e.sub hp
        obtain ⟨a, rfl, h⟩ := rep_kv (g.env e).sub (g.rep r) hkv
        refine ⟨a, p, ds, rfl, rfl, .inl upd_same, h, ?_⟩
        exact k _ _ φ _ [] (g.env e) (.leaf (isD_bool _)) (fun a ha => by simp at ha) g.ext0.nilT
end G
namespace G
open PySem PySem.Spec PyProof.Rows L2

/-! ### a place within an own tree -/
inductive Stp where
  | ix (d : PyData)
  | fld (x : Str)
def M.sub : M → Stp → Option M
  | .dK l, .ix d => (keyOf d).bind fun k => getG l k
  | .dT l, .ix (.tuple ds) => (keysOf ds).bind fun k => getG l k
  | .lst ms, .ix (.int j) => (ixN ms.length j).bind fun n => ms[n]?
  | .ins _ fs, .fld x => if (fs.map (·.1)).Nodup then getG fs x else none
  | _, _ => none
def M.setSub : M → Stp → M → M
  | .dK l, .ix d, y => match keyOf d with
    | some k => .dK (putG l k y)
    | none => .dK l
  | .dT l, .ix (.tuple ds), y => match keysOf ds with
    | some k => .dT (putG l k y)
    | none => .dT l
  | .lst ms, .ix (.int j), y => match ixN ms.length j with
    | some n => .lst (ms.set n y)
    | none => .lst ms
  | .ins C fs, .fld x, y => .ins C (putG fs x y)
  | m, _, _ => m
def M.subs : M → List Stp → Option M
  | m, [] => some m
  | m, st :: r => (m.sub st).bind fun m1 => m1.subs r
def M.setSubs : M → List Stp → M → M
  | _, [], y => y
  | m, st :: r, y => match m.sub st with
    | some m1 => m.setSub st (m1.setSubs r y)
    | none => m
theorem subs_snoc : ∀ {ss : List Stp} {m m1 : M} {st : Stp}, m.subs ss = some m1 → m.subs (ss ++ [st]) = m1.sub st
  | [], m, m1, st, h => by simp only [M.subs, Option.some.injEq] at h; subst h; simp [M.subs]
  | s :: r, m, m1, st, h => by
    simp only [M.subs, Option.bind_eq_some_iff] at h
    obtain ⟨m2, h2, h⟩ := h
    simp only [List.cons_append, M.subs, h2, Option.bind_some]
    exact subs_snoc h
theorem setSubs_snoc : ∀ {ss : List Stp} {m m1 : M} {st : Stp} {y : M}, m.subs ss = some m1 → (∃ m2, m1.sub st = some m2) → m.setSubs (ss ++ [st]) y = m.setSubs ss (m1.setSub st y)
  | [], m, m1, st, y, h, ⟨m2, h2⟩ => by simp only [M.subs, Option.some.injEq] at h; subst h; simp [M.setSubs, h2]
  | s :: r, m, m1, st, y, h, e => by
    simp only [M.subs, Option.bind_eq_some_iff] at h
    obtain ⟨m2, h2, h⟩ := h
    simp only [List.cons_append, M.setSubs, h2]
    rw [setSubs_snoc h e]
section
variable {κ α : Type} [DecidableEq κ]
theorem getG_ix {k : κ} {m : α} : ∀ {l : List (κ × α)}, getG l k = some m → ∃ n : Nat, l[n]? = some (k, m)
  | [], h => by simp [getG] at h
  | (a, b) :: r, h => by
    by_cases ha : a = k
    · subst ha
      simp [getG] at h
      exact ⟨0, by simp [h]⟩
    · have : getG ((a, b) :: r) k = getG r k := by simp [getG, List.find?_cons, ha]
      rw [this] at h
      obtain ⟨n, e⟩ := getG_ix h
      exact ⟨n + 1, by simpa using e⟩
theorem map_repl {k : κ} {m y : α} : ∀ {l : List (κ × α)} {n : Nat}, (l.map (·.1)).Nodup → l[n]? = some (k, m) → (l.map fun kv => if kv.1 = k then (kv.1, y) else kv) = l.set n (k, y)
  | [], n, _, h => by simp at h
  | p :: r, 0, nd, h => by
    simp at h; subst h
    simp only [List.map_cons, List.nodup_cons] at nd
    have hr : (r.map fun kv => if kv.1 = k then (kv.1, y) else kv) = r := by
      conv => rhs; rw [← List.map_id r]
      refine List.map_congr_left fun q hq => ?_
      rw [if_neg fun z => nd.1 (List.mem_map.mpr ⟨q, hq, z⟩)]; rfl
    simp [hr]
  | p :: r, n + 1, nd, h => by
    simp at h
    simp only [List.map_cons, List.nodup_cons] at nd
    have hm : k ∈ r.map (·.1) := List.mem_map.mpr ⟨_, List.mem_of_getElem? h, rfl⟩
    have : p.1 ≠ k := fun z => nd.1 (z ▸ hm)
    simp only [List.map_cons, this, if_false, List.set_cons_succ]
    rw [map_repl nd.2 h]
theorem putG_ix {k : κ} {m y : α} {l : List (κ × α)} {n : Nat} (nd : (l.map (·.1)).Nodup) (h : l[n]? = some (k, m)) : putG l k y = l.set n (k, y) := by
  have hm : (k, m) ∈ l := List.mem_of_getElem? h
  have ha : (l.any fun kv => decide (kv.1 = k)) = true := List.any_eq_true.mpr ⟨_, hm, by simp⟩
  unfold putG
  rw [if_pos ha]
  exact map_repl nd h
theorem getG_at {k : κ} {m : α} {l : List (κ × α)} {n : Nat} (nd : (l.map (·.1)).Nodup) (h : l[n]? = some (k, m)) : getG l k = some m := by
  induction l generalizing n with
  | nil => simp at h
  | cons p r ih =>
    cases n with
    | zero => simp at h; subst h; simp [getG]
    | succ n =>
      simp at h
      have hm : k ∈ r.map (·.1) := List.mem_map.mpr ⟨_, List.mem_of_getElem? h, rfl⟩
      simp only [List.map_cons, List.nodup_cons] at nd
      have hp : p.1 ≠ k := fun z => nd.1 (z ▸ hm)
      have : getG (p :: r) k = getG r k := by simp [getG, List.find?_cons, hp]
      rw [this]
      exact ih nd.2 h
theorem valV_ix {k : κ} {kvs : List (κ × V)} {v : V} {n : Nat} (nd : (kvs.map (·.1)).Nodup) (h : kvs[n]? = some (k, v)) : valV kvs k = some v := by
  induction kvs generalizing n with
  | nil => simp at h
  | cons p r ih =>
    cases n with
    | zero => simp at h; subst h; exact valV_pos rfl
    | succ n =>
      simp at h
      have hm : k ∈ r.map (·.1) := List.mem_map.mpr ⟨_, List.mem_of_getElem? h, rfl⟩
      simp only [List.map_cons, List.nodup_cons] at nd
      rw [valV_neg (fun z => nd.1 (z ▸ hm))]
      exact ih nd.2 h
end
section
variable {K : Frag} {F H : Hp}
/-- one of several trees in the focus -/
theorem reps_focus {m1 : M} : ∀ {vs : List V} {ms : List M} {fp : List Addr} (n : Nat), Reps K F H vs ms fp → ms[n]? = some m1 → ∃ v1 f1, vs[n]? = some v1 ∧ Rep K F H v1 m1 f1 ∧ (∀ a ∈ f1, a ∈ fp) ∧
    ∀ c o m' f', c ∈ f1 → Rep K F (L2.upd H c o) v1 m' f' → (∀ a ∈ f', a ∈ f1 ∨ a ∉ fp) → ∃ fp', Reps K F (L2.upd H c o) vs (ms.set n m') fp' ∧ ∀ a ∈ fp', a ∈ fp ∨ a ∈ f'
  | _, _, _, n, .nil, h => by simp at h
  | _, _, _, 0, .cons (v := v) (f1 := f1) (f2 := f2) r1 r2 d, h => by
    simp at h; subst h
    refine ⟨v, f1, by simp, r1, fun a ha => by simp [ha], fun c o m' f' hc r' hf => ⟨f' ++ f2, ?_, fun a ha => ?_⟩⟩
    · simp only [List.set_cons_zero]
      refine .cons r' (r2.updN (d c hc)) fun a ha hb => ?_
      rcases hf a ha with z | z
      · exact d a z hb
      · exact z (by simp [hb])
    · rcases List.mem_append.mp ha with h | h
      · exact .inr h
      · exact .inl (by simp [h])
  | _, _, _, n + 1, .cons (v := v) (f1 := f1) (f2 := f2) r1 r2 d, h => by
    simp at h
    obtain ⟨v1, g1, e1, q1, s1, k⟩ := reps_focus n r2 h
    refine ⟨v1, g1, by simpa using e1, q1, fun a ha => by simp [s1 a ha], fun c o m' f' hc r' hf => ?_⟩
    obtain ⟨fp', q, s⟩ := k c o m' f' hc r' fun a ha => (hf a ha).imp id fun z zz => z (by simp [zz])
    refine ⟨f1 ++ fp', ?_, fun a ha => ?_⟩
    · simp only [List.set_cons_succ]
      have hc1 : c ∉ f1 := fun z => d c z (s1 c hc)
      refine .cons (r1.updN hc1) q fun a ha hb => ?_
      rcases s a hb with z | z
      · exact d a ha z
      · rcases hf a z with z | z
        · exact d a ha (s1 a z)
        · exact z (by simp [ha])
    · rcases List.mem_append.mp ha with h | h
      · exact .inl (by simp [h])
      · exact (s a h).imp (fun z => by simp [z]) id
/-- v1, m1 (at f1) stands in the tree m of v at the place ss; what is changed at it alone changes m there -/
structure Foc (K : Frag) (F H : Hp) (m : M) (fp : List Addr) (v : V) (ss : List Stp) (v1 : V) (m1 : M) (f1 : List Addr) : Prop where
  rep : Rep K F H v1 m1 f1
  sub : ∀ a ∈ f1, a ∈ fp
  back : ∀ c o m' f', c ∈ f1 → Rep K F (L2.upd H c o) v1 m' f' → (∀ a ∈ f', a ∈ f1 ∨ a ∉ fp) → ∃ fp', Rep K F (L2.upd H c o) v (m.setSubs ss m') fp' ∧ ∀ a ∈ fp', a ∈ fp ∨ a ∈ f'
theorem Foc.refl {v : V} {m : M} {fp : List Addr} (r : Rep K F H v m fp) : Foc K F H m fp v [] v m fp := ⟨r, fun _ h => h, fun c o m' f' _ r' _ => ⟨f', r', fun a ha => .inr ha⟩⟩
/-- how one comes from the object at a to its part v1 -/
def HopR (K : Frag) (F H : Hp) (st : Stp) (m : M) (a : Addr) (v1 : V) : Prop := match st, m with
  | .ix d, .lst _ => ∃ j vs, d = .int j ∧ H a = some (.lst vs) ∧ (ixN vs.length j).bind (fun n => vs[n]?) = some v1
  | .ix d, _ => Sub F H → ∀ vk, IsD K F d vk → DGet H a vk (some v1)
  | .fld x, _ => ∃ C dx fvs, H a = some (.ins C dx fvs) ∧ getG fvs x = some v1
theorem one_focus {v : V} {m m1 : M} {fp : List Addr} {st : Stp} (r : Rep K F H v m fp) (h : m.sub st = some m1) : ∃ v1 f1, Rep K F H v1 m1 f1 ∧ (∀ a ∈ f1, a ∈ fp) ∧
    (∀ c o m' f', c ∈ f1 → Rep K F (L2.upd H c o) v1 m' f' → (∀ a ∈ f', a ∈ f1 ∨ a ∉ fp) → ∃ fp', Rep K F (L2.upd H c o) v (m.setSub st m') fp' ∧ ∀ a ∈ fp', a ∈ fp ∨ a ∈ f') ∧
    ∃ a, v = .ref a ∧ HopR K F H st m a v1 := by
  cases r with
  | leaf _ => simp [M.sub] at h
  | ro _ _ => simp [M.sub] at h
  | lst h1 h2 rs n =>
    rename_i a vs ms fs
    cases st with
    | fld x => simp [M.sub] at h
    | ix d =>
      cases d with
      | int j =>
        simp only [M.sub, Option.bind_eq_some_iff] at h
        obtain ⟨i, hj, hi⟩ := h
        obtain ⟨v1, f1, e1, q1, s1, k⟩ := reps_focus i rs hi
        refine ⟨v1, f1, q1, fun b hb => by simp [s1 b hb], fun c o m' f' hc r' hf => ?_, a, rfl, j, vs, rfl, h1, ?_⟩
        · obtain ⟨fp', q, s⟩ := k c o m' f' hc r' fun b hb => (hf b hb).imp id fun z zz => z (by simp [zz])
          have hca : c ≠ a := fun z => n (z ▸ s1 c hc)
          refine ⟨a :: fp', ?_, fun b hb => ?_⟩
          · simp only [M.setSub, hj]
            refine .lst (by rw [upd_ne (Ne.symm hca)]; exact h1) h2 q fun z => ?_
            rcases s a z with z | z
            · exact n z
            · rcases hf a z with z | z
              · exact n (s1 a z)
              · exact z (by simp)
          · rcases List.mem_cons.mp hb with rfl | hb
            · exact .inl (by simp)
            · exact (s b hb).imp (fun z => by simp [z]) id
        · rw [rs.len, hj]; exact e1
      | _ => simp [M.sub] at h
  | dK h1 h2 he nd rs n =>
    rename_i a kvs kms fs
    cases st with
    | fld x => simp [M.sub] at h
    | ix d =>
      simp only [M.sub, Option.bind_eq_some_iff] at h
      obtain ⟨k, hk, hg⟩ := h
      obtain ⟨i, hi⟩ := getG_ix hg
      obtain ⟨v1, f1, e1, q1, s1, kk⟩ := reps_focus i rs (m1 := m1) (by rw [List.getElem?_map, hi]; rfl)
      have ek : kvs[i]? = some (k, v1) := by
        rw [List.getElem?_map] at e1
        cases hq : kvs[i]? with
        | none => rw [hq] at e1; cases e1
        | some p =>
          rw [hq] at e1; cases e1
          have := congrArg (fun l => l[i]?) he
          simp only [List.getElem?_map, hq, hi, Option.map_some, Option.some.injEq] at this
          rw [← this]
      refine ⟨v1, f1, q1, fun b hb => by simp [s1 b hb], fun c o m' f' hc r' hf => ?_, a, rfl, fun s vk rk => ?_⟩
      · obtain ⟨fp', q, s⟩ := kk c o m' f' hc r' fun b hb => (hf b hb).imp id fun z zz => z (by simp [zz])
        have hca : c ≠ a := fun z => n (z ▸ s1 c hc)
        refine ⟨a :: fp', ?_, fun b hb => ?_⟩
        · simp only [M.setSub, hk, putG_ix nd hi]
          have e1' : (kms.set i (k, m')).map (·.1) = kms.map (·.1) := by
            rw [List.map_set]
            apply List.ext_getElem?
            intro j
            rw [List.getElem?_set]
            by_cases hj : i = j
            · subst hj
              obtain ⟨hl, e⟩ := List.getElem?_eq_some_iff.mp hi
              simp [hl, e]
            · rw [if_neg hj]
          have e2' : (kms.set i (k, m')).map (·.2) = (kms.map (·.2)).set i m' := by rw [List.map_set]
          refine .dK (by rw [upd_ne (Ne.symm hca)]; exact h1) h2 (by rw [e1']; exact he) (by rw [e1']; exact nd) (by rw [e2']; exact q) fun z => ?_
          rcases s a z with z | z
          · exact n z
          · rcases hf a z with z | z
            · exact n (s1 a z)
            · exact z (by simp)
        · rcases List.mem_cons.mp hb with rfl | hb
          · exact .inl (by simp)
          · exact (s b hb).imp (fun z => by simp [z]) id
      · exact .inl ⟨kvs, k, .inl h1, keyOf_is hk rk, (valV_ix (by rw [he]; exact nd) ek).symm⟩
  | dT h1 h2 he nd rs n =>
    rename_i a kvs kms fs
    cases st with
    | fld x => simp [M.sub] at h
    | ix d =>
      cases d with
      | tuple ds =>
        simp only [M.sub, Option.bind_eq_some_iff] at h
        obtain ⟨k, hk, hg⟩ := h
        obtain ⟨i, hi⟩ := getG_ix hg
        obtain ⟨v1, f1, e1, q1, s1, kk⟩ := reps_focus i rs (m1 := m1) (by rw [List.getElem?_map, hi]; rfl)
        have ek : kvs[i]? = some (k, v1) := by
          rw [List.getElem?_map] at e1
          cases hq : kvs[i]? with
          | none => rw [hq] at e1; cases e1
          | some p =>
            rw [hq] at e1; cases e1
            have := congrArg (fun l => l[i]?) he
            simp only [List.getElem?_map, hq, hi, Option.map_some, Option.some.injEq] at this
            rw [← this]
        refine ⟨v1, f1, q1, fun b hb => by simp [s1 b hb], fun c o m' f' hc r' hf => ?_, a, rfl, fun s vk rk => ?_⟩
        · obtain ⟨fp', q, s⟩ := kk c o m' f' hc r' fun b hb => (hf b hb).imp id fun z zz => z (by simp [zz])
          have hca : c ≠ a := fun z => n (z ▸ s1 c hc)
          refine ⟨a :: fp', ?_, fun b hb => ?_⟩
          · simp only [M.setSub, hk, putG_ix nd hi]
            have e1' : (kms.set i (k, m')).map (·.1) = kms.map (·.1) := by
              rw [List.map_set]
              apply List.ext_getElem?
              intro j
              rw [List.getElem?_set]
              by_cases hj : i = j
              · subst hj
                obtain ⟨hl, e⟩ := List.getElem?_eq_some_iff.mp hi
                simp [hl, e]
              · rw [if_neg hj]
            have e2' : (kms.set i (k, m')).map (·.2) = (kms.map (·.2)).set i m' := by rw [List.map_set]
            refine .dT (by rw [upd_ne (Ne.symm hca)]; exact h1) h2 (by rw [e1']; exact he) (by rw [e1']; exact nd) (by rw [e2']; exact q) fun z => ?_
            rcases s a z with z | z
            · exact n z
            · rcases hf a z with z | z
              · exact n (s1 a z)
              · exact z (by simp)
          · rcases List.mem_cons.mp hb with rfl | hb
            · exact .inl (by simp)
            · exact (s b hb).imp (fun z => by simp [z]) id
        · obtain ⟨b, rfl, hb⟩ := tup_key (d := .none) s rk hk
          exact .inr ⟨kvs, k, b, .inl h1, rfl, hb, (valV_ix (by rw [he]; exact nd) ek).symm⟩
      | _ => simp [M.sub] at h
  | ins h1 h2 he rs n =>
    rename_i a C dx fvs fms fs
    cases st with
    | ix d => simp [M.sub] at h
    | fld x =>
      simp only [M.sub] at h
      split at h
      case isFalse => cases h
      rename_i nd
      obtain ⟨i, hi⟩ := getG_ix h
      obtain ⟨v1, f1, e1, q1, s1, kk⟩ := reps_focus i rs (m1 := m1) (by rw [List.getElem?_map, hi]; rfl)
      have ek : fvs[i]? = some (x, v1) := by
        rw [List.getElem?_map] at e1
        cases hq : fvs[i]? with
        | none => rw [hq] at e1; cases e1
        | some p =>
          rw [hq] at e1; cases e1
          have := congrArg (fun l => l[i]?) he
          simp only [List.getElem?_map, hq, hi, Option.map_some, Option.some.injEq] at this
          rw [← this]
      refine ⟨v1, f1, q1, fun b hb => by simp [s1 b hb], fun c o m' f' hc r' hf => ?_, a, rfl, C, dx, fvs, h1, ?_⟩
      · obtain ⟨fp', q, s⟩ := kk c o m' f' hc r' fun b hb => (hf b hb).imp id fun z zz => z (by simp [zz])
        have hca : c ≠ a := fun z => n (z ▸ s1 c hc)
        refine ⟨a :: fp', ?_, fun b hb => ?_⟩
        · simp only [M.setSub, putG_ix nd hi]
          have e1' : (fms.set i (x, m')).map (·.1) = fms.map (·.1) := by
            rw [List.map_set]
            apply List.ext_getElem?
            intro j
            rw [List.getElem?_set]
            by_cases hj : i = j
            · subst hj
              obtain ⟨hl, e⟩ := List.getElem?_eq_some_iff.mp hi
              simp [hl, e]
            · rw [if_neg hj]
          have e2' : (fms.set i (x, m')).map (·.2) = (fms.map (·.2)).set i m' := by rw [List.map_set]
          refine .ins (by rw [upd_ne (Ne.symm hca)]; exact h1) h2 (by rw [e1']; exact he) (by rw [e2']; exact q) fun z => ?_
          rcases s a z with z | z
          · exact n z
          · rcases hf a z with z | z
            · exact n (s1 a z)
            · exact z (by simp)
        · rcases List.mem_cons.mp hb with rfl | hb
          · exact .inl (by simp)
          · exact (s b hb).imp (fun z => by simp [z]) id
      · exact getG_at (by rw [he]; exact nd) ek
end
end G
namespace G
open PySem PySem.Spec PyProof.Rows L2

theorem subs_snoc_inv : ∀ {ss : List Stp} {m m2 : M} {st : Stp}, m.subs (ss ++ [st]) = some m2 → ∃ m1, m.subs ss = some m1 ∧ m1.sub st = some m2
  | [], m, m2, st, h => by
    simp only [List.nil_append, M.subs, Option.bind_eq_some_iff] at h
    obtain ⟨m1, h1, h2⟩ := h
    cases h2
    exact ⟨m, rfl, h1⟩
  | s :: r, m, m2, st, h => by
    simp only [List.cons_append, M.subs, Option.bind_eq_some_iff] at h
    obtain ⟨m1, h1, h2⟩ := h
    obtain ⟨m3, h3, h4⟩ := subs_snoc_inv h2
    exact ⟨m3, by simp only [M.subs, h1, Option.bind_some]; exact h3, h4⟩
theorem Foc.step {K : Frag} {F H : Hp} {m m1 m2 : M} {fp f1 : List Addr} {v v1 : V} {ss : List Stp} {st : Stp} (fc : Foc K F H m fp v ss v1 m1 f1) (hs : m.subs ss = some m1) (h : m1.sub st = some m2) :
    ∃ v2 f2, Foc K F H m fp v (ss ++ [st]) v2 m2 f2 ∧ ∃ a, v1 = .ref a ∧ HopR K F H st m1 a v2 := by
  obtain ⟨v2, f2, r2, s2, b2, hop⟩ := one_focus fc.rep h
  refine ⟨v2, f2, ⟨r2, fun a ha => fc.sub a (s2 a ha), fun c o m' f' hc r' hf => ?_⟩, hop⟩
  obtain ⟨f3, r3, s3⟩ := b2 c o m' f' hc r' fun a ha => by
    rcases hf a ha with z | z
    · exact .inl z
    · exact .inr fun zz => z (fc.sub a zz)
  obtain ⟨f4, r4, s4⟩ := fc.back c o _ f3 (s2 c hc) r3 fun a ha => by
    rcases s3 a ha with z | z
    · exact .inl z
    · exact (hf a z).imp (s2 a) id
  refine ⟨f4, by rw [setSubs_snoc hs ⟨_, h⟩]; exact r4, fun a ha => ?_⟩
  rcases s4 a ha with z | z
  · exact .inl z
  · exact (s3 a z).imp (fc.sub a) id
/-- an expression that names a place within the tree of slot i -/
def tP (K : Frag) (i : Nat) (qp : Env' → Option (List Stp)) : TE := fun σ H Q => ∃ F ρ φ v0 m ss m1, EnvOk K F H σ ρ φ ∧ σ[i]? = some (some v0) ∧ qName i ρ = some m ∧ qp ρ = some ss ∧ m.subs ss = some m1 ∧ ∀ v1 f1, Foc K F H m (φ i) v0 ss v1 m1 f1 → Q v1 H
abbrev DP (X : Cx) (o : Expr) (i : Nat) (qp : Env' → Option (List Stp)) : Prop := PE X o (tP X.K i qp)
def pNil : Env' → Option (List Stp) := fun _ => some []
/-- the tree, the place, what stands there -/
def pAt (i : Nat) (qp : Env' → Option (List Stp)) : Env' → Option (M × List Stp × M) := fun ρ => (qName i ρ).bind fun m => (qp ρ).bind fun ss => (m.subs ss).map fun m1 => (m, ss, m1)
def qAt (i : Nat) (qp : Env' → Option (List Stp)) : Env' → Option M := fun ρ => (pAt i qp ρ).map fun x => x.2.2
theorem pAt_some {i : Nat} {qp : Env' → Option (List Stp)} {ρ : Env'} {m m1 : M} {ss : List Stp} (h : pAt i qp ρ = some (m, ss, m1)) : qName i ρ = some m ∧ qp ρ = some ss ∧ m.subs ss = some m1 := by
  simp only [pAt, Option.bind_eq_some_iff, Option.map_eq_some_iff] at h
  obtain ⟨m', h1, ss', h2, m1', h3, e⟩ := h
  cases e
  exact ⟨h1, h2, h3⟩
def M.isDicM : M → Bool
  | .dK _ => true
  | .dT _ => true
  | _ => false
def M.isLstM : M → Bool
  | .lst _ => true
  | _ => false
/-- one key further, in a dict -/
def pDx (i : Nat) (qp : Env' → Option (List Stp)) (qk : Env' → Option M) : Env' → Option (List Stp) := fun ρ => match pAt i qp ρ, qk ρ with
  | some (_, ss, m1), some (.leaf d) => if m1.isDicM then some (ss ++ [.ix d]) else none
  | _, _ => none
/-- one place further, in a list -/
def pLx (i : Nat) (qp : Env' → Option (List Stp)) (qk : Env' → Option M) : Env' → Option (List Stp) := fun ρ => match pAt i qp ρ, qk ρ with
  | some (_, ss, m1), some (.leaf d) => if m1.isLstM then some (ss ++ [.ix d]) else none
  | _, _ => none
section
variable {X : Cx} {E : XK} {J : List Nat} {i : Nat} {o k e : Expr} {qp : Env' → Option (List Stp)} {qk : Env' → Option M} {mv : Env' → R M} {pos pos' apos : Pos}
theorem dp_name (h : PE X o (tVar i)) : DP X o i pNil := PE.imp h fun σ H Q ⟨F, ρ, φ, v0, m, ss, m1, e, hv, hm, hp, hs, k⟩ => by
  cases hp
  cases hs
  obtain ⟨v, hv', r⟩ := e.rep i m (qName_some hm)
  rw [hv] at hv'; cases hv'
  exact ⟨v0, hv, k _ _ (Foc.refl r)⟩
theorem dq_p (h : DP X o i qp) : DQ X o (qAt i qp) := PE.imp h fun σ H Q ⟨F, ρ, φ, e, x, hx, k⟩ => by
  simp only [qAt, Option.map_eq_some_iff] at hx
  obtain ⟨⟨m, ss, m1⟩, h, rfl⟩ := hx
  obtain ⟨h1, h2, h3⟩ := pAt_some h
  obtain ⟨v, hv, r⟩ := e.rep i m (qName_some h1)
  exact ⟨F, ρ, φ, v, m, ss, m1, e, hv, h1, h2, h3, fun v1 f1 fc => k v1 f1 fc.rep⟩
theorem dp_dix (hu : X.A.units + 1 < cLine) (ho : DP X o i qp) (hk : DQ X k qk) (hs : NoSl k := by intro _ _; rfl) : DP X (.Subscript o k pos) i (pDx i qp qk) :=
  (pe_dget hu ho hk hs).imp fun σ H Q ⟨F, ρ, φ, v0, m, ss, m1, e, hv, hm, hp, hss, kk⟩ => by
    unfold pDx at hp
    split at hp
    case h_2 => cases hp
    rename_i m' ss0 mm d hat hq
    split at hp
    case isFalse => cases hp
    rename_i hdic
    cases hp
    obtain ⟨h1, h2, h3⟩ := pAt_some hat
    rw [hm] at h1; cases h1
    obtain ⟨m3, h4, h5⟩ := subs_snoc_inv hss
    rw [h3] at h4; cases h4
    refine ⟨F, ρ, φ, v0, m, ss0, mm, e, hv, hm, h2, h3, fun v1 f1 fc => ⟨F, ρ, φ, e, _, hq, fun vk fk rk => ?_⟩⟩
    obtain ⟨v2, f2, fc2, a, rfl, hop⟩ := fc.step h3 h5
    refine ⟨a, v2, rfl, ?_, kk v2 f2 fc2⟩
    cases mm <;> first | exact hop e.sub vk (rep_leaf rk) | cases hdic
theorem dp_lix (ho : DP X o i qp) (hk : DQ X k qk) (hs : PlainIx k := by intro _ _; rfl) : DP X (.Subscript o k pos) i (pLx i qp qk) :=
  (pe_ix ix_list ho hk hs).imp fun σ H Q ⟨F, ρ, φ, v0, m, ss, m1, e, hv, hm, hp, hss, kk⟩ => by
    unfold pLx at hp
    split at hp
    case h_2 => cases hp
    rename_i m' ss0 mm d hat hq
    split at hp
    case isFalse => cases hp
    rename_i hdic
    cases hp
    obtain ⟨h1, h2, h3⟩ := pAt_some hat
    rw [hm] at h1; cases h1
    obtain ⟨m3, h4, h5⟩ := subs_snoc_inv hss
    rw [h3] at h4; cases h4
    refine ⟨F, ρ, φ, v0, m, ss0, mm, e, hv, hm, h2, h3, fun v1 f1 fc => ⟨F, ρ, φ, e, _, hq, fun vk fk rk => ?_⟩⟩
    obtain ⟨v2, f2, fc2, a, rfl, hop⟩ := fc.step h3 h5
    cases mm <;> first | cases hdic | skip
    obtain ⟨j, vs, rfl, hH, hix⟩ := hop
    refine ⟨a, vs, j, v2, rfl, isD_int_iff.mp (rep_leaf rk), .inl (.inl hH), ?_, kk v2 f2 fc2⟩
    unfold atI
    cases hn : ixN vs.length j with
    | none => rw [hn] at hix; cases hix
    | some n => rw [hn] at hix; exact hix
/-- place[k] = e -/
def mPutF (i : Nat) (qp : Env' → Option (List Stp)) (mv : Env' → R M) (qk : Env' → Option M) : Env' → O := fun ρ => match mv ρ with
  | .ok y ρ1 => match pAt i qp ρ1, qk ρ1 with
    | some (m, ss, m1), some (.leaf d) => match m1.put d y with
      | some m' => .next (ρ1.set i (some (m.setSubs ss m')))
      | none => .bad
    | _, _ => .bad
  | .err x ρ1 => .err x ρ1
  | .bad => .bad
theorem ds_putF (hu : X.A.units + 1 < cLine) (he : DE X E e mv) (ho : DP X o i qp) (hk : DQ X k qk) (hs : swapsWithSole [.Subscript o k pos'] e pos.line X.env = pure false := by rfl) (hw : swappedStores [.Subscript o k pos'] e X.env = pure none := by rfl)
    (h1 : (assignEach [.Subscript o k pos'] X.env).map (·.2) = [assign (.Subscript o k pos') X.env] := by rfl)
    (ha : ∀ v, assign (.Subscript o k pos') X.env v = (do
      let ov ← holding [v] (eval o X.env)
      let iv ← holding [v, ov] (eval k X.env)
      standAt pos'
      holding [v, ov, iv] (setItem ov iv v)
      release [v, ov, iv] []) := by intro _; rfl) : DS X E J (.Assign [.Subscript o k pos'] e pos) (mPutF i qp mv qk) := (ps_asg he (pg_sub ho hk (set_any hu) ha) hs hw h1).imp fun D σ H ⟨F, ρ, φ, e, q⟩ => by
  refine ⟨F, ρ, φ, e, ?_⟩
  unfold mPutF at q
  cases hm : mv ρ with
  | bad => rw [hm] at q; exact q.elim
  | err x ρ' => rw [hm] at q; exact q.err
  | ok y ρ1 =>
    rw [hm] at q
    dsimp only at q
    intro F1 H1 φ1 vy f e1 r1 d1 x1
    split at q
    case h_2 => exact q.elim
    rename_i m ss m1 d hat hq
    obtain ⟨h1, h2, h3⟩ := pAt_some hat
    obtain ⟨v, hv, _⟩ := e1.rep i m (qName_some h1)
    refine ⟨F1, ρ1, φ1, v, m, ss, m1, e1, hv, h1, h2, h3, fun v1 f1 fc => ⟨F1, ρ1, φ1, e1, _, hq, fun vk fk rk => ?_⟩⟩
    cases hp : m1.put d y with
    | none => rw [hp] at q; exact q.elim
    | some m' =>
      rw [hp] at q
      have dm : ∀ a ∈ f, a ∉ f1 := fun a ha hb => d1 a ha ⟨i, fc.sub a hb⟩
      obtain ⟨c, ob, fp', g1, g2, g3, g4⟩ := rep_put e1.sub fc.rep (rep_leaf rk) r1 dm hp
      refine g4 _ ?_
      obtain ⟨fp2, r2, s2⟩ := fc.back c ob m' fp' g1 g3 fun a ha => by
        rcases g2 a ha with z | z
        · exact .inl z
        · exact .inr fun zz => d1 a z ⟨i, zz⟩
      have s2' : ∀ a ∈ fp2, a ∈ φ1 i ∨ a ∈ f := fun a ha => by
        rcases s2 a ha with z | z
        · exact .inl z
        · exact (g2 a z).imp (fc.sub a) id
      have e4 := e1.mut (qName_some h1) hv (fc.sub c g1) r2 fun a ha => (s2' a ha).imp id fun h z => d1 a h z
      refine q _ _ _ σ e4 ((x1.upd (D := c) (.inl ⟨i, fc.sub c g1⟩)).less fun a h => ?_) .refl
      rcases om_mut h with h | h
      · exact .inl h
      · exact (s2' a h).imp (fun h => ⟨i, h⟩) id
end
/-! ### row = found.setdefault(k, {}); row[p] = row.get(p, 0) + n -/
theorem i_seq {K : Frag} {mg : Str → Option Value} {E : XK} {J : List Nat} {a b : Env' → O} {D : Ends} {σ : L2.St} {H : Hp} (h : tS K mg E J (mSeq a b) D σ H) : tS K mg E J a { D with nx := tS K mg E J b D } σ H := by
  obtain ⟨F, ρ, φ, e, k⟩ := h
  refine ⟨F, ρ, φ, e, ?_⟩
  unfold mSeq at k
  cases ha : a ρ with
  | next ρ1 =>
    rw [ha] at k
    intro F' H' φ' σ' e' x' p'
    exact ⟨F', ρ1, φ', e', k.next x' p'⟩
  | ret x ρ1 => rw [ha] at k; exact k
  | brk ρ1 => rw [ha] at k; exact k
  | cont ρ1 => rw [ha] at k; exact k
  | err x ρ1 => rw [ha] at k; exact k
  | bad => rw [ha] at k; exact k
/-- what stands at a key, 0 where nothing does -/
def oldI (l : List (Key × M)) (k : Key) : Option Int := match getG l k with
  | none => some 0
  | some (.leaf (.int x)) => some x
  | _ => none
/-- row[p] = row.get(p, 0) + n, row being the dict in slot i at the key kd -/
def bump2 (i : Nat) (kd : PyData) (qp qm : Env' → Option M) (ρ : Env') : O := match qName i ρ with
  | some m => match m.sub (.ix kd), qp ρ, qm ρ with
    | some (.dK row), some (.leaf pd), some (.leaf (.int n)) => match keyOf pd with
      | some p => match oldI row p with
        | some x => if row.length < 16777216 then .next (ρ.set i (some (m.setSub (.ix kd) (.dK (putG row p (.leaf (.int (x + n)))))))) else .bad
        | none => .bad
      | none => .bad
    | _, _, _ => .bad
  | none => .bad
/-- the dict with a row at k -/
def openL (l : List (Key × M)) (k : Key) : List (Key × M) := match getG l k with
  | some _ => l
  | none => l ++ [(k, .dK [])]
def mBump (i r : Nat) (qk qp qm : Env' → Option M) : Env' → O := fun ρ => match qName i ρ, qk ρ with
  | some (.dK l), some (.leaf kd) => match keyOf kd with
    | some k => if l.length < 16777216 ∧ i ≠ r ∧ r < ρ.length then bump2 i kd qp qm ((ρ.set i (some (.dK (openL l k)))).set r none) else .bad
    | none => .bad
  | _, _ => .bad
section
variable {K : Frag} {mg : Str → Option Value} {E : XK} {J : List Nat} {D : Ends} {F H : Hp} {σ : L2.St} {ρ : Env'} {φ : Nat → List Addr}
theorem i_bump2 {i r : Nat} {kd : PyData} {qp qm : Env' → Option M} {m m1 : M} {v0 v1 : V} {f1 : List Addr} (e : EnvOk K F H σ ρ φ) (hm : qName i ρ = some m) (hv : σ[i]? = some (some v0)) (hr : σ[r]? = some (some v1)) (hs : m.sub (.ix kd) = some m1)
    (fc : Foc K F H m (φ i) v0 [.ix kd] v1 m1 f1) (k : tO K mg E J F H φ σ (bump2 i kd qp qm ρ) D) :
    tAsg (tOp (rI0 fun i j => .int (i + j)) (tDGet2 (tVar r) (tQ K qp) (tC (.int 0))) (tQ K qm)) (L2.gSub (tVar r) (tQ K qp) rSetAny) D σ H := by
  unfold bump2 at k
  rw [hm] at k
  dsimp only at k
  split at k
  case h_2 => exact k.elim
  rename_i row pd n h1 h2 h3
  rw [hs] at h1; cases h1
  cases hp : keyOf pd with
  | none => rw [hp] at k; exact k.elim
  | some p =>
    rw [hp] at k
    dsimp only at k
    cases ho : oldI row p with
    | none => rw [ho] at k; exact k.elim
    | some x =>
      rw [ho] at k
      dsimp only at k
      split at k
      case isFalse => exact k.elim
      rename_i hz
      have fcr := fc.rep
      obtain ⟨ds, hkv⟩ : ∃ ds, (M.dK row).kv = some ds := ⟨_, rfl⟩
      obtain ⟨a, rfl, hd⟩ := kv_isD e.sub fcr hkv
      refine ⟨_, hr, a, rfl, hd, F, ρ, φ, e, _, h2, fun vk fk rk => ?_⟩
      have hg : gDGet (.dK row) (.leaf pd) (.leaf (.int 0)) = some (.int x) := by
        unfold gDGet oldI at *
        simp only [M.look, hp, Option.map_some]
        cases hg : getG row p with
        | none => rw [hg] at ho; cases ho; rfl
        | some y =>
          rw [hg] at ho
          cases y with
          | leaf d =>
            cases d with
            | int z => cases ho; rfl
            | _ => cases ho
          | _ => cases ho
      obtain ⟨a', e', _, ov, gg, hx⟩ := gDGet_rep (F := F) (vz := .int 0) (Q := fun v' H' => v' = .int x ∧ H' = H) e.sub fcr (rep_leaf rk) (.leaf (isD_int 0)) hg fun v' hv' => ⟨isD_int_iff.mp hv', rfl⟩
      cases e'
      refine ⟨ov, gg, F, ρ, φ, e, _, h3, fun vn fn rn => ⟨x, n, hx.1, isD_int_iff.mp (rep_leaf rn), ?_⟩⟩
      refine ⟨_, hr, F, ρ, φ, e, _, h2, fun vk' fk' rk' => ?_⟩
      have hput : (M.dK row).put pd (.leaf (.int (x + n))) = some (.dK (putG row p (.leaf (.int (x + n))))) := by
        simp only [M.put, hp, hz, if_true]
      obtain ⟨c, ob, fp', g1, g2, g3, g4⟩ := rep_put e.sub fcr (rep_leaf rk') (.leaf (isD_int (x + n))) (fun a ha => by simp at ha) hput
      refine g4 _ ?_
      obtain ⟨fp2, r2, s2⟩ := fc.back c ob _ fp' g1 g3 fun a ha => by
        rcases g2 a ha with z | z
        · exact .inl z
        · simp at z
      have s2' : ∀ a ∈ fp2, a ∈ φ i := fun a ha => by
        rcases s2 a ha with z | z
        · exact z
        · rcases g2 a z with z | z
          · exact fc.sub a z
          · simp at z
      have e4 := e.mut (qName_some hm) hv (fc.sub c g1) r2 fun a ha => .inl (s2' a ha)
      have hss : m.setSubs [.ix kd] (.dK (putG row p (.leaf (.int (x + n))))) = m.setSub (.ix kd) (.dK (putG row p (.leaf (.int (x + n))))) := by simp only [M.setSubs, hs]
      rw [hss] at e4
      refine k _ _ _ σ e4 ((Ext.refl.upd (D := c) ⟨i, fc.sub c g1⟩).less fun a h => ?_) .refl
      rcases om_mut h with h | h
      · exact h
      · exact ⟨i, s2' a h⟩
theorem i_bump {i r : Nat} {qk qp qm : Env' → Option M} (hj : r ∉ J) (h : tS K mg E J (mBump i r qk qp qm) D σ H) :
    tAsg (tDSetd (tVar i) (tQ K qk) tDNewK) (gName r) { D with nx := fun σ' H' => tAsg (tOp (rI0 fun i j => .int (i + j)) (tDGet2 (tVar r) (tQ K qp) (tC (.int 0))) (tQ K qm)) (L2.gSub (tVar r) (tQ K qp) rSetAny) D σ' H' } σ H := by
  obtain ⟨F, ρ, φ, e, k⟩ := h
  unfold mBump at k
  split at k
  case h_2 => exact k.elim
  rename_i l kd hi hq
  cases hk : keyOf kd with
  | none => rw [hk] at k; exact k.elim
  | some key =>
    rw [hk] at k
    dsimp only at k
    split at k
    case isFalse => exact k.elim
    rename_i hz
    obtain ⟨hz, hir, hrl⟩ := hz
    have hrl : r < σ.length := by rw [e.len]; exact hrl
    obtain ⟨v0, hv, r0⟩ := e.rep i _ (qName_some hi)
    obtain ⟨ds, hkv⟩ : ∃ ds, (M.dK l).kv = some ds := ⟨_, rfl⟩
    obtain ⟨a, rfl, hd⟩ := kv_isD e.sub r0 hkv
    refine ⟨_, hv, a, rfl, hd, F, ρ, φ, e, _, hq, fun vk fk rk p hp => ?_⟩
    have g : Grow F H F (L2.upd H p (.dK [])) [p] := Grow.own1 e.sub hp
    have e3 := g.env e
    have r3 := g.rep r0
    have hvk := keyOf_is hk (rep_leaf rk)
    have hil : i < ρ.length := (List.getElem?_eq_some_iff.mp (qName_some hi)).1
    have hwr : ∀ v, (σ.set r (some v))[r]? = some (some v) := fun v => List.getElem?_set_self hrl
    have hwi : ∀ v, (σ.set r (some v))[i]? = some (some (V.ref a)) := fun v => by rw [List.getElem?_set_ne (Ne.symm hir)]; exact hv
    generalize hφi : φ i = fpi at r3
    cases r3 with | dK h1 h2 he nd rs n => ?_
    rename_i kvs fs
    have hlen : kvs.length = l.length := by have := congrArg List.length he; simpa using this
    refine ⟨kvs, key, h1, hvk, by rw [sizeLine_eq]; omega, fun v hvv => ?_, fun hvn => ?_⟩
    · -- there already
      have lk := own_look (k := key) he rs
      rw [hvv] at lk
      cases hgl : getG l key with
      | none => rw [hgl] at lk; exact lk.elim
      | some m1 =>
        unfold openL at k
        rw [hgl] at k
        dsimp only at k
        have hset : ρ.set i (some (.dK l)) = ρ := by
          apply List.ext_getElem?
          intro j
          rw [List.getElem?_set]
          by_cases hj : i = j
          · subst hj; rw [if_pos rfl, if_pos hil, qName_some hi]
          · rw [if_neg hj]
        rw [hset] at k
        have e4 := e3.drop r (some v)
        have hm : qName i (ρ.set r none) = some (.dK l) := by unfold qName; rw [List.getElem?_set_ne (Ne.symm hir), qName_some hi]; rfl
        have hsub : (M.dK l).sub (.ix kd) = some m1 := by simp only [M.sub, hk, Option.bind_some, hgl]
        have rr : Rep K F (L2.upd H p (.dK [])) (.ref a) (.dK l) (φ i) := by rw [hφi]; exact .dK h1 h2 he nd rs n
        obtain ⟨v2, f2, fc, a2, e2, hop⟩ := (Foc.refl rr).step rfl hsub
        cases e2
        have hv2 : v2 = v := by
          obtain ⟨kvs', k', hr', ey, ev⟩ | ⟨kvs', k', b, hr', ey, _, ev⟩ := hop e4.sub vk (rep_leaf rk)
          · rcases hr' with hr' | ⟨_, hr'⟩
            · rw [h1] at hr'; cases hr'
              rw [hvk] at ey
              rw [← kV_inj ey, hvv] at ev
              cases ev; rfl
            · rw [h1] at hr'; cases hr'
          · rcases hr' with hr' | ⟨_, hr'⟩ <;> (rw [h1] at hr'; cases hr')
        subst hv2
        have fc' : Foc K F (L2.upd H p (.dK [])) (.dK l) ((fun j => if j = r then [] else φ j) i) (.ref a) [.ix kd] v2 m1 f2 := by simp only [hir, if_false]; exact fc
        refine i_bump2 e4 hm (hwi _) (hwr _) hsub fc' (k.next ?_ (.set hj))
        exact (g.ext0 (O := Om φ)).less fun a h => om_drop h
    · -- laid anew
      have lk := own_look (k := key) he rs
      rw [hvn] at lk
      cases hgl : getG l key with
      | some m1 => rw [hgl] at lk; exact lk.elim
      | none =>
        unfold openL at k
        rw [hgl] at k
        dsimp only at k
        have hap : a ≠ p := fun z => by
          have := (e.tracked (a := a) ⟨i, by rw [hφi]; simp⟩).1
          rw [z] at this
          exact this.not (.inl hp)
        have hpf : p ∉ a :: fs := fun z => by
          have := (e.tracked (a := p) ⟨i, by rw [hφi]; exact z⟩).1
          exact this.not (.inl hp)
        have hFp : F p = none := by
          cases q : F p with
          | none => rfl
          | some u => rw [e.sub p u q] at hp; cases hp
        have rp : Rep K F (L2.upd H p (.dK [])) (.ref p) (.dK []) [p] := .dK (kvs := []) upd_same hFp rfl (by simp) .nil (by simp)
        have kn : key ∉ l.map (·.1) := fun z => by
          obtain ⟨⟨k', m'⟩, hmem, e'⟩ := List.mem_map.mp z
          dsimp only at e'
          subst e'
          have : (l.find? fun kv => decide (kv.1 = k')).isSome = true := List.find?_isSome.mpr ⟨_, hmem, by simp⟩
          unfold getG at hgl
          cases hf : l.find? (fun kv => decide (kv.1 = k')) with
          | none => rw [hf] at this; cases this
          | some _ => rw [hf] at hgl; cases hgl
        have hput : putK kvs key (.ref p) = kvs ++ [(key, .ref p)] := putK_new _ hvn
        have hpa : p ∉ [a] := by simp; exact fun z => hap z.symm
        have rnew : Rep K F (L2.upd (L2.upd H p (.dK [])) a (.dK (kvs ++ [(key, .ref p)]))) (.ref a) (.dK (l ++ [(key, .dK [])])) (a :: (fs ++ [p])) := by
          refine .dK upd_same h2 (by simp [he]) (by simpa using List.nodup_append.mpr ⟨nd, by simp, fun x hx y hy => by simp at hy; subst hy; exact fun z => kn (z ▸ hx)⟩) ?_ (fun z => ?_)
          · rw [List.map_append, List.map_append]
            exact (rs.updN n).snoc (rp.updN (by simp; exact hap)) fun b hb => by simp at hb; subst hb; exact fun z => hpf (by simp [z])
          · rcases List.mem_append.mp z with z | z
            · exact n z
            · simp at z; exact hap z
        have e4 := e3.mut (m' := .dK (l ++ [(key, .dK [])])) (qName_some hi) hv (c := a) (by rw [hφi]; simp) rnew fun b hb => by
          rw [hφi]
          rcases List.mem_cons.mp hb with rfl | hb
          · exact .inl (by simp)
          · rcases List.mem_append.mp hb with hb | hb
            · exact .inl (by simp [hb])
            · simp at hb; subst hb
              exact .inr (g.off e b (by simp))
        have e5 := e4.drop r (some (.ref p))
        have hm : qName i ((ρ.set i (some (.dK (l ++ [(key, .dK [])])))).set r none) = some (.dK (l ++ [(key, .dK [])])) := by
          unfold qName; rw [List.getElem?_set_ne (Ne.symm hir), List.getElem?_set_self hil]; rfl
        have hgn : getG (l ++ [(key, M.dK [])]) key = some (.dK []) := by
          have : l.find? (fun kv => decide (kv.1 = key)) = none := by
            unfold getG at hgl
            cases hf : l.find? (fun kv => decide (kv.1 = key)) with
            | none => rfl
            | some _ => rw [hf] at hgl; cases hgl
          simp [getG, List.find?_append, this]
        have hsub : (M.dK (l ++ [(key, M.dK [])])).sub (.ix kd) = some (.dK []) := by simp only [M.sub, hk, Option.bind_some, hgn]
        obtain ⟨v2, f2, fc, a2, e2, hop⟩ := (Foc.refl rnew).step rfl hsub
        cases e2
        have hv2 : v2 = .ref p := by
          obtain ⟨kvs', k', hr', ey, ev⟩ | ⟨kvs', k', b, hr', ey, _, ev⟩ := hop e5.sub vk (rep_leaf rk)
          · rcases hr' with hr' | ⟨_, hr'⟩
            · rw [upd_same] at hr'; cases hr'
              rw [hvk] at ey
              rw [← kV_inj ey, valV_snoc _ _ _ _ hvn, if_pos rfl] at ev
              cases ev; rfl
            · rw [upd_same] at hr'; cases hr'
          · rcases hr' with hr' | ⟨_, hr'⟩ <;> (rw [upd_same] at hr'; cases hr')
        subst hv2
        rw [hput]
        have fc' : Foc K F (L2.upd (L2.upd H p (.dK [])) a (.dK (kvs ++ [(key, .ref p)]))) (.dK (l ++ [(key, .dK [])])) ((fun j => if j = r then [] else (fun j => if j = i then a :: (fs ++ [p]) else φ j) j) i) (.ref a) [.ix kd] (.ref p) (.dK []) f2 := by
          simp only [hir, if_false, if_true]; exact fc
        refine i_bump2 e5 hm (hwi _) (hwr _) hsub fc' (k.next ?_ (.set hj))
        have xg : Ext F H (Om φ) F (L2.upd H p (.dK [])) (fun b => Om φ b ∨ b ∈ [p]) := g.ext
        refine (xg.upd (D := a) (.inl ⟨i, by rw [hφi]; simp⟩)).less fun b h => ?_
        rcases om_mut (om_drop h) with h | h
        · exact .inl h
        · rcases List.mem_cons.mp h with rfl | h
          · exact .inl ⟨i, by rw [hφi]; simp⟩
          · rcases List.mem_append.mp h with h | h
            · exact .inl ⟨i, by rw [hφi]; simp [h]⟩
            · exact .inr h
end
end G
namespace G
open PySem PySem.Spec PyProof.Rows L2

/-! ### several dicts locked -/
structure LockS (F' H' F H : Hp) (L : List Addr) : Prop where
  nd : L.Nodup
  off : ∀ a, a ∉ L → F a = F' a ∧ H a = H' a
  on : ∀ a ∈ L, ∃ od u, isDic u ∧ F' a = some u ∧ H' a = some u ∧ F a = some (.frz od u) ∧ H a = some (.frz od u)
section
variable {K : Frag} {F' H' F H F1 H1 F2 H2 F0 H0 : Hp} {L : List Addr} {O O1 O2 : Addr → Prop} {σ : L2.St} {ρ : Env'} {φ : Nat → List Addr} {N : Addr → Prop}
theorem LockS.refl : LockS F H F H [] := ⟨List.nodup_nil, fun _ _ => ⟨rfl, rfl⟩, fun a h => by simp at h⟩
theorem LockS.fsub (l : LockS F' H' F H L) : FSub F F' := by
  refine ⟨fun a x nz r => ?_, fun a vs e => ?_, fun a vs e => ?_⟩
  · by_cases ha : a ∈ L
    · obtain ⟨od, u, _, e1, _, e3, _⟩ := l.on a ha
      rcases r with r | ⟨o, r⟩
      · rw [e3] at r; cases r; exact nz.elim
      · rw [e3] at r; cases r; exact .inl e1
    · obtain ⟨e1, _⟩ := l.off a ha
      unfold Rd at r ⊢; rw [← e1]; exact r
  · have ha : a ∉ L := fun ha => by obtain ⟨od, u, _, _, _, e3, _⟩ := l.on a ha; rw [e3] at e; cases e
    rw [← (l.off a ha).1]; exact e
  · have ha : a ∉ L := fun ha => by obtain ⟨od, u, _, _, _, e3, _⟩ := l.on a ha; rw [e3] at e; cases e
    rw [← (l.off a ha).1]; exact e
theorem LockS.out (l : LockS F' H' F H L) {a : Addr} (h : F a = none) : a ∉ L := fun ha => by obtain ⟨od, u, _, _, _, e3, _⟩ := l.on a ha; rw [e3] at h; cases h
theorem LockS.rep (l : LockS F' H' F H L) {v : V} {m : M} {f : List Addr} (r : Rep K F H v m f) : Rep K F' H' v m f :=
  r.keep l.fsub (fun a ha o e => by rw [← (l.off a (l.out (r.fp a ha).2)).2]; exact e) fun a ha => by rw [← (l.off a (l.out (r.fp a ha).2)).1]; exact (r.fp a ha).2
theorem LockS.env (l : LockS F' H' F H L) (e : EnvOk K F H σ ρ φ) : EnvOk K F' H' σ ρ φ := by
  refine ⟨fun a u q => ?_, e.len, fun i m hm => ?_, e.dis, e.emp⟩
  · by_cases ha : a ∈ L
    · obtain ⟨od, u', _, e1, e2, _, _⟩ := l.on a ha
      rw [e1] at q; cases q; exact e2
    · obtain ⟨e1, e2⟩ := l.off a ha
      rw [← e1] at q; rw [← e2]; exact e.sub _ _ q
  · obtain ⟨v, hv, r⟩ := e.rep i m hm
    exact ⟨v, hv, l.rep r⟩
theorem LockS.lockOf (l : LockS F' H' F H L) (s : Sub F H) (k : LockOf N F H F1 H1) : ∃ L1, LockS F' H' F1 H1 L1 := by
  rcases k with ⟨rfl, rfl⟩ | ⟨d, od, u, k⟩
  · exact ⟨L, l⟩
  · have hd : d ∉ L := fun ha => by
      obtain ⟨od', u', du, _, _, e3, _⟩ := l.on d ha
      have := k.at'; rw [e3] at this; cases this; exact k.dic
    obtain ⟨e1, e2⟩ := l.off d hd
    refine ⟨d :: L, List.nodup_cons.mpr ⟨hd, l.nd⟩, fun a ha => ?_, fun a ha => ?_⟩
    · simp only [List.mem_cons, not_or] at ha
      rw [k.f, k.h, upd_ne ha.1, upd_ne ha.1]
      exact l.off a ha.2
    · by_cases had : a = d
      · subst had
        refine ⟨od, u, k.dic, by rw [← e1]; exact k.at', by rw [← e2]; exact s _ _ k.at', ?_, ?_⟩
        · rw [k.f, upd_same]
        · rw [k.h, upd_same]
      · have ha' : a ∈ L := (List.mem_cons.mp ha).resolve_left had
        rw [k.f, k.h, upd_ne had, upd_ne had]
        exact l.on a ha'
theorem LockOf.le (k : LockOf N F H F1 H1) : Le F F1 := by
  rcases k with ⟨rfl, rfl⟩ | ⟨d, od, u, k⟩
  · exact .of fun _ _ h => h
  · intro a o h
    by_cases ha : a = d
    · subst ha
      rw [k.at'] at h; cases h
      exact .inr ⟨k.dic, od, by rw [k.f, upd_same]⟩
    · exact .inl (by rw [k.f, upd_ne ha]; exact h)
theorem LockOf.top (k : LockOf N F H F1 H1) : LockOf (fun _ => True) F H F1 H1 := by
  rcases k with k | ⟨d, od, u, k⟩
  · exact .inl k
  · exact .inr ⟨d, od, u, k.at', k.dic, trivial, k.f, k.h⟩
theorem LockS.step (l : LockS F' H' F H L) (x : Ext F H O F2 H2 O2) (s2 : Sub F2 H2) : ∃ F3 H3, Ext F' H' O F3 H3 O2 ∧ LockS F3 H3 F2 H2 L := by
  refine ⟨fun a => if a ∈ L then F' a else F2 a, fun a => if a ∈ L then H' a else H2 a, ⟨fun a o e => ?_, fun a o e => ?_, fun a o e n => ?_, fun a e => ?_⟩, l.nd, fun a ha => by simp [ha], fun a ha => ?_⟩
  · by_cases ha : a ∈ L
    · simp only [ha, if_true]; exact e
    · simp only [ha, if_false]; exact x.mono _ _ (by rw [(l.off a ha).1]; exact e)
  · by_cases ha : a ∈ L
    · simp only [ha, if_true] at e; exact .inl e
    · simp only [ha, if_false] at e
      rcases x.new a o e with z | z | z
      · exact .inl (by rw [← (l.off a ha).1]; exact z)
      · refine .inr (.inl ?_); unfold Fre at z ⊢; rw [← (l.off a ha).2]; exact z
      · exact .inr (.inr z)
  · by_cases ha : a ∈ L
    · simp only [ha, if_true]; exact e
    · simp only [ha, if_false]; exact x.keep a o (by rw [(l.off a ha).2]; exact e) n
  · rcases x.own a e with z | z
    · exact .inl z
    · by_cases ha : a ∈ L
      · obtain ⟨od, u, _, _, _, _, e4⟩ := l.on a ha
        rw [e4] at z; cases z
      · exact .inr (by rw [← (l.off a ha).2]; exact z)
  · obtain ⟨od, u, du, e1, e2, e3, e4⟩ := l.on a ha
    have q := x.mono _ _ e3
    exact ⟨od, u, du, by simp only [ha, if_true]; exact e1, by simp only [ha, if_true]; exact e2, q, s2 _ _ q⟩
theorem Ext.nofrz (x : Ext F0 H0 O F' H' O1) (hO : ∀ a, O a → Ob H0 a) {a : Addr} {u : HO} (h : H' a = some u) (du : isDic u) : ∀ o w, H0 a ≠ some (.frz o w) := fun o w e => by
  by_cases hn : O a
  · obtain ⟨o', e', _, nz⟩ := hO a hn
    rw [e] at e'; cases e'; exact nz
  · have := x.keep a _ e hn
    rw [h] at this; cases this; exact du
/-- a step beside what is held -/
theorem cs_step {f : List Addr} (l : LockS F' H' F H L) (x0 : Ext F0 H0 O F' H' (fun a => O1 a ∨ a ∈ f)) (hf : ∀ a ∈ f, Ob H a ∧ F a = none) (hd : ∀ a ∈ f, ¬ O1 a) (x : Ext F H O1 F2 H2 O2) (s2 : Sub F2 H2) :
    ∃ F3 H3, LockS F3 H3 F2 H2 L ∧ Ext F0 H0 O F3 H3 (fun a => O2 a ∨ a ∈ f) := by
  obtain ⟨F3, H3, x3, l3⟩ := l.step (x.frame hf hd) s2
  exact ⟨F3, H3, l3, x0.trans x3⟩
end
section
variable {X : Cx}
theorem inv_unlocks {pins : List (Addr × Obj)} {σ : L2.St} {s : Shared} : ∀ {L : List Addr} {H H2 : Hp}, L.Nodup → Inv X pins σ H s → (∀ a ∈ L, ∃ od u, H a = some (.frz od u) ∧ H2 a = some u) → (∀ a, a ∉ L → H2 a = H a) → (∀ a ∈ L, NF X a) → Inv X pins σ H2 s
  | [], H, H2, _, I, _, h2, _ => by
    have : H2 = H := funext fun a => h2 a (by simp)
    rw [this]; exact I
  | d :: L, H, H2, nd, I, h1, h2, h3 => by
    obtain ⟨od, u, e1, e2⟩ := h1 d (by simp)
    have I1 := I.unlock e1 (h3 d (by simp))
    have nd' := List.nodup_cons.mp nd
    refine inv_unlocks nd'.2 I1 (fun a ha => ?_) (fun a ha => ?_) fun a ha => h3 a (by simp [ha])
    · have had : a ≠ d := fun z => nd'.1 (z ▸ ha)
      obtain ⟨od', u', q1, q2⟩ := h1 a (by simp [ha])
      exact ⟨od', u', by rw [upd_ne had]; exact q1, q2⟩
    · by_cases had : a = d
      · subst had; rw [upd_same]; exact e2
      · rw [upd_ne had]; exact h2 a (by simp [had, ha])
/-- all that was locked since is unlocked -/
def unls (H0 : Hp) (Q : VK) : VK := fun v H1 => ∃ (H2 : Hp) (L : List Addr), L.Nodup ∧ (∀ a ∈ L, ∃ od u, H1 a = some (.frz od u) ∧ H2 a = some u) ∧ (∀ a, a ∉ L → H2 a = H1 a) ∧ (∀ a ∈ L, ∀ o u, H0 a ≠ some (.frz o u)) ∧ Q v H2
theorem pe_unls {e : Expr} {t : TE} (h : PE X e t) : PE X e (fun σ H Q => t σ H (unls H Q)) :=
  ⟨fun pins s σ H Q I hw => thn (h.run pins s σ H _ I hw) fun v s1 ⟨x, H1, I2, r, H2, L, nd, q1, q2, q3, q4⟩ => ⟨x, H2, inv_unlocks nd I2 q1 q2 fun a ha o u e => q3 a ha o u (I.base.frzs a o u e), r, q4⟩⟩
abbrev tIT (K : Frag) (mg : Str → Option Value) (E : XK) (m : Env' → R (List PyData)) : TI := tIL (fun _ => True) K mg E m
theorem PI.top {X : Cx} {E : XK} {tg iter : Expr} {m : Env' → R (List PyData)} (h : DIL X E tg iter m) : PI X tg iter (tIT X.K X.mg E m) := PI.imp h fun σ H Rt ⟨F, ρ, φ, e, k⟩ => by
  refine ⟨F, ρ, φ, e, ?_⟩
  cases hm : m ρ with
  | bad => rw [hm] at k; exact k.elim
  | err x ρ' => rw [hm] at k; exact k
  | ok ds ρ1 =>
    rw [hm] at k
    exact fun F0 H0 φ1 F1 H1 J e1 x1 l w1 => k F0 H0 φ1 F1 H1 J e1 x1 l.top w1
end
/-! ### comprehensions of two walks -/
def cLoopB (g : PyData → Env' → Option Env') (t : Env' → R Bool) (elt : Env' → R M) (vs : List Nat) : List PyData → Env' → List M → R (List M)
  | [], ρ, acc => .ok acc ρ
  | d :: ds, ρ, acc => match g d ρ with
    | none => .bad
    | some ρ1 => match t ρ1 with
      | .ok true ρ2 => match elt ρ2 with
        | .ok x ρ3 => if acc.length < 16777216 then cLoopB g t elt vs ds (wipeE ρ3 vs) (acc ++ [x]) else .bad
        | _ => .bad
      | .ok false ρ2 => cLoopB g t elt vs ds (wipeE ρ2 vs) acc
      | _ => .bad
def cLoop2 (g : PyData → Env' → Option Env') (t : Env' → R Bool) (it1 : Env' → R (List PyData)) (g1 : PyData → Env' → Option Env') (t1 : Env' → R Bool) (elt : Env' → R M) (vs vs1 : List Nat) : List PyData → Env' → List M → R (List M)
  | [], ρ, acc => .ok acc ρ
  | d :: ds, ρ, acc => match g d ρ with
    | none => .bad
    | some ρ1 => match t ρ1 with
      | .ok true ρ2 => match it1 ρ2 with
        | .ok ds1 ρ3 => match cLoopB g1 t1 elt vs1 ds1 (wipeE ρ3 vs1) acc with
          | .ok acc' ρ4 => cLoop2 g t it1 g1 t1 elt vs vs1 ds (wipeE ρ4 vs) acc'
          | _ => .bad
        | _ => .bad
      | .ok false ρ2 => cLoop2 g t it1 g1 t1 elt vs vs1 ds (wipeE ρ2 vs) acc
      | _ => .bad
def mComp2 (it : Env' → R (List PyData)) (g : PyData → Env' → Option Env') (t : Env' → R Bool) (it1 : Env' → R (List PyData)) (g1 : PyData → Env' → Option Env') (t1 : Env' → R Bool) (elt : Env' → R M) (vs vs1 : List Nat) : Env' → R M := fun ρ => match it ρ with
  | .ok ds ρ1 => if (vs.all fun i => isLeaf ρ1[i]?) = true then match cLoop2 g t it1 g1 t1 elt vs vs1 ds (wipeE ρ1 vs) [] with
      | .ok ms ρ2 => .ok (.lst ms) (rest' vs ρ1 0 ρ2)
      | _ => .bad
    else .bad
  | .err x ρ1 => .err x ρ1
  | .bad => .bad
section
variable {K : Frag} {mg : Str → Option Value} {E Eb : XK} {T T1 : List Nat} {g g1 : PyData → Env' → Option Env'} {it it1 : Env' → R (List PyData)} {t t1 : Env' → R Bool} {me : Env' → R M} {vs vs1 : List Nat}
/-- within a comprehension: the list so far stands at D; some dicts are locked; W: what walks lean on -/
structure CS (K : Frag) (F0 H0 : Hp) (O0 : Addr → Prop) (D : Addr) (W : List Hp) (σ' : L2.St) (ρ' : Env') (ms : List M) (H : Hp) (F : Hp) (φ : Nat → List Addr) (fD : List Addr) : Prop where
  env : EnvOk K F H σ' ρ' φ
  rD : Rep K F H (.ref D) (.lst ms) fD
  off : ∀ a ∈ fD, ¬ Om φ a
  ext : ∃ Fu Hu L, LockS Fu Hu F H L ∧ Ext F0 H0 O0 Fu Hu (fun a => Om φ a ∨ a ∈ fD)
  le : ∀ Fw ∈ W, Le Fw F
theorem CS.go {F0 H0 : Hp} {O0 : Addr → Prop} {D : Addr} {W : List Hp} {σ' : L2.St} {ρ' ρ2 : Env'} {ms : List M} {H F H2 F2 : Hp} {φ φ2 : Nat → List Addr} {fD : List Addr} (c : CS K F0 H0 O0 D W σ' ρ' ms H F φ fD) (e2 : EnvOk K F2 H2 σ' ρ2 φ2) (x : Ext F H (Om φ) F2 H2 (Om φ2)) :
    CS K F0 H0 O0 D W σ' ρ2 ms H2 F2 φ2 fD := by
  obtain ⟨r2, o2⟩ := c.rD.ext x c.off
  obtain ⟨Fu, Hu, L, l, x0⟩ := c.ext
  obtain ⟨F3, H3, l3, x3⟩ := cs_step l x0 c.rD.fp c.off x e2.sub
  exact ⟨e2, r2, o2, ⟨F3, H3, L, l3, x3⟩, fun Fw h => (c.le Fw h).trans (.of x.mono)⟩
theorem CS.slots {F0 H0 : Hp} {O0 : Addr → Prop} {D : Addr} {W : List Hp} {σ' σ2 : L2.St} {ρ' ρ2 : Env'} {ms : List M} {H F : Hp} {φ φ2 : Nat → List Addr} {fD : List Addr} (c : CS K F0 H0 O0 D W σ' ρ' ms H F φ fD) (e2 : EnvOk K F H σ2 ρ2 φ2) (o : ∀ a, Om φ2 a → Om φ a) :
    CS K F0 H0 O0 D W σ2 ρ2 ms H F φ2 fD := by
  obtain ⟨Fu, Hu, L, l, x0⟩ := c.ext
  exact ⟨e2, c.rD, fun a ha z => c.off a ha (o a z), ⟨Fu, Hu, L, l, x0.less fun a h => h.imp (o a) id⟩, c.le⟩
theorem CS.lock {F0 H0 : Hp} {O0 : Addr → Prop} {D : Addr} {W : List Hp} {σ' : L2.St} {ρ' : Env'} {ms : List M} {H F H2 F2 : Hp} {φ : Nat → List Addr} {fD : List Addr} {N : Addr → Prop} (c : CS K F0 H0 O0 D W σ' ρ' ms H F φ fD) (k : LockOf N F H F2 H2) :
    CS K F0 H0 O0 D (F2 :: W) σ' ρ' ms H2 F2 φ fD := by
  obtain ⟨Fu, Hu, L, l, x0⟩ := c.ext
  obtain ⟨L1, l1⟩ := l.lockOf c.env.sub k
  have r2 : Rep K F2 H2 (.ref D) (.lst ms) fD := by
    rcases k with ⟨rfl, rfl⟩ | ⟨d, od, u, k⟩
    · exact c.rD
    · have z := c.rD.swap k.at' (fsub_lock (od := od) k.at' k.dic)
      rw [← k.f, ← k.h] at z; exact z
  refine ⟨k.env c.env, r2, c.off, ⟨Fu, Hu, L1, l1, x0⟩, fun Fw h => ?_⟩
  rcases List.mem_cons.mp h with rfl | h
  · exact .of fun _ _ z => z
  · exact (c.le Fw h).trans k.le
theorem CS.grow {F0 H0 : Hp} {O0 : Addr → Prop} {D : Addr} {W : List Hp} {σ' : L2.St} {ρ' : Env'} {ms : List M} {H F H2 F2 : Hp} {φ : Nat → List Addr} {fD : List Addr} (c : CS K F0 H0 O0 D W σ' ρ' ms H F φ fD) (gr : Grow F H F2 H2 []) :
    CS K F0 H0 O0 D W σ' ρ' ms H2 F2 φ fD := c.go (gr.env c.env) gr.ext0
theorem CS.less {F0 H0 : Hp} {O0 : Addr → Prop} {D : Addr} {W W' : List Hp} {σ' : L2.St} {ρ' : Env'} {ms : List M} {H F : Hp} {φ : Nat → List Addr} {fD : List Addr} (c : CS K F0 H0 O0 D W σ' ρ' ms H F φ fD) (h : ∀ x ∈ W', x ∈ W) : CS K F0 H0 O0 D W' σ' ρ' ms H F φ fD := ⟨c.env, c.rD, c.off, c.ext, fun Fw hw => c.le Fw (h Fw hw)⟩
/-- an item more -/
theorem CS.snocE {F0 H0 : Hp} {O0 : Addr → Prop} {D : Addr} {W : List Hp} {σ' : L2.St} {ρ' ρ2 : Env'} {ms : List M} {H F H2 F2 : Hp} {φ φ2 : Nat → List Addr} {fD f : List Addr} {v : V} {y : M} (c : CS K F0 H0 O0 D W σ' ρ' ms H F φ fD)
    (e2 : EnvOk K F2 H2 σ' ρ2 φ2) (r2 : Rep K F2 H2 v y f) (d2 : ∀ a ∈ f, ¬ Om φ2 a) (x : Ext F H (Om φ) F2 H2 (fun a => Om φ2 a ∨ a ∈ f)) :
    ∃ vl, H2 D = some (.lst vl) ∧ vl.length = ms.length ∧ ∃ fD', CS K F0 H0 O0 D W σ' ρ2 (ms ++ [y]) (L2.upd H2 D (.lst (vl ++ [v]))) F2 φ2 fD' := by
  obtain ⟨rD2, off2⟩ := c.rD.ext x c.off
  obtain ⟨Fu, Hu, L, l, x0⟩ := c.ext
  obtain ⟨F3, H3, l3, x3⟩ := cs_step l x0 c.rD.fp c.off x e2.sub
  cases rD2 with | lst q1 q2 q3 q4 => ?_
  rename_i vl fs
  have nf : ∀ a ∈ f, a ∉ D :: fs := fun a ha hb => off2 a hb (.inr ha)
  have hDf : D ∉ f := fun ha => nf D ha (by simp)
  have offD : ¬ Om φ2 D := fun z => off2 D (by simp) (.inl z)
  refine ⟨vl, q1, q3.len, D :: (fs ++ f), e2.upd (D := D) offD q2, .lst upd_same q2 ((q3.updN q4).snoc (r2.updN hDf) (fun a ha hb => nf a ha (by simp [hb]))) ?_, ?_, ?_, fun Fw h => (c.le Fw h).trans (.of x.mono)⟩
  · intro h
    rcases List.mem_append.mp h with h | h
    · exact q4 h
    · exact hDf h
  · intro a ha z
    rcases List.mem_cons.mp ha with rfl | ha
    · exact offD z
    · rcases List.mem_append.mp ha with ha | ha
      · exact off2 a (by simp [ha]) (.inl z)
      · exact d2 a ha z
  · have hDL : D ∉ L := l3.out q2
    have xu : Ext F2 H2 (fun a => (Om φ2 a ∨ a ∈ f) ∨ a ∈ D :: fs) F2 (L2.upd H2 D (.lst (vl ++ [v]))) (fun a => (Om φ2 a ∨ a ∈ f) ∨ a ∈ D :: fs) := Ext.refl.upd (.inr (by simp))
    obtain ⟨F4, H4, x4, l4⟩ := l3.step xu (e2.upd (D := D) offD q2).sub
    refine ⟨F4, H4, L, l4, (x3.trans x4).less fun a h => ?_⟩
    rcases h with h | h
    · exact .inl (.inl h)
    · rcases List.mem_cons.mp h with rfl | h
      · exact .inr (by simp)
      · rcases List.mem_append.mp h with h | h
        · exact .inr (by simp [h])
        · exact .inl (.inr h)
theorem wip_of {σ' σ3 : L2.St} {ws : List Nat} {TT : List Nat} (hT : ∀ i ∈ TT, i ∈ ws) (s3 : KeepS TT (L2.wipe σ' ws) σ3) : L2.wipe σ3 ws = L2.wipe σ' ws := by
  rw [wipe_eq (σ := L2.wipe σ' ws) (fun i hi => s3.at' i fun z => hi (hT i z)) s3.len]
  exact wipe_eq (fun i hi => wipe_out hi) (wipe_length _ _)
theorem CS.cast {F0 H0 : Hp} {O0 : Addr → Prop} {D : Addr} {W W' : List Hp} {σ' σ2 : L2.St} {ρ' : Env'} {ms : List M} {H F : Hp} {φ : Nat → List Addr} {fD : List Addr} (c : CS K F0 H0 O0 D W σ' ρ' ms H F φ fD) (hs : σ' = σ2) (h : ∀ x ∈ W', x ∈ W) : CS K F0 H0 O0 D W' σ2 ρ' ms H F φ fD := by
  subst hs; exact c.less h
theorem wipe_wipe {σ3 : L2.St} (hv1 : ∀ i ∈ vs1, i ∈ vs) : L2.wipe (L2.wipe σ3 vs1) vs = L2.wipe σ3 vs :=
  wipe_eq (fun i hi => wipe_out fun z => hi (hv1 i z)) (wipe_length _ _)
theorem cs_inner (hT : ∀ i ∈ T1, i ∈ vs1) {F0 H0 : Hp} {O0 : Addr → Prop} {D : Addr} {W : List Hp} {σ2 : L2.St} {ρ : Env'} {ms : List M} {H F Fw : Hp} {φ : Nat → List Addr} {fD : List Addr} {J1 : It} {ds : List PyData} {msE : List M} {ρE : Env'} {Nx : Hp → Prop}
    (c : CS K F0 H0 O0 D W (L2.wipe σ2 vs1) ρ ms H F φ fD) (w : WalkD K Fw J1 ds) (hw : Fw ∈ W) (ho : cLoopB g1 t1 me vs1 ds ρ ms = .ok msE ρE) (hN : ∀ H' F' φ' fD', CS K F0 H0 O0 D W (L2.wipe σ2 vs1) ρE msE H' F' φ' fD' → Nx H') :
    ∃ W1 : Nat → Nat → Hp → Prop, (∃ m, W1 0 m H) ∧ ∀ j k H, W1 j k H → (J1.stop j H ∧ Nx H) ∨ (J1.go j H ∧ ∃ Nx1 : Hp → Prop, (∀ H', Nx1 H' → ∃ k', k' < k ∧ W1 (j + 1) k' H') ∧ ∀ x H', J1.yld j H x H' → tG' K T1 g1 x (L2.wipe σ2 vs1) H' fun σ3 H5 => L2.wipe σ3 vs1 = L2.wipe σ2 vs1 ∧ tB' K mg E0 t1 σ3 H5 fun b H6 =>
        if b = true then tE K mg E0 me σ3 H6 fun y H7 => ∃ acc, H7 D = some (.lst acc) ∧ acc.length < sizeLine ∧ Nx1 (L2.upd H7 D (.lst (acc ++ [y]))) else Nx1 H6) := by
  let Wf : Nat → Hp → Prop := fun j H' => ∃ ρ' ms' F' φ' fD', CS K F0 H0 O0 D W (L2.wipe σ2 vs1) ρ' ms' H' F' φ' fD' ∧ cLoopB g1 t1 me vs1 (ds.drop j) ρ' ms' = .ok msE ρE
  refine ⟨fun j m H' => m = ds.length - j ∧ j ≤ ds.length ∧ Wf j H', ⟨_, rfl, Nat.zero_le _, ρ, ms, F, φ, fD, c, ho⟩, ?_⟩
  rintro j m H' ⟨rfl, hj, ρ', ms', F', φ', fD', c', h'⟩
  by_cases hlt : j < ds.length
  · refine .inr ⟨w.go j F' H' hlt (c'.le Fw hw) c'.env.sub, Wf (j + 1), fun H2 h2 => ⟨ds.length - (j + 1), by omega, rfl, hlt, h2⟩, fun x H2 hy => ?_⟩
    have hd : ds[j]? = some ds[j] := List.getElem?_eq_getElem hlt
    obtain ⟨F2, gr, rx⟩ := w.yld j _ F' H' x H2 hd (c'.le Fw hw) c'.env.sub hy
    have c2 := c'.grow gr
    rw [List.drop_eq_getElem_cons hlt, cLoopB] at h'
    refine ⟨F2, ρ', φ', ds[j], c2.env, rx, ?_⟩
    cases hgd : g1 ds[j] ρ' with
    | none => rw [hgd] at h'; cases h'
    | some ρ2 =>
      rw [hgd] at h'
      dsimp only at h'
      intro φ3 σ3 e3 o3 s3
      have c3 := c2.slots e3 o3
      have hwip := wip_of hT s3
      refine ⟨hwip, F2, ρ2, φ3, e3, ?_⟩
      cases ht : t1 ρ2 with
      | bad => rw [ht] at h'; cases h'
      | err y ρ4 => rw [ht] at h'; cases h'
      | ok b ρ4 =>
        rw [ht] at h'
        intro F4 H4 φ4 e4 x4
        have c4 := c3.go e4 x4
        cases b with
        | false =>
          rw [if_neg Bool.false_ne_true]
          dsimp only at h'
          have e5 := e4.wipe vs1
          rw [hwip] at e5
          exact ⟨_, _, _, _, _, c4.slots e5 fun a => om_wphi, h'⟩
        | true =>
          rw [if_pos rfl]
          dsimp only at h'
          refine ⟨F4, ρ4, φ4, e4, ?_⟩
          cases hme : me ρ4 with
          | bad => rw [hme] at h'; cases h'
          | err y ρ5 => rw [hme] at h'; cases h'
          | ok y ρ5 =>
            rw [hme] at h'
            dsimp only at h'
            split at h'
            case isFalse => cases h'
            rename_i hz
            intro F5 H5 φ5 v f e5 r5 d5 x5
            have c4' : CS K F0 H0 O0 D W σ3 ρ4 ms' H4 F4 φ4 fD' := c4
            obtain ⟨vl, q1, ql, fD5, c5⟩ := c4'.snocE e5 r5 d5 x5
            refine ⟨vl, q1, by rw [sizeLine_eq]; omega, ?_⟩
            have e6 := c5.env.wipe vs1
            rw [hwip] at e6
            exact ⟨_, _, _, _, _, c5.slots e6 fun a => om_wphi, h'⟩
  · have hil : j = ds.length := by omega
    subst hil
    rw [List.drop_length, cLoopB] at h'
    cases h'
    exact .inl ⟨w.stop F' H' (c'.le Fw hw) c'.env.sub, hN _ _ _ _ c'⟩
theorem i_comp2 (hT : ∀ i ∈ T, i ∈ vs) (hT1 : ∀ i ∈ T1, i ∈ vs1) (hv1 : ∀ i ∈ vs1, i ∈ vs) (σ : L2.St) (H : Hp) (Q : VK) :
    tE K mg E (mComp2 it g t it1 g1 t1 me vs vs1) σ H Q → tLc2 (tIT K mg E it) (tG' K T g) (tB' K mg E0 t) (tIT K mg E0 it1) (tG' K T1 g1) (tB' K mg E0 t1) (tE K mg E0 me) vs vs1 σ H (unls H Q) := fun ⟨F, ρ, φ, e, k⟩ => by
  refine ⟨F, ρ, φ, e, ?_⟩
  unfold mComp2 at k
  cases hm : it ρ with
  | bad => rw [hm] at k; exact k.elim
  | err x ρ' => rw [hm] at k; exact k
  | ok ds ρ1 =>
    rw [hm] at k
    dsimp only at k
    intro F0 H0 φ1 F1 H1 Jt e0 x0 hL w1 D hD
    by_cases hleaf : (vs.all fun i => isLeaf ρ1[i]?) = true
    case neg => rw [if_neg hleaf] at k; exact k.elim
    rw [if_pos hleaf] at k
    cases ho : cLoop2 g t it1 g1 t1 me vs vs1 ds (wipeE ρ1 vs) [] with
    | bad => rw [ho] at k; exact k.elim
    | err x ρ' => rw [ho] at k; exact k.elim
    | ok msE ρE =>
    rw [ho] at k
    have e1 := hL.env e0
    have hFD : F1 D = none := by
      cases q : F1 D with
      | none => rfl
      | some u => rw [e1.sub D u q] at hD; cases hD
    have g0 : Grow F1 H1 F1 (L2.upd H1 D (.lst [])) [D] := Grow.own1 e1.sub hD
    -- the start
    obtain ⟨L1, l1⟩ := (LockS.refl (F := F0) (H := H0)).lockOf e0.sub hL
    have ew := e1.wipe vs
    have gw : EnvOk K F1 (L2.upd H1 D (.lst [])) (L2.wipe σ vs) (wipeE ρ1 vs) (wphi φ1 vs) := g0.env ew
    have c0 : CS K F0 H0 (Om φ1) D [F1] (L2.wipe σ vs) (wipeE ρ1 vs) [] (L2.upd H1 D (.lst [])) F1 (wphi φ1 vs) [D] := by
      refine ⟨gw, .lst upd_same hFD .nil (by simp), g0.off ew, ?_, fun Fw h => by simp at h; subst h; exact .of fun _ _ z => z⟩
      obtain ⟨F3, H3, x3, l3⟩ := l1.step (g0.ext (O := Om φ1)) gw.sub
      exact ⟨F3, H3, L1, l3, x3.less fun a h => h.imp om_wphi id⟩
    let W : Nat → Hp → Prop := fun i H' => ∃ ρ' ms' F' φ' fD', CS K F0 H0 (Om φ1) D [F1] (L2.wipe σ vs) ρ' ms' H' F' φ' fD' ∧ cLoop2 g t it1 g1 t1 me vs vs1 (ds.drop i) ρ' ms' = .ok msE ρE
    refine ⟨fun i m H' => m = ds.length - i ∧ i ≤ ds.length ∧ W i H', ⟨_, rfl, Nat.zero_le _, _, _, _, _, _, c0, ho⟩, ?_⟩
    rintro i m H' ⟨rfl, hi, ρ', ms', F', φ', fD', c', h'⟩
    by_cases hlt : i < ds.length
    · refine .inr ⟨w1.go i F' H' hlt (c'.le F1 (by simp)) c'.env.sub, W (i + 1), fun H2 h2 => ⟨ds.length - (i + 1), by omega, rfl, hlt, h2⟩, fun x H2 hy => ?_⟩
      have hd : ds[i]? = some ds[i] := List.getElem?_eq_getElem hlt
      obtain ⟨F2, gr, rx⟩ := w1.yld i _ F' H' x H2 hd (c'.le F1 (by simp)) c'.env.sub hy
      have c2 := c'.grow gr
      rw [List.drop_eq_getElem_cons hlt, cLoop2] at h'
      refine ⟨F2, ρ', φ', ds[i], c2.env, rx, ?_⟩
      cases hgd : g ds[i] ρ' with
      | none => rw [hgd] at h'; cases h'
      | some ρ2 =>
        rw [hgd] at h'
        dsimp only at h'
        intro φ3 σ3 e3 o3 s3
        have c3 := c2.slots e3 o3
        have hwip := wip_of hT s3
        refine ⟨hwip, F2, ρ2, φ3, e3, ?_⟩
        cases ht : t ρ2 with
        | bad => rw [ht] at h'; cases h'
        | err y ρ4 => rw [ht] at h'; cases h'
        | ok b ρ4 =>
          rw [ht] at h'
          intro F4 H4 φ4 e4 x4
          have c4 := c3.go e4 x4
          cases b with
          | false =>
            rw [if_neg Bool.false_ne_true]
            dsimp only at h'
            have e5 := e4.wipe vs
            rw [hwip] at e5
            exact ⟨_, _, _, _, _, c4.slots e5 fun a => om_wphi, h'⟩
          | true =>
            rw [if_pos rfl]
            dsimp only at h'
            refine ⟨F4, ρ4, φ4, e4, ?_⟩
            cases hi1 : it1 ρ4 with
            | bad => rw [hi1] at h'; cases h'
            | err y ρ5 => rw [hi1] at h'; cases h'
            | ok ds1 ρ5 =>
              rw [hi1] at h'
              dsimp only at h'
              intro F5 H5 φ5 F6 H6 J1 e5 x5 k6 w6
              have c5 := c4.go e5 x5
              have c6 := c5.lock k6
              cases hb : cLoopB g1 t1 me vs1 ds1 (wipeE ρ5 vs1) ms' with
              | bad => rw [hb] at h'; cases h'
              | err y ρ7 => rw [hb] at h'; cases h'
              | ok ms7 ρ7 =>
                rw [hb] at h'
                dsimp only at h'
                have c7 := c6.slots (c6.env.wipe vs1) fun a => om_wphi
                refine cs_inner hT1 c7 w6 (by simp) hb fun H8 F8 φ8 fD8 c8 => ?_
                exact ⟨_, _, _, _, _, (c8.slots (c8.env.wipe vs) fun a => om_wphi).cast (by rw [wipe_wipe hv1, hwip]) (fun x hx => by simp at hx; simp [hx]), h'⟩
    · have hil : i = ds.length := by omega
      subst hil
      rw [List.drop_length, cLoop2] at h'
      cases h'
      refine .inl ⟨w1.stop F' H' (c'.le F1 (by simp)) c'.env.sub, ?_⟩
      obtain ⟨Fu, Hu, L, l, xu⟩ := c'.ext
      have eu := l.env c'.env
      have xt : Ext F H (Om φ) Fu Hu (fun a => Om φ' a ∨ a ∈ fD') := x0.trans xu
      refine ⟨Hu, L, l.nd, fun a ha => ?_, fun a ha => (l.off a ha).2.symm, fun a ha => ?_, ?_⟩
      · obtain ⟨od, u, _, _, q2, _, q4⟩ := l.on a ha
        exact ⟨od, u, q4, q2⟩
      · obtain ⟨od, u, du, _, q2, _, _⟩ := l.on a ha
        exact xt.nofrz (fun a h => (e.tracked h).1) q2 du
      · exact k Fu Hu (wphi φ' vs) (.ref D) fD' (e0.unwipe hleaf xu.mono eu) (l.rep c'.rD) (fun a ha z => c'.off a ha (om_wphi z)) (xt.less fun a h => h.imp om_wphi id)
end
section
variable {X : Cx} {E : XK} {T T1 : List Nat} {pos : Pos} {g g1 : PyData → Env' → Option Env'} {it it1 : Env' → R (List PyData)} {t t1 : Env' → R Bool} {me : Env' → R M} {elt tg iter tg1 iter1 : Expr} {ifs ifs1 : List Expr} {scope : Scope} {own : List (Str × Nat)} {vs1 : List Nat}
theorem de_comp2 (hT : ∀ i ∈ T, i ∈ own.map (·.2)) (hT1 : ∀ i ∈ T1, i ∈ vs1) (hv : ∀ i ∈ vs1, i ∈ own.map (·.2)) (hc : X.calm = true) (hN : X.N.Nodup) (hi : DIL X E tg iter it) (ok : BlkOk X.N X.env.scope scope own)
    (hg : ∀ (s : Shared) (H : Hp) (C : Addr) (cl : List (Str × Addr)) (fp : List Addr), DG (X.blk s H scope (compEnvC scope cl C X.env) fp) T tg g) (ht : ∀ (s : Shared) (H : Hp) (C : Addr) (cl : List (Str × Addr)) (fp : List Addr), DTs (X.blk s H scope (compEnvC scope cl C X.env) fp) E0 ifs t)
    (hi1 : ∀ (s : Shared) (H : Hp) (C : Addr) (cl : List (Str × Addr)) (fp : List Addr), DIL (X.blk s H scope (compEnvC scope cl C X.env) fp) E0 tg1 iter1 it1)
    (hg1 : ∀ (s : Shared) (H : Hp) (C : Addr) (cl : List (Str × Addr)) (fp : List Addr), DG (X.blk s H scope (compEnvC scope cl C X.env) fp) T1 tg1 g1) (ht1 : ∀ (s : Shared) (H : Hp) (C : Addr) (cl : List (Str × Addr)) (fp : List Addr), DTs (X.blk s H scope (compEnvC scope cl C X.env) fp) E0 ifs1 t1)
    (he : ∀ (s : Shared) (H : Hp) (C : Addr) (cl : List (Str × Addr)) (fp : List Addr), DE (X.blk s H scope (compEnvC scope cl C X.env) fp) E0 elt me) (hs : ∀ x, foldedSetIterable iter X.env x = pure x := by intro _; rfl) (hs1 : ∀ env x, foldedSetIterable iter1 env x = pure x := by intro _ _; rfl) :
    DE X E (.ListComp elt [⟨tg, iter, ifs, 0⟩, ⟨tg1, iter1, ifs1, 0⟩] scope pos) (mComp2 it g t it1 g1 t1 me (own.map (·.2)) vs1) :=
  (pe_unls (pe_lc2 hc hN (PI.top hi) ok hv hg ht (fun s H C cl fp => PI.top (hi1 s H C cl fp)) hg1 ht1 he hs hs1)).imp fun σ H Q h => i_comp2 hT hT1 hv σ H Q h
end
end G
namespace G
open PySem PySem.Spec PyProof.Rows L2

/-! ### a, b = (x, y) -/
def mPar (i j : Nat) (ma mb : Env' → R M) : Env' → O := fun ρ => match ma ρ with
  | .ok x ρ1 => match mb ρ1 with
    | .ok y ρ2 => .next ((ρ2.set i (some x)).set j (some y))
    | .err z ρ2 => .err z ρ2
    | .bad => .bad
  | .err z ρ1 => .err z ρ1
  | .bad => .bad
section
variable {X : Cx} {E : XK} {J : List Nat} {a b : Expr} {ma mb : Env' → R M} {pos : Pos}
theorem pin_set2 {σ : L2.St} {i j : Nat} {o o' : Option V} (hi : i ∉ J) (hj : j ∉ J) : Pin J σ ((σ.set i o).set j o') := (Pin.set hi).trans (Pin.set hj)
/-- two trees, one beside the other -/
theorem i_two {K : Frag} {mg : Str → Option Value} {σ : L2.St} {H : Hp} {D : Ends} {i j : Nat} (hij : i ≠ j) (hi : i ∉ J) (hj : j ∉ J) (h : tS K mg E J (mPar i j ma mb) D σ H) :
    tE K mg E ma σ H fun v H1 => tE K mg E mb σ H1 fun w H2 => D.nx ((σ.set i (some v)).set j (some w)) H2 := by
  obtain ⟨F, ρ, φ, e, k⟩ := h
  refine ⟨F, ρ, φ, e, ?_⟩
  unfold mPar at k
  cases hm : ma ρ with
  | bad => rw [hm] at k; exact k.elim
  | err x ρ' => rw [hm] at k; exact k.err
  | ok x ρ1 =>
    rw [hm] at k
    dsimp only at k
    intro F1 H1 φ1 v f e1 r1 d1 x1
    refine ⟨F1, ρ1, φ1, e1, ?_⟩
    cases hm2 : mb ρ1 with
    | bad => rw [hm2] at k; exact k.elim
    | err x ρ' => rw [hm2] at k; exact k.err.next x1.drop
    | ok y ρ2 =>
      rw [hm2] at k
      dsimp only at k
      intro F2 H2 φ2 w g e2 r2 d2 x2
      obtain ⟨r1', d1'⟩ := r1.ext x2 d1
      have dd : ∀ a ∈ f, a ∉ g := fun a ha hb => d1' a ha (.inr hb)
      have e3 := e2.set (i := i) r1' fun a ha z => d1' a ha (.inl z)
      have e4 := e3.set (i := j) r2 fun a ha z => by
        rcases om_set z with z | z
        · exact d2 a ha z
        · exact dd a z ha
      have xx : Ext F H (Om φ) F2 H2 (fun a => (Om φ2 a ∨ a ∈ g) ∨ a ∈ f) := x1.tmp r1.fp d1 x2
      refine k F2 H2 _ _ e4 (xx.less fun a h => ?_) (pin_set2 hi hj)
      rcases om_set h with h | h
      · rcases om_set h with h | h
        · exact .inl (.inl h)
        · exact .inr h
      · exact .inl (.inr h)
theorem ds_par {i j : Nat} {x y : Str} {px py pt : Pos} {kt k2 pt2} (hi' : i ∉ J) (hj' : j ∉ J) (hc : X.calm = true) (hN : X.N.Nodup) (hi : X.N[i]? = some x) (hj : X.N[j]? = some y) (hij : i ≠ j) (hx : X.env.scope.names.lookup x = some .local) (hy : X.env.scope.names.lookup y = some .local)
    (ha : DE X E a ma) (hb : DE X E b mb) (hw : swappedStores [.Tuple [.Name x px, .Name y py] kt pt] (.Tuple [a, b] k2 pt2) X.env = pure (some [x, y]) := by rfl) (hs : swapsWithSole [.Tuple [.Name x px, .Name y py] kt pt] (.Tuple [a, b] k2 pt2) pos.line X.env = pure false := by rfl)
    (s1 : starEach [a, b] X.env = (false, eval a X.env) :: starEach [b] X.env := by rfl) (s2 : starEach [b] X.env = (false, eval b X.env) :: starEach [] X.env := by rfl) :
    DS X E J (.Assign [.Tuple [.Name x px, .Name y py] kt pt] (.Tuple [a, b] k2 pt2) pos) (mPar i j ma mb) :=
  (ps_par hc hN hi hj hij hx hy (pa_cons ha (pa_cons hb pa_nil s2) s1) hw hs).imp fun D σ H h => by
    obtain ⟨F, ρ, φ, e, k⟩ := i_two hij hi' hj' h
    refine ⟨F, ρ, φ, e, ?_⟩
    cases hm : ma ρ with
    | bad => rw [hm] at k; exact k
    | err x ρ' => rw [hm] at k; exact k
    | ok x ρ1 =>
      rw [hm] at k
      intro F1 H1 φ1 v f e1 r1 d1 x1
      obtain ⟨F2, ρ2, φ2, e2, k2⟩ := k F1 H1 φ1 v f e1 r1 d1 x1
      refine ⟨F2, ρ2, φ2, e2, ?_⟩
      cases hm2 : mb ρ2 with
      | bad => rw [hm2] at k2; exact k2
      | err x ρ' => rw [hm2] at k2; exact k2
      | ok y ρ3 =>
        rw [hm2] at k2
        exact fun F3 H3 φ3 w g e3 r3 d3 x3 => ⟨v, w, rfl, k2 F3 H3 φ3 w g e3 r3 d3 x3⟩
end
/-! ### list(found.get(k, {}).items()), values frozen -/
def rowsOf (l : List (Key × M)) : Option (List M) := (leaves (l.map (·.2))).map fun ds => ((l.map (·.1)).zip ds).map fun kd => .leaf (.tuple [keyD kd.1, kd.2])
def mListGet (i : Nat) (qk : Env' → Option M) : Env' → R M := fun ρ => match qName i ρ, qk ρ with
  | some (.dK l), some (.leaf kd) => match keyOf kd with
    | some k => match getG l k with
      | none => .ok (.lst []) ρ
      | some (.dK row) => match rowsOf row with
        | some ms => .ok (.lst ms) ρ
        | none => .bad
      | some _ => .bad
    | none => .bad
  | _, _ => .bad
theorem mListGet_ok {i : Nat} {qk : Env' → Option M} {ρ : Env'} : mListGet i qk ρ = .bad ∨ ∃ l kd key ms, qName i ρ = some (.dK l) ∧ qk ρ = some (.leaf kd) ∧ keyOf kd = some key ∧ mListGet i qk ρ = .ok (.lst ms) ρ ∧ ((getG l key = none ∧ ms = []) ∨ ∃ row, getG l key = some (.dK row) ∧ rowsOf row = some ms) := by
  cases h : mListGet i qk ρ with
  | bad => exact .inl rfl
  | err x ρ' =>
    unfold mListGet at h
    repeat' (split at h)
    all_goals cases h
  | ok x ρ' =>
    right
    unfold mListGet at h
    split at h
    case h_2 => cases h
    rename_i l kd h1 h2
    split at h
    case h_2 => cases h
    rename_i key h3
    refine ⟨l, kd, key, ?_⟩
    split at h
    · cases h; rename_i h4; exact ⟨[], h1, h2, h3, rfl, .inl ⟨h4, rfl⟩⟩
    · rename_i row h4
      split at h
      · rename_i ms h5; cases h; exact ⟨ms, h1, h2, h3, rfl, .inr ⟨row, h4, h5⟩⟩
      · cases h
    · cases h
section
variable {X : Cx} {E : XK} {o k : Expr} {qk : Env' → Option M} {i : Nat}
theorem rows_reps {K : Frag} {F H : Hp} : ∀ {ts : List Addr} {kvs : List (Key × V)} {kms : List (Key × M)} {ds : List PyData}, kvs.map (·.1) = kms.map (·.1) → IsDs K F ds (kvs.map (·.2)) → Paired (fun (t : Addr) (q : Key × V) => F t = some (.tup [kV q.1, q.2])) ts kvs →
    Reps K F H (ts.map V.ref) (((kms.map (·.1)).zip ds).map fun kd => M.leaf (.tuple [keyD kd.1, kd.2])) []
  | [], kvs, kms, ds, e, h, p => by
    cases p
    cases kms with
    | nil => exact .nil
    | cons _ _ => simp at e
  | t :: ts, kvs, kms, ds, e, h, p => by
    cases p with
    | cons p1 p2 =>
      rename_i kv r
      cases kms with
      | nil => simp at e
      | cons km kr =>
        simp only [List.map_cons, List.cons.injEq] at e
        unfold IsDs at h
        cases ds with
        | nil => simp at h
        | cons d dr =>
          obtain ⟨v, r', e', h1, h2⟩ := h
          simp only [List.map_cons, List.cons.injEq] at e'
          obtain ⟨rfl, rfl⟩ := e'
          simp only [List.map_cons, List.zip_cons_cons]
          have := Reps.cons (K := K) (F := F) (H := H) (f1 := []) (f2 := []) (.leaf (isD_tup p1 (.cons (by have := key_isD (K := K) (F := F) kv.1; rw [e.1] at this ⊢; exact this) (.cons h1 .nil)))) (rows_reps e.2 h2 p2) (fun a ha => by simp at ha)
          simpa using this
theorem paired_mono {α β : Type} {P Q : α → β → Prop} (h : ∀ a b, P a b → Q a b) {l : List α} {r : List β} (p : Paired P l r) : Paired Q l r := Paired.mapP p h
theorem de_listGet {p apos cpos pos gpos gcpos dp : Pos} (hc : X.calm = true) (hu : X.A.units + 1 < cLine) (ho : PE X o (tVar i)) (hk : DQ X k qk) (hg : Gl X "list") (hm : X.mg "list" = none) (hv : bootBuiltins "list" = some (.type "list"))
    (m : M2 X o "get" gpos k (.Dict [] [] dp) gcpos := by exact ⟨rfl, rfl, rfl, rfl⟩)
    (hbase : attributeBase (.Call (.Attribute o "get" gpos) [k, .Dict [] [] dp] [] gcpos) "items" X.env (eval (.Call (.Attribute o "get" gpos) [k, .Dict [] [] dp] [] gcpos) X.env) = eval (.Call (.Attribute o "get" gpos) [k, .Dict [] [] dp] [] gcpos) X.env := by rfl) (hline : (apos.endLine == cpos.line) = true := by rfl)
    (hs : starEach [.Call (.Attribute (.Call (.Attribute o "get" gpos) [k, .Dict [] [] dp] [] gcpos) "items" apos) [] [] cpos] X.env = (false, eval (.Call (.Attribute (.Call (.Attribute o "get" gpos) [k, .Dict [] [] dp] [] gcpos) "items" apos) [] [] cpos) X.env) :: starEach [] X.env := by rfl) :
    DE X E (.Call (.Name "list" p) [.Call (.Attribute (.Call (.Attribute o "get" gpos) [k, .Dict [] [] dp] [] gcpos) "items" apos) [] [] cpos] [] pos) (mListGet i qk) :=
  (LiI.pe_listItems hc (pe_dget2 hu ho hk pe_dnewK m) hg hm hv hbase hline hs).imp fun σ H Q ⟨F, ρ, φ, e, kk⟩ => by
    rcases mListGet_ok (i := i) (qk := qk) (ρ := ρ) with hb | ⟨l, kd, key, ms, hi, hq, hkd, hok, hcase⟩
    · rw [hb] at kk; exact kk.elim
    · rw [hok] at kk
      dsimp only at kk
      obtain ⟨v0, hv0, r0⟩ := e.rep i _ (qName_some hi)
      obtain ⟨ds, hkv⟩ : ∃ ds, (M.dK l).kv = some ds := ⟨_, rfl⟩
      obtain ⟨a, rfl, hd⟩ := kv_isD e.sub r0 hkv
      refine ⟨_, hv0, a, rfl, hd, F, ρ, φ, e, _, hq, fun vk fk rk p hp => ?_⟩
      have g : Grow F H F (L2.upd H p (.dK [])) [p] := Grow.own1 e.sub hp
      have e3 := g.env e
      have r3 := g.rep r0
      have hvk := keyOf_is hkd (rep_leaf rk)
      -- the list laid
      have fin : ∀ (kvs : List (Key × V)) (d : Addr) (row : List (Key × M)) (ds : List PyData), L2.upd H p (.dK []) d = some (.dK kvs) → kvs.map (·.1) = row.map (·.1) → IsDs X.K F ds (kvs.map (·.2)) →
          (∀ F' H' φ' v f, EnvOk X.K F' H' σ ρ φ' → Rep X.K F' H' v (.lst (((row.map (·.1)).zip ds).map fun kd => .leaf (.tuple [keyD kd.1, kd.2]))) f → (∀ a ∈ f, ¬ Om φ' a) → Ext F H (Om φ) F' H' (fun a => Om φ' a ∨ a ∈ f) → Q v H') → LiI.rItemsL (.ref d) (L2.upd H p (.dK [])) Q := fun kvs d row ds hdk ek hds kq => by
        refine ⟨d, kvs, rfl, hdk, fun H' lp ts hsame hlp hts hpn hl hpair => ?_⟩
        have sub3 : Sub F H' := fun b o q => hsame b o (e3.sub b o q)
        have g4 : Grow F (L2.upd H p (.dK [])) (unT F H') H' [lp] := by
          refine ⟨fun b o q => by unfold unT; rw [q], fun b o q => ?_, hsame, fun b o q => ?_, fun b hb => by simp at hb; subst hb; exact hlp⟩
          · unfold unT at q
            split at q
            · rename_i x hx; cases q; exact sub3 _ _ hx
            · split at q
              · rename_i vs hvs; cases q; exact hvs
              · cases q
          · unfold unT at q
            split at q
            · rename_i x hx; cases q; exact .inl hx
            · split at q
              · rename_i hFb vs hvs; cases q
                refine .inr ?_
                cases hq : L2.upd H p (.dK []) b with
                | none => exact .inl hq
                | some u => have := hsame b u hq; rw [hvs] at this; cases this; exact .inr ⟨vs, hq⟩
              · cases q
        have hFl : unT F H' lp = none := by
          unfold unT
          cases hq : F lp with
          | some u => have := e3.sub lp u hq; rw [hlp] at this; cases this
          | none => simp only [hl]
        have rl : Rep X.K (unT F H') H' (.ref lp) (.lst (((row.map (·.1)).zip ds).map fun kd => .leaf (.tuple [keyD kd.1, kd.2]))) [lp] :=
          .lst hl hFl (rows_reps ek (IsDs.mono g4.mono hds) (paired_mono (fun t q h => unT_tup sub3 h) hpair)) (by simp)
        have e4 := g4.env e3
        refine kq (unT F H') H' φ (.ref lp) [lp] e4 rl (g4.off e3) ?_
        have x0 : Ext F H (Om φ) F (L2.upd H p (.dK [])) (Om φ) := g.ext0
        exact x0.trans g4.ext
      rcases hcase with ⟨hgl, rfl⟩ | ⟨row, hgl, hr⟩
      · have hg0 : (M.dK l).look kd = some none := by simp only [M.look, hkd, Option.map_some, hgl]
        obtain ⟨a', ov, e', gg, lk⟩ := look_rep e3.sub r3 (rep_leaf rk) hg0
        cases e'
        cases ov with
        | some _ => exact lk.elim
        | none => exact ⟨none, gg, fin [] p [] [] upd_same rfl .nil kk⟩
      · unfold rowsOf at hr
        rw [Option.map_eq_some_iff] at hr
        obtain ⟨ds, hlv, rfl⟩ := hr
        have hg0 : (M.dK l).look kd = some (some (.dK row)) := by simp only [M.look, hkd, Option.map_some, hgl]
        obtain ⟨a', ov, e', gg, lk⟩ := look_rep e3.sub r3 (rep_leaf rk) hg0
        cases e'
        cases ov with
        | none => exact lk.elim
        | some v' =>
          obtain ⟨f', rr, _⟩ := lk
          cases rr with | dK h1 h2 he nd rs n => ?_
          exact ⟨some _, gg, fin _ _ row ds h1 he (leaves_isDs hlv rs) kk⟩
end
section
variable {X : Cx} {E : XK} {J : List Nat} {o ro ro2 k p p2 n : Expr} {qk qp qm : Env' → Option M} {rest : List Stmt} {b : Env' → O}
theorem dss_bump {i r : Nat} {x : Str} {zk : Nat} {pn apos cpos dp pos1 gpos gcpos zp ap tp pos2 : Pos} (hj : r ∉ J) (hN : X.N.Nodup) (hi : X.N[r]? = some x) (hx : Loc X.env.scope x) (hu : X.A.units + 1 < cLine) (ho : PE X o (tVar i)) (hro : PE X ro (tVar r)) (hro2 : PE X ro2 (tVar r)) (hk : DQ X k qk) (hp : DQ X p qp) (hp2 : DQ X p2 qp) (hn : DQ X n qm) (hb : DSs X E J rest b)
    (m1 : M2 X o "setdefault" apos k (.Dict [] [] dp) cpos := by exact ⟨rfl, rfl, rfl, rfl⟩) (m2 : M2 X ro2 "get" gpos p2 (.Constant (.int 0) zk zp) gcpos := by exact ⟨rfl, rfl, rfl, rfl⟩)
    (s1 : swapsWith (.Call (.Attribute o "setdefault" apos) [k, .Dict [] [] dp] [] cpos) (some (.Name x pn)) pos1.line X.env = pure false := by rfl) (hf : X.fn x = true ∨ X.env.scope.names.lookup x = some .local := by first | exact .inl rfl | exact .inr rfl | assumption)
    (s2 : swapsWithSole [.Subscript ro p tp] (.BinOp (.Call (.Attribute ro2 "get" gpos) [p2, .Constant (.int 0) zk zp] [] gcpos) .Add n ap) pos2.line X.env = pure false := by rfl) (hw : swappedStores [.Subscript ro p tp] (.BinOp (.Call (.Attribute ro2 "get" gpos) [p2, .Constant (.int 0) zk zp] [] gcpos) .Add n ap) X.env = pure none := by rfl)
    (h1 : (assignEach [.Subscript ro p tp] X.env).map (·.2) = [assign (.Subscript ro p tp) X.env] := by rfl)
    (ha : ∀ v, assign (.Subscript ro p tp) X.env v = (do
      let ov ← holding [v] (eval ro X.env)
      let iv ← holding [v, ov] (eval p X.env)
      standAt tp
      holding [v, ov, iv] (setItem ov iv v)
      release [v, ov, iv] []) := by intro _; rfl) :
    DSs X E J (.Assign [.Name x pn] (.Call (.Attribute o "setdefault" apos) [k, .Dict [] [] dp] [] cpos) pos1 :: .Assign [.Subscript ro p tp] (.BinOp (.Call (.Attribute ro2 "get" gpos) [p2, .Constant (.int 0) zk zp] [] gcpos) .Add n ap) pos2 :: rest) (mSeq (mBump i r qk qp qm) b) :=
  (pss_cons (ps_set hN hi hx (pe_dsetd ho hk pe_dnewK m1) s1 hf) (pss_cons (ps_asg (pe_op op_add (pe_dget2 hu hro2 hp2 pe_int m2) hn) (pg_sub hro hp (set_any hu) ha) s2 hw h1) hb)).imp fun D σ H h => by
    have h' := i_seq h
    exact i_bump hj h'
end
end G
namespace G
open PySem PySem.Spec PyProof.Rows L2

/-! ### runs of the newer mirrors -/
@[simp] theorem ap_q3 (g : M → M → M → Option PyData) (a b c : Env' → Option M) (ρ : Env') : q3 g a b c ρ = (a ρ).bind fun x => (b ρ).bind fun y => (c ρ).bind fun z => (g x y z).map .leaf := by
  unfold q3; cases a ρ <;> cases b ρ <;> cases c ρ <;> rfl
@[simp] theorem ap_itF (f : PyData → Option (List PyData)) (m : Env' → R M) (ρ : Env') : mItF f m ρ = (m ρ).bind fun x ρ1 => itm (x.frz.bind f) ρ1 := by unfold mItF itm; rfl
def neM (o : Option (List PyData)) (ρ : Env') : R M := match o with
  | some ds => .ok (.leaf (.bool (!ds.isEmpty))) ρ
  | none => .bad
@[simp] theorem neM_some (ds : List PyData) (ρ : Env') : neM (some ds) ρ = .ok (.leaf (.bool (!ds.isEmpty))) ρ := rfl
@[simp] theorem ap_neE (q : Env' → Option M) (ρ : Env') : mNeE q ρ = neM ((q ρ).bind M.kv) ρ := by unfold mNeE neM; rfl
@[simp] theorem ap_par (i j : Nat) (a b : Env' → R M) (ρ : Env') : mPar i j a b ρ = (a ρ).oo fun x ρ1 => (b ρ1).oo fun y ρ2 => .next ((ρ2.set i (some x)).set j (some y)) := by
  unfold mPar R.oo
  cases a ρ with
  | ok x ρ1 => cases b ρ1 <;> rfl
  | _ => rfl
def R.forD (r : R (List PyData)) (g : PyData → Env' → Option Env') (b : Env' → O) : O := match r with
  | .ok ds ρ => match mLoop g b ds ρ with
    | .err _ _ => .bad
    | o => o
  | .err x ρ => .err x ρ
  | .bad => .bad
theorem R.forD_ok {ds : List PyData} {ρ : Env'} {g : PyData → Env' → Option Env'} {b : Env' → O} {ρ' : Env'} (h : mLoop g b ds ρ = .next ρ') : (R.ok ds ρ).forD g b = .next ρ' := by unfold R.forD; simp only [h]
@[simp] theorem ap_forD (it : Env' → R (List PyData)) (g : PyData → Env' → Option Env') (b : Env' → O) (ρ : Env') : mForD it g b ρ = (it ρ).forD g b := by unfold mForD R.forD; rfl
@[simp] theorem ap_asgT (m : Env' → R M) (g : PyData → Env' → Option Env') (ρ : Env') : mAsgT m g ρ = (m ρ).oo fun x ρ1 => put2 (x.frz.bind fun d => g d ρ1) := by
  unfold mAsgT R.oo put2
  cases m ρ with
  | ok x ρ1 =>
    dsimp only
    cases x.frz with
    | none => rfl
    | some d => first | (dsimp only [Option.bind]; done) | (dsimp only [Option.bind]; cases g d ρ1 <;> rfl)
  | _ => rfl
/-- a loop over typed items with an accumulator -/
theorem loop_acc {α β : Type} {g : PyData → Env' → Option Env'} {b : Env' → O} (enc : β → PyData) (E : α → Env' → Prop) (f : α → β → α) : ∀ (L : List β), (∀ a x ρ, x ∈ L → E a ρ → ∃ ρ1 ρ2, g (enc x) ρ = some ρ1 ∧ b ρ1 = .next ρ2 ∧ E (f a x) ρ2) → ∀ a ρ, E a ρ → ∃ ρ', mLoop g b (L.map enc) ρ = .next ρ' ∧ E (L.foldl f a) ρ'
  | [], _, a, ρ, h => ⟨ρ, rfl, h⟩
  | x :: L, hs, a, ρ, h => by
    obtain ⟨ρ1, ρ2, h1, h2, h3⟩ := hs a x ρ (by simp) h
    rw [List.map_cons, loop_cons h1, h2, O.loop_next, List.foldl_cons]
    exact loop_acc enc E f L (fun a y ρ hy => hs a y ρ (by simp [hy])) _ _ h3
/-! ### typed dicts -/
section
variable {κ κ' α β : Type} [DecidableEq κ] [DecidableEq κ']
theorem getG_nil (k : κ) : getG ([] : List (κ × α)) k = none := rfl
theorem getG_cons (p : κ × α) (l : List (κ × α)) (k : κ) : getG (p :: l) k = if p.1 = k then some p.2 else getG l k := by
  unfold getG
  rw [List.find?_cons]
  by_cases h : p.1 = k <;> simp [h]
theorem getG_none {l : List (κ × α)} {k : κ} : getG l k = none ↔ k ∉ l.map (·.1) := by
  induction l with
  | nil => simp [getG]
  | cons p r ih =>
    rw [getG_cons]
    by_cases h : p.1 = k
    · simp [h]
    · simp only [h, if_false, ih, List.map_cons, List.mem_cons, not_or]
      exact ⟨fun z => ⟨fun e => h e.symm, z⟩, fun z => z.2⟩
theorem putG_new {l : List (κ × α)} {k : κ} {v : α} (h : k ∉ l.map (·.1)) : putG l k v = l ++ [(k, v)] := by
  unfold putG
  rw [if_neg]
  intro z
  obtain ⟨p, hp, e⟩ := List.any_eq_true.mp z
  exact h (List.mem_map.mpr ⟨p, hp, by simpa using e⟩)
theorem putG_cons_eq (p : κ × α) (l : List (κ × α)) (v : α) (h : p.1 ∉ l.map (·.1)) : putG (p :: l) p.1 v = (p.1, v) :: l := by
  unfold putG
  rw [if_pos (by simp)]
  simp only [List.map_cons, if_true, List.cons.injEq, true_and]
  conv => rhs; rw [← List.map_id l]
  refine List.map_congr_left fun q hq => ?_
  rw [if_neg fun z => h (List.mem_map.mpr ⟨q, hq, z⟩)]; rfl
theorem putG_cons_ne {p : κ × α} {l : List (κ × α)} {k : κ} {v : α} (h : p.1 ≠ k) : putG (p :: l) k v = p :: putG l k v := by
  unfold putG
  simp only [List.any_cons, h, decide_false, Bool.false_or, List.map_cons, if_false]
  split <;> rfl
theorem getG_putG {l : List (κ × α)} {k k' : κ} {v : α} (nd : (l.map (·.1)).Nodup) : getG (putG l k v) k' = if k = k' then some v else getG l k' := by
  induction l with
  | nil => rw [putG_new (by simp)]; simp [getG_cons, getG_nil]
  | cons p r ih =>
    simp only [List.map_cons, List.nodup_cons] at nd
    by_cases h : p.1 = k
    · subst h
      rw [putG_cons_eq _ _ _ nd.1, getG_cons, getG_cons]
      by_cases e : p.1 = k' <;> simp [e]
    · rw [putG_cons_ne h, getG_cons, getG_cons, ih nd.2]
      by_cases e : p.1 = k'
      · subst e; rw [if_pos rfl, if_neg (fun z => h z.symm), if_pos rfl]
      · simp [e]
theorem putG_map {f : κ → κ'} (hf : ∀ a b, f a = f b → a = b) {h : α → β} {k : κ} {v : α} : ∀ {l : List (κ × α)}, putG (l.map fun x => (f x.1, h x.2)) (f k) (h v) = (putG l k v).map fun x => (f x.1, h x.2) := by
  intro l
  have ha : (l.map fun x => (f x.1, h x.2)).any (fun kv => decide (kv.1 = f k)) = l.any fun kv => decide (kv.1 = k) := by
    rw [List.any_map]
    refine List.any_eq.trans ?_ |>.trans List.any_eq.symm
    simp only [Function.comp_apply, decide_eq_true_eq]
    congr 1
    apply propext
    constructor
    · rintro ⟨x, hx, e⟩; exact ⟨x, hx, hf _ _ e⟩
    · rintro ⟨x, hx, e⟩; exact ⟨x, hx, by rw [e]⟩
  unfold putG
  rw [ha]
  split
  · rw [List.map_map, List.map_map]
    refine List.map_congr_left fun x _ => ?_
    simp only [Function.comp_apply]
    by_cases e : x.1 = k
    · simp [e]
    · rw [if_neg e, if_neg fun z => e (hf _ _ z)]
  · simp
theorem getG_map {f : κ → κ'} (hf : ∀ a b, f a = f b → a = b) {h : α → β} {k : κ} : ∀ {l : List (κ × α)}, getG (l.map fun x => (f x.1, h x.2)) (f k) = (getG l k).map h
  | [] => rfl
  | p :: r => by
    rw [List.map_cons, getG_cons, getG_cons, getG_map hf]
    by_cases e : p.1 = k
    · simp [e]
    · simp only [e, if_false]; rw [if_neg fun z => e (hf _ _ z)]
/-- a sum over a dict, a key set -/
theorem sum_putG {φ : κ → α → Int} {k : κ} {v : α} : ∀ {l : List (κ × α)}, (l.map (·.1)).Nodup → ((putG l k v).map fun x => φ x.1 x.2).sum = (l.map fun x => φ x.1 x.2).sum - ((getG l k).elim 0 (φ k)) + φ k v
  | [], _ => by rw [putG_new (by simp)]; simp [getG_nil]
  | p :: r, nd => by
    simp only [List.map_cons, List.nodup_cons] at nd
    by_cases h : p.1 = k
    · subst h
      rw [putG_cons_eq _ _ _ nd.1, getG_cons, if_pos rfl]
      simp only [List.map_cons, List.sum_cons, Option.elim_some]
      omega
    · rw [putG_cons_ne h, getG_cons, if_neg h]
      simp only [List.map_cons, List.sum_cons]
      rw [sum_putG nd.2]
      omega
theorem mem_putG_iff {l : List (κ × α)} {k : κ} {v : α} (nd : (l.map (·.1)).Nodup) {x : κ × α} : x ∈ putG l k v ↔ (x.1 ≠ k ∧ x ∈ l) ∨ x = (k, v) := by
  induction l with
  | nil => rw [putG_new (by simp)]; simp
  | cons p r ih =>
    simp only [List.map_cons, List.nodup_cons] at nd
    by_cases h : p.1 = k
    · subst h
      rw [putG_cons_eq _ _ _ nd.1]
      simp only [List.mem_cons]
      constructor
      · rintro (e | e)
        · exact .inr e
        · exact .inl ⟨fun z => nd.1 (z ▸ List.mem_map.mpr ⟨x, e, rfl⟩), .inr e⟩
      · rintro (⟨h1, e | e⟩ | e)
        · exact absurd (by rw [e]) h1
        · exact .inr e
        · exact .inl e
    · rw [putG_cons_ne h]
      simp only [List.mem_cons, ih nd.2]
      constructor
      · rintro (e | ⟨h1, e⟩ | e)
        · exact .inl ⟨by rw [e]; exact h, .inl e⟩
        · exact .inl ⟨h1, .inr e⟩
        · exact .inr e
      · rintro (⟨h1, e | e⟩ | e)
        · exact .inl e
        · exact .inr (.inl ⟨h1, e⟩)
        · exact .inr (.inr e)
theorem getG_mem {l : List (κ × α)} {k : κ} {v : α} (h : getG l k = some v) : (k, v) ∈ l := by
  obtain ⟨n, e⟩ := getG_ix h
  exact List.mem_of_getElem? e
theorem getG_of_mem {l : List (κ × α)} {k : κ} {v : α} (nd : (l.map (·.1)).Nodup) (h : (k, v) ∈ l) : getG l k = some v := by
  obtain ⟨n, hn, e⟩ := List.getElem_of_mem h
  exact getG_at nd (n := n) (by rw [List.getElem?_eq_getElem hn, e])
end
/-- as many as there can be -/
theorem nodup_le {α : Type} [DecidableEq α] : ∀ {l m : List α}, l.Nodup → (∀ x ∈ l, x ∈ m) → l.length ≤ m.length
  | [], m, _, _ => Nat.zero_le _
  | x :: l, m, nd, h => by
    have hx := h x (by simp)
    have nd' := List.nodup_cons.mp nd
    have := nodup_le (l := l) (m := m.erase x) nd'.2 fun y hy => by
      have : y ≠ x := fun z => nd'.1 (z ▸ hy)
      exact (List.mem_erase_of_ne this).mpr (h y (by simp [hy]))
    rw [List.length_erase_of_mem hx] at this
    have : 0 < m.length := List.length_pos_of_mem hx
    simp only [List.length_cons]; omega
end G
namespace G
open PySem PySem.Spec PyProof.Rows L2

/-! ### webs, what a letter makes -/
structure Way where
  fr : Str
  to : Str
  top : Int
  bot : Int
  tk : Int
def Way.k (w : Way) : List Key := [.inr w.fr, .inr w.to, .inl w.top, .inl w.bot, .inl w.tk]
def Way.D (w : Way) : PyData := .tuple [.str w.fr, .str w.to, .int w.top, .int w.bot, .int w.tk]
theorem Way.kD (w : Way) : keysD w.k = w.D := rfl
def webD (W : List Way) : PyData := .tuple (W.map Way.D)
structure Way.Ok (w : Way) : Prop where
  top1 : 1 ≤ w.top
  lt : w.top < w.bot
  bot : w.bot ≤ 10
  tk1 : 1 ≤ w.tk
  tk2 : w.tk ≤ 100
def less (s : Int) (w : Way) : Int := s * w.top / w.bot
theorem less_lt {w : Way} (h : w.Ok) {s : Int} (hs : 1 ≤ s) : less s w < s := by
  have hb : 0 < w.bot := by have := h.top1; have := h.lt; omega
  unfold less
  refine Int.ediv_lt_of_lt_mul hb ?_
  exact Int.mul_lt_mul_of_pos_left h.lt (by omega)
theorem less_nn {w : Way} (h : w.Ok) {s : Int} (hs : 0 ≤ s) : 0 ≤ less s w := by
  have := h.top1; have := h.lt
  exact Int.ediv_nonneg (Int.mul_nonneg hs (by omega)) (by omega)
def kid (weak : Int) (sh : List Int) (p : Str) (s : Int) (x : Way × Nat) : Bool := decide (x.1.fr = p) && !decide ((x.2 : Int) ∈ sh) && decide (weak ≤ less s x.1)
/-- the ways by which a letter of strength s at p makes one, with their numbers -/
def kids (W : List Way) (weak : Int) (sh : List Int) (p : Str) (s : Int) : List (Way × Nat) := W.zipIdx.filter (kid weak sh p s)
structure WebOk (W : List Way) (weak : Int) : Prop where
  way : ∀ w ∈ W, w.Ok
  weak : 1 ≤ weak
theorem mem_zip {W : List Way} {x : Way × Nat} (h : x ∈ W.zipIdx) : W[x.2]? = some x.1 := by
  have := List.mem_zipIdx_iff_getElem?.mp h
  simpa using this
theorem kids_mem {W : List Way} {weak : Int} {sh : List Int} {p : Str} {s : Int} {x : Way × Nat} (h : x ∈ kids W weak sh p s) : W[x.2]? = some x.1 ∧ x.1 ∈ W ∧ x.1.fr = p ∧ (x.2 : Int) ∉ sh ∧ weak ≤ less s x.1 := by
  obtain ⟨h1, h2⟩ := List.mem_filter.mp h
  have e := mem_zip h1
  simp only [kid, Bool.and_eq_true, decide_eq_true_eq, Bool.not_eq_true', decide_eq_false_iff_not] at h2
  exact ⟨e, List.mem_of_getElem? e, h2.1.1, h2.1.2, h2.2⟩
/-- what comes of a letter, weighed -/
def U (W : List Way) (weak : Int) (sh : List Int) (g : Str → Int → Int) : Nat → Str → Int → Int
  | 0, _, _ => 0
  | k + 1, p, s => g p s + ((kids W weak sh p s).map fun x => U W weak sh g k x.1.to (less s x.1)).sum
theorem sum_congr {α : Type} {l : List α} {f g : α → Int} (h : ∀ x ∈ l, f x = g x) : (l.map f).sum = (l.map g).sum := by rw [List.map_congr_left h]
section
variable {W : List Way} {weak : Int} {sh : List Int}
theorem kid_lt (h : WebOk W weak) {p : Str} {s : Int} (hs : 1 ≤ s) {x : Way × Nat} (hx : x ∈ kids W weak sh p s) : 1 ≤ less s x.1 ∧ less s x.1 < s := by
  obtain ⟨_, hm, _, _, hw⟩ := kids_mem hx
  exact ⟨by have := h.weak; omega, less_lt (h.way _ hm) hs⟩
theorem U_fuel (h : WebOk W weak) (g : Str → Int → Int) : ∀ (k k' : Nat) (p : Str) (s : Int), 1 ≤ s → s.toNat ≤ k → s.toNat ≤ k' → U W weak sh g k p s = U W weak sh g k' p s
  | 0, _, p, s, hs, h1, _ => by omega
  | _ + 1, 0, p, s, hs, _, h2 => by omega
  | k + 1, k' + 1, p, s, hs, h1, h2 => by
    simp only [U]
    congr 1
    refine sum_congr fun x hx => ?_
    obtain ⟨l1, l2⟩ := kid_lt h hs hx
    exact U_fuel h g k k' _ _ l1 (by omega) (by omega)
/-- .. whatever its strength -/
def UU (W : List Way) (weak : Int) (sh : List Int) (g : Str → Int → Int) (p : Str) (s : Int) : Int := U W weak sh g s.toNat p s
theorem UU_eq (h : WebOk W weak) (g : Str → Int → Int) {p : Str} {s : Int} (hs : 1 ≤ s) : UU W weak sh g p s = g p s + ((kids W weak sh p s).map fun x => UU W weak sh g x.1.to (less s x.1)).sum := by
  unfold UU
  obtain ⟨k, hk⟩ : ∃ k, s.toNat = k + 1 := ⟨s.toNat - 1, by omega⟩
  rw [hk]
  simp only [U]
  congr 1
  refine sum_congr fun x hx => ?_
  obtain ⟨l1, l2⟩ := kid_lt h hs hx
  exact U_fuel h g _ _ _ _ l1 (by omega) (by omega)
end
/-! ### sums by strengths, then places -/
abbrev Fd := List (Int × List (Str × Int))
def rowM (r : List (Str × Int)) : List (Key × M) := r.map fun y => (Sum.inr y.1, M.leaf (.int y.2))
def fdL (fd : Fd) : List (Key × M) := fd.map fun x => (Sum.inl x.1, M.dK (rowM x.2))
def bumpR (r : List (Str × Int)) (p : Str) (n : Int) : List (Str × Int) := putG r p ((getG r p).getD 0 + n)
def bumpF (fd : Fd) (s : Int) (p : Str) (n : Int) : Fd := putG fd s (bumpR ((getG fd s).getD []) p n)
def sumR (r : List (Str × Int)) (ω : Str → Int) : Int := (r.map fun y => y.2 * ω y.1).sum
def sumF (fd : Fd) (ω : Str → Int → Int) : Int := (fd.map fun x => sumR x.2 fun p => ω p x.1).sum
structure RowOk (P : List Str) (r : List (Str × Int)) : Prop where
  nd : (r.map (·.1)).Nodup
  mem : ∀ y ∈ r, y.1 ∈ P ∧ 1 ≤ y.2
structure FdOk (P : List Str) (S : Int) (fd : Fd) : Prop where
  nd : (fd.map (·.1)).Nodup
  str : ∀ x ∈ fd, 0 ≤ x.1 ∧ x.1 ≤ S ∧ (x.1 = 0 → x.2 = [])
  row : ∀ x ∈ fd, RowOk P x.2
theorem RowOk.nil {P : List Str} : RowOk P [] := ⟨by simp, by simp⟩
theorem RowOk.bump {P : List Str} {r : List (Str × Int)} (h : RowOk P r) {p : Str} {n : Int} (hp : p ∈ P) (hn : 1 ≤ n) : RowOk P (bumpR r p n) := by
  refine ⟨nodup_putG h.nd _ _, fun y hy => ?_⟩
  rcases (mem_putG_iff h.nd).mp hy with ⟨_, hy⟩ | rfl
  · exact h.mem y hy
  · refine ⟨hp, ?_⟩
    cases hg : getG r p with
    | none => simpa using hn
    | some v => have := (h.mem _ (getG_mem hg)).2; simp at this ⊢; omega
theorem FdOk.nil {P : List Str} {S : Int} : FdOk P S [] := ⟨by simp, by simp, by simp⟩
theorem FdOk.get {P : List Str} {S : Int} {fd : Fd} (h : FdOk P S fd) (s : Int) : RowOk P ((getG fd s).getD []) := by
  cases hg : getG fd s with
  | none => exact .nil
  | some r => exact h.row _ (getG_mem hg)
theorem putG_ne {κ α : Type} [DecidableEq κ] (l : List (κ × α)) (k : κ) (v : α) : putG l k v ≠ [] := fun e => by
  have : k ∈ (putG l k v).map (·.1) := mem_putG.mpr (.inr rfl)
  rw [e] at this; simp at this
theorem FdOk.bump {P : List Str} {S : Int} {fd : Fd} (h : FdOk P S fd) {s : Int} {p : Str} {n : Int} (h1 : 1 ≤ s) (h2 : s ≤ S) (hp : p ∈ P) (hn : 1 ≤ n) : FdOk P S (bumpF fd s p n) := by
  refine ⟨nodup_putG h.nd _ _, fun x hx => ?_, fun x hx => ?_⟩
  · rcases (mem_putG_iff h.nd).mp hx with ⟨_, hx⟩ | rfl
    · exact h.str x hx
    · exact ⟨by dsimp only; omega, h2, fun z => by dsimp only at z; omega⟩
  · rcases (mem_putG_iff h.nd).mp hx with ⟨_, hx⟩ | rfl
    · exact h.row x hx
    · exact (h.get s).bump hp hn
theorem sumR_bump {r : List (Str × Int)} (nd : (r.map (·.1)).Nodup) (p : Str) (n : Int) (ω : Str → Int) : sumR (bumpR r p n) ω = sumR r ω + n * ω p := by
  unfold sumR bumpR
  have := sum_putG (φ := fun p n => n * ω p) (k := p) (v := (getG r p).getD 0 + n) nd
  rw [this]
  cases getG r p with
  | none => simp
  | some v => simp [Int.add_mul]; omega
theorem sumF_bump {P : List Str} {S : Int} {fd : Fd} (h : FdOk P S fd) (s : Int) (p : Str) (n : Int) (ω : Str → Int → Int) : sumF (bumpF fd s p n) ω = sumF fd ω + n * ω p s := by
  unfold sumF bumpF
  have := sum_putG (φ := fun s r => sumR r fun p => ω p s) (k := s) (v := bumpR ((getG fd s).getD []) p n) h.nd
  rw [this, sumR_bump (h.get s).nd]
  cases getG fd s with
  | none => simp [sumR]
  | some v => simp; omega
theorem FdOk.len {P : List Str} {S : Int} {fd : Fd} (h : FdOk P S fd) : fd.length ≤ S.toNat + 1 := by
  have := nodup_le (l := fd.map (·.1)) (m := (List.range (S.toNat + 1)).map fun i => ((i : Nat) : Int)) h.nd fun s hs => by
    obtain ⟨x, hx, rfl⟩ := List.mem_map.mp hs
    obtain ⟨h1, h2, _⟩ := h.str x hx
    exact List.mem_map.mpr ⟨x.1.toNat, List.mem_range.mpr (by omega), by omega⟩
  simpa using this
theorem RowOk.len {P : List Str} {r : List (Str × Int)} (h : RowOk P r) : r.length ≤ P.length := by
  have := nodup_le (l := r.map (·.1)) (m := P) h.nd fun s hs => by
    obtain ⟨x, hx, rfl⟩ := List.mem_map.mp hs
    exact (h.mem x hx).1
  simpa using this
/-! the mirror's own steps -/
theorem inl_inj : ∀ a b : Int, (Sum.inl a : Key) = Sum.inl b → a = b := fun _ _ e => by cases e; rfl
theorem inr_inj : ∀ a b : Str, (Sum.inr a : Key) = Sum.inr b → a = b := fun _ _ e => by cases e; rfl
theorem getG_fdL (fd : Fd) (s : Int) : getG (fdL fd) (.inl s) = (getG fd s).map fun r => M.dK (rowM r) := getG_map (f := Sum.inl) (h := fun r => M.dK (rowM r)) inl_inj
theorem getG_rowM (r : List (Str × Int)) (p : Str) : getG (rowM r) (.inr p) = (getG r p).map fun n => M.leaf (.int n) := getG_map (f := Sum.inr) (h := fun n => M.leaf (.int n)) inr_inj
theorem putG_fdL (fd : Fd) (s : Int) (r : List (Str × Int)) : putG (fdL fd) (.inl s) (.dK (rowM r)) = fdL (putG fd s r) := putG_map (f := Sum.inl) (h := fun r => M.dK (rowM r)) inl_inj
theorem putG_rowM (r : List (Str × Int)) (p : Str) (n : Int) : putG (rowM r) (.inr p) (.leaf (.int n)) = rowM (putG r p n) := putG_map (f := Sum.inr) (h := fun n => M.leaf (.int n)) inr_inj
theorem oldI_row (r : List (Str × Int)) (p : Str) : oldI (rowM r) (.inr p) = some ((getG r p).getD 0) := by
  unfold oldI
  rw [getG_rowM]
  cases getG r p <;> rfl
theorem run_bump {i r : Nat} {qk qp qm : Env' → Option M} {ρ : Env'} {fd : Fd} {s : Int} {p : Str} {n : Int} (hi : qName i ρ = some (.dK (fdL fd))) (hk : qk ρ = some (.leaf (.int s))) (hir : i ≠ r) (hr : r < ρ.length)
    (hp : ∀ x, qp ((ρ.set i (some x)).set r none) = some (.leaf (.str p))) (hm : ∀ x, qm ((ρ.set i (some x)).set r none) = some (.leaf (.int n))) (hl : fd.length < 1000000) (hl2 : ((getG fd s).getD []).length < 1000000) :
    mBump i r qk qp qm ρ = .next ((ρ.set i (some (.dK (fdL (bumpF fd s p n))))).set r none) := by
  have hil : i < ρ.length := by
    have := qName_some hi
    exact (List.getElem?_eq_some_iff.mp this).1
  have hlen : (fdL fd).length < 16777216 := by simp [fdL]; omega
  unfold mBump
  rw [hi, hk]
  simp only [keyOf]
  rw [if_pos ⟨hlen, hir, hr⟩]
  generalize hl1 : openL (fdL fd) (Sum.inl s) = l1
  unfold openL at hl1
  have key : getG l1 (.inl s) = some (.dK (rowM ((getG fd s).getD []))) ∧ ∀ y, putG l1 (.inl s) y = putG (fdL fd) (.inl s) y := by
    rw [getG_fdL] at hl1
    cases hg : getG fd s with
    | some row =>
      rw [hg] at hl1
      simp only [Option.map_some] at hl1
      subst hl1
      exact ⟨by rw [getG_fdL, hg]; rfl, fun _ => rfl⟩
    | none =>
      rw [hg] at hl1
      simp only [Option.map_none] at hl1
      subst hl1
      have hn : (Sum.inl s : Key) ∉ (fdL fd).map (·.1) := getG_none.mp (by rw [getG_fdL, hg]; rfl)
      constructor
      · have : ∀ (l : List (Key × M)), (Sum.inl s : Key) ∉ l.map (·.1) → getG (l ++ [(Sum.inl s, M.dK [])]) (Sum.inl s) = some (.dK []) := by
          intro l
          induction l with
          | nil => intro _; simp [getG_cons]
          | cons q r ih =>
            intro h
            simp only [List.map_cons, List.mem_cons, not_or] at h
            rw [List.cons_append, getG_cons, if_neg fun z => h.1 z.symm]
            exact ih h.2
        exact this _ hn
      · intro y
        rw [putG_new hn]
        have : ∀ (l : List (Key × M)), (Sum.inl s : Key) ∉ l.map (·.1) → putG (l ++ [(Sum.inl s, M.dK [])]) (Sum.inl s) y = l ++ [(Sum.inl s, y)] := by
          intro l
          induction l with
          | nil => intro _; exact putG_cons_eq (Sum.inl s, M.dK []) [] y (by simp)
          | cons q r ih =>
            intro h
            simp only [List.map_cons, List.mem_cons, not_or] at h
            rw [List.cons_append, putG_cons_ne (fun z => h.1 z.symm), ih h.2, List.cons_append]
        exact this _ hn
  obtain ⟨k1, k2⟩ := key
  unfold bump2
  have hq : qName i ((ρ.set i (some (M.dK l1))).set r none) = some (.dK l1) := by
    unfold qName; rw [List.getElem?_set_ne (Ne.symm hir), List.getElem?_set_self hil]; rfl
  rw [hq]
  simp only [M.sub, keyOf, Option.bind_some, k1, hp, hm, oldI_row]
  have hl3 : (rowM ((getG fd s).getD [])).length < 16777216 := by simp [rowM]; omega
  rw [if_pos hl3, putG_rowM]
  simp only [M.setSub, keyOf, k2, putG_fdL]
  rw [List.set_comm _ _ hir, List.set_set, List.set_comm _ _ hir.symm]
  rfl
end G
namespace G
open PySem PySem.Spec PyProof.Rows L2

/-! ### strength by strength -/
structure Ltr where
  p : Str
  s : Int
  n : Int
def Ltr.D (l : Ltr) : PyData := .tuple [.str l.p, .int l.s, .int l.n]
def LtrsD (Ls : List Ltr) : PyData := .list (Ls.map Ltr.D)
structure Ltr.Ok (P : List Str) (S : Int) (l : Ltr) : Prop where
  p : l.p ∈ P
  s1 : 1 ≤ l.s
  s2 : l.s ≤ S
  n : 1 ≤ l.n
def initF (Ls : List Ltr) : Fd := Ls.foldl (fun fd l => bumpF fd l.s l.p l.n) []
def kidsF (W : List Way) (weak : Int) (sh : List Int) (s : Int) (fd : Fd) (y : Str × Int) : Fd := (kids W weak sh y.1 s).foldl (fun fd x => bumpF fd (less s x.1) x.1.to y.2) fd
/-- .. in any order of the places -/
def stepL (W : List Way) (weak : Int) (sh : List Int) (s : Int) (L : List (Str × Int)) (fd : Fd) : Fd := L.foldl (kidsF W weak sh s) fd
def stepF (W : List Way) (weak : Int) (sh : List Int) (fd : Fd) (s : Int) : Fd := stepL W weak sh s ((getG fd s).getD []) fd
def downs : Nat → List Int
  | 0 => []
  | n + 1 => ((n + 1 : Nat) : Int) :: downs n
def dpF (W : List Way) (weak : Int) (sh : List Int) (n : Nat) (fd : Fd) : Fd := (downs n).foldl (stepF W weak sh) fd
section
variable {W : List Way} {weak : Int} {sh : List Int} {P : List Str} {S : Int}
theorem foldl_ok {α β : Type} {Q : α → Prop} {f : α → β → α} : ∀ {L : List β} {a : α}, Q a → (∀ a x, x ∈ L → Q a → Q (f a x)) → Q (L.foldl f a)
  | [], _, h, _ => h
  | x :: L, a, h, k => foldl_ok (L := L) (k a x (by simp) h) fun a y hy => k a y (by simp [hy])
theorem kidsF_ok (h : WebOk W weak) (hP : ∀ w ∈ W, w.to ∈ P) {s : Int} (h1 : 1 ≤ s) (h2 : s ≤ S) {fd : Fd} (hf : FdOk P S fd) {y : Str × Int} (hy : 1 ≤ y.2) : FdOk P S (kidsF W weak sh s fd y) :=
  foldl_ok hf fun fd x hx hf => by
    obtain ⟨l1, l2⟩ := kid_lt h h1 hx
    exact hf.bump l1 (by omega) (hP _ (kids_mem hx).2.1) hy
theorem kidsF_sum (h : WebOk W weak) (hP : ∀ w ∈ W, w.to ∈ P) {s : Int} (h1 : 1 ≤ s) (h2 : s ≤ S) {y : Str × Int} (hy : 1 ≤ y.2) (ω : Str → Int → Int) {fd : Fd} (hf : FdOk P S fd) :
    sumF (kidsF W weak sh s fd y) ω = sumF fd ω + y.2 * ((kids W weak sh y.1 s).map fun x => ω x.1.to (less s x.1)).sum := by
  unfold kidsF
  have : ∀ (L : List (Way × Nat)) (fd : Fd), (∀ x ∈ L, x ∈ kids W weak sh y.1 s) → FdOk P S fd → sumF (L.foldl (fun fd x => bumpF fd (less s x.1) x.1.to y.2) fd) ω = sumF fd ω + y.2 * (L.map fun x => ω x.1.to (less s x.1)).sum := by
    intro L
    induction L with
    | nil => intro fd _ _; simp
    | cons x L ih =>
      intro fd hL hf
      obtain ⟨l1, l2⟩ := kid_lt h h1 (hL x (by simp))
      rw [List.foldl_cons, ih _ (fun z hz => hL z (by simp [hz])) (hf.bump l1 (by omega) (hP _ (kids_mem (hL x (by simp))).2.1) hy), sumF_bump hf]
      simp only [List.map_cons, List.sum_cons, Int.mul_add]
      omega
  exact this _ fd (fun _ hx => hx) hf
theorem stepL_ok (h : WebOk W weak) (hP : ∀ w ∈ W, w.to ∈ P) {s : Int} (h1 : 1 ≤ s) (h2 : s ≤ S) {L : List (Str × Int)} (hL : ∀ y ∈ L, 1 ≤ y.2) {fd : Fd} (hf : FdOk P S fd) : FdOk P S (stepL W weak sh s L fd) :=
  foldl_ok hf fun fd' y hy hf' => kidsF_ok h hP h1 h2 hf' (hL y hy)
theorem stepL_sum (h : WebOk W weak) (hP : ∀ w ∈ W, w.to ∈ P) {s : Int} (h1 : 1 ≤ s) (h2 : s ≤ S) (ω : Str → Int → Int) : ∀ {L : List (Str × Int)} {fd : Fd}, (∀ y ∈ L, 1 ≤ y.2) → FdOk P S fd → 
    sumF (stepL W weak sh s L fd) ω = sumF fd ω + sumR L fun p => ((kids W weak sh p s).map fun x => ω x.1.to (less s x.1)).sum := by
  intro L
  induction L with
  | nil => intro fd _ _; simp [sumR, stepL]
  | cons y L ih =>
    intro fd hL hf
    have e : stepL W weak sh s (y :: L) fd = stepL W weak sh s L (kidsF W weak sh s fd y) := rfl
    rw [e, ih (fun z hz => hL z (by simp [hz])) (kidsF_ok h hP h1 h2 hf (hL y (by simp))), kidsF_sum h hP h1 h2 (hL y (by simp)) ω hf]
    simp only [sumR, List.map_cons, List.sum_cons]
    omega
theorem perm_sum {l m : List Int} (h : l.Perm m) : l.sum = m.sum := by
  induction h with
  | nil => rfl
  | cons a _ ih => simp only [List.sum_cons, ih]
  | swap a b l => simp only [List.sum_cons]; omega
  | trans _ _ i1 i2 => rw [i1, i2]
theorem sumR_perm {l m : List (Str × Int)} (h : l.Perm m) (ω : Str → Int) : sumR l ω = sumR m ω := perm_sum (h.map _)
theorem sumR_add (r : List (Str × Int)) (a b : Str → Int) : sumR r (fun p => a p + b p) = sumR r a + sumR r b := by
  induction r with
  | nil => rfl
  | cons y r ih =>
    simp only [sumR, List.map_cons, List.sum_cons, Int.mul_add] at ih ⊢
    omega
theorem sumR_congr {r : List (Str × Int)} {a b : Str → Int} (h : ∀ p, a p = b p) : sumR r a = sumR r b := by rw [funext h]
/-- two weights that differ at one strength alone -/
theorem sumF_at {fd : Fd} (nd : (fd.map (·.1)).Nodup) {s : Int} {ω ω' : Str → Int → Int} (h : ∀ p t, t ≠ s → ω p t = ω' p t) : sumF fd ω = sumF fd ω' + sumR ((getG fd s).getD []) fun p => ω p s - ω' p s := by
  induction fd with
  | nil => simp [sumF, sumR, getG_nil]
  | cons x fd ih =>
    simp only [List.map_cons, List.nodup_cons] at nd
    have ih := ih nd.2
    simp only [sumF, List.map_cons, List.sum_cons] at ih ⊢
    rw [getG_cons]
    by_cases e : x.1 = s
    · rw [if_pos e]
      subst e
      have hn : getG fd x.1 = none := getG_none.mpr nd.1
      rw [hn] at ih
      simp only [Option.getD_none, sumR, List.map_nil, List.sum_nil] at ih
      simp only [Option.getD_some]
      have : sumR x.2 (fun p => ω p x.1) = sumR x.2 (fun p => ω' p x.1) + sumR x.2 fun p => ω p x.1 - ω' p x.1 := by
        rw [← sumR_add]
        exact sumR_congr fun p => by omega
      rw [this]
      simp only [sumR] at ih ⊢
      omega
    · rw [if_neg e, ih]
      have : sumR x.2 (fun p => ω p x.1) = sumR x.2 (fun p => ω' p x.1) := sumR_congr fun p => h _ _ e
      rw [this]
      omega
/-- the weights when all above c is done -/
def wt (W : List Way) (weak : Int) (sh : List Int) (g : Str → Int → Int) (c : Int) (p : Str) (t : Int) : Int := if t ≤ c then UU W weak sh g p t else g p t
theorem step_pot (h : WebOk W weak) (hP : ∀ w ∈ W, w.to ∈ P) {s : Int} (h1 : 1 ≤ s) (h2 : s ≤ S) (g : Str → Int → Int) {fd : Fd} (hf : FdOk P S fd) {L : List (Str × Int)} (hL : L.Perm ((getG fd s).getD [])) :
    FdOk P S (stepL W weak sh s L fd) ∧ sumF (stepL W weak sh s L fd) (wt W weak sh g (s - 1)) = sumF fd (wt W weak sh g s) := by
  have hL1 : ∀ y ∈ L, 1 ≤ y.2 := fun y hy => ((hf.get s).mem y (hL.mem_iff.mp hy)).2
  refine ⟨stepL_ok h hP h1 h2 hL1 hf, ?_⟩
  rw [stepL_sum h hP h1 h2 _ hL1 hf, sumR_perm hL, sumF_at hf.nd (s := s) (ω := wt W weak sh g s) (ω' := wt W weak sh g (s - 1)) (fun p t ht => by
    unfold wt
    by_cases e : t ≤ s - 1
    · rw [if_pos e, if_pos (by omega)]
    · rw [if_neg e, if_neg (by omega)])]
  congr 1
  refine sumR_congr fun p => ?_
  unfold wt
  rw [if_pos (Int.le_refl s), if_neg (by omega), UU_eq h g h1]
  have : ((kids W weak sh p s).map fun x => if less s x.1 ≤ s - 1 then UU W weak sh g x.1.to (less s x.1) else g x.1.to (less s x.1)) = (kids W weak sh p s).map fun x => UU W weak sh g x.1.to (less s x.1) :=
    List.map_congr_left fun x hx => by rw [if_pos (by have := (kid_lt h h1 hx).2; omega)]
  rw [this]
  omega
theorem dp_pot (h : WebOk W weak) (hP : ∀ w ∈ W, w.to ∈ P) (g : Str → Int → Int) : ∀ (n : Nat) {fd : Fd}, (n : Int) ≤ S → FdOk P S fd → FdOk P S (dpF W weak sh n fd) ∧ sumF (dpF W weak sh n fd) (wt W weak sh g 0) = sumF fd (wt W weak sh g n)
  | 0, fd, _, hf => ⟨hf, rfl⟩
  | n + 1, fd, hn, hf => by
    obtain ⟨ok, pt⟩ := step_pot (sh := sh) h hP (s := ((n + 1 : Nat) : Int)) (by omega) hn g hf (List.Perm.refl _)
    obtain ⟨i1, i2⟩ := dp_pot h hP g n (fd := stepF W weak sh fd ((n + 1 : Nat) : Int)) (by omega) ok
    refine ⟨i1, ?_⟩
    have e : dpF W weak sh (n + 1) fd = dpF W weak sh n (stepF W weak sh fd ((n + 1 : Nat) : Int)) := rfl
    rw [e, i2, ← pt]
    unfold stepF
    congr 2
    omega
theorem sumF_congr {fd : Fd} {ω ω' : Str → Int → Int} (h : ∀ x ∈ fd, x.2 ≠ [] → ∀ p, ω p x.1 = ω' p x.1) : sumF fd ω = sumF fd ω' := sum_congr fun x hx => by
  by_cases e : x.2 = []
  · rw [e]; rfl
  · exact sumR_congr fun p => h x hx e p
theorem sumF_end {fd : Fd} (hf : FdOk P S fd) (g : Str → Int → Int) : sumF fd g = sumF fd (wt W weak sh g 0) := sumF_congr fun x hx ne p => by
  unfold wt
  obtain ⟨h1, _, h3⟩ := hf.str x hx
  rw [if_neg]
  intro z
  exact ne (h3 (by omega))
theorem initF_ok {Ls : List Ltr} (hL : ∀ l ∈ Ls, l.Ok P S) : FdOk P S (initF Ls) := foldl_ok .nil fun fd l hl hf => hf.bump (hL l hl).s1 (hL l hl).s2 (hL l hl).p (hL l hl).n
theorem initF_sum {Ls : List Ltr} (hL : ∀ l ∈ Ls, l.Ok P S) (ω : Str → Int → Int) : sumF (initF Ls) ω = (Ls.map fun l => l.n * ω l.p l.s).sum := by
  unfold initF
  have : ∀ (L : List Ltr) (fd : Fd), (∀ l ∈ L, l.Ok P S) → FdOk P S fd → sumF (L.foldl (fun fd l => bumpF fd l.s l.p l.n) fd) ω = sumF fd ω + (L.map fun l => l.n * ω l.p l.s).sum := by
    intro L
    induction L with
    | nil => intro fd _ _; simp
    | cons l L ih =>
      intro fd hL hf
      have ho := hL l (by simp)
      rw [List.foldl_cons, ih _ (fun z hz => hL z (by simp [hz])) (hf.bump ho.s1 ho.s2 ho.p ho.n), sumF_bump hf]
      simp only [List.map_cons, List.sum_cons]
      omega
  rw [this Ls [] hL .nil]
  simp [sumF]
/-- all that comes, weighed -/
def tot (W : List Way) (weak : Int) (sh : List Int) (Ls : List Ltr) (g : Str → Int → Int) : Int := (Ls.map fun l => l.n * UU W weak sh g l.p l.s).sum
theorem dp_all (h : WebOk W weak) (hP : ∀ w ∈ W, w.to ∈ P) {Ls : List Ltr} (hL : ∀ l ∈ Ls, l.Ok P S) {n : Nat} (hn : (n : Int) ≤ S) (hm : ∀ l ∈ Ls, l.s ≤ n) :
    FdOk P S (dpF W weak sh n (initF Ls)) ∧ ∀ g, sumF (dpF W weak sh n (initF Ls)) g = tot W weak sh Ls g := by
  refine ⟨(dp_pot h hP (fun _ _ => 0) n hn (initF_ok hL)).1, fun g => ?_⟩
  obtain ⟨i1, i2⟩ := dp_pot (sh := sh) h hP g n hn (initF_ok hL)
  rw [sumF_end i1, i2, initF_sum hL]
  unfold tot
  exact sum_congr fun l hl => by unfold wt; rw [if_pos (hm l hl)]
end
end G
namespace G
open PySem PySem.Spec PyProof.Rows L2

/-! ### names, small facts -/
/-- a text that may be laid and compared; of small letters, one to eight -/
def nmB (z : Str) : Bool := PyData.strOk z && decide (1 ≤ z.length) && decide (z.length ≤ 8) && z.cps.toList.all fun c => decide (97 ≤ c) && decide (c ≤ 122)
theorem nmB_ok {z : Str} (h : nmB z = true) : PyData.strOk z = true := by unfold nmB at h; simp only [Bool.and_eq_true] at h; exact h.1.1.1
theorem gEq_str {a b : Str} (ha : PyData.strOk a = true) (hb : PyData.strOk b = true) : gEq (.leaf (.str a)) (.leaf (.str b)) = some (.bool (decide (a = b))) := by
  have : (a == b) = decide (a = b) := by by_cases h : a = b <;> simp [h]
  simp [gEq, SeqAt.shaped, PyData.eqv, PyData.canLay0, PyData.depth, this, ha, hb]
theorem gNe_str {a b : Str} (ha : PyData.strOk a = true) (hb : PyData.strOk b = true) : gNe (.leaf (.str a)) (.leaf (.str b)) = some (.bool (!decide (a = b))) := by
  have : (a == b) = decide (a = b) := by by_cases h : a = b <;> simp [h]
  simp [gNe, SeqAt.shaped, PyData.eqv, PyData.canLay0, PyData.depth, this, ha, hb]
theorem enumD_zip {α : Type} (f : α → PyData) : ∀ (l : List α) (k : Nat), enumD k (l.map f) = (l.zipIdx k).map fun x => .tuple [.int (x.2 : Int), f x.1]
  | [], k => rfl
  | a :: l, k => by simp only [List.map_cons, enumD, List.zipIdx_cons, enumD_zip f l (k + 1)]
theorem foldl_filter {α : Type} (p : α → Bool) : ∀ (L : List α) (acc : List α), L.foldl (fun a x => if p x = true then a ++ [x] else a) acc = acc ++ L.filter p
  | [], acc => by simp
  | x :: L, acc => by
    rw [List.foldl_cons, foldl_filter p L]
    by_cases h : p x = true <;> simp [h]
def shD (sh : List Int) : List PyData := sh.map .int
theorem gNi_ints (i : Int) (sh : List Int) : gNi (.leaf (.int i)) (.leaf (.tuple (shD sh))) = some (.bool (!decide (i ∈ sh))) := by
  have h1 : (shD sh).all flatD = true := by simp [shD, flatD, List.all_eq_true]
  have h2 : ((shD sh).any fun e => PyData.eqv e (.int i)) = decide (i ∈ sh) := by
    unfold shD
    rw [List.any_map]
    induction sh with
    | nil => simp
    | cons j r ih =>
      simp only [List.any_cons, Function.comp_apply, PyData.eqv, List.mem_cons] at ih ⊢
      rw [ih (by simp [shD, flatD, List.all_eq_true])]
      by_cases e : j = i
      · simp [e]
      · have e1 : (j == i) = false := by simpa using e
        have e2 : decide (i = j) = false := by simpa using fun z => e (Eq.symm z)
        have e3 : decide (i = j ∨ i ∈ r) = decide (i ∈ r) := by congr 1; exact propext ⟨fun h => h.resolve_left fun z => e z.symm, .inr⟩
        rw [e1, e3]; rfl
  simp only [gNi, inD, M.sv, flatD, Bool.true_and, h1, if_true, h2, Option.map_some]
theorem gNi_intsL (i : Int) (sh : List Int) : gNi (.leaf (.int i)) (.leaf (.list (shD sh))) = some (.bool (!decide (i ∈ sh))) := by
  have := gNi_ints i sh
  simpa only [gNi, inD, M.sv] using this
/-- the way's parts -/
theorem way_ix (w : Way) : gIx (.leaf w.D) (.leaf (.int 0)) = some (.str w.fr) ∧ gIx (.leaf w.D) (.leaf (.int 1)) = some (.str w.to) ∧ gIx (.leaf w.D) (.leaf (.int 2)) = some (.int w.top) ∧ gIx (.leaf w.D) (.leaf (.int 3)) = some (.int w.bot) ∧ gIx (.leaf w.D) (.leaf (.int 4)) = some (.int w.tk) := by
  refine ⟨?_, ?_, ?_, ?_, ?_⟩ <;> simp [gIx, Way.D, M.sv, atI, ixN]
theorem web_ix {W : List Way} {n : Nat} {w : Way} (h : W[n]? = some w) : gIx (.leaf (webD W)) (.leaf (.int (n : Int))) = some w.D := by
  obtain ⟨hn, e⟩ := List.getElem?_eq_some_iff.mp h
  simp [gIx, webD, M.sv, atI, ixN, hn, e]
theorem downs_range : ∀ n : Nat, rangeD n (-1) n = (downs n).map .int
  | 0 => rfl
  | n + 1 => by
    have ih := downs_range n
    unfold rangeD at ih ⊢
    rw [List.range_succ_eq_map, List.map_cons, List.map_map, downs, List.map_cons, ← ih]
    refine List.cons_eq_cons.mpr ⟨by simp, List.map_congr_left fun i _ => ?_⟩
    simp only [Function.comp_apply, PyData.int.injEq]
    omega
theorem downs_mem {n : Nat} {s : Int} : s ∈ downs n ↔ 1 ≤ s ∧ s ≤ n := by
  induction n with
  | zero => simp [downs]; omega
  | succ n ih => simp only [downs, List.mem_cons, ih]; omega
/-! what may be sorted: rows of keys of one shape -/
def shape : Key → Bool
  | .inl _ => true
  | .inr _ => false
theorem alike_keys : ∀ {k l : List Key}, k.map shape = l.map shape → PySem.W.alike (keysD k) (keysD l) = true := by
  intro k l h
  unfold keysD
  induction k generalizing l with
  | nil => cases l <;> simp at h ⊢ <;> rfl
  | cons a k ih =>
    cases l with
    | nil => simp at h
    | cons b l =>
      simp only [List.map_cons, List.cons.injEq] at h
      have := ih h.2
      cases a <;> cases b <;> first | (simp [shape] at h; done) | skip
      all_goals
        simp only [List.map_cons, keyD, PySem.W.alike, PySem.W.alikeAll, Bool.and_eq_true, Bool.true_and] at this ⊢
        exact this
theorem mulI_ok {i j : Int} (h : i.natAbs ≤ 18446744073709551615) : gMulI (.leaf (.int i)) (.leaf (.int j)) = some (.int (i * j)) := by
  simp only [gMulI, gI2]
  rw [if_pos]
  rw [absB_iff.mpr h]
  rfl
theorem mulI_ok2 {i j : Int} (h : j.natAbs ≤ 18446744073709551615) : gMulI (.leaf (.int i)) (.leaf (.int j)) = some (.int (i * j)) := by
  simp only [gMulI, gI2]
  rw [if_pos]
  rw [absB_iff.mpr h, Bool.or_true]
theorem fdiv_ok {i j : Int} (h0 : 0 < j) (h1 : j ≤ 1073741823) : gFdiv (.leaf (.int i)) (.leaf (.int j)) = some (.int (i / j)) := by
  simp only [gFdiv, gI2]
  rw [if_pos]
  rw [decide_eq_true h0, absB_iff.mpr (by omega)]
  rfl
theorem mod_ok {i j : Int} (h0 : 0 < j) : gMod (.leaf (.int i)) (.leaf (.int j)) = some (.int (i % j)) := by
  simp only [gMod, gI2]
  rw [if_pos (decide_eq_true h0)]
/-! name.append(e) -/
def appL (o : Option M) (r : R M) (i : Nat) : O := match o with
  | some (.lst _) => match r with
    | .ok y ρ1 => match qName i ρ1 with
      | some (.lst ms) => if ms.length < 16777216 then .next (ρ1.set i (some (.lst (ms ++ [y])))) else .bad
      | _ => .bad
    | .err x ρ1 => .err x ρ1
    | .bad => .bad
  | _ => .bad
@[simp] theorem ap_append (i : Nat) (mv : Env' → R M) (ρ : Env') : mAppend i mv ρ = appL (qName i ρ) (mv ρ) i := by unfold mAppend appL; rfl
theorem appL_ok {ms0 ms : List M} {y : M} {ρ1 : Env'} {i : Nat} (h : qName i ρ1 = some (.lst ms)) (hz : ms.length < 16777216) : appL (some (.lst ms0)) (.ok y ρ1) i = .next (ρ1.set i (some (.lst (ms ++ [y])))) := by
  unfold appL
  simp only [h, hz, if_true]
@[simp] theorem ap_itE (m : Env' → R M) (ρ : Env') : mItE m ρ = (m ρ).bind fun x ρ1 => itm ((x.frz.bind itemsD).map (enumD 0)) ρ1 := by
  unfold mItE itm
  cases m ρ with
  | ok x ρ1 => simp only [R.bind_ok]; cases x.frz.bind itemsD <;> rfl
  | _ => rfl
def itz (l : List PyData) (ρ : Env') : R (List PyData) := match l with
  | [x, y] => match itemsD x, itemsD y with
    | some ds, some es => .ok (zipD ds es) ρ
    | _, _ => .bad
  | _ => .bad
@[simp] theorem ap_itZ (ms : Env' → R (List PyData)) (ρ : Env') : mItZ ms ρ = (ms ρ).bind itz := by unfold mItZ itz; rfl
def rg2 (l : List PyData) (ρ : Env') : R (List PyData) := match l with
  | [.int i, .int j] => if inR i && inR j then .ok (rangeD i 1 (j - i).toNat) ρ else .bad
  | _ => .bad
@[simp] theorem ap_itR2 (ms : Env' → R (List PyData)) (ρ : Env') : mItR2 ms ρ = (ms ρ).bind rg2 := by unfold mItR2 rg2; rfl
def rg3 (l : List PyData) (ρ : Env') : R (List PyData) := match l with
  | [.int i, .int j, .int c] => if inR i && inR j && decide (c = -1) then .ok (rangeD i (-1) (i - j).toNat) ρ else .bad
  | _ => .bad
@[simp] theorem ap_itR3 (ms : Env' → R (List PyData)) (ρ : Env') : mItR3 ms ρ = (ms ρ).bind rg3 := by unfold mItR3 rg3; rfl
theorem inR_ok {i : Int} (h0 : -1000000 ≤ i) (h1 : i ≤ 1000000) : inR i = true := by
  unfold inR; rw [absB_iff]; omega
theorem rg3_downs {n : Nat} (h : n ≤ 1000000) (ρ : Env') : rg3 [.int (n : Int), .int 0, .int (-1)] ρ = .ok ((downs n).map .int) ρ := by
  unfold rg3
  simp only [inR_ok (i := (n : Int)) (by omega) (by omega), inR_ok (i := 0) (by omega) (by omega), Bool.and_self, Bool.true_and, decide_true, if_true]
  rw [← downs_range n]
  simp
@[simp] theorem items_webD (W : List Way) : itemsD (webD W) = some (W.map Way.D) := rfl
end G
namespace G
open PySem PySem.Spec PyProof.Rows L2

/-! ### a list of rows, by strengths -/
abbrev Rws := List (List (Str × Int))
def rwsM (rs : Rws) : M := .lst (rs.map fun r => .dK (rowM r))
def fdFrom : Nat → Rws → Fd
  | _, [] => []
  | k, r :: rs => ((k : Int), r) :: fdFrom (k + 1) rs
def fdOf (rs : Rws) : Fd := fdFrom 0 rs
theorem fdFrom_keys : ∀ (rs : Rws) (k : Nat) (s : Int), s ∈ (fdFrom k rs).map (·.1) → (k : Int) ≤ s ∧ s < k + rs.length
  | [], k, s, h => by simp [fdFrom] at h
  | r :: rs, k, s, h => by
    simp only [fdFrom, List.map_cons, List.mem_cons] at h
    rcases h with rfl | h
    · simp; omega
    · have := fdFrom_keys rs (k + 1) s h
      simp only [List.length_cons]; omega
theorem fdFrom_nd : ∀ (rs : Rws) (k : Nat), ((fdFrom k rs).map (·.1)).Nodup
  | [], k => by simp [fdFrom]
  | r :: rs, k => by
    simp only [fdFrom, List.map_cons, List.nodup_cons]
    exact ⟨fun h => by have := fdFrom_keys rs (k + 1) _ h; omega, fdFrom_nd rs (k + 1)⟩
theorem fdFrom_get : ∀ (rs : Rws) (k i : Nat), getG (fdFrom k rs) ((k + i : Nat) : Int) = rs[i]?
  | [], k, i => by simp [fdFrom, getG_nil]
  | r :: rs, k, 0 => by simp [fdFrom, getG_cons]
  | r :: rs, k, i + 1 => by
    simp only [fdFrom, getG_cons, List.getElem?_cons_succ]
    rw [if_neg (by omega), ← fdFrom_get rs (k + 1) i, show k + 1 + i = k + (i + 1) by omega]
theorem fdFrom_set : ∀ (rs : Rws) (k i : Nat) (r : List (Str × Int)), i < rs.length → fdFrom k (rs.set i r) = putG (fdFrom k rs) ((k + i : Nat) : Int) r
  | [], k, i, r, h => by simp at h
  | q :: rs, k, 0, r, h => by
    simp only [List.set_cons_zero, fdFrom]
    have hn : ((k : Int)) ∉ (fdFrom (k + 1) rs).map (·.1) := fun h => by have := fdFrom_keys rs (k + 1) _ h; omega
    exact (putG_cons_eq ((k : Int), q) _ r hn).symm
  | q :: rs, k, i + 1, r, h => by
    simp only [List.set_cons_succ, fdFrom]
    rw [putG_cons_ne (by dsimp only; omega), fdFrom_set rs (k + 1) i r (by simp at h; omega), show k + 1 + i = k + (i + 1) by omega]
theorem fdOf_get (rs : Rws) {s : Int} (h : 0 ≤ s) : (getG (fdOf rs) s).getD [] = rs.getD s.toNat [] := by
  have := fdFrom_get rs 0 s.toNat
  rw [Nat.zero_add, Int.toNat_of_nonneg h] at this
  unfold fdOf
  rw [this, List.getD_eq_getElem?_getD]
def bumpW (rs : Rws) (s : Int) (p : Str) (n : Int) : Rws := rs.set s.toNat (bumpR (rs.getD s.toNat []) p n)
theorem fdOf_bump (rs : Rws) {s : Int} (h : 0 ≤ s) (h2 : s < rs.length) (p : Str) (n : Int) : fdOf (bumpW rs s p n) = bumpF (fdOf rs) s p n := by
  unfold bumpW bumpF
  rw [fdOf_get rs h]
  have := fdFrom_set rs 0 s.toNat (bumpR (rs.getD s.toNat []) p n) (by omega)
  rw [Nat.zero_add, Int.toNat_of_nonneg h] at this
  exact this
theorem fdFrom_zero : ∀ (n k : Nat), ∀ x ∈ fdFrom k (List.replicate n []), (k : Int) ≤ x.1 ∧ x.1 < k + n ∧ x.2 = []
  | 0, k, x, h => by simp [fdFrom] at h
  | n + 1, k, x, h => by
    simp only [List.replicate_succ, fdFrom, List.mem_cons] at h
    rcases h with rfl | h
    · refine ⟨by simp, by dsimp only; omega, rfl⟩
    · obtain ⟨h1, h2, h3⟩ := fdFrom_zero n (k + 1) x h
      exact ⟨by omega, by omega, h3⟩
theorem fdOf_zero {P : List Str} {S : Int} {n : Nat} (h : (n : Int) ≤ S + 1) : FdOk P S (fdOf (List.replicate n [])) ∧ ∀ ω, sumF (fdOf (List.replicate n [])) ω = 0 := by
  refine ⟨⟨fdFrom_nd _ _, fun x hx => ?_, fun x hx => ?_⟩, fun ω => ?_⟩
  · obtain ⟨h1, h2, h3⟩ := fdFrom_zero n 0 x hx
    exact ⟨by omega, by omega, fun _ => h3⟩
  · rw [(fdFrom_zero n 0 x hx).2.2]; exact .nil
  · have : ∀ x ∈ fdOf (List.replicate n []), sumR x.2 (fun p => ω p x.1) = 0 := fun x hx => by rw [(fdFrom_zero n 0 x hx).2.2]; rfl
    unfold sumF
    rw [sum_congr this]
    induction (fdOf (List.replicate n [])) with
    | nil => rfl
    | cons a l ih => simpa using ih
/-! the mirror's steps -/
theorem row_at {i : Nat} {qk : Env' → Option M} {ρ : Env'} {rs : Rws} {s : Int} (hi : qName i ρ = some (rwsM rs)) (hk : qk ρ = some (.leaf (.int s))) (h : 0 ≤ s) (h2 : s < rs.length) :
    pAt i (pLx i pNil qk) ρ = some (rwsM rs, [.ix (.int s)], .dK (rowM (rs.getD s.toNat []))) := by
  have h0 : pAt i pNil ρ = some (rwsM rs, [], rwsM rs) := by
    unfold pAt pNil; rw [hi]; rfl
  have hx : ixN (rs.map fun r => M.dK (rowM r)).length s = some s.toNat := by
    unfold ixN; rw [if_pos h, if_pos (by simpa using h2)]
  have hs : (rwsM rs).sub (.ix (.int s)) = some (.dK (rowM (rs.getD s.toNat []))) := by
    unfold rwsM
    simp only [M.sub, hx, Option.bind_some, List.getElem?_map]
    have : rs[s.toNat]? = some (rs.getD s.toNat []) := by
      rw [List.getD_eq_getElem?_getD, List.getElem?_eq_getElem (by omega)]; rfl
    rw [this]; rfl
  have hp : pLx i pNil qk ρ = some [.ix (.int s)] := by
    unfold pLx
    rw [h0, hk]
    simp [rwsM, M.isLstM]
  unfold pAt
  rw [hi, hp]
  simp only [Option.bind_some, M.subs, hs, Option.map_some]
theorem row_get {i : Nat} {qk qp : Env' → Option M} {ρ : Env'} {rs : Rws} {s : Int} {p : Str} (hi : qName i ρ = some (rwsM rs)) (hk : qk ρ = some (.leaf (.int s))) (h : 0 ≤ s) (h2 : s < rs.length) (hp : qp ρ = some (.leaf (.str p))) :
    q3 gDGet (qAt i (pLx i pNil qk)) qp (qC (.int 0)) ρ = some (.leaf (.int ((getG (rs.getD s.toNat []) p).getD 0))) := by
  have ha : qAt i (pLx i pNil qk) ρ = some (.dK (rowM (rs.getD s.toNat []))) := by unfold qAt; rw [row_at hi hk h h2]; rfl
  rw [ap_q3, ha, hp]
  simp only [Option.bind_some, ap_C, gDGet, M.look, keyOf, Option.map_some, getG_rowM]
  cases getG (rs.getD s.toNat []) p <;> rfl
theorem row_ix {i : Nat} {qk qp : Env' → Option M} {ρ : Env'} {rs : Rws} {s n : Int} {p : Str} (hi : qName i ρ = some (rwsM rs)) (hk : qk ρ = some (.leaf (.int s))) (h : 0 ≤ s) (h2 : s < rs.length) (hp : qp ρ = some (.leaf (.str p))) (hn : getG (rs.getD s.toNat []) p = some n) :
    q2 gDIx (qAt i (pLx i pNil qk)) qp ρ = some (.leaf (.int n)) := by
  have ha : qAt i (pLx i pNil qk) ρ = some (.dK (rowM (rs.getD s.toNat []))) := by unfold qAt; rw [row_at hi hk h h2]; rfl
  rw [ap_q2, ha, hp]
  simp only [Option.bind_some, gDIx, M.look, keyOf, Option.map_some, getG_rowM, hn]
  rfl
theorem row_put {i : Nat} {qk qp : Env' → Option M} {mv : Env' → R M} {ρ : Env'} {rs : Rws} {s v : Int} {p : Str} (hi : qName i ρ = some (rwsM rs)) (hk : qk ρ = some (.leaf (.int s))) (h : 0 ≤ s) (h2 : s < rs.length) (hp : qp ρ = some (.leaf (.str p))) (hv : mv ρ = .ok (.leaf (.int v)) ρ) (hl : (rs.getD s.toNat []).length < 1000000) :
    mPutF i (pLx i pNil qk) mv qp ρ = .next (ρ.set i (some (rwsM (rs.set s.toNat (putG (rs.getD s.toNat []) p v))))) := by
  have hx : ixN (rs.map fun r => M.dK (rowM r)).length s = some s.toNat := by
    unfold ixN; rw [if_pos h, if_pos (by simpa using h2)]
  unfold mPutF
  rw [hv]
  simp only [row_at hi hk h h2, hp]
  have hput : (M.dK (rowM (rs.getD s.toNat []))).put (.str p) (.leaf (.int v)) = some (.dK (rowM (putG (rs.getD s.toNat []) p v))) := by
    simp only [M.put, keyOf]
    rw [if_pos (by rw [show (rowM (rs.getD s.toNat [])).length = (rs.getD s.toNat []).length from by simp only [rowM, List.length_map]]; omega), putG_rowM]
  rw [hput]
  have hs : (rwsM rs).sub (.ix (.int s)) = some (.dK (rowM (rs.getD s.toNat []))) := by
    unfold rwsM
    simp only [M.sub, hx, Option.bind_some, List.getElem?_map]
    have : rs[s.toNat]? = some (rs.getD s.toNat []) := by
      rw [List.getD_eq_getElem?_getD, List.getElem?_eq_getElem (by omega)]; rfl
    rw [this]; rfl
  simp only [M.setSubs, hs]
  unfold rwsM at *
  simp only [M.setSub, hx, List.map_set]
theorem row_sort {i : Nat} {qk : Env' → Option M} {ρ : Env'} {rs : Rws} {s : Int} (hi : qName i ρ = some (rwsM rs)) (hk : qk ρ = some (.leaf (.int s))) (h : 0 ≤ s) (h2 : s < rs.length) (hl : (rs.getD s.toNat []).length < 1000000) :
    ∃ L : List (Str × Int), L.Perm (rs.getD s.toNat []) ∧ m1q gSortK (qAt i (pLx i pNil qk)) ρ = .ok (.lst ((L.map fun y => PyData.str y.1).map .leaf)) ρ := by
  have ha : qAt i (pLx i pNil qk) ρ = some (.dK (rowM (rs.getD s.toNat []))) := by unfold qAt; rw [row_at hi hk h h2]; rfl
  generalize rs.getD s.toNat [] = r at ha hl
  have hk : (M.dK (rowM r)).kv = some (r.map fun y => PyData.str y.1) := by
    simp only [M.kv, rowM, List.map_map]
    rfl
  obtain ⟨L, hp, e⟩ := perm_lift (g := fun y : Str × Int => PyData.str y.1) (List.mergeSort_perm (r.map fun y => PyData.str y.1) (PySem.W.dataLe false id)) r rfl
  refine ⟨L, hp, ?_⟩
  rw [ap_m1q, ha]
  have hok : sortOk (r.map fun y => PyData.str y.1) = true := sortOk_strs (fun d hd => by obtain ⟨y, _, rfl⟩ := List.mem_map.mp hd; exact ⟨_, rfl⟩) (by simp; omega)
  simp only [Option.bind_some, gSortK, hk, hok, if_true, opt_some, ← e]
end G
namespace G
open PySem PySem.Spec PyProof.Rows L2

/-! ### sums by strengths, frozen -/
def rowK (r : List (Str × Int)) : List (PyData × PyData) := r.map fun y => (.str y.1, .int y.2)
def fdK (fd : Fd) : List (PyData × PyData) := fd.map fun x => (.int x.1, .dict (rowK x.2))
theorem frzK_row : ∀ r : List (Str × Int), M.frzK (rowM r) = some (rowK r)
  | [] => rfl
  | y :: r => by
    have := frzK_row r
    unfold rowM rowK at this ⊢
    simp only [List.map_cons, M.frzK, M.frz, this]; rfl
theorem frz_row (r : List (Str × Int)) : (M.dK (rowM r)).frz = some (.dict (rowK r)) := by simp only [M.frz, frzK_row, Option.map_some]
theorem frzK_fd : ∀ fd : Fd, M.frzK (fdL fd) = some (fdK fd)
  | [] => rfl
  | y :: r => by
    have := frzK_fd r
    unfold fdL fdK at this ⊢
    simp only [List.map_cons, M.frzK, frz_row, this]; rfl
theorem frz_fd (fd : Fd) : (M.dK (fdL fd)).frz = some (.dict (fdK fd)) := by simp only [M.frz, frzK_fd, Option.map_some]
theorem frzs_rws : ∀ rs : Rws, M.frzs (rs.map fun r => M.dK (rowM r)) = some (rs.map fun r => .dict (rowK r))
  | [] => rfl
  | r :: rs => by simp only [List.map_cons, M.frzs, frz_row, frzs_rws rs]
theorem frz_rws (rs : Rws) : (rwsM rs).frz = some (.list (rs.map fun r => .dict (rowK r))) := by
  unfold rwsM
  simp only [M.frz, frzs_rws, Option.map_some]
theorem find_row (p : Str) : ∀ r : List (Str × Int), ((rowK r).find? fun kd => decide (keyOf kd.1 = some (.inr p))).map (·.2) = (getG r p).map .int
  | [] => rfl
  | y :: r => by
    have ih := find_row p r
    unfold rowK at ih ⊢
    rw [getG_cons, List.map_cons, List.find?_cons]
    by_cases e : y.1 = p
    · subst e; simp [keyOf]
    · have : decide (keyOf (PyData.str y.1) = some (Sum.inr p : Key)) = false := by
        rw [decide_eq_false_iff_not]; intro z; simp only [keyOf, Option.some.injEq, Sum.inr.injEq] at z; exact e z
      simp only [this, if_neg e]; exact ih
theorem lookD_row (r : List (Str × Int)) (p : Str) : lookD (rowK r) (.str p) = some ((getG r p).map .int) := by
  have h : lookD (rowK r) (.str p) = (keyOf (.str p)).map fun k => ((rowK r).find? fun kd => decide (keyOf kd.1 = some k)).map (·.2) := by
    cases r <;> rfl
  rw [h, show keyOf (.str p) = some (Sum.inr p) from rfl, Option.map_some, find_row]
theorem find_fd (s : Int) : ∀ fd : Fd, ((fdK fd).find? fun kd => decide (keyOf kd.1 = some (.inl s))).map (·.2) = (getG fd s).map fun r => .dict (rowK r)
  | [] => rfl
  | y :: r => by
    have ih := find_fd s r
    unfold fdK at ih ⊢
    rw [getG_cons, List.map_cons, List.find?_cons]
    by_cases e : y.1 = s
    · subst e; simp [keyOf]
    · have : decide (keyOf (PyData.int y.1) = some (Sum.inl s : Key)) = false := by
        rw [decide_eq_false_iff_not]; intro z; simp only [keyOf, Option.some.injEq, Sum.inl.injEq] at z; exact e z
      simp only [this, if_neg e]; exact ih
theorem lookD_fd (fd : Fd) (s : Int) : lookD (fdK fd) (.int s) = some ((getG fd s).map fun r => .dict (rowK r)) := by
  have h : lookD (fdK fd) (.int s) = (keyOf (.int s)).map fun k => ((fdK fd).find? fun kd => decide (keyOf kd.1 = some k)).map (·.2) := by
    cases fd <;> rfl
  rw [h, show keyOf (.int s) = some (Sum.inl s) from rfl, Option.map_some, find_fd]
theorem keys_row (r : List (Str × Int)) : keysOfD (.dict (rowK r)) = some (r.map fun y => .str y.1) := by
  have h : dRows (rowK r) = rowK r := by cases r <;> rfl
  simp only [keysOfD, h]
  simp [rowK]
theorem keys_fd (fd : Fd) : keysOfD (.dict (fdK fd)) = some (fd.map fun y => .int y.1) := by
  have h : dRows (fdK fd) = fdK fd := by cases fd <;> rfl
  simp only [keysOfD, h]
  simp [fdK]
theorem vals_fd (fd : Fd) : valsOfD (.dict (fdK fd)) = some (fd.map fun y => .dict (rowK y.2)) := by
  have h : valsOfD (.dict (fdK fd)) = some ((fdK fd).map (·.2)) := by cases fd <;> rfl
  rw [h]
  simp [fdK]
theorem gDIx_fd {fd : Fd} {s : Int} {r : List (Str × Int)} (h : getG fd s = some r) : gDIx (.leaf (.dict (fdK fd))) (.leaf (.int s)) = some (.dict (rowK r)) := by
  simp only [gDIx, M.look, lookD_fd, h, Option.map_some, leafD]
theorem gDIx_row {r : List (Str × Int)} {p : Str} {n : Int} (h : getG r p = some n) : gDIx (.leaf (.dict (rowK r))) (.leaf (.str p)) = some (.int n) := by
  simp only [gDIx, M.look, lookD_row, h, Option.map_some, leafD]
theorem gDGet_row (r : List (Str × Int)) (p : Str) : gDGet (.leaf (.dict (rowK r))) (.leaf (.str p)) (.leaf (.int 0)) = some (.int ((getG r p).getD 0)) := by
  simp only [gDGet, M.look, lookD_row, Option.map_some]
  cases getG r p <;> rfl
/-! laid flat: place, strength, number -/
def trip3 (p : Str) (s n : Int) : List Key := [.inr p, .inl s, .inl n]
def tripR (s : Int) (r : List (Str × Int)) : List (List Key) := r.map fun y => trip3 y.1 s y.2
def trip (fd : Fd) : List (List Key) := fd.flatMap fun x => tripR x.1 x.2
theorem getG_of {κ α : Type} [DecidableEq κ] : ∀ {l : List (κ × α)}, (l.map (·.1)).Nodup → ∀ {x : κ × α}, x ∈ l → getG l x.1 = some x.2
  | y :: l, nd, x, h => by
    simp only [List.map_cons, List.nodup_cons] at nd
    rw [getG_cons]
    rcases List.mem_cons.mp h with rfl | h
    · simp
    · rw [if_neg fun e => nd.1 (List.mem_map.mpr ⟨x, h, e.symm⟩)]
      exact getG_of nd.2 h
theorem mem_trip {P : List Str} {S : Int} {fd : Fd} (h : FdOk P S fd) {k : List Key} : k ∈ trip fd ↔ ∃ p s n, k = trip3 p s n ∧ getG ((getG fd s).getD []) p = some n := by
  unfold trip tripR
  simp only [List.mem_flatMap, List.mem_map]
  constructor
  · rintro ⟨x, hx, y, hy, rfl⟩
    refine ⟨y.1, x.1, y.2, rfl, ?_⟩
    rw [getG_of h.nd hx]
    exact getG_of (h.row x hx).nd hy
  · rintro ⟨p, s, n, rfl, e⟩
    cases hg : getG fd s with
    | none => rw [hg] at e; simp [getG_nil] at e
    | some r =>
      rw [hg] at e
      exact ⟨(s, r), getG_mem hg, (p, n), getG_mem e, rfl⟩
theorem trip_len {P : List Str} {S : Int} {fd : Fd} (h : FdOk P S fd) : (trip fd).length ≤ (S.toNat + 1) * P.length := by
  have h1 : ∀ l : Fd, (∀ x ∈ l, RowOk P x.2) → (trip l).length ≤ l.length * P.length := by
    intro l
    induction l with
    | nil => intro _; simp [trip]
    | cons x l ih =>
      intro hl
      have i1 := ih fun y hy => hl y (by simp [hy])
      have i2 := (hl x (by simp)).len
      have e : trip (x :: l) = tripR x.1 x.2 ++ trip l := rfl
      rw [e, List.length_append, List.length_cons, Nat.succ_mul]
      have i3 : (tripR x.1 x.2).length = x.2.length := by simp [tripR]
      omega
  exact Nat.le_trans (h1 fd h.row) (Nat.mul_le_mul_right _ h.len)
theorem trip_nodup {P : List Str} {S : Int} {fd : Fd} (h : FdOk P S fd) : (trip fd).Nodup := by
  have h1 : ∀ l : Fd, (l.map (·.1)).Nodup → (∀ x ∈ l, RowOk P x.2) → (trip l).Nodup := by
    intro l
    induction l with
    | nil => intro _ _; simp [trip]
    | cons x l ih =>
      intro nd hl
      simp only [List.map_cons, List.nodup_cons] at nd
      have e : trip (x :: l) = tripR x.1 x.2 ++ trip l := rfl
      rw [e, List.nodup_append]
      refine ⟨?_, ih nd.2 fun y hy => hl y (by simp [hy]), ?_⟩
      · unfold tripR
        have nr := (hl x (by simp)).nd
        generalize x.2 = r at nr
        induction r with
        | nil => simp
        | cons y r ihr =>
          simp only [List.map_cons, List.nodup_cons] at nr ⊢
          refine ⟨fun z => ?_, ihr nr.2⟩
          obtain ⟨w, hw, e2⟩ := List.mem_map.mp z
          simp only [trip3, List.cons.injEq, Sum.inr.injEq, Sum.inl.injEq] at e2
          exact nr.1 (List.mem_map.mpr ⟨w, hw, e2.1⟩)
      · intro a ha b hb e2
        subst e2
        obtain ⟨y, _, rfl⟩ := List.mem_map.mp ha
        unfold trip at hb
        obtain ⟨x2, hx2, hb⟩ := List.mem_flatMap.mp hb
        obtain ⟨w, _, e3⟩ := List.mem_map.mp hb
        simp only [trip3, List.cons.injEq, Sum.inr.injEq, Sum.inl.injEq] at e3
        exact nd.1 (List.mem_map.mpr ⟨x2, hx2, e3.2.1⟩)
  exact h1 fd h.nd h.row
/-! by its sums alone -/
theorem sumR_ind (p : Str) : ∀ {r : List (Str × Int)}, (r.map (·.1)).Nodup → sumR r (fun q => if q = p then 1 else 0) = (getG r p).getD 0
  | [], _ => rfl
  | y :: r, nd => by
    simp only [List.map_cons, List.nodup_cons] at nd
    have ih := sumR_ind p nd.2
    unfold sumR at ih ⊢
    rw [List.map_cons, List.sum_cons, ih, getG_cons]
    by_cases e : y.1 = p
    · have : getG r p = none := getG_none.mpr fun h => nd.1 (e ▸ h)
      rw [this]; simp [e]
    · simp [e]
theorem sumF_zero (fd : Fd) : sumF fd (fun _ _ => 0) = 0 := by
  unfold sumF
  have : ∀ x : Int × List (Str × Int), sumR x.2 (fun _ => 0) = 0 := fun x => by
    unfold sumR
    generalize x.2 = r
    induction r with
    | nil => rfl
    | cons y r ih => rw [List.map_cons, List.sum_cons, ih]; simp
  induction fd with
  | nil => rfl
  | cons x l ih => rw [List.map_cons, List.sum_cons, ih, this]; rfl
theorem sumF_ind {P : List Str} {S : Int} {fd : Fd} (h : FdOk P S fd) (p : Str) (s : Int) : sumF fd (fun q t => if t = s then (if q = p then 1 else 0) else 0) = (getG ((getG fd s).getD []) p).getD 0 := by
  have e := sumF_at (ω := fun q t => if t = s then (if q = p then 1 else 0) else 0) (ω' := fun _ _ => 0) h.nd (s := s) fun q t ht => by simp [ht]
  rw [e, sumF_zero]
  simp only [if_true, Int.sub_zero, Int.zero_add]
  exact sumR_ind p (h.get s).nd
theorem trip_perm {P P' : List Str} {S S' : Int} {f g : Fd} (hf : FdOk P S f) (hg : FdOk P' S' g) (h : ∀ ω, sumF f ω = sumF g ω) : (trip f).Perm (trip g) := by
  have key : ∀ {P P' : List Str} {S S' : Int} {f g : Fd}, FdOk P S f → FdOk P' S' g → (∀ ω, sumF f ω = sumF g ω) → ∀ p s n, getG ((getG f s).getD []) p = some n → getG ((getG g s).getD []) p = some n := by
    intro P P' S S' f g hf hg h p s n e
    have e1 := sumF_ind hf p s
    have e2 := sumF_ind hg p s
    rw [h, e2, e] at e1
    have hn : 1 ≤ n := ((hf.get s).mem _ (getG_mem e)).2
    cases hh : getG ((getG g s).getD []) p with
    | none => rw [hh] at e1; simp at e1; omega
    | some m => rw [hh] at e1; simp at e1; rw [e1]
  refine (List.perm_ext_iff_of_nodup (trip_nodup hf) (trip_nodup hg)).mpr fun k => ?_
  rw [mem_trip hf, mem_trip hg]
  constructor
  · rintro ⟨p, s, n, rfl, e⟩
    exact ⟨p, s, n, rfl, key hf hg h p s n e⟩
  · rintro ⟨p, s, n, rfl, e⟩
    exact ⟨p, s, n, rfl, key hg hf (fun ω => (h ω).symm) p s n e⟩
theorem sortOk_trip {l : List (List Key)} (h : ∀ k ∈ l, ∃ p s n, k = trip3 p s n) (hl : l.length ≤ 16777216) : sortOk (l.map keysD) = true := by
  unfold sortOk
  simp only [Bool.and_eq_true, decide_eq_true_eq, List.all_eq_true, Bool.or_eq_true, List.length_map]
  refine ⟨⟨⟨fun d hd => ?_, fun d hd e he => ?_⟩, .inl fun d hd => ?_⟩, hl⟩
  · obtain ⟨k, hk, rfl⟩ := List.mem_map.mp hd
    obtain ⟨p, s, n, rfl⟩ := h k hk
    exact ⟨rfl, by simp [trip3, keysD, keyD, PyData.depth, PyData.depthAll]⟩
  · obtain ⟨k, hk, rfl⟩ := List.mem_map.mp hd
    obtain ⟨p, s, n, rfl⟩ := h k hk
    obtain ⟨k, hk, rfl⟩ := List.mem_map.mp he
    obtain ⟨p, s, n, rfl⟩ := h k hk
    rfl
  · obtain ⟨k, hk, rfl⟩ := List.mem_map.mp hd
    obtain ⟨p, s, n, rfl⟩ := h k hk
    rfl
theorem trip_shape {fd : Fd} : ∀ k ∈ trip fd, ∃ p s n, k = trip3 p s n := by
  intro k hk
  unfold trip tripR at hk
  simp only [List.mem_flatMap, List.mem_map] at hk
  obtain ⟨x, _, y, _, rfl⟩ := hk
  exact ⟨_, _, _, rfl⟩
end G
namespace G
open PySem PySem.Spec PyProof.Rows L2

/-! ### a part of a tree, held by a name of its own for a while -/
/-- what stands at the places P stays, and is not frozen -/
structure Stay (F H F' H' : Hp) (P : List Addr) : Prop where
  sub : Sub F F'
  keep : ∀ a ∈ P, ∀ o, H a = some o → H' a = some o
  nf : ∀ a ∈ P, F' a = none
theorem Stay.less {F H F' H' : Hp} {P Q : List Addr} (h : Stay F H F' H' P) (k : ∀ a ∈ Q, a ∈ P) : Stay F H F' H' Q := ⟨h.sub, fun a ha => h.keep a (k a ha), fun a ha => h.nf a (k a ha)⟩
theorem Stay.trans {F H F1 H1 F2 H2 : Hp} {P : List Addr} (h : Stay F H F1 H1 P) (k : Stay F1 H1 F2 H2 P) : Stay F H F2 H2 P := ⟨fun a o e => k.sub a o (h.sub a o e), fun a ha o e => k.keep a ha o (h.keep a ha o e), k.nf⟩
theorem Ext.stay {F H F1 H1 : Hp} {O O1 : Addr → Prop} (a : Ext F H O F1 H1 O1) {f : List Addr} (hf : ∀ x ∈ f, Ob H x ∧ F x = none) (hd : ∀ x ∈ f, ¬ O x) : Stay F H F1 H1 f := ⟨a.mono, (a.beside hf hd).1, (a.beside hf hd).2.1⟩
theorem Rep.stay {K : Frag} {F H F1 H1 : Hp} {v : V} {m : M} {f : List Addr} (r : Rep K F H v m f) (a : Stay F H F1 H1 f) : Rep K F1 H1 v m f := r.keep (.of a.sub) a.keep a.nf
/-- the part v1, m1 (at f1) of the tree m at v; rest: what else the tree owns. Whatever becomes of the part, the tree is the tree with the new part -/
structure Hol (K : Frag) (F H : Hp) (v : V) (m : M) (fp : List Addr) (ss : List Stp) (v1 : V) (m1 : M) (f1 rest : List Addr) : Prop where
  rep : Rep K F H v1 m1 f1
  sub : ∀ a ∈ f1, a ∈ fp
  rst : ∀ a ∈ rest, a ∈ fp
  off : ∀ a ∈ f1, a ∉ rest
  back : ∀ F' H' m' f', Stay F H F' H' rest → Rep K F' H' v1 m' f' → (∀ a ∈ f', a ∉ rest) → ∃ fp', Rep K F' H' v (m.setSubs ss m') fp' ∧ ∀ a, a ∈ fp' ↔ a ∈ rest ∨ a ∈ f'
section
variable {K : Frag} {F H : Hp}
theorem Hol.refl {v : V} {m : M} {fp : List Addr} (r : Rep K F H v m fp) : Hol K F H v m fp [] v m fp [] :=
  ⟨r, fun _ h => h, fun a h => by simp at h, fun a _ h => by simp at h, fun F' H' m' f' _ r' _ => ⟨f', r', fun a => by simp⟩⟩
theorem Reps.stay {vs : List V} {ms : List M} {f : List Addr} {F1 H1 : Hp} (r : Reps K F H vs ms f) (a : Stay F H F1 H1 f) : Reps K F1 H1 vs ms f := Reps.keep (.of a.sub) r a.keep a.nf
/-- one of several trees taken out -/
theorem reps_hole {m1 : M} : ∀ {vs : List V} {ms : List M} {fp : List Addr} (n : Nat), Reps K F H vs ms fp → ms[n]? = some m1 → ∃ (v1 : V) (f1 rest : List Addr), vs[n]? = some v1 ∧ Rep K F H v1 m1 f1 ∧ (∀ a ∈ f1, a ∈ fp) ∧ (∀ a ∈ rest, a ∈ fp) ∧ (∀ a ∈ f1, a ∉ rest) ∧
    ∀ F' H' m' f', Stay F H F' H' rest → Rep K F' H' v1 m' f' → (∀ a ∈ f', a ∉ rest) → ∃ fp', Reps K F' H' vs (ms.set n m') fp' ∧ ∀ a, a ∈ fp' ↔ a ∈ rest ∨ a ∈ f'
  | _, _, _, n, .nil, h => by simp at h
  | _, _, _, 0, .cons (v := v) (f1 := f1) (f2 := f2) r1 r2 d, h => by
    simp at h; subst h
    refine ⟨v, f1, f2, by simp, r1, fun a ha => by simp [ha], fun a ha => by simp [ha], d, fun F' H' m' f' x r' hf => ⟨f' ++ f2, ?_, fun a => ?_⟩⟩
    · simp only [List.set_cons_zero]
      exact .cons r' (r2.stay x) hf
    · rw [List.mem_append]; exact or_comm
  | _, _, _, n + 1, .cons (v := v) (f1 := f1) (f2 := f2) r1 r2 d, h => by
    simp at h
    obtain ⟨v1, g1, rest, e1, q1, s1, s2, s3, k⟩ := reps_hole n r2 h
    refine ⟨v1, g1, f1 ++ rest, by simpa using e1, q1, fun a ha => by simp [s1 a ha], fun a ha => ?_, fun a ha hb => ?_, fun F' H' m' f' x r' hf => ?_⟩
    · rcases List.mem_append.mp ha with h | h
      · simp [h]
      · simp [s2 a h]
    · rcases List.mem_append.mp hb with h | h
      · exact d a h (s1 a ha)
      · exact s3 a ha h
    · obtain ⟨fp', q, s⟩ := k F' H' m' f' (x.less fun a ha => by simp [ha]) r' fun a ha hb => hf a ha (by simp [hb])
      refine ⟨f1 ++ fp', ?_, fun a => ?_⟩
      · simp only [List.set_cons_succ]
        refine .cons (r1.stay (x.less fun a ha => by simp [ha])) q fun a ha hb => ?_
        rcases (s a).mp hb with z | z
        · exact d a ha (s2 a z)
        · exact hf a z (by simp [ha])
      · rw [List.mem_append, s a, List.mem_append, or_assoc]
/-- one key further -/
theorem Hol.dK {v : V} {m : M} {fp : List Addr} {ss : List Stp} {v1 : V} {l : List (Key × M)} {f1 rest : List Addr} {d : PyData} {k : Key} {m2 : M} (h : Hol K F H v m fp ss v1 (.dK l) f1 rest) (hs : m.subs ss = some (.dK l)) (hk : keyOf d = some k) (hg : getG l k = some m2) :
    ∃ v2 f2 rest2 a kvs, v1 = .ref a ∧ H a = some (.dK kvs) ∧ valV kvs k = some v2 ∧ Hol K F H v m fp (ss ++ [.ix d]) v2 m2 f2 rest2 ∧ (∀ x ∈ rest, x ∈ rest2) ∧ a ∈ rest2 := by
  have hrep := h.rep
  cases hr : hrep with | dK h1 h2 he nd rs n => ?_
  rename_i a kvs fs
  obtain ⟨i, hi⟩ := getG_ix hg
  obtain ⟨v2, f2, r2, e1, q1, s1, s2, s3, kk⟩ := reps_hole i rs (m1 := m2) (by rw [List.getElem?_map, hi]; rfl)
  have hkv : kvs[i]? = some (k, v2) := by
    have e2 : (kvs.map (·.1))[i]? = some k := by rw [he, List.getElem?_map, hi]; rfl
    rw [List.getElem?_map] at e1 e2
    cases hc : kvs[i]? with
    | none => rw [hc] at e1; cases e1
    | some p =>
      rw [hc] at e1 e2
      simp only [Option.map_some, Option.some.injEq] at e1 e2
      rw [← e1, ← e2]
  refine ⟨v2, f2, a :: r2 ++ rest, a, kvs, rfl, h1, valV_ix (by rw [he]; exact nd) hkv, ⟨q1, fun x hx => h.sub x (by simp [s1 x hx]), fun x hx => ?_, fun x hx hy => ?_, fun F' H' m' f' x r' hf => ?_⟩, fun x hx => by simp [hx], by simp⟩
  · rcases List.mem_append.mp hx with z | z
    · rcases List.mem_cons.mp z with rfl | z
      · exact h.sub _ (by simp)
      · exact h.sub _ (by simp [s2 x z])
    · exact h.rst x z
  · rcases List.mem_append.mp hy with z | z
    · rcases List.mem_cons.mp z with rfl | z
      · exact n (s1 _ hx)
      · exact s3 x hx z
    · exact h.off x (by simp [s1 x hx]) z
  · obtain ⟨fp', q, s⟩ := kk F' H' m' f' (x.less fun b hb => by simp [hb]) r' fun b hb hc => hf b hb (by simp [hc])
    have hset : putG l k m' = l.set i (k, m') := putG_ix nd hi
    have r3 : Rep K F' H' (.ref a) (.dK (putG l k m')) (a :: fp') := by
      rw [hset]
      refine .dK (kvs := kvs) (x.keep a (by simp) _ h1) (x.nf a (by simp)) ?_ ?_ ?_ fun z => ?_
      · rw [List.map_set, he]
        apply List.ext_getElem?
        intro j
        rw [List.getElem?_set]
        by_cases hij : i = j
        · subst hij
          rw [if_pos rfl, List.getElem?_map, hi]
          have : i < l.length := (List.getElem?_eq_some_iff.mp hi).1
          simp [this]
        · rw [if_neg hij]
      · have := nodup_putG nd k m'
        rw [hset] at this
        exact this
      · have : (l.set i (k, m')).map (·.2) = (l.map (·.2)).set i m' := by rw [List.map_set]
        rw [this]; exact q
      · rcases (s a).mp z with z | z
        · exact n (s2 a z)
        · exact hf a z (by simp)
    obtain ⟨fq, r4, s4⟩ := h.back F' H' (.dK (putG l k m')) (a :: fp') (x.less fun b hb => by simp [hb]) r3 fun b hb hc => by
      rcases List.mem_cons.mp hb with rfl | hb
      · exact h.off b (by simp) hc
      · rcases (s b).mp hb with z | z
        · exact h.off b (by simp [s2 b z]) hc
        · exact hf b z (by simp [hc])
    refine ⟨fq, ?_, fun b => ?_⟩
    · have : (M.dK l).setSub (.ix d) m' = .dK (putG l k m') := by simp only [M.setSub, hk]
      rw [setSubs_snoc hs ⟨m2, by simp only [M.sub, hk, Option.bind_some, hg]⟩, this]
      exact r4
    · rw [s4 b]
      simp only [List.mem_cons, List.cons_append, List.mem_append, s b]
      constructor
      · rintro (z | z | z | z)
        · exact .inl (.inr (.inr z))
        · exact .inl (.inl z)
        · exact .inl (.inr (.inl z))
        · exact .inr z
      · rintro ((z | z | z) | z)
        · exact .inr (.inl z)
        · exact .inr (.inr (.inl z))
        · exact .inl z
        · exact .inr (.inr (.inr z))
/-- the part is lent to slot r -/
theorem EnvOk.lend {σ : L2.St} {ρ : Env'} {φ : Nat → List Addr} {i r : Nat} {v v1 : V} {m m1 : M} {ss : List Stp} {f1 rest : List Addr} (e : EnvOk K F H σ ρ φ) (hir : i ≠ r) (hr : ρ[r]? = some none) (hv1 : σ[r]? = some (some v1)) (h : Hol K F H v m (φ i) ss v1 m1 f1 rest) :
    EnvOk K F H σ ((ρ.set i none).set r (some m1)) (fun j => if j = r then f1 else if j = i then [] else φ j) := by
  have hl : r < ρ.length := (List.getElem?_eq_some_iff.mp hr).1
  have hφr : φ r = [] := e.emp r fun m z => by rw [hr] at z; cases z
  refine ⟨e.sub, by simp [e.len], fun j x hx => ?_, fun j k a hj hk => ?_, fun j hx => ?_⟩
  · by_cases hjr : j = r
    · subst hjr
      rw [List.getElem?_set_self (by simpa using hl)] at hx
      cases hx
      exact ⟨v1, hv1, by rw [if_pos rfl]; exact h.rep⟩
    · rw [List.getElem?_set_ne (Ne.symm hjr)] at hx
      by_cases hji : j = i
      · subst hji
        by_cases hli : j < ρ.length
        · rw [List.getElem?_set_self hli] at hx; cases hx
        · rw [List.getElem?_eq_none (by simpa using hli)] at hx; cases hx
      · rw [List.getElem?_set_ne (Ne.symm hji)] at hx
        obtain ⟨u, hu, q⟩ := e.rep j x hx
        exact ⟨u, hu, by rw [if_neg hjr, if_neg hji]; exact q⟩
  · have key : ∀ j, a ∈ (if j = r then f1 else if j = i then [] else φ j) → (j = r ∧ a ∈ φ i) ∨ (j ≠ r ∧ j ≠ i ∧ a ∈ φ j) := fun j hj => by
      by_cases h1 : j = r
      · rw [if_pos h1] at hj; exact .inl ⟨h1, h.sub a hj⟩
      · rw [if_neg h1] at hj
        by_cases h2 : j = i
        · rw [if_pos h2] at hj; simp at hj
        · rw [if_neg h2] at hj; exact .inr ⟨h1, h2, hj⟩
    rcases key j hj with ⟨h1, h2⟩ | ⟨h1, h2, h3⟩ <;> rcases key k hk with ⟨g1, g2⟩ | ⟨g1, g2, g3⟩
    · rw [h1, g1]
    · exact absurd (e.dis k i a g3 h2) g2
    · exact absurd (e.dis j i a h3 g2) h2
    · exact e.dis j k a h3 g3
  · try dsimp only
    by_cases h1 : j = r
    · subst h1
      exact absurd (List.getElem?_set_self (by simpa using hl)) (hx m1)
    · rw [if_neg h1]
      by_cases h2 : j = i
      · rw [if_pos h2]
      · rw [if_neg h2]
        refine e.emp j fun x hx' => hx x ?_
        rw [List.getElem?_set_ne (Ne.symm h1), List.getElem?_set_ne (Ne.symm h2)]; exact hx'
/-- .. and given back -/
theorem EnvOk.unlend {F' H' : Hp} {σ σ' : L2.St} {ρ ρ' : Env'} {φ φ' : Nat → List Addr} {i r : Nat} {v v1 : V} {m m1 m' : M} {ss : List Stp} {f1 rest : List Addr} (hir : i ≠ r) (h : Hol K F H v m (φ i) ss v1 m1 f1 rest)
    (e : EnvOk K F H σ ρ φ) (hφr : φ r = []) (hli : i < ρ.length) (hv : σ[i]? = some (some v)) (hv1 : σ[r]? = some (some v1)) (x : Ext F H (Om fun j => if j = r then f1 else if j = i then [] else φ j) F' H' (Om φ')) (e' : EnvOk K F' H' σ' ρ' φ') (p1 : σ'[i]? = σ[i]?) (p2 : σ'[r]? = σ[r]?)
    (hm : ρ'[r]? = some (some m')) : ∃ φ2, EnvOk K F' H' σ' ((ρ'.set i (some (m.setSubs ss m'))).set r none) φ2 ∧ Ext F H (Om φ) F' H' (Om φ2) := by
  have hO : ∀ a ∈ rest, ¬ Om (fun j => if j = r then f1 else if j = i then [] else φ j) a := fun a ha ⟨j, z⟩ => by
    dsimp only at z
    by_cases h1 : j = r
    · rw [if_pos h1] at z; exact h.off a z ha
    · rw [if_neg h1] at z
      by_cases h2 : j = i
      · rw [if_pos h2] at z; simp at z
      · rw [if_neg h2] at z; exact h2 (e.dis j i a z (h.rst a ha))
  have hlen' : σ'.length = ρ'.length := e'.len
  have hrl : r < ρ'.length := (List.getElem?_eq_some_iff.mp hm).1
  have hil : i < ρ'.length := by
    rw [← hlen']
    have : σ'[i]? = some (some v) := by rw [p1, hv]
    exact (List.getElem?_eq_some_iff.mp this).1
  obtain ⟨u, hu, rr⟩ := e'.rep r m' hm
  rw [p2, hv1] at hu; cases hu
  -- what the tree owns beside stays beside
  obtain ⟨vi, hvi⟩ : ∃ o, H = o := ⟨H, rfl⟩
  have hrest : ∀ a ∈ rest, ¬ Om φ' a := fun a ha z => by
    rcases x.own a z with q | q
    · exact hO a ha q
    · obtain ⟨mi, hmi⟩ : ∃ mi, ρ[i]? = some (some mi) := by
        cases hq : ρ[i]? with
        | none => rw [List.getElem?_eq_none_iff] at hq; omega
        | some o =>
          cases o with
          | some mi => exact ⟨mi, rfl⟩
          | none =>
            have := e.emp i fun m z => by rw [hq] at z; cases z
            have := h.rst a ha
            simp_all
      obtain ⟨w, _, ri⟩ := e.rep i mi hmi
      obtain ⟨o, ho⟩ := (ri.fp a (h.rst a ha)).1.some
      rw [q] at ho; cases ho
  have hob : ∀ a ∈ rest, Ob H a ∧ F a = none := fun a ha => by
    obtain ⟨mi, hmi⟩ : ∃ mi, ρ[i]? = some (some mi) := by
      cases hq : ρ[i]? with
      | none => rw [List.getElem?_eq_none_iff] at hq; omega
      | some o =>
        cases o with
        | some mi => exact ⟨mi, rfl⟩
        | none =>
          have := e.emp i fun m z => by rw [hq] at z; cases z
          have := h.rst a ha
          simp_all
    obtain ⟨w, _, ri⟩ := e.rep i mi hmi
    exact ri.fp a (h.rst a ha)
  obtain ⟨fp', r3, s3⟩ := h.back F' H' m' (φ' r) (x.stay hob hO) rr fun a ha hb => hrest a hb ⟨r, ha⟩
  have key : ∀ j a, a ∈ (if j = i then fp' else if j = r then [] else φ' j) → (j = i ∧ (a ∈ rest ∨ a ∈ φ' r)) ∨ (j ≠ i ∧ j ≠ r ∧ a ∈ φ' j) := fun j a hj => by
    by_cases h1 : j = i
    · rw [if_pos h1] at hj; exact .inl ⟨h1, (s3 a).mp hj⟩
    · rw [if_neg h1] at hj
      by_cases h2 : j = r
      · rw [if_pos h2] at hj; simp at hj
      · rw [if_neg h2] at hj; exact .inr ⟨h1, h2, hj⟩
  refine ⟨fun j => if j = i then fp' else if j = r then [] else φ' j, ⟨e'.sub, by simp [hlen'], fun j y hy => ?_, fun j k a hj hk => ?_, fun j hy => ?_⟩, x.mono, fun a o hn => ?_, fun a o ho hn => ?_, fun a ⟨j, hj⟩ => ?_⟩
  · by_cases hjr : j = r
    · subst hjr
      rw [List.getElem?_set_self (by simpa using hrl)] at hy; cases hy
    · rw [List.getElem?_set_ne (Ne.symm hjr)] at hy
      by_cases hji : j = i
      · subst hji
        rw [List.getElem?_set_self hil] at hy
        cases hy
        exact ⟨v, by rw [p1, hv], by rw [if_pos rfl]; exact r3⟩
      · rw [List.getElem?_set_ne (Ne.symm hji)] at hy
        obtain ⟨u, hu, q⟩ := e'.rep j y hy
        exact ⟨u, hu, by rw [if_neg hji, if_neg hjr]; exact q⟩
  · rcases key j a hj with ⟨h1, h2⟩ | ⟨h1, h2, h3⟩ <;> rcases key k a hk with ⟨g1, g2⟩ | ⟨g1, g2, g3⟩
    · rw [h1, g1]
    · rcases h2 with z | z
      · exact absurd ⟨k, g3⟩ (hrest a z)
      · exact absurd (e'.dis k r a g3 z) g2
    · rcases g2 with z | z
      · exact absurd ⟨j, h3⟩ (hrest a z)
      · exact absurd (e'.dis j r a h3 z) h2
    · exact e'.dis j k a h3 g3
  · try dsimp only
    by_cases h1 : j = i
    · subst h1
      exfalso
      refine hy (m.setSubs ss m') ?_
      rw [List.getElem?_set_ne (Ne.symm hir), List.getElem?_set_self hil]
    · rw [if_neg h1]
      by_cases h2 : j = r
      · rw [if_pos h2]
      · rw [if_neg h2]
        refine e'.emp j fun y hy' => hy y ?_
        rw [List.getElem?_set_ne (Ne.symm h2), List.getElem?_set_ne (Ne.symm h1)]; exact hy'
  · rcases x.new a o hn with z | z | ⟨j, z⟩
    · exact .inl z
    · exact .inr (.inl z)
    · dsimp only at z
      by_cases h1 : j = r
      · rw [if_pos h1] at z; exact .inr (.inr ⟨i, h.sub a z⟩)
      · rw [if_neg h1] at z
        by_cases h2 : j = i
        · rw [if_pos h2] at z; simp at z
        · rw [if_neg h2] at z; exact .inr (.inr ⟨j, z⟩)
  · refine x.keep a o ho fun ⟨j, z⟩ => ?_
    dsimp only at z
    by_cases h1 : j = r
    · rw [if_pos h1] at z; exact hn ⟨i, h.sub a z⟩
    · rw [if_neg h1] at z
      by_cases h2 : j = i
      · rw [if_pos h2] at z; simp at z
      · rw [if_neg h2] at z; exact hn ⟨j, z⟩
  · have old : ∀ b, Om φ' b → Om φ b ∨ H b = none := fun b hb => by
      rcases x.own b hb with ⟨j, z⟩ | z
      · left
        dsimp only at z
        by_cases h1 : j = r
        · rw [if_pos h1] at z; exact ⟨i, h.sub b z⟩
        · rw [if_neg h1] at z
          by_cases h2 : j = i
          · rw [if_pos h2] at z; simp at z
          · rw [if_neg h2] at z; exact ⟨j, z⟩
      · exact .inr z
    rcases key j a hj with ⟨h1, h2⟩ | ⟨h1, h2, h3⟩
    · rcases h2 with z | z
      · exact .inl ⟨i, h.rst a z⟩
      · exact old a ⟨r, z⟩
    · exact old a ⟨j, h3⟩
end
end G
namespace G
open PySem PySem.Spec PyProof.Rows L2

/-! ### a place is looked at after it was set -/
section
variable {κ α : Type} [DecidableEq κ]
theorem putG_old {l : List (κ × α)} {k : κ} {v : α} (h : k ∈ l.map (·.1)) : putG l k v = l.map fun kv => if kv.1 = k then (kv.1, v) else kv := by
  unfold putG
  obtain ⟨p, hp, e⟩ := List.mem_map.mp h
  rw [if_pos (List.any_eq_true.mpr ⟨p, hp, by simpa using e⟩)]
theorem get_new : ∀ {l : List (κ × α)} {k : κ} {y : α}, k ∉ l.map (·.1) → getG (l ++ [(k, y)]) k = some y
  | [], k, y, _ => by simp [getG_cons]
  | p :: r, k, y, h => by
    simp only [List.map_cons, List.mem_cons, not_or] at h
    rw [List.cons_append, getG_cons, if_neg fun z => h.1 z.symm]
    exact get_new h.2
theorem get_old : ∀ {l : List (κ × α)} {k : κ} {y : α}, k ∈ l.map (·.1) → getG (l.map fun kv => if kv.1 = k then (kv.1, y) else kv) k = some y
  | [], k, y, h => by simp at h
  | p :: r, k, y, h => by
    rw [List.map_cons, getG_cons]
    by_cases e : p.1 = k
    · simp [e]
    · simp only [e, if_false]
      refine get_old ?_
      have h' : k ∈ p.1 :: r.map (·.1) := h
      rcases List.mem_cons.mp h' with z | z
      · exact absurd z.symm e
      · exact z
theorem putG_get (l : List (κ × α)) (k : κ) (y : α) : getG (putG l k y) k = some y := by
  by_cases h : k ∈ l.map (·.1)
  · rw [putG_old h]; exact get_old h
  · rw [putG_new h]; exact get_new h
theorem putG_twice (l : List (κ × α)) (k : κ) (y z : α) : putG (putG l k y) k z = putG l k z := by
  have h2 : k ∈ (putG l k y).map (·.1) := mem_putG.mpr (.inr rfl)
  rw [putG_old h2]
  by_cases h : k ∈ l.map (·.1)
  · rw [putG_old h, putG_old h, List.map_map]
    refine List.map_congr_left fun p _ => ?_
    by_cases e : p.1 = k <;> simp [e]
  · rw [putG_new h, putG_new h, List.map_append]
    congr 1
    · conv => rhs; rw [← List.map_id l]
      refine List.map_congr_left fun p hp => ?_
      rw [if_neg fun e => h (List.mem_map.mpr ⟨p, hp, e⟩)]; rfl
    · simp
end
theorem sub_setSub {m m1 : M} {st : Stp} {y : M} (h : m.sub st = some m1) : (m.setSub st y).sub st = some y := by
  cases m with
  | dK l =>
    cases st with
    | fld x => simp [M.sub] at h
    | ix d =>
      simp only [M.sub, Option.bind_eq_some_iff] at h
      obtain ⟨k, hk, _⟩ := h
      simp only [M.setSub, hk, M.sub, Option.bind_some, putG_get]
  | dT l =>
    cases st with
    | fld x => simp [M.sub] at h
    | ix d =>
      cases d <;> first | (simp [M.sub] at h; done) | skip
      simp only [M.sub, Option.bind_eq_some_iff] at h
      obtain ⟨k, hk, _⟩ := h
      simp only [M.setSub, hk, M.sub, Option.bind_some, putG_get]
  | lst ms =>
    cases st with
    | fld x => simp [M.sub] at h
    | ix d =>
      cases d <;> first | (simp [M.sub] at h; done) | skip
      simp only [M.sub, Option.bind_eq_some_iff] at h
      obtain ⟨n, hn, hg⟩ := h
      have hl : n < ms.length := (List.getElem?_eq_some_iff.mp hg).1
      simp only [M.setSub, hn, M.sub, List.length_set, Option.bind_some]
      rw [List.getElem?_set_self hl]
  | ins C fs =>
    cases st with
    | ix d => simp [M.sub] at h
    | fld x =>
      simp only [M.sub] at h
      split at h
      case isFalse => cases h
      rename_i nd
      simp only [M.setSub, M.sub, nodup_putG nd, if_true, putG_get]
  | leaf d => simp [M.sub] at h
  | ro d => simp [M.sub] at h
theorem setSub_twice {m m1 : M} {st : Stp} {y z : M} (h : m.sub st = some m1) : (m.setSub st y).setSub st z = m.setSub st z := by
  cases m with
  | dK l =>
    cases st with
    | fld x => simp [M.sub] at h
    | ix d =>
      simp only [M.sub, Option.bind_eq_some_iff] at h
      obtain ⟨k, hk, _⟩ := h
      simp only [M.setSub, hk, putG_twice]
  | dT l =>
    cases st with
    | fld x => simp [M.sub] at h
    | ix d =>
      cases d <;> first | (simp [M.sub] at h; done) | skip
      simp only [M.sub, Option.bind_eq_some_iff] at h
      obtain ⟨k, hk, _⟩ := h
      simp only [M.setSub, hk, putG_twice]
  | lst ms =>
    cases st with
    | fld x => simp [M.sub] at h
    | ix d =>
      cases d <;> first | (simp [M.sub] at h; done) | skip
      simp only [M.sub, Option.bind_eq_some_iff] at h
      obtain ⟨n, hn, hg⟩ := h
      simp only [M.setSub, hn, List.length_set, List.set_set]
  | ins C fs =>
    cases st with
    | ix d => simp [M.sub] at h
    | fld x => simp only [M.setSub, putG_twice]
  | leaf d => simp [M.sub] at h
  | ro d => simp [M.sub] at h
theorem subs_setSubs : ∀ {ss : List Stp} {m m1 y : M}, m.subs ss = some m1 → (m.setSubs ss y).subs ss = some y
  | [], m, m1, y, _ => rfl
  | st :: r, m, m1, y, h => by
    simp only [M.subs, Option.bind_eq_some_iff] at h
    obtain ⟨m2, h2, h⟩ := h
    simp only [M.setSubs, h2, M.subs, sub_setSub h2, Option.bind_some]
    exact subs_setSubs h
theorem setSubs_twice : ∀ {ss : List Stp} {m m1 y z : M}, m.subs ss = some m1 → (m.setSubs ss y).setSubs ss z = m.setSubs ss z
  | [], m, m1, y, z, _ => rfl
  | st :: r, m, m1, y, z, h => by
    simp only [M.subs, Option.bind_eq_some_iff] at h
    obtain ⟨m2, h2, h⟩ := h
    have h3 := sub_setSub (y := m2.setSubs r y) h2
    simp only [M.setSubs, h2, h3, setSub_twice h2, setSubs_twice h]
/-- the part has changed: the tree with the new part -/
theorem Hol.after {K : Frag} {F H F' H' : Hp} {v v1 : V} {m m1 m' : M} {fp f1 rest f' : List Addr} {ss : List Stp} (h : Hol K F H v m fp ss v1 m1 f1 rest) (hs : m.subs ss = some m1) (x : Stay F H F' H' rest) (r' : Rep K F' H' v1 m' f') (off : ∀ a ∈ f', a ∉ rest) :
    ∃ fp', Rep K F' H' v (m.setSubs ss m') fp' ∧ (∀ a, a ∈ fp' ↔ a ∈ rest ∨ a ∈ f') ∧ Hol K F' H' v (m.setSubs ss m') fp' ss v1 m' f' rest := by
  obtain ⟨fp', r3, s3⟩ := h.back F' H' m' f' x r' off
  refine ⟨fp', r3, s3, r', fun a ha => (s3 a).mpr (.inr ha), fun a ha => (s3 a).mpr (.inl ha), off, fun F2 H2 m2 f2 x2 r2 o2 => ?_⟩
  rw [setSubs_twice hs]
  exact h.back F2 H2 m2 f2 (x.trans x2) r2 o2
end G
namespace G
open PySem PySem.Spec PyProof.Rows L2

/-! ### row = found.setdefault(a, {}).setdefault(b, {}); a statement about row -/
section
variable {K : Frag} {mg : Str → Option Value} {E : XK} {J : List Nat} {D : Ends} {F H : Hp} {σ : L2.St} {ρ : Env'} {φ : Nat → List Addr}
theorem hol_env {i : Nat} {ss : List Stp} {v0 v1 : V} {m m1 m' : M} {f1 rest f' : List Addr} {H' : Hp} (e : EnvOk K F H σ ρ φ) (hm : ρ[i]? = some (some m)) (hv : σ[i]? = some (some v0)) (h : Hol K F H v0 m (φ i) ss v1 m1 f1 rest) (hs : m.subs ss = some m1)
    (sub' : Sub F H') (keep : ∀ b, b ∉ f1 → ∀ o, H b = some o → H' b = some o) (r' : Rep K F H' v1 m' f') (new : ∀ b ∈ f', b ∈ f1 ∨ H b = none) :
    ∃ φ', EnvOk K F H' σ (ρ.set i (some (m.setSubs ss m'))) φ' ∧ Ext F H (Om φ) F H' (Om φ') ∧ Hol K F H' v0 (m.setSubs ss m') (φ' i) ss v1 m' f' rest := by
  have hil : i < ρ.length := (List.getElem?_eq_some_iff.mp hm).1
  obtain ⟨w, hw, ri⟩ := e.rep i m hm
  have hob : ∀ b ∈ φ i, Ob H b ∧ F b = none := fun b hb => ri.fp b hb
  have st : Stay F H F H' rest := ⟨fun _ _ h => h, fun b hb o ho => keep b (fun z => h.off b z hb) o ho, fun b hb => (hob b (h.rst b hb)).2⟩
  have nn : ∀ b, H b = none → ∀ j, b ∉ φ j := fun b hb j hj => by
    have hjm : ∃ mj, ρ[j]? = some (some mj) := by
      cases hq : ρ[j]? with
      | none => have := e.emp j fun m z => by rw [hq] at z; cases z
                rw [this] at hj; simp at hj
      | some o =>
        cases o with
        | some mj => exact ⟨mj, rfl⟩
        | none => have := e.emp j fun m z => by rw [hq] at z; cases z
                  rw [this] at hj; simp at hj
    obtain ⟨mj, hmj⟩ := hjm
    obtain ⟨_, _, rj⟩ := e.rep j mj hmj
    obtain ⟨o, ho⟩ := (rj.fp b hj).1.some
    rw [hb] at ho; cases ho
  obtain ⟨fp', r3, s3, hol⟩ := h.after hs st r' fun b hb hc => by
    rcases new b hb with z | z
    · exact h.off b z hc
    · exact nn b z i (h.rst b hc)
  have key : ∀ b ∈ fp', b ∈ φ i ∨ H b = none := fun b hb => by
    rcases (s3 b).mp hb with z | z
    · exact .inl (h.rst b z)
    · exact (new b z).imp (h.sub b) id
  refine ⟨fun j => if j = i then fp' else φ j, ⟨sub', by simp [e.len], fun j y hy => ?_, fun j k b hj hk => ?_, fun j hy => ?_⟩, ⟨fun _ _ h => h, fun _ _ h => .inl h, fun b o ho hn => keep b (fun z => hn ⟨i, h.sub b z⟩) o ho, fun b ⟨j, hj⟩ => ?_⟩, ?_⟩
  · by_cases hji : j = i
    · subst hji
      rw [List.getElem?_set_self hil] at hy
      cases hy
      exact ⟨v0, hv, by rw [if_pos rfl]; exact r3⟩
    · rw [List.getElem?_set_ne (Ne.symm hji)] at hy
      obtain ⟨u, hu, q⟩ := e.rep j y hy
      refine ⟨u, hu, ?_⟩
      rw [if_neg hji]
      exact q.keep (.of fun _ _ h => h) (fun b hb o ho => keep b (fun z => hji (e.dis j i b hb (h.sub b z))) o ho) fun b hb => (q.fp b hb).2
  · by_cases h1 : j = i <;> by_cases h2 : k = i
    · rw [h1, h2]
    · rw [if_pos h1] at hj; rw [if_neg h2] at hk
      rcases key b hj with z | z
      · exact absurd (e.dis k i b hk z) h2
      · exact absurd hk (nn b z k)
    · rw [if_neg h1] at hj; rw [if_pos h2] at hk
      rcases key b hk with z | z
      · exact absurd (e.dis j i b hj z) h1
      · exact absurd hj (nn b z j)
    · rw [if_neg h1] at hj; rw [if_neg h2] at hk
      exact e.dis j k b hj hk
  · by_cases h1 : j = i
    · subst h1
      exact absurd (List.getElem?_set_self hil) (hy _)
    · rw [if_neg h1]
      refine e.emp j fun y hy' => hy y ?_
      rw [List.getElem?_set_ne (Ne.symm h1)]; exact hy'
  · dsimp only at hj
    by_cases h1 : j = i
    · rw [if_pos h1] at hj
      exact (key b hj).imp (fun z => ⟨i, z⟩) id
    · rw [if_neg h1] at hj; exact .inl ⟨j, hj⟩
  · have hφ : (fun j => if j = i then fp' else φ j) i = fp' := by simp
    rw [hφ]
    exact ⟨hol.rep, fun b hb => (s3 b).mpr (.inr hb), fun b hb => (s3 b).mpr (.inl hb), hol.off, hol.back⟩
/-- setdefault(key, {}) at a place -/
theorem i_open {Q : VK} {i : Nat} {ss : List Stp} {kd : PyData} {key : Key} {v0 vk : V} {m : M} {l : List (Key × M)} {a p : Addr} {f1 rest : List Addr} (e : EnvOk K F H σ ρ φ) (hm : ρ[i]? = some (some m)) (hv : σ[i]? = some (some v0))
    (h : Hol K F H v0 m (φ i) ss (.ref a) (.dK l) f1 rest) (hs : m.subs ss = some (.dK l)) (hk : keyOf kd = some key) (hvk : vk = kV key) (hz : l.length < 16777216) (hp : H p = none)
    (kq : ∀ H' φ' v mm f2 rest2, EnvOk K F H' σ (ρ.set i (some (m.setSubs ss (.dK (openL l key))))) φ' → Ext F H (Om φ) F H' (Om φ') → getG (openL l key) key = some mm → Hol K F H' v0 (m.setSubs ss (.dK (openL l key))) (φ' i) (ss ++ [.ix kd]) v mm f2 rest2 → Q v H') :
    ∃ (kvs : List (Key × V)) (k : Key), (L2.upd H p (.dK [])) a = some (.dK kvs) ∧ vk = kV k ∧ kvs.length < sizeLine ∧ (∀ v, valV kvs k = some v → Q v (L2.upd H p (.dK []))) ∧ (valV kvs k = none → Q (.ref p) (L2.upd (L2.upd H p (.dK [])) a (.dK (putK kvs k (.ref p))))) := by
  have g : Grow F H F (L2.upd H p (.dK [])) [p] := Grow.own1 e.sub hp
  have hrep := h.rep
  have hsubs : (m.setSubs ss (.dK (openL l key))).subs ss = some (.dK (openL l key)) := subs_setSubs hs
  cases hr : hrep with | dK h1 h2 he nd rs n => ?_
  rename_i kvs fs
  have hap : a ≠ p := fun z => by subst z; rw [h1] at hp; cases hp
  have hlen : kvs.length = l.length := by have := congrArg List.length he; simpa using this
  refine ⟨kvs, key, by rw [upd_ne hap]; exact h1, hvk, by rw [sizeLine_eq]; omega, fun v hvv => ?_, fun hvn => ?_⟩
  · have lk := own_look (k := key) he rs
    rw [hvv] at lk
    cases hgl : getG l key with
    | none => rw [hgl] at lk; exact lk.elim
    | some mm =>
      have ho : openL l key = l := by unfold openL; rw [hgl]
      rw [ho] at kq hsubs
      obtain ⟨φ', e', x', hol⟩ := hol_env e hm hv h hs g.sub (fun b _ o ho => g.same b o ho) (g.rep hrep) fun b hb => .inl hb
      obtain ⟨v2, f2, rest2, a', kvs', ea, ha', hval, hol2, _, _⟩ := hol.dK hsubs hk hgl
      cases ea
      rw [upd_ne hap, h1] at ha'
      cases ha'
      rw [hvv] at hval
      cases hval
      exact kq _ φ' v mm f2 rest2 e' x' hgl hol2
  · have lk := own_look (k := key) he rs
    rw [hvn] at lk
    cases hgl : getG l key with
    | some mm => rw [hgl] at lk; exact lk.elim
    | none =>
      have ho : openL l key = l ++ [(key, .dK [])] := by unfold openL; rw [hgl]
      rw [ho] at kq hsubs
      have hFp : F p = none := by
        cases q : F p with
        | none => rfl
        | some u => rw [e.sub p u q] at hp; cases hp
      have hpf : p ∉ a :: fs := fun z => by
        obtain ⟨o, ho⟩ := (hrep.fp p z).1.some
        rw [hp] at ho; cases ho
      have rp : Rep K F (L2.upd H p (.dK [])) (.ref p) (.dK []) [p] := .dK (kvs := []) upd_same hFp rfl (by simp) .nil (by simp)
      have kn : key ∉ l.map (·.1) := getG_none.mp hgl
      have hput : putK kvs key (.ref p) = kvs ++ [(key, .ref p)] := putK_new _ hvn
      have rs1 : Reps K F (L2.upd H p (.dK [])) (kvs.map (·.2)) (l.map (·.2)) fs := rs.stay ⟨fun _ _ h => h, fun b hb o ho => g.same b o ho, fun b hb => (hrep.fp b (by simp [hb])).2⟩
      have rnew : Rep K F (L2.upd (L2.upd H p (.dK [])) a (.dK (kvs ++ [(key, .ref p)]))) (.ref a) (.dK (l ++ [(key, .dK [])])) (a :: (fs ++ [p])) := by
        refine .dK upd_same h2 (by simp [he]) (by simpa using List.nodup_append.mpr ⟨nd, by simp, fun x hx y hy => by simp at hy; subst hy; exact fun z => kn (z ▸ hx)⟩) ?_ (fun z => ?_)
        · rw [List.map_append, List.map_append]
          exact (rs1.updN n).snoc (rp.updN (by simp; exact hap)) fun b hb => by simp at hb; subst hb; exact fun z => hpf (by simp [z])
        · rcases List.mem_append.mp z with z | z
          · exact n z
          · simp at z; exact hap z
      have hFa : ∀ u, F a ≠ some u := fun u z => by rw [h2] at z; cases z
      rw [hput]
      obtain ⟨φ', e', x', hol⟩ := hol_env e hm hv h hs (H' := L2.upd (L2.upd H p (.dK [])) a (.dK (kvs ++ [(key, .ref p)]))) (fun b u hb => by
        have hba : b ≠ a := fun z => by subst z; exact hFa u hb
        rw [upd_ne hba]
        exact g.sub b u hb) (fun b hb o ho => by
        have hba : b ≠ a := fun z => hb (by simp [z])
        rw [upd_ne hba]
        exact g.same b o ho) rnew fun b hb => by
        rcases List.mem_cons.mp hb with rfl | hb
        · exact .inl (by simp)
        · rcases List.mem_append.mp hb with hb | hb
          · exact .inl (by simp [hb])
          · simp at hb; subst hb; exact .inr hp
      obtain ⟨v2, f2, rest2, a', kvs', ea, ha', hval, hol2, _, _⟩ := hol.dK hsubs hk (get_new kn)
      cases ea
      rw [upd_same] at ha'
      cases ha'
      rw [valV_snoc _ _ _ _ hvn, if_pos rfl] at hval
      cases hval
      exact kq _ φ' _ _ f2 rest2 e' x' (get_new kn) hol2
end
end G
namespace G
open PySem PySem.Spec PyProof.Rows L2

def mBor (i r : Nat) (qa qb : Env' → Option M) (mb : Env' → O) : Env' → O := fun ρ => match qName i ρ, qa ρ with
  | some (.dK l), some (.leaf ka) => match keyOf ka with
    | some a => match getG (openL l a) a, qb (ρ.set i (some (.dK (openL l a)))) with
      | some (.dK l2), some (.leaf kb) => match keyOf kb with
        | some b => match getG (openL l2 b) b with
          | some m1 => if l.length < 16777216 ∧ l2.length < 16777216 ∧ i ≠ r ∧ r < ρ.length then
              match mb ((ρ.set i none).set r (some m1)) with
              | .next ρ2 => match qName r ρ2 with
                | some m' => .next ((ρ2.set i (some (.dK (putG (openL l a) a (.dK (putG (openL l2 b) b m')))))).set r none)
                | none => .bad
              | _ => .bad
            else .bad
          | none => .bad
        | none => .bad
      | _, _ => .bad
    | none => .bad
  | _, _ => .bad
section
variable {K : Frag} {mg : Str → Option Value} {E : XK} {J : List Nat} {D : Ends} {F H : Hp} {σ : L2.St} {ρ : Env'} {φ : Nat → List Addr}
/-- a value that stands there already -/
def tVal (v : V) : TE := fun _ H Q => Q v H
theorem setd_at {Q : VK} {q : Env' → Option M} {i : Nat} {ss : List Stp} {kd : PyData} {key : Key} {v0 : V} {m : M} {l : List (Key × M)} {v1 : V} {f1 rest : List Addr} (e : EnvOk K F H σ ρ φ) (hm : ρ[i]? = some (some m)) (hv : σ[i]? = some (some v0))
    (h : Hol K F H v0 m (φ i) ss v1 (.dK l) f1 rest) (hs : m.subs ss = some (.dK l)) (hq : q ρ = some (.leaf kd)) (hk : keyOf kd = some key) (hz : l.length < 16777216)
    (kq : ∀ H' φ' v mm f2 rest2, EnvOk K F H' σ (ρ.set i (some (m.setSubs ss (.dK (openL l key))))) φ' → Ext F H (Om φ) F H' (Om φ') → getG (openL l key) key = some mm → Hol K F H' v0 (m.setSubs ss (.dK (openL l key))) (φ' i) (ss ++ [.ix kd]) v mm f2 rest2 → Q v H') :
    tDSetd (tVal v1) (tQ K q) tDNewK σ H Q := by
  obtain ⟨ds, hkv⟩ : ∃ ds, (M.dK l).kv = some ds := ⟨_, rfl⟩
  obtain ⟨a, rfl, hd⟩ := kv_isD e.sub h.rep hkv
  exact ⟨a, rfl, hd, F, ρ, φ, e, _, hq, fun vk fk rk p hp => i_open e hm hv h hs hk (keyOf_is hk (rep_leaf rk)) hz hp kq⟩
theorem i_bor {i r : Nat} {qa qb : Env' → Option M} {mb : Env' → O} (hj : r ∉ J) (h : tS K mg E J (mBor i r qa qb mb) D σ H) :
    tAsg (tDSetd (tDSetd (tVar i) (tQ K qa) tDNewK) (tQ K qb) tDNewK) (gName r) { D with nx := fun σ' H' => tS K mg E (i :: r :: J) mb D σ' H' } σ H := by
  obtain ⟨F, ρ, φ, e, k⟩ := h
  unfold mBor at k
  split at k
  case h_2 => exact k.elim
  rename_i l kda hi hqa
  split at k
  case h_2 => exact k.elim
  rename_i ka hka
  split at k
  case h_2 => exact k.elim
  rename_i l2 kdb hg1 hqb
  split at k
  case h_2 => exact k.elim
  rename_i kb hkb
  split at k
  case h_2 => exact k.elim
  rename_i m1 hg2
  split at k
  case isFalse => exact k.elim
  rename_i hz
  obtain ⟨hz1, hz2, hir, hrl⟩ := hz
  have hi' := qName_some hi
  have hil : i < ρ.length := (List.getElem?_eq_some_iff.mp hi').1
  obtain ⟨v0, hv, r0⟩ := e.rep i _ hi'
  have hd0 : ∃ ds, (M.dK l).kv = some ds := ⟨_, rfl⟩
  refine ⟨v0, hv, ?_⟩
  show tDSetd (tVal v0) (tQ K qa) tDNewK σ H _
  refine setd_at e hi' hv (Hol.refl r0) rfl hqa hka hz1 fun H1 φ1 v mm f2 rest2 e1 x1 hmm hol1 => ?_
  rw [hg1] at hmm
  cases hmm
  simp only [M.setSubs, List.nil_append] at e1 hol1
  have hm2 : (ρ.set i (some (M.dK (openL l ka))))[i]? = some (some (.dK (openL l ka))) := List.getElem?_set_self hil
  have hsub : (M.dK (openL l ka)).subs [.ix kda] = some (.dK l2) := by simp only [M.subs, M.sub, hka, Option.bind_some, hg1]
  show tDSetd (tVal v) (tQ K qb) tDNewK σ H1 _
  refine setd_at e1 hm2 hv hol1 hsub hqb hkb hz2 fun H2 φ2 v2 mm2 f3 rest3 e2 x2 hmm2 hol2 => ?_
  rw [hg2] at hmm2
  cases hmm2
  have hset : (M.dK (openL l ka)).setSubs [.ix kda] (.dK (openL l2 kb)) = .dK (putG (openL l ka) ka (.dK (openL l2 kb))) := by
    simp only [M.setSubs, M.sub, hka, Option.bind_some, hg1, M.setSub]
  rw [hset, List.set_set] at e2
  rw [hset] at hol2
  -- the slot r
  have e3 := e2.drop r (some v2)
  have hrl' : r < σ.length := by rw [e.len]; exact hrl
  have hφ3 : (fun j => if j = r then [] else φ2 j) i = φ2 i := by simp only [hir, if_false]
  have hr3 : ((ρ.set i (some (M.dK (putG (openL l ka) ka (.dK (openL l2 kb)))))).set r none)[r]? = some none := List.getElem?_set_self (by simpa using hrl)
  have hv3 : (σ.set r (some v2))[r]? = some (some v2) := List.getElem?_set_self hrl'
  have hvi : (σ.set r (some v2))[i]? = some (some v0) := by rw [List.getElem?_set_ne (Ne.symm hir)]; exact hv
  have hol3 : Hol K F H2 v0 (.dK (putG (openL l ka) ka (.dK (openL l2 kb)))) ((fun j => if j = r then [] else φ2 j) i) ([.ix kda] ++ [.ix kdb]) v2 m1 f3 rest3 := by rw [hφ3]; exact hol2
  have e4 := e3.lend hir hr3 hv3 hol3
  have hρ : (((ρ.set i (some (M.dK (putG (openL l ka) ka (.dK (openL l2 kb)))))).set r none).set i none).set r (some m1) = (ρ.set i none).set r (some m1) := by
    rw [List.set_comm _ _ hir.symm, List.set_set, List.set_set]
  rw [hρ] at e4
  refine ⟨F, _, _, e4, ?_⟩
  split at k
  case h_2 => exact k.elim
  rename_i ρ5 hmb
  rw [hmb]
  split at k
  case h_2 => exact k.elim
  rename_i m' hm'
  intro F' H' φ' σ' e5 x5 pin
  have p1 : σ'[i]? = (σ.set r (some v2))[i]? := pin i (by simp)
  have p2' : σ'[r]? = (σ.set r (some v2))[r]? := pin r (by simp)
  have hli : i < ((ρ.set i (some (M.dK (putG (openL l ka) ka (.dK (openL l2 kb)))))).set r none).length := by simpa using hil
  obtain ⟨φ6, e6, x6⟩ := EnvOk.unlend hir hol3 e3 (by simp) hli hvi hv3 x5 e5 p1 p2' (qName_some hm')
  have hfin : (M.dK (putG (openL l ka) ka (.dK (openL l2 kb)))).setSubs ([.ix kda] ++ [.ix kdb]) m' = .dK (putG (openL l ka) ka (.dK (putG (openL l2 kb) kb m'))) := by
    simp only [List.cons_append, List.nil_append, M.setSubs, M.sub, hka, hkb, Option.bind_some, putG_get, hg2, M.setSub, putG_twice]
  rw [hfin] at e6
  have xx : Ext F H2 (Om φ2) F H2 (Om fun j => if j = r then [] else φ2 j) := (Ext.refl (O := Om φ2)).less fun a h => om_drop h
  exact k F' H' φ6 σ' e6 (((x1.trans x2).trans xx).trans x6) (fun j hjJ => by
    have hrj : r ≠ j := fun z => by subst z; exact hj hjJ
    rw [pin j (by simp [hjJ]), List.getElem?_set_ne hrj])
end
section
variable {X : Cx} {E : XK} {J : List Nat} {o k k2 : Expr} {qa qb : Env' → Option M} {st : Stmt} {rest : List Stmt} {mb b : Env' → O}
theorem dss_bor {i r : Nat} {x : Str} {pn apos cpos dp apos2 cpos2 dp2 pos1 : Pos} (hj : r ∉ J) (hN : X.N.Nodup) (hi : X.N[r]? = some x) (hx : Loc X.env.scope x) (ho : PE X o (tVar i)) (hk : DQ X k qa) (hk2 : DQ X k2 qb) (hs : DS X E (i :: r :: J) st mb) (hb : DSs X E J rest b)
    (m1 : M2 X o "setdefault" apos k (.Dict [] [] dp) cpos := by exact ⟨rfl, rfl, rfl, rfl⟩)
    (m2 : M2 X (.Call (.Attribute o "setdefault" apos) [k, .Dict [] [] dp] [] cpos) "setdefault" apos2 k2 (.Dict [] [] dp2) cpos2 := by exact ⟨rfl, rfl, rfl, rfl⟩)
    (s1 : swapsWith (.Call (.Attribute (.Call (.Attribute o "setdefault" apos) [k, .Dict [] [] dp] [] cpos) "setdefault" apos2) [k2, .Dict [] [] dp2] [] cpos2) (some (.Name x pn)) pos1.line X.env = pure false := by rfl) (hf : X.fn x = true ∨ X.env.scope.names.lookup x = some .local := by first | exact .inl rfl | exact .inr rfl | assumption) :
    DSs X E J (.Assign [.Name x pn] (.Call (.Attribute (.Call (.Attribute o "setdefault" apos) [k, .Dict [] [] dp] [] cpos) "setdefault" apos2) [k2, .Dict [] [] dp2] [] cpos2) pos1 :: st :: rest) (mSeq (mBor i r qa qb mb) b) :=
  (pss_cons (ps_set hN hi hx (pe_dsetd (pe_dsetd ho hk pe_dnewK m1) hk2 pe_dnewK m2) s1 hf) (pss_cons hs hb)).imp fun D σ H h => by
    have h' := i_seq h
    exact i_bor hj h'
end
end G
namespace G
open PySem PySem.Spec PyProof.Rows L2

/-! ### list(found.get(k, {}).items()), the values frozen where they stand -/
section
variable {K : Frag} {mg : Str → Option Value} {E : XK} {J : List Nat} {D : Ends} {F H : Hp} {σ : L2.St} {ρ : Env'} {φ : Nat → List Addr}
theorem hol_envF {F' : Hp} {i : Nat} {ss : List Stp} {v0 v1 : V} {m m1 m' : M} {f1 rest f' : List Addr} {H' : Hp} (e : EnvOk K F H σ ρ φ) (hm : ρ[i]? = some (some m)) (hv : σ[i]? = some (some v0)) (h : Hol K F H v0 m (φ i) ss v1 m1 f1 rest) (hs : m.subs ss = some m1)
    (mono : Sub F F') (newF : ∀ b o, F' b = some o → F b = some o ∨ b ∈ f1) (sub' : Sub F' H') (keep : ∀ b, b ∉ f1 → ∀ o, H b = some o → H' b = some o) (r' : Rep K F' H' v1 m' f') (new : ∀ b ∈ f', b ∈ f1 ∨ H b = none) :
    ∃ φ', EnvOk K F' H' σ (ρ.set i (some (m.setSubs ss m'))) φ' ∧ Ext F H (Om φ) F' H' (Om φ') ∧ Hol K F' H' v0 (m.setSubs ss m') (φ' i) ss v1 m' f' rest := by
  have hil : i < ρ.length := (List.getElem?_eq_some_iff.mp hm).1
  obtain ⟨w, hw, ri⟩ := e.rep i m hm
  have hob : ∀ b ∈ φ i, Ob H b ∧ F b = none := fun b hb => ri.fp b hb
  have nf : ∀ b, F b = none → b ∉ f1 → F' b = none := fun b h1 h2 => by
    cases hq : F' b with
    | none => rfl
    | some o =>
      rcases newF b o hq with z | z
      · rw [h1] at z; cases z
      · exact absurd z h2
  have st : Stay F H F' H' rest := ⟨mono, fun b hb o ho => keep b (fun z => h.off b z hb) o ho, fun b hb => nf b (hob b (h.rst b hb)).2 fun z => h.off b z hb⟩
  have nn : ∀ b, H b = none → ∀ j, b ∉ φ j := fun b hb j hj => by
    have hjm : ∃ mj, ρ[j]? = some (some mj) := by
      cases hq : ρ[j]? with
      | none => have := e.emp j fun m z => by rw [hq] at z; cases z
                rw [this] at hj; simp at hj
      | some o =>
        cases o with
        | some mj => exact ⟨mj, rfl⟩
        | none => have := e.emp j fun m z => by rw [hq] at z; cases z
                  rw [this] at hj; simp at hj
    obtain ⟨mj, hmj⟩ := hjm
    obtain ⟨_, _, rj⟩ := e.rep j mj hmj
    obtain ⟨o, ho⟩ := (rj.fp b hj).1.some
    rw [hb] at ho; cases ho
  obtain ⟨fp', r3, s3, hol⟩ := h.after hs st r' fun b hb hc => by
    rcases new b hb with z | z
    · exact h.off b z hc
    · exact nn b z i (h.rst b hc)
  have key : ∀ b ∈ fp', b ∈ φ i ∨ H b = none := fun b hb => by
    rcases (s3 b).mp hb with z | z
    · exact .inl (h.rst b z)
    · exact (new b z).imp (h.sub b) id
  refine ⟨fun j => if j = i then fp' else φ j, ⟨sub', by simp [e.len], fun j y hy => ?_, fun j k b hj hk => ?_, fun j hy => ?_⟩, ⟨mono, fun b o hb => (newF b o hb).imp id fun z => .inr ⟨i, h.sub b z⟩, fun b o ho hn => keep b (fun z => hn ⟨i, h.sub b z⟩) o ho, fun b ⟨j, hj⟩ => ?_⟩, ?_⟩
  · by_cases hji : j = i
    · subst hji
      rw [List.getElem?_set_self hil] at hy
      cases hy
      exact ⟨v0, hv, by rw [if_pos rfl]; exact r3⟩
    · rw [List.getElem?_set_ne (Ne.symm hji)] at hy
      obtain ⟨u, hu, q⟩ := e.rep j y hy
      refine ⟨u, hu, ?_⟩
      rw [if_neg hji]
      exact q.keep (.of mono) (fun b hb o ho => keep b (fun z => hji (e.dis j i b hb (h.sub b z))) o ho) fun b hb => nf b (q.fp b hb).2 fun z => hji (e.dis j i b hb (h.sub b z))
  · by_cases h1 : j = i <;> by_cases h2 : k = i
    · rw [h1, h2]
    · rw [if_pos h1] at hj; rw [if_neg h2] at hk
      rcases key b hj with z | z
      · exact absurd (e.dis k i b hk z) h2
      · exact absurd hk (nn b z k)
    · rw [if_neg h1] at hj; rw [if_pos h2] at hk
      rcases key b hk with z | z
      · exact absurd (e.dis j i b hj z) h1
      · exact absurd hj (nn b z j)
    · rw [if_neg h1] at hj; rw [if_neg h2] at hk
      exact e.dis j k b hj hk
  · by_cases h1 : j = i
    · subst h1
      exact absurd (List.getElem?_set_self hil) (hy _)
    · rw [if_neg h1]
      refine e.emp j fun y hy' => hy y ?_
      rw [List.getElem?_set_ne (Ne.symm h1)]; exact hy'
  · dsimp only at hj
    by_cases h1 : j = i
    · rw [if_pos h1] at hj
      exact (key b hj).imp (fun z => ⟨i, z⟩) id
    · rw [if_neg h1] at hj; exact .inl ⟨j, hj⟩
  · have hφ : (fun j => if j = i then fp' else φ j) i = fp' := by simp
    rw [hφ]
    exact ⟨hol.rep, fun b hb => (s3 b).mpr (.inr hb), fun b hb => (s3 b).mpr (.inl hb), hol.off, hol.back⟩
end
def mListGetF (i : Nat) (qk : Env' → Option M) : Env' → R M := fun ρ => match qName i ρ, qk ρ with
  | some (.dK l), some (.leaf kd) => match keyOf kd with
    | some k => match getG l k with
      | none => .ok (.lst []) ρ
      | some (.dK row) => match M.frzs (row.map (·.2)) with
        | some ds => .ok (.lst (((row.map (·.1)).zip ds).map fun kd => .leaf (.tuple [keyD kd.1, kd.2]))) (ρ.set i (some (.dK (putG l k (.dK ((row.map (·.1)).zip (ds.map .leaf)))))))
        | none => .bad
      | some _ => .bad
    | none => .bad
  | _, _ => .bad
theorem mListGetF_ok {i : Nat} {qk : Env' → Option M} {ρ : Env'} : mListGetF i qk ρ = .bad ∨ ∃ l kd key, qName i ρ = some (.dK l) ∧ qk ρ = some (.leaf kd) ∧ keyOf kd = some key ∧ ((getG l key = none ∧ mListGetF i qk ρ = .ok (.lst []) ρ) ∨ ∃ row ds, getG l key = some (.dK row) ∧ M.frzs (row.map (·.2)) = some ds ∧
    mListGetF i qk ρ = .ok (.lst (((row.map (·.1)).zip ds).map fun kd => .leaf (.tuple [keyD kd.1, kd.2]))) (ρ.set i (some (.dK (putG l key (.dK ((row.map (·.1)).zip (ds.map .leaf)))))))) := by
  unfold mListGetF
  split
  case h_2 => exact .inl rfl
  rename_i l kd h1 h2
  split
  case h_2 => exact .inl rfl
  rename_i key h3
  split
  · rename_i h4; exact .inr ⟨l, kd, key, h1, h2, h3, .inl ⟨h4, rfl⟩⟩
  · rename_i row h4
    split
    · rename_i ds h5; exact .inr ⟨l, kd, key, h1, h2, h3, .inr ⟨row, ds, h4, h5, rfl⟩⟩
    · exact .inl rfl
  · exact .inl rfl
section
variable {K : Frag} {F H : Hp} {σ : L2.St} {ρ : Env'} {φ : Nat → List Addr}
/-- the list of items is laid -/
theorem list_laid {Q : VK} {d : Addr} {kvs : List (Key × V)} {row : List (Key × M)} {ds : List PyData} (e : EnvOk K F H σ ρ φ) (hdk : H d = some (.dK kvs)) (ek : kvs.map (·.1) = row.map (·.1)) (hds : IsDs K F ds (kvs.map (·.2)))
    (kq : ∀ F' H' φ' v f, EnvOk K F' H' σ ρ φ' → Rep K F' H' v (.lst (((row.map (·.1)).zip ds).map fun kd => .leaf (.tuple [keyD kd.1, kd.2]))) f → (∀ a ∈ f, ¬ Om φ' a) → Ext F H (Om φ) F' H' (fun a => Om φ' a ∨ a ∈ f) → Q v H') : LiI.rItemsL (.ref d) H Q := by
  refine ⟨d, kvs, rfl, hdk, fun H' lp ts hsame hlp hts hpn hl hpair => ?_⟩
  have sub3 : Sub F H' := fun b o q => hsame b o (e.sub b o q)
  have g4 : Grow F H (unT F H') H' [lp] := by
    refine ⟨fun b o q => by unfold unT; rw [q], fun b o q => ?_, hsame, fun b o q => ?_, fun b hb => by simp at hb; subst hb; exact hlp⟩
    · unfold unT at q
      split at q
      · rename_i x hx; cases q; exact sub3 _ _ hx
      · split at q
        · rename_i vs hvs; cases q; exact hvs
        · cases q
    · unfold unT at q
      split at q
      · rename_i x hx; cases q; exact .inl hx
      · split at q
        · rename_i hFb vs hvs; cases q
          refine .inr ?_
          cases hq : H b with
          | none => exact .inl hq
          | some u => have := hsame b u hq; rw [hvs] at this; cases this; exact .inr ⟨vs, hq⟩
        · cases q
  have hFl : unT F H' lp = none := by
    unfold unT
    cases hq : F lp with
    | some u => have := e.sub lp u hq; rw [hlp] at this; cases this
    | none => simp only [hl]
  have rl : Rep K (unT F H') H' (.ref lp) (.lst (((row.map (·.1)).zip ds).map fun kd => .leaf (.tuple [keyD kd.1, kd.2]))) [lp] :=
    .lst hl hFl (rows_reps ek (IsDs.mono g4.mono hds) (paired_mono (fun t q h => unT_tup sub3 h) hpair)) (by simp)
  exact kq (unT F H') H' φ (.ref lp) [lp] (g4.env e) rl (g4.off e) g4.ext
end
section
variable {X : Cx} {E : XK} {o k : Expr} {qk : Env' → Option M} {i : Nat}
theorem de_listGetF {p apos cpos pos gpos gcpos dp : Pos} (hc : X.calm = true) (hu : X.A.units + 1 < cLine) (ho : PE X o (tVar i)) (hk : DQ X k qk) (hg : Gl X "list") (hm : X.mg "list" = none) (hv : bootBuiltins "list" = some (.type "list"))
    (m : M2 X o "get" gpos k (.Dict [] [] dp) gcpos := by exact ⟨rfl, rfl, rfl, rfl⟩)
    (hbase : attributeBase (.Call (.Attribute o "get" gpos) [k, .Dict [] [] dp] [] gcpos) "items" X.env (eval (.Call (.Attribute o "get" gpos) [k, .Dict [] [] dp] [] gcpos) X.env) = eval (.Call (.Attribute o "get" gpos) [k, .Dict [] [] dp] [] gcpos) X.env := by rfl) (hline : (apos.endLine == cpos.line) = true := by rfl)
    (hs : starEach [.Call (.Attribute (.Call (.Attribute o "get" gpos) [k, .Dict [] [] dp] [] gcpos) "items" apos) [] [] cpos] X.env = (false, eval (.Call (.Attribute (.Call (.Attribute o "get" gpos) [k, .Dict [] [] dp] [] gcpos) "items" apos) [] [] cpos) X.env) :: starEach [] X.env := by rfl) :
    DE X E (.Call (.Name "list" p) [.Call (.Attribute (.Call (.Attribute o "get" gpos) [k, .Dict [] [] dp] [] gcpos) "items" apos) [] [] cpos] [] pos) (mListGetF i qk) :=
  (LiI.pe_listItems hc (pe_dget2 hu ho hk pe_dnewK m) hg hm hv hbase hline hs).imp fun σ H Q ⟨F, ρ, φ, e, kk⟩ => by
    rcases mListGetF_ok (i := i) (qk := qk) (ρ := ρ) with hb | ⟨l, kd, key, hi, hq, hkd, hcase⟩
    · rw [hb] at kk; exact kk.elim
    · have hi' := qName_some hi
      have hil : i < ρ.length := (List.getElem?_eq_some_iff.mp hi').1
      obtain ⟨v0, hv0, r0⟩ := e.rep i _ hi'
      obtain ⟨ds, hkv⟩ : ∃ ds, (M.dK l).kv = some ds := ⟨_, rfl⟩
      obtain ⟨a, rfl, hd⟩ := kv_isD e.sub r0 hkv
      refine ⟨_, hv0, a, rfl, hd, F, ρ, φ, e, _, hq, fun vk fk rk p hp => ?_⟩
      have g : Grow F H F (L2.upd H p (.dK [])) [p] := Grow.own1 e.sub hp
      have e3 := g.env e
      have r3 := g.rep r0
      have hvk := keyOf_is hkd (rep_leaf rk)
      have x0 : Ext F H (Om φ) F (L2.upd H p (.dK [])) (Om φ) := g.ext0
      rcases hcase with ⟨hgl, hok⟩ | ⟨row, ds, hgl, hfr, hok⟩
      · rw [hok] at kk
        dsimp only at kk
        have hg0 : (M.dK l).look kd = some none := by simp only [M.look, hkd, Option.map_some, hgl]
        obtain ⟨a', ov, e', gg, lk⟩ := look_rep e3.sub r3 (rep_leaf rk) hg0
        cases e'
        cases ov with
        | some _ => exact lk.elim
        | none => exact ⟨none, gg, list_laid (row := []) (ds := []) e3 upd_same rfl .nil fun F' H' φ' v f e4 r4 d4 x4 => kk F' H' φ' v f e4 r4 d4 (x0.trans x4)⟩
      · rw [hok] at kk
        dsimp only at kk
        obtain ⟨v2, f2, rest2, a', kvs', ea, ha', hval, hol, _, _⟩ := (Hol.refl r3).dK rfl hkd hgl
        cases ea
        have hrep := hol.rep
        cases hr : hrep with | dK h1 h2 he nd rs n => ?_
        rename_i a2 kvs fs
        have hfs : ∀ b ∈ fs, F b = none := fun b hb => (hrep.fp b (by simp [hb])).2
        have hds : IsDs X.K (fz F (L2.upd H p (.dK [])) fs) ds (kvs.map (·.2)) := Reps.data (fz_mono hfs) rs (fun b hb o ho => by unfold fz; rw [if_pos hb]; exact ho) ds hfr
        have hlen : ds.length = row.length := by
          have h3 := hds.length
          have h4 := congrArg List.length he
          simp only [List.length_map] at h3 h4
          omega
        have ek : kvs.map (·.1) = ((row.map (·.1)).zip (ds.map M.leaf)).map (·.1) := by
          rw [he, List.map_fst_zip]; simp; omega
        have hF2 : fz F (L2.upd H p (.dK [])) fs a2 = none := by unfold fz; rw [if_neg n]; exact h2
        have rnew : Rep X.K (fz F (L2.upd H p (.dK [])) fs) (L2.upd H p (.dK [])) (.ref a2) (.dK ((row.map (·.1)).zip (ds.map .leaf))) [a2] := by
          refine .dK (kvs := kvs) h1 hF2 ek (by rw [← ek, he]; exact nd) ?_ (by simp)
          have : ((row.map (·.1)).zip (ds.map M.leaf)).map (·.2) = ds.map M.leaf := by rw [List.map_snd_zip]; simp; omega
          rw [this]
          exact reps_leaves hds
        obtain ⟨φ', e5, x5, -⟩ := hol_envF e3 hi' hv0 hol (by simp only [M.subs, M.sub, hkd, Option.bind_some, hgl, List.nil_append]) (fz_mono hfs) (fun b o hb => by
          unfold fz at hb
          split at hb
          · rename_i hb'; exact .inr (by simp [hb'])
          · exact .inl hb) (fz_sub g.sub) (fun b _ o ho => ho) rnew fun b hb => .inl (by simp at hb; simp [hb])
        have hset : (M.dK l).setSubs ([] ++ [.ix kd]) (.dK ((row.map (·.1)).zip (ds.map .leaf))) = .dK (putG l key (.dK ((row.map (·.1)).zip (ds.map .leaf)))) := by
          simp only [List.nil_append, M.setSubs, M.sub, hkd, Option.bind_some, hgl, M.setSub]
        rw [hset] at e5
        have gg : DGet (L2.upd H p (.dK [])) a vk (some (.ref a2)) := by rw [hvk, ← hval]; exact DGet.k ha'
        refine ⟨some _, gg, list_laid (row := row) (ds := ds) e5 h1 he hds fun F' H' φ'' v f e6 r6 d6 x6 => ?_⟩
        exact kk F' H' φ'' v f e6 r6 d6 (x0.trans (x5.trans x6))
end
end G
namespace G
open PySem PySem.Spec PyProof.Rows L2

/-! ### row.get(p, {}) -/
/-- what is found, or a new dict -/
def mGetE (qd qk : Env' → Option M) : Env' → R M := fun ρ => match qd ρ, qk ρ with
  | some x, some (.leaf kd) => match x.look kd with
    | some (some (.leaf d)) => .ok (.leaf d) ρ
    | some none => .ok (.dK []) ρ
    | _ => .bad
  | _, _ => .bad
section
variable {X : Cx} {E : XK} {o k : Expr} {qd qk : Env' → Option M}
theorem de_getE {gpos gcpos dp : Pos} (hu : X.A.units + 1 < cLine) (ho : DQ X o qd) (hk : DQ X k qk) (m : M2 X o "get" gpos k (.Dict [] [] dp) gcpos := by exact ⟨rfl, rfl, rfl, rfl⟩) :
    DE X E (.Call (.Attribute o "get" gpos) [k, .Dict [] [] dp] [] gcpos) (mGetE qd qk) :=
  (pe_dget2 hu ho hk pe_dnewK m).imp fun σ H Q ⟨F, ρ, φ, e, kk⟩ => by
    have hbad : ∀ {o : R M}, o = .bad → mGetE qd qk ρ = o → False := fun h1 h2 => by rw [h2, h1] at kk; exact kk
    cases hx : qd ρ with
    | none => exact (hbad rfl (by unfold mGetE; rw [hx])).elim
    | some x =>
    cases hq : qk ρ with
    | none => exact (hbad rfl (by unfold mGetE; rw [hx, hq])).elim
    | some y =>
    obtain ⟨kd, rfl⟩ : ∃ kd, y = .leaf kd := by
      cases y with
      | leaf d => exact ⟨d, rfl⟩
      | _ => exact (hbad rfl (by unfold mGetE; rw [hx, hq])).elim
    have hm : mGetE qd qk ρ = match x.look kd with
      | some (some (.leaf d)) => .ok (.leaf d) ρ
      | some none => .ok (.dK []) ρ
      | _ => .bad := by unfold mGetE; rw [hx, hq]
    rw [hm] at kk
    cases hl : x.look kd with
    | none => rw [hl] at kk; exact kk.elim
    | some oo =>
      obtain ⟨ds, hkv⟩ := look_kv hl
      refine ⟨F, ρ, φ, e, x, hx, fun v f r => ?_⟩
      obtain ⟨a, rfl, hd⟩ := kv_isD e.sub r hkv
      refine ⟨a, rfl, hd, F, ρ, φ, e, _, hq, fun vk fk rk p hp => ?_⟩
      have g : Grow F H F (L2.upd H p (.dK [])) [p] := Grow.own1 e.sub hp
      have e3 := g.env e
      have r3 := g.rep r
      obtain ⟨a', ov, e', gg, lk⟩ := look_rep e3.sub r3 (rep_leaf rk) hl
      cases e'
      rw [hl] at kk
      cases oo with
      | none =>
        dsimp only at kk
        cases ov with
        | some _ => exact lk.elim
        | none =>
          have hFp : F p = none := by
            cases q : F p with
            | none => rfl
            | some u => rw [e.sub p u q] at hp; cases hp
          exact ⟨none, gg, kk F _ φ (.ref p) [p] e3 (.dK (kvs := []) upd_same hFp rfl (by simp) .nil (by simp)) (g.off e) g.ext⟩
      | some y =>
        cases y with
        | leaf d =>
          dsimp only at kk
          cases ov with
          | none => exact lk.elim
          | some v' =>
            obtain ⟨f', rr, _⟩ := lk
            have rl := rep_leaf rr
            exact ⟨some v', gg, kk F _ φ v' [] e3 (.leaf rl) (fun a ha => by simp at ha) ((g.ext0 (O := Om φ)).less fun a h => h.elim id fun z => by simp at z)⟩
        | _ => exact kk.elim
end
end G
namespace G
open PySem PySem.Spec PyProof.Rows L2

/-! ### sorted(d.items()) -/
section
variable {X : Cx}
/-- the pairs of the items, made while they are gathered -/
theorem items_made {pins : List (Addr × Obj)} {σ : L2.St} {H : Hp} {s : Shared} {h' : Heap} {tk : Nat} {kvs : List (Key × V)} {vs : List (Key × Value)} {as : List Addr} (I : Inv X pins σ H s) (kv : KV kvs vs)
    (hk : ∀ b o, s.heap.get? b = some o → h'.get? b = some o) (hl : as.length = vs.length) (hG : PySem.W.KdxG (mixKind X.prog X.w) vs s.heap.objs.size h' as) :
    ∃ H' : Hp, (∀ b o, H b = some o → H' b = some o) ∧ (∀ t ∈ as, H t = none) ∧ (∀ b, b ∉ as → H' b = H b) ∧ Paired (fun (t : Addr) (q : Key × V) => H' t = some (.tup [kV q.1, q.2])) as kvs ∧ Inv X pins σ H' { s with heap := h', toks := tk } := by
  have lk : kvs.length = vs.length := Paired.length kv
  have nd : as.Nodup := List.Pairwise.imp (fun {a b} (h : a < b) => Nat.ne_of_lt h) hG.rise
  have new : ∀ t ∈ as, H t = none := fun t ht => I.hok.fresh (Nat.le_of_lt (hG.above t ht))
  have here := LiI.putT_at as kvs H (by omega) nd
  have away : ∀ b, b ∉ as → LiI.putT H as kvs b = H b := fun b h1 => LiI.putT_off as kvs _ h1
  have low : ∀ b o, s.heap.get? b = some o → b ∉ as := fun b o e z => absurd (Heap.lt_size e) (Nat.not_lt.mpr (Nat.le_of_lt (hG.above b z)))
  have kp : ∀ b u, H b = some u → LiI.putT H as kvs b = some u := fun b u e => by
    rw [away b fun z => by rw [new b z] at e; cases e]
    exact e
  refine ⟨LiI.putT H as kvs, kp, new, away, here, ?_⟩
  refine I.call' (ch := []) rfl ⟨fun b o q _ _ _ => hk b o q, fun b o q _ _ _ => ⟨o.slots, hk b o q⟩, fun b o q n _ => ?_, fun b o q _ => ⟨o, hk b o q⟩, fun b xs q => kp b _ q, fun b o u q => kp b _ q, fun b ps q => ⟨#[], by rw [kp b _ q]; simp⟩⟩ (fun b u q => ?_) I.bare fun b z => by simp at z
  · rw [away b (low b o q)]
    exact n
  · by_cases hb : b ∈ as
    · obtain ⟨j, pk, e1, e2, e3⟩ := LiI.paired_ix here hb
      rw [e3] at q
      cases q
      obtain ⟨key, k, x, f1, f2, f3⟩ := hG.pairs j b e1
      obtain ⟨qv, g1, g2, g3⟩ := LiI.paired_get kv e2
      rw [f1] at g1
      cases g1
      have rk : RelV (kV pk.1) key := by
        rw [g2]
        exact relV_key (show keyIs k key = true from f2)
      exact ⟨by show 2 ≤ sizeLine; decide, [key, x], .cons rk (.cons g3 .nil), ⟨_, f3, rfl, _, rfl⟩⟩
    · rw [away b hb] at q
      exact (I.hok b u q).stay (fun d v _ y => hk d v y) (fun d y => kp d _ y) fun d xs y => kp d _ y
theorem sorted_fromH (hu : X.A.units + 64 < cLine) {pins : List (Addr × Obj)} {σ : L2.St} {s : Shared} {u : Value} {Q : VK}
    (h : wpAny (model X.prog X.w) X.A.in1 (collect u) (fun vs s1 => ∃ ds G H, Inv X pins σ H s1 ∧ Sub G H ∧ PySem.W.EachIs (fun u d => ∃ x, RelV x u ∧ IsD X.K G d x) vs ds ∧ sortOk ds = true ∧
      ∀ p ws, H p = none → IsDs X.K G (sortD ds) ws → Q (.ref p) (L2.upd H p (.lst ws))) X.xe s) :
    wpAny (model X.prog X.w) X.A (call (.builtin "sorted") [u]) (fun v s1 => ∃ x H1, Inv X pins σ H1 s1 ∧ RelV x v ∧ Q x H1) X.xe s := by
  refine Calls.call_function_entry PyProof.Rows.kind_sorted PyProof.Rows.plain_sorted PyProof.Rows.entry_sorted (PyProof.Rows.args_sorted1 _) ?_
  unfold Builtin.«sorted»
  refine wpAny_bind (m := checkCount "sorted" 1 1 _) (wpAny_pure ?_)
  refine wpAny_bind (thn h fun vs s1 ⟨ds, G, H, I1, hG, e, ok, q⟩ => ?_)
  obtain ⟨o1, o2, o3, o4⟩ := sortOk_spec ok
  have hl : vs.length ≤ sizeLine := by rw [e.length]; exact o4
  refine wpAny_bind (wpAny_newList ?_ hl)
  have at0 : (s1.heap.push (seqObj "list" vs.toArray 0)).get? s1.heap.objs.size = some (seqObj "list" vs.toArray 0) := Heap.get?_push_size _ rfl
  have keep0 : ∀ b o, s1.heap.get? b = some o → (s1.heap.push (seqObj "list" vs.toArray 0)).get? b = some o := fun b o e => Heap.get?_push_of_some _ e
  have er : PySem.W.EachIs (fun v d => ∃ as, Reads (s1.heap.push (seqObj "list" vs.toArray 0)) v (id d) as ∧ s1.heap.objs.size ∉ as) vs ds := by
    refine (each_reads I1 hG (fun d hd => (o1 d hd).1) e).mono fun v d ⟨as, r⟩ => ⟨as, PyProof.Rows.Reads.keeps keep0 r, fun hm => ?_⟩
    obtain ⟨o, ho⟩ := PyProof.On.reads_mem_get r _ hm
    exact absurd (Heap.lt_size ho) (Nat.lt_irrefl _)
  refine wpAny_bind (wpAny_holding (PySem.W.list_sort_data (enc := id) (s := { s1 with heap := s1.heap.push (seqObj "list" vs.toArray 0) }) at0 e er (by rw [List.map_id]; exact o2) (by rw [List.map_id]; exact o3) o4 (fun d hd => ?_) fun out ho eo => ?_))
  · have := (o1 d hd).2
    show X.A.units + 1 + 1 + d.depth < cLine
    omega
  · obtain ⟨ws, w1, w2⟩ := of_each eo
    obtain ⟨c, hc⟩ := PyProof.Rows.sortedHeap_at (vs := vs) (out := List.toArray out) at0
    have hfresh : H s1.heap.objs.size = none := I1.hok.fresh (Nat.le_refl _)
    have hlw : ws.length ≤ sizeLine := by rw [w1.length, ho]; exact o4
    refine wpAny_pure ⟨_, rfl, .ref s1.heap.objs.size, _, I1.laid (t' := s1.toks) (fun b o e => ?_) (Nat.le_refl _) (show ObjOk X.prog X.w _ _ _ (.lst ws) from ⟨hlw, out, c, w1, hc⟩), rfl, q _ ws hfresh w2⟩
    have hb := Heap.lt_size e
    rw [PyProof.Rows.sortedHeap_old (Nat.ne_of_lt hb) (by rw [size_push']; exact Nat.lt_succ_of_lt hb)]
    exact keep0 b o e
/-- the rows of a dict's items -/
def itemRows (ks : List Key) (es : List PyData) : List PyData := (ks.zip es).map fun kd => .tuple [keyD kd.1, kd.2]
def rSortIt (K : Frag) : V → Hp → VK → Prop := fun x H Q => ∃ (d : Addr) (kvs : List (Key × V)) (es : List PyData) (F : Hp), x = .ref d ∧ H d = some (.dK kvs) ∧ Sub F H ∧ IsDs K F es (kvs.map (·.2)) ∧ sortOk (itemRows (kvs.map (·.1)) es) = true ∧
  ∀ H' p ws, (∀ b o, H b = some o → H' b = some o) → H' p = none → IsDs K (unT F H') (sortD (itemRows (kvs.map (·.1)) es)) ws → Q (.ref p) (L2.upd H' p (.lst ws))
theorem rows_each {K : Frag} {G : Hp} : ∀ {ts : List Addr} {kvs : List (Key × V)} {es : List PyData}, IsDs K G es (kvs.map (·.2)) → Paired (fun (t : Addr) (q : Key × V) => G t = some (.tup [kV q.1, q.2])) ts kvs → PySem.W.EachIs (fun u d => ∃ x, RelV x u ∧ IsD K G d x) (ts.map Value.ref) (itemRows (kvs.map (·.1)) es)
  | [], _, es, h, .nil => by unfold itemRows; simp; exact .nil
  | t :: ts, kv :: kvs, es, h, .cons p1 p2 => by
    unfold IsDs at h
    cases es with
    | nil => simp at h
    | cons d dr =>
      obtain ⟨v, r', e', h1, h2⟩ := h
      simp only [List.map_cons, List.cons.injEq] at e'
      obtain ⟨rfl, rfl⟩ := e'
      have ih := rows_each h2 p2
      unfold itemRows at ih ⊢
      simp only [List.map_cons, List.zip_cons_cons]
      exact .cons ⟨.ref t, rfl, isD_tup p1 (.cons (key_isD kv.1) (.cons h1 .nil))⟩ ih
theorem pe_sortIt {e : Expr} {te : TE} {p apos cpos pos : Pos} (hc : X.calm = true) (hu : X.A.units + 64 < cLine) (he : PE X e te) (hg : Gl X "sorted") (hm : X.mg "sorted" = none) (hbase : attributeBase e "items" X.env (eval e X.env) = eval e X.env := by rfl) (hline : (apos.endLine == cpos.line) = true := by rfl)
    (hs : starEach [.Call (.Attribute e "items" apos) [] [] cpos] X.env = (false, eval (.Call (.Attribute e "items" apos) [] [] cpos) X.env) :: starEach [] X.env := by rfl) :
    PE X (.Call (.Name "sorted" p) [.Call (.Attribute e "items" apos) [] [] cpos] [] pos) (fun σ H Q => te σ H fun x H1 => rSortIt X.K x H1 Q) := by
  refine ⟨fun pins s σ H Q I hq => ?_⟩
  refine Call_ (ld_blt I hg hm PyProof.Rows.boot_sorted ?_)
  refine PyProof.Rows.callWith_builtin1 (PyProof.Rows.args_cons ?_ hs) hs rfl
  refine wpAny_Call_method (T := "dict") (id := "dict.items") hbase rfl hline F.plainAttrs_dict F.slot_dict_items F.type_dict_items (thn (he.run pins s σ H _ I hq) fun u s1 ⟨x, H1, I1, rx, d, kvs, es, F0, ex, hd, sF, hds, ok, q⟩ => ?_)
  subst ex
  obtain rfl : u = Value.ref d := rx
  obtain ⟨hz, hs0, vs, kv, hdo⟩ := I1.hok d _ hd
  obtain ⟨ep, hat⟩ := hdo.dictAt
  have lk : kvs.length = vs.length := Paired.length kv
  have I2 : Inv X pins σ H1 { s1 with heap := s1.heap.push { cls := .type "dict_items", data := .fields #[.ref d] } } := I1.kept (t' := s1.toks) fun b ob q => Heap.get?_push_of_some _ q
  refine ⟨hdo.typeIs, hdo.mapOf.noDict, ?_⟩
  show wpAny _ _ (callWith cpos (.builtin "dict.items") [.ref d] [] []) _ X.xe s1
  refine method_meetsIn F.slot_dict_items F.entry_dict_items rfl (PySem.evalArgs_none ⟨rfl, hdo.typeIs, F.args_dict_items_1 _, _, meets_dict_items (mixKind X.prog X.w) d hs0, ⟨vs, hdo⟩, ?_⟩)
  refine PyProof.Rows.args_nil ?_
  refine sorted_fromH hu ?_
  refine PySem.W.kdx_collect (A := X.A.in1) (knd := mixKind X.prog X.w) (kvs := vs) (ep := ep) (I1.ok.hd hc) ⟨_, Heap.get?_push_size _ rfl, rfl, rfl⟩ (hat.push _) (by omega) fun h' tk as hk hl hG => ?_
  obtain ⟨H', keep, new, away, here, J⟩ := items_made (tk := tk) I2 kv hk hl hG
  have sub' : Sub F0 H' := fun b o e => keep b o (sF b o e)
  have subT : Sub (unT F0 H') H' := fun b o e => by
    unfold unT at e
    split at e
    · rename_i x hx; cases e; exact sub' _ _ hx
    · split at e
      · rename_i vs hvs; cases e; exact hvs
      · cases e
  have mono : Sub F0 (unT F0 H') := fun b o e => by unfold unT; rw [e]
  exact ⟨itemRows (kvs.map (·.1)) es, unT F0 H', H', J, subT, rows_each (hds.mono mono) (paired_mono (fun t q h => unT_tup sub' h) here), ok, fun p ws hp hw => q H' p ws keep hp hw⟩
/-- the mirror -/
def gSortIt : M → Option M := fun x => match x with
  | .dK l => (leaves (l.map (·.2))).bind fun es => if sortOk (itemRows (l.map (·.1)) es) then some (.lst ((sortD (itemRows (l.map (·.1)) es)).map .leaf)) else none
  | _ => none
theorem r_sortIt {K : Frag} : R1 K (rSortIt K) gSortIt := by
  intro F H v x f y Q s r h q
  unfold gSortIt at h
  cases r with
  | dK h1 h2 he nd rs n =>
    rename_i a kvs kms fp
    dsimp only at h
    rw [Option.bind_eq_some_iff] at h
    obtain ⟨es, hes, hh⟩ := h
    split at hh
    case isFalse => cases hh
    rename_i ok
    cases hh
    refine ⟨a, kvs, es, F, rfl, h1, s, leaves_isDs hes rs, by rw [he]; exact ok, fun H' p ws keep hp hw => ?_⟩
    rw [he] at hw
    have sub' : Sub F H' := fun b o e => keep b o (s b o e)
    have subT : Sub (unT F H') H' := fun b o e => by
      unfold unT at e
      split at e
      · rename_i x hx; cases e; exact sub' _ _ hx
      · split at e
        · rename_i vs hvs; cases e; exact hvs
        · cases e
    have hFp : unT F H' p = none := by
      cases e : unT F H' p with
      | none => rfl
      | some u => rw [subT p u e] at hp; cases hp
    have hHp : H p = none := by
      cases e : H p with
      | none => rfl
      | some u => rw [keep p u e] at hp; cases hp
    have g1 := Grow.own1 (o := .lst ws) subT hp
    refine q (unT F H') _ (.ref p) [p] ⟨fun b o e => by unfold unT; rw [e], g1.sub, fun b o e => g1.same b o (keep b o e), fun b o e => ?_, fun b hb => by simp at hb; subst hb; exact hHp⟩ (.lst upd_same hFp (reps_leaves hw) (by simp))
    unfold unT at e
    split at e
    · rename_i x hx; cases e; exact .inl hx
    · split at e
      · rename_i hFb vs hvs; cases e
        refine .inr ?_
        cases hq : H b with
        | none => exact .inl hq
        | some u => have := keep b u hq; rw [hvs] at this; cases this; exact .inr ⟨vs, hq⟩
      · cases e
  | _ => cases h
section
variable {E : XK} {e : Expr} {qe : Env' → Option M} {p apos cpos pos : Pos}
theorem de_sortIt (hc : X.calm = true) (hu : X.A.units + 64 < cLine) (he : DQ X e qe) (hg : Gl X "sorted") (hm : X.mg "sorted" = none) (hbase : attributeBase e "items" X.env (eval e X.env) = eval e X.env := by rfl) (hline : (apos.endLine == cpos.line) = true := by rfl)
    (hs : starEach [.Call (.Attribute e "items" apos) [] [] cpos] X.env = (false, eval (.Call (.Attribute e "items" apos) [] [] cpos) X.env) :: starEach [] X.env := by rfl) :
    DE X E (.Call (.Name "sorted" p) [.Call (.Attribute e "items" apos) [] [] cpos] [] pos) (m1q gSortIt qe) :=
  (pe_sortIt hc hu he hg hm hbase hline hs).imp fun σ H Q h => i_1q r_sortIt σ H Q h
end
end
end G
namespace G
open PySem PySem.Spec PySem.W PyProof.Rows L2

/-! ### max(d) of a dict of whole numbers -/
def rMaxK : List V → Hp → VK → Prop := fun xs H Q => ∃ (a : Addr) (kvs : List (Key × V)) (n : Int) (ns : List Int), xs = [.ref a] ∧ Rd H a (.dK kvs) ∧ kvs.map (·.1) = (n :: ns).map Sum.inl ∧ Q (.int (ns.foldl max n)) H
theorem cr_maxK {X : Cx} (hc : X.calm = true) (hu : X.A.units + 64 < cLine) : CallR X (.builtin "max") rMaxK := by
  intro pins s σ H xs us Q I r h
  obtain ⟨a, kvs, n, ns, rfl, hr, hkn, q⟩ := h
  obtain ⟨u, rfl, rx⟩ := vals1 r
  cases rx
  obtain ⟨z, lo, vs, rel, dd⟩ := dk_rd I.hok hr
  obtain ⟨ep, hat⟩ := dd.dictAt
  have hkeys : vs.map (·.1) = (n :: ns).map Sum.inl := by rw [← hkn]; exact (rel.keys).symm
  have hlen : vs.length = ns.length + 1 := by have := congrArg List.length hkeys; simpa using this
  have hlt : a < s.heap.objs.size := by obtain ⟨o, _, ho, _⟩ := id hat; exact Heap.lt_size ho
  have hh : X.A.in1.handled = none := I.ok.hd hc
  -- the i-th key
  have item : ∀ i v, (∃ k x, vs[i]? = some (k, x) ∧ (mixKind X.prog X.w).is k v = true) → ∃ t, v = .int ((n :: ns).getD i 0) t ∧ i < ns.length + 1 := fun i v ⟨k, x, e1, e2⟩ => by
    have e3 : (vs.map (·.1))[i]? = some k := by rw [List.getElem?_map, e1]; rfl
    rw [hkeys, List.getElem?_map, Option.map_eq_some_iff] at e3
    obtain ⟨j, ej, rfl⟩ := e3
    have hil : i < ns.length + 1 := by have := (List.getElem?_eq_some_iff.mp ej).1; simpa using this
    rcases keyIs_shape (show keyIs (Sum.inl j) v = true from e2) with ⟨i', t, ek, ev⟩ | ⟨y, t, ek, ev⟩
    · cases ek
      exact ⟨t, by rw [ev, List.getD_eq_getElem?_getD, ej]; rfl, hil⟩
    · cases ek
  refine call_max_walkH (wpAny_pyIter_dict (A := X.A.in1) lo hat ?_)
  refine ⟨s.heap.objs.size, _, _, _, vs.length, _, _, s.heap, fun i j => dataLt ((PyData.int n :: ns.map .int).getD j .none) ((PyData.int n :: ns.map .int).getD i .none), rfl, (Walks.dictKeys (knd := mixKind X.prog X.w) hh s.heap.objs.size a (Nat.ne_of_lt hlt) vs ep).toS, ⟨⟨_, Heap.get?_push_size _ rfl, rfl, rfl⟩, hat.push _⟩, fun b hb => ?_, by omega, fun b o e hb => ?_, fun b o e => Heap.get?_push_of_some _ e, fun i j vi vj s' Q' E' hk hi hj hq => ?_, fun v s' hP m => ?_⟩
  · show b < (s.heap.push _).objs.size
    rw [Heap.size_push]
    rcases List.mem_cons.mp hb with rfl | hb
    · exact Nat.lt_succ_self _
    · rcases List.mem_cons.mp hb with rfl | hb
      · exact Nat.lt_succ_of_lt hlt
      · cases hb
  · exact absurd (Heap.lt_size e) ((List.mem_singleton.mp hb) ▸ Nat.lt_irrefl _)
  · obtain ⟨ti, rfl, li⟩ := item i vi hi
    obtain ⟨tj, rfl, lj⟩ := item j vj hj
    have gd : ∀ k, k < ns.length + 1 → (PyData.int n :: ns.map .int).getD k .none = .int ((n :: ns).getD k 0) := fun k hk => by
      have e : (PyData.int n :: ns.map .int) = (n :: ns).map .int := rfl
      rw [e, List.getD_eq_getElem?_getD, List.getElem?_map, List.getD_eq_getElem?_getD]
      have : (n :: ns)[k]? = some (n :: ns)[k] := List.getElem?_eq_getElem (by simpa using hk)
      rw [this]; rfl
    dsimp only at hq
    rw [gd i li, gd j lj] at hq
    exact rcGt_alike (.int _) (.int _) X.A.in1 s' _ _ [] [] (.int _ _) (.int _ _) rfl (by simp) (by show X.A.units + 1 + min 0 0 < cLine; omega) X.prog X.w E' Q' hq
  · obtain ⟨h', tk, rfl, hk'⟩ := moved_old (s := s) rfl rfl m
    obtain ⟨t, rfl, _⟩ := item _ v hP
    refine ⟨.int (ns.foldl max n), H, I.kept hk', ⟨t, ?_⟩, q⟩
    have e2 := (argBest_fold (fun a b => dataLt b a) PyData.none (.int n) (ns.map .int) ns.length (by simp))
    obtain ⟨b1, b2⟩ := e2
    have hl1 : vs.length - 1 = ns.length := by omega
    rw [hl1]
    have e3 : (ns.map PyData.int).take ns.length = ns.map .int := by rw [List.take_of_length_le (by simp)]
    rw [e3] at b2
    have e4 := maxD_ints n ns
    unfold maxD at e4
    rw [e4] at b2
    generalize argBest (fun i j => dataLt ((PyData.int n :: ns.map .int).getD j .none) ((PyData.int n :: ns.map .int).getD i .none)) ns.length = k at b1 b2
    have e5 : (PyData.int n :: ns.map .int) = (n :: ns).map .int := rfl
    rw [e5, List.getD_eq_getElem?_getD, List.getElem?_map] at b2
    have hkl : k < (n :: ns).length := by simp; omega
    have : (n :: ns)[k]? = some (n :: ns)[k] := List.getElem?_eq_getElem hkl
    rw [this] at b2
    simp only [Option.map_some, Option.getD_some, PyData.int.injEq] at b2
    rw [List.getD_eq_getElem?_getD, this, Option.getD_some, b2]
def gMaxK : M → Option PyData := fun x => x.kv.bind fun ds => match intsD ds with
  | some (n :: ns) => some (.int (ns.foldl max n))
  | _ => none
theorem keys_ints : ∀ {ks : List Key} {ns : List Int}, intsD (ks.map keyD) = some ns → ks = ns.map Sum.inl
  | [], ns, h => by simp [intsD] at h; subst h; rfl
  | .inl i :: ks, ns, h => by
    simp only [List.map_cons, keyD, intsD, Option.map_eq_some_iff] at h
    obtain ⟨r, h, rfl⟩ := h
    rw [keys_ints h]; rfl
  | .inr z :: ks, ns, h => by simp [keyD, intsD] at h
theorem r_maxK {K : Frag} : R1S K (fun v => rMaxK [v]) gMaxK := by
  intro F H v x f d Q s r h q
  unfold gMaxK at h
  rw [Option.bind_eq_some_iff] at h
  obtain ⟨ds, h, hh⟩ := h
  obtain ⟨a, rfl, hd⟩ := rep_kv s r h
  split at hh
  · rename_i n ns hi
    cases hh
    rcases hd with ⟨kvs, hr, rfl⟩ | ⟨kvs, hr, rfl⟩
    · have : (kvs.map fun kv => keyD kv.1) = (kvs.map (·.1)).map keyD := by rw [List.map_map]; rfl
      rw [this] at hi
      exact ⟨a, kvs, n, ns, rfl, hr, keys_ints hi, q _ (isD_int _)⟩
    · cases kvs with
      | nil => simp [intsD] at hi
      | cons p l => simp [keysD, intsD] at hi
  · cases hh
end G
namespace G
open PySem PySem.Spec PyProof.Rows L2

/-! ### sums by strengths, places, ticks -/
abbrev TkR := List (Int × Int)
abbrev PlR := List (Str × TkR)
abbrev Fd3 := List (Int × PlR)
def bumpT (r : TkR) (t n : Int) : TkR := putG r t ((getG r t).getD 0 + n)
def bumpP (row : PlR) (p : Str) (t n : Int) : PlR := putG row p (bumpT ((getG row p).getD []) t n)
def bump3 (fd : Fd3) (s : Int) (p : Str) (t n : Int) : Fd3 := putG fd s (bumpP ((getG fd s).getD []) p t n)
def sumT (r : TkR) (ω : Int → Int) : Int := (r.map fun y => y.2 * ω y.1).sum
def sumP (row : PlR) (ω : Str → Int → Int) : Int := (row.map fun x => sumT x.2 (ω x.1)).sum
def sum3 (fd : Fd3) (ω : Str → Int → Int → Int) : Int := (fd.map fun x => sumP x.2 fun p t => ω p t x.1).sum
theorem sumT_bump {r : TkR} (nd : (r.map (·.1)).Nodup) (t n : Int) (ω : Int → Int) : sumT (bumpT r t n) ω = sumT r ω + n * ω t := by
  unfold sumT bumpT
  have := sum_putG (φ := fun t n => n * ω t) (k := t) (v := (getG r t).getD 0 + n) nd
  rw [this]
  cases getG r t with
  | none => simp
  | some v => simp [Int.add_mul]; omega
/-- the keys are there once each -/
structure PlOk (row : PlR) : Prop where
  nd : (row.map (·.1)).Nodup
  tk : ∀ x ∈ row, (x.2.map (·.1)).Nodup
structure Fd3Ok (fd : Fd3) : Prop where
  nd : (fd.map (·.1)).Nodup
  row : ∀ x ∈ fd, PlOk x.2
theorem PlOk.nil : PlOk [] := ⟨by simp, by simp⟩
theorem PlOk.get {row : PlR} (h : PlOk row) (p : Str) : (((getG row p).getD []).map (·.1)).Nodup := by
  cases hg : getG row p with
  | none => simp
  | some r => exact h.tk _ (getG_mem hg)
theorem Fd3Ok.get {fd : Fd3} (h : Fd3Ok fd) (s : Int) : PlOk ((getG fd s).getD []) := by
  cases hg : getG fd s with
  | none => exact .nil
  | some r => exact h.row _ (getG_mem hg)
theorem PlOk.bump {row : PlR} (h : PlOk row) (p : Str) (t n : Int) : PlOk (bumpP row p t n) := by
  refine ⟨nodup_putG h.nd _ _, fun x hx => ?_⟩
  rcases (mem_putG_iff h.nd).mp hx with ⟨_, hx⟩ | rfl
  · exact h.tk x hx
  · exact nodup_putG (h.get p) _ _
theorem Fd3Ok.bump {fd : Fd3} (h : Fd3Ok fd) (s : Int) (p : Str) (t n : Int) : Fd3Ok (bump3 fd s p t n) := by
  refine ⟨nodup_putG h.nd _ _, fun x hx => ?_⟩
  rcases (mem_putG_iff h.nd).mp hx with ⟨_, hx⟩ | rfl
  · exact h.row x hx
  · exact (h.get s).bump p t n
theorem sumP_bump {row : PlR} (h : PlOk row) (p : Str) (t n : Int) (ω : Str → Int → Int) : sumP (bumpP row p t n) ω = sumP row ω + n * ω p t := by
  unfold sumP bumpP
  have := sum_putG (φ := fun p r => sumT r (ω p)) (k := p) (v := bumpT ((getG row p).getD []) t n) h.nd
  rw [this, sumT_bump (h.get p)]
  cases getG row p with
  | none => simp [sumT]
  | some v => simp; omega
theorem sum3_bump {fd : Fd3} (h : Fd3Ok fd) (s : Int) (p : Str) (t n : Int) (ω : Str → Int → Int → Int) : sum3 (bump3 fd s p t n) ω = sum3 fd ω + n * ω p t s := by
  unfold sum3 bump3
  have := sum_putG (φ := fun s r => sumP r fun p t => ω p t s) (k := s) (v := bumpP ((getG fd s).getD []) p t n) h.nd
  rw [this, sumP_bump (h.get s)]
  cases getG fd s with
  | none => simp [sumP]
  | some v => simp; omega
end G
namespace G
open PySem PySem.Spec PyProof.Rows L2

/-! ### holes, step by step -/
section
variable {K : Frag} {F H : Hp}
theorem set_keys {κ α : Type} {l : List (κ × α)} {i : Nat} {k : κ} {m m' : α} (h : l[i]? = some (k, m)) : (l.set i (k, m')).map (·.1) = l.map (·.1) := by
  rw [List.map_set]
  apply List.ext_getElem?
  intro j
  rw [List.getElem?_set]
  by_cases hj : i = j
  · subst hj
    obtain ⟨hl, e⟩ := List.getElem?_eq_some_iff.mp h
    simp [hl, e]
  · rw [if_neg hj]
theorem zip_at {κ α β : Type} {l : List (κ × α)} {l' : List (κ × β)} {i : Nat} {k : κ} {m : β} {v : α} (he : l.map (·.1) = l'.map (·.1)) (h : l'[i]? = some (k, m)) (e : (l.map (·.2))[i]? = some v) : l[i]? = some (k, v) := by
  have e2 : (l.map (·.1))[i]? = some k := by rw [he, List.getElem?_map, h]; rfl
  rw [List.getElem?_map] at e e2
  cases hc : l[i]? with
  | none => rw [hc] at e; cases e
  | some p =>
    rw [hc] at e e2
    simp only [Option.map_some, Option.some.injEq] at e e2
    rw [← e, ← e2]
theorem one_hole {v : V} {m m1 : M} {fp : List Addr} {st : Stp} (r : Rep K F H v m fp) (h : m.sub st = some m1) : ∃ v1 f1 rest, Rep K F H v1 m1 f1 ∧ (∀ a ∈ f1, a ∈ fp) ∧ (∀ a ∈ rest, a ∈ fp) ∧ (∀ a ∈ f1, a ∉ rest) ∧
    (∀ F' H' m' f', Stay F H F' H' rest → Rep K F' H' v1 m' f' → (∀ a ∈ f', a ∉ rest) → ∃ fp', Rep K F' H' v (m.setSub st m') fp' ∧ ∀ a, a ∈ fp' ↔ a ∈ rest ∨ a ∈ f') ∧
    ∃ a, v = .ref a ∧ HopR K F H st m a v1 := by
  cases r with
  | leaf _ => simp [M.sub] at h
  | ro _ _ => simp [M.sub] at h
  | lst h1 h2 rs n =>
    rename_i a vs ms fs
    cases st with
    | fld x => simp [M.sub] at h
    | ix d =>
      cases d with
      | int j =>
        simp only [M.sub, Option.bind_eq_some_iff] at h
        obtain ⟨i, hj, hi⟩ := h
        obtain ⟨v1, f1, rest, e1, q1, s1, s2, s3, k⟩ := reps_hole i rs hi
        refine ⟨v1, f1, a :: rest, q1, fun b hb => by simp [s1 b hb], fun b hb => (List.mem_cons.mp hb).elim (fun z => by simp [z]) fun z => by simp [s2 b z], fun b hb hc => (List.mem_cons.mp hc).elim (fun z => n (z ▸ s1 b hb)) fun z => s3 b hb z, fun F' H' m' f' x r' hf => ?_, a, rfl, j, vs, rfl, h1, ?_⟩
        · obtain ⟨fp', q, s⟩ := k F' H' m' f' (x.less fun b hb => by simp [hb]) r' fun b hb hc => hf b hb (by simp [hc])
          refine ⟨a :: fp', ?_, fun b => by rw [List.mem_cons, s b, List.mem_cons, or_assoc]⟩
          simp only [M.setSub, hj]
          refine .lst (x.keep a (by simp) _ h1) (x.nf a (by simp)) q fun z => ?_
          rcases (s a).mp z with z | z
          · exact n (s2 a z)
          · exact hf a z (by simp)
        · rw [rs.len, hj]; exact e1
      | _ => simp [M.sub] at h
  | dK h1 h2 he nd rs n =>
    rename_i a kvs kms fs
    cases st with
    | fld x => simp [M.sub] at h
    | ix d =>
      simp only [M.sub, Option.bind_eq_some_iff] at h
      obtain ⟨k, hk, hg⟩ := h
      obtain ⟨i, hi⟩ := getG_ix hg
      obtain ⟨v1, f1, rest, e1, q1, s1, s2, s3, kk⟩ := reps_hole i rs (m1 := m1) (by rw [List.getElem?_map, hi]; rfl)
      have ek := zip_at he hi e1
      refine ⟨v1, f1, a :: rest, q1, fun b hb => by simp [s1 b hb], fun b hb => (List.mem_cons.mp hb).elim (fun z => by simp [z]) fun z => by simp [s2 b z], fun b hb hc => (List.mem_cons.mp hc).elim (fun z => n (z ▸ s1 b hb)) fun z => s3 b hb z, fun F' H' m' f' x r' hf => ?_, a, rfl, fun s vk rk => ?_⟩
      · obtain ⟨fp', q, s⟩ := kk F' H' m' f' (x.less fun b hb => by simp [hb]) r' fun b hb hc => hf b hb (by simp [hc])
        refine ⟨a :: fp', ?_, fun b => by rw [List.mem_cons, s b, List.mem_cons, or_assoc]⟩
        simp only [M.setSub, hk, putG_ix nd hi]
        have e2' : (kms.set i (k, m')).map (·.2) = (kms.map (·.2)).set i m' := by rw [List.map_set]
        refine .dK (x.keep a (by simp) _ h1) (x.nf a (by simp)) (by rw [set_keys hi]; exact he) (by rw [set_keys hi]; exact nd) (by rw [e2']; exact q) fun z => ?_
        rcases (s a).mp z with z | z
        · exact n (s2 a z)
        · exact hf a z (by simp)
      · exact .inl ⟨kvs, k, .inl h1, keyOf_is hk rk, (valV_ix (by rw [he]; exact nd) ek).symm⟩
  | dT h1 h2 he nd rs n =>
    rename_i a kvs kms fs
    cases st with
    | fld x => simp [M.sub] at h
    | ix d =>
      cases d with
      | tuple ds =>
        simp only [M.sub, Option.bind_eq_some_iff] at h
        obtain ⟨k, hk, hg⟩ := h
        obtain ⟨i, hi⟩ := getG_ix hg
        obtain ⟨v1, f1, rest, e1, q1, s1, s2, s3, kk⟩ := reps_hole i rs (m1 := m1) (by rw [List.getElem?_map, hi]; rfl)
        have ek := zip_at he hi e1
        refine ⟨v1, f1, a :: rest, q1, fun b hb => by simp [s1 b hb], fun b hb => (List.mem_cons.mp hb).elim (fun z => by simp [z]) fun z => by simp [s2 b z], fun b hb hc => (List.mem_cons.mp hc).elim (fun z => n (z ▸ s1 b hb)) fun z => s3 b hb z, fun F' H' m' f' x r' hf => ?_, a, rfl, fun s vk rk => ?_⟩
        · obtain ⟨fp', q, s⟩ := kk F' H' m' f' (x.less fun b hb => by simp [hb]) r' fun b hb hc => hf b hb (by simp [hc])
          refine ⟨a :: fp', ?_, fun b => by rw [List.mem_cons, s b, List.mem_cons, or_assoc]⟩
          simp only [M.setSub, hk, putG_ix nd hi]
          have e2' : (kms.set i (k, m')).map (·.2) = (kms.map (·.2)).set i m' := by rw [List.map_set]
          refine .dT (x.keep a (by simp) _ h1) (x.nf a (by simp)) (by rw [set_keys hi]; exact he) (by rw [set_keys hi]; exact nd) (by rw [e2']; exact q) fun z => ?_
          rcases (s a).mp z with z | z
          · exact n (s2 a z)
          · exact hf a z (by simp)
        · obtain ⟨b, rfl, hb⟩ := tup_key (d := .none) s rk hk
          exact .inr ⟨kvs, k, b, .inl h1, rfl, hb, (valV_ix (by rw [he]; exact nd) ek).symm⟩
      | _ => simp [M.sub] at h
  | ins h1 h2 he rs n =>
    rename_i a C dx fvs fms fs
    cases st with
    | ix d => simp [M.sub] at h
    | fld x =>
      simp only [M.sub] at h
      split at h
      case isFalse => cases h
      rename_i nd
      obtain ⟨i, hi⟩ := getG_ix h
      obtain ⟨v1, f1, rest, e1, q1, s1, s2, s3, kk⟩ := reps_hole i rs (m1 := m1) (by rw [List.getElem?_map, hi]; rfl)
      have ek := zip_at he hi e1
      refine ⟨v1, f1, a :: rest, q1, fun b hb => by simp [s1 b hb], fun b hb => (List.mem_cons.mp hb).elim (fun z => by simp [z]) fun z => by simp [s2 b z], fun b hb hc => (List.mem_cons.mp hc).elim (fun z => n (z ▸ s1 b hb)) fun z => s3 b hb z, fun F' H' m' f' x r' hf => ?_, a, rfl, C, dx, fvs, h1, ?_⟩
      · obtain ⟨fp', q, s⟩ := kk F' H' m' f' (x.less fun b hb => by simp [hb]) r' fun b hb hc => hf b hb (by simp [hc])
        refine ⟨a :: fp', ?_, fun b => by rw [List.mem_cons, s b, List.mem_cons, or_assoc]⟩
        simp only [M.setSub, putG_ix nd hi]
        refine .ins (x.keep a (by simp) _ h1) (x.nf a (by simp)) (by rw [set_keys hi]; exact he) (by rw [List.map_set]; exact q) fun z => ?_
        rcases (s a).mp z with z | z
        · exact n (s2 a z)
        · exact hf a z (by simp)
      · exact getG_at (by rw [he]; exact nd) ek
theorem Hol.step {v v1 : V} {m m1 m2 : M} {fp f1 rest : List Addr} {ss : List Stp} {st : Stp} (h : Hol K F H v m fp ss v1 m1 f1 rest) (hs : m.subs ss = some m1) (h2 : m1.sub st = some m2) :
    ∃ v2 f2 rest2, Hol K F H v m fp (ss ++ [st]) v2 m2 f2 rest2 ∧ ∃ a, v1 = .ref a ∧ HopR K F H st m1 a v2 := by
  obtain ⟨v2, f2, r2, q, s1, s2, s3, k, hop⟩ := one_hole h.rep h2
  refine ⟨v2, f2, r2 ++ rest, ⟨q, fun a ha => h.sub a (s1 a ha), fun a ha => ?_, fun a ha hb => ?_, fun F' H' m' f' x r' hf => ?_⟩, hop⟩
  · rcases List.mem_append.mp ha with z | z
    · exact h.sub a (s2 a z)
    · exact h.rst a z
  · rcases List.mem_append.mp hb with z | z
    · exact s3 a ha z
    · exact h.off a (s1 a ha) z
  · obtain ⟨f3, r3, s4⟩ := k F' H' m' f' (x.less fun a ha => by simp [ha]) r' fun a ha hb => hf a ha (by simp [hb])
    obtain ⟨f4, r4, s5⟩ := h.back F' H' _ f3 (x.less fun a ha => by simp [ha]) r3 fun a ha hb => by
      rcases (s4 a).mp ha with z | z
      · exact h.off a (s2 a z) hb
      · exact hf a z (by simp [hb])
    refine ⟨f4, by rw [setSubs_snoc hs ⟨_, h2⟩]; exact r4, fun a => ?_⟩
    rw [s5 a, s4 a, List.mem_append]
    constructor
    · rintro (z | z | z)
      · exact .inl (.inr z)
      · exact .inl (.inl z)
      · exact .inr z
    · rintro ((z | z) | z)
      · exact .inr (.inl z)
      · exact .inl z
      · exact .inr (.inr z)
theorem Hol.foc {v v1 : V} {m m1 : M} {fp f1 rest : List Addr} {ss : List Stp} (h : Hol K F H v m fp ss v1 m1 f1 rest) (r : Rep K F H v m fp) : Foc K F H m fp v ss v1 m1 f1 := by
  refine ⟨h.rep, h.sub, fun c o m' f' hc r' hf => ?_⟩
  obtain ⟨fp', q, s⟩ := h.back F (L2.upd H c o) m' f' ⟨fun _ _ z => z, fun a ha u hu => by
      have : a ≠ c := fun z => h.off c hc (z ▸ ha)
      rw [upd_ne this]; exact hu, fun a ha => (r.fp a (h.rst a ha)).2⟩ r' fun a ha hb => by
    rcases hf a ha with z | z
    · exact h.off a z hb
    · exact z (h.rst a hb)
  exact ⟨fp', q, fun a ha => ((s a).mp ha).imp (h.rst a) id⟩
theorem Hol.stay {v v1 : V} {m m1 : M} {fp f1 rest : List Addr} {ss : List Stp} {F' H' : Hp} (h : Hol K F H v m fp ss v1 m1 f1 rest) (x : Stay F H F' H' fp) : Hol K F' H' v m fp ss v1 m1 f1 rest :=
  ⟨h.rep.stay (x.less h.sub), h.sub, h.rst, h.off, fun F2 H2 m2 f2 x2 r2 o2 => h.back F2 H2 m2 f2 ((x.less h.rst).trans x2) r2 o2⟩
theorem Grow.stay {F' H' : Hp} {g f : List Addr} (x : Grow F H F' H' g) (h : ∀ a ∈ f, Ob H a ∧ F a = none) : Stay F H F' H' f := ⟨x.mono, fun a ha o e => x.same a o e, fun a ha => x.isN (h a ha).1 (h a ha).2⟩
end
/-- a place within the tree of slot i, as a hole -/
def tPH (K : Frag) (i : Nat) (qp : Env' → Option (List Stp)) : TE := fun σ H Q => ∃ F ρ φ v0 m ss m1, EnvOk K F H σ ρ φ ∧ σ[i]? = some (some v0) ∧ qName i ρ = some m ∧ qp ρ = some ss ∧ m.subs ss = some m1 ∧ ∀ v1 f1 rest, Hol K F H v0 m (φ i) ss v1 m1 f1 rest → Q v1 H
abbrev DPH (X : Cx) (o : Expr) (i : Nat) (qp : Env' → Option (List Stp)) : Prop := PE X o (tPH X.K i qp)
section
variable {X : Cx} {E : XK} {J : List Nat} {i : Nat} {o k e : Expr} {qp : Env' → Option (List Stp)} {qk : Env' → Option M} {mv : Env' → R M} {pos pos' apos : Pos}
theorem dp_of (h : DPH X o i qp) : DP X o i qp := PE.imp h fun σ H Q ⟨F, ρ, φ, v0, m, ss, m1, e, hv, hm, hp, hs, k⟩ => by
  obtain ⟨v, hv', r⟩ := e.rep i m (qName_some hm)
  rw [hv] at hv'; cases hv'
  exact ⟨F, ρ, φ, v0, m, ss, m1, e, hv, hm, hp, hs, fun v1 f1 rest hol => k v1 f1 (hol.foc r)⟩
theorem dph_name (h : PE X o (tVar i)) : DPH X o i pNil := PE.imp h fun σ H Q ⟨F, ρ, φ, v0, m, ss, m1, e, hv, hm, hp, hs, k⟩ => by
  cases hp
  cases hs
  obtain ⟨v, hv', r⟩ := e.rep i m (qName_some hm)
  rw [hv] at hv'; cases hv'
  exact ⟨v0, hv, k _ _ _ (Hol.refl r)⟩
theorem dph_dix (hu : X.A.units + 1 < cLine) (ho : DPH X o i qp) (hk : DQ X k qk) (hs : NoSl k := by intro _ _; rfl) : DPH X (.Subscript o k pos) i (pDx i qp qk) :=
  (pe_dget hu ho hk hs).imp fun σ H Q ⟨F, ρ, φ, v0, m, ss, m1, e, hv, hm, hp, hss, kk⟩ => by
    unfold pDx at hp
    split at hp
    case h_2 => cases hp
    rename_i m' ss0 mm d hat hq
    split at hp
    case isFalse => cases hp
    rename_i hdic
    cases hp
    obtain ⟨h1, h2, h3⟩ := pAt_some hat
    rw [hm] at h1; cases h1
    obtain ⟨m3, h4, h5⟩ := subs_snoc_inv hss
    rw [h3] at h4; cases h4
    refine ⟨F, ρ, φ, v0, m, ss0, mm, e, hv, hm, h2, h3, fun v1 f1 rest fc => ⟨F, ρ, φ, e, _, hq, fun vk fk rk => ?_⟩⟩
    obtain ⟨v2, f2, rest2, fc2, a, rfl, hop⟩ := fc.step h3 h5
    refine ⟨a, v2, rfl, ?_, kk v2 f2 rest2 fc2⟩
    cases mm <;> first | exact hop e.sub vk (rep_leaf rk) | cases hdic
theorem dph_lix (ho : DPH X o i qp) (hk : DQ X k qk) (hs : PlainIx k := by intro _ _; rfl) : DPH X (.Subscript o k pos) i (pLx i qp qk) :=
  (pe_ix ix_list ho hk hs).imp fun σ H Q ⟨F, ρ, φ, v0, m, ss, m1, e, hv, hm, hp, hss, kk⟩ => by
    unfold pLx at hp
    split at hp
    case h_2 => cases hp
    rename_i m' ss0 mm d hat hq
    split at hp
    case isFalse => cases hp
    rename_i hdic
    cases hp
    obtain ⟨h1, h2, h3⟩ := pAt_some hat
    rw [hm] at h1; cases h1
    obtain ⟨m3, h4, h5⟩ := subs_snoc_inv hss
    rw [h3] at h4; cases h4
    refine ⟨F, ρ, φ, v0, m, ss0, mm, e, hv, hm, h2, h3, fun v1 f1 rest fc => ⟨F, ρ, φ, e, _, hq, fun vk fk rk => ?_⟩⟩
    obtain ⟨v2, f2, rest2, fc2, a, rfl, hop⟩ := fc.step h3 h5
    cases mm <;> first | cases hdic | skip
    obtain ⟨j, vs, rfl, hH, hix⟩ := hop
    refine ⟨a, vs, j, v2, rfl, isD_int_iff.mp (rep_leaf rk), .inl (.inl hH), ?_, kk v2 f2 rest2 fc2⟩
    unfold atI
    cases hn : ixN vs.length j with
    | none => rw [hn] at hix; cases hix
    | some n => rw [hn] at hix; exact hix
end
/-! ### keys that are laid: read off, or tuples of what is read off -/
def tKy (K : Frag) (k : Env' → Option PyData) : TE := fun σ H Q => ∃ F ρ φ, EnvOk K F H σ ρ φ ∧ ∃ d, k ρ = some d ∧ ∀ F' H' v, Grow F H F' H' [] → IsD K F' d v → Q v H'
abbrev DKy (X : Cx) (e : Expr) (k : Env' → Option PyData) : Prop := PE X e (tKy X.K k)
def tQs (K : Frag) (n : Nat) (ks : Env' → Option (List PyData)) : TA := fun σ H Q => ∃ F ρ φ, EnvOk K F H σ ρ φ ∧ ∃ ds, ks ρ = some ds ∧ ∀ vs, IsDs K F ds vs → vs.length = n → Q vs H
abbrev DQs (X : Cx) (n : Nat) (es : List Expr) (ks : Env' → Option (List PyData)) : Prop := PA X es (tQs X.K n ks)
def kNil : Env' → Option (List PyData) := fun _ => some []
def kCons (q : Env' → Option M) (r : Env' → Option (List PyData)) : Env' → Option (List PyData) := fun ρ => match q ρ, r ρ with
  | some (.leaf d), some ds => some (d :: ds)
  | _, _ => none
def kQ (q : Env' → Option M) : Env' → Option PyData := fun ρ => match q ρ with
  | some (.leaf d) => some d
  | _ => none
def kTup (r : Env' → Option (List PyData)) : Env' → Option PyData := fun ρ => (r ρ).map .tuple
def okD (o : Option PyData) (ρ : Env') : R M := match o with
  | some u => .ok (.leaf u) ρ
  | none => .bad
@[simp] theorem okD_some (u : PyData) (ρ : Env') : okD (some u) ρ = .ok (.leaf u) ρ := rfl
/-- place.get(k, x) -/
def mGetK (qo : Env' → Option M) (kk : Env' → Option PyData) (qx : Env' → Option M) : Env' → R M := fun ρ => okD ((qo ρ).bind fun x => (kk ρ).bind fun d => (qx ρ).bind fun z => gDGet x (.leaf d) z) ρ
/-- place[k] -/
def mDixK (qo : Env' → Option M) (kk : Env' → Option PyData) : Env' → R M := fun ρ => okD ((qo ρ).bind fun x => (kk ρ).bind fun d => gDIx x (.leaf d)) ρ
/-- place[k] = e -/
def mPutK (i : Nat) (qp : Env' → Option (List Stp)) (mv : Env' → R M) (kk : Env' → Option PyData) : Env' → O := fun ρ => match mv ρ with
  | .ok y ρ1 => match pAt i qp ρ1, kk ρ1 with
    | some (m, ss, m1), some d => match m1.put d y with
      | some m' => .next (ρ1.set i (some (m.setSubs ss m')))
      | none => .bad
    | _, _ => .bad
  | .err x ρ1 => .err x ρ1
  | .bad => .bad
section
variable {X : Cx} {E : XK} {J : List Nat} {i : Nat} {o k x e : Expr} {es : List Expr} {n : Nat} {qp : Env' → Option (List Stp)} {q qo qx : Env' → Option M} {kk : Env' → Option PyData} {ks : Env' → Option (List PyData)} {mv : Env' → R M} {pos pos' apos cpos : Pos}
theorem dqs_nil : DQs X 0 [] kNil := pa_nil.imp fun σ H Q ⟨F, ρ, φ, e, ds, h, k⟩ => by
  cases h
  exact k [] .nil rfl
theorem dqs_cons (ha : DQ X e q) (hr : DQs X n es ks) (hs : starEach (e :: es) X.env = (false, eval e X.env) :: starEach es X.env := by rfl) : DQs X (n + 1) (e :: es) (kCons q ks) :=
  (pa_cons ha hr hs).imp fun σ H Q ⟨F, ρ, φ, e, ds, h, k⟩ => by
    unfold kCons at h
    split at h
    case h_2 => cases h
    rename_i d ds' h1 h2
    cases h
    exact ⟨F, ρ, φ, e, _, h1, fun v f rv => ⟨F, ρ, φ, e, _, h2, fun vs rs hl => k (v :: vs) (.cons (rep_leaf rv) rs) (by simp [hl])⟩⟩
theorem dky_q (h : DQ X e q) : DKy X e (kQ q) := PE.imp h fun σ H Q ⟨F, ρ, φ, e, d, h, k⟩ => by
  unfold kQ at h
  split at h
  case h_2 => cases h
  rename_i d' h1
  cases h
  exact ⟨F, ρ, φ, e, _, h1, fun v f r => k F H v (Grow.refl e.sub) (rep_leaf r)⟩
theorem dky_tup {j : Nat} (h : DQs X n es ks) (hn : n ≤ 1000 := by decide) : DKy X (.Tuple es j pos) (kTup ks) :=
  (pe_tup h).imp fun σ H Q ⟨F, ρ, φ, e, d, h, k⟩ => by
    unfold kTup at h
    rw [Option.map_eq_some_iff] at h
    obtain ⟨ds, h, rfl⟩ := h
    refine ⟨F, ρ, φ, e, ds, h, fun vs rs hl => ⟨Nat.le_trans (by omega) (show 1000 ≤ sizeLine by decide), fun p hp => ?_⟩⟩
    have g : Grow F H (L2.upd F p (.tup vs)) (L2.upd H p (.tup vs)) [] := Grow.frz1 e.sub hp
    exact k _ _ _ g (isD_tup upd_same (rs.mono g.mono))
theorem de_getK (hu : X.A.units + 1 < cLine) (ho : DQ X o qo) (hk : DKy X k kk) (hx : DQ X x qx) (m : M2 X o "get" apos k x cpos := by exact ⟨rfl, rfl, rfl, rfl⟩) : DE X E (.Call (.Attribute o "get" apos) [k, x] [] cpos) (mGetK qo kk qx) :=
  (pe_dget2 hu ho hk hx m).imp fun σ H Q ⟨F, ρ, φ, e, q⟩ => by
    unfold mGetK at q
    cases hq : ((qo ρ).bind fun x => (kk ρ).bind fun d => (qx ρ).bind fun z => gDGet x (.leaf d) z) with
    | none => rw [hq] at q; exact q.elim
    | some u =>
      rw [hq] at q
      simp only [Option.bind_eq_some_iff] at hq
      obtain ⟨x, h1, d, h2, z, h3, hg⟩ := hq
      refine ⟨F, ρ, φ, e, x, h1, fun v f r => ?_⟩
      have hg' := hg
      unfold gDGet at hg'
      cases hl : x.look d with
      | none => cases z <;> simp [hl] at hg'
      | some ov =>
        obtain ⟨ds, hkv⟩ := look_kv hl
        obtain ⟨a, rfl, hd⟩ := kv_isD e.sub r hkv
        refine ⟨a, rfl, hd, F, ρ, φ, e, d, h2, fun F1 H1 vk g rk => ⟨F1, ρ, φ, g.env e, z, h3, fun vz fz rz => ?_⟩⟩
        obtain ⟨a', e', _, o', g', q'⟩ := gDGet_rep (Q := Q) (g.env e).sub (g.rep r) rk rz hg fun v' hv => q F1 H1 φ v' [] (g.env e) (.leaf hv) (fun a ha => by simp at ha) g.ext
        cases e'
        exact ⟨o', g', q'⟩
theorem de_dixK (hu : X.A.units + 1 < cLine) (ho : DQ X o qo) (hk : DKy X k kk) (hs : NoSl k := by intro _ _; rfl) : DE X E (.Subscript o k pos) (mDixK qo kk) :=
  (pe_dget hu ho hk hs).imp fun σ H Q ⟨F, ρ, φ, e, q⟩ => by
    unfold mDixK at q
    cases hq : ((qo ρ).bind fun x => (kk ρ).bind fun d => gDIx x (.leaf d)) with
    | none => rw [hq] at q; exact q.elim
    | some u =>
      rw [hq] at q
      simp only [Option.bind_eq_some_iff] at hq
      obtain ⟨x, h1, d, h2, hg⟩ := hq
      refine ⟨F, ρ, φ, e, x, h1, fun v f r => ⟨F, ρ, φ, e, d, h2, fun F1 H1 vk g rk => ?_⟩⟩
      exact r_dix (K := X.K) F1 H1 v x f vk (.leaf d) [] u Q (g.env e).sub (g.rep r) (.leaf rk) hg fun v' hv => q F1 H1 φ v' [] (g.env e) (.leaf hv) (fun a ha => by simp at ha) g.ext
theorem ds_putK (hu : X.A.units + 1 < cLine) (he : DE X E e mv) (ho : DPH X o i qp) (hk : DKy X k kk) (hs : swapsWithSole [.Subscript o k pos'] e pos.line X.env = pure false := by rfl) (hw : swappedStores [.Subscript o k pos'] e X.env = pure none := by rfl)
    (h1 : (assignEach [.Subscript o k pos'] X.env).map (·.2) = [assign (.Subscript o k pos') X.env] := by rfl)
    (ha : ∀ v, assign (.Subscript o k pos') X.env v = (do
      let ov ← holding [v] (eval o X.env)
      let iv ← holding [v, ov] (eval k X.env)
      standAt pos'
      holding [v, ov, iv] (setItem ov iv v)
      release [v, ov, iv] []) := by intro _; rfl) : DS X E J (.Assign [.Subscript o k pos'] e pos) (mPutK i qp mv kk) := (ps_asg he (pg_sub ho hk (set_any hu) ha) hs hw h1).imp fun D σ H ⟨F, ρ, φ, e, q⟩ => by
  refine ⟨F, ρ, φ, e, ?_⟩
  unfold mPutK at q
  cases hm : mv ρ with
  | bad => rw [hm] at q; exact q.elim
  | err x ρ' => rw [hm] at q; exact q.err
  | ok y ρ1 =>
    rw [hm] at q
    dsimp only at q
    intro F1 H1 φ1 vy f e1 r1 d1 x1
    split at q
    case h_2 => exact q.elim
    rename_i m ss m1 d hat hq
    obtain ⟨h1, h2, h3⟩ := pAt_some hat
    obtain ⟨v, hv, rv⟩ := e1.rep i m (qName_some h1)
    refine ⟨F1, ρ1, φ1, v, m, ss, m1, e1, hv, h1, h2, h3, fun v1 f1 rest hol => ⟨F1, ρ1, φ1, e1, d, hq, fun F2 H2 vk g rk => ?_⟩⟩
    cases hp : m1.put d y with
    | none => rw [hp] at q; exact q.elim
    | some m' =>
      rw [hp] at q
      have e2 := g.env e1
      have fc := (hol.stay (g.stay rv.fp)).foc (g.rep rv)
      have dm : ∀ a ∈ f, a ∉ f1 := fun a ha hb => d1 a ha ⟨i, fc.sub a hb⟩
      obtain ⟨c, ob, fp', g1, g2, g3, g4⟩ := rep_put e2.sub fc.rep rk (g.rep r1) dm hp
      refine g4 _ ?_
      obtain ⟨fp2, r2, s2⟩ := fc.back c ob m' fp' g1 g3 fun a ha => by
        rcases g2 a ha with z | z
        · exact .inl z
        · exact .inr fun zz => d1 a z ⟨i, zz⟩
      have s2' : ∀ a ∈ fp2, a ∈ φ1 i ∨ a ∈ f := fun a ha => by
        rcases s2 a ha with z | z
        · exact .inl z
        · exact (g2 a z).imp (fc.sub a) id
      have e4 := e2.mut (qName_some h1) hv (fc.sub c g1) r2 fun a ha => (s2' a ha).imp id fun h z => d1 a h z
      refine q _ _ _ σ e4 (((x1.trans g.ext0).upd (D := c) (.inl ⟨i, fc.sub c g1⟩)).less fun a h => ?_) .refl
      rcases om_mut h with h | h
      · exact .inl h
      · exact (s2' a h).imp (fun h => ⟨i, h⟩) id
end
def lfD : M → Option PyData
  | .leaf d => some d
  | _ => none
@[simp] theorem lfD_leaf (d : PyData) : lfD (.leaf d) = some d := rfl
@[simp] theorem ap_getK (qo : Env' → Option M) (kk : Env' → Option PyData) (qx : Env' → Option M) (ρ : Env') : mGetK qo kk qx ρ = okD ((qo ρ).bind fun x => (kk ρ).bind fun d => (qx ρ).bind fun z => gDGet x (.leaf d) z) ρ := rfl
@[simp] theorem ap_dixK (qo : Env' → Option M) (kk : Env' → Option PyData) (ρ : Env') : mDixK qo kk ρ = okD ((qo ρ).bind fun x => (kk ρ).bind fun d => gDIx x (.leaf d)) ρ := rfl
@[simp] theorem ap_kNil (ρ : Env') : kNil ρ = some [] := rfl
@[simp] theorem ap_kCons (q : Env' → Option M) (r : Env' → Option (List PyData)) (ρ : Env') : kCons q r ρ = (q ρ).bind fun x => (lfD x).bind fun d => (r ρ).map (d :: ·) := by
  unfold kCons
  cases q ρ with
  | none => rfl
  | some x => cases x <;> first | (cases r ρ <;> rfl) | rfl
@[simp] theorem ap_kQ (q : Env' → Option M) (ρ : Env') : kQ q ρ = (q ρ).bind lfD := by
  unfold kQ
  cases q ρ with
  | none => rfl
  | some x => cases x <;> rfl
@[simp] theorem ap_kTup (r : Env' → Option (List PyData)) (ρ : Env') : kTup r ρ = (r ρ).map .tuple := rfl
end G
namespace G
open PySem PySem.Spec PyProof.Rows L2

/-! ### sums by strengths, then keys of any kind -/
abbrev RwG (κ : Type) := List (κ × Int)
abbrev FdG (κ : Type) := List (Int × RwG κ)
section
variable {κ : Type} [DecidableEq κ]
def bpR (r : RwG κ) (p : κ) (n : Int) : RwG κ := putG r p ((getG r p).getD 0 + n)
def bpF (fd : FdG κ) (s : Int) (p : κ) (n : Int) : FdG κ := putG fd s (bpR ((getG fd s).getD []) p n)
def smR (r : RwG κ) (ω : κ → Int) : Int := (r.map fun y => y.2 * ω y.1).sum
def smF (fd : FdG κ) (ω : κ → Int → Int) : Int := (fd.map fun x => smR x.2 fun p => ω p x.1).sum
structure RwOk (q : κ → Prop) (r : RwG κ) : Prop where
  nd : (r.map (·.1)).Nodup
  mem : ∀ y ∈ r, q y.1 ∧ 1 ≤ y.2
structure FgOk (Q : κ → Int → Prop) (S : Int) (fd : FdG κ) : Prop where
  nd : (fd.map (·.1)).Nodup
  str : ∀ x ∈ fd, 0 ≤ x.1 ∧ x.1 ≤ S ∧ (x.1 = 0 → x.2 = [])
  row : ∀ x ∈ fd, RwOk (fun k => Q k x.1) x.2
theorem RwOk.nil {q : κ → Prop} : RwOk q [] := ⟨by simp, by simp⟩
theorem RwOk.bump {q : κ → Prop} {r : RwG κ} (h : RwOk q r) {p : κ} {n : Int} (hp : q p) (hn : 1 ≤ n) : RwOk q (bpR r p n) := by
  refine ⟨nodup_putG h.nd _ _, fun y hy => ?_⟩
  rcases (mem_putG_iff h.nd).mp hy with ⟨_, hy⟩ | rfl
  · exact h.mem y hy
  · refine ⟨hp, ?_⟩
    cases hg : getG r p with
    | none => simpa using hn
    | some v => have := (h.mem _ (getG_mem hg)).2; simp at this ⊢; omega
theorem FgOk.nil {Q : κ → Int → Prop} {S : Int} : FgOk Q S ([] : FdG κ) := ⟨by simp, by simp, by simp⟩
theorem FgOk.get {Q : κ → Int → Prop} {S : Int} {fd : FdG κ} (h : FgOk Q S fd) (s : Int) : RwOk (fun k => Q k s) ((getG fd s).getD []) := by
  cases hg : getG fd s with
  | none => exact .nil
  | some r => exact h.row _ (getG_mem hg)
theorem FgOk.bump {Q : κ → Int → Prop} {S : Int} {fd : FdG κ} (h : FgOk Q S fd) {s : Int} {p : κ} {n : Int} (h1 : 1 ≤ s) (h2 : s ≤ S) (hp : Q p s) (hn : 1 ≤ n) : FgOk Q S (bpF fd s p n) := by
  refine ⟨nodup_putG h.nd _ _, fun x hx => ?_, fun x hx => ?_⟩
  · rcases (mem_putG_iff h.nd).mp hx with ⟨_, hx⟩ | rfl
    · exact h.str x hx
    · exact ⟨by dsimp only; omega, h2, fun z => by dsimp only at z; omega⟩
  · rcases (mem_putG_iff h.nd).mp hx with ⟨_, hx⟩ | rfl
    · exact h.row x hx
    · exact (h.get s).bump hp hn
theorem smR_bump {r : RwG κ} (nd : (r.map (·.1)).Nodup) (p : κ) (n : Int) (ω : κ → Int) : smR (bpR r p n) ω = smR r ω + n * ω p := by
  unfold smR bpR
  have := sum_putG (φ := fun p n => n * ω p) (k := p) (v := (getG r p).getD 0 + n) nd
  rw [this]
  cases getG r p with
  | none => simp
  | some v => simp [Int.add_mul]; omega
theorem smF_bump {Q : κ → Int → Prop} {S : Int} {fd : FdG κ} (h : FgOk Q S fd) (s : Int) (p : κ) (n : Int) (ω : κ → Int → Int) : smF (bpF fd s p n) ω = smF fd ω + n * ω p s := by
  unfold smF bpF
  have := sum_putG (φ := fun s r => smR r fun p => ω p s) (k := s) (v := bpR ((getG fd s).getD []) p n) h.nd
  rw [this, smR_bump (h.get s).nd]
  cases getG fd s with
  | none => simp [smR]
  | some v => simp; omega
theorem FgOk.len {Q : κ → Int → Prop} {S : Int} {fd : FdG κ} (h : FgOk Q S fd) : fd.length ≤ S.toNat + 1 := by
  have := nodup_le (l := fd.map (·.1)) (m := (List.range (S.toNat + 1)).map fun i => ((i : Nat) : Int)) h.nd fun s hs => by
    obtain ⟨x, hx, rfl⟩ := List.mem_map.mp hs
    obtain ⟨h1, h2, _⟩ := h.str x hx
    exact List.mem_map.mpr ⟨x.1.toNat, List.mem_range.mpr (by omega), by omega⟩
  simpa using this
theorem RwOk.len {q : κ → Prop} {r : RwG κ} (h : RwOk q r) {P : List κ} (hP : ∀ k, q k → k ∈ P) : r.length ≤ P.length := by
  have := nodup_le (l := r.map (·.1)) (m := P) h.nd fun s hs => by
    obtain ⟨x, hx, rfl⟩ := List.mem_map.mp hs
    exact hP _ (h.mem x hx).1
  simpa using this
/-- what comes of one, weighed -/
def UG (kd : κ → Int → List (κ × Int)) (g : κ → Int → Int) : Nat → κ → Int → Int
  | 0, _, _ => 0
  | k + 1, p, s => g p s + ((kd p s).map fun x => UG kd g k x.1 x.2).sum
/-- what is made is weaker -/
def Dec (kd : κ → Int → List (κ × Int)) : Prop := ∀ p s, 1 ≤ s → ∀ x ∈ kd p s, 1 ≤ x.2 ∧ x.2 < s
theorem UG_fuel {kd : κ → Int → List (κ × Int)} (h : Dec kd) (g : κ → Int → Int) : ∀ (k k' : Nat) (p : κ) (s : Int), 1 ≤ s → s.toNat ≤ k → s.toNat ≤ k' → UG kd g k p s = UG kd g k' p s
  | 0, _, p, s, hs, h1, _ => by omega
  | _ + 1, 0, p, s, hs, _, h2 => by omega
  | k + 1, k' + 1, p, s, hs, h1, h2 => by
    simp only [UG]
    congr 1
    refine sum_congr fun x hx => ?_
    obtain ⟨l1, l2⟩ := h p s hs x hx
    exact UG_fuel h g k k' _ _ l1 (by omega) (by omega)
def VG (kd : κ → Int → List (κ × Int)) (g : κ → Int → Int) (p : κ) (s : Int) : Int := UG kd g s.toNat p s
theorem VG_eq {kd : κ → Int → List (κ × Int)} (h : Dec kd) (g : κ → Int → Int) {p : κ} {s : Int} (hs : 1 ≤ s) : VG kd g p s = g p s + ((kd p s).map fun x => VG kd g x.1 x.2).sum := by
  unfold VG
  obtain ⟨k, hk⟩ : ∃ k, s.toNat = k + 1 := ⟨s.toNat - 1, by omega⟩
  rw [hk]
  simp only [UG]
  congr 1
  refine sum_congr fun x hx => ?_
  obtain ⟨l1, l2⟩ := h p s hs x hx
  exact UG_fuel h g _ _ _ _ l1 (by omega) (by omega)
/-- the weights when all above c is done -/
def wtG (kd : κ → Int → List (κ × Int)) (g : κ → Int → Int) (c : Int) (p : κ) (t : Int) : Int := if t ≤ c then VG kd g p t else g p t
theorem smR_perm {l m : RwG κ} (h : l.Perm m) (ω : κ → Int) : smR l ω = smR m ω := perm_sum (h.map _)
theorem smR_add (r : RwG κ) (a b : κ → Int) : smR r (fun p => a p + b p) = smR r a + smR r b := by
  induction r with
  | nil => rfl
  | cons y r ih =>
    simp only [smR, List.map_cons, List.sum_cons, Int.mul_add] at ih ⊢
    omega
theorem smR_congr {r : RwG κ} {a b : κ → Int} (h : ∀ p, a p = b p) : smR r a = smR r b := by rw [funext h]
theorem smF_at {fd : FdG κ} (nd : (fd.map (·.1)).Nodup) {s : Int} {ω ω' : κ → Int → Int} (h : ∀ p t, t ≠ s → ω p t = ω' p t) : smF fd ω = smF fd ω' + smR ((getG fd s).getD []) fun p => ω p s - ω' p s := by
  induction fd with
  | nil => simp [smF, smR, getG_nil]
  | cons x fd ih =>
    simp only [List.map_cons, List.nodup_cons] at nd
    have ih := ih nd.2
    simp only [smF, List.map_cons, List.sum_cons] at ih ⊢
    rw [getG_cons]
    by_cases e : x.1 = s
    · rw [if_pos e]
      subst e
      have hn : getG fd x.1 = none := getG_none.mpr nd.1
      rw [hn] at ih
      simp only [Option.getD_none, smR, List.map_nil, List.sum_nil] at ih
      simp only [Option.getD_some]
      have : smR x.2 (fun p => ω p x.1) = smR x.2 (fun p => ω' p x.1) + smR x.2 fun p => ω p x.1 - ω' p x.1 := by
        rw [← smR_add]
        exact smR_congr fun p => by omega
      rw [this]
      simp only [smR] at ih ⊢
      omega
    · rw [if_neg e, ih]
      have : smR x.2 (fun p => ω p x.1) = smR x.2 (fun p => ω' p x.1) := smR_congr fun p => h _ _ e
      rw [this]
      omega
theorem smF_congr {fd : FdG κ} {ω ω' : κ → Int → Int} (h : ∀ x ∈ fd, x.2 ≠ [] → ∀ p, ω p x.1 = ω' p x.1) : smF fd ω = smF fd ω' := sum_congr fun x hx => by
  by_cases e : x.2 = []
  · rw [e]; rfl
  · exact smR_congr fun p => h x hx e p
theorem smF_end {Q : κ → Int → Prop} {S : Int} {fd : FdG κ} (hf : FgOk Q S fd) (kd : κ → Int → List (κ × Int)) (g : κ → Int → Int) : smF fd g = smF fd (wtG kd g 0) := smF_congr fun x hx ne p => by
  unfold wtG
  obtain ⟨h1, _, h3⟩ := hf.str x hx
  rw [if_neg]
  intro z
  exact ne (h3 (by omega))
/-! one step, in any order of the keys -/
def kidsG (kd : κ → Int → List (κ × Int)) (s : Int) (fd : FdG κ) (y : κ × Int) : FdG κ := (kd y.1 s).foldl (fun fd x => bpF fd x.2 x.1 y.2) fd
def stepG (kd : κ → Int → List (κ × Int)) (s : Int) (L : RwG κ) (fd : FdG κ) : FdG κ := L.foldl (kidsG kd s) fd
/-- what is made stays within Q -/
def Within (kd : κ → Int → List (κ × Int)) (Q : κ → Int → Prop) (S : Int) : Prop := ∀ p s, 1 ≤ s → s ≤ S → Q p s → ∀ x ∈ kd p s, Q x.1 x.2
theorem kidsG_pot {kd : κ → Int → List (κ × Int)} {Q : κ → Int → Prop} {S : Int} (h : Dec kd) (hw : Within kd Q S) {s : Int} (h1 : 1 ≤ s) (h2 : s ≤ S) {y : κ × Int} (hy : Q y.1 s ∧ 1 ≤ y.2) (ω : κ → Int → Int) {fd : FdG κ} (hf : FgOk Q S fd) :
    FgOk Q S (kidsG kd s fd y) ∧ smF (kidsG kd s fd y) ω = smF fd ω + y.2 * ((kd y.1 s).map fun x => ω x.1 x.2).sum := by
  unfold kidsG
  have : ∀ (L : List (κ × Int)) (fd : FdG κ), (∀ x ∈ L, x ∈ kd y.1 s) → FgOk Q S fd → FgOk Q S (L.foldl (fun fd x => bpF fd x.2 x.1 y.2) fd) ∧ smF (L.foldl (fun fd x => bpF fd x.2 x.1 y.2) fd) ω = smF fd ω + y.2 * (L.map fun x => ω x.1 x.2).sum := by
    intro L
    induction L with
    | nil => intro fd _ hf; exact ⟨hf, by simp⟩
    | cons x L ih =>
      intro fd hL hf
      obtain ⟨l1, l2⟩ := h y.1 s h1 x (hL x (by simp))
      obtain ⟨i1, i2⟩ := ih _ (fun z hz => hL z (by simp [hz])) (hf.bump l1 (by omega) (hw _ _ h1 h2 hy.1 x (hL x (by simp))) hy.2)
      rw [List.foldl_cons]
      refine ⟨i1, ?_⟩
      rw [i2, smF_bump hf]
      simp only [List.map_cons, List.sum_cons, Int.mul_add]
      omega
  exact this _ fd (fun _ hx => hx) hf
theorem stepG_pot {kd : κ → Int → List (κ × Int)} {Q : κ → Int → Prop} {S : Int} (h : Dec kd) (hw : Within kd Q S) {s : Int} (h1 : 1 ≤ s) (h2 : s ≤ S) (ω : κ → Int → Int) : ∀ {L : RwG κ} {fd : FdG κ}, (∀ y ∈ L, Q y.1 s ∧ 1 ≤ y.2) → FgOk Q S fd →
    FgOk Q S (stepG kd s L fd) ∧ smF (stepG kd s L fd) ω = smF fd ω + smR L fun p => ((kd p s).map fun x => ω x.1 x.2).sum := by
  intro L
  induction L with
  | nil => intro fd _ hf; exact ⟨hf, by simp [smR, stepG]⟩
  | cons y L ih =>
    intro fd hL hf
    have e : stepG kd s (y :: L) fd = stepG kd s L (kidsG kd s fd y) := rfl
    obtain ⟨k1, k2⟩ := kidsG_pot h hw h1 h2 (hL y (by simp)) ω hf
    obtain ⟨i1, i2⟩ := ih (fun z hz => hL z (by simp [hz])) k1
    rw [e]
    refine ⟨i1, ?_⟩
    rw [i2, k2]
    simp only [smR, List.map_cons, List.sum_cons]
    omega
theorem wt_step {kd : κ → Int → List (κ × Int)} (h : Dec kd) {s : Int} (h1 : 1 ≤ s) (g : κ → Int → Int) (p : κ) : wtG kd g s p s - wtG kd g (s - 1) p s = ((kd p s).map fun x => wtG kd g (s - 1) x.1 x.2).sum := by
  have : ((kd p s).map fun x => wtG kd g (s - 1) x.1 x.2) = (kd p s).map fun x => VG kd g x.1 x.2 :=
    List.map_congr_left fun x hx => by unfold wtG; rw [if_pos (by have := (h p s h1 x hx).2; omega)]
  rw [this]
  unfold wtG
  rw [if_pos (Int.le_refl s), if_neg (by omega), VG_eq h g h1]
  omega
theorem wt_off {kd : κ → Int → List (κ × Int)} {s : Int} (g : κ → Int → Int) (p : κ) (t : Int) (ht : t ≠ s) : wtG kd g s p t = wtG kd g (s - 1) p t := by
  unfold wtG
  by_cases e : t ≤ s - 1
  · rw [if_pos e, if_pos (by omega)]
  · rw [if_neg e, if_neg (by omega)]
theorem stepG_wt {kd : κ → Int → List (κ × Int)} {Q : κ → Int → Prop} {S : Int} (h : Dec kd) (hw : Within kd Q S) {s : Int} (h1 : 1 ≤ s) (h2 : s ≤ S) (g : κ → Int → Int) {fd : FdG κ} (hf : FgOk Q S fd) {L : RwG κ} (hL : L.Perm ((getG fd s).getD [])) :
    FgOk Q S (stepG kd s L fd) ∧ smF (stepG kd s L fd) (wtG kd g (s - 1)) = smF fd (wtG kd g s) := by
  have hL1 : ∀ y ∈ L, Q y.1 s ∧ 1 ≤ y.2 := fun y hy => (hf.get s).mem y (hL.mem_iff.mp hy)
  obtain ⟨k1, k2⟩ := stepG_pot h hw h1 h2 (wtG kd g (s - 1)) hL1 hf
  refine ⟨k1, ?_⟩
  rw [k2, smR_perm hL, smF_at hf.nd (s := s) (ω := wtG kd g s) (ω' := wtG kd g (s - 1)) (fun p t ht => wt_off g p t ht)]
  congr 1
  exact smR_congr fun p => (wt_step h h1 g p).symm
end
/-! ### places and ticks -/
abbrev PT := Str × Int
def kdT (W : List Way) (weak : Int) (sh : List Int) (p : PT) (s : Int) : List (PT × Int) := (kids W weak sh p.1 s).map fun x => ((x.1.to, p.2 + x.1.tk), less s x.1)
theorem kdT_dec {W : List Way} {weak : Int} {sh : List Int} (h : WebOk W weak) : Dec (kdT W weak sh) := fun p s hs x hx => by
  obtain ⟨y, hy, rfl⟩ := List.mem_map.mp hx
  exact kid_lt h hs hy
def QT (P : List Str) (S : Int) (p : PT) (s : Int) : Prop := p.1 ∈ P ∧ 0 ≤ p.2 ∧ p.2 ≤ 100 * (S - s)
theorem kdT_in {W : List Way} {weak : Int} {sh : List Int} (h : WebOk W weak) {P : List Str} (hP : ∀ w ∈ W, w.to ∈ P) {S : Int} : Within (kdT W weak sh) (QT P S) S := fun p s h1 h2 hq x hx => by
  obtain ⟨y, hy, rfl⟩ := List.mem_map.mp hx
  obtain ⟨_, hm, _, _, _⟩ := kids_mem hy
  obtain ⟨l1, l2⟩ := kid_lt h h1 hy
  have hk := (h.way _ hm).tk1
  have hk2 := (h.way _ hm).tk2
  obtain ⟨q1, q2, q3⟩ := hq
  exact ⟨hP _ hm, by dsimp only; omega, by dsimp only; omega⟩
def univT (P : List Str) (S : Int) : List PT := P.flatMap fun p => (List.range (100 * S.toNat + 1)).map fun i => (p, ((i : Nat) : Int))
theorem QT_univ {P : List Str} {S : Int} (hS : 0 ≤ S) {p : PT} {s : Int} (hs : 0 ≤ s) (h : QT P S p s) : p ∈ univT P S := by
  obtain ⟨h1, h2, h3⟩ := h
  refine List.mem_flatMap.mpr ⟨p.1, h1, List.mem_map.mpr ⟨p.2.toNat, List.mem_range.mpr (by omega), ?_⟩⟩
  rw [Int.toNat_of_nonneg h2]
theorem univT_len (P : List Str) (S : Int) : (univT P S).length = P.length * (100 * S.toNat + 1) := by
  unfold univT
  generalize 100 * S.toNat + 1 = n
  induction P with
  | nil => simp
  | cons p P ih => simp only [List.flatMap_cons, List.length_append, ih, List.length_map, List.length_range, List.length_cons, Nat.succ_mul]; omega
/-- all that comes of letters, weighed by place, tick, strength -/
def tot3 (W : List Way) (weak : Int) (sh : List Int) (Ls : List Ltr) (g : PT → Int → Int) : Int := (Ls.map fun l => l.n * VG (kdT W weak sh) g (l.p, 0) l.s).sum
end G
namespace G
open PySem PySem.Spec PyProof.Rows L2

/-! ### sums by strengths, places, ticks: the dicts in one another -/
section
variable {κ κ' α β : Type} [DecidableEq κ] [DecidableEq κ']
theorem getG_mapK {f : κ → κ'} (hf : ∀ a b, f a = f b → a = b) {h : κ → α → β} {k : κ} : ∀ {l : List (κ × α)}, getG (l.map fun x => (f x.1, h x.1 x.2)) (f k) = (getG l k).map (h k)
  | [] => rfl
  | p :: r => by
    rw [List.map_cons, getG_cons, getG_cons, getG_mapK hf]
    by_cases e : p.1 = k
    · subst e; simp
    · simp only [e, if_false]; rw [if_neg fun z => e (hf _ _ z)]
theorem putG_mapK {f : κ → κ'} (hf : ∀ a b, f a = f b → a = b) {h : κ → α → β} {k : κ} {v : α} : ∀ {l : List (κ × α)}, putG (l.map fun x => (f x.1, h x.1 x.2)) (f k) (h k v) = (putG l k v).map fun x => (f x.1, h x.1 x.2) := by
  intro l
  have ha : (l.map fun x => (f x.1, h x.1 x.2)).any (fun kv => decide (kv.1 = f k)) = l.any fun kv => decide (kv.1 = k) := by
    rw [List.any_map]
    refine List.any_eq.trans ?_ |>.trans List.any_eq.symm
    simp only [Function.comp_apply, decide_eq_true_eq]
    congr 1
    apply propext
    constructor
    · rintro ⟨x, hx, e⟩; exact ⟨x, hx, hf _ _ e⟩
    · rintro ⟨x, hx, e⟩; exact ⟨x, hx, by rw [e]⟩
  unfold putG
  rw [ha]
  split
  · rw [List.map_map, List.map_map]
    refine List.map_congr_left fun x _ => ?_
    simp only [Function.comp_apply]
    by_cases e : x.1 = k
    · subst e; simp
    · rw [if_neg e, if_neg fun z => e (hf _ _ z)]
  · simp
end
theorem openL_get (l : List (Key × M)) (k : Key) : getG (openL l k) k = some ((getG l k).getD (.dK [])) := by
  unfold openL
  cases hg : getG l k with
  | some m => simp only [Option.getD_some]; exact hg
  | none =>
    have := getG_none.mp hg
    clear hg
    induction l with
    | nil => simp [getG_cons]
    | cons q r ih =>
      simp only [List.map_cons, List.mem_cons, not_or] at this
      rw [List.cons_append, getG_cons, if_neg fun z => this.1 z.symm]
      exact ih this.2
theorem openL_put (l : List (Key × M)) (k : Key) (y : M) : putG (openL l k) k y = putG l k y := by
  unfold openL
  cases hg : getG l k with
  | some m => rfl
  | none =>
    have := getG_none.mp hg
    clear hg
    rw [putG_new this]
    induction l with
    | nil => exact putG_cons_eq (k, M.dK []) [] y (by simp)
    | cons q r ih =>
      simp only [List.map_cons, List.mem_cons, not_or] at this
      rw [List.cons_append, putG_cons_ne (fun z => this.1 z.symm), ih this.2, List.cons_append]
def tkM (r : TkR) : List (Key × M) := r.map fun y => (Sum.inl y.1, M.leaf (.int y.2))
def tkK (r : TkR) : List (PyData × PyData) := r.map fun y => (.int y.1, .int y.2)
def tkX (b : Bool) (r : TkR) : M := if b then .leaf (.dict (tkK r)) else .dK (tkM r)
def plM (b : Bool) (row : PlR) : List (Key × M) := row.map fun x => (Sum.inr x.1, tkX b x.2)
/-- .. all at strengths from c upwards frozen -/
def t3L (c : Int) (fd : Fd3) : List (Key × M) := fd.map fun x => (Sum.inl x.1, M.dK (plM (decide (c ≤ x.1)) x.2))
theorem getG_tkM (r : TkR) (t : Int) : getG (tkM r) (.inl t) = (getG r t).map fun n => M.leaf (.int n) := getG_map (f := Sum.inl) (h := fun n => M.leaf (.int n)) inl_inj
theorem putG_tkM (r : TkR) (t n : Int) : putG (tkM r) (.inl t) (.leaf (.int n)) = tkM (putG r t n) := putG_map (f := Sum.inl) (h := fun n => M.leaf (.int n)) inl_inj
theorem getG_plM (b : Bool) (row : PlR) (p : Str) : getG (plM b row) (.inr p) = (getG row p).map (tkX b) := getG_map (f := Sum.inr) (h := tkX b) inr_inj
theorem putG_plM (b : Bool) (row : PlR) (p : Str) (r : TkR) : putG (plM b row) (.inr p) (tkX b r) = plM b (putG row p r) := putG_map (f := Sum.inr) (h := tkX b) inr_inj
theorem getG_t3L (c : Int) (fd : Fd3) (s : Int) : getG (t3L c fd) (.inl s) = (getG fd s).map fun row => M.dK (plM (decide (c ≤ s)) row) := getG_mapK (f := Sum.inl) (h := fun s row => M.dK (plM (decide (c ≤ s)) row)) inl_inj
theorem putG_t3L (c : Int) (fd : Fd3) (s : Int) (row : PlR) : putG (t3L c fd) (.inl s) (.dK (plM (decide (c ≤ s)) row)) = t3L c (putG fd s row) := putG_mapK (f := Sum.inl) (h := fun s row => M.dK (plM (decide (c ≤ s)) row)) inl_inj
def old3 (fd : Fd3) (s : Int) (p : Str) : TkR := (getG ((getG fd s).getD []) p).getD []
def put3 (fd : Fd3) (s : Int) (p : Str) (r : TkR) : Fd3 := putG fd s (putG ((getG fd s).getD []) p r)
theorem bump3_put (fd : Fd3) (s : Int) (p : Str) (t n : Int) : bump3 fd s p t n = put3 fd s p (bumpT (old3 fd s p) t n) := rfl
theorem run_bor {i r : Nat} {qa qb : Env' → Option M} {mb : Env' → O} {ρ ρ2 : Env'} {fd : Fd3} {c s : Int} {p : Str} {r' : TkR} (hi : qName i ρ = some (.dK (t3L c fd))) (ha : qa ρ = some (.leaf (.int s))) (hs : s < c) (hb : ∀ x, qb (ρ.set i (some x)) = some (.leaf (.str p))) (hir : i ≠ r) (hr : r < ρ.length)
    (hl : fd.length < 1000000) (hl2 : ((getG fd s).getD []).length < 1000000) (hm : mb ((ρ.set i none).set r (some (.dK (tkM (old3 fd s p))))) = .next ρ2) (hq : qName r ρ2 = some (.dK (tkM r'))) :
    mBor i r qa qb mb ρ = .next ((ρ2.set i (some (.dK (t3L c (put3 fd s p r'))))).set r none) := by
  have hc : decide (c ≤ s) = false := decide_eq_false (by omega)
  have g1 : getG (openL (t3L c fd) (.inl s)) (.inl s) = some (.dK (plM false ((getG fd s).getD []))) := by
    rw [openL_get, getG_t3L, hc]
    cases getG fd s <;> rfl
  have g2 : getG (openL (plM false ((getG fd s).getD [])) (.inr p)) (.inr p) = some (.dK (tkM (old3 fd s p))) := by
    rw [openL_get, getG_plM]
    unfold old3
    cases getG ((getG fd s).getD []) p <;> rfl
  have g3 : putG (openL (t3L c fd) (.inl s)) (.inl s) (.dK (putG (openL (plM false ((getG fd s).getD [])) (.inr p)) (.inr p) (.dK (tkM r')))) = t3L c (put3 fd s p r') := by
    rw [openL_put, openL_put]
    have := putG_plM false ((getG fd s).getD []) p r'
    simp only [tkX, Bool.false_eq_true, if_false] at this
    rw [this]
    have := putG_t3L c fd s (putG ((getG fd s).getD []) p r')
    rw [hc] at this
    rw [this]; rfl
  unfold mBor
  rw [hi, ha]
  simp only [keyOf, g1, hb, g2]
  rw [if_pos ⟨by simp [t3L]; omega, by simp [plM]; omega, hir, hr⟩, hm]
  simp only [hq, g3]
/-- row[t] = row.get(t, 0) + n -/
theorem run_tick {r : Nat} {qt : Env' → Option M} {mk : Env' → R M} {qn : Env' → Option M} {ρ : Env'} {rw' : TkR} {t n : Int} (hr : qName r ρ = some (.dK (tkM rw'))) (ht : qt ρ = some (.leaf (.int t))) (hk : mk ρ = .ok (.leaf (.int t)) ρ) (hn : qn ρ = some (.leaf (.int n))) (hl : rw'.length < 1000000) :
    mPut r (mQ (q2 gAddS (q3 gDGet (qName r) qt (qC (.int 0))) qn)) mk ρ = .next (ρ.set r (some (.dK (tkM (bumpT rw' t n))))) := by
  have g : gDGet (.dK (tkM rw')) (.leaf (.int t)) (.leaf (.int 0)) = some (.int ((getG rw' t).getD 0)) := by
    simp only [gDGet, M.look, keyOf, Option.map_some, getG_tkM]
    cases getG rw' t <;> rfl
  have hv : mQ (q2 gAddS (q3 gDGet (qName r) qt (qC (.int 0))) qn) ρ = .ok (.leaf (.int ((getG rw' t).getD 0 + n))) ρ := by
    rw [ap_Q, ap_q2, ap_q3, hr, ht]
    simp only [ap_C, Option.bind_some, g, Option.map_some, hn, gAddS, rd_leaf]
  have hp : (M.dK (tkM rw')).put (.int t) (.leaf (.int ((getG rw' t).getD 0 + n))) = some (.dK (tkM (bumpT rw' t n))) := by
    simp only [M.put, keyOf]
    rw [if_pos (by simp [tkM]; omega), putG_tkM]
    rfl
  rw [ap_put, hv]
  simp only [R.oo_ok, hr, oO_some, hk, frz_leaf, Option.bind_some, hp, putO_some]
end G
namespace G
open PySem PySem.Spec PyProof.Rows L2

/-! ### the sums by strengths, places, ticks: laid flat -/
def flatR (row : PlR) : RwG PT := row.flatMap fun x => x.2.map fun y => ((x.1, y.1), y.2)
def flatF (fd : Fd3) : FdG PT := fd.map fun x => (x.1, flatR x.2)
structure F3Ok (P : List Str) (S : Int) (fd : Fd3) : Prop where
  nd : (fd.map (·.1)).Nodup
  row : ∀ x ∈ fd, PlOk x.2
  str : ∀ x ∈ fd, 1 ≤ x.1 ∧ x.1 ≤ S
  mem : ∀ x ∈ fd, ∀ y ∈ x.2, y.2 ≠ [] ∧ y.1 ∈ P ∧ ∀ z ∈ y.2, QT P S (y.1, z.1) x.1 ∧ 1 ≤ z.2
section
variable {P : List Str} {S : Int}
theorem F3Ok.nil : F3Ok P S [] := ⟨by simp, by simp, by simp, by simp⟩
theorem F3Ok.base {fd : Fd3} (h : F3Ok P S fd) : Fd3Ok fd := ⟨h.nd, h.row⟩
theorem F3Ok.bump {fd : Fd3} (h : F3Ok P S fd) {s : Int} {p : Str} {t n : Int} (h1 : 1 ≤ s) (h2 : s ≤ S) (hq : QT P S (p, t) s) (hn : 1 ≤ n) : F3Ok P S (bump3 fd s p t n) := by
  have b := h.base.bump s p t n
  refine ⟨b.nd, b.row, fun x hx => ?_, fun x hx y hy => ?_⟩
  · rcases (mem_putG_iff h.nd).mp hx with ⟨_, hx⟩ | rfl
    · exact h.str x hx
    · exact ⟨h1, h2⟩
  · rcases (mem_putG_iff h.nd).mp hx with ⟨_, hx⟩ | rfl
    · exact h.mem x hx y hy
    · have old : ∀ y ∈ (getG fd s).getD [], y.2 ≠ [] ∧ y.1 ∈ P ∧ ∀ z ∈ y.2, QT P S (y.1, z.1) s ∧ 1 ≤ z.2 := by
        cases hg : getG fd s with
        | none => simp
        | some r => exact h.mem _ (getG_mem hg)
      rcases (mem_putG_iff (h.base.get s).nd).mp hy with ⟨_, hy⟩ | rfl
      · exact old y hy
      · refine ⟨putG_ne _ _ _, hq.1, fun z hz => ?_⟩
        have oz : ∀ z ∈ (getG ((getG fd s).getD []) p).getD [], QT P S (p, z.1) s ∧ 1 ≤ z.2 := by
          cases hg : getG ((getG fd s).getD []) p with
          | none => simp
          | some r => exact (old _ (getG_mem hg)).2.2
        rcases (mem_putG_iff ((h.base.get s).get p)).mp hz with ⟨_, hz⟩ | rfl
        · exact oz z hz
        · refine ⟨hq, ?_⟩
          cases hg : getG ((getG ((getG fd s).getD []) p).getD []) t with
          | none => simpa using hn
          | some v => have := (oz _ (getG_mem hg)).2; simp at this ⊢; omega
theorem flatR_nd {row : PlR} (h : PlOk row) : ((flatR row).map (·.1)).Nodup := by
  have : ∀ l : PlR, (l.map (·.1)).Nodup → (∀ x ∈ l, (x.2.map (·.1)).Nodup) → ((flatR l).map (·.1)).Nodup := by
    intro l
    induction l with
    | nil => intro _ _; simp [flatR]
    | cons x l ih =>
      intro nd hl
      simp only [List.map_cons, List.nodup_cons] at nd
      have e : flatR (x :: l) = (x.2.map fun y => ((x.1, y.1), y.2)) ++ flatR l := rfl
      rw [e, List.map_append, List.nodup_append]
      refine ⟨?_, ih nd.2 fun y hy => hl y (by simp [hy]), ?_⟩
      · have nr := hl x (by simp)
        rw [List.map_map]
        have : ((fun y : PT × Int => y.1) ∘ fun y : Int × Int => ((x.1, y.1), y.2)) = fun y => (x.1, y.1) := rfl
        rw [this]
        generalize x.2 = r at nr
        induction r with
        | nil => simp
        | cons y r ihr =>
          simp only [List.map_cons, List.nodup_cons] at nr ⊢
          refine ⟨fun z => ?_, ihr nr.2⟩
          obtain ⟨w, hw, e2⟩ := List.mem_map.mp z
          simp only [Prod.mk.injEq, true_and] at e2
          exact nr.1 (List.mem_map.mpr ⟨w, hw, e2⟩)
      · intro a ha b hb e2
        subst e2
        obtain ⟨u, hu, rfl⟩ := List.mem_map.mp ha
        obtain ⟨y, _, rfl⟩ := List.mem_map.mp hu
        obtain ⟨v, hv, e3⟩ := List.mem_map.mp hb
        unfold flatR at hv
        obtain ⟨x2, hx2, hv⟩ := List.mem_flatMap.mp hv
        obtain ⟨w, _, rfl⟩ := List.mem_map.mp hv
        simp only [Prod.mk.injEq] at e3
        exact nd.1 (List.mem_map.mpr ⟨x2, hx2, e3.1⟩)
  exact this row h.nd h.tk
theorem F3Ok.flat {fd : Fd3} (h : F3Ok P S fd) : FgOk (QT P S) S (flatF fd) := by
  refine ⟨by unfold flatF; rw [List.map_map]; exact h.nd, fun x hx => ?_, fun x hx => ?_⟩
  · obtain ⟨y, hy, rfl⟩ := List.mem_map.mp hx
    have := h.str y hy
    exact ⟨by dsimp only; omega, this.2, fun z => by dsimp only at z; omega⟩
  · obtain ⟨y, hy, rfl⟩ := List.mem_map.mp hx
    refine ⟨flatR_nd (h.row y hy), fun z hz => ?_⟩
    obtain ⟨w, hw, hz⟩ := List.mem_flatMap.mp hz
    obtain ⟨u, hu, rfl⟩ := List.mem_map.mp hz
    exact (h.mem y hy w hw).2.2 u hu
theorem smR_flat (row : PlR) (ω : PT → Int) : smR (flatR row) ω = sumP row fun p t => ω (p, t) := by
  unfold sumP smR flatR
  induction row with
  | nil => rfl
  | cons x row ih =>
    rw [List.flatMap_cons, List.map_append, List.sum_append, List.map_cons, List.sum_cons, ih, List.map_map]
    rfl
theorem smF_flat (fd : Fd3) (g : PT → Int → Int) : smF (flatF fd) g = sum3 fd fun p t s => g (p, t) s := by
  unfold smF sum3 flatF
  rw [List.map_map]
  exact sum_congr fun x _ => smR_flat x.2 fun p => g p x.1
theorem get_flatF (fd : Fd3) (s : Int) : (getG (flatF fd) s).getD [] = flatR ((getG fd s).getD []) := by
  have : getG (flatF fd) s = (getG fd s).map flatR := getG_map (f := fun x : Int => x) (h := flatR) (fun _ _ e => e)
  rw [this]
  cases getG fd s <;> rfl
/-! ### one strength -/
def bumpTs (ticks : TkR) (d : Int) (r : TkR) : TkR := ticks.foldl (fun r y => bumpT r (y.1 + d) y.2) r
def kid3 (s : Int) (ticks : TkR) (fd : Fd3) (x : Way × Nat) : Fd3 := put3 fd (less s x.1) x.1.to (bumpTs ticks x.1.tk (old3 fd (less s x.1) x.1.to))
def kids3 (W : List Way) (weak : Int) (s : Int) (fd : Fd3) (y : Str × TkR) : Fd3 := (kids W weak [] y.1 s).foldl (kid3 s y.2) fd
def step3 (W : List Way) (weak : Int) (fd : Fd3) (s : Int) : Fd3 := ((getG fd s).getD []).foldl (kids3 W weak s) fd
def dp3 (W : List Way) (weak : Int) (n : Nat) (fd : Fd3) : Fd3 := (downs n).foldl (step3 W weak) fd
def init3 (Ls : List Ltr) : Fd3 := Ls.foldl (fun fd l => bump3 fd l.s l.p 0 l.n) []
theorem old3_put (fd : Fd3) (s : Int) (p : Str) (a : TkR) : old3 (put3 fd s p a) s p = a := by
  unfold old3 put3
  rw [putG_get, Option.getD_some, putG_get, Option.getD_some]
theorem put3_put (fd : Fd3) (s : Int) (p : Str) (a b : TkR) : put3 (put3 fd s p a) s p b = put3 fd s p b := by
  unfold put3
  rw [putG_get, Option.getD_some, putG_twice, putG_twice]
theorem kid3_eq (s : Int) {ticks : TkR} (hne : ticks ≠ []) (fd : Fd3) (x : Way × Nat) : kid3 s ticks fd x = ticks.foldl (fun fd y => bump3 fd (less s x.1) x.1.to (y.1 + x.1.tk) y.2) fd := by
  have : ∀ (r : TkR) (a : TkR), r.foldl (fun fd y => bump3 fd (less s x.1) x.1.to (y.1 + x.1.tk) y.2) (put3 fd (less s x.1) x.1.to a) = put3 fd (less s x.1) x.1.to (bumpTs r x.1.tk a) := by
    intro r
    induction r with
    | nil => intro a; rfl
    | cons y r ih =>
      intro a
      rw [List.foldl_cons, bump3_put, put3_put, old3_put, ih]
      rfl
  cases ticks with
  | nil => exact absurd rfl hne
  | cons y r => rw [List.foldl_cons, bump3_put, this]; rfl
theorem sum_swap {α β : Type} (f : α → β → Int) : ∀ (L : List α) (M : List β), (L.map fun x => (M.map fun y => f x y).sum).sum = (M.map fun y => (L.map fun x => f x y).sum).sum
  | [], M => by
    induction M with
    | nil => rfl
    | cons y M ih => simpa using ih
  | x :: L, M => by
    rw [List.map_cons, List.sum_cons, sum_swap f L M]
    induction M with
    | nil => rfl
    | cons y M ih => simp only [List.map_cons, List.sum_cons] at ih ⊢; omega
theorem sum_mul {α : Type} (c : Int) (f : α → Int) : ∀ L : List α, (L.map fun x => c * f x).sum = c * (L.map f).sum
  | [] => by simp
  | x :: L => by simp only [List.map_cons, List.sum_cons, sum_mul c f L, Int.mul_add]
section
variable {W : List Way} {weak : Int} (h : WebOk W weak) (hP : ∀ w ∈ W, w.to ∈ P)
include h hP
/-- a row at s, as it may be walked -/
def RowAt (P : List Str) (S s : Int) (y : Str × TkR) : Prop := y.2 ≠ [] ∧ y.1 ∈ P ∧ ∀ z ∈ y.2, QT P S (y.1, z.1) s ∧ 1 ≤ z.2
omit h hP in
theorem F3Ok.at {fd : Fd3} (hf : F3Ok P S fd) (s : Int) : ∀ y ∈ (getG fd s).getD [], RowAt P S s y := by
  cases hg : getG fd s with
  | none => simp
  | some r => exact hf.mem _ (getG_mem hg)
theorem kid3_pot {s : Int} (h1 : 1 ≤ s) (h2 : s ≤ S) {y : Str × TkR} (hy : RowAt P S s y) {x : Way × Nat} (hx : x ∈ kids W weak [] y.1 s) {fd : Fd3} (hf : F3Ok P S fd) (ω : Str → Int → Int → Int) :
    F3Ok P S (kid3 s y.2 fd x) ∧ sum3 (kid3 s y.2 fd x) ω = sum3 fd ω + (y.2.map fun z => z.2 * ω x.1.to (z.1 + x.1.tk) (less s x.1)).sum := by
  rw [kid3_eq s hy.1]
  obtain ⟨l1, l2⟩ := kid_lt h h1 hx
  have hm := (kids_mem hx).2.1
  have hk := h.way _ hm
  have : ∀ (r : TkR) (fd : Fd3), (∀ z ∈ r, z ∈ y.2) → F3Ok P S fd → F3Ok P S (r.foldl (fun fd y => bump3 fd (less s x.1) x.1.to (y.1 + x.1.tk) y.2) fd) ∧ sum3 (r.foldl (fun fd y => bump3 fd (less s x.1) x.1.to (y.1 + x.1.tk) y.2) fd) ω = sum3 fd ω + (r.map fun z => z.2 * ω x.1.to (z.1 + x.1.tk) (less s x.1)).sum := by
    intro r
    induction r with
    | nil => intro fd _ hf; exact ⟨hf, by simp⟩
    | cons z r ih =>
      intro fd hr hf
      obtain ⟨⟨q1, q2, q3⟩, q4⟩ := hy.2.2 z (hr z (by simp))
      have hq : QT P S (x.1.to, z.1 + x.1.tk) (less s x.1) := ⟨hP _ hm, by have := hk.tk1; dsimp only at q2 ⊢; omega, by have := hk.tk2; dsimp only at q3 ⊢; omega⟩
      obtain ⟨i1, i2⟩ := ih _ (fun w hw => hr w (by simp [hw])) (hf.bump l1 (by omega) hq q4)
      rw [List.foldl_cons]
      refine ⟨i1, ?_⟩
      rw [i2, sum3_bump hf.base, List.map_cons, List.sum_cons]
      omega
  exact this y.2 fd (fun _ hz => hz) hf
theorem kids3_pot {s : Int} (h1 : 1 ≤ s) (h2 : s ≤ S) {y : Str × TkR} (hy : RowAt P S s y) {fd : Fd3} (hf : F3Ok P S fd) (g : PT → Int → Int) :
    F3Ok P S (kids3 W weak s fd y) ∧ (sum3 (kids3 W weak s fd y) fun p t s => g (p, t) s) = (sum3 fd fun p t s => g (p, t) s) + (y.2.map fun z => z.2 * ((kdT W weak [] (y.1, z.1) s).map fun x => g x.1 x.2).sum).sum := by
  have : ∀ (L : List (Way × Nat)) (fd : Fd3), (∀ x ∈ L, x ∈ kids W weak [] y.1 s) → F3Ok P S fd → F3Ok P S (L.foldl (kid3 s y.2) fd) ∧ (sum3 (L.foldl (kid3 s y.2) fd) fun p t s => g (p, t) s) = (sum3 fd fun p t s => g (p, t) s) + (L.map fun x => (y.2.map fun z => z.2 * g (x.1.to, z.1 + x.1.tk) (less s x.1)).sum).sum := by
    intro L
    induction L with
    | nil => intro fd _ hf; exact ⟨hf, by simp⟩
    | cons x L ih =>
      intro fd hL hf
      obtain ⟨k1, k2⟩ := kid3_pot h hP h1 h2 hy (hL x (by simp)) hf fun p t s => g (p, t) s
      obtain ⟨i1, i2⟩ := ih _ (fun w hw => hL w (by simp [hw])) k1
      rw [List.foldl_cons]
      refine ⟨i1, ?_⟩
      rw [i2, k2, List.map_cons, List.sum_cons]
      omega
  obtain ⟨i1, i2⟩ := this (kids W weak [] y.1 s) fd (fun _ hx => hx) hf
  refine ⟨i1, ?_⟩
  unfold kids3
  rw [i2, sum_swap]
  congr 1
  refine sum_congr fun z _ => ?_
  rw [sum_mul]
  congr 1
  unfold kdT
  rw [List.map_map]
  rfl
theorem step3_pot {s : Int} (h1 : 1 ≤ s) (h2 : s ≤ S) {L : PlR} (hL : ∀ y ∈ L, RowAt P S s y) {fd : Fd3} (hf : F3Ok P S fd) (g : PT → Int → Int) :
    F3Ok P S (L.foldl (kids3 W weak s) fd) ∧ smF (flatF (L.foldl (kids3 W weak s) fd)) g = smF (flatF fd) g + smR (flatR L) fun q => ((kdT W weak [] q s).map fun x => g x.1 x.2).sum := by
  rw [smF_flat, smF_flat]
  induction L generalizing fd with
  | nil => exact ⟨hf, by simp [smR, flatR]⟩
  | cons y L ih =>
    obtain ⟨k1, k2⟩ := kids3_pot h hP h1 h2 (hL y (by simp)) hf g
    obtain ⟨i1, i2⟩ := ih (fun w hw => hL w (by simp [hw])) k1
    rw [List.foldl_cons]
    refine ⟨i1, ?_⟩
    rw [i2, k2]
    have e : flatR (y :: L) = (y.2.map fun z => ((y.1, z.1), z.2)) ++ flatR L := rfl
    rw [e]
    unfold smR
    rw [List.map_append, List.sum_append, List.map_map]
    have : ((fun z : PT × Int => z.2 * ((kdT W weak [] z.1 s).map fun x => g x.1 x.2).sum) ∘ fun z : Int × Int => ((y.1, z.1), z.2)) = fun z => z.2 * ((kdT W weak [] (y.1, z.1) s).map fun x => g x.1 x.2).sum := rfl
    rw [this]
    omega
theorem step3_wt {s : Int} (h1 : 1 ≤ s) (h2 : s ≤ S) {fd : Fd3} (hf : F3Ok P S fd) (g : PT → Int → Int) :
    F3Ok P S (step3 W weak fd s) ∧ smF (flatF (step3 W weak fd s)) (wtG (kdT W weak []) g (s - 1)) = smF (flatF fd) (wtG (kdT W weak []) g s) := by
  obtain ⟨k1, k2⟩ := step3_pot h hP h1 h2 (hf.at s) hf (wtG (kdT W weak []) g (s - 1))
  refine ⟨k1, ?_⟩
  unfold step3
  rw [k2, smF_at hf.flat.nd (s := s) (ω := wtG (kdT W weak []) g s) (ω' := wtG (kdT W weak []) g (s - 1)) (fun p t ht => wt_off g p t ht), get_flatF]
  congr 1
  exact smR_congr fun p => (wt_step (kdT_dec h) h1 g p).symm
theorem dp3_pot (g : PT → Int → Int) : ∀ (n : Nat) {fd : Fd3}, (n : Int) ≤ S → F3Ok P S fd → F3Ok P S (dp3 W weak n fd) ∧ smF (flatF (dp3 W weak n fd)) (wtG (kdT W weak []) g 0) = smF (flatF fd) (wtG (kdT W weak []) g n)
  | 0, fd, _, hf => ⟨hf, rfl⟩
  | n + 1, fd, hn, hf => by
    obtain ⟨ok, pt⟩ := step3_wt h hP (s := ((n + 1 : Nat) : Int)) (by omega) hn hf g
    obtain ⟨i1, i2⟩ := dp3_pot g n (fd := step3 W weak fd ((n + 1 : Nat) : Int)) (by omega) ok
    refine ⟨i1, ?_⟩
    have e : dp3 W weak (n + 1) fd = dp3 W weak n (step3 W weak fd ((n + 1 : Nat) : Int)) := rfl
    rw [e, i2, ← pt]
    congr 2
    omega
theorem init3_pot {Ls : List Ltr} (hL : ∀ l ∈ Ls, l.Ok P S) (g : PT → Int → Int) : F3Ok P S (init3 Ls) ∧ smF (flatF (init3 Ls)) g = (Ls.map fun l => l.n * g (l.p, 0) l.s).sum := by
  rw [smF_flat]
  have : ∀ (L : List Ltr) (fd : Fd3), (∀ l ∈ L, l.Ok P S) → F3Ok P S fd → F3Ok P S (L.foldl (fun fd l => bump3 fd l.s l.p 0 l.n) fd) ∧ (sum3 (L.foldl (fun fd l => bump3 fd l.s l.p 0 l.n) fd) fun p t s => g (p, t) s) = (sum3 fd fun p t s => g (p, t) s) + (L.map fun l => l.n * g (l.p, 0) l.s).sum := by
    intro L
    induction L with
    | nil => intro fd _ hf; exact ⟨hf, by simp⟩
    | cons l L ih =>
      intro fd hL hf
      have ho := hL l (by simp)
      obtain ⟨i1, i2⟩ := ih _ (fun z hz => hL z (by simp [hz])) (hf.bump ho.s1 ho.s2 (t := 0) ⟨ho.p, by simp, by have := ho.s2; dsimp only; omega⟩ ho.n)
      rw [List.foldl_cons]
      refine ⟨i1, ?_⟩
      have e : (sum3 (bump3 fd l.s l.p 0 l.n) fun p t s => g (p, t) s) = (sum3 fd fun p t s => g (p, t) s) + l.n * g (l.p, 0) l.s := sum3_bump hf.base l.s l.p 0 l.n _
      rw [i2, e]
      simp only [List.map_cons, List.sum_cons]
      generalize l.n * g (l.p, 0) l.s = c
      omega
  obtain ⟨i1, i2⟩ := this Ls [] hL .nil
  refine ⟨i1, ?_⟩
  unfold init3
  rw [i2]
  simp [sum3]
theorem dp3_all {Ls : List Ltr} (hL : ∀ l ∈ Ls, l.Ok P S) {n : Nat} (hn : (n : Int) ≤ S) (hm : ∀ l ∈ Ls, l.s ≤ n) :
    F3Ok P S (dp3 W weak n (init3 Ls)) ∧ ∀ g, smF (flatF (dp3 W weak n (init3 Ls))) g = tot3 W weak [] Ls g := by
  have i0 := (init3_pot h hP hL (fun _ _ => 0)).1
  refine ⟨(dp3_pot h hP (fun _ _ => 0) n hn i0).1, fun g => ?_⟩
  obtain ⟨i1, i2⟩ := dp3_pot h hP g n hn i0
  rw [smF_end i1.flat (kdT W weak []) g, i2, (init3_pot h hP hL _).2]
  unfold tot3
  exact sum_congr fun l hl => by unfold wtG; rw [if_pos (hm l hl)]
end
/-! lengths -/
theorem F3Ok.len {fd : Fd3} (h : F3Ok P S fd) : fd.length ≤ S.toNat + 1 := by
  have := h.flat.len
  simpa [flatF] using this
theorem F3Ok.len2 {fd : Fd3} (h : F3Ok P S fd) (s : Int) : ((getG fd s).getD []).length ≤ P.length := by
  have := nodup_le (l := ((getG fd s).getD []).map (·.1)) (m := P) (h.base.get s).nd fun p hp => by
    obtain ⟨y, hy, rfl⟩ := List.mem_map.mp hp
    exact (h.at s y hy).2.1
  simpa using this
theorem tk_len {s : Int} (hs : 1 ≤ s) {p : Str} {r : TkR} (nd : (r.map (·.1)).Nodup) (h : ∀ z ∈ r, QT P S (p, z.1) s) : r.length ≤ 100 * S.toNat + 1 := by
  have := nodup_le (l := r.map (·.1)) (m := (List.range (100 * S.toNat + 1)).map fun i => ((i : Nat) : Int)) nd fun t ht => by
    obtain ⟨y, hy, rfl⟩ := List.mem_map.mp ht
    obtain ⟨_, h2, h3⟩ := h y hy
    dsimp only at h2 h3
    exact List.mem_map.mpr ⟨y.1.toNat, List.mem_range.mpr (by omega), by omega⟩
  rw [List.length_map, List.length_map, List.length_range] at this
  exact this
theorem F3Ok.len3 {fd : Fd3} (h : F3Ok P S fd) {s : Int} (hs : 1 ≤ s) (p : Str) : (old3 fd s p).length ≤ 100 * S.toNat + 1 := by
  refine tk_len (P := P) hs (p := p) ((h.base.get s).get p) fun z hz => ?_
  unfold old3 at hz
  cases hg : getG ((getG fd s).getD []) p with
  | none => rw [hg] at hz; simp at hz
  | some r =>
    rw [hg] at hz
    exact ((h.at s _ (getG_mem hg)).2.2 z hz).1
end
end G
namespace G
open PySem PySem.Spec PyProof.Rows L2

/-! ### a list of rows by strengths, keys of any kind -/
section
variable {κ : Type} [DecidableEq κ]
abbrev RwsG (κ : Type) := List (RwG κ)
def fG : Nat → RwsG κ → FdG κ
  | _, [] => []
  | k, r :: rs => ((k : Int), r) :: fG (k + 1) rs
theorem fG_keys : ∀ (rs : RwsG κ) (k : Nat) (s : Int), s ∈ (fG k rs).map (·.1) → (k : Int) ≤ s ∧ s < k + rs.length
  | [], k, s, h => by simp [fG] at h
  | r :: rs, k, s, h => by
    simp only [fG, List.map_cons, List.mem_cons] at h
    rcases h with rfl | h
    · simp; omega
    · have := fG_keys rs (k + 1) s h
      simp only [List.length_cons]; omega
theorem fG_nd : ∀ (rs : RwsG κ) (k : Nat), ((fG k rs).map (·.1)).Nodup
  | [], k => by simp [fG]
  | r :: rs, k => by
    simp only [fG, List.map_cons, List.nodup_cons]
    exact ⟨fun h => by have := fG_keys rs (k + 1) _ h; omega, fG_nd rs (k + 1)⟩
theorem fG_at : ∀ (rs : RwsG κ) (k i : Nat), getG (fG k rs) ((k + i : Nat) : Int) = rs[i]?
  | [], k, i => by simp [fG, getG_nil]
  | r :: rs, k, 0 => by simp [fG, getG_cons]
  | r :: rs, k, i + 1 => by
    simp only [fG, getG_cons, List.getElem?_cons_succ]
    rw [if_neg (by omega), ← fG_at rs (k + 1) i, show k + 1 + i = k + (i + 1) by omega]
theorem fG_set : ∀ (rs : RwsG κ) (k i : Nat) (r : RwG κ), i < rs.length → fG k (rs.set i r) = putG (fG k rs) ((k + i : Nat) : Int) r
  | [], k, i, r, h => by simp at h
  | q :: rs, k, 0, r, h => by
    simp only [List.set_cons_zero, fG]
    have hn : ((k : Int)) ∉ (fG (k + 1) rs).map (·.1) := fun h => by have := fG_keys rs (k + 1) _ h; omega
    exact (putG_cons_eq ((k : Int), q) _ r hn).symm
  | q :: rs, k, i + 1, r, h => by
    simp only [List.set_cons_succ, fG]
    rw [putG_cons_ne (by dsimp only; omega), fG_set rs (k + 1) i r (by simp at h; omega), show k + 1 + i = k + (i + 1) by omega]
theorem fG_get (rs : RwsG κ) {s : Int} (h : 0 ≤ s) : (getG (fG 0 rs) s).getD [] = rs.getD s.toNat [] := by
  have := fG_at rs 0 s.toNat
  rw [Nat.zero_add, Int.toNat_of_nonneg h] at this
  rw [this, List.getD_eq_getElem?_getD]
def bpW (rs : RwsG κ) (s : Int) (p : κ) (n : Int) : RwsG κ := rs.set s.toNat (bpR (rs.getD s.toNat []) p n)
theorem fG_bump (rs : RwsG κ) {s : Int} (h : 0 ≤ s) (h2 : s < rs.length) (p : κ) (n : Int) : fG 0 (bpW rs s p n) = bpF (fG 0 rs) s p n := by
  unfold bpW bpF
  rw [fG_get rs h]
  have := fG_set rs 0 s.toNat (bpR (rs.getD s.toNat []) p n) (by omega)
  rw [Nat.zero_add, Int.toNat_of_nonneg h] at this
  exact this
theorem bpW_len (rs : RwsG κ) (s : Int) (p : κ) (n : Int) : (bpW rs s p n).length = rs.length := by simp [bpW]
theorem bpW_other (rs : RwsG κ) {s t : Int} (p : κ) (n : Int) (h : s.toNat ≠ t.toNat) : (bpW rs s p n).getD t.toNat [] = rs.getD t.toNat [] := by
  unfold bpW
  rw [List.getD_eq_getElem?_getD, List.getElem?_set_ne h, ← List.getD_eq_getElem?_getD]
theorem fG_zero : ∀ (n k : Nat), ∀ x ∈ fG k (List.replicate n ([] : RwG κ)), (k : Int) ≤ x.1 ∧ x.1 < k + n ∧ x.2 = []
  | 0, k, x, h => by simp [fG] at h
  | n + 1, k, x, h => by
    simp only [List.replicate_succ, fG, List.mem_cons] at h
    rcases h with rfl | h
    · refine ⟨by simp, by dsimp only; omega, rfl⟩
    · obtain ⟨h1, h2, h3⟩ := fG_zero n (k + 1) x h
      exact ⟨by omega, by omega, h3⟩
theorem fG_init {Q : κ → Int → Prop} {S : Int} {n : Nat} (h : (n : Int) ≤ S + 1) : FgOk Q S (fG 0 (List.replicate n ([] : RwG κ))) ∧ ∀ ω, smF (fG 0 (List.replicate n ([] : RwG κ))) ω = 0 := by
  refine ⟨⟨fG_nd _ _, fun x hx => ?_, fun x hx => ?_⟩, fun ω => ?_⟩
  · obtain ⟨h1, h2, h3⟩ := fG_zero n 0 x hx
    exact ⟨by omega, by omega, fun _ => h3⟩
  · rw [(fG_zero n 0 x hx).2.2]; exact .nil
  · have : ∀ x ∈ fG 0 (List.replicate n ([] : RwG κ)), smR x.2 (fun p => ω p x.1) = 0 := fun x hx => by rw [(fG_zero n 0 x hx).2.2]; rfl
    unfold smF
    rw [sum_congr this]
    induction (fG 0 (List.replicate n ([] : RwG κ))) with
    | nil => rfl
    | cons a l ih => simpa using ih
/-- by its sums alone -/
theorem smR_ind (p : κ) : ∀ {r : RwG κ}, (r.map (·.1)).Nodup → smR r (fun q => if q = p then 1 else 0) = (getG r p).getD 0
  | [], _ => rfl
  | y :: r, nd => by
    simp only [List.map_cons, List.nodup_cons] at nd
    have ih := smR_ind p nd.2
    unfold smR at ih ⊢
    rw [List.map_cons, List.sum_cons, ih, getG_cons]
    by_cases e : y.1 = p
    · have : getG r p = none := getG_none.mpr fun h => nd.1 (e ▸ h)
      rw [this]; simp [e]
    · simp [e]
theorem nd_pairs {r : RwG κ} (h : (r.map (·.1)).Nodup) : r.Nodup := by
  induction r with
  | nil => simp
  | cons y r ih =>
    simp only [List.map_cons, List.nodup_cons] at h ⊢
    exact ⟨fun z => h.1 (List.mem_map.mpr ⟨y, z, rfl⟩), ih h.2⟩
theorem rw_perm {q q' : κ → Prop} {f g : RwG κ} (hf : RwOk q f) (hg : RwOk q' g) (h : ∀ ω, smR f ω = smR g ω) : f.Perm g := by
  have key : ∀ {q q' : κ → Prop} {f g : RwG κ}, RwOk q f → RwOk q' g → (∀ ω, smR f ω = smR g ω) → ∀ x ∈ f, x ∈ g := by
    intro q q' f g hf hg h x hx
    have e1 := smR_ind x.1 hf.nd
    have e2 := smR_ind x.1 hg.nd
    rw [getG_of_mem hf.nd (show (x.1, x.2) ∈ f from hx)] at e1
    rw [h, e2] at e1
    have hn := (hf.mem x hx).2
    cases hh : getG g x.1 with
    | none => rw [hh] at e1; simp at e1; omega
    | some m =>
      rw [hh] at e1
      simp only [Option.getD_some] at e1
      have := getG_mem hh
      rw [e1] at this
      exact this
  exact (List.perm_ext_iff_of_nodup (nd_pairs hf.nd) (nd_pairs hg.nd)).mpr fun k => ⟨key hf hg h k, key hg hf (fun ω => (h ω).symm) k⟩
end
/-! ### .. places and ticks -/
def ptK (p : PT) : List Key := [.inr p.1, .inl p.2]
def ptD (p : PT) : PyData := .tuple [.str p.1, .int p.2]
theorem ptK_D (p : PT) : keysD (ptK p) = ptD p := rfl
theorem ptK_inj : ∀ a b : PT, ptK a = ptK b → a = b := fun a b e => by
  simp only [ptK, List.cons.injEq, Sum.inr.injEq, Sum.inl.injEq, and_true] at e
  exact Prod.ext e.1 e.2
theorem keysOf_pt (p : PT) : keysOf [.str p.1, .int p.2] = some (ptK p) := rfl
def ptM (r : RwG PT) : List (List Key × M) := r.map fun y => (ptK y.1, M.leaf (.int y.2))
def rwtM (rs : RwsG PT) : M := .lst (rs.map fun r => .dT (ptM r))
theorem getG_ptM (r : RwG PT) (p : PT) : getG (ptM r) (ptK p) = (getG r p).map fun n => M.leaf (.int n) := getG_map (f := ptK) (h := fun n => M.leaf (.int n)) ptK_inj
theorem putG_ptM (r : RwG PT) (p : PT) (n : Int) : putG (ptM r) (ptK p) (.leaf (.int n)) = ptM (putG r p n) := putG_map (f := ptK) (h := fun n => M.leaf (.int n)) ptK_inj
theorem dT_get (r : RwG PT) (p : PT) : gDGet (.dT (ptM r)) (.leaf (ptD p)) (.leaf (.int 0)) = some (.int ((getG r p).getD 0)) := by
  simp only [gDGet, M.look, ptD, keysOf_pt, Option.map_some, getG_ptM]
  cases getG r p <;> rfl
theorem dT_ix {r : RwG PT} {p : PT} {n : Int} (h : getG r p = some n) : gDIx (.dT (ptM r)) (.leaf (ptD p)) = some (.int n) := by
  simp only [gDIx, M.look, ptD, keysOf_pt, Option.map_some, getG_ptM, h, leafD]
theorem dT_put {r : RwG PT} {p : PT} {n : Int} (hl : r.length < 16777216) : (M.dT (ptM r)).put (ptD p) (.leaf (.int n)) = some (.dT (ptM (putG r p n))) := by
  simp only [M.put, ptD, keysOf_pt]
  rw [if_pos (by simpa [ptM] using hl), putG_ptM]
theorem rwt_at {i : Nat} {qk : Env' → Option M} {ρ : Env'} {rs : RwsG PT} {s : Int} (hi : qName i ρ = some (rwtM rs)) (hk : qk ρ = some (.leaf (.int s))) (h : 0 ≤ s) (h2 : s < rs.length) :
    pAt i (pLx i pNil qk) ρ = some (rwtM rs, [.ix (.int s)], .dT (ptM (rs.getD s.toNat []))) := by
  have h0 : pAt i pNil ρ = some (rwtM rs, [], rwtM rs) := by
    unfold pAt pNil; rw [hi]; rfl
  have hx : ixN (rs.map fun r => M.dT (ptM r)).length s = some s.toNat := by
    unfold ixN; rw [if_pos h, if_pos (by simpa using h2)]
  have hs : (rwtM rs).sub (.ix (.int s)) = some (.dT (ptM (rs.getD s.toNat []))) := by
    unfold rwtM
    simp only [M.sub, hx, Option.bind_some, List.getElem?_map]
    have : rs[s.toNat]? = some (rs.getD s.toNat []) := by
      rw [List.getD_eq_getElem?_getD, List.getElem?_eq_getElem (by omega)]; rfl
    rw [this]; rfl
  have hp : pLx i pNil qk ρ = some [.ix (.int s)] := by
    unfold pLx
    rw [h0, hk]
    simp [rwtM, M.isLstM]
  unfold pAt
  rw [hi, hp]
  simp only [Option.bind_some, M.subs, hs, Option.map_some]
theorem rwt_q {i : Nat} {qk : Env' → Option M} {ρ : Env'} {rs : RwsG PT} {s : Int} (hi : qName i ρ = some (rwtM rs)) (hk : qk ρ = some (.leaf (.int s))) (h : 0 ≤ s) (h2 : s < rs.length) : qAt i (pLx i pNil qk) ρ = some (.dT (ptM (rs.getD s.toNat []))) := by
  unfold qAt; rw [rwt_at hi hk h h2]; rfl
theorem rwt_set {rs : RwsG PT} {s : Int} (r : RwG PT) (h : 0 ≤ s) (h2 : s < rs.length) : (rwtM rs).setSubs [.ix (.int s)] (.dT (ptM r)) = rwtM (rs.set s.toNat r) := by
  have hx : ixN (rs.map fun r => M.dT (ptM r)).length s = some s.toNat := by
    unfold ixN; rw [if_pos h, if_pos (by simpa using h2)]
  have hs : (rwtM rs).sub (.ix (.int s)) = some (.dT (ptM (rs.getD s.toNat []))) := by
    unfold rwtM
    simp only [M.sub, hx, Option.bind_some, List.getElem?_map]
    have : rs[s.toNat]? = some (rs.getD s.toNat []) := by
      rw [List.getD_eq_getElem?_getD, List.getElem?_eq_getElem (by omega)]; rfl
    rw [this]; rfl
  simp only [M.setSubs, hs]
  unfold rwtM at *
  simp only [M.setSub, hx, List.map_set]
theorem rwt_putK {i : Nat} {qk : Env' → Option M} {mv : Env' → R M} {kk : Env' → Option PyData} {ρ : Env'} {rs : RwsG PT} {s v : Int} {p : PT} (hi : qName i ρ = some (rwtM rs)) (hk : qk ρ = some (.leaf (.int s))) (h : 0 ≤ s) (h2 : s < rs.length) (hp : kk ρ = some (ptD p)) (hv : mv ρ = .ok (.leaf (.int v)) ρ) (hl : (rs.getD s.toNat []).length < 16777216) :
    mPutK i (pLx i pNil qk) mv kk ρ = .next (ρ.set i (some (rwtM (rs.set s.toNat (putG (rs.getD s.toNat []) p v))))) := by
  unfold mPutK
  rw [hv]
  simp only [rwt_at hi hk h h2, hp, dT_put hl, rwt_set _ h h2]
theorem rwt_putF {i : Nat} {qk qp : Env' → Option M} {mv : Env' → R M} {ρ : Env'} {rs : RwsG PT} {s v : Int} {p : PT} (hi : qName i ρ = some (rwtM rs)) (hk : qk ρ = some (.leaf (.int s))) (h : 0 ≤ s) (h2 : s < rs.length) (hp : qp ρ = some (.leaf (ptD p))) (hv : mv ρ = .ok (.leaf (.int v)) ρ) (hl : (rs.getD s.toNat []).length < 16777216) :
    mPutF i (pLx i pNil qk) mv qp ρ = .next (ρ.set i (some (rwtM (rs.set s.toNat (putG (rs.getD s.toNat []) p v))))) := by
  unfold mPutF
  rw [hv]
  simp only [rwt_at hi hk h h2, hp, dT_put hl, rwt_set _ h h2]
theorem sortOk_pt {l : List PT} (hl : l.length ≤ 16777216) : sortOk (l.map ptD) = true := by
  unfold sortOk
  simp only [Bool.and_eq_true, decide_eq_true_eq, List.all_eq_true, Bool.or_eq_true, List.length_map]
  refine ⟨⟨⟨fun d hd => ?_, fun d hd e he => ?_⟩, .inl fun d hd => ?_⟩, hl⟩
  · obtain ⟨k, hk, rfl⟩ := List.mem_map.mp hd
    exact ⟨rfl, by simp [ptD, PyData.depth, PyData.depthAll]⟩
  · obtain ⟨k, hk, rfl⟩ := List.mem_map.mp hd
    obtain ⟨k, hk, rfl⟩ := List.mem_map.mp he
    rfl
  · obtain ⟨k, hk, rfl⟩ := List.mem_map.mp hd
    rfl
theorem rwt_sort {i : Nat} {qk : Env' → Option M} {ρ : Env'} {rs : RwsG PT} {s : Int} (hi : qName i ρ = some (rwtM rs)) (hk : qk ρ = some (.leaf (.int s))) (h : 0 ≤ s) (h2 : s < rs.length) (hl : (rs.getD s.toNat []).length < 16777216) :
    ∃ L : RwG PT, L.Perm (rs.getD s.toNat []) ∧ m1q gSortK (qAt i (pLx i pNil qk)) ρ = .ok (.lst ((L.map fun y => ptD y.1).map .leaf)) ρ := by
  have ha := rwt_q hi hk h h2
  generalize rs.getD s.toNat [] = r at ha hl
  have hk : (M.dT (ptM r)).kv = some (r.map fun y => ptD y.1) := by
    simp only [M.kv, ptM, List.map_map]
    rfl
  obtain ⟨L, hp, e⟩ := perm_lift (g := fun y : PT × Int => ptD y.1) (List.mergeSort_perm (r.map fun y => ptD y.1) (PySem.W.dataLe false id)) r rfl
  refine ⟨L, hp, ?_⟩
  rw [ap_m1q, ha]
  have hok : sortOk (r.map fun y => ptD y.1) = true := by
    have := sortOk_pt (l := r.map (·.1)) (by simp; omega)
    rwa [List.map_map] at this
  simp only [Option.bind_some, gSortK, hk, hok, if_true, opt_some, ← e]
/-! frozen -/
def ptF (r : RwG PT) : List (PyData × PyData) := (.none, .none) :: r.map fun y => (ptD y.1, .int y.2)
theorem frzT_pt : ∀ r : RwG PT, M.frzT (ptM r) = some (r.map fun y => (ptD y.1, .int y.2))
  | [] => rfl
  | y :: r => by
    have := frzT_pt r
    unfold ptM at this ⊢
    simp only [List.map_cons, M.frzT, M.frz, this]; rfl
theorem frz_pt (r : RwG PT) : (M.dT (ptM r)).frz = some (.dict (ptF r)) := by simp only [M.frz, frzT_pt, Option.map_some, ptF]
theorem frzs_rwt : ∀ rs : RwsG PT, M.frzs (rs.map fun r => M.dT (ptM r)) = some (rs.map fun r => .dict (ptF r))
  | [] => rfl
  | r :: rs => by simp only [List.map_cons, M.frzs, frz_pt, frzs_rwt rs]
theorem frz_rwt (rs : RwsG PT) : (rwtM rs).frz = some (.list (rs.map fun r => .dict (ptF r))) := by
  unfold rwtM
  simp only [M.frz, frzs_rwt, Option.map_some]
theorem tupIs_pt (p q : PT) : tupIs (ptK p) (ptD q) = decide (q = p) := by
  unfold tupIs ptD
  simp only [keysOf_pt]
  by_cases h : q = p
  · subst h; simp
  · have : ¬ ptK q = ptK p := fun z => h (ptK_inj _ _ z)
    simp [h, this]
theorem find_pt (p : PT) : ∀ r : RwG PT, ((r.map fun y => (ptD y.1, PyData.int y.2)).find? fun kd => tupIs (ptK p) kd.1).map (·.2) = (getG r p).map .int
  | [] => rfl
  | y :: r => by
    have ih := find_pt p r
    rw [getG_cons, List.map_cons, List.find?_cons]
    simp only [tupIs_pt] at ih ⊢
    by_cases e : y.1 = p
    · subst e; simp
    · simp only [e, decide_false, if_false]; exact ih
theorem lookD_pt (r : RwG PT) (p : PT) : lookD (ptF r) (ptD p) = some ((getG r p).map .int) := by
  unfold lookD ptF ptD
  simp only [keysOf_pt, Option.map_some]
  exact congrArg some (find_pt p r)
theorem ptF_ix {r : RwG PT} {p : PT} {n : Int} (h : getG r p = some n) : gDIx (.leaf (.dict (ptF r))) (.leaf (ptD p)) = some (.int n) := by
  simp only [gDIx, M.look, lookD_pt, h, Option.map_some, leafD]
theorem keys_ptF (r : RwG PT) : keysOfD (.dict (ptF r)) = some (r.map fun y => ptD y.1) := by
  simp only [keysOfD, ptF, dRows]
  simp
end G
namespace G
open PySem PySem.Spec PyProof.Rows L2

/-! ### slots known one by one -/
@[simp] theorem refs_nil : refs [] = [] := rfl
@[simp] theorem refs_val (m : Env' → R M) (as : List Am) : refs (.val m :: as) = refs as := rfl
@[simp] theorem refs_ref (j : Nat) (as : List Am) : refs (.ref j :: as) = j :: refs as := rfl
theorem refAt_no : ∀ {as : List Am} {k j : Nat}, refs as = [] → refAt as k j = none
  | [], _, _, _ => rfl
  | .val _ :: as, k, j, h => refAt_no (as := as) h
  | .ref _ :: as, _, _, h => by simp [refs] at h
/-- no slot is handed in by reference -/
theorem scat_no {as : List Am} (h : refs as = []) (outs : Env') : ∀ (k : Nat) (ρ : Env'), scat as outs k ρ = ρ
  | _, [] => rfl
  | k, o :: r => by simp only [scat, refAt_no h, scat_no h outs (k + 1) r]
theorem scat_head {as : List Am} (h : refs as = []) (j : Nat) (outs : Env') (ρ : Env') : scat (.ref j :: as) outs 0 ρ = ρ.set j ((outs[0]?).join) := by
  apply List.ext_getElem?
  intro i
  rw [scat_get, List.getElem?_set]
  simp only [Nat.zero_add, refAt_ref]
  by_cases e : j = i
  · subst e
    by_cases hl : j < ρ.length
    · simp [hl]
    · simp [hl]
  · simp only [e, if_false, refAt_no h]
    cases ρ[i]? <;> rfl
/-- behind a call without references -/
theorem call_no {mf : List M → RF} {as : List Am} {ρ ρ1 : Env'} {ds : List (Option PyData)} {ms : List M} {x : M} {outs : Env'} (h : refs as = []) (h1 : evA as ρ = .ok ds ρ1) (h2 : gat as ds ρ1 = some ms) (h3 : mf ms = .ret x outs) : mCall mf as ρ = .ok x ρ1 := by
  rw [ap_call, h1, R.bind_ok, h2, cal_some, h3, RF.back_ret, scat_no h]
/-- .. with one, the first -/
theorem call_hd {mf : List M → RF} {as : List Am} {j : Nat} {ρ ρ1 : Env'} {ds : List (Option PyData)} {ms : List M} {x : M} {o : Option M} {outs : Env'} (h : refs as = []) (h1 : evA (.ref j :: as) ρ = .ok ds ρ1) (h2 : gat (.ref j :: as) ds ρ1 = some ms) (h3 : mf ms = .ret x (o :: outs)) : mCall mf (.ref j :: as) ρ = .ok x (ρ1.set j o) := by
  rw [ap_call, h1, R.bind_ok, h2, cal_some, h3, RF.back_ret, scat_head h]
  rfl
end G
namespace G
open PySem PySem.Spec PyProof.Rows L2

/-! ### all_comings -/
def rowD (y : Str × Int) : PyData := .tuple [.str y.1, .int y.2]
theorem rows_rowM (r : List (Str × Int)) : rowsOf (rowM r) = some ((r.map rowD).map .leaf) := by
  unfold rowsOf rowM
  have h1 : (r.map fun y => ((Sum.inr y.1 : Key), M.leaf (.int y.2))).map (·.2) = (r.map fun y => PyData.int y.2).map .leaf := by simp
  rw [h1, leaves_map]
  simp only [Option.map_some, List.map_map]
  congr 1
  induction r with
  | nil => rfl
  | cons y r ih => simp only [List.map_cons, List.zip_cons_cons, Function.comp_apply, ih (by simp)]; rfl
theorem run_listGet {i : Nat} {qk : Env' → Option M} {ρ : Env'} {fd : Fd} {s : Int} (hi : qName i ρ = some (.dK (fdL fd))) (hk : qk ρ = some (.leaf (.int s))) : mListGet i qk ρ = .ok (.lst ((((getG fd s).getD []).map rowD).map .leaf)) ρ := by
  unfold mListGet
  rw [hi, hk]
  simp only [keyOf, getG_fdL]
  cases getG fd s with
  | none => rfl
  | some r => simp only [Option.map_some, rows_rowM]; rfl
/-- the greatest strength -/
def mxS (Ls : List Ltr) : Nat := (maxI (Ls.map (·.s) ++ [0])).toNat
theorem mxS_ok {P : List Str} {S : Int} {Ls : List Ltr} (hS : 0 ≤ S) (hL : ∀ l ∈ Ls, l.Ok P S) : ((mxS Ls : Nat) : Int) = maxI (Ls.map (·.s) ++ [0]) ∧ (mxS Ls : Int) ≤ S ∧ ∀ l ∈ Ls, l.s ≤ mxS Ls := by
  obtain ⟨h1, h2⟩ := maxI_mem (l := Ls.map (·.s) ++ [0]) (by simp)
  have h0 := h2 0 (by simp)
  unfold mxS
  refine ⟨by omega, ?_, fun l hl => ?_⟩
  · rcases List.mem_append.mp h1 with h | h
    · obtain ⟨l, hl, e⟩ := List.mem_map.mp h
      have := (hL l hl).s2
      omega
    · simp only [List.mem_singleton] at h; omega
  · have := h2 l.s (List.mem_append_left _ (List.mem_map.mpr ⟨l, hl, rfl⟩))
    omega
theorem mx_val {Ls : List Ltr} (hl : Ls.length ≤ 1000) {i j : Nat} {ρ : Env'} (hi : ρ[i]? = some (some (.leaf (LtrsD Ls)))) (hj : ρ[j]? = some none) (hij : j ≠ i) :
    m1 (lf gMax) (m2 (gAdd) (mComp (mIt (mName i)) (gN j) (tTrue) (mQ (q2 gIx (qName j) (qC (.int 1)))) [j]) (mLst (mCons (mQ (qC (.int 0))) (mNil)))) ρ = .ok (.leaf (.int (mxS Ls : Nat))) ρ := by
  obtain ⟨jl, _⟩ := List.getElem?_eq_some_iff.mp hj
  have e1 := comp_map (i := j) (it := mIt (mName i)) (el := mQ (q2 gIx (qName j) (qC (.int 1)))) (f := fun d => match d with | .tuple [_, s, _] => .leaf s | _ => .leaf .none) (ρ0 := ρ) (ρ := ρ) (ds := Ls.map Ltr.D)
    (by simp [hi, LtrsD]) jl (by simp [hj, isLeaf]) (by simp; omega) (fun d hd => by
      obtain ⟨l, hl, rfl⟩ := List.mem_map.mp hd
      simp [jl, Ltr.D, gIx, M.sv, atI, ixN])
  have e2 : (Ls.map Ltr.D).map (fun d => match d with | .tuple [_, s, _] => M.leaf s | _ => M.leaf .none) = (Ls.map fun l => PyData.int l.s).map .leaf := by simp [Ltr.D]
  rw [e2] at e1
  have e3 : gAdd (.lst ((Ls.map fun l => PyData.int l.s).map .leaf)) (.lst [M.leaf (.int 0)]) = some (.lst ((((Ls.map fun l : Ltr => l.s) ++ [0]).map PyData.int).map .leaf)) := by
    have : gAdd (.lst ((Ls.map fun l => PyData.int l.s).map .leaf)) (.lst ([PyData.int 0].map M.leaf)) = some (.lst (((Ls.map fun l => PyData.int l.s) ++ [PyData.int 0]).map .leaf)) := by
      simp only [gAdd, gAddS, M.tv, M.lv, leaves_map]
      rw [if_pos (by simp; omega)]
    simpa [Function.comp_def] using this
  have u1 : ((mxS Ls : Nat) : Int) = maxI (Ls.map (·.s) ++ [0]) := by
    have h0 := (maxI_mem (l := Ls.map (·.s) ++ [0]) (by simp)).2 0 (by simp)
    unfold mxS; omega
  have e4 : gMax (.lst ((((Ls.map fun l : Ltr => l.s) ++ [0]).map PyData.int).map .leaf)) = some (.int (mxS Ls : Nat)) := by
    simp only [gMax, M.lv, leaves_map, Option.bind_some, ints_map, u1]
    rw [if_neg (by simp)]
  have a0 : mLst (mCons (mQ (qC (.int 0))) mNil) ρ = .ok (.lst [M.leaf (.int 0)]) ρ := by simp
  rw [ap_m1, ap_m2, e1, R.bind_ok, a0, R.bind_ok, e3, opt_some, R.bind_ok, ap_lf, e4]
  rfl
theorem it_downs {Ls : List Ltr} (hl : Ls.length ≤ 1000) (hm : mxS Ls ≤ 1000000) {i j : Nat} {ρ : Env'} (hi : ρ[i]? = some (some (.leaf (LtrsD Ls)))) (hj : ρ[j]? = some none) (hij : j ≠ i) :
    mItR3 (mCons (m1 (lf gMax) (m2 (gAdd) (mComp (mIt (mName i)) (gN j) (tTrue) (mQ (q2 gIx (qName j) (qC (.int 1)))) [j]) (mLst (mCons (mQ (qC (.int 0))) (mNil))))) (mCons (mQ (qC (.int 0))) (mCons (mQ (q1 gNeg (qC (.int 1)))) (mNil)))) ρ = .ok ((downs (mxS Ls)).map .int) ρ := by
  have a2 : mCons (mQ (qC (.int 0))) (mCons (mQ (q1 gNeg (qC (.int 1)))) (mNil)) ρ = .ok [.int 0, .int (-1)] ρ := by simp [gNeg]
  rw [ap_itR3, ap_cons, mx_val hl hi hj hij, R.bind_ok, frz_leaf, fz1_some, a2, R.bind_ok, R.bind_ok, rg3_downs hm]
/-- as many rows as strengths, all empty -/
theorem it_rows {Ls : List Ltr} (hl : Ls.length ≤ 1000) (hm : mxS Ls ≤ 100000) {i j k : Nat} {el : Env' → R M} {e : M} (he : ∀ ρ, el ρ = .ok e ρ) {ρ : Env'} (hi : ρ[i]? = some (some (.leaf (LtrsD Ls)))) (hj : ρ[j]? = some none) (hk : ρ[k]? = some none) (hij : j ≠ i) :
    mComp (mItR1 (mCons (m2eq (lf2 gAddS) (m1 (lf gMax) (m2 (gAdd) (mComp (mIt (mName i)) (gN j) (tTrue) (mQ (q2 gIx (qName j) (qC (.int 1)))) [j]) (mLst (mCons (mQ (qC (.int 0))) (mNil))))) (qC (.int 1))) (mNil))) (gN k) (tTrue) el [k] ρ = .ok (.lst (List.replicate (mxS Ls + 1) e)) ρ := by
  obtain ⟨kl, _⟩ := List.getElem?_eq_some_iff.mp hk
  have a3 : m2eq (lf2 gAddS) (m1 (lf gMax) (m2 (gAdd) (mComp (mIt (mName i)) (gN j) (tTrue) (mQ (q2 gIx (qName j) (qC (.int 1)))) [j]) (mLst (mCons (mQ (qC (.int 0))) (mNil))))) (qC (.int 1)) ρ = .ok (.leaf (.int ((mxS Ls : Nat) + 1))) ρ := by
    rw [ap_m2eq, mx_val hl hi hj hij, R.bind_ok]
    rfl
  have a2 : mItR1 (mCons (m2eq (lf2 gAddS) (m1 (lf gMax) (m2 (gAdd) (mComp (mIt (mName i)) (gN j) (tTrue) (mQ (q2 gIx (qName j) (qC (.int 1)))) [j]) (mLst (mCons (mQ (qC (.int 0))) (mNil))))) (qC (.int 1))) (mNil)) ρ = .ok (rangeD 0 1 (mxS Ls + 1)) ρ := by
    rw [ap_itR1, ap_cons, a3, R.bind_ok, frz_leaf, fz1_some, ap_nil, R.bind_ok, R.bind_ok, rg1_ok _ (inR_ok (by omega) (by omega))]
    rfl
  have := comp_map (i := k) (it := mItR1 (mCons (m2eq (lf2 gAddS) (m1 (lf gMax) (m2 (gAdd) (mComp (mIt (mName i)) (gN j) (tTrue) (mQ (q2 gIx (qName j) (qC (.int 1)))) [j]) (mLst (mCons (mQ (qC (.int 0))) (mNil))))) (qC (.int 1))) (mNil))) (el := el) (f := fun _ => e) (ρ0 := ρ) (ρ := ρ) (ds := rangeD 0 1 (mxS Ls + 1)) a2 kl (by simp [hk, isLeaf]) (by simp [rangeD]; omega) (fun d hd => he _)
  have hm : (rangeD 0 1 (mxS Ls + 1)).map (fun _ => e) = List.replicate (mxS Ls + 1) e := by
    have hl : (rangeD 0 1 (mxS Ls + 1)).length = mxS Ls + 1 := by simp [rangeD]
    rw [List.map_const', hl]
  rw [this, hm]
/-! ### rows of ticks, frozen -/
def tkRow (y : Str × TkR) : PyData := .tuple [.str y.1, .dict (tkK y.2)]
theorem frzK_tk : ∀ r : TkR, M.frzK (tkM r) = some (tkK r)
  | [] => rfl
  | y :: r => by
    have := frzK_tk r
    unfold tkM tkK at this ⊢
    simp only [List.map_cons, M.frzK, M.frz, this]; rfl
theorem frz_tkX (b : Bool) (r : TkR) : (tkX b r).frz = some (.dict (tkK r)) := by
  cases b
  · simp only [tkX, Bool.false_eq_true, if_false, M.frz, frzK_tk, Option.map_some]
  · rfl
theorem frzs_pl (b : Bool) : ∀ row : PlR, M.frzs ((plM b row).map (·.2)) = some (row.map fun x => .dict (tkK x.2))
  | [] => rfl
  | x :: row => by
    have := frzs_pl b row
    unfold plM at this ⊢
    simp only [List.map_cons, M.frzs, frz_tkX, this]
theorem run_listGetF {i : Nat} {qk : Env' → Option M} {ρ : Env'} {fd : Fd3} {s : Int} (nd : (fd.map (·.1)).Nodup) (hi : ρ[i]? = some (some (.dK (t3L (s + 1) fd)))) (hk : qk ρ = some (.leaf (.int s))) :
    mListGetF i qk ρ = .ok (.lst ((((getG fd s).getD []).map tkRow).map .leaf)) (ρ.set i (some (.dK (t3L s fd)))) := by
  have hil : i < ρ.length := (List.getElem?_eq_some_iff.mp hi).1
  have hq : qName i ρ = some (.dK (t3L (s + 1) fd)) := by unfold qName; rw [hi]; rfl
  unfold mListGetF
  rw [hq, hk]
  simp only [keyOf, getG_t3L]
  cases hg : getG fd s with
  | none =>
    have hn := getG_none.mp hg
    have : t3L (s + 1) fd = t3L s fd := by
      unfold t3L
      refine List.map_congr_left fun x hx => ?_
      have hne : x.1 ≠ s := fun z => hn (List.mem_map.mpr ⟨x, hx, z⟩)
      have : decide (s + 1 ≤ x.1) = decide (s ≤ x.1) := by congr 1; apply propext; omega
      rw [this]
    simp only [Option.map_none, Option.getD_none, List.map_nil]
    congr 1
    rw [← this]
    apply List.ext_getElem?
    intro j
    rw [List.getElem?_set]
    by_cases e : i = j
    · subst e; rw [if_pos rfl, if_pos hil, hi]
    · rw [if_neg e]
  | some row =>
    simp only [Option.map_some, frzs_pl, Option.getD_some]
    have h1 : ((plM (decide (s + 1 ≤ s)) row).map (·.1)).zip (row.map fun x => PyData.dict (tkK x.2)) = row.map fun x => ((Sum.inr x.1 : Key), PyData.dict (tkK x.2)) := by
      unfold plM
      rw [List.map_map]
      clear hg
      induction row with
      | nil => rfl
      | cons x row ih => simp only [List.map_cons, List.zip_cons_cons, ih, Function.comp_apply]
    have h2 : ((plM (decide (s + 1 ≤ s)) row).map (·.1)).zip ((row.map fun x => PyData.dict (tkK x.2)).map M.leaf) = plM true row := by
      unfold plM
      rw [List.map_map, List.map_map]
      clear hg h1
      induction row with
      | nil => rfl
      | cons x row ih => simp only [List.map_cons, List.zip_cons_cons, ih, Function.comp_apply]; rfl
    rw [h1, h2]
    have h3 : putG (t3L (s + 1) fd) (.inl s) (.dK (plM true row)) = t3L s fd := by
      have hm : (Sum.inl s : Key) ∈ (t3L (s + 1) fd).map (·.1) := by
        refine List.mem_map.mpr ⟨_, getG_mem (v := M.dK (plM (decide (s + 1 ≤ s)) row)) (by rw [getG_t3L, hg]; rfl), rfl⟩
      rw [putG_old hm]
      unfold t3L
      rw [List.map_map]
      refine List.map_congr_left fun x hx => ?_
      simp only [Function.comp_apply]
      by_cases e : x.1 = s
      · have hx2 : x.2 = row := by
          have := getG_of_mem nd (show (x.1, x.2) ∈ fd from hx)
          rw [e, hg] at this
          exact (Option.some.inj this).symm
        have : decide (s ≤ x.1) = true := decide_eq_true (by omega)
        rw [if_pos (by rw [e]), this, hx2]
      · rw [if_neg fun z => e (inl_inj _ _ z)]
        have : decide (s + 1 ≤ x.1) = decide (s ≤ x.1) := by congr 1; apply propext; omega
        rw [this]
    rw [h3, List.map_map, List.map_map]
    rfl
theorem items_tk (r : TkR) : itemsOfD (.dict (tkK r)) = some (r.map fun y => .tuple [.int y.1, .int y.2]) := by
  have h : itemsOfD (.dict (tkK r)) = some ((tkK r).map fun kd => .tuple [kd.1, kd.2]) := by cases r <;> rfl
  rw [h]; simp [tkK]
def plcK (row : PlR) : List (PyData × PyData) := row.map fun x => (.str x.1, .dict (tkK x.2))
def t3K (fd : Fd3) : List (PyData × PyData) := fd.map fun x => (.int x.1, .dict (plcK x.2))
theorem frzK_pl (b : Bool) : ∀ row : PlR, M.frzK (plM b row) = some (plcK row)
  | [] => rfl
  | x :: row => by
    have := frzK_pl b row
    unfold plM plcK at this ⊢
    simp only [List.map_cons, M.frzK, frz_tkX, this]; rfl
theorem frzK_t3 (c : Int) : ∀ fd : Fd3, M.frzK (t3L c fd) = some (t3K fd)
  | [] => rfl
  | x :: fd => by
    have := frzK_t3 c fd
    unfold t3L t3K at this ⊢
    simp only [List.map_cons, M.frzK, M.frz, frzK_pl, this, Option.map_some]; rfl
theorem frz_t3 (c : Int) (fd : Fd3) : (M.dK (t3L c fd)).frz = some (.dict (t3K fd)) := by simp only [M.frz, frzK_t3, Option.map_some]
theorem vals_t3 (fd : Fd3) : valsOfD (.dict (t3K fd)) = some (fd.map fun y => .dict (plcK y.2)) := by
  have h : valsOfD (.dict (t3K fd)) = some ((t3K fd).map (·.2)) := by cases fd <;> rfl
  rw [h]; simp [t3K]
theorem vals_pl (row : PlR) : valsOfD (.dict (plcK row)) = some (row.map fun y => .dict (tkK y.2)) := by
  have h : valsOfD (.dict (plcK row)) = some ((plcK row).map (·.2)) := by cases row <;> rfl
  rw [h]; simp [plcK]
theorem find_pl (p : Str) : ∀ r : PlR, ((plcK r).find? fun kd => decide (keyOf kd.1 = some (.inr p))).map (·.2) = (getG r p).map fun t => .dict (tkK t)
  | [] => rfl
  | y :: r => by
    have ih := find_pl p r
    unfold plcK at ih ⊢
    rw [getG_cons, List.map_cons, List.find?_cons]
    by_cases e : y.1 = p
    · subst e; simp [keyOf]
    · have : decide (keyOf (PyData.str y.1) = some (Sum.inr p : Key)) = false := by
        rw [decide_eq_false_iff_not]; intro z; simp only [keyOf, Option.some.injEq, Sum.inr.injEq] at z; exact e z
      simp only [this, if_neg e]; exact ih
theorem lookD_pl (r : PlR) (p : Str) : lookD (plcK r) (.str p) = some ((getG r p).map fun t => .dict (tkK t)) := by
  have h : lookD (plcK r) (.str p) = (keyOf (.str p)).map fun k => ((plcK r).find? fun kd => decide (keyOf kd.1 = some k)).map (·.2) := by
    cases r <;> rfl
  rw [h, show keyOf (.str p) = some (Sum.inr p) from rfl, Option.map_some, find_pl]
/-! ### _law_rows -/
theorem loop_downs {g : PyData → Env' → Option Env'} {b : Env' → O} (E : Nat → Env' → Prop) (N : Nat) (hs : ∀ c ρ, c + 1 ≤ N → E (c + 1) ρ → ∃ ρ1 ρ2, g (.int ((c + 1 : Nat) : Int)) ρ = some ρ1 ∧ b ρ1 = .next ρ2 ∧ E c ρ2) : ∀ n ρ, n ≤ N → E n ρ → ∃ ρ', mLoop g b ((downs n).map .int) ρ = .next ρ' ∧ E 0 ρ'
  | 0, ρ, _, h => ⟨ρ, rfl, h⟩
  | n + 1, ρ, hn, h => by
    obtain ⟨ρ1, ρ2, h1, h2, h3⟩ := hs n ρ hn h
    simp only [downs, List.map_cons]
    rw [loop_cons h1, h2, O.loop_next]
    exact loop_downs E N hs n ρ2 (by omega) h3
theorem bumpW_len (rs : Rws) (s : Int) (p : Str) (n : Int) : (bumpW rs s p n).length = rs.length := by simp [bumpW]
theorem bumpW_other (rs : Rws) {s t : Int} (p : Str) (n : Int) (h : s.toNat ≠ t.toNat) : (bumpW rs s p n).getD t.toNat [] = rs.getD t.toNat [] := by
  unfold bumpW
  rw [List.getD_eq_getElem?_getD, List.getElem?_set_ne h, ← List.getD_eq_getElem?_getD]
theorem mask_no : ∀ (n i : Nat) (ρ : Env'), mask [] i n ρ = List.replicate n none
  | 0, _, _ => rfl
  | n + 1, i, [] => by simp only [mask, mask_no n, List.replicate_succ]
  | n + 1, i, o :: r => by simp only [mask, mask_no n, List.replicate_succ, List.not_mem_nil, if_false]
theorem mask_hd (n : Nat) (o : Option M) (r : Env') : mask [0] 0 (n + 1) (o :: r) = o :: List.replicate n none := by
  have : ∀ (n i : Nat) (ρ : Env'), 1 ≤ i → mask [0] i n ρ = List.replicate n none := by
    intro n
    induction n with
    | zero => intro i ρ _; rfl
    | succ n ih =>
      intro i ρ hi
      cases ρ with
      | nil => simp only [mask, ih (i + 1) _ (by omega), List.replicate_succ]
      | cons o r => simp only [mask, ih (i + 1) _ (by omega), List.replicate_succ, List.mem_singleton, show ¬ i = 0 by omega, if_false]
  simp [mask, this n 1 r (by omega)]
end G
namespace G
open PySem PySem.Spec PyProof.Rows L2

/-! ### comprehensions of two fors -/
theorem cLoopB_map {i : Nat} {el : Env' → R M} {f : PyData → M} {ρ : Env'} : ∀ {ds : List PyData} {acc : List M}, (∀ d ∈ ds, el (ρ.set i (some (.leaf d))) = .ok (f d) (ρ.set i (some (.leaf d)))) → acc.length + ds.length ≤ 1000000 →
    cLoopB (gN i) tTrue el [i] ds (ρ.set i none) acc = .ok (acc ++ ds.map f) (ρ.set i none)
  | [], acc, _, _ => by simp [cLoopB]
  | d :: ds, acc, h, hl => by
    have e := h d (by simp)
    simp only [List.length_cons] at hl
    rw [cLoopB]
    simp only [gN, List.set_set, ap_true, e]
    rw [if_pos (by omega)]
    simp only [wipeE, List.set_set]
    rw [cLoopB_map (ds := ds) (fun x hx => h x (by simp [hx])) (by simp; omega)]
    simp
theorem cLoop2_map {i j : Nat} (hij : i ≠ j) {it1 : Env' → R (List PyData)} {el : Env' → R M} {ks : PyData → List PyData} {f : PyData → PyData → M} {ρ : Env'} : ∀ {ds : List PyData} {acc : List M},
    (∀ d ∈ ds, it1 ((ρ.set j none).set i (some (.leaf d))) = .ok (ks d) ((ρ.set j none).set i (some (.leaf d))) ∧ ∀ e ∈ ks d, el ((ρ.set i (some (.leaf d))).set j (some (.leaf e))) = .ok (f d e) ((ρ.set i (some (.leaf d))).set j (some (.leaf e)))) → acc.length + (ds.flatMap ks).length ≤ 1000000 →
    cLoop2 (gN i) tTrue it1 (gN j) tTrue el [i, j] [j] ds ((ρ.set j none).set i none) acc = .ok (acc ++ ds.flatMap fun d => (ks d).map (f d)) ((ρ.set j none).set i none)
  | [], acc, _, _ => by simp [cLoop2]
  | d :: ds, acc, h, hl => by
    obtain ⟨e1, e2⟩ := h d (by simp)
    simp only [List.flatMap_cons, List.length_append] at hl
    rw [cLoop2]
    simp only [gN, List.set_set, ap_true, e1]
    have w1 : wipeE ((ρ.set j none).set i (some (.leaf d))) [j] = (ρ.set i (some (.leaf d))).set j none := by
      simp only [wipeE]
      rw [List.set_comm _ _ hij, List.set_set, List.set_comm _ _ hij.symm]
    rw [w1, cLoopB_map (ρ := ρ.set i (some (.leaf d))) e2 (by omega)]
    have w2 : wipeE ((ρ.set i (some (.leaf d))).set j none) [i, j] = (ρ.set j none).set i none := by
      simp only [wipeE, List.set_set]
      rw [List.set_comm _ _ hij, List.set_set, List.set_comm _ _ hij.symm]
    simp only [w2]
    rw [cLoop2_map hij (ds := ds) (fun x hx => h x (by simp [hx])) (by rw [List.length_append, List.length_map]; omega)]
    simp
/-! ### ticks with their numbers -/
def tnK (y : Int × Int) : List Key := [.inl y.1, .inl y.2]
def tnD (y : Int × Int) : PyData := .tuple [.int y.1, .int y.2]
theorem tnK_D (y : Int × Int) : keysD (tnK y) = tnD y := rfl
theorem sortOk_tn {l : List (Int × Int)} (hl : l.length ≤ 16777216) : sortOk (l.map tnD) = true := by
  unfold sortOk
  simp only [Bool.and_eq_true, decide_eq_true_eq, List.all_eq_true, Bool.or_eq_true, List.length_map]
  refine ⟨⟨⟨fun d hd => ?_, fun d hd e he => ?_⟩, .inl fun d hd => ?_⟩, hl⟩
  · obtain ⟨k, hk, rfl⟩ := List.mem_map.mp hd
    exact ⟨rfl, by simp [tnD, PyData.depth, PyData.depthAll]⟩
  · obtain ⟨k, hk, rfl⟩ := List.mem_map.mp hd
    obtain ⟨k, hk, rfl⟩ := List.mem_map.mp he
    rfl
  · obtain ⟨k, hk, rfl⟩ := List.mem_map.mp hd
    rfl
theorem sort_tn {a b : List (Int × Int)} (h : a.Perm b) : sortD (a.map tnD) = sortD (b.map tnD) := by
  have := sortD_permT (h.map tnK)
  rw [List.map_map, List.map_map] at this
  exact this
/-- sorted(d.items()) -/
theorem gSortIt_tk {r : TkR} (hl : r.length ≤ 16777216) : gSortIt (.dK (tkM r)) = some (.lst ((sortD (r.map tnD)).map .leaf)) := by
  have h1 : leaves ((tkM r).map (·.2)) = some (r.map fun y => PyData.int y.2) := by
    have : (tkM r).map (·.2) = (r.map fun y => PyData.int y.2).map .leaf := by unfold tkM; rw [List.map_map, List.map_map]; rfl
    rw [this, leaves_map]
  have h2 : itemRows ((tkM r).map (·.1)) (r.map fun y => PyData.int y.2) = r.map tnD := by
    unfold itemRows tkM
    rw [List.map_map]
    clear h1 hl
    induction r with
    | nil => rfl
    | cons y r ih => simp only [List.map_cons, List.zip_cons_cons, ih]; rfl
  unfold gSortIt
  simp only [h1, Option.bind_some, h2, sortOk_tn hl, if_true]
theorem getE_pl {qd qk : Env' → Option M} {ρ : Env'} {row : PlR} {z : Str} (h1 : qd ρ = some (.leaf (.dict (plcK row)))) (h2 : qk ρ = some (.leaf (.str z))) :
    mItF itemsOfD (mGetE qd qk) ρ = .ok (((getG row z).getD []).map tnD) ρ := by
  have e : mGetE qd qk ρ = match getG row z with | some t => .ok (.leaf (.dict (tkK t))) ρ | none => .ok (.dK []) ρ := by
    unfold mGetE
    rw [h1, h2]
    simp only [M.look, lookD_pl, Option.map_some]
    cases getG row z <;> rfl
  rw [ap_itF, e]
  cases getG row z with
  | none => rfl
  | some t => simp only [R.bind_ok, frz_leaf, Option.bind_some, items_tk, itm_some, Option.getD_some]; rfl
/-- sums taken together -/
def addTs (F t : TkR) : TkR := t.foldl (fun r y => bumpT r y.1 y.2) F
theorem addTs_ok {q : Int → Prop} {F t : TkR} (hF : RwOk q F) (ht : ∀ y ∈ t, q y.1 ∧ 1 ≤ y.2) : RwOk q (addTs F t) ∧ ∀ ω, smR (addTs F t) ω = smR F ω + smR t ω := by
  unfold addTs
  induction t generalizing F with
  | nil => exact ⟨hF, fun ω => by simp [smR]⟩
  | cons y t ih =>
    obtain ⟨q1, q2⟩ := ht y (by simp)
    have hb : RwOk q (bumpT F y.1 y.2) := RwOk.bump hF q1 q2
    obtain ⟨i1, i2⟩ := ih hb fun z hz => ht z (by simp [hz])
    rw [List.foldl_cons]
    refine ⟨i1, fun ω => ?_⟩
    have e : smR (bumpT F y.1 y.2) ω = smR F ω + y.2 * ω y.1 := smR_bump hF.nd y.1 y.2 ω
    rw [i2, e]
    simp only [smR, List.map_cons, List.sum_cons]
    omega
/-- the sums of one place -/
theorem smR_place (z : Str) (ω : Int → Int) : ∀ {row : PlR}, (row.map (·.1)).Nodup → smR (flatR row) (fun p => if p.1 = z then ω p.2 else 0) = smR ((getG row z).getD []) ω
  | [], _ => rfl
  | x :: row, nd => by
    simp only [List.map_cons, List.nodup_cons] at nd
    have ih := smR_place z ω nd.2
    rw [smR_flat] at ih ⊢
    unfold sumP at ih ⊢
    rw [List.map_cons, List.sum_cons, ih, getG_cons]
    by_cases e : x.1 = z
    · have : getG row z = none := getG_none.mpr fun h => nd.1 (e ▸ h)
      rw [this]; simp [e, sumT, smR]
    · have : sumT x.2 (fun t => if x.1 = z then ω t else 0) = 0 := by
        simp only [e, if_false, sumT, Int.mul_zero]
        induction x.2 with
        | nil => rfl
        | cons y r ih => simpa using ih
      rw [if_neg e]
      rw [this]; omega
/-! ### what is there at all -/
theorem sum_nn {α : Type} {f : α → Int} : ∀ {l : List α}, (∀ x ∈ l, 0 ≤ f x) → 0 ≤ (l.map f).sum ∧ ∀ x ∈ l, f x ≤ (l.map f).sum
  | [], _ => by simp
  | a :: l, h => by
    obtain ⟨i1, i2⟩ := sum_nn (l := l) fun x hx => h x (by simp [hx])
    have ha := h a (by simp)
    simp only [List.map_cons, List.sum_cons]
    refine ⟨by omega, fun x hx => ?_⟩
    rcases List.mem_cons.mp hx with rfl | hx
    · omega
    · have := i2 x hx; omega
theorem sum_pos {α : Type} {f : α → Int} : ∀ {l : List α}, 0 < (l.map f).sum → ∃ x ∈ l, 0 < f x
  | [], h => by simp at h
  | a :: l, h => by
    simp only [List.map_cons, List.sum_cons] at h
    by_cases ha : 0 < f a
    · exact ⟨a, by simp, ha⟩
    · obtain ⟨x, hx, e⟩ := sum_pos (f := f) (l := l) (by omega)
      exact ⟨x, by simp [hx], e⟩
theorem smF_there {κ : Type} [DecidableEq κ] {Q : κ → Int → Prop} {S : Int} {fd : FdG κ} (h : FgOk Q S fd) (c : κ → Bool) : (0 < smF fd fun p _ => if c p = true then 1 else 0) ↔ ∃ x ∈ fd, ∃ y ∈ x.2, c y.1 = true := by
  have term : ∀ x ∈ fd, ∀ y ∈ x.2, 0 ≤ y.2 * (if c y.1 = true then (1 : Int) else 0) := fun x hx y hy => by
    have := ((h.row x hx).mem y hy).2
    split <;> omega
  constructor
  · intro hp
    obtain ⟨x, hx, hp⟩ := sum_pos hp
    obtain ⟨y, hy, hp⟩ := sum_pos hp
    refine ⟨x, hx, y, hy, ?_⟩
    by_cases e : c y.1 = true
    · exact e
    · simp [e] at hp
  · rintro ⟨x, hx, y, hy, e⟩
    have h1 := (sum_nn (term x hx)).2 y hy
    have h2 := (sum_nn (f := fun x : Int × RwG κ => smR x.2 fun p => if c p = true then (1 : Int) else 0) fun x hx => (sum_nn (term x hx)).1).2 x hx
    have := ((h.row x hx).mem y hy).2
    simp only [e, if_true, Int.mul_one] at h1
    have h4 : y.2 ≤ smR x.2 fun p => if c p = true then (1 : Int) else 0 := h1
    exact Int.lt_of_lt_of_le (Int.lt_of_lt_of_le (by omega) h4) h2
theorem UG_ge {κ : Type} {kd : κ → Int → List (κ × Int)} {g : κ → Int → Int} (hg : ∀ p s, 0 ≤ g p s) : ∀ (k : Nat) (p : κ) (s : Int), 0 ≤ UG kd g k p s ∧ (1 ≤ k → g p s ≤ UG kd g k p s)
  | 0, p, s => ⟨by simp [UG], by omega⟩
  | k + 1, p, s => by
    have h := (sum_nn (l := kd p s) (f := fun x => UG kd g k x.1 x.2) fun x _ => (UG_ge hg k x.1 x.2).1).1
    have h0 := hg p s
    simp only [UG]
    exact ⟨by omega, fun _ => by omega⟩
theorem VG_ge {κ : Type} {kd : κ → Int → List (κ × Int)} {g : κ → Int → Int} (hg : ∀ p s, 0 ≤ g p s) {p : κ} {s : Int} (hs : 1 ≤ s) : g p s ≤ VG kd g p s := (UG_ge hg s.toNat p s).2 (by omega)
/-- the greatest of lists of the same numbers -/
theorem maxI_same {a b : List Int} (ha : a ≠ []) (h1 : ∀ x ∈ a, ∃ y ∈ b, x ≤ y) (h2 : ∀ x ∈ b, ∃ y ∈ a, x ≤ y) : maxI a = maxI b := by
  have hb : b ≠ [] := by
    intro e
    cases a with
    | nil => exact ha rfl
    | cons x a =>
      obtain ⟨y, hy, _⟩ := h1 x (by simp)
      rw [e] at hy; simp at hy
  obtain ⟨m1, m2⟩ := maxI_mem ha
  obtain ⟨n1, n2⟩ := maxI_mem hb
  obtain ⟨y, hy, e1⟩ := h1 _ m1
  obtain ⟨z, hz, e2⟩ := h2 _ n1
  have := n2 y hy; have := m2 z hz
  omega
theorem foldl_max : ∀ (l : List Int) (a : Int), l.foldl max a = maxI (a :: l)
  | [], a => rfl
  | b :: l, a => by
    rw [List.foldl_cons, foldl_max]
    cases l with
    | nil => rfl
    | cons c l => simp only [maxI]; omega
theorem gMaxK_tk {r : TkR} (hr : r ≠ []) : gMaxK (.leaf (.dict (tkK r))) = some (.int (maxI (r.map (·.1)))) := by
  have h : dRows (tkK r) = tkK r := by cases r <;> rfl
  have : (tkK r).map (·.1) = (r.map (·.1)).map PyData.int := by unfold tkK; rw [List.map_map, List.map_map]; rfl
  unfold gMaxK
  simp only [M.kv, h, this, Option.bind_some, ints_map]
  cases r with
  | nil => exact absurd rfl hr
  | cons y r => simp only [List.map_cons, foldl_max]
end G
namespace G
open PySem PySem.Spec PyProof.Rows L2

/-! ### lists that may be compared -/
theorem lay_all {n : Nat} : ∀ {ds : List PyData}, (∀ d ∈ ds, d.canLay0 = true ∧ d.depth ≤ n) → PyData.canLayAll0 ds = true ∧ PyData.depthAll ds ≤ n
  | [], _ => ⟨rfl, by simp [PyData.depthAll]⟩
  | d :: ds, h => by
    obtain ⟨i1, i2⟩ := lay_all (ds := ds) fun x hx => h x (by simp [hx])
    obtain ⟨h1, h2⟩ := h d (by simp)
    exact ⟨by simp only [PyData.canLayAll0, h1, i1, Bool.and_self], by simp only [PyData.depthAll]; omega⟩
theorem lay_tup {ds : List PyData} {n : Nat} (h : ∀ d ∈ ds, d.canLay0 = true ∧ d.depth ≤ n) : (PyData.tuple ds).canLay0 = true ∧ (PyData.tuple ds).depth ≤ n + 1 := by
  obtain ⟨h1, h2⟩ := lay_all h
  exact ⟨by simp only [PyData.canLay0, h1], by simp only [PyData.depth]; omega⟩
theorem lay_lst {ds : List PyData} {n : Nat} (h : ∀ d ∈ ds, d.canLay0 = true ∧ d.depth ≤ n) : (PyData.list ds).canLay0 = true ∧ (PyData.list ds).depth ≤ n + 1 := by
  obtain ⟨h1, h2⟩ := lay_all h
  exact ⟨by simp only [PyData.canLay0, h1], by simp only [PyData.depth]; omega⟩
theorem lay_int (i : Int) : (PyData.int i).canLay0 = true ∧ (PyData.int i).depth ≤ 0 := ⟨rfl, by simp [PyData.depth]⟩
theorem lay_str {z : Str} (h : PyData.strOk z = true) : (PyData.str z).canLay0 = true ∧ (PyData.str z).depth ≤ 0 := ⟨by simp only [PyData.canLay0, h], by simp [PyData.depth]⟩
theorem lay_non : (PyData.none).canLay0 = true ∧ (PyData.none).depth ≤ 0 := ⟨rfl, by simp [PyData.depth]⟩
theorem lay_le {d : PyData} {n m : Nat} (h : d.canLay0 = true ∧ d.depth ≤ n) (k : n ≤ m) : d.canLay0 = true ∧ d.depth ≤ m := ⟨h.1, Nat.le_trans h.2 k⟩
theorem shaped_lay {d : PyData} (h : d.canLay0 = true ∧ d.depth ≤ 60) : SeqAt.shaped d = true := by
  unfold SeqAt.shaped
  rw [h.1, decide_eq_true (by omega)]; rfl
theorem gEq_lay {x y : M} {d e : PyData} (hx : x.frz = some d) (hy : y.frz = some e) (hd : d.canLay0 = true ∧ d.depth ≤ 60) (he : e.canLay0 = true ∧ e.depth ≤ 60) : gEq x y = some (.bool (PyData.eqv d e)) ∧ gNe x y = some (.bool (!PyData.eqv d e)) := by
  unfold gEq gNe
  rw [hx, hy]
  simp only [shaped_lay hd, shaped_lay he, Bool.and_self, if_true, and_self]
theorem eqv_self {d : PyData} (h : d.canLay0 = true ∧ d.depth ≤ 60) : PyData.eqv d d = true := SeqAt.eqv_refl _ (SeqAt.canLay_of_shaped (shaped_lay h))
/-- a list beside [] -/
theorem gEq_nil {ds : List PyData} {x : M} (hx : x.frz = some (.list ds)) (h : ∀ d ∈ ds, d.canLay0 = true ∧ d.depth ≤ 50) : gEq x (.lst []) = some (.bool ds.isEmpty) ∧ gNe x (.lst []) = some (.bool (!ds.isEmpty)) := by
  have e := gEq_lay (y := .lst []) (e := .list []) hx rfl (lay_le (lay_lst h) (by decide)) (lay_le (lay_lst (n := 0) (by simp)) (by decide))
  have : PyData.eqv (.list ds) (.list []) = ds.isEmpty := by cases ds <;> rfl
  rw [this] at e
  exact e
theorem lay_ltr {P : List Str} (hP : ∀ p ∈ P, PyData.strOk p = true) {S : Int} {l : Ltr} (h : l.Ok P S) : l.D.canLay0 = true ∧ l.D.depth ≤ 1 := lay_tup (n := 0) fun d hd => by
  simp only [List.mem_cons, List.not_mem_nil, or_false] at hd
  rcases hd with rfl | rfl | rfl
  · exact lay_str (hP _ h.p)
  · exact lay_int _
  · exact lay_int _
theorem gEq_ltrs {P : List Str} (hP : ∀ p ∈ P, PyData.strOk p = true) {S : Int} {Ls : List Ltr} (h : ∀ l ∈ Ls, l.Ok P S) : gEq (.leaf (LtrsD Ls)) (.lst []) = some (.bool Ls.isEmpty) ∧ gNe (.leaf (LtrsD Ls)) (.lst []) = some (.bool (!Ls.isEmpty)) := by
  have := gEq_nil (x := .leaf (LtrsD Ls)) (ds := Ls.map Ltr.D) rfl fun d hd => by
    obtain ⟨l, hl, rfl⟩ := List.mem_map.mp hd
    exact lay_le (lay_ltr hP (h l hl)) (by decide)
  rwa [List.isEmpty_map] at this
end G
namespace G
open PySem PySem.Spec PyProof.Rows L2

/-! ### comprehensions where slots are known one by one -/
theorem wipe_off : ∀ (vs : List Nat) (ρ : Env') (j : Nat), j ∉ vs → (wipeE ρ vs)[j]? = ρ[j]?
  | [], _, _, _ => rfl
  | v :: vs, ρ, j, h => by
    simp only [List.mem_cons, not_or] at h
    simp only [wipeE]
    rw [List.getElem?_set_ne (Ne.symm h.1), wipe_off vs ρ j h.2]
theorem wipe_in : ∀ (vs : List Nat) (ρ : Env') (j : Nat), j ∈ vs → (wipeE ρ vs)[j]? = (ρ[j]?).map fun _ => none
  | [], _, _, h => by simp at h
  | v :: vs, ρ, j, h => by
    simp only [wipeE]
    by_cases e : v = j
    · subst e
      rw [List.getElem?_set]
      by_cases hl : v < ρ.length
      · simp [wipeE_len, hl]
      · simp [wipeE_len, hl]
    · rw [List.getElem?_set_ne e]
      exact wipe_in vs ρ j ((List.mem_cons.mp h).resolve_left fun z => e z.symm)
theorem rest_wipe (vs : List Nat) (ρ : Env') : rest' vs ρ 0 (wipeE ρ vs) = ρ := by
  apply List.ext_getElem?
  intro j
  rw [rest_get, Nat.zero_add]
  by_cases hj : j ∈ vs
  · rw [wipe_in vs ρ j hj]
    simp only [hj, if_true]
    cases ρ[j]? <;> rfl
  · rw [wipe_off vs ρ j hj]
    simp only [hj, if_false]
    cases ρ[j]? <;> rfl
/-- a comprehension: what each turn lays, where t tells -/
theorem comp_set {g : PyData → Env' → Option Env'} {it : Env' → R (List PyData)} {t : Env' → R Bool} {el : Env' → R M} {vs : List Nat} (p : PyData → Bool) (f : PyData → M) {ρ0 ρ : Env'} {ds : List PyData} (hi : it ρ0 = .ok ds ρ) (hf : (vs.all fun i => isLeaf ρ[i]?) = true) (hz : ds.length ≤ 1000000)
    (h : ∀ d ∈ ds, ∃ ρ1, g d (wipeE ρ vs) = some ρ1 ∧ wipeE ρ1 vs = wipeE ρ vs ∧ t ρ1 = .ok (p d) ρ1 ∧ (p d = true → el ρ1 = .ok (f d) ρ1)) :
    mComp it g t el vs ρ0 = .ok (.lst ((ds.filter p).map f)) ρ := comp_gen p f hi hf hz rfl (rest_wipe vs ρ) h
/-- turned back, whatever was laid at the names -/
theorem wipe_set {vs : List Nat} {ρ : Env'} {i : Nat} (x : Option M) (h : i ∈ vs) : wipeE (ρ.set i x) vs = wipeE ρ vs := by
  apply List.ext_getElem?
  intro j
  by_cases hj : j ∈ vs
  · rw [wipe_in vs _ j hj, wipe_in vs _ j hj, List.getElem?_set]
    by_cases e : i = j
    · subst e
      by_cases hl : i < ρ.length
      · simp [hl]
      · simp [hl]
    · simp [e]
  · rw [wipe_off vs _ j hj, wipe_off vs _ j hj, List.getElem?_set_ne fun (e : i = j) => hj (e ▸ h)]
theorem wipeE_twice (vs : List Nat) (ρ : Env') : wipeE (wipeE ρ vs) vs = wipeE ρ vs := by
  apply List.ext_getElem?
  intro j
  by_cases hj : j ∈ vs
  · rw [wipe_in vs _ j hj, wipe_in vs _ j hj]
    cases ρ[j]? <;> rfl
  · rw [wipe_off vs _ j hj]
/-! ### the first slots stay -/
structure Pre (n : Nat) (ρ0 ρ : Env') : Prop where
  len : ρ.length = ρ0.length
  at' : ∀ i, i < n → ρ[i]? = ρ0[i]?
theorem Pre.refl (n : Nat) (ρ : Env') : Pre n ρ ρ := ⟨rfl, fun _ _ => rfl⟩
theorem Pre.set {n i : Nat} {ρ0 ρ : Env'} (h : Pre n ρ0 ρ) (x : Option M) (hi : n ≤ i) : Pre n ρ0 (ρ.set i x) := ⟨by rw [List.length_set]; exact h.len, fun j hj => by rw [List.getElem?_set_ne (by omega)]; exact h.at' j hj⟩
theorem Pre.trans {n : Nat} {ρ0 ρ1 ρ2 : Env'} (h : Pre n ρ0 ρ1) (k : Pre n ρ1 ρ2) : Pre n ρ0 ρ2 := ⟨k.len.trans h.len, fun i hi => (k.at' i hi).trans (h.at' i hi)⟩
theorem Pre.less {n m : Nat} {ρ0 ρ1 : Env'} (h : Pre n ρ0 ρ1) (k : m ≤ n) : Pre m ρ0 ρ1 := ⟨h.len, fun i hi => h.at' i (by omega)⟩
/-- a loop, by what is behind it -/
theorem loop_pre {β : Type} {g : PyData → Env' → Option Env'} {b : Env' → O} (enc : β → PyData) (E : List β → Env' → Prop) (L0 : List β) (hs : ∀ pr x r ρ, pr ++ x :: r = L0 → E pr ρ → ∃ ρ1 ρ2, g (enc x) ρ = some ρ1 ∧ b ρ1 = .next ρ2 ∧ E (pr ++ [x]) ρ2) :
    ∀ (L pr : List β) (ρ : Env'), pr ++ L = L0 → E pr ρ → ∃ ρ', mLoop g b (L.map enc) ρ = .next ρ' ∧ E L0 ρ'
  | [], pr, ρ, e, h => ⟨ρ, rfl, by rw [← e, List.append_nil]; exact h⟩
  | x :: L, pr, ρ, e, h => by
    obtain ⟨ρ1, ρ2, h1, h2, h3⟩ := hs pr x L ρ e h
    rw [List.map_cons, loop_cons h1, h2, O.loop_next]
    exact loop_pre enc E L0 hs L (pr ++ [x]) ρ2 (by rw [← e]; simp) h3
theorem run_m3l {g : M → M → M → Option PyData} {i : Nat} {mb mc : Env' → R M} {ρ : Env'} {x z : M} {d u : PyData} (h1 : ρ[i]? = some (some x)) (hk : x.kv.isSome = true) (h2 : mb ρ = .ok (.leaf d) ρ) (h3 : mc ρ = .ok z ρ) (h4 : g x (.leaf d) z = some u) : m3l g i mb mc ρ = .ok (.leaf u) ρ := by
  have hq : qName i ρ = some x := by unfold qName; rw [h1]; rfl
  obtain ⟨ds, hk⟩ := Option.isSome_iff_exists.mp hk
  unfold m3l
  simp only [hq, Option.bind_some, hk, h2, R.bind_ok, h3, h4]
/-! ### sums taken together -/
def addG {κ : Type} [DecidableEq κ] (F t : RwG κ) : RwG κ := t.foldl (fun r y => bpR r y.1 y.2) F
theorem addG_ok {κ : Type} [DecidableEq κ] {q : κ → Prop} {F t : RwG κ} (hF : RwOk q F) (ht : ∀ y ∈ t, q y.1 ∧ 1 ≤ y.2) : RwOk q (addG F t) ∧ ∀ ω, smR (addG F t) ω = smR F ω + smR t ω := by
  unfold addG
  induction t generalizing F with
  | nil => exact ⟨hF, fun ω => by simp [smR]⟩
  | cons y t ih =>
    obtain ⟨q1, q2⟩ := ht y (by simp)
    have hb : RwOk q (bpR F y.1 y.2) := RwOk.bump hF q1 q2
    obtain ⟨i1, i2⟩ := ih hb fun z hz => ht z (by simp [hz])
    rw [List.foldl_cons]
    refine ⟨i1, fun ω => ?_⟩
    rw [i2, smR_bump hF.nd]
    simp only [smR, List.map_cons, List.sum_cons]
    omega
theorem addG_snoc {κ : Type} [DecidableEq κ] (F t : RwG κ) (y : κ × Int) : addG F (t ++ [y]) = bpR (addG F t) y.1 y.2 := by unfold addG; rw [List.foldl_append]; rfl
theorem smR_flatten {κ : Type} [DecidableEq κ] (ω : κ → Int) : ∀ (rs : RwsG κ) (k : Nat), smR rs.flatten ω = smF (fG k rs) fun p _ => ω p
  | [], _ => rfl
  | r :: rs, k => by
    rw [List.flatten_cons]
    unfold smR
    rw [List.map_append, List.sum_append]
    have := smR_flatten ω rs (k + 1)
    unfold smR at this
    rw [this]
    rfl
theorem fG_row {κ : Type} : ∀ {rs : RwsG κ} {r : RwG κ} {k : Nat}, r ∈ rs → ∃ s, (s, r) ∈ fG k rs ∧ (k : Int) ≤ s
  | q :: rs, r, k, h => by
    rcases List.mem_cons.mp h with rfl | h
    · exact ⟨k, by simp [fG], Int.le_refl _⟩
    · obtain ⟨s, hs, hk⟩ := fG_row (k := k + 1) h
      exact ⟨s, by simp [fG, hs], by omega⟩
/-- those of one place -/
def ofPl (z : Str) (F : RwG PT) : RwG Int := (F.filter fun y => decide (y.1.1 = z)).map fun y => (y.1.2, y.2)
theorem ofPl_ok {q : PT → Prop} {F : RwG PT} (hF : RwOk q F) (z : Str) : RwOk (fun t => q (z, t)) (ofPl z F) ∧ ∀ ω, smR (ofPl z F) ω = smR F fun p => if p.1 = z then ω p.2 else 0 := by
  constructor
  · refine ⟨?_, fun y hy => ?_⟩
    · have := hF.nd
      unfold ofPl
      clear hF
      induction F with
      | nil => simp
      | cons y F ih =>
        simp only [List.map_cons, List.nodup_cons] at this
        have ih := ih this.2
        rw [List.filter_cons]
        split
        · rename_i e
          have e := of_decide_eq_true e
          simp only [List.map_cons, List.nodup_cons]
          refine ⟨fun hm => ?_, ih⟩
          rw [List.map_map] at hm
          obtain ⟨w, hw, e2⟩ := List.mem_map.mp hm
          obtain ⟨hw1, hw2⟩ := List.mem_filter.mp hw
          have hw2 := of_decide_eq_true hw2
          refine this.1 (List.mem_map.mpr ⟨w, hw1, ?_⟩)
          exact Prod.ext (hw2.trans e.symm) e2
        · exact ih
    · obtain ⟨w, hw, rfl⟩ := List.mem_map.mp hy
      obtain ⟨hw1, hw2⟩ := List.mem_filter.mp hw
      have hw2 := of_decide_eq_true hw2
      obtain ⟨q1, q2⟩ := hF.mem w hw1
      refine ⟨?_, q2⟩
      rw [← hw2]; exact q1
  · intro ω
    unfold ofPl smR
    rw [List.map_map]
    clear hF
    induction F with
    | nil => rfl
    | cons y F ih =>
      rw [List.filter_cons, List.map_cons, List.sum_cons]
      by_cases e : y.1.1 = z
      · simp only [e, decide_true, if_true, List.map_cons, List.sum_cons, Function.comp_apply] at ih ⊢
        rw [ih]
      · simp only [e, decide_false, if_false, Bool.false_eq_true, Int.mul_zero] at ih ⊢
        rw [ih]; omega
/-- a call whose arguments are names of what is frozen -/
theorem call_nm {mf : List M → RF} {is : List Nat} {ds : List PyData} {ρ : Env'} {x : M} {outs : Env'} (h : is.map (fun i => (ρ[i]?).join) = ds.map fun d => some (.leaf d)) (h3 : mf (ds.map .leaf) = .ret x outs) : mCall mf (is.map fun i => .val (mName i)) ρ = .ok x ρ := by
  have key : ∀ (is : List Nat) (ds : List PyData), is.map (fun i => (ρ[i]?).join) = ds.map (fun d => some (.leaf d)) → refs (is.map fun i => Am.val (mName i)) = [] ∧ evA (is.map fun i => .val (mName i)) ρ = .ok (ds.map some) ρ ∧ gat (is.map fun i => .val (mName i)) (ds.map some) ρ = some (ds.map .leaf) := by
    intro is
    induction is with
    | nil => intro ds h; cases ds with
      | nil => exact ⟨rfl, rfl, rfl⟩
      | cons _ _ => simp at h
    | cons i is ih =>
      intro ds h
      cases ds with
      | nil => simp at h
      | cons d ds =>
        simp only [List.map_cons, List.cons.injEq] at h
        obtain ⟨i1, i2, i3⟩ := ih ds h.2
        refine ⟨i1, ?_, ?_⟩
        · simp only [List.map_cons, evA_val, ap_name, ap_q, h.1, nmM_leaf, R.bind_ok, frz_leaf, fz2_some, i2]
        · simp only [List.map_cons, gat_val, i3, Option.map_some]
  obtain ⟨k1, k2, k3⟩ := key is ds h
  exact call_no k1 k2 k3 h3
/-- a call with a slot's tree handed in, the first argument -/
theorem call_rf {mf : List M → RF} {as : List Am} {j : Nat} {ρ : Env'} {ds : List (Option PyData)} {m : M} {ms : List M} {x : M} {o : Option M} {outs : Env'} (h : refs as = []) (hj : ρ[j]? = some (some m)) (h1 : evA as ρ = .ok ds ρ) (h2 : gat as ds ρ = some ms) (h3 : mf (m :: ms) = .ret x (o :: outs)) : mCall mf (.ref j :: as) ρ = .ok x (ρ.set j o) := by
  have hq : qName j ρ = some m := by unfold qName; rw [hj]; rfl
  refine call_hd (ds := none :: ds) (ms := m :: ms) h ?_ ?_ h3
  · rw [evA_ref, hq, oM_some, h1, R.bind_ok]
  · rw [gat_ref, hq, h2]; rfl
end G
namespace G
open PySem PySem.Spec PyProof.Rows L2

/-- is_name(thing): slots 0=thing 1=sign -/
def m_is_name : Env' → O :=
  mRet (mAnd (mQ (q1 (gIsi .str) (qName 0))) (mAnd (mQ (qCh gLeI gLeI (qC (.int 1)) (q1 gLen (qName 0)) (qC (.int 8)))) (m1 (lf gAll) (mComp (mItS (mName 0)) (gN 1) (tTrue) (mQ (q2 gIn (qName 1) (qC (.str "abcdefghijklmnopqrstuvwxyz")))) [1]))))
def f_is_name : List M → RF := runF 1 2 [] m_is_name
/-- places(web): slots 0=web 1=found 2=way -/
def m_places : Env' → O :=
  mSeq (mSet 1 (mDComp (mIt (mName 0)) (gN 2) (tTrue) (mQ (q2 gIx (qName 2) (qC (.int 0)))) (mQ (qC (.bool true))) [2]))
    (mSeq (mUpd 1 (mDComp (mIt (mName 0)) (gN 2) (tTrue) (mQ (q2 gIx (qName 2) (qC (.int 1)))) (mQ (qC (.bool true))) [2]))
    (mRet (m1q (gSortK) (qName 1))))
def f_places : List M → RF := runF 1 3 [] m_places
/-- need_place(web, name): slots 0=web 1=name -/
def m_need_place : Env' → O :=
  mIfS (mOrT (mNotT (mTest (mCall f_is_name [.val (mName 1)]))) (mTest (m2l (lf2 gNi) 1 (mCall f_places [.val (mName 0)]))))
    ((fun _ => .bad))
    (mSkip)
def f_need_place : List M → RF := runF 2 2 [] m_need_place
/-- made_by(web, weak, place, strength, shut): slots 0=web 1=weak 2=place 3=strength 4=shut 5=found 6=number 7=way 8=less -/
def b_made_by_0 : Env' → O :=
  mIfS (mAndT (mTest (mQ (q2 gEq (q2 gIx (qName 7) (qC (.int 0))) (qName 2)))) (mTest (mQ (q2 gNi (qName 6) (qName 4)))))
    (mSeq (mSet 8 (mQ (q2 gFdiv (q2 gMulI (qName 3) (q2 gIx (qName 7) (qC (.int 2)))) (q2 gIx (qName 7) (qC (.int 3))))))
    (mIfS (mTest (mQ (q2 gGeI (qName 8) (qName 1))))
    (mAppend 5 (mTup (mCons (mName 6) (mCons (mName 8) (mNil)))))
    (mSkip)))
    (mSkip)
def m_made_by : Env' → O :=
  mSeq (mSet 5 (mLst (mNil)))
    (mSeq (mFor (mItE (mName 0)) (gTp 2 (gCons' (gN 6) (gCons' (gN 7) (gNil'))))
    (b_made_by_0))
    (mRet (mMove 5)))
def f_made_by : List M → RF := runF 5 9 [] m_made_by
/-- all_ticks(web, weak, letters): slots 0=web 1=weak 2=letters 3=found 4=place 5=strength 6=many 7=row 8=ticks 9=number 10=less 11=tick 12=later 13=letter -/
def b_all_ticks_0 : Env' → O :=
  mSeq (mBor 3 7 (qName 5) (qName 4) (mPut 7 (mQ (q2 gAddS (q3 gDGet (qName 7) (qC (.int 0)) (qC (.int 0))) (qName 6))) (mQ (qC (.int 0)))))
    (mSkip)
def b_all_ticks_1 : Env' → O :=
  mSeq (mSet 12 (mQ (q2 gAddS (qName 11) (q2 gIx (q2 gIx (qName 0) (qName 9)) (qC (.int 4))))))
    (mPut 7 (mQ (q2 gAddS (q3 gDGet (qName 7) (qName 12) (qC (.int 0))) (qName 6))) (mName 12))
def b_all_ticks_2 : Env' → O :=
  mSeq (mBor 3 7 (qName 10) (q2 gIx (q2 gIx (qName 0) (qName 9)) (qC (.int 1))) (mForD (mItF itemsOfD (mName 8)) (gTp 2 (gCons' (gN 11) (gCons' (gN 6) (gNil'))))
    (b_all_ticks_1)))
    (mSkip)
def b_all_ticks_3 : Env' → O :=
  mFor (mIt (mCall f_made_by [.val (mName 0), .val (mName 1), .val (mName 4), .val (mName 5), .val (mTup (mNil))])) (gTp 2 (gCons' (gN 9) (gCons' (gN 10) (gNil'))))
    (b_all_ticks_2)
def b_all_ticks_4 : Env' → O :=
  mFor (mIt (mListGetF 3 (qName 5))) (gTp 2 (gCons' (gN 4) (gCons' (gN 8) (gNil'))))
    (b_all_ticks_3)
def m_all_ticks : Env' → O :=
  mSeq (mSet 3 (mNewK))
    (mSeq (mFor (mIt (mName 2)) (gTp 3 (gCons' (gN 4) (gCons' (gN 5) (gCons' (gN 6) (gNil')))))
    (b_all_ticks_0))
    (mSeq (mFor (mItR3 (mCons (m1 (lf gMax) (m2 (gAdd) (mComp (mIt (mName 2)) (gN 13) (tTrue) (mQ (q2 gIx (qName 13) (qC (.int 1)))) [13]) (mLst (mCons (mQ (qC (.int 0))) (mNil))))) (mCons (mQ (qC (.int 0))) (mCons (mQ (q1 gNeg (qC (.int 1)))) (mNil))))) (gN 5)
    (b_all_ticks_4))
    (mRet (mMove 3))))
def f_all_ticks : List M → RF := runF 3 14 [] m_all_ticks
/-- ticks_of(web, weak, letters, place): slots 0=web 1=weak 2=letters 3=place 4=found 5=row 6=tick 7=many -/
def b_ticks_of_0 : Env' → O :=
  mPut 4 (mQ (q2 gAddS (q3 gDGet (qName 4) (qName 6) (qC (.int 0))) (qName 7))) (mName 6)
def b_ticks_of_1 : Env' → O :=
  mForD (mItF itemsOfD (mGetE (qName 5) (qName 3))) (gTp 2 (gCons' (gN 6) (gCons' (gN 7) (gNil'))))
    (b_ticks_of_0)
def m_ticks_of : Env' → O :=
  mSeq (mExpr (mCall f_need_place [.val (mName 0), .val (mName 3)]))
    (mSeq (mSet 4 (mNewK))
    (mSeq (mForD (mItF valsOfD (mCall f_all_ticks [.val (mName 0), .val (mName 1), .val (mName 2)])) (gN 5)
    (b_ticks_of_1))
    (mRet (m1q gSortIt (qName 4)))))
def f_ticks_of : List M → RF := runF 4 8 [] m_ticks_of
/-- last_tick(web, weak, letters): slots 0=web 1=weak 2=letters 3=row 4=ticks -/
def m_last_tick : Env' → O :=
  mSeq (mIfS (mTest (m2l (lf2 gEq) 2 (mLst (mNil))))
    (mRet (mQ (qC .none)))
    (mSkip))
    (mRet (m1 (lf gMax) (mComp2 (mItF valsOfD (mCall f_all_ticks [.val (mName 0), .val (mName 1), .val (mName 2)])) (gN 3) tTrue (mItF valsOfD (mName 3)) (gN 4) tTrue (m1q (lf gMaxK) (qName 4)) [3, 4] [4])))
def f_last_tick : List M → RF := runF 3 5 [] m_last_tick
/-- _law_bag(script, k): slots 0=script 1=k 2=cell -/
def m__law_bag : Env' → O :=
  mSeq (mSet 2 (mQ (qC (.int 0))))
    (mSeq (mIfS (mTest (mQ (q2 gLtI (qName 1) (q1 gLen (qName 0)))))
    (mSet 2 (mQ (q1 gAbs (q2 gIx (qName 0) (qName 1)))))
    (mSkip))
    (mSeq (mIfS (mTest (mQ (q2 gLtI (qName 2) (q2 gPow (qC (.int 10)) (qC (.int 18))))))
    (mRet (mLst (mCons (mQ (qC (.int 0))) (mCons (mQ (q2 gAddS (qC (.int 1)) (q2 gMod (q2 gAddS (q2 gMulI (qName 2) (qC (.int 7919))) (q2 gMulI (qC (.int 104729)) (qName 1))) (qC (.int 2147483646))))) (mNil)))))
    (mSkip))
    (mRet (mLst (mCons (mName 2) (mCons (mQ (q2 gAddS (qC (.int 1)) (q2 gMod (q2 gAddS (qName 2) (qName 1)) (qC (.int 2147483646))))) (mNil)))))))
def f__law_bag : List M → RF := runF 2 3 [0] m__law_bag
/-- _law_take(bag, many): slots 0=bag 1=many 2=found -/
def m__law_take : Env' → O :=
  mSeq (mIfS (mTest (mQ (q2 gGtI (q2 gIx (qName 0) (qC (.int 0))) (qC (.int 0)))))
    (mSeq (mSet 2 (mQ (q2 gMod (q2 gIx (qName 0) (qC (.int 0))) (qName 1))))
    (mSeq (mPut 0 (mQ (q2 gFdiv (q2 gIx (qName 0) (qC (.int 0))) (qName 1))) (mQ (qC (.int 0))))
    (mRet (mMove 2))))
    (mSkip))
    (mSeq (mPut 0 (mQ (q2 gMod (q2 gMulI (q2 gIx (qName 0) (qC (.int 1))) (qC (.int 48271))) (qC (.int 2147483647)))) (mQ (qC (.int 1))))
    (mRet (mQ (q2 gMod (q2 gFdiv (q2 gMod (q2 gMulI (q2 gIx (qName 0) (qC (.int 1))) (q2 gIx (qName 0) (qC (.int 1)))) (qC (.int 2147483629))) (qC (.int 64))) (qName 1)))))
def f__law_take : List M → RF := runF 2 3 [0] m__law_take
/-- _law_of(bag, some): slots 0=bag 1=some -/
def m__law_of : Env' → O :=
  mRet (m2l (lf2 gIx) 1 (mCall f__law_take [.ref 0, .val (mQ (q1 gLen (qName 1)))]))
def f__law_of : List M → RF := runF 2 2 [0] m__law_of
/-- _law_web(bag, most): slots 0=bag 1=most 2=names 3=found 4=turn 5=bottom 6=top 7=ticks -/
def b__law_web_0 : Env' → O :=
  mSeq (mSet 5 (m2 (lf2 gIx) (mLst (mCons (mQ (qC (.int 2))) (mCons (mQ (qC (.int 3))) (mCons (mQ (qC (.int 5))) (mCons (mQ (qC (.int 10))) (mNil)))))) (mCall f__law_take [.ref 0, .val (mQ (qC (.int 4)))])))
    (mSeq (mSet 6 (m2 (lf2 gAddS) (mQ (qC (.int 1))) (mCall f__law_take [.ref 0, .val (mQ (q2 gSub (qName 5) (qC (.int 1))))])))
    (mSeq (mSet 7 (m2 (lf2 gAddS) (mQ (qC (.int 1))) (mCall f__law_take [.ref 0, .val (m2 (lf2 gIx) (mLst (mCons (mQ (qC (.int 2))) (mCons (mQ (qC (.int 9))) (mNil)))) (mCall f__law_take [.ref 0, .val (mQ (qC (.int 2)))]))])))
    (mPut 3 (mQ (qC (.bool true))) (mTup (mCons (mCall f__law_of [.ref 0, .val (mName 2)]) (mCons (mCall f__law_of [.ref 0, .val (mName 2)]) (mCons (mName 6) (mCons (mName 5) (mCons (mName 7) (mNil))))))))))
def m__law_web : Env' → O :=
  mSeq (mSet 2 (mSl (mLst (mCons (mQ (qC (.str "ash"))) (mCons (mQ (qC (.str "bay"))) (mCons (mQ (qC (.str "cod"))) (mCons (mQ (qC (.str "dew"))) (mCons (mQ (qC (.str "elm"))) (mNil))))))) (mNoPart) (mPart (m2 (lf2 gAddS) (mQ (qC (.int 1))) (mCall f__law_take [.ref 0, .val (mQ (qC (.int 5)))])))))
    (mSeq (mSet 3 (mNewT))
    (mSeq (mFor (mItR1 (mCons (m2 (lf2 gAddS) (mQ (qC (.int 1))) (mCall f__law_take [.ref 0, .val (mName 1)])) (mNil))) (gN 4)
    (b__law_web_0))
    (mRet (m1 (gTuple) (m1q (gSortK) (qName 3))))))
def f__law_web : List M → RF := runF 2 8 [0] m__law_web
/-- _law_places(web): slots 0=web 1=way -/
def m__law_places : Env' → O :=
  mRet (m1 gSortSet (m2 (gAdd) (mComp (mIt (mName 0)) (gN 1) (tTrue) (mQ (q2 gIx (qName 1) (qC (.int 0)))) [1]) (mComp (mIt (mName 0)) (gN 1) (tTrue) (mQ (q2 gIx (qName 1) (qC (.int 1)))) [1])))
def f__law_places : List M → RF := runF 1 2 [] m__law_places
/-- _law_weak(bag): slots 0=bag -/
def m__law_weak : Env' → O :=
  mRet (m2 (lf2 gIx) (mLst (mCons (mQ (qC (.int 1))) (mCons (m2 (lf2 gAddS) (mQ (qC (.int 1))) (mCall f__law_take [.ref 0, .val (mQ (qC (.int 9)))])) (mCons (m2 (lf2 gAddS) (mQ (qC (.int 1))) (mCall f__law_take [.ref 0, .val (mQ (qC (.int 300)))])) (mNil))))) (mCall f__law_take [.ref 0, .val (mQ (qC (.int 3)))]))
def f__law_weak : List M → RF := runF 1 1 [0] m__law_weak
/-- _law_letters(bag, web, most, strongest): slots 0=bag 1=web 2=most 3=strongest 4=found 5=turn 6=many -/
def b__law_letters_0 : Env' → O :=
  mSeq (mSet 6 (m2 (lf2 gIx) (mLst (mCons (mQ (qC (.int 1))) (mCons (m2 (lf2 gAddS) (mQ (qC (.int 1))) (mCall f__law_take [.ref 0, .val (mQ (qC (.int 3)))])) (mCons (m2 (lf2 gAddS) (mQ (qC (.int 1))) (mCall f__law_take [.ref 0, .val (mQ (qC (.int 1000)))])) (mNil))))) (mCall f__law_take [.ref 0, .val (mQ (qC (.int 3)))])))
    (mAppend 4 (mTup (mCons (mCall f__law_of [.ref 0, .val (mCall f__law_places [.val (mName 1)])]) (mCons (m2 (lf2 gAddS) (mQ (qC (.int 1))) (mCall f__law_take [.ref 0, .val (mName 3)])) (mCons (mName 6) (mNil))))))
def m__law_letters : Env' → O :=
  mSeq (mSet 4 (mLst (mNil)))
    (mSeq (mFor (mItR1 (mCons (mCall f__law_take [.ref 0, .val (mQ (q2 gAddS (qName 2) (qC (.int 1))))]) (mNil))) (gN 5)
    (b__law_letters_0))
    (mRet (mMove 4)))
def f__law_letters : List M → RF := runF 4 7 [0] m__law_letters
/-- _law_made(web, weak, place, strength, shut): slots 0=web 1=weak 2=place 3=strength 4=shut 5=found 6=number 7=first 8=last 9=top 10=bottom 11=ticks 12=less -/
def b__law_made_0 : Env' → O :=
  mSeq (mAsgT (mQ (q2 gIx (qName 0) (qName 6))) (gTp 5 (gCons' (gN 7) (gCons' (gN 8) (gCons' (gN 9) (gCons' (gN 10) (gCons' (gN 11) (gNil'))))))))
    (mSeq (mSet 12 (mQ (q2 gFdiv (q2 gMulI (qName 3) (qName 9)) (qName 10))))
    (mIfS (mAndT (mTest (mQ (q2 gEq (qName 7) (qName 2)))) (mAndT (mTest (mQ (q2 gNi (qName 6) (qName 4)))) (mTest (mQ (q2 gGeI (qName 12) (qName 1))))))
    (mAppend 5 (mTup (mCons (mName 6) (mCons (mName 12) (mNil)))))
    (mSkip)))
def m__law_made : Env' → O :=
  mSeq (mSet 5 (mLst (mNil)))
    (mSeq (mFor (mItR1 (mCons (mQ (q1 gLen (qName 0))) (mNil))) (gN 6)
    (b__law_made_0))
    (mRet (mMove 5)))
def f__law_made : List M → RF := runF 5 13 [] m__law_made
/-- _law_ticks(web, weak, letters): slots 0=web 1=weak 2=letters 3=rows 4=place 5=strength 6=many 7=tick 8=number 9=less 10=there 11=turn 12=letter -/
def b__law_ticks_0 : Env' → O :=
  mPutK 3 (pLx 3 (pNil) (qName 5)) (m2eq (lf2 gAddS) (mGetK (qAt 3 (pLx 3 (pNil) (qName 5))) (kTup (kCons (qName 4) (kCons (qC (.int 0)) (kNil)))) (qC (.int 0))) (qName 6)) (kTup (kCons (qName 4) (kCons (qC (.int 0)) (kNil))))
def b__law_ticks_1 : Env' → O :=
  mSeq (mSet 10 (mTup (mCons (mQ (q2 gIx (q2 gIx (qName 0) (qName 8)) (qC (.int 1)))) (mCons (mQ (q2 gAddS (qName 7) (q2 gIx (q2 gIx (qName 0) (qName 8)) (qC (.int 4))))) (mNil)))))
    (mPutF 3 (pLx 3 (pNil) (qName 9)) (m2 (lf2 gAddS) (mQ (q3 gDGet (qAt 3 (pLx 3 (pNil) (qName 9))) (qName 10) (qC (.int 0)))) (mDixK (qAt 3 (pLx 3 (pNil) (qName 5))) (kTup (kCons (qName 4) (kCons (qName 7) (kNil)))))) (qName 10))
def b__law_ticks_2 : Env' → O :=
  mFor (mIt (mCall f__law_made [.val (mName 0), .val (mName 1), .val (mName 4), .val (mName 5), .val (mTup (mNil))])) (gTp 2 (gCons' (gN 8) (gCons' (gN 9) (gNil'))))
    (b__law_ticks_1)
def b__law_ticks_3 : Env' → O :=
  mFor (mIt (m1q (gSortK) (qAt 3 (pLx 3 (pNil) (qName 5))))) (gTp 2 (gCons' (gN 4) (gCons' (gN 7) (gNil'))))
    (b__law_ticks_2)
def m__law_ticks : Env' → O :=
  mSeq (mSet 3 (mComp (mItR1 (mCons (m2eq (lf2 gAddS) (m1 (lf gMax) (m2 (gAdd) (mComp (mIt (mName 2)) (gN 12) (tTrue) (mQ (q2 gIx (qName 12) (qC (.int 1)))) [12]) (mLst (mCons (mQ (qC (.int 0))) (mNil))))) (qC (.int 1))) (mNil))) (gN 11) (tTrue) (mNewT) [11]))
    (mSeq (mFor (mIt (mName 2)) (gTp 3 (gCons' (gN 4) (gCons' (gN 5) (gCons' (gN 6) (gNil')))))
    (b__law_ticks_0))
    (mSeq (mFor (mItR3 (mCons (mQ (q2 gSub (q1 gLen (qName 3)) (qC (.int 1)))) (mCons (mQ (qC (.int 0))) (mCons (mQ (q1 gNeg (qC (.int 1)))) (mNil))))) (gN 5)
    (b__law_ticks_3))
    (mRet (mMove 3))))
def f__law_ticks : List M → RF := runF 3 13 [] m__law_ticks
/-- law(script): slots 0=script 1=k 2=bag 3=web 4=weak 5=letters 6=rows 7=last 8=sums 9=row 10=place 11=tick 12=due 13=spot -/
def b_law_0 : Env' → O :=
  mSeq (mAppend 7 (mName 11))
    (mPut 8 (m2 (lf2 gAddS) (m3l gDGet 8 (mTup (mCons (mName 10) (mCons (mName 11) (mNil)))) (mQ (qC (.int 0)))) (m2l (lf2 gDIx) 9 (mTup (mCons (mName 10) (mCons (mName 11) (mNil)))))) (mTup (mCons (mName 10) (mCons (mName 11) (mNil)))))
def b_law_1 : Env' → O :=
  mForD (mItF keysOfD (mName 9)) (gTp 2 (gCons' (gN 10) (gCons' (gN 11) (gNil'))))
    (b_law_0)
def b_law_2 : Env' → O :=
  mSeq (mSet 12 (m1 (gSortL) (mComp (mItF keysOfD (mName 8)) (gTp 2 (gCons' (gN 13) (gCons' (gN 11) (gNil')))) (mTest (mQ (q2 gEq (qName 13) (qName 10)))) (mTup (mCons (mName 11) (mCons (m2l (lf2 gDIx) 8 (mTup (mCons (mName 13) (mCons (mName 11) (mNil))))) (mNil)))) [13, 11])))
    (mIfS (mTest (m2eq (lf2 gNe) (mCall f_ticks_of [.val (mName 3), .val (mName 4), .val (mName 5), .val (mName 10)]) (qName 12)))
    (mRet (mQ (qC (.bool false))))
    (mSkip))
def b_law_3 : Env' → O :=
  mSeq (mSet 6 (mCall f__law_ticks [.val (mName 3), .val (mName 4), .val (mName 5)]))
    (mSeq (mSet 7 (mLst (mNil)))
    (mSeq (mSet 8 (mNewT))
    (mSeq (mFor (mIt (mName 6)) (gN 9)
    (b_law_1))
    (mSeq (mFor (mIt (mSl (mCall f__law_places [.val (mName 3)]) (mNoPart) (mPart (mQ (qC (.int 2)))))) (gN 10)
    (b_law_2))
    (mIfS (mTest (m2 (lf2 gNe) (mCall f_last_tick [.val (mName 3), .val (mName 4), .val (mName 5)]) (mIf (mTest (m2l (lf2 gNe) 5 (mLst (mNil)))) (m1q (lf gMax) (qName 7)) (mQ (qC .none)))))
    (mRet (mQ (qC (.bool false))))
    (mSkip))))))
def b_law_4 : Env' → O :=
  mSeq (mSet 2 (mCall f__law_bag [.ref 0, .val (mName 1)]))
    (mSeq (mPar 3 4 (mCall f__law_web [.ref 2, .val (mQ (qC (.int 8)))]) (mCall f__law_weak [.ref 2]))
    (mFor (mIt (mLst (mCons (mCall f__law_letters [.ref 2, .val (mName 3), .val (mQ (qC (.int 4))), .val (mQ (qC (.int 100)))]) (mCons (mCall f__law_letters [.ref 2, .val (mName 3), .val (mQ (qC (.int 2))), .val (mQ (qC (.int 20)))]) (mNil))))) (gN 5)
    (b_law_3)))
def m_law : Env' → O :=
  mSeq (mFor (mItR1 (mCons (mQ (q2 gAddS (qC (.int 1)) (q2 gMin2 (q1 gLen (qName 0)) (qC (.int 3))))) (mNil))) (gN 1)
    (b_law_4))
    (mRet (m2eq (lf2 (gIsN2 false)) (mCall f_last_tick [.val (mTup (mCons (mTup (mCons (mQ (qC (.str "ash"))) (mCons (mQ (qC (.str "bay"))) (mCons (mQ (qC (.int 1))) (mCons (mQ (qC (.int 2))) (mCons (mQ (qC (.int 3))) (mNil))))))) (mNil))), .val (mQ (qC (.int 1))), .val (mLst (mNil))]) (qC .none)))
def f_law : List M → RF := runF 1 14 [0] m_law
end G
namespace G
open PySem PySem.Spec PyProof.Rows L2

/-! ### the bag -/
def Bag (m : M) : Prop := ∃ a b : Int, m = .lst [.leaf (.int a), .leaf (.int b)] ∧ 0 ≤ a ∧ 0 ≤ b ∧ b < 2147483647
theorem s__law_take {m : M} (hb : Bag m) {many : Int} (h0 : 0 < many) (h1 : many < 1073741824) : ∃ (r : Int) (m' : M), f__law_take [m, .leaf (.int many)] = .ret (.leaf (.int r)) [some m', none] ∧ Bag m' ∧ 0 ≤ r ∧ r < many := by
  obtain ⟨a, b, rfl, ha, hb0, hb1⟩ := hb
  unfold f__law_take m__law_take
  by_cases h : 0 < a
  · refine ⟨a % many, .lst [.leaf (.int (a / many)), .leaf (.int b)], ?_, ⟨_, _, rfl, Int.ediv_nonneg ha (by omega), hb0, hb1⟩, Int.emod_nonneg _ (by omega), Int.emod_lt_of_pos _ h0⟩
    have e1 := mod_ok (i := a) h0
    have e2 := fdiv_ok (i := a) h0 (by omega)
    simp [run_ap, gIx, M.sv, leaves, atI, ixN, gGtI, gI2, M.put, h, e1, e2]
  · have ha0 : a = 0 := by omega
    subst ha0
    have k1 : 0 ≤ b * 48271 % 2147483647 := Int.emod_nonneg _ (by decide)
    have k2 : b * 48271 % 2147483647 < 2147483647 := Int.emod_lt_of_pos _ (by decide)
    refine ⟨_, .lst [.leaf (.int 0), .leaf (.int (b * 48271 % 2147483647))], ?_, ⟨_, _, rfl, by decide, k1, k2⟩, Int.emod_nonneg _ (by omega), Int.emod_lt_of_pos (b * 48271 % 2147483647 * (b * 48271 % 2147483647) % 2147483629 / 64) h0⟩
    have e1 : gMulI (.leaf (.int b)) (.leaf (.int 48271)) = some (.int (b * 48271)) := mulI_ok2 (by decide)
    have e2 : gMod (.leaf (.int (b * 48271))) (.leaf (.int 2147483647)) = some (.int (b * 48271 % 2147483647)) := mod_ok (by decide)
    have e3 : gMulI (.leaf (.int (b * 48271 % 2147483647))) (.leaf (.int (b * 48271 % 2147483647))) = some (.int (b * 48271 % 2147483647 * (b * 48271 % 2147483647))) := mulI_ok (by omega)
    have e4 : gMod (.leaf (.int (b * 48271 % 2147483647 * (b * 48271 % 2147483647)))) (.leaf (.int 2147483629)) = some (.int (b * 48271 % 2147483647 * (b * 48271 % 2147483647) % 2147483629)) := mod_ok (by decide)
    have e5 : gFdiv (.leaf (.int (b * 48271 % 2147483647 * (b * 48271 % 2147483647) % 2147483629))) (.leaf (.int 64)) = some (.int (b * 48271 % 2147483647 * (b * 48271 % 2147483647) % 2147483629 / 64)) := fdiv_ok (by decide) (by decide)
    have e6 : gMod (.leaf (.int (b * 48271 % 2147483647 * (b * 48271 % 2147483647) % 2147483629 / 64))) (.leaf (.int many)) = some (.int (b * 48271 % 2147483647 * (b * 48271 % 2147483647) % 2147483629 / 64 % many)) := mod_ok h0
    simp [run_ap, gIx, M.sv, leaves, atI, ixN, gGtI, gI2, M.put, e1, e2, e3, e4, e5, e6]
theorem s__law_of {m : M} (hb : Bag m) {ds : List PyData} (h0 : ds ≠ []) (h1 : ds.length < 1073741824) : ∃ (d : PyData) (m' : M), f__law_of [m, .leaf (.list ds)] = .ret (.leaf d) [some m', none] ∧ d ∈ ds ∧ Bag m' := by
  have hl : 0 < ds.length := List.length_pos_iff.mpr h0
  obtain ⟨r, m', e, hb', r0, r1⟩ := s__law_take hb (many := ds.length) (by omega) (by omega)
  have hr : r.toNat < ds.length := by omega
  refine ⟨ds[r.toNat], m', ?_, List.getElem_mem hr, hb'⟩
  unfold f__law_of m__law_of
  obtain ⟨a, b, rfl, _⟩ := hb
  have hat : atI ds r = some ds[r.toNat] := by
    unfold atI ixN
    rw [if_pos r0, if_pos r1]
    exact List.getElem?_eq_getElem hr
  simp [run_ap, gLen, M.sv, e, gIx, hat]
theorem s__law_bag (ns : List Int) (k : Nat) : ∃ m, f__law_bag [.ro (ns.map .int), .leaf (.int k)] = .ret m [some (.ro (ns.map .int)), none] ∧ Bag m := by
  have key : ∀ c : Int, 0 ≤ c → 0 ≤ 1 + c % 2147483646 ∧ 1 + c % 2147483646 < 2147483647 := fun c hc => by omega
  have ep : gPow (.leaf (.int 10)) (.leaf (.int 18)) = some (.int 1000000000000000000) := rfl
  have m1 : ∀ c : Int, gMulI (.leaf (.int c)) (.leaf (.int 7919)) = some (.int (c * 7919)) := fun c => mulI_ok2 (by decide)
  have m2 : gMulI (.leaf (.int 104729)) (.leaf (.int k)) = some (.int (104729 * k)) := mulI_ok (by decide)
  have m3 : ∀ c : Int, gMod (.leaf (.int c)) (.leaf (.int 2147483646)) = some (.int (c % 2147483646)) := fun c => mod_ok (by decide)
  unfold f__law_bag m__law_bag
  by_cases hk : k < ns.length
  · have hat : atI (ns.map PyData.int) (k : Int) = some (.int ns[k]) := by
      unfold atI ixN
      rw [if_pos (by omega), if_pos (by simpa using hk)]
      simp [hk]
    have hc : ∃ c : Int, 0 ≤ c ∧ (if ns[k] < 0 then -ns[k] else ns[k]) = c := ⟨_, by split <;> omega, rfl⟩
    obtain ⟨c, hc0, hc⟩ := hc
    by_cases h2 : c < 1000000000000000000
    · refine ⟨.lst [.leaf (.int 0), .leaf (.int (1 + (c * 7919 + 104729 * k) % 2147483646))], ?_, 0, _, rfl, by decide, (key _ (by omega)).1, (key _ (by omega)).2⟩
      simp [run_ap, gLtI, gI2, gLen, M.sv, hk, gIx, hat, gAbs, hc, ep, h2, m1, m2, m3, gAddS]
    · refine ⟨.lst [.leaf (.int c), .leaf (.int (1 + (c + k) % 2147483646))], ?_, c, _, rfl, hc0, (key _ (by omega)).1, (key _ (by omega)).2⟩
      simp [run_ap, gLtI, gI2, gLen, M.sv, hk, gIx, hat, gAbs, hc, ep, h2, m1, m2, m3, gAddS]
  · refine ⟨.lst [.leaf (.int 0), .leaf (.int (1 + (0 * 7919 + 104729 * k) % 2147483646))], ?_, 0, _, rfl, by decide, (key _ (by omega)).1, (key _ (by omega)).2⟩
    simp [run_ap, gLtI, gI2, gLen, M.sv, hk, gIx, gAbs, ep, m1, m2, m3, gAddS]
end G
namespace G
open PySem PySem.Spec PyProof.Rows L2

/-! ### made_by -/
def kidD (s : Int) (x : Way × Nat) : PyData := .tuple [.int (x.2 : Int), .int (less s x.1)]
/-- what made_by tells -/
def kidsD (W : List Way) (weak : Int) (sh : List Int) (p : Str) (s : Int) : List PyData := (kids W weak sh p s).map (kidD s)
structure NmOk (W : List Way) : Prop where
  nm : ∀ w ∈ W, nmB w.fr = true ∧ nmB w.to = true
  len : W.length ≤ 1000
theorem mul_ok {s : Int} (h0 : 0 ≤ s) (h1 : s ≤ 1000000) {t : Int} : gMulI (.leaf (.int s)) (.leaf (.int t)) = some (.int (s * t)) := mulI_ok (by omega)
theorem div_ok {s b : Int} (h0 : 0 < b) (h1 : b < 1073741824) : gFdiv (.leaf (.int s)) (.leaf (.int b)) = some (.int (s / b)) := fdiv_ok h0 (by omega)
end G
namespace G
open PySem PySem.Spec PyProof.Rows L2

theorem s_made_by {W : List Way} {weak : Int} (h : WebOk W weak) (nm : NmOk W) {p : Str} (hp : PyData.strOk p = true) {s : Int} (h0 : 0 ≤ s) (h1 : s ≤ 1000000) (sh : List Int) :
    f_made_by [.leaf (webD W), .leaf (.int weak), .leaf (.str p), .leaf (.int s), .leaf (.tuple (shD sh))] = .ret (.lst ((kidsD W weak sh p s).map .leaf)) [none, none, none, none, none] := by
  let R : List (Way × Nat) → Option M → Option M → Option M → Env' := fun acc o6 o7 o8 => [some (.leaf (webD W)), some (.leaf (.int weak)), some (.leaf (.str p)), some (.leaf (.int s)), some (.leaf (.tuple (shD sh))), some (.lst ((acc.map (kidD s)).map .leaf)), o6, o7, o8]
  have step : ∀ (L : List (Way × Nat)), (∀ x ∈ L, x ∈ W.zipIdx) → ∀ acc o6 o7 o8, acc.length + L.length ≤ 1000 → ∃ p6 p7 p8, mLoop (gTp 2 (gCons' (gN 6) (gCons' (gN 7) (gNil')))) b_made_by_0 (L.map fun x => .tuple [.int (x.2 : Int), x.1.D]) (R acc o6 o7 o8) = .next (R (L.foldl (fun a x => if kid weak sh p s x = true then a ++ [x] else a) acc) p6 p7 p8) := by
    intro L
    induction L with
    | nil => intro _ acc o6 o7 o8 _; exact ⟨o6, o7, o8, rfl⟩
    | cons x L ih =>
      intro hL acc o6 o7 o8 hlen
      have hx := mem_zip (hL x (by simp))
      have hw := List.mem_of_getElem? hx
      obtain ⟨w, n⟩ := x
      dsimp only at hx hw
      have ok := h.way w hw
      have hb0 : 0 < w.bot := by have := ok.top1; have := ok.lt; omega
      obtain ⟨i0, i1, i2, i3, i4⟩ := way_ix w
      have e0 := gEq_str (a := w.fr) (b := p) (nmB_ok (nm.nm w hw).1) hp
      have e1 := gNi_ints (n : Int) sh
      have e2 := mul_ok h0 h1 (t := w.top)
      have e3 := div_ok (s := s * w.top) hb0 (by have := ok.bot; omega)
      have e4 : gGeI (.leaf (.int (s * w.top / w.bot))) (.leaf (.int weak)) = some (.bool (decide (weak ≤ less s w))) := rfl
      simp only [List.length_cons] at hlen
      have hlt : ((acc.map (kidD s)).map M.leaf).length < 16777216 := by simp; omega
      have ih' := ih (fun y hy => hL y (by simp [hy]))
      rw [List.map_cons, loop_cons (ρ1 := R acc (some (.leaf (.int n))) (some (.leaf w.D)) o8) (by simp [gTp, gCons', gNil', gN, R]), List.foldl_cons]
      by_cases c1 : w.fr = p
      case neg =>
        rw [decide_eq_false c1] at e0
        have run : b_made_by_0 (R acc (some (.leaf (.int n))) (some (.leaf w.D)) o8) = .next (R acc (some (.leaf (.int n))) (some (.leaf w.D)) o8) := by
          unfold b_made_by_0
          simp [R, i0, e0]
        have hk : kid weak sh p s (w, n) = false := by simp [kid, c1]
        rw [run, O.loop_next, if_neg (by rw [hk]; decide)]
        exact ih' acc _ _ _ (by omega)
      rw [decide_eq_true c1] at e0
      by_cases c2 : (n : Int) ∈ sh
      · rw [decide_eq_true c2] at e1
        have run : b_made_by_0 (R acc (some (.leaf (.int n))) (some (.leaf w.D)) o8) = .next (R acc (some (.leaf (.int n))) (some (.leaf w.D)) o8) := by
          unfold b_made_by_0
          simp [R, i0, e0, e1]
        have hk : kid weak sh p s (w, n) = false := by simp [kid, c2]
        rw [run, O.loop_next, if_neg (by rw [hk]; decide)]
        exact ih' acc _ _ _ (by omega)
      rw [decide_eq_false c2] at e1
      by_cases c3 : weak ≤ less s w
      · rw [decide_eq_true c3] at e4
        have hk : kid weak sh p s (w, n) = true := by simp [kid, c1, c2, c3]
        have run : b_made_by_0 (R acc (some (.leaf (.int n))) (some (.leaf w.D)) o8) = .next (R (acc ++ [(w, n)]) (some (.leaf (.int n))) (some (.leaf w.D)) (some (.leaf (.int (less s w))))) := by
          unfold b_made_by_0
          have ha : appL (some (.lst ((acc.map (kidD s)).map .leaf))) (.ok (.leaf (.tuple [.int (n : Int), .int (s * w.top / w.bot)])) (R acc (some (.leaf (.int n))) (some (.leaf w.D)) (some (.leaf (.int (s * w.top / w.bot)))))) 5 = .next ((R acc (some (.leaf (.int n))) (some (.leaf w.D)) (some (.leaf (.int (s * w.top / w.bot))))).set 5 (some (.lst ((acc.map (kidD s)).map .leaf ++ [.leaf (.tuple [.int (n : Int), .int (s * w.top / w.bot)])])))) := appL_ok (by simp [R]) hlt
          simp only [R] at ha
          simp [-List.map_map, R, i0, i2, i3, e0, e1, e2, e3, e4, ha]
          exact ⟨rfl, rfl⟩
        rw [run, O.loop_next, if_pos hk]
        exact ih' _ _ _ _ (by simp; omega)
      · rw [decide_eq_false c3] at e4
        have hk : kid weak sh p s (w, n) = false := by simp [kid, c3]
        have run : b_made_by_0 (R acc (some (.leaf (.int n))) (some (.leaf w.D)) o8) = .next (R acc (some (.leaf (.int n))) (some (.leaf w.D)) (some (.leaf (.int (less s w))))) := by
          unfold b_made_by_0
          simp [R, i0, i2, i3, e0, e1, e2, e3, e4]
          rfl
        rw [run, O.loop_next, if_neg (by rw [hk]; decide)]
        exact ih' acc _ _ _ (by omega)
  obtain ⟨p6, p7, p8, hL⟩ := step W.zipIdx (fun _ hx => hx) [] none none none (by simp; exact nm.len)
  rw [foldl_filter, List.nil_append] at hL
  unfold f_made_by m_made_by
  simp only [R, List.map_nil] at hL
  have hen := enumD_zip Way.D W 0
  simp [run_ap, hen, hL, kidsD, kids]
end G
namespace G
open PySem PySem.Spec PyProof.Rows L2

/-! ### all_ticks -/
theorem s_all_ticks {W : List Way} {weak : Int} (h : WebOk W weak) (nm : NmOk W) {P : List Str} (hP : ∀ w ∈ W, w.to ∈ P) (hPl : P.length ≤ 1000) (hPn : ∀ p ∈ P, PyData.strOk p = true) {Ls : List Ltr} {S : Int} (hS0 : 0 ≤ S) (hS : S ≤ 2000) (hL : ∀ l ∈ Ls, l.Ok P S) (hLl : Ls.length ≤ 1000) :
    f_all_ticks [.leaf (webD W), .leaf (.int weak), .leaf (LtrsD Ls)] = .ret (.dK (t3L 1 (dp3 W weak (mxS Ls) (init3 Ls)))) [none, none, none] := by
  obtain ⟨u1, u2, u3⟩ := mxS_ok hS0 hL
  let B : Int → Fd3 → Env' → Prop := fun c fd ρ => ρ.length = 14 ∧ ρ[0]? = some (some (.leaf (webD W))) ∧ ρ[1]? = some (some (.leaf (.int weak))) ∧ ρ[2]? = some (some (.leaf (LtrsD Ls))) ∧ ρ[3]? = some (some (.dK (t3L c fd))) ∧ ρ[13]? = some none
  let E : Int → Fd3 → Env' → Prop := fun c fd ρ => F3Ok P S fd ∧ B c fd ρ
  have lens : ∀ {fd : Fd3} {s : Int} (p : Str), 1 ≤ s → F3Ok P S fd → fd.length < 1000000 ∧ ((getG fd s).getD []).length < 1000000 ∧ (old3 fd s p).length < 1000000 := fun {fd s} p hs hf => by
    have h1 := hf.len; have h2 := hf.len2 s; have h3 := hf.len3 hs p
    exact ⟨by omega, by omega, by omega⟩
  -- the letters
  obtain ⟨ρ1, L1, hf1, hB1⟩ := loop_acc (g := gTp 3 (gCons' (gN 4) (gCons' (gN 5) (gCons' (gN 6) (gNil'))))) (b := b_all_ticks_0) Ltr.D (E ((mxS Ls : Int) + 1)) (fun fd l => bump3 fd l.s l.p 0 l.n) Ls (fun fd l ρ hl hE => by
    obtain ⟨hf, l0, a0, a1, a2, a3, a13⟩ := hE
    have ho := hL l hl
    obtain ⟨z1, z2, z3⟩ := lens l.p ho.s1 hf
    have hs := u3 l hl
    refine' ⟨((ρ.set 4 (some (.leaf (.str l.p)))).set 5 (some (.leaf (.int l.s)))).set 6 (some (.leaf (.int l.n))), _, by simp [gTp, gCons', gNil', gN, Ltr.D], _, hf.bump ho.s1 ho.s2 ⟨ho.p, by simp, by have := ho.s2; dsimp only; omega⟩ ho.n, _⟩
    rotate_left
    · unfold b_all_ticks_0
      rw [ap_seq]
      have t := run_tick (r := 7) (qt := qC (.int 0)) (mk := mQ (qC (.int 0))) (qn := qName 6) (ρ := ((((((ρ.set 4 (some (.leaf (.str l.p)))).set 5 (some (.leaf (.int l.s)))).set 6 (some (.leaf (.int l.n)))).set 3 none).set 7 (some (.dK (tkM (old3 fd l.s l.p))))))) (rw' := old3 fd l.s l.p) (t := 0) (n := l.n) (by simp [l0]) (by simp) (by simp) (by simp [l0]) z3
      rw [run_bor (fd := fd) (c := (mxS Ls : Int) + 1) (s := l.s) (p := l.p) (r' := bumpT (old3 fd l.s l.p) 0 l.n) (by simp [a3]) (by simp [l0]) (by omega) (fun x => by simp [l0]) (by decide) (by simp [l0]) z1 z2 t (by simp [l0])]
      rfl
    · refine ⟨by simp [l0], by simp [a0], by simp [a1], by simp [a2], by simp [l0]; rfl, by simp [a13]⟩) [] ([some (.leaf (webD W)), some (.leaf (.int weak)), some (.leaf (LtrsD Ls)), some (.dK []), none, none, none, none, none, none, none, none, none, none]) ⟨.nil, rfl, rfl, rfl, rfl, rfl, rfl⟩
  -- strength by strength
  obtain ⟨ρ2, L2, hB2fd, hB2⟩ := loop_downs (g := gN 5) (b := b_all_ticks_4) (fun c ρ => ∃ fd, E ((c : Int) + 1) fd ρ ∧ dp3 W weak c fd = dp3 W weak (mxS Ls) (init3 Ls)) (mxS Ls) (fun c ρ hc hE => by
    obtain ⟨fd, ⟨hf, l0, a0, a1, a2, a3, a13⟩, hdp⟩ := hE
    generalize hs : ((c + 1 : Nat) : Int) = s at a3
    have hcs : (c : Int) + 1 = s := by omega
    have s1 : 1 ≤ s := by omega
    have s2 : s ≤ S := by omega
    have hrow := hf.at s
    let E2 : Fd3 → Env' → Prop := fun fd ρ => F3Ok P S fd ∧ B s fd ρ ∧ ρ[5]? = some (some (.leaf (.int s)))
    have hdp' : dp3 W weak c (step3 W weak fd s) = dp3 W weak (mxS Ls) (init3 Ls) := by rw [← hs]; exact hdp
    obtain ⟨ρ3, L3, hf3, ⟨m0, b0, b1, b2, b3, b13⟩, b5⟩ := loop_acc (g := gTp 2 (gCons' (gN 4) (gCons' (gN 8) (gNil')))) (b := b_all_ticks_3) tkRow E2 (kids3 W weak s) ((getG fd s).getD []) (fun fd y ρ hy hE => by
      obtain ⟨hf, ⟨l0, a0, a1, a2, a3, a13⟩, a5⟩ := hE
      have hy := hrow y hy
      let E3 : Fd3 → Env' → Prop := fun fd ρ => F3Ok P S fd ∧ B s fd ρ ∧ ρ[5]? = some (some (.leaf (.int s))) ∧ ρ[8]? = some (some (.leaf (.dict (tkK y.2))))
      obtain ⟨ρ4, L4, hf4, hB4, b5, b8⟩ := loop_acc (g := gTp 2 (gCons' (gN 9) (gCons' (gN 10) (gNil')))) (b := b_all_ticks_2) (kidD s) E3 (kid3 s y.2) (kids W weak [] y.1 s) (fun fd x ρ hx hE => by
        obtain ⟨hf, ⟨l0, a0, a1, a2, a3, a13⟩, a5, a8⟩ := hE
        obtain ⟨l1, l2⟩ := kid_lt h s1 hx
        obtain ⟨k1, k2, _, _, _⟩ := kids_mem hx
        obtain ⟨z1, z2, z3⟩ := lens x.1.to l1 hf
        have w1 := web_ix k1
        obtain ⟨_, w2, _, _, w5⟩ := way_ix x.1
        obtain ⟨kp, -⟩ := kid3_pot h hP s1 s2 hy hx hf (fun _ _ _ => 0)
        -- tick by tick
        let E4 : TkR → Env' → Prop := fun r ρ => ρ.length = 14 ∧ ρ[0]? = some (some (.leaf (webD W))) ∧ ρ[1]? = some (some (.leaf (.int weak))) ∧ ρ[2]? = some (some (.leaf (LtrsD Ls))) ∧ ρ[5]? = some (some (.leaf (.int s))) ∧ ρ[8]? = some (some (.leaf (.dict (tkK y.2)))) ∧ ρ[9]? = some (some (.leaf (.int (x.2 : Int)))) ∧ ρ[13]? = some none ∧ ρ[7]? = some (some (.dK (tkM r))) ∧ (r.map (·.1)).Nodup ∧ ∀ z ∈ r, QT P S (x.1.to, z.1) (less s x.1)
        have start : ∀ ρ0 : Env', ρ0 = (((ρ.set 9 (some (.leaf (.int (x.2 : Int))))).set 10 (some (.leaf (.int (less s x.1))))).set 3 none).set 7 (some (.dK (tkM (old3 fd (less s x.1) x.1.to)))) → ∃ ρ', mLoop (gTp 2 (gCons' (gN 11) (gCons' (gN 6) (gNil')))) b_all_ticks_1 (y.2.map fun y => .tuple [.int y.1, .int y.2]) ρ0 = .next ρ' ∧ E4 (bumpTs y.2 x.1.tk (old3 fd (less s x.1) x.1.to)) ρ' := by
          rintro ρ0 rfl
          have o1 : ∀ z ∈ old3 fd (less s x.1) x.1.to, QT P S (x.1.to, z.1) (less s x.1) := fun z hz => by
            unfold old3 at hz
            cases hg : getG ((getG fd (less s x.1)).getD []) x.1.to with
            | none => rw [hg] at hz; simp at hz
            | some r =>
              rw [hg] at hz
              exact ((hf.at (less s x.1) _ (getG_mem hg)).2.2 z hz).1
          refine loop_acc (g := gTp 2 (gCons' (gN 11) (gCons' (gN 6) (gNil')))) (b := b_all_ticks_1) (fun y : Int × Int => .tuple [.int y.1, .int y.2]) E4 (fun r z => bumpT r (z.1 + x.1.tk) z.2) y.2 (fun r z ρ hz hE => ?_) _ _ ⟨by simp [l0], by simp [a0], by simp [a1], by simp [a2], by simp [a5], by simp [a8], by simp [l0], by simp [a13], by simp [l0], (hf.base.get _).get _, o1⟩
          obtain ⟨l0, a0, a1, a2, a5, a8, a9, a13, a7, nd, hq⟩ := hE
          have hz' := hy.2.2 z hz
          have hk := h.way _ k2
          have hqz : QT P S (x.1.to, z.1 + x.1.tk) (less s x.1) := ⟨hP _ k2, by have := hz'.1.2.1; have := hk.tk1; dsimp only at *; omega, by have := hz'.1.2.2; have := hk.tk2; dsimp only at *; omega⟩
          have len : r.length < 1000000 := by have := tk_len (P := P) (p := x.1.to) l1 nd hq; omega
          have t := run_tick (r := 7) (qt := qName 12) (mk := mName 12) (qn := qName 6) (ρ := ((ρ.set 11 (some (.leaf (.int z.1)))).set 6 (some (.leaf (.int z.2)))).set 12 (some (.leaf (.int (z.1 + x.1.tk))))) (rw' := r) (t := z.1 + x.1.tk) (n := z.2) (by simp [a7]) (by simp [l0]) (by simp [l0]) (by simp [l0]) len
          refine' ⟨(ρ.set 11 (some (.leaf (.int z.1)))).set 6 (some (.leaf (.int z.2))), _, by simp [gTp, gCons', gNil', gN], _, _⟩
          rotate_left
          · unfold b_all_ticks_1
            have st : mSet 12 (mQ (q2 gAddS (qName 11) (q2 gIx (q2 gIx (qName 0) (qName 9)) (qC (.int 4))))) ((ρ.set 11 (some (.leaf (.int z.1)))).set 6 (some (.leaf (.int z.2)))) = .next (((ρ.set 11 (some (.leaf (.int z.1)))).set 6 (some (.leaf (.int z.2)))).set 12 (some (.leaf (.int (z.1 + x.1.tk))))) := by
              simp [-getElem?_pos, -List.getElem?_eq_getElem, l0, a0, a9, w1, w5, gAddS]
            rw [ap_seq, st, O.seq_next, t]
          · refine ⟨by simp [l0], by simp [a0], by simp [a1], by simp [a2], by simp [a5], by simp [a8], by simp [a9], by simp [a13], by simp [l0], nodup_putG nd _ _, fun w hw => ?_⟩
            rcases (mem_putG_iff nd).mp hw with ⟨_, hw⟩ | rfl
            · exact hq w hw
            · exact hqz
        obtain ⟨ρ5, L5, m0, c0, c1, c2, c5, c8, c9, c13, c7, -, -⟩ := start _ rfl
        refine' ⟨(ρ.set 9 (some (.leaf (.int (x.2 : Int))))).set 10 (some (.leaf (.int (less s x.1)))), _, by simp [gTp, gCons', gNil', gN, kidD], _, kp, _⟩
        rotate_left
        · unfold b_all_ticks_2
          have hm : mForD (mItF itemsOfD (mName 8)) (gTp 2 (gCons' (gN 11) (gCons' (gN 6) (gNil')))) (b_all_ticks_1) ((((ρ.set 9 (some (.leaf (.int (x.2 : Int))))).set 10 (some (.leaf (.int (less s x.1))))).set 3 none).set 7 (some (.dK (tkM (old3 fd (less s x.1) x.1.to))))) = .next ρ5 := by
            rw [ap_forD]
            have : mItF itemsOfD (mName 8) ((((ρ.set 9 (some (.leaf (.int (x.2 : Int))))).set 10 (some (.leaf (.int (less s x.1))))).set 3 none).set 7 (some (.dK (tkM (old3 fd (less s x.1) x.1.to))))) = .ok (y.2.map fun y => .tuple [.int y.1, .int y.2]) ((((ρ.set 9 (some (.leaf (.int (x.2 : Int))))).set 10 (some (.leaf (.int (less s x.1))))).set 3 none).set 7 (some (.dK (tkM (old3 fd (less s x.1) x.1.to))))) := by
              simp [a8, items_tk]
            rw [this]
            exact R.forD_ok L5
          rw [ap_seq, run_bor (fd := fd) (c := s) (s := less s x.1) (p := x.1.to) (r' := bumpTs y.2 x.1.tk (old3 fd (less s x.1) x.1.to)) (by simp [a3]) (by simp [l0]) l2 (fun z => by simp [-getElem?_pos, -List.getElem?_eq_getElem, a0, l0, w1, w2]) (by decide) (by simp [l0]) z1 z2 hm (by simp [c7])]
          rfl
        · exact ⟨⟨by simp [m0], by simp [c0], by simp [c1], by simp [c2], by simp [m0]; rfl, by simp [c13]⟩, by simp [c5], by simp [c8]⟩) fd ((ρ.set 4 (some (.leaf (.str y.1)))).set 8 (some (.leaf (.dict (tkK y.2))))) ⟨hf, ⟨by simp [l0], by simp [a0], by simp [a1], by simp [a2], by simp [a3], by simp [a13]⟩, by simp [a5], by simp [l0]⟩
      refine ⟨(ρ.set 4 (some (.leaf (.str y.1)))).set 8 (some (.leaf (.dict (tkK y.2)))), ρ4, by simp [gTp, gCons', gNil', gN, tkRow], ?_, hf4, hB4, b5⟩
      have e := s_made_by h nm (hPn _ hy.2.1) (s := s) (by omega) (by omega) []
      have e' : f_made_by [.leaf (webD W), .leaf (.int weak), .leaf (.str y.1), .leaf (.int s), .leaf (.tuple [])] = .ret (.lst ((kidsD W weak [] y.1 s).map .leaf)) [none, none, none, none, none] := e
      have hi : mIt (mCall f_made_by [.val (mName 0), .val (mName 1), .val (mName 4), .val (mName 5), .val (mTup (mNil))]) ((ρ.set 4 (some (.leaf (.str y.1)))).set 8 (some (.leaf (.dict (tkK y.2))))) = .ok (kidsD W weak [] y.1 s) ((ρ.set 4 (some (.leaf (.str y.1)))).set 8 (some (.leaf (.dict (tkK y.2))))) := by
        have c : mCall f_made_by [.val (mName 0), .val (mName 1), .val (mName 4), .val (mName 5), .val (mTup (mNil))] ((ρ.set 4 (some (.leaf (.str y.1)))).set 8 (some (.leaf (.dict (tkK y.2))))) = .ok (.lst ((kidsD W weak [] y.1 s).map .leaf)) ((ρ.set 4 (some (.leaf (.str y.1)))).set 8 (some (.leaf (.dict (tkK y.2))))) := by
          simp [-getElem?_pos, -List.getElem?_eq_getElem, l0, a0, a1, a5, e']
          exact scat_no rfl _ _ _
        rw [ap_it, c]
        simp only [R.bind_ok, frz_lst, Option.bind_some, items_list, itm_some]
      have L4' : mLoop (gTp 2 (gCons' (gN 9) (gCons' (gN 10) gNil'))) b_all_ticks_2 (kidsD W weak [] y.1 s) _ = _ := L4
      unfold b_all_ticks_3
      rw [ap_for, hi, R.for_ok, L4']) fd ((ρ.set 5 (some (.leaf (.int s)))).set 3 (some (.dK (t3L s fd)))) ⟨hf, ⟨by simp [l0], by simp [a0], by simp [a1], by simp [a2], by simp [l0], by simp [a13]⟩, by simp [l0]⟩
    refine ⟨ρ.set 5 (some (.leaf (.int s))), ρ3, by simp [gN, ← hs], ?_, step3 W weak fd s, ⟨hf3, ?_⟩, hdp'⟩
    · unfold b_all_ticks_4
      have hl := run_listGetF (i := 3) (qk := qName 5) (ρ := ρ.set 5 (some (.leaf (.int s)))) (fd := fd) (s := s) hf.nd (by simp [a3]) (by simp [l0])
      rw [ap_for, ap_it, hl]
      simp only [R.bind_ok, frz_lst, Option.bind_some, items_list, itm_some, R.for_ok]
      exact L3
    · rw [hcs]; exact ⟨m0, b0, b1, b2, b3, b13⟩) (mxS Ls) ρ1 (Nat.le_refl _) ⟨_, ⟨hf1, hB1⟩, rfl⟩
  obtain ⟨⟨hf2, m0, c0, c1, c2, c3, c13⟩, hdp⟩ := hB2
  obtain ⟨l0, a0, a1, a2, a3, a13⟩ := hB1
  have hdp : hB2fd = dp3 W weak (mxS Ls) (init3 Ls) := hdp
  have it3 := it_downs hLl (by omega) (i := 2) (j := 13) (ρ := ρ1) a2 a13 (by decide)
  unfold f_all_ticks
  rw [run_ap]
  have body : m_all_ticks [some (.leaf (webD W)), some (.leaf (.int weak)), some (.leaf (LtrsD Ls)), none, none, none, none, none, none, none, none, none, none, none] = .ret (.dK (t3L 1 (dp3 W weak (mxS Ls) (init3 Ls)))) (ρ2.set 3 none) := by
    unfold m_all_ticks
    rw [ap_seq, ap_set, ap_newK, R.set_ok, O.seq_next, ap_seq, ap_for]
    have it1 : mIt (mName 2) ([some (.leaf (webD W)), some (.leaf (.int weak)), some (.leaf (LtrsD Ls)), some (.dK []), none, none, none, none, none, none, none, none, none, none]) = .ok (Ls.map Ltr.D) [some (.leaf (webD W)), some (.leaf (.int weak)), some (.leaf (LtrsD Ls)), some (.dK []), none, none, none, none, none, none, none, none, none, none] := by simp [LtrsD]
    show ((mIt (mName 2) ([some (.leaf (webD W)), some (.leaf (.int weak)), some (.leaf (LtrsD Ls)), some (.dK []), none, none, none, none, none, none, none, none, none, none])).for_ _ _).seq _ = _
    rw [it1, R.for_ok, L1, O.seq_next, ap_seq, ap_for, it3, R.for_ok, L2, O.seq_next, ap_ret, ap_move]
    simp [c3, ← hdp]
  show (m_all_ticks [some (.leaf (webD W)), some (.leaf (.int weak)), some (.leaf (LtrsD Ls)), none, none, none, none, none, none, none, none, none, none, none]).fin 3 [] = _
  rw [body, O.fin_ret, mask_no]
  rfl
end G
namespace G
open PySem PySem.Spec PyProof.Rows L2

/-! ### _law_made -/
theorem s__law_made {W : List Way} {weak : Int} (h : WebOk W weak) (nm : NmOk W) {p : Str} (hp : PyData.strOk p = true) {s : Int} (h0 : 0 ≤ s) (h1 : s ≤ 1000000) (sh : List Int) :
    f__law_made [.leaf (webD W), .leaf (.int weak), .leaf (.str p), .leaf (.int s), .leaf (.tuple (shD sh))] = .ret (.lst ((kidsD W weak sh p s).map .leaf)) [none, none, none, none, none] := by
  let Z : List (Way × Nat) → Option M → Option M → Option M → Option M → Option M → Option M → Option M → Env' := fun acc o6 o7 o8 o9 o10 o11 o12 => [some (.leaf (webD W)), some (.leaf (.int weak)), some (.leaf (.str p)), some (.leaf (.int s)), some (.leaf (.tuple (shD sh))), some (.lst ((acc.map (kidD s)).map .leaf)), o6, o7, o8, o9, o10, o11, o12]
  have step : ∀ (L : List (Way × Nat)), (∀ x ∈ L, x ∈ W.zipIdx) → ∀ acc o6 o7 o8 o9 o10 o11 o12, acc.length + L.length ≤ 1000 → ∃ p6 p7 p8 p9 p10 p11 p12, mLoop (gN 6) b__law_made_0 (L.map fun x => .int (x.2 : Int)) (Z acc o6 o7 o8 o9 o10 o11 o12) = .next (Z (L.foldl (fun a x => if kid weak sh p s x = true then a ++ [x] else a) acc) p6 p7 p8 p9 p10 p11 p12) := by
    intro L
    induction L with
    | nil => intro _ acc o6 o7 o8 o9 o10 o11 o12 _; exact ⟨o6, o7, o8, o9, o10, o11, o12, rfl⟩
    | cons x L ih =>
      intro hL acc o6 o7 o8 o9 o10 o11 o12 hlen
      have hx := mem_zip (hL x (by simp))
      have hw := List.mem_of_getElem? hx
      obtain ⟨w, n⟩ := x
      dsimp only at hx hw
      have ok := h.way w hw
      have hb0 : 0 < w.bot := by have := ok.top1; have := ok.lt; omega
      have ew := web_ix hx
      have e0 := gEq_str (a := w.fr) (b := p) (nmB_ok (nm.nm w hw).1) hp
      have e1 := gNi_ints (n : Int) sh
      have e2 := mul_ok h0 h1 (t := w.top)
      have e3 := div_ok (s := s * w.top) hb0 (by have := ok.bot; omega)
      have e4 : gGeI (.leaf (.int (s * w.top / w.bot))) (.leaf (.int weak)) = some (.bool (decide (weak ≤ less s w))) := rfl
      simp only [List.length_cons] at hlen
      have hlt : ((acc.map (kidD s)).map M.leaf).length < 16777216 := by simp; omega
      have ih' := ih (fun y hy => hL y (by simp [hy]))
      rw [List.map_cons, loop_cons (ρ1 := Z acc (some (.leaf (.int n))) o7 o8 o9 o10 o11 o12) (by simp [gN, Z]), List.foldl_cons]
      -- the parts
      have parts : ∀ b, mSeq (mAsgT (mQ (q2 gIx (qName 0) (qName 6))) (gTp 5 (gCons' (gN 7) (gCons' (gN 8) (gCons' (gN 9) (gCons' (gN 10) (gCons' (gN 11) (gNil')))))))) (mSeq (mSet 12 (mQ (q2 gFdiv (q2 gMulI (qName 3) (qName 9)) (qName 10)))) b) (Z acc (some (.leaf (.int n))) o7 o8 o9 o10 o11 o12) =
          b (Z acc (some (.leaf (.int n))) (some (.leaf (.str w.fr))) (some (.leaf (.str w.to))) (some (.leaf (.int w.top))) (some (.leaf (.int w.bot))) (some (.leaf (.int w.tk))) (some (.leaf (.int (less s w))))) := fun b => by
        simp [Z, ew, e2, e3, Way.D, gTp, gCons', gNil', gN, less]
      by_cases hk : kid weak sh p s (w, n) = true
      · have hk' := hk
        simp only [kid, Bool.and_eq_true, decide_eq_true_eq, Bool.not_eq_true', decide_eq_false_iff_not] at hk'
        obtain ⟨⟨c1, c2⟩, c3⟩ := hk'
        rw [decide_eq_true c1] at e0
        rw [decide_eq_false c2] at e1
        rw [decide_eq_true c3] at e4
        have run : b__law_made_0 (Z acc (some (.leaf (.int n))) o7 o8 o9 o10 o11 o12) = .next (Z (acc ++ [(w, n)]) (some (.leaf (.int n))) (some (.leaf (.str w.fr))) (some (.leaf (.str w.to))) (some (.leaf (.int w.top))) (some (.leaf (.int w.bot))) (some (.leaf (.int w.tk))) (some (.leaf (.int (less s w))))) := by
          unfold b__law_made_0
          rw [parts]
          have ha : appL (some (.lst ((acc.map (kidD s)).map .leaf))) (.ok (.leaf (.tuple [.int (n : Int), .int (less s w)])) (Z acc (some (.leaf (.int n))) (some (.leaf (.str w.fr))) (some (.leaf (.str w.to))) (some (.leaf (.int w.top))) (some (.leaf (.int w.bot))) (some (.leaf (.int w.tk))) (some (.leaf (.int (less s w)))))) 5 = .next ((Z acc (some (.leaf (.int n))) (some (.leaf (.str w.fr))) (some (.leaf (.str w.to))) (some (.leaf (.int w.top))) (some (.leaf (.int w.bot))) (some (.leaf (.int w.tk))) (some (.leaf (.int (less s w))))).set 5 (some (.lst ((acc.map (kidD s)).map .leaf ++ [.leaf (.tuple [.int (n : Int), .int (less s w)])])))) := appL_ok (by simp [Z]) hlt
          simp only [Z] at ha
          have e4' : gGeI (.leaf (.int (less s w))) (.leaf (.int weak)) = some (.bool true) := e4
          simp [-List.map_map, Z, e0, e1, e4', ha]
          rfl
        rw [run, O.loop_next, if_pos hk]
        exact ih' _ _ _ _ _ _ _ _ (by simp; omega)
      · have run : b__law_made_0 (Z acc (some (.leaf (.int n))) o7 o8 o9 o10 o11 o12) = .next (Z acc (some (.leaf (.int n))) (some (.leaf (.str w.fr))) (some (.leaf (.str w.to))) (some (.leaf (.int w.top))) (some (.leaf (.int w.bot))) (some (.leaf (.int w.tk))) (some (.leaf (.int (less s w))))) := by
          unfold b__law_made_0
          rw [parts]
          have e4' : gGeI (.leaf (.int (less s w))) (.leaf (.int weak)) = some (.bool (decide (weak ≤ less s w))) := e4
          by_cases c1 : w.fr = p
          · rw [decide_eq_true c1] at e0
            by_cases c2 : (n : Int) ∈ sh
            · rw [decide_eq_true c2] at e1
              simp [Z, e0, e1]
            · rw [decide_eq_false c2] at e1
              have c3 : ¬ weak ≤ less s w := fun c3 => hk (by simp [kid, c1, c2, c3])
              rw [decide_eq_false c3] at e4'
              simp [Z, e0, e1, e4']
          · rw [decide_eq_false c1] at e0
            simp [Z, e0]
        rw [run, O.loop_next, if_neg hk]
        exact ih' acc _ _ _ _ _ _ _ (by omega)
  obtain ⟨p6, p7, p8, p9, p10, p11, p12, hL⟩ := step W.zipIdx (fun _ hx => hx) [] none none none none none none none (by simp; exact nm.len)
  rw [foldl_filter, List.nil_append] at hL
  have hr : rangeD 0 1 W.length = W.zipIdx.map fun x => PyData.int (x.2 : Int) := by
    have : W.zipIdx.map (fun x => x.2) = List.range W.length := by
      rw [show (fun x : Way × Nat => x.2) = Prod.snd from rfl, List.zipIdx_map_snd, List.range_eq_range']
    unfold rangeD
    rw [← this, List.map_map]
    refine List.map_congr_left fun x _ => ?_
    simp
  have hg : gLen (.leaf (webD W)) = some (.int W.length) := by simp [gLen, webD, M.sv]
  have hi : mItR1 (mCons (mQ (q1 gLen (qName 0))) mNil) (Z [] none none none none none none none) = .ok (W.zipIdx.map fun x => PyData.int (x.2 : Int)) (Z [] none none none none none none none) := by
    have a1 : mCons (mQ (q1 gLen (qName 0))) mNil (Z [] none none none none none none none) = .ok [.int (W.length : Int)] (Z [] none none none none none none none) := by simp [Z, hg]
    rw [ap_itR1, a1, R.bind_ok, rg1_ok _ (inR_ok (by omega) (by have := nm.len; omega)), Int.toNat_natCast, hr]
  have body : m__law_made [some (.leaf (webD W)), some (.leaf (.int weak)), some (.leaf (.str p)), some (.leaf (.int s)), some (.leaf (.tuple (shD sh))), none, none, none, none, none, none, none, none] = .ret (.lst ((kidsD W weak sh p s).map .leaf)) ((Z (kids W weak sh p s) p6 p7 p8 p9 p10 p11 p12).set 5 none) := by
    unfold m__law_made
    have a0 : mSet 5 (mLst mNil) [some (.leaf (webD W)), some (.leaf (.int weak)), some (.leaf (.str p)), some (.leaf (.int s)), some (.leaf (.tuple (shD sh))), none, none, none, none, none, none, none, none] = .next (Z [] none none none none none none none) := by simp [Z]
    rw [ap_seq, a0, O.seq_next, ap_seq, ap_for, hi, R.for_ok, hL, O.seq_next, ap_ret, ap_move]
    rfl
  unfold f__law_made
  rw [run_ap]
  show (m__law_made [some (.leaf (webD W)), some (.leaf (.int weak)), some (.leaf (.str p)), some (.leaf (.int s)), some (.leaf (.tuple (shD sh))), none, none, none, none, none, none, none, none]).fin 5 [] = _
  rw [body]
  simp [Z]
end G
namespace G
open PySem PySem.Spec PyProof.Rows L2

/-! ### _law_ticks -/
theorem s__law_ticks {W : List Way} {weak : Int} (h : WebOk W weak) (nm : NmOk W) {P : List Str} (hP : ∀ w ∈ W, w.to ∈ P) (hPl : P.length ≤ 50) (hPn : ∀ p ∈ P, PyData.strOk p = true) {Ls : List Ltr} {S : Int} (hS0 : 0 ≤ S) (hS : S ≤ 2000) (hL : ∀ l ∈ Ls, l.Ok P S) (hLl : Ls.length ≤ 1000) :
    ∃ rs : RwsG PT, f__law_ticks [.leaf (webD W), .leaf (.int weak), .leaf (LtrsD Ls)] = .ret (rwtM rs) [none, none, none] ∧ FgOk (QT P S) S (fG 0 rs) ∧ (∀ g, smF (fG 0 rs) g = tot3 W weak [] Ls g) ∧ rs.length = mxS Ls + 1 := by
  obtain ⟨u1, u2, u3⟩ := mxS_ok hS0 hL
  have hd := kdT_dec (sh := []) h
  have hw : Within (kdT W weak []) (QT P S) S := kdT_in h hP
  let B : RwsG PT → Env' → Prop := fun rs ρ => rs.length = mxS Ls + 1 ∧ ρ.length = 13 ∧ ρ[0]? = some (some (.leaf (webD W))) ∧ ρ[1]? = some (some (.leaf (.int weak))) ∧ ρ[2]? = some (some (.leaf (LtrsD Ls))) ∧ ρ[3]? = some (some (rwtM rs))
  have lens : ∀ {rs : RwsG PT} {s : Int}, 0 ≤ s → FgOk (QT P S) S (fG 0 rs) → (rs.getD s.toNat []).length < 16777216 := fun {rs s} h0 hf => by
    have h1 := (hf.get s).len (P := univT P S) fun k hk => QT_univ hS0 h0 hk
    rw [fG_get rs h0, univT_len] at h1
    have h2 : P.length * (100 * S.toNat + 1) ≤ 50 * (100 * 2000 + 1) := Nat.mul_le_mul hPl (by omega)
    omega
  -- the letters
  let E1 : FdG PT → Env' → Prop := fun fd ρ => FgOk (QT P S) S fd ∧ ∃ rs, fG 0 rs = fd ∧ B rs ρ
  obtain ⟨z1, z2⟩ := fG_init (κ := PT) (Q := QT P S) (S := S) (n := mxS Ls + 1) (by omega)
  obtain ⟨ρ1, L1, hf1, rs1, hr1, hl1, b0⟩ := loop_acc (g := gTp 3 (gCons' (gN 4) (gCons' (gN 5) (gCons' (gN 6) (gNil'))))) (b := b__law_ticks_0) Ltr.D E1 (fun fd l => bpF fd l.s (l.p, 0) l.n) Ls (fun fd l ρ hl hE => by
    obtain ⟨hf, rs, rfl, hlen, l0, a0, a1, a2, a3⟩ := hE
    have ho := hL l hl
    have hs0 : 0 ≤ l.s := by have := ho.s1; omega
    have hs2 : l.s < rs.length := by have := u3 l hl; rw [hlen]; omega
    have hq := rwt_q (i := 3) (qk := qName 5) (ρ := ((ρ.set 4 (some (.leaf (.str l.p)))).set 5 (some (.leaf (.int l.s)))).set 6 (some (.leaf (.int l.n)))) (rs := rs) (s := l.s) (by simp [a3]) (by simp [l0]) hs0 hs2
    have hk : kTup (kCons (qName 4) (kCons (qC (.int 0)) (kNil))) (((ρ.set 4 (some (.leaf (.str l.p)))).set 5 (some (.leaf (.int l.s)))).set 6 (some (.leaf (.int l.n)))) = some (ptD (l.p, 0)) := by simp [l0, ptD]
    have hv : m2eq (lf2 gAddS) (mGetK (qAt 3 (pLx 3 (pNil) (qName 5))) (kTup (kCons (qName 4) (kCons (qC (.int 0)) (kNil)))) (qC (.int 0))) (qName 6) (((ρ.set 4 (some (.leaf (.str l.p)))).set 5 (some (.leaf (.int l.s)))).set 6 (some (.leaf (.int l.n)))) = .ok (.leaf (.int ((getG (rs.getD l.s.toNat []) (l.p, 0)).getD 0 + l.n))) (((ρ.set 4 (some (.leaf (.str l.p)))).set 5 (some (.leaf (.int l.s)))).set 6 (some (.leaf (.int l.n)))) := by
      rw [ap_m2eq, ap_getK, hq, hk]
      simp [l0, dT_get, gAddS]
    have pt := rwt_putK (i := 3) (qk := qName 5) (rs := rs) (s := l.s) (p := (l.p, 0)) (by simp [a3]) (by simp [l0]) hs0 hs2 hk hv (lens hs0 hf)
    refine ⟨((ρ.set 4 (some (.leaf (.str l.p)))).set 5 (some (.leaf (.int l.s)))).set 6 (some (.leaf (.int l.n))), _, by simp [gTp, gCons', gNil', gN, Ltr.D], pt, hf.bump ho.s1 ho.s2 ⟨ho.p, by simp, by have := ho.s2; dsimp only; omega⟩ ho.n, bpW rs l.s (l.p, 0) l.n, fG_bump rs hs0 hs2 _ _, by rw [bpW_len]; exact hlen, by simp [l0], by simp [a0], by simp [a1], by simp [a2], by simp [l0]; rfl⟩) (fG 0 (List.replicate (mxS Ls + 1) [])) ([some (.leaf (webD W)), some (.leaf (.int weak)), some (.leaf (LtrsD Ls)), some (rwtM (List.replicate (mxS Ls + 1) [])), none, none, none, none, none, none, none, none, none]) ⟨z1, _, rfl, by simp, rfl, rfl, rfl, rfl, rfl⟩
  have hs1 : ∀ ω, smF (fG 0 rs1) ω = (Ls.map fun l => l.n * ω (l.p, 0) l.s).sum := fun ω => by
    rw [hr1]
    have : ∀ (L : List Ltr) (fd : FdG PT), (∀ l ∈ L, l.Ok P S) → FgOk (QT P S) S fd → smF (L.foldl (fun fd l => bpF fd l.s (l.p, 0) l.n) fd) ω = smF fd ω + (L.map fun l => l.n * ω (l.p, 0) l.s).sum := by
      intro L
      induction L with
      | nil => intro fd _ _; simp
      | cons l L ih =>
        intro fd hL hf
        have ho := hL l (by simp)
        rw [List.foldl_cons, ih _ (fun z hz => hL z (by simp [hz])) (hf.bump ho.s1 ho.s2 ⟨ho.p, by simp, by have := ho.s2; dsimp only; omega⟩ ho.n), smF_bump hf]
        simp only [List.map_cons, List.sum_cons]
        generalize l.n * ω (l.p, 0) l.s = c
        omega
    rw [this Ls _ hL z1, z2]
    omega
  -- strength by strength
  let E : Nat → Env' → Prop := fun c ρ => ∃ rs, FgOk (QT P S) S (fG 0 rs) ∧ (∀ g, smF (fG 0 rs) (wtG (kdT W weak []) g c) = tot3 W weak [] Ls g) ∧ B rs ρ
  obtain ⟨ρ2, L2, rs2, hf2, ht2, hl2, m0, c0, c1, c2, c3⟩ := loop_downs (g := gN 5) (b := b__law_ticks_3) E (mxS Ls) (fun c ρ hc hE => by
    obtain ⟨rs, hf, ht, hlen, l0, a0, a1, a2, a3⟩ := hE
    generalize hs : ((c + 1 : Nat) : Int) = s at ht
    have s1 : 1 ≤ s := by omega
    have s2 : s ≤ S := by omega
    have s3 : s < rs.length := by rw [hlen]; omega
    obtain ⟨L, hperm, hsort⟩ := rwt_sort (i := 3) (qk := qName 5) (ρ := ρ.set 5 (some (.leaf (.int s)))) (rs := rs) (s := s) (by simp [a3]) (by simp [l0]) (by omega) s3 (lens (by omega) hf)
    have hrow : RwOk (fun k => QT P S k s) (rs.getD s.toNat []) := by have := hf.get s; rwa [fG_get rs (by omega)] at this
    generalize hrw : rs.getD s.toNat [] = row at hperm hrow
    let E2 : FdG PT → Env' → Prop := fun fd ρ => FgOk (QT P S) S fd ∧ ∃ rs, fG 0 rs = fd ∧ rs.getD s.toNat [] = row ∧ B rs ρ ∧ ρ[5]? = some (some (.leaf (.int s)))
    obtain ⟨ρ3, L3, hf3, rs3, hr3, hw3, hB3, -⟩ := loop_acc (g := gTp 2 (gCons' (gN 4) (gCons' (gN 7) (gNil')))) (b := b__law_ticks_2) (fun y : PT × Int => ptD y.1) E2 (kidsG (kdT W weak []) s) L (fun fd y ρ hy hE => by
      obtain ⟨hf, rs, rfl, hrw, ⟨hlen, l0, a0, a1, a2, a3⟩, a5⟩ := hE
      obtain ⟨yq, yn⟩ := hrow.mem y (hperm.mem_iff.mp hy)
      have hgy : getG row y.1 = some y.2 := getG_of_mem hrow.nd (hperm.mem_iff.mp hy)
      let E3 : FdG PT → Env' → Prop := fun fd ρ => FgOk (QT P S) S fd ∧ ∃ rs, fG 0 rs = fd ∧ rs.getD s.toNat [] = row ∧ B rs ρ ∧ ρ[5]? = some (some (.leaf (.int s))) ∧ ρ[4]? = some (some (.leaf (.str y.1.1))) ∧ ρ[7]? = some (some (.leaf (.int y.1.2)))
      obtain ⟨ρ4, L4, hf4, rs4, hr4, hw4, hB4, b5, -⟩ := loop_acc (g := gTp 2 (gCons' (gN 8) (gCons' (gN 9) (gNil')))) (b := b__law_ticks_1) (kidD s) E3 (fun fd x => bpF fd (less s x.1) (x.1.to, y.1.2 + x.1.tk) y.2) (kids W weak [] y.1.1 s) (fun fd x ρ hx hE => by
        obtain ⟨hf, rs, rfl, hrw, ⟨hlen, l0, a0, a1, a2, a3⟩, a5, a4, a7⟩ := hE
        obtain ⟨l1, l2⟩ := kid_lt h s1 hx
        obtain ⟨k1, k2, _, _, _⟩ := kids_mem hx
        have w1 := web_ix k1
        obtain ⟨_, w2, _, _, w5⟩ := way_ix x.1
        have j0 : 0 ≤ less s x.1 := by omega
        have j2 : less s x.1 < rs.length := by rw [hlen]; omega
        have j3 : s < rs.length := by rw [hlen]; omega
        have hq2 := hw y.1 s s1 s2 yq ((x.1.to, y.1.2 + x.1.tk), less s x.1) (List.mem_map.mpr ⟨x, hx, rfl⟩)
        have st : mSet 10 (mTup (mCons (mQ (q2 gIx (q2 gIx (qName 0) (qName 8)) (qC (.int 1)))) (mCons (mQ (q2 gAddS (qName 7) (q2 gIx (q2 gIx (qName 0) (qName 8)) (qC (.int 4))))) (mNil)))) ((ρ.set 8 (some (.leaf (.int (x.2 : Int))))).set 9 (some (.leaf (.int (less s x.1))))) = .next (((ρ.set 8 (some (.leaf (.int (x.2 : Int))))).set 9 (some (.leaf (.int (less s x.1))))).set 10 (some (.leaf (ptD (x.1.to, y.1.2 + x.1.tk))))) := by
          simp [-getElem?_pos, -List.getElem?_eq_getElem, l0, a0, a7, w1, w2, w5, gAddS, ptD]
        let ρc := ((ρ.set 8 (some (.leaf (.int (x.2 : Int))))).set 9 (some (.leaf (.int (less s x.1))))).set 10 (some (.leaf (ptD (x.1.to, y.1.2 + x.1.tk))))
        have hqa := rwt_q (i := 3) (qk := qName 9) (ρ := ρc) (rs := rs) (s := less s x.1) (by simp [ρc, a3]) (by simp [ρc, l0]) j0 j2
        have hqb := rwt_q (i := 3) (qk := qName 5) (ρ := ρc) (rs := rs) (s := s) (by simp [ρc, a3]) (by simp [ρc, a5]) (by omega) j3
        have hk : kTup (kCons (qName 4) (kCons (qName 7) (kNil))) ρc = some (ptD y.1) := by simp [ρc, a4, a7, ptD]
        have hv : m2 (lf2 gAddS) (mQ (q3 gDGet (qAt 3 (pLx 3 (pNil) (qName 9))) (qName 10) (qC (.int 0)))) (mDixK (qAt 3 (pLx 3 (pNil) (qName 5))) (kTup (kCons (qName 4) (kCons (qName 7) (kNil))))) ρc = .ok (.leaf (.int ((getG (rs.getD (less s x.1).toNat []) (x.1.to, y.1.2 + x.1.tk)).getD 0 + y.2))) ρc := by
          have t10 : qName 10 ρc = some (.leaf (ptD (x.1.to, y.1.2 + x.1.tk))) := by simp [ρc, l0]
          rw [ap_m2, ap_Q, ap_q3, hqa, t10]
          simp only [Option.bind_some, ap_C, dT_get, Option.map_some, rd_leaf, R.bind_ok]
          rw [ap_dixK, hqb, hk]
          simp only [Option.bind_some, hrw, dT_ix hgy, okD_some, R.bind_ok]
          rfl
        have pt := rwt_putF (i := 3) (qk := qName 9) (qp := qName 10) (ρ := ρc) (rs := rs) (s := less s x.1) (p := (x.1.to, y.1.2 + x.1.tk)) (by simp [ρc, a3]) (by simp [ρc, l0]) j0 j2 (by simp [ρc, l0]) hv (lens j0 hf)
        refine' ⟨(ρ.set 8 (some (.leaf (.int (x.2 : Int))))).set 9 (some (.leaf (.int (less s x.1)))), _, by simp [gTp, gCons', gNil', gN, kidD], _, hf.bump l1 (by omega) hq2 yn, bpW rs (less s x.1) (x.1.to, y.1.2 + x.1.tk) y.2, fG_bump rs j0 j2 _ _, by rw [bpW_other rs _ _ (by omega)]; exact hrw, ⟨by rw [bpW_len]; exact hlen, _⟩, _⟩
        rotate_left
        · unfold b__law_ticks_1
          rw [ap_seq, st, O.seq_next, pt]
        · exact ⟨by simp [ρc, l0], by simp [ρc, a0], by simp [ρc, a1], by simp [ρc, a2], by simp [ρc, l0]; rfl⟩
        · exact ⟨by simp [ρc, a5], by simp [ρc, a4], by simp [ρc, a7]⟩) (fG 0 rs) ((ρ.set 4 (some (.leaf (.str y.1.1)))).set 7 (some (.leaf (.int y.1.2)))) ⟨hf, rs, rfl, hrw, ⟨hlen, by simp [l0], by simp [a0], by simp [a1], by simp [a2], by simp [a3]⟩, by simp [a5], by simp [l0], by simp [l0]⟩
      have e := s__law_made h nm (hPn _ yq.1) (s := s) (by omega) (by omega) []
      have e' : f__law_made [.leaf (webD W), .leaf (.int weak), .leaf (.str y.1.1), .leaf (.int s), .leaf (.tuple [])] = .ret (.lst ((kidsD W weak [] y.1.1 s).map .leaf)) [none, none, none, none, none] := e
      have hi : mIt (mCall f__law_made [.val (mName 0), .val (mName 1), .val (mName 4), .val (mName 5), .val (mTup (mNil))]) ((ρ.set 4 (some (.leaf (.str y.1.1)))).set 7 (some (.leaf (.int y.1.2)))) = .ok (kidsD W weak [] y.1.1 s) ((ρ.set 4 (some (.leaf (.str y.1.1)))).set 7 (some (.leaf (.int y.1.2)))) := by
        have c : mCall f__law_made [.val (mName 0), .val (mName 1), .val (mName 4), .val (mName 5), .val (mTup (mNil))] ((ρ.set 4 (some (.leaf (.str y.1.1)))).set 7 (some (.leaf (.int y.1.2)))) = .ok (.lst ((kidsD W weak [] y.1.1 s).map .leaf)) ((ρ.set 4 (some (.leaf (.str y.1.1)))).set 7 (some (.leaf (.int y.1.2)))) := by
          simp [-getElem?_pos, -List.getElem?_eq_getElem, l0, a0, a1, a5, e']
          exact scat_no rfl _ _ _
        rw [ap_it, c]
        simp only [R.bind_ok, frz_lst, Option.bind_some, items_list, itm_some]
      have L4' : mLoop (gTp 2 (gCons' (gN 8) (gCons' (gN 9) gNil'))) b__law_ticks_1 (kidsD W weak [] y.1.1 s) _ = _ := L4
      have hk : (kids W weak [] y.1.1 s).foldl (fun fd x => bpF fd (less s x.1) (x.1.to, y.1.2 + x.1.tk) y.2) (fG 0 rs) = kidsG (kdT W weak []) s (fG 0 rs) y := by
        unfold kidsG kdT
        rw [List.foldl_map]
      rw [hk] at hf4 hr4
      refine ⟨(ρ.set 4 (some (.leaf (.str y.1.1)))).set 7 (some (.leaf (.int y.1.2))), ρ4, by simp [gTp, gCons', gNil', gN, ptD], ?_, hf4, rs4, hr4, hw4, hB4, b5⟩
      unfold b__law_ticks_2
      rw [ap_for, hi, R.for_ok, L4']) (fG 0 rs) (ρ.set 5 (some (.leaf (.int s)))) ⟨hf, rs, rfl, hrw, ⟨hlen, by simp [l0], by simp [a0], by simp [a1], by simp [a2], by simp [a3]⟩, by simp [l0]⟩
    have hperm' : L.Perm ((getG (fG 0 rs) s).getD []) := by rw [fG_get rs (by omega), hrw]; exact hperm
    refine ⟨ρ.set 5 (some (.leaf (.int s))), ρ3, by simp [gN, ← hs], ?_, rs3, by rw [hr3]; exact hf3, fun g => ?_, hB3⟩
    · unfold b__law_ticks_3
      have hi : mIt (m1q gSortK (qAt 3 (pLx 3 pNil (qName 5)))) (ρ.set 5 (some (.leaf (.int s)))) = .ok (L.map fun y => ptD y.1) (ρ.set 5 (some (.leaf (.int s)))) := by
        rw [ap_it, hsort, R.bind_ok, frz_lst]
        rfl
      rw [ap_for, hi, R.for_ok, L3]
    · rw [hr3]
      have := (stepG_wt hd hw s1 s2 g hf hperm').2
      have e : (c : Int) = s - 1 := by omega
      rw [e]
      unfold stepG at this
      rw [this]
      exact ht g) (mxS Ls) ρ1 (Nat.le_refl _) ⟨rs1, by rw [hr1]; exact hf1, fun g => by
      rw [hs1]
      unfold tot3
      exact sum_congr fun l hl => by unfold wtG; rw [if_pos (u3 l hl)], hl1, b0⟩
  refine ⟨rs2, ?_, hf2, fun g => by rw [smF_end hf2 (kdT W weak [])]; exact ht2 g, hl2⟩
  obtain ⟨l0, a0, a1, a2, a3⟩ := b0
  have a4 : mSet 3 (mComp (mItR1 (mCons (m2eq (lf2 gAddS) (m1 (lf gMax) (m2 (gAdd) (mComp (mIt (mName 2)) (gN 12) (tTrue) (mQ (q2 gIx (qName 12) (qC (.int 1)))) [12]) (mLst (mCons (mQ (qC (.int 0))) (mNil))))) (qC (.int 1))) (mNil))) (gN 11) (tTrue) (mNewT) [11]) [some (.leaf (webD W)), some (.leaf (.int weak)), some (.leaf (LtrsD Ls)), none, none, none, none, none, none, none, none, none, none] = .next [some (.leaf (webD W)), some (.leaf (.int weak)), some (.leaf (LtrsD Ls)), some (rwtM (List.replicate (mxS Ls + 1) [])), none, none, none, none, none, none, none, none, none] := by
    rw [ap_set, it_rows (Ls := Ls) (i := 2) (j := 12) (k := 11) (el := mNewT) (ρ := [some (.leaf (webD W)), some (.leaf (.int weak)), some (.leaf (LtrsD Ls)), none, none, none, none, none, none, none, none, none, none]) hLl (by omega) (e := .dT []) (fun _ => rfl) (by rfl) (by rfl) (by rfl) (by decide)]
    simp only [R.set_ok, rwtM, List.map_replicate]
    rfl
  have it1 : mIt (mName 2) [some (.leaf (webD W)), some (.leaf (.int weak)), some (.leaf (LtrsD Ls)), some (rwtM (List.replicate (mxS Ls + 1) [])), none, none, none, none, none, none, none, none, none] = .ok (Ls.map Ltr.D) [some (.leaf (webD W)), some (.leaf (.int weak)), some (.leaf (LtrsD Ls)), some (rwtM (List.replicate (mxS Ls + 1) [])), none, none, none, none, none, none, none, none, none] := by simp [LtrsD]
  have it3 : mItR3 (mCons (mQ (q2 gSub (q1 gLen (qName 3)) (qC (.int 1)))) (mCons (mQ (qC (.int 0))) (mCons (mQ (q1 gNeg (qC (.int 1)))) (mNil)))) ρ1 = .ok ((downs (mxS Ls)).map .int) ρ1 := by
    have c1 : mCons (mQ (q2 gSub (q1 gLen (qName 3)) (qC (.int 1)))) (mCons (mQ (qC (.int 0))) (mCons (mQ (q1 gNeg (qC (.int 1)))) (mNil))) ρ1 = .ok [.int (mxS Ls : Nat), .int 0, .int (-1)] ρ1 := by
      simp [a3, rwtM, gLen, gSub, gI2, gNeg, hl1]
    rw [ap_itR3, c1, R.bind_ok, rg3_downs (by omega)]
  unfold f__law_ticks
  rw [run_ap]
  have body : m__law_ticks [some (.leaf (webD W)), some (.leaf (.int weak)), some (.leaf (LtrsD Ls)), none, none, none, none, none, none, none, none, none, none] = .ret (rwtM rs2) (ρ2.set 3 none) := by
    unfold m__law_ticks
    rw [ap_seq, a4, O.seq_next, ap_seq, ap_for, it1, R.for_ok, L1, O.seq_next, ap_seq, ap_for, it3, R.for_ok, L2, O.seq_next, ap_ret, ap_move]
    simp [c3]
  show (m__law_ticks [some (.leaf (webD W)), some (.leaf (.int weak)), some (.leaf (LtrsD Ls)), none, none, none, none, none, none, none, none, none, none]).fin 3 [] = _
  rw [body, O.fin_ret, mask_no]
  rfl
end G
namespace G
open PySem PySem.Spec PyProof.Rows L2

/-! ### _law_web -/
theorem atI_ok {ds : List PyData} {r : Int} (h0 : 0 ≤ r) (h1 : r < ds.length) : ∃ d, atI ds r = some d ∧ d ∈ ds := by
  have hr : r.toNat < ds.length := by omega
  refine ⟨ds[r.toNat], ?_, List.getElem_mem hr⟩
  unfold atI ixN
  rw [if_pos h0, if_pos h1]
  exact List.getElem?_eq_getElem hr
theorem loop_invN {g : PyData → Env' → Option Env'} {b : Env' → O} (P : Nat → Env' → Prop) (N : Nat) : ∀ {ds : List PyData} (hs : ∀ i d, i < N → d ∈ ds → ∀ ρ, P i ρ → ∃ ρ1 ρ2, g d ρ = some ρ1 ∧ b ρ1 = .next ρ2 ∧ P (i + 1) ρ2) (j : Nat) (ρ : Env'), j + ds.length = N → P j ρ → ∃ ρ', mLoop g b ds ρ = .next ρ' ∧ P N ρ'
  | [], _, j, ρ, e, h => ⟨ρ, rfl, by rw [← e]; exact h⟩
  | d :: ds, hs, j, ρ, e, h => by
    rw [List.length_cons] at e
    obtain ⟨ρ1, ρ2, h1, h2, h3⟩ := hs j d (by omega) (by simp) ρ h
    rw [loop_cons h1, h2, O.loop_next]
    exact loop_invN P N (fun i d hi hd => hs i d hi (List.mem_cons_of_mem _ hd)) (j + 1) ρ2 (by omega) h3
theorem ex_map {α β : Type} {f : α → β} {p : α → Prop} : ∀ {l : List β}, (∀ d ∈ l, ∃ w, d = f w ∧ p w) → ∃ ws : List α, l = ws.map f ∧ ∀ w ∈ ws, p w
  | [], _ => ⟨[], rfl, by simp⟩
  | d :: l, h => by
    obtain ⟨w, e, hp⟩ := h d (by simp)
    obtain ⟨ws, e2, h2⟩ := ex_map (l := l) fun d hd => h d (by simp [hd])
    exact ⟨w :: ws, by rw [e, e2]; rfl, fun x hx => (List.mem_cons.mp hx).elim (fun e => e ▸ hp) (h2 x)⟩
def nameL : List PyData := [.str "ash", .str "bay", .str "cod", .str "dew", .str "elm"]
theorem names_ok {d : PyData} (h : d ∈ nameL) : ∃ a : Str, d = .str a ∧ nmB a = true := by
  unfold nameL at h
  simp only [List.mem_cons, List.not_mem_nil, or_false] at h
  rcases h with rfl | rfl | rfl | rfl | rfl
  · exact ⟨_, rfl, by decide +kernel⟩
  · exact ⟨_, rfl, by decide +kernel⟩
  · exact ⟨_, rfl, by decide +kernel⟩
  · exact ⟨_, rfl, by decide +kernel⟩
  · exact ⟨_, rfl, by decide +kernel⟩
theorem rng_ok {n : Int} (h0 : 0 ≤ n) (h1 : n < 1000000) : inR n = true := by
  unfold inR
  rw [absB_iff]; omega
/-- a way that the law may draw -/
structure WayN (w : Way) : Prop where
  ok : w.Ok
  fr : nmB w.fr = true
  to : nmB w.to = true
theorem WayN.row {w : Way} : isRow w.D := ⟨_, _, _, _, _, rfl⟩
theorem s__law_web {m : M} (hb : Bag m) {most : Int} (h0 : 0 < most) (h1 : most < 100000) : ∃ (W : List Way) (m' : M), f__law_web [m, .leaf (.int most)] = .ret (.leaf (webD W)) [some m', none] ∧ Bag m' ∧ W ≠ [] ∧ (∀ w ∈ W, WayN w) ∧ (W.length : Int) ≤ most := by
  obtain ⟨r, m1, e1, hb1, r0, r1⟩ := s__law_take hb (many := 5) (by decide) (by decide)
  obtain ⟨names, hn, hne, hsub, hnl⟩ : ∃ names, cutD nameL none (some (1 + r)) = names ∧ names ≠ [] ∧ (∀ d ∈ names, d ∈ nameL) ∧ names.length ≤ 5 := by
    refine ⟨_, rfl, ?_, fun d hd => cutD_mem hd, cutD_len⟩
    have : r = 0 ∨ r = 1 ∨ r = 2 ∨ r = 3 ∨ r = 4 := by omega
    rcases this with rfl | rfl | rfl | rfl | rfl <;> simp [cutD, nameL, HT.sIx]
  obtain ⟨c, m2, e2, hb2, c0, c1⟩ := s__law_take hb1 (many := most) h0 (by omega)
  let P : Nat → Env' → Prop := fun i ρ => ∃ m nm A o4 o5 o6 o7, ρ = [some m, some (.leaf (.int most)), some nm, some (.dT A), o4, o5, o6, o7] ∧ Bag m ∧ (nm = .lst (names.map .leaf) ∨ nm = .leaf (.list names)) ∧ (∀ k ∈ A.map (·.1), ∃ w : Way, k = w.k ∧ WayN w) ∧ A.length ≤ i ∧ (0 < i → A ≠ [])
  have hlen : (rangeD 0 1 (1 + c).toNat).length = (1 + c).toNat := by simp [rangeD]
  have inv := loop_invN (g := gN 4) (b := b__law_web_0) P (1 + c).toNat (ds := rangeD 0 1 (1 + c).toNat) (fun i d hi hd ρ hP => by
    obtain ⟨m, nm, A, o4, o5, o6, o7, rfl, hb, hnm, hA, hl, hpos⟩ := hP
    obtain ⟨q1, n1, f1, hn1, q10, q11⟩ := s__law_take hb (many := 4) (by decide) (by decide)
    obtain ⟨bt, hbt, hbm⟩ := atI_ok (ds := [PyData.int 2, .int 3, .int 5, .int 10]) q10 q11
    obtain ⟨bv, rfl, bv0, bv1⟩ : ∃ v : Int, bt = .int v ∧ 2 ≤ v ∧ v ≤ 10 := by
      simp only [List.mem_cons, List.not_mem_nil, or_false] at hbm
      rcases hbm with rfl | rfl | rfl | rfl <;> exact ⟨_, rfl, by decide, by decide⟩
    obtain ⟨q2, n2, f2, hn2, q20, q21⟩ := s__law_take hn1 (many := bv - 1) (by omega) (by omega)
    obtain ⟨q3, n3, f3, hn3, q30, q31⟩ := s__law_take hn2 (many := 2) (by decide) (by decide)
    obtain ⟨tt, htt, htm⟩ := atI_ok (ds := [PyData.int 2, .int 9]) q30 q31
    obtain ⟨tv, rfl, tv0, tv1⟩ : ∃ v : Int, tt = .int v ∧ 2 ≤ v ∧ v ≤ 9 := by
      simp only [List.mem_cons, List.not_mem_nil, or_false] at htm
      rcases htm with rfl | rfl <;> exact ⟨_, rfl, by decide, by decide⟩
    obtain ⟨q4, n4, f4, hn4, q40, q41⟩ := s__law_take hn3 (many := tv) (by omega) (by omega)
    obtain ⟨x, n5, f5, hx, hn5⟩ := s__law_of hn4 (ds := names) hne (by omega)
    obtain ⟨y, n6, f6, hy, hn6⟩ := s__law_of hn5 (ds := names) hne (by omega)
    obtain ⟨a, rfl, ha⟩ := names_ok (hsub x hx)
    obtain ⟨b, rfl, hb'⟩ := names_ok (hsub y hy)
    have hz : A.length < 16777216 := by omega
    have hsb : gSub (.leaf (.int bv)) (.leaf (.int 1)) = some (.int (bv - 1)) := by simp [gSub, gI2]
    have hK : keysOf [PyData.str a, .str b, .int (1 + q2), .int bv, .int (1 + q4)] = some [.inr a, .inr b, .inl (1 + q2), .inl bv, .inl (1 + q4)] := by simp [keysOf, keyOf]
    refine ⟨_, [some n6, some (.leaf (.int most)), some (.leaf (.list names)), some (.dT (putG A [.inr a, .inr b, .inl (1 + q2), .inl bv, .inl (1 + q4)] (.leaf (.bool true)))), some (.leaf d), some (.leaf (.int bv)), some (.leaf (.int (1 + q2))), some (.leaf (.int (1 + q4)))], rfl, ?_, n6, _, _, _, _, _, _, rfl, hn6, .inr rfl, fun k hk => ?_, ?_, fun _ => ?_⟩
    · unfold b__law_web_0
      rcases hnm with rfl | rfl <;> simp [f1, f2, f3, f4, f5, f6, gIx, M.sv, leaves, hbt, htt, gAddS, hsb, M.put, hK, hz]
    · rcases mem_putG.mp hk with hk | rfl
      · exact hA k hk
      · exact ⟨⟨a, b, 1 + q2, bv, 1 + q4⟩, rfl, ⟨by dsimp only; omega, by dsimp only; omega, bv1, by dsimp only; omega, by dsimp only; omega⟩, ha, hb'⟩
    · have := putG_len A [.inr a, .inr b, .inl (1 + q2), .inl bv, .inl (1 + q4)] (.leaf (.bool true)); omega
    · exact putG_ne _ _ _) 0 [some m2, some (.leaf (.int most)), some (.lst (names.map .leaf)), some (.dT []), none, none, none, none] (by omega) ⟨m2, _, [], _, _, _, _, rfl, hb2, .inl rfl, by simp, by simp, fun h => by omega⟩
  obtain ⟨ρ', hL, m3, nm, A, o4, o5, o6, o7, rfl, hb3, hnm, hA, hl, hpos⟩ := inv
  have hrow : ∀ d ∈ A.map (fun kv => keysD kv.1), ∃ w : Way, d = w.D ∧ WayN w := fun d hd => by
    obtain ⟨kv, hkv, rfl⟩ := List.mem_map.mp hd
    obtain ⟨w, e, hw⟩ := hA kv.1 (List.mem_map.mpr ⟨kv, hkv, rfl⟩)
    exact ⟨w, by rw [e]; rfl, hw⟩
  have hok : sortOk (A.map fun kv => keysD kv.1) = true := sortOk_rows (fun d hd => by obtain ⟨w, rfl, hw⟩ := hrow d hd; exact WayN.row) (by simp; omega)
  have hrg := rng_ok (n := 1 + c) (by omega) (by omega)
  obtain ⟨W, hW, hWN⟩ := ex_map (f := Way.D) (l := sortD (A.map fun kv => keysD kv.1)) fun d hd => hrow d (List.mem_mergeSort.mp hd)
  have hlW : W.length = A.length := by
    have := congrArg List.length hW
    simpa using this.symm
  refine ⟨W, m3, ?_, hb3, fun e => ?_, hWN, by omega⟩
  · have hn' : cutD [PyData.str "ash", .str "bay", .str "cod", .str "dew", .str "elm"] none (some (1 + r)) = names := hn
    have lv : leaves (W.map (M.leaf ∘ Way.D)) = some (W.map Way.D) := by rw [← List.map_map]; exact leaves_map _
    unfold f__law_web m__law_web
    simp [run_ap, e1, e2, gAddS, gSl, M.tv, M.lv, leaves, hn', rg1_ok _ hrg, hL, gSortK, M.kv, hok, gTuple, hW, webD, lv]
  · have hAn := hpos (by omega)
    rw [e] at hlW
    exact hAn (List.length_eq_zero_iff.mp hlW.symm)
end G
namespace G
open PySem PySem.Spec PyProof.Rows L2

/-! ### places -/
def c0 : PyData → Key
  | .tuple (.str a :: _) => .inr a
  | _ => .inl 0
def c1 : PyData → Key
  | .tuple (_ :: .str a :: _) => .inr a
  | _ => .inl 0
def Plc (ways : List PyData) (z : Str) : Prop := ∃ w ∈ ways, c0 w = .inr z ∨ c1 w = .inr z
theorem row_c {w : PyData} (h : isRow w) : ∃ a b r, w = .tuple (.str a :: .str b :: r) ∧ c0 w = .inr a ∧ c1 w = .inr b ∧ keyD (c0 w) = .str a ∧ keyD (c1 w) = .str b := by
  obtain ⟨a, b, t, c, k, rfl⟩ := h
  exact ⟨a, b, _, rfl, rfl, rfl, rfl, rfl⟩
/-- the places' keys, once each -/
def plK (ways : List PyData) : List Key := addAll [] (ways.map c0 ++ ways.map c1)
def plL (ways : List PyData) : List PyData := sortD ((plK ways).map keyD)
theorem mem_plK {ways : List PyData} {k : Key} : k ∈ plK ways ↔ ∃ w ∈ ways, c0 w = k ∨ c1 w = k := by
  unfold plK
  rw [addAll_mem]
  simp only [List.not_mem_nil, false_or, List.mem_append, List.mem_map]
  constructor
  · rintro (⟨w, hw, e⟩ | ⟨w, hw, e⟩)
    · exact ⟨w, hw, .inl e⟩
    · exact ⟨w, hw, .inr e⟩
  · rintro ⟨w, hw, e | e⟩
    · exact .inl ⟨w, hw, e⟩
    · exact .inr ⟨w, hw, e⟩
theorem plK_len {ways : List PyData} : (plK ways).length ≤ 2 * ways.length := by
  have := addAll_len (ways.map c0 ++ ways.map c1) []
  unfold plK
  simp at this ⊢
  omega
theorem plK_str {ways : List PyData} (h : ∀ d ∈ ways, isRow d) : ∀ d ∈ (plK ways).map keyD, ∃ z, d = .str z := fun d hd => by
  obtain ⟨k, hk, rfl⟩ := List.mem_map.mp hd
  obtain ⟨w, hw, e⟩ := mem_plK.mp hk
  obtain ⟨a, b, r, _, q0, q1, _, _⟩ := row_c (h w hw)
  rcases e with e | e
  · rw [← e, q0]; exact ⟨a, rfl⟩
  · rw [← e, q1]; exact ⟨b, rfl⟩
theorem plK_ok {ways : List PyData} (h : ∀ d ∈ ways, isRow d) (hl : ways.length ≤ 1000) : sortOk ((plK ways).map keyD) = true := sortOk_strs (plK_str h) (by have := plK_len (ways := ways); simp; omega)
theorem foldG_nd {α : Type} {kf : α → Key} {v : M} : ∀ {ds : List α} {acc : List (Key × M)}, (acc.map (·.1)).Nodup → ((ds.foldl (fun a d => putG a (kf d) v) acc).map (·.1)).Nodup
  | [], _, h => h
  | d :: ds, acc, h => foldG_nd (ds := ds) (nodup_putG h _ _)
theorem mergeV_nd {α : Type} : ∀ {ls ks : List (Key × α)}, (ks.map (·.1)).Nodup → ((mergeV ks ls).map (·.1)).Nodup
  | [], _, h => h
  | l :: ls, ks, h => mergeV_nd (ls := ls) (ks := putG ks l.1 l.2) (nodup_putG h _ _)
theorem s_places {ways : List PyData} (h : ∀ d ∈ ways, isRow d) (hl : ways.length ≤ 1000) : f_places [.leaf (.tuple ways)] = .ret (.lst ((plL ways).map .leaf)) [none] := by
  have ix0 : ∀ d ∈ ways, (gIx (.leaf d) (.leaf (.int 0))) = some (keyD (c0 d)) := fun d hd => by
    obtain ⟨a, b, t, cc, k, rfl⟩ := h d hd
    simp [gIx, M.sv, atI, ixN, c0, keyD]
  have ix1 : ∀ d ∈ ways, (gIx (.leaf d) (.leaf (.int 1))) = some (keyD (c1 d)) := fun d hd => by
    obtain ⟨a, b, t, cc, k, rfl⟩ := h d hd
    simp [gIx, M.sv, atI, ixN, c1, keyD]
  have e1 := dcomp_fold (i := 2) (it := mIt (mName 0)) (mk := mQ (q2 gIx (qName 2) (qC (.int 0)))) (mv := mQ (qC (.bool true))) (kf := c0) (v := .bool true) (ρ0 := [some (.leaf (.tuple ways)), none, none]) (ρ := [some (.leaf (.tuple ways)), none, none]) (ds := ways)
    (by simp) (by simp) (by simp [isLeaf]) (by omega) (fun d hd => by simp [ix0 d hd])
  have e2 : ∀ m, mDComp (mIt (mName 0)) (gN 2) tTrue (mQ (q2 gIx (qName 2) (qC (.int 1)))) (mQ (qC (.bool true))) [2] [some (.leaf (.tuple ways)), some m, none] = _ := fun m =>
    dcomp_fold (i := 2) (it := mIt (mName 0)) (mk := mQ (q2 gIx (qName 2) (qC (.int 1)))) (mv := mQ (qC (.bool true))) (kf := c1) (v := .bool true) (ρ0 := [some (.leaf (.tuple ways)), some m, none]) (ρ := [some (.leaf (.tuple ways)), some m, none]) (ds := ways)
    (by simp) (by simp) (by simp [isLeaf]) (by omega) (fun d hd => by simp [ix1 d hd])
  generalize hA : (ways.foldl (fun a d => putG a (c0 d) (.leaf (.bool true))) ([] : List (Key × M))) = A at e1
  generalize hB : (ways.foldl (fun a d => putG a (c1 d) (.leaf (.bool true))) ([] : List (Key × M))) = B at e2
  have lA : A.length ≤ ways.length := by have := foldG_len (kf := c0) (v := .leaf (.bool true)) (ds := ways) (acc := []); rw [hA] at this; simpa using this
  have lB : B.length ≤ ways.length := by have := foldG_len (kf := c1) (v := .leaf (.bool true)) (ds := ways) (acc := []); rw [hB] at this; simpa using this
  have vB : M.frzs (B.map (·.2)) = some (B.map fun _ => .bool true) := frzs_of_vals (by rw [← hB]; exact foldG_vals fun x hx => by simp at hx)
  have hzip : (((B.map (·.1)).zip ((B.map fun _ => PyData.bool true).map M.leaf)).map (·.1)) = B.map (·.1) := by
    rw [List.map_fst_zip]; simp
  generalize hC : mergeV A ((B.map (·.1)).zip ((B.map fun _ => PyData.bool true).map M.leaf)) = C
  have mC : ∀ k, k ∈ C.map (·.1) ↔ ∃ w ∈ ways, c0 w = k ∨ c1 w = k := fun k => by
    rw [← hC, mem_mergeV, hzip, ← hA, ← hB, mem_foldG, mem_foldG]
    simp only [List.map_nil, List.not_mem_nil, false_or]
    constructor
    · rintro (⟨w, hw, e⟩ | ⟨w, hw, e⟩)
      · exact ⟨w, hw, .inl e⟩
      · exact ⟨w, hw, .inr e⟩
    · rintro ⟨w, hw, e | e⟩
      · exact .inl ⟨w, hw, e⟩
      · exact .inr ⟨w, hw, e⟩
  have nA : (A.map (·.1)).Nodup := by rw [← hA]; exact foldG_nd (by simp)
  have nC : (C.map (·.1)).Nodup := by rw [← hC]; exact mergeV_nd nA
  have pC : (C.map (·.1)).Perm (plK ways) := (List.perm_ext_iff_of_nodup nC (addAll_nodup List.nodup_nil)).mpr fun k => by rw [mC]; exact mem_plK.symm
  have eD : (C.map fun kv => keyD kv.1) = (C.map (·.1)).map keyD := by rw [List.map_map]; rfl
  have lC : (C.map (·.1)).length ≤ 2 * ways.length := by rw [pC.length_eq]; exact plK_len
  have hok : sortOk (C.map fun kv => keyD kv.1) = true := by
    rw [eD]
    exact sortOk_strs (fun d hd => plK_str h d ((pC.map keyD).mem_iff.mp hd)) (by simp at lC ⊢; omega)
  have eS : sortD (C.map fun kv => keyD kv.1) = plL ways := by rw [eD]; exact sortD_perm pC (plK_ok h hl)
  unfold f_places m_places
  have u : updM (some (.dK A)) (.ok (.dK B) [some (.leaf (.tuple ways)), some (.dK A), none]) 1 = .next ([some (.leaf (.tuple ways)), some (.dK A), none].set 1 (some (.dK C))) := by
    rw [← hC]
    exact updM_ok vB (by simp) (by omega)
  simp only [run_ap, List.map_cons, List.map_nil, List.length_cons, List.length_nil, List.cons_append, List.nil_append, Nat.reduceAdd, Nat.reduceSub, List.replicate]
  simp only [ap_seq, ap_set, e1, R.set_ok, O.seq_next, List.set_cons_succ, List.set_cons_zero, ap_upd, e2, ap_q, List.getElem?_cons_succ, List.getElem?_cons_zero, Option.join_some, u]
  simp [gSortK, M.kv, hok, eS]
theorem s__law_places {ways : List PyData} (h : ∀ d ∈ ways, isRow d) (hl : ways.length ≤ 400) : f__law_places [.leaf (.tuple ways)] = .ret (.lst ((plL ways).map .leaf)) [none] := by
  have ix0 : ∀ d ∈ ways, (gIx (.leaf d) (.leaf (.int 0))) = some (keyD (c0 d)) := fun d hd => by
    obtain ⟨a, b, t, cc, k, rfl⟩ := h d hd
    simp [gIx, M.sv, atI, ixN, c0, keyD]
  have ix1 : ∀ d ∈ ways, (gIx (.leaf d) (.leaf (.int 1))) = some (keyD (c1 d)) := fun d hd => by
    obtain ⟨a, b, t, cc, k, rfl⟩ := h d hd
    simp [gIx, M.sv, atI, ixN, c1, keyD]
  have e1 := comp_map (i := 1) (it := mIt (mName 0)) (el := mQ (q2 gIx (qName 1) (qC (.int 0)))) (f := fun d => .leaf (keyD (c0 d))) (ρ0 := [some (.leaf (.tuple ways)), none]) (ρ := [some (.leaf (.tuple ways)), none]) (ds := ways)
    (by simp) (by simp) (by simp [isLeaf]) (by omega) (fun d hd => by simp [ix0 d hd])
  have e2 := comp_map (i := 1) (it := mIt (mName 0)) (el := mQ (q2 gIx (qName 1) (qC (.int 1)))) (f := fun d => .leaf (keyD (c1 d))) (ρ0 := [some (.leaf (.tuple ways)), none]) (ρ := [some (.leaf (.tuple ways)), none]) (ds := ways)
    (by simp) (by simp) (by simp [isLeaf]) (by omega) (fun d hd => by simp [ix1 d hd])
  have f0 : ∀ kf : PyData → Key, (ways.map fun d => M.leaf (keyD (kf d))) = (ways.map fun d => keyD (kf d)).map M.leaf := fun kf => by rw [List.map_map]; rfl
  rw [f0] at e1 e2
  let ks : List Key := ways.map c0 ++ ways.map c1
  have hks : keysOf ((ways.map fun d => keyD (c0 d)) ++ (ways.map fun d => keyD (c1 d))) = some ks := keysOf_app (keysOf_map c0 ways) (keysOf_map c1 ways)
  have hok : sortOk ((addAll [] ks).map keyD) = true := plK_ok h (by omega)
  have hkl : ks.length < 1000 := by simp [ks]; omega
  unfold f__law_places m__law_places
  have ga : gAdd (.lst ((ways.map fun d => keyD (c0 d)).map M.leaf)) (.lst ((ways.map fun d => keyD (c1 d)).map M.leaf)) = some (.lst (((ways.map fun d => keyD (c0 d)) ++ (ways.map fun d => keyD (c1 d))).map .leaf)) := by
    simp only [gAdd, gAddS, M.tv, M.lv, leaves_map]
    rw [if_pos (by simp; omega)]
  have gs : gSortSet (.lst (((ways.map fun d => keyD (c0 d)) ++ (ways.map fun d => keyD (c1 d))).map .leaf)) = some (.lst ((plL ways).map .leaf)) := by
    simp only [gSortSet, M.sv, leaves_map, Option.bind_some, hks, hkl, hok, decide_true, Bool.and_self, if_true]
    rfl
  simp only [run_ap, List.map_cons, List.map_nil, List.length_cons, List.length_nil, List.cons_append, List.nil_append, Nat.reduceAdd, Nat.reduceSub, List.replicate]
  simp only [ap_ret, ap_m1, ap_m2, e1, e2, R.bind_ok, ga, opt_some, gs, R.out_ok]
  simp

/-! .. as texts -/
def plS (W : List Way) : List Str := (plL (W.map Way.D)).map fun d => match d with
  | .str z => z
  | _ => ""
theorem rowsW (W : List Way) : ∀ d ∈ W.map Way.D, isRow d := fun d hd => by
  obtain ⟨w, _, rfl⟩ := List.mem_map.mp hd
  exact ⟨_, _, _, _, _, rfl⟩
theorem plS_eq (W : List Way) : plL (W.map Way.D) = (plS W).map .str := by
  unfold plS
  rw [List.map_map]
  conv => lhs; rw [← List.map_id (plL (W.map Way.D))]
  refine List.map_congr_left fun d hd => ?_
  obtain ⟨z, rfl⟩ := plK_str (rowsW W) d (List.mem_mergeSort.mp hd)
  rfl
theorem plS_mem {W : List Way} {z : Str} : z ∈ plS W ↔ ∃ w ∈ W, w.fr = z ∨ w.to = z := by
  have e1 : z ∈ plS W ↔ PyData.str z ∈ plL (W.map Way.D) := by
    rw [plS_eq]
    constructor
    · exact fun h => List.mem_map.mpr ⟨z, h, rfl⟩
    · intro h
      obtain ⟨y, hy, e⟩ := List.mem_map.mp h
      cases e; exact hy
  rw [e1, plL, List.mem_mergeSort, List.mem_map]
  constructor
  · rintro ⟨k, hk, e⟩
    obtain ⟨d, hd, q⟩ := mem_plK.mp hk
    obtain ⟨w, hw, rfl⟩ := List.mem_map.mp hd
    refine ⟨w, hw, ?_⟩
    rcases q with rfl | rfl
    · exact .inl (by simpa [c0, Way.D, keyD] using e)
    · exact .inr (by simpa [c1, Way.D, keyD] using e)
  · rintro ⟨w, hw, q⟩
    refine ⟨.inr z, mem_plK.mpr ⟨w.D, List.mem_map.mpr ⟨w, hw, rfl⟩, ?_⟩, rfl⟩
    rcases q with rfl | rfl
    · exact .inl rfl
    · exact .inr rfl
theorem plS_len {W : List Way} : (plS W).length ≤ 2 * W.length := by
  have := plK_len (ways := W.map Way.D)
  unfold plS plL
  simpa using this
theorem plS_ne {W : List Way} (h : W ≠ []) : plS W ≠ [] := fun e => by
  obtain ⟨w, hw⟩ := List.exists_mem_of_ne_nil W h
  have := plS_mem.mpr ⟨w, hw, .inl rfl⟩
  rw [e] at this; simp at this
theorem plS_nm {W : List Way} (h : ∀ w ∈ W, WayN w) {z : Str} (hz : z ∈ plS W) : nmB z = true := by
  obtain ⟨w, hw, rfl | rfl⟩ := plS_mem.mp hz
  · exact (h w hw).fr
  · exact (h w hw).to
theorem w_places {W : List Way} (hl : W.length ≤ 1000) : f_places [.leaf (webD W)] = .ret (.lst (((plS W).map PyData.str).map .leaf)) [none] := by
  rw [← plS_eq]; exact s_places (rowsW W) (by simpa using hl)
theorem w__law_places {W : List Way} (hl : W.length ≤ 400) : f__law_places [.leaf (webD W)] = .ret (.lst (((plS W).map PyData.str).map .leaf)) [none] := by
  rw [← plS_eq]; exact s__law_places (rowsW W) (by simpa using hl)
end G
namespace G
open PySem PySem.Spec PyProof.Rows L2

/-! ### names -/
def okC (c : Nat) : Bool := decide (c ∈ ("abcdefghijklmnopqrstuvwxyz" : Str).cps.toList)
def nmD (d : PyData) : Bool := match d with
  | .str z => decide (1 ≤ z.length) && decide (z.length ≤ 8) && z.cps.toList.all okC
  | _ => false
def okS (d : PyData) : Bool := match d with
  | .str z => z.cps.toList.all okC
  | _ => false
theorem signs_len (z : Str) : (signsD z).length = z.length := by
  unfold signsD
  rw [List.length_map]; simp [Str.length]
theorem signs_all (z : Str) : (signsD z).all okS = z.cps.toList.all okC := by
  unfold signsD
  rw [List.all_map]
  congr 1
  funext c
  simp [okS, Function.comp_def]
theorem signs_in {z : Str} {d : PyData} (h : d ∈ signsD z) : gIn (.leaf d) (.leaf (.str "abcdefghijklmnopqrstuvwxyz")) = some (.bool (okS d)) ∧ gNi (.leaf d) (.leaf (.str "abcdefghijklmnopqrstuvwxyz")) = some (.bool (!okS d)) := by
  unfold signsD at h
  obtain ⟨c, _, rfl⟩ := List.mem_map.mp h
  simp [gIn, gNi, inD, okS, okC]
theorem okC_ok {c : Nat} (h : 97 ≤ c ∧ c ≤ 122) : okC c = true := by
  have e : ("abcdefghijklmnopqrstuvwxyz" : Str).cps.toList = (List.range 26).map (· + 97) := by decide +kernel
  unfold okC
  rw [e, decide_eq_true_eq, List.mem_map]
  exact ⟨c - 97, List.mem_range.mpr (by omega), by omega⟩
theorem nmB_nmD {z : Str} (h : nmB z = true) : nmD (.str z) = true := by
  unfold nmB at h
  simp only [Bool.and_eq_true, decide_eq_true_eq, List.all_eq_true] at h
  unfold nmD
  simp only [Bool.and_eq_true, decide_eq_true_eq, List.all_eq_true]
  exact ⟨⟨h.1.1.2, h.1.2⟩, fun c hc => okC_ok (h.2 c hc)⟩
theorem s_is_name (d : PyData) (hd : nd d = true) (hs : ∀ z, d = .str z → z.length ≤ 16777216) : f_is_name [.leaf d] = .ret (.leaf (.bool (nmD d))) [none] := by
  unfold f_is_name m_is_name
  cases d with
  | str z =>
    have hz := hs z rfl
    by_cases h1 : (1 : Int) ≤ z.length
    · by_cases h8 : (z.length : Int) ≤ 8
      · have e1 := comp_map (i := 1) (it := mItS (mName 0)) (el := mQ (q2 gIn (qName 1) (qC (.str "abcdefghijklmnopqrstuvwxyz")))) (f := fun x => .leaf (.bool (okS x))) (ρ0 := [some (.leaf (.str z)), none]) (ρ := [some (.leaf (.str z)), none]) (ds := signsD z)
          (by simp [mItS]) (by simp) (by simp [isLeaf]) (by rw [signs_len]; omega) (fun x hx => by
            have := (signs_in hx).1
            simp [this])
        have f0 : ((signsD z).map fun x => M.leaf (.bool (okS x))) = (((signsD z).map okS).map PyData.bool).map M.leaf := by simp [List.map_map, Function.comp_def]
        rw [f0] at e1
        have ga : gAll (.lst ((((signsD z).map okS).map PyData.bool).map M.leaf)) = some (.bool (z.cps.toList.all okC)) := by
          simp only [gAll, M.lv, leaves_map, Option.bind_some, bools_map, Option.map_some]
          rw [← signs_all]
          simp [Function.comp_def]
        have n1 : 1 ≤ z.length := by omega
        have n8 : z.length ≤ 8 := by omega
        simp only [run_ap, List.map_cons, List.map_nil, List.length_cons, List.length_nil, List.cons_append, List.nil_append, Nat.reduceAdd, Nat.reduceSub, List.replicate]
        simp [gIsi, M.kd, isiK, gLen, M.sv, hz, qCh, gLeI, gI2, h1, h8, nmD, n1, n8]
        rw [e1]
        simp only [R.bind_ok, ga, Option.map_some, opt_some, R.out_ok, O.fin_ret]
        simp
      · have n8 : ¬ z.length ≤ 8 := by omega
        simp [run_ap, gIsi, M.kd, isiK, gLen, M.sv, hz, qCh, gLeI, gI2, h1, h8, nmD, n8]
    · have n1 : z.length = 0 := by omega
      simp [run_ap, gIsi, M.kd, isiK, gLen, M.sv, hz, qCh, gLeI, gI2, h1, nmD, n1]
  | dict _ => simp [nd] at hd
  | _ => simp [run_ap, gIsi, M.kd, isiK, nmD]
theorem w_is_name {z : Str} (h : nmB z = true) : f_is_name [.leaf (.str z)] = .ret (.leaf (.bool true)) [none] := by
  have l8 : z.length ≤ 8 := by unfold nmB at h; simp only [Bool.and_eq_true, decide_eq_true_eq] at h; exact h.1.2
  have := s_is_name (.str z) rfl (fun y e => by cases e; omega)
  rwa [nmB_nmD h] at this
end G
namespace G
open PySem PySem.Spec PyProof.Rows L2

/-! ### need_place -/
theorem strs_in {l : List Str} {z : Str} (hz : z ∈ l) : gNi (.leaf (.str z)) (.leaf (.list (l.map PyData.str))) = some (.bool false) := by
  have h1 : (l.map PyData.str).all flatD = true := by simp [flatD, List.all_eq_true]
  have h2 : ((l.map PyData.str).any fun e => PyData.eqv e (.str z)) = true := by
    rw [List.any_map, List.any_eq_true]
    exact ⟨z, hz, by simp [PyData.eqv]⟩
  simp only [gNi, inD, M.sv, flatD, Bool.true_and, h1, if_true, h2, Option.map_some, Bool.not_true]
theorem strs_inL {l : List Str} {z : Str} (hz : z ∈ l) : gNi (.leaf (.str z)) (.lst ((l.map PyData.str).map .leaf)) = some (.bool false) := by
  have h1 : (l.map PyData.str).all flatD = true := by simp [flatD, List.all_eq_true]
  have h2 : ((l.map PyData.str).any fun e => PyData.eqv e (.str z)) = true := by
    rw [List.any_map, List.any_eq_true]
    exact ⟨z, hz, by simp [PyData.eqv]⟩
  have h3 : leaves ((l.map PyData.str).map .leaf) = some (l.map PyData.str) := leaves_map _
  simp only [gNi, inD, M.sv, h3, flatD, Bool.true_and, h1, if_true, h2, Option.map_some, Bool.not_true]
theorem s_need_place {W : List Way} (hW : ∀ w ∈ W, WayN w) (hl : W.length ≤ 400) {z : Str} (hz : z ∈ plS W) : f_need_place [.leaf (webD W), .leaf (.str z)] = .ret (.leaf .none) [none, none] := by
  have e1 := w_is_name (plS_nm hW hz)
  have e2 := w_places (W := W) (by omega)
  unfold f_need_place m_need_place
  simp [-List.map_map, run_ap, e1, e2, strs_inL hz]
/-! ### the weak bound -/
theorem s__law_weak {m : M} (hb : Bag m) : ∃ (v : Int) (m' : M), f__law_weak [m] = .ret (.leaf (.int v)) [some m'] ∧ Bag m' ∧ 1 ≤ v ∧ v ≤ 300 := by
  obtain ⟨q1, n1, f1, hn1, q10, q11⟩ := s__law_take hb (many := 9) (by decide) (by decide)
  obtain ⟨q2, n2, f2, hn2, q20, q21⟩ := s__law_take hn1 (many := 300) (by decide) (by decide)
  obtain ⟨q3, n3, f3, hn3, q30, q31⟩ := s__law_take hn2 (many := 3) (by decide) (by decide)
  obtain ⟨mt, hmt, hmm⟩ := atI_ok (ds := [PyData.int 1, .int (1 + q1), .int (1 + q2)]) q30 q31
  obtain ⟨mv, rfl, mv0, mv1⟩ : ∃ v : Int, mt = .int v ∧ 1 ≤ v ∧ v ≤ 300 := by
    simp only [List.mem_cons, List.not_mem_nil, or_false] at hmm
    rcases hmm with rfl | rfl | rfl <;> exact ⟨_, rfl, by omega, by omega⟩
  refine ⟨mv, n3, ?_, hn3, mv0, mv1⟩
  unfold f__law_weak m__law_weak
  simp [run_ap, f1, f2, f3, gIx, M.sv, leaves, hmt, gAddS]
/-! ### letters -/
theorem s__law_letters {m : M} (hb : Bag m) {W : List Way} (hne : W ≠ []) (hwl : W.length ≤ 400) {most strong : Int} (h0 : 0 ≤ most) (h1 : most ≤ 30) (s0 : 0 < strong) (s1 : strong ≤ 100000) :
    ∃ (Ls : List Ltr) (m' : M), f__law_letters [m, .leaf (webD W), .leaf (.int most), .leaf (.int strong)] = .ret (.lst ((Ls.map Ltr.D).map .leaf)) [some m', none, none, none] ∧ Bag m' ∧ (Ls.length : Int) ≤ most ∧ ∀ l ∈ Ls, l.Ok (plS W) strong ∧ l.n ≤ 1000 := by
  have ep := w__law_places (W := W) hwl
  have hpn : (plS W).map PyData.str ≠ [] := fun e => plS_ne hne (List.map_eq_nil_iff.mp e)
  have hpl : ((plS W).map PyData.str).length ≤ 1000 := by have := plS_len (W := W); simp; omega
  obtain ⟨c, m2, e2, hb2, c0, c1⟩ := s__law_take hb (many := most + 1) (by omega) (by omega)
  let P : Nat → Env' → Prop := fun i ρ => ∃ (m : M) (Ls : List Ltr) (o5 o6 : Option M), ρ = [some m, some (.leaf (webD W)), some (.leaf (.int most)), some (.leaf (.int strong)), some (.lst ((Ls.map Ltr.D).map .leaf)), o5, o6] ∧ Bag m ∧ Ls.length ≤ i ∧ ∀ l ∈ Ls, l.Ok (plS W) strong ∧ l.n ≤ 1000
  have hlen : (rangeD 0 1 c.toNat).length = c.toNat := by simp [rangeD]
  have inv := loop_invN (g := gN 5) (b := b__law_letters_0) P c.toNat (ds := rangeD 0 1 c.toNat) (fun i d hi hd ρ hP => by
    obtain ⟨m, Ls, o5, o6, rfl, hb, hl, hall⟩ := hP
    obtain ⟨q1, n1, f1, hn1, q10, q11⟩ := s__law_take hb (many := 3) (by decide) (by decide)
    obtain ⟨q2, n2, f2, hn2, q20, q21⟩ := s__law_take hn1 (many := 1000) (by decide) (by decide)
    obtain ⟨q3, n3, f3, hn3, q30, q31⟩ := s__law_take hn2 (many := 3) (by decide) (by decide)
    obtain ⟨mt, hmt, hmm⟩ := atI_ok (ds := [PyData.int 1, .int (1 + q1), .int (1 + q2)]) q30 q31
    obtain ⟨mv, rfl, mv0, mv1⟩ : ∃ v : Int, mt = .int v ∧ 1 ≤ v ∧ v ≤ 1000 := by
      simp only [List.mem_cons, List.not_mem_nil, or_false] at hmm
      rcases hmm with rfl | rfl | rfl <;> exact ⟨_, rfl, by omega, by omega⟩
    obtain ⟨x, n4, f4, hx, hn4⟩ := s__law_of hn3 (ds := (plS W).map PyData.str) hpn (by omega)
    obtain ⟨z, hz, rfl⟩ := List.mem_map.mp hx
    obtain ⟨q5, n5, f5, hn5, q50, q51⟩ := s__law_take hn4 (many := strong) (by omega) (by omega)
    have ha : appL (some (.lst ((Ls.map Ltr.D).map .leaf))) (.ok (.leaf (.tuple [.str z, .int (1 + q5), .int mv])) [some n5, some (.leaf (webD W)), some (.leaf (.int most)), some (.leaf (.int strong)), some (.lst ((Ls.map Ltr.D).map .leaf)), some (.leaf d), some (.leaf (.int mv))]) 4 =
        .next ([some n5, some (.leaf (webD W)), some (.leaf (.int most)), some (.leaf (.int strong)), some (.lst ((Ls.map Ltr.D).map .leaf)), some (.leaf d), some (.leaf (.int mv))].set 4 (some (.lst ((Ls.map Ltr.D).map .leaf ++ [.leaf (.tuple [.str z, .int (1 + q5), .int mv])])))) := appL_ok (by simp) (by simp; omega)
    refine ⟨_, [some n5, some (.leaf (webD W)), some (.leaf (.int most)), some (.leaf (.int strong)), some (.lst (((Ls ++ [Ltr.mk z (1 + q5) mv]).map Ltr.D).map .leaf)), some (.leaf d), some (.leaf (.int mv))], rfl, ?_, n5, _, _, _, rfl, hn5, by simp; omega, fun l hl => ?_⟩
    · unfold b__law_letters_0
      simp [-List.map_map, f1, f2, f3, f4, f5, gIx, M.sv, leaves, hmt, gAddS, ep]
      rw [ha]
      simp [Ltr.D]
    · rcases List.mem_append.mp hl with hl | hl
      · exact hall l hl
      · simp only [List.mem_singleton] at hl
        subst hl
        exact ⟨⟨hz, by dsimp only; omega, by dsimp only; omega, mv0⟩, mv1⟩) 0 [some m2, some (.leaf (webD W)), some (.leaf (.int most)), some (.leaf (.int strong)), some (.lst (([].map Ltr.D).map .leaf)), none, none] (by omega) ⟨m2, [], _, _, rfl, hb2, by simp, by simp⟩
  obtain ⟨ρ', hL, m3, Ls, o5, o6, rfl, hb3, hl, hall⟩ := inv
  have hrg := rng_ok (n := c) (by omega) (by omega)
  refine ⟨Ls, m3, ?_, hb3, by omega, hall⟩
  unfold f__law_letters m__law_letters
  simp only [List.map_nil] at hL
  simp [-List.map_map, run_ap, e2, gAddS, rg1_ok _ hrg, hL]
end G
namespace G
open PySem PySem.Spec PyProof.Rows L2

/-! ### ticks_of, last_tick -/
section
variable {W : List Way} {weak : Int} (h : WebOk W weak) (nm : NmOk W) (hW : ∀ w ∈ W, WayN w) (hwl : W.length ≤ 100) {Ls : List Ltr} {S : Int} (hS0 : 0 ≤ S) (hS : S ≤ 2000) (hL : ∀ l ∈ Ls, l.Ok (plS W) S) (hLl : Ls.length ≤ 1000)
include h nm hW hwl hS0 hS hL hLl
theorem s_all_ticks' : ∃ fd : Fd3, f_all_ticks [.leaf (webD W), .leaf (.int weak), .leaf (LtrsD Ls)] = .ret (.dK (t3L 1 fd)) [none, none, none] ∧ F3Ok (plS W) S fd ∧ ∀ g, smF (flatF fd) g = tot3 W weak [] Ls g := by
  have hP : ∀ w ∈ W, w.to ∈ plS W := fun w hw => plS_mem.mpr ⟨w, hw, .inr rfl⟩
  have hPl : (plS W).length ≤ 1000 := by have := plS_len (W := W); omega
  have hPn : ∀ p ∈ plS W, PyData.strOk p = true := fun p hp => nmB_ok (plS_nm hW hp)
  obtain ⟨u1, u2, u3⟩ := mxS_ok hS0 hL
  obtain ⟨ok, tt⟩ := dp3_all h hP hL u2 u3
  exact ⟨_, s_all_ticks h nm hP hPl hPn hS0 hS hL hLl, ok, tt⟩
theorem s_ticks_of {z : Str} (hz : z ∈ plS W) : ∃ F : RwG Int, f_ticks_of [.leaf (webD W), .leaf (.int weak), .leaf (LtrsD Ls), .leaf (.str z)] = .ret (.lst ((sortD (F.map tnD)).map .leaf)) [none, none, none, none] ∧ RwOk (fun t => 0 ≤ t ∧ t ≤ 100 * S) F ∧
    ∀ ω, smR F ω = tot3 W weak [] Ls fun p _ => if p.1 = z then ω p.2 else 0 := by
  obtain ⟨fd, e0, ok, tt⟩ := s_all_ticks' h nm hW hwl hS0 hS hL hLl
  let q : Int → Prop := fun t => 0 ≤ t ∧ t ≤ 100 * S
  have hq : ∀ x ∈ fd, ∀ y ∈ (getG x.2 z).getD [], q y.1 ∧ 1 ≤ y.2 := fun x hx y hy => by
    cases hg : getG x.2 z with
    | none => rw [hg] at hy; simp at hy
    | some r =>
      rw [hg] at hy
      obtain ⟨⟨_, q1, q2⟩, q3⟩ := (ok.mem x hx _ (getG_mem hg)).2.2 y hy
      have := (ok.str x hx).1
      exact ⟨⟨q1, by dsimp only at q2; omega⟩, q3⟩
  have len : ∀ {F : RwG Int}, RwOk q F → F.length < 1000000 := fun {F} hF => by
    have := hF.len (P := (List.range (100 * S.toNat + 1)).map fun i => ((i : Nat) : Int)) fun t ht => List.mem_map.mpr ⟨t.toNat, List.mem_range.mpr (by have := ht.1; have := ht.2; omega), by have := ht.1; omega⟩
    rw [List.length_map, List.length_range] at this
    omega
  let B : Env' → Prop := fun ρ => ρ.length = 8 ∧ ρ[0]? = some (some (.leaf (webD W))) ∧ ρ[1]? = some (some (.leaf (.int weak))) ∧ ρ[2]? = some (some (.leaf (LtrsD Ls))) ∧ ρ[3]? = some (some (.leaf (.str z)))
  let E : RwG Int → Env' → Prop := fun F ρ => RwOk q F ∧ B ρ ∧ ρ[4]? = some (some (.dK (tkM F)))
  let ρ0 : Env' := [some (.leaf (webD W)), some (.leaf (.int weak)), some (.leaf (LtrsD Ls)), some (.leaf (.str z)), some (.dK []), none, none, none]
  obtain ⟨ρ1, L1, hF, ⟨l0, a0, a1, a2, a3⟩, a4⟩ := loop_acc (g := gN 5) (b := b_ticks_of_1) (fun x : Int × PlR => .dict (plcK x.2)) E (fun F x => addTs F ((getG x.2 z).getD [])) fd (fun F x ρ hx hE => by
    obtain ⟨hF, ⟨l0, a0, a1, a2, a3⟩, a4⟩ := hE
    have hqx := hq x hx
    let E2 : RwG Int → Env' → Prop := fun F ρ => RwOk q F ∧ B ρ ∧ ρ[4]? = some (some (.dK (tkM F)))
    obtain ⟨ρ2, L2, hF2⟩ := loop_acc (g := gTp 2 (gCons' (gN 6) (gCons' (gN 7) (gNil')))) (b := b_ticks_of_0) tnD E2 (fun r y => bumpT r y.1 y.2) ((getG x.2 z).getD []) (fun F y ρ hy hE => by
      obtain ⟨hF, ⟨l0, a0, a1, a2, a3⟩, a4⟩ := hE
      obtain ⟨y1, y2⟩ := hqx y hy
      have t := run_tick (r := 4) (qt := qName 6) (mk := mName 6) (qn := qName 7) (ρ := (ρ.set 6 (some (.leaf (.int y.1)))).set 7 (some (.leaf (.int y.2)))) (rw' := F) (t := y.1) (n := y.2) (by simp [a4]) (by simp [l0]) (by simp [l0]) (by simp [l0]) (len hF)
      exact ⟨(ρ.set 6 (some (.leaf (.int y.1)))).set 7 (some (.leaf (.int y.2))), _, by simp [gTp, gCons', gNil', gN, tnD], t, RwOk.bump hF y1 y2, ⟨by simp [l0], by simp [a0], by simp [a1], by simp [a2], by simp [a3]⟩, by simp [l0]⟩) F (ρ.set 5 (some (.leaf (.dict (plcK x.2))))) ⟨hF, ⟨by simp [l0], by simp [a0], by simp [a1], by simp [a2], by simp [a3]⟩, by simp [a4]⟩
    refine ⟨ρ.set 5 (some (.leaf (.dict (plcK x.2)))), ρ2, rfl, ?_, hF2⟩
    unfold b_ticks_of_1
    rw [ap_forD, getE_pl (row := x.2) (z := z) (by simp [l0]) (by simp [a3])]
    exact R.forD_ok L2) [] ρ0 ⟨.nil, ⟨rfl, rfl, rfl, rfl, rfl⟩, rfl⟩
  refine ⟨fd.foldl (fun F x => addTs F ((getG x.2 z).getD [])) [], ?_, hF, fun ω => ?_⟩
  · have en := s_need_place hW (by omega) hz
    have i1 : mItF valsOfD (mCall f_all_ticks [.val (mName 0), .val (mName 1), .val (mName 2)]) ρ0 = .ok (fd.map fun y => .dict (plcK y.2)) ρ0 := by
      simp [ρ0, e0, frz_t3, vals_t3]
    have gs := gSortIt_tk (r := fd.foldl (fun F x => addTs F ((getG x.2 z).getD [])) []) (Nat.le_trans (Nat.le_of_lt (len hF)) (by decide))
    have body : m_ticks_of [some (.leaf (webD W)), some (.leaf (.int weak)), some (.leaf (LtrsD Ls)), some (.leaf (.str z)), none, none, none, none] = .ret (.lst ((sortD ((fd.foldl (fun F x => addTs F ((getG x.2 z).getD [])) []).map tnD)).map .leaf)) ρ1 := by
      unfold m_ticks_of
      have s1 : mExpr (mCall f_need_place [.val (mName 0), .val (mName 3)]) [some (.leaf (webD W)), some (.leaf (.int weak)), some (.leaf (LtrsD Ls)), some (.leaf (.str z)), none, none, none, none] = .next [some (.leaf (webD W)), some (.leaf (.int weak)), some (.leaf (LtrsD Ls)), some (.leaf (.str z)), none, none, none, none] := by simp [en]
      have s2 : mSet 4 (mNewK) [some (.leaf (webD W)), some (.leaf (.int weak)), some (.leaf (LtrsD Ls)), some (.leaf (.str z)), none, none, none, none] = .next ρ0 := by simp [ρ0]
      rw [ap_seq, s1, O.seq_next, ap_seq, s2, O.seq_next, ap_seq, ap_forD, i1, R.forD_ok L1, O.seq_next, ap_ret, ap_m1q, show qName 4 ρ1 = some _ from by unfold qName; rw [a4]; rfl]
      simp only [Option.bind_some, gs, opt_some, R.out_ok]
    unfold f_ticks_of
    rw [run_ap]
    show (m_ticks_of [some (.leaf (webD W)), some (.leaf (.int weak)), some (.leaf (LtrsD Ls)), some (.leaf (.str z)), none, none, none, none]).fin 4 [] = _
    rw [body, O.fin_ret, mask_no]
    rfl
  · rw [← tt]
    have : ∀ (l : Fd3) (F : RwG Int), (∀ x ∈ l, x ∈ fd) → RwOk q F → smR (l.foldl (fun F x => addTs F ((getG x.2 z).getD [])) F) ω = smR F ω + smF (flatF l) fun p _ => if p.1 = z then ω p.2 else 0 := by
      intro l
      induction l with
      | nil => intro F _ _; simp [smF, flatF]
      | cons x l ih =>
        intro F hl hF
        obtain ⟨i1, i2⟩ := addTs_ok hF (hq x (hl x (by simp)))
        rw [List.foldl_cons, ih _ (fun y hy => hl y (by simp [hy])) i1, i2]
        have e : smF (flatF (x :: l)) (fun p _ => if p.1 = z then ω p.2 else 0) = smR (flatR x.2) (fun p => if p.1 = z then ω p.2 else 0) + smF (flatF l) (fun p _ => if p.1 = z then ω p.2 else 0) := by
          simp only [flatF, smF, List.map_cons, List.sum_cons]
        rw [e, smR_place z ω (ok.row x (hl x (by simp))).nd]
        omega
    rw [this fd [] (fun _ hx => hx) .nil]
    simp [smR]
/-- a tick is the greatest one -/
def TopTick (W : List Way) (weak : Int) (Ls : List Ltr) (t : Int) : Prop := (0 < tot3 W weak [] Ls fun p _ => if decide (p.2 = t) = true then 1 else 0) ∧ ∀ u, (0 < tot3 W weak [] Ls fun p _ => if decide (p.2 = u) = true then 1 else 0) → u ≤ t
theorem s_last_tick (hne : Ls ≠ []) : ∃ t : Int, f_last_tick [.leaf (webD W), .leaf (.int weak), .leaf (LtrsD Ls)] = .ret (.leaf (.int t)) [none, none, none] ∧ TopTick W weak Ls t := by
  obtain ⟨fd, e0, ok, tt⟩ := s_all_ticks' h nm hW hwl hS0 hS hL hLl
  let Z : Option M → Option M → Env' := fun o3 o4 => [some (.leaf (webD W)), some (.leaf (.int weak)), some (.leaf (LtrsD Ls)), o3, o4]
  let ks : PyData → List PyData := fun d => match d with | .dict kds => kds.map (·.2) | _ => []
  let f : PyData → PyData → M := fun _ d => match gMaxK (.leaf d) with | some x => .leaf x | none => .leaf .none
  let mx : List Int := fd.flatMap fun x => x.2.map fun y => maxI (y.2.map (·.1))
  have hks : ∀ x : Int × PlR, ks (.dict (plcK x.2)) = x.2.map fun y => .dict (tkK y.2) := fun x => by simp [ks, plcK]
  have lenf : ∀ l : Fd3, (∀ x ∈ l, x ∈ fd) → ((l.map fun y => PyData.dict (plcK y.2)).flatMap ks).length ≤ l.length * (plS W).length := by
    intro l
    induction l with
    | nil => intro _; simp
    | cons x l ih =>
      intro hl
      have i1 := ih fun y hy => hl y (by simp [hy])
      have i2 : x.2.length ≤ (plS W).length := by
        have := ok.len2 x.1
        rwa [getG_of_mem ok.nd (show (x.1, x.2) ∈ fd from hl x (by simp))] at this
      rw [List.map_cons, List.flatMap_cons, hks, List.length_append, List.length_map, List.length_cons, Nat.succ_mul]
      omega
  have hlen : ((fd.map fun y => PyData.dict (plcK y.2)).flatMap ks).length ≤ 1000000 := by
    have h1 := lenf fd fun _ hx => hx
    have h2 := ok.len
    have h3 := plS_len (W := W)
    have : fd.length * (plS W).length ≤ 2001 * 200 := Nat.mul_le_mul (by omega) (by omega)
    omega
  have e2 : ∀ l : Fd3, (∀ x ∈ l, x ∈ fd) → ((l.map fun y => PyData.dict (plcK y.2)).flatMap fun d => (ks d).map (f d)) = ((l.flatMap fun x => x.2.map fun y => maxI (y.2.map (·.1))).map PyData.int).map M.leaf := by
    intro l
    induction l with
    | nil => intro _; rfl
    | cons x l ih =>
      intro hl
      rw [List.map_cons, List.flatMap_cons, ih fun y hy => hl y (by simp [hy]), List.flatMap_cons, List.map_append, List.map_append, hks]
      congr 1
      rw [List.map_map, List.map_map, List.map_map]
      refine List.map_congr_left fun y hy => ?_
      have := gMaxK_tk (r := y.2) (ok.mem x (hl x (by simp)) y hy).1
      simp only [Function.comp_apply, f, this]
  have c2 := cLoop2_map (i := 3) (j := 4) (by decide) (it1 := mItF valsOfD (mName 3)) (el := m1q (lf gMaxK) (qName 4)) (ks := ks) (f := f) (ρ := Z none none) (ds := fd.map fun y => .dict (plcK y.2)) (acc := []) (fun d hd => by
    obtain ⟨x, hx, rfl⟩ := List.mem_map.mp hd
    refine ⟨?_, fun e he => ?_⟩
    · rw [hks]
      simp [Z, vals_pl]
    · rw [hks] at he
      obtain ⟨y, hy, rfl⟩ := List.mem_map.mp he
      have := gMaxK_tk (r := y.2) (ok.mem x hx y hy).1
      simp [Z, f, this]) (by rw [List.length_nil, Nat.zero_add]; exact hlen)
  rw [e2 fd fun _ hx => hx] at c2
  have mc : mComp2 (mItF valsOfD (mCall f_all_ticks [.val (mName 0), .val (mName 1), .val (mName 2)])) (gN 3) tTrue (mItF valsOfD (mName 3)) (gN 4) tTrue (m1q (lf gMaxK) (qName 4)) [3, 4] [4] (Z none none) = .ok (.lst ((mx.map PyData.int).map .leaf)) (Z none none) := by
    have i1 : mItF valsOfD (mCall f_all_ticks [.val (mName 0), .val (mName 1), .val (mName 2)]) (Z none none) = .ok (fd.map fun y => .dict (plcK y.2)) (Z none none) := by
      simp [Z, e0, frz_t3, vals_t3]
    unfold mComp2
    rw [i1]
    have i2 : wipeE (Z none none) [3, 4] = ((Z none none).set 4 none).set 3 none := rfl
    simp only [i2, c2]
    rfl
  -- what is there
  have there : ∀ t, (0 < tot3 W weak [] Ls fun p _ => if decide (p.2 = t) = true then 1 else 0) ↔ ∃ x ∈ fd, ∃ y ∈ x.2, ∃ z ∈ y.2, z.1 = t := fun t => by
    rw [← tt, smF_there ok.flat fun p => decide (p.2 = t)]
    constructor
    · rintro ⟨x, hx, y, hy, e⟩
      obtain ⟨x', hx', rfl⟩ := List.mem_map.mp hx
      obtain ⟨w, hw, hy⟩ := List.mem_flatMap.mp hy
      obtain ⟨u, hu, rfl⟩ := List.mem_map.mp hy
      exact ⟨x', hx', w, hw, u, hu, of_decide_eq_true e⟩
    · rintro ⟨x, hx, y, hy, u, hu, e⟩
      exact ⟨_, List.mem_map.mpr ⟨x, hx, rfl⟩, ((y.1, u.1), u.2), List.mem_flatMap.mpr ⟨y, hy, List.mem_map.mpr ⟨u, hu, rfl⟩⟩, decide_eq_true e⟩
  have mne : mx ≠ [] := by
    cases hLs : Ls with
    | nil => exact absurd hLs hne
    | cons l r =>
      have h0 : 0 < tot3 W weak [] Ls fun p _ => if decide (p.2 = 0) = true then 1 else 0 := by
        have hg : ∀ (p : PT) (s : Int), 0 ≤ (if decide (p.2 = 0) = true then (1 : Int) else 0) := fun p s => by split <;> decide
        have hl := hL l (by rw [hLs]; simp)
        have v := VG_ge (kd := kdT W weak []) hg (p := (l.p, 0)) hl.s1
        have nn : ∀ x ∈ Ls, 0 ≤ x.n * VG (kdT W weak []) (fun p _ => if decide (p.2 = 0) = true then 1 else 0) (x.p, 0) x.s := fun x hx => by
          have := (hL x hx).n
          exact Int.mul_nonneg (by omega) (UG_ge hg _ _ _).1
        have := (sum_nn nn).2 l (by rw [hLs]; simp)
        have v' : 1 ≤ VG (kdT W weak []) (fun p _ => if decide (p.2 = 0) = true then 1 else 0) (l.p, 0) l.s := by simpa using v
        have h1 : 1 * 1 ≤ l.n * VG (kdT W weak []) (fun p _ => if decide (p.2 = 0) = true then 1 else 0) (l.p, 0) l.s := Int.mul_le_mul hl.n v' (by decide) (by have := hl.n; omega)
        unfold tot3
        omega
      obtain ⟨x, hx, y, hy, _⟩ := (there 0).mp h0
      intro e
      have : maxI (y.2.map (·.1)) ∈ mx := List.mem_flatMap.mpr ⟨x, hx, List.mem_map.mpr ⟨y, hy, rfl⟩⟩
      rw [e] at this; simp at this
  have gm : gMax (.lst ((mx.map PyData.int).map .leaf)) = some (.int (maxI mx)) := by
    simp only [gMax, M.lv, leaves_map, Option.bind_some, ints_map]
    rw [if_neg (by simpa using mne)]
  refine ⟨maxI mx, ?_, ?_, fun u hu => ?_⟩
  · have hq : gEq (.leaf (LtrsD Ls)) (.lst []) = some (.bool false) := by
      rw [(gEq_ltrs (fun p hp => nmB_ok (plS_nm hW hp)) hL).1]
      cases Ls with
      | nil => exact absurd rfl hne
      | cons _ _ => rfl
    have body : m_last_tick (Z none none) = .ret (.leaf (.int (maxI mx))) (Z none none) := by
      unfold m_last_tick
      have s1 : mIfS (mTest (m2l (lf2 gEq) 2 (mLst (mNil)))) (mRet (mQ (qC .none))) (mSkip) (Z none none) = .next (Z none none) := by simp [Z, hq]
      rw [ap_seq, s1, O.seq_next, ap_ret, ap_m1, mc]
      simp only [R.bind_ok, lf, gm, Option.map_some, opt_some, R.out_ok]
    unfold f_last_tick
    rw [run_ap]
    show (m_last_tick (Z none none)).fin 3 [] = _
    rw [body, O.fin_ret, mask_no]
    rfl
  · obtain ⟨m1, -⟩ := maxI_mem mne
    obtain ⟨x, hx, hy⟩ := List.mem_flatMap.mp m1
    obtain ⟨y, hy, e⟩ := List.mem_map.mp hy
    have hyn := (ok.mem x hx y hy).1
    obtain ⟨n1, -⟩ := maxI_mem (l := y.2.map (·.1)) (by simpa using hyn)
    obtain ⟨w, hw, e2⟩ := List.mem_map.mp n1
    exact (there _).mpr ⟨x, hx, y, hy, w, hw, by rw [← e, ← e2]⟩
  · obtain ⟨x, hx, y, hy, w, hw, rfl⟩ := (there u).mp hu
    have hyn := (ok.mem x hx y hy).1
    have h1 := (maxI_mem (l := y.2.map (·.1)) (by simpa using hyn)).2 w.1 (List.mem_map.mpr ⟨w, hw, rfl⟩)
    have h2 := (maxI_mem mne).2 (maxI (y.2.map (·.1))) (List.mem_flatMap.mpr ⟨x, hx, List.mem_map.mpr ⟨y, hy, rfl⟩⟩)
    omega
end
end G
namespace G
open PySem PySem.Spec PyProof.Rows L2

/-! ### the law -/
theorem s_last_tick_nil (d e : PyData) : f_last_tick [.leaf d, .leaf e, .leaf (.list [])] = .ret (.leaf .none) [none, none, none] := by
  have hq : gEq (.leaf (.list [])) (.lst []) = some (.bool true) := (gEq_nil (x := .leaf (.list [])) (ds := []) rfl (by simp)).1
  unfold f_last_tick m_last_tick
  simp [run_ap, hq]
section
variable {W : List Way} {weak : Int} (h : WebOk W weak) (nm : NmOk W) (hW : ∀ w ∈ W, WayN w) (hwl : W.length ≤ 8) {Ls : List Ltr} (hL : ∀ l ∈ Ls, l.Ok (plS W) 100) (hLl : Ls.length ≤ 10)
include h nm hW hwl hL hLl
theorem law3 {ρ0 : Env'} (hlen : ρ0.length = 14) (h3 : ρ0[3]? = some (some (.leaf (webD W)))) (h4 : ρ0[4]? = some (some (.leaf (.int weak)))) (h5 : ρ0[5]? = some (some (.leaf (LtrsD Ls)))) (h13 : isLeaf ρ0[13]? = true) (h11 : isLeaf ρ0[11]? = true) :
    ∃ ρ', b_law_3 ρ0 = .next ρ' ∧ Pre 6 ρ0 ρ' ∧ isLeaf ρ'[13]? = true ∧ isLeaf ρ'[11]? = true := by
  have hP : ∀ w ∈ W, w.to ∈ plS W := fun w hw => plS_mem.mpr ⟨w, hw, .inr rfl⟩
  have hpl : (plS W).length ≤ 16 := by have := plS_len (W := W); omega
  have hPn : ∀ p ∈ plS W, PyData.strOk p = true := fun p hp => nmB_ok (plS_nm hW hp)
  obtain ⟨u1, u2, u3⟩ := mxS_ok (S := 100) (by decide) hL
  obtain ⟨rs, e1, fo, tt, hrl⟩ := s__law_ticks h nm hP (by omega) hPn (S := 100) (by decide) (by decide) hL (by omega)
  let q : PT → Prop := fun p => p.1 ∈ plS W ∧ 0 ≤ p.2 ∧ p.2 ≤ 100 * 100
  -- the rows
  have row : ∀ r ∈ rs, (r.map (·.1)).Nodup ∧ r.length ≤ 160016 ∧ ∀ y ∈ r, q y.1 ∧ 1 ≤ y.2 := fun r hr => by
    obtain ⟨s, hs, hs0⟩ := fG_row (k := 0) hr
    have hro := fo.row _ hs
    refine ⟨hro.nd, ?_, fun y hy => ?_⟩
    · have this : r.length ≤ (univT (plS W) 100).length := hro.len (P := univT (plS W) 100) fun k hk => QT_univ (by decide) (by omega) hk
      rw [univT_len] at this
      have h2 : (plS W).length * (100 * Int.toNat 100 + 1) ≤ 16 * 10001 := Nat.mul_le_mul hpl (by decide)
      omega
    · obtain ⟨⟨q1, q2, q3⟩, q4⟩ := hro.mem y hy
      exact ⟨⟨q1, q2, by dsimp only at q3; omega⟩, q4⟩
  have total : rs.flatten.length ≤ 16161616 := by
    have : ∀ l : RwsG PT, (∀ r ∈ l, r ∈ rs) → l.flatten.length ≤ l.length * 160016 := by
      intro l
      induction l with
      | nil => intro _; simp
      | cons r l ih =>
        intro hl
        have i1 := ih fun x hx => hl x (by simp [hx])
        have i2 := (row r (hl r (by simp))).2.1
        rw [List.flatten_cons, List.length_append, List.length_cons, Nat.succ_mul]
        omega
    have h1 := this rs fun _ hr => hr
    have h2 : rs.length * 160016 ≤ 101 * 160016 := Nat.mul_le_mul_right _ (by omega)
    omega
  have ent : ∀ y ∈ rs.flatten, q y.1 ∧ 1 ≤ y.2 := fun y hy => by
    obtain ⟨r, hr, hy⟩ := List.mem_flatten.mp hy
    exact (row r hr).2.2 y hy
  have okF : ∀ t : RwG PT, (∀ y ∈ t, y ∈ rs.flatten) → RwOk q (addG [] t) ∧ (addG [] t).length ≤ 160016 := fun t ht => by
    have ok := (addG_ok (F := []) (q := q) .nil fun y hy => ent y (ht y hy)).1
    refine ⟨ok, ?_⟩
    have := ok.len (P := univT (plS W) 100) fun k hk => QT_univ (s := 0) (by decide) (by decide) ⟨hk.1, hk.2.1, by have := hk.2.2; omega⟩
    rw [univT_len] at this
    have h2 : (plS W).length * (100 * Int.toNat 100 + 1) ≤ 16 * 10001 := Nat.mul_le_mul hpl (by decide)
    omega
  let lsI : List Int → M := fun l => .lst ((l.map PyData.int).map .leaf)
  let T : RwG PT → M := fun t => lsI (t.map fun y => y.1.2)
  let E : RwG PT → Env' → Prop := fun t ρ => Pre 6 ρ0 ρ ∧ ρ[7]? = some (some (T t)) ∧ ρ[8]? = some (some (.dT (ptM (addG [] t)))) ∧ isLeaf ρ[13]? = true ∧ isLeaf ρ[11]? = true
  have s1 : mSet 6 (mCall f__law_ticks [.val (mName 3), .val (mName 4), .val (mName 5)]) ρ0 = .next (ρ0.set 6 (some (rwtM rs))) := by
    have c : mCall f__law_ticks [.val (mName 3), .val (mName 4), .val (mName 5)] ρ0 = .ok (rwtM rs) ρ0 := call_nm (is := [3, 4, 5]) (ds := [webD W, .int weak, LtrsD Ls]) (by simp [h3, h4, h5]) e1
    rw [ap_set, c, R.set_ok]
  let ρa := ((ρ0.set 6 (some (rwtM rs))).set 7 (some (.lst []))).set 8 (some (.dT []))
  let ρb := ρa.set 6 (some (.leaf (.list (rs.map fun r => .dict (ptF r)))))
  have s2 : mIt (mName 6) ρa = .ok (rs.map fun r => .dict (ptF r)) ρb := by
    have : ρa[6]? = some (some (rwtM rs)) := by simp [ρa, hlen]
    rw [ap_it, ap_name]
    simp only [ap_q, this, Option.join_some, nmM, rwtM, M.frz, frzs_rwt, Option.map_some, R.bind_ok, Option.bind_some, items_list, itm_some]
    rfl
  have hb0 : E [] ρb := ⟨((((Pre.refl 6 ρ0).set _ (by decide)).set _ (by decide)).set _ (by decide)).set _ (by decide), by simp [ρb, ρa, hlen]; rfl, by simp [ρb, ρa, hlen]; rfl, by simpa [ρb, ρa] using h13, by simpa [ρb, ρa] using h11⟩
  obtain ⟨ρ1, L1, hE1⟩ := loop_pre (g := gN 9) (b := b_law_1) (fun r : RwG PT => .dict (ptF r)) (fun pr ρ => E pr.flatten ρ) rs (fun pr r rest ρ he hE => by
    obtain ⟨p6, a7, a8, a13, a11⟩ := hE
    have hr : r ∈ rs := by rw [← he]; simp
    obtain ⟨rnd, rlen, rmem⟩ := row r hr
    have hfl : rs.flatten = pr.flatten ++ r ++ rest.flatten := by rw [← he]; simp
    let E2 : RwG PT → Env' → Prop := fun p2 ρ => E (pr.flatten ++ p2) ρ ∧ ρ[9]? = some (some (.leaf (.dict (ptF r))))
    obtain ⟨ρ2, L2, hE2, -⟩ := loop_pre (g := gTp 2 (gCons' (gN 10) (gCons' (gN 11) (gNil')))) (b := b_law_0) (fun y : PT × Int => ptD y.1) E2 r (fun p2 y r2 ρ he2 hE => by
      obtain ⟨⟨p6, a7, a8, a13, a11⟩, a9⟩ := hE
      have hlr := p6.len.trans hlen
      have hy : y ∈ r := by rw [← he2]; simp
      have hg : getG r y.1 = some y.2 := getG_of_mem rnd hy
      have hsub : ∀ z ∈ pr.flatten ++ p2, z ∈ rs.flatten := fun z hz => by
        rw [hfl, ← he2]
        rcases List.mem_append.mp hz with hz | hz
        · simp [hz]
        · simp [hz]
      obtain ⟨ok, ol⟩ := okF _ hsub
      have tl : (pr.flatten ++ p2).length < 16777216 := by
        have : (pr.flatten ++ p2).length ≤ rs.flatten.length := by rw [hfl, ← he2]; simp
        omega
      let ρc := (ρ.set 10 (some (.leaf (.str y.1.1)))).set 11 (some (.leaf (.int y.1.2)))
      let ρd := ρc.set 7 (some (T (pr.flatten ++ (p2 ++ [y]))))
      have b1 : mAppend 7 (mName 11) ρc = .next ρd := by
        have q7 : qName 7 ρc = some (T (pr.flatten ++ p2)) := by simp [ρc, a7]
        have n11 : mName 11 ρc = .ok (.leaf (.int y.1.2)) ρc := by simp [ρc, hlr]
        rw [ap_append, q7, n11]
        have := appL_ok (ms0 := (((pr.flatten ++ p2).map fun y => y.1.2).map PyData.int).map .leaf) (y := .leaf (.int y.1.2)) (i := 7) (ρ1 := ρc) (ms := (((pr.flatten ++ p2).map fun y => y.1.2).map PyData.int).map .leaf) q7 (by rw [List.length_map, List.length_map, List.length_map]; exact tl)
        refine this.trans ?_
        simp only [ρd, T, lsI]
        congr 4
        simp
      have d8 : ρd[8]? = some (some (.dT (ptM (addG [] (pr.flatten ++ p2))))) := by simp [ρd, ρc, a8]
      have kt : mTup (mCons (mName 10) (mCons (mName 11) (mNil))) ρd = .ok (.leaf (ptD y.1)) ρd := by simp [ρd, ρc, hlr, ptD]
      have d9 : qName 9 ρd = some (.leaf (.dict (ptF r))) := by simp [ρd, ρc, a9]
      have v1 := run_m3l (g := gDGet) (i := 8) (mb := mTup (mCons (mName 10) (mCons (mName 11) (mNil)))) (mc := mQ (qC (.int 0))) d8 rfl kt (by simp) (dT_get _ _)
      have v2 : m2l (lf2 gDIx) 9 (mTup (mCons (mName 10) (mCons (mName 11) (mNil)))) ρd = .ok (.leaf (.int y.2)) ρd := by
        rw [ap_m2l, d9, oM_some, kt, R.bind_ok, d9]
        simp only [Option.bind_some, ap_lf2, ptF_ix hg, Option.map_some, opt_some]
      have b2 : mPut 8 (m2 (lf2 gAddS) (m3l gDGet 8 (mTup (mCons (mName 10) (mCons (mName 11) (mNil)))) (mQ (qC (.int 0)))) (m2l (lf2 gDIx) 9 (mTup (mCons (mName 10) (mCons (mName 11) (mNil)))))) (mTup (mCons (mName 10) (mCons (mName 11) (mNil)))) ρd = .next (ρd.set 8 (some (.dT (ptM (addG [] (pr.flatten ++ (p2 ++ [y]))))))) := by
        have q8 : qName 8 ρd = some (.dT (ptM (addG [] (pr.flatten ++ p2)))) := by unfold qName; rw [d8]; rfl
        rw [ap_put, ap_m2, v1, R.bind_ok, v2, R.bind_ok]
        have ga : lf2 gAddS (.leaf (.int ((getG (addG [] (pr.flatten ++ p2)) y.1).getD 0))) (.leaf (.int y.2)) = some (.leaf (.int ((getG (addG [] (pr.flatten ++ p2)) y.1).getD 0 + y.2))) := rfl
        rw [ga, opt_some, R.oo_ok, q8, oO_some, kt, R.oo_ok, frz_leaf, Option.bind_some, q8, Option.bind_some, dT_put (by omega), putO_some]
        congr 4
        rw [← List.append_assoc, addG_snoc]
        rfl
      refine' ⟨ρc, _, by simp [gTp, gCons', gNil', gN, ptD, ρc], _, ⟨_, _, _, _, _⟩, _⟩
      rotate_left
      · unfold b_law_0
        rw [ap_seq, b1, O.seq_next, b2]
      · exact ((((p6.set _ (by decide)).set _ (by decide)).set _ (by decide)).set _ (by decide))
      · simp [ρd, ρc, hlr]
      · simp [ρd, ρc, hlr]
      · simpa [ρd, ρc] using a13
      · simp [ρd, ρc, hlr, isLeaf]
      · simp [ρd, ρc, a9]) r [] (ρ.set 9 (some (.leaf (.dict (ptF r))))) rfl ⟨⟨p6.set _ (by decide), by simp [a7], by simp [a8], by simpa using a13, by simpa using a11⟩, by simp [p6.len, hlen]⟩
    refine ⟨ρ.set 9 (some (.leaf (.dict (ptF r)))), ρ2, rfl, ?_, by simpa using hE2⟩
    unfold b_law_1
    have i9 : mItF keysOfD (mName 9) (ρ.set 9 (some (.leaf (.dict (ptF r))))) = .ok (r.map fun y => ptD y.1) (ρ.set 9 (some (.leaf (.dict (ptF r))))) := by
      simp [p6.len, hlen, keys_ptF]
    rw [ap_forD, i9]
    exact R.forD_ok L2) rs [] ρb rfl hb0
  obtain ⟨p6, a7, a8, a13, a11⟩ := hE1
  have hlr := p6.len.trans hlen
  obtain ⟨okS, lenS⟩ := okF rs.flatten fun _ hz => hz
  have sumS : ∀ ω, smR (addG [] rs.flatten) ω = tot3 W weak [] Ls fun p _ => ω p := fun ω => by
    rw [(addG_ok (F := []) (q := q) .nil ent).2, smR_flatten ω rs 0, tt]
    simp [smR]
  generalize addG [] rs.flatten = sums at okS lenS sumS a8
  -- the places
  let frS : M := .leaf (.dict (ptF sums))
  let E3 : Env' → Prop := fun ρ => Pre 6 ρ0 ρ ∧ ρ[7]? = some (some (T rs.flatten)) ∧ (ρ[8]? = some (some (.dT (ptM sums))) ∨ ρ[8]? = some (some frS)) ∧ isLeaf ρ[13]? = true ∧ isLeaf ρ[11]? = true
  have hplaces := w__law_places (W := W) (by omega)
  obtain ⟨ρ2, L2, p6', b7, -, b13, b11⟩ := loop_inv (g := gN 10) (b := b_law_2) E3 (ds := cutD ((plS W).map PyData.str) none (some 2)) (fun d hd ρ ⟨p6, a7, a8, a13, a11⟩ => by
    obtain ⟨z, hz, rfl⟩ := List.mem_map.mp (cutD_mem hd)
    have hlr := p6.len.trans hlen
    let ρc := ρ.set 10 (some (.leaf (.str z)))
    let ρd := ρc.set 8 (some frS)
    obtain ⟨F, ef, okF', sF⟩ := s_ticks_of h nm hW (by omega) (S := 100) (by decide) (by decide) hL (by omega) hz
    obtain ⟨okG, sG⟩ := ofPl_ok okS z
    have hperm : (ofPl z sums).Perm F := rw_perm okG okF' fun ω => by rw [sG, sF, sumS]
    have i8 : mItF keysOfD (mName 8) ρc = .ok (sums.map fun y => ptD y.1) ρd := by
      rcases a8 with a8 | a8
      · have c8 : ρc[8]? = some (some (.dT (ptM sums))) := by simp [ρc, a8]
        rw [ap_itF, ap_name]
        simp only [ap_q, c8, Option.join_some, nmM, frz_pt, R.bind_ok, frz_leaf, Option.bind_some, keys_ptF, itm_some]
        rfl
      · have c8 : ρc[8]? = some (some frS) := by simp [ρc, a8]
        have hs : ρd = ρc := by
          apply List.ext_getElem?
          intro j
          simp only [ρd]
          rw [List.getElem?_set]
          by_cases e : 8 = j
          · subst e; rw [if_pos rfl, if_pos (by simp [ρc, hlr]), c8]
          · rw [if_neg e]
        rw [ap_itF, ap_name]
        simp only [ap_q, c8, Option.join_some, frS, nmM_leaf, R.bind_ok, frz_leaf, Option.bind_some, keys_ptF, itm_some, hs]
    let p : PyData → Bool := fun d => match d with | .tuple [.str a, _] => decide (a = z) | _ => false
    let f : PyData → M := fun d => match d with | .tuple [.str a, .int t] => .leaf (tnD (t, (getG sums (a, t)).getD 0)) | _ => .leaf .none
    have dl : ρd.length = 14 := by simp [ρd, ρc, hlr]
    have c := comp_set (g := gTp 2 (gCons' (gN 13) (gCons' (gN 11) (gNil')))) (it := mItF keysOfD (mName 8)) (t := mTest (mQ (q2 gEq (qName 13) (qName 10)))) (el := mTup (mCons (mName 11) (mCons (m2l (lf2 gDIx) 8 (mTup (mCons (mName 13) (mCons (mName 11) (mNil))))) (mNil)))) (vs := [13, 11]) p f i8
      (by simp only [List.all_cons, List.all_nil, Bool.and_true, Bool.and_eq_true]; exact ⟨by simpa [ρd, ρc] using a13, by simpa [ρd, ρc] using a11⟩) (by simp; omega) (fun d hd => by
        obtain ⟨y, hy, rfl⟩ := List.mem_map.mp hd
        have hg : getG sums y.1 = some y.2 := getG_of_mem okS.nd hy
        let ρw := ((wipeE ρd [13, 11]).set 13 (some (.leaf (.str y.1.1)))).set 11 (some (.leaf (.int y.1.2)))
        have wl : (wipeE ρd [13, 11]).length = 14 := by rw [wipeE_len, dl]
        have w8 : ρw[8]? = some (some frS) := by
          simp only [ρw]
          rw [List.getElem?_set_ne (by decide), List.getElem?_set_ne (by decide), wipe_off _ _ _ (by decide)]
          simp [ρd, ρc, hlr]
        have w10 : ρw[10]? = some (some (.leaf (.str z))) := by
          simp only [ρw]
          rw [List.getElem?_set_ne (by decide), List.getElem?_set_ne (by decide), wipe_off _ _ _ (by decide)]
          simp [ρd, ρc, hlr]
        have w13 : ρw[13]? = some (some (.leaf (.str y.1.1))) := by simp [ρw, wl]
        have w11 : ρw[11]? = some (some (.leaf (.int y.1.2))) := by simp [ρw, wl]
        refine ⟨ρw, by simp [gTp, gCons', gNil', gN, ptD, ρw], by simp only [ρw]; rw [wipe_set _ (by decide), wipe_set _ (by decide), wipeE_twice], ?_, fun _ => ?_⟩
        · have ge := gEq_str (a := y.1.1) (b := z) (hPn _ (okS.mem y hy).1.1) (hPn _ hz)
          simp [w13, w10, ge, p, ptD]
        · have gx := ptF_ix hg
          have t2 : mTup (mCons (mName 13) (mCons (mName 11) (mNil))) ρw = .ok (.leaf (ptD y.1)) ρw := by simp [w13, w11, ptD]
          have x2 : m2l (lf2 gDIx) 8 (mTup (mCons (mName 13) (mCons (mName 11) (mNil)))) ρw = .ok (.leaf (.int y.2)) ρw := by
            have q8 : qName 8 ρw = some frS := by unfold qName; rw [w8]; rfl
            rw [ap_m2l, q8, oM_some, t2, R.bind_ok, q8]
            simp only [Option.bind_some, ap_lf2, frS, gx, Option.map_some, opt_some]
          rw [ap_tup, ap_cons, show mName 11 ρw = .ok (.leaf (.int y.1.2)) ρw from by simp [w11], R.bind_ok, frz_leaf, fz1_some, ap_cons, x2]
          simp [f, ptD, tnD, hg])
    have cf : ((sums.map fun y => ptD y.1).filter p).map f = ((ofPl z sums).map tnD).map .leaf := by
      unfold ofPl
      rw [List.filter_map, List.map_map, List.map_map, List.map_map]
      have : (p ∘ fun y : PT × Int => ptD y.1) = fun y => decide (y.1.1 = z) := rfl
      rw [this]
      refine List.map_congr_left fun y hy => ?_
      have hg : getG sums y.1 = some y.2 := getG_of_mem okS.nd (List.mem_filter.mp hy).1
      simp [f, ptD, hg]
    rw [cf] at c
    have lenG : (ofPl z sums).length ≤ 16777216 := by
      have : (ofPl z sums).length ≤ sums.length := by unfold ofPl; rw [List.length_map]; exact List.length_filter_le _ _
      omega
    have gs : gSortL (.lst (((ofPl z sums).map tnD).map .leaf)) = some (.lst ((sortD (F.map tnD)).map .leaf)) := by
      simp only [gSortL, M.lv, leaves_map, Option.bind_some, sortOk_tn lenG, if_true, sort_tn hperm]
    let du : M := .lst ((sortD (F.map tnD)).map .leaf)
    have st1 : mSet 12 (m1 (gSortL) (mComp (mItF keysOfD (mName 8)) (gTp 2 (gCons' (gN 13) (gCons' (gN 11) (gNil')))) (mTest (mQ (q2 gEq (qName 13) (qName 10)))) (mTup (mCons (mName 11) (mCons (m2l (lf2 gDIx) 8 (mTup (mCons (mName 13) (mCons (mName 11) (mNil))))) (mNil)))) [13, 11])) ρc = .next (ρd.set 12 (some du)) := by
      rw [ap_set, ap_m1, c, R.bind_ok, gs, opt_some, R.set_ok]
    have pd : Pre 6 ρ0 (ρd.set 12 (some du)) := ((p6.set _ (by decide)).set _ (by decide)).set _ (by decide)
    have ct : mCall f_ticks_of [.val (mName 3), .val (mName 4), .val (mName 5), .val (mName 10)] (ρd.set 12 (some du)) = .ok du (ρd.set 12 (some du)) := by
      have k3 := (pd.at' 3 (by decide)).trans h3
      have k4 := (pd.at' 4 (by decide)).trans h4
      have k5 := (pd.at' 5 (by decide)).trans h5
      have k10 : (ρd.set 12 (some du))[10]? = some (some (.leaf (.str z))) := by simp [ρd, ρc, hlr]
      exact call_nm (is := [3, 4, 5, 10]) (ds := [webD W, .int weak, LtrsD Ls, .str z]) (by simp only [List.map_cons, List.map_nil, k3, k4, k5, k10, Option.join_some]) ef
    have gn : gNe du du = some (.bool false) := by
      have lay : ∀ d ∈ sortD (F.map tnD), d.canLay0 = true ∧ d.depth ≤ 50 := fun d hd => by
        obtain ⟨y, hy, rfl⟩ := List.mem_map.mp (List.mem_mergeSort.mp hd)
        refine lay_le (lay_tup (n := 0) fun e he => ?_) (by decide)
        simp only [List.mem_cons, List.not_mem_nil, or_false] at he
        rcases he with rfl | rfl <;> exact lay_int _
      have fr : du.frz = some (.list (sortD (F.map tnD))) := by simp only [du, M.frz, frzs_leaves, Option.map_some]
      have lay' := lay_le (lay_lst lay) (show 51 ≤ 60 by decide)
      rw [(gEq_lay fr fr lay' lay').2, eqv_self lay']; rfl
    refine' ⟨ρc, ρd.set 12 (some du), rfl, _, pd, by simpa [ρd, ρc] using a7, .inr (by simp [ρd, ρc, hlr]), by simpa [ρd, ρc] using a13, by simpa [ρd, ρc] using a11⟩
    unfold b_law_2
    have q12 : qName 12 (ρd.set 12 (some du)) = some du := by simp [dl]
    rw [ap_seq, st1, O.seq_next, ap_ifS, ap_test, ap_m2eq, ct, R.bind_ok, q12]
    simp only [Option.bind_some, ap_lf2, gn, Option.map_some, opt_some, R.bind_ok, tstM_b, R.iff_f, ap_skip]) ρ1 ⟨p6, a7, .inl a8, a13, a11⟩
  -- the last tick
  have k3 := (p6'.at' 3 (by decide)).trans h3
  have k4 := (p6'.at' 4 (by decide)).trans h4
  have k5 := (p6'.at' 5 (by decide)).trans h5
  have s4 : mIfS (mTest (m2 (lf2 gNe) (mCall f_last_tick [.val (mName 3), .val (mName 4), .val (mName 5)]) (mIf (mTest (m2l (lf2 gNe) 5 (mLst (mNil)))) (m1q (lf gMax) (qName 7)) (mQ (qC .none))))) (mRet (mQ (qC (.bool false)))) (mSkip) ρ2 = .next ρ2 := by
    have hne := (gEq_ltrs hPn hL).2
    cases hLs : Ls with
    | nil =>
      subst hLs
      have k5' : ρ2[5]? = some (some (.leaf (.list []))) := k5
      have c : mCall f_last_tick [.val (mName 3), .val (mName 4), .val (mName 5)] ρ2 = .ok (.leaf .none) ρ2 := call_nm (is := [3, 4, 5]) (ds := [webD W, .int weak, .list []]) (by simp [k3, k4, k5']) (s_last_tick_nil _ _)
      have hne' : gNe (.leaf (.list [])) (.lst []) = some (.bool false) := hne
      have gn : gNe (.leaf .none) (.leaf .none) = some (.bool false) := by rw [(gEq_lay (d := .none) (e := .none) rfl rfl ⟨rfl, by simp [PyData.depth]⟩ ⟨rfl, by simp [PyData.depth]⟩).2]; rfl
      rw [ap_ifS, ap_test, ap_m2, c, R.bind_ok]
      simp [k5', hne', gn]
    | cons l0 Lr =>
      have hLne : Ls ≠ [] := by rw [hLs]; simp
      obtain ⟨t, et, top1, top2⟩ := s_last_tick h nm hW (by omega) (S := 100) (by decide) (by decide) hL (by omega) hLne
      have c : mCall f_last_tick [.val (mName 3), .val (mName 4), .val (mName 5)] ρ2 = .ok (.leaf (.int t)) ρ2 := call_nm (is := [3, 4, 5]) (ds := [webD W, .int weak, LtrsD Ls]) (by simp [k3, k4, k5]) et
      have hne' : gNe (.leaf (LtrsD Ls)) (.lst []) = some (.bool true) := by rw [hne, hLs]; rfl
      have there : ∀ u, (0 < tot3 W weak [] Ls fun p _ => if decide (p.2 = u) = true then 1 else 0) ↔ u ∈ rs.flatten.map fun y => y.1.2 := fun u => by
        rw [← tt, smF_there fo fun p => decide (p.2 = u)]
        constructor
        · rintro ⟨x, hx, y, hy, e⟩
          refine List.mem_map.mpr ⟨y, List.mem_flatten.mpr ⟨x.2, ?_, hy⟩, of_decide_eq_true e⟩
          have : ∀ (l : RwsG PT) (k : Nat), x ∈ fG k l → x.2 ∈ l := by
            intro l
            induction l with
            | nil => intro k hx; simp [fG] at hx
            | cons r l ih =>
              intro k hx
              rcases List.mem_cons.mp hx with rfl | hx
              · simp
              · exact List.mem_cons_of_mem _ (ih (k + 1) hx)
          exact this rs 0 hx
        · intro hu
          obtain ⟨y, hy, e⟩ := List.mem_map.mp hu
          obtain ⟨r, hr, hy⟩ := List.mem_flatten.mp hy
          obtain ⟨s, hs, _⟩ := fG_row (k := 0) hr
          exact ⟨_, hs, y, hy, decide_eq_true e⟩
      have htm := (there t).mp top1
      have tne : (rs.flatten.map fun y => y.1.2) ≠ [] := List.ne_nil_of_mem htm
      obtain ⟨m1, m2⟩ := maxI_mem tne
      have em : maxI (rs.flatten.map fun y => y.1.2) = t := Int.le_antisymm (top2 _ ((there _).mpr m1)) (m2 t htm)
      have gm : gMax (T rs.flatten) = some (.int t) := by
        simp only [T, lsI, gMax, M.lv, leaves_map, Option.bind_some, ints_map, em]
        rw [if_neg (by simpa using tne)]
      have q7 : qName 7 ρ2 = some (T rs.flatten) := by unfold qName; rw [b7]; rfl
      have gi : gNe (.leaf (.int t)) (.leaf (.int t)) = some (.bool false) := by rw [gNe_int]; simp
      have c2 : mIf (mTest (m2l (lf2 gNe) 5 (mLst (mNil)))) (m1q (lf gMax) (qName 7)) (mQ (qC .none)) ρ2 = .ok (.leaf (.int t)) ρ2 := by
        have t1 : mTest (m2l (lf2 gNe) 5 (mLst (mNil))) ρ2 = .ok true ρ2 := by simp [k5, hne']
        rw [ap_if, t1, R.bind_ok, cond_true, ap_m1q, q7]
        simp only [Option.bind_some, ap_lf, gm, Option.map_some, opt_some]
      rw [ap_ifS, ap_test, ap_m2, c, R.bind_ok, c2, R.bind_ok]
      simp only [ap_lf2, gi, Option.map_some, opt_some, R.bind_ok, tstM_b, R.iff_f, ap_skip]
  refine ⟨ρ2, ?_, p6', b13, b11⟩
  have st2 : mSet 7 (mLst (mNil)) (ρ0.set 6 (some (rwtM rs))) = .next ((ρ0.set 6 (some (rwtM rs))).set 7 (some (.lst []))) := by simp
  have st3 : mSet 8 (mNewT) ((ρ0.set 6 (some (rwtM rs))).set 7 (some (.lst []))) = .next ρa := by simp [ρa]
  have st5 : mIt (mSl (mCall f__law_places [.val (mName 3)]) (mNoPart) (mPart (mQ (qC (.int 2))))) ρ1 = .ok (cutD ((plS W).map PyData.str) none (some 2)) ρ1 := by
    have j3 := (p6.at' 3 (by decide)).trans h3
    have c : mCall f__law_places [.val (mName 3)] ρ1 = .ok (.lst (((plS W).map PyData.str).map .leaf)) ρ1 := call_nm (is := [3]) (ds := [webD W]) (by simp [j3]) hplaces
    rw [ap_it, ap_sl, c]
    simp [-List.map_map, gSl, M.tv, M.lv]
  unfold b_law_3
  rw [ap_seq, s1, O.seq_next, ap_seq, st2, O.seq_next, ap_seq, st3, O.seq_next, ap_seq, ap_for, s2, R.for_ok, L1, O.seq_next, ap_seq, ap_for, st5, R.for_ok, L2, O.seq_next]
  exact s4
end
theorem law4 (ns : List Int) {k : Nat} {ρ0 : Env'} (hlen : ρ0.length = 14) (h0 : ρ0[0]? = some (some (.ro (ns.map .int)))) (h1 : ρ0[1]? = some (some (.leaf (.int k)))) (h13 : isLeaf ρ0[13]? = true) (h11 : isLeaf ρ0[11]? = true) :
    ∃ ρ', b_law_4 ρ0 = .next ρ' ∧ ρ'.length = 14 ∧ ρ'[0]? = some (some (.ro (ns.map .int))) ∧ isLeaf ρ'[13]? = true ∧ isLeaf ρ'[11]? = true := by
  obtain ⟨m0, f0, hb0⟩ := s__law_bag ns k
  obtain ⟨W, m1, f1, hb1, hne, hW, hwl⟩ := s__law_web hb0 (most := 8) (by decide) (by decide)
  obtain ⟨weak, m2, f2, hb2, w0, w1⟩ := s__law_weak hb1
  have hl : W.length ≤ 8 := by omega
  obtain ⟨La, m3, f3, hb3, la, ha⟩ := s__law_letters hb2 hne (by omega) (most := 4) (strong := 100) (by decide) (by decide) (by decide) (by decide)
  obtain ⟨Lb, m4, f4, hb4, lb, hb⟩ := s__law_letters hb3 hne (by omega) (most := 2) (strong := 20) (by decide) (by decide) (by decide) (by decide)
  have wok : WebOk W weak := ⟨fun w hw => (hW w hw).ok, w0⟩
  have nm : NmOk W := ⟨fun w hw => ⟨(hW w hw).fr, (hW w hw).to⟩, by omega⟩
  have hLs : ∀ d ∈ [LtrsD La, LtrsD Lb], ∃ Ls : List Ltr, d = LtrsD Ls ∧ Ls.length ≤ 10 ∧ ∀ l ∈ Ls, l.Ok (plS W) 100 := by
    intro d hd
    simp only [List.mem_cons, List.not_mem_nil, or_false] at hd
    rcases hd with rfl | rfl
    · exact ⟨La, rfl, by omega, fun l hl => (ha l hl).1⟩
    · exact ⟨Lb, rfl, by omega, fun l hl => let q := (hb l hl).1; ⟨q.p, q.s1, Int.le_trans q.s2 (by decide), q.n⟩⟩
  let ρ1 := (ρ0.set 0 (some (.ro (ns.map .int)))).set 2 (some m0)
  let ρ2 := ((ρ1.set 2 (some m1)).set 2 (some m2)).set 3 (some (.leaf (webD W)))
  let ρ3 := ρ2.set 4 (some (.leaf (.int weak)))
  let ρ4 := (ρ3.set 2 (some m3)).set 2 (some m4)
  have s1 : mSet 2 (mCall f__law_bag [.ref 0, .val (mName 1)]) ρ0 = .next ρ1 := by
    rw [ap_set, call_rf (ds := [some (.int k)]) (ms := [.leaf (.int k)]) rfl h0 (by simp [h1]) rfl f0]
    rfl
  have s2 : mPar 3 4 (mCall f__law_web [.ref 2, .val (mQ (qC (.int 8)))]) (mCall f__law_weak [.ref 2]) ρ1 = .next ρ3 := by
    rw [ap_par, call_rf (ds := [some (.int 8)]) (ms := [.leaf (.int 8)]) (m := m0) rfl (by simp [ρ1, hlen]) rfl rfl f1, R.oo_ok, call_rf (ds := []) (ms := []) (m := m1) rfl (by simp [ρ1, hlen]) rfl rfl f2, R.oo_ok]
  have l3 : ρ3.length = 14 := by simp [ρ3, ρ2, ρ1, hlen]
  have a3 : ρ3[3]? = some (some (.leaf (webD W))) := by simp [ρ3, ρ2, ρ1, hlen]
  have s3 : mIt (mLst (mCons (mCall f__law_letters [.ref 2, .val (mName 3), .val (mQ (qC (.int 4))), .val (mQ (qC (.int 100)))]) (mCons (mCall f__law_letters [.ref 2, .val (mName 3), .val (mQ (qC (.int 2))), .val (mQ (qC (.int 20)))]) (mNil)))) ρ3 = .ok [LtrsD La, LtrsD Lb] ρ4 := by
    have c1 : mCall f__law_letters [.ref 2, .val (mName 3), .val (mQ (qC (.int 4))), .val (mQ (qC (.int 100)))] ρ3 = .ok (.lst ((La.map Ltr.D).map .leaf)) (ρ3.set 2 (some m3)) := call_rf (ds := [some (webD W), some (.int 4), some (.int 100)]) (ms := [.leaf (webD W), .leaf (.int 4), .leaf (.int 100)]) (m := m2) rfl (by simp [ρ3, ρ2, ρ1, hlen]) (by simp [a3]) rfl f3
    have c2 : mCall f__law_letters [.ref 2, .val (mName 3), .val (mQ (qC (.int 2))), .val (mQ (qC (.int 20)))] (ρ3.set 2 (some m3)) = .ok (.lst ((Lb.map Ltr.D).map .leaf)) ρ4 := call_rf (ds := [some (webD W), some (.int 2), some (.int 20)]) (ms := [.leaf (webD W), .leaf (.int 2), .leaf (.int 20)]) (m := m3) rfl (by simp [l3]) (by simp [a3]) rfl f4
    rw [ap_it, ap_lst, ap_cons, c1, R.bind_ok, frz_lst, fz1_some, ap_cons, c2, R.bind_ok, frz_lst, fz1_some]
    simp [LtrsD]
  obtain ⟨ρ', L, hp, p13, p11⟩ := loop_inv (g := gN 5) (b := b_law_3) (fun ρ => Pre 5 ρ4 ρ ∧ isLeaf ρ[13]? = true ∧ isLeaf ρ[11]? = true) (ds := [LtrsD La, LtrsD Lb]) (fun d hd ρ ⟨hp, h13, h11⟩ => by
    obtain ⟨Ls, rfl, hlen', hok⟩ := hLs d hd
    have l4 : ρ4.length = 14 := by simp [ρ4, l3]
    obtain ⟨ρ', e, q6, q13, q11⟩ := law3 wok nm hW hl hok hlen' (ρ0 := ρ.set 5 (some (.leaf (LtrsD Ls)))) (by rw [List.length_set, hp.len, l4]) (by rw [List.getElem?_set_ne (by decide), hp.at' 3 (by decide)]; simp [ρ4, a3]) (by rw [List.getElem?_set_ne (by decide), hp.at' 4 (by decide)]; simp [ρ4, ρ3, ρ2, ρ1, hlen]) (by simp [hp.len, l4]) (by simpa using h13) (by simpa using h11)
    exact ⟨_, ρ', rfl, e, (hp.set _ (by decide)).trans (q6.less (by decide)), q13, q11⟩) ρ4 ⟨.refl _ _, by simpa [ρ4, ρ3, ρ2, ρ1] using h13, by simpa [ρ4, ρ3, ρ2, ρ1] using h11⟩
  refine ⟨ρ', ?_, by rw [hp.len]; simp [ρ4, l3], by rw [hp.at' 0 (by decide)]; simp [ρ4, ρ3, ρ2, ρ1, hlen], p13, p11⟩
  unfold b_law_4
  rw [ap_seq, s1, O.seq_next, ap_seq, s2, O.seq_next, ap_for, s3, R.for_ok]
  exact L
theorem law_true (ns : List Int) (h : ns.length ≤ 63) : ∃ outs, f_law [.ro (ns.map .int)] = .ret (.leaf (.bool true)) outs := by
  obtain ⟨n, hn, hn0, hn1⟩ : ∃ n : Int, gMin2 (.leaf (.int ns.length)) (.leaf (.int 3)) = some (.int n) ∧ 0 ≤ n ∧ n ≤ 3 := by
    simp only [gMin2, gI2, if_true]
    refine ⟨_, rfl, ?_, ?_⟩ <;> split <;> omega
  obtain ⟨ρ', L, l, h0, h13, h11⟩ := loop_inv (g := gN 1) (b := b_law_4) (fun ρ => ρ.length = 14 ∧ ρ[0]? = some (some (.ro (ns.map .int))) ∧ isLeaf ρ[13]? = true ∧ isLeaf ρ[11]? = true) (ds := rangeD 0 1 (1 + n).toNat)
    (fun d hd ρ ⟨l, h0, h13, h11⟩ => by
      obtain ⟨k, hk, rfl⟩ := rangeD_mem hd
      obtain ⟨ρ', e, q⟩ := law4 ns (k := k) (ρ0 := ρ.set 1 (some (.leaf (.int k)))) (by simp [l]) (by simp [h0]) (by simp [l]) (by simpa using h13) (by simpa using h11)
      exact ⟨_, ρ', rfl, e, q⟩) [some (.ro (ns.map .int)), none, none, none, none, none, none, none, none, none, none, none, none, none] ⟨rfl, rfl, rfl, rfl⟩
  have last : m2eq (lf2 (gIsN2 false)) (mCall f_last_tick [.val (mTup (mCons (mTup (mCons (mQ (qC (.str "ash"))) (mCons (mQ (qC (.str "bay"))) (mCons (mQ (qC (.int 1))) (mCons (mQ (qC (.int 2))) (mCons (mQ (qC (.int 3))) (mNil))))))) (mNil))), .val (mQ (qC (.int 1))), .val (mLst (mNil))]) (qC .none) ρ' = .ok (.leaf (.bool true)) ρ' := by
    have e := s_last_tick_nil (.tuple [.tuple [.str "ash", .str "bay", .int 1, .int 2, .int 3]]) (.int 1)
    have c : mCall f_last_tick [.val (mTup (mCons (mTup (mCons (mQ (qC (.str "ash"))) (mCons (mQ (qC (.str "bay"))) (mCons (mQ (qC (.int 1))) (mCons (mQ (qC (.int 2))) (mCons (mQ (qC (.int 3))) (mNil))))))) (mNil))), .val (mQ (qC (.int 1))), .val (mLst (mNil))] ρ' = .ok (.leaf .none) ρ' := call_no (ds := [some (.tuple [.tuple [.str "ash", .str "bay", .int 1, .int 2, .int 3]]), some (.int 1), some (.list [])]) rfl (by simp) rfl e
    rw [ap_m2eq, c]
    rfl
  have i1 : mItR1 (mCons (mQ (q2 gAddS (qC (.int 1)) (q2 gMin2 (q1 gLen (qName 0)) (qC (.int 3))))) (mNil)) [some (.ro (ns.map .int)), none, none, none, none, none, none, none, none, none, none, none, none, none] = .ok (rangeD 0 1 (1 + n).toNat) [some (.ro (ns.map .int)), none, none, none, none, none, none, none, none, none, none, none, none, none] := by
    simp [gLen, M.sv, hn, gAddS, rg1_ok _ (rng_ok (n := 1 + n) (by omega) (by omega))]
  refine ⟨mask [0] 0 1 ρ', ?_⟩
  unfold f_law
  rw [run_ap]
  have body : m_law [some (.ro (ns.map .int)), none, none, none, none, none, none, none, none, none, none, none, none, none] = .ret (.leaf (.bool true)) ρ' := by
    unfold m_law
    rw [ap_seq, ap_for, i1, R.for_ok, L, O.seq_next, ap_ret, last, R.out_ok]
  show (m_law [some (.ro (ns.map .int)), none, none, none, none, none, none, none, none, none, none, none, none, none]).fin 1 [0] = _
  rw [body, O.fin_ret]
end G
namespace G
open PySem PySem.Spec PyProof.Rows L2

/-- a def of the text, by its place -/
def topS (i : Nat) : Stmt := PySem.Challenge.pw_breedpost_k05_when_letters_come.main.body.getD i (.Pass ⟨0, 0, 0, 0⟩)
theorem hu64 {k : Nat} {A : Around} (hr : Room k A) : A.units + 64 < cLine := hr.units
structure Txt (K : Frag) (mg : Str → Option Value) : Prop where
  b_isinstance : mg "isinstance" = none
  b_str : mg "str" = none
  b_len : mg "len" = none
  b_all : mg "all" = none
  b_sorted : mg "sorted" = none
  b_enumerate : mg "enumerate" = none
  b_range : mg "range" = none
  b_max : mg "max" = none
  b_list : mg "list" = none
  b_abs : mg "abs" = none
  b_tuple : mg "tuple" = none
  b_set : mg "set" = none
  b_min : mg "min" = none
  c_LETTERS : ∃ t, mg "LETTERS" = some (.str "abcdefghijklmnopqrstuvwxyz" t)
abbrev st_is_name : Stmt := topS 6
abbrev N_is_name : List Str := ["thing", "sign"]
theorem sc_is_name : FnScope N_is_name ["thing"] (defScope st_is_name) := ⟨rfl, rfl, rfl, by decide +kernel, rfl, by decide +kernel, by decide +kernel⟩
abbrev st_places : Stmt := topS 7
abbrev N_places : List Str := ["web", "found", "way"]
theorem sc_places : FnScope N_places ["web"] (defScope st_places) := ⟨rfl, rfl, rfl, by decide +kernel, rfl, by decide +kernel, by decide +kernel⟩
abbrev st_need_place : Stmt := topS 8
abbrev N_need_place : List Str := ["web", "name"]
theorem sc_need_place : FnScope N_need_place ["web", "name"] (defScope st_need_place) := ⟨rfl, rfl, rfl, by decide +kernel, rfl, by decide +kernel, by decide +kernel⟩
abbrev st_made_by : Stmt := topS 9
abbrev N_made_by : List Str := ["web", "weak", "place", "strength", "shut", "found", "number", "way", "less"]
theorem sc_made_by : FnScope N_made_by ["web", "weak", "place", "strength", "shut"] (defScope st_made_by) := ⟨rfl, rfl, rfl, by decide +kernel, rfl, by decide +kernel, by decide +kernel⟩
abbrev st_all_ticks : Stmt := topS 11
abbrev N_all_ticks : List Str := ["web", "weak", "letters", "found", "place", "strength", "many", "row", "ticks", "number", "less", "tick", "later", "letter"]
theorem sc_all_ticks : FnScope N_all_ticks ["web", "weak", "letters"] (defScope st_all_ticks) := ⟨rfl, rfl, rfl, by decide +kernel, rfl, by decide +kernel, by decide +kernel⟩
abbrev st_ticks_of : Stmt := topS 12
abbrev N_ticks_of : List Str := ["web", "weak", "letters", "place", "found", "row", "tick", "many"]
theorem sc_ticks_of : FnScope N_ticks_of ["web", "weak", "letters", "place"] (defScope st_ticks_of) := ⟨rfl, rfl, rfl, by decide +kernel, rfl, by decide +kernel, by decide +kernel⟩
abbrev st_last_tick : Stmt := topS 13
abbrev N_last_tick : List Str := ["web", "weak", "letters", "row", "ticks"]
theorem sc_last_tick : FnScope N_last_tick ["web", "weak", "letters"] (defScope st_last_tick) := ⟨rfl, rfl, rfl, by decide +kernel, rfl, by decide +kernel, by decide +kernel⟩
abbrev st__law_bag : Stmt := topS 15
abbrev N__law_bag : List Str := ["script", "k", "cell"]
theorem sc__law_bag : FnScope N__law_bag ["script", "k"] (defScope st__law_bag) := ⟨rfl, rfl, rfl, by decide +kernel, rfl, by decide +kernel, by decide +kernel⟩
abbrev st__law_take : Stmt := topS 16
abbrev N__law_take : List Str := ["bag", "many", "found"]
theorem sc__law_take : FnScope N__law_take ["bag", "many"] (defScope st__law_take) := ⟨rfl, rfl, rfl, by decide +kernel, rfl, by decide +kernel, by decide +kernel⟩
abbrev st__law_of : Stmt := topS 17
abbrev N__law_of : List Str := ["bag", "some"]
theorem sc__law_of : FnScope N__law_of ["bag", "some"] (defScope st__law_of) := ⟨rfl, rfl, rfl, by decide +kernel, rfl, by decide +kernel, by decide +kernel⟩
abbrev st__law_web : Stmt := topS 18
abbrev N__law_web : List Str := ["bag", "most", "names", "found", "turn", "bottom", "top", "ticks"]
theorem sc__law_web : FnScope N__law_web ["bag", "most"] (defScope st__law_web) := ⟨rfl, rfl, rfl, by decide +kernel, rfl, by decide +kernel, by decide +kernel⟩
abbrev st__law_places : Stmt := topS 19
abbrev N__law_places : List Str := ["web", "way"]
theorem sc__law_places : FnScope N__law_places ["web"] (defScope st__law_places) := ⟨rfl, rfl, rfl, by decide +kernel, rfl, by decide +kernel, by decide +kernel⟩
abbrev st__law_weak : Stmt := topS 20
abbrev N__law_weak : List Str := ["bag"]
theorem sc__law_weak : FnScope N__law_weak ["bag"] (defScope st__law_weak) := ⟨rfl, rfl, rfl, by decide +kernel, rfl, by decide +kernel, by decide +kernel⟩
abbrev st__law_letters : Stmt := topS 21
abbrev N__law_letters : List Str := ["bag", "web", "most", "strongest", "found", "turn", "many"]
theorem sc__law_letters : FnScope N__law_letters ["bag", "web", "most", "strongest"] (defScope st__law_letters) := ⟨rfl, rfl, rfl, by decide +kernel, rfl, by decide +kernel, by decide +kernel⟩
abbrev st__law_made : Stmt := topS 22
abbrev N__law_made : List Str := ["web", "weak", "place", "strength", "shut", "found", "number", "first", "last", "top", "bottom", "ticks", "less"]
theorem sc__law_made : FnScope N__law_made ["web", "weak", "place", "strength", "shut"] (defScope st__law_made) := ⟨rfl, rfl, rfl, by decide +kernel, rfl, by decide +kernel, by decide +kernel⟩
abbrev st__law_ticks : Stmt := topS 23
abbrev N__law_ticks : List Str := ["web", "weak", "letters", "rows", "place", "strength", "many", "tick", "number", "less", "there", "turn", "letter"]
theorem sc__law_ticks : FnScope N__law_ticks ["web", "weak", "letters"] (defScope st__law_ticks) := ⟨rfl, rfl, rfl, by decide +kernel, rfl, by decide +kernel, by decide +kernel⟩
abbrev st_law : Stmt := topS 24
abbrev N_law : List Str := ["script", "k", "bag", "web", "weak", "letters", "rows", "last", "sums", "row", "place", "tick", "due", "spot"]
theorem sc_law : FnScope N_law ["script"] (defScope st_law) := ⟨rfl, rfl, rfl, by decide +kernel, rfl, by decide +kernel, by decide +kernel⟩
section
variable {P : Program} {w : World} {K : Frag} {mg : Str → Option Value} {base : Heap} {f : Addr} {fd : FuncData}
theorem ok_is_name (F : Fun K "is_name" "is_name" st_is_name f fd) (hm : mg "is_name" = some (.ref f)) (b : Binds K fd ["thing"] []) (T : Txt K mg)  : FnT P w K mg base 1 "is_name" 1 f_is_name := by
  have S := sc_is_name
  refine FnT.of F hm b (fnD (k := 0) [] F sc_is_name (by decide) fun cdv A outer s H E hr => ?_)
  exact dss_one (ds_ret (de_and (de_q (dq_isi .str (by rfl) T.b_isinstance (by rfl) T.b_str boot_str (dq_name (pv 0)))) (de_and (de_q (dq_chain op_le r_leI op_le r_leI (dq_int) (dq_b1 call_len' r_len (by rfl) T.b_len boot_len (dq_name (pv 0))) (dq_int))) (de_and1 (de_b1 (cr_all rfl) (R1S.up r_all) (by rfl) T.b_all boot_all (de_comp (own := [("sign", 1)]) (by decide) rfl S.nd (L2.PI.lk (di_str (de_name (pv 0)))) (blkOk_by (own := [("sign", 1)]) (N := N_is_name) (sc := defScope st_is_name) (by decide +kernel)) (fun _ _ _ _ _ => dg_name S.nd rfl (Or.inl rfl)) (fun _ _ _ _ _ => dts_nil) (fun _ _ _ _ _ => de_q (dq_cmp op_in' r_in (dq_name (pv 1)) (dq_cS (by rfl) T.c_LETTERS) (by rfl)))))))))
theorem ok_places (F : Fun K "places" "places" st_places f fd) (hm : mg "places" = some (.ref f)) (b : Binds K fd ["web"] []) (T : Txt K mg)  : FnT P w K mg base 1 "places" 1 f_places := by
  have S := sc_places
  refine FnT.of F hm b (fnD (k := 0) [] F sc_places (by decide) fun cdv A outer s H E hr => ?_)
  exact dss_cons (ds_setDComp (own := [("way", 2)]) (by decide) (by decide) rfl S.nd rfl rfl (by rfl) (L2.PI.lk (di_seq (de_name (pv 0)))) (blkOk_by (own := [("way", 2)]) (N := N_places) (sc := defScope st_places) (by decide +kernel)) (fun _ _ _ _ _ => dg_name S.nd rfl (Or.inl rfl)) (fun _ _ _ _ _ => dts_nil) (fun _ _ _ _ _ => de_q (dq_ix (dq_name (pv 2)) (dq_int))) (fun _ _ _ _ _ => de_q (dq_bl)))
      (dss_cons (ds_update (de_dcomp (own := [("way", 2)]) (by decide) rfl S.nd (L2.PI.lk (di_seq (de_name (pv 0)))) (blkOk_by (own := [("way", 2)]) (N := N_places) (sc := defScope st_places) (by decide +kernel)) (fun _ _ _ _ _ => dg_name S.nd rfl (Or.inl rfl)) (fun _ _ _ _ _ => dts_nil) (fun _ _ _ _ _ => de_q (dq_ix (dq_name (pv 2)) (dq_int))) (fun _ _ _ _ _ => de_q (dq_bl))) (pv 1))
      (dss_one (ds_ret (de_b1q (call_sortK rfl (hu64 hr)) r_sortK (by rfl) T.b_sorted boot_sorted (dq_name (pv 1))))))
theorem ok_need_place (F : Fun K "need_place" "need_place" st_need_place f fd) (hm : mg "need_place" = some (.ref f)) (b : Binds K fd ["web", "name"] []) (T : Txt K mg) (h_is_name : FnT P w K mg base 1 "is_name" 1 f_is_name) (h_places : FnT P w K mg base 1 "places" 1 f_places) : FnT P w K mg base 2 "need_place" 2 f_need_place := by
  have S := sc_need_place
  refine FnT.of F hm b (fnD (k := 1) [] F sc_need_place (by decide) fun cdv A outer s H E hr => ?_)
  exact dss_one (ds_if (dt_bool (dw_or (dt_not (dt_val (de_callT h_is_name (hr.mono (by decide)) (by rfl) (dm_val (de_name (pv 1)) (dm_nil))))) (dw_or1 (dt_cmpl op_ni' (R2S.up r_ni) (pv 1) (de_callT h_places (hr.mono (by decide)) (by rfl) (dm_val (de_name (pv 0)) (dm_nil))) (by rfl)))))
      (dss_one (ds_never))
      (dss_nil))
theorem ok_made_by (F : Fun K "made_by" "made_by" st_made_by f fd) (hm : mg "made_by" = some (.ref f)) (b : Binds K fd ["web", "weak", "place", "strength", "shut"] []) (T : Txt K mg)  : FnT P w K mg base 1 "made_by" 5 f_made_by := by
  have S := sc_made_by
  refine FnT.of F hm b (fnD (k := 0) [] F sc_made_by (by decide) fun cdv A outer s H E hr => ?_)
  exact dss_cons (ds_set (by decide) S.nd rfl (Or.inl rfl) (de_lst (k := 0) (da_nil)))
      (dss_cons (ds_for (by decide) PassesOwn.never rfl (di_enum (by rfl) T.b_enumerate (de_name (pv 0))) (dg_tup rfl (dgs_cons (dg_name S.nd rfl (Or.inl rfl)) (dgs_cons (dg_name S.nd rfl (Or.inl rfl)) (dgs_nil))))
      (dss_one (ds_if (dt_bool (dw_and (dt_cmpq (op_eqD (hu64 hr)) r_eq (dq_ix (dq_name (pv 7)) (dq_int)) (dq_name (pv 2)) (by rfl)) (dw_and1 (dt_cmpq op_ni' r_ni (dq_name (pv 6)) (dq_name (pv 4)) (by rfl)))))
      (dss_cons (ds_set (by decide) S.nd rfl (Or.inl rfl) (de_q (dq_op op_fdiv r_fdiv (dq_op op_mul r_mulI (dq_name (pv 3)) (dq_ix (dq_name (pv 7)) (dq_int))) (dq_ix (dq_name (pv 7)) (dq_int)))))
      (dss_one (ds_if (dt_cmpq op_ge r_geI (dq_name (pv 8)) (dq_name (pv 1)) (by rfl))
      (dss_one (ds_append (de_tup (da_cons (de_name (pv 6)) (da_cons (de_name (pv 8)) (da_nil)))) (pv 5)))
      (dss_nil))))
      (dss_nil))))
      (dss_one (ds_ret (de_move (pv 5)))))
theorem ok_all_ticks (F : Fun K "all_ticks" "all_ticks" st_all_ticks f fd) (hm : mg "all_ticks" = some (.ref f)) (b : Binds K fd ["web", "weak", "letters"] []) (T : Txt K mg) (h_made_by : FnT P w K mg base 1 "made_by" 5 f_made_by) : FnT P w K mg base 2 "all_ticks" 3 f_all_ticks := by
  have S := sc_all_ticks
  refine FnT.of F hm b (fnD (k := 1) [] F sc_all_ticks (by decide) fun cdv A outer s H E hr => ?_)
  exact dss_cons (ds_set (by decide) S.nd rfl (Or.inl rfl) (de_newK))
      (dss_cons (ds_for (by decide) PassesOwn.never rfl (di_seq (de_name (pv 2))) (dg_tup rfl (dgs_cons (dg_name S.nd rfl (Or.inl rfl)) (dgs_cons (dg_name S.nd rfl (Or.inl rfl)) (dgs_cons (dg_name S.nd rfl (Or.inl rfl)) (dgs_nil)))))
      (dss_bor (i := 3) (r := 7) (by decide) S.nd rfl (Or.inl rfl) (pv 3) (dq_name (pv 5)) (dq_name (pv 4)) (ds_put (hu_of hr) (de_q (dq_op op_addS r_addS (dq_dgetq (hu_of hr) (dq_name (pv 7)) (dq_int) (dq_int)) (dq_name (pv 6)))) (pv 7) (de_q (dq_int)))
      (dss_nil)))
      (dss_cons (ds_for (by decide) PassesOwn.never rfl (di_range3 (by rfl) T.b_range (da_cons (de_b1 (cr_max rfl) (R1S.up r_max) (by rfl) T.b_max boot_max (de_op op_add' r_add (de_comp (own := [("letter", 13)]) (by decide) rfl S.nd (L2.PI.lk (di_seq (de_name (pv 2)))) (blkOk_by (own := [("letter", 13)]) (N := N_all_ticks) (sc := defScope st_all_ticks) (by decide +kernel)) (fun _ _ _ _ _ => dg_name S.nd rfl (Or.inl rfl)) (fun _ _ _ _ _ => dts_nil) (fun _ _ _ _ _ => de_q (dq_ix (dq_name (pv 13)) (dq_int)))) (de_lst (k := 0) (da_cons (de_q (dq_int)) (da_nil))))) (da_cons (de_q (dq_int)) (da_cons (de_q (dq_un un_neg r_neg (dq_int))) (da_nil))))) (dg_name S.nd rfl (Or.inl rfl))
      (dss_one (ds_for (by decide) PassesOwn.never rfl (di_seq (de_listGetF rfl (hu_of hr) (pv 3) (dq_name (pv 5)) (by rfl) T.b_list boot_list)) (dg_tup rfl (dgs_cons (dg_name S.nd rfl (Or.inl rfl)) (dgs_cons (dg_name S.nd rfl (Or.inl rfl)) (dgs_nil))))
      (dss_one (ds_for (by decide) PassesOwn.never rfl (di_seq (de_callT h_made_by (hr.mono (by decide)) (by rfl) (dm_val (de_name (pv 0)) (dm_val (de_name (pv 1)) (dm_val (de_name (pv 4)) (dm_val (de_name (pv 5)) (dm_val (de_tup (da_nil)) (dm_nil)))))))) (dg_tup rfl (dgs_cons (dg_name S.nd rfl (Or.inl rfl)) (dgs_cons (dg_name S.nd rfl (Or.inl rfl)) (dgs_nil))))
      (dss_bor (i := 3) (r := 7) (by decide) S.nd rfl (Or.inl rfl) (pv 3) (dq_name (pv 10)) (dq_ix (dq_ix (dq_name (pv 0)) (dq_name (pv 9))) (dq_int)) (ds_forD (by decide) PassesOwn.never rfl (di_items (de_name (pv 8))) (dg_tup rfl (dgs_cons (dg_name S.nd rfl (Or.inl rfl)) (dgs_cons (dg_name S.nd rfl (Or.inl rfl)) (dgs_nil))))
      (dss_cons (ds_set (by decide) S.nd rfl (Or.inl rfl) (de_q (dq_op op_addS r_addS (dq_name (pv 11)) (dq_ix (dq_ix (dq_name (pv 0)) (dq_name (pv 9))) (dq_int)))))
      (dss_one (ds_put (hu_of hr) (de_q (dq_op op_addS r_addS (dq_dgetq (hu_of hr) (dq_name (pv 7)) (dq_name (pv 12)) (dq_int)) (dq_name (pv 6)))) (pv 7) (de_name (pv 12))))))
      (dss_nil)))))))
      (dss_one (ds_ret (de_move (pv 3))))))
theorem ok_ticks_of (F : Fun K "ticks_of" "ticks_of" st_ticks_of f fd) (hm : mg "ticks_of" = some (.ref f)) (b : Binds K fd ["web", "weak", "letters", "place"] []) (T : Txt K mg) (h_need_place : FnT P w K mg base 2 "need_place" 2 f_need_place) (h_all_ticks : FnT P w K mg base 2 "all_ticks" 3 f_all_ticks) : FnT P w K mg base 3 "ticks_of" 4 f_ticks_of := by
  have S := sc_ticks_of
  refine FnT.of F hm b (fnD (k := 2) [] F sc_ticks_of (by decide) fun cdv A outer s H E hr => ?_)
  exact dss_cons (ds_expr (de_callT h_need_place (hr.mono (by decide)) (by rfl) (dm_val (de_name (pv 0)) (dm_val (de_name (pv 3)) (dm_nil)))))
      (dss_cons (ds_set (by decide) S.nd rfl (Or.inl rfl) (de_newK))
      (dss_cons (ds_forD (by decide) PassesOwn.never rfl (di_vals (de_callT h_all_ticks (hr.mono (by decide)) (by rfl) (dm_val (de_name (pv 0)) (dm_val (de_name (pv 1)) (dm_val (de_name (pv 2)) (dm_nil)))))) (dg_name S.nd rfl (Or.inl rfl))
      (dss_one (ds_forD (by decide) PassesOwn.never rfl (di_items (de_getE (hu_of hr) (dq_name (pv 5)) (dq_name (pv 3)))) (dg_tup rfl (dgs_cons (dg_name S.nd rfl (Or.inl rfl)) (dgs_cons (dg_name S.nd rfl (Or.inl rfl)) (dgs_nil))))
      (dss_one (ds_put (hu_of hr) (de_q (dq_op op_addS r_addS (dq_dgetq (hu_of hr) (dq_name (pv 4)) (dq_name (pv 6)) (dq_int)) (dq_name (pv 7)))) (pv 4) (de_name (pv 6)))))))
      (dss_one (ds_ret (de_sortIt rfl (hu64 hr) (dq_name (pv 4)) (by rfl) T.b_sorted)))))
theorem ok_last_tick (F : Fun K "last_tick" "last_tick" st_last_tick f fd) (hm : mg "last_tick" = some (.ref f)) (b : Binds K fd ["web", "weak", "letters"] []) (T : Txt K mg) (h_all_ticks : FnT P w K mg base 2 "all_ticks" 3 f_all_ticks) : FnT P w K mg base 3 "last_tick" 3 f_last_tick := by
  have S := sc_last_tick
  refine FnT.of F hm b (fnD (k := 2) [] F sc_last_tick (by decide) fun cdv A outer s H E hr => ?_)
  exact dss_cons (ds_if (dt_cmpl (op_eqD (hu64 hr)) (R2S.up r_eq) (pv 2) (de_lst (k := 0) (da_nil)) (by rfl))
      (dss_one (ds_ret (de_q (dq_non))))
      (dss_nil))
      (dss_one (ds_ret (de_b1 (cr_max rfl) (R1S.up r_max) (by rfl) T.b_max boot_max (de_comp2 (own := [("row", 3), ("ticks", 4)]) (vs1 := [4]) (by decide) (by decide) (by decide) rfl S.nd (di_vals (de_callT h_all_ticks (hr.mono (by decide)) (by rfl) (dm_val (de_name (pv 0)) (dm_val (de_name (pv 1)) (dm_val (de_name (pv 2)) (dm_nil)))))) (blkOk_by (own := [("row", 3), ("ticks", 4)]) (N := N_last_tick) (sc := defScope st_last_tick) (by decide +kernel)) (fun _ _ _ _ _ => dg_name S.nd rfl (Or.inl rfl)) (fun _ _ _ _ _ => dts_nil) (fun _ _ _ _ _ => di_vals (de_name (pv 3))) (fun _ _ _ _ _ => dg_name S.nd rfl (Or.inl rfl)) (fun _ _ _ _ _ => dts_nil) (fun _ _ _ _ _ => de_b1q (cr_maxK rfl (hu64 hr)) (R1S.up r_maxK) (by rfl) T.b_max boot_max (dq_name (pv 4)))))))
theorem ok__law_bag (F : Fun K "_law_bag" "_law_bag" st__law_bag f fd) (hm : mg "_law_bag" = some (.ref f)) (b : Binds K fd ["script", "k"] []) (T : Txt K mg)  : FnT P w K mg base 1 "_law_bag" 2 f__law_bag := by
  have S := sc__law_bag
  refine FnT.of F hm b (fnD (k := 0) [0] F sc__law_bag (by decide) fun cdv A outer s H E hr => ?_)
  exact dss_cons (ds_set (by decide) S.nd rfl (Or.inl rfl) (de_q (dq_int)))
      (dss_cons (ds_if (dt_cmpq op_lt r_ltI (dq_name (pv 1)) (dq_b1 call_len' r_len (by rfl) T.b_len boot_len (dq_name (pv 0))) (by rfl))
      (dss_one (ds_set (by decide) S.nd rfl (Or.inl rfl) (de_q (dq_b1 call_abs r_abs (by rfl) T.b_abs boot_abs (dq_ix (dq_name (pv 0)) (dq_name (pv 1)))))))
      (dss_nil))
      (dss_cons (ds_if (dt_cmpq op_lt r_ltI (dq_name (pv 2)) (dq_op op_pow r_pow (dq_int) (dq_int)) (by rfl))
      (dss_one (ds_ret (de_lst (k := 0) (da_cons (de_q (dq_int)) (da_cons (de_q (dq_op op_addS r_addS (dq_int) (dq_op op_mod r_mod (dq_op op_addS r_addS (dq_op op_mul r_mulI (dq_name (pv 2)) (dq_int)) (dq_op op_mul r_mulI (dq_int) (dq_name (pv 1)))) (dq_int)))) (da_nil))))))
      (dss_nil))
      (dss_one (ds_ret (de_lst (k := 0) (da_cons (de_name (pv 2)) (da_cons (de_q (dq_op op_addS r_addS (dq_int) (dq_op op_mod r_mod (dq_op op_addS r_addS (dq_name (pv 2)) (dq_name (pv 1))) (dq_int)))) (da_nil))))))))
theorem ok__law_take (F : Fun K "_law_take" "_law_take" st__law_take f fd) (hm : mg "_law_take" = some (.ref f)) (b : Binds K fd ["bag", "many"] []) (T : Txt K mg)  : FnT P w K mg base 1 "_law_take" 2 f__law_take := by
  have S := sc__law_take
  refine FnT.of F hm b (fnD (k := 0) [0] F sc__law_take (by decide) fun cdv A outer s H E hr => ?_)
  exact dss_cons (ds_if (dt_cmpq op_gt r_gtI (dq_ix (dq_name (pv 0)) (dq_int)) (dq_int) (by rfl))
      (dss_cons (ds_set (by decide) S.nd rfl (Or.inl rfl) (de_q (dq_op op_mod r_mod (dq_ix (dq_name (pv 0)) (dq_int)) (dq_name (pv 1)))))
      (dss_cons (ds_put (hu_of hr) (de_q (dq_op op_fdiv r_fdiv (dq_ix (dq_name (pv 0)) (dq_int)) (dq_name (pv 1)))) (pv 0) (de_q (dq_int)))
      (dss_one (ds_ret (de_move (pv 2))))))
      (dss_nil))
      (dss_cons (ds_put (hu_of hr) (de_q (dq_op op_mod r_mod (dq_op op_mul r_mulI (dq_ix (dq_name (pv 0)) (dq_int)) (dq_int)) (dq_int))) (pv 0) (de_q (dq_int)))
      (dss_one (ds_ret (de_q (dq_op op_mod r_mod (dq_op op_fdiv r_fdiv (dq_op op_mod r_mod (dq_op op_mul r_mulI (dq_ix (dq_name (pv 0)) (dq_int)) (dq_ix (dq_name (pv 0)) (dq_int))) (dq_int)) (dq_int)) (dq_name (pv 1)))))))
theorem ok__law_of (F : Fun K "_law_of" "_law_of" st__law_of f fd) (hm : mg "_law_of" = some (.ref f)) (b : Binds K fd ["bag", "some"] []) (T : Txt K mg) (h__law_take : FnT P w K mg base 1 "_law_take" 2 f__law_take) : FnT P w K mg base 2 "_law_of" 2 f__law_of := by
  have S := sc__law_of
  refine FnT.of F hm b (fnD (k := 1) [0] F sc__law_of (by decide) fun cdv A outer s H E hr => ?_)
  exact dss_one (ds_ret (de_ixl (pv 1) (de_callT h__law_take (hr.mono (by decide)) (by rfl) (dm_ref (pv 0) (dm_val (de_q (dq_b1 call_len' r_len (by rfl) T.b_len boot_len (dq_name (pv 1)))) (dm_nil))))))
theorem ok__law_web (F : Fun K "_law_web" "_law_web" st__law_web f fd) (hm : mg "_law_web" = some (.ref f)) (b : Binds K fd ["bag", "most"] []) (T : Txt K mg) (h__law_take : FnT P w K mg base 1 "_law_take" 2 f__law_take) (h__law_of : FnT P w K mg base 2 "_law_of" 2 f__law_of) : FnT P w K mg base 3 "_law_web" 2 f__law_web := by
  have S := sc__law_web
  refine FnT.of F hm b (fnD (k := 2) [0] F sc__law_web (by decide) fun cdv A outer s H E hr => ?_)
  exact dss_cons (ds_set (by decide) S.nd rfl (Or.inl rfl) (de_slice (de_lst (k := 0) (da_cons (de_q (dq_str)) (da_cons (de_q (dq_str)) (da_cons (de_q (dq_str)) (da_cons (de_q (dq_str)) (da_cons (de_q (dq_str)) (da_nil))))))) (do_none) (do_some (de_op op_addS (R2S.up r_addS) (de_q (dq_int)) (de_callT h__law_take (hr.mono (by decide)) (by rfl) (dm_ref (pv 0) (dm_val (de_q (dq_int)) (dm_nil))))))))
      (dss_cons (ds_set (by decide) S.nd rfl (Or.inl rfl) (de_newT))
      (dss_cons (ds_for (by decide) PassesOwn.never rfl (di_range1 (by rfl) T.b_range (da_cons (de_op op_addS (R2S.up r_addS) (de_q (dq_int)) (de_callT h__law_take (hr.mono (by decide)) (by rfl) (dm_ref (pv 0) (dm_val (de_name (pv 1)) (dm_nil))))) (da_nil))) (dg_name S.nd rfl (Or.inl rfl))
      (dss_cons (ds_set (by decide) S.nd rfl (Or.inl rfl) (de_ix (de_lst (k := 0) (da_cons (de_q (dq_int)) (da_cons (de_q (dq_int)) (da_cons (de_q (dq_int)) (da_cons (de_q (dq_int)) (da_nil)))))) (de_callT h__law_take (hr.mono (by decide)) (by rfl) (dm_ref (pv 0) (dm_val (de_q (dq_int)) (dm_nil))))))
      (dss_cons (ds_set (by decide) S.nd rfl (Or.inl rfl) (de_op op_addS (R2S.up r_addS) (de_q (dq_int)) (de_callT h__law_take (hr.mono (by decide)) (by rfl) (dm_ref (pv 0) (dm_val (de_q (dq_op op_sub r_sub (dq_name (pv 5)) (dq_int))) (dm_nil))))))
      (dss_cons (ds_set (by decide) S.nd rfl (Or.inl rfl) (de_op op_addS (R2S.up r_addS) (de_q (dq_int)) (de_callT h__law_take (hr.mono (by decide)) (by rfl) (dm_ref (pv 0) (dm_val (de_ix (de_lst (k := 0) (da_cons (de_q (dq_int)) (da_cons (de_q (dq_int)) (da_nil)))) (de_callT h__law_take (hr.mono (by decide)) (by rfl) (dm_ref (pv 0) (dm_val (de_q (dq_int)) (dm_nil))))) (dm_nil))))))
      (dss_one (ds_put (hu_of hr) (de_q (dq_bl)) (pv 3) (de_tup (da_cons (de_callT h__law_of (hr.mono (by decide)) (by rfl) (dm_ref (pv 0) (dm_val (de_name (pv 2)) (dm_nil)))) (da_cons (de_callT h__law_of (hr.mono (by decide)) (by rfl) (dm_ref (pv 0) (dm_val (de_name (pv 2)) (dm_nil)))) (da_cons (de_name (pv 6)) (da_cons (de_name (pv 5)) (da_cons (de_name (pv 7)) (da_nil)))))))))))))
      (dss_one (ds_ret (de_t1 call_tuple_of r_tuple (by rfl) T.b_tuple boot_tuple (de_b1q (call_sortK rfl (hu64 hr)) r_sortK (by rfl) T.b_sorted boot_sorted (dq_name (pv 3))))))))
theorem ok__law_places (F : Fun K "_law_places" "_law_places" st__law_places f fd) (hm : mg "_law_places" = some (.ref f)) (b : Binds K fd ["web"] []) (T : Txt K mg)  : FnT P w K mg base 1 "_law_places" 1 f__law_places := by
  have S := sc__law_places
  refine FnT.of F hm b (fnD (k := 0) [] F sc__law_places (by decide) fun cdv A outer s H E hr => ?_)
  exact dss_one (ds_ret (de_sortSet rfl (hu64 hr) (by rfl) T.b_sorted (by rfl) T.b_set (de_op op_add' r_add (de_comp (own := [("way", 1)]) (by decide) rfl S.nd (L2.PI.lk (di_seq (de_name (pv 0)))) (blkOk_by (own := [("way", 1)]) (N := N__law_places) (sc := defScope st__law_places) (by decide +kernel)) (fun _ _ _ _ _ => dg_name S.nd rfl (Or.inl rfl)) (fun _ _ _ _ _ => dts_nil) (fun _ _ _ _ _ => de_q (dq_ix (dq_name (pv 1)) (dq_int)))) (de_comp (own := [("way", 1)]) (by decide) rfl S.nd (L2.PI.lk (di_seq (de_name (pv 0)))) (blkOk_by (own := [("way", 1)]) (N := N__law_places) (sc := defScope st__law_places) (by decide +kernel)) (fun _ _ _ _ _ => dg_name S.nd rfl (Or.inl rfl)) (fun _ _ _ _ _ => dts_nil) (fun _ _ _ _ _ => de_q (dq_ix (dq_name (pv 1)) (dq_int)))))))
theorem ok__law_weak (F : Fun K "_law_weak" "_law_weak" st__law_weak f fd) (hm : mg "_law_weak" = some (.ref f)) (b : Binds K fd ["bag"] []) (T : Txt K mg) (h__law_take : FnT P w K mg base 1 "_law_take" 2 f__law_take) : FnT P w K mg base 2 "_law_weak" 1 f__law_weak := by
  have S := sc__law_weak
  refine FnT.of F hm b (fnD (k := 1) [0] F sc__law_weak (by decide) fun cdv A outer s H E hr => ?_)
  exact dss_one (ds_ret (de_ix (de_lst (k := 0) (da_cons (de_q (dq_int)) (da_cons (de_op op_addS (R2S.up r_addS) (de_q (dq_int)) (de_callT h__law_take (hr.mono (by decide)) (by rfl) (dm_ref (pv 0) (dm_val (de_q (dq_int)) (dm_nil))))) (da_cons (de_op op_addS (R2S.up r_addS) (de_q (dq_int)) (de_callT h__law_take (hr.mono (by decide)) (by rfl) (dm_ref (pv 0) (dm_val (de_q (dq_int)) (dm_nil))))) (da_nil))))) (de_callT h__law_take (hr.mono (by decide)) (by rfl) (dm_ref (pv 0) (dm_val (de_q (dq_int)) (dm_nil))))))
theorem ok__law_letters (F : Fun K "_law_letters" "_law_letters" st__law_letters f fd) (hm : mg "_law_letters" = some (.ref f)) (b : Binds K fd ["bag", "web", "most", "strongest"] []) (T : Txt K mg) (h__law_take : FnT P w K mg base 1 "_law_take" 2 f__law_take) (h__law_of : FnT P w K mg base 2 "_law_of" 2 f__law_of) (h__law_places : FnT P w K mg base 1 "_law_places" 1 f__law_places) : FnT P w K mg base 3 "_law_letters" 4 f__law_letters := by
  have S := sc__law_letters
  refine FnT.of F hm b (fnD (k := 2) [0] F sc__law_letters (by decide) fun cdv A outer s H E hr => ?_)
  exact dss_cons (ds_set (by decide) S.nd rfl (Or.inl rfl) (de_lst (k := 0) (da_nil)))
      (dss_cons (ds_for (by decide) PassesOwn.never rfl (di_range1 (by rfl) T.b_range (da_cons (de_callT h__law_take (hr.mono (by decide)) (by rfl) (dm_ref (pv 0) (dm_val (de_q (dq_op op_addS r_addS (dq_name (pv 2)) (dq_int))) (dm_nil)))) (da_nil))) (dg_name S.nd rfl (Or.inl rfl))
      (dss_cons (ds_set (by decide) S.nd rfl (Or.inl rfl) (de_ix (de_lst (k := 0) (da_cons (de_q (dq_int)) (da_cons (de_op op_addS (R2S.up r_addS) (de_q (dq_int)) (de_callT h__law_take (hr.mono (by decide)) (by rfl) (dm_ref (pv 0) (dm_val (de_q (dq_int)) (dm_nil))))) (da_cons (de_op op_addS (R2S.up r_addS) (de_q (dq_int)) (de_callT h__law_take (hr.mono (by decide)) (by rfl) (dm_ref (pv 0) (dm_val (de_q (dq_int)) (dm_nil))))) (da_nil))))) (de_callT h__law_take (hr.mono (by decide)) (by rfl) (dm_ref (pv 0) (dm_val (de_q (dq_int)) (dm_nil))))))
      (dss_one (ds_append (de_tup (da_cons (de_callT h__law_of (hr.mono (by decide)) (by rfl) (dm_ref (pv 0) (dm_val (de_callT h__law_places (hr.mono (by decide)) (by rfl) (dm_val (de_name (pv 1)) (dm_nil))) (dm_nil)))) (da_cons (de_op op_addS (R2S.up r_addS) (de_q (dq_int)) (de_callT h__law_take (hr.mono (by decide)) (by rfl) (dm_ref (pv 0) (dm_val (de_name (pv 3)) (dm_nil))))) (da_cons (de_name (pv 6)) (da_nil))))) (pv 4)))))
      (dss_one (ds_ret (de_move (pv 4)))))
theorem ok__law_made (F : Fun K "_law_made" "_law_made" st__law_made f fd) (hm : mg "_law_made" = some (.ref f)) (b : Binds K fd ["web", "weak", "place", "strength", "shut"] []) (T : Txt K mg)  : FnT P w K mg base 1 "_law_made" 5 f__law_made := by
  have S := sc__law_made
  refine FnT.of F hm b (fnD (k := 0) [] F sc__law_made (by decide) fun cdv A outer s H E hr => ?_)
  exact dss_cons (ds_set (by decide) S.nd rfl (Or.inl rfl) (de_lst (k := 0) (da_nil)))
      (dss_cons (ds_for (by decide) PassesOwn.never rfl (di_range1 (by rfl) T.b_range (da_cons (de_q (dq_b1 call_len' r_len (by rfl) T.b_len boot_len (dq_name (pv 0)))) (da_nil))) (dg_name S.nd rfl (Or.inl rfl))
      (dss_cons (ds_asgT (by decide) (de_q (dq_ix (dq_name (pv 0)) (dq_name (pv 6)))) (dg_tup rfl (dgs_cons (dg_name S.nd rfl (Or.inl rfl)) (dgs_cons (dg_name S.nd rfl (Or.inl rfl)) (dgs_cons (dg_name S.nd rfl (Or.inl rfl)) (dgs_cons (dg_name S.nd rfl (Or.inl rfl)) (dgs_cons (dg_name S.nd rfl (Or.inl rfl)) (dgs_nil))))))))
      (dss_cons (ds_set (by decide) S.nd rfl (Or.inl rfl) (de_q (dq_op op_fdiv r_fdiv (dq_op op_mul r_mulI (dq_name (pv 3)) (dq_name (pv 9))) (dq_name (pv 10)))))
      (dss_one (ds_if (dt_bool (dw_and (dt_cmpq (op_eqD (hu64 hr)) r_eq (dq_name (pv 7)) (dq_name (pv 2)) (by rfl)) (dw_and (dt_cmpq op_ni' r_ni (dq_name (pv 6)) (dq_name (pv 4)) (by rfl)) (dw_and1 (dt_cmpq op_ge r_geI (dq_name (pv 12)) (dq_name (pv 1)) (by rfl))))))
      (dss_one (ds_append (de_tup (da_cons (de_name (pv 6)) (da_cons (de_name (pv 12)) (da_nil)))) (pv 5)))
      (dss_nil))))))
      (dss_one (ds_ret (de_move (pv 5)))))
theorem ok__law_ticks (F : Fun K "_law_ticks" "_law_ticks" st__law_ticks f fd) (hm : mg "_law_ticks" = some (.ref f)) (b : Binds K fd ["web", "weak", "letters"] []) (T : Txt K mg) (h__law_made : FnT P w K mg base 1 "_law_made" 5 f__law_made) : FnT P w K mg base 2 "_law_ticks" 3 f__law_ticks := by
  have S := sc__law_ticks
  refine FnT.of F hm b (fnD (k := 1) [] F sc__law_ticks (by decide) fun cdv A outer s H E hr => ?_)
  exact dss_cons (ds_setComp (own := [("turn", 11)]) (by decide) (by decide) rfl S.nd rfl rfl (by rfl) (L2.PI.lk (di_range1 (by rfl) T.b_range (da_cons (de_opeq op_addS (R2S.up r_addS) (de_b1 (cr_max rfl) (R1S.up r_max) (by rfl) T.b_max boot_max (de_op op_add' r_add (de_comp (own := [("letter", 12)]) (by decide) rfl S.nd (L2.PI.lk (di_seq (de_name (pv 2)))) (blkOk_by (own := [("letter", 12)]) (N := N__law_ticks) (sc := defScope st__law_ticks) (by decide +kernel)) (fun _ _ _ _ _ => dg_name S.nd rfl (Or.inl rfl)) (fun _ _ _ _ _ => dts_nil) (fun _ _ _ _ _ => de_q (dq_ix (dq_name (pv 12)) (dq_int)))) (de_lst (k := 0) (da_cons (de_q (dq_int)) (da_nil))))) (dq_int)) (da_nil)))) (blkOk_by (own := [("turn", 11)]) (N := N__law_ticks) (sc := defScope st__law_ticks) (by decide +kernel)) (fun _ _ _ _ _ => dg_name S.nd rfl (Or.inl rfl)) (fun _ _ _ _ _ => dts_nil) (fun _ _ _ _ _ => de_newT))
      (dss_cons (ds_for (by decide) PassesOwn.never rfl (di_seq (de_name (pv 2))) (dg_tup rfl (dgs_cons (dg_name S.nd rfl (Or.inl rfl)) (dgs_cons (dg_name S.nd rfl (Or.inl rfl)) (dgs_cons (dg_name S.nd rfl (Or.inl rfl)) (dgs_nil)))))
      (dss_one (ds_putK (hu_of hr) (de_opeq op_addS (R2S.up r_addS) (de_getK (hu_of hr) (dq_p (dp_lix (dp_name (pv 3)) (dq_name (pv 5)))) (dky_tup (dqs_cons (dq_name (pv 4)) (dqs_cons (dq_int) (dqs_nil)))) (dq_int)) (dq_name (pv 6))) (dph_lix (dph_name (pv 3)) (dq_name (pv 5))) (dky_tup (dqs_cons (dq_name (pv 4)) (dqs_cons (dq_int) (dqs_nil)))))))
      (dss_cons (ds_for (by decide) PassesOwn.never rfl (di_range3 (by rfl) T.b_range (da_cons (de_q (dq_op op_sub r_sub (dq_b1 call_len' r_len (by rfl) T.b_len boot_len (dq_name (pv 3))) (dq_int))) (da_cons (de_q (dq_int)) (da_cons (de_q (dq_un un_neg r_neg (dq_int))) (da_nil))))) (dg_name S.nd rfl (Or.inl rfl))
      (dss_one (ds_for (by decide) PassesOwn.never rfl (di_seq (de_b1q (call_sortK rfl (hu64 hr)) r_sortK (by rfl) T.b_sorted boot_sorted (dq_p (dp_lix (dp_name (pv 3)) (dq_name (pv 5)))))) (dg_tup rfl (dgs_cons (dg_name S.nd rfl (Or.inl rfl)) (dgs_cons (dg_name S.nd rfl (Or.inl rfl)) (dgs_nil))))
      (dss_one (ds_for (by decide) PassesOwn.never rfl (di_seq (de_callT h__law_made (hr.mono (by decide)) (by rfl) (dm_val (de_name (pv 0)) (dm_val (de_name (pv 1)) (dm_val (de_name (pv 4)) (dm_val (de_name (pv 5)) (dm_val (de_tup (da_nil)) (dm_nil)))))))) (dg_tup rfl (dgs_cons (dg_name S.nd rfl (Or.inl rfl)) (dgs_cons (dg_name S.nd rfl (Or.inl rfl)) (dgs_nil))))
      (dss_cons (ds_set (by decide) S.nd rfl (Or.inl rfl) (de_tup (da_cons (de_q (dq_ix (dq_ix (dq_name (pv 0)) (dq_name (pv 8))) (dq_int))) (da_cons (de_q (dq_op op_addS r_addS (dq_name (pv 7)) (dq_ix (dq_ix (dq_name (pv 0)) (dq_name (pv 8))) (dq_int)))) (da_nil)))))
      (dss_one (ds_putF (hu_of hr) (de_op op_addS (R2S.up r_addS) (de_q (dq_dgetq (hu_of hr) (dq_p (dp_lix (dp_name (pv 3)) (dq_name (pv 9)))) (dq_name (pv 10)) (dq_int))) (de_dixK (hu_of hr) (dq_p (dp_lix (dp_name (pv 3)) (dq_name (pv 5)))) (dky_tup (dqs_cons (dq_name (pv 4)) (dqs_cons (dq_name (pv 7)) (dqs_nil)))))) (dp_lix (dp_name (pv 3)) (dq_name (pv 9))) (dq_name (pv 10))))))))))
      (dss_one (ds_ret (de_move (pv 3))))))
theorem ok_law (F : Fun K "law" "law" st_law f fd) (T : Txt K mg) (h__law_bag : FnT P w K mg base 1 "_law_bag" 2 f__law_bag) (h__law_web : FnT P w K mg base 3 "_law_web" 2 f__law_web) (h__law_weak : FnT P w K mg base 2 "_law_weak" 1 f__law_weak) (h__law_letters : FnT P w K mg base 3 "_law_letters" 4 f__law_letters) (h__law_ticks : FnT P w K mg base 2 "_law_ticks" 3 f__law_ticks) (h__law_places : FnT P w K mg base 1 "_law_places" 1 f__law_places) (h_ticks_of : FnT P w K mg base 3 "ticks_of" 4 f_ticks_of) (h_last_tick : FnT P w K mg base 3 "last_tick" 3 f_last_tick) : FnOk P w K mg base CX0 4 f fd ["script"] (spD K mg 1 f_law) := by
  have S := sc_law
  refine fnD (k := 3) [0] F sc_law (by decide) fun cdv A outer s H E hr => ?_
  exact dss_cons (ds_for (by decide) PassesOwn.never rfl (di_range1 (by rfl) T.b_range (da_cons (de_q (dq_op op_addS r_addS (dq_int) (dq_b2 (call_min2 rfl) r_min2 (by rfl) T.b_min boot_min (dq_b1 call_len' r_len (by rfl) T.b_len boot_len (dq_name (pv 0))) (dq_int)))) (da_nil))) (dg_name S.nd rfl (Or.inl rfl))
      (dss_cons (ds_set (by decide) S.nd rfl (Or.inl rfl) (de_callT h__law_bag (hr.mono (by decide)) (by rfl) (dm_ref (pv 0) (dm_val (de_name (pv 1)) (dm_nil)))))
      (dss_cons (ds_par (by decide) (by decide) rfl S.nd rfl rfl (by decide) rfl rfl (de_callT h__law_web (hr.mono (by decide)) (by rfl) (dm_ref (pv 2) (dm_val (de_q (dq_int)) (dm_nil)))) (de_callT h__law_weak (hr.mono (by decide)) (by rfl) (dm_ref (pv 2) (dm_nil))))
      (dss_one (ds_for (by decide) PassesOwn.never rfl (di_seq (de_lst (k := 0) (da_cons (de_callT h__law_letters (hr.mono (by decide)) (by rfl) (dm_ref (pv 2) (dm_val (de_name (pv 3)) (dm_val (de_q (dq_int)) (dm_val (de_q (dq_int)) (dm_nil)))))) (da_cons (de_callT h__law_letters (hr.mono (by decide)) (by rfl) (dm_ref (pv 2) (dm_val (de_name (pv 3)) (dm_val (de_q (dq_int)) (dm_val (de_q (dq_int)) (dm_nil)))))) (da_nil))))) (dg_name S.nd rfl (Or.inl rfl))
      (dss_cons (ds_set (by decide) S.nd rfl (Or.inl rfl) (de_callT h__law_ticks (hr.mono (by decide)) (by rfl) (dm_val (de_name (pv 3)) (dm_val (de_name (pv 4)) (dm_val (de_name (pv 5)) (dm_nil))))))
      (dss_cons (ds_set (by decide) S.nd rfl (Or.inl rfl) (de_lst (k := 0) (da_nil)))
      (dss_cons (ds_set (by decide) S.nd rfl (Or.inr rfl) (de_newT))
      (dss_cons (ds_for (by decide) PassesOwn.never rfl (di_seq (de_name (pv 6))) (dg_name S.nd rfl (Or.inl rfl))
      (dss_one (ds_forD (by decide) PassesOwn.never rfl (di_keys (de_name (pv 9))) (dg_tup rfl (dgs_cons (dg_name S.nd rfl (Or.inr rfl)) (dgs_cons (dg_name S.nd rfl (Or.inl rfl)) (dgs_nil))))
      (dss_cons (ds_append (de_name (pv 11)) (pv 7))
      (dss_one (ds_put (hu_of hr) (de_op op_addS (R2S.up r_addS) (de_dgetl (hu_of hr) (pv 8) (de_tup (da_cons (de_name (pv 10)) (da_cons (de_name (pv 11)) (da_nil)))) (de_q (dq_int))) (de_dixl (hu_of hr) (pv 9) (de_tup (da_cons (de_name (pv 10)) (da_cons (de_name (pv 11)) (da_nil)))))) (pv 8) (de_tup (da_cons (de_name (pv 10)) (da_cons (de_name (pv 11)) (da_nil))))))))))
      (dss_cons (ds_for (by decide) PassesOwn.never rfl (di_seq (de_slice (de_callT h__law_places (hr.mono (by decide)) (by rfl) (dm_val (de_name (pv 3)) (dm_nil))) (do_none) (do_some (de_q (dq_int))))) (dg_name S.nd rfl (Or.inr rfl))
      (dss_cons (ds_set (by decide) S.nd rfl (Or.inl rfl) (de_b1 (call_sortD (hu64 hr)) r_sortL (by rfl) T.b_sorted boot_sorted (de_comp (own := [("spot", 13), ("tick", 11)]) (by decide) rfl S.nd (di_keys (de_name (pv 8))) (blkOk_by (own := [("spot", 13), ("tick", 11)]) (N := N_law) (sc := defScope st_law) (by decide +kernel)) (fun _ _ _ _ _ => dg_tup rfl (dgs_cons (dg_name S.nd rfl (Or.inl rfl)) (dgs_cons (dg_name S.nd rfl (Or.inl rfl)) (dgs_nil)))) (fun _ _ _ _ _ => dts_one (dt_cmpq (op_eqD (hu64 hr)) r_eq (dq_name (pv 13)) (dq_name (pv 10)) (by rfl))) (fun _ _ _ _ _ => de_tup (da_cons (de_name (pv 11)) (da_cons (de_dixl (hu_of hr) (pv 8) (de_tup (da_cons (de_name (pv 13)) (da_cons (de_name (pv 11)) (da_nil))))) (da_nil)))))))
      (dss_one (ds_if (dt_cmpeq (op_neD (hu64 hr)) (R2S.up r_ne) (de_callT h_ticks_of (hr.mono (by decide)) (by rfl) (dm_val (de_name (pv 3)) (dm_val (de_name (pv 4)) (dm_val (de_name (pv 5)) (dm_val (de_name (pv 10)) (dm_nil)))))) (dq_name (pv 12)) (by rfl))
      (dss_one (ds_ret (de_q (dq_bl))))
      (dss_nil)))))
      (dss_one (ds_if (dt_cmp (op_neD (hu64 hr)) (R2S.up r_ne) (de_callT h_last_tick (hr.mono (by decide)) (by rfl) (dm_val (de_name (pv 3)) (dm_val (de_name (pv 4)) (dm_val (de_name (pv 5)) (dm_nil))))) (de_if (dt_cmpl (op_neD (hu64 hr)) (R2S.up r_ne) (pv 5) (de_lst (k := 0) (da_nil)) (by rfl)) (de_b1q (cr_max rfl) (R1S.up r_max) (by rfl) T.b_max boot_max (dq_name (pv 7))) (de_q (dq_non))) (by rfl))
      (dss_one (ds_ret (de_q (dq_bl))))
      (dss_nil)))))))))))))
      (dss_one (ds_ret (de_cmpeq op_isN (R2S.up r_isN) (de_callT h_last_tick (hr.mono (by decide)) (by rfl) (dm_val (de_tup (da_cons (de_tup (da_cons (de_q (dq_str)) (da_cons (de_q (dq_str)) (da_cons (de_q (dq_int)) (da_cons (de_q (dq_int)) (da_cons (de_q (dq_int)) (da_nil))))))) (da_nil))) (dm_val (de_q (dq_int)) (dm_val (de_lst (k := 0) (da_nil)) (dm_nil))))) (dq_non) (by rfl))))
end
end G
namespace G
open PySem PySem.Spec PyProof.Rows L2

theorem all_mk {l : PySem.W.OpenLaw} {w : World} {K : PySem.W.Frag} {h : Heap} {mg : Str → Option Value} {fa f0 f1 f2 f3 f4 f5 f6 f7 f8 f9 f10 f11 f12 f13 f14 f15 f16 : Addr} (X : K.In h) (G : h.Ns mainGlobals mg) (hfa : mg "law" = some (.ref fa))
    {od0 an0 od1 an1 od2 an2 od3 an3 od4 an4 od5 an5 od6 an6 od7 an7 od8 an8 od9 an9 od10 an10 od11 an11 od12 an12 od13 an13 od14 an14 od15 an15 od16 an16 : Option Addr} {sl0 sl1 sl2 sl3 sl4 sl5 sl6 sl7 sl8 sl9 sl10 sl11 sl12 sl13 sl14 sl15 sl16 : Array (Option Value)} {oc0 kV0 dc0 pm0 cd0 ct0 oc1 kV1 dc1 pm1 cd1 ct1 oc2 kV2 dc2 pm2 cd2 ct2 oc3 kV3 dc3 pm3 cd3 ct3 oc4 kV4 dc4 pm4 cd4 ct4 oc5 kV5 dc5 pm5 cd5 ct5 oc6 kV6 dc6 pm6 cd6 ct6 oc7 kV7 dc7 pm7 cd7 ct7 oc8 kV8 dc8 pm8 cd8 ct8 oc9 kV9 dc9 pm9 cd9 ct9 oc10 kV10 dc10 pm10 cd10 ct10 oc11 kV11 dc11 pm11 cd11 ct11 oc12 kV12 dc12 pm12 cd12 ct12 oc13 kV13 dc13 pm13 cd13 ct13 oc14 kV14 dc14 pm14 cd14 ct14 oc15 kV15 dc15 pm15 cd15 ct15 oc16 kV16 dc16 pm16 cd16 ct16 : Value}
    {tk0 : Tok}
    (a0 : PySem.W.nsIn K mainGlobals "is_name" = some (some (.ref f0))) (l0 : K.lookup f0 = some ⟨oc0, od0, .func (PySem.W.fnOf "is_name" "is_name" (defArgs st_is_name) (defBody st_is_name) (defScope st_is_name) .none kV0 dc0 pm0 an0 cd0 ct0), sl0⟩) (c0 : PySem.W.codeIn K cd0 "is_name" = true) (k0 : PySem.W.keepIn K (.ref f0) = true)
    (a1 : PySem.W.nsIn K mainGlobals "places" = some (some (.ref f1))) (l1 : K.lookup f1 = some ⟨oc1, od1, .func (PySem.W.fnOf "places" "places" (defArgs st_places) (defBody st_places) (defScope st_places) .none kV1 dc1 pm1 an1 cd1 ct1), sl1⟩) (c1 : PySem.W.codeIn K cd1 "places" = true) (k1 : PySem.W.keepIn K (.ref f1) = true)
    (a2 : PySem.W.nsIn K mainGlobals "need_place" = some (some (.ref f2))) (l2 : K.lookup f2 = some ⟨oc2, od2, .func (PySem.W.fnOf "need_place" "need_place" (defArgs st_need_place) (defBody st_need_place) (defScope st_need_place) .none kV2 dc2 pm2 an2 cd2 ct2), sl2⟩) (c2 : PySem.W.codeIn K cd2 "need_place" = true) (k2 : PySem.W.keepIn K (.ref f2) = true)
    (a3 : PySem.W.nsIn K mainGlobals "made_by" = some (some (.ref f3))) (l3 : K.lookup f3 = some ⟨oc3, od3, .func (PySem.W.fnOf "made_by" "made_by" (defArgs st_made_by) (defBody st_made_by) (defScope st_made_by) .none kV3 dc3 pm3 an3 cd3 ct3), sl3⟩) (c3 : PySem.W.codeIn K cd3 "made_by" = true) (k3 : PySem.W.keepIn K (.ref f3) = true)
    (a4 : PySem.W.nsIn K mainGlobals "all_ticks" = some (some (.ref f4))) (l4 : K.lookup f4 = some ⟨oc4, od4, .func (PySem.W.fnOf "all_ticks" "all_ticks" (defArgs st_all_ticks) (defBody st_all_ticks) (defScope st_all_ticks) .none kV4 dc4 pm4 an4 cd4 ct4), sl4⟩) (c4 : PySem.W.codeIn K cd4 "all_ticks" = true) (k4 : PySem.W.keepIn K (.ref f4) = true)
    (a5 : PySem.W.nsIn K mainGlobals "ticks_of" = some (some (.ref f5))) (l5 : K.lookup f5 = some ⟨oc5, od5, .func (PySem.W.fnOf "ticks_of" "ticks_of" (defArgs st_ticks_of) (defBody st_ticks_of) (defScope st_ticks_of) .none kV5 dc5 pm5 an5 cd5 ct5), sl5⟩) (c5 : PySem.W.codeIn K cd5 "ticks_of" = true) (k5 : PySem.W.keepIn K (.ref f5) = true)
    (a6 : PySem.W.nsIn K mainGlobals "last_tick" = some (some (.ref f6))) (l6 : K.lookup f6 = some ⟨oc6, od6, .func (PySem.W.fnOf "last_tick" "last_tick" (defArgs st_last_tick) (defBody st_last_tick) (defScope st_last_tick) .none kV6 dc6 pm6 an6 cd6 ct6), sl6⟩) (c6 : PySem.W.codeIn K cd6 "last_tick" = true) (k6 : PySem.W.keepIn K (.ref f6) = true)
    (a7 : PySem.W.nsIn K mainGlobals "_law_bag" = some (some (.ref f7))) (l7 : K.lookup f7 = some ⟨oc7, od7, .func (PySem.W.fnOf "_law_bag" "_law_bag" (defArgs st__law_bag) (defBody st__law_bag) (defScope st__law_bag) .none kV7 dc7 pm7 an7 cd7 ct7), sl7⟩) (c7 : PySem.W.codeIn K cd7 "_law_bag" = true) (k7 : PySem.W.keepIn K (.ref f7) = true)
    (a8 : PySem.W.nsIn K mainGlobals "_law_take" = some (some (.ref f8))) (l8 : K.lookup f8 = some ⟨oc8, od8, .func (PySem.W.fnOf "_law_take" "_law_take" (defArgs st__law_take) (defBody st__law_take) (defScope st__law_take) .none kV8 dc8 pm8 an8 cd8 ct8), sl8⟩) (c8 : PySem.W.codeIn K cd8 "_law_take" = true) (k8 : PySem.W.keepIn K (.ref f8) = true)
    (a9 : PySem.W.nsIn K mainGlobals "_law_of" = some (some (.ref f9))) (l9 : K.lookup f9 = some ⟨oc9, od9, .func (PySem.W.fnOf "_law_of" "_law_of" (defArgs st__law_of) (defBody st__law_of) (defScope st__law_of) .none kV9 dc9 pm9 an9 cd9 ct9), sl9⟩) (c9 : PySem.W.codeIn K cd9 "_law_of" = true) (k9 : PySem.W.keepIn K (.ref f9) = true)
    (a10 : PySem.W.nsIn K mainGlobals "_law_web" = some (some (.ref f10))) (l10 : K.lookup f10 = some ⟨oc10, od10, .func (PySem.W.fnOf "_law_web" "_law_web" (defArgs st__law_web) (defBody st__law_web) (defScope st__law_web) .none kV10 dc10 pm10 an10 cd10 ct10), sl10⟩) (c10 : PySem.W.codeIn K cd10 "_law_web" = true) (k10 : PySem.W.keepIn K (.ref f10) = true)
    (a11 : PySem.W.nsIn K mainGlobals "_law_places" = some (some (.ref f11))) (l11 : K.lookup f11 = some ⟨oc11, od11, .func (PySem.W.fnOf "_law_places" "_law_places" (defArgs st__law_places) (defBody st__law_places) (defScope st__law_places) .none kV11 dc11 pm11 an11 cd11 ct11), sl11⟩) (c11 : PySem.W.codeIn K cd11 "_law_places" = true) (k11 : PySem.W.keepIn K (.ref f11) = true)
    (a12 : PySem.W.nsIn K mainGlobals "_law_weak" = some (some (.ref f12))) (l12 : K.lookup f12 = some ⟨oc12, od12, .func (PySem.W.fnOf "_law_weak" "_law_weak" (defArgs st__law_weak) (defBody st__law_weak) (defScope st__law_weak) .none kV12 dc12 pm12 an12 cd12 ct12), sl12⟩) (c12 : PySem.W.codeIn K cd12 "_law_weak" = true) (k12 : PySem.W.keepIn K (.ref f12) = true)
    (a13 : PySem.W.nsIn K mainGlobals "_law_letters" = some (some (.ref f13))) (l13 : K.lookup f13 = some ⟨oc13, od13, .func (PySem.W.fnOf "_law_letters" "_law_letters" (defArgs st__law_letters) (defBody st__law_letters) (defScope st__law_letters) .none kV13 dc13 pm13 an13 cd13 ct13), sl13⟩) (c13 : PySem.W.codeIn K cd13 "_law_letters" = true) (k13 : PySem.W.keepIn K (.ref f13) = true)
    (a14 : PySem.W.nsIn K mainGlobals "_law_made" = some (some (.ref f14))) (l14 : K.lookup f14 = some ⟨oc14, od14, .func (PySem.W.fnOf "_law_made" "_law_made" (defArgs st__law_made) (defBody st__law_made) (defScope st__law_made) .none kV14 dc14 pm14 an14 cd14 ct14), sl14⟩) (c14 : PySem.W.codeIn K cd14 "_law_made" = true) (k14 : PySem.W.keepIn K (.ref f14) = true)
    (a15 : PySem.W.nsIn K mainGlobals "_law_ticks" = some (some (.ref f15))) (l15 : K.lookup f15 = some ⟨oc15, od15, .func (PySem.W.fnOf "_law_ticks" "_law_ticks" (defArgs st__law_ticks) (defBody st__law_ticks) (defScope st__law_ticks) .none kV15 dc15 pm15 an15 cd15 ct15), sl15⟩) (c15 : PySem.W.codeIn K cd15 "_law_ticks" = true) (k15 : PySem.W.keepIn K (.ref f15) = true)
    (a16 : PySem.W.nsIn K mainGlobals "law" = some (some (.ref f16))) (l16 : K.lookup f16 = some ⟨oc16, od16, .func (PySem.W.fnOf "law" "law" (defArgs st_law) (defBody st_law) (defScope st_law) .none kV16 dc16 pm16 an16 cd16 ct16), sl16⟩) (c16 : PySem.W.codeIn K cd16 "law" = true) (k16 : PySem.W.keepIn K (.ref f16) = true)
    (z_isinstance : PySem.W.nsIn K mainGlobals "isinstance" = some none)
    (z_str : PySem.W.nsIn K mainGlobals "str" = some none)
    (z_len : PySem.W.nsIn K mainGlobals "len" = some none)
    (z_all : PySem.W.nsIn K mainGlobals "all" = some none)
    (z_sorted : PySem.W.nsIn K mainGlobals "sorted" = some none)
    (z_enumerate : PySem.W.nsIn K mainGlobals "enumerate" = some none)
    (z_range : PySem.W.nsIn K mainGlobals "range" = some none)
    (z_max : PySem.W.nsIn K mainGlobals "max" = some none)
    (z_list : PySem.W.nsIn K mainGlobals "list" = some none)
    (z_abs : PySem.W.nsIn K mainGlobals "abs" = some none)
    (z_tuple : PySem.W.nsIn K mainGlobals "tuple" = some none)
    (z_set : PySem.W.nsIn K mainGlobals "set" = some none)
    (z_min : PySem.W.nsIn K mainGlobals "min" = some none)
    (y_LETTERS : PySem.W.nsIn K mainGlobals "LETTERS" = some (some (.str "abcdefghijklmnopqrstuvwxyz" tk0)))
    : ∃ fd : FuncData, (∀ (s : Shared) (v : Value), BindsTo s fd ⟨[v], []⟩ [("script", v)]) ∧ ∀ base : Heap, K.In base → base.Ns mainGlobals mg → FnOk l.prog w K mg base CX0 4 fa fd ["script"] (spD K (fun _ => none) 1 f_law) := by
  have e := hfa.symm.trans (PySem.W.mg_of X G a16)
  cases e
  have T : Txt K mg := ⟨PySem.W.mg_none_of X G z_isinstance, PySem.W.mg_none_of X G z_str, PySem.W.mg_none_of X G z_len, PySem.W.mg_none_of X G z_all, PySem.W.mg_none_of X G z_sorted, PySem.W.mg_none_of X G z_enumerate, PySem.W.mg_none_of X G z_range, PySem.W.mg_none_of X G z_max, PySem.W.mg_none_of X G z_list, PySem.W.mg_none_of X G z_abs, PySem.W.mg_none_of X G z_tuple, PySem.W.mg_none_of X G z_set, PySem.W.mg_none_of X G z_min, ⟨_, PySem.W.mg_of X G y_LETTERS⟩⟩
  have F0 := fun_mk (st := st_is_name) l0 c0 k0
  have b0 := F0.binds (ps := ["thing"]) fun _ _ _ _ _ _ us hl => match us, hl with | [_], _ => rfl
  have F1 := fun_mk (st := st_places) l1 c1 k1
  have b1 := F1.binds (ps := ["web"]) fun _ _ _ _ _ _ us hl => match us, hl with | [_], _ => rfl
  have F2 := fun_mk (st := st_need_place) l2 c2 k2
  have b2 := F2.binds (ps := ["web", "name"]) fun _ _ _ _ _ _ us hl => match us, hl with | [_, _], _ => rfl
  have F3 := fun_mk (st := st_made_by) l3 c3 k3
  have b3 := F3.binds (ps := ["web", "weak", "place", "strength", "shut"]) fun _ _ _ _ _ _ us hl => match us, hl with | [_, _, _, _, _], _ => rfl
  have F4 := fun_mk (st := st_all_ticks) l4 c4 k4
  have b4 := F4.binds (ps := ["web", "weak", "letters"]) fun _ _ _ _ _ _ us hl => match us, hl with | [_, _, _], _ => rfl
  have F5 := fun_mk (st := st_ticks_of) l5 c5 k5
  have b5 := F5.binds (ps := ["web", "weak", "letters", "place"]) fun _ _ _ _ _ _ us hl => match us, hl with | [_, _, _, _], _ => rfl
  have F6 := fun_mk (st := st_last_tick) l6 c6 k6
  have b6 := F6.binds (ps := ["web", "weak", "letters"]) fun _ _ _ _ _ _ us hl => match us, hl with | [_, _, _], _ => rfl
  have F7 := fun_mk (st := st__law_bag) l7 c7 k7
  have b7 := F7.binds (ps := ["script", "k"]) fun _ _ _ _ _ _ us hl => match us, hl with | [_, _], _ => rfl
  have F8 := fun_mk (st := st__law_take) l8 c8 k8
  have b8 := F8.binds (ps := ["bag", "many"]) fun _ _ _ _ _ _ us hl => match us, hl with | [_, _], _ => rfl
  have F9 := fun_mk (st := st__law_of) l9 c9 k9
  have b9 := F9.binds (ps := ["bag", "some"]) fun _ _ _ _ _ _ us hl => match us, hl with | [_, _], _ => rfl
  have F10 := fun_mk (st := st__law_web) l10 c10 k10
  have b10 := F10.binds (ps := ["bag", "most"]) fun _ _ _ _ _ _ us hl => match us, hl with | [_, _], _ => rfl
  have F11 := fun_mk (st := st__law_places) l11 c11 k11
  have b11 := F11.binds (ps := ["web"]) fun _ _ _ _ _ _ us hl => match us, hl with | [_], _ => rfl
  have F12 := fun_mk (st := st__law_weak) l12 c12 k12
  have b12 := F12.binds (ps := ["bag"]) fun _ _ _ _ _ _ us hl => match us, hl with | [_], _ => rfl
  have F13 := fun_mk (st := st__law_letters) l13 c13 k13
  have b13 := F13.binds (ps := ["bag", "web", "most", "strongest"]) fun _ _ _ _ _ _ us hl => match us, hl with | [_, _, _, _], _ => rfl
  have F14 := fun_mk (st := st__law_made) l14 c14 k14
  have b14 := F14.binds (ps := ["web", "weak", "place", "strength", "shut"]) fun _ _ _ _ _ _ us hl => match us, hl with | [_, _, _, _, _], _ => rfl
  have F15 := fun_mk (st := st__law_ticks) l15 c15 k15
  have b15 := F15.binds (ps := ["web", "weak", "letters"]) fun _ _ _ _ _ _ us hl => match us, hl with | [_, _, _], _ => rfl
  have F16 := fun_mk (st := st_law) l16 c16 k16
  refine ⟨PySem.W.fnOf "law" "law" (defArgs st_law) (defBody st_law) (defScope st_law) .none kV16 dc16 pm16 an16 cd16 ct16, fun s v => .of_eq rfl, fun base _ _ => ?_⟩
  have h_is_name := ok_is_name (P := l.prog) (w := w) (base := base) F0 (PySem.W.mg_of X G a0) b0 T 
  have h_places := ok_places (P := l.prog) (w := w) (base := base) F1 (PySem.W.mg_of X G a1) b1 T 
  have h_need_place := ok_need_place (P := l.prog) (w := w) (base := base) F2 (PySem.W.mg_of X G a2) b2 T h_is_name h_places
  have h_made_by := ok_made_by (P := l.prog) (w := w) (base := base) F3 (PySem.W.mg_of X G a3) b3 T 
  have h_all_ticks := ok_all_ticks (P := l.prog) (w := w) (base := base) F4 (PySem.W.mg_of X G a4) b4 T h_made_by
  have h_ticks_of := ok_ticks_of (P := l.prog) (w := w) (base := base) F5 (PySem.W.mg_of X G a5) b5 T h_need_place h_all_ticks
  have h_last_tick := ok_last_tick (P := l.prog) (w := w) (base := base) F6 (PySem.W.mg_of X G a6) b6 T h_all_ticks
  have h__law_bag := ok__law_bag (P := l.prog) (w := w) (base := base) F7 (PySem.W.mg_of X G a7) b7 T 
  have h__law_take := ok__law_take (P := l.prog) (w := w) (base := base) F8 (PySem.W.mg_of X G a8) b8 T 
  have h__law_of := ok__law_of (P := l.prog) (w := w) (base := base) F9 (PySem.W.mg_of X G a9) b9 T h__law_take
  have h__law_web := ok__law_web (P := l.prog) (w := w) (base := base) F10 (PySem.W.mg_of X G a10) b10 T h__law_take h__law_of
  have h__law_places := ok__law_places (P := l.prog) (w := w) (base := base) F11 (PySem.W.mg_of X G a11) b11 T 
  have h__law_weak := ok__law_weak (P := l.prog) (w := w) (base := base) F12 (PySem.W.mg_of X G a12) b12 T h__law_take
  have h__law_letters := ok__law_letters (P := l.prog) (w := w) (base := base) F13 (PySem.W.mg_of X G a13) b13 T h__law_take h__law_of h__law_places
  have h__law_made := ok__law_made (P := l.prog) (w := w) (base := base) F14 (PySem.W.mg_of X G a14) b14 T 
  have h__law_ticks := ok__law_ticks (P := l.prog) (w := w) (base := base) F15 (PySem.W.mg_of X G a15) b15 T h__law_made
  exact ok_law F16 T h__law_bag h__law_web h__law_weak h__law_letters h__law_ticks h__law_places h_ticks_of h_last_tick
theorem walk {l : PySem.W.OpenLaw} {q : Program} {loose : List Str} {XP : (Str → Option Value) → Heap → Prop} {YP : World → Heap → Prop} {d : DefRec} {K : Params → PySem.W.Frag} (hn : l.most = some 63) (hdf : d.params.defaults = [])
    (hY : ∀ (w : World) (h : Heap), YP w h → (K w.params).In h)
    (F : ∀ (w : World) (mg : Str → Option Value) (fa : Addr) (h : Heap), (K w.params).In h → h.Ns mainGlobals mg → mg d.name = some (.ref fa) →
      ∃ fd : FuncData, (∀ (s : Shared) (u : Value), BindsTo s fd ⟨[u], []⟩ [("script", u)]) ∧ ∀ base : Heap, (K w.params).In base → base.Ns mainGlobals mg → FnOk l.prog w (K w.params) mg base CX0 4 fa fd ["script"] (spD (K w.params) (fun _ => none) 1 f_law)) :
    PySem.W.WalkO q loose XP YP l.row.toRowW d [] (fun f vs => PySem.call f vs) :=
  L2.walk_of (n := 63) (k := 4) (x := "script") (CX := fun _ => CX0) (sp := fun w => spD (K w.params) (fun _ => none) 1 f_law) hn (by decide) hdf ⟨rfl, by decide, by decide⟩ hY F (fun _ _ a ns hl _ hS => spD_start hS (law_true ns hl)) fun _ _ _ _ _ z => z
end G

open PySem PySem.W PyProof.Rows in
set_option maxRecDepth 100000 in
set_option maxHeartbeats 0 in
theorem PySem.Challenge.cw_breedpost_k05_when_letters_come_holds : PySem.Challenge.rw_breedpost_k05_when_letters_come.Holds := by
  w_on; o_law; k_head; (case hw => w_witness2)
  k_fill
  refine G.walk (l := PySem.Challenge.rw_breedpost_k05_when_letters_come) rfl rfl (fun w h Y => PySem.W.kIn_of Y) ?F
  case F =>
    intro w mg fa h KX G hmg
    refine' _root_.G.all_mk KX G hmg ?a0 ?l0 ?c0 ?k0 ?a1 ?l1 ?c1 ?k1 ?a2 ?l2 ?c2 ?k2 ?a3 ?l3 ?c3 ?k3 ?a4 ?l4 ?c4 ?k4 ?a5 ?l5 ?c5 ?k5 ?a6 ?l6 ?c6 ?k6 ?a7 ?l7 ?c7 ?k7 ?a8 ?l8 ?c8 ?k8 ?a9 ?l9 ?c9 ?k9 ?a10 ?l10 ?c10 ?k10 ?a11 ?l11 ?c11 ?k11 ?a12 ?l12 ?c12 ?k12 ?a13 ?l13 ?c13 ?k13 ?a14 ?l14 ?c14 ?k14 ?a15 ?l15 ?c15 ?k15 ?a16 ?l16 ?c16 ?k16 ?z_isinstance ?z_str ?z_len ?z_all ?z_sorted ?z_enumerate ?z_range ?z_max ?z_list ?z_abs ?z_tuple ?z_set ?z_min ?y_LETTERS
    (case a0 => k_is)
    (case l0 => k_is)
    (case c0 => k_is)
    (case k0 => k_is)
    (case a1 => k_is)
    (case l1 => k_is)
    (case c1 => k_is)
    (case k1 => k_is)
    (case a2 => k_is)
    (case l2 => k_is)
    (case c2 => k_is)
    (case k2 => k_is)
    (case a3 => k_is)
    (case l3 => k_is)
    (case c3 => k_is)
    (case k3 => k_is)
    (case a4 => k_is)
    (case l4 => k_is)
    (case c4 => k_is)
    (case k4 => k_is)
    (case a5 => k_is)
    (case l5 => k_is)
    (case c5 => k_is)
    (case k5 => k_is)
    (case a6 => k_is)
    (case l6 => k_is)
    (case c6 => k_is)
    (case k6 => k_is)
    (case a7 => k_is)
    (case l7 => k_is)
    (case c7 => k_is)
    (case k7 => k_is)
    (case a8 => k_is)
    (case l8 => k_is)
    (case c8 => k_is)
    (case k8 => k_is)
    (case a9 => k_is)
    (case l9 => k_is)
    (case c9 => k_is)
    (case k9 => k_is)
    (case a10 => k_is)
    (case l10 => k_is)
    (case c10 => k_is)
    (case k10 => k_is)
    (case a11 => k_is)
    (case l11 => k_is)
    (case c11 => k_is)
    (case k11 => k_is)
    (case a12 => k_is)
    (case l12 => k_is)
    (case c12 => k_is)
    (case k12 => k_is)
    (case a13 => k_is)
    (case l13 => k_is)
    (case c13 => k_is)
    (case k13 => k_is)
    (case a14 => k_is)
    (case l14 => k_is)
    (case c14 => k_is)
    (case k14 => k_is)
    (case a15 => k_is)
    (case l15 => k_is)
    (case c15 => k_is)
    (case k15 => k_is)
    (case a16 => k_is)
    (case l16 => k_is)
    (case c16 => k_is)
    (case k16 => k_is)
    (case z_isinstance => k_is)
    (case z_str => k_is)
    (case z_len => k_is)
    (case z_all => k_is)
    (case z_sorted => k_is)
    (case z_enumerate => k_is)
    (case z_range => k_is)
    (case z_max => k_is)
    (case z_list => k_is)
    (case z_abs => k_is)
    (case z_tuple => k_is)
    (case z_set => k_is)
    (case z_min => k_is)
    (case y_LETTERS => k_is)
