import PyProof.Rows.All
import Wide.All
import OpenK.AllK
import Wide.FinOn
import HandS.ForMost
import KE.SortData
import HandS.IsInst
import HandS.TupAny
import KE.GoesNew
import HandS.Set
import HandS.SetFor
import KE.KDictSum
import KE.KDictCopyH
import PyProof.Transfer
import HandS.DictComp
import PyProof.Rows.IntBool
import PyProof.Rows.StrFit
import PyProof.FitsInt
import PyProof.StrLaws
import PySem.Challenge.RW_breedpost_k03_letters_told
set_option Elab.async false
set_option linter.all false
set_option maxRecDepth 100000
namespace G
open PySem PySem.Spec PyProof.Rows L2

abbrev Frag := PySem.W.Frag
def keyD : Key → PyData
  | .inl i => .int i
  | .inr x => .str x
def keysD (k : List Key) : PyData := .tuple (k.map keyD)

mutual
/-- the value v is the data d, read in F -/
def IsD (K : Frag) (F : Hp) : PyData → V → Prop
  | .none, v => v = .non
  | .bool b, v => v = .bl b
  | .int i, v => v = .int i
  | .str x, v => v = .str x
  | .list ds, v => ∃ a vs, v = .ref a ∧ F a = some (.lst vs) ∧ IsDs K F ds vs
  | .tuple ds, v => ∃ a vs, v = .ref a ∧ F a = some (.tup vs) ∧ IsDs K F ds vs
  | .dict kds, v => ∃ a, v = .ref a ∧ ((∃ kvs : List (Key × V), Rd F a (.dK kvs) ∧ IsKs K F kds kvs) ∨ (∃ kvs : List (List Key × V), Rd F a (.dT kvs) ∧ IsTs K F kds kvs))
def IsDs (K : Frag) (F : Hp) : List PyData → List V → Prop
  | [], vs => vs = []
  | d :: ds, vs => ∃ v r, vs = v :: r ∧ IsD K F d v ∧ IsDs K F ds r
def IsKs (K : Frag) (F : Hp) : List (PyData × PyData) → List (Key × V) → Prop
  | [], l => l = []
  | (k, d) :: r, l => ∃ kk v l', l = (kk, v) :: l' ∧ k = keyD kk ∧ IsD K F d v ∧ IsKs K F r l'
def IsTs (K : Frag) (F : Hp) : List (PyData × PyData) → List (List Key × V) → Prop
  | [], l => l = []
  | (k, d) :: r, l => ∃ kk v l', l = (kk, v) :: l' ∧ k = keysD kk ∧ IsD K F d v ∧ IsTs K F r l'
end

theorem Rd.mono' {F F' : Hp} {a : Addr} {u : HO} (m : ∀ b o, F b = some o → F' b = some o) (h : Rd F a u) : Rd F' a u := by
  rcases h with h | ⟨o, h⟩
  · exact .inl (m _ _ h)
  · exact .inr ⟨o, m _ _ h⟩
theorem SqL.mono' {K : Frag} {F F' : Hp} {a : Addr} {xs : List V} (m : ∀ b o, F b = some o → F' b = some o) (h : SqL K F a xs) : SqL K F' a xs := by
  rcases h with h | h
  · exact .inl (Rd.mono' m h)
  · exact .inr h
theorem SqT.mono' {K : Frag} {F F' : Hp} {a : Addr} {xs : List V} (m : ∀ b o, F b = some o → F' b = some o) (h : SqT K F a xs) : SqT K F' a xs := by
  rcases h with h | h
  · exact .inl (Rd.mono' m h)
  · exact .inr h
/-- more is frozen (a dict may be locked) -/
structure FSub (F F' : Hp) : Prop where
  rd : ∀ a u, Rd F a u → Rd F' a u
  lst : ∀ a vs, F a = some (.lst vs) → F' a = some (.lst vs)
  tup : ∀ a vs, F a = some (.tup vs) → F' a = some (.tup vs)
theorem FSub.of {F F' : Hp} (m : ∀ b o, F b = some o → F' b = some o) : FSub F F' := ⟨fun _ _ => Rd.mono' m, fun a vs h => m _ _ h, fun a vs h => m _ _ h⟩
theorem FSub.refl {F : Hp} : FSub F F := ⟨fun _ _ h => h, fun _ _ h => h, fun _ _ h => h⟩
mutual
/-- more is frozen: what was read is read -/
theorem IsD.rd {K : Frag} {F F' : Hp} (m : FSub F F') : ∀ (d : PyData) (v : V), IsD K F d v → IsD K F' d v
  | .none, _, h => h
  | .bool _, _, h => h
  | .int _, _, h => h
  | .str _, _, h => h
  | .list ds, v, h => by
    unfold IsD at h ⊢
    obtain ⟨a, vs, e, q, r⟩ := h
    exact ⟨a, vs, e, m.lst _ _ q, IsDs.rd m ds vs r⟩
  | .tuple ds, v, h => by
    unfold IsD at h ⊢
    obtain ⟨a, vs, e, q, r⟩ := h
    exact ⟨a, vs, e, m.tup _ _ q, IsDs.rd m ds vs r⟩
  | .dict kds, v, h => by
    unfold IsD at h ⊢
    obtain ⟨a, e, q⟩ := h
    refine ⟨a, e, ?_⟩
    rcases q with ⟨kvs, q, r⟩ | ⟨kvs, q, r⟩
    · exact .inl ⟨kvs, m.rd _ _ q, IsKs.rd m kds kvs r⟩
    · exact .inr ⟨kvs, m.rd _ _ q, IsTs.rd m kds kvs r⟩
theorem IsDs.rd {K : Frag} {F F' : Hp} (m : FSub F F') : ∀ (ds : List PyData) (vs : List V), IsDs K F ds vs → IsDs K F' ds vs
  | [], _, h => h
  | d :: ds, vs, h => by
    unfold IsDs at h ⊢
    obtain ⟨v, r, e, h1, h2⟩ := h
    exact ⟨v, r, e, IsD.rd m d v h1, IsDs.rd m ds r h2⟩
theorem IsKs.rd {K : Frag} {F F' : Hp} (m : FSub F F') : ∀ (ds : List (PyData × PyData)) (vs : List (Key × V)), IsKs K F ds vs → IsKs K F' ds vs
  | [], _, h => h
  | (k, d) :: ds, vs, h => by
    unfold IsKs at h ⊢
    obtain ⟨kk, v, r, e, e2, h1, h2⟩ := h
    exact ⟨kk, v, r, e, e2, IsD.rd m d v h1, IsKs.rd m ds r h2⟩
theorem IsTs.rd {K : Frag} {F F' : Hp} (m : FSub F F') : ∀ (ds : List (PyData × PyData)) (vs : List (List Key × V)), IsTs K F ds vs → IsTs K F' ds vs
  | [], _, h => h
  | (k, d) :: ds, vs, h => by
    unfold IsTs at h ⊢
    obtain ⟨kk, v, r, e, e2, h1, h2⟩ := h
    exact ⟨kk, v, r, e, e2, IsD.rd m d v h1, IsTs.rd m ds r h2⟩
end
abbrev Sub (F F' : Hp) : Prop := ∀ b o, F b = some o → F' b = some o
theorem IsD.mono {K : Frag} {F F' : Hp} (m : Sub F F') {d : PyData} {v : V} (h : IsD K F d v) : IsD K F' d v := IsD.rd (.of m) d v h
theorem IsDs.mono {K : Frag} {F F' : Hp} (m : Sub F F') {d : List PyData} {v : List V} (h : IsDs K F d v) : IsDs K F' d v := IsDs.rd (.of m) d v h
theorem IsKs.mono {K : Frag} {F F' : Hp} (m : Sub F F') {d : List (PyData × PyData)} {v : List (Key × V)} (h : IsKs K F d v) : IsKs K F' d v := IsKs.rd (.of m) d v h
theorem IsTs.mono {K : Frag} {F F' : Hp} (m : Sub F F') {d : List (PyData × PyData)} {v : List (List Key × V)} (h : IsTs K F d v) : IsTs K F' d v := IsTs.rd (.of m) d v h
theorem IsDs.length {K : Frag} {F : Hp} : ∀ {ds : List PyData} {vs : List V}, IsDs K F ds vs → vs.length = ds.length
  | [], vs, h => by unfold IsDs at h; subst h; rfl
  | d :: ds, vs, h => by
    unfold IsDs at h
    obtain ⟨v, r, e, h1, h2⟩ := h
    subst e
    simp [IsDs.length h2]
theorem IsDs.get {K : Frag} {F : Hp} : ∀ {ds : List PyData} {vs : List V} {i : Nat} {d : PyData}, IsDs K F ds vs → ds[i]? = some d → ∃ v, vs[i]? = some v ∧ IsD K F d v
  | [], _, _, _, _, e => by simp at e
  | d :: ds, vs, i, x, h, e => by
    unfold IsDs at h
    obtain ⟨v, r, rfl, h1, h2⟩ := h
    cases i with
    | zero => simp at e; subst e; exact ⟨v, rfl, h1⟩
    | succ i => simp at e; obtain ⟨u, e1, e2⟩ := IsDs.get h2 e; exact ⟨u, by simpa using e1, e2⟩
theorem IsDs.getV {K : Frag} {F : Hp} {ds : List PyData} {vs : List V} {i : Nat} {v : V} (h : IsDs K F ds vs) (e : vs[i]? = some v) : ∃ d, ds[i]? = some d ∧ IsD K F d v := by
  have hl := h.length
  obtain ⟨hi, _⟩ := List.getElem?_eq_some_iff.mp e
  have : ds[i]? = some ds[i] := List.getElem?_eq_getElem (by omega)
  obtain ⟨u, e1, e2⟩ := h.get this
  rw [e] at e1; cases e1
  exact ⟨_, this, e2⟩
theorem IsDs.cons {K : Frag} {F : Hp} {d : PyData} {ds : List PyData} {v : V} {vs : List V} (h : IsD K F d v) (r : IsDs K F ds vs) : IsDs K F (d :: ds) (v :: vs) := by
  unfold IsDs; exact ⟨v, vs, rfl, h, r⟩
theorem IsDs.nil {K : Frag} {F : Hp} : IsDs K F [] [] := by unfold IsDs; rfl
theorem IsDs.append {K : Frag} {F : Hp} : ∀ {d1 d2 : List PyData} {v1 v2 : List V}, IsDs K F d1 v1 → IsDs K F d2 v2 → IsDs K F (d1 ++ d2) (v1 ++ v2)
  | [], _, _, _, h, r => by unfold IsDs at h; subst h; exact r
  | d :: ds, _, _, _, h, r => by
    unfold IsDs at h
    obtain ⟨v, q, rfl, h1, h2⟩ := h
    exact .cons h1 (IsDs.append h2 r)
theorem IsDs.take {K : Frag} {F : Hp} : ∀ {ds : List PyData} {vs : List V} (n : Nat), IsDs K F ds vs → IsDs K F (ds.take n) (vs.take n)
  | [], _, n, h => by unfold IsDs at h; subst h; simp; exact .nil
  | d :: ds, _, 0, h => by simp; exact .nil
  | d :: ds, _, n + 1, h => by
    unfold IsDs at h
    obtain ⟨v, q, rfl, h1, h2⟩ := h
    exact .cons h1 (h2.take n)
theorem IsDs.drop {K : Frag} {F : Hp} : ∀ {ds : List PyData} {vs : List V} (n : Nat), IsDs K F ds vs → IsDs K F (ds.drop n) (vs.drop n)
  | [], _, n, h => by unfold IsDs at h; subst h; simp; exact .nil
  | d :: ds, _, 0, h => h
  | d :: ds, _, n + 1, h => by
    unfold IsDs at h
    obtain ⟨v, q, rfl, h1, h2⟩ := h
    simpa using h2.drop n
theorem IsDs.of_get {K : Frag} {F : Hp} : ∀ {ds : List PyData} {vs : List V}, vs.length = ds.length → (∀ (i : Nat) d v, ds[i]? = some d → vs[i]? = some v → IsD K F d v) → IsDs K F ds vs
  | [], [], _, _ => .nil
  | [], _ :: _, h, _ => by simp at h
  | _ :: _, [], h, _ => by simp at h
  | d :: ds, v :: vs, h, g => .cons (g 0 d v rfl rfl) (IsDs.of_get (by simpa using h) fun i d v a b => g (i + 1) d v (by simpa using a) (by simpa using b))

/-! ### own trees -/
inductive M where
  | leaf (d : PyData)
  | lst (l : List M)
  | dK (l : List (Key × M))
  | dT (l : List (List Key × M))
  | ins (C : Addr) (l : List (Str × M))
  /-- a list that is read alone (the script) -/
  | ro (l : List PyData)

mutual
def M.frz : M → Option PyData
  | .leaf d => some d
  | .lst l => (M.frzs l).map .list
  | .dK l => (M.frzK l).map .dict
  | .dT l => (M.frzT l).map .dict
  | .ins _ _ => none
  | .ro _ => none
def M.frzs : List M → Option (List PyData)
  | [] => some []
  | m :: r => match M.frz m, M.frzs r with
    | some d, some ds => some (d :: ds)
    | _, _ => none
def M.frzK : List (Key × M) → Option (List (PyData × PyData))
  | [] => some []
  | (k, m) :: r => match M.frz m, M.frzK r with
    | some d, some ds => some ((keyD k, d) :: ds)
    | _, _ => none
def M.frzT : List (List Key × M) → Option (List (PyData × PyData))
  | [] => some []
  | (k, m) :: r => match M.frz m, M.frzT r with
    | some d, some ds => some ((keysD k, d) :: ds)
    | _, _ => none
end

mutual
/-- the own tree m at v; fp: the addresses that it owns -/
inductive Rep (K : Frag) (F H : Hp) : V → M → List Addr → Prop
  | leaf {v d} : IsD K F d v → Rep K F H v (.leaf d) []
  | ro {a vs ds} : SqL K F a vs → IsDs K F ds vs → Rep K F H (.ref a) (.ro ds) []
  | lst {a vs ms fp} : H a = some (.lst vs) → F a = none → Reps K F H vs ms fp → a ∉ fp → Rep K F H (.ref a) (.lst ms) (a :: fp)
  | dK {a} {kvs : List (Key × V)} {kms : List (Key × M)} {fp} : H a = some (.dK kvs) → F a = none → kvs.map (·.1) = kms.map (·.1) → (kms.map (·.1)).Nodup → Reps K F H (kvs.map (·.2)) (kms.map (·.2)) fp → a ∉ fp → Rep K F H (.ref a) (.dK kms) (a :: fp)
  | dT {a} {kvs : List (List Key × V)} {kms : List (List Key × M)} {fp} : H a = some (.dT kvs) → F a = none → kvs.map (·.1) = kms.map (·.1) → (kms.map (·.1)).Nodup → Reps K F H (kvs.map (·.2)) (kms.map (·.2)) fp → a ∉ fp → Rep K F H (.ref a) (.dT kms) (a :: fp)
  | ins {a C dx} {fvs : List (Str × V)} {fms : List (Str × M)} {fp} : H a = some (.ins C dx fvs) → F a = none → fvs.map (·.1) = fms.map (·.1) → Reps K F H (fvs.map (·.2)) (fms.map (·.2)) fp → a ∉ fp → Rep K F H (.ref a) (.ins C fms) (a :: fp)
inductive Reps (K : Frag) (F H : Hp) : List V → List M → List Addr → Prop
  | nil : Reps K F H [] [] []
  | cons {v vs m ms f1 f2} : Rep K F H v m f1 → Reps K F H vs ms f2 → (∀ a ∈ f1, a ∉ f2) → Reps K F H (v :: vs) (m :: ms) (f1 ++ f2)
end

/-- no tuple stands at a -/
def Ob (H : Hp) (a : Addr) : Prop := ∃ o, H a = some o ∧ ∀ vs, o ≠ .tup vs
/-- nothing stands at a, or a tuple (which nobody owns) -/
def Fre (H : Hp) (a : Addr) : Prop := H a = none ∨ ∃ vs, H a = some (.tup vs)
theorem Ob.not {H : Hp} {a : Addr} (h : Ob H a) : ¬ Fre H a := fun z => by
  obtain ⟨o, ho, n⟩ := h
  rcases z with z | ⟨vs, z⟩
  · rw [ho] at z; cases z
  · rw [ho] at z; exact n vs (Option.some.inj z)
theorem Ob.some {H : Hp} {a : Addr} (h : Ob H a) : ∃ o, H a = some o := let ⟨o, e, _⟩ := h; ⟨o, e⟩
mutual
theorem Rep.fp {K : Frag} {F H : Hp} {v : V} {m : M} {f : List Addr} : Rep K F H v m f → ∀ a ∈ f, Ob H a ∧ F a = none
  | .leaf _, a, h => by simp at h
  | .ro _ _, a, h => by simp at h
  | .lst h1 h2 r _, a, h => by
    rcases List.mem_cons.mp h with rfl | h
    · exact ⟨⟨_, h1, fun _ z => nomatch z⟩, h2⟩
    · exact Reps.fp r a h
  | .dK h1 h2 _ _ r _, a, h => by
    rcases List.mem_cons.mp h with rfl | h
    · exact ⟨⟨_, h1, fun _ z => nomatch z⟩, h2⟩
    · exact Reps.fp r a h
  | .dT h1 h2 _ _ r _, a, h => by
    rcases List.mem_cons.mp h with rfl | h
    · exact ⟨⟨_, h1, fun _ z => nomatch z⟩, h2⟩
    · exact Reps.fp r a h
  | .ins h1 h2 _ r _, a, h => by
    rcases List.mem_cons.mp h with rfl | h
    · exact ⟨⟨_, h1, fun _ z => nomatch z⟩, h2⟩
    · exact Reps.fp r a h
theorem Reps.fp {K : Frag} {F H : Hp} {v : List V} {m : List M} {f : List Addr} : Reps K F H v m f → ∀ a ∈ f, Ob H a ∧ F a = none
  | .nil, a, h => by simp at h
  | .cons r1 r2 _, a, h => by
    rcases List.mem_append.mp h with h | h
    · exact Rep.fp r1 a h
    · exact Reps.fp r2 a h
end
mutual
theorem Rep.keep {K : Frag} {F H F' H' : Hp} {v : V} {m : M} {f : List Addr} (hF : FSub F F') : Rep K F H v m f → (∀ a ∈ f, ∀ o, H a = some o → H' a = some o) → (∀ a ∈ f, F' a = none) → Rep K F' H' v m f
  | .leaf h, _, _ => .leaf (IsD.rd hF _ _ h)
  | .ro q h, _, _ => .ro (q.imp (hF.rd _ _) id) (IsDs.rd hF _ _ h)
  | .lst h1 h2 r n, k, z => .lst (k _ (by simp) _ h1) (z _ (by simp)) (Reps.keep hF r (fun a ha => k a (by simp [ha])) fun a ha => z a (by simp [ha])) n
  | .dK h1 h2 e nd r n, k, z => .dK (k _ (by simp) _ h1) (z _ (by simp)) e nd (Reps.keep hF r (fun a ha => k a (by simp [ha])) fun a ha => z a (by simp [ha])) n
  | .dT h1 h2 e nd r n, k, z => .dT (k _ (by simp) _ h1) (z _ (by simp)) e nd (Reps.keep hF r (fun a ha => k a (by simp [ha])) fun a ha => z a (by simp [ha])) n
  | .ins h1 h2 e r n, k, z => .ins (k _ (by simp) _ h1) (z _ (by simp)) e (Reps.keep hF r (fun a ha => k a (by simp [ha])) fun a ha => z a (by simp [ha])) n
theorem Reps.keep {K : Frag} {F H F' H' : Hp} {v : List V} {m : List M} {f : List Addr} (hF : FSub F F') : Reps K F H v m f → (∀ a ∈ f, ∀ o, H a = some o → H' a = some o) → (∀ a ∈ f, F' a = none) → Reps K F' H' v m f
  | .nil, _, _ => .nil
  | .cons r1 r2 d, k, z => .cons (Rep.keep hF r1 (fun a ha => k a (by simp [ha])) fun a ha => z a (by simp [ha])) (Reps.keep hF r2 (fun a ha => k a (by simp [ha])) fun a ha => z a (by simp [ha])) d
end
/-- F with the objects at f frozen as they stand in H -/
def fz (F H : Hp) (f : List Addr) : Hp := fun a => if a ∈ f then H a else F a
theorem fz_sub {F H : Hp} {f : List Addr} (hs : Sub F H) : Sub (fz F H f) H := fun a o e => by
  unfold fz at e; split at e
  · exact e
  · exact hs _ _ e
theorem fz_mono {F H : Hp} {f : List Addr} (hn : ∀ a ∈ f, F a = none) : Sub F (fz F H f) := fun a o e => by
  unfold fz; split
  · rename_i h; rw [hn a h] at e; cases e
  · exact e
theorem frzs_cons {m : M} {r : List M} {l : List PyData} (h : M.frzs (m :: r) = some l) : ∃ d ds, M.frz m = some d ∧ M.frzs r = some ds ∧ l = d :: ds := by
  unfold M.frzs at h
  split at h
  · rename_i d ds e1 e2; exact ⟨d, ds, e1, e2, (Option.some.inj h).symm⟩
  · cases h
theorem frzK_eq : ∀ (l : List (Key × M)), M.frzK l = (M.frzs (l.map (·.2))).map fun ds => (l.map fun x => keyD x.1).zip ds
  | [] => by simp [M.frzK, M.frzs]
  | (k, m) :: r => by
    have ih := frzK_eq r
    simp only [M.frzK, List.map_cons, M.frzs]
    rw [ih]
    cases M.frz m <;> cases M.frzs (r.map (·.2)) <;> simp
theorem frzT_eq : ∀ (l : List (List Key × M)), M.frzT l = (M.frzs (l.map (·.2))).map fun ds => (l.map fun x => keysD x.1).zip ds
  | [] => by simp [M.frzT, M.frzs]
  | (k, m) :: r => by
    have ih := frzT_eq r
    simp only [M.frzT, List.map_cons, M.frzs]
    rw [ih]
    cases M.frz m <;> cases M.frzs (r.map (·.2)) <;> simp
theorem isKs_of {K : Frag} {F : Hp} : ∀ {kvs : List (Key × V)} {kms : List (Key × M)} {ds : List PyData}, kvs.map (·.1) = kms.map (·.1) → IsDs K F ds (kvs.map (·.2)) → IsKs K F ((kms.map fun x => keyD x.1).zip ds) kvs
  | [], kms, ds, e, h => by
    have : kms = [] := by cases kms <;> simp at e ⊢
    subst this
    unfold IsKs; simp
  | (k, v) :: r, [], ds, e, h => by simp at e
  | (k, v) :: r, (k', m) :: kms, ds, e, h => by
    simp only [List.map_cons, List.cons.injEq] at e
    cases ds with
    | nil => unfold IsDs at h; simp at h
    | cons d ds =>
      unfold IsDs at h
      obtain ⟨v', r', e', h1, h2⟩ := h
      simp only [List.map_cons, List.cons.injEq] at e'
      simp only [List.map_cons, List.zip_cons_cons]
      unfold IsKs
      exact ⟨k, v, r, rfl, by rw [e.1], by rw [e'.1]; exact h1, isKs_of e.2 (by rw [e'.2]; exact h2)⟩
theorem isTs_of {K : Frag} {F : Hp} : ∀ {kvs : List (List Key × V)} {kms : List (List Key × M)} {ds : List PyData}, kvs.map (·.1) = kms.map (·.1) → IsDs K F ds (kvs.map (·.2)) → IsTs K F ((kms.map fun x => keysD x.1).zip ds) kvs
  | [], kms, ds, e, h => by
    have : kms = [] := by cases kms <;> simp at e ⊢
    subst this
    unfold IsTs; simp
  | (k, v) :: r, [], ds, e, h => by simp at e
  | (k, v) :: r, (k', m) :: kms, ds, e, h => by
    simp only [List.map_cons, List.cons.injEq] at e
    cases ds with
    | nil => unfold IsDs at h; simp at h
    | cons d ds =>
      unfold IsDs at h
      obtain ⟨v', r', e', h1, h2⟩ := h
      simp only [List.map_cons, List.cons.injEq] at e'
      simp only [List.map_cons, List.zip_cons_cons]
      unfold IsTs
      exact ⟨k, v, r, rfl, by rw [e.1], by rw [e'.1]; exact h1, isTs_of e.2 (by rw [e'.2]; exact h2)⟩
mutual
/-- what an own tree is, read in any G that holds F and what it owns -/
theorem Rep.data {K : Frag} {F H G : Hp} {v : V} {m : M} {f : List Addr} (hF : Sub F G) : Rep K F H v m f → (∀ a ∈ f, ∀ o, H a = some o → G a = some o) → ∀ d, m.frz = some d → IsD K G d v
  | .leaf h, _, d, e => by simp [M.frz] at e; subst e; exact h.mono hF
  | .ro q h, _, d, e => by simp [M.frz] at e
  | .lst h1 h2 r n, k, d, e => by
    simp only [M.frz, Option.map_eq_some_iff] at e
    obtain ⟨ds, e1, rfl⟩ := e
    unfold IsD
    exact ⟨_, _, rfl, k _ (by simp) _ h1, Reps.data hF r (fun a ha => k a (by simp [ha])) ds e1⟩
  | .dK h1 h2 he nd r n, k, d, e => by
    simp only [M.frz, Option.map_eq_some_iff] at e
    obtain ⟨ds, e1, rfl⟩ := e
    rw [frzK_eq, Option.map_eq_some_iff] at e1
    obtain ⟨es, e2, rfl⟩ := e1
    unfold IsD
    exact ⟨_, rfl, .inl ⟨_, .inl (k _ (by simp) _ h1), isKs_of he (Reps.data hF r (fun a ha => k a (by simp [ha])) es e2)⟩⟩
  | .dT h1 h2 he nd r n, k, d, e => by
    simp only [M.frz, Option.map_eq_some_iff] at e
    obtain ⟨ds, e1, rfl⟩ := e
    rw [frzT_eq, Option.map_eq_some_iff] at e1
    obtain ⟨es, e2, rfl⟩ := e1
    unfold IsD
    exact ⟨_, rfl, .inr ⟨_, .inl (k _ (by simp) _ h1), isTs_of he (Reps.data hF r (fun a ha => k a (by simp [ha])) es e2)⟩⟩
  | .ins h1 h2 he r n, k, d, e => by simp [M.frz] at e
theorem Reps.data {K : Frag} {F H G : Hp} {v : List V} {m : List M} {f : List Addr} (hF : Sub F G) : Reps K F H v m f → (∀ a ∈ f, ∀ o, H a = some o → G a = some o) → ∀ d, M.frzs m = some d → IsDs K G d v
  | .nil, _, d, e => by simp [M.frzs] at e; subst e; exact .nil
  | .cons r1 r2 _, k, d, e => by
    obtain ⟨d1, ds, e1, e2, rfl⟩ := frzs_cons e
    exact .cons (Rep.data hF r1 (fun a ha => k a (by simp [ha])) d1 e1) (Reps.data hF r2 (fun a ha => k a (by simp [ha])) ds e2)
end

/-! ### the environment of slots -/
abbrev Env' := List (Option M)
structure EnvOk (K : Frag) (F H : Hp) (σ : L2.St) (ρ : Env') (φ : Nat → List Addr) : Prop where
  sub : Sub F H
  len : σ.length = ρ.length
  rep : ∀ (i : Nat) m, ρ[i]? = some (some m) → ∃ v, σ[i]? = some (some v) ∧ Rep K F H v m (φ i)
  dis : ∀ i j a, a ∈ φ i → a ∈ φ j → i = j
  emp : ∀ i, (∀ m, ρ[i]? ≠ some (some m)) → φ i = []
def Om (φ : Nat → List Addr) (a : Addr) : Prop := ∃ i, a ∈ φ i
/-- from one point to a later one: the frozen part, the heap, what is owned -/
structure Ext (F H : Hp) (O : Addr → Prop) (F' H' : Hp) (O' : Addr → Prop) : Prop where
  mono : Sub F F'
  new : ∀ a o, F' a = some o → F a = some o ∨ Fre H a ∨ O a
  keep : ∀ a o, H a = some o → ¬ O a → H' a = some o
  own : ∀ a, O' a → O a ∨ H a = none
section
variable {K : Frag} {F H F1 H1 F2 H2 : Hp} {O O1 O2 : Addr → Prop} {σ : L2.St} {ρ : Env'} {φ : Nat → List Addr}
theorem Ext.refl : Ext F H O F H O := ⟨fun _ _ h => h, fun _ _ h => .inl h, fun _ _ h _ => h, fun _ h => .inl h⟩
theorem Ext.trans (a : Ext F H O F1 H1 O1) (b : Ext F1 H1 O1 F2 H2 O2) : Ext F H O F2 H2 O2 := by
  refine ⟨fun x o h => b.mono _ _ (a.mono _ _ h), fun x o h => ?_, fun x o h n => ?_, fun x h => ?_⟩
  · rcases b.new x o h with h | h | h
    · exact a.new x o h
    · by_cases hO : O x
      · exact .inr (.inr hO)
      · cases e : H x with
        | none => exact .inr (.inl (.inl e))
        | some u =>
          have k := a.keep x u e hO
          rcases h with h | ⟨vs, h⟩
          · rw [k] at h; cases h
          · rw [k] at h; cases h; exact .inr (.inl (.inr ⟨_, e⟩))
    · rcases a.own x h with h | h
      · exact .inr (.inr h)
      · exact .inr (.inl (.inl h))
  · refine b.keep x o (a.keep x o h n) fun h1 => ?_
    rcases a.own x h1 with h1 | h1
    · exact n h1
    · rw [h] at h1; cases h1
  · rcases b.own x h with h | h
    · exact a.own x h
    · by_cases hO : O x
      · exact .inl hO
      · cases e : H x with
        | none => exact .inr rfl
        | some u => rw [a.keep x u e hO] at h; cases h
theorem Ext.less (a : Ext F H O F1 H1 O1) (h : ∀ x, O2 x → O1 x) : Ext F H O F1 H1 O2 := ⟨a.mono, a.new, a.keep, fun x q => a.own x (h x q)⟩
/-- what is held beside stays -/
theorem Ext.frame (a : Ext F H O F1 H1 O1) {f : List Addr} (hf : ∀ x ∈ f, Ob H x ∧ F x = none) (hd : ∀ x ∈ f, ¬ O x) :
    Ext F H (fun x => O x ∨ x ∈ f) F1 H1 (fun x => O1 x ∨ x ∈ f) := by
  refine ⟨a.mono, fun x o h => ?_, fun x o h n => a.keep x o h fun q => n (.inl q), fun x h => ?_⟩
  · rcases a.new x o h with h | h | h
    · exact .inl h
    · exact .inr (.inl h)
    · exact .inr (.inr (.inl h))
  · rcases h with h | h
    · rcases a.own x h with h | h
      · exact .inl (.inl h)
      · exact .inr h
    · exact .inl (.inr h)
theorem Ext.beside (a : Ext F H O F1 H1 O1) {f : List Addr} (hf : ∀ x ∈ f, Ob H x ∧ F x = none) (hd : ∀ x ∈ f, ¬ O x) :
    (∀ x ∈ f, ∀ o, H x = some o → H1 x = some o) ∧ (∀ x ∈ f, F1 x = none) ∧ ∀ x ∈ f, ¬ O1 x := by
  refine ⟨fun x hx o e => a.keep x o e (hd x hx), fun x hx => ?_, fun x hx q => ?_⟩
  · cases e : F1 x with
    | none => rfl
    | some o =>
      obtain ⟨hu, hn⟩ := hf x hx
      rcases a.new x o e with h | h | h
      · rw [hn] at h; cases h
      · exact absurd h hu.not
      · exact absurd h (hd x hx)
  · obtain ⟨⟨u, hu, _⟩, hn⟩ := hf x hx
    rcases a.own x q with h | h
    · exact hd x hx h
    · rw [hu] at h; cases h
theorem Rep.ext {v : V} {m : M} {f : List Addr} (r : Rep K F H v m f) (a : Ext F H O F1 H1 O1) (hd : ∀ x ∈ f, ¬ O x) : Rep K F1 H1 v m f ∧ ∀ x ∈ f, ¬ O1 x :=
  let ⟨h1, h2, h3⟩ := a.beside r.fp hd
  ⟨r.keep (.of a.mono) h1 h2, h3⟩
/-- a fresh tree is frozen -/
theorem Ext.freeze {f : List Addr} (a : Ext F H O F1 H1 (fun x => O1 x ∨ x ∈ f)) (hn : ∀ x ∈ f, F1 x = none) : Ext F H O (fz F1 H1 f) H1 O1 := by
  refine ⟨fun x o h => fz_mono hn _ _ (a.mono x o h), fun x o h => ?_, a.keep, fun x h => a.own x (.inl h)⟩
  unfold fz at h
  split at h
  · rename_i hx
    rcases a.own x (.inr hx) with q | q
    · exact .inr (.inr q)
    · exact .inr (.inl (.inl q))
  · exact a.new x o h
theorem EnvOk.freeze (e : EnvOk K F H σ ρ φ) {f : List Addr} (hd : ∀ x ∈ f, ¬ Om φ x) (hn : ∀ x ∈ f, F x = none) : EnvOk K (fz F H f) H σ ρ φ := by
  refine ⟨fz_sub e.sub, e.len, fun i m h => ?_, e.dis, e.emp⟩
  obtain ⟨v, hv, r⟩ := e.rep i m h
  refine ⟨v, hv, r.keep (.of (fz_mono hn)) (fun _ _ _ h => h) fun a ha => ?_⟩
  unfold fz
  rw [if_neg fun hx => hd a hx ⟨i, ha⟩]
  exact (r.fp a ha).2
theorem Rep.frozen {v : V} {m : M} {f : List Addr} {d : PyData} (r : Rep K F H v m f) (h : m.frz = some d) : IsD K (fz F H f) d v :=
  r.data (fz_mono fun a ha => (r.fp a ha).2) (fun a ha o e => by unfold fz; rw [if_pos ha]; exact e) d h
theorem Rep.read {v : V} {m : M} {f : List Addr} {d : PyData} (r : Rep K F H v m f) (s : Sub F H) (h : m.frz = some d) : IsD K H d v :=
  r.data s (fun _ _ _ h => h) d h
/-- a slot is set -/
theorem EnvOk.set (e : EnvOk K F H σ ρ φ) {i : Nat} {v : V} {m : M} {f : List Addr} (r : Rep K F H v m f) (hd : ∀ x ∈ f, ¬ Om φ x) :
    EnvOk K F H (σ.set i (some v)) (ρ.set i (some m)) (fun j => if j = i ∧ i < ρ.length then f else if j = i then [] else φ j) := by
  refine ⟨e.sub, by simp [e.len], fun j x h => ?_, fun j k a hj hk => ?_, fun j h => ?_⟩
  · by_cases hji : j = i
    · subst hji
      by_cases hl : j < ρ.length
      · rw [List.getElem?_set_self hl] at h
        cases h
        exact ⟨v, List.getElem?_set_self (by rw [e.len]; exact hl), by rw [if_pos ⟨rfl, hl⟩]; exact r⟩
      · rw [List.getElem?_eq_none (by simpa using hl)] at h; cases h
    · rw [List.getElem?_set_ne (Ne.symm hji)] at h
      obtain ⟨u, hu, q⟩ := e.rep j x h
      exact ⟨u, by rw [List.getElem?_set_ne (Ne.symm hji)]; exact hu, by rw [if_neg (fun z => hji z.1), if_neg hji]; exact q⟩
  · by_cases h1 : j = i
    · by_cases h2 : k = i
      · rw [h1, h2]
      · subst h1
        simp only [true_and, if_true, h2, false_and, if_false] at hj hk
        split at hj
        · exact absurd ⟨k, hk⟩ (hd a hj)
        · simp at hj
    · by_cases h2 : k = i
      · subst h2
        simp only [true_and, if_true, h1, false_and, if_false] at hj hk
        split at hk
        · exact absurd ⟨j, hj⟩ (hd a hk)
        · simp at hk
      · simp only [h1, h2, false_and, if_false] at hj hk
        exact e.dis j k a hj hk
  · by_cases hji : j = i
    · subst hji
      by_cases hl : j < ρ.length
      · exact absurd (List.getElem?_set_self hl) (h m)
      · simp [hl]
    · simp only [hji, false_and, if_false]
      refine e.emp j fun x hx => h x ?_
      rw [List.getElem?_set_ne (Ne.symm hji)]; exact hx
theorem om_set {i : Nat} {f : List Addr} {a : Addr} {n : Nat} (h : Om (fun j => if j = i ∧ i < n then f else if j = i then [] else φ j) a) : Om φ a ∨ a ∈ f := by
  obtain ⟨j, h⟩ := h
  dsimp only at h
  split at h
  · exact .inr h
  · split at h
    · simp at h
    · exact .inl ⟨j, h⟩
/-- a slot is forgotten -/
theorem EnvOk.drop (e : EnvOk K F H σ ρ φ) (i : Nat) (o : Option V) : EnvOk K F H (σ.set i o) (ρ.set i none) (fun j => if j = i then [] else φ j) := by
  refine ⟨e.sub, by simp [e.len], fun j x h => ?_, fun j k a hj hk => ?_, fun j h => ?_⟩
  · by_cases hji : j = i
    · subst hji
      by_cases hl : j < ρ.length
      · rw [List.getElem?_set_self hl] at h; cases h
      · rw [List.getElem?_eq_none (by simpa using hl)] at h; cases h
    · rw [List.getElem?_set_ne (Ne.symm hji)] at h
      obtain ⟨u, hu, q⟩ := e.rep j x h
      exact ⟨u, by rw [List.getElem?_set_ne (Ne.symm hji)]; exact hu, by rw [if_neg hji]; exact q⟩
  · by_cases h1 : j = i
    · simp [h1] at hj
    · by_cases h2 : k = i
      · simp [h2] at hk
      · simp only [h1, h2, if_false] at hj hk
        exact e.dis j k a hj hk
  · by_cases hji : j = i
    · simp [hji]
    · simp only [hji, if_false]
      refine e.emp j fun x hx => h x ?_
      rw [List.getElem?_set_ne (Ne.symm hji)]; exact hx
theorem om_drop {i : Nat} {a : Addr} (h : Om (fun j => if j = i then [] else φ j) a) : Om φ a := by
  obtain ⟨j, h⟩ := h
  dsimp only at h
  split at h
  · simp at h
  · exact ⟨j, h⟩
end
end G
namespace G
open PySem PySem.Spec PyProof.Rows L2

structure Exc where
  cls : Str
  fld : Option (Str × PyData)
inductive R (α : Type) where
  | ok (a : α) (ρ : Env')
  | err (x : Exc) (ρ : Env')
  | bad
@[inline] def R.bind {α β : Type} (r : R α) (f : α → Env' → R β) : R β := match r with
  | .ok a ρ => f a ρ
  | .err x ρ => .err x ρ
  | .bad => .bad
@[simp] theorem R.bind_ok {α β : Type} (a : α) (ρ : Env') (f : α → Env' → R β) : (R.ok a ρ).bind f = f a ρ := rfl
@[simp] theorem R.bind_err {α β : Type} (x : Exc) (ρ : Env') (f : α → Env' → R β) : (R.err x ρ).bind f = .err x ρ := rfl
@[simp] theorem R.bind_bad {α β : Type} (f : α → Env' → R β) : (R.bad).bind f = .bad := rfl

/-- an exception as it flies: its class, its own dict -/
def XRep (K : Frag) (mg : Str → Option Value) (F H : Hp) (c : Value) (d : Option Addr) (x : Exc) : Prop :=
  mg x.cls = some c ∧ match x.fld with
    | none => True
    | some (n, y) => ∃ a v, d = some a ∧ H a = some (.xd [(n, v)]) ∧ IsD K F y v
def XOk (K : Frag) (mg : Str → Option Value) (E : XK) (F H : Hp) (φ : Nat → List Addr) (σ : L2.St) (x : Exc) (ρ' : Env') : Prop :=
  ∀ F' H' φ' c d, EnvOk K F' H' σ ρ' φ' → XRep K mg F' H' c d x → Ext F H (Om φ) F' H' (Om φ') → E c d H'

def tE (K : Frag) (mg : Str → Option Value) (E : XK) (m : Env' → R M) : TE := fun σ H Q => ∃ F ρ φ, EnvOk K F H σ ρ φ ∧ match m ρ with
  | .ok x ρ' => ∀ F' H' φ' v f, EnvOk K F' H' σ ρ' φ' → Rep K F' H' v x f → (∀ a ∈ f, ¬ Om φ' a) → Ext F H (Om φ) F' H' (fun a => Om φ' a ∨ a ∈ f) → Q v H'
  | .err x ρ' => XOk K mg E F H φ σ x ρ'
  | .bad => False
/-- read off the state as it stands -/
def tQ (K : Frag) (q : Env' → Option M) : TE := fun σ H Q => ∃ F ρ φ, EnvOk K F H σ ρ φ ∧ ∃ x, q ρ = some x ∧ ∀ v f, Rep K F H v x f → Q v H
/-- written items, all frozen -/
def tAr (K : Frag) (mg : Str → Option Value) (E : XK) (n : Nat) (m : Env' → R (List PyData)) : TA := fun σ H Q => ∃ F ρ φ, EnvOk K F H σ ρ φ ∧ match m ρ with
  | .ok ds ρ' => ∀ F' H' φ' vs, EnvOk K F' H' σ ρ' φ' → IsDs K F' ds vs → vs.length = n → Ext F H (Om φ) F' H' (Om φ') → Q vs H'
  | .err x ρ' => XOk K mg E F H φ σ x ρ'
  | .bad => False
def tB' (K : Frag) (mg : Str → Option Value) (E : XK) (m : Env' → R Bool) : TT := fun σ H Q => ∃ F ρ φ, EnvOk K F H σ ρ φ ∧ match m ρ with
  | .ok b ρ' => ∀ F' H' φ', EnvOk K F' H' σ ρ' φ' → Ext F H (Om φ) F' H' (Om φ') → Q b H'
  | .err x ρ' => XOk K mg E F H φ σ x ρ'
  | .bad => False

abbrev DE (X : Cx) (E : XK) (e : Expr) (m : Env' → R M) : Prop := PE X e (tE X.K X.mg E m)
abbrev DQ (X : Cx) (e : Expr) (q : Env' → Option M) : Prop := PE X e (tQ X.K q)
abbrev DA (X : Cx) (E : XK) (n : Nat) (es : List Expr) (m : Env' → R (List PyData)) : Prop := PA X es (tAr X.K X.mg E n m)
abbrev DT (X : Cx) (E : XK) (e : Expr) (m : Env' → R Bool) : Prop := PT X e (tB' X.K X.mg E m)
abbrev DW (X : Cx) (E : XK) (e : Expr) (m : Env' → R Bool) : Prop := PW X e (tB' X.K X.mg E m)

theorem _root_.L2.PE.imp {X : Cx} {e : Expr} {t t' : TE} (h : PE X e t) (i : ∀ σ H Q, t' σ H Q → t σ H Q) : PE X e t' := ⟨fun pins s σ H Q I q => h.run pins s σ H Q I (i σ H Q q)⟩
theorem _root_.L2.PT.imp {X : Cx} {e : Expr} {t t' : TT} (h : PT X e t) (i : ∀ σ H Q, t' σ H Q → t σ H Q) : PT X e t' := ⟨fun pins s σ H Q I q => h.run pins s σ H Q I (i σ H Q q)⟩
theorem _root_.L2.PW.imp {X : Cx} {e : Expr} {t t' : TT} (h : PW X e t) (i : ∀ σ H Q, t' σ H Q → t σ H Q) : PW X e t' := ⟨fun wh pins s σ H Q I q => h.run wh pins s σ H Q I (i σ H Q q)⟩
theorem _root_.L2.PA.imp {X : Cx} {e : List Expr} {t t' : TA} (h : PA X e t) (i : ∀ σ H Q, t' σ H Q → t σ H Q) : PA X e t' := ⟨fun p pins s σ H Q I q => h.run p pins s σ H Q I (i σ H Q q)⟩
theorem _root_.L2.PS.imp {X : Cx} {e : Stmt} {t t' : TS} (h : PS X e t) (i : ∀ D σ H, t' D σ H → t D σ H) : PS X e t' := ⟨fun pins s σ H D I q => h.run pins s σ H D I (i D σ H q)⟩
theorem _root_.L2.PSs.imp {X : Cx} {e : List Stmt} {t t' : TS} (h : PSs X e t) (i : ∀ D σ H, t' D σ H → t D σ H) : PSs X e t' := ⟨fun pins s σ H D I q => h.run pins s σ H D I (i D σ H q)⟩
theorem _root_.L2.PI.imp {X : Cx} {tg e : Expr} {t t' : TI} (h : PI X tg e t) (i : ∀ σ H Q, t' σ H Q → t σ H Q) : PI X tg e t' := ⟨fun pins s σ H Q I q => h.run pins s σ H Q I (i σ H Q q)⟩
theorem _root_.L2.PG.imp {X : Cx} {e : Expr} {t t' : TG} (h : PG X e t) (i : ∀ v σ H Q, t' v σ H Q → t v σ H Q) : PG X e t' := ⟨fun pins s σ H v u Q I r q => h.run pins s σ H v u Q I r (i v σ H Q q)⟩

section
variable {K : Frag} {mg : Str → Option Value} {E : XK} {F H F1 H1 F2 H2 : Hp} {O O1 O2 : Addr → Prop} {σ : L2.St} {ρ ρ' : Env'} {φ φ1 φ2 : Nat → List Addr}
theorem XOk.next {x : Exc} (h : XOk K mg E F H φ σ x ρ') (a : Ext F H (Om φ) F1 H1 (Om φ1)) : XOk K mg E F1 H1 φ1 σ x ρ' := fun F' H' φ' c d e r b => h F' H' φ' c d e r (a.trans b)
theorem XOk.nextT {x : Exc} {f : List Addr} (h : XOk K mg E F H φ σ x ρ') (a : Ext F H (Om φ) F1 H1 (fun a => Om φ1 a ∨ a ∈ f)) : XOk K mg E F1 H1 φ1 σ x ρ' :=
  h.next (a.less fun _ q => .inl q)
/-- a step with a tree held beside -/
theorem Ext.tmp {f : List Addr} (a : Ext F H O F1 H1 (fun a => O1 a ∨ a ∈ f)) (hf : ∀ x ∈ f, Ob H1 x ∧ F1 x = none) (hd : ∀ x ∈ f, ¬ O1 x) (b : Ext F1 H1 O1 F2 H2 O2) :
    Ext F H O F2 H2 (fun a => O2 a ∨ a ∈ f) := a.trans (b.frame hf hd)
theorem Ext.drop {f : List Addr} (a : Ext F H O F1 H1 (fun a => O1 a ∨ a ∈ f)) : Ext F H O F1 H1 O1 := a.less fun _ q => .inl q
theorem Ext.nilT (a : Ext F H O F1 H1 O1) : Ext F H O F1 H1 (fun a => O1 a ∨ a ∈ ([] : List Addr)) := a.less fun x q => q.elim id fun z => by simp at z
/-- the heap grows by new things: f are the new addresses owned -/
structure Grow (F H F' H' : Hp) (f : List Addr) : Prop where
  mono : Sub F F'
  sub : Sub F' H'
  same : Sub H H'
  new : ∀ a o, F' a = some o → F a = some o ∨ Fre H a
  own : ∀ a ∈ f, H a = none
theorem Grow.refl (s : Sub F H) : Grow F H F H [] := ⟨fun _ _ h => h, s, fun _ _ h => h, fun _ _ h => .inl h, fun _ h => by simp at h⟩
theorem Grow.ext {f : List Addr} (g : Grow F H F1 H1 f) : Ext F H O F1 H1 (fun a => O a ∨ a ∈ f) :=
  ⟨g.mono, fun a o h => (g.new a o h).imp id .inl, fun a o h _ => g.same a o h, fun a h => h.imp id (g.own a)⟩
theorem Grow.ext0 {f : List Addr} (g : Grow F H F1 H1 f) : Ext F H O F1 H1 O :=
  ⟨g.mono, fun a o h => (g.new a o h).imp id .inl, fun a o h _ => g.same a o h, fun a h => .inl h⟩
theorem Grow.isN {f : List Addr} (g : Grow F H F1 H1 f) {a : Addr} (h1 : Ob H a) (h2 : F a = none) : F1 a = none := by
  cases e : F1 a with
  | none => rfl
  | some o =>
    rcases g.new a o e with h | h
    · rw [h2] at h; cases h
    · exact absurd h h1.not
theorem Grow.env {f : List Addr} (g : Grow F H F1 H1 f) (e : EnvOk K F H σ ρ φ) : EnvOk K F1 H1 σ ρ φ := by
  refine ⟨g.sub, e.len, fun i m h => ?_, e.dis, e.emp⟩
  obtain ⟨v, hv, r⟩ := e.rep i m h
  exact ⟨v, hv, r.keep (.of g.mono) (fun a _ o h => g.same a o h) fun a ha => g.isN (r.fp a ha).1 (r.fp a ha).2⟩
theorem Grow.off {f : List Addr} (g : Grow F H F1 H1 f) (e : EnvOk K F H σ ρ φ) : ∀ a ∈ f, ¬ Om φ a := fun a ha ⟨i, hi⟩ => by
  have hn := g.own a ha
  by_cases h : ∃ m, ρ[i]? = some (some m)
  · obtain ⟨m, hm⟩ := h
    obtain ⟨v, _, r⟩ := e.rep i m hm
    obtain ⟨⟨o, ho, _⟩, _⟩ := r.fp a hi
    rw [ho] at hn; cases hn
  · rw [e.emp i fun m hm => h ⟨m, hm⟩] at hi
    simp at hi
theorem EnvOk.tracked (e : EnvOk K F H σ ρ φ) {a : Addr} (h : Om φ a) : Ob H a ∧ F a = none := by
  obtain ⟨i, hi⟩ := h
  by_cases h : ∃ m, ρ[i]? = some (some m)
  · obtain ⟨m, hm⟩ := h
    obtain ⟨v, _, r⟩ := e.rep i m hm
    exact r.fp a hi
  · rw [e.emp i fun m hm => h ⟨m, hm⟩] at hi
    simp at hi
theorem Grow.rep {f g : List Addr} {v : V} {m : M} (g' : Grow F H F1 H1 f) (r : Rep K F H v m g) : Rep K F1 H1 v m g :=
  r.keep (.of g'.mono) (fun a _ o h => g'.same a o h) fun a ha => g'.isN (r.fp a ha).1 (r.fp a ha).2
theorem upd_sub {p : Addr} {o : HO} (h : H p = none) : Sub H (upd H p o) := fun a u e => by rw [upd_ne (ne_of_none e h)]; exact e
/-- a new object that is owned, its items frozen -/
theorem Grow.own1 {p : Addr} {o : HO} (s : Sub F H) (h : H p = none) : Grow F H F (upd H p o) [p] :=
  ⟨fun _ _ h => h, fun a u e => upd_sub h a u (s a u e), upd_sub h, fun _ _ h => .inl h, fun a ha => by simp at ha; subst ha; exact h⟩
/-- a new object that is frozen at once -/
theorem Grow.frz1 {p : Addr} {o : HO} (s : Sub F H) (h : H p = none) : Grow F H (upd F p o) (upd H p o) [] := by
  have hF : F p = none := by
    cases e : F p with
    | none => rfl
    | some u => rw [s p u e] at h; cases h
  refine ⟨upd_sub hF, fun a u e => ?_, upd_sub h, fun a u e => ?_, fun a ha => by simp at ha⟩
  · by_cases ha : a = p
    · subst ha; rw [upd_same] at e ⊢; exact e
    · rw [upd_ne ha] at e ⊢; exact s a u e
  · by_cases ha : a = p
    · subst ha; exact .inr (.inl h)
    · rw [upd_ne ha] at e; exact .inl e
theorem rep_leaf_fp {v : V} {d : PyData} {f : List Addr} (r : Rep K F H v (.leaf d) f) : f = [] := by cases r; rfl
theorem rep_leaf {v : V} {d : PyData} {f : List Addr} (r : Rep K F H v (.leaf d) f) : IsD K F d v := by cases r; assumption
/-- items all frozen, as own leaves -/
theorem reps_leaves : ∀ {ds : List PyData} {vs : List V}, IsDs K F ds vs → Reps K F H vs (ds.map M.leaf) []
  | [], vs, h => by unfold IsDs at h; subst h; exact .nil
  | d :: ds, vs, h => by
    unfold IsDs at h
    obtain ⟨v, r, rfl, h1, h2⟩ := h
    exact Reps.cons (.leaf h1) (reps_leaves h2) (fun a ha => by simp at ha)
end

/-! ### simple expressions -/
section
variable {X : Cx} {E : XK} {e a b c : Expr} {pos : Pos}
def qName (i : Nat) : Env' → Option M := fun ρ => (ρ[i]?).join
theorem qName_some {i : Nat} {ρ : Env'} {m : M} (h : qName i ρ = some m) : ρ[i]? = some (some m) := by
  unfold qName at h
  cases e : ρ[i]? with
  | none => rw [e] at h; cases h
  | some o => rw [e] at h; cases o with
    | none => cases h
    | some x => cases h; rfl
theorem dq_name {i : Nat} (h : PE X e (tVar i)) : DQ X e (qName i) := h.imp fun σ H Q ⟨F, ρ, φ, e, x, hx, q⟩ => by
  obtain ⟨v, hv, r⟩ := e.rep i x (qName_some hx)
  exact ⟨v, hv, q v _ r⟩
/-- a name whose tree is frozen where it stands -/
def mName (i : Nat) : Env' → R M := fun ρ => match qName i ρ with
  | some (.leaf d) => .ok (.leaf d) ρ
  | some m => match m.frz with
    | some d => .ok (.leaf d) (ρ.set i (some (.leaf d)))
    | none => .bad
  | none => .bad
theorem EnvOk.freezeAt {K : Frag} {F H : Hp} {σ : L2.St} {ρ : Env'} {φ : Nat → List Addr} {i : Nat} {m : M} {d : PyData} (e : EnvOk K F H σ ρ φ) (hm : ρ[i]? = some (some m)) (hd : m.frz = some d) :
    ∃ F' φ' v, σ[i]? = some (some v) ∧ IsD K F' d v ∧ EnvOk K F' H σ (ρ.set i (some (.leaf d))) φ' ∧ Ext F H (Om φ) F' H (Om φ') := by
  obtain ⟨v, hv, r⟩ := e.rep i m hm
  have hσ : σ.set i (some v) = σ := by
    apply List.ext_getElem?
    intro j
    by_cases hj : i = j
    · subst hj
      obtain ⟨hl, _⟩ := List.getElem?_eq_some_iff.mp hv
      rw [List.getElem?_set_self hl, hv]
    · rw [List.getElem?_set_ne hj]
  have hn : ∀ a ∈ φ i, F a = none := fun a ha => (r.fp a ha).2
  have e1 := e.drop i (some v)
  rw [hσ] at e1
  have hoff : ∀ a ∈ φ i, ¬ Om (fun j => if j = i then [] else φ j) a := fun a ha ⟨j, hj⟩ => by
    dsimp only at hj
    split at hj
    · simp at hj
    · rename_i hne; exact hne (e.dis j i a hj ha)
  have e2 := e1.freeze hoff hn
  have rd : IsD K (fz F H (φ i)) d v := r.frozen hd
  have e3 := e2.set (i := i) (v := v) (m := .leaf d) (f := []) (.leaf rd) (fun a ha => by simp at ha)
  rw [hσ, List.set_set] at e3
  refine ⟨_, _, v, hv, rd, e3, fz_mono hn, fun a o h => ?_, fun a o h _ => h, fun a h => ?_⟩
  · unfold fz at h
    split at h
    · rename_i ha; exact .inr (.inr ⟨i, ha⟩)
    · exact .inl h
  · rcases om_set h with h | h
    · exact .inl (om_drop h)
    · simp at h
theorem de_name {i : Nat} (h : PE X e (tVar i)) : DE X E e (mName i) := h.imp fun σ H Q ⟨F, ρ, φ, e, q⟩ => by
  unfold mName at q
  cases hx : qName i ρ with
  | none => rw [hx] at q; exact q.elim
  | some m =>
    rw [hx] at q
    have hm := qName_some hx
    have frz : ∀ d, m.frz = some d → (∀ F' H' φ' v f, EnvOk X.K F' H' σ (ρ.set i (some (.leaf d))) φ' → Rep X.K F' H' v (.leaf d) f → (∀ a ∈ f, ¬ Om φ' a) → Ext F H (Om φ) F' H' (fun a => Om φ' a ∨ a ∈ f) → Q v H') → tVar i σ H Q := fun d hd q => by
      obtain ⟨F', φ', v, hv, rd, e', x'⟩ := e.freezeAt hm hd
      exact ⟨v, hv, q F' H φ' v [] e' (.leaf rd) (fun a ha => by simp at ha) x'.nilT⟩
    cases m with
    | leaf d =>
      obtain ⟨v, hv, r⟩ := e.rep i _ hm
      exact ⟨v, hv, q F H φ v [] e (.leaf (rep_leaf r)) (fun a ha => by simp at ha) Ext.refl.nilT⟩
    | lst l =>
      dsimp only at q
      split at q
      · rename_i x d hd; split at hd
        · rename_i d' hd'; cases hd; exact frz _ hd' q
        · cases hd
      · rename_i hd; split at hd <;> cases hd
      · exact q.elim
    | dK l =>
      dsimp only at q
      split at q
      · rename_i x d hd; split at hd
        · rename_i d' hd'; cases hd; exact frz _ hd' q
        · cases hd
      · rename_i hd; split at hd <;> cases hd
      · exact q.elim
    | dT l =>
      dsimp only at q
      split at q
      · rename_i x d hd; split at hd
        · rename_i d' hd'; cases hd; exact frz _ hd' q
        · cases hd
      · rename_i hd; split at hd <;> cases hd
      · exact q.elim
    | ins C l =>
      simp only [M.frz] at q
    | ro l =>
      simp only [M.frz] at q
/-- a name whose tree is taken away (it is not asked again) -/
def mMove (i : Nat) : Env' → R M := fun ρ => match qName i ρ with
  | some m => .ok m (ρ.set i none)
  | none => .bad
theorem de_move {i : Nat} (h : PE X e (tVar i)) : DE X E e (mMove i) := h.imp fun σ H Q ⟨F, ρ, φ, e, q⟩ => by
  unfold mMove at q
  cases hx : qName i ρ with
  | none => rw [hx] at q; exact q.elim
  | some m =>
    rw [hx] at q
    obtain ⟨v, hv, r⟩ := e.rep i m (qName_some hx)
    have hσ : σ.set i (some v) = σ := by
      apply List.ext_getElem?
      intro j
      by_cases hj : i = j
      · subst hj
        obtain ⟨hl, _⟩ := List.getElem?_eq_some_iff.mp hv
        rw [List.getElem?_set_self hl, hv]
      · rw [List.getElem?_set_ne hj]
    have e1 := e.drop i (some v)
    rw [hσ] at e1
    refine ⟨v, hv, q F H _ v (φ i) e1 r (fun a ha ⟨j, hj⟩ => ?_) ⟨fun _ _ h => h, fun _ _ h => .inl h, fun _ _ h _ => h, fun a h => ?_⟩⟩
    · dsimp only at hj
      split at hj
      · simp at hj
      · rename_i hne; exact hne (e.dis j i a hj ha)
    · rcases h with h | h
      · exact .inl (om_drop h)
      · exact .inl ⟨i, h⟩
def qC (d : PyData) : Env' → Option M := fun _ => some (.leaf d)
def mC (d : PyData) : Env' → R M := fun ρ => .ok (.leaf d) ρ
theorem dq_c {v : V} {d : PyData} (h : PE X e (tC v)) (r : ∀ F, IsD X.K F d v) : DQ X e (qC d) := h.imp fun σ H Q ⟨F, ρ, φ, e, x, hx, q⟩ => by
  cases hx; exact q v [] (.leaf (r F))
theorem dq_int {i j pos} : DQ X (.Constant (.int i) j pos) (qC (.int i)) := dq_c pe_int fun F => by unfold IsD; rfl
theorem dq_bl {b j pos} : DQ X (.Constant (.bool b) j pos) (qC (.bool b)) := dq_c pe_bl fun F => by unfold IsD; rfl
theorem dq_non {j pos} : DQ X (.Constant .none j pos) (qC .none) := dq_c pe_non fun F => by unfold IsD; rfl
theorem dq_str {x j pos} : DQ X (.Constant (.str x) j pos) (qC (.str x)) := dq_c pe_str fun F => by unfold IsD; rfl
/-- what is read and frozen, as an expression -/
def mQ (q : Env' → Option M) : Env' → R M := fun ρ => match q ρ with
  | some (.leaf d) => .ok (.leaf d) ρ
  | _ => .bad
theorem de_q {q : Env' → Option M} (h : DQ X e q) : DE X E e (mQ q) := h.imp fun σ H Q ⟨F, ρ, φ, e, k⟩ => by
  unfold mQ at k
  split at k
  · rename_i x y ρ' hh
    split at hh
    · rename_i d hq
      cases hh
      exact ⟨F, ρ, φ, e, _, hq, fun v f r => k F H φ v f e r (fun a ha => by rw [rep_leaf_fp r] at ha; simp at ha) (by rw [rep_leaf_fp r]; exact Ext.refl.nilT)⟩
    · cases hh
  · rename_i hh; split at hh <;> cases hh
  · exact k.elim

/-! ### argument lists and displays -/
def mNil : Env' → R (List PyData) := fun ρ => .ok [] ρ
def mCons (m : Env' → R M) (ms : Env' → R (List PyData)) : Env' → R (List PyData) := fun ρ => (m ρ).bind fun x ρ1 => match x.frz with
  | some d => (ms ρ1).bind fun ds ρ2 => .ok (d :: ds) ρ2
  | none => .bad
theorem da_nil : DA X E 0 [] mNil := pa_nil.imp fun σ H Q ⟨F, ρ, φ, e, q⟩ => q F H φ [] e .nil rfl Ext.refl
theorem da_cons {n : Nat} {es : List Expr} {m : Env' → R M} {ms : Env' → R (List PyData)} (ha : DE X E a m) (hr : DA X E n es ms) (hs : starEach (a :: es) X.env = (false, eval a X.env) :: starEach es X.env := by rfl) : DA X E (n + 1) (a :: es) (mCons m ms) :=
  (pa_cons ha hr hs).imp fun σ H Q ⟨F, ρ, φ, e, q⟩ => by
    refine ⟨F, ρ, φ, e, ?_⟩
    unfold mCons at q
    cases hm : m ρ with
    | bad => rw [hm] at q; exact q.elim
    | err x ρ' => rw [hm] at q; exact q
    | ok x ρ1 =>
      rw [hm] at q
      simp only [R.bind_ok] at q
      intro F1 H1 φ1 v f e1 r1 d1 x1
      cases hz : x.frz with
      | none => rw [hz] at q; exact q.elim
      | some d =>
        rw [hz] at q
        simp only at q
        have hn : ∀ a ∈ f, F1 a = none := fun a ha => (r1.fp a ha).2
        have e2 := e1.freeze d1 hn
        have x2 := x1.freeze hn
        have rd := r1.frozen hz
        refine ⟨_, ρ1, φ1, e2, ?_⟩
        cases hm2 : ms ρ1 with
        | bad => rw [hm2] at q; exact q.elim
        | err x ρ' => rw [hm2] at q; exact q.next x2
        | ok ds ρ2 =>
          rw [hm2] at q
          intro F3 H3 φ3 vs e3 r3 hl x3
          exact q F3 H3 φ3 (v :: vs) e3 (.cons (rd.mono x3.mono) r3) (by simp [hl]) (x2.trans x3)
def mTup (ms : Env' → R (List PyData)) : Env' → R M := fun ρ => (ms ρ).bind fun ds ρ1 => .ok (.leaf (.tuple ds)) ρ1
def mLst (ms : Env' → R (List PyData)) : Env' → R M := fun ρ => (ms ρ).bind fun ds ρ1 => .ok (.lst (ds.map .leaf)) ρ1
theorem isD_tup {K : Frag} {F : Hp} {p : Addr} {vs : List V} {ds : List PyData} (h : F p = some (.tup vs)) (r : IsDs K F ds vs) : IsD K F (.tuple ds) (.ref p) := by
  unfold IsD; exact ⟨p, vs, rfl, h, r⟩
theorem isD_lst {K : Frag} {F : Hp} {p : Addr} {vs : List V} {ds : List PyData} (h : F p = some (.lst vs)) (r : IsDs K F ds vs) : IsD K F (.list ds) (.ref p) := by
  unfold IsD; exact ⟨p, vs, rfl, h, r⟩
theorem de_tup {n k : Nat} {es : List Expr} {ms : Env' → R (List PyData)} (h : DA X E n es ms) (hn : n ≤ 1000 := by decide) : DE X E (.Tuple es k pos) (mTup ms) :=
  (pe_tup h).imp fun σ H Q ⟨F, ρ, φ, e, q⟩ => by
    refine ⟨F, ρ, φ, e, ?_⟩
    unfold mTup at q
    cases hm : ms ρ with
    | bad => rw [hm] at q; exact q.elim
    | err x ρ' => rw [hm] at q; exact q
    | ok ds ρ1 =>
      rw [hm] at q
      intro F1 H1 φ1 vs e1 r1 hl x1
      refine ⟨Nat.le_trans (by omega) (show 1000 ≤ sizeLine by decide), fun p hp => ?_⟩
      have g : Grow F1 H1 (upd F1 p (.tup vs)) (upd H1 p (.tup vs)) [] := Grow.frz1 e1.sub hp
      exact q _ _ φ1 _ [] (g.env e1) (.leaf (isD_tup upd_same (r1.mono g.mono))) (fun a ha => by simp at ha) (x1.trans g.ext)
theorem de_lst {n k : Nat} {es : List Expr} {ms : Env' → R (List PyData)} (h : DA X E n es ms) (hn : n ≤ 1000 := by decide) : DE X E (.List es pos) (mLst ms) :=
  (pe_lst h).imp fun σ H Q ⟨F, ρ, φ, e, q⟩ => by
    refine ⟨F, ρ, φ, e, ?_⟩
    unfold mLst at q
    cases hm : ms ρ with
    | bad => rw [hm] at q; exact q.elim
    | err x ρ' => rw [hm] at q; exact q
    | ok ds ρ1 =>
      rw [hm] at q
      intro F1 H1 φ1 vs e1 r1 hl x1
      refine ⟨Nat.le_trans (by omega) (show 1000 ≤ sizeLine by decide), fun p hp => ?_⟩
      have g : Grow F1 H1 F1 (upd H1 p (.lst vs)) [p] := Grow.own1 e1.sub hp
      have hF : F1 p = none := by
        cases e : F1 p with
        | none => rfl
        | some u => rw [e1.sub p u e] at hp; cases hp
      exact q _ _ φ1 _ [p] (g.env e1) (.lst upd_same hF (reps_leaves r1) (by simp)) (g.off e1) (x1.trans g.ext)
end
end G
namespace G
open PySem PySem.Spec PyProof.Rows L2

/-! ### one and two holes -/
/-- what an operation asks of values, against a function of data: no heap changes -/
def R1S (K : Frag) (r : V → Hp → VK → Prop) (g : M → Option PyData) : Prop :=
  ∀ F H v x f d Q, Sub F H → Rep K F H v x f → g x = some d → (∀ v', IsD K F d v' → Q v' H) → r v H Q
def R2S (K : Frag) (r : V → V → Hp → VK → Prop) (g : M → M → Option PyData) : Prop :=
  ∀ F H v x f v2 x2 f2 d Q, Sub F H → Rep K F H v x f → Rep K F H v2 x2 f2 → g x x2 = some d → (∀ v', IsD K F d v' → Q v' H) → r v v2 H Q
/-- .. new things may be laid -/
def R1 (K : Frag) (r : V → Hp → VK → Prop) (g : M → Option M) : Prop :=
  ∀ F H v x f y Q, Sub F H → Rep K F H v x f → g x = some y → (∀ F' H' v' f', Grow F H F' H' f' → Rep K F' H' v' y f' → Q v' H') → r v H Q
def R2 (K : Frag) (r : V → V → Hp → VK → Prop) (g : M → M → Option M) : Prop :=
  ∀ F H v x f v2 x2 f2 y Q, Sub F H → Rep K F H v x f → Rep K F H v2 x2 f2 → g x x2 = some y → (∀ F' H' v' f', Grow F H F' H' f' → Rep K F' H' v' y f' → Q v' H') → r v v2 H Q
def lf (g : M → Option PyData) : M → Option M := fun x => (g x).map .leaf
def lf2 (g : M → M → Option PyData) : M → M → Option M := fun x y => (g x y).map .leaf
theorem R1S.up {K : Frag} {r g} (h : R1S K r g) : R1 K r (lf g) := fun F H v x f y Q s rx e q => by
  unfold lf at e
  rw [Option.map_eq_some_iff] at e
  obtain ⟨d, e, rfl⟩ := e
  exact h F H v x f d Q s rx e fun v' hv => q F H v' [] (.refl s) (.leaf hv)
theorem R2S.up {K : Frag} {r g} (h : R2S K r g) : R2 K r (lf2 g) := fun F H v x f v2 x2 f2 y Q s rx rx2 e q => by
  unfold lf2 at e
  rw [Option.map_eq_some_iff] at e
  obtain ⟨d, e, rfl⟩ := e
  exact h F H v x f v2 x2 f2 d Q s rx rx2 e fun v' hv => q F H v' [] (.refl s) (.leaf hv)

def q1 (g : M → Option PyData) (q : Env' → Option M) : Env' → Option M := fun ρ => match q ρ with
  | some x => lf g x
  | none => none
def q2 (g : M → M → Option PyData) (qa qb : Env' → Option M) : Env' → Option M := fun ρ => match qa ρ, qb ρ with
  | some x, some y => lf2 g x y
  | _, _ => none
def m1 (g : M → Option M) (m : Env' → R M) : Env' → R M := fun ρ => (m ρ).bind fun x ρ1 => match g x with
  | some y => .ok y ρ1
  | none => .bad
def m1q (g : M → Option M) (q : Env' → Option M) : Env' → R M := fun ρ => match q ρ with
  | some x => match g x with
    | some y => .ok y ρ
    | none => .bad
  | none => .bad
def m2 (g : M → M → Option M) (ma mb : Env' → R M) : Env' → R M := fun ρ => (ma ρ).bind fun x ρ1 => (mb ρ1).bind fun y ρ2 => match g x y with
  | some z => .ok z ρ2
  | none => .bad
def m2q (g : M → M → Option M) (qa qb : Env' → Option M) : Env' → R M := fun ρ => match qa ρ, qb ρ with
  | some x, some y => match g x y with
    | some z => .ok z ρ
    | none => .bad
  | _, _ => .bad
def m2eq (g : M → M → Option M) (ma : Env' → R M) (qb : Env' → Option M) : Env' → R M := fun ρ => (ma ρ).bind fun x ρ1 => match qb ρ1 with
  | some y => match g x y with
    | some z => .ok z ρ1
    | none => .bad
  | none => .bad
/-- the first one a name, whose tree is looked at when the second one has come -/
def m2l (g : M → M → Option M) (i : Nat) (mb : Env' → R M) : Env' → R M := fun ρ => match qName i ρ with
  | none => .bad
  | some _ => (mb ρ).bind fun y ρ1 => match qName i ρ1 with
    | some x => match g x y with
      | some z => .ok z ρ1
      | none => .bad
    | none => .bad

section
variable {X : Cx} {K : Frag} {mg : Str → Option Value} {E : XK} {e : Expr} {r : V → Hp → VK → Prop} {r2 : V → V → Hp → VK → Prop} {q qa qb : Env' → Option M} {m ma mb : Env' → R M}
theorem i_q1 {g : M → Option PyData} (hr : R1S K r g) (σ : L2.St) (H : Hp) (Q : VK) : tQ K (q1 g q) σ H Q → tQ K q σ H fun v H1 => r v H1 Q := fun ⟨F, ρ, φ, e, y, hy, k⟩ => by
  unfold q1 at hy
  split at hy
  · rename_i x hx
    unfold lf at hy
    rw [Option.map_eq_some_iff] at hy
    obtain ⟨d, hd, rfl⟩ := hy
    exact ⟨F, ρ, φ, e, x, hx, fun v f rx => hr F H v x f d Q e.sub rx hd fun v' hv => k v' [] (.leaf hv)⟩
  · cases hy
theorem i_q2 {g : M → M → Option PyData} (hr : R2S K r2 g) (σ : L2.St) (H : Hp) (Q : VK) : tQ K (q2 g qa qb) σ H Q → tQ K qa σ H fun v H1 => tQ K qb σ H1 fun u H2 => r2 v u H2 Q := fun ⟨F, ρ, φ, e, y, hy, k⟩ => by
  unfold q2 at hy
  split at hy
  · rename_i x x2 hx hx2
    unfold lf2 at hy
    rw [Option.map_eq_some_iff] at hy
    obtain ⟨d, hd, rfl⟩ := hy
    exact ⟨F, ρ, φ, e, x, hx, fun v f rx => ⟨F, ρ, φ, e, x2, hx2, fun v2 f2 rx2 => hr F H v x f v2 x2 f2 d Q e.sub rx rx2 hd fun v' hv => k v' [] (.leaf hv)⟩⟩
  · cases hy
theorem i_1 {g : M → Option M} (hr : R1 K r g) (σ : L2.St) (H : Hp) (Q : VK) : tE K mg E (m1 g m) σ H Q → tE K mg E m σ H fun v H1 => r v H1 Q := fun ⟨F, ρ, φ, e, k⟩ => by
  refine ⟨F, ρ, φ, e, ?_⟩
  unfold m1 at k
  cases hm : m ρ with
  | bad => rw [hm] at k; exact k.elim
  | err x ρ' => rw [hm] at k; exact k
  | ok x ρ1 =>
    rw [hm] at k
    simp only [R.bind_ok] at k
    intro F1 H1 φ1 v f e1 r1 d1 x1
    cases hg : g x with
    | none => rw [hg] at k; exact k.elim
    | some y =>
      rw [hg] at k
      refine hr F1 H1 v x f y Q e1.sub r1 hg fun F2 H2 v2 f2 gr r2 => ?_
      exact k F2 H2 φ1 v2 f2 (gr.env e1) r2 (gr.off e1) (x1.drop.trans gr.ext)
theorem i_1q {g : M → Option M} (hr : R1 K r g) (σ : L2.St) (H : Hp) (Q : VK) : tE K mg E (m1q g q) σ H Q → tQ K q σ H fun v H1 => r v H1 Q := fun ⟨F, ρ, φ, e, k⟩ => by
  unfold m1q at k
  cases hq : q ρ with
  | none => rw [hq] at k; exact k.elim
  | some x =>
    rw [hq] at k
    dsimp only at k
    cases hg : g x with
    | none => rw [hg] at k; exact k.elim
    | some y =>
      rw [hg] at k
      refine ⟨F, ρ, φ, e, x, hq, fun v f rx => hr F H v x f y Q e.sub rx hg fun F2 H2 v2 f2 gr r2 => ?_⟩
      exact k F2 H2 φ v2 f2 (gr.env e) r2 (gr.off e) gr.ext
theorem i_2 {g : M → M → Option M} (hr : R2 K r2 g) (σ : L2.St) (H : Hp) (Q : VK) : tE K mg E (m2 g ma mb) σ H Q → tE K mg E ma σ H fun v H1 => tE K mg E mb σ H1 fun u H2 => r2 v u H2 Q := fun ⟨F, ρ, φ, e, k⟩ => by
  refine ⟨F, ρ, φ, e, ?_⟩
  unfold m2 at k
  cases hm : ma ρ with
  | bad => rw [hm] at k; exact k.elim
  | err x ρ' => rw [hm] at k; exact k
  | ok x ρ1 =>
    rw [hm] at k
    simp only [R.bind_ok] at k
    intro F1 H1 φ1 v f e1 r1 d1 x1
    refine ⟨F1, ρ1, φ1, e1, ?_⟩
    cases hm2 : mb ρ1 with
    | bad => rw [hm2] at k; exact k.elim
    | err x ρ' => rw [hm2] at k; exact k.next x1.drop
    | ok y ρ2 =>
      rw [hm2] at k
      simp only [R.bind_ok] at k
      intro F2 H2 φ2 u f2 e2 r2' d2 x2
      cases hg : g x y with
      | none => rw [hg] at k; exact k.elim
      | some z =>
        rw [hg] at k
        obtain ⟨r1', d1'⟩ := r1.ext x2.drop d1
        refine hr F2 H2 v x f u y f2 z Q e2.sub r1' r2' hg fun F3 H3 v3 f3 gr r3 => ?_
        exact k F3 H3 φ2 v3 f3 (gr.env e2) r3 (gr.off e2) ((x1.drop.trans x2.drop).trans gr.ext)
theorem i_2q {g : M → M → Option M} (hr : R2 K r2 g) (σ : L2.St) (H : Hp) (Q : VK) : tE K mg E (m2q g qa qb) σ H Q → tQ K qa σ H fun v H1 => tQ K qb σ H1 fun u H2 => r2 v u H2 Q := fun ⟨F, ρ, φ, e, k⟩ => by
  unfold m2q at k
  cases hq : qa ρ with
  | none => rw [hq] at k; exact k.elim
  | some x =>
    rw [hq] at k
    cases hq2 : qb ρ with
    | none => rw [hq2] at k; exact k.elim
    | some y =>
      rw [hq2] at k
      dsimp only at k
      cases hg : g x y with
      | none => rw [hg] at k; exact k.elim
      | some z =>
        rw [hg] at k
        refine ⟨F, ρ, φ, e, x, hq, fun v f rx => ⟨F, ρ, φ, e, y, hq2, fun v2 f2 rx2 => hr F H v x f v2 y f2 z Q e.sub rx rx2 hg fun F3 H3 v3 f3 gr r3 => ?_⟩⟩
        exact k F3 H3 φ v3 f3 (gr.env e) r3 (gr.off e) gr.ext
theorem i_2eq {g : M → M → Option M} (hr : R2 K r2 g) (σ : L2.St) (H : Hp) (Q : VK) : tE K mg E (m2eq g ma qb) σ H Q → tE K mg E ma σ H fun v H1 => tQ K qb σ H1 fun u H2 => r2 v u H2 Q := fun ⟨F, ρ, φ, e, k⟩ => by
  refine ⟨F, ρ, φ, e, ?_⟩
  unfold m2eq at k
  cases hm : ma ρ with
  | bad => rw [hm] at k; exact k.elim
  | err x ρ' => rw [hm] at k; exact k
  | ok x ρ1 =>
    rw [hm] at k
    simp only [R.bind_ok] at k
    intro F1 H1 φ1 v f e1 r1 d1 x1
    cases hq : qb ρ1 with
    | none => rw [hq] at k; exact k.elim
    | some y =>
      rw [hq] at k
      dsimp only at k
      cases hg : g x y with
      | none => rw [hg] at k; exact k.elim
      | some z =>
        rw [hg] at k
        refine ⟨F1, ρ1, φ1, e1, y, hq, fun v2 f2 rx2 => hr F1 H1 v x f v2 y f2 z Q e1.sub r1 rx2 hg fun F3 H3 v3 f3 gr r3 => ?_⟩
        exact k F3 H3 φ1 v3 f3 (gr.env e1) r3 (gr.off e1) (x1.drop.trans gr.ext)
theorem i_2l {g : M → M → Option M} {i : Nat} (hr : R2 K r2 g) (σ : L2.St) (H : Hp) (Q : VK) : tE K mg E (m2l g i mb) σ H Q → tVar i σ H fun v H1 => tE K mg E mb σ H1 fun u H2 => r2 v u H2 Q := fun ⟨F, ρ, φ, e, k⟩ => by
  unfold m2l at k
  cases hq0 : qName i ρ with
  | none => rw [hq0] at k; exact k.elim
  | some x0 =>
  rw [hq0] at k
  dsimp only at k
  obtain ⟨v, hv, _⟩ := e.rep i x0 (qName_some hq0)
  refine ⟨v, hv, F, ρ, φ, e, ?_⟩
  cases hm2 : mb ρ with
  | bad => rw [hm2] at k; exact k.elim
  | err x ρ' => rw [hm2] at k; exact k
  | ok y ρ2 =>
    rw [hm2] at k
    simp only [R.bind_ok] at k
    intro F2 H2 φ2 u f2 e2 r2' d2 x2
    cases hq : qName i ρ2 with
    | none => rw [hq] at k; exact k.elim
    | some x =>
      rw [hq] at k
      dsimp only at k
      cases hg : g x y with
      | none => rw [hg] at k; exact k.elim
      | some z =>
        rw [hg] at k
        obtain ⟨v', hv', rx⟩ := e2.rep i x (qName_some hq)
        rw [hv] at hv'; cases hv'
        refine hr F2 H2 v x _ u y f2 z Q e2.sub rx r2' hg fun F3 H3 v3 f3 gr r3 => ?_
        exact k F3 H3 φ2 v3 f3 (gr.env e2) r3 (gr.off e2) (x2.drop.trans gr.ext)

/-! ### tests -/
/-- a value that is True or False, as a test -/
def mTest (m : Env' → R M) : Env' → R Bool := fun ρ => (m ρ).bind fun x ρ1 => match x with
  | .leaf (.bool b) => .ok b ρ1
  | _ => .bad
theorem i_test {t : TE} (i : ∀ σ H Q, tE K mg E m σ H Q → t σ H Q) (σ : L2.St) (H : Hp) (Q : Bool → Hp → Prop) : tB' K mg E (mTest m) σ H Q → tTest t σ H Q := fun ⟨F, ρ, φ, e, k⟩ => by
  refine i σ H _ ⟨F, ρ, φ, e, ?_⟩
  unfold mTest at k
  cases hm : m ρ with
  | bad => rw [hm] at k; exact k.elim
  | err x ρ' => rw [hm] at k; exact k
  | ok x ρ1 =>
    rw [hm] at k
    simp only [R.bind_ok] at k
    intro F1 H1 φ1 v f e1 r1 d1 x1
    split at k
    · rename_i b ρ' hh
      split at hh
      · rename_i b'
        cases hh
        have := rep_leaf r1
        unfold IsD at this
        exact ⟨b, this, k F1 H1 φ1 e1 x1.drop⟩
      · cases hh
    · rename_i hh; split at hh <;> cases hh
    · exact k.elim
theorem i_testQ {t : TE} {q : Env' → Option M} (i : ∀ σ H Q, tQ K q σ H Q → t σ H Q) (σ : L2.St) (H : Hp) (Q : Bool → Hp → Prop) : tB' K mg E (mTest (mQ q)) σ H Q → tTest t σ H Q := fun ⟨F, ρ, φ, e, k⟩ => by
  unfold mTest mQ at k
  cases hq : q ρ with
  | none => rw [hq] at k; exact k.elim
  | some x =>
    rw [hq] at k
    cases x with
    | leaf d =>
      cases d with
      | bool b =>
        refine i σ H _ ⟨F, ρ, φ, e, _, hq, fun v f r => ?_⟩
        have := rep_leaf r
        unfold IsD at this
        exact ⟨b, this, k F H φ e Ext.refl⟩
      | _ => exact k.elim
    | _ => exact k.elim
theorem dt_val {e : Expr} (h : DE X E e m) (he : ∀ whole, isTrue e X.env whole = (do let v ← whole; standAt e.pos; holding [v] (truthy v)) := by intro _; rfl) : DT X E e (mTest m) :=
  (pt_val h he).imp fun σ H Q => i_test (t := tE X.K X.mg E m) (fun _ _ _ z => z) σ H Q
def mAndT (ma mb : Env' → R Bool) : Env' → R Bool := fun ρ => (ma ρ).bind fun b ρ1 => bif b then mb ρ1 else .ok false ρ1
def mOrT (ma mb : Env' → R Bool) : Env' → R Bool := fun ρ => (ma ρ).bind fun b ρ1 => bif b then .ok true ρ1 else mb ρ1
def mNotT (ma : Env' → R Bool) : Env' → R Bool := fun ρ => (ma ρ).bind fun b ρ1 => .ok (!b) ρ1
variable {ba bb : Env' → R Bool} {a b c : Expr} {rest : List Expr} {pos : Pos}
theorem i_bind {f : Bool → Env' → R Bool} {u : Bool → TT} (hu : ∀ b σ H Q, tB' K mg E (f b) σ H Q → u b σ H Q) (σ : L2.St) (H : Hp) (Q : Bool → Hp → Prop) :
    tB' K mg E (fun ρ => (ba ρ).bind fun b ρ1 => f b ρ1) σ H Q → tB' K mg E ba σ H fun b H1 => u b σ H1 Q := fun ⟨F, ρ, φ, e, k⟩ => by
  dsimp only at k
  refine ⟨F, ρ, φ, e, ?_⟩
  cases hm : ba ρ with
  | bad => rw [hm] at k; exact k.elim
  | err x ρ' => rw [hm] at k; exact k
  | ok b ρ1 =>
    rw [hm] at k
    simp only [R.bind_ok] at k
    intro F1 H1 φ1 e1 x1
    refine hu b σ H1 Q ⟨F1, ρ1, φ1, e1, ?_⟩
    cases hf : f b ρ1 with
    | bad => rw [hf] at k; exact k.elim
    | err x ρ' => rw [hf] at k; exact k.next x1
    | ok b' ρ2 =>
      rw [hf] at k
      intro F2 H2 φ2 e2 x2
      exact k F2 H2 φ2 e2 (x1.trans x2)
theorem i_okB {b : Bool} (σ : L2.St) (H : Hp) (Q : Bool → Hp → Prop) : tB' K mg E (fun ρ => .ok b ρ) σ H Q → Q b H := fun ⟨F, ρ, φ, e, k⟩ => k F H φ e Ext.refl
theorem dw_and1 (ha : DT X E a ba) : DW X E (.BoolOp .And [a] pos) ba := pw_and1 ha
theorem dw_or1 (ha : DT X E a ba) : DW X E (.BoolOp .Or [a] pos) ba := pw_or1 ha
theorem dw_and (ha : DT X E a ba) (hb : DW X E (.BoolOp .And (b :: rest) pos) bb) : DW X E (.BoolOp .And (a :: b :: rest) pos) (mAndT ba bb) :=
  (pw_and ha hb).imp fun σ H Q h => i_bind (f := fun b ρ1 => bif b then bb ρ1 else .ok false ρ1) (u := fun b σ H Q => if b = true then tB' X.K X.mg E bb σ H Q else Q false H)
    (fun b σ H Q z => by cases b with
      | true => exact z
      | false => exact i_okB σ H Q z) σ H Q h
theorem dw_or (ha : DT X E a ba) (hb : DW X E (.BoolOp .Or (b :: rest) pos) bb) : DW X E (.BoolOp .Or (a :: b :: rest) pos) (mOrT ba bb) :=
  (pw_or ha hb).imp fun σ H Q h => i_bind (f := fun b ρ1 => bif b then .ok true ρ1 else bb ρ1) (u := fun b σ H Q => if b = true then Q true H else tB' X.K X.mg E bb σ H Q)
    (fun b σ H Q z => by cases b with
      | false => exact z
      | true => exact i_okB σ H Q z) σ H Q h
theorem dt_bool (h : DW X E a ba) : DT X E a ba := h.pt
theorem dt_not (ha : DT X E a ba) : DT X E (.UnaryOp .Not a pos) (mNotT ba) :=
  (pt_not ha).imp fun σ H Q h => i_bind (f := fun b ρ1 => .ok (!b) ρ1) (u := fun b σ H Q => Q (!b) H) (fun b σ H Q z => i_okB σ H Q z) σ H Q h
/-! .. as values -/
def mAnd (ma mb : Env' → R M) : Env' → R M := fun ρ => (mTest ma ρ).bind fun b ρ1 => bif b then mb ρ1 else .ok (.leaf (.bool false)) ρ1
def mOr (ma mb : Env' → R M) : Env' → R M := fun ρ => (mTest ma ρ).bind fun b ρ1 => bif b then .ok (.leaf (.bool true)) ρ1 else mb ρ1
def mNot (ma : Env' → R M) : Env' → R M := fun ρ => (mTest ma ρ).bind fun b ρ1 => .ok (.leaf (.bool (!b))) ρ1
def mIf (c : Env' → R Bool) (ma mb : Env' → R M) : Env' → R M := fun ρ => (c ρ).bind fun b ρ1 => bif b then ma ρ1 else mb ρ1
theorem i_bindE {f : Bool → Env' → R M} {u : Bool → TE} (hu : ∀ b σ H Q, tE K mg E (f b) σ H Q → u b σ H Q) (σ : L2.St) (H : Hp) (Q : VK) :
    tE K mg E (fun ρ => (ba ρ).bind fun b ρ1 => f b ρ1) σ H Q → tB' K mg E ba σ H fun b H1 => u b σ H1 Q := fun ⟨F, ρ, φ, e, k⟩ => by
  dsimp only at k
  refine ⟨F, ρ, φ, e, ?_⟩
  cases hm : ba ρ with
  | bad => rw [hm] at k; exact k.elim
  | err x ρ' => rw [hm] at k; exact k
  | ok b ρ1 =>
    rw [hm] at k
    simp only [R.bind_ok] at k
    intro F1 H1 φ1 e1 x1
    refine hu b σ H1 Q ⟨F1, ρ1, φ1, e1, ?_⟩
    cases hf : f b ρ1 with
    | bad => rw [hf] at k; exact k.elim
    | err x ρ' => rw [hf] at k; exact k.next x1
    | ok b' ρ2 =>
      rw [hf] at k
      intro F2 H2 φ2 v f e2 r2 d2 x2
      exact k F2 H2 φ2 v f e2 r2 d2 (x1.trans x2)
theorem i_okE {d : PyData} {v : V} (σ : L2.St) (H : Hp) (Q : VK) (hv : ∀ F, IsD K F d v) : tE K mg E (fun ρ => .ok (.leaf d) ρ) σ H Q → Q v H := fun ⟨F, ρ, φ, e, k⟩ => k F H φ v [] e (.leaf (hv F)) (fun a ha => by simp at ha) Ext.refl.nilT
theorem isD_bl {K : Frag} (b : Bool) (F : Hp) : IsD K F (.bool b) (.bl b) := by unfold IsD; rfl
theorem de_and1 {op} (ha : DE X E a m) : DE X E (.BoolOp op [a] pos) m := pe_one ha
theorem de_and (ha : DE X E a ma) (hb : DE X E (.BoolOp .And (b :: rest) pos) mb) : DE X E (.BoolOp .And (a :: b :: rest) pos) (mAnd ma mb) :=
  (pe_and ha hb).imp fun σ H Q h => by
    have h2 := i_bindE (f := fun b ρ1 => bif b then mb ρ1 else .ok (.leaf (.bool false)) ρ1) (u := fun b σ H Q => if b = true then tE X.K X.mg E mb σ H Q else Q (.bl false) H)
      (fun b σ H Q z => by cases b with
        | true => exact z
        | false => exact i_okE (d := .bool false) σ H Q (isD_bl _) z) σ H Q h
    exact i_test (t := tE X.K X.mg E ma) (fun _ _ _ z => z) σ H _ h2
theorem de_or (ha : DE X E a ma) (hb : DE X E (.BoolOp .Or (b :: rest) pos) mb) : DE X E (.BoolOp .Or (a :: b :: rest) pos) (mOr ma mb) :=
  (pe_or ha hb).imp fun σ H Q h => by
    have h2 := i_bindE (f := fun b ρ1 => bif b then .ok (.leaf (.bool true)) ρ1 else mb ρ1) (u := fun b σ H Q => if b = true then Q (.bl true) H else tE X.K X.mg E mb σ H Q)
      (fun b σ H Q z => by cases b with
        | false => exact z
        | true => exact i_okE (d := .bool true) σ H Q (isD_bl _) z) σ H Q h
    exact i_test (t := tE X.K X.mg E ma) (fun _ _ _ z => z) σ H _ h2
theorem de_not (ha : DE X E a m) : DE X E (.UnaryOp .Not a pos) (mNot m) :=
  (pe_not ha).imp fun σ H Q h => by
    have h2 := i_bindE (f := fun b ρ1 => .ok (.leaf (.bool (!b))) ρ1) (u := fun b σ H Q => Q (.bl (!b)) H) (fun b σ H Q z => i_okE (d := .bool (!b)) σ H Q (isD_bl _) z) σ H Q h
    exact i_test (t := tE X.K X.mg E m) (fun _ _ _ z => z) σ H _ h2
theorem de_if (hc : DT X E c ba) (ha : DE X E a ma) (hb : DE X E b mb) : DE X E (.IfExp c a b pos) (mIf ba ma mb) :=
  (pe_ifExp hc ha hb).imp fun σ H Q h => i_bindE (f := fun b ρ1 => bif b then ma ρ1 else mb ρ1) (u := fun b σ H Q => if b = true then tE X.K X.mg E ma σ H Q else tE X.K X.mg E mb σ H Q)
    (fun b σ H Q z => by cases b <;> exact z) σ H Q h

/-! ### operators and comparisons by their rules -/
theorem dq_op {op : Operator} {g : M → M → Option PyData} (ho : OpR X (binaryOp op) r2) (hr : R2S X.K r2 g) (ha : DQ X a qa) (hb : DQ X b qb) : DQ X (.BinOp a op b pos) (q2 g qa qb) := (pe_op ho ha hb).imp fun σ H Q h => i_q2 hr σ H Q h
theorem de_op {op : Operator} {g : M → M → Option M} (ho : OpR X (binaryOp op) r2) (hr : R2 X.K r2 g) (ha : DE X E a ma) (hb : DE X E b mb) : DE X E (.BinOp a op b pos) (m2 g ma mb) := (pe_op ho ha hb).imp fun σ H Q h => i_2 hr σ H Q h
theorem de_opq {op : Operator} {g : M → M → Option M} (ho : OpR X (binaryOp op) r2) (hr : R2 X.K r2 g) (ha : DQ X a qa) (hb : DQ X b qb) : DE X E (.BinOp a op b pos) (m2q g qa qb) := (pe_op ho ha hb).imp fun σ H Q h => i_2q hr σ H Q h
theorem de_opl {op : Operator} {g : M → M → Option M} {i : Nat} (ho : OpR X (binaryOp op) r2) (hr : R2 X.K r2 g) (ha : PE X a (tVar i)) (hb : DE X E b mb) : DE X E (.BinOp a op b pos) (m2l g i mb) := (pe_op ho ha hb).imp fun σ H Q h => i_2l hr σ H Q h
theorem de_opeq {op : Operator} {g : M → M → Option M} (ho : OpR X (binaryOp op) r2) (hr : R2 X.K r2 g) (ha : DE X E a ma) (hb : DQ X b qb) : DE X E (.BinOp a op b pos) (m2eq g ma qb) := (pe_op ho ha hb).imp fun σ H Q h => i_2eq hr σ H Q h
theorem dq_cmp {op : CmpOp} {g : M → M → Option PyData} (ho : OpR X (compareOp op) r2) (hr : R2S X.K r2 g) (ha : DQ X a qa) (hb : DQ X b qb) (hm : behindInMarks op b = false) : DQ X (.Compare a [op] [b] pos) (q2 g qa qb) := (pe_cmpR ho ha hb hm).imp fun σ H Q h => i_q2 hr σ H Q h
theorem dt_cmpq {op : CmpOp} {g : M → M → Option PyData} (ho : OpR X (compareOp op) r2) (hr : R2S X.K r2 g) (ha : DQ X a qa) (hb : DQ X b qb) (hm : behindInMarks op b = false) : DT X E (.Compare a [op] [b] pos) (mTest (mQ (q2 g qa qb))) := (pt_cmpR ho ha hb hm).imp fun σ H Q h => i_testQ (fun σ H Q h => i_q2 hr σ H Q h) σ H Q h
theorem de_cmp {op : CmpOp} {g : M → M → Option M} (ho : OpR X (compareOp op) r2) (hr : R2 X.K r2 g) (ha : DE X E a ma) (hb : DE X E b mb) (hm : behindInMarks op b = false) : DE X E (.Compare a [op] [b] pos) (m2 g ma mb) := (pe_cmpR ho ha hb hm).imp fun σ H Q h => i_2 hr σ H Q h
theorem dt_cmp {op : CmpOp} {g : M → M → Option M} (ho : OpR X (compareOp op) r2) (hr : R2 X.K r2 g) (ha : DE X E a ma) (hb : DE X E b mb) (hm : behindInMarks op b = false) : DT X E (.Compare a [op] [b] pos) (mTest (m2 g ma mb)) := (pt_cmpR ho ha hb hm).imp fun σ H Q h => i_test (fun σ H Q h => i_2 hr σ H Q h) σ H Q h
theorem de_cmpl {op : CmpOp} {g : M → M → Option M} {i : Nat} (ho : OpR X (compareOp op) r2) (hr : R2 X.K r2 g) (ha : PE X a (tVar i)) (hb : DE X E b mb) (hm : behindInMarks op b = false) : DE X E (.Compare a [op] [b] pos) (m2l g i mb) := (pe_cmpR ho ha hb hm).imp fun σ H Q h => i_2l hr σ H Q h
theorem dt_cmpl {op : CmpOp} {g : M → M → Option M} {i : Nat} (ho : OpR X (compareOp op) r2) (hr : R2 X.K r2 g) (ha : PE X a (tVar i)) (hb : DE X E b mb) (hm : behindInMarks op b = false) : DT X E (.Compare a [op] [b] pos) (mTest (m2l g i mb)) := (pt_cmpR ho ha hb hm).imp fun σ H Q h => i_test (fun σ H Q h => i_2l hr σ H Q h) σ H Q h
theorem de_cmpeq {op : CmpOp} {g : M → M → Option M} (ho : OpR X (compareOp op) r2) (hr : R2 X.K r2 g) (ha : DE X E a ma) (hb : DQ X b qb) (hm : behindInMarks op b = false) : DE X E (.Compare a [op] [b] pos) (m2eq g ma qb) := (pe_cmpR ho ha hb hm).imp fun σ H Q h => i_2eq hr σ H Q h
theorem dt_cmpeq {op : CmpOp} {g : M → M → Option M} (ho : OpR X (compareOp op) r2) (hr : R2 X.K r2 g) (ha : DE X E a ma) (hb : DQ X b qb) (hm : behindInMarks op b = false) : DT X E (.Compare a [op] [b] pos) (mTest (m2eq g ma qb)) := (pt_cmpR ho ha hb hm).imp fun σ H Q h => i_test (fun σ H Q h => i_2eq hr σ H Q h) σ H Q h
theorem dq_un {op : UnaryOp} {g : M → Option PyData} (ho : UnR X (unaryOp op) r) (hr : R1S X.K r g) (ha : DQ X a q) : DQ X (.UnaryOp op a pos) (q1 g q) := (pe_un ho ha).imp fun σ H Q h => i_q1 hr σ H Q h
theorem de_un {op : UnaryOp} {g : M → Option M} (ho : UnR X (unaryOp op) r) (hr : R1 X.K r g) (ha : DE X E a m) : DE X E (.UnaryOp op a pos) (m1 g m) := (pe_un ho ha).imp fun σ H Q h => i_1 hr σ H Q h
/-- a op1 b op2 c, all three read off -/
def qCh (g g' : M → M → Option PyData) (qa qb qc : Env' → Option M) : Env' → Option M := fun ρ => match qa ρ, qb ρ with
  | some x, some y => match g x y with
    | some (.bool true) => match qc ρ with
      | some z => lf2 g' y z
      | none => none
    | some (.bool false) => some (.leaf (.bool false))
    | _ => none
  | _, _ => none
theorem i_chain {r2' : V → V → Hp → VK → Prop} {g g' : M → M → Option PyData} {qc : Env' → Option M} (hr : R2S K r2 g) (hr' : R2S K r2' g') (σ : L2.St) (H : Hp) (Q : VK) : tQ K (qCh g g' qa qb qc) σ H Q → tChain r2 r2' (tQ K qa) (tQ K qb) (tQ K qc) σ H Q := fun ⟨F, ρ, φ, e, y, hy, k⟩ => by
  unfold qCh at hy
  split at hy
  · rename_i x y' hx hy'
    split at hy
    · rename_i hg
      split at hy
      · rename_i z hz
        unfold lf2 at hy
        rw [Option.map_eq_some_iff] at hy
        obtain ⟨d, hd, rfl⟩ := hy
        refine ⟨F, ρ, φ, e, x, hx, fun v f rx => ⟨F, ρ, φ, e, y', hy', fun v2 f2 rx2 => hr F H v x f v2 y' f2 _ _ e.sub rx rx2 hg fun v' hv => ?_⟩⟩
        unfold IsD at hv
        refine ⟨true, hv, ?_⟩
        rw [if_pos rfl]
        exact ⟨F, ρ, φ, e, z, hz, fun v3 f3 rx3 => hr' F H v2 y' f2 v3 z f3 d Q e.sub rx2 rx3 hd fun v' hv => k v' [] (.leaf hv)⟩
      · cases hy
    · rename_i hg
      cases hy
      refine ⟨F, ρ, φ, e, x, hx, fun v f rx => ⟨F, ρ, φ, e, y', hy', fun v2 f2 rx2 => hr F H v x f v2 y' f2 _ _ e.sub rx rx2 hg fun v' hv => ?_⟩⟩
      unfold IsD at hv
      refine ⟨false, hv, ?_⟩
      rw [if_neg Bool.false_ne_true]
      exact k _ [] (.leaf (isD_bl false F))
    · cases hy
  · cases hy
theorem dq_chain {op op' : CmpOp} {r2' : V → V → Hp → VK → Prop} {g g' : M → M → Option PyData} {qc : Env' → Option M} (ho : OpR X (compareOp op) r2) (hr : R2S X.K r2 g) (ho' : OpR X (compareOp op') r2') (hr' : R2S X.K r2' g') (ha : DQ X a qa) (hb : DQ X b qb) (hc : DQ X c qc)
    (hm : lastMarks [op, op'] [b, c] = false := by with_unfolding_all rfl) : DQ X (.Compare a [op, op'] [b, c] pos) (qCh g g' qa qb qc) := (pe_chain ho ho' ha hb hc hm).imp fun σ H Q h => i_chain hr hr' σ H Q h
theorem dt_chain {op op' : CmpOp} {r2' : V → V → Hp → VK → Prop} {g g' : M → M → Option PyData} {qc : Env' → Option M} (ho : OpR X (compareOp op) r2) (hr : R2S X.K r2 g) (ho' : OpR X (compareOp op') r2') (hr' : R2S X.K r2' g') (ha : DQ X a qa) (hb : DQ X b qb) (hc : DQ X c qc)
    (hm : lastMarks [op, op'] [b, c] = false := by with_unfolding_all rfl) : DT X E (.Compare a [op, op'] [b, c] pos) (mTest (mQ (qCh g g' qa qb qc))) := (pt_chain ho ho' ha hb hc hm).imp fun σ H Q h => i_testQ (fun σ H Q h => i_chain hr hr' σ H Q h) σ H Q h
end
end G
namespace G
open PySem PySem.Spec PyProof.Rows L2

/-! ### statements -/
inductive O where
  | next (ρ : Env')
  | ret (x : M) (ρ : Env')
  | brk (ρ : Env')
  | cont (ρ : Env')
  | err (x : Exc) (ρ : Env')
  | bad
/-- the slots that are kept as they are (what is handed in by reference) -/
def Pin (J : List Nat) (σ σ' : L2.St) : Prop := ∀ j ∈ J, σ'[j]? = σ[j]?
theorem Pin.refl {J : List Nat} {σ : L2.St} : Pin J σ σ := fun _ _ => rfl
theorem Pin.trans {J : List Nat} {σ σ1 σ2 : L2.St} (a : Pin J σ σ1) (b : Pin J σ1 σ2) : Pin J σ σ2 := fun j h => (b j h).trans (a j h)
theorem Pin.set {J : List Nat} {σ : L2.St} {i : Nat} {o : Option V} (h : i ∉ J) : Pin J σ (σ.set i o) := fun j hj => by
  rw [List.getElem?_set_ne (by rintro rfl; exact h hj)]
def tO (K : Frag) (mg : Str → Option Value) (E : XK) (J : List Nat) (F H : Hp) (φ : Nat → List Addr) (σ : L2.St) (o : O) (D : Ends) : Prop := match o with
  | .next ρ' => ∀ F' H' φ' σ', EnvOk K F' H' σ' ρ' φ' → Ext F H (Om φ) F' H' (Om φ') → Pin J σ σ' → D.nx σ' H'
  | .brk ρ' => ∀ F' H' φ' σ', EnvOk K F' H' σ' ρ' φ' → Ext F H (Om φ) F' H' (Om φ') → Pin J σ σ' → D.bk σ' H'
  | .cont ρ' => ∀ F' H' φ' σ', EnvOk K F' H' σ' ρ' φ' → Ext F H (Om φ) F' H' (Om φ') → Pin J σ σ' → D.ct σ' H'
  | .ret x ρ' => ∀ F' H' φ' σ' v f, EnvOk K F' H' σ' ρ' φ' → Rep K F' H' v x f → (∀ a ∈ f, ¬ Om φ' a) → Ext F H (Om φ) F' H' (fun a => Om φ' a ∨ a ∈ f) → Pin J σ σ' → D.rt v H'
  | .err x ρ' => ∀ F' H' φ' σ' c d, EnvOk K F' H' σ' ρ' φ' → XRep K mg F' H' c d x → Ext F H (Om φ) F' H' (Om φ') → Pin J σ σ' → E c d H'
  | .bad => False
def tS (K : Frag) (mg : Str → Option Value) (E : XK) (J : List Nat) (m : Env' → O) : TS := fun D σ H => ∃ F ρ φ, EnvOk K F H σ ρ φ ∧ tO K mg E J F H φ σ (m ρ) D
abbrev DS (X : Cx) (E : XK) (J : List Nat) (st : Stmt) (m : Env' → O) : Prop := PS X st (tS X.K X.mg E J m)
abbrev DSs (X : Cx) (E : XK) (J : List Nat) (st : List Stmt) (m : Env' → O) : Prop := PSs X st (tS X.K X.mg E J m)

section
variable {K : Frag} {mg : Str → Option Value} {E : XK} {J : List Nat} {F H F1 H1 : Hp} {φ φ1 : Nat → List Addr} {σ σ1 : L2.St} {o : O} {D : Ends}
theorem tO.next (h : tO K mg E J F H φ σ o D) (a : Ext F H (Om φ) F1 H1 (Om φ1)) (p : Pin J σ σ1) : tO K mg E J F1 H1 φ1 σ1 o D := by
  cases o with
  | next ρ => exact fun F' H' φ' σ' e b q => h F' H' φ' σ' e (a.trans b) (p.trans q)
  | brk ρ => exact fun F' H' φ' σ' e b q => h F' H' φ' σ' e (a.trans b) (p.trans q)
  | cont ρ => exact fun F' H' φ' σ' e b q => h F' H' φ' σ' e (a.trans b) (p.trans q)
  | ret x ρ => exact fun F' H' φ' σ' v f e r d b q => h F' H' φ' σ' v f e r d (a.trans b) (p.trans q)
  | err x ρ => exact fun F' H' φ' σ' c d e r b q => h F' H' φ' σ' c d e r (a.trans b) (p.trans q)
  | bad => exact h
theorem tO.err {x : Exc} {ρ : Env'} (h : tO K mg E J F H φ σ (.err x ρ) D) : XOk K mg E F H φ σ x ρ := fun F' H' φ' c d e r b => h F' H' φ' σ c d e r b .refl
/-- another end -/
theorem tO.to {D' : Ends} (h : tO K mg E J F H φ σ o D) (hn : ∀ ρ, o = .next ρ → tO K mg E J F H φ σ (.next ρ) D → tO K mg E J F H φ σ (.next ρ) D')
    (hb : ∀ ρ, o = .brk ρ → tO K mg E J F H φ σ (.brk ρ) D → tO K mg E J F H φ σ (.brk ρ) D') (hc : ∀ ρ, o = .cont ρ → tO K mg E J F H φ σ (.cont ρ) D → tO K mg E J F H φ σ (.cont ρ) D')
    (hr : ∀ v H, D.rt v H → D'.rt v H) : tO K mg E J F H φ σ o D' := by
  cases o with
  | next ρ => exact hn ρ rfl h
  | brk ρ => exact hb ρ rfl h
  | cont ρ => exact hc ρ rfl h
  | ret x ρ => exact fun F' H' φ' σ' v f e r d b q => hr v H' (h F' H' φ' σ' v f e r d b q)
  | err x ρ => exact h
  | bad => exact h
end

def mSkip : Env' → O := fun ρ => .next ρ
def mSeq (a b : Env' → O) : Env' → O := fun ρ => match a ρ with
  | .next ρ1 => b ρ1
  | o => o
def mSet (i : Nat) (m : Env' → R M) : Env' → O := fun ρ => match m ρ with
  | .ok x ρ1 => .next (ρ1.set i (some x))
  | .err x ρ1 => .err x ρ1
  | .bad => .bad
def mExpr (m : Env' → R M) : Env' → O := fun ρ => match m ρ with
  | .ok _ ρ1 => .next ρ1
  | .err x ρ1 => .err x ρ1
  | .bad => .bad
def mRet (m : Env' → R M) : Env' → O := fun ρ => match m ρ with
  | .ok x ρ1 => .ret x ρ1
  | .err x ρ1 => .err x ρ1
  | .bad => .bad
def mIfS (c : Env' → R Bool) (a b : Env' → O) : Env' → O := fun ρ => match c ρ with
  | .ok true ρ1 => a ρ1
  | .ok false ρ1 => b ρ1
  | .err x ρ1 => .err x ρ1
  | .bad => .bad
def mWhile (c : Env' → R Bool) (b : Env' → O) : Nat → Env' → O
  | 0, _ => .bad
  | n + 1, ρ => match c ρ with
    | .ok true ρ1 => match b ρ1 with
      | .next ρ2 => mWhile c b n ρ2
      | .cont ρ2 => mWhile c b n ρ2
      | .brk ρ2 => .next ρ2
      | o => o
    | .ok false ρ1 => .next ρ1
    | .err x ρ1 => .err x ρ1
    | .bad => .bad
section
variable {X : Cx} {E : XK} {J : List Nat} {st : Stmt} {rest : List Stmt} {a b : Env' → O} {m : Env' → R M} {c : Env' → R Bool} {e : Expr} {pos : Pos}
theorem dss_nil : DSs X E J [] mSkip := pss_nil.imp fun D σ H ⟨F, ρ, φ, e, k⟩ => k F H φ σ e .refl .refl
theorem dss_one (h : DS X E J st a) : DSs X E J [st] a := pss_one h
theorem dss_cons (h1 : DS X E J st a) (h2 : DSs X E J rest b) : DSs X E J (st :: rest) (mSeq a b) := (pss_cons h1 h2).imp fun D σ H ⟨F, ρ, φ, e, k⟩ => by
  refine ⟨F, ρ, φ, e, ?_⟩
  unfold mSeq at k
  cases ha : a ρ with
  | next ρ1 =>
    rw [ha] at k
    intro F' H' φ' σ' e' x' p'
    exact ⟨F', ρ1, φ', e', k.next x' p'⟩
  | ret x ρ1 => rw [ha] at k; exact k
  | brk ρ1 => rw [ha] at k; exact k
  | cont ρ1 => rw [ha] at k; exact k
  | err x ρ1 => rw [ha] at k; exact k
  | bad => rw [ha] at k; exact k
theorem ds_pass : DS X E J (.Pass pos) mSkip := ps_pass.imp fun D σ H ⟨F, ρ, φ, e, k⟩ => k F H φ σ e .refl .refl
theorem ds_brk : DS X E J (.Break pos) (fun ρ => .brk ρ) := ps_break.imp fun D σ H ⟨F, ρ, φ, e, k⟩ => k F H φ σ e .refl .refl
theorem ds_cont : DS X E J (.Continue pos) (fun ρ => .cont ρ) := ps_continue.imp fun D σ H ⟨F, ρ, φ, e, k⟩ => k F H φ σ e .refl .refl
/-- a statement that the proof never comes to -/
theorem ds_never : DS X E J st (fun _ => .bad) := ps_never.imp fun D σ H ⟨F, ρ, φ, e, k⟩ => k
theorem ds_doc {x j pos pos'} : DS X E J (.Expr (.Constant (.str x) j pos) pos') mSkip := ps_doc.imp fun D σ H ⟨F, ρ, φ, e, k⟩ => k F H φ σ e .refl .refl
theorem i_set {K : Frag} {mg : Str → Option Value} {i : Nat} (hj : i ∉ J) (D : Ends) (σ : L2.St) (H : Hp) : tS K mg E J (mSet i m) D σ H → tE K mg E m σ H fun x H1 => gName i x σ H1 D.nx := fun ⟨F, ρ, φ, e, k⟩ => by
  refine ⟨F, ρ, φ, e, ?_⟩
  unfold mSet at k
  cases hm : m ρ with
  | bad => rw [hm] at k; exact k.elim
  | err x ρ' => rw [hm] at k; exact k.err
  | ok x ρ1 =>
    rw [hm] at k
    intro F1 H1 φ1 v f e1 r1 d1 x1
    refine k F1 H1 _ (σ.set i (some v)) (e1.set r1 d1) (x1.less fun a h => ?_) (.set hj)
    exact om_set h
theorem ds_set {i : Nat} {x : Str} {pos' : Pos} (hj : i ∉ J) (hN : X.N.Nodup) (hi : X.N[i]? = some x) (hx : Loc X.env.scope x) (he : DE X E e m) (hs : swapsWith e (some (.Name x pos')) pos.line X.env = pure false := by rfl) (hf : X.fn x = true ∨ X.env.scope.names.lookup x = some .local := by first | exact .inl rfl | exact .inr rfl | assumption) :
    DS X E J (.Assign [.Name x pos'] e pos) (mSet i m) := (ps_set hN hi hx he hs hf).imp fun D σ H h => i_set hj D σ H h
theorem ds_expr (he : DE X E e m) (hs : swapsWith e none pos.line X.env = pure false := by rfl) : DS X E J (.Expr e pos) (mExpr m) := (ps_expr he hs).imp fun D σ H ⟨F, ρ, φ, e, k⟩ => by
  refine ⟨F, ρ, φ, e, ?_⟩
  unfold mExpr at k
  cases hm : m ρ with
  | bad => rw [hm] at k; exact k.elim
  | err x ρ' => rw [hm] at k; exact k.err
  | ok x ρ1 =>
    rw [hm] at k
    intro F1 H1 φ1 v f e1 r1 d1 x1
    exact k F1 H1 φ1 σ e1 x1.drop .refl
theorem ds_ret (he : DE X E e m) : DS X E J (.Return (some e) pos) (mRet m) := (ps_ret he).imp fun D σ H ⟨F, ρ, φ, e, k⟩ => by
  refine ⟨F, ρ, φ, e, ?_⟩
  unfold mRet at k
  cases hm : m ρ with
  | bad => rw [hm] at k; exact k.elim
  | err x ρ' => rw [hm] at k; exact k.err
  | ok x ρ1 =>
    rw [hm] at k
    intro F1 H1 φ1 v f e1 r1 d1 x1
    exact k F1 H1 φ1 σ v f e1 r1 d1 x1 .refl
theorem ds_retN : DS X E J (.Return none pos) (fun ρ => .ret (.leaf .none) ρ) := ps_retN.imp fun D σ H ⟨F, ρ, φ, e, k⟩ =>
  k F H φ σ .non [] e (.leaf (by unfold IsD; rfl)) (fun a ha => by simp at ha) Ext.refl.nilT .refl
theorem ds_if {t : Expr} {sa sb : List Stmt} (hc : DT X E t c) (ha : DSs X E J sa a) (hb : DSs X E J sb b) : DS X E J (.If t sa sb pos) (mIfS c a b) := (ps_if hc ha hb).imp fun D σ H ⟨F, ρ, φ, e, k⟩ => by
  refine ⟨F, ρ, φ, e, ?_⟩
  unfold mIfS at k
  cases hm : c ρ with
  | bad => rw [hm] at k; exact k.elim
  | err x ρ' => rw [hm] at k; exact k.err
  | ok x ρ1 =>
    rw [hm] at k
    intro F1 H1 φ1 e1 x1
    cases x with
    | true => exact ⟨F1, ρ1, φ1, e1, k.next x1 .refl⟩
    | false => exact ⟨F1, ρ1, φ1, e1, k.next x1 .refl⟩
theorem ds_while {t : Expr} {sb : List Stmt} (n : Nat) (hp : PassesOwn (model X.prog X.w) X.A X.env X.xe) (hc : DT X E t c) (hb : DSs X E J sb b) : DS X E J (.While t sb [] pos) (mWhile c b n) := (ps_while hp hc hb).imp fun D σ H ⟨F, ρ, φ, e, k⟩ => by
  generalize ho : mWhile c b n ρ = o at k
  refine ⟨fun m' σ' H' => ∃ F' ρ' φ', EnvOk X.K F' H' σ' ρ' φ' ∧ Ext F H (Om φ) F' H' (Om φ') ∧ Pin J σ σ' ∧ mWhile c b m' ρ' = o, ⟨n, F, ρ, φ, e, .refl, .refl, ho⟩, ?_⟩
  rintro m' σ' H' ⟨F', ρ', φ', e', x', p', h'⟩
  cases m' with
  | zero =>
    rw [mWhile] at h'
    subst h'
    exact k.elim
  | succ m' =>
    rw [mWhile] at h'
    refine ⟨F', ρ', φ', e', ?_⟩
    cases hm : c ρ' with
    | bad => rw [hm] at h'; subst h'; exact k.elim
    | err x ρ' => rw [hm] at h'; subst h'; exact (k.next x' p').err
    | ok x ρ1 =>
      rw [hm] at h'
      intro F1 H1 φ1 e1 x1
      cases x with
      | false =>
        dsimp only at h'
        subst h'
        exact k F1 H1 φ1 σ' e1 (x'.trans x1) p'
      | true =>
        dsimp only at h'
        rw [if_pos rfl]
        refine ⟨fun σ2 H2 => ∃ F' ρ' φ', EnvOk X.K F' H2 σ2 ρ' φ' ∧ Ext F H (Om φ) F' H2 (Om φ') ∧ Pin J σ σ2 ∧ mWhile c b m' ρ' = o, fun σ2 H2 h2 => ⟨m', Nat.lt_succ_self _, h2⟩, F1, ρ1, φ1, e1, ?_⟩
        cases hb' : b ρ1 with
        | next ρ2 => rw [hb'] at h'; exact fun F2 H2 φ2 σ2 e2 x2 p2 => ⟨F2, ρ2, φ2, e2, (x'.trans x1).trans x2, p'.trans p2, h'⟩
        | cont ρ2 => rw [hb'] at h'; exact fun F2 H2 φ2 σ2 e2 x2 p2 => ⟨F2, ρ2, φ2, e2, (x'.trans x1).trans x2, p'.trans p2, h'⟩
        | brk ρ2 => rw [hb'] at h'; dsimp only at h'; subst h'; exact k.next (x'.trans x1) p'
        | ret y ρ2 => rw [hb'] at h'; dsimp only at h'; subst h'; exact k.next (x'.trans x1) p'
        | err y ρ2 => rw [hb'] at h'; dsimp only at h'; subst h'; exact k.next (x'.trans x1) p'
        | bad => rw [hb'] at h'; dsimp only at h'; subst h'; exact k.elim
end

/-! ### a def -/
inductive RF where
  | ret (x : M) (outs : Env')
  | err (x : Exc) (outs : Env')
  | bad
def mask (J : List Nat) : Nat → Nat → Env' → Env'
  | _, 0, _ => []
  | i, n + 1, [] => none :: mask J (i + 1) n []
  | i, n + 1, o :: r => (if i ∈ J then o else none) :: mask J (i + 1) n r
theorem mask_get (J : List Nat) : ∀ (n i j : Nat) (ρ : Env'), (mask J i n ρ)[j]? = if j < n then some (if i + j ∈ J then (ρ[j]?).join else none) else none
  | 0, i, j, ρ => by simp [mask]
  | n + 1, i, j, [] => by
    cases j with
    | zero => simp [mask]
    | succ j =>
      simp only [mask, List.getElem?_cons_succ]
      rw [mask_get J n (i + 1) j []]
      simp
  | n + 1, i, j, o :: r => by
    cases j with
    | zero => simp [mask]
    | succ j =>
      simp only [mask, List.getElem?_cons_succ]
      rw [mask_get J n (i + 1) j r]
      simp [Nat.add_assoc, Nat.add_comm 1 j]
theorem mask_len (J : List Nat) : ∀ (n i : Nat) (ρ : Env'), (mask J i n ρ).length = n
  | 0, _, _ => rfl
  | n + 1, i, [] => by simp [mask, mask_len J n]
  | n + 1, i, o :: r => by simp [mask, mask_len J n]
/-- a def's answer: its body is run at the arguments; n parameters of N names; J: those that are handed in by reference -/
def runF (n N : Nat) (J : List Nat) (body : Env' → O) (ms : List M) : RF := match body (ms.map some ++ List.replicate (N - ms.length) none) with
  | .next ρ => .ret (.leaf .none) (mask J 0 n ρ)
  | .ret x ρ => .ret x (mask J 0 n ρ)
  | .err x ρ => .err x (mask J 0 n ρ)
  | _ => .bad
def spD (K : Frag) (mg : Str → Option Value) (n : Nat) (mf : List M → RF) : Sp := fun vs H Q E => vs.length = n ∧ ∃ F ms φ, EnvOk K F H (vs.map some) (ms.map some) φ ∧ match mf ms with
  | .ret x outs => ∀ F' H' φ' v f, EnvOk K F' H' (vs.map some) outs φ' → Rep K F' H' v x f → (∀ a ∈ f, ¬ Om φ' a) → Ext F H (Om φ) F' H' (fun a => Om φ' a ∨ a ∈ f) → Q v H'
  | .err x outs => False
  | .bad => False
section
variable {K : Frag} {F H : Hp} {σ : L2.St} {ρ : Env'} {φ : Nat → List Addr}
theorem EnvOk.pad (e : EnvOk K F H σ ρ φ) (n : Nat) : EnvOk K F H (σ ++ List.replicate n none) (ρ ++ List.replicate n none) φ := by
  have get : ∀ i (m : M), (ρ ++ List.replicate n (none : Option M))[i]? = some (some m) → ρ[i]? = some (some m) := fun i m h => by
    by_cases hi : i < ρ.length
    · rw [List.getElem?_append_left hi] at h; exact h
    · rw [List.getElem?_append_right (by omega), List.getElem?_replicate] at h
      split at h <;> cases h
  refine ⟨e.sub, by simp [e.len], fun i m h => ?_, e.dis, fun i h => e.emp i fun m hm => h m ?_⟩
  · obtain ⟨v, hv, r⟩ := e.rep i m (get i m h)
    obtain ⟨hl, _⟩ := List.getElem?_eq_some_iff.mp hv
    exact ⟨v, by rw [List.getElem?_append_left hl]; exact hv, r⟩
  · obtain ⟨hl, _⟩ := List.getElem?_eq_some_iff.mp hm
    rw [List.getElem?_append_left hl]; exact hm
theorem EnvOk.masked {J : List Nat} {n : Nat} {σ0 : L2.St} {vs : List V} (e : EnvOk K F H σ ρ φ) (p : Pin J σ0 σ) (hn : vs.length = n) (h0 : ∀ i, i < n → σ0[i]? = (vs.map some)[i]?) :
    EnvOk K F H (vs.map some) (mask J 0 n ρ) (fun i => if i ∈ J ∧ i < n then φ i else []) ∧ ∀ a, Om (fun i => if i ∈ J ∧ i < n then φ i else []) a → Om φ a := by
  refine ⟨⟨e.sub, by simp [mask_len, hn], fun i m h => ?_, fun i j a hi hj => ?_, fun i h => ?_⟩, fun a ⟨i, hi⟩ => ?_⟩
  · rw [mask_get] at h
    split at h
    · rename_i hi
      rw [Nat.zero_add] at h
      split at h
      · rename_i hJ
        have h' : (ρ[i]?).join = some m := Option.some.inj h
        obtain ⟨v, hv, r⟩ := e.rep i m (qName_some h')
        refine ⟨v, ?_, ?_⟩
        · rw [← h0 i hi, ← p i hJ]; exact hv
        · rw [if_pos ⟨hJ, hi⟩]; exact r
      · cases h
    · cases h
  · split at hi
    · split at hj
      · exact e.dis i j a hi hj
      · simp at hj
    · simp at hi
  · split
    · rename_i hJ
      refine e.emp i fun m hm => h m ?_
      rw [mask_get, if_pos hJ.2, Nat.zero_add, if_pos hJ.1, hm]
      rfl
    · rfl
  · dsimp only at hi
    split at hi
    · exact ⟨i, hi⟩
    · simp at hi
end
section
variable {P : Program} {w : World} {K : Frag} {mg : Str → Option Value} {base : Heap}
/-- THE RULE of a def that lets no exception out -/
theorem fnD {x qual : Str} {st : Stmt} {f : Addr} {fd : FuncData} {N ps : List Str} {k : Nat} (J : List Nat) {body : Env' → O} (F : Fun K x qual st f fd) (S : FnScope N ps (defScope st)) (hl : ps.length ≤ N.length)
    (hb : ∀ (cdv : Value) (A : Around) (outer : List Env) (s : Shared) (H : Hp) (E : XK), Room k (A.deeper (envOfC qual (defScope st) s.heap.objs.size f cdv)) →
      DSs (cxOf CX0 P w K mg base N qual (defScope st) f cdv A outer s H E).nox E0 J (defBody st) body) :
    FnOk P w K mg base CX0 (k + 1) f fd ps (spD K mg ps.length (runF ps.length N.length J body)) := by
  refine F.ok S (fun vs H Q E h => h.1) fun cdv A outer s H vs Q E hr h => ⟨_, hb cdv A outer s H E hr, ?_⟩
  obtain ⟨hn, Fz, ms, φ, e, h⟩ := h
  have hlm : ms.length = vs.length := by have := e.len; simpa using this.symm
  have hst : start N vs = vs.map some ++ List.replicate (N.length - ms.length) none := by rw [hlm]; rfl
  have e0 : EnvOk K Fz H (start N vs) (ms.map some ++ List.replicate (N.length - ms.length) none) φ := by rw [hst]; exact e.pad _
  have h0 : ∀ i, i < ps.length → (start N vs)[i]? = (vs.map some)[i]? := fun i hi => by
    rw [hst, List.getElem?_append_left (by simp; omega)]
  refine ⟨Fz, _, φ, e0, ?_⟩
  unfold runF at h
  cases hB : body (ms.map some ++ List.replicate (N.length - ms.length) none) with
  | next ρ =>
    rw [hB] at h
    intro F' H' φ' σ' e' x' p'
    obtain ⟨e2, ho⟩ := e'.masked p' hn h0
    refine h F' H' _ .non [] e2 (.leaf (by unfold IsD; rfl)) (fun a ha => by simp at ha) (x'.less fun a q => ?_)
    rcases q with q | q
    · exact ho a q
    · simp at q
  | ret y ρ =>
    rw [hB] at h
    intro F' H' φ' σ' v fv e' r' d' x' p'
    obtain ⟨e2, ho⟩ := e'.masked p' hn h0
    exact h F' H' _ v fv e2 r' (fun a ha q => d' a ha (ho a q)) (x'.less fun a q => q.imp (ho a) id)
  | err y ρ => rw [hB] at h; exact h.elim
  | brk ρ => rw [hB] at h; exact h.elim
  | cont ρ => rw [hB] at h; exact h.elim
  | bad => rw [hB] at h; exact h.elim
end
end G
namespace G
open PySem PySem.Spec PyProof.Rows L2

/-! ### calls of the text's own defs -/
/-- an argument: a value, or a slot's tree handed in by reference -/
inductive Am where
  | val (m : Env' → R M)
  | ref (j : Nat)
def evA : List Am → Env' → R (List (Option PyData))
  | [], ρ => .ok [] ρ
  | .val m :: r, ρ => (m ρ).bind fun x ρ1 => match x.frz with
    | some d => (evA r ρ1).bind fun ds ρ2 => .ok (some d :: ds) ρ2
    | none => .bad
  | .ref j :: r, ρ => match qName j ρ with
    | some _ => (evA r ρ).bind fun ds ρ2 => .ok (none :: ds) ρ2
    | none => .bad
def AOk (K : Frag) (F : Hp) (σ : L2.St) : List Am → List (Option PyData) → List V → Prop
  | [], [], [] => True
  | .val _ :: as, some d :: ds, v :: vs => IsD K F d v ∧ AOk K F σ as ds vs
  | .ref j :: as, none :: ds, v :: vs => σ[j]? = some (some v) ∧ AOk K F σ as ds vs
  | _, _, _ => False
theorem AOk.mono {K : Frag} {F F' : Hp} {σ : L2.St} (h : Sub F F') : ∀ {as : List Am} {ds : List (Option PyData)} {vs : List V}, AOk K F σ as ds vs → AOk K F' σ as ds vs
  | [], [], [], _ => trivial
  | .val _ :: as, some d :: ds, v :: vs, q => ⟨q.1.mono h, AOk.mono h q.2⟩
  | .ref j :: as, none :: ds, v :: vs, q => ⟨q.1, AOk.mono h q.2⟩
  | [], _ :: _, _, q => q.elim
  | [], [], _ :: _, q => q.elim
  | .val _ :: _, [], _, q => q.elim
  | .val _ :: _, none :: _, _, q => q.elim
  | .val _ :: _, some _ :: _, [], q => q.elim
  | .ref _ :: _, [], _, q => q.elim
  | .ref _ :: _, some _ :: _, _, q => q.elim
  | .ref _ :: _, none :: _, [], q => q.elim
/-- the trees that the callee gets -/
def gat : List Am → List (Option PyData) → Env' → Option (List M)
  | [], [], _ => some []
  | .val _ :: as, some d :: ds, ρ => (gat as ds ρ).map (.leaf d :: ·)
  | .ref j :: as, none :: ds, ρ => match qName j ρ with
    | some m => (gat as ds ρ).map (m :: ·)
    | none => none
  | _, _, _ => none
/-- at which place slot j is handed in -/
def refAt : List Am → Nat → Nat → Option Nat
  | [], _, _ => none
  | .val _ :: as, i, j => refAt as (i + 1) j
  | .ref k :: as, i, j => if k = j then some i else refAt as (i + 1) j
def scat (as : List Am) (outs : Env') : Nat → Env' → Env'
  | _, [] => []
  | j, o :: r => (match refAt as 0 j with
    | some i => (outs[i]?).join
    | none => o) :: scat as outs (j + 1) r
def refs : List Am → List Nat
  | [] => []
  | .val _ :: as => refs as
  | .ref j :: as => j :: refs as
def mCall (mf : List M → RF) (as : List Am) : Env' → R M := fun ρ => (evA as ρ).bind fun ds ρ1 => match gat as ds ρ1 with
  | some ms => match mf ms with
    | .ret x outs => .ok x (scat as outs 0 ρ1)
    | _ => .bad
  | none => .bad
theorem scat_get {as : List Am} {outs : Env'} : ∀ {k : Nat} {ρ : Env'} {j : Nat}, (scat as outs k ρ)[j]? = (ρ[j]?).map fun o => match refAt as 0 (k + j) with
    | some i => (outs[i]?).join
    | none => o
  | k, [], j => by simp [scat]
  | k, o :: r, 0 => by simp [scat]
  | k, o :: r, j + 1 => by
    simp only [scat, List.getElem?_cons_succ]
    rw [scat_get (k := k + 1) (ρ := r) (j := j)]
    simp [Nat.add_assoc, Nat.add_comm 1 j]
theorem scat_len {as : List Am} {outs : Env'} : ∀ {k : Nat} {ρ : Env'}, (scat as outs k ρ).length = ρ.length
  | _, [] => rfl
  | k, o :: r => by simp [scat, scat_len (k := k + 1) (ρ := r)]
theorem refAt_mem : ∀ {as : List Am} {k i j : Nat}, refAt as k j = some i → j ∈ refs as ∧ k ≤ i ∧ as[i - k]? = some (.ref j)
  | [], _, _, _, h => by simp [refAt] at h
  | .val m :: as, k, i, j, h => by
    obtain ⟨h1, h2, h3⟩ := refAt_mem (as := as) (k := k + 1) h
    refine ⟨h1, by omega, ?_⟩
    have : i - k = (i - (k + 1)) + 1 := by omega
    rw [this]; simpa using h3
  | .ref l :: as, k, i, j, h => by
    unfold refAt at h
    split at h
    · rename_i e
      cases h; subst e
      exact ⟨by simp [refs], Nat.le_refl _, by simp⟩
    · obtain ⟨h1, h2, h3⟩ := refAt_mem (as := as) (k := k + 1) h
      refine ⟨by simp [refs, h1], by omega, ?_⟩
      have : i - k = (i - (k + 1)) + 1 := by omega
      rw [this]; simpa using h3
theorem refAt_of : ∀ {as : List Am} {k i j : Nat}, (refs as).Nodup → as[i]? = some (.ref j) → refAt as k j = some (k + i)
  | [], _, _, _, _, h => by simp at h
  | .val m :: as, k, 0, j, _, h => by simp at h
  | .val m :: as, k, i + 1, j, hn, h => by
    unfold refAt
    rw [refAt_of (as := as) (k := k + 1) hn (by simpa using h)]
    congr 1; omega
  | .ref l :: as, k, 0, j, hn, h => by
    simp at h; subst h
    simp [refAt]
  | .ref l :: as, k, i + 1, j, hn, h => by
    have h' : as[i]? = some (.ref j) := by simpa using h
    simp only [refs, List.nodup_cons] at hn
    have hne : l ≠ j := fun e => hn.1 (by
      subst e
      have := refAt_of (as := as) (k := 0) hn.2 h'
      exact (refAt_mem this).1)
    unfold refAt
    rw [if_neg hne, refAt_of (as := as) (k := k + 1) hn.2 h']
    congr 1; omega
section
variable {K : Frag} {F H : Hp} {σ : L2.St} {ρ : Env'} {φ : Nat → List Addr}
theorem AOk.length : ∀ {as : List Am} {ds : List (Option PyData)} {vs : List V}, AOk K F σ as ds vs → vs.length = as.length
  | [], [], [], _ => rfl
  | .val _ :: as, some d :: ds, v :: vs, q => by simp [AOk.length q.2]
  | .ref j :: as, none :: ds, v :: vs, q => by simp [AOk.length q.2]
  | [], _ :: _, _, q => q.elim
  | [], [], _ :: _, q => q.elim
  | .val _ :: _, [], _, q => q.elim
  | .val _ :: _, none :: _, _, q => q.elim
  | .val _ :: _, some _ :: _, [], q => q.elim
  | .ref _ :: _, [], _, q => q.elim
  | .ref _ :: _, some _ :: _, _, q => q.elim
  | .ref _ :: _, none :: _, [], q => q.elim
theorem gat_len : ∀ {as : List Am} {ds : List (Option PyData)} {ms : List M}, gat as ds ρ = some ms → ms.length = as.length
  | [], [], ms, h => by simp [gat] at h; simp [h]
  | .val _ :: as, some d :: ds, ms, h => by
    simp only [gat, Option.map_eq_some_iff] at h
    obtain ⟨r, h, rfl⟩ := h
    simp [gat_len h]
  | .ref j :: as, none :: ds, ms, h => by
    unfold gat at h
    split at h
    · simp only [Option.map_eq_some_iff] at h
      obtain ⟨r, h, rfl⟩ := h
      simp [gat_len h]
    · cases h
  | [], _ :: _, _, h => by simp [gat] at h
  | .val _ :: _, [], _, h => by simp [gat] at h
  | .val _ :: _, none :: _, _, h => by simp [gat] at h
  | .ref _ :: _, [], _, h => by simp [gat] at h
  | .ref _ :: _, some _ :: _, _, h => by simp [gat] at h
/-- what stands at each place -/
theorem gat_rep (e : EnvOk K F H σ ρ φ) : ∀ {as : List Am} {ds : List (Option PyData)} {vs : List V} {ms : List M} {i : Nat} {m : M}, AOk K F σ as ds vs → gat as ds ρ = some ms → ms[i]? = some m →
    ∃ v, vs[i]? = some v ∧ Rep K F H v m (match as[i]? with | some (.ref j) => φ j | _ => [])
  | [], [], [], ms, i, m, _, h, hm => by simp [gat] at h; subst h; simp at hm
  | .val _ :: as, some d :: ds, v :: vs, ms, i, m, q, h, hm => by
    simp only [gat, Option.map_eq_some_iff] at h
    obtain ⟨r, h, rfl⟩ := h
    cases i with
    | zero => simp at hm; subst hm; exact ⟨v, rfl, .leaf q.1⟩
    | succ i => simpa using gat_rep e (i := i) q.2 h (by simpa using hm)
  | .ref j :: as, none :: ds, v :: vs, ms, i, m, q, h, hm => by
    unfold gat at h
    split at h
    · rename_i x hx
      simp only [Option.map_eq_some_iff] at h
      obtain ⟨r, h, rfl⟩ := h
      cases i with
      | zero =>
        simp at hm; subst hm
        obtain ⟨v', hv', rx⟩ := e.rep j x (qName_some hx)
        rw [q.1] at hv'; cases hv'
        exact ⟨v, rfl, rx⟩
      | succ i => simpa using gat_rep e (i := i) q.2 h (by simpa using hm)
    · cases h
  | [], _ :: _, _, _, _, _, q, _, _ => q.elim
  | [], [], _ :: _, _, _, _, q, _, _ => q.elim
  | .val _ :: _, [], _, _, _, _, q, _, _ => q.elim
  | .val _ :: _, none :: _, _, _, _, _, q, _, _ => q.elim
  | .val _ :: _, some _ :: _, [], _, _, _, q, _, _ => q.elim
  | .ref _ :: _, [], _, _, _, _, q, _, _ => q.elim
  | .ref _ :: _, some _ :: _, _, _, _, _, q, _, _ => q.elim
  | .ref _ :: _, none :: _, [], _, _, _, q, _, _ => q.elim
theorem AOk.refv : ∀ {as : List Am} {ds : List (Option PyData)} {vs : List V} {i j : Nat}, AOk K F σ as ds vs → as[i]? = some (.ref j) → ∃ v, vs[i]? = some v ∧ σ[j]? = some (some v)
  | [], [], [], i, j, _, h => by simp at h
  | .val _ :: as, some d :: ds, v :: vs, i, j, q, h => by
    cases i with
    | zero => simp at h
    | succ i => simpa using AOk.refv (i := i) q.2 (by simpa using h)
  | .ref k :: as, none :: ds, v :: vs, i, j, q, h => by
    cases i with
    | zero => simp at h; subst h; exact ⟨v, rfl, q.1⟩
    | succ i => simpa using AOk.refv (i := i) q.2 (by simpa using h)
  | [], _ :: _, _, _, _, q, _ => q.elim
  | [], [], _ :: _, _, _, q, _ => q.elim
  | .val _ :: _, [], _, _, _, q, _ => q.elim
  | .val _ :: _, none :: _, _, _, _, q, _ => q.elim
  | .val _ :: _, some _ :: _, [], _, _, q, _ => q.elim
  | .ref _ :: _, [], _, _, _, q, _ => q.elim
  | .ref _ :: _, some _ :: _, _, _, _, q, _ => q.elim
  | .ref _ :: _, none :: _, [], _, _, q, _ => q.elim
def psi (as : List Am) (φ : Nat → List Addr) : Nat → List Addr := fun i => match as[i]? with
  | some (.ref j) => φ j
  | _ => []
theorem gat_env (e : EnvOk K F H σ ρ φ) {as : List Am} {ds : List (Option PyData)} {vs : List V} {ms : List M} (hn : (refs as).Nodup) (q : AOk K F σ as ds vs) (h : gat as ds ρ = some ms) :
    EnvOk K F H (vs.map some) (ms.map some) (psi as φ) := by
  refine ⟨e.sub, by simp [q.length, gat_len h], fun i m hm => ?_, fun i j a hi hj => ?_, fun i hi => ?_⟩
  · rw [List.getElem?_map, Option.map_eq_some_iff] at hm
    obtain ⟨m', hm, e'⟩ := hm
    cases e'
    obtain ⟨v, hv, r⟩ := gat_rep e q h hm
    exact ⟨v, by rw [List.getElem?_map, hv]; rfl, r⟩
  · unfold psi at hi hj
    split at hi
    · rename_i k hk
      split at hj
      · rename_i l hl
        have := e.dis k l a hi hj
        subst this
        have h1 := refAt_of (k := 0) hn hk
        have h2 := refAt_of (k := 0) hn hl
        rw [h1] at h2
        simpa using h2
      · simp at hj
    · simp at hi
  · unfold psi
    split
    · rename_i j hj
      have hl : i < ms.length := by
        rw [gat_len h]
        exact (List.getElem?_eq_some_iff.mp hj).1
      exact absurd (by rw [List.getElem?_map, List.getElem?_eq_getElem hl]; rfl) (hi ms[i])
    · rfl
/-- behind the call -/
theorem scat_env (e : EnvOk K F H σ ρ φ) {as : List Am} {ds : List (Option PyData)} {vs : List V} (hn : (refs as).Nodup) (q : AOk K F σ as ds vs) {F' H' : Hp} {outs : Env'} {ψ' : Nat → List Addr} {f : List Addr}
    (e' : EnvOk K F' H' (vs.map some) outs ψ') (hd : ∀ a ∈ f, ¬ Om ψ' a) (x : Ext F H (Om (psi as φ)) F' H' (fun a => Om ψ' a ∨ a ∈ f)) :
    ∃ φ', EnvOk K F' H' σ (scat as outs 0 ρ) φ' ∧ (∀ a ∈ f, ¬ Om φ' a) ∧ Ext F H (Om φ) F' H' (fun a => Om φ' a ∨ a ∈ f) := by
  let φ' : Nat → List Addr := fun j => if j < ρ.length then (match refAt as 0 j with | some i => ψ' i | none => φ j) else []
  have hsub : ∀ a, Om (psi as φ) a → Om φ a := fun a ⟨i, hi⟩ => by
    unfold psi at hi
    split at hi
    · exact ⟨_, hi⟩
    · simp at hi
  -- a slot that is not handed in lies beside
  have off : ∀ j a, refAt as 0 j = none → a ∈ φ j → ¬ Om (psi as φ) a := fun j a hj ha ⟨i, hi⟩ => by
    unfold psi at hi
    split at hi
    · rename_i k hk
      have := e.dis k j a hi ha
      subst this
      rw [refAt_of (k := 0) hn hk] at hj
      cases hj
    · simp at hi
  have offO : ∀ j a, refAt as 0 j = none → a ∈ φ j → ¬ (Om ψ' a ∨ a ∈ f) := fun j a hj ha z => by
    rcases x.own a z with h | h
    · exact off j a hj ha h
    · obtain ⟨⟨o, ho, _⟩, _⟩ := e.tracked ⟨j, ha⟩
      rw [ho] at h; cases h
  have mem : ∀ a, Om φ' a → Om ψ' a ∨ ∃ j, refAt as 0 j = none ∧ a ∈ φ j := fun a ⟨j, hj⟩ => by
    simp only [φ'] at hj
    split at hj
    · split at hj
      · exact .inl ⟨_, hj⟩
      · rename_i h; exact .inr ⟨j, h, hj⟩
    · simp at hj
  refine ⟨φ', ⟨e'.sub, by rw [scat_len]; exact e.len, fun j m hm => ?_, fun j k a hj hk => ?_, fun j hj => ?_⟩, fun a ha z => ?_, ⟨x.mono, fun a o h => ?_, fun a o h n => x.keep a o h fun z => n (hsub a z), fun a h => ?_⟩⟩
  · rw [scat_get, Option.map_eq_some_iff] at hm
    obtain ⟨o, ho, hm⟩ := hm
    have hlt : j < ρ.length := (List.getElem?_eq_some_iff.mp ho).1
    rw [Nat.zero_add] at hm
    simp only [φ', if_pos hlt]
    split at hm
    · rename_i i hi
      obtain ⟨_, _, hr⟩ := refAt_mem hi
      obtain ⟨v, hv, hs⟩ := q.refv (by simpa using hr)
      obtain ⟨v', hv', r⟩ := e'.rep i m (qName_some hm)
      rw [List.getElem?_map, hv] at hv'
      simp at hv'; subst hv'
      exact ⟨v, hs, r⟩
    · rename_i hi
      subst hm
      obtain ⟨v, hv, r⟩ := e.rep j m ho
      exact ⟨v, hv, (r.ext x (fun a ha => off j a hi ha)).1⟩
  · simp only [φ'] at hj hk
    split at hj
    · split at hk
      · split at hj
        · rename_i i1 h1
          split at hk
          · rename_i i2 h2
            have := e'.dis i1 i2 a hj hk
            subst this
            obtain ⟨_, _, g1⟩ := refAt_mem h1
            obtain ⟨_, _, g2⟩ := refAt_mem h2
            rw [g1] at g2
            simpa using g2
          · rename_i h2
            exact absurd (Or.inl ⟨i1, hj⟩) (offO k a h2 hk)
        · rename_i h1
          split at hk
          · rename_i i2 h2
            exact absurd (Or.inl ⟨i2, hk⟩) (offO j a h1 hj)
          · exact e.dis j k a hj hk
      · simp at hk
    · simp at hj
  · simp only [φ']
    split
    · rename_i hlt
      split
      · rename_i i hi
        refine e'.emp i fun m hm => hj m ?_
        rw [scat_get, List.getElem?_eq_getElem hlt]
        simp only [Option.map_some, Nat.zero_add, hi, hm]
        rfl
      · rename_i hi
        refine e.emp j fun m hm => hj m ?_
        rw [scat_get, hm]
        simp only [Option.map_some, Nat.zero_add, hi]
    · rfl
  · rcases mem a z with h | ⟨j, h1, h2⟩
    · exact hd a ha h
    · exact offO j a h1 h2 (.inr ha)
  · rcases x.new a o h with h | h | h
    · exact .inl h
    · exact .inr (.inl h)
    · exact .inr (.inr (hsub a h))
  · have key : ∀ a, (Om ψ' a ∨ a ∈ f) → Om φ a ∨ H a = none := fun a z => (x.own a z).imp (hsub a) id
    rcases h with h | h
    · rcases mem a h with h | ⟨j, _, h⟩
      · exact key a (.inl h)
      · exact .inl ⟨j, h⟩
    · exact key a (.inr h)
end
def tAm (K : Frag) (mg : Str → Option Value) (E : XK) (as : List Am) : TA := fun σ H Q => ∃ F ρ φ, EnvOk K F H σ ρ φ ∧ match evA as ρ with
  | .ok ds ρ' => ∀ F' H' φ' vs, EnvOk K F' H' σ ρ' φ' → AOk K F' σ as ds vs → Ext F H (Om φ) F' H' (Om φ') → Q vs H'
  | .err x ρ' => XOk K mg E F H φ σ x ρ'
  | .bad => False
abbrev DM (X : Cx) (E : XK) (es : List Expr) (as : List Am) : Prop := PA X es (tAm X.K X.mg E as)
section
variable {X : Cx} {E : XK} {a : Expr} {es : List Expr} {as : List Am} {m : Env' → R M} {pos : Pos}
theorem dm_nil : DM X E [] [] := pa_nil.imp fun σ H Q ⟨F, ρ, φ, e, k⟩ => k F H φ [] e trivial .refl
theorem dm_val (ha : DE X E a m) (hr : DM X E es as) (hs : starEach (a :: es) X.env = (false, eval a X.env) :: starEach es X.env := by rfl) : DM X E (a :: es) (.val m :: as) :=
  (pa_cons ha hr hs).imp fun σ H Q ⟨F, ρ, φ, e, q⟩ => by
    refine ⟨F, ρ, φ, e, ?_⟩
    unfold evA at q
    cases hm : m ρ with
    | bad => rw [hm] at q; exact q.elim
    | err x ρ' => rw [hm] at q; exact q
    | ok x ρ1 =>
      rw [hm] at q
      simp only [R.bind_ok] at q
      intro F1 H1 φ1 v f e1 r1 d1 x1
      cases hz : x.frz with
      | none => rw [hz] at q; exact q.elim
      | some d =>
        rw [hz] at q
        simp only at q
        have hn : ∀ a ∈ f, F1 a = none := fun a ha => (r1.fp a ha).2
        have e2 := e1.freeze d1 hn
        have x2 := x1.freeze hn
        have rd := r1.frozen hz
        refine ⟨_, ρ1, φ1, e2, ?_⟩
        cases hm2 : evA as ρ1 with
        | bad => rw [hm2] at q; exact q.elim
        | err x ρ' => rw [hm2] at q; exact q.next x2
        | ok ds ρ2 =>
          rw [hm2] at q
          intro F3 H3 φ3 vs e3 r3 x3
          exact q F3 H3 φ3 (v :: vs) e3 ⟨rd.mono x3.mono, r3⟩ (x2.trans x3)
theorem dm_ref {j : Nat} (ha : PE X a (tVar j)) (hr : DM X E es as) (hs : starEach (a :: es) X.env = (false, eval a X.env) :: starEach es X.env := by rfl) : DM X E (a :: es) (.ref j :: as) :=
  (pa_cons ha hr hs).imp fun σ H Q ⟨F, ρ, φ, e, q⟩ => by
    unfold evA at q
    cases hj : qName j ρ with
    | none => rw [hj] at q; exact q.elim
    | some m =>
      rw [hj] at q
      dsimp only at q
      obtain ⟨v, hv, _⟩ := e.rep j m (qName_some hj)
      refine ⟨v, hv, F, ρ, φ, e, ?_⟩
      cases hm2 : evA as ρ with
      | bad => rw [hm2] at q; exact q.elim
      | err x ρ' => rw [hm2] at q; exact q
      | ok ds ρ2 =>
        rw [hm2] at q
        intro F3 H3 φ3 vs e3 r3 x3
        exact q F3 H3 φ3 (v :: vs) e3 ⟨hv, r3⟩ x3
theorem i_call {K : Frag} {mg : Str → Option Value} {n : Nat} {mf : List M → RF} {E' : XK} (hn : (refs as).Nodup) (hl : as.length = n) (σ : L2.St) (H : Hp) (Q : VK) :
    tE K mg E (mCall mf as) σ H Q → tAm K mg E as σ H fun vs H1 => spD K mg n mf vs H1 Q E' := fun ⟨F, ρ, φ, e, k⟩ => by
  refine ⟨F, ρ, φ, e, ?_⟩
  unfold mCall at k
  cases hm : evA as ρ with
  | bad => rw [hm] at k; exact k.elim
  | err x ρ' => rw [hm] at k; exact k
  | ok ds ρ1 =>
    rw [hm] at k
    simp only [R.bind_ok] at k
    intro F1 H1 φ1 vs e1 r1 x1
    cases hg : gat as ds ρ1 with
    | none => rw [hg] at k; exact k.elim
    | some ms =>
      rw [hg] at k
      dsimp only at k
      refine ⟨by rw [r1.length, hl], F1, ms, psi as φ1, gat_env e1 hn r1 hg, ?_⟩
      cases hf : mf ms with
      | bad => rw [hf] at k; exact k.elim
      | err x o => rw [hf] at k; exact k.elim
      | ret x outs =>
        rw [hf] at k
        intro F2 H2 ψ2 v f e2 r2 d2 x2
        obtain ⟨φ3, e3, d3, x3⟩ := scat_env e1 hn r1 e2 d2 x2
        exact k F2 H2 φ3 v f e3 r2 d3 (x1.trans x3)
/-- f(..), f a def of the text, every parameter given by its place -/
theorem de_call {x : Str} {p : Pos} {f : Addr} {fd : FuncData} {ps : List Str} {n : Nat} {mf : List M → RF} {j : Nat} {e0 : Expr} (Gf : FnOk X.prog X.w X.K X.mg X.base CX0 j f fd ps (spD X.K X.mg n mf)) (hr : Room j X.A) (hg : Gl X x) (hm : X.mg x = some (.ref f)) (hk : PySem.W.keepIn X.K (.ref f) = true) (hb : Binds X.K fd ps [])
    (ha : DM X E (e0 :: es) as) (hl : as.length = n := by rfl) (hn : (refs as).Nodup := by decide) (hdb : (x == ("__debug__" : Str)) = false := by decide) (he : starEach (e0 :: es) X.env = (false, eval e0 X.env) :: starEach es X.env := by rfl)
    (hpl : (backTo pos (starEach es X.env)).any (·.1) = false := by rfl) : DE X E (.Call (.Name x p) (e0 :: es) [] pos) (mCall mf as) :=
  (pe_call Gf hr hg hm hk hb .nil pass0 ha hdb he hpl).imp fun σ H Q h => by
    have := i_call (E' := E0) hn hl σ H Q h
    simpa only [tCall, List.append_nil] using this
end
end G
namespace G
open PySem PySem.Spec PyProof.Rows L2

/-! ### targets -/
structure KeepS (T : List Nat) (σ σ' : L2.St) : Prop where
  at' : ∀ i, i ∉ T → σ'[i]? = σ[i]?
  len : σ'.length = σ.length
def tG' (K : Frag) (T : List Nat) (g : PyData → Env' → Option Env') : TG := fun v σ H Q => ∃ F ρ φ d, EnvOk K F H σ ρ φ ∧ IsD K F d v ∧ match g d ρ with
  | some ρ' => ∀ φ' σ', EnvOk K F H σ' ρ' φ' → (∀ a, Om φ' a → Om φ a) → KeepS T σ σ' → Q σ' H
  | none => False
def tGs (K : Frag) (T : List Nat) (g : List PyData → Env' → Option Env') : TGs := fun vs σ H Q => ∃ F ρ φ ds, EnvOk K F H σ ρ φ ∧ IsDs K F ds vs ∧ match g ds ρ with
  | some ρ' => ∀ φ' σ', EnvOk K F H σ' ρ' φ' → (∀ a, Om φ' a → Om φ a) → KeepS T σ σ' → Q σ' H
  | none => False
abbrev DG (X : Cx) (T : List Nat) (tg : Expr) (g : PyData → Env' → Option Env') : Prop := PG X tg (tG' X.K T g)
abbrev DGs (X : Cx) (T : List Nat) (ts : List Expr) (g : List PyData → Env' → Option Env') : Prop := PGs X ts (tGs X.K T g)
theorem _root_.L2.PGs.imp {X : Cx} {e : List Expr} {t t' : TGs} (h : PGs X e t) (i : ∀ v σ H Q, t' v σ H Q → t v σ H Q) : PGs X e t' := ⟨fun pins s σ H v u Q I r q => h.run pins s σ H v u Q I r (i v σ H Q q)⟩
def gN (i : Nat) : PyData → Env' → Option Env' := fun d ρ => some (ρ.set i (some (.leaf d)))
def gNil' : List PyData → Env' → Option Env'
  | [], ρ => some ρ
  | _ :: _, _ => none
def gCons' (g : PyData → Env' → Option Env') (r : List PyData → Env' → Option Env') : List PyData → Env' → Option Env'
  | d :: ds, ρ => match g d ρ with
    | some ρ1 => r ds ρ1
    | none => none
  | [], _ => none
def gTp (n : Nat) (r : List PyData → Env' → Option Env') : PyData → Env' → Option Env' := fun d ρ => match d with
  | .tuple ds => if ds.length = n then r ds ρ else none
  | _ => none
section
variable {X : Cx} {T U : List Nat} {pos : Pos} {g : PyData → Env' → Option Env'} {r : List PyData → Env' → Option Env'} {tg : Expr} {ts : List Expr}
theorem dg_name {i : Nat} {x : Str} (hN : X.N.Nodup) (hi : X.N[i]? = some x) (hx : Loc X.env.scope x) (hf : X.fn x = true ∨ X.env.scope.names.lookup x = some .local := by first | exact .inl rfl | exact .inr rfl | assumption) : DG X [i] (.Name x pos) (gN i) :=
  (pg_name hN hi hx hf).imp fun v σ H Q ⟨F, ρ, φ, d, e, hd, k⟩ => by
    refine k _ _ (e.set (i := i) (.leaf hd) (fun a ha => by simp at ha)) (fun a h => ?_) ⟨fun j hj => ?_, by simp⟩
    · rcases om_set h with h | h
      · exact h
      · simp at h
    · rw [List.getElem?_set_ne (by intro e; exact hj (by simp [e]))]
theorem dgs_nil : DGs X [] [] gNil' := pgs_nil.imp fun vs σ H Q ⟨F, ρ, φ, ds, e, hd, k⟩ => by
  cases ds with
  | nil =>
    unfold IsDs at hd
    exact ⟨hd, k φ σ e (fun _ h => h) ⟨fun _ _ => rfl, rfl⟩⟩
  | cons d ds => exact k.elim
theorem dgs_cons (h1 : DG X T tg g) (h2 : DGs X U ts r) (hs : (assignEach (tg :: ts) X.env).map (·.2) = assign tg X.env :: (assignEach ts X.env).map (·.2) := by rfl) : DGs X (T ++ U) (tg :: ts) (gCons' g r) :=
  (pgs_cons h1 h2 hs).imp fun vs σ H Q ⟨F, ρ, φ, ds, e, hd, k⟩ => by
    cases ds with
    | nil => exact k.elim
    | cons d ds =>
      unfold IsDs at hd
      obtain ⟨v, vr, rfl, hd1, hd2⟩ := hd
      refine ⟨v, vr, rfl, F, ρ, φ, d, e, hd1, ?_⟩
      unfold gCons' at k
      dsimp only at k
      cases hg : g d ρ with
      | none => rw [hg] at k; exact k.elim
      | some ρ1 =>
        rw [hg] at k
        intro φ1 σ1 e1 o1 s1
        refine ⟨F, ρ1, φ1, ds, e1, hd2, ?_⟩
        dsimp only at k
        cases hr : r ds ρ1 with
        | none => rw [hr] at k; exact k.elim
        | some ρ2 =>
          rw [hr] at k
          intro φ2 σ2 e2 o2 s2
          exact k φ2 σ2 e2 (fun a h => o1 a (o2 a h)) ⟨fun i hi => (s2.at' i fun z => hi (List.mem_append_right _ z)).trans (s1.at' i fun z => hi (List.mem_append_left _ z)), s2.len.trans s1.len⟩
theorem dg_tup {n k : Nat} (hc : X.calm = true) (h : DGs X T ts r) (hn : (assignEach ts X.env).length = n := by rfl) (hst : (assignEach ts X.env).findIdx? (·.1) = none := by rfl) : DG X T (.Tuple ts k pos) (gTp n r) :=
  (pg_tup hc h hn hst).imp fun v σ H Q ⟨F, ρ, φ, d, e, hd, k⟩ => by
    cases d with
    | tuple ds =>
      unfold gTp at k
      dsimp only at k
      split at k
      · rename_i hh ρ' hk
        split at hk
        · rename_i hlen
          unfold IsD at hd
          obtain ⟨a, vs, rfl, hq, hd⟩ := hd
          refine ⟨a, vs, rfl, SqT.of (e.sub _ _ hq), by rw [hd.length, hlen], F, ρ, φ, ds, e, hd, ?_⟩
          rw [hk]
          exact k
        · cases hk
      · exact k.elim
    | _ => exact k.elim
end
/-! a, b = e -/
def mAsgT (m : Env' → R M) (g : PyData → Env' → Option Env') : Env' → O := fun ρ => match m ρ with
  | .ok x ρ1 => match x.frz with
    | some d => match g d ρ1 with
      | some ρ2 => .next ρ2
      | none => .bad
    | none => .bad
  | .err x ρ1 => .err x ρ1
  | .bad => .bad
section
variable {X : Cx} {E : XK} {J T : List Nat} {pos : Pos} {g : PyData → Env' → Option Env'} {m : Env' → R M} {tg e : Expr}
theorem pin_of {J T : List Nat} {σ σ' : L2.St} (h : KeepS T σ σ') (d : ∀ j ∈ J, j ∉ T) : Pin J σ σ' := fun j hj => h.at' j (d j hj)
theorem ds_asgT (hj : ∀ j ∈ J, j ∉ T) (he : DE X E e m) (hg : DG X T tg g) (hs : swapsWithSole [tg] e pos.line X.env = pure false := by rfl) (hw : swappedStores [tg] e X.env = pure none := by rfl)
    (h1 : (assignEach [tg] X.env).map (·.2) = [assign tg X.env] := by rfl) : DS X E J (.Assign [tg] e pos) (mAsgT m g) := (ps_asg he hg hs hw h1).imp fun D σ H ⟨F, ρ, φ, e, k⟩ => by
  refine ⟨F, ρ, φ, e, ?_⟩
  unfold mAsgT at k
  cases hm : m ρ with
  | bad => rw [hm] at k; exact k.elim
  | err x ρ' => rw [hm] at k; exact k.err
  | ok x ρ1 =>
    rw [hm] at k
    dsimp only at k
    intro F1 H1 φ1 v f e1 r1 d1 x1
    cases hz : x.frz with
    | none => rw [hz] at k; exact k.elim
    | some d =>
      rw [hz] at k
      dsimp only at k
      have hn : ∀ a ∈ f, F1 a = none := fun a ha => (r1.fp a ha).2
      have e2 := e1.freeze d1 hn
      have x2 := x1.freeze hn
      have rd := r1.frozen hz
      refine ⟨_, ρ1, φ1, d, e2, rd, ?_⟩
      cases hg : g d ρ1 with
      | none => rw [hg] at k; exact k.elim
      | some ρ2 =>
        rw [hg] at k
        intro φ2 σ2 e3 o3 s3
        exact k _ H1 φ2 σ2 e3 (x2.less o3) (pin_of s3 hj)
end

/-! ### what is walked -/
structure WalkD (K : Frag) (F : Hp) (J : It) (ds : List PyData) : Prop where
  go : ∀ i F1 H1, i < ds.length → Sub F F1 → Sub F1 H1 → J.go i H1
  yld : ∀ (i : Nat) d F1 H1 x H2, ds[i]? = some d → Sub F F1 → Sub F1 H1 → J.yld i H1 x H2 → ∃ F2, Grow F1 H1 F2 H2 [] ∧ IsD K F2 d x
  stop : ∀ F1 H1, Sub F F1 → Sub F1 H1 → J.stop ds.length H1
def tI' (K : Frag) (mg : Str → Option Value) (E : XK) (m : Env' → R (List PyData)) : TI := fun σ H R => ∃ F ρ φ, EnvOk K F H σ ρ φ ∧ match m ρ with
  | .ok ds ρ' => ∀ F' H' φ' J, EnvOk K F' H' σ ρ' φ' → WalkD K F' J ds → Ext F H (Om φ) F' H' (Om φ') → R J H'
  | .err x ρ' => XOk K mg E F H φ σ x ρ'
  | .bad => False
abbrev DI (X : Cx) (E : XK) (tg iter : Expr) (m : Env' → R (List PyData)) : Prop := PI X tg iter (tI' X.K X.mg E m)
def mLoop (g : PyData → Env' → Option Env') (b : Env' → O) : List PyData → Env' → O
  | [], ρ => .next ρ
  | d :: ds, ρ => match g d ρ with
    | none => .bad
    | some ρ1 => match b ρ1 with
      | .next ρ2 => mLoop g b ds ρ2
      | .cont ρ2 => mLoop g b ds ρ2
      | .brk ρ2 => .next ρ2
      | o => o
def mFor (it : Env' → R (List PyData)) (g : PyData → Env' → Option Env') (b : Env' → O) : Env' → O := fun ρ => match it ρ with
  | .ok ds ρ1 => mLoop g b ds ρ1
  | .err x ρ1 => .err x ρ1
  | .bad => .bad
section
variable {X : Cx} {E : XK} {J T : List Nat} {pos : Pos} {g : PyData → Env' → Option Env'} {it : Env' → R (List PyData)} {b : Env' → O} {tg iter : Expr} {body : List Stmt}
theorem ds_for (hj : ∀ j ∈ J, j ∉ T) (hp : PassesOwn (model X.prog X.w) X.A X.env X.xe) (hc : X.calm = true) (hi : DI X E tg iter it) (hg : DG X T tg g) (hb : DSs X E J body b)
    (hs : ∀ x, foldedSetIterable iter X.env x = pure x := by intro _; rfl) : DS X E J (.For tg iter body [] pos) (mFor it g b) := (ps_for hp hc hi hg hb hs).imp fun D σ H ⟨F, ρ, φ, e, k⟩ => by
  refine ⟨F, ρ, φ, e, ?_⟩
  unfold mFor at k
  cases hm : it ρ with
  | bad => rw [hm] at k; exact k.elim
  | err x ρ' => rw [hm] at k; exact k.err
  | ok ds ρ1 =>
    rw [hm] at k
    intro F1 H1 φ1 Jt e1 w1 x1
    dsimp only at k
    generalize ho : mLoop g b ds ρ1 = o at k
    refine ⟨fun i m σ' H' => m = ds.length - i ∧ i ≤ ds.length ∧ ∃ F' ρ' φ', EnvOk X.K F' H' σ' ρ' φ' ∧ Sub F1 F' ∧ Ext F H (Om φ) F' H' (Om φ') ∧ Pin J σ σ' ∧ mLoop g b (ds.drop i) ρ' = o,
      ⟨_, rfl, Nat.zero_le _, F1, ρ1, φ1, e1, fun _ _ h => h, x1, .refl, ho⟩, ?_⟩
    rintro i m σ' H' ⟨rfl, hi, F', ρ', φ', e', s', x', p', h'⟩
    by_cases hlt : i < ds.length
    · refine .inr ⟨w1.go i F' H' hlt s' e'.sub, fun σ2 H2 => ∃ F2 ρ2 φ2, EnvOk X.K F2 H2 σ2 ρ2 φ2 ∧ Sub F1 F2 ∧ Ext F H (Om φ) F2 H2 (Om φ2) ∧ Pin J σ σ2 ∧ mLoop g b (ds.drop (i + 1)) ρ2 = o, fun σ2 H2 h2 => ⟨ds.length - (i + 1), by omega, rfl, hlt, h2⟩, fun x H2 hy => ?_⟩
      have hd : ds[i]? = some ds[i] := List.getElem?_eq_getElem hlt
      obtain ⟨F2, gr, rx⟩ := w1.yld i _ F' H' x H2 hd s' e'.sub hy
      have e2 := gr.env e'
      rw [List.drop_eq_getElem_cons hlt, mLoop] at h'
      refine ⟨F2, ρ', φ', ds[i], e2, rx, ?_⟩
      cases hgd : g ds[i] ρ' with
      | none => rw [hgd] at h'; subst h'; exact k.elim
      | some ρ2 =>
        rw [hgd] at h'
        intro φ3 σ3 e3 o3 s3
        have p3 : Pin J σ' σ3 := pin_of s3 hj
        have x3 : Ext F H (Om φ) F2 H2 (Om φ3) := (x'.trans gr.ext0).less o3
        refine ⟨F2, ρ2, φ3, e3, ?_⟩
        dsimp only at h'
        cases hb' : b ρ2 with
        | next ρ4 => rw [hb'] at h'; exact fun F4 H4 φ4 σ4 e4 x4 p4 => ⟨F4, ρ4, φ4, e4, fun a o q => x4.mono _ _ (gr.mono _ _ (s' _ _ q)), x3.trans x4, (p'.trans p3).trans p4, h'⟩
        | cont ρ4 => rw [hb'] at h'; exact fun F4 H4 φ4 σ4 e4 x4 p4 => ⟨F4, ρ4, φ4, e4, fun a o q => x4.mono _ _ (gr.mono _ _ (s' _ _ q)), x3.trans x4, (p'.trans p3).trans p4, h'⟩
        | brk ρ4 => rw [hb'] at h'; dsimp only at h'; subst h'; exact k.next x3 (p'.trans p3)
        | ret y ρ4 => rw [hb'] at h'; dsimp only at h'; subst h'; exact k.next x3 (p'.trans p3)
        | err y ρ4 => rw [hb'] at h'; dsimp only at h'; subst h'; exact k.next x3 (p'.trans p3)
        | bad => rw [hb'] at h'; dsimp only at h'; subst h'; exact k.elim
    · have hil : i = ds.length := by omega
      subst hil
      rw [List.drop_length, mLoop] at h'
      subst h'
      exact .inl ⟨w1.stop F' H' s' e'.sub, k F' H' φ' σ' e' x' p'⟩
end

/-! ### comprehensions -/
def wipeE (ρ : Env') : List Nat → Env'
  | [] => ρ
  | v :: vs => (wipeE ρ vs).set v none
def rest' (vs : List Nat) (ρ0 : Env') : Nat → Env' → Env'
  | _, [] => []
  | k, o :: r => (if k ∈ vs then (ρ0[k]?).join else o) :: rest' vs ρ0 (k + 1) r
def isLeaf : Option (Option M) → Bool
  | some (some (.leaf _)) => true
  | some none => true
  | none => true
  | _ => false
def cLoop (g : PyData → Env' → Option Env') (t : Env' → R Bool) (elt : Env' → R M) (vs : List Nat) : List PyData → Env' → List M → R (List M)
  | [], ρ, acc => .ok acc ρ
  | d :: ds, ρ, acc => match g d ρ with
    | none => .bad
    | some ρ1 => match t ρ1 with
      | .ok true ρ2 => match elt ρ2 with
        | .ok x ρ3 => cLoop g t elt vs ds (wipeE ρ3 vs) (acc ++ [x])
        | _ => .bad
      | .ok false ρ2 => cLoop g t elt vs ds (wipeE ρ2 vs) acc
      | _ => .bad
def mComp (it : Env' → R (List PyData)) (g : PyData → Env' → Option Env') (t : Env' → R Bool) (elt : Env' → R M) (vs : List Nat) : Env' → R M := fun ρ => match it ρ with
  | .ok ds ρ1 => if ds.length ≤ 1000000 ∧ (vs.all fun i => isLeaf ρ1[i]?) = true then match cLoop g t elt vs ds (wipeE ρ1 vs) [] with
      | .ok ms ρ2 => .ok (.lst ms) (rest' vs ρ1 0 ρ2)
      | _ => .bad
    else .bad
  | .err x ρ1 => .err x ρ1
  | .bad => .bad
theorem rest_get {vs : List Nat} {ρ0 : Env'} : ∀ {k : Nat} {ρ : Env'} {j : Nat}, (rest' vs ρ0 k ρ)[j]? = (ρ[j]?).map fun o => if k + j ∈ vs then (ρ0[k + j]?).join else o
  | k, [], j => by simp [rest']
  | k, o :: r, 0 => by simp [rest']
  | k, o :: r, j + 1 => by
    simp only [rest', List.getElem?_cons_succ]
    rw [rest_get (k := k + 1) (ρ := r) (j := j)]
    simp [Nat.add_assoc, Nat.add_comm 1 j]
theorem rest_len {vs : List Nat} {ρ0 : Env'} : ∀ {k : Nat} {ρ : Env'}, (rest' vs ρ0 k ρ).length = ρ.length
  | _, [] => rfl
  | k, o :: r => by simp [rest', rest_len (k := k + 1) (ρ := r)]
theorem wipeE_len {ρ : Env'} : ∀ vs : List Nat, (wipeE ρ vs).length = ρ.length
  | [] => rfl
  | v :: vs => by simp [wipeE, wipeE_len vs]
theorem wipeE_get {ρ : Env'} {i : Nat} : ∀ {vs : List Nat}, (wipeE ρ vs)[i]? = if i ∈ vs then (ρ[i]?).map fun _ => none else ρ[i]?
  | [] => by simp [wipeE]
  | v :: vs => by
    simp only [wipeE]
    by_cases h : v = i
    · subst h
      by_cases hl : v < ρ.length
      · rw [List.getElem?_set_self (by rw [wipeE_len]; exact hl)]; simp [hl]
      · rw [List.getElem?_eq_none (by simp [wipeE_len]; omega)]; simp [hl]
    · rw [List.getElem?_set_ne h, wipeE_get]
      have : (i ∈ v :: vs) ↔ i ∈ vs := by simp [Ne.symm h]
      simp only [this]
section
variable {K : Frag} {F H : Hp} {σ : L2.St} {ρ : Env'} {φ : Nat → List Addr}
def wphi (φ : Nat → List Addr) (vs : List Nat) : Nat → List Addr := fun j => if j ∈ vs then [] else φ j
theorem EnvOk.wipe (e : EnvOk K F H σ ρ φ) : ∀ vs : List Nat, EnvOk K F H (L2.wipe σ vs) (wipeE ρ vs) (wphi φ vs)
  | [] => by
    have : wphi φ [] = φ := by funext j; simp [wphi]
    rw [this]; exact e
  | v :: vs => by
    have h := (e.wipe vs).drop v none
    have : (fun j => if j = v then [] else wphi φ vs j) = wphi φ (v :: vs) := by
      funext j
      by_cases h1 : j = v <;> by_cases h2 : j ∈ vs <;> simp [wphi, h1, h2]
    rw [this] at h
    exact h
theorem om_wphi {vs : List Nat} {a : Addr} (h : Om (wphi φ vs) a) : Om φ a := by
  obtain ⟨j, h⟩ := h
  unfold wphi at h
  split at h
  · simp at h
  · exact ⟨j, h⟩
/-- behind the block -/
theorem EnvOk.unwipe {F0 H0 : Hp} {ρ0 : Env'} {φ0 φ' : Nat → List Addr} {vs : List Nat} {ρ' : Env'} (e0 : EnvOk K F0 H0 σ ρ0 φ0) (hl : (vs.all fun i => isLeaf ρ0[i]?) = true) (s : Sub F0 F) (e : EnvOk K F H (L2.wipe σ vs) ρ' φ') :
    EnvOk K F H σ (rest' vs ρ0 0 ρ') (wphi φ' vs) := by
  have hlen : σ.length = ρ'.length := by rw [← e.len, wipe_length]
  refine ⟨e.sub, by rw [rest_len]; exact hlen, fun i m h => ?_, fun i j a hi hj => ?_, fun i h => ?_⟩
  · rw [rest_get, Nat.zero_add, Option.map_eq_some_iff] at h
    obtain ⟨o, ho, h⟩ := h
    by_cases hv : i ∈ vs
    · rw [if_pos hv] at h
      have h' := qName_some h
      obtain ⟨v, hv', r⟩ := e0.rep i m h'
      have := List.all_eq_true.mp hl i hv
      rw [h'] at this
      cases m with
      | leaf d => exact ⟨v, hv', by rw [wphi, if_pos hv]; exact .leaf ((rep_leaf r).mono s)⟩
      | _ => cases this
    · rw [if_neg hv] at h
      subst h
      obtain ⟨v, hv', r⟩ := e.rep i m ho
      rw [wipe_out hv] at hv'
      exact ⟨v, hv', by rw [wphi, if_neg hv]; exact r⟩
  · unfold wphi at hi hj
    split at hi
    · simp at hi
    · split at hj
      · simp at hj
      · exact e.dis i j a hi hj
  · unfold wphi
    split
    · rfl
    · rename_i hv
      refine e.emp i fun m hm => h m ?_
      rw [rest_get, Nat.zero_add, hm]
      simp [hv]
theorem wipe_eq {σ σ' : L2.St} {vs : List Nat} (h : ∀ i, i ∉ vs → σ'[i]? = σ[i]?) (hl : σ'.length = σ.length) : L2.wipe σ' vs = L2.wipe σ vs := by
  apply List.ext_getElem?
  intro i
  have hw : ∀ (τ : L2.St), i < τ.length → i ∈ vs → (L2.wipe τ vs)[i]? = some none := by
    intro τ hi hv
    induction vs with
    | nil => simp at hv
    | cons v vs ih =>
      show ((L2.wipe τ vs).set v none)[i]? = some none
      by_cases e : v = i
      · subst e; rw [List.getElem?_set_self (by rw [wipe_length]; exact hi)]
      · rw [List.getElem?_set_ne e]
        have hv' : i ∈ vs := by
          rcases List.mem_cons.mp hv with q | q
          · exact absurd q.symm e
          · exact q
        by_cases hin : ∀ j, j ∉ vs → σ'[j]? = σ[j]?
        · exact ih hin hv'
        · -- no need of the premise
          clear ih h hin
          induction vs with
          | nil => simp at hv'
          | cons u us ih2 =>
            show ((L2.wipe τ us).set u none)[i]? = some none
            by_cases e2 : u = i
            · subst e2; rw [List.getElem?_set_self (by rw [wipe_length]; exact hi)]
            · rw [List.getElem?_set_ne e2]
              refine ih2 ?_ ?_
              · rcases List.mem_cons.mp hv with q | q
                · exact absurd q.symm e
                · rcases List.mem_cons.mp q with q | q
                  · exact absurd q.symm e2
                  · exact List.mem_cons_of_mem _ q
              · rcases List.mem_cons.mp hv' with q | q
                · exact absurd q.symm e2
                · exact q
  by_cases hv : i ∈ vs
  · by_cases hi : i < σ.length
    · rw [hw σ hi hv, hw σ' (by omega) hv]
    · rw [List.getElem?_eq_none (by rw [wipe_length]; omega), List.getElem?_eq_none (by rw [wipe_length]; omega)]
  · rw [wipe_out hv, wipe_out hv, h i hv]
end
end G
namespace G
open PySem PySem.Spec PyProof.Rows L2

abbrev DTs (X : Cx) (E : XK) (ifs : List Expr) (t : Env' → R Bool) : Prop := PTs X ifs (tB' X.K X.mg E t)
def tTrue : Env' → R Bool := fun ρ => .ok true ρ
theorem dts_nil {X : Cx} {E : XK} : DTs X E [] tTrue := ⟨fun pins s σ H Q I ⟨F, ρ, φ, e, k⟩ => pts_nil.run pins s σ H Q I (k F H φ e .refl)⟩
theorem dts_one {X : Cx} {E : XK} {c : Expr} {t : Env' → R Bool} (h : DT X E c t) : DTs X E [c] t := pts_one h
section
variable {K : Frag} {F H F1 H1 : Hp} {O O1 : Addr → Prop} {σ : L2.St} {ρ : Env'} {φ : Nat → List Addr} {D : Addr} {o : HO}
theorem Ext.upd (a : Ext F H O F1 H1 O1) (hD : O1 D) : Ext F H O F1 (L2.upd H1 D o) O1 := ⟨a.mono, a.new, fun x u h n => by
  have hx : x ≠ D := by
    rintro rfl
    rcases a.own x hD with q | q
    · exact n q
    · rw [h] at q; cases q
  rw [upd_ne hx]; exact a.keep x u h n, a.own⟩
theorem sub_upd (s : Sub F H) (hF : F D = none) : Sub F (L2.upd H D o) := fun a u e => by
  have : a ≠ D := by rintro rfl; rw [hF] at e; cases e
  rw [upd_ne this]; exact s a u e
theorem EnvOk.upd (e : EnvOk K F H σ ρ φ) (hD : ¬ Om φ D) (hF : F D = none) : EnvOk K F (L2.upd H D o) σ ρ φ := by
  refine ⟨sub_upd e.sub hF, e.len, fun i m h => ?_, e.dis, e.emp⟩
  obtain ⟨v, hv, r⟩ := e.rep i m h
  refine ⟨v, hv, r.keep .refl (fun a ha u q => ?_) fun a ha => (r.fp a ha).2⟩
  rw [upd_ne (by rintro rfl; exact hD ⟨i, ha⟩)]; exact q
theorem Reps.updN {vs : List V} {ms : List M} {f : List Addr} (r : Reps K F H vs ms f) (hD : D ∉ f) : Reps K F (L2.upd H D o) vs ms f :=
  r.keep .refl (fun a ha u q => by rw [upd_ne (by rintro rfl; exact hD ha)]; exact q) fun a ha => (r.fp a ha).2
theorem Rep.updN {v : V} {m : M} {f : List Addr} (r : Rep K F H v m f) (hD : D ∉ f) : Rep K F (L2.upd H D o) v m f :=
  r.keep .refl (fun a ha u q => by rw [upd_ne (by rintro rfl; exact hD ha)]; exact q) fun a ha => (r.fp a ha).2
theorem Reps.len : ∀ {vl : List V} {ms : List M} {fs : List Addr}, Reps K F H vl ms fs → vl.length = ms.length
  | _, _, _, .nil => rfl
  | _, _, _, .cons _ r _ => by simp [Reps.len r]
theorem Reps.snoc : ∀ {vs : List V} {ms : List M} {fs : List Addr} {v : V} {m : M} {f : List Addr}, Reps K F H vs ms fs → Rep K F H v m f → (∀ a ∈ f, a ∉ fs) → Reps K F H (vs ++ [v]) (ms ++ [m]) (fs ++ f)
  | _, _, _, v, m, f, .nil, r, _ => by
    have := Reps.cons r Reps.nil (fun a _ => by simp)
    simpa using this
  | _, _, _, v, m, f, .cons (f1 := f1) (f2 := f2) r1 r2 d, r, h => by
    have := Reps.cons r1 (Reps.snoc r2 r fun a ha z => h a ha (List.mem_append_right _ z)) (fun a ha z => by
      rcases List.mem_append.mp z with z | z
      · exact d a ha z
      · exact h a z (List.mem_append_left _ ha))
    simpa using this
end
section
variable {X : Cx} {E Eb : XK} {T : List Nat} {pos : Pos} {g : PyData → Env' → Option Env'} {it : Env' → R (List PyData)} {t : Env' → R Bool} {me : Env' → R M} {elt tg iter : Expr} {ifs : List Expr} {scope : Scope} {own : List (Str × Nat)}
theorem i_comp {vs : List Nat} (hT : ∀ i ∈ T, i ∈ vs) {K : Frag} {mg : Str → Option Value} (hE : ∀ c d H, ¬ Eb c d H) (σ : L2.St) (H : Hp) (Q : VK) :
    tE K mg E (mComp it g t me vs) σ H Q → tLc (tI' K mg E it) (tG' K T g) (tB' K mg Eb t) (tE K mg Eb me) vs σ H Q := fun ⟨F, ρ, φ, e, k⟩ => by
  refine ⟨F, ρ, φ, e, ?_⟩
  unfold mComp at k
  cases hm : it ρ with
  | bad => rw [hm] at k; exact k.elim
  | err x ρ' => rw [hm] at k; exact k
  | ok ds ρ1 =>
    rw [hm] at k
    dsimp only at k
    intro F1 H1 φ1 Jt e1 w1 x1 D hD
    by_cases hw : ds.length ≤ 1000000 ∧ (vs.all fun i => isLeaf ρ1[i]?) = true
    case neg => rw [if_neg hw] at k; exact k.elim
    rw [if_pos hw] at k
    obtain ⟨hlen, hleaf⟩ := hw
    generalize ho : cLoop g t me vs ds (wipeE ρ1 vs) [] = o at k
    have hFD : F1 D = none := by
      cases q : F1 D with
      | none => rfl
      | some u => rw [e1.sub D u q] at hD; cases hD
    have g0 : Grow F1 H1 F1 (L2.upd H1 D (.lst [])) [D] := Grow.own1 e1.sub hD
    let W : Nat → Hp → Prop := fun i H' => ∃ F' ρ' φ' ms vl fs, EnvOk K F' H' (L2.wipe σ vs) ρ' φ' ∧ H' D = some (.lst vl) ∧ Reps K F' H' vl ms fs ∧ D ∉ fs ∧ F' D = none ∧ (∀ a ∈ D :: fs, ¬ Om φ' a) ∧ Sub F1 F' ∧
        Ext F H (Om φ) F' H' (fun a => Om φ' a ∨ a ∈ D :: fs) ∧ ms.length ≤ i ∧ cLoop g t me vs (ds.drop i) ρ' ms = o
    refine ⟨fun i m H' => m = ds.length - i ∧ i ≤ ds.length ∧ W i H', ⟨_, rfl, Nat.zero_le _, F1, wipeE ρ1 vs, wphi φ1 vs, [], [], [], g0.env (e1.wipe vs), upd_same, .nil, by simp, hFD, fun a h => g0.off (e1.wipe vs) a h, fun _ _ h => h, ?_, Nat.zero_le _, ho⟩, ?_⟩
    · refine (x1.trans g0.ext).less fun a h => ?_
      rcases h with h | h
      · exact .inl (om_wphi h)
      · exact .inr h
    rintro i m H' ⟨rfl, hi, F', ρ', φ', ms, vl, fs, e', hD', rs, nD, fD, off, s', x', hms, h'⟩
    have hvl := rs.len
    by_cases hlt : i < ds.length
    · refine .inr ⟨w1.go i F' H' hlt s' e'.sub, W (i + 1), fun H2 h2 => ⟨ds.length - (i + 1), by omega, rfl, hlt, h2⟩, fun x H2 hy => ?_⟩
      have hd : ds[i]? = some ds[i] := List.getElem?_eq_getElem hlt
      obtain ⟨F2, gr, rx⟩ := w1.yld i _ F' H' x H2 hd s' e'.sub hy
      have e2 := gr.env e'
      have rD : Rep K F' H' (.ref D) (.lst ms) (D :: fs) := .lst hD' fD rs nD
      have rD2 := gr.rep rD
      have x2 := x'.trans (gr.ext0 (O := fun a => Om φ' a ∨ a ∈ D :: fs))
      rw [List.drop_eq_getElem_cons hlt, cLoop] at h'
      refine ⟨F2, ρ', φ', ds[i], e2, rx, ?_⟩
      cases hgd : g ds[i] ρ' with
      | none => rw [hgd] at h'; subst h'; exact k.elim
      | some ρ2 =>
        rw [hgd] at h'
        dsimp only at h'
        intro φ3 σ3 e3 o3 s3
        have hwip : L2.wipe σ3 vs = L2.wipe σ vs := by
          rw [wipe_eq (σ := L2.wipe σ vs) (fun i hi => s3.at' i fun z => hi (hT i z)) s3.len]
          exact wipe_eq (fun i hi => wipe_out hi) (wipe_length _ _)
        have off3 : ∀ a ∈ D :: fs, ¬ Om φ3 a := fun a ha z => off a ha (o3 a z)
        have x3 : Ext F H (Om φ) F2 H2 (fun a => Om φ3 a ∨ a ∈ D :: fs) := x2.less fun a h => h.imp (o3 a) id
        refine ⟨hwip, F2, ρ2, φ3, e3, ?_⟩
        cases ht : t ρ2 with
        | bad => rw [ht] at h'; subst h'; exact k.elim
        | err y ρ4 => rw [ht] at h'; subst h'; exact k.elim
        | ok b ρ4 =>
          rw [ht] at h'
          intro F4 H4 φ4 e4 x4
          obtain ⟨rD4, off4⟩ := rD2.ext x4 off3
          have x4' : Ext F H (Om φ) F4 H4 (fun a => Om φ4 a ∨ a ∈ D :: fs) := x3.tmp rD2.fp off3 x4
          have s4 : Sub F1 F4 := fun a o q => x4.mono _ _ (gr.mono _ _ (s' _ _ q))
          cases b with
          | false =>
            rw [if_neg Bool.false_ne_true]
            dsimp only at h'
            have e5 := e4.wipe vs
            rw [hwip] at e5
            cases rD4 with | lst q1 q2 q3 q4 => ?_
            exact ⟨F4, _, _, ms, _, fs, e5, q1, q3, q4, q2, fun a ha z => off4 a ha (om_wphi z), s4, x4'.less fun a h => h.imp om_wphi id, by omega, h'⟩
          | true =>
            rw [if_pos rfl]
            dsimp only at h'
            refine ⟨F4, ρ4, φ4, e4, ?_⟩
            cases hme : me ρ4 with
            | bad => rw [hme] at h'; subst h'; exact k.elim
            | err y ρ5 => rw [hme] at h'; subst h'; exact k.elim
            | ok y ρ5 =>
              rw [hme] at h'
              dsimp only at h'
              intro F5 H5 φ5 v f e5 r5 d5 x5
              obtain ⟨rD5, off5⟩ := rD4.ext x5 off4
              have x5' := x4'.tmp rD4.fp off4 x5
              cases rD5 with | lst q1 q2 q3 q4 => ?_
              rename_i vl5
              have q3l := q3.len
              have s5 : Sub F1 F5 := fun a o q => x5.mono _ _ (s4 _ _ q)
              have nf : ∀ a ∈ f, a ∉ D :: fs := fun a ha hb => off5 a hb (.inr ha)
              have hDf : D ∉ f := fun ha => nf D ha (by simp)
              have offD : ¬ Om φ5 D := fun z => off5 D (by simp) (.inl z)
              refine ⟨vl5, q1, ?_, ?_⟩
              · have : sizeLine = 16777216 := sizeLine_eq
                omega
              have e6 := (e5.upd (D := D) (o := .lst (vl5 ++ [v])) offD q2).wipe vs
              rw [hwip] at e6
              refine ⟨F5, _, _, ms ++ [y], vl5 ++ [v], fs ++ f, e6, upd_same, (q3.updN q4).snoc (r5.updN hDf) (fun a ha hb => nf a ha (by simp [hb])), ?_, q2, ?_, s5, ?_, by simp; omega, h'⟩
              · intro h
                rcases List.mem_append.mp h with h | h
                · exact q4 h
                · exact hDf h
              · intro a ha z
                have z' := om_wphi z
                rcases List.mem_cons.mp ha with rfl | ha
                · exact offD z'
                · rcases List.mem_append.mp ha with ha | ha
                  · exact off5 a (by simp [ha]) (.inl z')
                  · exact d5 a ha z'
              · refine (x5'.upd (D := D) (.inr (by simp))).less fun a h => ?_
                rcases h with h | h
                · exact .inl (.inl (om_wphi h))
                · rcases List.mem_cons.mp h with rfl | h
                  · exact .inr (by simp)
                  · rcases List.mem_append.mp h with h | h
                    · exact .inr (by simp [h])
                    · exact .inl (.inr h)
    · have hil : i = ds.length := by omega
      subst hil
      rw [List.drop_length, cLoop] at h'
      subst h'
      refine .inl ⟨w1.stop F' H' s' e'.sub, ?_⟩
      dsimp only at k
      refine k F' H' (wphi φ' vs) (.ref D) (D :: fs) (e1.unwipe hleaf s' e') (.lst hD' fD rs nD) (fun a ha z => off a ha (om_wphi z)) (x'.less fun a h => ?_)
      exact h.imp om_wphi id
theorem de_comp (hT : ∀ i ∈ T, i ∈ own.map (·.2)) (hc : X.calm = true) (hN : X.N.Nodup) (hi : DI X E tg iter it) (ok : BlkOk X.N X.env.scope scope own)
    (hg : ∀ (s : Shared) (H : Hp) (C : Addr) (cl : List (Str × Addr)) (fp : List Addr), DG (X.blk s H scope (compEnvC scope cl C X.env) fp) T tg g) (ht : ∀ (s : Shared) (H : Hp) (C : Addr) (cl : List (Str × Addr)) (fp : List Addr), DTs (X.blk s H scope (compEnvC scope cl C X.env) fp) E0 ifs t)
    (he : ∀ (s : Shared) (H : Hp) (C : Addr) (cl : List (Str × Addr)) (fp : List Addr), DE (X.blk s H scope (compEnvC scope cl C X.env) fp) E0 elt me) (hs : ∀ x, foldedSetIterable iter X.env x = pure x := by intro _; rfl) :
    DE X E (.ListComp elt [⟨tg, iter, ifs, 0⟩] scope pos) (mComp it g t me (own.map (·.2))) := (pe_lc hc hN hi ok hg ht he hs).imp fun σ H Q h => i_comp hT (fun _ _ _ z => z) σ H Q h
theorem ds_setComp {J : List Nat} {i : Nat} {y : Str} {py spos : Pos} (hj : i ∉ J) (hT : ∀ i ∈ T, i ∈ own.map (·.2)) (hc : X.calm = true) (hN : X.N.Nodup) (hy : X.N[i]? = some y) (hyl : X.env.scope.names.lookup y = some .local)
    (hsw : swapsWith (.ListComp elt [⟨tg, iter, ifs, 0⟩] scope pos) (some (.Name y py)) spos.line X.env = pure true) (hi : DI X E tg iter it) (ok : BlkOk X.N X.env.scope scope own)
    (hg : ∀ (s : Shared) (H : Hp) (C : Addr) (cl : List (Str × Addr)) (fp : List Addr), DG (X.blk s H scope (compEnvC scope cl C X.env) fp) T tg g) (ht : ∀ (s : Shared) (H : Hp) (C : Addr) (cl : List (Str × Addr)) (fp : List Addr), DTs (X.blk s H scope (compEnvC scope cl C X.env) fp) E0 ifs t)
    (he : ∀ (s : Shared) (H : Hp) (C : Addr) (cl : List (Str × Addr)) (fp : List Addr), DE (X.blk s H scope (compEnvC scope cl C X.env) fp) E0 elt me) (hs : ∀ x, foldedSetIterable iter X.env x = pure x := by intro _; rfl) :
    DS X E J (.Assign [.Name y py] (.ListComp elt [⟨tg, iter, ifs, 0⟩] scope pos) spos) (mSet i (mComp it g t me (own.map (·.2)))) :=
  (ps_setLc hc hN hy hyl hsw hi ok hg ht he hs).imp fun D σ H h => i_comp hT (fun _ _ _ z => z) σ H _ (i_set hj D σ H h)
end
end G
namespace G
open PySem PySem.Spec PyProof.Rows L2

/-! ### views -/
def leaves : List M → Option (List PyData)
  | [] => some []
  | .leaf d :: r => (leaves r).map (d :: ·)
  | _ :: _ => none
@[simp] theorem leaves_map (ds : List PyData) : leaves (ds.map .leaf) = some ds := by
  induction ds with
  | nil => rfl
  | cons d r ih => simp [leaves, ih]
def M.lv : M → Option (List PyData)
  | .leaf (.list ds) => some ds
  | .lst ms => leaves ms
  | _ => none
def M.tv : M → Option (List PyData)
  | .leaf (.tuple ds) => some ds
  | _ => none
/-- what may be read by places -/
def M.sv : M → Option (List PyData)
  | .leaf (.list ds) => some ds
  | .lst ms => leaves ms
  | .leaf (.tuple ds) => some ds
  | .ro ds => some ds
  | _ => none
section
variable {K : Frag} {F H : Hp}
theorem leaves_isDs : ∀ {ms : List M} {ds : List PyData} {vs : List V} {f : List Addr}, leaves ms = some ds → Reps K F H vs ms f → IsDs K F ds vs
  | [], ds, vs, f, h, r => by simp [leaves] at h; subst h; cases r; exact .nil
  | .leaf d :: ms, ds, vs, f, h, r => by
    simp only [leaves, Option.map_eq_some_iff] at h
    obtain ⟨l, h, rfl⟩ := h
    cases r with | cons r1 r2 _ => exact .cons (rep_leaf r1) (leaves_isDs h r2)
  | .lst _ :: _, _, _, _, h, _ => by simp [leaves] at h
  | .dK _ :: _, _, _, _, h, _ => by simp [leaves] at h
  | .dT _ :: _, _, _, _, h, _ => by simp [leaves] at h
  | .ins _ _ :: _, _, _, _, h, _ => by simp [leaves] at h
  | .ro _ :: _, _, _, _, h, _ => by simp [leaves] at h
theorem rep_lv {v : V} {x : M} {f : List Addr} {ds : List PyData} (s : Sub F H) (r : Rep K F H v x f) (h : x.lv = some ds) : ∃ a vs, v = .ref a ∧ H a = some (.lst vs) ∧ IsDs K F ds vs := by
  cases r with
  | leaf q =>
    rename_i d
    cases d with
    | list ds' =>
      cases h
      unfold IsD at q
      obtain ⟨a, vs, rfl, h1, h2⟩ := q
      exact ⟨a, vs, rfl, s _ _ h1, h2⟩
    | _ => cases h
  | lst h1 h2 h3 h4 => exact ⟨_, _, rfl, h1, leaves_isDs h h3⟩
  | dK _ _ _ _ _ _ => cases h
  | dT _ _ _ _ _ _ => cases h
  | ins _ _ _ _ _ => cases h
  | ro _ _ => cases h
theorem rep_tv {v : V} {x : M} {f : List Addr} {ds : List PyData} (s : Sub F H) (r : Rep K F H v x f) (h : x.tv = some ds) : ∃ a vs, v = .ref a ∧ F a = some (.tup vs) ∧ IsDs K F ds vs := by
  cases r with
  | leaf q =>
    rename_i d
    cases d with
    | tuple ds' =>
      cases h
      unfold IsD at q
      obtain ⟨a, vs, rfl, h1, h2⟩ := q
      exact ⟨a, vs, rfl, h1, h2⟩
    | _ => cases h
  | lst h1 h2 h3 h4 => cases h
  | dK _ _ _ _ _ _ => cases h
  | dT _ _ _ _ _ _ => cases h
  | ins _ _ _ _ _ => cases h
  | ro _ _ => cases h
theorem rep_sv {v : V} {x : M} {f : List Addr} {ds : List PyData} (s : Sub F H) (r : Rep K F H v x f) (h : x.sv = some ds) : ∃ a vs, v = .ref a ∧ (SqL K H a vs ∨ SqT K H a vs) ∧ IsDs K F ds vs := by
  cases r with
  | leaf q =>
    rename_i d
    cases d with
    | list ds' =>
      cases h
      unfold IsD at q
      obtain ⟨a, vs, rfl, h1, h2⟩ := q
      exact ⟨a, vs, rfl, .inl (.of (s _ _ h1)), h2⟩
    | tuple ds' =>
      cases h
      unfold IsD at q
      obtain ⟨a, vs, rfl, h1, h2⟩ := q
      exact ⟨a, vs, rfl, .inr (SqT.of (s _ _ h1)), h2⟩
    | _ => cases h
  | lst h1 h2 h3 h4 => exact ⟨_, _, rfl, .inl (.of h1), leaves_isDs h h3⟩
  | dK _ _ _ _ _ _ => cases h
  | dT _ _ _ _ _ _ => cases h
  | ins _ _ _ _ _ => cases h
  | ro q1 q2 => cases h; exact ⟨_, _, rfl, .inl (G.SqL.mono' s q1), q2⟩
theorem isD_int_iff {i : Int} {v : V} : IsD K F (.int i) v ↔ v = .int i := by unfold IsD; rfl
theorem isD_str_iff {i : Str} {v : V} : IsD K F (.str i) v ↔ v = .str i := by unfold IsD; rfl
theorem isD_bool_iff {i : Bool} {v : V} : IsD K F (.bool i) v ↔ v = .bl i := by unfold IsD; rfl
theorem isD_none_iff {v : V} : IsD K F .none v ↔ v = .non := by unfold IsD; rfl
theorem isD_int (i : Int) : IsD K F (.int i) (.int i) := isD_int_iff.mpr rfl
theorem isD_str (i : Str) : IsD K F (.str i) (.str i) := isD_str_iff.mpr rfl
theorem isD_bool (i : Bool) : IsD K F (.bool i) (.bl i) := isD_bool_iff.mpr rfl
theorem isD_none : IsD K F .none .non := isD_none_iff.mpr rfl
end

/-! ### a built-in called by its name -/
section
variable {X : Cx} {E : XK} {a b : Expr} {r : List V → Hp → VK → Prop} {q qa qb : Env' → Option M} {m ma mb : Env' → R M} {x : Str} {p pos : Pos} {id T : String}
theorem dq_b1 {g : M → Option PyData} (hc : CallR X (.builtin id) r) (hr : R1S X.K (fun v => r [v]) g) (hg : Gl X x) (hm : X.mg x = none) (hv : bootBuiltins x = some (.builtin id)) (ha : DQ X a q) (hn : x ≠ "__name__" := by decide) (hdb : (x == ("__debug__" : Str)) = false := by decide)
    (he : starEach [a] X.env = (false, eval a X.env) :: starEach [] X.env := by rfl) (hpl : (backTo pos (starEach [] X.env)).any (·.1) = false := by rfl) : DQ X (.Call (.Name x p) [a] [] pos) (q1 g q) :=
  (pe_callB hc hg hm hv (pa_cons ha pa_nil he) hn hdb he hpl).imp fun σ H Q h => i_q1 hr σ H Q h
theorem de_b1 {g : M → Option M} (hc : CallR X (.builtin id) r) (hr : R1 X.K (fun v => r [v]) g) (hg : Gl X x) (hm : X.mg x = none) (hv : bootBuiltins x = some (.builtin id)) (ha : DE X E a m) (hn : x ≠ "__name__" := by decide) (hdb : (x == ("__debug__" : Str)) = false := by decide)
    (he : starEach [a] X.env = (false, eval a X.env) :: starEach [] X.env := by rfl) (hpl : (backTo pos (starEach [] X.env)).any (·.1) = false := by rfl) : DE X E (.Call (.Name x p) [a] [] pos) (m1 g m) :=
  (pe_callB hc hg hm hv (pa_cons ha pa_nil he) hn hdb he hpl).imp fun σ H Q h => i_1 hr σ H Q h
theorem de_b1q {g : M → Option M} (hc : CallR X (.builtin id) r) (hr : R1 X.K (fun v => r [v]) g) (hg : Gl X x) (hm : X.mg x = none) (hv : bootBuiltins x = some (.builtin id)) (ha : DQ X a q) (hn : x ≠ "__name__" := by decide) (hdb : (x == ("__debug__" : Str)) = false := by decide)
    (he : starEach [a] X.env = (false, eval a X.env) :: starEach [] X.env := by rfl) (hpl : (backTo pos (starEach [] X.env)).any (·.1) = false := by rfl) : DE X E (.Call (.Name x p) [a] [] pos) (m1q g q) :=
  (pe_callB hc hg hm hv (pa_cons ha pa_nil he) hn hdb he hpl).imp fun σ H Q h => i_1q hr σ H Q h
theorem dq_t1 {g : M → Option PyData} (hc : CallR X (.type T) r) (hr : R1S X.K (fun v => r [v]) g) (hg : Gl X x) (hm : X.mg x = none) (hv : bootBuiltins x = some (.type T)) (ha : DQ X a q) (hn : x ≠ "__name__" := by decide) (hdb : (x == ("__debug__" : Str)) = false := by decide)
    (he : starEach [a] X.env = (false, eval a X.env) :: starEach [] X.env := by rfl) (hpl : (backTo pos (starEach [] X.env)).any (·.1) = false := by rfl) : DQ X (.Call (.Name x p) [a] [] pos) (q1 g q) :=
  (pe_callTy hc hg hm hv (pa_cons ha pa_nil he) hn hdb he hpl).imp fun σ H Q h => i_q1 hr σ H Q h
theorem de_t1 {g : M → Option M} (hc : CallR X (.type T) r) (hr : R1 X.K (fun v => r [v]) g) (hg : Gl X x) (hm : X.mg x = none) (hv : bootBuiltins x = some (.type T)) (ha : DE X E a m) (hn : x ≠ "__name__" := by decide) (hdb : (x == ("__debug__" : Str)) = false := by decide)
    (he : starEach [a] X.env = (false, eval a X.env) :: starEach [] X.env := by rfl) (hpl : (backTo pos (starEach [] X.env)).any (·.1) = false := by rfl) : DE X E (.Call (.Name x p) [a] [] pos) (m1 g m) :=
  (pe_callTy hc hg hm hv (pa_cons ha pa_nil he) hn hdb he hpl).imp fun σ H Q h => i_1 hr σ H Q h
theorem de_t1q {g : M → Option M} (hc : CallR X (.type T) r) (hr : R1 X.K (fun v => r [v]) g) (hg : Gl X x) (hm : X.mg x = none) (hv : bootBuiltins x = some (.type T)) (ha : DQ X a q) (hn : x ≠ "__name__" := by decide) (hdb : (x == ("__debug__" : Str)) = false := by decide)
    (he : starEach [a] X.env = (false, eval a X.env) :: starEach [] X.env := by rfl) (hpl : (backTo pos (starEach [] X.env)).any (·.1) = false := by rfl) : DE X E (.Call (.Name x p) [a] [] pos) (m1q g q) :=
  (pe_callTy hc hg hm hv (pa_cons ha pa_nil he) hn hdb he hpl).imp fun σ H Q h => i_1q hr σ H Q h
theorem dq_b2 {g : M → M → Option PyData} (hc : CallR X (.builtin id) r) (hr : R2S X.K (fun v u => r [v, u]) g) (hg : Gl X x) (hm : X.mg x = none) (hv : bootBuiltins x = some (.builtin id)) (ha : DQ X a qa) (hb : DQ X b qb) (hn : x ≠ "__name__" := by decide) (hdb : (x == ("__debug__" : Str)) = false := by decide)
    (he : starEach [a, b] X.env = (false, eval a X.env) :: starEach [b] X.env := by rfl) (he2 : starEach [b] X.env = (false, eval b X.env) :: starEach [] X.env := by rfl) (hpl : (backTo pos (starEach [b] X.env)).any (·.1) = false := by rfl) : DQ X (.Call (.Name x p) [a, b] [] pos) (q2 g qa qb) :=
  (pe_callB hc hg hm hv (pa_cons ha (pa_cons hb pa_nil he2) he) hn hdb he hpl).imp fun σ H Q h => i_q2 hr σ H Q h
theorem de_b2 {g : M → M → Option M} (hc : CallR X (.builtin id) r) (hr : R2 X.K (fun v u => r [v, u]) g) (hg : Gl X x) (hm : X.mg x = none) (hv : bootBuiltins x = some (.builtin id)) (ha : DE X E a ma) (hb : DE X E b mb) (hn : x ≠ "__name__" := by decide) (hdb : (x == ("__debug__" : Str)) = false := by decide)
    (he : starEach [a, b] X.env = (false, eval a X.env) :: starEach [b] X.env := by rfl) (he2 : starEach [b] X.env = (false, eval b X.env) :: starEach [] X.env := by rfl) (hpl : (backTo pos (starEach [b] X.env)).any (·.1) = false := by rfl) : DE X E (.Call (.Name x p) [a, b] [] pos) (m2 g ma mb) :=
  (pe_callB hc hg hm hv (pa_cons ha (pa_cons hb pa_nil he2) he) hn hdb he hpl).imp fun σ H Q h => i_2 hr σ H Q h
end

/-! ### numbers -/
def gI2 (f : Int → Int → PyData) (c : Int → Int → Bool) : M → M → Option PyData
  | .leaf (.int i), .leaf (.int j) => if c i j then some (f i j) else none
  | _, _ => none
theorem r_I2 {K : Frag} {C : Int → Int → Prop} {f : Int → Int → PyData} {g : Int → Int → V} {c : Int → Int → Bool} (hc : ∀ i j, c i j = true → C i j) (hf : ∀ F i j, IsD K F (f i j) (g i j)) : R2S K (rI C g) (gI2 f c) := by
  intro F H v x fa v2 x2 f2 d Q s r r2 h q
  unfold gI2 at h
  split at h
  · split at h
    · rename_i hcc
      cases h
      exact ⟨_, _, isD_int_iff.mp (rep_leaf r), isD_int_iff.mp (rep_leaf r2), hc _ _ hcc, q _ (hf _ _ _)⟩
    · cases h
  · cases h
theorem r_I2' {K : Frag} {f : Int → Int → PyData} {g : Int → Int → V} (hf : ∀ F i j, IsD K F (f i j) (g i j)) : R2S K (rI0 g) (gI2 f fun _ _ => true) := by
  intro F H v x fa v2 x2 f2 d Q s r r2 h q
  unfold gI2 at h
  split at h
  · rw [if_pos rfl] at h
    cases h
    exact ⟨_, _, isD_int_iff.mp (rep_leaf r), isD_int_iff.mp (rep_leaf r2), q _ (hf _ _ _)⟩
  · cases h
def gSub : M → M → Option PyData := gI2 (fun i j => .int (i - j)) fun _ _ => true
def gFdiv : M → M → Option PyData := gI2 (fun i j => .int (i / j)) fun i j => decide (0 < j) && decide (j < 1073741824)
def gMod : M → M → Option PyData := gI2 (fun i j => .int (i % j)) fun i j => decide (0 < j)
def gPow : M → M → Option PyData := gI2 (fun i j => .int (i ^ j.toNat)) fun i j => decide (0 ≤ j) && decide (j ≤ 1000000) && decide (i.natAbs < 2 ^ 64)
def gMulI : M → M → Option PyData := gI2 (fun i j => .int (i * j)) fun i j => (decide (-(2 ^ 64) < i) && decide (i < 2 ^ 64)) || (decide (-(2 ^ 64) < j) && decide (j < 2 ^ 64))
def gLtI : M → M → Option PyData := gI2 (fun i j => .bool (decide (i < j))) fun _ _ => true
def gLeI : M → M → Option PyData := gI2 (fun i j => .bool (decide (i ≤ j))) fun _ _ => true
def gGtI : M → M → Option PyData := gI2 (fun i j => .bool (decide (j < i))) fun _ _ => true
def gGeI : M → M → Option PyData := gI2 (fun i j => .bool (decide (j ≤ i))) fun _ _ => true
section
variable {K : Frag}
theorem r_sub : R2S K (rI0 fun i j => .int (i - j)) gSub := r_I2' fun _ _ _ => isD_int _
theorem r_fdiv : R2S K (rI CDiv fun i j => .int (i / j)) gFdiv := r_I2 (fun i j h => by simpa [CDiv] using h) fun _ _ _ => isD_int _
theorem r_mod : R2S K (rI (fun _ j => 0 < j) fun i j => .int (i % j)) gMod := r_I2 (fun i j h => by simpa using h) fun _ _ _ => isD_int _
theorem r_pow : R2S K (rI CPow fun i j => .int (i ^ j.toNat)) gPow := r_I2 (fun i j h => by
  simp only [Bool.and_eq_true, decide_eq_true_eq] at h
  exact ⟨h.1.1, h.1.2, h.2⟩) fun _ _ _ => isD_int _
theorem r_mulI : R2S K (rI CMul fun i j => .int (i * j)) gMulI := r_I2 (fun i j h => by
  simp only [Bool.or_eq_true, Bool.and_eq_true, decide_eq_true_eq] at h
  exact h) fun _ _ _ => isD_int _
theorem r_ltI : R2S K (rI0 fun i j => .bl (decide (i < j))) gLtI := r_I2' fun _ _ _ => isD_bool _
theorem r_leI : R2S K (rI0 fun i j => .bl (decide (i ≤ j))) gLeI := r_I2' fun _ _ _ => isD_bool _
theorem r_gtI : R2S K (rI0 fun i j => .bl (decide (j < i))) gGtI := r_I2' fun _ _ _ => isD_bool _
theorem r_geI : R2S K (rI0 fun i j => .bl (decide (j ≤ i))) gGeI := r_I2' fun _ _ _ => isD_bool _
def gNeg : M → Option PyData
  | .leaf (.int i) => some (.int (-i))
  | _ => none
theorem r_neg : R1S K (rU fun i => .int (-i)) gNeg := by
  intro F H v x f d Q s r h q
  unfold gNeg at h
  split at h
  · cases h; exact ⟨_, isD_int_iff.mp (rep_leaf r), q _ (isD_int _)⟩
  · cases h
def gAbs : M → Option PyData
  | .leaf (.int i) => some (.int (if i < 0 then -i else i))
  | _ => none
/-! sums: ints, texts; tuples, lists -/
def rAddS : L2.R2 := fun x y H Q => (∃ i j, x = .int i ∧ y = .int j ∧ Q (.int (i + j)) H) ∨ (∃ i j, x = .str i ∧ y = .str j ∧ i.length + j.length ≤ sizeLine ∧ Q (.str (i ++ j)) H)
theorem op_addS {X : Cx} : OpR X (binaryOp .Add) rAddS := op_add.or op_add_str
def gAddS : M → M → Option PyData
  | .leaf (.int i), .leaf (.int j) => some (.int (i + j))
  | .leaf (.str i), .leaf (.str j) => if i.length + j.length ≤ 16777216 then some (.str (i ++ j)) else none
  | _, _ => none
theorem r_addS : R2S K rAddS gAddS := by
  intro F H v x fa v2 x2 f2 d Q s r r2 h q
  unfold gAddS at h
  split at h
  · cases h
    exact .inl ⟨_, _, isD_int_iff.mp (rep_leaf r), isD_int_iff.mp (rep_leaf r2), q _ (isD_int _)⟩
  · split at h
    · rename_i hz
      cases h
      exact .inr ⟨_, _, isD_str_iff.mp (rep_leaf r), isD_str_iff.mp (rep_leaf r2), by rw [sizeLine_eq]; exact hz, q _ (isD_str _)⟩
    · cases h
  · cases h
def rAdd' (K : Frag) : L2.R2 := fun x y H Q => rAddS x y H Q ∨ rCatA K x y H Q ∨ rCat x y H Q
theorem op_add' {X : Cx} : OpR X (binaryOp .Add) (rAdd' X.K) := op_addS.or (op_catA.or op_cat)
/-- + -/
def gAdd : M → M → Option M := fun x y => match gAddS x y with
  | some d => some (.leaf d)
  | none => match x.tv, y.tv with
    | some a, some b => if a.length + b.length ≤ 16777216 then some (.leaf (.tuple (a ++ b))) else none
    | _, _ => match x.lv, y.lv with
      | some a, some b => if a.length + b.length ≤ 16777216 then some (.lst ((a ++ b).map .leaf)) else none
      | _, _ => none
theorem r_add : R2 K (rAdd' K) gAdd := by
  intro F H v x fa v2 x2 f2 y Q s r r2 h q
  unfold gAdd at h
  split at h
  · rename_i d hd
    cases h
    exact .inl (r_addS F H v x fa v2 x2 f2 d Q s r r2 hd fun v' hv => q F H v' [] (.refl s) (.leaf hv))
  · split at h
    · rename_i a b ha hb
      split at h
      · rename_i hz
        cases h
        obtain ⟨p1, vs1, rfl, h1, d1⟩ := rep_tv s r ha
        obtain ⟨p2, vs2, rfl, h2, d2⟩ := rep_tv s r2 hb
        have l1 := d1.length
        have l2 := d2.length
        refine .inr (.inl ⟨p1, p2, vs1, vs2, rfl, rfl, SqT.of (s _ _ h1), SqT.of (s _ _ h2), by rw [sizeLine_eq]; omega, fun e => ?_, fun _ e => ?_, fun _ _ p hp => ?_⟩)
        · subst e
          have : a = [] := List.eq_nil_of_length_eq_zero (by simpa using l1.symm)
          subst this
          refine q F H _ [] (.refl s) (.leaf ?_)
          unfold IsD; exact ⟨_, _, rfl, h2, by simpa using d2⟩
        · subst e
          have : b = [] := List.eq_nil_of_length_eq_zero (by simpa using l2.symm)
          subst this
          refine q F H _ [] (.refl s) (.leaf ?_)
          unfold IsD; exact ⟨_, _, rfl, h1, by simpa using d1⟩
        · have g := Grow.frz1 (o := .tup (vs1 ++ vs2)) s hp
          exact q _ _ _ [] g (.leaf (isD_tup upd_same ((d1.append d2).mono g.mono)))
      · cases h
    · split at h
      · rename_i a b ha hb
        split at h
        · rename_i hz
          cases h
          obtain ⟨p1, vs1, rfl, h1, d1⟩ := rep_lv s r ha
          obtain ⟨p2, vs2, rfl, h2, d2⟩ := rep_lv s r2 hb
          have l1 := d1.length
          have l2 := d2.length
          refine .inr (.inr ⟨p1, p2, vs1, vs2, rfl, rfl, h1, h2, by rw [sizeLine_eq]; omega, fun p hp => ?_⟩)
          have hF : F p = none := by
            cases e : F p with
            | none => rfl
            | some u => rw [s p u e] at hp; cases hp
          exact q _ _ _ [p] (Grow.own1 s hp) (.lst upd_same hF (reps_leaves (d1.append d2)) (by simp))
        · cases h
      · cases h
end

/-! ### len, subscripts -/
def rLen (K : Frag) : List V → Hp → VK → Prop := fun xs H Q => (∃ p ys, xs = [.ref p] ∧ (SqL K H p ys ∨ SqT K H p ys) ∧ Q (.int ys.length) H) ∨ (∃ z, xs = [.str z] ∧ z.length ≤ sizeLine ∧ Q (.int z.length) H)
theorem call_len' {X : Cx} : CallR X (.builtin "len") (rLen X.K) := call_len_seq.or call_len_str
def gLen : M → Option PyData
  | .leaf (.str z) => if z.length ≤ 16777216 then some (.int z.length) else none
  | .lst ms => some (.int ms.length)
  | x => x.sv.map fun ds => .int ds.length
theorem r_len {K : Frag} : R1S K (fun v => rLen K [v]) gLen := by
  intro F H v x f d Q s r h q
  unfold gLen at h
  split at h
  · split at h
    · rename_i hz
      cases h
      exact .inr ⟨_, by rw [isD_str_iff.mp (rep_leaf r)], by rw [sizeLine_eq]; exact hz, q _ (isD_int _)⟩
    · cases h
  · cases h
    cases r with
    | lst h1 h2 h3 h4 => exact .inl ⟨_, _, rfl, .inl (.of h1), by rw [h3.len]; exact q _ (isD_int _)⟩
  · rw [Option.map_eq_some_iff] at h
    obtain ⟨ds, h, rfl⟩ := h
    obtain ⟨a, vs, rfl, h1, h2⟩ := rep_sv s r h
    exact .inl ⟨a, vs, rfl, h1, by rw [h2.length]; exact q _ (isD_int _)⟩
def atD (ds : List PyData) (i : Int) : Option PyData := atI ds i
theorem atI_isD {K : Frag} {F : Hp} {ds : List PyData} {vs : List V} {i : Int} {d : PyData} (h : IsDs K F ds vs) (e : atI ds i = some d) : ∃ v, atI vs i = some v ∧ IsD K F d v := by
  unfold atI at e ⊢
  rw [h.length]
  cases hj : ixN ds.length i with
  | none => rw [hj] at e; cases e
  | some j =>
    rw [hj] at e
    exact h.get e
/-- o[i]: an item of a list, a tuple, a text -/
def gIx : M → M → Option PyData
  | .leaf (.str z), .leaf (.int i) => if z.length ≤ 16777216 then (atI z.cps.toList i).map fun c => .str ⟨#[c]⟩ else none
  | x, .leaf (.int i) => match x.sv with
    | some ds => atI ds i
    | none => none
  | _, _ => none
theorem r_ix {K : Frag} : R2S K (rIx K) gIx := by
  intro F H v x fa v2 x2 f2 d Q s r r2 h q
  unfold gIx at h
  split at h
  · split at h
    · rename_i hz
      rw [Option.map_eq_some_iff] at h
      obtain ⟨c, hc, rfl⟩ := h
      exact .inr (.inr ⟨_, _, c, isD_str_iff.mp (rep_leaf r), isD_int_iff.mp (rep_leaf r2), by rw [sizeLine_eq]; exact hz, hc, q _ (isD_str _)⟩)
    · cases h
  · split at h
    · rename_i ds hds
      obtain ⟨a, vs, rfl, h1, h2⟩ := rep_sv s r hds
      obtain ⟨u, hu, hd⟩ := atI_isD h2 h
      rcases h1 with h1 | h1
      · exact .inl ⟨a, vs, _, u, rfl, isD_int_iff.mp (rep_leaf r2), h1, hu, q _ hd⟩
      · exact .inr (.inl ⟨a, vs, _, u, rfl, isD_int_iff.mp (rep_leaf r2), h1, hu, q _ hd⟩)
    · cases h
  · cases h
section
variable {X : Cx} {E : XK} {a b : Expr} {qa qb : Env' → Option M} {ma mb : Env' → R M} {pos : Pos}
theorem dq_ix (ha : DQ X a qa) (hb : DQ X b qb) (hs : PlainIx b := by exact fun _ _ => rfl) : DQ X (.Subscript a b pos) (q2 gIx qa qb) := (pe_ix ix_seq ha hb hs).imp fun σ H Q h => i_q2 r_ix σ H Q h
theorem de_ix (ha : DE X E a ma) (hb : DE X E b mb) (hs : PlainIx b := by exact fun _ _ => rfl) : DE X E (.Subscript a b pos) (m2 (lf2 gIx) ma mb) := (pe_ix ix_seq ha hb hs).imp fun σ H Q h => i_2 r_ix.up σ H Q h
theorem de_ixl {i : Nat} (ha : PE X a (tVar i)) (hb : DE X E b mb) (hs : PlainIx b := by exact fun _ _ => rfl) : DE X E (.Subscript a b pos) (m2l (lf2 gIx) i mb) := (pe_ix ix_seq ha hb hs).imp fun σ H Q h => i_2l r_ix.up σ H Q h
end
end G
namespace G
open PySem PySem.Spec PyProof.Rows L2

/-! ### data as the library reads it -/
section
variable {K : Frag} {F H : Hp}
mutual
def nd : PyData → Bool
  | .list ds => nds ds
  | .tuple ds => nds ds
  | .dict _ => false
  | _ => true
def nds : List PyData → Bool
  | [] => true
  | d :: ds => nd d && nds ds
end
mutual
theorem IsD.dp : ∀ (d : PyData) (v : V), nd d = true → IsD K H d v → Dp K H v d
  | .none, v, _, h => by unfold IsD at h; subst h; exact .non
  | .bool b, v, _, h => by unfold IsD at h; subst h; exact .bl b
  | .int b, v, _, h => by unfold IsD at h; subst h; exact .int b
  | .str b, v, _, h => by unfold IsD at h; subst h; exact .str b
  | .list ds, v, n, h => by
    unfold IsD at h
    unfold nd at n
    obtain ⟨a, vs, rfl, h1, h2⟩ := h
    exact .lst (.of h1) (IsDs.dp ds vs n h2)
  | .tuple ds, v, n, h => by
    unfold IsD at h
    unfold nd at n
    obtain ⟨a, vs, rfl, h1, h2⟩ := h
    exact .tup (.of h1) (IsDs.dp ds vs n h2)
  | .dict _, v, n, h => by unfold nd at n; cases n
theorem IsDs.dp : ∀ (ds : List PyData) (vs : List V), nds ds = true → IsDs K H ds vs → DpAll K H vs ds
  | [], vs, _, h => by unfold IsDs at h; subst h; exact .nil
  | d :: ds, vs, n, h => by
    unfold IsDs at h
    unfold nds at n
    rw [Bool.and_eq_true] at n
    obtain ⟨v, r, rfl, h1, h2⟩ := h
    exact .cons (IsD.dp d v n.1 h1) (IsDs.dp ds r n.2 h2)
end
mutual
theorem nd_of_lay : ∀ d : PyData, d.canLay0 = true → nd d = true
  | .none, _ => rfl
  | .bool _, _ => rfl
  | .int _, _ => rfl
  | .str _, _ => rfl
  | .list ds, h => by unfold PyData.canLay0 at h; unfold nd; exact nds_of_lay ds h
  | .tuple ds, h => by unfold PyData.canLay0 at h; unfold nd; exact nds_of_lay ds h
  | .dict _, h => by unfold PyData.canLay0 at h; cases h
theorem nds_of_lay : ∀ d : List PyData, PyData.canLayAll0 d = true → nds d = true
  | [], _ => rfl
  | d :: ds, h => by
    unfold PyData.canLayAll0 at h
    rw [Bool.and_eq_true] at h
    unfold nds
    rw [nd_of_lay d h.1, nds_of_lay ds h.2]; rfl
end
end

/-! ### ==, != -/
def gEq : M → M → Option PyData := fun x y => match x.frz, y.frz with
  | some d, some e => if SeqAt.shaped d && SeqAt.shaped e then some (.bool (PyData.eqv d e)) else none
  | _, _ => none
def gNe : M → M → Option PyData := fun x y => match x.frz, y.frz with
  | some d, some e => if SeqAt.shaped d && SeqAt.shaped e then some (.bool (!PyData.eqv d e)) else none
  | _, _ => none
section
variable {K : Frag}
theorem nd_shaped {d : PyData} (h : SeqAt.shaped d = true) : nd d = true := nd_of_lay d (SeqAt.canLay_of_shaped h)
theorem r_eq : R2S K (rEqD K) gEq := by
  intro F H v x fa v2 x2 f2 d Q s r r2 h q
  unfold gEq at h
  split at h
  · rename_i d1 d2 h1 h2
    split at h
    · rename_i hs
      cases h
      rw [Bool.and_eq_true] at hs
      exact ⟨d1, d2, IsD.dp _ _ (nd_shaped hs.1) (r.read s h1), IsD.dp _ _ (nd_shaped hs.2) (r2.read s h2), hs.1, hs.2, q _ (isD_bool _)⟩
    · cases h
  · cases h
theorem r_ne : R2S K (rNeD K) gNe := by
  intro F H v x fa v2 x2 f2 d Q s r r2 h q
  unfold gNe at h
  split at h
  · rename_i d1 d2 h1 h2
    split at h
    · rename_i hs
      cases h
      rw [Bool.and_eq_true] at hs
      exact ⟨d1, d2, IsD.dp _ _ (nd_shaped hs.1) (r.read s h1), IsD.dp _ _ (nd_shaped hs.2) (r2.read s h2), hs.1, hs.2, q _ (isD_bool _)⟩
    · cases h
  · cases h
/-! is None -/
def gIsN : M → Option PyData
  | .leaf .none => some (.bool true)
  | .leaf _ => some (.bool false)
  | .lst _ => some (.bool false)
  | _ => none
def isNd : PyData → Bool
  | .none => true
  | _ => false
theorem isN_of {F : Hp} {d : PyData} {v : V} (h : IsD K F d v) : decide (v = .non) = isNd d := by
  cases d with
  | none => rw [isD_none_iff.mp h]; rfl
  | bool b => rw [isD_bool_iff.mp h]; rfl
  | int b => rw [isD_int_iff.mp h]; rfl
  | str b => rw [isD_str_iff.mp h]; rfl
  | list b => unfold IsD at h; obtain ⟨_, _, rfl, _⟩ := h; rfl
  | tuple b => unfold IsD at h; obtain ⟨_, _, rfl, _⟩ := h; rfl
  | dict b => unfold IsD at h; obtain ⟨_, rfl, _⟩ := h; rfl
def gIsN2 (neg : Bool) : M → M → Option PyData
  | x, .leaf .none => match gIsN x with
    | some (.bool b) => some (.bool (if neg then !b else b))
    | _ => none
  | _, _ => none
theorem r_isN : R2S K (fun x y H Q => y = .non ∧ Q (.bl (decide (x = .non))) H) (gIsN2 false) := by
  intro F H v x fa v2 x2 f2 d Q s r r2 h q
  unfold gIsN2 at h
  split at h
  · split at h
    · rename_i b hb
      cases h
      refine ⟨isD_none_iff.mp (rep_leaf r2), q _ ?_⟩
      unfold gIsN at hb
      split at hb
      · cases hb; rw [isN_of (rep_leaf r)]; exact isD_bool _
      · cases hb; rename_i d hd; rw [isN_of (rep_leaf r)]; cases d <;> first | exact absurd rfl hd | exact isD_bool _
      · cases hb; cases r; exact isD_bool _
      · cases hb
    · cases h
  · cases h
theorem r_notN : R2S K (fun x y H Q => y = .non ∧ Q (.bl (!decide (x = .non))) H) (gIsN2 true) := by
  intro F H v x fa v2 x2 f2 d Q s r r2 h q
  unfold gIsN2 at h
  split at h
  · split at h
    · rename_i b hb
      cases h
      refine ⟨isD_none_iff.mp (rep_leaf r2), q _ ?_⟩
      unfold gIsN at hb
      split at hb
      · cases hb; rw [isN_of (rep_leaf r)]; exact isD_bool _
      · cases hb; rename_i d hd; rw [isN_of (rep_leaf r)]; cases d <;> first | exact absurd rfl hd | exact isD_bool _
      · cases hb; cases r; exact isD_bool _
      · cases hb
    · cases h
  · cases h
/-! in -/
def flatD : PyData → Bool
  | .none => true
  | .bool _ => true
  | .int _ => true
  | .str _ => true
  | _ => false
theorem flat_of {F : Hp} {d : PyData} {v : V} (h : IsD K F d v) (f : flatD d = true) : flatV v = true := by
  cases d with
  | none => rw [isD_none_iff.mp h]; rfl
  | bool b => rw [isD_bool_iff.mp h]; rfl
  | int b => rw [isD_int_iff.mp h]; rfl
  | str b => rw [isD_str_iff.mp h]; rfl
  | _ => cases f
theorem eqV_of {F G : Hp} {d e : PyData} {v u : V} (h : IsD K F d v) (h2 : IsD K G e u) (f : flatD d = true) (f2 : flatD e = true) : eqV v u = PyData.eqv d e := by
  cases d with
  | none => rw [isD_none_iff.mp h]; cases e with
    | none => rw [isD_none_iff.mp h2]; rfl
    | bool b => rw [isD_bool_iff.mp h2]; rfl
    | int b => rw [isD_int_iff.mp h2]; rfl
    | str b => rw [isD_str_iff.mp h2]; rfl
    | _ => cases f2
  | bool b => rw [isD_bool_iff.mp h]; cases e with
    | none => rw [isD_none_iff.mp h2]; rfl
    | bool b => rw [isD_bool_iff.mp h2]; simp [eqV, PyData.eqv]
    | int b => rw [isD_int_iff.mp h2]; simp [eqV, PyData.eqv]
    | str b => rw [isD_str_iff.mp h2]; rfl
    | _ => cases f2
  | int b => rw [isD_int_iff.mp h]; cases e with
    | none => rw [isD_none_iff.mp h2]; rfl
    | bool b => rw [isD_bool_iff.mp h2]; simp [eqV, PyData.eqv]
    | int b => rw [isD_int_iff.mp h2]; simp [eqV, PyData.eqv]
    | str b => rw [isD_str_iff.mp h2]; rfl
    | _ => cases f2
  | str b => rw [isD_str_iff.mp h]; cases e with
    | none => rw [isD_none_iff.mp h2]; rfl
    | bool b => rw [isD_bool_iff.mp h2]; rfl
    | int b => rw [isD_int_iff.mp h2]; rfl
    | str b => rw [isD_str_iff.mp h2]; simp [eqV, PyData.eqv]
    | _ => cases f2
  | _ => cases f
theorem inV_of {F G : Hp} {d : PyData} {v : V} (h : IsD K G d v) (f : flatD d = true) : ∀ {ds : List PyData} {vs : List V}, IsDs K F ds vs → ds.all flatD = true → vs.all flatV = true ∧ inV v vs = ds.any fun y => PyData.eqv y d
  | [], vs, hs, _ => by unfold IsDs at hs; subst hs; exact ⟨rfl, rfl⟩
  | e :: ds, vs, hs, a => by
    unfold IsDs at hs
    obtain ⟨u, r, rfl, h1, h2⟩ := hs
    rw [List.all_cons, Bool.and_eq_true] at a
    obtain ⟨i1, i2⟩ := inV_of h f h2 a.2
    refine ⟨by rw [List.all_cons, flat_of h1 a.1, i1]; rfl, ?_⟩
    unfold inV at i2 ⊢
    rw [List.any_cons, List.any_cons, i2, eqV_of h1 h a.1 f]
def rIn' (K : Frag) : L2.R2 := fun x y H Q => rIn K false x y H Q ∨ (∃ (c : Nat) (z : Str), x = .str ⟨#[c]⟩ ∧ y = .str z ∧ Q (.bl (decide (c ∈ z.cps.toList))) H)
def rNi' (K : Frag) : L2.R2 := fun x y H Q => rIn K true x y H Q ∨ (∃ (c : Nat) (z : Str), x = .str ⟨#[c]⟩ ∧ y = .str z ∧ Q (.bl (!decide (c ∈ z.cps.toList))) H)
theorem op_in' {X : Cx} : OpR X (compareOp .In) (rIn' X.K) := op_in_seq.or op_in_sign
theorem op_ni' {X : Cx} : OpR X (compareOp .NotIn) (rNi' X.K) := op_notIn_seq.or op_notIn_sign
def inD : M → M → Option Bool
  | .leaf (.str s), .leaf (.str z) => match s.cps.toList with
    | [c] => some (decide (c ∈ z.cps.toList))
    | _ => none
  | .leaf d, y => match y.sv with
    | some ds => if flatD d && ds.all flatD then some (ds.any fun e => PyData.eqv e d) else none
    | none => none
  | _, _ => none
def gIn : M → M → Option PyData := fun x y => (inD x y).map .bool
def gNi : M → M → Option PyData := fun x y => (inD x y).map fun b => .bool (!b)
theorem sign_of {s : Str} {c : Nat} (h : s.cps.toList = [c]) : s = ⟨#[c]⟩ := by
  cases s with | mk a => ?_
  simp only at h
  congr 1
  apply Array.toList_inj.mp
  rw [h]
theorem r_in : R2S K (rIn' K) gIn := by
  intro F H v x fa v2 x2 f2 d Q s r r2 h q
  unfold gIn at h
  rw [Option.map_eq_some_iff] at h
  obtain ⟨b, h, rfl⟩ := h
  unfold inD at h
  split at h
  · split at h
    · rename_i z c hc
      cases h
      exact .inr ⟨c, _, by rw [isD_str_iff.mp (rep_leaf r), sign_of hc], isD_str_iff.mp (rep_leaf r2), q _ (isD_bool _)⟩
    · cases h
  · split at h
    · rename_i ds hds
      split at h
      · rename_i hf
        rw [Bool.and_eq_true] at hf
        cases h
        obtain ⟨a, vs, rfl, h1, h2⟩ := rep_sv s r2 hds
        obtain ⟨i1, i2⟩ := inV_of (rep_leaf r) hf.1 h2 hf.2
        refine .inl ⟨a, vs, rfl, h1, flat_of (rep_leaf r) hf.1, i1, ?_⟩
        rw [if_neg (by simp), i2]
        exact q _ (isD_bool _)
      · cases h
    · cases h
  · cases h
theorem r_ni : R2S K (rNi' K) gNi := by
  intro F H v x fa v2 x2 f2 d Q s r r2 h q
  unfold gNi at h
  rw [Option.map_eq_some_iff] at h
  obtain ⟨b, h, rfl⟩ := h
  unfold inD at h
  split at h
  · split at h
    · rename_i z c hc
      cases h
      exact .inr ⟨c, _, by rw [isD_str_iff.mp (rep_leaf r), sign_of hc], isD_str_iff.mp (rep_leaf r2), q _ (isD_bool _)⟩
    · cases h
  · split at h
    · rename_i ds hds
      split at h
      · rename_i hf
        rw [Bool.and_eq_true] at hf
        cases h
        obtain ⟨a, vs, rfl, h1, h2⟩ := rep_sv s r2 hds
        obtain ⟨i1, i2⟩ := inV_of (rep_leaf r) hf.1 h2 hf.2
        refine .inl ⟨a, vs, rfl, h1, flat_of (rep_leaf r) hf.1, i1, ?_⟩
        rw [if_pos rfl, i2]
        exact q _ (isD_bool _)
      · cases h
    · cases h
  · cases h
/-! all, any, sum, max, min of a list -/
def boolsD : List PyData → Option (List Bool)
  | [] => some []
  | .bool b :: r => (boolsD r).map (b :: ·)
  | _ :: _ => none
def intsD : List PyData → Option (List Int)
  | [] => some []
  | .int b :: r => (intsD r).map (b :: ·)
  | _ :: _ => none
@[simp] theorem bools_map (l : List Bool) : boolsD (l.map .bool) = some l := by induction l with
  | nil => rfl
  | cons a r ih => simp [boolsD, ih]
@[simp] theorem ints_map (l : List Int) : intsD (l.map .int) = some l := by induction l with
  | nil => rfl
  | cons a r ih => simp [intsD, ih]
theorem bools_is {F : Hp} : ∀ {ds : List PyData} {bs : List Bool} {vs : List V}, boolsD ds = some bs → IsDs K F ds vs → vs = bs.map .bl
  | [], bs, vs, h, r => by simp [boolsD] at h; subst h; unfold IsDs at r; subst r; rfl
  | d :: ds, bs, vs, h, r => by
    unfold IsDs at r
    obtain ⟨v, u, rfl, h1, h2⟩ := r
    cases d with
    | bool b =>
      simp only [boolsD, Option.map_eq_some_iff] at h
      obtain ⟨l, h, rfl⟩ := h
      rw [isD_bool_iff.mp h1, bools_is h h2]; rfl
    | _ => simp [boolsD] at h
theorem ints_is {F : Hp} : ∀ {ds : List PyData} {bs : List Int} {vs : List V}, intsD ds = some bs → IsDs K F ds vs → vs = bs.map .int
  | [], bs, vs, h, r => by simp [intsD] at h; subst h; unfold IsDs at r; subst r; rfl
  | d :: ds, bs, vs, h, r => by
    unfold IsDs at r
    obtain ⟨v, u, rfl, h1, h2⟩ := r
    cases d with
    | int b =>
      simp only [intsD, Option.map_eq_some_iff] at h
      obtain ⟨l, h, rfl⟩ := h
      rw [isD_int_iff.mp h1, ints_is h h2]; rfl
    | _ => simp [intsD] at h
def gAll : M → Option PyData := fun x => x.lv.bind fun ds => (boolsD ds).map fun bs => .bool (bs.all id)
def gAny : M → Option PyData := fun x => x.lv.bind fun ds => (boolsD ds).map fun bs => .bool (bs.any id)
def gSum : M → Option PyData := fun x => x.lv.bind fun ds => (intsD ds).map fun ns => .int ns.sum
def maxI : List Int → Int
  | [] => 0
  | [a] => a
  | a :: r => max a (maxI r)
def minI : List Int → Int
  | [] => 0
  | [a] => a
  | a :: r => min a (minI r)
theorem maxI_mem : ∀ {l : List Int}, l ≠ [] → maxI l ∈ l ∧ ∀ y ∈ l, y ≤ maxI l
  | [], h => absurd rfl h
  | [a], _ => by simp [maxI]
  | a :: b :: r, _ => by
    obtain ⟨h1, h2⟩ := maxI_mem (l := b :: r) (by simp)
    have e : maxI (a :: b :: r) = max a (maxI (b :: r)) := rfl
    rw [e]
    refine ⟨?_, fun y hy => ?_⟩
    · rcases Int.le_total a (maxI (b :: r)) with h | h
      · rw [Int.max_eq_right h]; exact List.mem_cons_of_mem _ h1
      · rw [Int.max_eq_left h]; exact List.mem_cons_self
    · rcases List.mem_cons.mp hy with rfl | hy
      · exact Int.le_max_left _ _
      · exact Int.le_trans (h2 y hy) (Int.le_max_right _ _)
theorem minI_mem : ∀ {l : List Int}, l ≠ [] → minI l ∈ l ∧ ∀ y ∈ l, minI l ≤ y
  | [], h => absurd rfl h
  | [a], _ => by simp [minI]
  | a :: b :: r, _ => by
    obtain ⟨h1, h2⟩ := minI_mem (l := b :: r) (by simp)
    have e : minI (a :: b :: r) = min a (minI (b :: r)) := rfl
    rw [e]
    refine ⟨?_, fun y hy => ?_⟩
    · rcases Int.le_total a (minI (b :: r)) with h | h
      · rw [Int.min_eq_left h]; exact List.mem_cons_self
      · rw [Int.min_eq_right h]; exact List.mem_cons_of_mem _ h1
    · rcases List.mem_cons.mp hy with rfl | hy
      · exact Int.min_le_left _ _
      · exact Int.le_trans (Int.min_le_right _ _) (h2 y hy)
def gMax : M → Option PyData := fun x => x.lv.bind fun ds => (intsD ds).bind fun ns => if ns.isEmpty then none else some (.int (maxI ns))
def gMin : M → Option PyData := fun x => x.lv.bind fun ds => (intsD ds).bind fun ns => if ns.isEmpty then none else some (.int (minI ns))
theorem r_all : R1S K (fun v => rAll K [v]) gAll := by
  intro F H v x f d Q s r h q
  unfold gAll at h
  simp only [Option.bind_eq_some_iff, Option.map_eq_some_iff] at h
  obtain ⟨ds, h1, bs, h2, rfl⟩ := h
  obtain ⟨a, vs, rfl, h3, h4⟩ := rep_lv s r h1
  have e := bools_is h2 h4
  subst e
  exact ⟨a, bs, rfl, .of h3, q _ (isD_bool _)⟩
theorem r_any : R1S K (fun v => rAny K [v]) gAny := by
  intro F H v x f d Q s r h q
  unfold gAny at h
  simp only [Option.bind_eq_some_iff, Option.map_eq_some_iff] at h
  obtain ⟨ds, h1, bs, h2, rfl⟩ := h
  obtain ⟨a, vs, rfl, h3, h4⟩ := rep_lv s r h1
  have e := bools_is h2 h4
  subst e
  exact ⟨a, bs, rfl, .of h3, q _ (isD_bool _)⟩
theorem r_sum : R1S K (fun v => rSum K [v]) gSum := by
  intro F H v x f d Q s r h q
  unfold gSum at h
  simp only [Option.bind_eq_some_iff, Option.map_eq_some_iff] at h
  obtain ⟨ds, h1, bs, h2, rfl⟩ := h
  obtain ⟨a, vs, rfl, h3, h4⟩ := rep_lv s r h1
  have e := ints_is h2 h4
  subst e
  exact ⟨a, bs, rfl, .of h3, q _ (isD_int _)⟩
theorem r_max : R1S K (fun v => rMax K [v]) gMax := by
  intro F H v x f d Q s r h q
  unfold gMax at h
  simp only [Option.bind_eq_some_iff] at h
  obtain ⟨ds, h1, bs, h2, h⟩ := h
  split at h
  · cases h
  · rename_i hne
    cases h
    obtain ⟨a, vs, rfl, h3, h4⟩ := rep_lv s r h1
    have e := ints_is h2 h4
    subst e
    have hne' : bs ≠ [] := by intro e; subst e; simp at hne
    refine ⟨a, bs, rfl, .of h3, List.length_pos_iff.mpr hne', fun m hm hle => ?_⟩
    obtain ⟨g1, g2⟩ := maxI_mem hne'
    have : m = maxI bs := Int.le_antisymm (g2 m hm) (hle _ g1)
    rw [this]
    exact q _ (isD_int _)
theorem r_min : R1S K (fun v => rMin K [v]) gMin := by
  intro F H v x f d Q s r h q
  unfold gMin at h
  simp only [Option.bind_eq_some_iff] at h
  obtain ⟨ds, h1, bs, h2, h⟩ := h
  split at h
  · cases h
  · rename_i hne
    cases h
    obtain ⟨a, vs, rfl, h3, h4⟩ := rep_lv s r h1
    have e := ints_is h2 h4
    subst e
    have hne' : bs ≠ [] := by intro e; subst e; simp at hne
    refine ⟨a, bs, rfl, .of h3, List.length_pos_iff.mpr hne', fun m hm hle => ?_⟩
    obtain ⟨g1, g2⟩ := minI_mem hne'
    have : m = minI bs := Int.le_antisymm (hle _ g1) (g2 m hm)
    rw [this]
    exact q _ (isD_int _)
/-! list(..), tuple(..), abs, max and min of two intsD -/
def gList : M → Option M := fun x => x.sv.map fun ds => .lst (ds.map .leaf)
theorem r_list : R1 K (fun v => fun H Q => ∃ p ys, [v] = [.ref p] ∧ (SqL K H p ys ∨ SqT K H p ys) ∧ ∀ l, H l = none → Q (.ref l) (upd H l (.lst ys))) gList := by
  intro F H v x f y Q s r h q
  unfold gList at h
  rw [Option.map_eq_some_iff] at h
  obtain ⟨ds, h, rfl⟩ := h
  obtain ⟨a, vs, rfl, h1, h2⟩ := rep_sv s r h
  refine ⟨a, vs, rfl, h1, fun l hl => ?_⟩
  have hF : F l = none := by
    cases e : F l with
    | none => rfl
    | some u => rw [s l u e] at hl; cases hl
  exact q _ _ _ [l] (Grow.own1 s hl) (.lst upd_same hF (reps_leaves h2) (by simp))
def gTuple : M → Option M := fun x => match x.tv with
  | some ds => some (.leaf (.tuple ds))
  | none => x.lv.map fun ds => .leaf (.tuple ds)
theorem r_tuple : R1 K (fun v => fun H Q => ∃ p ys, [v] = [.ref p] ∧ ((SqL K H p ys ∧ ∀ l, H l = none → Q (.ref l) (upd H l (.tup ys))) ∨ (SqT K H p ys ∧ Q (.ref p) H))) gTuple := by
  intro F H v x f y Q s r h q
  unfold gTuple at h
  split at h
  · rename_i ds hds
    cases h
    obtain ⟨a, vs, rfl, h1, h2⟩ := rep_tv s r hds
    refine ⟨a, vs, rfl, .inr ⟨SqT.of (s _ _ h1), q F H _ [] (.refl s) (.leaf ?_)⟩⟩
    unfold IsD; exact ⟨a, vs, rfl, h1, h2⟩
  · rw [Option.map_eq_some_iff] at h
    obtain ⟨ds, h, rfl⟩ := h
    obtain ⟨a, vs, rfl, h1, h2⟩ := rep_lv s r h
    refine ⟨a, vs, rfl, .inl ⟨.of h1, fun l hl => ?_⟩⟩
    have g := Grow.frz1 (o := .tup vs) s hl
    exact q _ _ _ [] g (.leaf (isD_tup upd_same (h2.mono g.mono)))
theorem r_abs : R1S K (fun v => fun H Q => ∃ i, [v] = [.int i] ∧ Q (.int (if i < 0 then -i else i)) H) gAbs := by
  intro F H v x f d Q s r h q
  unfold gAbs at h
  split at h
  · cases h; exact ⟨_, by rw [isD_int_iff.mp (rep_leaf r)], q _ (isD_int _)⟩
  · cases h
def gMax2 : M → M → Option PyData := gI2 (fun i j => .int (if j > i then j else i)) fun _ _ => true
def gMin2 : M → M → Option PyData := gI2 (fun i j => .int (if j < i then j else i)) fun _ _ => true
theorem r_max2 : R2S K (fun v u => fun H Q => ∃ i j, [v, u] = [.int i, .int j] ∧ Q (.int (if j > i then j else i)) H) gMax2 := by
  intro F H v x fa v2 x2 f2 d Q s r r2 h q
  unfold gMax2 gI2 at h
  split at h
  · rw [if_pos rfl] at h; cases h
    exact ⟨_, _, by rw [isD_int_iff.mp (rep_leaf r), isD_int_iff.mp (rep_leaf r2)], q _ (isD_int _)⟩
  · cases h
theorem r_min2 : R2S K (fun v u => fun H Q => ∃ i j, [v, u] = [.int i, .int j] ∧ Q (.int (if j < i then j else i)) H) gMin2 := by
  intro F H v x fa v2 x2 f2 d Q s r r2 h q
  unfold gMin2 gI2 at h
  split at h
  · rw [if_pos rfl] at h; cases h
    exact ⟨_, _, by rw [isD_int_iff.mp (rep_leaf r), isD_int_iff.mp (rep_leaf r2)], q _ (isD_int _)⟩
  · cases h
def gStr : M → Option PyData
  | .leaf (.int i) => if i.natAbs.log2 < 1920 then some (.str (toString i)) else none
  | _ => none
end
end G
namespace G
open PySem PySem.Spec PyProof.Rows L2

/-! ### lists and tuples alike -/
def SqA (K : Frag) (H : Hp) (t : Bool) (a : Addr) (xs : List V) : Prop := if t = true then SqT K H a xs else SqL K H a xs
def IsIterA (t : Bool) (h : Heap) (it a : Addr) (i : Nat) : Prop := if t = true then h.IsTupleIter it a i else h.IsListIter it a i
def IsSeqA (t : Bool) (h : Heap) (a : Addr) (items : Array Value) : Prop := if t = true then h.IsTuple a items else h.IsList a items
theorem SqA.items {X : Cx} {pins : List (Addr × Obj)} {σ : L2.St} {H : Hp} {s : Shared} {t : Bool} {a : Addr} {xs : List V} (I : Inv X pins σ H s) (q : SqA X.K H t a xs) : ∃ its : List Value, Vals xs its ∧ IsSeqA t s.heap a its.toArray ∧ xs.length ≤ sizeLine := by
  cases t with
  | true =>
    obtain ⟨its, rv, p, hz⟩ := I.tuple (show SqT X.K H a xs from q)
    exact ⟨its, rv, show s.heap.IsTuple a its.toArray from p, hz⟩
  | false =>
    obtain ⟨its, rv, p, hz⟩ := I.list (show SqL X.K H a xs from q)
    exact ⟨its, rv, show s.heap.IsList a its.toArray from p.isList, hz⟩
theorem SqA.inj {X : Cx} {pins : List (Addr × Obj)} {σ : L2.St} {H : Hp} {s : Shared} {t : Bool} {a : Addr} {xs ys : List V} (I : Inv X pins σ H s) (q : SqA X.K H t a xs) (q2 : SqA X.K H t a ys) : xs = ys := by
  cases t with
  | true => exact I.tuple_inj (show SqT X.K H a xs from q) (show SqT X.K H a ys from q2)
  | false => exact I.list_inj (show SqL X.K H a xs from q) (show SqL X.K H a ys from q2)
theorem SqA.mono {K : Frag} {F F' : Hp} {t : Bool} {a : Addr} {xs : List V} (m : Sub F F') (q : SqA K F t a xs) : SqA K F' t a xs := by
  cases t with
  | true => exact G.SqT.mono' m (show SqT K F a xs from q)
  | false => exact G.SqL.mono' m (show SqL K F a xs from q)
theorem drawsA {prog : Program} {w : World} {A : Around} (hh : A.handled = none) (t : Bool) (it a : Addr) (hne : a ≠ it) (items : Array Value) :
    Draws prog w A it [it, a] items.size (fun i v => items[i]? = some v) (fun i h => IsIterA t h it a i ∧ IsSeqA t h a items) := by
  cases t with
  | true => exact Draws.tuple hh it a hne items
  | false => exact Draws.list hh it a hne items
theorem IsSeqA.lt {t : Bool} {h : Heap} {a : Addr} {items : Array Value} (p : IsSeqA t h a items) : a < h.objs.size := by
  cases t with
  | true => obtain ⟨o, e, _⟩ := (show h.IsTuple a items from p); exact Heap.lt_size e
  | false => obtain ⟨o, e, _⟩ := (show h.IsList a items from p); exact Heap.lt_size e
theorem IsIterA.at {t : Bool} {h h' : Heap} {it a : Addr} {i : Nat} (p : IsIterA t h it a i) (k : ∀ o, h.get? it = some o → h'.get? it = some o) : IsIterA t h' it a i := by
  cases t with
  | true => exact Heap.IsTupleIter.at (show h.IsTupleIter it a i from p) k
  | false => exact Heap.IsListIter.at (show h.IsListIter it a i from p) k
theorem IsIterA.obj {t : Bool} {h : Heap} {it a : Addr} {i : Nat} (p : IsIterA t h it a i) : ∃ o, h.get? it = some o ∧ ∀ v, o.data ≠ .cell v := by
  cases t with
  | true => obtain ⟨o, e, c, d⟩ := (show h.IsTupleIter it a i from p); exact ⟨o, e, fun v z => by rw [d] at z; cases z⟩
  | false => obtain ⟨o, e, c, d⟩ := (show h.IsListIter it a i from p); exact ⟨o, e, fun v z => by rw [d] at z; cases z⟩
def beginObj (t : Bool) (a : Addr) : Obj := if t = true then { cls := .type "tuple_iterator", data := .fields #[.ref a, .int 0 0] } else { cls := .type "list_iterator", data := .fields #[.ref a, .int 0 0] }
theorem beginsA (t : Bool) (a : Addr) (items : Array Value) : Begins (.ref a) (beginObj t a) fun h => IsSeqA t h a items := by
  cases t with
  | true => exact begins_tuple a items
  | false => exact begins_list a items
theorem iter_of_begin {t : Bool} {h : Heap} {it a : Addr} (e : h.get? it = some (beginObj t a)) : IsIterA t h it a 0 := by
  cases t with
  | true => exact ⟨_, e, rfl, rfl⟩
  | false => exact ⟨_, e, rfl, rfl⟩

/-! ### enumerate -/
def IteA (K : Frag) (t : Bool) (a : Addr) : It :=
  ⟨fun i H => ∃ (xs : List V) (x : V), SqA K H t a xs ∧ xs[i]? = some x, fun i H v H' => ∃ T x, v = .ref T ∧ H T = none ∧ H' = upd H T (.tup [.int (i : Nat), x]) ∧ ∀ xs, SqA K H t a xs → xs[i]? = some x, fun i H => ∃ xs : List V, SqA K H t a xs ∧ xs.length = i⟩
theorem turn_enumA {P : Program} {w : World} {K : Frag} {elts : List Expr} {kk : Nat} {tpos : Pos} (t : Bool) (a e it : Addr) :
    Turn P w K (.Tuple elts kk tpos) (IteA K t a) [e, it] e (fun i h => (∃ old, IsEnum h e it (0 + (i : Int)) old) ∧ IsIterA t h it a i ∧ e ≠ it ∧ a ≠ it ∧ e ≠ a) where
  mem := by simp
  obj := fun i h st b hb => by
    obtain ⟨⟨old, he⟩, hi, _⟩ := st
    have e' : b = e ∨ b = it := by simpa using hb
    rcases e' with z | z
    · rw [z]; exact ⟨_, he, fun v q => nomatch q⟩
    · rw [z]; exact hi.obj
  keep := fun i h h' st k => let ⟨⟨old, he⟩, hi, hne⟩ := st; ⟨⟨old, k e (by simp) _ he⟩, hi.at fun o q => k it (by simp) o q, hne⟩
  item := by
    intro X hP hw hK hc i pins s σ H E I hf st hg
    subst hP hw hK
    obtain ⟨he, hi, n1, n2, n3⟩ := st
    obtain ⟨xs, x, hq, hx⟩ := hg
    obtain ⟨its, rv, p, hz⟩ := hq.items I
    obtain ⟨u, hu, ru⟩ := rv.get hx
    have D := drawsA (prog := X.prog) (w := X.w) (A := X.A.in1) (I.ok.hd hc) t it a n2 its.toArray
    have W := GoesN.enumFrom (elts := elts) (x1 := kk) (pos := tpos) 0 D e n1 (by simp [n1, n3]) (by simp)
    have hlt : i < its.toArray.size := by
      have := (List.getElem?_eq_some_iff.mp hu).1
      simpa using this
    refine wpAny_mono (W.goes i s (fun v s2 => ∃ y H', Inv X pins σ H' s2 ∧ RelV y v ∧ (IteA X.K t a).yld i H y H' ∧ ((∃ old, IsEnum s2.heap e it (0 + ((i + 1 : Nat) : Int)) old) ∧ IsIterA t s2.heap it a (i + 1) ∧ e ≠ it ∧ a ≠ it ∧ e ≠ a) ∧ ∀ b ∈ [e, it], H' b = none) E hlt ⟨he, hi, p⟩ fun v h' tk hY st' hk _ => ?_) (fun r s1 ⟨v, hr, h⟩ => ⟨v, hr, h⟩) fun _ _ h => h
    obtain ⟨T, tt, y, ev, hT, hy, hTup⟩ := hY
    subst ev
    have hyu : y = u := by
      have : its.toArray[i]? = some u := by simpa using hu
      rw [this] at hy; exact (Option.some.inj hy).symm
    subst hyu
    obtain ⟨oT, hoT, hcT, nT, hdT⟩ := hTup
    have new : ObjOk X.prog X.w (upd H T (.tup [.int (i : Nat), x])) h' T (.tup [.int (i : Nat), x]) :=
      ⟨by show 2 ≤ sizeLine; decide, [.int (0 + (i : Int)) tt, y], .cons ⟨tt, by rw [Int.zero_add]⟩ (.cons ru .nil), ⟨oT, hoT, hcT, nT, hdT⟩⟩
    have I1 : Inv X pins σ (upd H T (.tup [.int (i : Nat), x])) { s with heap := h', toks := tk } := I.turnedNew (t' := tk) (ch := [e, it]) hk hf hT new
    refine ⟨.ref T, _, I1, rfl, ⟨T, x, rfl, I.hok.fresh hT, rfl, fun ys hy => by rw [hy.inj I hq]; exact hx⟩, ⟨st'.1, st'.2.1, n1, n2, n3⟩, fun b hb => ?_⟩
    have hb' : b < s.heap.objs.size := by
      have e' : b = e ∨ b = it := by simpa using hb
      rcases e' with z | z
      · rw [z]; obtain ⟨old, he⟩ := he; exact Heap.lt_size he
      · rw [z]; obtain ⟨o, q, _⟩ := hi.obj; exact Heap.lt_size q
    rw [upd_ne (Nat.ne_of_lt (Nat.lt_of_lt_of_le hb' hT))]
    exact (hf b hb).1
  done := by
    intro X hP hw hK hc i pins s σ H E I hf st hg
    subst hP hw hK
    obtain ⟨he, hi, n1, n2, n3⟩ := st
    obtain ⟨xs, hq, hx⟩ := hg
    obtain ⟨its, rv, p, hz⟩ := hq.items I
    have hl := rv.length
    -- the end: behind the last item
    have D := drawsA (prog := X.prog) (w := X.w) (A := X.A.in1) (I.ok.hd hc) t it a n2 its.toArray
    have W := GoesN.enumFrom (elts := elts) (x1 := kk) (pos := tpos) 0 D e n1 (by simp [n1, n3]) (by simp)
    have hn : its.toArray.size = i := by simp; omega
    rw [hn] at W
    refine wpAny_mono (W.stops s (fun s1 => Inv X pins σ H s1) E ⟨he, hi, p⟩ fun h' tk hk _ => ?_) (fun r s1 h => h) fun _ _ h => h
    exact I.turnedL (t' := tk) (ch := [e, it]) hk hf
  self := fun A i s Q E st h => let ⟨⟨_, he⟩, _⟩ := st; wpAny_pyIter_enum he h

set_option maxHeartbeats 1000000 in
theorem meets_enumerate_newB1 {v : Value} {o : Obj} {H : Heap → Prop} (B : Begins v o H) :
    Meets (Builtin.«enumerate.__new__» ⟨[.type "enumerate", v], []⟩) (fun _ R s => H s.heap ∧
      R (.ok (.ret (.ref (s.heap.push o).objs.size))) { s with heap := (s.heap.push o).push { cls := .type "enumerate", data := .fields #[.none, .bool false, .ref s.heap.objs.size, rawInt 0, .none, .none] } }) :=
  .of_wp fun prog w A R s h => by
    obtain ⟨hp, g, d, tk, os⟩ := s; obtain ⟨h1, h⟩ := h
    have hsub := sub_enumerate
    have q1 : ∀ {A' : Around} {E : Value → Shared → Prop} {Q : Value → Shared → Prop}, Q (.ref hp.objs.size) ⟨hp.push o, g, d, tk, os⟩ → wpAny (model prog w) A' (pyIter v) Q E ⟨hp, g, d, tk, os⟩ :=
      fun q => B.iter prog w _ _ ⟨hp, g, d, tk, os⟩ _ h1 q
    wp_walk using q1
    refine wpAny_stack_any fun st => wpAny_pure ?_
    split
    · rename_i c _ _ _ _ _
      cases (c == Value.type "enumerate")
      · wp_walk using q1
        exact ⟨_, rfl, h⟩
      · wp_walk using q1
        exact ⟨_, rfl, h⟩
    · wp_walk using q1
      exact ⟨_, rfl, h⟩
theorem enum_begins1 {prog : Program} {w : World} {A : Around} {E : Value → Shared → Prop} {s : Shared} {v : Value} {o : Obj} {H : Heap → Prop} {Q : Value → Shared → Prop} (B : Begins v o H) (h1 : H s.heap)
    (h : ∀ h', IsEnum h' (s.heap.objs.size + 1) s.heap.objs.size 0 .none → h'.get? s.heap.objs.size = some o → h'.objs.size = s.heap.objs.size + 2 →
      (∀ b o, s.heap.get? b = some o → h'.get? b = some o) → Q (.ref (s.heap.objs.size + 1)) { s with heap := h' }) :
    wpAny (model prog w) A (call (.type "enumerate") [v]) Q E s := by
  refine callType_new F.called_enumerate (by decide) (F.typeCall_enumerate_1 _) (F.newCall_enumerate_1 _) (fun obj => F.args_object_init_2 obj _) F.entry_enumerate_new
    (meets_enumerate_newB1 B) ⟨h1, ?_⟩
  have hz : (s.heap.push o).objs.size = s.heap.objs.size + 1 := Heap.size_push ..
  show _ ∧ _
  rw [hz]
  have he : IsEnum ((s.heap.push o).push { cls := .type "enumerate", data := .fields #[.none, .bool false, .ref s.heap.objs.size, rawInt 0, .none, .none] }) (s.heap.objs.size + 1) s.heap.objs.size 0 .none := by
    have := Heap.get?_push_size (s.heap.push o) (o := { cls := .type "enumerate", data := .fields #[.none, .bool false, .ref s.heap.objs.size, rawInt 0, .none, .none] }) rfl
    rw [hz] at this; exact this
  refine ⟨⟨_, he, rfl⟩, h _ he (Heap.get?_push_of_some _ (Heap.get?_push_size _ B.free)) (by rw [Heap.size_push, hz]) fun b o x => Heap.get?_push_of_some _ (Heap.get?_push_of_some _ x)⟩
def iEnumA (K : Frag) (ta : TA) : TI := fun σ H R => ta σ H fun vs H1 => ∃ t a xs, vs = [.ref a] ∧ SqA K H1 t a xs ∧ R (IteA K t a) H1
theorem pi_enumA {X : Cx} {e : Expr} {ta : TA} {p pos tpos : Pos} {elts : List Expr} {kk : Nat} (hg : Gl X "enumerate") (hm : X.mg "enumerate" = none) (ha : PA X [e] ta) (hs : starEach [e] X.env = [(false, eval e X.env)] := by rfl) :
    PI X (.Tuple elts kk tpos) (.Call (.Name "enumerate" p) [e] [] pos) (iEnumA X.K ta) := by
  refine ⟨fun pins s σ H R I h => ?_⟩
  refine Call_ (ld_blt I hg hm boot_enumerate (PyProof.Rows.callWith_type1 (thn (ha.run pos pins s σ H _ I h) fun us s1 ⟨vs, H1, I1, r1, q1⟩ => ?_) hs rfl))
  obtain ⟨t, a, xs, rfl, hq, q⟩ := q1
  cases r1 with
  | cons r rr =>
    cases rr
    cases r
    obtain ⟨its, rv, p', hz⟩ := hq.items I1
    refine enum_begins1 (beginsA t a its.toArray) p' fun h' he hit hsz hk => wpAny_pyIter_enum he ?_
    have I2 : Inv X pins σ H1 { s1 with heap := h' } := I1.kept (t' := s1.toks) hk
    have la := p'.lt
    refine ⟨s1.heap.objs.size + 1, [s1.heap.objs.size + 1, s1.heap.objs.size], _, _, H1, rfl, I2, turn_enumA t a (s1.heap.objs.size + 1) s1.heap.objs.size, ⟨⟨.none, he⟩, iter_of_begin hit, Nat.succ_ne_self _, Nat.ne_of_lt la, Nat.ne_of_gt (Nat.lt_succ_of_lt la)⟩, fun b hb => ?_, q⟩
    have e' : b = s1.heap.objs.size + 1 ∨ b = s1.heap.objs.size := by simpa using hb
    have hle : s1.heap.objs.size ≤ b := by
      rcases e' with z | z
      · rw [z]; exact Nat.le_add_right _ _
      · rw [z]; exact Nat.le_refl _
    exact I1.fpOk hle (I1.hok.fresh hle)

/-! ### zip of two -/
def ItzA (K : Frag) (t1 t2 : Bool) (a b : Addr) : It :=
  ⟨fun i H => ∃ (xs ys : List V) (x y : V), SqA K H t1 a xs ∧ SqA K H t2 b ys ∧ xs[i]? = some x ∧ ys[i]? = some y,
    fun i H v H' => ∃ T x y, v = .ref T ∧ H T = none ∧ H' = upd H T (.tup [x, y]) ∧ (∀ xs, SqA K H t1 a xs → xs[i]? = some x) ∧ ∀ ys, SqA K H t2 b ys → ys[i]? = some y,
    fun i H => ∃ xs ys : List V, SqA K H t1 a xs ∧ SqA K H t2 b ys ∧ min xs.length ys.length = i⟩
theorem turn_zipA {P : Program} {w : World} {K : Frag} {elts : List Expr} {kk : Nat} {tpos : Pos} (t1 t2 : Bool) {a b z TI TO i1 i2 : Addr} (D : ZipSep2 z TI TO i1 i2 [i1, a] [i2, b]) (n1 : a ≠ i1) (n2 : b ≠ i2) :
    Turn P w K (.Tuple elts kk tpos) (ItzA K t1 t2 a b) [z, TI, TO, i1, i2] z (fun i h => IsZip h z TI TO .none ∧ IsTupOf2 h TI (.ref i1) (.ref i2) ∧ (∃ x y, IsTupOf2 h TO x y) ∧ IsIterA t1 h i1 a i ∧ IsIterA t2 h i2 b i) where
  mem := by simp
  obj := fun i h st c hc => by
    obtain ⟨hz, hTI, ⟨x, y, hTO⟩, h1, h2⟩ := st
    have e' : c = z ∨ c = TI ∨ c = TO ∨ c = i1 ∨ c = i2 := by simpa using hc
    rcases e' with q | q | q | q | q
    · rw [q]; exact ⟨_, hz, fun v q => nomatch q⟩
    · rw [q]; exact ⟨_, hTI, fun v q => nomatch q⟩
    · rw [q]; exact ⟨_, hTO, fun v q => nomatch q⟩
    · rw [q]; exact h1.obj
    · rw [q]; exact h2.obj
  keep := fun i h h' st k => by
    obtain ⟨hz, hTI, ⟨x, y, hTO⟩, h1, h2⟩ := st
    exact ⟨k z (by simp) _ hz, k TI (by simp) _ hTI, ⟨x, y, k TO (by simp) _ hTO⟩, h1.at fun o q => k i1 (by simp) o q, h2.at fun o q => k i2 (by simp) o q⟩
  item := by
    intro X hP hw hK hc i pins s σ H E I hf st hg
    subst hP hw hK
    obtain ⟨hz, hTI, hTO, h1, h2⟩ := st
    obtain ⟨xs, ys, x, y, hqx, hqy, hx, hy⟩ := hg
    obtain ⟨its, rv, p, _⟩ := hqx.items I
    obtain ⟨its2, rv2, p2, _⟩ := hqy.items I
    obtain ⟨u, hu, ru⟩ := rv.get hx
    obtain ⟨u2, hu2, ru2⟩ := rv2.get hy
    have D1 := drawsA (prog := X.prog) (w := X.w) (A := X.A.in1) (I.ok.hd hc) t1 i1 a n1 its.toArray
    have D2 := drawsA (prog := X.prog) (w := X.w) (A := X.A.in1) (I.ok.hd hc) t2 i2 b n2 its2.toArray
    have W := GoesN.zip2 (elts := elts) (x1 := kk) (pos := tpos) D D1 D2
    have hlt : i < min its.toArray.size its2.toArray.size := by
      have l1 := (List.getElem?_eq_some_iff.mp hu).1
      have l2 := (List.getElem?_eq_some_iff.mp hu2).1
      simp; omega
    refine wpAny_mono (W.goes i s (fun v s2 => ∃ y H', Inv X pins σ H' s2 ∧ RelV y v ∧ (ItzA X.K t1 t2 a b).yld i H y H' ∧ (IsZip s2.heap z TI TO .none ∧ IsTupOf2 s2.heap TI (.ref i1) (.ref i2) ∧ (∃ x y, IsTupOf2 s2.heap TO x y) ∧ IsIterA t1 s2.heap i1 a (i + 1) ∧ IsIterA t2 s2.heap i2 b (i + 1)) ∧ ∀ b ∈ [z, TI, TO, i1, i2], H' b = none) E hlt ⟨hz, hTI, hTO, ⟨h1, p⟩, ⟨h2, p2⟩⟩ fun v h' tk hY st' hk _ => ?_) (fun r s1 ⟨v, hr, h⟩ => ⟨v, hr, h⟩) fun _ _ h => h
    obtain ⟨T, v1, v2, ev, hT, hy1, hy2, hTup⟩ := hY
    subst ev
    have e1 : v1 = u := by
      have : its.toArray[i]? = some u := by simpa using hu
      rw [this] at hy1; exact (Option.some.inj hy1).symm
    have e2 : v2 = u2 := by
      have : its2.toArray[i]? = some u2 := by simpa using hu2
      rw [this] at hy2; exact (Option.some.inj hy2).symm
    subst e1 e2
    obtain ⟨oT, hoT, hcT, nT, hdT⟩ := hTup
    have new : ObjOk X.prog X.w (upd H T (.tup [x, y])) h' T (.tup [x, y]) :=
      ⟨by show 2 ≤ sizeLine; decide, [v1, v2], .cons ru (.cons ru2 .nil), ⟨oT, hoT, hcT, nT, hdT⟩⟩
    have hf' : ∀ b ∈ [z, TO, i1, i2], FpOk X pins H b := fun b hb => hf b (by
      have : b = z ∨ b = TO ∨ b = i1 ∨ b = i2 := by simpa using hb
      rcases this with q | q | q | q <;> simp [q])
    have I1 : Inv X pins σ (upd H T (.tup [x, y])) { s with heap := h', toks := tk } := I.turnedNew (t' := tk) (ch := [z, TO, i1, i2]) hk hf' hT new
    refine ⟨.ref T, _, I1, rfl, ⟨T, x, y, rfl, I.hok.fresh hT, rfl, fun ys hy => by rw [hy.inj I hqx]; exact hx, fun l hl => by rw [hl.inj I hqy]; exact hy⟩, ⟨st'.1, st'.2.1, st'.2.2.1, st'.2.2.2.1.1, st'.2.2.2.2.1⟩, fun c hcm => ?_⟩
    have hlt : c < s.heap.objs.size := by
      have e' : c = z ∨ c = TI ∨ c = TO ∨ c = i1 ∨ c = i2 := by simpa using hcm
      rcases e' with q | q | q | q | q
      · rw [q]; exact Heap.lt_size hz
      · rw [q]; exact Heap.lt_size hTI
      · rw [q]; obtain ⟨_, _, e⟩ := hTO; exact Heap.lt_size e
      · rw [q]; obtain ⟨_, e, _⟩ := h1.obj; exact Heap.lt_size e
      · rw [q]; obtain ⟨_, e, _⟩ := h2.obj; exact Heap.lt_size e
    rw [upd_ne (Nat.ne_of_lt (Nat.lt_of_lt_of_le hlt hT))]
    exact (hf c hcm).1
  done := by
    intro X hP hw hK hc i pins s σ H E I hf st hg
    subst hP hw hK
    obtain ⟨hz, hTI, hTO, h1, h2⟩ := st
    obtain ⟨xs, ys, hqx, hqy, hend⟩ := hg
    obtain ⟨its, rv, p, _⟩ := hqx.items I
    obtain ⟨its2, rv2, p2, _⟩ := hqy.items I
    have l1 := rv.length
    have l2 := rv2.length
    have D1 := drawsA (prog := X.prog) (w := X.w) (A := X.A.in1) (I.ok.hd hc) t1 i1 a n1 its.toArray
    have D2 := drawsA (prog := X.prog) (w := X.w) (A := X.A.in1) (I.ok.hd hc) t2 i2 b n2 its2.toArray
    have W := GoesN.zip2 (elts := elts) (x1 := kk) (pos := tpos) D D1 D2
    have hn : min its.toArray.size its2.toArray.size = i := by simp; omega
    rw [hn] at W
    have hf' : ∀ b ∈ [z, TO, i1, i2], FpOk X pins H b := fun b hb => hf b (by
      have : b = z ∨ b = TO ∨ b = i1 ∨ b = i2 := by simpa using hb
      rcases this with q | q | q | q <;> simp [q])
    refine wpAny_mono (W.stops s (fun s1 => Inv X pins σ H s1) E ⟨hz, hTI, hTO, ⟨h1, p⟩, ⟨h2, p2⟩⟩ fun h' tk hk _ => ?_) (fun r s1 h => h) fun _ _ h => h
    exact I.turnedL (t' := tk) (ch := [z, TO, i1, i2]) hk hf'
  self := fun A i s Q E st h => wpAny_pyIter_zip st.1 h
def iZipAny (K : Frag) (ta : TA) : TI := fun σ H R => ta σ H fun vs H1 => ∃ t1 t2 a b xs ys, vs = [.ref a, .ref b] ∧ SqA K H1 t1 a xs ∧ SqA K H1 t2 b ys ∧ R (ItzA K t1 t2 a b) H1
theorem pi_zipAny {X : Cx} {e e2 : Expr} {ta : TA} {p pos tpos : Pos} {elts : List Expr} {kk : Nat} (hg : Gl X "zip") (hm : X.mg "zip" = none) (ha : PA X [e, e2] ta)
    (hs : starEach [e, e2] X.env = (false, eval e X.env) :: starEach [e2] X.env := by rfl) (hpl : (backTo pos (starEach [e2] X.env)).any (·.1) = false := by rfl) :
    PI X (.Tuple elts kk tpos) (.Call (.Name "zip" p) [e, e2] [] pos) (iZipAny X.K ta) := by
  refine ⟨fun pins s σ H R I h => ?_⟩
  refine Call_ (ld_blt I hg hm PyProof.Rows.boot_zip (PyProof.Rows.callWith_type1 (thn (ha.run pos pins s σ H _ I h) fun us s1 ⟨vs, H1, I1, r1, q1⟩ => ?_) hs hpl))
  obtain ⟨t1, t2, a, b, xs, ys, ex, hqx, hqy, q⟩ := q1
  subst ex
  cases r1 with
  | cons r rr =>
    cases rr with
    | cons r' rr =>
      cases rr
      cases r
      cases r'
      obtain ⟨its, rv, p1, _⟩ := hqx.items I1
      obtain ⟨its2, rv2, p2, _⟩ := hqy.items I1
      have la := p1.lt
      have lb := p2.lt
      refine zip_begins2 (beginsA t1 a its.toArray) (beginsA t2 b its2.toArray) p1 p2 fun h' hz hTI hTO h1 h2 hsz hk => wpAny_pyIter_zip hz ?_
      have I2 : Inv X pins σ H1 { s1 with heap := h' } := I1.kept (t' := s1.toks) hk
      have S := zip_sep2 (N := s1.heap.objs.size) (fp1 := [a]) (fp2 := [b]) (by simpa using la) (by simpa using lb)
      refine ⟨s1.heap.objs.size + 4, [s1.heap.objs.size + 4, s1.heap.objs.size + 2, s1.heap.objs.size + 3, s1.heap.objs.size, s1.heap.objs.size + 1], _, _, H1, rfl, I2, turn_zipA t1 t2 S (Nat.ne_of_lt la) (Nat.ne_of_lt (Nat.lt_succ_of_lt lb)), ⟨hz, hTI, ⟨_, _, hTO⟩, iter_of_begin h1, iter_of_begin h2⟩, fun c hcm => ?_, q⟩
      have e' : c = s1.heap.objs.size + 4 ∨ c = s1.heap.objs.size + 2 ∨ c = s1.heap.objs.size + 3 ∨ c = s1.heap.objs.size ∨ c = s1.heap.objs.size + 1 := by simpa using hcm
      have hle : s1.heap.objs.size ≤ c := by
        rcases e' with z | z | z | z | z
        · rw [z]; exact Nat.le_add_right _ _
        · rw [z]; exact Nat.le_add_right _ _
        · rw [z]; exact Nat.le_add_right _ _
        · rw [z]; exact Nat.le_refl _
        · rw [z]; exact Nat.le_add_right _ _
      exact I1.fpOk hle (I1.hok.fresh hle)

/-! ### a list, a tuple walked -/
def ItA (K : Frag) (t : Bool) (a : Addr) : It := if t = true then Itt K a else Itl K a
def iSeqA (K : Frag) (te : TE) : TI := fun σ H R => te σ H fun x H1 => ∃ t a xs, x = .ref a ∧ SqA K H1 t a xs ∧ R (ItA K t a) H1
theorem pi_seqA {X : Cx} {tg l : Expr} {tl : TE} (hl : PE X l tl) : PI X tg l (iSeqA X.K tl) := by
  refine ⟨fun pins s σ H R I h => ?_⟩
  refine thn (hl.run pins s σ H _ I h) fun v s1 ⟨x, H1, I1, r1, q1⟩ => ?_
  obtain ⟨t, a, xs, e, hq, q⟩ := q1
  subst e
  cases r1
  have fin : ∀ {h' : Heap} {it : Addr}, it = s1.heap.objs.size → ∀ b ∈ [it], FpOk X pins H1 b := fun {h' it} hit b hb => by
    have e : b = s1.heap.objs.size := by rw [← hit]; simpa using hb
    subst e
    exact I1.fpOk (Nat.le_refl _) (I1.hok.fresh (Nat.le_refl _))
  cases t with
  | true =>
    obtain ⟨its, rv, p, hz⟩ := I1.tuple (show SqT X.K H1 a xs from hq)
    refine wpAny_pyIter_tuple (show s1.heap.IsTuple a its.toArray from p) ?_
    exact ⟨s1.heap.objs.size, [s1.heap.objs.size], _, _, H1, rfl, I1.kept (t' := s1.toks) fun b o e => Heap.get?_push_of_some _ e, turn_tuple a _, ⟨_, Heap.get?_push_size _ rfl, rfl, rfl⟩, fin (h' := s1.heap) rfl, q⟩
  | false =>
    obtain ⟨its, rv, p, hz⟩ := I1.list (show SqL X.K H1 a xs from hq)
    refine wpAny_pyIter_list p.isList ?_
    exact ⟨s1.heap.objs.size, [s1.heap.objs.size], _, _, H1, rfl, I1.kept (t' := s1.toks) fun b o e => Heap.get?_push_of_some _ e, turn_list a _, ⟨_, Heap.get?_push_size _ rfl, rfl, rfl⟩, fin (h' := s1.heap) rfl, q⟩
end G
namespace G
open PySem PySem.Spec PyProof.Rows L2

/-! ### walks over data -/
section
variable {K : Frag} {F : Hp}
theorem walkD_seq {t : Bool} {a : Addr} {vs : List V} {ds : List PyData} (q : SqA K F t a vs) (h : IsDs K F ds vs) : WalkD K F (ItA K t a) ds := by
  have hl := h.length
  have q1 : ∀ {F1 H1 : Hp}, Sub F F1 → Sub F1 H1 → SqA K H1 t a vs := fun m s => (q.mono m).mono s
  refine ⟨fun i F1 H1 hi m s => ?_, fun i d F1 H1 x H2 hd m s y => ?_, fun F1 H1 m s => ?_⟩
  · have z := q1 m s
    have : vs[i]? = some (vs[i]'(by omega)) := List.getElem?_eq_getElem (by omega)
    cases t with
    | true => exact ⟨vs, _, z, this⟩
    | false => exact ⟨vs, _, z, this⟩
  · have z := q1 m s
    obtain ⟨v, hv, r⟩ := h.get hd
    have key : H2 = H1 ∧ vs[i]? = some x := by
      cases t with
      | true => exact ⟨y.1, y.2 vs z⟩
      | false => exact ⟨y.1, y.2 vs z⟩
    obtain ⟨rfl, e⟩ := key
    rw [hv] at e; cases e
    exact ⟨F1, .refl s, r.mono m⟩
  · have z := q1 m s
    cases t with
    | true => exact ⟨vs, z, by omega⟩
    | false => exact ⟨vs, z, by omega⟩
def enumD : Nat → List PyData → List PyData
  | _, [] => []
  | i, d :: ds => .tuple [.int i, d] :: enumD (i + 1) ds
theorem enumD_len : ∀ (ds : List PyData) (i : Nat), (enumD i ds).length = ds.length
  | [], _ => rfl
  | d :: ds, i => by simp [enumD, enumD_len ds]
theorem enumD_get : ∀ (ds : List PyData) (i j : Nat), (enumD i ds)[j]? = (ds[j]?).map fun d => .tuple [.int ((i + j : Nat) : Int), d]
  | [], _, j => by simp [enumD]
  | d :: ds, i, 0 => by simp [enumD]
  | d :: ds, i, j + 1 => by
    simp only [enumD, List.getElem?_cons_succ]
    rw [enumD_get ds (i + 1) j, show i + 1 + j = i + (j + 1) by omega]
theorem walkD_enum {t : Bool} {a : Addr} {vs : List V} {ds : List PyData} (q : SqA K F t a vs) (h : IsDs K F ds vs) : WalkD K F (IteA K t a) (enumD 0 ds) := by
  have hl := h.length
  have q1 : ∀ {F1 H1 : Hp}, Sub F F1 → Sub F1 H1 → SqA K H1 t a vs := fun m s => (q.mono m).mono s
  refine ⟨fun i F1 H1 hi m s => ?_, fun i d F1 H1 x H2 hd m s y => ?_, fun F1 H1 m s => ?_⟩
  · rw [enumD_len] at hi
    exact ⟨vs, _, q1 m s, List.getElem?_eq_getElem (by omega)⟩
  · rw [enumD_get, Option.map_eq_some_iff] at hd
    obtain ⟨d', hd', rfl⟩ := hd
    obtain ⟨v, hv, r⟩ := h.get hd'
    obtain ⟨T, u, rfl, hT, rfl, e⟩ := y
    have e := e vs (q1 m s)
    rw [hv] at e; cases e
    have g := Grow.frz1 (o := .tup [.int (i : Nat), v]) s hT
    refine ⟨_, g, isD_tup upd_same ?_⟩
    rw [Nat.zero_add]
    exact .cons (isD_int _) (.cons ((r.mono m).mono g.mono) .nil)
  · rw [enumD_len]
    exact ⟨vs, q1 m s, hl⟩
def zipD : List PyData → List PyData → List PyData
  | a :: as, b :: bs => .tuple [a, b] :: zipD as bs
  | _, _ => []
theorem zipD_len : ∀ (a b : List PyData), (zipD a b).length = min a.length b.length
  | [], _ => by simp [zipD]
  | _ :: _, [] => by simp [zipD]
  | a :: as, b :: bs => by simp [zipD, zipD_len as bs]
theorem zipD_get : ∀ (a b : List PyData) (j : Nat) (d : PyData), (zipD a b)[j]? = some d → ∃ x y, a[j]? = some x ∧ b[j]? = some y ∧ d = .tuple [x, y]
  | [], _, j, d, h => by simp [zipD] at h
  | _ :: _, [], j, d, h => by simp [zipD] at h
  | a :: as, b :: bs, 0, d, h => by simp [zipD] at h; exact ⟨a, b, rfl, rfl, h.symm⟩
  | a :: as, b :: bs, j + 1, d, h => by
    simp only [zipD, List.getElem?_cons_succ] at h
    simpa using zipD_get as bs j d h
theorem walkD_zip {t1 t2 : Bool} {a b : Addr} {vs us : List V} {ds es : List PyData} (q : SqA K F t1 a vs) (h : IsDs K F ds vs) (q' : SqA K F t2 b us) (h' : IsDs K F es us) : WalkD K F (ItzA K t1 t2 a b) (zipD ds es) := by
  have hl := h.length
  have hl' := h'.length
  have q1 : ∀ {F1 H1 : Hp}, Sub F F1 → Sub F1 H1 → SqA K H1 t1 a vs := fun m s => (q.mono m).mono s
  have q2 : ∀ {F1 H1 : Hp}, Sub F F1 → Sub F1 H1 → SqA K H1 t2 b us := fun m s => (q'.mono m).mono s
  refine ⟨fun i F1 H1 hi m s => ?_, fun i d F1 H1 x H2 hd m s y => ?_, fun F1 H1 m s => ?_⟩
  · rw [zipD_len] at hi
    exact ⟨vs, us, _, _, q1 m s, q2 m s, List.getElem?_eq_getElem (by omega), List.getElem?_eq_getElem (by omega)⟩
  · obtain ⟨d1, d2, h1, h2, rfl⟩ := zipD_get _ _ _ _ hd
    obtain ⟨v, hv, r⟩ := h.get h1
    obtain ⟨u, hu, r'⟩ := h'.get h2
    obtain ⟨T, x1, x2, rfl, hT, rfl, e1, e2⟩ := y
    have e1 := e1 vs (q1 m s)
    have e2 := e2 us (q2 m s)
    rw [hv] at e1; cases e1
    rw [hu] at e2; cases e2
    have g := Grow.frz1 (o := .tup [v, u]) s hT
    exact ⟨_, g, isD_tup upd_same (.cons ((r.mono m).mono g.mono) (.cons ((r'.mono m).mono g.mono) .nil))⟩
  · rw [zipD_len]
    exact ⟨vs, us, q1 m s, q2 m s, by omega⟩
def rangeD (lo : Int) (c : Int) (n : Nat) : List PyData := (List.range n).map fun i => .int (lo + (i : Nat) * c)
theorem walkD_range {lo : Int} {n : Nat} : WalkD K F (Itr lo n) (rangeD lo 1 n) := by
  refine ⟨fun i F1 H1 hi m s => by show i < n; simpa [rangeD] using hi, fun i d F1 H1 x H2 hd m s y => ?_, fun F1 H1 m s => ?_⟩
  · obtain ⟨rfl, rfl⟩ := y
    simp only [rangeD, List.getElem?_map, Option.map_eq_some_iff] at hd
    obtain ⟨j, hj, rfl⟩ := hd
    have : j = i := by
      obtain ⟨h1, h2⟩ := List.getElem?_eq_some_iff.mp hj
      simpa using h2.symm
    subst this
    exact ⟨F1, .refl s, by rw [Int.mul_one]; exact isD_int _⟩
  · show n ≤ (rangeD lo 1 n).length
    simp [rangeD]
theorem walkD_rangeC {lo c : Int} {n : Nat} : WalkD K F (Itc lo c n) (rangeD lo c n) := by
  refine ⟨fun i F1 H1 hi m s => by show i < n; simpa [rangeD] using hi, fun i d F1 H1 x H2 hd m s y => ?_, fun F1 H1 m s => ?_⟩
  · obtain ⟨rfl, rfl⟩ := y
    simp only [rangeD, List.getElem?_map, Option.map_eq_some_iff] at hd
    obtain ⟨j, hj, rfl⟩ := hd
    have : j = i := by
      obtain ⟨h1, h2⟩ := List.getElem?_eq_some_iff.mp hj
      simpa using h2.symm
    subst this
    exact ⟨F1, .refl s, isD_int _⟩
  · show n ≤ (rangeD lo c n).length
    simp [rangeD]
def signsD (z : Str) : List PyData := z.cps.toList.map fun c => .str ⟨#[c]⟩
theorem walkD_str {z : Str} : WalkD K F (Its z) (signsD z) := by
  refine ⟨fun i F1 H1 hi m s => by show i < z.cps.size; simpa [signsD] using hi, fun i d F1 H1 x H2 hd m s y => ?_, fun F1 H1 m s => ?_⟩
  · obtain ⟨rfl, c, hc, rfl⟩ := y
    simp only [signsD, List.getElem?_map, Option.map_eq_some_iff] at hd
    obtain ⟨c', hc', rfl⟩ := hd
    have : c' = c := by
      have h : z.cps.toList[i]? = some c := by simpa using hc
      rw [h] at hc'; exact (Option.some.inj hc').symm
    subst this
    exact ⟨F1, .refl s, isD_str _⟩
  · show z.cps.size ≤ (signsD z).length
    simp [signsD]
end
/-- the items of a list or tuple -/
def itemsD : PyData → Option (List PyData)
  | .list ds => some ds
  | .tuple ds => some ds
  | _ => none
theorem itemsD_sq {K : Frag} {F : Hp} {d : PyData} {v : V} {ds : List PyData} (h : IsD K F d v) (e : itemsD d = some ds) : ∃ t a vs, v = .ref a ∧ SqA K F t a vs ∧ IsDs K F ds vs := by
  cases d with
  | list l => cases e; unfold IsD at h; obtain ⟨a, vs, rfl, h1, h2⟩ := h; exact ⟨false, a, vs, rfl, SqL.of h1, h2⟩
  | tuple l => cases e; unfold IsD at h; obtain ⟨a, vs, rfl, h1, h2⟩ := h; exact ⟨true, a, vs, rfl, SqT.of h1, h2⟩
  | _ => cases e
def mIt (m : Env' → R M) : Env' → R (List PyData) := fun ρ => (m ρ).bind fun x ρ1 => match x.frz.bind itemsD with
  | some ds => .ok ds ρ1
  | none => .bad
def mItE (m : Env' → R M) : Env' → R (List PyData) := fun ρ => (m ρ).bind fun x ρ1 => match x.frz.bind itemsD with
  | some ds => .ok (enumD 0 ds) ρ1
  | none => .bad
def mItZ (ms : Env' → R (List PyData)) : Env' → R (List PyData) := fun ρ => (ms ρ).bind fun l ρ1 => match l with
  | [x, y] => match itemsD x, itemsD y with
    | some ds, some es => .ok (zipD ds es) ρ1
    | _, _ => .bad
  | _ => .bad
def inR (i : Int) : Bool := decide (-(2 ^ 62) ≤ i) && decide (i < 2 ^ 62)
def mItR1 (ms : Env' → R (List PyData)) : Env' → R (List PyData) := fun ρ => (ms ρ).bind fun l ρ1 => match l with
  | [.int j] => if inR j then .ok (rangeD 0 1 j.toNat) ρ1 else .bad
  | _ => .bad
def mItR2 (ms : Env' → R (List PyData)) : Env' → R (List PyData) := fun ρ => (ms ρ).bind fun l ρ1 => match l with
  | [.int i, .int j] => if inR i && inR j then .ok (rangeD i 1 (j - i).toNat) ρ1 else .bad
  | _ => .bad
/-- range(i, j, -1) -/
def mItR3 (ms : Env' → R (List PyData)) : Env' → R (List PyData) := fun ρ => (ms ρ).bind fun l ρ1 => match l with
  | [.int i, .int j, .int c] => if inR i && inR j && decide (c = -1) then .ok (rangeD i (-1) (i - j).toNat) ρ1 else .bad
  | _ => .bad
def mItS (m : Env' → R M) : Env' → R (List PyData) := fun ρ => (m ρ).bind fun x ρ1 => match x with
  | .leaf (.str z) => .ok (signsD z) ρ1
  | _ => .bad
section
variable {X : Cx} {E : XK} {tg e a b c : Expr} {m : Env' → R M} {ms : Env' → R (List PyData)} {p pos tpos : Pos} {elts : List Expr} {kk : Nat}
theorem i_frz {K : Frag} {mg : Str → Option Value} {f : PyData → Option (List PyData)} {P : Hp → V → List PyData → (It → Hp → Prop) → Hp → Prop} (hP : ∀ F H d v ds Rt, Sub F H → IsD K F d v → f d = some ds → (∀ J, WalkD K F J ds → Rt J H) → P F v ds Rt H) (σ : L2.St) (H : Hp) (Rt : It → Hp → Prop)
    (h : tI' K mg E (fun ρ => (m ρ).bind fun x ρ1 => match x.frz.bind f with | some ds => .ok ds ρ1 | none => .bad) σ H Rt) : tE K mg E m σ H fun v H1 => ∃ F ds, P F v ds Rt H1 := by
  obtain ⟨F, ρ, φ, e, k⟩ := h
  refine ⟨F, ρ, φ, e, ?_⟩
  dsimp only at k
  cases hm : m ρ with
  | bad => rw [hm] at k; exact k.elim
  | err x ρ' => rw [hm] at k; exact k
  | ok x ρ1 =>
    rw [hm] at k
    simp only [R.bind_ok] at k
    intro F1 H1 φ1 v f1 e1 r1 d1 x1
    cases hz : x.frz with
    | none => rw [hz] at k; exact k.elim
    | some d =>
      rw [hz] at k
      simp only [Option.bind_some] at k
      cases hf : f d with
      | none => rw [hf] at k; exact k.elim
      | some ds =>
        rw [hf] at k
        have hn : ∀ a ∈ f1, F1 a = none := fun a ha => (r1.fp a ha).2
        have e2 := e1.freeze d1 hn
        refine ⟨fz F1 H1 f1, ds, hP _ H1 d v ds Rt e2.sub (r1.frozen hz) hf fun J hJ => ?_⟩
        exact k _ H1 φ1 J e2 hJ (x1.freeze hn)
theorem di_seq (he : DE X E e m) : DI X E tg e (mIt m) := (pi_seqA he).imp fun σ H Rt h => by
  have := i_frz (f := itemsD) (P := fun F v ds Rt H => ∃ t a xs, v = .ref a ∧ SqA X.K H t a xs ∧ Rt (ItA X.K t a) H) (fun F H d v ds Rt s hd hf k => by
    obtain ⟨t, a, vs, rfl, hq, hds⟩ := itemsD_sq hd hf
    exact ⟨t, a, vs, rfl, hq.mono s, k _ (walkD_seq hq hds)⟩) σ H Rt h
  obtain ⟨F, ρ, φ, e, k⟩ := this
  refine ⟨F, ρ, φ, e, ?_⟩
  cases hm : m ρ with
  | bad => rw [hm] at k; exact k
  | err x ρ' => rw [hm] at k; exact k
  | ok x ρ1 =>
    rw [hm] at k
    exact fun F1 H1 φ1 v f e1 r1 d1 x1 => let ⟨_, _, z⟩ := k F1 H1 φ1 v f e1 r1 d1 x1; z
theorem di_enum (hg : Gl X "enumerate") (hm : X.mg "enumerate" = none) (he : DE X E e m) (hs : starEach [e] X.env = [(false, eval e X.env)] := by rfl) : DI X E (.Tuple elts kk tpos) (.Call (.Name "enumerate" p) [e] [] pos) (mItE m) :=
  (pi_enumA hg hm (pa_cons he pa_nil hs) hs).imp fun σ H Rt h => by
    have h' : tI' X.K X.mg E (fun ρ => (m ρ).bind fun x ρ1 => match x.frz.bind fun d => (itemsD d).map (enumD 0) with | some ds => .ok ds ρ1 | none => .bad) σ H Rt := by
      have : mItE m = fun ρ => (m ρ).bind fun x ρ1 => match x.frz.bind fun d => (itemsD d).map (enumD 0) with | some ds => .ok ds ρ1 | none => .bad := by
        funext ρ
        unfold mItE
        congr 1
        funext x ρ1
        cases x.frz with
        | none => rfl
        | some d => simp only [Option.bind_some]; cases itemsD d <;> rfl
      rw [this] at h; exact h
    have := i_frz (f := fun d => (itemsD d).map (enumD 0)) (P := fun F v ds Rt H => ∃ t a xs, [v] = [.ref a] ∧ SqA X.K H t a xs ∧ Rt (IteA X.K t a) H) (fun F H d v ds Rt s hd hf k => by
      rw [Option.map_eq_some_iff] at hf
      obtain ⟨es, hf, rfl⟩ := hf
      obtain ⟨t, a, vs, rfl, hq, hds⟩ := itemsD_sq hd hf
      exact ⟨t, a, vs, rfl, hq.mono s, k _ (walkD_enum hq hds)⟩) σ H Rt h'
    obtain ⟨F, ρ, φ, e, k⟩ := this
    refine ⟨F, ρ, φ, e, ?_⟩
    cases hm : m ρ with
    | bad => rw [hm] at k; exact k
    | err x ρ' => rw [hm] at k; exact k
    | ok x ρ1 =>
      rw [hm] at k
      exact fun F1 H1 φ1 v f e1 r1 d1 x1 => let ⟨_, _, z⟩ := k F1 H1 φ1 v f e1 r1 d1 x1; z
theorem i_args {K : Frag} {mg : Str → Option Value} {n : Nat} {f : List PyData → Option (List PyData)} {P : List V → (It → Hp → Prop) → Hp → Prop} (hP : ∀ F H l vs ds Rt, Sub F H → IsDs K F l vs → f l = some ds → (∀ J, WalkD K F J ds → Rt J H) → P vs Rt H) (σ : L2.St) (H : Hp) (Rt : It → Hp → Prop)
    {mm : Env' → R (List PyData)} (hmm : ∀ ρ, mm ρ = (ms ρ).bind fun l ρ1 => match f l with | some ds => .ok ds ρ1 | none => .bad)
    (h : tI' K mg E mm σ H Rt) : tAr K mg E n ms σ H fun vs H1 => P vs Rt H1 := by
  obtain ⟨F, ρ, φ, e, k⟩ := h
  refine ⟨F, ρ, φ, e, ?_⟩
  rw [hmm] at k
  cases hm : ms ρ with
  | bad => rw [hm] at k; exact k.elim
  | err x ρ' => rw [hm] at k; exact k
  | ok l ρ1 =>
    rw [hm] at k
    simp only [R.bind_ok] at k
    intro F1 H1 φ1 vs e1 r1 hl x1
    cases hf : f l with
    | none => rw [hf] at k; exact k.elim
    | some ds =>
      rw [hf] at k
      exact hP F1 H1 l vs ds Rt e1.sub r1 hf fun J hJ => k F1 H1 φ1 J e1 hJ x1
def fZ : List PyData → Option (List PyData)
  | [x, y] => match itemsD x, itemsD y with
    | some ds, some es => some (zipD ds es)
    | _, _ => none
  | _ => none
def fR1 : List PyData → Option (List PyData)
  | [.int j] => if inR j then some (rangeD 0 1 j.toNat) else none
  | _ => none
def fR2 : List PyData → Option (List PyData)
  | [.int i, .int j] => if inR i && inR j then some (rangeD i 1 (j - i).toNat) else none
  | _ => none
def fR3 : List PyData → Option (List PyData)
  | [.int i, .int j, .int c] => if inR i && inR j && decide (c = -1) then some (rangeD i (-1) (i - j).toNat) else none
  | _ => none
theorem inR_iff {i : Int} (h : inR i = true) : -(2 ^ 62) ≤ i ∧ i < 2 ^ 62 := by
  unfold inR at h
  simpa using h
theorem isDs_cons {K : Frag} {F : Hp} {d : PyData} {ds : List PyData} {vs : List V} (h : IsDs K F (d :: ds) vs) : ∃ v r, vs = v :: r ∧ IsD K F d v ∧ IsDs K F ds r := by
  unfold IsDs at h; exact h
theorem isDs_nil {K : Frag} {F : Hp} {vs : List V} (h : IsDs K F [] vs) : vs = [] := by
  unfold IsDs at h; exact h
theorem di_zip {n : Nat} (hg : Gl X "zip") (hm : X.mg "zip" = none) (he : DA X E n [a, b] ms) (hs : starEach [a, b] X.env = (false, eval a X.env) :: starEach [b] X.env := by rfl) (hpl : (backTo pos (starEach [b] X.env)).any (·.1) = false := by rfl) :
    DI X E (.Tuple elts kk tpos) (.Call (.Name "zip" p) [a, b] [] pos) (mItZ ms) := (pi_zipAny hg hm he hs hpl).imp fun σ H Rt h => by
  refine i_args (f := fZ) (P := fun vs Rt H => ∃ t1 t2 a b xs ys, vs = [.ref a, .ref b] ∧ SqA X.K H t1 a xs ∧ SqA X.K H t2 b ys ∧ Rt (ItzA X.K t1 t2 a b) H) (fun F H l vs ds Rt s hl hf k => ?_) σ H Rt (fun ρ => ?_) h
  · unfold fZ at hf
    split at hf
    · split at hf
      · rename_i x y es fs h1 h2
        cases hf
        obtain ⟨v, r, rfl, i1, i2⟩ := isDs_cons hl
        obtain ⟨u, r, rfl, i3, i4⟩ := isDs_cons i2
        cases isDs_nil i4
        obtain ⟨t1, a1, xs, rfl, q1, z1⟩ := itemsD_sq i1 h1
        obtain ⟨t2, a2, ys, rfl, q2, z2⟩ := itemsD_sq i3 h2
        exact ⟨t1, t2, a1, a2, xs, ys, rfl, q1.mono s, q2.mono s, k _ (walkD_zip q1 z1 q2 z2)⟩
      · cases hf
    · cases hf
  · unfold mItZ
    congr 1
    funext l ρ1
    unfold fZ
    match l with
    | [] => rfl
    | [_] => rfl
    | [x, y] => dsimp only; cases itemsD x <;> cases itemsD y <;> rfl
    | _ :: _ :: _ :: _ => rfl
theorem di_range1 {n : Nat} (hg : Gl X "range") (hm : X.mg "range" = none) (he : DA X E n [a] ms) (hs : starEach [a] X.env = [(false, eval a X.env)] := by rfl) : DI X E tg (.Call (.Name "range" p) [a] [] pos) (mItR1 ms) := (pi_range1 hg hm he hs).imp fun σ H Rt h => by
  refine i_args (f := fR1) (P := fun vs Rt H => ∃ j : Int, vs = [.int j] ∧ -(2 ^ 62) ≤ j ∧ j < 2 ^ 62 ∧ Rt (Itr 0 j.toNat) H) (fun F H l vs ds Rt s hl hf k => ?_) σ H Rt (fun ρ => ?_) h
  · unfold fR1 at hf
    split at hf
    · split at hf
      · rename_i j hj
        cases hf
        obtain ⟨v, r, rfl, i1, i2⟩ := isDs_cons hl
        cases isDs_nil i2
        rw [isD_int_iff.mp i1]
        exact ⟨j, rfl, (inR_iff hj).1, (inR_iff hj).2, k _ walkD_range⟩
      · cases hf
    · cases hf
  · unfold mItR1
    congr 1
    funext l ρ1
    unfold fR1
    split
    · split <;> rfl
    · rfl
theorem di_range2 {n : Nat} (hg : Gl X "range") (hm : X.mg "range" = none) (he : DA X E n [a, b] ms) (hs : starEach [a, b] X.env = [(false, eval a X.env), (false, eval b X.env)] := by rfl) (hs2 : starEach [b] X.env = [(false, eval b X.env)] := by rfl) :
    DI X E tg (.Call (.Name "range" p) [a, b] [] pos) (mItR2 ms) := (pi_range2 hg hm he hs hs2).imp fun σ H Rt h => by
  refine i_args (f := fR2) (P := fun vs Rt H => ∃ i j : Int, vs = [.int i, .int j] ∧ (-(2 ^ 62) ≤ i ∧ i < 2 ^ 62 ∧ -(2 ^ 62) ≤ j ∧ j < 2 ^ 62) ∧ Rt (Itr i (j - i).toNat) H) (fun F H l vs ds Rt s hl hf k => ?_) σ H Rt (fun ρ => ?_) h
  · unfold fR2 at hf
    split at hf
    · split at hf
      · rename_i i j hj
        rw [Bool.and_eq_true] at hj
        cases hf
        obtain ⟨v, r, rfl, i1, i2⟩ := isDs_cons hl
        obtain ⟨u, r, rfl, i3, i4⟩ := isDs_cons i2
        cases isDs_nil i4
        rw [isD_int_iff.mp i1, isD_int_iff.mp i3]
        exact ⟨i, j, rfl, ⟨(inR_iff hj.1).1, (inR_iff hj.1).2, (inR_iff hj.2).1, (inR_iff hj.2).2⟩, k _ walkD_range⟩
      · cases hf
    · cases hf
  · unfold mItR2
    congr 1
    funext l ρ1
    unfold fR2
    split
    · split <;> rfl
    · rfl
theorem di_range3 {n : Nat} (hg : Gl X "range") (hm : X.mg "range" = none) (he : DA X E n [a, b, c] ms)
    (hs : starEach [a, b, c] X.env = (false, eval a X.env) :: starEach [b, c] X.env := by rfl) (hpl : ((backTo pos (starEach [b, c] X.env)).any (·.1)) = false := by rfl) :
    DI X E tg (.Call (.Name "range" p) [a, b, c] [] pos) (mItR3 ms) := by
  refine PI.imp (pi_range3 hg hm he hs hpl) fun σ H Rt h => ?_
  refine i_args (f := fR3) (P := fun vs Rt H => ∃ (i j c : Int) (n : Nat), vs = [.int i, .int j, .int c] ∧ RgC i j c n ∧ Rt (Itc i c n) H) (fun F H l vs ds Rt s hl hf k => ?_) σ H Rt (fun ρ => ?_) h
  · unfold fR3 at hf
    split at hf
    · split at hf
      · rename_i i j c hj
        rw [Bool.and_eq_true, Bool.and_eq_true, decide_eq_true_eq] at hj
        cases hf
        obtain ⟨v, r, rfl, i1, i2⟩ := isDs_cons hl
        obtain ⟨u, r, rfl, i3, i4⟩ := isDs_cons i2
        obtain ⟨w, r, rfl, i5, i6⟩ := isDs_cons i4
        cases isDs_nil i6
        rw [isD_int_iff.mp i1, isD_int_iff.mp i3, isD_int_iff.mp i5, hj.2]
        exact ⟨i, j, -1, _, rfl, RgC.neg (inR_iff hj.1.1).1 (inR_iff hj.1.1).2 (inR_iff hj.1.2).1 (inR_iff hj.1.2).2, k _ walkD_rangeC⟩
      · cases hf
    · cases hf
  · unfold mItR3
    congr 1
    funext l ρ1
    unfold fR3
    split
    · split <;> rfl
    · rfl
theorem di_str (he : DE X E e m) : DI X E tg e (mItS m) := (pi_str he).imp fun σ H Rt h => by
  obtain ⟨F, ρ, φ, e, k⟩ := h
  refine ⟨F, ρ, φ, e, ?_⟩
  unfold mItS at k
  cases hm : m ρ with
  | bad => rw [hm] at k; exact k.elim
  | err x ρ' => rw [hm] at k; exact k
  | ok x ρ1 =>
    rw [hm] at k
    simp only [R.bind_ok] at k
    intro F1 H1 φ1 v f1 e1 r1 d1 x1
    split at k
    · rename_i ds ρ2 hh
      split at hh
      · rename_i z
        cases hh
        exact ⟨z, isD_str_iff.mp (rep_leaf r1), k F1 H1 φ1 _ e1 walkD_str x1.drop⟩
      · cases hh
    · rename_i hh; split at hh <;> cases hh
    · exact k.elim
end
end G
namespace G
open PySem PySem.Spec PyProof.Rows L2

/-! ### isinstance -/
inductive Kd | non | bl | int | str | lst | tup
  deriving DecidableEq
def Kd.nm : Kd → String
  | .non => "NoneType" | .bl => "bool" | .int => "int" | .str => "str" | .lst => "list" | .tup => "tuple"
def isiK : Kd → Kd → Bool
  | .bl, .int => true
  | a, b => decide (a = b)
theorem kit_kd : ∀ a b : Kd, kitB a.nm b.nm = some (isiK a b) := by
  intro a b
  cases a <;> cases b <;> decide +kernel
def M.kd : M → Option Kd
  | .leaf .none => some .non
  | .leaf (.bool _) => some .bl
  | .leaf (.int _) => some .int
  | .leaf (.str _) => some .str
  | .leaf (.list _) => some .lst
  | .leaf (.tuple _) => some .tup
  | .lst _ => some .lst
  | _ => none
section
variable {K : Frag} {F H : Hp}
theorem rep_kd {v : V} {x : M} {f : List Addr} {k : Kd} (s : Sub F H) (r : Rep K F H v x f) (h : x.kd = some k) : TyX K H v (.type k.nm) := by
  unfold M.kd at h
  split at h
  · cases h; rw [isD_none_iff.mp (rep_leaf r)]; exact .base .non
  · cases h; rw [isD_bool_iff.mp (rep_leaf r)]; exact .base (.bl _)
  · cases h; rw [isD_int_iff.mp (rep_leaf r)]; exact .base (.int _)
  · cases h; rw [isD_str_iff.mp (rep_leaf r)]; exact .base (.str _)
  · cases h
    have q := rep_leaf r
    unfold IsD at q
    obtain ⟨a, vs, rfl, h1, _⟩ := q
    exact .base (.lst (s _ _ h1))
  · cases h
    have q := rep_leaf r
    unfold IsD at q
    obtain ⟨a, vs, rfl, h1, _⟩ := q
    exact .base (.tup (s _ _ h1))
  · cases h
    cases r with
    | lst h1 h2 h3 h4 => exact .base (.lst h1)
  · cases h
def gIsi (t : Kd) : M → Option PyData := fun x => x.kd.map fun k => .bool (isiK k t)
theorem r_isi (t : Kd) : R1S K (fun v => rIsi K [v, .ty t.nm]) (gIsi t) := by
  intro F H v x f d Q s r h q
  unfold gIsi at h
  rw [Option.map_eq_some_iff] at h
  obtain ⟨k, h, rfl⟩ := h
  exact ⟨v, .ty t.nm, .type k.nm, .type t.nm, isiK k t, rfl, .ty _, rep_kd s r h, kit_ty (kit_kd k t), q _ (isD_bool _)⟩
def gIsi2 (t u : Kd) : M → Option M := fun x => x.kd.map fun k => .leaf (.bool (isiK k t || isiK k u))
theorem r_isi2 (t u : Kd) : R1 K (fun v H Q => 2 ≤ sizeLine ∧ ∀ p, H p = none → rIsiT K [v, .ref p] (upd H p (.tup [.ty t.nm, .ty u.nm])) Q) (gIsi2 t u) := by
  intro F H v x f y Q s r h q
  unfold gIsi2 at h
  rw [Option.map_eq_some_iff] at h
  obtain ⟨k, h, rfl⟩ := h
  refine ⟨by decide, fun p hp => ?_⟩
  have g : Grow F H F (upd H p (.tup [.ty t.nm, .ty u.nm])) [p] := Grow.own1 s hp
  have ha : PySem.W.kitAny K (.type k.nm) [.type t.nm, .type u.nm] = some (isiK k t || isiK k u) := by
    refine kitAny_cons (kit_ty (kit_kd k t)) (fun e => ?_) (fun e => by rw [e]; rfl)
    rw [e, Bool.false_or]
    refine kitAny_cons (kit_ty (kit_kd k u)) (fun e2 => ?_) (fun e2 => e2)
    rw [e2]
    rfl
  refine ⟨v, p, [.ty t.nm, .ty u.nm], .type k.nm, [.type t.nm, .type u.nm], _, rfl, upd_same, .cons (.ty _) (.cons (.ty _) .nil), rep_kd g.sub (g.rep r) h, ha, ?_⟩
  exact q _ _ _ [] ⟨g.mono, g.sub, g.same, g.new, fun a ha => by simp at ha⟩ (.leaf (isD_bool _))
end
section
variable {X : Cx} {E : XK} {a : Expr} {q : Env' → Option M} {m : Env' → R M} {p p2 p3 pos : Pos} {x y : Str}
theorem pe_isi {te : TE} (t : Kd) (hg : Gl X "isinstance") (hm : X.mg "isinstance" = none) (hgt : Gl X x) (hmt : X.mg x = none) (hvt : bootBuiltins x = some (.type t.nm)) (ha : PE X a te) (hn : x ≠ "__name__" := by decide) (hdb : (x == ("__debug__" : Str)) = false := by decide)
    (he : starEach [a, .Name x p2] X.env = (false, eval a X.env) :: starEach [.Name x p2] X.env := by rfl) (he2 : starEach [.Name x p2] X.env = (false, eval (.Name x p2) X.env) :: starEach [] X.env := by rfl) (hpl : (backTo pos (starEach [.Name x p2] X.env)).any (·.1) = false := by rfl) :
    PE X (.Call (.Name "isinstance" p) [a, .Name x p2] [] pos) (fun σ H Q => te σ H fun v H1 => rIsi X.K [v, .ty t.nm] H1 Q) :=
  pe_callB call_isi hg hm PyProof.Rows.boot_isinstance (pa_cons ha (pa_cons (pe_bltn (v := .ty t.nm) hgt hmt hvt rfl hn hdb) pa_nil he2) he) (by decide) (by decide) he hpl
theorem dq_isi (t : Kd) (hg : Gl X "isinstance") (hm : X.mg "isinstance" = none) (hgt : Gl X x) (hmt : X.mg x = none) (hvt : bootBuiltins x = some (.type t.nm)) (ha : DQ X a q) (hn : x ≠ "__name__" := by decide) (hdb : (x == ("__debug__" : Str)) = false := by decide)
    (he : starEach [a, .Name x p2] X.env = (false, eval a X.env) :: starEach [.Name x p2] X.env := by rfl) (he2 : starEach [.Name x p2] X.env = (false, eval (.Name x p2) X.env) :: starEach [] X.env := by rfl) (hpl : (backTo pos (starEach [.Name x p2] X.env)).any (·.1) = false := by rfl) :
    DQ X (.Call (.Name "isinstance" p) [a, .Name x p2] [] pos) (q1 (gIsi t) q) := (pe_isi t hg hm hgt hmt hvt ha hn hdb he he2 hpl).imp fun σ H Q h => i_q1 (r_isi t) σ H Q h
theorem pe_isi2 {te : TE} {kk : Nat} (t u : Kd) (hg : Gl X "isinstance") (hm : X.mg "isinstance" = none) (hgt : Gl X x) (hmt : X.mg x = none) (hvt : bootBuiltins x = some (.type t.nm)) (hgu : Gl X y) (hmu : X.mg y = none) (hvu : bootBuiltins y = some (.type u.nm)) (ha : PE X a te)
    (hn : x ≠ "__name__" := by decide) (hdb : (x == ("__debug__" : Str)) = false := by decide) (hn2 : y ≠ "__name__" := by decide) (hdb2 : (y == ("__debug__" : Str)) = false := by decide)
    (he : starEach [a, .Tuple [.Name x p2, .Name y p3] kk pos'] X.env = (false, eval a X.env) :: starEach [.Tuple [.Name x p2, .Name y p3] kk pos'] X.env := by rfl) (he2 : starEach [.Tuple [.Name x p2, .Name y p3] kk pos'] X.env = (false, eval (.Tuple [.Name x p2, .Name y p3] kk pos') X.env) :: starEach [] X.env := by rfl)
    (he3 : starEach [.Name x p2, .Name y p3] X.env = (false, eval (.Name x p2) X.env) :: starEach [.Name y p3] X.env := by rfl) (he4 : starEach [.Name y p3] X.env = (false, eval (.Name y p3) X.env) :: starEach [] X.env := by rfl)
    (hpl : (backTo pos (starEach [.Tuple [.Name x p2, .Name y p3] kk pos'] X.env)).any (·.1) = false := by rfl) :
    PE X (.Call (.Name "isinstance" p) [a, .Tuple [.Name x p2, .Name y p3] kk pos'] [] pos) (fun σ H Q => te σ H fun v H1 => 2 ≤ sizeLine ∧ ∀ p, H1 p = none → rIsiT X.K [v, .ref p] (upd H1 p (.tup [.ty t.nm, .ty u.nm])) Q) :=
  pe_callB call_isiT hg hm PyProof.Rows.boot_isinstance (pa_cons ha (pa_cons (pe_tup (pa_cons (pe_bltn (v := .ty t.nm) hgt hmt hvt rfl hn hdb) (pa_cons (pe_bltn (v := .ty u.nm) hgu hmu hvu rfl hn2 hdb2) pa_nil he4) he3)) pa_nil he2) he) (by decide) (by decide) he hpl
theorem de_isi2q {kk : Nat} (t u : Kd) (hg : Gl X "isinstance") (hm : X.mg "isinstance" = none) (hgt : Gl X x) (hmt : X.mg x = none) (hvt : bootBuiltins x = some (.type t.nm)) (hgu : Gl X y) (hmu : X.mg y = none) (hvu : bootBuiltins y = some (.type u.nm)) (ha : DQ X a q)
    (hn : x ≠ "__name__" := by decide) (hdb : (x == ("__debug__" : Str)) = false := by decide) (hn2 : y ≠ "__name__" := by decide) (hdb2 : (y == ("__debug__" : Str)) = false := by decide)
    (he : starEach [a, .Tuple [.Name x p2, .Name y p3] kk pos'] X.env = (false, eval a X.env) :: starEach [.Tuple [.Name x p2, .Name y p3] kk pos'] X.env := by rfl) (he2 : starEach [.Tuple [.Name x p2, .Name y p3] kk pos'] X.env = (false, eval (.Tuple [.Name x p2, .Name y p3] kk pos') X.env) :: starEach [] X.env := by rfl)
    (he3 : starEach [.Name x p2, .Name y p3] X.env = (false, eval (.Name x p2) X.env) :: starEach [.Name y p3] X.env := by rfl) (he4 : starEach [.Name y p3] X.env = (false, eval (.Name y p3) X.env) :: starEach [] X.env := by rfl)
    (hpl : (backTo pos (starEach [.Tuple [.Name x p2, .Name y p3] kk pos'] X.env)).any (·.1) = false := by rfl) :
    DE X E (.Call (.Name "isinstance" p) [a, .Tuple [.Name x p2, .Name y p3] kk pos'] [] pos) (m1q (gIsi2 t u) q) :=
  (pe_isi2 t u hg hm hgt hmt hvt hgu hmu hvu ha hn hdb hn2 hdb2 he he2 he3 he4 hpl).imp fun σ H Q h => i_1q (r_isi2 t u) σ H Q h
end

/-! ### < of data -/
def ltOk (d e : PyData) : Bool := nd d && nd e && PySem.W.alike d e && !isNd d && decide (d.depth ≤ 64)
def rLtD (K : Frag) : L2.R2 := fun x y H Q => ∃ d e, IsD K H d x ∧ IsD K H e y ∧ ltOk d e = true ∧ Q (.bl (PySem.W.dataLt d e)) H
theorem op_ltD {X : Cx} (hu : X.A.units + 64 < cLine) : OpR X (compareOp .Lt) (rLtD X.K) := by
  intro pins s σ H x y v u Q I rx ry h
  obtain ⟨d, e, hd, he, ok, q⟩ := h
  unfold ltOk at ok
  simp only [Bool.and_eq_true, decide_eq_true_eq, Bool.not_eq_true'] at ok
  obtain ⟨⟨⟨⟨n1, n2⟩, al⟩, nn⟩, dp⟩ := ok
  obtain ⟨as, r1⟩ := Dp.reads I d x v (IsD.dp _ _ n1 hd) rx
  obtain ⟨bs, r2⟩ := Dp.reads I e y u (IsD.dp _ _ n2 he) ry
  have hm : min d.depth e.depth ≤ d.depth := Nat.min_le_left _ _
  exact PySem.W.rcLt_alike d e X.A s v u as bs r1 r2 al (fun z => by rw [z] at nn; cases nn) (by omega) X.prog X.w X.xe _ ⟨.bl _, H, I, rfl, q⟩
def gLtD : M → M → Option PyData := fun x y => match x.frz, y.frz with
  | some d, some e => if ltOk d e then some (.bool (PySem.W.dataLt d e)) else none
  | _, _ => none
theorem r_ltD {K : Frag} : R2S K (rLtD K) gLtD := by
  intro F H v x fa v2 x2 f2 d Q s r r2 h q
  unfold gLtD at h
  split at h
  · rename_i d1 d2 h1 h2
    split at h
    · rename_i hs
      cases h
      exact ⟨d1, d2, r.read s h1, r2.read s h2, hs, q _ (isD_bool _)⟩
    · cases h
  · cases h

/-! ### sorted of a list -/
def sortOk (ds : List PyData) : Bool := (ds.all fun d => nd d && decide (d.depth ≤ 60)) && (ds.all fun d => ds.all fun e => PySem.W.alike d e) &&
  ((ds.all fun d => match d with | .tuple (_ :: _) => true | _ => false) || (ds.all fun d => match d with | .none => false | .tuple _ => false | _ => true)) && decide (ds.length ≤ 16777216)
abbrev sortD (ds : List PyData) : List PyData := ds.mergeSort (PySem.W.dataLe false id)
theorem sortOk_spec {ds : List PyData} (h : sortOk ds = true) : (∀ d ∈ ds, nd d = true ∧ d.depth ≤ 60) ∧ PySem.W.AllAlike ds ∧ PySem.W.Sortable ds ∧ ds.length ≤ sizeLine := by
  unfold sortOk at h
  simp only [Bool.and_eq_true, decide_eq_true_eq, List.all_eq_true, Bool.or_eq_true] at h
  obtain ⟨⟨⟨h1, h2⟩, h3⟩, h4⟩ := h
  refine ⟨h1, h2, ?_, by rw [sizeLine_eq]; exact h4⟩
  rcases h3 with h3 | h3
  · refine .inl fun d hd => ?_
    have := h3 d hd
    split at this
    · exact ⟨_, _, rfl⟩
    · cases this
  · refine .inr fun d hd => ?_
    have := h3 d hd
    constructor
    · rintro rfl; cases this
    · rintro xs rfl; cases this
theorem each_of {K : Frag} {G : Hp} : ∀ {ds : List PyData} {vs : List V} {us : List Value}, IsDs K G ds vs → Vals vs us → PySem.W.EachIs (fun u d => ∃ x, RelV x u ∧ IsD K G d x) us ds
  | [], vs, us, h, r => by unfold IsDs at h; subst h; cases r; exact .nil
  | d :: ds, vs, us, h, r => by
    unfold IsDs at h
    obtain ⟨v, l, rfl, h1, h2⟩ := h
    cases r with | cons r1 r2 => exact .cons ⟨v, r1, h1⟩ (each_of h2 r2)
theorem of_each {K : Frag} {G : Hp} : ∀ {ds : List PyData} {us : List Value}, PySem.W.EachIs (fun u d => ∃ x, RelV x u ∧ IsD K G d x) us ds → ∃ vs, Vals vs us ∧ IsDs K G ds vs
  | _, _, .nil => ⟨[], .nil, .nil⟩
  | _, _, .cons ⟨x, h1, h2⟩ r => let ⟨vs, a, b⟩ := of_each r; ⟨x :: vs, .cons h1 a, .cons h2 b⟩
theorem each_reads {X : Cx} {pins : List (Addr × Obj)} {σ : L2.St} {H : Hp} {s : Shared} (I : Inv X pins σ H s) {G : Hp} (hG : Sub G H) : ∀ {ds : List PyData} {us : List Value}, (∀ d ∈ ds, nd d = true) → PySem.W.EachIs (fun u d => ∃ x, RelV x u ∧ IsD X.K G d x) us ds →
    PySem.W.EachIs (fun u d => ∃ as, Reads s.heap u (id d) as) us ds
  | _, _, _, .nil => .nil
  | _, _, n, .cons ⟨x, h1, h2⟩ r => .cons (Dp.reads I _ x _ (IsD.dp _ _ (n _ (by simp)) (h2.mono hG)) h1) (each_reads I hG (fun d hd => n d (by simp [hd])) r)
def rSortD (K : Frag) : List V → Hp → VK → Prop := fun xs H Q => ∃ a vs ds G, xs = [.ref a] ∧ SqL K H a vs ∧ Sub G H ∧ IsDs K G ds vs ∧ sortOk ds = true ∧ ∀ p ws, H p = none → IsDs K G (sortD ds) ws → Q (.ref p) (upd H p (.lst ws))
theorem call_sortD {X : Cx} (hu : X.A.units + 64 < cLine) : CallR X (.builtin "sorted") (rSortD X.K) := by
  intro pins s σ H xs us Q I r h
  obtain ⟨a, vs, ds, G, rfl, hq, hG, hd, ok, q⟩ := h
  obtain ⟨u, rfl, rx⟩ := vals1 r
  cases rx
  obtain ⟨o1, o2, o3, o4⟩ := sortOk_spec ok
  obtain ⟨its, rv, p, hz⟩ := I.list hq
  have e := each_of hd rv
  refine PySem.W.sorted_data (enc := id) p.isList e (each_reads I hG (fun d hd => (o1 d hd).1) e) (by rw [List.map_id]; exact o2) (by rw [List.map_id]; exact o3) o4 (fun d hd => ?_) fun out ho eo => ?_
  · have := (o1 d hd).2
    show X.A.units + 2 + d.depth < cLine
    omega
  · obtain ⟨ws, w1, w2⟩ := of_each eo
    obtain ⟨c, hc⟩ := PyProof.Rows.sortedAll_at s.heap its (List.toArray out)
    have hfresh : H (s.heap.objs.size + 1) = none := I.hok.fresh (Nat.le_succ _)
    have hl : ws.length ≤ sizeLine := by
      have h1 := w1.length
      rw [h1, ho]; exact o4
    refine ⟨.ref (s.heap.objs.size + 1), _, I.laid (t' := s.toks) (fun b o e => PyProof.Rows.sortedAll_old e) (Nat.le_succ _) ?_, rfl, q _ ws hfresh w2⟩
    exact ⟨hl, out, c, w1, hc⟩
def gSortL : M → Option M := fun x => x.lv.bind fun ds => if sortOk ds then some (.lst ((sortD ds).map .leaf)) else none
theorem r_sortL {K : Frag} : R1 K (fun v => rSortD K [v]) gSortL := by
  intro F H v x f y Q s r h q
  unfold gSortL at h
  rw [Option.bind_eq_some_iff] at h
  obtain ⟨ds, h, hh⟩ := h
  split at hh
  · rename_i ok
    cases hh
    obtain ⟨a, vs, rfl, h1, h2⟩ := rep_lv s r h
    refine ⟨a, vs, ds, F, rfl, .of h1, s, h2, ok, fun p ws hp hw => ?_⟩
    have hF : F p = none := by
      cases e : F p with
      | none => rfl
      | some u => rw [s p u e] at hp; cases hp
    exact q _ _ _ [p] (Grow.own1 s hp) (.lst upd_same hF (reps_leaves hw) (by simp))
  · cases hh

/-! ### slices -/
def tO' (K : Frag) (mg : Str → Option Value) (E : XK) (m : Env' → R (Option Int)) : TO := fun σ H Q => ∃ F ρ φ, EnvOk K F H σ ρ φ ∧ match m ρ with
  | .ok o ρ' => ∀ F' H' φ', EnvOk K F' H' σ ρ' φ' → Ext F H (Om φ) F' H' (Om φ') → Q o H'
  | .err x ρ' => XOk K mg E F H φ σ x ρ'
  | .bad => False
abbrev DO (X : Cx) (E : XK) (e : Option Expr) (m : Env' → R (Option Int)) : Prop := PO X e (tO' X.K X.mg E m)
theorem _root_.L2.PO.imp {X : Cx} {e : Option Expr} {t t' : TO} (h : PO X e t) (i : ∀ σ H Q, t' σ H Q → t σ H Q) : PO X e t' := ⟨fun pins s σ H Q I q => h.run pins s σ H Q I (i σ H Q q)⟩
def mNoPart : Env' → R (Option Int) := fun ρ => .ok none ρ
def mPart (m : Env' → R M) : Env' → R (Option Int) := fun ρ => (m ρ).bind fun x ρ1 => match x with
  | .leaf (.int i) => .ok (some i) ρ1
  | _ => .bad
def cutD (xs : List PyData) (lo hi : Option Int) : List PyData := (xs.drop (HT.sIx xs.length 0 lo)).take (HT.sIx xs.length xs.length hi - HT.sIx xs.length 0 lo)
theorem cut_isDs {K : Frag} {F : Hp} {ds : List PyData} {vs : List V} (h : IsDs K F ds vs) (lo hi : Option Int) : IsDs K F (cutD ds lo hi) (cutV vs lo hi) := by
  unfold cutD cutV
  rw [h.length]
  exact (h.drop _).take _
def rSlAny (K : Frag) : V → Option Int → Option Int → Hp → VK → Prop := fun x lo hi H Q => rSlL K x lo hi H Q ∨ rSlA K x lo hi H Q ∨ rSlS x lo hi H Q
theorem sl_any {X : Cx} : SlR X (rSlAny X.K) := sl_list.or (sl_tupA.or sl_str)
def gSl (x : M) (lo hi : Option Int) : Option M := match x with
  | .leaf (.str z) => if z.length ≤ 16777216 then some (.leaf (.str (cutS z lo hi))) else none
  | _ => match x.tv with
    | some ds => some (.leaf (.tuple (cutD ds lo hi)))
    | none => x.lv.map fun ds => .lst ((cutD ds lo hi).map .leaf)
theorem r_sl {K : Frag} {lo hi : Option Int} : R1 K (fun v => rSlAny K v lo hi) (fun x => gSl x lo hi) := by
  intro F H v x f y Q s r h q
  have main : ∀ {x : M}, Rep K F H v x f → (match x.tv with
    | some ds => some (M.leaf (.tuple (cutD ds lo hi)))
    | none => x.lv.map fun ds => .lst ((cutD ds lo hi).map .leaf)) = some y → rSlAny K v lo hi H Q := by
    clear h
    intro x r h
    split at h
    · rename_i ds hds
      cases h
      obtain ⟨a, vs, rfl, h1, h2⟩ := rep_tv s r hds
      refine .inr (.inl ⟨a, vs, rfl, SqT.of (s _ _ h1), fun hw => ?_, fun hw p hp => ?_⟩)
      · have e : cutD ds lo hi = ds := by
          unfold cutD
          rw [← h2.length, hw.1, hw.2]
          simp [h2.length]
        rw [e] at q
        refine q F H _ [] (.refl s) (.leaf ?_)
        unfold IsD; exact ⟨a, vs, rfl, h1, h2⟩
      · have g := Grow.frz1 (o := .tup (cutV vs lo hi)) s hp
        exact q _ _ _ [] g (.leaf (isD_tup upd_same ((cut_isDs h2 lo hi).mono g.mono)))
    · rw [Option.map_eq_some_iff] at h
      obtain ⟨ds, hlv, rfl⟩ := h
      obtain ⟨a, vs, rfl, h1, h2⟩ := rep_lv s r hlv
      refine .inl ⟨a, vs, rfl, .of h1, fun p hp => ?_⟩
      have hF : F p = none := by
        cases e : F p with
        | none => rfl
        | some u => rw [s p u e] at hp; cases hp
      exact q _ _ _ [p] (Grow.own1 s hp) (.lst upd_same hF (reps_leaves (cut_isDs h2 lo hi)) (by simp))
  unfold gSl at h
  dsimp only at h
  split at h
  · split at h
    · rename_i hz
      cases h
      exact .inr (.inr ⟨_, isD_str_iff.mp (rep_leaf r), by rw [sizeLine_eq]; exact hz, q F H _ [] (.refl s) (.leaf (isD_str _))⟩)
    · cases h
  · exact main r h
def mSl (m : Env' → R M) (l h : Env' → R (Option Int)) : Env' → R M := fun ρ => (m ρ).bind fun x ρ1 => (l ρ1).bind fun lo ρ2 => (h ρ2).bind fun hi ρ3 => match gSl x lo hi with
  | some y => .ok y ρ3
  | none => .bad
section
variable {X : Cx} {E : XK} {e : Expr} {m : Env' → R M} {lo hi : Option Expr} {l h : Env' → R (Option Int)} {pos p2 : Pos}
theorem do_none : DO X E none mNoPart := po_none.imp fun σ H Q ⟨F, ρ, φ, e, k⟩ => k F H φ e .refl
theorem do_some (he : DE X E e m) : DO X E (some e) (mPart m) := (po_some he).imp fun σ H Q ⟨F, ρ, φ, e, k⟩ => by
  refine ⟨F, ρ, φ, e, ?_⟩
  unfold mPart at k
  cases hm : m ρ with
  | bad => rw [hm] at k; exact k.elim
  | err x ρ' => rw [hm] at k; exact k
  | ok x ρ1 =>
    rw [hm] at k
    simp only [R.bind_ok] at k
    intro F1 H1 φ1 v f1 e1 r1 d1 x1
    split at k
    · rename_i o ρ2 hh
      split at hh
      · rename_i i
        cases hh
        exact ⟨i, isD_int_iff.mp (rep_leaf r1), k F1 H1 φ1 e1 x1.drop⟩
      · cases hh
    · rename_i hh; split at hh <;> cases hh
    · exact k.elim
theorem de_slice (he : DE X E e m) (hl : DO X E lo l) (hh : DO X E hi h) : DE X E (.Subscript e (.Slice lo hi none p2) pos) (mSl m l h) := (pe_slice sl_any he hl hh).imp fun σ H Q ⟨F, ρ, φ, e, k⟩ => by
  refine ⟨F, ρ, φ, e, ?_⟩
  unfold mSl at k
  cases hm : m ρ with
  | bad => rw [hm] at k; exact k.elim
  | err x ρ' => rw [hm] at k; exact k
  | ok x ρ1 =>
    rw [hm] at k
    simp only [R.bind_ok] at k
    intro F1 H1 φ1 v f1 e1 r1 d1 x1
    refine ⟨F1, ρ1, φ1, e1, ?_⟩
    cases hm2 : l ρ1 with
    | bad => rw [hm2] at k; exact k.elim
    | err x ρ' => rw [hm2] at k; exact k.next x1.drop
    | ok lo' ρ2 =>
      rw [hm2] at k
      simp only [R.bind_ok] at k
      intro F2 H2 φ2 e2 x2
      obtain ⟨r2, d2⟩ := r1.ext x2 d1
      refine ⟨F2, ρ2, φ2, e2, ?_⟩
      cases hm3 : h ρ2 with
      | bad => rw [hm3] at k; exact k.elim
      | err x ρ' => rw [hm3] at k; exact k.next (x1.drop.trans x2)
      | ok hi' ρ3 =>
        rw [hm3] at k
        simp only [R.bind_ok] at k
        intro F3 H3 φ3 e3 x3
        obtain ⟨r3, d3⟩ := r2.ext x3 d2
        cases hg : gSl x lo' hi' with
        | none => rw [hg] at k; exact k.elim
        | some y =>
          rw [hg] at k
          refine r_sl F3 H3 v x f1 y Q e3.sub r3 hg fun F4 H4 v4 f4 gr r4 => ?_
          exact k F4 H4 φ3 v4 f4 (gr.env e3) r4 (gr.off e3) (((x1.drop.trans x2).trans x3).trans gr.ext)
end
end G
namespace G
open PySem PySem.Spec PyProof.Rows L2

/-! ### own trees changed -/
section
variable {K : Frag} {F H : Hp} {σ : L2.St} {ρ : Env'} {φ : Nat → List Addr}
theorem EnvOk.mut (e : EnvOk K F H σ ρ φ) {i : Nat} {v : V} {m m' : M} {c : Addr} {o : HO} {f' : List Addr} (hi : ρ[i]? = some (some m)) (hv : σ[i]? = some (some v)) (hc : c ∈ φ i) (r : Rep K F (L2.upd H c o) v m' f') (hf : ∀ a ∈ f', a ∈ φ i ∨ ¬ Om φ a) :
    EnvOk K F (L2.upd H c o) σ (ρ.set i (some m')) (fun j => if j = i then f' else φ j) := by
  have hFc : F c = none := (e.tracked ⟨i, hc⟩).2
  have hlt : i < ρ.length := (List.getElem?_eq_some_iff.mp hi).1
  refine ⟨sub_upd e.sub hFc, by simp [e.len], fun j x h => ?_, fun j k a hj hk => ?_, fun j h => ?_⟩
  · by_cases hji : j = i
    · subst hji
      rw [List.getElem?_set_self hlt] at h
      cases h
      exact ⟨v, hv, by rw [if_pos rfl]; exact r⟩
    · rw [List.getElem?_set_ne (Ne.symm hji)] at h
      obtain ⟨u, hu, q⟩ := e.rep j x h
      refine ⟨u, hu, ?_⟩
      rw [if_neg hji]
      exact q.updN fun hcj => hji (e.dis j i c hcj hc)
  · by_cases h1 : j = i
    · by_cases h2 : k = i
      · rw [h1, h2]
      · subst h1
        simp only [if_true, h2, if_false] at hj hk
        rcases hf a hj with h | h
        · exact e.dis j k a h hk
        · exact absurd ⟨k, hk⟩ h
    · by_cases h2 : k = i
      · subst h2
        simp only [if_true, h1, if_false] at hj hk
        rcases hf a hk with h | h
        · exact (e.dis k j a h hj).symm
        · exact absurd ⟨j, hj⟩ h
      · simp only [h1, h2, if_false] at hj hk
        exact e.dis j k a hj hk
  · by_cases hji : j = i
    · subst hji
      exact absurd (List.getElem?_set_self hlt) (h m')
    · simp only [hji, if_false]
      refine e.emp j fun x hx => h x ?_
      rw [List.getElem?_set_ne (Ne.symm hji)]; exact hx
theorem om_mut {i : Nat} {f' : List Addr} {a : Addr} (h : Om (fun j => if j = i then f' else φ j) a) : Om φ a ∨ a ∈ f' := by
  obtain ⟨j, h⟩ := h
  dsimp only at h
  split at h
  · exact .inr h
  · exact .inl ⟨j, h⟩
end
section
variable {κ α : Type} [DecidableEq κ]
def putG (kvs : List (κ × α)) (k : κ) (v : α) : List (κ × α) :=
  if (kvs.any fun kv => decide (kv.1 = k)) = true then kvs.map (fun kv => if kv.1 = k then (kv.1, v) else kv) else kvs ++ [(k, v)]
def getG (kvs : List (κ × α)) (k : κ) : Option α := (kvs.find? fun kv => decide (kv.1 = k)).map (·.2)
theorem any_keys {β : Type} {l : List (κ × α)} {l2 : List (κ × β)} (h : l.map (·.1) = l2.map (·.1)) (k : κ) : (l.any fun kv => decide (kv.1 = k)) = l2.any fun kv => decide (kv.1 = k) := by
  have e1 : (l.any fun kv => decide (kv.1 = k)) = (l.map (·.1)).any fun x => decide (x = k) := by rw [List.any_map]; rfl
  have e2 : (l2.any fun kv => decide (kv.1 = k)) = (l2.map (·.1)).any fun x => decide (x = k) := by rw [List.any_map]; rfl
  rw [e1, e2, h]
theorem keys_putG (kvs : List (κ × α)) (k : κ) (v : α) : (putG kvs k v).map (·.1) = if (kvs.any fun kv => decide (kv.1 = k)) = true then kvs.map (·.1) else kvs.map (·.1) ++ [k] := by
  unfold putG
  split
  · rw [List.map_map]
    apply List.map_congr_left
    intro x _
    simp only [Function.comp_apply]
    split <;> rfl
  · simp
theorem nodup_putG {kvs : List (κ × α)} (h : (kvs.map (·.1)).Nodup) (k : κ) (v : α) : ((putG kvs k v).map (·.1)).Nodup := by
  rw [keys_putG]
  split
  · exact h
  · rename_i hn
    rw [List.nodup_append]
    refine ⟨h, by simp, fun a ha b hb e => hn ?_⟩
    simp only [List.mem_singleton] at hb
    subst hb e
    obtain ⟨x, hx, e⟩ := List.mem_map.mp ha
    exact List.any_eq_true.mpr ⟨x, hx, by simpa using e⟩
end
section
variable {K : Frag} {F H : Hp} {κ : Type} [DecidableEq κ]
theorem reps_repl {v : V} {m : M} {f : List Addr} (r : Rep K F H v m f) {k : κ} : ∀ {kvs : List (κ × V)} {kms : List (κ × M)} {fp : List Addr}, kvs.map (·.1) = kms.map (·.1) → (kms.map (·.1)).Nodup → Reps K F H (kvs.map (·.2)) (kms.map (·.2)) fp → (∀ a ∈ f, a ∉ fp) → (kms.any fun kv => decide (kv.1 = k)) = true →
    ∃ fp', (∀ a ∈ fp', a ∈ fp ∨ a ∈ f) ∧ Reps K F H ((kvs.map fun kv => if kv.1 = k then (kv.1, v) else kv).map (·.2)) ((kms.map fun kv => if kv.1 = k then (kv.1, m) else kv).map (·.2)) fp'
  | [], kms, fp, e, _, rs, _, ha => by
    have : kms = [] := by cases kms <;> simp at e ⊢
    subst this
    simp at ha
  | (k1, v1) :: kvs, [], fp, e, _, rs, _, _ => by simp at e
  | (k1, v1) :: kvs, (k2, m2) :: kms, fp, e, nd, rs, hd, ha => by
    simp only [List.map_cons, List.cons.injEq] at e
    obtain ⟨rfl, e⟩ := e
    simp only [List.map_cons] at rs nd ⊢
    rw [List.nodup_cons] at nd
    cases rs with
    | cons r1 r2 d =>
      rename_i f1 f2
      by_cases hk : k1 = k
      · subst hk
        have same : ∀ {α : Type} {l : List (κ × α)} {y : α}, k1 ∉ l.map (·.1) → (l.map fun kv => if kv.1 = k1 then (kv.1, y) else kv) = l := fun {α l y} hn => by
          conv => rhs; rw [← List.map_id l]
          apply List.map_congr_left
          intro x hx
          have : x.1 ≠ k1 := fun e => hn (List.mem_map.mpr ⟨x, hx, e⟩)
          simp [this]
        rw [same nd.1, same (by rw [e]; exact nd.1), if_pos rfl, if_pos rfl]
        exact ⟨f ++ f2, fun a h => (List.mem_append.mp h).elim .inr fun h => .inl (List.mem_append_right _ h), .cons r r2 fun a h h2 => hd a h (List.mem_append_right _ h2)⟩
      · rw [if_neg hk, if_neg hk]
        simp only [List.any_cons, hk, decide_false, Bool.false_or] at ha
        obtain ⟨fp', h1, h2⟩ := reps_repl r e nd.2 r2 (fun a h h2 => hd a h (List.mem_append_right _ h2)) ha
        refine ⟨f1 ++ fp', fun a h => ?_, .cons r1 h2 fun a ha' hb => ?_⟩
        · rcases List.mem_append.mp h with h | h
          · exact .inl (List.mem_append_left _ h)
          · exact (h1 a h).imp (List.mem_append_right _) id
        · rcases h1 a hb with h | h
          · exact d a ha' h
          · exact hd a h (List.mem_append_left _ ha')
theorem reps_put {v : V} {m : M} {f : List Addr} (r : Rep K F H v m f) {k : κ} {kvs : List (κ × V)} {kms : List (κ × M)} {fp : List Addr} (e : kvs.map (·.1) = kms.map (·.1)) (nd : (kms.map (·.1)).Nodup) (rs : Reps K F H (kvs.map (·.2)) (kms.map (·.2)) fp) (hd : ∀ a ∈ f, a ∉ fp) :
    ∃ fp', (∀ a ∈ fp', a ∈ fp ∨ a ∈ f) ∧ Reps K F H ((putK kvs k v).map (·.2)) ((putG kms k m).map (·.2)) fp' ∧ (putK kvs k v).map (·.1) = (putG kms k m).map (·.1) := by
  have ek : (putK kvs k v).map (·.1) = (putG kms k m).map (·.1) := by
    have h1 := keys_putG kvs k v
    have h2 := keys_putG kms k m
    rw [h2]
    rw [show (putK kvs k v) = putG kvs k v from rfl, h1, any_keys e, e]
  by_cases ha : (kms.any fun kv => decide (kv.1 = k)) = true
  · obtain ⟨fp', h1, h2⟩ := reps_repl r e nd rs hd ha
    refine ⟨fp', h1, ?_, ek⟩
    unfold putK putG
    rw [if_pos ha, if_pos (by rw [any_keys e]; exact ha)]
    exact h2
  · refine ⟨fp ++ f, fun a h => List.mem_append.mp h, ?_, ek⟩
    unfold putK putG
    rw [if_neg ha, if_neg (by rw [any_keys e]; exact ha)]
    simpa using rs.snoc r hd
theorem reps_set {v : V} {m : M} {f : List Addr} (r : Rep K F H v m f) : ∀ {vs : List V} {ms : List M} {fp : List Addr} (j : Nat), Reps K F H vs ms fp → (∀ a ∈ f, a ∉ fp) → ∃ fp', (∀ a ∈ fp', a ∈ fp ∨ a ∈ f) ∧ Reps K F H (vs.set j v) (ms.set j m) fp'
  | _, _, _, j, .nil, _ => ⟨[], by simp, by simp; exact .nil⟩
  | _, _, _, 0, .cons (f1 := f1) (f2 := f2) r1 r2 d, hd => ⟨f ++ f2, fun a h => (List.mem_append.mp h).elim .inr fun h => .inl (List.mem_append_right _ h), by simpa using Reps.cons r r2 fun a h h2 => hd a h (List.mem_append_right _ h2)⟩
  | _, _, _, j + 1, .cons (f1 := f1) (f2 := f2) r1 r2 d, hd => by
    obtain ⟨fp', h1, h2⟩ := reps_set r j r2 fun a h h2 => hd a h (List.mem_append_right _ h2)
    rw [List.set_cons_succ, List.set_cons_succ]
    refine ⟨f1 ++ fp', fun a h => ?_, Reps.cons r1 h2 fun a ha' hb => ?_⟩
    · rcases List.mem_append.mp h with h | h
      · exact .inl (List.mem_append_left _ h)
      · exact (h1 a h).imp (List.mem_append_right _) id
    · rcases h1 a hb with h | h
      · exact d a ha' h
      · exact hd a h (List.mem_append_left _ ha')
end
def keyOf : PyData → Option Key
  | .int i => some (.inl i)
  | .str s => some (.inr s)
  | _ => none
def keysOf : List PyData → Option (List Key)
  | [] => some []
  | d :: ds => match keyOf d, keysOf ds with
    | some k, some ks => some (k :: ks)
    | _, _ => none
theorem keyOf_is {K : Frag} {F : Hp} {d : PyData} {k : Key} {v : V} (h : keyOf d = some k) (r : IsD K F d v) : v = kV k := by
  cases d with
  | int i => cases h; exact isD_int_iff.mp r
  | str i => cases h; exact isD_str_iff.mp r
  | _ => cases h
theorem keysOf_is {K : Frag} {F : Hp} : ∀ {ds : List PyData} {ks : List Key} {vs : List V}, keysOf ds = some ks → IsDs K F ds vs → vs = ks.map kV
  | [], ks, vs, h, r => by simp [keysOf] at h; subst h; unfold IsDs at r; subst r; rfl
  | d :: ds, ks, vs, h, r => by
    unfold IsDs at r
    obtain ⟨v, u, rfl, h1, h2⟩ := r
    unfold keysOf at h
    split at h
    · rename_i k ks' e1 e2
      cases h
      rw [keyOf_is e1 h1, keysOf_is e2 h2]; rfl
    · cases h
/-- m[k] = y -/
def M.put : M → PyData → M → Option M
  | .lst ms, .int j, y => match ixN ms.length j with
    | some n => some (.lst (ms.set n y))
    | none => none
  | .dK kms, d, y => match keyOf d with
    | some k => if kms.length < 16777216 then some (.dK (putG kms k y)) else none
    | none => none
  | .dT kms, .tuple ds, y => match keysOf ds with
    | some k => if kms.length < 16777216 then some (.dT (putG kms k y)) else none
    | none => none
  | _, _, _ => none
def rSetAny : V → V → V → Hp → (Hp → Prop) → Prop := fun o i v H Q => rSetL o i v H Q ∨ ∃ a H4, o = .ref a ∧ DPut H a i v H4 ∧ Q H4
theorem set_any {X : Cx} (hu : X.A.units + 1 < cLine) : PSet X rSetAny := by
  intro pins s σ H o i v ov iv u Q I ro ri rv h
  rcases h with h | ⟨a, H4, rfl, g, q⟩
  · exact set_list pins s σ H o i v ov iv u Q I ro ri rv h
  · cases ro
    exact d_setItem hu I g ri rv fun s' I' => ⟨H4, I', q⟩
/-- an own tree is changed at its root -/
theorem rep_put {K : Frag} {F H : Hp} {v vk vy : V} {m m' y : M} {d : PyData} {fp f : List Addr} (s : Sub F H) (r : Rep K F H v m fp) (rk : IsD K F d vk) (ry : Rep K F H vy y f) (hd : ∀ a ∈ f, a ∉ fp) (h : m.put d y = some m') :
    ∃ c o fp', c ∈ fp ∧ (∀ a ∈ fp', a ∈ fp ∨ a ∈ f) ∧ Rep K F (L2.upd H c o) v m' fp' ∧ ∀ Q, Q (L2.upd H c o) → rSetAny v vk vy H Q := by
  cases r with
  | lst h1 h2 h3 h4 =>
    rename_i a vs ms fs
    cases d with
    | int j =>
      unfold M.put at h
      dsimp only at h
      cases hj : ixN ms.length j with
      | none => rw [hj] at h; cases h
      | some n =>
        rw [hj] at h
        cases h
        have ha : a ∉ f := fun z => hd a z (by simp)
        obtain ⟨fp', g1, g2⟩ := reps_set (ry.updN (D := a) (o := .lst (vs.set n vy)) ha) n (h3.updN (D := a) (o := .lst (vs.set n vy)) h4) fun b hb z => hd b hb (by simp [z])
        refine ⟨a, .lst (vs.set n vy), a :: fp', by simp, fun b hb => ?_, .lst upd_same h2 g2 fun z => ?_, fun Q q => ?_⟩
        · rcases List.mem_cons.mp hb with rfl | hb
          · exact .inl (by simp)
          · exact (g1 b hb).imp (List.mem_cons_of_mem _) id
        · rcases g1 a z with z | z
          · exact h4 z
          · exact ha z
        · refine .inl ⟨a, vs, j, n, rfl, isD_int_iff.mp rk, h1, ?_, q⟩
          rw [h3.len]; exact hj
    | _ => cases h
  | dK h1 h2 he nd' h3 h4 =>
    rename_i a kvs kms fs
    unfold M.put at h
    dsimp only at h
    cases hj : keyOf d with
    | none => rw [hj] at h; cases h
    | some k =>
      rw [hj] at h
      dsimp only at h
      split at h
      · rename_i hz
        cases h
        have hl : kvs.length = kms.length := by have := congrArg List.length he; simpa using this
        have ha : a ∉ f := fun z => hd a z (by simp)
        obtain ⟨fp', g1, g2, g3⟩ := reps_put (k := k) (ry.updN (D := a) (o := .dK (putK kvs k vy)) ha) he nd' (h3.updN (D := a) (o := .dK (putK kvs k vy)) h4) fun b hb z => hd b hb (by simp [z])
        refine ⟨a, .dK (putK kvs k vy), a :: fp', by simp, fun b hb => ?_, .dK upd_same h2 g3 (nodup_putG nd' k y) g2 fun z => ?_, fun Q q => ?_⟩
        · rcases List.mem_cons.mp hb with rfl | hb
          · exact .inl (by simp)
          · exact (g1 b hb).imp (List.mem_cons_of_mem _) id
        · rcases g1 a z with z | z
          · exact h4 z
          · exact ha z
        · refine .inr ⟨a, _, rfl, ?_, q⟩
          rw [keyOf_is hj rk]
          exact DPut.k h1 (by rw [sizeLine_eq]; omega)
      · cases h
  | dT h1 h2 he nd' h3 h4 =>
    rename_i a kvs kms fs
    cases d with
    | tuple ds =>
      unfold M.put at h
      dsimp only at h
      cases hj : keysOf ds with
      | none => rw [hj] at h; cases h
      | some k =>
        rw [hj] at h
        dsimp only at h
        split at h
        · rename_i hz
          cases h
          have hl : kvs.length = kms.length := by have := congrArg List.length he; simpa using this
          have ha : a ∉ f := fun z => hd a z (by simp)
          unfold IsD at rk
          obtain ⟨b, us, rfl, hb, rd⟩ := rk
          rw [keysOf_is hj rd] at hb
          obtain ⟨fp', g1, g2, g3⟩ := reps_put (k := k) (ry.updN (D := a) (o := .dT (putK kvs k vy)) ha) he nd' (h3.updN (D := a) (o := .dT (putK kvs k vy)) h4) fun b hb z => hd b hb (by simp [z])
          refine ⟨a, .dT (putK kvs k vy), a :: fp', by simp, fun b hb => ?_, .dT upd_same h2 g3 (nodup_putG nd' k y) g2 fun z => ?_, fun Q q => ?_⟩
          · rcases List.mem_cons.mp hb with rfl | hb
            · exact .inl (by simp)
            · exact (g1 b hb).imp (List.mem_cons_of_mem _) id
          · rcases g1 a z with z | z
            · exact h4 z
            · exact ha z
          · refine .inr ⟨a, _, rfl, DPut.t h1 (s _ _ hb) (by rw [sizeLine_eq]; omega), q⟩
        · cases h
    | _ => cases h
  | leaf h => cases h
  | ro _ _ => cases h
  | ins _ _ _ _ _ => cases h
def mPut (i : Nat) (mv mk : Env' → R M) : Env' → O := fun ρ => match mv ρ with
  | .ok y ρ1 => match qName i ρ1 with
    | none => .bad
    | some _ => match mk ρ1 with
      | .ok k ρ2 => match k.frz, qName i ρ2 with
        | some d, some m => match m.put d y with
          | some m' => .next (ρ2.set i (some m'))
          | none => .bad
        | _, _ => .bad
      | .err x ρ2 => .err x ρ2
      | .bad => .bad
  | .err x ρ1 => .err x ρ1
  | .bad => .bad
def mAppend (i : Nat) (mv : Env' → R M) : Env' → O := fun ρ => match qName i ρ with
  | some (.lst _) => match mv ρ with
    | .ok y ρ1 => match qName i ρ1 with
      | some (.lst ms) => if ms.length < 16777216 then .next (ρ1.set i (some (.lst (ms ++ [y])))) else .bad
      | _ => .bad
    | .err x ρ1 => .err x ρ1
    | .bad => .bad
  | _ => .bad
section
variable {X : Cx} {E : XK} {J : List Nat} {i : Nat} {o k e : Expr} {mv mk : Env' → R M} {pos pos' apos : Pos}
theorem ds_put (hu : X.A.units + 1 < cLine) (he : DE X E e mv) (ho : PE X o (tVar i)) (hk : DE X E k mk) (hs : swapsWithSole [.Subscript o k pos'] e pos.line X.env = pure false := by rfl) (hw : swappedStores [.Subscript o k pos'] e X.env = pure none := by rfl)
    (h1 : (assignEach [.Subscript o k pos'] X.env).map (·.2) = [assign (.Subscript o k pos') X.env] := by rfl)
    (ha : ∀ v, assign (.Subscript o k pos') X.env v = (do
      let ov ← holding [v] (eval o X.env)
      let iv ← holding [v, ov] (eval k X.env)
      standAt pos'
      holding [v, ov, iv] (setItem ov iv v)
      release [v, ov, iv] []) := by intro _; rfl) : DS X E J (.Assign [.Subscript o k pos'] e pos) (mPut i mv mk) := (ps_asg he (pg_sub ho hk (set_any hu) ha) hs hw h1).imp fun D σ H ⟨F, ρ, φ, e, q⟩ => by
  refine ⟨F, ρ, φ, e, ?_⟩
  unfold mPut at q
  cases hm : mv ρ with
  | bad => rw [hm] at q; exact q.elim
  | err x ρ' => rw [hm] at q; exact q.err
  | ok y ρ1 =>
    rw [hm] at q
    dsimp only at q
    intro F1 H1 φ1 vy f e1 r1 d1 x1
    cases hq : qName i ρ1 with
    | none => rw [hq] at q; exact q.elim
    | some m0 =>
      rw [hq] at q
      dsimp only at q
      obtain ⟨v, hv, _⟩ := e1.rep i m0 (qName_some hq)
      refine ⟨v, hv, F1, ρ1, φ1, e1, ?_⟩
      cases hmk : mk ρ1 with
      | bad => rw [hmk] at q; exact q.elim
      | err x ρ' => rw [hmk] at q; exact q.err.next x1.drop
      | ok kx ρ2 =>
        rw [hmk] at q
        dsimp only at q
        intro F2 H2 φ2 vk fk e2 r2 d2 x2
        cases hz : kx.frz with
        | none => rw [hz] at q; exact q.elim
        | some d =>
          cases hq2 : qName i ρ2 with
          | none => rw [hz, hq2] at q; exact q.elim
          | some m =>
            rw [hz, hq2] at q
            dsimp only at q
            cases hp : m.put d y with
            | none => rw [hp] at q; exact q.elim
            | some m' =>
              rw [hp] at q
              obtain ⟨r1', d1'⟩ := r1.ext x2 d1
              -- the key is frozen
              have hn : ∀ a ∈ fk, F2 a = none := fun a ha => (r2.fp a ha).2
              have e3 := e2.freeze d2 hn
              have x3 := x2.freeze hn
              have rk := r2.frozen hz
              have hff : ∀ a ∈ f, a ∉ fk := fun a ha hb => d1' a ha (.inr hb)
              have rv : Rep X.K (fz F2 H2 fk) H2 vy y f := r1'.keep (.of (fz_mono hn)) (fun _ _ _ h => h) fun a ha => by
                unfold fz; rw [if_neg (hff a ha)]; exact (r1'.fp a ha).2
              obtain ⟨v2, hv2, rm⟩ := e3.rep i m (qName_some hq2)
              rw [hv] at hv2; cases hv2
              have dm : ∀ a ∈ f, a ∉ φ2 i := fun a ha hb => d1' a ha (.inl ⟨i, hb⟩)
              obtain ⟨c, ob, fp', g1, g2, g3, g4⟩ := rep_put e3.sub rm rk rv dm hp
              refine g4 _ ?_
              have e4 := e3.mut (qName_some hq2) hv g1 g3 fun a ha => (g2 a ha).imp id fun h z => d1' a h (.inl z)
              have xx : Ext F H (Om φ) (fz F2 H2 fk) H2 (fun a => Om φ2 a ∨ a ∈ f) := x1.tmp r1.fp d1 x3
              refine q _ _ _ σ e4 ((xx.upd (D := c) (.inl ⟨i, g1⟩)).less fun a h => ?_) .refl
              rcases om_mut h with h | h
              · exact .inl h
              · exact (g2 a h).imp (fun h => ⟨i, h⟩) id
theorem ds_append (he : DE X E e mv) (ho : PE X o (tVar i)) (hs : swapsWith (.Call (.Attribute o "append" apos) [e] [] pos) none pos'.line X.env = pure false := by rfl)
    (hbase : attributeBase o "append" X.env (eval o X.env) = eval o X.env := by rfl)
    (hfew : ((backTo pos (starEach [e] X.env)).all (fun x => !x.1) && (backToKw pos (keywordEach [] X.env)).all (fun x => x.1.isSome)
      && decide ([e].length + ([] : List Keyword).length + (if ([] : List Keyword).isEmpty then 0 else 1) < 30)) = true := by rfl)
    (hline : (apos.endLine == pos.line) = true := by rfl) (hst : starEach [e] X.env = (false, eval e X.env) :: starEach [] X.env := by rfl) (hplain : (backTo pos (starEach [] X.env)).any (·.1) = false := by rfl) :
    DS X E J (.Expr (.Call (.Attribute o "append" apos) [e] [] pos) pos') (mAppend i mv) :=
  (ps_expr (pe_bm PySem.F.plainAttrs_list PySem.F.slot_list_append PySem.F.type_list_append mt_append ho (pa_cons he pa_nil hst) hbase hfew hline hst hplain) hs).imp fun D σ H ⟨F, ρ, φ, e, q⟩ => by
    unfold mAppend at q
    split at q
    · rename_i ms0 hq
      obtain ⟨v, hv, r0⟩ := e.rep i _ (qName_some hq)
      refine ⟨v, hv, ?_, F, ρ, φ, e, ?_⟩
      · generalize φ i = fi at r0
        cases r0 with | lst h1 h2 h3 h4 => exact .inl ⟨rfl, _, .of (h1)⟩
      · cases hm : mv ρ with
        | bad => rw [hm] at q; exact q.elim
        | err x ρ' => rw [hm] at q; exact q.err
        | ok y ρ1 =>
          rw [hm] at q
          dsimp only at q
          intro F1 H1 φ1 vy f e1 r1 d1 x1
          split at q
          · rename_i ms hq2
            split at q
            · rename_i hz
              obtain ⟨v2, hv2, rm⟩ := e1.rep i _ (qName_some hq2)
              rw [hv] at hv2; cases hv2
              have dm : ∀ a ∈ f, a ∉ φ1 i := fun a ha hb => d1 a ha ⟨i, hb⟩
              generalize hφ : φ1 i = fi at rm dm
              cases rm with
              | lst h1 h2 h3 h4 =>
                rename_i a vs fs
                have ha : a ∉ f := fun z => dm a z (by simp)
                refine ⟨a, vs, vy, rfl, rfl, h1, by rw [h3.len, sizeLine_eq]; exact hz, ?_⟩
                have g3 : Rep X.K F1 (L2.upd H1 a (.lst (vs ++ [vy]))) (.ref a) (.lst (ms ++ [y])) (a :: (fs ++ f)) := .lst upd_same h2 ((h3.updN h4).snoc (r1.updN ha) fun b hb z => dm b hb (by simp [z])) (by simp [h4, ha])
                have hc : a ∈ φ1 i := by rw [hφ]; simp
                have e4 := e1.mut (qName_some hq2) hv hc g3 fun b hb => by
                  rw [hφ]
                  rcases List.mem_cons.mp hb with rfl | hb
                  · exact .inl (by simp)
                  · rcases List.mem_append.mp hb with hb | hb
                    · exact .inl (by simp [hb])
                    · exact .inr (d1 b hb)
                refine q _ _ _ σ e4 ((x1.upd (D := a) (.inl ⟨i, hc⟩)).less fun b h => ?_) .refl
                rcases om_mut h with h | h
                · exact .inl h
                · rcases List.mem_cons.mp h with rfl | h
                  · exact .inl ⟨i, hc⟩
                  · rcases List.mem_append.mp h with h | h
                    · exact .inl ⟨i, by rw [hφ]; simp [h]⟩
                    · exact .inr h
            · exact q.elim
          · exact q.elim
    · exact q.elim
end
end G
namespace G
open PySem PySem.Spec PyProof.Rows L2

/-! ### sorted of whatever is gathered -/
theorem sorted_from {X : Cx} (hu : X.A.units + 64 < cLine) {pins : List (Addr × Obj)} {σ : L2.St} {H : Hp} {s : Shared} {u : Value} {Q : VK}
    (h : wpAny (model X.prog X.w) X.A.in1 (collect u) (fun vs s1 => ∃ ds G, Inv X pins σ H s1 ∧ Sub G H ∧ PySem.W.EachIs (fun u d => ∃ x, RelV x u ∧ IsD X.K G d x) vs ds ∧ sortOk ds = true ∧
      ∀ p ws, H p = none → IsDs X.K G (sortD ds) ws → Q (.ref p) (L2.upd H p (.lst ws))) X.xe s) :
    wpAny (model X.prog X.w) X.A (call (.builtin "sorted") [u]) (fun v s1 => ∃ x H1, Inv X pins σ H1 s1 ∧ RelV x v ∧ Q x H1) X.xe s := by
  refine Calls.call_function_entry PyProof.Rows.kind_sorted PyProof.Rows.plain_sorted PyProof.Rows.entry_sorted (PyProof.Rows.args_sorted1 _) ?_
  unfold Builtin.«sorted»
  refine wpAny_bind (m := checkCount "sorted" 1 1 _) (wpAny_pure ?_)
  refine wpAny_bind (thn h fun vs s1 ⟨ds, G, I1, hG, e, ok, q⟩ => ?_)
  obtain ⟨o1, o2, o3, o4⟩ := sortOk_spec ok
  have hl : vs.length ≤ sizeLine := by rw [e.length]; exact o4
  refine wpAny_bind (wpAny_newList ?_ hl)
  have at0 : (s1.heap.push (seqObj "list" vs.toArray 0)).get? s1.heap.objs.size = some (seqObj "list" vs.toArray 0) := Heap.get?_push_size _ rfl
  have keep0 : ∀ b o, s1.heap.get? b = some o → (s1.heap.push (seqObj "list" vs.toArray 0)).get? b = some o := fun b o e => Heap.get?_push_of_some _ e
  have er : PySem.W.EachIs (fun v d => ∃ as, Reads (s1.heap.push (seqObj "list" vs.toArray 0)) v (id d) as ∧ s1.heap.objs.size ∉ as) vs ds := by
    refine (each_reads I1 hG (fun d hd => (o1 d hd).1) e).mono fun v d ⟨as, r⟩ => ⟨as, PyProof.Rows.Reads.keeps keep0 r, fun hm => ?_⟩
    obtain ⟨o, ho⟩ := PyProof.On.reads_mem_get r _ hm
    exact absurd (Heap.lt_size ho) (Nat.lt_irrefl _)
  refine wpAny_bind (wpAny_holding (PySem.W.list_sort_data (enc := id) (s := { s1 with heap := s1.heap.push (seqObj "list" vs.toArray 0) }) at0 e er (by rw [List.map_id]; exact o2) (by rw [List.map_id]; exact o3) o4 (fun d hd => ?_) fun out ho eo => ?_))
  · have := (o1 d hd).2
    show X.A.units + 1 + 1 + d.depth < cLine
    omega
  · obtain ⟨ws, w1, w2⟩ := of_each eo
    obtain ⟨c, hc⟩ := PyProof.Rows.sortedHeap_at (vs := vs) (out := List.toArray out) at0
    have hfresh : H s1.heap.objs.size = none := I1.hok.fresh (Nat.le_refl _)
    have hlw : ws.length ≤ sizeLine := by rw [w1.length, ho]; exact o4
    refine wpAny_pure ⟨_, rfl, .ref s1.heap.objs.size, _, I1.laid (t' := s1.toks) (fun b o e => ?_) (Nat.le_refl _) (show ObjOk X.prog X.w _ _ _ (.lst ws) from ⟨hlw, out, c, w1, hc⟩), rfl, q _ ws hfresh w2⟩
    have hb := Heap.lt_size e
    rw [PyProof.Rows.sortedHeap_old (Nat.ne_of_lt hb) (by rw [size_push']; exact Nat.lt_succ_of_lt hb)]
    exact keep0 b o e

/-! ### a set of keys of one kind, its members in any order -/
section
variable {P : Program} {w : World} {κ : Type} [DecidableEq κ] (knd : PySem.KeyKind P w κ) (kf : Value → κ)
/-- the set at a holds just the keys ks; its table can be walked -/
def SetG (h : Heap) (a : Addr) (ks : List κ) : Prop :=
  ∃ o es ep t, h.get? a = some o ∧ o.ExactSet ∧ o.data = .set es ep t ∧ ElemsOf knd es.toList ∧ (es.toList.map fun e => kf e.2).Perm ks ∧ ks.Nodup ∧
    es.size < scanBound ∧ t.fits es.size = true ∧ Ris t.place.toList ∧ (w.params.followText "set-order" = true ∨ t.led = true)
def addK (ks : List κ) (k : κ) : List κ := if k ∈ ks then ks else k :: ks
end
section
variable {P : Program} {w : World} {κ : Type} [DecidableEq κ] {knd : PySem.KeyKind P w κ} {kf : Value → κ} {h h' : Heap} {a : Addr} {ks : List κ}
theorem SetG.at (R : SetG knd kf h a ks) (k : ∀ o, h.get? a = some o → h'.get? a = some o) : SetG knd kf h' a ks :=
  let ⟨o, es, ep, t, ho, r⟩ := R; ⟨o, es, ep, t, k o ho, r⟩
theorem setG_is (hk : ∀ k v, knd.is k v = true → kf v = k) {l : List (Int × Value)} (g : ElemsOf knd l) {e : Int × Value} (he : e ∈ l) (k : κ) : knd.is k e.2 = true ↔ kf e.2 = k := by
  obtain ⟨⟨k0, h0, _⟩, _⟩ := g e he
  constructor
  · exact hk k e.2
  · intro z
    have := hk _ _ h0
    rw [← z, this]
    exact h0
theorem setG_fresh {g : Heap} (b : Addr) (hb : g.get? b = some { cls := .type "set", dict := none, data := .set #[] 0 (.fresh 0 0 (!w.params.followText "set-order")) }) : SetG knd kf g b [] :=
  ⟨_, #[], 0, _, hb, ⟨rfl, rfl, rfl⟩, rfl, (fun e he => by simp at he), (by simp), List.nodup_nil, (by decide), (by rfl), List.Pairwise.nil, by
    show _ ∨ (!w.params.followText "set-order") = true
    cases w.params.followText "set-order" <;> simp⟩
end
section
variable {P : Program} {w : World} {A : Around} {E : Value → Shared → Prop} {s : Shared} {a : Addr} {κ : Type} [DecidableEq κ] {knd : PySem.KeyKind P w κ} {kf : Value → κ}
theorem setG_store {g : Bool → Sem Unit} (hg : ∀ (b : Bool) (s₁ : Shared) (Q' : Unit → Shared → Prop), Q' () s₁ → wpAny (model P w) A (g b) Q' E s₁)
    {o : Obj} {es es1 : Array (Int × Value)} {ep : Nat} {t t2 : SetTable} {ks : List κ} (ho : s.heap.get? a = some o) (hex : o.ExactSet) (hd : o.data = .set es ep t) (g1 : ElemsOf knd es1.toList) (p1 : (es1.toList.map fun e => kf e.2).Perm ks) (nd : ks.Nodup)
    (hb1 : es1.size < scanBound) (hf2 : t2.fits es1.size = true) (hr : Ris t2.place.toList) (hl : w.params.followText "set-order" = true ∨ t2.led = true) {wasDummy : Bool} {R : Option Bool → Shared → Prop}
    (hR : ∀ h', Heap.SameBut a s.heap h' → SetG knd kf h' a ks → R (some true) { s with heap := h' }) :
    wpAny (model P w) A (do
        storeSet a es1 t2
        if (!wasDummy && t2.tooFull) = true then do
            g (relayAll t2 es1 (SetTable.grown es1.size)).2.2
            storeSet a (relayAll t2 es1 (SetTable.grown es1.size)).1 (relayAll t2 es1 (SetTable.grown es1.size)).2.1
            pure (some true)
          else pure (some true)) R E s := by
  have o1 := store_at (es' := es1) (t' := t2) ho hd
  have sb := Heap.SameBut.update s.heap a (Obj.putSet es1 t2)
  refine wpAny_bind (wpAny_storeSet_of ho hd ?_ (fits_of_scanBound hb1))
  split
  · have q1 := relayAll_perm t2 es1 (SetTable.grown es1.size)
    have q2 := relayAll_fits t2 es1 (SetTable.grown es1.size)
    have q3 := relayAll_ris t2 es1 (SetTable.grown es1.size)
    have q4 := relayAll_led t2 es1 (SetTable.grown es1.size)
    generalize relayAll t2 es1 (SetTable.grown es1.size) = Z at q1 q2 q3 q4 ⊢
    obtain ⟨es2, t3, gv⟩ := Z
    dsimp only at q1 q2 q3 q4 ⊢
    have hb2 : es2.size < scanBound := by rw [← Array.length_toList, q1.length_eq, Array.length_toList]; exact hb1
    refine wpAny_bind (hg _ _ _ ?_)
    refine wpAny_bind (wpAny_storeSet_of o1 rfl ?_ (fits_of_scanBound hb2))
    have o2 := store_at (es' := es2) (t' := t3) o1 rfl
    exact wpAny_pure (hR _ (sb.trans (Heap.SameBut.update _ a _)) ⟨_, es2, _, t3, o2, hex, rfl, fun e he => g1 e (q1.mem_iff.mp he), (q1.map _).trans p1, nd, hb2, q2, q3, hl.imp id fun z => by rw [q4]; exact z⟩)
  · exact wpAny_pure (hR _ sb ⟨_, es1, _, t2, o1, hex, rfl, g1, p1, nd, hb1, hf2, hr, hl⟩)
theorem setG_add (hk : ∀ k v, knd.is k v = true → kf v = k) {ks : List κ} {k : κ} {x : Value} {Q : Bool → Shared → Prop} (R : SetG knd kf s.heap a ks) (room : ks.length + 1 < scanBound) (hx : knd.is k x = true) (hsc : x.scannable = true)
    (hQ : ∀ b h', Heap.SameBut a s.heap h' → SetG knd kf h' a (addK ks k) → Q b { s with heap := h' }) :
    wpAny (model P w) A (setAddHashed a x (knd.hash k)) Q E s := by
  obtain ⟨o, es, ep, t, ho, hex, hd, g, pm, nd, hb, hf, hr, hl⟩ := R
  unfold setAddHashed setAddHashedIn
  refine wpAny_holding (wpAny_bind (wpAny_setState_of ho hd hf ?_))
  dsimp only
  rw [byScan_of hsc hb g]
  simp only [↓reduceIte]
  unfold setAddByScan
  refine wpAny_bind ?_
  refine wpAny_bind (wpAny_rule ?_)
  refine wpAny_bind (wpAny_setScan_of hx ho hd hf g ?_)
  cases hfi : List.findIdx? (fun e => knd.is k e.2) es.toList with
  | some j =>
    dsimp only
    obtain ⟨hj, pj, _⟩ := List.findIdx?_eq_some_iff_getElem.mp hfi
    have hm : k ∈ ks := pm.mem_iff.mp (List.mem_map.mpr ⟨_, List.getElem_mem hj, hk _ _ pj⟩)
    refine wpAny_pure (wpAny_pure (hQ _ s.heap (Heap.SameBut.refl a s.heap) ?_))
    unfold addK
    rw [if_pos hm]
    exact ⟨o, es, ep, t, ho, hex, hd, g, pm, nd, hb, hf, hr, hl⟩
  | none =>
    dsimp only
    have hn : k ∉ ks := fun z => by
      obtain ⟨e, he, q⟩ := List.mem_map.mp (pm.mem_iff.mpr z)
      have c := List.findIdx?_eq_none_iff.mp hfi e he
      rw [(setG_is hk g he k).mpr q] at c
      cases c
    have hgw : ∀ (b : Bool) {s₁ : Shared} {Q' : Unit → Shared → Prop}, Q' () s₁ → wpAny (model P w) A (match b with | true => rule "set.scan.the-table-gave-way" | false => pure ()) Q' E s₁ :=
      fun b s₁ Q' q => by cases b <;> first | exact wpAny_pure q | exact wpAny_rule q
    have q1 := layNew_perm t es (knd.hash k) x
    have q2 := layNew_fits t es (knd.hash k) x
    have q3 := layNew_ris t es (knd.hash k) x hr
    have q4 := layNew_led t es (knd.hash k) x
    generalize layNew t es (knd.hash k) x = Z at q1 q2 q3 q4 ⊢
    obtain ⟨es1, t1, wd, gv⟩ := Z
    dsimp only at q1 q2 q3 q4 ⊢
    rw [Array.toList_push] at q1
    have pc : es1.toList.Perm ((knd.hash k, x) :: es.toList) := q1.trans (List.perm_append_singleton _ _)
    have g1 : ElemsOf knd es1.toList := fun e he => by
      rcases List.mem_cons.mp (pc.mem_iff.mp he) with z | z
      · rw [z]; exact ⟨⟨k, hx, rfl⟩, hsc⟩
      · exact g e z
    have p1 : (es1.toList.map fun e => kf e.2).Perm (addK ks k) := by
      unfold addK
      rw [if_neg hn]
      have := pc.map fun e => kf e.2
      rw [List.map_cons, hk _ _ hx] at this
      exact this.trans (pm.cons k)
    have nd1 : (addK ks k).Nodup := by unfold addK; rw [if_neg hn]; exact List.nodup_cons.mpr ⟨hn, nd⟩
    have hsz : es1.size = ks.length + 1 := by
      rw [← Array.length_toList, pc.length_eq, List.length_cons, ← pm.length_eq, List.length_map]
    have hb1 : es1.size < scanBound := by rw [hsz]; exact room
    have hled : w.params.followText "set-order" = true ∨ t1.led = true := hl.imp id fun z => by rw [q4]; exact z
    refine wpAny_bind (hgw _ ?_)
    split
    · refine wpAny_bind ?_
      rw [hashByValue_scannable 8 hsc]
      refine wpAny_pure ?_
      refine setG_store ?_ ho hex hd g1 p1 nd1 hb1 ?_ ?_ ?_ ?_
      · intro b s₁ Q' q; cases b <;> first | exact wpAny_pure q | exact wpAny_rule q
      · first | (split <;> first | exact q2 | exact SetTable.fits_plain_off q2) | exact q2
      · first | (split <;> exact q3) | exact q3
      · first | (split <;> exact hled) | exact hled
      · intro h' sb r; dsimp only; exact wpAny_pure (hQ _ h' sb r)
    · refine wpAny_bind (wpAny_pure ?_)
      simp only [↓reduceIte]
      refine setG_store ?_ ho hex hd g1 p1 nd1 hb1 q2 q3 hled ?_
      · intro b s₁ Q' q; cases b <;> first | exact wpAny_pure q | exact wpAny_rule q
      · intro h' sb r; dsimp only; exact wpAny_pure (hQ _ h' sb r)
def addAll (ks : List κ) (l : List κ) : List κ := l.foldl addK ks
theorem addK_len (ks : List κ) (k : κ) : (addK ks k).length ≤ ks.length + 1 := by unfold addK; split <;> simp
theorem addAll_mem (l : List κ) : ∀ (ks : List κ) (k : κ), k ∈ addAll ks l ↔ k ∈ ks ∨ k ∈ l := by
  induction l with
  | nil => intro ks k; simp [addAll]
  | cons x l ih =>
    intro ks k
    have := ih (addK ks x) k
    unfold addAll at this ⊢
    rw [List.foldl_cons, this]
    unfold addK
    split
    · rename_i h
      constructor
      · rintro (z | z)
        · exact .inl z
        · exact .inr (List.mem_cons_of_mem _ z)
      · rintro (z | z)
        · exact .inl z
        · rcases List.mem_cons.mp z with rfl | z
          · exact .inl h
          · exact .inr z
    · simp only [List.mem_cons]
      constructor
      · rintro ((z | z) | z)
        · exact .inr (.inl z)
        · exact .inl z
        · exact .inr (.inr z)
      · rintro (z | z | z)
        · exact .inl (.inr z)
        · exact .inl (.inl z)
        · exact .inr z
theorem set_update_G (hk : ∀ k v, knd.is k v = true → kf v = k) {I : Addr} {fp wr : List Addr} {G : Array GenState → Array GenState → Prop} {n : Nat} {Pv : Nat → Value → Prop} {St : Nat → Shared → Prop} {R : Result → Shared → Prop}
    (W : WalksS P w A.in1 I fp wr G n Pv St) (S : Addr) (hSf : S ∉ fp) (l : List κ) (hn : n = l.length) (hb : l.length + 1 < scanBound) (hval : ∀ i v, Pv i v → ∃ k, l[i]? = some k ∧ knd.is k v = true ∧ v.scannable = true) :
    ∀ (m i : Nat) (s : Shared), n - i = m → i ≤ n → St i s → (∃ ks, ks.length ≤ i ∧ SetG knd kf s.heap S ks ∧ addAll ks (l.drop i) = addAll [] l) →
      (∀ s', Moved (S :: wr) G s s' → SetG knd kf s'.heap S (addAll [] l) → R (.ok (.ret .none)) s') →
      codeAny (model P w) A (.builtin "set.update.loop" ⟨[.ref S, .ref I], []⟩) R s := by
  have hSw : S ∉ wr := fun h => hSf (W.sub _ h)
  have hsub : ∀ b ∈ wr, b ∈ S :: wr := fun b hb => List.mem_cons_of_mem _ hb
  intro m
  induction m with
  | zero =>
    intro i s hm hi hst ⟨ks, hc, hS, ek⟩ hR
    have hin : i = n := by omega
    subst hin
    refine codeAny_builtin PyProof.Rows.F.entry_set_update_loop ?_
    rw [Around.under_plainId PyProof.Rows.F.plain_set_update_loop _]
    show wpAny _ A.in1 (pyNext (.ref I) >>= _) _ _ s
    refine wpAny_bind (W.done s _ _ hst fun s' hm' => ?_)
    show wpAny _ A.in1 (ret Value.none) _ _ s'
    rw [hn, List.drop_length] at ek
    have ek' : ks = addAll [] l := ek
    rw [ek'] at hS
    exact wpAny_pure (hR s' (hm'.mono hsub) (hS.at fun o e => hm'.heap S o hSw e))
  | succ m ih =>
    intro i s hm hi hst ⟨ks, hc, hS, ek⟩ hR
    have hlt : i < n := by omega
    refine codeAny_builtin PyProof.Rows.F.entry_set_update_loop ?_
    rw [Around.under_plainId PyProof.Rows.F.plain_set_update_loop _]
    show wpAny _ A.in1 (pyNext (.ref I) >>= _) _ _ s
    refine wpAny_bind (W.item i s _ _ hlt hst fun v s' hP hst' hm' => ?_)
    obtain ⟨k, hz, hx, hsc⟩ := hval i v hP
    have hS' : SetG knd kf s'.heap S ks := hS.at fun o e => hm'.heap S o hSw e
    show wpAny _ A.in1 (holding [v] (setAdd S v) >>= _) _ _ s'
    refine wpAny_bind (wpAny_holding ?_)
    unfold setAdd
    refine wpAny_holding ?_
    refine wpAny_bind (knd.pyHash hx ?_)
    refine setG_add hk (s := { s' with toks := s'.toks + 1 }) hS' (by omega) hx hsc fun b h' hsb hS2 => ?_
    have hd : l.drop i = k :: l.drop (i + 1) := by
      obtain ⟨h1, h2⟩ := List.getElem?_eq_some_iff.mp hz
      rw [List.drop_eq_getElem_cons h1, h2]
    have ek2 : addAll (addK ks k) (l.drop (i + 1)) = addAll [] l := by
      rw [← ek, hd]; rfl
    refine wpAny_pure ⟨plainId_quiet PyProof.Rows.F.plain_set_update_loop _, ih (i + 1) _ (by omega) hlt (W.frame _ s' _ _ hst' (Nat.le_succ _) fun b hb o e => ?_) ⟨_, Nat.le_trans (addK_len _ _) (Nat.succ_le_succ hc), hS2, ek2⟩ fun s'' hm'' hS'' => ?_⟩
    · rw [hsb.2 b (fun h : b = S => hSf (by rw [← h]; exact hb))]; exact e
    · refine hR s'' (Moved.trans W.gtrans ((hm'.mono hsub).then_heap (Nat.le_succ _) fun b o hb e => ?_) hm'') hS''
      rw [hsb.2 b (fun h : b = S => hb (by rw [h]; exact List.mem_cons_self))]; exact e
end
end G
namespace G
open PySem PySem.Spec PyProof.Rows L2

/-! ### set(xs) of keys -/
def kOf : Value → Key
  | .int i _ => .inl i
  | .str x _ => .inr x
  | _ => .inl 0
theorem kOf_is (P : Program) (w : World) (k : Key) (v : Value) (h : (mixKind P w).is k v = true) : kOf v = k := by
  rcases keyIs_shape (show keyIs k v = true from h) with ⟨i, t, rfl, rfl⟩ | ⟨x, t, rfl, rfl⟩ <;> rfl
theorem key_is (P : Program) (w : World) {k : Key} {u : Value} (r : RelV (kV k) u) : (mixKind P w).is k u = true ∧ u.scannable = true := by
  cases k with
  | inl i => obtain ⟨t, rfl⟩ := (show ∃ t, u = Value.int i t from r); exact ⟨intKind_is P w i t, rfl⟩
  | inr x => obtain ⟨t, rfl⟩ := (show ∃ t, u = Value.str x t from r); exact ⟨strKind_is P w x t, rfl⟩
section
variable {P : Program} {w : World} {A : Around} {E : Value → Shared → Prop} {s : Shared}
/-- an empty set -/
abbrev set0 (w : World) : Obj := { cls := .type "set", dict := none, data := .set #[] 0 (.fresh 0 0 (!w.params.followText "set-order")) }
theorem call_setG_vals {ks : List Key} {items : Array Value} (hit : Vals (ks.map kV) items.toList) : items.size = ks.length ∧ ∀ (i : Nat) (v : Value), items[i]? = some v → ∃ k, ks[i]? = some k ∧ (mixKind P w).is k v = true ∧ v.scannable = true := by
  have hisz : items.size = ks.length := by
    have q : (ks.map kV).length = items.toList.length := Vals.length hit
    rw [List.length_map, Array.length_toList] at q
    exact q.symm
  refine ⟨hisz, fun i v hv => ?_⟩
  have hi : i < ks.length := by rw [← hisz]; exact (Array.getElem?_eq_some_iff.mp hv).1
  refine ⟨ks[i], List.getElem?_eq_getElem hi, key_is P w ?_⟩
  obtain ⟨u, hu, ru⟩ := Vals.get hit (i := i) (x := kV ks[i]) (by rw [List.getElem?_map, List.getElem?_eq_getElem hi]; rfl)
  rw [Array.getElem?_toList, hv] at hu
  cases hu
  exact ru
/-- what the walk of set.update leaves -/
theorem setG_moved {s s' : Shared} {I : Addr} {o : Obj} {S : Addr} {ks : List Key} (hS : S = s.heap.objs.size) (hI : I = (s.heap.push (set0 w)).objs.size)
    (hm : Moved (S :: [I]) (fun a b => b = a) { s with heap := (s.heap.push (set0 w)).push o } s') (hS' : SetG (mixKind P w) kOf s'.heap S ks) :
    ∃ h' tk, s' = { s with heap := h', toks := tk } ∧ SetG (mixKind P w) kOf h' s.heap.objs.size ks ∧ (∀ b o, s.heap.get? b = some o → h'.get? b = some o) := by
  obtain ⟨h', g2, d', tk', os'⟩ := s'
  have eg : g2 = s.gens := hm.gens
  have ed : d' = s.drawn := hm.drawn
  have eo : os' = s.os := hm.os
  subst eg; subst ed; subst eo
  refine ⟨h', tk', rfl, by rw [← hS]; exact hS', fun b o e => ?_⟩
  have hb0 : b < s.heap.objs.size := Heap.lt_size e
  refine hm.heap b o ?_ (Heap.get?_push_of_some _ (Heap.get?_push_of_some _ e))
  rw [hS, hI, Heap.size_push]
  simp only [List.mem_cons, List.not_mem_nil, or_false, not_or]
  exact ⟨Nat.ne_of_lt hb0, Nat.ne_of_lt (Nat.lt_succ_of_lt hb0)⟩
set_option maxHeartbeats 3200000 in
theorem init_setT {l : Addr} {items : Array Value} (ks : List Key) (hh : A.handled = none) (hl : s.heap.IsTuple l items) (hit : Vals (ks.map kV) items.toList) (hb : ks.length + 1 < scanBound) {R : PySem.Fin → Shared → Prop}
    (h : ∀ (h' : Heap) (tk : Nat), SetG (mixKind P w) kOf h' s.heap.objs.size (addAll [] ks) → (∀ b o, s.heap.get? b = some o → h'.get? b = some o) → R (.done (.ret .none)) { s with heap := h', toks := tk }) :
    wpAny (model P w) A (Builtin.«set.__init__» ⟨[.ref s.heap.objs.size, .ref l], []⟩) R E { s with heap := s.heap.push (set0 w) } := by
  have hlS : l < s.heap.objs.size := let ⟨o, e, _⟩ := hl; Heap.lt_size e
  obtain ⟨ol, hol, hcl, nl, hdl⟩ := hl
  obtain ⟨ocls, odict, odata, oslots⟩ := ol
  simp only at hcl hdl
  subst hcl; subst hdl
  have hol' : (s.heap.push (set0 w)).get? l = some { cls := .type "tuple", dict := odict, data := .seq items nl, slots := oslots } := Heap.get?_push_of_some _ hol
  have hsls := F.sub_tuple_set
  have hslf := F.sub_tuple_frozenset
  have hne : (Value.type "tuple" == Value.type "dict") = false := by decide
  have hl1 : (s.heap.push (set0 w)).IsTuple l items := ⟨_, hol', rfl, nl, rfl⟩
  unfold Builtin.«set.__init__» noKeywords Builtin.Frozenset.updateFrom
  generalize hPI : pyIter = PI
  wp_walk
  subst hPI
  refine wpAny_pyIter_tuple hl1 ?_
  refine wpAny_bind (wpAny_runValue ?_)
  obtain ⟨hisz, hval⟩ := call_setG_vals (P := P) (w := w) hit
  have hneI : l ≠ (s.heap.push (set0 w)).objs.size := by
    rw [Heap.size_push]; exact Nat.ne_of_lt (Nat.lt_succ_of_lt hlS)
  have hSf : s.heap.objs.size ∉ [(s.heap.push (set0 w)).objs.size, l] := by
    rw [Heap.size_push]; simp only [List.mem_cons, List.mem_singleton, List.not_mem_nil, or_false, not_or]
    exact ⟨Nat.ne_of_lt (Nat.lt_succ_self _), Nat.ne_of_gt hlS⟩
  have hget : ((s.heap.push (set0 w)).push { cls := .type "tuple_iterator", data := .fields #[.ref l, .int 0 0] }).get? s.heap.objs.size = some (set0 w) := Heap.get?_push_of_some _ (Heap.get?_push_size _ rfl)
  refine set_update_G (kOf_is P w) ((Walks.tuple (by simp [hh]) _ l hneI items).toS) s.heap.objs.size hSf ks hisz hb hval (items.size - 0) 0 _ (by omega) (Nat.zero_le _)
    ⟨⟨_, Heap.get?_push_size _ rfl, rfl, rfl⟩, (hl1.push _)⟩ ⟨[], Nat.le_refl _, setG_fresh _ hget, rfl⟩ fun s' hm hS' => ?_
  obtain ⟨h', tk, e, a1, a2⟩ := setG_moved rfl rfl hm hS'
  subst e
  refine wpAny_pure ?_
  show wpAny _ _ (ret Value.none) _ _ _
  exact wpAny_pure (h h' tk a1 a2)
set_option maxHeartbeats 3200000 in
theorem init_setL {l : Addr} {items : Array Value} (ks : List Key) (hh : A.handled = none) (hl : s.heap.IsList l items) (hit : Vals (ks.map kV) items.toList) (hb : ks.length + 1 < scanBound) {R : PySem.Fin → Shared → Prop}
    (h : ∀ (h' : Heap) (tk : Nat), SetG (mixKind P w) kOf h' s.heap.objs.size (addAll [] ks) → (∀ b o, s.heap.get? b = some o → h'.get? b = some o) → R (.done (.ret .none)) { s with heap := h', toks := tk }) :
    wpAny (model P w) A (Builtin.«set.__init__» ⟨[.ref s.heap.objs.size, .ref l], []⟩) R E { s with heap := s.heap.push (set0 w) } := by
  have hlS : l < s.heap.objs.size := let ⟨o, e, _⟩ := hl; Heap.lt_size e
  obtain ⟨ol, hol, hcl, nl, hdl⟩ := hl
  obtain ⟨ocls, odict, odata, oslots⟩ := ol
  simp only at hcl hdl
  subst hcl; subst hdl
  have hol' : (s.heap.push (set0 w)).get? l = some { cls := .type "list", dict := odict, data := .seq items nl, slots := oslots } := Heap.get?_push_of_some _ hol
  have hsls := F.sub_list_set
  have hslf := F.sub_list_frozenset
  have hne : (Value.type "list" == Value.type "dict") = false := by decide
  have hl1 : (s.heap.push (set0 w)).IsList l items := ⟨_, hol', rfl, nl, rfl⟩
  unfold Builtin.«set.__init__» noKeywords Builtin.Frozenset.updateFrom
  generalize hPI : pyIter = PI
  wp_walk
  subst hPI
  refine wpAny_pyIter_list hl1 ?_
  refine wpAny_bind (wpAny_runValue ?_)
  obtain ⟨hisz, hval⟩ := call_setG_vals (P := P) (w := w) hit
  have hneI : l ≠ (s.heap.push (set0 w)).objs.size := by
    rw [Heap.size_push]; exact Nat.ne_of_lt (Nat.lt_succ_of_lt hlS)
  have hSf : s.heap.objs.size ∉ [(s.heap.push (set0 w)).objs.size, l] := by
    rw [Heap.size_push]; simp only [List.mem_cons, List.mem_singleton, List.not_mem_nil, or_false, not_or]
    exact ⟨Nat.ne_of_lt (Nat.lt_succ_self _), Nat.ne_of_gt hlS⟩
  have hget : ((s.heap.push (set0 w)).push { cls := .type "list_iterator", data := .fields #[.ref l, .int 0 0] }).get? s.heap.objs.size = some (set0 w) := Heap.get?_push_of_some _ (Heap.get?_push_size _ rfl)
  refine set_update_G (kOf_is P w) ((Walks.list (by simp [hh]) _ l hneI items).toS) s.heap.objs.size hSf ks hisz hb hval (items.size - 0) 0 _ (by omega) (Nat.zero_le _)
    ⟨⟨_, Heap.get?_push_size _ rfl, rfl, rfl⟩, (hl1.push _)⟩ ⟨[], Nat.le_refl _, setG_fresh _ hget, rfl⟩ fun s' hm hS' => ?_
  obtain ⟨h', tk, e, a1, a2⟩ := setG_moved rfl rfl hm hS'
  subst e
  refine wpAny_pure ?_
  show wpAny _ _ (ret Value.none) _ _ _
  exact wpAny_pure (h h' tk a1 a2)
set_option maxHeartbeats 3200000 in
theorem call_setG (isT : Bool) {l : Addr} {items : Array Value} (ks : List Key) {Q : Value → Shared → Prop} (hh : A.handled = none) (hl : IsSeqA isT s.heap l items) (hit : Vals (ks.map kV) items.toList) (hb : ks.length + 1 < scanBound)
    (h : ∀ (h' : Heap) (tk : Nat), SetG (mixKind P w) kOf h' s.heap.objs.size (addAll [] ks) → (∀ b o, s.heap.get? b = some o → h'.get? b = some o) → Q (.ref s.heap.objs.size) { s with heap := h', toks := tk }) :
    wpAny (model P w) A (call (.type "set") [.ref l]) Q E s := by
  obtain ⟨c, tl, hmro⟩ := F.called_set.mro
  have hmade := F.called_set.made
  have hsub := F.called_set.sub
  refine wpAny_call (codeAny_of_tree ?_)
  show wpAny _ _ (callAny (.type "set") _) _ _ _
  refine wpAny_pure ⟨Code.quiet_builtin _ (by decide +kernel), codeAny_builtin F.entry_type_call ?_⟩
  rw [Around.under_plain (weight_type_call_type "set" [.ref l] []) rfl]
  have h1 := F.called_set.notType
  have h2 := F.called_set.canCreate
  have hct := F.typeCall_set_1 (.ref l)
  repeat (any_goals (first | assumption | wp_step))
  refine codeAny_mono (code_set_led1 (.ref l) (E := E) (Q₁ := fun obj s₁ => obj = .ref s.heap.objs.size ∧ s₁ = { s with heap := s.heap.push (set0 w) }) ⟨rfl, rfl⟩) fun r s₁ hr => ?_
  cases r with
  | error e => exact hr
  | ok fl =>
    cases fl with
    | ret obj =>
      obtain ⟨rfl, rfl⟩ := hr
      have hS : (s.heap.push (set0 w)).get? s.heap.objs.size = some (set0 w) := Heap.get?_push_size _ rfl
      have hT : Shared.TypeIs { s with heap := s.heap.push (set0 w) } (.ref s.heap.objs.size) "set" := ⟨_, hS, rfl⟩
      have hli := F.called_set.init.lookup
      have hbi := F.called_set.init.bind (.ref s.heap.objs.size)
      repeat (any_goals (first | assumption | wp_step))
      refine codeAny_mono (codeAny_call_builtin (R := wants (fun r s₂ => r = .none ∧ ∃ h' tk, s₂ = { s with heap := h', toks := tk } ∧ SetG (mixKind P w) kOf h' s.heap.objs.size (addAll [] ks) ∧
          (∀ b o, s.heap.get? b = some o → h'.get? b = some o)) E) F.called_set.init.plain F.entry_set_init (check_set_init_1 hT ?_)) fun r₂ s₂ hr₂ => ?_
      · cases isT with
        | true => exact init_setT ks (by simp [hh]) hl hit hb fun h' tk a b => ⟨rfl, h', tk, rfl, a, b⟩
        | false => exact init_setL ks (by simp [hh]) hl hit hb fun h' tk a b => ⟨rfl, h', tk, rfl, a, b⟩
      · cases r₂ with
        | error e => exact hr₂
        | ok fl₂ =>
          cases fl₂ with
          | ret r =>
            obtain ⟨rfl, h', tk, rfl, hS', hk'⟩ := hr₂
            repeat (any_goals (first | assumption | wp_step))
            exact h _ _ hS' hk'
          | _ => exact hr₂.elim
    | _ => exact hr.elim
end
end G
namespace G
open PySem PySem.Spec PyProof.Rows L2

/-! ### orders of keys -/
theorem le_total : PySem.W.TotalLe (PySem.W.dataLe false (id : PyData → PyData)) := PySem.W.sortLe_total _ _ _
theorem le_int (i j : Int) : PySem.W.dataLe false id (PyData.int i) (PyData.int j) = decide (i ≤ j) := congrFun (congrFun (PySem.W.dataLe_int fun b : Int => b) i) j
theorem le_str (x y : Str) : PySem.W.dataLe false id (PyData.str x) (PyData.str y) = decide (x.cps.toList ≤ y.cps.toList) := congrFun (congrFun (PySem.W.dataLe_str fun b : Str => b) x) y
theorem le_key_anti {k l : Key} (al : PySem.W.alike (keyD k) (keyD l) = true) (h1 : PySem.W.dataLe false id (keyD k) (keyD l) = true) (h2 : PySem.W.dataLe false id (keyD l) (keyD k) = true) : keyD k = keyD l := by
  cases k with
  | inl i =>
    cases l with
    | inl j =>
      simp only [keyD, le_int, decide_eq_true_eq] at h1 h2 ⊢
      rw [Int.le_antisymm h1 h2]
    | inr y => cases al
  | inr x =>
    cases l with
    | inl j => cases al
    | inr y =>
      simp only [keyD, le_str, decide_eq_true_eq] at h1 h2 ⊢
      have := List.le_antisymm h1 h2
      have e : x = y := by
        cases x; cases y
        simpa using this
      rw [e]
theorem sortOk_perm {ds es : List PyData} (p : ds.Perm es) (h : sortOk es = true) : sortOk ds = true := by
  unfold sortOk at h ⊢
  simp only [Bool.and_eq_true, decide_eq_true_eq, List.all_eq_true, Bool.or_eq_true] at h ⊢
  obtain ⟨⟨⟨h1, h2⟩, h3⟩, h4⟩ := h
  refine ⟨⟨⟨fun d hd => h1 d (p.mem_iff.mp hd), fun d hd e he => h2 d (p.mem_iff.mp hd) e (p.mem_iff.mp he)⟩, ?_⟩, by rw [p.length_eq]; exact h4⟩
  rcases h3 with h3 | h3
  · exact .inl fun d hd => h3 d (p.mem_iff.mp hd)
  · exact .inr fun d hd => h3 d (p.mem_iff.mp hd)
theorem sortD_perm {ks ls : List Key} (p : ks.Perm ls) (h : sortOk (ls.map keyD) = true) : sortD (ks.map keyD) = sortD (ls.map keyD) := by
  have al := (sortOk_spec h).2.1
  refine List.Perm.eq_of_pairwise (le := fun a b => PySem.W.dataLe false id a b = true) (fun a b ha hb h1 h2 => ?_) (PySem.W.sort_pairwise le_total _) (PySem.W.sort_pairwise le_total _)
    ((List.mergeSort_perm _ _).trans ((p.map _).trans (List.mergeSort_perm _ _).symm))
  have ha' := (p.map keyD).mem_iff.mp (List.mem_mergeSort.mp ha)
  have hb' := List.mem_mergeSort.mp hb
  obtain ⟨k, _, rfl⟩ := List.mem_map.mp ha'
  obtain ⟨l, _, rfl⟩ := List.mem_map.mp hb'
  exact le_key_anti (al _ ha' _ hb') h1 h2

/-! ### tuples are frozen late -/
def unT (F H : Hp) : Hp := fun a => match F a with
  | some o => some o
  | none => match H a with
    | some (.tup vs) => some (.tup vs)
    | _ => none
theorem Grow.unT {F H : Hp} (s : Sub F H) : Grow F H (unT F H) H [] := by
  refine ⟨fun a o e => by unfold G.unT; rw [e], fun a o e => ?_, fun _ _ e => e, fun a o e => ?_, fun a ha => by simp at ha⟩
  · unfold G.unT at e
    split at e
    · rename_i u hu; cases e; exact s _ _ hu
    · split at e
      · rename_i vs hv; cases e; exact hv
      · cases e
  · unfold G.unT at e
    split at e
    · rename_i u hu; cases e; exact .inl hu
    · split at e
      · rename_i vs hv; exact .inr (.inr ⟨vs, hv⟩)
      · cases e
theorem unT_tup {F H : Hp} (s : Sub F H) {a : Addr} {vs : List V} (h : H a = some (.tup vs)) : unT F H a = some (.tup vs) := by
  unfold unT
  cases e : F a with
  | none => simp [h]
  | some o => have := s _ _ e; rw [h] at this; cases this; rfl
theorem keys_isDs {K : Frag} {F : Hp} : ∀ (ks : List Key), IsDs K F (ks.map keyD) (ks.map kV)
  | [] => .nil
  | .inl i :: r => .cons (isD_int i) (keys_isDs r)
  | .inr x :: r => .cons (isD_str x) (keys_isDs r)
/-- what the items of a dict's walk are -/
theorem key_isD {K : Frag} {F : Hp} (k : Key) : IsD K F (keyD k) (kV k) := by
  cases k with
  | inl i => exact isD_int i
  | inr x => exact isD_str x
theorem keys_isD {K : Frag} {F : Hp} {k : List Key} {b : Addr} (h : F b = some (.tup (k.map kV))) : IsD K F (keysD k) (.ref b) := by
  unfold keysD IsD
  exact ⟨b, _, rfl, h, keys_isDs k⟩
theorem each_of_at {α β : Type} {R : α → β → Prop} : ∀ {us : List α} {ds : List β}, us.length = ds.length → (∀ (j : Nat) u d, us[j]? = some u → ds[j]? = some d → R u d) → PySem.W.EachIs R us ds
  | [], [], _, _ => .nil
  | u :: us, d :: ds, h, r => .cons (r 0 u d rfl rfl) (each_of_at (by simpa using h) fun j u d a b => r (j + 1) u d (by simpa using a) (by simpa using b))
  | [], _ :: _, h, _ => by simp at h
  | _ :: _, [], h, _ => by simp at h

/-! ### sorted of a dict's keys -/
def rSortK (K : Frag) : List V → Hp → VK → Prop := fun xs H Q => ∃ a ds, xs = [.ref a] ∧ ((∃ kvs : List (Key × V), Rd H a (.dK kvs) ∧ ds = kvs.map fun kv => keyD kv.1) ∨ (∃ kvs : List (List Key × V), Rd H a (.dT kvs) ∧ ds = kvs.map fun kv => keysD kv.1)) ∧
  sortOk ds = true ∧ ∀ G p ws, G = unT (fun _ => none) H → H p = none → IsDs K G (sortD ds) ws → Q (.ref p) (L2.upd H p (.lst ws))
theorem unT_sub (H : Hp) : Sub (unT (fun _ => none) H) H := fun a o e => (Grow.unT (F := fun _ => none) (H := H) (fun _ _ h => nomatch h)).sub a o e
theorem call_sortK {X : Cx} (hcalm : X.calm = true) (hu : X.A.units + 64 < cLine) : CallR X (.builtin "sorted") (rSortK X.K) := by
  intro pins s σ H xs us Q I r h
  obtain ⟨a, ds, rfl, hd, ok, q⟩ := h
  obtain ⟨u, rfl, rx⟩ := vals1 r
  cases rx
  refine sorted_from (H := H) hu ?_
  rcases hd with ⟨kvs, hr, rfl⟩ | ⟨kvs, hr, rfl⟩
  · obtain ⟨z, lo, vs, rel, dd⟩ := dk_rd I.hok hr
    obtain ⟨ep, hat⟩ := dd.dictAt
    have hl : vs.length = kvs.length := by
      have e := congrArg List.length rel.keys
      simpa using e.symm
    refine PySem.W.kdu_collect (A := X.A.in1) (PySem.W.kdl_dict (knd := mixKind X.prog X.w) (kvs := vs) (ep := ep) lo) (I.ok.hd hcalm) hat (by rw [hl]; exact z) fun h' tk acc hk hacc => ?_
    refine ⟨_, _, I.kept (t' := tk) hk, unT_sub H, each_of_at (by rw [Array.length_toList, hacc.1, hl, List.length_map]) fun j u d hu2 hd2 => ?_, ok, fun p ws hp hw => q _ p ws rfl hp hw⟩
    obtain ⟨k, x, e1, e2⟩ := hacc.2 j u (by rw [← Array.getElem?_toList]; exact hu2)
    have e3 : (vs.map (·.1))[j]? = some k := by rw [List.getElem?_map, e1]; rfl
    have e4 : (kvs.map (·.1))[j]? = some k := by
      have hk2 : kvs.map (·.1) = vs.map (·.1) := rel.keys
      rw [hk2]; exact e3
    rw [List.getElem?_map, Option.map_eq_some_iff] at hd2 e4
    obtain ⟨kv, hkv, rfl⟩ := hd2
    obtain ⟨kv', hkv', e5⟩ := e4
    rw [hkv] at hkv'
    cases hkv'
    refine ⟨kV k, ?_, by rw [e5]; exact key_isD k⟩
    rcases keyIs_shape (show keyIs k u = true from e2) with ⟨i, t, ek, ev⟩ | ⟨z, t, ek, ev⟩
    · subst ek; exact ⟨t, ev⟩
    · subst ek; exact ⟨t, ev⟩
  · obtain ⟨z, lo, vs, rel, o, es, ep, ho, hex, hdat, he, _, _⟩ := dt_rd I.hok hr
    have hl : vs.length = kvs.length := (Paired.length rel).symm
    have hsz : es.size = vs.length := by rw [← Array.length_toList, he, List.length_map]
    refine PySem.W.kdu_collect (A := X.A.in1) (PySem.KdlSrc.rawDict (es := es) (ep := ep) lo) (I.ok.hd hcalm) ⟨o, ho, hex, hdat⟩ (by rw [hsz, hl]; exact z) fun h' tk acc hk hacc => ?_
    refine ⟨_, _, I.kept (t' := tk) hk, unT_sub H, each_of_at (by rw [Array.length_toList, hacc.1, hsz, hl, List.length_map]) fun j u d hu2 hd2 => ?_, ok, fun p ws hp hw => q _ p ws rfl hp hw⟩
    obtain ⟨hi, e1⟩ := hacc.2 j u (by rw [← Array.getElem?_toList]; exact hu2)
    rw [List.getElem?_map, Option.map_eq_some_iff] at hd2
    obtain ⟨kv, hkv, rfl⟩ := hd2
    have hv : ∀ {l : List (List Key × V)} {m : List (List Key × Addr × Value)} {j : Nat} {kv : List Key × V}, KT H l m → l[j]? = some kv → ∃ x, m[j]? = some x ∧ H x.2.1 = some (.tup (kv.1.map kV)) := by
      intro l m j kv q
      induction q generalizing j with
      | nil => intro hx; simp at hx
      | @cons p q ps qs hq t ih =>
        intro hx
        cases j with
        | zero => simp at hx; subst hx; exact ⟨q, rfl, hq.2.1⟩
        | succ j => simpa using ih (j := j) (by simpa using hx)
    obtain ⟨x, hx, hb⟩ := hv rel hkv
    have e2 : es[j]? = some (entryOfKey (tupleKind (mixKind X.prog X.w)) x) := by
      rw [← Array.getElem?_toList, he, List.getElem?_map, hx]; rfl
    rw [Array.getElem?_eq_getElem hi] at e2
    have e3 := Option.some.inj e2
    refine ⟨.ref x.2.1, ?_, keys_isD (unT_tup (F := fun _ => none) (fun _ _ h => nomatch h) hb)⟩
    rw [e1, e3]
    rfl
def M.kv : M → Option (List PyData)
  | .dK l => some (l.map fun kv => keyD kv.1)
  | .dT l => some (l.map fun kv => keysD kv.1)
  | .leaf (.dict kds) => some (kds.map (·.1))
  | _ => none
theorem isKs_keys {K : Frag} {F : Hp} : ∀ {kds : List (PyData × PyData)} {kvs : List (Key × V)}, IsKs K F kds kvs → kds.map (·.1) = kvs.map fun kv => keyD kv.1
  | [], kvs, h => by unfold IsKs at h; subst h; rfl
  | (k, d) :: r, kvs, h => by
    unfold IsKs at h
    obtain ⟨kk, v, l', rfl, rfl, _, h2⟩ := h
    simp [isKs_keys h2]
theorem isTs_keys {K : Frag} {F : Hp} : ∀ {kds : List (PyData × PyData)} {kvs : List (List Key × V)}, IsTs K F kds kvs → kds.map (·.1) = kvs.map fun kv => keysD kv.1
  | [], kvs, h => by unfold IsTs at h; subst h; rfl
  | (k, d) :: r, kvs, h => by
    unfold IsTs at h
    obtain ⟨kk, v, l', rfl, rfl, _, h2⟩ := h
    simp [isTs_keys h2]
theorem map_keyD {α β γ : Type} {f : α → γ} {l : List (α × β)} {r : List (α × δ)} (h : l.map (·.1) = r.map (·.1)) : (r.map fun kv => f kv.1) = l.map fun kv => f kv.1 := by
  have := congrArg (List.map f) h
  simpa [List.map_map, Function.comp_def] using this.symm
theorem rep_kv {K : Frag} {F H : Hp} {v : V} {x : M} {f : List Addr} {ds : List PyData} (s : Sub F H) (r : Rep K F H v x f) (h : x.kv = some ds) :
    ∃ a, v = .ref a ∧ ((∃ kvs : List (Key × V), Rd H a (.dK kvs) ∧ ds = kvs.map fun kv => keyD kv.1) ∨ (∃ kvs : List (List Key × V), Rd H a (.dT kvs) ∧ ds = kvs.map fun kv => keysD kv.1)) := by
  cases r with
  | leaf q =>
    rename_i d
    cases d with
    | dict kds =>
      cases h
      unfold IsD at q
      obtain ⟨a, rfl, ⟨kvs, hr, hk⟩ | ⟨kvs, hr, hk⟩⟩ := q
      · exact ⟨a, rfl, .inl ⟨kvs, Rd.mono' s hr, isKs_keys hk⟩⟩
      · exact ⟨a, rfl, .inr ⟨kvs, Rd.mono' s hr, isTs_keys hk⟩⟩
    | _ => cases h
  | lst _ _ _ _ => cases h
  | dK h1 h2 e nd rs n => cases h; exact ⟨_, rfl, .inl ⟨_, .inl h1, map_keyD e⟩⟩
  | dT h1 h2 e nd rs n => cases h; exact ⟨_, rfl, .inr ⟨_, .inl h1, map_keyD e⟩⟩
  | ins _ _ _ _ _ => cases h
  | ro _ _ => cases h
def gSortK : M → Option M := fun x => x.kv.bind fun ds => if sortOk ds then some (.lst ((sortD ds).map .leaf)) else none
theorem r_sortK {K : Frag} : R1 K (fun v => rSortK K [v]) gSortK := by
  intro F H v x f y Q s r h q
  unfold gSortK at h
  rw [Option.bind_eq_some_iff] at h
  obtain ⟨ds, h, hh⟩ := h
  split at hh
  · rename_i ok
    cases hh
    obtain ⟨a, rfl, hd⟩ := rep_kv s r h
    refine ⟨a, ds, rfl, hd, ok, fun G p ws hG hp hw => ?_⟩
    have g0 := Grow.unT s
    have hs : Sub G (unT F H) := fun b o e => by
      subst hG
      unfold unT at e ⊢
      cases eF : F b with
      | none => simpa using e
      | some u =>
        have := s _ _ eF
        rw [this] at e
        dsimp only at e ⊢
        cases u <;> first | (cases e; rfl) | cases e
    have hF : unT F H p = none := by
      cases e : unT F H p with
      | none => rfl
      | some u => rw [g0.sub p u e] at hp; cases hp
    have g1 := Grow.own1 (o := .lst ws) g0.sub hp
    refine q _ _ _ [p] ⟨fun _ _ e => g0.mono _ _ e, g1.sub, g1.same, fun a o e => ?_, fun a ha => by simp at ha; subst ha; exact hp⟩ (.lst upd_same hF (reps_leaves (hw.mono hs)) (by simp))
    exact g0.new a o e
  · cases hh

/-! ### sorted(set(xs)) of keys -/
def rSortSet (K : Frag) : V → Hp → VK → Prop := fun x H Q => ∃ t a ks, x = .ref a ∧ SqA K H t a (ks.map kV) ∧ ks.length + 1 < scanBound ∧ sortOk ((addAll [] ks).map keyD) = true ∧
  ∀ p ws, H p = none → IsDs K H (sortD ((addAll [] ks).map keyD)) ws → Q (.ref p) (L2.upd H p (.lst ws))
theorem pe_sortSet {X : Cx} {a : Expr} {ta : TE} {p p2 q pos : Pos} (hc : X.calm = true) (hu : X.A.units + 64 < cLine) (hg : Gl X "sorted") (hm : X.mg "sorted" = none) (hg2 : Gl X "set") (hm2 : X.mg "set" = none) (ha : PE X a ta)
    (na : starEach [a] X.env = (false, eval a X.env) :: starEach [] X.env := by rfl) : PE X (.Call (.Name "sorted" p) [.Call (.Name "set" p2) [a] [] q] [] pos) (fun σ H Q => ta σ H fun x H1 => rSortSet X.K x H1 Q) := by
  refine ⟨fun pins s σ H Q I h => ?_⟩
  refine Call_ (ld_blt I hg hm PyProof.Rows.boot_sorted ?_)
  refine PyProof.Rows.callWith_builtin1 (PyProof.Rows.args_cons ?_ rfl) rfl rfl
  refine Call_ (ld_blt I hg2 hm2 PyProof.Rows.boot_set ?_)
  refine PyProof.Rows.callWith_type1 (PyProof.Rows.args_cons (thn (ha.run pins s σ H _ I h) fun v s1 ⟨x, H1, I1, r1, q1⟩ => PyProof.Rows.args_nil ?_) na) na rfl
  obtain ⟨t, l, ks, rfl, hq, hb, ok, q1⟩ := q1
  cases r1
  obtain ⟨its, rv, pl, hz⟩ := SqA.items I1 hq
  refine call_setG t ks (I1.ok.hd hc) pl (by simpa using rv) hb fun h' tk hS hk => ?_
  refine PyProof.Rows.args_nil ?_
  have I2 : Inv X pins σ H1 { s1 with heap := h', toks := tk } := I1.kept hk
  refine sorted_from (H := H1) hu ?_
  obtain ⟨o, es, ep, tb, ho, hex, hd, g, pm, nd, hb2, hf, hr, hl⟩ := hS
  refine collect_set (A := X.A.in1) (I1.ok.hd hc) ⟨o, ho, hex.1, hd⟩ hf hb2 hr hl fun s2 out k2 hz2 g2 o2 pm2 => ?_
  have pk : (out.map kOf).Perm (addAll [] ks) := by
    have z := pm2.map kOf
    rw [List.map_map] at z
    exact z.trans pm
  have hval : ∀ u ∈ out, RelV (kV (kOf u)) u := fun u hu2 => by
    obtain ⟨e, he, eu⟩ := List.mem_map.mp (pm2.mem_iff.mp hu2)
    obtain ⟨⟨k, hk1, _⟩, _⟩ := g e he
    subst eu
    rw [kOf_is _ _ _ _ hk1]
    rcases keyIs_shape (show keyIs k e.2 = true from hk1) with ⟨i, t, ek, ev⟩ | ⟨z, t, ek, ev⟩
    · subst ek; exact ⟨t, ev⟩
    · subst ek; exact ⟨t, ev⟩
  have I3 : Inv X pins σ H1 s2 := by
    have e : s2 = { s2 with gens := s2.gens } := rfl
    exact I2.call' (ch := []) o2 (Un.kept k2) (I2.hok.kept k2) (by rw [g2]; exact I2.bare) (fun _ z => nomatch z)
  refine ⟨(out.map kOf).map keyD, H1, I3, fun _ _ h => h, each_of_at (by simp) fun j u d hu2 hd2 => ?_, sortOk_perm (pk.map keyD) ok, fun p ws hp hw => q1 p ws hp ?_⟩
  · rw [List.getElem?_map, List.getElem?_map, hu2] at hd2
    cases hd2
    exact ⟨kV (kOf u), hval u (List.mem_of_getElem? hu2), key_isD _⟩
  · rw [← sortD_perm pk ok]; exact hw
def gSortSet : M → Option M := fun x => x.sv.bind fun ds => (keysOf ds).bind fun ks => if decide (ks.length < 1000) && sortOk ((addAll [] ks).map keyD) then some (.lst ((sortD ((addAll [] ks).map keyD)).map .leaf)) else none
theorem r_sortSet {K : Frag} : R1 K (rSortSet K) gSortSet := by
  intro F H v x f y Q s r h q
  unfold gSortSet at h
  rw [Option.bind_eq_some_iff] at h
  obtain ⟨ds, h, hh⟩ := h
  rw [Option.bind_eq_some_iff] at hh
  obtain ⟨ks, hk, hh⟩ := hh
  split at hh
  · rename_i ok
    cases hh
    rw [Bool.and_eq_true, decide_eq_true_eq] at ok
    obtain ⟨a, vs, rfl, h1, h2⟩ := rep_sv s r h
    have e := keysOf_is hk h2
    subst e
    have hF : ∀ p, H p = none → F p = none := fun p hp => by
      cases e : F p with
      | none => rfl
      | some u => rw [s p u e] at hp; cases hp
    have fin : ∀ p ws, H p = none → IsDs K H (sortD ((addAll [] ks).map keyD)) ws → Q (.ref p) (L2.upd H p (.lst ws)) := fun p ws hp hw => by
      have hw' : IsDs K F (sortD ((addAll [] ks).map keyD)) ws := by
        have hall : ∀ (l : List PyData), (∀ d ∈ l, ∃ k, d = keyD k) → ∀ ws, IsDs K H l ws → IsDs K F l ws := by
          intro l
          induction l with
          | nil => intro _ ws hw; unfold IsDs at hw; subst hw; exact .nil
          | cons d l ih =>
            intro hl ws hw
            unfold IsDs at hw
            obtain ⟨v, r, rfl, a1, a2⟩ := hw
            refine .cons ?_ (ih (fun d hd => hl d (by simp [hd])) r a2)
            obtain ⟨k, rfl⟩ := hl d (by simp)
            cases k with
            | inl i => exact isD_int_iff.mpr (isD_int_iff.mp a1)
            | inr z => exact isD_str_iff.mpr (isD_str_iff.mp a1)
        refine hall _ (fun d hd => ?_) ws hw
        obtain ⟨k, _, rfl⟩ := List.mem_map.mp (List.mem_mergeSort.mp hd)
        exact ⟨k, rfl⟩
      exact q _ _ _ [p] (Grow.own1 s hp) (.lst upd_same (hF p hp) (reps_leaves hw') (by simp))
    rcases h1 with h1 | h1
    · exact ⟨false, a, ks, rfl, h1, by unfold scanBound; omega, ok.2, fin⟩
    · exact ⟨true, a, ks, rfl, h1, by unfold scanBound; omega, ok.2, fin⟩
  · cases hh
section
variable {X : Cx} {E : XK} {a : Expr} {m : Env' → R M} {q : Env' → Option M} {p p2 q2 pos : Pos}
theorem de_sortSet (hc : X.calm = true) (hu : X.A.units + 64 < cLine) (hg : Gl X "sorted") (hm : X.mg "sorted" = none) (hg2 : Gl X "set") (hm2 : X.mg "set" = none) (ha : DE X E a m)
    (na : starEach [a] X.env = (false, eval a X.env) :: starEach [] X.env := by rfl) : DE X E (.Call (.Name "sorted" p) [.Call (.Name "set" p2) [a] [] q2] [] pos) (m1 gSortSet m) :=
  (pe_sortSet hc hu hg hm hg2 hm2 ha na).imp fun σ H Q h => i_1 r_sortSet σ H Q h
theorem de_sortSetq (hc : X.calm = true) (hu : X.A.units + 64 < cLine) (hg : Gl X "sorted") (hm : X.mg "sorted" = none) (hg2 : Gl X "set") (hm2 : X.mg "set" = none) (ha : DQ X a q)
    (na : starEach [a] X.env = (false, eval a X.env) :: starEach [] X.env := by rfl) : DE X E (.Call (.Name "sorted" p) [.Call (.Name "set" p2) [a] [] q2] [] pos) (m1q gSortSet q) :=
  (pe_sortSet hc hu hg hm hg2 hm2 ha na).imp fun σ H Q h => i_1q r_sortSet σ H Q h
end

/-! ### new dicts, a module's constant -/
def mNewK : Env' → R M := fun ρ => .ok (.dK []) ρ
def mNewT : Env' → R M := fun ρ => .ok (.dT []) ρ
section
variable {X : Cx} {E : XK} {pos : Pos} {x : Str}
theorem de_newK : DE X E (.Dict [] [] pos) mNewK := pe_dnewK.imp fun σ H Q ⟨F, ρ, φ, e, k⟩ => by
  intro p hp
  have g := Grow.own1 (o := .dK []) e.sub hp
  have hF : F p = none := by
    cases eF : F p with
    | none => rfl
    | some u => rw [e.sub p u eF] at hp; cases hp
  exact k F _ φ _ [p] (g.env e) (.dK (kvs := []) (kms := []) upd_same hF rfl List.nodup_nil .nil (by simp)) (g.off e) g.ext
theorem de_newT : DE X E (.Dict [] [] pos) mNewT := pe_dnewT.imp fun σ H Q ⟨F, ρ, φ, e, k⟩ => by
  intro p hp
  have g := Grow.own1 (o := .dT []) e.sub hp
  have hF : F p = none := by
    cases eF : F p with
    | none => rfl
    | some u => rw [e.sub p u eF] at hp; cases hp
  exact k F _ φ _ [p] (g.env e) (.dT (kvs := []) (kms := []) upd_same hF rfl List.nodup_nil .nil (by simp)) (g.off e) g.ext
theorem dq_globI {i : Int} {t : Tok} (hg : Gl X x) (hm : X.mg x = some (.int i t)) (hd : (x == ("__debug__" : Str)) = false := by decide) : DQ X (.Name x pos) (qC (.int i)) := dq_c (pe_glob (v := .int i) hg hm ⟨t, rfl⟩ hd) fun F => isD_int _
theorem dq_globS {i : Str} {t : Tok} (hg : Gl X x) (hm : X.mg x = some (.str i t)) (hd : (x == ("__debug__" : Str)) = false := by decide) : DQ X (.Name x pos) (qC (.str i)) := dq_c (pe_glob (v := .str i) hg hm ⟨t, rfl⟩ hd) fun F => isD_str _
end
end G
namespace G
open PySem PySem.Spec PyProof.Rows L2

/-! ### dict comprehensions, keys ints or texts -/
def M.key : M → Option Key
  | .leaf d => keyOf d
  | _ => none
def dLoop (g : PyData → Env' → Option Env') (t : Env' → R Bool) (mk mv : Env' → R M) (vs : List Nat) : List PyData → Env' → List (Key × M) → R (List (Key × M))
  | [], ρ, acc => .ok acc ρ
  | d :: ds, ρ, acc => match g d ρ with
    | none => .bad
    | some ρ2 => match t ρ2 with
      | .ok false ρ4 => dLoop g t mk mv vs ds (wipeE ρ4 vs) acc
      | .ok true ρ4 => match mk ρ4 with
        | .ok x ρ5 => match x.key with
          | none => .bad
          | some k => match mv ρ5 with
            | .ok y ρ6 => dLoop g t mk mv vs ds (wipeE ρ6 vs) (putG acc k y)
            | _ => .bad
        | _ => .bad
      | _ => .bad
def mDComp (it : Env' → R (List PyData)) (g : PyData → Env' → Option Env') (t : Env' → R Bool) (mk mv : Env' → R M) (vs : List Nat) : Env' → R M := fun ρ => match it ρ with
  | .ok ds ρ1 => if ds.length ≤ 1000000 ∧ (vs.all fun i => isLeaf ρ1[i]?) = true then match dLoop g t mk mv vs ds (wipeE ρ1 vs) [] with
      | .ok ms ρ2 => .ok (.dK ms) (rest' vs ρ1 0 ρ2)
      | _ => .bad
    else .bad
  | .err x ρ1 => .err x ρ1
  | .bad => .bad
theorem putG_len {κ α : Type} [DecidableEq κ] (kvs : List (κ × α)) (k : κ) (v : α) : (putG kvs k v).length ≤ kvs.length + 1 := by
  unfold putG; split <;> simp
theorem M.key_is {K : Frag} {F H : Hp} {x : M} {k : Key} {v : V} {f : List Addr} (h : x.key = some k) (r : Rep K F H v x f) : v = kV k := by
  cases r with
  | leaf q => exact keyOf_is h q
  | _ => cases h
section
variable {X : Cx} {E Eb : XK} {T : List Nat} {pos : Pos} {g : PyData → Env' → Option Env'} {it : Env' → R (List PyData)} {t : Env' → R Bool} {mk mv : Env' → R M} {kx vx tg iter : Expr} {ifs : List Expr} {scope : Scope} {own : List (Str × Nat)}
theorem i_dcomp {vs : List Nat} (hT : ∀ i ∈ T, i ∈ vs) {K : Frag} {mg : Str → Option Value} (hE : ∀ c d H, ¬ Eb c d H) (σ : L2.St) (H : Hp) (Q : VK) :
    tE K mg E (mDComp it g t mk mv vs) σ H Q → tDc (tI' K mg E it) (tG' K T g) (tB' K mg Eb t) (tE K mg Eb mk) (tE K mg Eb mv) vs σ H Q := fun ⟨F, ρ, φ, e, k⟩ => by
  refine ⟨F, ρ, φ, e, ?_⟩
  unfold mDComp at k
  cases hm : it ρ with
  | bad => rw [hm] at k; exact k.elim
  | err x ρ' => rw [hm] at k; exact k
  | ok ds ρ1 =>
    rw [hm] at k
    dsimp only at k
    intro F1 H1 φ1 Jt e1 w1 x1 D hD
    by_cases hw : ds.length ≤ 1000000 ∧ (vs.all fun i => isLeaf ρ1[i]?) = true
    case neg => rw [if_neg hw] at k; exact k.elim
    rw [if_pos hw] at k
    obtain ⟨hlen, hleaf⟩ := hw
    generalize ho : dLoop g t mk mv vs ds (wipeE ρ1 vs) [] = o at k
    have hFD : F1 D = none := by
      cases q : F1 D with
      | none => rfl
      | some u => rw [e1.sub D u q] at hD; cases hD
    have g0 : Grow F1 H1 F1 (L2.upd H1 D (.dK [])) [D] := Grow.own1 e1.sub hD
    let W : Nat → Hp → Prop := fun i H' => ∃ F' ρ' φ' ms fs, EnvOk K F' H' (L2.wipe σ vs) ρ' φ' ∧ Rep K F' H' (.ref D) (.dK ms) (D :: fs) ∧ (∀ a ∈ D :: fs, ¬ Om φ' a) ∧ Sub F1 F' ∧
        Ext F H (Om φ) F' H' (fun a => Om φ' a ∨ a ∈ D :: fs) ∧ ms.length ≤ i ∧ dLoop g t mk mv vs (ds.drop i) ρ' ms = o
    refine ⟨fun i m H' => m = ds.length - i ∧ i ≤ ds.length ∧ W i H', ⟨_, rfl, Nat.zero_le _, F1, wipeE ρ1 vs, wphi φ1 vs, [], [], g0.env (e1.wipe vs), .dK (kvs := []) upd_same hFD rfl List.nodup_nil .nil (by simp), fun a h => g0.off (e1.wipe vs) a h, fun _ _ h => h, ?_, Nat.zero_le _, ho⟩, ?_⟩
    · refine (x1.trans g0.ext).less fun a h => ?_
      rcases h with h | h
      · exact .inl (om_wphi h)
      · exact .inr h
    rintro i m H' ⟨rfl, hi, F', ρ', φ', ms, fs, e', rD, off, s', x', hms, h'⟩
    by_cases hlt : i < ds.length
    · refine .inr ⟨w1.go i F' H' hlt s' e'.sub, W (i + 1), fun H2 h2 => ⟨ds.length - (i + 1), by omega, rfl, hlt, h2⟩, fun x H2 hy => ?_⟩
      have hd : ds[i]? = some ds[i] := List.getElem?_eq_getElem hlt
      obtain ⟨F2, gr, rx⟩ := w1.yld i _ F' H' x H2 hd s' e'.sub hy
      have e2 := gr.env e'
      have rD2 := gr.rep rD
      have x2 := x'.trans (gr.ext0 (O := fun a => Om φ' a ∨ a ∈ D :: fs))
      rw [List.drop_eq_getElem_cons hlt, dLoop] at h'
      refine ⟨F2, ρ', φ', ds[i], e2, rx, ?_⟩
      cases hgd : g ds[i] ρ' with
      | none => rw [hgd] at h'; subst h'; exact k.elim
      | some ρ2 =>
        rw [hgd] at h'
        dsimp only at h'
        intro φ3 σ3 e3 o3 s3
        have hwip : L2.wipe σ3 vs = L2.wipe σ vs := by
          rw [wipe_eq (σ := L2.wipe σ vs) (fun i hi => s3.at' i fun z => hi (hT i z)) s3.len]
          exact wipe_eq (fun i hi => wipe_out hi) (wipe_length _ _)
        have off3 : ∀ a ∈ D :: fs, ¬ Om φ3 a := fun a ha z => off a ha (o3 a z)
        have x3 : Ext F H (Om φ) F2 H2 (fun a => Om φ3 a ∨ a ∈ D :: fs) := x2.less fun a h => h.imp (o3 a) id
        refine ⟨hwip, F2, ρ2, φ3, e3, ?_⟩
        cases ht : t ρ2 with
        | bad => rw [ht] at h'; subst h'; exact k.elim
        | err y ρ4 => rw [ht] at h'; subst h'; exact k.elim
        | ok b ρ4 =>
          rw [ht] at h'
          intro F4 H4 φ4 e4 x4
          obtain ⟨rD4, off4⟩ := rD2.ext x4 off3
          have x4' : Ext F H (Om φ) F4 H4 (fun a => Om φ4 a ∨ a ∈ D :: fs) := x3.tmp rD2.fp off3 x4
          have s4 : Sub F1 F4 := fun a o q => x4.mono _ _ (gr.mono _ _ (s' _ _ q))
          cases b with
          | false =>
            rw [if_neg Bool.false_ne_true]
            dsimp only at h'
            have e5 := e4.wipe vs
            rw [hwip] at e5
            exact ⟨F4, _, _, ms, _, e5, rD4, fun a ha z => off4 a ha (om_wphi z), s4, x4'.less fun a h => h.imp om_wphi id, by omega, h'⟩
          | true =>
            rw [if_pos rfl]
            dsimp only at h'
            refine ⟨F4, ρ4, φ4, e4, ?_⟩
            cases hmk : mk ρ4 with
            | bad => rw [hmk] at h'; subst h'; exact k.elim
            | err y ρ5 => rw [hmk] at h'; subst h'; exact k.elim
            | ok y ρ5 =>
              rw [hmk] at h'
              dsimp only at h'
              intro F5 H5 φ5 v f e5 r5 d5 x5
              cases hk : y.key with
              | none => rw [hk] at h'; subst h'; exact k.elim
              | some kk =>
                rw [hk] at h'
                dsimp only at h'
                have hv := M.key_is hk r5
                obtain ⟨rD5, off5⟩ := rD4.ext x5.drop off4
                have x5' := x4'.tmp rD4.fp off4 x5.drop
                have s5 : Sub F1 F5 := fun a o q => x5.mono _ _ (s4 _ _ q)
                refine ⟨F5, ρ5, φ5, e5, ?_⟩
                cases hme : mv ρ5 with
                | bad => rw [hme] at h'; subst h'; exact k.elim
                | err y ρ6 => rw [hme] at h'; subst h'; exact k.elim
                | ok z ρ6 =>
                  rw [hme] at h'
                  dsimp only at h'
                  intro F6 H6 φ6 v6 f6 e6 r6 d6 x6
                  obtain ⟨rD6, off6⟩ := rD5.ext x6 off5
                  have x6' := x5'.tmp rD5.fp off5 x6
                  have s6 : Sub F1 F6 := fun a o q => x6.mono _ _ (s5 _ _ q)
                  have nf : ∀ a ∈ f6, a ∉ D :: fs := fun a ha hb => off6 a hb (.inr ha)
                  have hDf : D ∉ f6 := fun ha => nf D ha (by simp)
                  have offD : ¬ Om φ6 D := fun z => off6 D (by simp) (.inl z)
                  cases rD6 with
                  | dK q1 q2 he nd q3 q4 =>
                    rename_i kvs
                    have hl : kvs.length = ms.length := by have := congrArg List.length he; simpa using this
                    refine ⟨kvs, kk, hv, q1, ?_, ?_⟩
                    · have : sizeLine = 16777216 := sizeLine_eq
                      omega
                    obtain ⟨fp', g1, g2, g3⟩ := reps_put (k := kk) (r6.updN (D := D) (o := .dK (putK kvs kk v6)) hDf) he nd (q3.updN (D := D) (o := .dK (putK kvs kk v6)) q4) fun b hb z => nf b hb (by simp [z])
                    have e7 := (e6.upd (D := D) (o := .dK (putK kvs kk v6)) offD q2).wipe vs
                    rw [hwip] at e7
                    have nD' : D ∉ fp' := fun z => (g1 D z).elim q4 hDf
                    refine ⟨F6, _, _, putG ms kk z, fp', e7, .dK upd_same q2 g3 (nodup_putG nd kk z) g2 nD', fun a ha zz => ?_, s6, ?_, Nat.le_trans (putG_len _ _ _) (Nat.succ_le_succ hms), h'⟩
                    · have z' := om_wphi zz
                      rcases List.mem_cons.mp ha with rfl | ha
                      · exact offD z'
                      · rcases g1 a ha with ha | ha
                        · exact off6 a (by simp [ha]) (.inl z')
                        · exact d6 a ha z'
                    · refine (x6'.upd (D := D) (.inr (by simp))).less fun a h => ?_
                      rcases h with h | h
                      · exact .inl (.inl (om_wphi h))
                      · rcases List.mem_cons.mp h with rfl | h
                        · exact .inr (by simp)
                        · rcases g1 a h with h | h
                          · exact .inr (by simp [h])
                          · exact .inl (.inr h)
    · have hil : i = ds.length := by omega
      subst hil
      rw [List.drop_length, dLoop] at h'
      subst h'
      refine .inl ⟨w1.stop F' H' s' e'.sub, ?_⟩
      dsimp only at k
      refine k F' H' (wphi φ' vs) (.ref D) (D :: fs) (e1.unwipe hleaf s' e') rD (fun a ha z => off a ha (om_wphi z)) (x'.less fun a h => ?_)
      exact h.imp om_wphi id
theorem de_dcomp (hT : ∀ i ∈ T, i ∈ own.map (·.2)) (hc : X.calm = true) (hN : X.N.Nodup) (hi : DI X E tg iter it) (ok : BlkOk X.N X.env.scope scope own)
    (hg : ∀ (s : Shared) (H : Hp) (C : Addr) (cl : List (Str × Addr)) (fp : List Addr), DG (X.blk s H scope (compEnvC scope cl C X.env) fp) T tg g) (ht : ∀ (s : Shared) (H : Hp) (C : Addr) (cl : List (Str × Addr)) (fp : List Addr), DTs (X.blk s H scope (compEnvC scope cl C X.env) fp) E0 ifs t)
    (hk : ∀ (s : Shared) (H : Hp) (C : Addr) (cl : List (Str × Addr)) (fp : List Addr), DE (X.blk s H scope (compEnvC scope cl C X.env) fp) E0 kx mk)
    (he : ∀ (s : Shared) (H : Hp) (C : Addr) (cl : List (Str × Addr)) (fp : List Addr), DE (X.blk s H scope (compEnvC scope cl C X.env) fp) E0 vx mv) (hs : ∀ x, foldedSetIterable iter X.env x = pure x := by intro _; rfl) :
    DE X E (.DictComp kx vx [⟨tg, iter, ifs, 0⟩] scope pos) (mDComp it g t mk mv (own.map (·.2))) := (pe_dc hc hN hi ok hg ht hk he hs).imp fun σ H Q h => i_dcomp hT (fun _ _ _ z => z) σ H Q h
theorem ps_setDc {i : Nat} {y : Str} {py spos : Pos} {wi : TI} {g : TG} {tt : TT} {tk tv : TE} (hc : X.calm = true) (hN : X.N.Nodup) (hy : X.N[i]? = some y) (hyl : X.env.scope.names.lookup y = some .local)
    (hsw : swapsWith (.DictComp kx vx [⟨tg, iter, ifs, 0⟩] scope pos) (some (.Name y py)) spos.line X.env = pure true) (hi : PI X tg iter wi) (ok : BlkOk X.N X.env.scope scope own)
    (hg : ∀ (s : Shared) (H : Hp) (C : Addr) (cl : List (Str × Addr)) (fp : List Addr), PG (X.blk s H scope (compEnvC scope cl C X.env) fp) tg g) (ht : ∀ (s : Shared) (H : Hp) (C : Addr) (cl : List (Str × Addr)) (fp : List Addr), PTs (X.blk s H scope (compEnvC scope cl C X.env) fp) ifs tt)
    (hk : ∀ (s : Shared) (H : Hp) (C : Addr) (cl : List (Str × Addr)) (fp : List Addr), PE (X.blk s H scope (compEnvC scope cl C X.env) fp) kx tk)
    (he : ∀ (s : Shared) (H : Hp) (C : Addr) (cl : List (Str × Addr)) (fp : List Addr), PE (X.blk s H scope (compEnvC scope cl C X.env) fp) vx tv) (hs : ∀ x, foldedSetIterable iter X.env x = pure x := by intro _; rfl) :
    PS X (.Assign [.Name y py] (.DictComp kx vx [⟨tg, iter, ifs, 0⟩] scope pos) spos) (tAsg (tDc wi g tt tk tv (own.map (·.2))) (gName i)) := by
  refine ⟨fun pins s σ H D I h => ?_⟩
  rw [exec_Assign_Name_used _ _ _ _ hsw]
  refine wpAny_bind (wpAny_standAt (wpAny_bind ?_))
  show wpAny _ X.A (do let _ ← comprehension (.DictComp kx vx [⟨tg, iter, ifs, 0⟩] scope pos) scope X.env (firstIterPos [⟨tg, iter, ifs, 0⟩] pos) newDict false (eval iter X.env) (some (assign (.Name y py) X.env))) _ _ s
  have h : tDc wi g tt tk tv (own.map (·.2)) σ H (fun x H1 => gName i x σ H1 D.nx) := h
  refine wpAny_bind (thn (dc_core (Qf := fun _ s' => SP X pins D .next s') hc hN I hi ok hg ht hk he hs h fun L C s' m H' I' q hn f => ?_) fun _ s' hq => wpAny_pure (wpAny_pure hq))
  show wpAny _ _ (assign (.Name y py) X.env (.ref L)) _ _ _
  refine wpAny_assign_Name (store_ok2 (v := V.ref L) I' hN hy (.inl hyl) rfl (fun s2 I2 ⟨a, sb, ha⟩ => ?_) (.inr hyl))
  obtain ⟨f0, f1, f2, f3, f4, f5⟩ := f
  have haC : C ≠ a := by
    rcases ha with z | z
    · rw [z]; exact f1
    · exact fun e => f4 y a z e.symm
  refine ⟨m, hn.sameBut sb haC, fun h3 sb3 => ?_⟩
  exact ⟨_, H', I2.turned (t' := s2.toks) (fun b o hb e => (sb3.2 b hb).trans e) f0 f1 f3 f4 f5, q⟩
theorem ds_setDComp {J : List Nat} {i : Nat} {y : Str} {py spos : Pos} (hj : i ∉ J) (hT : ∀ i ∈ T, i ∈ own.map (·.2)) (hc : X.calm = true) (hN : X.N.Nodup) (hy : X.N[i]? = some y) (hyl : X.env.scope.names.lookup y = some .local)
    (hsw : swapsWith (.DictComp kx vx [⟨tg, iter, ifs, 0⟩] scope pos) (some (.Name y py)) spos.line X.env = pure true) (hi : DI X E tg iter it) (ok : BlkOk X.N X.env.scope scope own)
    (hg : ∀ (s : Shared) (H : Hp) (C : Addr) (cl : List (Str × Addr)) (fp : List Addr), DG (X.blk s H scope (compEnvC scope cl C X.env) fp) T tg g) (ht : ∀ (s : Shared) (H : Hp) (C : Addr) (cl : List (Str × Addr)) (fp : List Addr), DTs (X.blk s H scope (compEnvC scope cl C X.env) fp) E0 ifs t)
    (hk : ∀ (s : Shared) (H : Hp) (C : Addr) (cl : List (Str × Addr)) (fp : List Addr), DE (X.blk s H scope (compEnvC scope cl C X.env) fp) E0 kx mk)
    (he : ∀ (s : Shared) (H : Hp) (C : Addr) (cl : List (Str × Addr)) (fp : List Addr), DE (X.blk s H scope (compEnvC scope cl C X.env) fp) E0 vx mv) (hs : ∀ x, foldedSetIterable iter X.env x = pure x := by intro _; rfl) :
    DS X E J (.Assign [.Name y py] (.DictComp kx vx [⟨tg, iter, ifs, 0⟩] scope pos) spos) (mSet i (mDComp it g t mk mv (own.map (·.2)))) :=
  (ps_setDc hc hN hy hyl hsw hi ok hg ht hk he hs).imp fun D σ H h => i_dcomp hT (fun _ _ _ z => z) σ H _ (i_set hj D σ H h)
end
end G
namespace G
open PySem PySem.Spec PyProof.Rows L2

/-! ### xs[i], xs[j] = a, b -/
def putQ (i : Nat) (q : Env' → Option M) (d : PyData) : Env' → Option Env' := fun ρ => match qName i ρ, q ρ with
  | some m, some (.leaf kd) => (m.put kd (.leaf d)).map fun m' => ρ.set i (some m')
  | _, _ => none
def tPQ (K : Frag) (g : PyData → Env' → Option Env') : TG := fun v σ H Q => ∃ F ρ φ d, EnvOk K F H σ ρ φ ∧ IsD K F d v ∧ match g d ρ with
  | some ρ' => ∀ H' φ', EnvOk K F H' σ ρ' φ' → Ext F H (Om φ) F H' (Om φ') → Q σ H'
  | none => False
theorem pg_putQ {X : Cx} {i : Nat} {o k : Expr} {q : Env' → Option M} {pos : Pos} (hu : X.A.units + 1 < cLine) (ho : PE X o (tVar i)) (hk : DQ X k q) (ha : ∀ v, assign (.Subscript o k pos) X.env v = (do
      let ov ← holding [v] (eval o X.env)
      let iv ← holding [v, ov] (eval k X.env)
      standAt pos
      holding [v, ov, iv] (setItem ov iv v)
      release [v, ov, iv] []) := by intro _; rfl) : PG X (.Subscript o k pos) (tPQ X.K (putQ i q)) := (pg_sub ho hk (set_any hu) ha).imp fun v σ H Q ⟨F, ρ, φ, d, e, hd, h⟩ => by
  unfold putQ at h
  split at h
  · rename_i hh ρ' hp
    split at hp
    · rename_i m kd hq hk
      rw [Option.map_eq_some_iff] at hp
      obtain ⟨m', hm, rfl⟩ := hp
      obtain ⟨vm, hv, r⟩ := e.rep i _ (qName_some hq)
      refine ⟨vm, hv, F, ρ, φ, e, _, hk, fun vk fk rk => ?_⟩
      obtain ⟨c, ob, fp', g1, g2, g3, g4⟩ := rep_put e.sub r (rep_leaf rk) (.leaf hd) (fun a ha => by simp at ha) hm
      refine g4 _ ?_
      have e4 := e.mut (qName_some hq) hv g1 g3 fun a ha => (g2 a ha).imp id fun h => by simp at h
      refine h _ _ e4 ⟨fun _ _ h => h, fun a o h => .inl h, fun a o h n => ?_, fun a h => ?_⟩
      · rw [upd_ne (by rintro rfl; exact n ⟨i, g1⟩)]; exact h
      · rcases om_mut h with h | h
        · exact .inl h
        · rcases g2 a h with h | h
          · exact .inl ⟨i, h⟩
          · simp at h
    · cases hp
  · exact h.elim
def mSwap (i : Nat) (q1 q2 : Env' → Option M) (me : Env' → R M) : Env' → O := fun ρ => match me ρ with
  | .ok x ρ1 => match x.frz with
    | some (.tuple [d1, d2]) => match putQ i q1 d1 ρ1 with
      | some ρ2 => match putQ i q2 d2 ρ2 with
        | some ρ3 => .next ρ3
        | none => .bad
      | none => .bad
    | _ => .bad
  | .err x ρ1 => .err x ρ1
  | .bad => .bad
theorem ds_swap {X : Cx} {E : XK} {J : List Nat} {i kk : Nat} {o o2 k1 k2 e : Expr} {q1 q2 : Env' → Option M} {me : Env' → R M} {p1 p2 tp pos : Pos} (hc : X.calm = true) (hu : X.A.units + 1 < cLine) (he : DE X E e me) (ho : PE X o (tVar i)) (h1 : DQ X k1 q1) (ho2 : PE X o2 (tVar i)) (h2 : DQ X k2 q2)
    (hs : swapsWithSole [.Tuple [.Subscript o k1 p1, .Subscript o2 k2 p2] kk tp] e pos.line X.env = pure false := by rfl) (hw : swappedStores [.Tuple [.Subscript o k1 p1, .Subscript o2 k2 p2] kk tp] e X.env = pure none := by rfl)
    (h3 : (assignEach [.Tuple [.Subscript o k1 p1, .Subscript o2 k2 p2] kk tp] X.env).map (·.2) = [assign (.Tuple [.Subscript o k1 p1, .Subscript o2 k2 p2] kk tp) X.env] := by rfl)
    (hn : (assignEach [.Subscript o k1 p1, .Subscript o2 k2 p2] X.env).length = 2 := by rfl) (hst : (assignEach [.Subscript o k1 p1, .Subscript o2 k2 p2] X.env).findIdx? (·.1) = none := by rfl)
    (ha : ∀ v, assign (.Subscript o k1 p1) X.env v = (do
      let ov ← holding [v] (eval o X.env)
      let iv ← holding [v, ov] (eval k1 X.env)
      standAt p1
      holding [v, ov, iv] (setItem ov iv v)
      release [v, ov, iv] []) := by intro _; rfl)
    (ha2 : ∀ v, assign (.Subscript o2 k2 p2) X.env v = (do
      let ov ← holding [v] (eval o2 X.env)
      let iv ← holding [v, ov] (eval k2 X.env)
      standAt p2
      holding [v, ov, iv] (setItem ov iv v)
      release [v, ov, iv] []) := by intro _; rfl)
    (hs1 : (assignEach [.Subscript o k1 p1, .Subscript o2 k2 p2] X.env).map (·.2) = assign (.Subscript o k1 p1) X.env :: (assignEach [.Subscript o2 k2 p2] X.env).map (·.2) := by rfl)
    (hs2 : (assignEach [.Subscript o2 k2 p2] X.env).map (·.2) = assign (.Subscript o2 k2 p2) X.env :: (assignEach [] X.env).map (·.2) := by rfl) :
    DS X E J (.Assign [.Tuple [.Subscript o k1 p1, .Subscript o2 k2 p2] kk tp] e pos) (mSwap i q1 q2 me) :=
  (ps_asg he (pg_tup hc (pgs_cons (pg_putQ hu ho h1 ha) (pgs_cons (pg_putQ hu ho2 h2 ha2) pgs_nil hs2) hs1) hn hst) hs hw h3).imp fun D σ H ⟨F, ρ, φ, e, k⟩ => by
    refine ⟨F, ρ, φ, e, ?_⟩
    unfold mSwap at k
    cases hm : me ρ with
    | bad => rw [hm] at k; exact k.elim
    | err x ρ' => rw [hm] at k; exact k.err
    | ok x ρ1 =>
      rw [hm] at k
      dsimp only at k
      intro F1 H1 φ1 v f e1 r1 d1 x1
      split at k
      · rename_i d1' d2' hz
        have hn : ∀ a ∈ f, F1 a = none := fun a ha => (r1.fp a ha).2
        have e2 := e1.freeze d1 hn
        have x2 := x1.freeze hn
        have rd := r1.frozen hz
        unfold IsD at rd
        obtain ⟨a, vs, rfl, hq, hd⟩ := rd
        unfold IsDs at hd
        obtain ⟨v1, r', rfl, hd1, hd⟩ := hd
        unfold IsDs at hd
        obtain ⟨v2, r', rfl, hd2, hd⟩ := hd
        unfold IsDs at hd
        subst hd
        refine ⟨a, [v1, v2], rfl, SqT.of (e2.sub _ _ hq), rfl, v1, [v2], rfl, _, ρ1, φ1, d1', e2, hd1, ?_⟩
        cases hp1 : putQ i q1 d1' ρ1 with
        | none => rw [hp1] at k; exact k.elim
        | some ρ2 =>
          rw [hp1] at k
          dsimp only at k ⊢
          intro H3 φ3 e3 x3
          refine ⟨v2, [], rfl, _, ρ2, φ3, d2', e3, hd2, ?_⟩
          cases hp2 : putQ i q2 d2' ρ2 with
          | none => rw [hp2] at k; exact k.elim
          | some ρ3 =>
            rw [hp2] at k
            dsimp only at k ⊢
            intro H4 φ4 e4 x4
            exact ⟨rfl, k _ _ φ4 σ e4 ((x2.trans x3).trans x4) .refl⟩
      · exact k.elim

/-! ### name.update({..}), keys ints or texts -/
def mergeV {α : Type} (ks ls : List (Key × α)) : List (Key × α) := ls.foldl (fun acc kv => putG acc kv.1 kv.2) ks
theorem kv_merge {ls : List (Key × V)} {ws : List (Key × Value)} (r : KV ls ws) : ∀ {ks : List (Key × V)} {vs : List (Key × Value)}, KV ks vs → KV (mergeV ks ls) (PySem.merged vs ws) := by
  unfold KV at r
  induction r with
  | nil => intro ks vs h; exact h
  | @cons p q ps qs hq t ih =>
    intro ks vs h
    unfold mergeV PySem.merged
    rw [List.foldl_cons, List.foldl_cons]
    have := h.put p.1 hq.2
    rw [show putK ks p.1 p.2 = putG ks p.1 p.2 from rfl, show stored vs p.1 q.2 = stored vs q.1 q.2 by rw [hq.1]] at this
    exact ih this
theorem mergeV_len {α : Type} : ∀ (ls ks : List (Key × α)), (mergeV ks ls).length ≤ ks.length + ls.length
  | [], ks => by simp [mergeV]
  | l :: ls, ks => by
    have := mergeV_len ls (putG ks l.1 l.2)
    have h2 := putG_len ks l.1 l.2
    unfold mergeV at this ⊢
    rw [List.foldl_cons, List.length_cons]
    omega
def rUpd : V → List V → Hp → VK → Prop := fun x xs H Q => ∃ a b ks ls, x = .ref a ∧ xs = [.ref b] ∧ a ≠ b ∧ H a = some (.dK ks) ∧ Rd H b (.dK ls) ∧ ks.length + ls.length ≤ sizeLine ∧ Q .non (L2.upd H a (.dK (mergeV ks ls)))
theorem mt_update {X : Cx} : MtM X "dict.update" rUpd := by
  intro pins s σ H x xs v us Q I rx rxs h
  obtain ⟨a, b, ks, ls, rfl, rfl, hne, ha, hb, hz, q⟩ := h
  cases rx
  obtain ⟨u, rfl, ru⟩ := rxs.one
  cases ru
  obtain ⟨z, hd, vs, rel, dd⟩ := dk_of I.hok ha
  obtain ⟨z2, hd2, ws, rel2, dd2⟩ := dk_rd I.hok hb
  have l1 : ks.length = vs.length := by have := congrArg List.length rel.keys; simpa using this
  have l2 : ls.length = ws.length := by have := congrArg List.length rel2.keys; simpa using this
  refine call_meetsIn PySem.F.slot_dict_update dd.typeIs PySem.F.entry_dict_update (PySem.F.args_dict_update_2 _ _) (meets_dict_update (mixKind X.prog X.w) a b hne hd2) ⟨vs, ws, dd, dd2, by rw [← l1, ← l2]; exact hz, fun h' dd' _ hs => ?_⟩
  have he : ∃ q, h'.get? a = some q := let ⟨q, _, _, hq, _⟩ := dd'; ⟨q, hq⟩
  refine ⟨.non, _, d_write (t' := s.toks) I (by rw [ha]; exact True.intro) hs he (dk_new (Nat.le_trans (mergeV_len _ _) hz) hd (kv_merge rel2 rel) dd'), rfl, q⟩
theorem reps_merge {K : Frag} {F H : Hp} : ∀ {ls : List (Key × V)} {ds : List PyData} {ks : List (Key × V)} {ms : List (Key × M)} {fp : List Addr}, IsDs K F ds (ls.map (·.2)) → ks.map (·.1) = ms.map (·.1) → (ms.map (·.1)).Nodup → Reps K F H (ks.map (·.2)) (ms.map (·.2)) fp →
    ∃ fp', (∀ a ∈ fp', a ∈ fp) ∧ Reps K F H ((mergeV ks ls).map (·.2)) ((mergeV ms ((ls.map (·.1)).zip (ds.map M.leaf))).map (·.2)) fp' ∧ (mergeV ks ls).map (·.1) = (mergeV ms ((ls.map (·.1)).zip (ds.map M.leaf))).map (·.1) ∧ ((mergeV ms ((ls.map (·.1)).zip (ds.map M.leaf))).map (·.1)).Nodup
  | [], ds, ks, ms, fp, hd, e, nd, rs => ⟨fp, fun _ h => h, by simpa [mergeV] using rs, by simpa [mergeV] using e, by simpa [mergeV] using nd⟩
  | (k, v) :: ls, [], ks, ms, fp, hd, e, nd, rs => by unfold IsDs at hd; simp at hd
  | (k, v) :: ls, d :: ds, ks, ms, fp, hd, e, nd, rs => by
    unfold IsDs at hd
    obtain ⟨v', r', e', h1, h2⟩ := hd
    simp only [List.map_cons, List.cons.injEq] at e'
    obtain ⟨rfl, rfl⟩ := e'
    obtain ⟨fp1, g1, g2, g3⟩ := reps_put (k := k) (.leaf h1) e nd rs (fun a ha => by simp at ha)
    obtain ⟨fp2, p1, p2, p3, p4⟩ := reps_merge h2 g3 (nodup_putG nd k _) g2
    refine ⟨fp2, fun a ha => (g1 a (p1 a ha)).elim id fun z => by simp at z, ?_, ?_, ?_⟩
    · exact p2
    · exact p3
    · exact p4
def mUpd (i : Nat) (mv : Env' → R M) : Env' → O := fun ρ => match qName i ρ with
  | some (.dK _) => match mv ρ with
    | .ok (.dK ls) ρ1 => match M.frzs (ls.map (·.2)), qName i ρ1 with
      | some ds, some (.dK ms) => if ms.length + ls.length ≤ 16777216 then .next (ρ1.set i (some (.dK (mergeV ms ((ls.map (·.1)).zip (ds.map M.leaf)))))) else .bad
      | _, _ => .bad
    | .err x ρ1 => .err x ρ1
    | _ => .bad
  | _ => .bad
theorem frzK_dom {ls : List (Key × M)} {ds : List PyData} (h : M.frzs (ls.map (·.2)) = some ds) : (M.dK ls).frz = some (.dict ((ls.map fun x => keyD x.1).zip ds)) := by
  unfold M.frz
  rw [frzK_eq, h]; rfl
theorem ds_update {X : Cx} {E : XK} {J : List Nat} {i : Nat} {o e : Expr} {mv : Env' → R M} {pos pos' apos : Pos} (he : DE X E e mv) (ho : PE X o (tVar i)) (hs : swapsWith (.Call (.Attribute o "update" apos) [e] [] pos) none pos'.line X.env = pure false := by rfl)
    (hbase : attributeBase o "update" X.env (eval o X.env) = eval o X.env := by rfl)
    (hfew : ((backTo pos (starEach [e] X.env)).all (fun x => !x.1) && (backToKw pos (keywordEach [] X.env)).all (fun x => x.1.isSome)
      && decide ([e].length + ([] : List Keyword).length + (if ([] : List Keyword).isEmpty then 0 else 1) < 30)) = true := by rfl)
    (hline : (apos.endLine == pos.line) = true := by rfl) (hst : starEach [e] X.env = (false, eval e X.env) :: starEach [] X.env := by rfl) (hplain : (backTo pos (starEach [] X.env)).any (·.1) = false := by rfl) :
    DS X E J (.Expr (.Call (.Attribute o "update" apos) [e] [] pos) pos') (mUpd i mv) :=
  (ps_expr (pe_bm PySem.F.plainAttrs_dict PySem.F.slot_dict_update PySem.F.type_dict_update mt_update ho (pa_cons he pa_nil hst) hbase hfew hline hst hplain) hs).imp fun D σ H ⟨F, ρ, φ, e, q⟩ => by
    unfold mUpd at q
    split at q
    · rename_i ms0 hq
      obtain ⟨v, hv, r0⟩ := e.rep i _ (qName_some hq)
      refine ⟨v, hv, ?_, F, ρ, φ, e, ?_⟩
      · generalize φ i = fi at r0
        cases r0 with | dK h1 h2 h3 h4 h5 h6 => exact .inr (.inr (.inl ⟨rfl, .inl ⟨_, h1⟩⟩))
      · cases hm : mv ρ with
        | bad => rw [hm] at q; exact q.elim
        | err x ρ' => rw [hm] at q; exact q.err
        | ok y ρ1 =>
          rw [hm] at q
          intro F1 H1 φ1 vy f e1 r1 d1 x1
          cases y with
          | dK ls =>
            dsimp only at q
            split at q
            · rename_i ds ms hfz hq2
              split at q
              · rename_i hz
                have hn : ∀ a ∈ f, F1 a = none := fun a ha => (r1.fp a ha).2
                have hfr := r1.frozen (frzK_dom hfz)
                have e2 := e1.freeze d1 hn
                have x2 := x1.freeze hn
                obtain ⟨v2, hv2, rm⟩ := e2.rep i _ (qName_some hq2)
                rw [hv] at hv2; cases hv2
                have dm : ∀ a ∈ f, a ∉ φ1 i := fun a ha hb => d1 a ha ⟨i, hb⟩
                cases r1 with
                | dK b1 b2 bk bn bs bf =>
                  rename_i b lvs fs
                  have hds : IsDs X.K (fz F1 H1 (b :: fs)) ds (lvs.map (·.2)) := bs.data (fz_mono hn) (fun a ha o ho => by unfold fz; rw [if_pos (List.mem_cons_of_mem _ ha)]; exact ho) ds hfz
                  generalize hφ : φ1 i = fi at rm dm
                  cases rm with
                  | dK h1 h2 h3 h4 h5 h6 =>
                    rename_i a kvs fa
                    have hne : a ≠ b := fun z => dm b (by simp) (by rw [← z]; simp)
                    have l1 : kvs.length = ms.length := by have := congrArg List.length h3; simpa using this
                    have l2 : lvs.length = ls.length := by have := congrArg List.length bk; simpa using this
                    refine ⟨a, b, kvs, lvs, rfl, rfl, hne, h1, .inl b1, by rw [l1, l2, sizeLine_eq]; exact hz, ?_⟩
                    obtain ⟨fp', g1, g2, g3, g4⟩ := reps_merge hds h3 h4 (h5.updN (D := a) (o := .dK (mergeV kvs lvs)) h6)
                    rw [bk] at g2 g3 g4
                    have g5 : Rep X.K (fz F1 H1 (b :: fs)) (L2.upd H1 a (.dK (mergeV kvs lvs))) (.ref a) _ (a :: fp') := .dK upd_same h2 g3 g4 g2 fun z => h6 (g1 a z)
                    have hc : a ∈ φ1 i := by rw [hφ]; simp
                    have e4 := e2.mut (qName_some hq2) hv hc g5 fun b hb => by
                      rw [hφ]
                      rcases List.mem_cons.mp hb with rfl | hb
                      · exact .inl (by simp)
                      · exact .inl (by simp [g1 b hb])
                    refine q _ _ _ σ e4 ((x2.upd (D := a) ⟨i, hc⟩).less fun b h => ?_) .refl
                    rcases om_mut h with h | h
                    · exact h
                    · rcases List.mem_cons.mp h with rfl | h
                      · exact ⟨i, hc⟩
                      · exact ⟨i, by rw [hφ]; simp [g1 b h]⟩
              · exact q.elim
            · exact q.elim
          | _ => exact q.elim
    · exact q.elim

/-! ### text.upper(), str(int), list * int -/
def gUpper : M → Option PyData
  | .leaf (.str z) => if z.length ≤ 5592405 then some (.str (Txt.upper z)) else none
  | _ => none
theorem dq_upper {X : Cx} {o : Expr} {q : Env' → Option M} {apos pos : Pos} (ho : DQ X o q) (hbase : attributeBase o "upper" X.env (eval o X.env) = eval o X.env := by rfl) (hline : (apos.endLine == pos.line) = true := by rfl) :
    DQ X (.Call (.Attribute o "upper" apos) [] [] pos) (q1 gUpper q) := (pe_upper ho hbase hline).imp fun σ H Q h => by
  have hr : R1S X.K (fun v H Q => (∃ a, v = .str a) ∧ ∃ a, v = .str a ∧ ([] : List V) = [] ∧ a.length ≤ 5592405 ∧ Q (.str (Txt.upper a)) H) gUpper := by
    intro F H v x f d Q s r h q
    unfold gUpper at h
    split at h
    · split at h
      · rename_i hz
        cases h
        have := isD_str_iff.mp (rep_leaf r)
        subst this
        exact ⟨⟨_, rfl⟩, _, rfl, rfl, hz, q _ (isD_str _)⟩
      · cases h
    · cases h
  exact i_q1 hr σ H Q h
theorem r_str {K : Frag} : R1S K (fun v => fun H Q => ∃ i, [v] = [V.int i] ∧ i.natAbs.log2 < 1920 ∧ Q (.str (toString i)) H) gStr := by
  intro F H v x f d Q s r h q
  unfold gStr at h
  split at h
  · split at h
    · rename_i hz
      cases h
      have := isD_int_iff.mp (rep_leaf r)
      subst this
      exact ⟨_, rfl, hz, q _ (isD_str _)⟩
    · cases h
  · cases h
def gMul : M → M → Option M := fun x y => match y with
  | .leaf (.int k) => match x with
    | .leaf (.int i) => (gMulI (.leaf (.int i)) (.leaf (.int k))).map .leaf
    | _ => x.lv.bind fun ds => if decide (0 ≤ k) && decide (k < 2 ^ 63) && decide (ds.length * k.toNat ≤ 16777216) then some (.lst ((List.replicate k.toNat ds).flatten.map .leaf)) else none
  | _ => none
theorem isDs_rep {K : Frag} {F : Hp} {ds : List PyData} {vs : List V} (h : IsDs K F ds vs) : ∀ k : Nat, IsDs K F (List.replicate k ds).flatten (List.replicate k vs).flatten
  | 0 => by simpa using IsDs.nil
  | k + 1 => by
    rw [List.replicate_succ, List.replicate_succ, List.flatten_cons, List.flatten_cons]
    exact h.append (isDs_rep h k)
def rMulA : L2.R2 := fun x y H Q => rI CMul (fun i j => .int (i * j)) x y H Q ∨ rRep x y H Q
theorem op_mulA {X : Cx} : OpR X (binaryOp .Mult) rMulA := by
  intro pins s σ H x y v u Q I rx ry h
  rcases h with h | h
  · exact op_mul pins s σ H x y v u Q I rx ry h
  · exact op_rep pins s σ H x y v u Q I rx ry h
theorem r_mul {K : Frag} : R2 K rMulA gMul := by
  intro F H v x fa v2 x2 f2 y Q s r r2 h q
  unfold gMul at h
  split at h
  · rename_i k
    have h2 := isD_int_iff.mp (rep_leaf r2)
    subst h2
    split at h
    · rename_i i
      rw [Option.map_eq_some_iff] at h
      obtain ⟨d, h, rfl⟩ := h
      have h1 := isD_int_iff.mp (rep_leaf r)
      subst h1
      unfold gMulI gI2 at h
      dsimp only at h
      split at h
      · rename_i hz
        cases h
        refine .inl ⟨i, k, rfl, rfl, ?_, q F H _ [] (.refl s) (.leaf (isD_int _))⟩
        simp only [Bool.or_eq_true, Bool.and_eq_true, decide_eq_true_eq] at hz
        exact hz
      · cases h
    · rename_i hx
      rw [Option.bind_eq_some_iff] at h
      obtain ⟨ds, hl, h⟩ := h
      split at h
      · rename_i hz
        cases h
        simp only [Bool.and_eq_true, decide_eq_true_eq] at hz
        obtain ⟨a, vs, rfl, h1, h2⟩ := rep_lv s r hl
        refine .inr ⟨a, k, vs, rfl, rfl, h1, by omega, hz.1.2, by rw [h2.length, sizeLine_eq]; exact hz.2, fun p hp => ?_⟩
        have hF : F p = none := by
          cases e : F p with
          | none => rfl
          | some u => rw [s p u e] at hp; cases hp
        exact q _ _ _ [p] (Grow.own1 s hp) (.lst upd_same hF (reps_leaves (isDs_rep h2 _)) (by simp))
      · cases h
  · cases h
end G
namespace G
open PySem PySem.Spec PyProof.Rows L2

/-- a def of the text with its mirror, at level k -/
structure FnT (P : Program) (w : World) (K : Frag) (mg : Str → Option Value) (base : Heap) (k : Nat) (x : Str) (n : Nat) (mf : List M → RF) : Prop where
  ex : ∃ f fd ps, FnOk P w K mg base CX0 k f fd ps (spD K mg n mf) ∧ mg x = some (.ref f) ∧ PySem.W.keepIn K (.ref f) = true ∧ Binds K fd ps []
theorem FnT.of {P : Program} {w : World} {K : Frag} {mg : Str → Option Value} {base : Heap} {k : Nat} {x x' qual : Str} {n : Nat} {mf : List M → RF} {st : Stmt} {f : Addr} {fd : FuncData} {ps : List Str} (F : Fun K x' qual st f fd) (hm : mg x = some (.ref f)) (b : Binds K fd ps [])
    (h : FnOk P w K mg base CX0 k f fd ps (spD K mg n mf)) : FnT P w K mg base k x n mf := ⟨f, fd, ps, h, hm, F.kp, b⟩
/-- a def that is never come to -/
theorem fnBad {P : Program} {w : World} {K : Frag} {mg : Str → Option Value} {base : Heap} {x qual : Str} {st : Stmt} {f : Addr} {fd : FuncData} {N ps : List Str} {k n : Nat} (F : Fun K x qual st f fd) (S : FnScope N ps (defScope st)) :
    FnOk P w K mg base CX0 (k + 1) f fd ps (spD K mg n fun _ => .bad) :=
  F.ok S (fun vs H Q E ⟨_, _, _, _, _, h⟩ => h.elim) fun cdv A outer s H vs Q E hr ⟨_, _, _, _, _, h⟩ => h.elim
section
variable {X : Cx} {E : XK} {es : List Expr} {as : List Am} {e0 : Expr} {x : Str} {p pos : Pos}
theorem de_callT {k n : Nat} {mf : List M → RF} (h : FnT X.prog X.w X.K X.mg X.base k x n mf) (hr : Room k X.A) (hg : Gl X x) (ha : DM X E (e0 :: es) as) (hl : as.length = n := by rfl) (hn : (refs as).Nodup := by decide) (hdb : (x == ("__debug__" : Str)) = false := by decide)
    (he : starEach (e0 :: es) X.env = (false, eval e0 X.env) :: starEach es X.env := by rfl) (hpl : (backTo pos (starEach es X.env)).any (·.1) = false := by rfl) : DE X E (.Call (.Name x p) (e0 :: es) [] pos) (mCall mf as) := by
  obtain ⟨f, fd, ps, h1, h2, h3, h4⟩ := h
  exact de_call h1 hr hg h2 h3 h4 ha hl hn hdb he hpl
theorem dq_cI {i : Int} (hg : Gl X x) (hm : ∃ t, X.mg x = some (.int i t)) (hd : (x == ("__debug__" : Str)) = false := by decide) : DQ X (.Name x pos) (qC (.int i)) := let ⟨_, h⟩ := hm; dq_globI hg h hd
theorem dq_cS {i : Str} (hg : Gl X x) (hm : ∃ t, X.mg x = some (.str i t)) (hd : (x == ("__debug__" : Str)) = false := by decide) : DQ X (.Name x pos) (qC (.str i)) := let ⟨_, h⟩ := hm; dq_globS hg h hd
end
/-- the script, as it is handed in -/
theorem spD_start {K : Frag} {mg : Str → Option Value} {H : Hp} {a : Addr} {ns : List Int} {mf : List M → RF} (hS : SqL K H a (ns.map V.int)) (h : ∃ outs, mf [.ro (ns.map .int)] = .ret (.leaf (.bool true)) outs) :
    spD K mg 1 mf [.ref a] H (fun v _ => v = .bl true) fun _ _ _ => False := by
  obtain ⟨outs, h⟩ := h
  have hF : Sub (fun b => if b = a then H a else none) H := fun b o e => by
    dsimp only at e
    split at e
    · rename_i hb; subst hb; exact e
    · cases e
  have hd : ∀ l : List Int, IsDs K (fun b => if b = a then H a else none) (l.map .int) (l.map V.int) := by
    intro l
    induction l with
    | nil => exact .nil
    | cons i l ih => exact .cons (isD_int i) ih
  have hq : SqL K (fun b => if b = a then H a else none) a (ns.map V.int) := by
    rcases hS with hS | hS
    · refine .inl ?_
      rcases hS with hS | ⟨o, hS⟩
      · exact .inl (by simpa using hS)
      · exact .inr ⟨o, by simpa using hS⟩
    · exact .inr hS
  refine ⟨rfl, fun b => if b = a then H a else none, [.ro (ns.map .int)], fun _ => [], ⟨hF, rfl, fun i m h => ?_, fun i j b h => by simp at h, fun _ _ => rfl⟩, ?_⟩
  · cases i with
    | zero =>
      simp at h; subst h
      exact ⟨.ref a, rfl, .ro hq (hd ns)⟩
    | succ i => simp at h
  · rw [h]
    intro F' H' φ' v f _ r _ _
    exact isD_bool_iff.mp (rep_leaf r)
end G
namespace G
open PySem PySem.Spec PyProof.Rows L2

/-! ### mirrors, run by simp -/
def O.seq (o : O) (b : Env' → O) : O := match o with
  | .next ρ => b ρ
  | o => o
@[simp] theorem O.seq_next (ρ : Env') (b : Env' → O) : (O.next ρ).seq b = b ρ := rfl
@[simp] theorem O.seq_ret (x : M) (ρ : Env') (b : Env' → O) : (O.ret x ρ).seq b = .ret x ρ := rfl
@[simp] theorem O.seq_brk (ρ : Env') (b : Env' → O) : (O.brk ρ).seq b = .brk ρ := rfl
@[simp] theorem O.seq_cont (ρ : Env') (b : Env' → O) : (O.cont ρ).seq b = .cont ρ := rfl
@[simp] theorem O.seq_bad (b : Env' → O) : O.bad.seq b = .bad := rfl
@[simp] theorem ap_seq (a b : Env' → O) (ρ : Env') : mSeq a b ρ = (a ρ).seq b := by unfold mSeq O.seq; rfl
@[simp] theorem ap_skip (ρ : Env') : mSkip ρ = .next ρ := rfl
def R.set (r : R M) (i : Nat) : O := match r with
  | .ok x ρ => .next (ρ.set i (some x))
  | .err x ρ => .err x ρ
  | .bad => .bad
@[simp] theorem R.set_ok (x : M) (ρ : Env') (i : Nat) : (R.ok x ρ).set i = .next (ρ.set i (some x)) := rfl
@[simp] theorem R.set_bad (i : Nat) : (R.bad : R M).set i = .bad := rfl
@[simp] theorem ap_set (i : Nat) (m : Env' → R M) (ρ : Env') : mSet i m ρ = (m ρ).set i := by unfold mSet R.set; rfl
def R.exp (r : R M) : O := match r with
  | .ok _ ρ => .next ρ
  | .err x ρ => .err x ρ
  | .bad => .bad
@[simp] theorem R.exp_ok (x : M) (ρ : Env') : (R.ok x ρ).exp = .next ρ := rfl
@[simp] theorem ap_expr (m : Env' → R M) (ρ : Env') : mExpr m ρ = (m ρ).exp := by unfold mExpr R.exp; rfl
def R.out (r : R M) : O := match r with
  | .ok x ρ => .ret x ρ
  | .err x ρ => .err x ρ
  | .bad => .bad
@[simp] theorem R.out_ok (x : M) (ρ : Env') : (R.ok x ρ).out = .ret x ρ := rfl
@[simp] theorem R.out_bad : (R.bad : R M).out = .bad := rfl
@[simp] theorem ap_ret (m : Env' → R M) (ρ : Env') : mRet m ρ = (m ρ).out := by unfold mRet R.out; rfl
def R.iff (r : R Bool) (a b : Env' → O) : O := match r with
  | .ok true ρ => a ρ
  | .ok false ρ => b ρ
  | .err x ρ => .err x ρ
  | .bad => .bad
@[simp] theorem R.iff_t (ρ : Env') (a b : Env' → O) : (R.ok true ρ).iff a b = a ρ := rfl
@[simp] theorem R.iff_f (ρ : Env') (a b : Env' → O) : (R.ok false ρ).iff a b = b ρ := rfl
theorem R.iff_ok (c : Bool) (ρ : Env') (a b : Env' → O) : (R.ok c ρ).iff a b = bif c then a ρ else b ρ := by cases c <;> rfl
@[simp] theorem R.iff_bad (a b : Env' → O) : (R.bad).iff a b = .bad := rfl
@[simp] theorem ap_ifS (c : Env' → R Bool) (a b : Env' → O) (ρ : Env') : mIfS c a b ρ = (c ρ).iff a b := by unfold mIfS R.iff; rfl
def R.for_ (r : R (List PyData)) (g : PyData → Env' → Option Env') (b : Env' → O) : O := match r with
  | .ok ds ρ => mLoop g b ds ρ
  | .err x ρ => .err x ρ
  | .bad => .bad
@[simp] theorem R.for_ok (ds : List PyData) (ρ : Env') (g : PyData → Env' → Option Env') (b : Env' → O) : (R.ok ds ρ).for_ g b = mLoop g b ds ρ := rfl
@[simp] theorem ap_for (it : Env' → R (List PyData)) (g : PyData → Env' → Option Env') (b : Env' → O) (ρ : Env') : mFor it g b ρ = (it ρ).for_ g b := by unfold mFor R.for_; rfl
def O.loop (o : O) (g : PyData → Env' → Option Env') (b : Env' → O) (ds : List PyData) : O := match o with
  | .next ρ => mLoop g b ds ρ
  | .cont ρ => mLoop g b ds ρ
  | .brk ρ => .next ρ
  | o => o
@[simp] theorem O.loop_next (ρ : Env') (g : PyData → Env' → Option Env') (b : Env' → O) (ds : List PyData) : (O.next ρ).loop g b ds = mLoop g b ds ρ := rfl
@[simp] theorem O.loop_ret (x : M) (ρ : Env') (g : PyData → Env' → Option Env') (b : Env' → O) (ds : List PyData) : (O.ret x ρ).loop g b ds = .ret x ρ := rfl
@[simp] theorem O.loop_bad (g : PyData → Env' → Option Env') (b : Env' → O) (ds : List PyData) : (O.bad).loop g b ds = .bad := rfl
@[simp] theorem loop_nil (g : PyData → Env' → Option Env') (b : Env' → O) (ρ : Env') : mLoop g b [] ρ = .next ρ := rfl
theorem loop_cons {g : PyData → Env' → Option Env'} {b : Env' → O} {d : PyData} {ds : List PyData} {ρ ρ1 : Env'} (h : g d ρ = some ρ1) : mLoop g b (d :: ds) ρ = (b ρ1).loop g b ds := by
  rw [mLoop, h]; unfold O.loop; rfl
def tstM (x : M) (ρ : Env') : R Bool := match x with
  | .leaf (.bool b) => .ok b ρ
  | _ => .bad
@[simp] theorem tstM_b (b : Bool) (ρ : Env') : tstM (.leaf (.bool b)) ρ = .ok b ρ := rfl
@[simp] theorem ap_test (m : Env' → R M) (ρ : Env') : mTest m ρ = (m ρ).bind tstM := by unfold mTest tstM; rfl
@[simp] theorem ap_andT (a b : Env' → R Bool) (ρ : Env') : mAndT a b ρ = (a ρ).bind fun c ρ1 => bif c then b ρ1 else .ok false ρ1 := rfl
@[simp] theorem ap_orT (a b : Env' → R Bool) (ρ : Env') : mOrT a b ρ = (a ρ).bind fun c ρ1 => bif c then .ok true ρ1 else b ρ1 := rfl
@[simp] theorem ap_notT (a : Env' → R Bool) (ρ : Env') : mNotT a ρ = (a ρ).bind fun c ρ1 => .ok (!c) ρ1 := rfl
@[simp] theorem ap_and (a b : Env' → R M) (ρ : Env') : mAnd a b ρ = ((a ρ).bind tstM).bind fun c ρ1 => bif c then b ρ1 else .ok (.leaf (.bool false)) ρ1 := by unfold mAnd; rw [ap_test]
@[simp] theorem ap_or (a b : Env' → R M) (ρ : Env') : mOr a b ρ = ((a ρ).bind tstM).bind fun c ρ1 => bif c then .ok (.leaf (.bool true)) ρ1 else b ρ1 := by unfold mOr; rw [ap_test]
@[simp] theorem ap_not (a : Env' → R M) (ρ : Env') : mNot a ρ = ((a ρ).bind tstM).bind fun c ρ1 => .ok (.leaf (.bool (!c))) ρ1 := by unfold mNot; rw [ap_test]
@[simp] theorem ap_if (c : Env' → R Bool) (a b : Env' → R M) (ρ : Env') : mIf c a b ρ = (c ρ).bind fun t ρ1 => bif t then a ρ1 else b ρ1 := rfl
def rd (o : Option M) (ρ : Env') : R M := match o with
  | some (.leaf d) => .ok (.leaf d) ρ
  | _ => .bad
@[simp] theorem rd_leaf (d : PyData) (ρ : Env') : rd (some (.leaf d)) ρ = .ok (.leaf d) ρ := rfl
@[simp] theorem ap_Q (q : Env' → Option M) (ρ : Env') : mQ q ρ = rd (q ρ) ρ := by unfold mQ rd; rfl
@[simp] theorem ap_C (d : PyData) (ρ : Env') : qC d ρ = some (.leaf d) := rfl
@[simp] theorem ap_q (i : Nat) (ρ : Env') : qName i ρ = (ρ[i]?).join := rfl
def nmM (o : Option M) (i : Nat) (ρ : Env') : R M := match o with
  | some (.leaf d) => .ok (.leaf d) ρ
  | some m => match m.frz with
    | some d => .ok (.leaf d) (ρ.set i (some (.leaf d)))
    | none => .bad
  | none => .bad
@[simp] theorem nmM_leaf (d : PyData) (i : Nat) (ρ : Env') : nmM (some (.leaf d)) i ρ = .ok (.leaf d) ρ := rfl
@[simp] theorem frzs_leaves (ds : List PyData) : M.frzs (ds.map .leaf) = some ds := by
  induction ds with
  | nil => rfl
  | cons d r ih => simp [M.frzs, M.frz, ih]
@[simp] theorem frz_leaf (d : PyData) : (M.leaf d).frz = some d := rfl
@[simp] theorem frz_lst (ds : List PyData) : (M.lst (ds.map .leaf)).frz = some (.list ds) := by simp [M.frz]
@[simp] theorem frz_lst2 (ds : List M) : (M.lst ds).frz = (M.frzs ds).map .list := by simp [M.frz]
@[simp] theorem frzs_nil : M.frzs [] = some [] := rfl
@[simp] theorem frzs_cons1 (d : PyData) (ms : List M) : M.frzs (.leaf d :: ms) = (M.frzs ms).map (d :: ·) := by
  simp only [M.frzs, M.frz]; cases M.frzs ms <;> rfl
@[simp] theorem nmM_lst (ds : List PyData) (i : Nat) (ρ : Env') : nmM (some (.lst (ds.map .leaf))) i ρ = .ok (.leaf (.list ds)) (ρ.set i (some (.leaf (.list ds)))) := by
  unfold nmM; simp
@[simp] theorem ap_name (i : Nat) (ρ : Env') : mName i ρ = nmM (qName i ρ) i ρ := by unfold mName nmM; rfl
def mvM (o : Option M) (i : Nat) (ρ : Env') : R M := match o with
  | some m => .ok m (ρ.set i none)
  | none => .bad
@[simp] theorem mvM_some (m : M) (i : Nat) (ρ : Env') : mvM (some m) i ρ = .ok m (ρ.set i none) := rfl
@[simp] theorem ap_move (i : Nat) (ρ : Env') : mMove i ρ = mvM (qName i ρ) i ρ := by unfold mMove mvM; rfl
@[simp] theorem ap_q1 (g : M → Option PyData) (q : Env' → Option M) (ρ : Env') : q1 g q ρ = (q ρ).bind fun x => (g x).map .leaf := by
  unfold q1 lf; cases q ρ <;> rfl
@[simp] theorem ap_q2 (g : M → M → Option PyData) (a b : Env' → Option M) (ρ : Env') : q2 g a b ρ = (a ρ).bind fun x => (b ρ).bind fun y => (g x y).map .leaf := by
  unfold q2 lf2; cases a ρ <;> cases b ρ <;> rfl
def opt (o : Option M) (ρ : Env') : R M := match o with
  | some y => .ok y ρ
  | none => .bad
@[simp] theorem opt_some (y : M) (ρ : Env') : opt (some y) ρ = .ok y ρ := rfl
@[simp] theorem opt_none (ρ : Env') : opt none ρ = .bad := rfl
@[simp] theorem ap_m1 (g : M → Option M) (m : Env' → R M) (ρ : Env') : m1 g m ρ = (m ρ).bind fun x ρ1 => opt (g x) ρ1 := by unfold m1 opt; rfl
@[simp] theorem ap_m1q (g : M → Option M) (q : Env' → Option M) (ρ : Env') : m1q g q ρ = opt ((q ρ).bind g) ρ := by
  unfold m1q opt; cases q ρ with
  | none => rfl
  | some x => first | (dsimp only [Option.bind]; done) | (dsimp only [Option.bind]; rfl)
@[simp] theorem ap_m2 (g : M → M → Option M) (a b : Env' → R M) (ρ : Env') : m2 g a b ρ = (a ρ).bind fun x ρ1 => (b ρ1).bind fun y ρ2 => opt (g x y) ρ2 := by unfold m2 opt; rfl
@[simp] theorem ap_m2q (g : M → M → Option M) (a b : Env' → Option M) (ρ : Env') : m2q g a b ρ = opt ((a ρ).bind fun x => (b ρ).bind fun y => g x y) ρ := by
  unfold m2q opt; cases a ρ with
  | none => rfl
  | some x => cases b ρ with
    | none => rfl
    | some y => rfl
@[simp] theorem ap_m2eq (g : M → M → Option M) (a : Env' → R M) (b : Env' → Option M) (ρ : Env') : m2eq g a b ρ = (a ρ).bind fun x ρ1 => opt ((b ρ1).bind fun y => g x y) ρ1 := by
  unfold m2eq opt; congr 1; funext x ρ1; cases b ρ1 <;> rfl
def oM {α : Type} (o : Option M) (r : R α) : R α := match o with
  | some _ => r
  | none => .bad
@[simp] theorem oM_some {α : Type} (m : M) (r : R α) : oM (some m) r = r := rfl
@[simp] theorem ap_m2l (g : M → M → Option M) (i : Nat) (b : Env' → R M) (ρ : Env') : m2l g i b ρ = oM (qName i ρ) ((b ρ).bind fun y ρ1 => opt ((qName i ρ1).bind fun x => g x y) ρ1) := by
  unfold m2l oM opt
  cases qName i ρ with
  | none => rfl
  | some x => dsimp only; congr 1; funext y ρ1; cases qName i ρ1 <;> rfl
@[simp] theorem ap_lf (g : M → Option PyData) (x : M) : lf g x = (g x).map .leaf := rfl
@[simp] theorem ap_lf2 (g : M → M → Option PyData) (x y : M) : lf2 g x y = (g x y).map .leaf := rfl
@[simp] theorem ap_nil (ρ : Env') : mNil ρ = .ok [] ρ := rfl
def fz1 (o : Option PyData) (r : R (List PyData)) : R (List PyData) := match o with
  | some d => r.bind fun ds ρ => .ok (d :: ds) ρ
  | none => .bad
@[simp] theorem fz1_some (d : PyData) (r : R (List PyData)) : fz1 (some d) r = r.bind fun ds ρ => .ok (d :: ds) ρ := rfl
@[simp] theorem ap_cons (m : Env' → R M) (ms : Env' → R (List PyData)) (ρ : Env') : mCons m ms ρ = (m ρ).bind fun x ρ1 => fz1 x.frz (ms ρ1) := by
  unfold mCons fz1; congr 1; all_goals (try (funext x ρ1; cases x.frz <;> rfl))
@[simp] theorem ap_tup (ms : Env' → R (List PyData)) (ρ : Env') : mTup ms ρ = (ms ρ).bind fun ds ρ1 => .ok (.leaf (.tuple ds)) ρ1 := rfl
@[simp] theorem ap_lst (ms : Env' → R (List PyData)) (ρ : Env') : mLst ms ρ = (ms ρ).bind fun ds ρ1 => .ok (.lst (ds.map .leaf)) ρ1 := rfl
@[simp] theorem ap_newK (ρ : Env') : mNewK ρ = .ok (.dK []) ρ := rfl
@[simp] theorem ap_newT (ρ : Env') : mNewT ρ = .ok (.dT []) ρ := rfl
/-! calls -/
def fz2 (o : Option PyData) (r : R (List (Option PyData))) : R (List (Option PyData)) := match o with
  | some d => r.bind fun ds ρ => .ok (some d :: ds) ρ
  | none => .bad
@[simp] theorem fz2_some (d : PyData) (r : R (List (Option PyData))) : fz2 (some d) r = r.bind fun ds ρ => .ok (some d :: ds) ρ := rfl
@[simp] theorem evA_nil (ρ : Env') : evA [] ρ = .ok [] ρ := rfl
@[simp] theorem evA_val (m : Env' → R M) (as : List Am) (ρ : Env') : evA (.val m :: as) ρ = (m ρ).bind fun x ρ1 => fz2 x.frz (evA as ρ1) := by
  rw [evA]; rfl
@[simp] theorem evA_ref (j : Nat) (as : List Am) (ρ : Env') : evA (.ref j :: as) ρ = oM (qName j ρ) ((evA as ρ).bind fun ds ρ1 => .ok (none :: ds) ρ1) := by
  rw [evA]; unfold oM; cases qName j ρ <;> rfl
@[simp] theorem gat_nil (ρ : Env') : gat [] [] ρ = some [] := rfl
@[simp] theorem gat_val (m : Env' → R M) (as : List Am) (d : PyData) (ds : List (Option PyData)) (ρ : Env') : gat (.val m :: as) (some d :: ds) ρ = (gat as ds ρ).map (.leaf d :: ·) := rfl
@[simp] theorem gat_ref (j : Nat) (as : List Am) (ds : List (Option PyData)) (ρ : Env') : gat (.ref j :: as) (none :: ds) ρ = (qName j ρ).bind fun m => (gat as ds ρ).map (m :: ·) := by
  rw [gat]; cases qName j ρ <;> rfl
def cal (mf : List M → RF) (as : List Am) (o : Option (List M)) (ρ : Env') : R M := match o with
  | some ms => match mf ms with
    | .ret x outs => .ok x (scat as outs 0 ρ)
    | _ => .bad
  | none => .bad
def RF.back (r : RF) (as : List Am) (ρ : Env') : R M := match r with
  | .ret x outs => .ok x (scat as outs 0 ρ)
  | _ => .bad
@[simp] theorem RF.back_ret (x : M) (outs : Env') (as : List Am) (ρ : Env') : (RF.ret x outs).back as ρ = .ok x (scat as outs 0 ρ) := rfl
@[simp] theorem cal_some (mf : List M → RF) (as : List Am) (ms : List M) (ρ : Env') : cal mf as (some ms) ρ = (mf ms).back as ρ := rfl
@[simp] theorem ap_call (mf : List M → RF) (as : List Am) (ρ : Env') : mCall mf as ρ = (evA as ρ).bind fun ds ρ1 => cal mf as (gat as ds ρ1) ρ1 := by
  unfold mCall cal; rfl
@[simp] theorem refAt_nil (k j : Nat) : refAt [] k j = none := rfl
@[simp] theorem refAt_val (m : Env' → R M) (as : List Am) (k j : Nat) : refAt (.val m :: as) k j = refAt as (k + 1) j := rfl
@[simp] theorem refAt_ref (i : Nat) (as : List Am) (k j : Nat) : refAt (.ref i :: as) k j = if i = j then some k else refAt as (k + 1) j := rfl
def put1 (o : Option Nat) (outs : Env') (old : Option M) : Option M := match o with
  | some i => (outs[i]?).join
  | none => old
@[simp] theorem put1_some (i : Nat) (outs : Env') (old : Option M) : put1 (some i) outs old = (outs[i]?).join := rfl
@[simp] theorem put1_none (outs : Env') (old : Option M) : put1 none outs old = old := rfl
@[simp] theorem scat_nil (as : List Am) (outs : Env') (k : Nat) : scat as outs k [] = [] := rfl
@[simp] theorem scat_cons (as : List Am) (outs : Env') (k : Nat) (o : Option M) (r : Env') : scat as outs k (o :: r) = put1 (refAt as 0 k) outs o :: scat as outs (k + 1) r := rfl
def O.fin (o : O) (n : Nat) (J : List Nat) : RF := match o with
  | .next ρ => .ret (.leaf .none) (mask J 0 n ρ)
  | .ret x ρ => .ret x (mask J 0 n ρ)
  | .err x ρ => .err x (mask J 0 n ρ)
  | _ => .bad
@[simp] theorem O.fin_ret (x : M) (ρ : Env') (n : Nat) (J : List Nat) : (O.ret x ρ).fin n J = .ret x (mask J 0 n ρ) := rfl
@[simp] theorem O.fin_next (ρ : Env') (n : Nat) (J : List Nat) : (O.next ρ).fin n J = .ret (.leaf .none) (mask J 0 n ρ) := rfl
theorem run_ap (n N : Nat) (J : List Nat) (body : Env' → O) (ms : List M) : runF n N J body ms = (body (ms.map some ++ List.replicate (N - ms.length) none)).fin n J := by unfold runF O.fin; rfl
@[simp] theorem mask_0 (J : List Nat) (i : Nat) (ρ : Env') : mask J i 0 ρ = [] := rfl
@[simp] theorem mask_cons (J : List Nat) (i n : Nat) (o : Option M) (r : Env') : mask J i (n + 1) (o :: r) = (if i ∈ J then o else none) :: mask J (i + 1) n r := rfl
/-! stores -/
def putO (o : Option M) (i : Nat) (ρ : Env') : O := match o with
  | some m => .next (ρ.set i (some m))
  | none => .bad
@[simp] theorem putO_some (m : M) (i : Nat) (ρ : Env') : putO (some m) i ρ = .next (ρ.set i (some m)) := rfl
def R.oo (r : R M) (f : M → Env' → O) : O := match r with
  | .ok x ρ => f x ρ
  | .err x ρ => .err x ρ
  | .bad => .bad
@[simp] theorem R.oo_ok (x : M) (ρ : Env') (f : M → Env' → O) : (R.ok x ρ).oo f = f x ρ := rfl
@[simp] theorem R.oo_bad (f : M → Env' → O) : (R.bad : R M).oo f = .bad := rfl
def oO (o : Option M) (r : O) : O := match o with
  | some _ => r
  | none => .bad
@[simp] theorem oO_some (m : M) (r : O) : oO (some m) r = r := rfl
@[simp] theorem ap_put (i : Nat) (mv mk : Env' → R M) (ρ : Env') : mPut i mv mk ρ = (mv ρ).oo fun y ρ1 => oO (qName i ρ1) ((mk ρ1).oo fun k ρ2 => putO (k.frz.bind fun d => (qName i ρ2).bind fun m => m.put d y) i ρ2) := by
  unfold mPut R.oo oO putO
  cases mv ρ with
  | ok y ρ1 =>
    dsimp only
    cases qName i ρ1 with
    | none => rfl
    | some m0 =>
      dsimp only
      cases mk ρ1 with
      | ok k ρ2 =>
        dsimp only
        cases k.frz with
        | none => rfl
        | some d => cases qName i ρ2 <;> rfl
      | err x ρ2 => rfl
      | bad => rfl
  | err x ρ1 => rfl
  | bad => rfl
end G
namespace G
open PySem PySem.Spec PyProof.Rows L2

@[simp] theorem ap_noPart (ρ : Env') : mNoPart ρ = .ok none ρ := rfl
def prt (x : M) (ρ : Env') : R (Option Int) := match x with
  | .leaf (.int i) => .ok (some i) ρ
  | _ => .bad
@[simp] theorem prt_int (i : Int) (ρ : Env') : prt (.leaf (.int i)) ρ = .ok (some i) ρ := rfl
@[simp] theorem ap_part (m : Env' → R M) (ρ : Env') : mPart m ρ = (m ρ).bind prt := by unfold mPart prt; rfl
@[simp] theorem ap_sl (m : Env' → R M) (l h : Env' → R (Option Int)) (ρ : Env') : mSl m l h ρ = (m ρ).bind fun x ρ1 => (l ρ1).bind fun lo ρ2 => (h ρ2).bind fun hi ρ3 => opt (gSl x lo hi) ρ3 := by
  unfold mSl opt; rfl
theorem cutD_mem {ds : List PyData} {lo hi : Option Int} {x : PyData} (h : x ∈ cutD ds lo hi) : x ∈ ds := List.mem_of_mem_drop (List.mem_of_mem_take h)
theorem cutD_len {ds : List PyData} {lo hi : Option Int} : (cutD ds lo hi).length ≤ ds.length := by
  unfold cutD; rw [List.length_take, List.length_drop]; omega
@[simp] theorem gSl_list (ds : List PyData) (lo hi : Option Int) : gSl (.leaf (.list ds)) lo hi = some (.lst ((cutD ds lo hi).map .leaf)) := rfl
@[simp] theorem gSl_tuple (ds : List PyData) (lo hi : Option Int) : gSl (.leaf (.tuple ds)) lo hi = some (.leaf (.tuple (cutD ds lo hi))) := rfl
def put2 (o : Option Env') : O := match o with
  | some ρ => .next ρ
  | none => .bad
@[simp] theorem put2_some (ρ : Env') : put2 (some ρ) = .next ρ := rfl
def two2 (o : Option PyData) (f : PyData → PyData → Option Env') : O := match o with
  | some (.tuple [a, b]) => put2 (f a b)
  | _ => .bad
@[simp] theorem two2_t (a b : PyData) (f : PyData → PyData → Option Env') : two2 (some (.tuple [a, b])) f = put2 (f a b) := rfl
@[simp] theorem ap_swap (i : Nat) (q1 q2 : Env' → Option M) (me : Env' → R M) (ρ : Env') : mSwap i q1 q2 me ρ = (me ρ).oo fun x ρ1 => two2 x.frz fun a b => (putQ i q1 a ρ1).bind (putQ i q2 b) := by
  unfold mSwap R.oo
  cases me ρ with
  | ok x ρ1 =>
    dsimp only
    cases hx : x.frz with
    | none => rfl
    | some d =>
      cases d with
      | tuple ds =>
        match ds with
        | [a, b] =>
          simp only [two2_t]
          cases h : putQ i q1 a ρ1 with
          | none => simp [h, put2]
          | some ρ2 => simp only [h, Option.bind_some]; cases h2 : putQ i q2 b ρ2 <;> simp [h2, put2]
        | [] => rfl
        | [a] => rfl
        | a :: b :: c :: r => rfl
      | _ => rfl
  | err x ρ1 => rfl
  | bad => rfl
theorem putQ_lst {i : Nat} {q : Env' → Option M} {d : PyData} {ρ : Env'} {ms : List M} {j : Int} {n : Nat} (h1 : qName i ρ = some (.lst ms)) (h2 : q ρ = some (.leaf (.int j))) (h3 : ixN ms.length j = some n) : putQ i q d ρ = some (ρ.set i (some (.lst (ms.set n (.leaf d))))) := by
  unfold putQ
  rw [h1, h2]
  simp [M.put, h3]
def itm (o : Option (List PyData)) (ρ : Env') : R (List PyData) := match o with
  | some ds => .ok ds ρ
  | none => .bad
@[simp] theorem itm_some (ds : List PyData) (ρ : Env') : itm (some ds) ρ = .ok ds ρ := rfl
@[simp] theorem ap_it (m : Env' → R M) (ρ : Env') : mIt m ρ = (m ρ).bind fun x ρ1 => itm (x.frz.bind itemsD) ρ1 := by unfold mIt itm; rfl
@[simp] theorem items_list (ds : List PyData) : itemsD (.list ds) = some ds := rfl
@[simp] theorem items_tuple (ds : List PyData) : itemsD (.tuple ds) = some ds := rfl
def rg1 (l : List PyData) (ρ : Env') : R (List PyData) := match l with
  | [.int j] => if inR j then .ok (rangeD 0 1 j.toNat) ρ else .bad
  | _ => .bad
theorem rg1_ok {j : Int} (ρ : Env') (h : inR j = true) : rg1 [.int j] ρ = .ok (rangeD 0 1 j.toNat) ρ := by unfold rg1; simp [h]
@[simp] theorem ap_itR1 (ms : Env' → R (List PyData)) (ρ : Env') : mItR1 ms ρ = (ms ρ).bind rg1 := by unfold mItR1 rg1; rfl
theorem rangeD_mem {n : Nat} {d : PyData} (h : d ∈ rangeD 0 1 n) : ∃ k : Nat, k < n ∧ d = .int k := by
  unfold rangeD at h
  obtain ⟨k, hk, rfl⟩ := List.mem_map.mp h
  exact ⟨k, List.mem_range.mp hk, by simp⟩
@[simp] theorem ap_true (ρ : Env') : tTrue ρ = .ok true ρ := rfl

/-- a loop with an invariant -/
theorem loop_inv {g : PyData → Env' → Option Env'} {b : Env' → O} (P : Env' → Prop) {ds : List PyData} (hs : ∀ d ∈ ds, ∀ ρ, P ρ → ∃ ρ1 ρ2, g d ρ = some ρ1 ∧ b ρ1 = .next ρ2 ∧ P ρ2) : ∀ ρ, P ρ → ∃ ρ', mLoop g b ds ρ = .next ρ' ∧ P ρ' := by
  induction ds with
  | nil => intro ρ h; exact ⟨ρ, rfl, h⟩
  | cons d ds ih =>
    intro ρ h
    obtain ⟨ρ1, ρ2, h1, h2, h3⟩ := hs d (by simp) ρ h
    rw [loop_cons h1, h2, O.loop_next]
    exact ih (fun d hd => hs d (by simp [hd])) ρ2 h3
/-- a loop that may return -/
theorem loop_ret {g : PyData → Env' → Option Env'} {b : Env' → O} {ds : List PyData} {ρ0 : Env'} {x : M} {ρr : PyData → Env'} {f : PyData → Bool} {nx : PyData → Env'} (ok : Env' → Prop) (h0 : ok ρ0)
    (hs : ∀ d ∈ ds, ∀ ρ, ok ρ → ∃ ρ1, g d ρ = some ρ1 ∧ (f d = true → ∃ ρ2, b ρ1 = .next ρ2 ∧ ok ρ2) ∧ (f d = false → ∃ ρ2, b ρ1 = .ret x ρ2 ∧ ok ρ2)) :
    (ds.all f = true → ∃ ρ', mLoop g b ds ρ0 = .next ρ' ∧ ok ρ') ∧ (ds.all f = false → ∃ ρ', mLoop g b ds ρ0 = .ret x ρ' ∧ ok ρ') := by
  induction ds generalizing ρ0 with
  | nil => exact ⟨fun _ => ⟨ρ0, rfl, h0⟩, fun h => by simp at h⟩
  | cons d ds ih =>
    obtain ⟨ρ1, h1, h2, h3⟩ := hs d (by simp) ρ0 h0
    rw [loop_cons h1]
    cases hf : f d with
    | true =>
      obtain ⟨ρ2, h4, h5⟩ := h2 hf
      rw [h4, O.loop_next]
      simpa [hf] using ih h5 fun d hd => hs d (by simp [hd])
    | false =>
      obtain ⟨ρ2, h4, h5⟩ := h3 hf
      rw [h4, O.loop_ret]
      exact ⟨fun h => by simp [hf] at h, fun _ => ⟨ρ2, rfl, h5⟩⟩
/-! comprehensions over one name, without a test -/
theorem cLoop_map {i : Nat} {el : Env' → R M} {f : PyData → M} {ρ : Env'} : ∀ {ds : List PyData} {acc : List M}, (∀ d ∈ ds, el (ρ.set i (some (.leaf d))) = .ok (f d) (ρ.set i (some (.leaf d)))) →
    cLoop (gN i) tTrue el [i] ds (ρ.set i none) acc = .ok (acc ++ ds.map f) (ρ.set i none)
  | [], acc, _ => by simp [cLoop]
  | d :: ds, acc, h => by
    have e := h d (by simp)
    rw [cLoop]
    simp only [gN, List.set_set, ap_true, e, wipeE]
    rw [cLoop_map fun d hd => h d (by simp [hd])]
    simp
theorem rest_one {i : Nat} {ρ : Env'} (h : i < ρ.length) : rest' [i] ρ 0 (ρ.set i none) = ρ := by
  apply List.ext_getElem?
  intro j
  rw [rest_get, Nat.zero_add]
  by_cases hj : j = i
  · subst hj
    rw [List.getElem?_set_self h]
    simp [h]
  · rw [List.getElem?_set_ne (Ne.symm hj)]
    simp [hj]
theorem comp_map {i : Nat} {it : Env' → R (List PyData)} {el : Env' → R M} {f : PyData → M} {ρ0 ρ : Env'} {ds : List PyData} (hi : it ρ0 = .ok ds ρ) (hl : i < ρ.length) (hf : isLeaf ρ[i]? = true) (hz : ds.length ≤ 1000000)
    (h : ∀ d ∈ ds, el (ρ.set i (some (.leaf d))) = .ok (f d) (ρ.set i (some (.leaf d)))) : mComp it (gN i) tTrue el [i] ρ0 = .ok (.lst (ds.map f)) ρ := by
  unfold mComp
  rw [hi]
  simp only [List.all_cons, List.all_nil, hf, Bool.and_true, hz, and_self, if_true, wipeE]
  rw [cLoop_map h]
  simp [rest_one hl]
theorem dLoop_fold {i : Nat} {mk mv : Env' → R M} {kf : PyData → Key} {v : PyData} {ρ : Env'} : ∀ {ds : List PyData} {acc : List (Key × M)}, (∀ d ∈ ds, mk (ρ.set i (some (.leaf d))) = .ok (.leaf (keyD (kf d))) (ρ.set i (some (.leaf d))) ∧ mv (ρ.set i (some (.leaf d))) = .ok (.leaf v) (ρ.set i (some (.leaf d)))) →
    dLoop (gN i) tTrue mk mv [i] ds (ρ.set i none) acc = .ok (ds.foldl (fun a d => putG a (kf d) (.leaf v)) acc) (ρ.set i none)
  | [], acc, _ => by simp [dLoop]
  | d :: ds, acc, h => by
    obtain ⟨e1, e2⟩ := h d (by simp)
    have hk : (M.leaf (keyD (kf d))).key = some (kf d) := by cases kf d <;> rfl
    rw [dLoop]
    simp only [gN, List.set_set, ap_true, e1, e2, wipeE, hk]
    rw [dLoop_fold fun d hd => h d (by simp [hd])]
    simp
theorem dcomp_fold {i : Nat} {it : Env' → R (List PyData)} {mk mv : Env' → R M} {kf : PyData → Key} {v : PyData} {ρ0 ρ : Env'} {ds : List PyData} (hi : it ρ0 = .ok ds ρ) (hl : i < ρ.length) (hf : isLeaf ρ[i]? = true) (hz : ds.length ≤ 1000000)
    (h : ∀ d ∈ ds, mk (ρ.set i (some (.leaf d))) = .ok (.leaf (keyD (kf d))) (ρ.set i (some (.leaf d))) ∧ mv (ρ.set i (some (.leaf d))) = .ok (.leaf v) (ρ.set i (some (.leaf d)))) :
    mDComp it (gN i) tTrue mk mv [i] ρ0 = .ok (.dK (ds.foldl (fun a d => putG a (kf d) (.leaf v)) [])) ρ := by
  unfold mDComp
  rw [hi]
  simp only [List.all_cons, List.all_nil, hf, Bool.and_true, hz, and_self, if_true, wipeE]
  rw [dLoop_fold h]
  simp [rest_one hl]
theorem mem_putG {κ α : Type} [DecidableEq κ] {l : List (κ × α)} {k k' : κ} {v : α} : k' ∈ (putG l k v).map (·.1) ↔ k' ∈ l.map (·.1) ∨ k' = k := by
  rw [keys_putG]
  split
  · rename_i h
    constructor
    · exact .inl
    · rintro (h' | rfl)
      · exact h'
      · obtain ⟨x, hx, e⟩ := List.any_eq_true.mp h
        exact List.mem_map.mpr ⟨x, hx, by simpa using e⟩
  · simp
theorem mem_foldG {κ : Type} [DecidableEq κ] {kf : PyData → κ} {v : M} {k : κ} : ∀ {ds : List PyData} {acc : List (κ × M)}, k ∈ (ds.foldl (fun a d => putG a (kf d) v) acc).map (·.1) ↔ k ∈ acc.map (·.1) ∨ ∃ d ∈ ds, kf d = k
  | [], acc => by simp
  | d :: ds, acc => by
    rw [List.foldl_cons, mem_foldG, mem_putG]
    simp only [List.mem_cons, exists_eq_or_imp]
    constructor
    · rintro ((h | h) | h)
      · exact .inl h
      · exact .inr (.inl h.symm)
      · exact .inr (.inr h)
    · rintro (h | h | h)
      · exact .inl (.inl h)
      · exact .inl (.inr h.symm)
      · exact .inr h
theorem mem_mergeV {α : Type} {k : Key} : ∀ {ls ks : List (Key × α)}, k ∈ (mergeV ks ls).map (·.1) ↔ k ∈ ks.map (·.1) ∨ k ∈ ls.map (·.1)
  | [], ks => by simp [mergeV]
  | l :: ls, ks => by
    have := mem_mergeV (k := k) (ls := ls) (ks := putG ks l.1 l.2)
    unfold mergeV at this ⊢
    rw [List.foldl_cons, this, mem_putG]
    simp only [List.map_cons, List.mem_cons]
    constructor
    · rintro ((h | h) | h)
      · exact .inl h
      · exact .inr (.inl h)
      · exact .inr (.inr h)
    · rintro (h | h | h)
      · exact .inl (.inl h)
      · exact .inl (.inr h)
      · exact .inr h
theorem foldG_len {κ : Type} [DecidableEq κ] {kf : PyData → κ} {v : M} : ∀ {ds : List PyData} {acc : List (κ × M)}, (ds.foldl (fun a d => putG a (kf d) v) acc).length ≤ acc.length + ds.length
  | [], acc => by simp
  | d :: ds, acc => by
    have h1 := foldG_len (kf := kf) (v := v) (ds := ds) (acc := putG acc (kf d) v)
    have h2 := putG_len acc (kf d) v
    rw [List.foldl_cons, List.length_cons]
    omega
theorem foldG_vals {kf : PyData → Key} {v : PyData} : ∀ {ds : List PyData} {acc : List (Key × M)}, (∀ x ∈ acc, x.2 = .leaf v) → ∀ x ∈ ds.foldl (fun a d => putG a (kf d) (.leaf v)) acc, x.2 = .leaf v
  | [], acc, h => h
  | d :: ds, acc, h => by
    rw [List.foldl_cons]
    refine foldG_vals fun x hx => ?_
    unfold putG at hx
    split at hx
    · obtain ⟨y, hy, rfl⟩ := List.mem_map.mp hx
      split
      · rfl
      · exact h y hy
    · rcases List.mem_append.mp hx with hx | hx
      · exact h x hx
      · simp at hx; rw [hx]
theorem frzs_of_vals {v : PyData} : ∀ {l : List (Key × M)}, (∀ x ∈ l, x.2 = .leaf v) → M.frzs (l.map (·.2)) = some (l.map fun _ => v)
  | [], _ => rfl
  | x :: l, h => by
    rw [List.map_cons, h x (by simp), frzs_cons1, frzs_of_vals fun x hx => h x (by simp [hx])]
    rfl
def updM (o : Option M) (r : R M) (i : Nat) : O := match o with
  | some (.dK _) => match r with
    | .ok (.dK ls) ρ1 => match M.frzs (ls.map (·.2)), qName i ρ1 with
      | some ds, some (.dK ms) => if ms.length + ls.length ≤ 16777216 then .next (ρ1.set i (some (.dK (mergeV ms ((ls.map (·.1)).zip (ds.map M.leaf)))))) else .bad
      | _, _ => .bad
    | .err x ρ1 => .err x ρ1
    | _ => .bad
  | _ => .bad
@[simp] theorem ap_upd (i : Nat) (m : Env' → R M) (ρ : Env') : mUpd i m ρ = updM (qName i ρ) (m ρ) i := by unfold mUpd updM; rfl
theorem updM_ok {m0 ms ls : List (Key × M)} {ρ1 : Env'} {i : Nat} {ds : List PyData} (h1 : M.frzs (ls.map (·.2)) = some ds) (h2 : qName i ρ1 = some (.dK ms)) (h3 : ms.length + ls.length ≤ 16777216) :
    updM (some (.dK m0)) (.ok (.dK ls) ρ1) i = .next (ρ1.set i (some (.dK (mergeV ms ((ls.map (·.1)).zip (ds.map M.leaf)))))) := by
  unfold updM
  simp only [h1, h2, h3, if_true]
/-! what may be sorted -/
theorem alike_str (a b : Str) : PySem.W.alike (.str a) (.str b) = true := rfl
theorem sortOk_strs {ds : List PyData} (h : ∀ d ∈ ds, ∃ z, d = .str z) (hl : ds.length ≤ 16777216) : sortOk ds = true := by
  unfold sortOk
  simp only [Bool.and_eq_true, decide_eq_true_eq, List.all_eq_true, Bool.or_eq_true]
  refine ⟨⟨⟨fun d hd => ?_, fun d hd e he => ?_⟩, .inr fun d hd => ?_⟩, hl⟩
  · obtain ⟨z, rfl⟩ := h d hd; exact ⟨rfl, by show (0 : Nat) ≤ 60; decide⟩
  · obtain ⟨z, rfl⟩ := h d hd; obtain ⟨y, rfl⟩ := h e he; rfl
  · obtain ⟨z, rfl⟩ := h d hd; rfl
def isRow (d : PyData) : Prop := ∃ a b t c k, d = .tuple [.str a, .str b, .int t, .int c, .int k]
theorem sortOk_rows {ds : List PyData} (h : ∀ d ∈ ds, isRow d) (hl : ds.length ≤ 16777216) : sortOk ds = true := by
  unfold sortOk
  simp only [Bool.and_eq_true, decide_eq_true_eq, List.all_eq_true, Bool.or_eq_true]
  refine ⟨⟨⟨fun d hd => ?_, fun d hd e he => ?_⟩, .inl fun d hd => ?_⟩, hl⟩
  · obtain ⟨a, b, t, c, k, rfl⟩ := h d hd; exact ⟨rfl, by simp [PyData.depth, PyData.depthAll]⟩
  · obtain ⟨a, b, t, c, k, rfl⟩ := h d hd; obtain ⟨a, b, t, c, k, rfl⟩ := h e he; rfl
  · obtain ⟨a, b, t, c, k, rfl⟩ := h d hd; rfl
end G
namespace G
open PySem PySem.Spec PyProof.Rows L2

/-! ### bools reckoned with as numbers -/
def bI (b : Bool) : Int := if b = true then 1 else 0
theorem op_addB {X : Cx} : OpR X (binaryOp .Add) (fun x y H Q => rAddS x y H Q ∨ ∃ b j, x = .bl b ∧ y = .int j ∧ Q (.int (bI b + j)) H) := op_addS.or (by
  intro pins s σ H x y v u Q I rx ry h
  obtain ⟨b, j, rfl, rfl, q⟩ := h
  obtain rfl : v = Value.bool b := rx
  obtain ⟨t, rfl⟩ := ry
  exact PySem.IntBool.add_bool_int ⟨.int _, H, I.tok _, ⟨_, rfl⟩, q⟩)
def gAddB : M → M → Option PyData
  | .leaf (.bool b), .leaf (.int j) => some (.int (bI b + j))
  | x, y => gAddS x y
theorem r_addB {K : Frag} : R2S K (fun x y H Q => rAddS x y H Q ∨ ∃ b j, x = .bl b ∧ y = .int j ∧ Q (.int (bI b + j)) H) gAddB := by
  intro F H v x fa v2 x2 f2 d Q s r r2 h q
  unfold gAddB at h
  split at h
  · cases h
    exact .inr ⟨_, _, isD_bool_iff.mp (rep_leaf r), isD_int_iff.mp (rep_leaf r2), q _ (isD_int _)⟩
  · exact .inl (r_addS F H v _ fa v2 _ f2 d Q s r r2 h q)
theorem op_subB {X : Cx} : OpR X (binaryOp .Sub) (fun x y H Q => rI0 (fun i j => .int (i - j)) x y H Q ∨ ∃ b j, x = .bl b ∧ y = .int j ∧ Q (.int (bI b - j)) H) := op_sub.or (by
  intro pins s σ H x y v u Q I rx ry h
  obtain ⟨b, j, rfl, rfl, q⟩ := h
  obtain rfl : v = Value.bool b := rx
  obtain ⟨t, rfl⟩ := ry
  exact PySem.IntBool.sub_bool_int ⟨.int _, H, I.tok _, ⟨_, rfl⟩, q⟩)
def gSubB : M → M → Option PyData
  | .leaf (.bool b), .leaf (.int j) => some (.int (bI b - j))
  | x, y => gSub x y
theorem r_subB {K : Frag} : R2S K (fun x y H Q => rI0 (fun i j => .int (i - j)) x y H Q ∨ ∃ b j, x = .bl b ∧ y = .int j ∧ Q (.int (bI b - j)) H) gSubB := by
  intro F H v x fa v2 x2 f2 d Q s r r2 h q
  unfold gSubB at h
  split at h
  · cases h
    exact .inr ⟨_, _, isD_bool_iff.mp (rep_leaf r), isD_int_iff.mp (rep_leaf r2), q _ (isD_int _)⟩
  · exact .inl (r_sub F H v _ fa v2 _ f2 d Q s r r2 h q)
theorem gives_neg_bool (b : Bool) : Gives (Builtin.«int.__neg__» ⟨[.bool b], []⟩) (.int (-(if b = true then (1 : Int) else 0))) := by cases b <;> exact .of_eq rfl
theorem un_negB {X : Cx} : UnR X (unaryOp .USub) (fun x H Q => rU (fun i => .int (-i)) x H Q ∨ ∃ b, x = .bl b ∧ Q (.int (-(bI b))) H) := by
  intro pins s σ H x v Q I rx h
  rcases h with h | ⟨b, rfl, q⟩
  · exact un_neg pins s σ H x v Q I rx h
  · obtain rfl : v = Value.bool b := rx
    exact unaryOp_gives (op := .USub) (PySem.typeIs_bool s b) rfl PySem.F.slot_bool_neg PySem.F.entry_int_neg (PySem.F.args_int_neg_1 _) (gives_neg_bool b) ⟨.int _, H, I.tok _, ⟨_, rfl⟩, q⟩
def gNegB : M → Option PyData
  | .leaf (.bool b) => some (.int (-(bI b)))
  | x => gNeg x
theorem r_negB {K : Frag} : R1S K (fun x H Q => rU (fun i => .int (-i)) x H Q ∨ ∃ b, x = .bl b ∧ Q (.int (-(bI b))) H) gNegB := by
  intro F H v x f d Q s r h q
  unfold gNegB at h
  split at h
  · cases h; exact .inr ⟨_, isD_bool_iff.mp (rep_leaf r), q _ (isD_int _)⟩
  · exact .inl (r_neg F H v _ f d Q s r h q)
def rStrB : List V → Hp → VK → Prop := fun xs H Q => (∃ i, xs = [.int i] ∧ i.natAbs.log2 < 1920 ∧ Q (.str (toString i)) H) ∨ ∃ b, xs = [.bl b] ∧ Q (.str (if b then "True" else "False")) H
theorem call_strB {X : Cx} : CallR X (.type "str") rStrB := call_str_int.or (by
  intro pins s σ H xs us Q I r h
  obtain ⟨b, rfl, q⟩ := h
  obtain ⟨u, rfl, r1⟩ := vals1 r
  obtain rfl : u = Value.bool b := r1
  refine PySem.P.str_of_bool ⟨.str _, H, I.tok _, ⟨_, rfl⟩, ?_⟩
  cases b <;> exact q)
def gStrB : M → Option PyData
  | .leaf (.bool b) => some (.str (if b then "True" else "False"))
  | x => gStr x
theorem r_strB {K : Frag} : R1S K (fun v => rStrB [v]) gStrB := by
  intro F H v x f d Q s r h q
  unfold gStrB at h
  split at h
  · cases h
    have := isD_bool_iff.mp (rep_leaf r)
    subst this
    exact .inr ⟨_, rfl, q _ (isD_str _)⟩
  · exact .inl (r_str F H v _ f d Q s r h q)
end G
namespace G
open PySem PySem.Spec PyProof.Rows L2

/-- is_whole(thing): slots 0=thing -/
def m_is_whole : Env' → O :=
  mRet (mAnd (mQ (q1 (gIsi .int) (qName 0))) (mNot (mQ (q1 (gIsi .bl) (qName 0)))))
def f_is_whole : List M → RF := runF 1 1 [] m_is_whole
/-- is_within(thing, least, most): slots 0=thing 1=least 2=most -/
def m_is_within : Env' → O :=
  mRet (mAnd (mCall f_is_whole [.val (mName 0)]) (mQ (qCh gLeI gLeI (qName 1) (qName 0) (qName 2))))
def f_is_within : List M → RF := runF 3 3 [] m_is_within
/-- places(web): slots 0=web 1=found 2=way -/
def m_places : Env' → O :=
  mSeq (mSet 1 (mDComp (mIt (mName 0)) (gN 2) (tTrue) (mQ (q2 gIx (qName 2) (qC (.int 0)))) (mQ (qC (.bool true))) [2]))
    (mSeq (mUpd 1 (mDComp (mIt (mName 0)) (gN 2) (tTrue) (mQ (q2 gIx (qName 2) (qC (.int 1)))) (mQ (qC (.bool true))) [2]))
    (mRet (m1q (gSortK) (qName 1))))
def f_places : List M → RF := runF 1 3 [] m_places
/-- is_letter(web, thing): slots 0=web 1=thing -/
def m_is_letter : Env' → O :=
  mSeq (mIfS (mOrT (mNotT (mTest (mQ (q1 (gIsi .tup) (qName 1))))) (mOrT (mTest (mQ (q2 gNe (q1 gLen (qName 1)) (qC (.int 3))))) (mNotT (mTest (mQ (q1 (gIsi .str) (q2 gIx (qName 1) (qC (.int 0)))))))))
    (mRet (mQ (qC (.bool false))))
    (mSkip))
    (mSeq (mIfS (mTest (m2 (lf2 gNi) (mQ (q2 gIx (qName 1) (qC (.int 0)))) (mCall f_places [.val (mName 0)])))
    (mRet (mQ (qC (.bool false))))
    (mSkip))
    (mRet (mAnd (mCall f_is_within [.val (mQ (q2 gIx (qName 1) (qC (.int 1)))), .val (mQ (qC (.int 1))), .val (mQ (qC (.int 2000)))]) (mCall f_is_within [.val (mQ (q2 gIx (qName 1) (qC (.int 2)))), .val (mQ (qC (.int 1))), .val (mQ (qC (.int 1000)))]))))
def f_is_letter : List M → RF := runF 2 2 [] m_is_letter
/-- are_letters(web, thing): slots 0=web 1=thing 2=one -/
def m_are_letters : Env' → O :=
  mSeq (mIfS (mOrT (mNotT (mTest (mQ (q1 (gIsi .lst) (qName 1))))) (mTest (mQ (q2 gGtI (q1 gLen (qName 1)) (qC (.int 20))))))
    (mRet (mQ (qC (.bool false))))
    (mSkip))
    (mRet (m1 (lf gAll) (mComp (mIt (mName 1)) (gN 2) (tTrue) (mCall f_is_letter [.val (mName 0), .val (mName 2)]) [2])))
def f_are_letters : List M → RF := runF 2 3 [] m_are_letters
/-- _law_bag(script, k): slots 0=script 1=k 2=cell -/
def m__law_bag : Env' → O :=
  mSeq (mSet 2 (mQ (qC (.int 0))))
    (mSeq (mIfS (mTest (mQ (q2 gLtI (qName 1) (q1 gLen (qName 0)))))
    (mSet 2 (mQ (q1 gAbs (q2 gIx (qName 0) (qName 1)))))
    (mSkip))
    (mSeq (mIfS (mTest (mQ (q2 gLtI (qName 2) (q2 gPow (qC (.int 10)) (qC (.int 18))))))
    (mRet (mLst (mCons (mQ (qC (.int 0))) (mCons (mQ (q2 gAddS (qC (.int 1)) (q2 gMod (q2 gAddS (q2 gMulI (qName 2) (qC (.int 7919))) (q2 gMulI (qC (.int 104729)) (qName 1))) (qC (.int 2147483646))))) (mNil)))))
    (mSkip))
    (mRet (mLst (mCons (mName 2) (mCons (mQ (q2 gAddS (qC (.int 1)) (q2 gMod (q2 gAddS (qName 2) (qName 1)) (qC (.int 2147483646))))) (mNil)))))))
def f__law_bag : List M → RF := runF 2 3 [0] m__law_bag
/-- _law_take(bag, many): slots 0=bag 1=many 2=found -/
def m__law_take : Env' → O :=
  mSeq (mIfS (mTest (mQ (q2 gGtI (q2 gIx (qName 0) (qC (.int 0))) (qC (.int 0)))))
    (mSeq (mSet 2 (mQ (q2 gMod (q2 gIx (qName 0) (qC (.int 0))) (qName 1))))
    (mSeq (mPut 0 (mQ (q2 gFdiv (q2 gIx (qName 0) (qC (.int 0))) (qName 1))) (mQ (qC (.int 0))))
    (mRet (mMove 2))))
    (mSkip))
    (mSeq (mPut 0 (mQ (q2 gMod (q2 gMulI (q2 gIx (qName 0) (qC (.int 1))) (qC (.int 48271))) (qC (.int 2147483647)))) (mQ (qC (.int 1))))
    (mRet (mQ (q2 gMod (q2 gFdiv (q2 gMod (q2 gMulI (q2 gIx (qName 0) (qC (.int 1))) (q2 gIx (qName 0) (qC (.int 1)))) (qC (.int 2147483629))) (qC (.int 64))) (qName 1)))))
def f__law_take : List M → RF := runF 2 3 [0] m__law_take
/-- _law_of(bag, some): slots 0=bag 1=some -/
def m__law_of : Env' → O :=
  mRet (m2l (lf2 gIx) 1 (mCall f__law_take [.ref 0, .val (mQ (q1 gLen (qName 1)))]))
def f__law_of : List M → RF := runF 2 2 [0] m__law_of
/-- _law_within(thing, least, most): slots 0=thing 1=least 2=most -/
def m__law_within : Env' → O :=
  mRet (mAnd (mQ (q1 (gIsi .int) (qName 0))) (mAnd (mNot (mQ (q1 (gIsi .bl) (qName 0)))) (mQ (qCh gLeI gLeI (qName 1) (qName 0) (qName 2)))))
def f__law_within : List M → RF := runF 3 3 [] m__law_within
/-- _law_odd(bag): slots 0=bag 1=some -/
def m__law_odd : Env' → O :=
  mSeq (mSet 1 (mLst (mCons (mQ (qC .none)) (mCons (mQ (qC (.bool true))) (mCons (mQ (qC (.bool false))) (mCons (mQ (qC (.int 0))) (mCons (mQ (qC (.int 1))) (mCons (mQ (q1 gNeg (qC (.int 1)))) (mCons (mQ (qC (.int 5))) (mCons (mQ (q2 gPow (qC (.int 10)) (qC (.int 30)))) (mCons (mQ (qC (.str ""))) (mCons (mQ (qC (.str "ash"))) (mCons (mTup (mNil)) (mCons (mLst (mNil)) (mCons (mTup (mCons (mQ (qC (.int 1))) (mCons (mQ (qC (.int 2))) (mNil)))) (mCons (mTup (mCons (mQ (qC .none)) (mNil))) (mCons (mTup (mCons (mQ (qC (.str "ash"))) (mCons (mQ (qC (.str "bay"))) (mCons (mQ (qC (.int 1))) (mCons (mQ (qC (.int 2))) (mCons (mQ (qC (.int 3))) (mNil))))))) (mNil))))))))))))))))))
    (mSeq (mSet 1 (m2l (gAdd) 1 (mLst (mCons (mTup (mCons (mTup (mCons (mQ (qC (.str "ash"))) (mCons (mQ (qC (.str "bay"))) (mCons (mQ (qC (.int 1))) (mCons (mQ (qC (.int 2))) (mCons (mQ (qC (.int 3))) (mNil))))))) (mNil))) (mCons (mLst (mCons (mTup (mCons (mQ (qC (.str "ash"))) (mCons (mQ (qC (.int 5))) (mCons (mQ (qC (.int 1))) (mNil))))) (mNil))) (mCons (mTup (mCons (mQ (qC (.int 0))) (mCons (mTup (mNil)) (mCons (mTup (mNil)) (mNil))))) (mCons (mTup (mCons (mQ (qC (.int 0))) (mCons (mTup (mCons (mQ (qC (.int 0))) (mNil))) (mCons (mTup (mNil)) (mNil))))) (mNil))))))))
    (mRet (m2l (lf2 gIx) 1 (mCall f__law_take [.ref 0, .val (mQ (q1 gLen (qName 1)))]))))
def f__law_odd : List M → RF := runF 1 2 [0] m__law_odd
/-- _law_spoilt(bag, thing): slots 0=bag 1=thing 2=kind_so 3=rows 4=at 5=other -/
def m__law_spoilt (rec : List M → RF) : Env' → O :=
  mSeq (mSet 2 (mCall f__law_take [.ref 0, .val (mQ (qC (.int 9)))]))
    (mSeq (mIfS (mAndT (mTest (m1q (gIsi2 .tup .lst) (qName 1))) (mAndT (mTest (mQ (q2 gGtI (q1 gLen (qName 1)) (qC (.int 0))))) (mTest (mQ (q2 gGtI (qName 2) (qC (.int 0)))))))
    (mSeq (mSet 3 (m1q (gList) (qName 1)))
    (mSeq (mSet 4 (mCall f__law_take [.ref 0, .val (mQ (q1 gLen (qName 3)))]))
    (mSeq (mIfS (mTest (mQ (q2 gEq (qName 2) (qC (.int 1)))))
    (mSet 3 (m2 (gAdd) (mSl (mName 3) (mNoPart) (mPart (mName 4))) (mSl (mName 3) (mPart (mQ (q2 gAddS (qName 4) (qC (.int 1))))) (mNoPart))))
    (mIfS (mTest (mQ (q2 gEq (qName 2) (qC (.int 2)))))
    (mSet 3 (m2 (gAdd) (mSl (mName 3) (mNoPart) (mPart (mQ (q2 gAddS (qName 4) (qC (.int 1)))))) (mSl (mName 3) (mPart (mName 4)) (mNoPart))))
    (mIfS (mTest (mQ (q2 gEq (qName 2) (qC (.int 3)))))
    (mSeq (mSet 5 (mCall f__law_take [.ref 0, .val (mQ (q1 gLen (qName 3)))]))
    (mSwap 3 (qName 4) (qName 5) (mTup (mCons (mQ (q2 gIx (qName 3) (qName 5))) (mCons (mQ (q2 gIx (qName 3) (qName 4))) (mNil))))))
    (mIfS (mTest (mQ (q2 gEq (qName 2) (qC (.int 4)))))
    (mRet (mIf (mTest (mQ (q1 (gIsi .tup) (qName 1)))) (mName 3) (m1q (gTuple) (qName 3))))
    (mPut 3 (mCall rec [.ref 0, .val (mQ (q2 gIx (qName 3) (qName 4)))]) (mName 4))))))
    (mRet (mIf (mTest (mQ (q1 (gIsi .tup) (qName 1)))) (m1q (gTuple) (qName 3)) (mName 3))))))
    (mSkip))
    (mSeq (mIfS (mAndT (mTest (mQ (q1 (gIsi .str) (qName 1)))) (mTest (mQ (q2 gGtI (qName 2) (qC (.int 1))))))
    (mRet (m2 (lf2 gIx) (mLst (mCons (mQ (q2 gAddS (qName 1) (qC (.str "a")))) (mCons (mSl (mName 1) (mNoPart) (mPart (mQ (q1 gNeg (qC (.int 1)))))) (mCons (mQ (q2 gAddS (qName 1) (qC (.str " ")))) (mCons (mQ (q1 gUpper (qName 1))) (mCons (mQ (q2 gAddS (qName 1) (qName 1))) (mCons (mQ (q2 gAddS (qC (.str "z")) (qName 1))) (mCons (mQ (qC (.str ""))) (mNil))))))))) (mQ (q2 gSub (qName 2) (qC (.int 2))))))
    (mSkip))
    (mSeq (mIfS (mAndT (mTest (mQ (q1 (gIsi .int) (qName 1)))) (mTest (mQ (q2 gGtI (qName 2) (qC (.int 1))))))
    (mRet (m2 (lf2 gIx) (mLst (mCons (mQ (q2 gAddB (qName 1) (qC (.int 1)))) (mCons (mQ (q2 gSubB (qName 1) (qC (.int 1)))) (mCons (mQ (q1 gNegB (qName 1))) (mCons (mQ (q2 gAddB (qName 1) (qC (.int 1000)))) (mCons (mQ (q1 gStrB (qName 1))) (mCons (mQ (q2 gAddB (qName 1) (qC (.int 50)))) (mCons (mTup (mCons (mName 1) (mNil))) (mNil))))))))) (mQ (q2 gSub (qName 2) (qC (.int 2))))))
    (mSkip))
    (mRet (mCall f__law_odd [.ref 0])))))
def f__law_spoilt : Nat → List M → RF
  | 0 => fun _ => .bad
  | n + 1 => runF 2 6 [0] (m__law_spoilt (f__law_spoilt n))
/-- _law_web(bag, most): slots 0=bag 1=most 2=names 3=found 4=turn 5=bottom 6=top 7=ticks -/
def b__law_web_0 : Env' → O :=
  mSeq (mSet 5 (m2 (lf2 gIx) (mLst (mCons (mQ (qC (.int 2))) (mCons (mQ (qC (.int 3))) (mCons (mQ (qC (.int 5))) (mCons (mQ (qC (.int 10))) (mNil)))))) (mCall f__law_take [.ref 0, .val (mQ (qC (.int 4)))])))
    (mSeq (mSet 6 (m2 (lf2 gAddS) (mQ (qC (.int 1))) (mCall f__law_take [.ref 0, .val (mQ (q2 gSub (qName 5) (qC (.int 1))))])))
    (mSeq (mSet 7 (m2 (lf2 gAddS) (mQ (qC (.int 1))) (mCall f__law_take [.ref 0, .val (m2 (lf2 gIx) (mLst (mCons (mQ (qC (.int 2))) (mCons (mQ (qC (.int 9))) (mNil)))) (mCall f__law_take [.ref 0, .val (mQ (qC (.int 2)))]))])))
    (mPut 3 (mQ (qC (.bool true))) (mTup (mCons (mCall f__law_of [.ref 0, .val (mName 2)]) (mCons (mCall f__law_of [.ref 0, .val (mName 2)]) (mCons (mName 6) (mCons (mName 5) (mCons (mName 7) (mNil))))))))))
def m__law_web : Env' → O :=
  mSeq (mSet 2 (mSl (mLst (mCons (mQ (qC (.str "ash"))) (mCons (mQ (qC (.str "bay"))) (mCons (mQ (qC (.str "cod"))) (mCons (mQ (qC (.str "dew"))) (mCons (mQ (qC (.str "elm"))) (mNil))))))) (mNoPart) (mPart (m2 (lf2 gAddS) (mQ (qC (.int 1))) (mCall f__law_take [.ref 0, .val (mQ (qC (.int 5)))])))))
    (mSeq (mSet 3 (mNewT))
    (mSeq (mFor (mItR1 (mCons (m2 (lf2 gAddS) (mQ (qC (.int 1))) (mCall f__law_take [.ref 0, .val (mName 1)])) (mNil))) (gN 4)
    (b__law_web_0))
    (mRet (m1 (gTuple) (m1q (gSortK) (qName 3))))))
def f__law_web : List M → RF := runF 2 8 [0] m__law_web
/-- _law_places(web): slots 0=web 1=way -/
def m__law_places : Env' → O :=
  mRet (m1 gSortSet (m2 (gAdd) (mComp (mIt (mName 0)) (gN 1) (tTrue) (mQ (q2 gIx (qName 1) (qC (.int 0)))) [1]) (mComp (mIt (mName 0)) (gN 1) (tTrue) (mQ (q2 gIx (qName 1) (qC (.int 1)))) [1])))
def f__law_places : List M → RF := runF 1 2 [] m__law_places
/-- _law_letters(bag, web, most, strongest): slots 0=bag 1=web 2=most 3=strongest 4=found 5=turn 6=many -/
def b__law_letters_0 : Env' → O :=
  mSeq (mSet 6 (m2 (lf2 gIx) (mLst (mCons (mQ (qC (.int 1))) (mCons (m2 (lf2 gAddS) (mQ (qC (.int 1))) (mCall f__law_take [.ref 0, .val (mQ (qC (.int 3)))])) (mCons (m2 (lf2 gAddS) (mQ (qC (.int 1))) (mCall f__law_take [.ref 0, .val (mQ (qC (.int 1000)))])) (mNil))))) (mCall f__law_take [.ref 0, .val (mQ (qC (.int 3)))])))
    (mAppend 4 (mTup (mCons (mCall f__law_of [.ref 0, .val (mCall f__law_places [.val (mName 1)])]) (mCons (m2 (lf2 gAddS) (mQ (qC (.int 1))) (mCall f__law_take [.ref 0, .val (mName 3)])) (mCons (mName 6) (mNil))))))
def m__law_letters : Env' → O :=
  mSeq (mSet 4 (mLst (mNil)))
    (mSeq (mFor (mItR1 (mCons (mCall f__law_take [.ref 0, .val (mQ (q2 gAddS (qName 2) (qC (.int 1))))]) (mNil))) (gN 5)
    (b__law_letters_0))
    (mRet (mMove 4)))
def f__law_letters : List M → RF := runF 4 7 [0] m__law_letters
/-- _law_are_letters(web, thing): slots 0=web 1=thing 2=row -/
def b__law_are_letters_0 : Env' → O :=
  mSeq (mIfS (mOrT (mNotT (mTest (mQ (q1 (gIsi .tup) (qName 2))))) (mOrT (mTest (mQ (q2 gNe (q1 gLen (qName 2)) (qC (.int 3))))) (mNotT (mTest (mQ (q1 (gIsi .str) (q2 gIx (qName 2) (qC (.int 0)))))))))
    (mRet (mQ (qC (.bool false))))
    (mSkip))
    (mIfS (mOrT (mTest (m2 (lf2 gNi) (mQ (q2 gIx (qName 2) (qC (.int 0)))) (mCall f__law_places [.val (mName 0)]))) (mOrT (mNotT (mTest (mCall f__law_within [.val (mQ (q2 gIx (qName 2) (qC (.int 1)))), .val (mQ (qC (.int 1))), .val (mQ (qC (.int 2000)))]))) (mNotT (mTest (mCall f__law_within [.val (mQ (q2 gIx (qName 2) (qC (.int 2)))), .val (mQ (qC (.int 1))), .val (mQ (qC (.int 1000)))])))))
    (mRet (mQ (qC (.bool false))))
    (mSkip))
def m__law_are_letters : Env' → O :=
  mSeq (mIfS (mOrT (mNotT (mTest (mQ (q1 (gIsi .lst) (qName 1))))) (mTest (mQ (q2 gGtI (q1 gLen (qName 1)) (qC (.int 20))))))
    (mRet (mQ (qC (.bool false))))
    (mSkip))
    (mSeq (mFor (mIt (mName 1)) (gN 2)
    (b__law_are_letters_0))
    (mRet (mQ (qC (.bool true)))))
def f__law_are_letters : List M → RF := runF 2 3 [] m__law_are_letters
/-- law(script): slots 0=script 1=k 2=bag 3=web 4=thing 5=edge 6=one 7=turn 8=found -/
def b_law_0 : Env' → O :=
  mIfS (mTest (m2 (lf2 gNe) (mCall f_are_letters [.val (mName 3), .val (mName 6)]) (mCall f__law_are_letters [.val (mName 3), .val (mName 6)])))
    (mRet (mQ (qC (.bool false))))
    (mSkip)
def b_law_1 : Env' → O :=
  mSeq (mSet 8 (mCall f_are_letters [.val (mName 3), .val (mName 4)]))
    (mSeq (mIfS (mOrT (mNotT (mTest (mQ (q1 (gIsi .bl) (qName 8))))) (mTest (m2l (lf2 gNe) 8 (mCall f__law_are_letters [.val (mName 3), .val (mName 4)]))))
    (mRet (mQ (qC (.bool false))))
    (mSkip))
    (mSet 4 (mCall (f__law_spoilt 40) [.ref 2, .val (mName 4)])))
def b_law_2 : Env' → O :=
  mSeq (mSet 2 (mCall f__law_bag [.ref 0, .val (mName 1)]))
    (mSeq (mSet 3 (mCall f__law_web [.ref 2, .val (mQ (qC (.int 6)))]))
    (mSeq (mSet 4 (mCall f__law_letters [.ref 2, .val (mName 3), .val (mQ (qC (.int 6))), .val (mQ (qC (.int 2000)))]))
    (mSeq (mSet 5 (mLst (mCons (mTup (mCons (mQ (q2 gIx (q2 gIx (qName 3) (qC (.int 0))) (qC (.int 1)))) (mCons (mCall f__law_of [.ref 2, .val (mLst (mCons (mQ (qC (.int 0))) (mCons (mQ (qC (.int 1))) (mCons (mQ (qC (.int 2000))) (mCons (mQ (qC (.int 2001))) (mNil))))))]) (mCons (mCall f__law_of [.ref 2, .val (mLst (mCons (mQ (qC (.int 0))) (mCons (mQ (qC (.int 1))) (mCons (mQ (qC (.int 1000))) (mCons (mQ (qC (.int 1001))) (mNil))))))]) (mNil))))) (mNil))))
    (mSeq (mFor (mIt (mLst (mCons (mName 5) (mCons (m2q gMul (qName 5) (qC (.int 20))) (mCons (m2q gMul (qName 5) (qC (.int 21))) (mCons (m1q (gTuple) (qName 4)) (mCons (m2q gAdd (qName 4) (qName 4)) (mCons (mCall f__law_odd [.ref 2]) (mCons (mLst (mNil)) (mNil)))))))))) (gN 6)
    (b_law_0))
    (mFor (mItR1 (mCons (mQ (qC (.int 6))) (mNil))) (gN 7)
    (b_law_1))))))
def m_law : Env' → O :=
  mSeq (mFor (mItR1 (mCons (mQ (q2 gAddS (qC (.int 1)) (q2 gMin2 (q1 gLen (qName 0)) (qC (.int 20))))) (mNil))) (gN 1)
    (b_law_2))
    (mRet (mQ (qC (.bool true))))
def f_law : List M → RF := runF 1 9 [0] m_law
end G
namespace G
open PySem PySem.Spec PyProof.Rows L2

/-! ### numbers, kinds -/
def isInt : PyData → Bool
  | .int _ => true
  | _ => false
def withinD (d : PyData) (lo hi : Int) : Bool := match d with
  | .int i => decide (lo ≤ i) && decide (i ≤ hi)
  | _ => false
theorem s_is_whole (d : PyData) (h : nd d = true) : f_is_whole [.leaf d] = .ret (.leaf (.bool (isInt d))) [none] := by
  unfold f_is_whole m_is_whole
  cases d <;> first | (simp [nd] at h; done) | (simp [run_ap, gIsi, M.kd, isiK, isInt])
theorem s_is_within (d : PyData) (lo hi : Int) (h : nd d = true) : f_is_within [.leaf d, .leaf (.int lo), .leaf (.int hi)] = .ret (.leaf (.bool (withinD d lo hi))) [none, none, none] := by
  have e := s_is_whole d h
  unfold f_is_within m_is_within
  cases d <;> first | (simp [nd] at h; done) | (simp [run_ap, e, isInt, withinD, qCh, gLeI, gI2]; done) | skip
  rename_i i
  by_cases h1 : lo ≤ i <;> simp [run_ap, e, isInt, withinD, qCh, gLeI, gI2, h1]
theorem s__law_within (d : PyData) (lo hi : Int) (h : nd d = true) : f__law_within [.leaf d, .leaf (.int lo), .leaf (.int hi)] = .ret (.leaf (.bool (withinD d lo hi))) [none, none, none] := by
  unfold f__law_within m__law_within
  cases d <;> first | (simp [nd] at h; done) | (simp [run_ap, gIsi, M.kd, isiK, isInt, withinD, qCh, gLeI, gI2]; done) | skip
  rename_i i
  by_cases h1 : lo ≤ i <;> simp [run_ap, gIsi, M.kd, isiK, isInt, withinD, qCh, gLeI, gI2, h1]

/-! ### the bag -/
def Bag (m : M) : Prop := ∃ a b : Int, m = .lst [.leaf (.int a), .leaf (.int b)] ∧ 0 ≤ a ∧ 0 ≤ b ∧ b < 2147483647
theorem s__law_take {m : M} (hb : Bag m) {many : Int} (h0 : 0 < many) (h1 : many < 1073741824) : ∃ (r : Int) (m' : M), f__law_take [m, .leaf (.int many)] = .ret (.leaf (.int r)) [some m', none] ∧ Bag m' ∧ 0 ≤ r ∧ r < many := by
  obtain ⟨a, b, rfl, ha, hb0, hb1⟩ := hb
  unfold f__law_take m__law_take
  by_cases h : 0 < a
  · refine ⟨a % many, .lst [.leaf (.int (a / many)), .leaf (.int b)], ?_, ⟨_, _, rfl, Int.ediv_nonneg ha (by omega), hb0, hb1⟩, Int.emod_nonneg _ (by omega), Int.emod_lt_of_pos _ h0⟩
    simp [run_ap, gIx, M.sv, leaves, atI, ixN, gGtI, gMod, gFdiv, gI2, M.put, h, h0, h1]
  · have ha0 : a = 0 := by omega
    subst ha0
    have k1 : 0 ≤ b * 48271 % 2147483647 := Int.emod_nonneg _ (by decide)
    have k2 : b * 48271 % 2147483647 < 2147483647 := Int.emod_lt_of_pos _ (by decide)
    refine ⟨_, .lst [.leaf (.int 0), .leaf (.int (b * 48271 % 2147483647))], ?_, ⟨_, _, rfl, by decide, k1, k2⟩, Int.emod_nonneg _ (by omega), Int.emod_lt_of_pos (b * 48271 % 2147483647 * (b * 48271 % 2147483647) % 2147483629 / 64) h0⟩
    have c1 : (-18446744073709551616 : Int) < b * 48271 % 2147483647 := by omega
    have c2 : b * 48271 % 2147483647 < (18446744073709551616 : Int) := by omega
    simp [run_ap, gIx, M.sv, leaves, atI, ixN, gGtI, gMod, gFdiv, gMulI, gI2, M.put, h0, h1, c1, c2]
theorem s__law_of {m : M} (hb : Bag m) {ds : List PyData} (h0 : ds ≠ []) (h1 : ds.length < 1073741824) : ∃ (d : PyData) (m' : M), f__law_of [m, .leaf (.list ds)] = .ret (.leaf d) [some m', none] ∧ d ∈ ds ∧ Bag m' := by
  have hl : 0 < ds.length := List.length_pos_iff.mpr h0
  obtain ⟨r, m', e, hb', r0, r1⟩ := s__law_take hb (many := ds.length) (by omega) (by omega)
  have hr : r.toNat < ds.length := by omega
  refine ⟨ds[r.toNat], m', ?_, List.getElem_mem hr, hb'⟩
  unfold f__law_of m__law_of
  obtain ⟨a, b, rfl, _⟩ := hb
  have hat : atI ds r = some ds[r.toNat] := by
    unfold atI ixN
    rw [if_pos r0, if_pos r1]
    exact List.getElem?_eq_getElem hr
  simp [run_ap, gLen, M.sv, e, gIx, hat]
theorem s__law_bag (ns : List Int) (k : Nat) : ∃ m, f__law_bag [.ro (ns.map .int), .leaf (.int k)] = .ret m [some (.ro (ns.map .int)), none] ∧ Bag m := by
  have key : ∀ c : Int, 0 ≤ c → 0 ≤ 1 + c % 2147483646 ∧ 1 + c % 2147483646 < 2147483647 := fun c hc => by omega
  unfold f__law_bag m__law_bag
  by_cases hk : k < ns.length
  · have hat : atI (ns.map PyData.int) (k : Int) = some (.int ns[k]) := by
      unfold atI ixN
      rw [if_pos (by omega), if_pos (by simpa using hk)]
      simp [hk]
    have hc : ∃ c : Int, 0 ≤ c ∧ (if ns[k] < 0 then -ns[k] else ns[k]) = c := ⟨_, by split <;> omega, rfl⟩
    obtain ⟨c, hc0, hc⟩ := hc
    by_cases h2 : c < 1000000000000000000
    · refine ⟨.lst [.leaf (.int 0), .leaf (.int (1 + (c * 7919 + 104729 * k) % 2147483646))], ?_, 0, _, rfl, by decide, (key _ (by omega)).1, (key _ (by omega)).2⟩
      simp [run_ap, gLtI, gI2, gLen, M.sv, hk, gIx, hat, gAbs, hc, gPow, h2, gMulI, gAddS, gMod]
    · refine ⟨.lst [.leaf (.int c), .leaf (.int (1 + (c + k) % 2147483646))], ?_, c, _, rfl, hc0, (key _ (by omega)).1, (key _ (by omega)).2⟩
      simp [run_ap, gLtI, gI2, gLen, M.sv, hk, gIx, hat, gAbs, hc, gPow, h2, gMulI, gAddS, gMod]
  · refine ⟨.lst [.leaf (.int 0), .leaf (.int (1 + (0 * 7919 + 104729 * k) % 2147483646))], ?_, 0, _, rfl, by decide, (key _ (by omega)).1, (key _ (by omega)).2⟩
    simp [run_ap, gLtI, gI2, gLen, M.sv, hk, gIx, gAbs, gPow, gMulI, gAddS, gMod]
end G
namespace G
open PySem PySem.Spec PyProof.Rows L2

theorem gEq_int (i j : Int) : gEq (.leaf (.int i)) (.leaf (.int j)) = some (.bool (decide (i = j))) := by
  have : (i == j) = decide (i = j) := rfl
  simp [gEq, SeqAt.shaped, PyData.eqv, PyData.canLay0, PyData.depth, this]
theorem gNe_int (i j : Int) : gNe (.leaf (.int i)) (.leaf (.int j)) = some (.bool (!decide (i = j))) := by
  have : (i == j) = decide (i = j) := rfl
  simp [gNe, SeqAt.shaped, PyData.eqv, PyData.canLay0, PyData.depth, this]
theorem gNe_bool (i j : Bool) : gNe (.leaf (.bool i)) (.leaf (.bool j)) = some (.bool (!decide (i = j))) := by
  cases i <;> cases j <;> simp [gNe, SeqAt.shaped, PyData.eqv, PyData.canLay0, PyData.depth]

/-! ### places -/
def c0 : PyData → Key
  | .tuple (.str a :: _) => .inr a
  | _ => .inl 0
def c1 : PyData → Key
  | .tuple (_ :: .str a :: _) => .inr a
  | _ => .inl 0
def Plc (ways : List PyData) (z : Str) : Prop := ∃ w ∈ ways, c0 w = .inr z ∨ c1 w = .inr z
theorem row_c {w : PyData} (h : isRow w) : ∃ a b r, w = .tuple (.str a :: .str b :: r) ∧ c0 w = .inr a ∧ c1 w = .inr b ∧ keyD (c0 w) = .str a ∧ keyD (c1 w) = .str b := by
  obtain ⟨a, b, t, c, k, rfl⟩ := h
  exact ⟨a, b, _, rfl, rfl, rfl, rfl, rfl⟩
/-- the places, sorted: texts, each a place -/
def PlcL (ways l : List PyData) : Prop := (∀ d ∈ l, ∃ z, d = .str z) ∧ (∀ z, .str z ∈ l ↔ Plc ways z) ∧ l.length ≤ 2 * ways.length
theorem s_places {ways : List PyData} (h : ∀ d ∈ ways, isRow d) (hl : ways.length ≤ 1000) : ∃ l, f_places [.leaf (.tuple ways)] = .ret (.lst (l.map .leaf)) [none] ∧ PlcL ways l := by
  have ix0 : ∀ d ∈ ways, (gIx (.leaf d) (.leaf (.int 0))) = some (keyD (c0 d)) := fun d hd => by
    obtain ⟨a, b, t, cc, k, rfl⟩ := h d hd
    simp [gIx, M.sv, atI, ixN, c0, keyD]
  have ix1 : ∀ d ∈ ways, (gIx (.leaf d) (.leaf (.int 1))) = some (keyD (c1 d)) := fun d hd => by
    obtain ⟨a, b, t, cc, k, rfl⟩ := h d hd
    simp [gIx, M.sv, atI, ixN, c1, keyD]
  have e1 := dcomp_fold (i := 2) (it := mIt (mName 0)) (mk := mQ (q2 gIx (qName 2) (qC (.int 0)))) (mv := mQ (qC (.bool true))) (kf := c0) (v := .bool true) (ρ0 := [some (.leaf (.tuple ways)), none, none]) (ρ := [some (.leaf (.tuple ways)), none, none]) (ds := ways)
    (by simp) (by simp) (by simp [isLeaf]) (by omega) (fun d hd => by simp [ix0 d hd])
  have e2 : ∀ m, mDComp (mIt (mName 0)) (gN 2) tTrue (mQ (q2 gIx (qName 2) (qC (.int 1)))) (mQ (qC (.bool true))) [2] [some (.leaf (.tuple ways)), some m, none] = _ := fun m =>
    dcomp_fold (i := 2) (it := mIt (mName 0)) (mk := mQ (q2 gIx (qName 2) (qC (.int 1)))) (mv := mQ (qC (.bool true))) (kf := c1) (v := .bool true) (ρ0 := [some (.leaf (.tuple ways)), some m, none]) (ρ := [some (.leaf (.tuple ways)), some m, none]) (ds := ways)
    (by simp) (by simp) (by simp [isLeaf]) (by omega) (fun d hd => by simp [ix1 d hd])
  generalize hA : (ways.foldl (fun a d => putG a (c0 d) (.leaf (.bool true))) ([] : List (Key × M))) = A at e1
  generalize hB : (ways.foldl (fun a d => putG a (c1 d) (.leaf (.bool true))) ([] : List (Key × M))) = B at e2
  have lA : A.length ≤ ways.length := by have := foldG_len (kf := c0) (v := .leaf (.bool true)) (ds := ways) (acc := []); rw [hA] at this; simpa using this
  have lB : B.length ≤ ways.length := by have := foldG_len (kf := c1) (v := .leaf (.bool true)) (ds := ways) (acc := []); rw [hB] at this; simpa using this
  have vB : M.frzs (B.map (·.2)) = some (B.map fun _ => .bool true) := frzs_of_vals (by rw [← hB]; exact foldG_vals fun x hx => by simp at hx)
  have hzip : (((B.map (·.1)).zip ((B.map fun _ => PyData.bool true).map M.leaf)).map (·.1)) = B.map (·.1) := by
    rw [List.map_fst_zip]; simp
  generalize hC : mergeV A ((B.map (·.1)).zip ((B.map fun _ => PyData.bool true).map M.leaf)) = C
  have mC : ∀ k, k ∈ C.map (·.1) ↔ ∃ w ∈ ways, c0 w = k ∨ c1 w = k := fun k => by
    rw [← hC, mem_mergeV, hzip, ← hA, ← hB, mem_foldG, mem_foldG]
    simp only [List.map_nil, List.not_mem_nil, false_or]
    constructor
    · rintro (⟨w, hw, e⟩ | ⟨w, hw, e⟩)
      · exact ⟨w, hw, .inl e⟩
      · exact ⟨w, hw, .inr e⟩
    · rintro ⟨w, hw, e | e⟩
      · exact .inl ⟨w, hw, e⟩
      · exact .inr ⟨w, hw, e⟩
  have lC : C.length ≤ 2 * ways.length := by
    have := mergeV_len ((B.map (·.1)).zip ((B.map fun _ => PyData.bool true).map M.leaf)) A
    rw [hC] at this
    simp at this
    omega
  have hstr : ∀ d ∈ C.map (fun kv => keyD kv.1), ∃ z, d = .str z := fun d hd => by
    obtain ⟨kv, hkv, rfl⟩ := List.mem_map.mp hd
    obtain ⟨w, hw, e⟩ := (mC kv.1).mp (List.mem_map.mpr ⟨kv, hkv, rfl⟩)
    obtain ⟨a, b, r, _, q0, q1, _, _⟩ := row_c (h w hw)
    rcases e with e | e
    · rw [← e, q0]; exact ⟨a, rfl⟩
    · rw [← e, q1]; exact ⟨b, rfl⟩
  have hok : sortOk (C.map fun kv => keyD kv.1) = true := sortOk_strs hstr (by simp; omega)
  refine ⟨sortD (C.map fun kv => keyD kv.1), ?_, fun d hd => hstr d (List.mem_mergeSort.mp hd), fun z => ?_, by simpa using lC⟩
  · unfold f_places m_places
    have u : updM (some (.dK A)) (.ok (.dK B) [some (.leaf (.tuple ways)), some (.dK A), none]) 1 = .next ([some (.leaf (.tuple ways)), some (.dK A), none].set 1 (some (.dK C))) := by
      rw [← hC]
      exact updM_ok vB (by simp) (by omega)
    simp only [run_ap, List.map_cons, List.map_nil, List.length_cons, List.length_nil, List.cons_append, List.nil_append, Nat.reduceAdd, Nat.reduceSub, List.replicate]
    simp only [ap_seq, ap_set, e1, R.set_ok, O.seq_next, List.set_cons_succ, List.set_cons_zero, ap_upd, e2, ap_q, List.getElem?_cons_succ, List.getElem?_cons_zero, Option.join_some, u]
    simp [gSortK, M.kv, hok]
  · rw [List.mem_mergeSort, List.mem_map]
    constructor
    · rintro ⟨kv, hkv, e⟩
      obtain ⟨w, hw, q⟩ := (mC kv.1).mp (List.mem_map.mpr ⟨kv, hkv, rfl⟩)
      have : kv.1 = .inr z := by
        cases hk : kv.1 with
        | inl i => rw [hk] at e; cases e
        | inr y => rw [hk] at e; cases e; rfl
      rw [this] at q
      exact ⟨w, hw, q⟩
    · rintro ⟨w, hw, q⟩
      obtain ⟨kv, hkv, e⟩ := List.mem_map.mp ((mC (.inr z)).mpr ⟨w, hw, q⟩)
      exact ⟨kv, hkv, by rw [e]; rfl⟩
theorem keysOf_map (kf : PyData → Key) : ∀ l : List PyData, keysOf (l.map fun d => keyD (kf d)) = some (l.map kf)
  | [] => rfl
  | d :: l => by
    have : keyOf (keyD (kf d)) = some (kf d) := by cases kf d <;> rfl
    simp [keysOf, this, keysOf_map kf l]
theorem keysOf_app : ∀ {a b : List PyData} {x y : List Key}, keysOf a = some x → keysOf b = some y → keysOf (a ++ b) = some (x ++ y)
  | [], b, x, y, h, h2 => by simp [keysOf] at h; subst h; simpa using h2
  | d :: a, b, x, y, h, h2 => by
    simp only [keysOf] at h
    split at h
    · rename_i k ks e1 e2
      cases h
      simp [keysOf, e1, keysOf_app e2 h2]
    · cases h
theorem addAll_len : ∀ (l ks : List Key), (addAll ks l).length ≤ ks.length + l.length
  | [], ks => by simp [addAll]
  | x :: l, ks => by
    have h1 := addAll_len l (addK ks x)
    have h2 := addK_len ks x
    unfold addAll at h1 ⊢
    rw [List.foldl_cons, List.length_cons]
    omega
theorem s__law_places {ways : List PyData} (h : ∀ d ∈ ways, isRow d) (hl : ways.length ≤ 400) : ∃ l, f__law_places [.leaf (.tuple ways)] = .ret (.lst (l.map .leaf)) [none] ∧ PlcL ways l := by
  have ix0 : ∀ d ∈ ways, (gIx (.leaf d) (.leaf (.int 0))) = some (keyD (c0 d)) := fun d hd => by
    obtain ⟨a, b, t, cc, k, rfl⟩ := h d hd
    simp [gIx, M.sv, atI, ixN, c0, keyD]
  have ix1 : ∀ d ∈ ways, (gIx (.leaf d) (.leaf (.int 1))) = some (keyD (c1 d)) := fun d hd => by
    obtain ⟨a, b, t, cc, k, rfl⟩ := h d hd
    simp [gIx, M.sv, atI, ixN, c1, keyD]
  have e1 := comp_map (i := 1) (it := mIt (mName 0)) (el := mQ (q2 gIx (qName 1) (qC (.int 0)))) (f := fun d => .leaf (keyD (c0 d))) (ρ0 := [some (.leaf (.tuple ways)), none]) (ρ := [some (.leaf (.tuple ways)), none]) (ds := ways)
    (by simp) (by simp) (by simp [isLeaf]) (by omega) (fun d hd => by simp [ix0 d hd])
  have e2 := comp_map (i := 1) (it := mIt (mName 0)) (el := mQ (q2 gIx (qName 1) (qC (.int 1)))) (f := fun d => .leaf (keyD (c1 d))) (ρ0 := [some (.leaf (.tuple ways)), none]) (ρ := [some (.leaf (.tuple ways)), none]) (ds := ways)
    (by simp) (by simp) (by simp [isLeaf]) (by omega) (fun d hd => by simp [ix1 d hd])
  have f0 : ∀ kf : PyData → Key, (ways.map fun d => M.leaf (keyD (kf d))) = (ways.map fun d => keyD (kf d)).map M.leaf := fun kf => by rw [List.map_map]; rfl
  rw [f0] at e1 e2
  let ks : List Key := ways.map c0 ++ ways.map c1
  have hks : keysOf ((ways.map fun d => keyD (c0 d)) ++ (ways.map fun d => keyD (c1 d))) = some ks := keysOf_app (keysOf_map c0 ways) (keysOf_map c1 ways)
  have mK : ∀ k, k ∈ addAll [] ks ↔ ∃ w ∈ ways, c0 w = k ∨ c1 w = k := fun k => by
    rw [addAll_mem]
    simp only [List.not_mem_nil, false_or, ks, List.mem_append, List.mem_map]
    constructor
    · rintro (⟨w, hw, e⟩ | ⟨w, hw, e⟩)
      · exact ⟨w, hw, .inl e⟩
      · exact ⟨w, hw, .inr e⟩
    · rintro ⟨w, hw, e | e⟩
      · exact .inl ⟨w, hw, e⟩
      · exact .inr ⟨w, hw, e⟩
  have lK : (addAll [] ks).length ≤ 2 * ways.length := by
    have := addAll_len ks []
    simp [ks] at this ⊢
    omega
  have hstr : ∀ d ∈ (addAll [] ks).map keyD, ∃ z, d = .str z := fun d hd => by
    obtain ⟨k, hk, rfl⟩ := List.mem_map.mp hd
    obtain ⟨w, hw, e⟩ := (mK k).mp hk
    obtain ⟨a, b, r, _, q0, q1, _, _⟩ := row_c (h w hw)
    rcases e with e | e
    · rw [← e, q0]; exact ⟨a, rfl⟩
    · rw [← e, q1]; exact ⟨b, rfl⟩
  have hok : sortOk ((addAll [] ks).map keyD) = true := sortOk_strs hstr (by simp; omega)
  have hkl : ks.length < 1000 := by simp [ks]; omega
  refine ⟨sortD ((addAll [] ks).map keyD), ?_, fun d hd => hstr d (List.mem_mergeSort.mp hd), fun z => ?_, by simpa using lK⟩
  · unfold f__law_places m__law_places
    have ga : gAdd (.lst ((ways.map fun d => keyD (c0 d)).map M.leaf)) (.lst ((ways.map fun d => keyD (c1 d)).map M.leaf)) = some (.lst (((ways.map fun d => keyD (c0 d)) ++ (ways.map fun d => keyD (c1 d))).map .leaf)) := by
      simp only [gAdd, gAddS, M.tv, M.lv, leaves_map]
      rw [if_pos (by simp; omega)]
    have gs : gSortSet (.lst (((ways.map fun d => keyD (c0 d)) ++ (ways.map fun d => keyD (c1 d))).map .leaf)) = some (.lst ((sortD ((addAll [] ks).map keyD)).map .leaf)) := by
      simp only [gSortSet, M.sv, leaves_map, Option.bind_some, hks, hkl, hok, decide_true, Bool.and_self, if_true]
    simp only [run_ap, List.map_cons, List.map_nil, List.length_cons, List.length_nil, List.cons_append, List.nil_append, Nat.reduceAdd, Nat.reduceSub, List.replicate]
    simp only [ap_ret, ap_m1, ap_m2, e1, e2, R.bind_ok, ga, opt_some, gs, R.out_ok]
    simp
  · rw [List.mem_mergeSort, List.mem_map]
    constructor
    · rintro ⟨k, hk, e⟩
      have q := (mK k).mp hk
      have : k = .inr z := by
        cases k with
        | inl i => cases e
        | inr y => cases e; rfl
      rw [this] at q
      exact q
    · intro q
      exact ⟨.inr z, (mK _).mpr q, rfl⟩
end G
namespace G
open PySem PySem.Spec PyProof.Rows L2

def plcB (ways : List PyData) (z : Str) : Bool := ways.any fun w => decide (c0 w = .inr z) || decide (c1 w = .inr z)
theorem plcB_iff {ways : List PyData} {z : Str} : plcB ways z = true ↔ Plc ways z := by
  unfold plcB Plc
  simp [List.any_eq_true]
theorem gNi_plc {ways l : List PyData} (h : PlcL ways l) (z : Str) : gNi (.leaf (.str z)) (.lst (l.map .leaf)) = some (.bool (!plcB ways z)) := by
  have hf : l.all flatD = true := List.all_eq_true.mpr fun d hd => by obtain ⟨y, rfl⟩ := h.1 d hd; rfl
  have ha : (l.any fun e => PyData.eqv e (.str z)) = plcB ways z := by
    rw [Bool.eq_iff_iff, plcB_iff, ← h.2.1 z, List.any_eq_true]
    constructor
    · rintro ⟨x, hx, e⟩
      obtain ⟨y, rfl⟩ := h.1 x hx
      have : y = z := by simpa [PyData.eqv] using e
      subst this; exact hx
    · intro hx
      exact ⟨_, hx, by simp [PyData.eqv]⟩
  have hz : flatD (.str z) = true := rfl
  simp [gNi, inD, M.sv, leaves_map, hf, hz, ha]
def letterD (ways : List PyData) (d : PyData) : Bool := match d with
  | .tuple [.str z, a, b] => plcB ways z && (withinD a 1 2000 && withinD b 1 1000)
  | _ => false
def areD (ways : List PyData) (d : PyData) : Bool := match d with
  | .list ds => decide (ds.length ≤ 20) && ds.all (letterD ways)
  | _ => false
theorem nds_mem {ds : List PyData} (h : nds ds = true) : ∀ d ∈ ds, nd d = true := by
  induction ds with
  | nil => intro d hd; simp at hd
  | cons x r ih =>
    simp only [nds, Bool.and_eq_true] at h
    intro d hd
    rcases List.mem_cons.mp hd with rfl | hd
    · exact h.1
    · exact ih h.2 d hd
theorem s_is_letter {ways : List PyData} (h : ∀ d ∈ ways, isRow d) (hl : ways.length ≤ 400) (d : PyData) (hd : nd d = true) : f_is_letter [.leaf (.tuple ways), .leaf d] = .ret (.leaf (.bool (letterD ways d))) [none, none] := by
  obtain ⟨l, e, hp⟩ := s_places h (by omega)
  unfold f_is_letter m_is_letter
  cases d with
  | tuple ds =>
    by_cases h3 : ds.length = 3
    · obtain ⟨x, y, z, rfl⟩ : ∃ x y z, ds = [x, y, z] := by
        match ds, h3 with
        | [x, y, z], _ => exact ⟨x, y, z, rfl⟩
      have hn : nd x = true ∧ nd y = true ∧ nd z = true := ⟨nds_mem hd x (by simp), nds_mem hd y (by simp), nds_mem hd z (by simp)⟩
      have w1 := s_is_within y 1 2000 hn.2.1
      have w2 := s_is_within z 1 1000 hn.2.2
      cases x with
      | str s =>
        have hg := gNi_plc hp s
        cases hb : plcB ways s with
        | false => rw [hb] at hg; simp [run_ap, gIsi, M.kd, isiK, gLen, M.sv, gNe_int, gIx, atI, ixN, e, hg, letterD, hb]
        | true =>
          rw [hb] at hg
          cases hy : withinD y 1 2000 with
          | false => rw [hy] at w1; simp [run_ap, gIsi, M.kd, isiK, gLen, M.sv, gNe_int, gIx, atI, ixN, e, hg, letterD, hb, w1, hy]
          | true => rw [hy] at w1; simp [run_ap, gIsi, M.kd, isiK, gLen, M.sv, gNe_int, gIx, atI, ixN, e, hg, letterD, hb, w1, w2, hy]
      | dict _ => simp [nd] at hn
      | _ => simp [run_ap, gIsi, M.kd, isiK, gLen, M.sv, gNe_int, gIx, atI, ixN, letterD]
    · have hL : letterD ways (.tuple ds) = false := by
        unfold letterD
        split
        · rename_i z a b e; cases e; simp at h3
        · rfl
      have h3' : ¬ ((ds.length : Int) = 3) := by omega
      simp [run_ap, gIsi, M.kd, isiK, gLen, M.sv, gNe_int, h3', hL]
  | dict _ => simp [nd] at hd
  | _ => simp [run_ap, gIsi, M.kd, isiK, letterD]
theorem s_are_letters {ways : List PyData} (h : ∀ d ∈ ways, isRow d) (hl : ways.length ≤ 400) (d : PyData) (hd : nd d = true) : f_are_letters [.leaf (.tuple ways), .leaf d] = .ret (.leaf (.bool (areD ways d))) [none, none] := by
  unfold f_are_letters m_are_letters
  cases d with
  | list ds =>
    by_cases h20 : (20 : Int) < ds.length
    · have : ¬ ds.length ≤ 20 := by omega
      simp [run_ap, gIsi, M.kd, isiK, gLen, M.sv, gGtI, gI2, h20, areD, this]
    · have h2 : ds.length ≤ 20 := by omega
      have e1 := comp_map (i := 2) (it := mIt (mName 1)) (el := mCall f_is_letter [.val (mName 0), .val (mName 2)]) (f := fun x => .leaf (.bool (letterD ways x))) (ρ0 := [some (.leaf (.tuple ways)), some (.leaf (.list ds)), none]) (ρ := [some (.leaf (.tuple ways)), some (.leaf (.list ds)), none]) (ds := ds)
        (by simp) (by simp) (by simp [isLeaf]) (by omega) (fun x hx => by
          have := s_is_letter h hl x (nds_mem hd x hx)
          simp [this])
      have f0 : (ds.map fun x => M.leaf (.bool (letterD ways x))) = ((ds.map (letterD ways)).map PyData.bool).map M.leaf := by simp [List.map_map, Function.comp_def]
      rw [f0] at e1
      have ga : gAll (.lst (((ds.map (letterD ways)).map PyData.bool).map M.leaf)) = some (.bool (ds.all (letterD ways))) := by
        simp only [gAll, M.lv, leaves_map, Option.bind_some, bools_map, Option.map_some]
        simp [Function.comp_def]
      simp only [run_ap, List.map_cons, List.map_nil, List.length_cons, List.length_nil, List.cons_append, List.nil_append, Nat.reduceAdd, Nat.reduceSub, List.replicate]
      simp [gIsi, M.kd, isiK, gLen, M.sv, gGtI, gI2, h20, areD, h2]
      rw [e1]
      simp only [R.bind_ok, ga, Option.map_some, opt_some, R.out_ok, O.fin_ret]
      simp
  | dict _ => simp [nd] at hd
  | _ => simp [run_ap, gIsi, M.kd, isiK, areD]
theorem s__law_are_letters {ways : List PyData} (h : ∀ d ∈ ways, isRow d) (hl : ways.length ≤ 400) (d : PyData) (hd : nd d = true) : f__law_are_letters [.leaf (.tuple ways), .leaf d] = .ret (.leaf (.bool (areD ways d))) [none, none] := by
  obtain ⟨l, e, hp⟩ := s__law_places h (by omega)
  unfold f__law_are_letters m__law_are_letters
  cases d with
  | list ds =>
    by_cases h20 : (20 : Int) < ds.length
    · have : ¬ ds.length ≤ 20 := by omega
      simp [run_ap, gIsi, M.kd, isiK, gLen, M.sv, gGtI, gI2, h20, areD, this]
    · have h2 : ds.length ≤ 20 := by omega
      generalize hbd : b__law_are_letters_0 = body
      have step : ∀ x ∈ ds, ∀ o : Option M, (letterD ways x = true → body [some (.leaf (.tuple ways)), some (.leaf (.list ds)), some (.leaf x)] = .next [some (.leaf (.tuple ways)), some (.leaf (.list ds)), some (.leaf x)]) ∧
          (letterD ways x = false → body [some (.leaf (.tuple ways)), some (.leaf (.list ds)), some (.leaf x)] = .ret (.leaf (.bool false)) [some (.leaf (.tuple ways)), some (.leaf (.list ds)), some (.leaf x)]) := fun x hx o => by
        have hn := nds_mem hd x hx
        subst hbd
        unfold b__law_are_letters_0
        cases x with
        | tuple xs =>
          by_cases h3 : xs.length = 3
          · obtain ⟨x, y, z, rfl⟩ : ∃ x y z, xs = [x, y, z] := by
              match xs, h3 with
              | [x, y, z], _ => exact ⟨x, y, z, rfl⟩
            have hm : nd x = true ∧ nd y = true ∧ nd z = true := ⟨nds_mem hn x (by simp), nds_mem hn y (by simp), nds_mem hn z (by simp)⟩
            have w1 := s__law_within y 1 2000 hm.2.1
            have w2 := s__law_within z 1 1000 hm.2.2
            cases x with
            | str s =>
              have hg := gNi_plc hp s
              cases hb : plcB ways s with
              | false => rw [hb] at hg; simp [gIsi, M.kd, isiK, gLen, M.sv, gNe_int, gIx, atI, ixN, e, hg, letterD, hb]
              | true =>
                rw [hb] at hg
                cases hy : withinD y 1 2000 with
                | false => rw [hy] at w1; simp [gIsi, M.kd, isiK, gLen, M.sv, gNe_int, gIx, atI, ixN, e, hg, letterD, hb, w1, hy]
                | true =>
                  rw [hy] at w1
                  cases hz : withinD z 1 1000 with
                  | false => rw [hz] at w2; simp [gIsi, M.kd, isiK, gLen, M.sv, gNe_int, gIx, atI, ixN, e, hg, letterD, hb, w1, w2, hy, hz]
                  | true => rw [hz] at w2; simp [gIsi, M.kd, isiK, gLen, M.sv, gNe_int, gIx, atI, ixN, e, hg, letterD, hb, w1, w2, hy, hz]
            | dict _ => simp [nd] at hm
            | _ => simp [gIsi, M.kd, isiK, gLen, M.sv, gNe_int, gIx, atI, ixN, letterD]
          · have hL : letterD ways (.tuple xs) = false := by
              unfold letterD
              split
              · rename_i z a b e; cases e; simp at h3
              · rfl
            have h3' : ¬ ((xs.length : Int) = 3) := by omega
            simp [gIsi, M.kd, isiK, gLen, M.sv, gNe_int, h3', hL]
        | dict _ => simp [nd] at hn
        | _ => simp [gIsi, M.kd, isiK, letterD]
      have L := loop_ret (g := gN 2) (b := body) (ds := ds) (ρ0 := [some (.leaf (.tuple ways)), some (.leaf (.list ds)), none]) (x := .leaf (.bool false)) (f := letterD ways) (ρr := fun _ => []) (nx := fun _ => []) (fun ρ => ∃ o, ρ = [some (.leaf (.tuple ways)), some (.leaf (.list ds)), o]) ⟨none, rfl⟩ (fun x hx ρ ⟨o, hρ⟩ => by
        subst hρ
        refine ⟨_, rfl, fun hf => ⟨_, (step x hx o).1 hf, _, rfl⟩, fun hf => ⟨_, (step x hx o).2 hf, _, rfl⟩⟩)
      simp only [run_ap, List.map_cons, List.map_nil, List.length_cons, List.length_nil, List.cons_append, List.nil_append, Nat.reduceAdd, Nat.reduceSub, List.replicate]
      cases hall : ds.all (letterD ways) with
      | true =>
        obtain ⟨ρ', hL, o, rfl⟩ := L.1 hall
        simp [gIsi, M.kd, isiK, gLen, M.sv, gGtI, gI2, h20, areD, h2, hL, hall]
      | false =>
        obtain ⟨ρ', hL, o, rfl⟩ := L.2 hall
        simp [gIsi, M.kd, isiK, gLen, M.sv, gGtI, gI2, h20, areD, h2, hL, hall]
  | dict _ => simp [nd] at hd
  | _ => simp [run_ap, gIsi, M.kd, isiK, areD]
end G
namespace G
open PySem PySem.Spec PyProof.Rows L2

/-! ### small data -/
mutual
def sm (s : Nat) : PyData → Bool
  | .none => true
  | .bool _ => true
  | .int i => decide (i.natAbs ≤ 10 ^ 30 + 1000 * s)
  | .str x => decide (x.length ≤ 64 * 3 ^ s)
  | .list ds => decide (ds.length ≤ 40 * 2 ^ s) && sms s ds
  | .tuple ds => decide (ds.length ≤ 40 * 2 ^ s) && sms s ds
  | .dict _ => false
def sms (s : Nat) : List PyData → Bool
  | [] => true
  | d :: r => sm s d && sms s r
end
mutual
def dep : PyData → Nat
  | .list ds => 1 + deps ds
  | .tuple ds => 1 + deps ds
  | _ => 0
def deps : List PyData → Nat
  | [] => 0
  | d :: r => max (dep d) (deps r)
end
theorem sms_iff {s : Nat} : ∀ {ds : List PyData}, sms s ds = true ↔ ∀ d ∈ ds, sm s d = true
  | [] => by simp [sms]
  | d :: r => by simp [sms, sms_iff (ds := r)]
theorem deps_le {n : Nat} : ∀ {ds : List PyData}, deps ds ≤ n ↔ ∀ d ∈ ds, dep d ≤ n
  | [] => by simp [deps]
  | d :: r => by simp only [deps, List.mem_cons, forall_eq_or_imp, ← deps_le (ds := r)]; omega
mutual
theorem sm_nd {s : Nat} : ∀ d : PyData, sm s d = true → nd d = true
  | .none, _ => rfl
  | .bool _, _ => rfl
  | .int _, _ => rfl
  | .str _, _ => rfl
  | .list ds, h => by simp only [sm, Bool.and_eq_true] at h; exact sms_nds ds h.2
  | .tuple ds, h => by simp only [sm, Bool.and_eq_true] at h; exact sms_nds ds h.2
  | .dict _, h => by simp [sm] at h
theorem sms_nds {s : Nat} : ∀ ds : List PyData, sms s ds = true → nds ds = true
  | [], _ => rfl
  | d :: r, h => by simp only [sms, Bool.and_eq_true] at h; simp only [nds, Bool.and_eq_true]; exact ⟨sm_nd d h.1, sms_nds r h.2⟩
end
mutual
theorem sm_up {s : Nat} : ∀ d : PyData, sm s d = true → sm (s + 1) d = true
  | .none, _ => rfl
  | .bool _, _ => rfl
  | .int _, h => by simp only [sm, decide_eq_true_eq] at h ⊢; omega
  | .str _, h => by simp only [sm, decide_eq_true_eq] at h ⊢; have : 3 ^ (s + 1) = 3 * 3 ^ s := by rw [Nat.pow_succ]; omega
                    omega
  | .list ds, h => by
    simp only [sm, Bool.and_eq_true, decide_eq_true_eq] at h ⊢
    have : 2 ^ (s + 1) = 2 * 2 ^ s := by rw [Nat.pow_succ]; omega
    exact ⟨by omega, sms_up ds h.2⟩
  | .tuple ds, h => by
    simp only [sm, Bool.and_eq_true, decide_eq_true_eq] at h ⊢
    have : 2 ^ (s + 1) = 2 * 2 ^ s := by rw [Nat.pow_succ]; omega
    exact ⟨by omega, sms_up ds h.2⟩
  | .dict _, h => by simp [sm] at h
theorem sms_up {s : Nat} : ∀ ds : List PyData, sms s ds = true → sms (s + 1) ds = true
  | [], _ => rfl
  | d :: r, h => by simp only [sms, Bool.and_eq_true] at h ⊢; exact ⟨sm_up d h.1, sms_up r h.2⟩
end
theorem sm_ups {s t : Nat} (h : s ≤ t) (d : PyData) (hd : sm s d = true) : sm t d = true := by
  induction h with
  | refl => exact hd
  | step _ ih => exact sm_up d ih
def oddL : List PyData := [.none, .bool true, .bool false, .int 0, .int 1, .int (-1), .int 5, .int 1000000000000000000000000000000, .str "", .str "ash", .tuple [], .list [], .tuple [.int 1, .int 2], .tuple [.none], .tuple [.str "ash", .str "bay", .int 1, .int 2, .int 3],
  .tuple [.tuple [.str "ash", .str "bay", .int 1, .int 2, .int 3]], .list [.tuple [.str "ash", .int 5, .int 1]], .tuple [.int 0, .tuple [], .tuple []], .tuple [.int 0, .tuple [.int 0], .tuple []]]
theorem odd_ok : ∀ d ∈ oddL, sm 0 d = true ∧ dep d ≤ 3 := by
  have h : oddL.all (fun d => sm 0 d && decide (dep d ≤ 3)) = true := by decide +kernel
  intro d hd
  have := List.all_eq_true.mp h d hd
  simpa using this
theorem atI_ok {ds : List PyData} {r : Int} (h0 : 0 ≤ r) (h1 : r < ds.length) : ∃ d, atI ds r = some d ∧ d ∈ ds := by
  have hr : r.toNat < ds.length := by omega
  refine ⟨ds[r.toNat], ?_, List.getElem_mem hr⟩
  unfold atI ixN
  rw [if_pos h0, if_pos h1]
  exact List.getElem?_eq_getElem hr
theorem s__law_odd {m : M} (hb : Bag m) : ∃ (d : PyData) (m' : M), f__law_odd [m] = .ret (.leaf d) [some m'] ∧ d ∈ oddL ∧ Bag m' := by
  obtain ⟨r, m', e, hb', r0, r1⟩ := s__law_take hb (many := 19) (by decide) (by decide)
  obtain ⟨d, hat, hd⟩ := atI_ok (ds := oddL) r0 r1
  refine ⟨d, m', ?_, hd, hb'⟩
  unfold oddL at hat
  unfold f__law_odd m__law_odd
  simp [run_ap, gNeg, gPow, gI2, gAdd, gAddS, M.tv, M.lv, leaves, gLen, e, gIx, M.sv, hat]
end G
namespace G
open PySem PySem.Spec PyProof.Rows L2

theorem map_set' (ds : List PyData) (i : Nat) (a : PyData) : (ds.map M.leaf).set i (.leaf a) = (ds.set i a).map M.leaf := List.map_set.symm
theorem ixN_ok {n : Nat} {r : Int} (h0 : 0 ≤ r) (h1 : r < n) : ixN n r = some r.toNat := by
  unfold ixN
  rw [if_pos h0, if_pos h1]
theorem mem_set' {ds : List PyData} {i : Nat} {a x : PyData} (h : x ∈ ds.set i a) : x ∈ ds ∨ x = a := List.mem_or_eq_of_mem_set h
theorem gAdd_lst {a b : List PyData} (h : a.length + b.length ≤ 16777216) : gAdd (.lst (a.map .leaf)) (.lst (b.map .leaf)) = some (.lst ((a ++ b).map .leaf)) := by
  simp only [gAdd, gAddS, M.tv, M.lv, leaves_map]
  rw [if_pos h]
def Out (q : PyData → PyData → Prop) (ds : List PyData) (d' : PyData) : Prop := d' ∈ oddL ∨ ∃ l, (d' = .tuple l ∨ d' = .list l) ∧ l.length ≤ 2 * ds.length ∧ ∀ x ∈ l, x ∈ ds ∨ ∃ y ∈ ds, q y x
theorem sp_seq (rec : List M → RF) {ds : List PyData} (hne : ds ≠ []) (hz : ds.length ≤ 8000000) {m : M} (hb : Bag m) (q : PyData → PyData → Prop) (hrec : ∀ d ∈ ds, ∀ m, Bag m → ∃ d' m', rec [m, .leaf d] = .ret (.leaf d') [some m', none] ∧ Bag m' ∧ q d d') :
    (∃ d' m', runF 2 6 [0] (m__law_spoilt rec) [m, .leaf (.tuple ds)] = .ret (.leaf d') [some m', none] ∧ Bag m' ∧ Out q ds d') ∧ (∃ d' m', runF 2 6 [0] (m__law_spoilt rec) [m, .leaf (.list ds)] = .ret (.leaf d') [some m', none] ∧ Bag m' ∧ Out q ds d') := by
  obtain ⟨r, m1, e1, hb1, r0, r1⟩ := s__law_take hb (many := 9) (by decide) (by decide)
  have hl0 : 0 < ds.length := List.length_pos_iff.mpr hne
  have hl : (0 : Int) < (ds.length : Int) := by omega
  by_cases h0 : r = 0
  · subst h0
    obtain ⟨d, m2, e2, hd, hb2⟩ := s__law_odd hb1
    unfold m__law_spoilt
    exact ⟨⟨d, m2, by simp [run_ap, e1, gIsi2, gIsi, M.kd, isiK, gLen, M.sv, gGtI, gI2, hl, hl0, hne, e2], hb2, .inl hd⟩, ⟨d, m2, by simp [run_ap, e1, gIsi2, gIsi, M.kd, isiK, gLen, M.sv, gGtI, gI2, hl, hl0, hne, e2], hb2, .inl hd⟩⟩
  have hr : 0 < r := by omega
  obtain ⟨a, m2, e2, hb2, a0, a1⟩ := s__law_take hb1 (many := ds.length) hl (by omega)
  obtain ⟨xa, hat, hxa⟩ := atI_ok (ds := ds) a0 a1
  have hix := ixN_ok a0 a1
  by_cases h1 : r = 1
  · subst h1
    have ga : ∀ lo hi lo' hi', gAdd (.lst ((cutD ds lo hi).map .leaf)) (.lst ((cutD ds lo' hi').map .leaf)) = some (.lst ((cutD ds lo hi ++ cutD ds lo' hi').map .leaf)) := fun lo hi lo' hi' => by
      have h1 := cutD_len (ds := ds) (lo := lo) (hi := hi)
      have h2 := cutD_len (ds := ds) (lo := lo') (hi := hi')
      exact gAdd_lst (by omega)
    have ok : ∀ lo hi lo' hi', (cutD ds lo hi ++ cutD ds lo' hi').length ≤ 2 * ds.length ∧ ∀ x ∈ cutD ds lo hi ++ cutD ds lo' hi', x ∈ ds ∨ ∃ y ∈ ds, q y x := fun lo hi lo' hi' => by
      have h1 := cutD_len (ds := ds) (lo := lo) (hi := hi)
      have h2 := cutD_len (ds := ds) (lo := lo') (hi := hi')
      exact ⟨by rw [List.length_append]; omega, fun x hx => .inl ((List.mem_append.mp hx).elim cutD_mem cutD_mem)⟩
    unfold m__law_spoilt
    exact ⟨⟨_, m2, by simp [-List.map_append, run_ap, e1, e2, gIsi2, gIsi, M.kd, isiK, gLen, M.sv, M.lv, M.tv, gGtI, gI2, hl, hl0, hne, gList, gEq_int, gAddS, ga, gTuple] <;> rfl, hb2, .inr ⟨_, .inl rfl, ok _ _ _ _⟩⟩,
      ⟨_, m2, by simp [-List.map_append, run_ap, e1, e2, gIsi2, gIsi, M.kd, isiK, gLen, M.sv, M.lv, M.tv, gGtI, gI2, hl, hl0, hne, gList, gEq_int, gAddS, ga, gTuple] <;> rfl, hb2, .inr ⟨_, .inr rfl, ok _ _ _ _⟩⟩⟩
  by_cases h2 : r = 2
  · subst h2
    have ga : ∀ lo hi lo' hi', gAdd (.lst ((cutD ds lo hi).map .leaf)) (.lst ((cutD ds lo' hi').map .leaf)) = some (.lst ((cutD ds lo hi ++ cutD ds lo' hi').map .leaf)) := fun lo hi lo' hi' => by
      have h1 := cutD_len (ds := ds) (lo := lo) (hi := hi)
      have h2 := cutD_len (ds := ds) (lo := lo') (hi := hi')
      exact gAdd_lst (by omega)
    have ok : ∀ lo hi lo' hi', (cutD ds lo hi ++ cutD ds lo' hi').length ≤ 2 * ds.length ∧ ∀ x ∈ cutD ds lo hi ++ cutD ds lo' hi', x ∈ ds ∨ ∃ y ∈ ds, q y x := fun lo hi lo' hi' => by
      have h1 := cutD_len (ds := ds) (lo := lo) (hi := hi)
      have h2 := cutD_len (ds := ds) (lo := lo') (hi := hi')
      exact ⟨by rw [List.length_append]; omega, fun x hx => .inl ((List.mem_append.mp hx).elim cutD_mem cutD_mem)⟩
    unfold m__law_spoilt
    exact ⟨⟨_, m2, by simp [-List.map_append, run_ap, e1, e2, gIsi2, gIsi, M.kd, isiK, gLen, M.sv, M.lv, M.tv, gGtI, gI2, hl, hl0, hne, gList, gEq_int, gAddS, ga, gTuple] <;> rfl, hb2, .inr ⟨_, .inl rfl, ok _ _ _ _⟩⟩,
      ⟨_, m2, by simp [-List.map_append, run_ap, e1, e2, gIsi2, gIsi, M.kd, isiK, gLen, M.sv, M.lv, M.tv, gGtI, gI2, hl, hl0, hne, gList, gEq_int, gAddS, ga, gTuple] <;> rfl, hb2, .inr ⟨_, .inr rfl, ok _ _ _ _⟩⟩⟩
  by_cases h3 : r = 3
  · subst h3
    obtain ⟨b, m3, e3, hb3, b0, b1⟩ := s__law_take hb2 (many := ds.length) hl (by omega)
    obtain ⟨xb, hbt, hxb⟩ := atI_ok (ds := ds) b0 b1
    have hjx := ixN_ok b0 b1
    have ok : ((ds.set a.toNat xb).set b.toNat xa).length ≤ 2 * ds.length ∧ ∀ x ∈ (ds.set a.toNat xb).set b.toNat xa, x ∈ ds ∨ ∃ y ∈ ds, q y x := by
      refine ⟨by simp; omega, fun x hx => ?_⟩
      rcases mem_set' hx with hx | rfl
      · rcases mem_set' hx with hx | rfl
        · exact .inl hx
        · exact .inl hxb
      · exact .inl hxa
    unfold m__law_spoilt
    exact ⟨⟨_, m3, by simp [-List.map_set, map_set', run_ap, e1, e2, e3, gIsi2, gIsi, M.kd, isiK, gLen, M.sv, M.lv, M.tv, gGtI, gI2, hl, hl0, hne, gList, gEq_int, gIx, hat, hbt, putQ, M.put, hix, hjx, gTuple] <;> rfl, hb3, .inr ⟨_, .inl rfl, ok⟩⟩,
      ⟨_, m3, by simp [-List.map_set, map_set', run_ap, e1, e2, e3, gIsi2, gIsi, M.kd, isiK, gLen, M.sv, M.lv, M.tv, gGtI, gI2, hl, hl0, hne, gList, gEq_int, gIx, hat, hbt, putQ, M.put, hix, hjx, gTuple] <;> rfl, hb3, .inr ⟨_, .inr rfl, ok⟩⟩⟩
  by_cases h4 : r = 4
  · subst h4
    have ok : ds.length ≤ 2 * ds.length ∧ ∀ x ∈ ds, x ∈ ds ∨ ∃ y ∈ ds, q y x := ⟨by omega, fun x hx => .inl hx⟩
    unfold m__law_spoilt
    exact ⟨⟨_, m2, by simp [run_ap, e1, e2, gIsi2, gIsi, M.kd, isiK, gLen, M.sv, M.lv, M.tv, gGtI, gI2, hl, hl0, hne, gList, gEq_int, gTuple] <;> rfl, hb2, .inr ⟨_, .inr rfl, ok⟩⟩,
      ⟨_, m2, by simp [run_ap, e1, e2, gIsi2, gIsi, M.kd, isiK, gLen, M.sv, M.lv, M.tv, gGtI, gI2, hl, hl0, hne, gList, gEq_int, gTuple] <;> rfl, hb2, .inr ⟨_, .inl rfl, ok⟩⟩⟩
  obtain ⟨d', m3, e3, hb3, hq⟩ := hrec xa hxa m2 hb2
  have ok : (ds.set a.toNat d').length ≤ 2 * ds.length ∧ ∀ x ∈ ds.set a.toNat d', x ∈ ds ∨ ∃ y ∈ ds, q y x := by
    refine ⟨by simp; omega, fun x hx => ?_⟩
    rcases mem_set' hx with hx | rfl
    · exact .inl hx
    · exact .inr ⟨xa, hxa, hq⟩
  unfold m__law_spoilt
  exact ⟨⟨_, m3, by simp [-List.map_set, map_set', run_ap, e1, e2, e3, gIsi2, gIsi, M.kd, isiK, gLen, M.sv, M.lv, M.tv, gGtI, gI2, hl, hl0, hne, hr, gList, gEq_int, h1, h2, h3, h4, gIx, hat, M.put, hix, gTuple] <;> rfl, hb3, .inr ⟨_, .inl rfl, ok⟩⟩,
    ⟨_, m3, by simp [-List.map_set, map_set', run_ap, e1, e2, e3, gIsi2, gIsi, M.kd, isiK, gLen, M.sv, M.lv, M.tv, gGtI, gI2, hl, hl0, hne, hr, gList, gEq_int, h1, h2, h3, h4, gIx, hat, M.put, hix, gTuple] <;> rfl, hb3, .inr ⟨_, .inr rfl, ok⟩⟩⟩
end G
namespace G
open PySem PySem.Spec PyProof.Rows L2

theorem len_app (a b : Str) : (a ++ b).length = a.length + b.length := PySem.Str.length_append a b
theorem len_cut (z : Str) (lo hi : Option Int) : (cutS z lo hi).length ≤ z.length := by
  have : (cutS z lo hi).length = ((z.cps.toList.drop (HT.sIx z.length 0 lo)).take (HT.sIx z.length z.length hi - HT.sIx z.length 0 lo)).length := by
    unfold cutS
    simp [Str.length]
  rw [this, List.length_take, List.length_drop]
  have : z.cps.toList.length = z.length := by simp [Str.length]
  omega
theorem len_a : ("a" : Str).length = 1 := by decide +kernel
theorem len_sp : (" " : Str).length = 1 := by decide +kernel
theorem len_z : ("z" : Str).length = 1 := by decide +kernel
theorem len_e : ("" : Str).length = 0 := by decide +kernel
theorem len_T : ("True" : Str).length = 4 := by decide +kernel
theorem len_F : ("False" : Str).length = 5 := by decide +kernel
theorem pow3_ge (s : Nat) : 1 ≤ 3 ^ s := Nat.one_le_pow _ _ (by decide)
theorem pow3_le {s : Nat} (h : s ≤ 8) : 3 ^ s ≤ 6561 := by
  have := Nat.pow_le_pow_right (n := 3) (by decide) h
  simpa using this
theorem pow2_le {s : Nat} (h : s ≤ 8) : 2 ^ s ≤ 256 := by
  have := Nat.pow_le_pow_right (n := 2) (by decide) h
  simpa using this
/-- a pick out of seven -/
theorem sp_str (n : Nat) {s : Nat} (hs : s ≤ 8) {x : Str} (hx : sm s (.str x) = true) {m : M} (hb : Bag m) :
    ∃ d' m', runF 2 6 [0] (m__law_spoilt (f__law_spoilt n)) [m, .leaf (.str x)] = .ret (.leaf d') [some m', none] ∧ Bag m' ∧ sm (s + 1) d' = true ∧ dep d' ≤ 3 := by
  simp only [sm, decide_eq_true_eq] at hx
  have p3 := pow3_le hs
  have p1 := pow3_ge s
  have e3 : 3 ^ (s + 1) = 3 * 3 ^ s := by rw [Nat.pow_succ]; omega
  obtain ⟨r, m1, e1, hb1, r0, r1⟩ := s__law_take hb (many := 9) (by decide) (by decide)
  by_cases h1 : 1 < r
  · have z1 : x.length + ("a" : Str).length ≤ 16777216 := by rw [len_a]; omega
    have z2 : x.length ≤ 16777216 := by omega
    have z3 : x.length + (" " : Str).length ≤ 16777216 := by rw [len_sp]; omega
    have z4 : x.length ≤ 5592405 := by omega
    have z5 : x.length + x.length ≤ 16777216 := by omega
    have z6 : ("z" : Str).length + x.length ≤ 16777216 := by rw [len_z]; omega
    obtain ⟨d, hat, hd⟩ := atI_ok (ds := [PyData.str (x ++ ("a" : Str)), .str (cutS x none (some (-1))), .str (x ++ (" " : Str)), .str (Txt.upper x), .str (x ++ x), .str (("z" : Str) ++ x), .str ("" : Str)]) (r := r - 2) (by omega) (by simp; omega)
    refine ⟨d, m1, ?_, hb1, ?_, ?_⟩
    · unfold m__law_spoilt
      simp [run_ap, e1, gIsi2, gIsi, M.kd, isiK, gGtI, gI2, h1, gAddS, gUpper, gSl, gNeg, gSub, z1, z2, z3, z4, z5, z6, gIx, M.sv, leaves, hat]
    · have hc := len_cut x none (some (-1))
      have hu := PyProof.Rows.len_upper x
      simp only [List.mem_cons, List.not_mem_nil, or_false] at hd
      rcases hd with rfl | rfl | rfl | rfl | rfl | rfl | rfl <;> simp only [sm, decide_eq_true_eq, e3, len_app, len_a, len_sp, len_z, len_e] <;> omega
    · simp only [List.mem_cons, List.not_mem_nil, or_false] at hd
      rcases hd with rfl | rfl | rfl | rfl | rfl | rfl | rfl <;> simp [dep]
  · obtain ⟨d, m2, e2, hd, hb2⟩ := s__law_odd hb1
    refine ⟨d, m2, ?_, hb2, sm_ups (Nat.zero_le _) d (odd_ok d hd).1, (odd_ok d hd).2⟩
    unfold m__law_spoilt
    simp [run_ap, e1, e2, gIsi2, gIsi, M.kd, isiK, gGtI, gI2, h1]
theorem sp_int (n : Nat) {s : Nat} (hs : s ≤ 8) {i : Int} (hx : sm s (.int i) = true) {m : M} (hb : Bag m) :
    ∃ d' m', runF 2 6 [0] (m__law_spoilt (f__law_spoilt n)) [m, .leaf (.int i)] = .ret (.leaf d') [some m', none] ∧ Bag m' ∧ sm (s + 1) d' = true ∧ dep d' ≤ 3 := by
  simp only [sm, decide_eq_true_eq] at hx
  have p1 := pow3_ge (s + 1)
  obtain ⟨r, m1, e1, hb1, r0, r1⟩ := s__law_take hb (many := 9) (by decide) (by decide)
  by_cases h1 : 1 < r
  · have ha : i.natAbs < 10 ^ 31 := by omega
    have z1 : i.natAbs.log2 < 1920 := by
      by_cases hi : i.natAbs = 0
      · rw [hi]; decide
      · exact (Nat.log2_lt hi).mpr (Nat.lt_trans ha (by decide +kernel))
    have z2 : (Str.ofString i.repr).length ≤ 32 := by
      rw [PySem.ofString_length]
      exact int_text_length_le10 (k := 31) (by decide) ha
    obtain ⟨d, hat, hd⟩ := atI_ok (ds := [PyData.int (i + 1), .int (i - 1), .int (-i), .int (i + 1000), .str (Str.ofString i.repr), .int (i + 50), .tuple [.int i]]) (r := r - 2) (by omega) (by simp; omega)
    refine ⟨d, m1, ?_, hb1, ?_, ?_⟩
    · unfold m__law_spoilt
      simp [run_ap, e1, gIsi2, gIsi, M.kd, isiK, gGtI, gI2, h1, gAddB, gAddS, gSubB, gNegB, gStrB, gStr, gNeg, gSub, z1, gIx, M.sv, leaves, hat]
    · simp only [List.mem_cons, List.not_mem_nil, or_false] at hd
      have p2 : 1 ≤ 2 ^ (s + 1) := Nat.one_le_pow _ _ (by decide)
      rcases hd with rfl | rfl | rfl | rfl | rfl | rfl | rfl <;> simp only [sm, sms, Bool.and_eq_true, decide_eq_true_eq, List.length_cons, List.length_nil, and_true] <;> omega
    · simp only [List.mem_cons, List.not_mem_nil, or_false] at hd
      rcases hd with rfl | rfl | rfl | rfl | rfl | rfl | rfl <;> simp [dep, deps]
  · obtain ⟨d, m2, e2, hd, hb2⟩ := s__law_odd hb1
    refine ⟨d, m2, ?_, hb2, sm_ups (Nat.zero_le _) d (odd_ok d hd).1, (odd_ok d hd).2⟩
    unfold m__law_spoilt
    simp [run_ap, e1, e2, gIsi2, gIsi, M.kd, isiK, gGtI, gI2, h1]
theorem sp_bool (n : Nat) {s : Nat} {b : Bool} {m : M} (hb : Bag m) :
    ∃ d' m', runF 2 6 [0] (m__law_spoilt (f__law_spoilt n)) [m, .leaf (.bool b)] = .ret (.leaf d') [some m', none] ∧ Bag m' ∧ sm (s + 1) d' = true ∧ dep d' ≤ 3 := by
  have p1 := pow3_ge (s + 1)
  obtain ⟨r, m1, e1, hb1, r0, r1⟩ := s__law_take hb (many := 9) (by decide) (by decide)
  by_cases h1 : 1 < r
  · obtain ⟨d, hat, hd⟩ := atI_ok (ds := [PyData.int (bI b + 1), .int (bI b - 1), .int (-(bI b)), .int (bI b + 1000), .str (if b then "True" else "False"), .int (bI b + 50), .tuple [.bool b]]) (r := r - 2) (by omega) (by simp; omega)
    refine ⟨d, m1, ?_, hb1, ?_, ?_⟩
    · unfold m__law_spoilt
      simp [run_ap, e1, gIsi2, gIsi, M.kd, isiK, gGtI, gI2, h1, gAddB, gAddS, gSubB, gNegB, gStrB, gStr, gNeg, gSub, gIx, M.sv, leaves, hat]
    · simp only [List.mem_cons, List.not_mem_nil, or_false] at hd
      have p2 : 1 ≤ 2 ^ (s + 1) := Nat.one_le_pow _ _ (by decide)
      cases b <;> rcases hd with rfl | rfl | rfl | rfl | rfl | rfl | rfl <;> simp only [sm, sms, bI, Bool.and_eq_true, decide_eq_true_eq, List.length_cons, List.length_nil, and_true, if_true, if_false, Bool.false_eq_true, len_T, len_F] <;> omega
    · simp only [List.mem_cons, List.not_mem_nil, or_false] at hd
      rcases hd with rfl | rfl | rfl | rfl | rfl | rfl | rfl <;> simp [dep, deps]
  · obtain ⟨d, m2, e2, hd, hb2⟩ := s__law_odd hb1
    refine ⟨d, m2, ?_, hb2, sm_ups (Nat.zero_le _) d (odd_ok d hd).1, (odd_ok d hd).2⟩
    unfold m__law_spoilt
    simp [run_ap, e1, e2, gIsi2, gIsi, M.kd, isiK, gGtI, gI2, h1]
theorem s_spoilt : ∀ (n : Nat) {s : Nat} (hs : s ≤ 8) (d : PyData) (m : M), Bag m → sm s d = true → dep d < n → ∃ d' m', f__law_spoilt n [m, .leaf d] = .ret (.leaf d') [some m', none] ∧ Bag m' ∧ sm (s + 1) d' = true ∧ dep d' ≤ dep d + 3
  | 0, _, _, d, _, _, _, h => by omega
  | n + 1, s, hs, d, m, hb, hx, hd => by
    show ∃ d' m', runF 2 6 [0] (m__law_spoilt (f__law_spoilt n)) [m, .leaf d] = _ ∧ _
    have p2 := pow2_le hs
    have e2 : 2 ^ (s + 1) = 2 * 2 ^ s := by rw [Nat.pow_succ]; omega
    have odd : ∀ {dd : PyData}, (dd = .none ∨ dd = .list [] ∨ dd = .tuple []) → ∃ d' m', runF 2 6 [0] (m__law_spoilt (f__law_spoilt n)) [m, .leaf dd] = .ret (.leaf d') [some m', none] ∧ Bag m' ∧ sm (s + 1) d' = true ∧ dep d' ≤ 3 := fun {dd} hdd => by
      obtain ⟨r, m1, e1, hb1, r0, r1⟩ := s__law_take hb (many := 9) (by decide) (by decide)
      obtain ⟨d, m2, e2, hd, hb2⟩ := s__law_odd hb1
      refine ⟨d, m2, ?_, hb2, sm_ups (Nat.zero_le _) d (odd_ok d hd).1, (odd_ok d hd).2⟩
      unfold m__law_spoilt
      rcases hdd with rfl | rfl | rfl <;> simp [run_ap, e1, e2, gIsi2, gIsi, M.kd, isiK, gGtI, gI2, gLen, M.sv]
    have fin : ∀ {ds : List PyData} {d' : PyData}, ds.length ≤ 40 * 2 ^ s → sms s ds = true → Out (fun y x => sm (s + 1) x = true ∧ dep x ≤ dep y + 3) ds d' → sm (s + 1) d' = true ∧ dep d' ≤ 1 + deps ds + 3 := fun {ds d'} hl hsm ho => by
      rcases ho with ho | ⟨l, hl2, hlen, hall⟩
      · exact ⟨sm_ups (Nat.zero_le _) d' (odd_ok d' ho).1, by have := (odd_ok d' ho).2; omega⟩
      · have h1 : sms (s + 1) l = true := sms_iff.mpr fun x hx => by
          rcases hall x hx with h | ⟨y, _, h⟩
          · exact sm_up x (sms_iff.mp hsm x h)
          · exact h.1
        have h2 : deps l ≤ deps ds + 3 := deps_le.mpr fun x hx => by
          rcases hall x hx with h | ⟨y, hy, h⟩
          · have := deps_le.mp (Nat.le_refl (deps ds)) x h; omega
          · have := deps_le.mp (Nat.le_refl (deps ds)) y hy; have := h.2; omega
        rcases hl2 with rfl | rfl
        · exact ⟨by simp only [sm, Bool.and_eq_true, decide_eq_true_eq, h1, and_true]; omega, by simp only [dep]; omega⟩
        · exact ⟨by simp only [sm, Bool.and_eq_true, decide_eq_true_eq, h1, and_true]; omega, by simp only [dep]; omega⟩
    cases d with
    | none => obtain ⟨d', m', h1, h2, h3, h4⟩ := odd (.inl rfl); exact ⟨d', m', h1, h2, h3, by omega⟩
    | bool b => obtain ⟨d', m', h1, h2, h3, h4⟩ := sp_bool n (s := s) (b := b) hb; exact ⟨d', m', h1, h2, h3, by omega⟩
    | int i => obtain ⟨d', m', h1, h2, h3, h4⟩ := sp_int n hs hx hb; exact ⟨d', m', h1, h2, h3, by omega⟩
    | str x => obtain ⟨d', m', h1, h2, h3, h4⟩ := sp_str n hs hx hb; exact ⟨d', m', h1, h2, h3, by omega⟩
    | dict _ => simp [sm] at hx
    | list ds =>
      by_cases hne : ds = []
      · subst hne; obtain ⟨d', m', h1, h2, h3, h4⟩ := odd (.inr (.inl rfl)); exact ⟨d', m', h1, h2, h3, by omega⟩
      · simp only [sm, Bool.and_eq_true, decide_eq_true_eq] at hx
        simp only [dep] at hd
        obtain ⟨_, d', m', h1, h2, h3⟩ := sp_seq (f__law_spoilt n) hne (by omega) hb (fun y x => sm (s + 1) x = true ∧ dep x ≤ dep y + 3) fun y hy m hm => s_spoilt n hs y m hm (sms_iff.mp hx.2 y hy) (by have := deps_le.mp (Nat.le_refl (deps ds)) y hy; omega)
        obtain ⟨h4, h5⟩ := fin hx.1 hx.2 h3
        exact ⟨d', m', h1, h2, h4, by simp only [dep]; exact h5⟩
    | tuple ds =>
      by_cases hne : ds = []
      · subst hne; obtain ⟨d', m', h1, h2, h3, h4⟩ := odd (.inr (.inr rfl)); exact ⟨d', m', h1, h2, h3, by omega⟩
      · simp only [sm, Bool.and_eq_true, decide_eq_true_eq] at hx
        simp only [dep] at hd
        obtain ⟨⟨d', m', h1, h2, h3⟩, _⟩ := sp_seq (f__law_spoilt n) hne (by omega) hb (fun y x => sm (s + 1) x = true ∧ dep x ≤ dep y + 3) fun y hy m hm => s_spoilt n hs y m hm (sms_iff.mp hx.2 y hy) (by have := deps_le.mp (Nat.le_refl (deps ds)) y hy; omega)
        obtain ⟨h4, h5⟩ := fin hx.1 hx.2 h3
        exact ⟨d', m', h1, h2, h4, by simp only [dep]; exact h5⟩
end G
namespace G
open PySem PySem.Spec PyProof.Rows L2

theorem loop_invN {g : PyData → Env' → Option Env'} {b : Env' → O} (P : Nat → Env' → Prop) (N : Nat) : ∀ {ds : List PyData} (hs : ∀ i d, i < N → d ∈ ds → ∀ ρ, P i ρ → ∃ ρ1 ρ2, g d ρ = some ρ1 ∧ b ρ1 = .next ρ2 ∧ P (i + 1) ρ2) (j : Nat) (ρ : Env'), j + ds.length = N → P j ρ → ∃ ρ', mLoop g b ds ρ = .next ρ' ∧ P N ρ'
  | [], _, j, ρ, e, h => ⟨ρ, rfl, by rw [← e]; exact h⟩
  | d :: ds, hs, j, ρ, e, h => by
    rw [List.length_cons] at e
    obtain ⟨ρ1, ρ2, h1, h2, h3⟩ := hs j d (by omega) (by simp) ρ h
    rw [loop_cons h1, h2, O.loop_next]
    exact loop_invN P N (fun i d hi hd => hs i d hi (List.mem_cons_of_mem _ hd)) (j + 1) ρ2 (by omega) h3
def nameL : List PyData := [.str "ash", .str "bay", .str "cod", .str "dew", .str "elm"]
def isRowS (d : PyData) : Prop := ∃ (a b : Str) (t c k : Int), d = .tuple [.str a, .str b, .int t, .int c, .int k] ∧ a.length ≤ 3 ∧ b.length ≤ 3
theorem isRowS.row {d : PyData} (h : isRowS d) : isRow d := let ⟨a, b, t, c, k, e, _⟩ := h; ⟨a, b, t, c, k, e⟩
theorem names_ok {d : PyData} (h : d ∈ nameL) : ∃ a : Str, d = .str a ∧ a.length ≤ 3 := by
  unfold nameL at h
  simp only [List.mem_cons, List.not_mem_nil, or_false] at h
  rcases h with rfl | rfl | rfl | rfl | rfl
  · exact ⟨_, rfl, by decide +kernel⟩
  · exact ⟨_, rfl, by decide +kernel⟩
  · exact ⟨_, rfl, by decide +kernel⟩
  · exact ⟨_, rfl, by decide +kernel⟩
  · exact ⟨_, rfl, by decide +kernel⟩
def KeyRow (k : List Key) : Prop := ∃ (a b : Str) (t c z : Int), k = [.inr a, .inr b, .inl t, .inl c, .inl z] ∧ a.length ≤ 3 ∧ b.length ≤ 3
theorem rng_ok {n : Int} (h0 : 0 ≤ n) (h1 : n < 1000000) : inR n = true := by
  unfold inR
  simp only [Bool.and_eq_true, decide_eq_true_eq]
  omega
theorem s__law_web {m : M} (hb : Bag m) {most : Int} (h0 : 0 < most) (h1 : most < 100000) : ∃ (ways : List PyData) (m' : M), f__law_web [m, .leaf (.int most)] = .ret (.leaf (.tuple ways)) [some m', none] ∧ Bag m' ∧ ways ≠ [] ∧ (∀ d ∈ ways, isRowS d) ∧ (ways.length : Int) ≤ most := by
  obtain ⟨r, m1, e1, hb1, r0, r1⟩ := s__law_take hb (many := 5) (by decide) (by decide)
  obtain ⟨names, hn, hne, hsub, hnl⟩ : ∃ names, cutD nameL none (some (1 + r)) = names ∧ names ≠ [] ∧ (∀ d ∈ names, d ∈ nameL) ∧ names.length ≤ 5 := by
    refine ⟨_, rfl, ?_, fun d hd => cutD_mem hd, cutD_len⟩
    have : r = 0 ∨ r = 1 ∨ r = 2 ∨ r = 3 ∨ r = 4 := by omega
    rcases this with rfl | rfl | rfl | rfl | rfl <;> simp [cutD, nameL, HT.sIx]
  obtain ⟨c, m2, e2, hb2, c0, c1⟩ := s__law_take hb1 (many := most) h0 (by omega)
  let P : Nat → Env' → Prop := fun i ρ => ∃ m nm A o4 o5 o6 o7, ρ = [some m, some (.leaf (.int most)), some nm, some (.dT A), o4, o5, o6, o7] ∧ Bag m ∧ (nm = .lst (names.map .leaf) ∨ nm = .leaf (.list names)) ∧ (∀ k ∈ A.map (·.1), KeyRow k) ∧ A.length ≤ i ∧ (0 < i → A ≠ [])
  have hlen : (rangeD 0 1 (1 + c).toNat).length = (1 + c).toNat := by simp [rangeD]
  have inv := loop_invN (g := gN 4) (b := b__law_web_0) P (1 + c).toNat (ds := rangeD 0 1 (1 + c).toNat) (fun i d hi hd ρ hP => by
    obtain ⟨m, nm, A, o4, o5, o6, o7, rfl, hb, hnm, hA, hl, hpos⟩ := hP
    obtain ⟨q1, n1, f1, hn1, q10, q11⟩ := s__law_take hb (many := 4) (by decide) (by decide)
    obtain ⟨bt, hbt, hbm⟩ := atI_ok (ds := [PyData.int 2, .int 3, .int 5, .int 10]) q10 q11
    obtain ⟨bv, rfl, bv0, bv1⟩ : ∃ v : Int, bt = .int v ∧ 2 ≤ v ∧ v ≤ 10 := by
      simp only [List.mem_cons, List.not_mem_nil, or_false] at hbm
      rcases hbm with rfl | rfl | rfl | rfl <;> exact ⟨_, rfl, by decide, by decide⟩
    obtain ⟨q2, n2, f2, hn2, q20, q21⟩ := s__law_take hn1 (many := bv - 1) (by omega) (by omega)
    obtain ⟨q3, n3, f3, hn3, q30, q31⟩ := s__law_take hn2 (many := 2) (by decide) (by decide)
    obtain ⟨tt, htt, htm⟩ := atI_ok (ds := [PyData.int 2, .int 9]) q30 q31
    obtain ⟨tv, rfl, tv0, tv1⟩ : ∃ v : Int, tt = .int v ∧ 2 ≤ v ∧ v ≤ 9 := by
      simp only [List.mem_cons, List.not_mem_nil, or_false] at htm
      rcases htm with rfl | rfl <;> exact ⟨_, rfl, by decide, by decide⟩
    obtain ⟨q4, n4, f4, hn4, q40, q41⟩ := s__law_take hn3 (many := tv) (by omega) (by omega)
    obtain ⟨x, n5, f5, hx, hn5⟩ := s__law_of hn4 (ds := names) hne (by omega)
    obtain ⟨y, n6, f6, hy, hn6⟩ := s__law_of hn5 (ds := names) hne (by omega)
    obtain ⟨a, rfl, ha⟩ := names_ok (hsub x hx)
    obtain ⟨b, rfl, hb'⟩ := names_ok (hsub y hy)
    have hz : A.length < 16777216 := by omega
    refine ⟨_, [some n6, some (.leaf (.int most)), some (.leaf (.list names)), some (.dT (putG A [.inr a, .inr b, .inl (1 + q2), .inl bv, .inl (1 + q4)] (.leaf (.bool true)))), some (.leaf d), some (.leaf (.int bv)), some (.leaf (.int (1 + q2))), some (.leaf (.int (1 + q4)))], rfl, ?_, n6, _, _, _, _, _, _, rfl, hn6, .inr rfl, fun k hk => ?_, ?_, fun _ => ?_⟩
    · unfold b__law_web_0
      rcases hnm with rfl | rfl <;> simp [f1, f2, f3, f4, f5, f6, gIx, M.sv, leaves, hbt, htt, gAddS, gSub, gI2, M.put, keysOf, keyOf, hz]
    · rcases mem_putG.mp hk with hk | rfl
      · exact hA k hk
      · exact ⟨a, b, _, _, _, rfl, ha, hb'⟩
    · have := putG_len A [.inr a, .inr b, .inl (1 + q2), .inl bv, .inl (1 + q4)] (.leaf (.bool true)); omega
    · intro e
      have : ([.inr a, .inr b, .inl (1 + q2), .inl bv, .inl (1 + q4)] : List Key) ∈ (putG A [.inr a, .inr b, .inl (1 + q2), .inl bv, .inl (1 + q4)] (.leaf (.bool true))).map (·.1) := mem_putG.mpr (.inr rfl)
      rw [e] at this
      simp at this) 0 [some m2, some (.leaf (.int most)), some (.lst (names.map .leaf)), some (.dT []), none, none, none, none] (by omega) ⟨m2, _, [], _, _, _, _, rfl, hb2, .inl rfl, by simp, by simp, fun h => by omega⟩
  obtain ⟨ρ', hL, m3, nm, A, o4, o5, o6, o7, rfl, hb3, hnm, hA, hl, hpos⟩ := inv
  have hrow : ∀ d ∈ A.map (fun kv => keysD kv.1), isRowS d := fun d hd => by
    obtain ⟨kv, hkv, rfl⟩ := List.mem_map.mp hd
    obtain ⟨a, b, t, cc, z, e, ha, hb⟩ := hA kv.1 (List.mem_map.mpr ⟨kv, hkv, rfl⟩)
    exact ⟨a, b, t, cc, z, by rw [e]; rfl, ha, hb⟩
  have hok : sortOk (A.map fun kv => keysD kv.1) = true := sortOk_rows (fun d hd => (hrow d hd).row) (by simp; omega)
  have hrg := rng_ok (n := 1 + c) (by omega) (by omega)
  refine ⟨sortD (A.map fun kv => keysD kv.1), m3, ?_, hb3, ?_, fun d hd => hrow d (List.mem_mergeSort.mp hd), ?_⟩
  · unfold f__law_web m__law_web
    have hn' : cutD [PyData.str "ash", .str "bay", .str "cod", .str "dew", .str "elm"] none (some (1 + r)) = names := hn
    simp [run_ap, e1, e2, gAddS, gSl, M.tv, M.lv, leaves, hn', rg1_ok _ hrg, hL, gSortK, M.kv, hok, gTuple]
  · intro e
    have hAn := hpos (by omega)
    have : (sortD (A.map fun kv => keysD kv.1)).length = A.length := by simp
    rw [e] at this
    exact hAn (List.length_eq_zero_iff.mp this.symm)
  · have : (sortD (A.map fun kv => keysD kv.1)).length = A.length := by simp
    rw [this]; omega
end G
namespace G
open PySem PySem.Spec PyProof.Rows L2

def appL (o : Option M) (r : R M) (i : Nat) : O := match o with
  | some (.lst _) => match r with
    | .ok y ρ1 => match qName i ρ1 with
      | some (.lst ms) => if ms.length < 16777216 then .next (ρ1.set i (some (.lst (ms ++ [y])))) else .bad
      | _ => .bad
    | .err x ρ1 => .err x ρ1
    | .bad => .bad
  | _ => .bad
@[simp] theorem ap_append (i : Nat) (mv : Env' → R M) (ρ : Env') : mAppend i mv ρ = appL (qName i ρ) (mv ρ) i := by unfold mAppend appL; rfl
theorem appL_ok {ms0 ms : List M} {y : M} {ρ1 : Env'} {i : Nat} (h : qName i ρ1 = some (.lst ms)) (hz : ms.length < 16777216) : appL (some (.lst ms0)) (.ok y ρ1) i = .next (ρ1.set i (some (.lst (ms ++ [y])))) := by
  unfold appL
  simp only [h, hz, if_true]
theorem plc_len {ways : List PyData} (h : ∀ d ∈ ways, isRowS d) {z : Str} (hz : Plc ways z) : z.length ≤ 3 := by
  obtain ⟨w, hw, e⟩ := hz
  obtain ⟨a, b, t, c, k, rfl, ha, hb⟩ := h w hw
  rcases e with e | e
  · have : a = z := by simpa [c0] using e
    subst this; exact ha
  · have : b = z := by simpa [c1] using e
    subst this; exact hb
theorem s__law_letters {m : M} (hb : Bag m) {ways : List PyData} (hw : ∀ d ∈ ways, isRowS d) (hne : ways ≠ []) (hwl : ways.length ≤ 400) {most strong : Int} (h0 : 0 ≤ most) (h1 : most ≤ 30) (s0 : 0 < strong) (s1 : strong < 100000) :
    ∃ (l : List PyData) (m' : M), f__law_letters [m, .leaf (.tuple ways), .leaf (.int most), .leaf (.int strong)] = .ret (.lst (l.map .leaf)) [some m', none, none, none] ∧ Bag m' ∧ sm 0 (.list l) = true ∧ dep (.list l) ≤ 2 ∧ (l.length : Int) ≤ most := by
  obtain ⟨pl, ep, hp⟩ := s__law_places (fun d hd => (hw d hd).row) hwl
  obtain ⟨w, hw0⟩ := List.exists_mem_of_ne_nil ways hne
  obtain ⟨a, b, t, cc, k, rfl, ha, hb'⟩ := hw w hw0
  have hpn : pl ≠ [] := fun e => by
    have := (hp.2.1 a).mpr ⟨_, hw0, .inl rfl⟩
    rw [e] at this; simp at this
  obtain ⟨c, m2, e2, hb2, c0, c1⟩ := s__law_take hb (many := most + 1) (by omega) (by omega)
  let P : Nat → Env' → Prop := fun i ρ => ∃ (m : M) (l : List PyData) (o5 o6 : Option M), ρ = [some m, some (.leaf (.tuple ways)), some (.leaf (.int most)), some (.leaf (.int strong)), some (.lst (l.map .leaf)), o5, o6] ∧ Bag m ∧ l.length ≤ i ∧ ∀ d ∈ l, ∃ (z : Str) (x y : Int), d = .tuple [.str z, .int x, .int y] ∧ z.length ≤ 3 ∧ x.natAbs ≤ 100000 ∧ y.natAbs ≤ 100000
  have hlen : (rangeD 0 1 c.toNat).length = c.toNat := by simp [rangeD]
  have inv := loop_invN (g := gN 5) (b := b__law_letters_0) P c.toNat (ds := rangeD 0 1 c.toNat) (fun i d hi hd ρ hP => by
    obtain ⟨m, l, o5, o6, rfl, hb, hl, hall⟩ := hP
    obtain ⟨q1, n1, f1, hn1, q10, q11⟩ := s__law_take hb (many := 3) (by decide) (by decide)
    obtain ⟨q2, n2, f2, hn2, q20, q21⟩ := s__law_take hn1 (many := 1000) (by decide) (by decide)
    obtain ⟨q3, n3, f3, hn3, q30, q31⟩ := s__law_take hn2 (many := 3) (by decide) (by decide)
    obtain ⟨mt, hmt, hmm⟩ := atI_ok (ds := [PyData.int 1, .int (1 + q1), .int (1 + q2)]) q30 q31
    obtain ⟨mv, rfl, mv0⟩ : ∃ v : Int, mt = .int v ∧ v.natAbs ≤ 100000 := by
      simp only [List.mem_cons, List.not_mem_nil, or_false] at hmm
      rcases hmm with rfl | rfl | rfl <;> exact ⟨_, rfl, by omega⟩
    obtain ⟨x, n4, f4, hx, hn4⟩ := s__law_of hn3 (ds := pl) hpn (by have := hp.2.2; omega)
    obtain ⟨z, rfl⟩ := hp.1 x hx
    obtain ⟨q5, n5, f5, hn5, q50, q51⟩ := s__law_take hn4 (many := strong) (by omega) (by omega)
    have ha : appL (some (.lst (l.map .leaf))) (.ok (.leaf (.tuple [.str z, .int (1 + q5), .int mv])) [some n5, some (.leaf (.tuple ways)), some (.leaf (.int most)), some (.leaf (.int strong)), some (.lst (l.map .leaf)), some (.leaf d), some (.leaf (.int mv))]) 4 =
        .next ([some n5, some (.leaf (.tuple ways)), some (.leaf (.int most)), some (.leaf (.int strong)), some (.lst (l.map .leaf)), some (.leaf d), some (.leaf (.int mv))].set 4 (some (.lst (l.map .leaf ++ [.leaf (.tuple [.str z, .int (1 + q5), .int mv])])))) := appL_ok (by simp) (by simp; omega)
    refine ⟨_, [some n5, some (.leaf (.tuple ways)), some (.leaf (.int most)), some (.leaf (.int strong)), some (.lst ((l ++ [PyData.tuple [.str z, .int (1 + q5), .int mv]]).map .leaf)), some (.leaf d), some (.leaf (.int mv))], rfl, ?_, n5, _, _, _, rfl, hn5, by simp; omega, fun d hd => ?_⟩
    · unfold b__law_letters_0
      simp [f1, f2, f3, f4, f5, gIx, M.sv, leaves, hmt, gAddS, ep]
      rw [ha]
      simp
    · rcases List.mem_append.mp hd with hd | hd
      · exact hall d hd
      · simp only [List.mem_singleton] at hd
        subst hd
        exact ⟨z, _, _, rfl, plc_len hw ((hp.2.1 z).mp hx), by omega, mv0⟩) 0 [some m2, some (.leaf (.tuple ways)), some (.leaf (.int most)), some (.leaf (.int strong)), some (.lst ([].map .leaf)), none, none] (by omega) ⟨m2, [], _, _, rfl, hb2, by simp, by simp⟩
  obtain ⟨ρ', hL, m3, l, o5, o6, rfl, hb3, hl, hall⟩ := inv
  have hrg := rng_ok (n := c) (by omega) (by omega)
  refine ⟨l, m3, ?_, hb3, ?_, ?_, by omega⟩
  · unfold f__law_letters m__law_letters
    simp only [List.map_nil] at hL
    simp [run_ap, e2, gAddS, rg1_ok _ hrg, hL]
  · simp only [sm, Bool.and_eq_true, decide_eq_true_eq]
    refine ⟨by simp; omega, sms_iff.mpr fun d hd => ?_⟩
    obtain ⟨z, x, y, rfl, hz, hx, hy⟩ := hall d hd
    simp only [sm, sms, Bool.and_eq_true, decide_eq_true_eq, List.length_cons, List.length_nil, and_true]
    refine ⟨by omega, by omega, by omega, by omega⟩
  · simp only [dep]
    have : deps l ≤ 1 := deps_le.mpr fun d hd => by
      obtain ⟨z, x, y, rfl, _⟩ := hall d hd
      simp [dep, deps]
    omega
end G
namespace G
open PySem PySem.Spec PyProof.Rows L2

theorem nds_of : ∀ {ds : List PyData}, (∀ d ∈ ds, nd d = true) → nds ds = true
  | [], _ => rfl
  | d :: r, h => by simp only [nds, Bool.and_eq_true]; exact ⟨h d (by simp), nds_of fun x hx => h x (by simp [hx])⟩
theorem gMul_one (e : PyData) {k : Int} (h0 : 0 ≤ k) (h1 : k ≤ 1000) : ∃ L : List PyData, gMul (.leaf (.list [e])) (.leaf (.int k)) = some (.lst (L.map .leaf)) ∧ ∀ x ∈ L, x = e := by
  refine ⟨(List.replicate k.toNat [e]).flatten, ?_, fun x hx => ?_⟩
  · simp only [gMul, M.lv, Option.bind_some, List.length_cons, List.length_nil]
    rw [if_pos]
    simp only [Bool.and_eq_true, decide_eq_true_eq]
    omega
  · obtain ⟨y, hy, hx⟩ := List.mem_flatten.mp hx
    have := List.eq_of_mem_replicate hy
    subst this
    simpa using hx
theorem law0 {ways : List PyData} (hw : ∀ d ∈ ways, isRowS d) (hl : ways.length ≤ 400) {d : PyData} (hd : nd d = true) (o0 o1 o2 o4 o5 o7 o8 : Option M) :
    b_law_0 [o0, o1, o2, some (.leaf (.tuple ways)), o4, o5, some (.leaf d), o7, o8] = .next [o0, o1, o2, some (.leaf (.tuple ways)), o4, o5, some (.leaf d), o7, o8] := by
  have e1 := s_are_letters (fun d hd => (hw d hd).row) hl d hd
  have e2 := s__law_are_letters (fun d hd => (hw d hd).row) hl d hd
  unfold b_law_0
  simp [e1, e2, gNe_bool]
theorem law1 {ways : List PyData} (hw : ∀ d ∈ ways, isRowS d) (hl : ways.length ≤ 400) {s : Nat} (hs : s ≤ 8) {d : PyData} {tm m : M} (hb : Bag m) (ht : tm = .leaf d ∨ ∃ l, tm = .lst (l.map .leaf) ∧ d = .list l) (hd : sm s d = true) (hdep : dep d < 40) (o0 o1 o5 o6 o7 o8 : Option M) :
    ∃ d' m' o8', b_law_1 [o0, o1, some m, some (.leaf (.tuple ways)), some tm, o5, o6, o7, o8] = .next [o0, o1, some m', some (.leaf (.tuple ways)), some (.leaf d'), o5, o6, o7, o8'] ∧ Bag m' ∧ sm (s + 1) d' = true ∧ dep d' ≤ dep d + 3 := by
  have e1 := s_are_letters (fun d hd => (hw d hd).row) hl d (sm_nd d hd)
  have e2 := s__law_are_letters (fun d hd => (hw d hd).row) hl d (sm_nd d hd)
  obtain ⟨d', m', e3, h1, h2, h3⟩ := s_spoilt 40 hs d m hb hd hdep
  refine ⟨d', m', some (.leaf (.bool (areD ways d))), ?_, h1, h2, h3⟩
  unfold b_law_1
  rcases ht with rfl | ⟨l, rfl, rfl⟩ <;> simp [e1, e2, e3, gNe_bool, gIsi, M.kd, isiK]
theorem law2 (ns : List Int) {k : Nat} (o1 o2 o3 o4 o5 o6 o7 o8 : Option M) : ∃ p1 p2 p3 p4 p5 p6 p7 p8, b_law_2 [some (.ro (ns.map .int)), some (.leaf (.int k)), o2, o3, o4, o5, o6, o7, o8] = .next [some (.ro (ns.map .int)), p1, p2, p3, p4, p5, p6, p7, p8] := by
  obtain ⟨m0, f0, hb0⟩ := s__law_bag ns k
  obtain ⟨ways, m1, f1, hb1, hne, hw, hwl⟩ := s__law_web hb0 (most := 6) (by decide) (by decide)
  have hl : ways.length ≤ 400 := by omega
  obtain ⟨l, m2, f2, hb2, hsm, hdep, hll⟩ := s__law_letters hb1 hw hne hl (most := 6) (strong := 2000) (by decide) (by decide) (by decide) (by decide)
  obtain ⟨w, ws, rfl⟩ := List.exists_cons_of_ne_nil hne
  obtain ⟨a, b, t, c, z, rfl, _, _⟩ := hw w (by simp)
  obtain ⟨x, m3, f3, hx, hb3⟩ := s__law_of hb2 (ds := [PyData.int 0, .int 1, .int 2000, .int 2001]) (by simp) (by simp)
  obtain ⟨y, m4, f4, hy, hb4⟩ := s__law_of hb3 (ds := [PyData.int 0, .int 1, .int 1000, .int 1001]) (by simp) (by simp)
  obtain ⟨od, m5, f5, hod, hb5⟩ := s__law_odd hb4
  have hxn : nd x = true := by
    simp only [List.mem_cons, List.not_mem_nil, or_false] at hx
    rcases hx with rfl | rfl | rfl | rfl <;> rfl
  have hyn : nd y = true := by
    simp only [List.mem_cons, List.not_mem_nil, or_false] at hy
    rcases hy with rfl | rfl | rfl | rfl <;> rfl
  generalize hed : PyData.tuple [.str b, x, y] = ed
  have hedn : nd ed = true := by subst hed; simp [nd, nds, hxn, hyn]
  obtain ⟨L20, g20, h20⟩ := gMul_one ed (k := 20) (by decide) (by decide)
  obtain ⟨L21, g21, h21⟩ := gMul_one ed (k := 21) (by decide) (by decide)
  have gt : gTuple (.lst (l.map .leaf)) = some (.leaf (.tuple l)) := by simp [gTuple, M.tv, M.lv]
  have ga := gAdd_lst (a := l) (b := l) (by omega)
  have hln : nds l = true := by have := sm_nd _ hsm; simpa [nd] using this
  generalize hW : PyData.tuple [.str a, .str b, .int t, .int c, .int z] :: ws = W at *
  let ds7 : List PyData := [.list [ed], .list L20, .list L21, .tuple l, .list (l ++ l), od, .list []]
  have n7 : ∀ d ∈ ds7, nd d = true := fun d hd => by
    simp only [ds7, List.mem_cons, List.not_mem_nil, or_false] at hd
    rcases hd with rfl | rfl | rfl | rfl | rfl | rfl | rfl
    · simp [nd, nds, hedn]
    · simp only [nd]; exact nds_of fun x hx => by rw [h20 x hx]; exact hedn
    · simp only [nd]; exact nds_of fun x hx => by rw [h21 x hx]; exact hedn
    · simp only [nd]; exact hln
    · simp only [nd]; exact nds_of fun x hx => (List.mem_append.mp hx).elim (nds_mem hln x) (nds_mem hln x)
    · exact sm_nd _ (odd_ok _ hod).1
    · rfl
  obtain ⟨ρa, La, o6', rfl⟩ := loop_inv (g := gN 6) (b := b_law_0) (fun ρ => ∃ o6, ρ = [some (.ro (ns.map .int)), some (.leaf (.int k)), some m5, some (.leaf (.tuple W)), some (.lst (l.map .leaf)), some (.leaf (.list [ed])), o6, o7, o8]) (ds := ds7)
    (fun d hd ρ ⟨o6, hρ⟩ => by
      subst hρ
      exact ⟨_, _, rfl, law0 hw hl (n7 d hd) _ _ _ _ _ _ _, some (.leaf d), rfl⟩) [some (.ro (ns.map .int)), some (.leaf (.int k)), some m5, some (.leaf (.tuple W)), some (.lst (l.map .leaf)), some (.leaf (.list [ed])), o6, o7, o8] ⟨o6, rfl⟩
  have h6 : (rangeD 0 1 (6 : Int).toNat).length = 6 := by simp [rangeD]
  obtain ⟨ρb, Lb, mb, tb, db, p7, p8, rfl, _⟩ := loop_invN (g := gN 7) (b := b_law_1) (fun i ρ => ∃ m tm d o7 o8, ρ = [some (.ro (ns.map .int)), some (.leaf (.int k)), some m, some (.leaf (.tuple W)), some tm, some (.leaf (.list [ed])), o6', o7, o8] ∧ Bag m ∧
      (tm = .leaf d ∨ ∃ l, tm = .lst (l.map .leaf) ∧ d = .list l) ∧ sm i d = true ∧ dep d ≤ 2 + 3 * i) 6 (ds := rangeD 0 1 (6 : Int).toNat) (fun i d hi hd ρ hP => by
    obtain ⟨m, tm, dd, o7, o8, rfl, hb, ht, hs, hp⟩ := hP
    obtain ⟨d', m', o8', e, h1, h2, h3⟩ := law1 hw hl (s := i) (by omega) hb ht hs (by omega) (some (.ro (ns.map .int))) (some (.leaf (.int k))) (some (.leaf (.list [ed]))) o6' (some (.leaf d)) o8
    exact ⟨_, _, rfl, e, m', _, d', _, _, rfl, h1, .inl rfl, h2, by omega⟩) 0 [some (.ro (ns.map .int)), some (.leaf (.int k)), some m5, some (.leaf (.tuple W)), some (.lst (l.map .leaf)), some (.leaf (.list [ed])), o6', o7, o8] (by omega)
    ⟨m5, _, .list l, o7, o8, rfl, hb5, .inr ⟨l, rfl, rfl⟩, hsm, by omega⟩
  refine ⟨some (.leaf (.int k)), some mb, some (.leaf (.tuple W)), some tb, some (.leaf (.list [ed])), o6', p7, p8, ?_⟩
  · unfold b_law_2
    have r6 : rg1 [PyData.int 6] = fun ρ => .ok (rangeD 0 1 (6 : Int).toNat) ρ := by funext ρ; exact rg1_ok ρ (rng_ok (by decide) (by decide))
    have i0 : gIx (.leaf (.tuple W)) (.leaf (.int 0)) = some (PyData.tuple [.str a, .str b, .int t, .int c, .int z]) := by
      rw [← hW]; simp [gIx, M.sv, atI, ixN]
    have i1 : gIx (.leaf (PyData.tuple [.str a, .str b, .int t, .int c, .int z])) (.leaf (.int 1)) = some (.str b) := by simp [gIx, M.sv, atI, ixN]
    simp only [ds7] at La
    have nm1 : ∀ (i : Nat) (ρ : Env'), nmM (some (.lst [.leaf ed])) i ρ = .ok (.leaf (.list [ed])) (ρ.set i (some (.leaf (.list [ed])))) := fun i ρ => nmM_lst [ed] i ρ
    simp [-List.map_append, f0, f1, f2, f3, f4, f5, i0, i1, hed, g20, g21, gt, ga, La, r6, nm1]
    exact Lb
theorem law_true (ns : List Int) (h : ns.length ≤ 63) : ∃ outs, f_law [.ro (ns.map .int)] = .ret (.leaf (.bool true)) outs := by
  obtain ⟨n, hn, hn0, hn1⟩ : ∃ n : Int, gMin2 (.leaf (.int ns.length)) (.leaf (.int 20)) = some (.int n) ∧ 0 ≤ n ∧ n ≤ 20 := by
    simp only [gMin2, gI2, if_true]
    refine ⟨_, rfl, ?_, ?_⟩ <;> split <;> omega
  obtain ⟨ρ', L, p1, p2, p3, p4, p5, p6, p7, p8, rfl⟩ := loop_inv (g := gN 1) (b := b_law_2) (fun ρ => ∃ o1 o2 o3 o4 o5 o6 o7 o8, ρ = [some (.ro (ns.map .int)), o1, o2, o3, o4, o5, o6, o7, o8]) (ds := rangeD 0 1 (1 + n).toNat)
    (fun d hd ρ ⟨o1, o2, o3, o4, o5, o6, o7, o8, hρ⟩ => by
      subst hρ
      obtain ⟨k, hk, rfl⟩ := rangeD_mem hd
      obtain ⟨p1, p2, p3, p4, p5, p6, p7, p8, e⟩ := law2 ns (k := k) o1 o2 o3 o4 o5 o6 o7 o8
      exact ⟨_, _, rfl, e, p1, p2, p3, p4, p5, p6, p7, p8, rfl⟩) [some (.ro (ns.map .int)), none, none, none, none, none, none, none, none] ⟨_, _, _, _, _, _, _, _, rfl⟩
  refine ⟨[some (.ro (ns.map .int))], ?_⟩
  unfold f_law m_law
  simp [run_ap, gLen, M.sv, hn, gAddS, rg1_ok _ (rng_ok (n := 1 + n) (by omega) (by omega)), L]
end G
namespace G
open PySem PySem.Spec PyProof.Rows L2

/-- a def of the text, by its place -/
def topS (i : Nat) : Stmt := PySem.Challenge.pw_breedpost_k03_letters_told.main.body.getD i (.Pass ⟨0, 0, 0, 0⟩)
theorem hu64 {k : Nat} {A : Around} (hr : Room k A) : A.units + 64 < cLine := hr.units
structure Txt (K : Frag) (mg : Str → Option Value) : Prop where
  b_isinstance : mg "isinstance" = none
  b_int : mg "int" = none
  b_bool : mg "bool" = none
  b_sorted : mg "sorted" = none
  b_tuple : mg "tuple" = none
  b_len : mg "len" = none
  b_str : mg "str" = none
  b_list : mg "list" = none
  b_all : mg "all" = none
  b_abs : mg "abs" = none
  b_range : mg "range" = none
  b_set : mg "set" = none
  b_min : mg "min" = none
  c_MOST_STRENGTH : ∃ t, mg "MOST_STRENGTH" = some (.int 2000 t)
  c_MOST_MANY : ∃ t, mg "MOST_MANY" = some (.int 1000 t)
  c_MOST_LETTERS : ∃ t, mg "MOST_LETTERS" = some (.int 20 t)
abbrev st_is_whole : Stmt := topS 2
abbrev N_is_whole : List Str := ["thing"]
theorem sc_is_whole : FnScope N_is_whole ["thing"] (defScope st_is_whole) := ⟨rfl, rfl, rfl, by decide +kernel, rfl, by decide +kernel, by decide +kernel⟩
abbrev st_is_within : Stmt := topS 3
abbrev N_is_within : List Str := ["thing", "least", "most"]
theorem sc_is_within : FnScope N_is_within ["thing", "least", "most"] (defScope st_is_within) := ⟨rfl, rfl, rfl, by decide +kernel, rfl, by decide +kernel, by decide +kernel⟩
abbrev st_places : Stmt := topS 4
abbrev N_places : List Str := ["web", "found", "way"]
theorem sc_places : FnScope N_places ["web"] (defScope st_places) := ⟨rfl, rfl, rfl, by decide +kernel, rfl, by decide +kernel, by decide +kernel⟩
abbrev st_is_letter : Stmt := topS 8
abbrev N_is_letter : List Str := ["web", "thing"]
theorem sc_is_letter : FnScope N_is_letter ["web", "thing"] (defScope st_is_letter) := ⟨rfl, rfl, rfl, by decide +kernel, rfl, by decide +kernel, by decide +kernel⟩
abbrev st_are_letters : Stmt := topS 9
abbrev N_are_letters : List Str := ["web", "thing", "one"]
theorem sc_are_letters : FnScope N_are_letters ["web", "thing"] (defScope st_are_letters) := ⟨rfl, rfl, rfl, by decide +kernel, rfl, by decide +kernel, by decide +kernel⟩
abbrev st__law_bag : Stmt := topS 11
abbrev N__law_bag : List Str := ["script", "k", "cell"]
theorem sc__law_bag : FnScope N__law_bag ["script", "k"] (defScope st__law_bag) := ⟨rfl, rfl, rfl, by decide +kernel, rfl, by decide +kernel, by decide +kernel⟩
abbrev st__law_take : Stmt := topS 12
abbrev N__law_take : List Str := ["bag", "many", "found"]
theorem sc__law_take : FnScope N__law_take ["bag", "many"] (defScope st__law_take) := ⟨rfl, rfl, rfl, by decide +kernel, rfl, by decide +kernel, by decide +kernel⟩
abbrev st__law_of : Stmt := topS 13
abbrev N__law_of : List Str := ["bag", "some"]
theorem sc__law_of : FnScope N__law_of ["bag", "some"] (defScope st__law_of) := ⟨rfl, rfl, rfl, by decide +kernel, rfl, by decide +kernel, by decide +kernel⟩
abbrev st__law_within : Stmt := topS 14
abbrev N__law_within : List Str := ["thing", "least", "most"]
theorem sc__law_within : FnScope N__law_within ["thing", "least", "most"] (defScope st__law_within) := ⟨rfl, rfl, rfl, by decide +kernel, rfl, by decide +kernel, by decide +kernel⟩
abbrev st__law_odd : Stmt := topS 16
abbrev N__law_odd : List Str := ["bag", "some"]
theorem sc__law_odd : FnScope N__law_odd ["bag"] (defScope st__law_odd) := ⟨rfl, rfl, rfl, by decide +kernel, rfl, by decide +kernel, by decide +kernel⟩
abbrev st__law_spoilt : Stmt := topS 15
abbrev N__law_spoilt : List Str := ["bag", "thing", "kind_so", "rows", "at", "other"]
theorem sc__law_spoilt : FnScope N__law_spoilt ["bag", "thing"] (defScope st__law_spoilt) := ⟨rfl, rfl, rfl, by decide +kernel, rfl, by decide +kernel, by decide +kernel⟩
abbrev st__law_web : Stmt := topS 17
abbrev N__law_web : List Str := ["bag", "most", "names", "found", "turn", "bottom", "top", "ticks"]
theorem sc__law_web : FnScope N__law_web ["bag", "most"] (defScope st__law_web) := ⟨rfl, rfl, rfl, by decide +kernel, rfl, by decide +kernel, by decide +kernel⟩
abbrev st__law_places : Stmt := topS 18
abbrev N__law_places : List Str := ["web", "way"]
theorem sc__law_places : FnScope N__law_places ["web"] (defScope st__law_places) := ⟨rfl, rfl, rfl, by decide +kernel, rfl, by decide +kernel, by decide +kernel⟩
abbrev st__law_letters : Stmt := topS 19
abbrev N__law_letters : List Str := ["bag", "web", "most", "strongest", "found", "turn", "many"]
theorem sc__law_letters : FnScope N__law_letters ["bag", "web", "most", "strongest"] (defScope st__law_letters) := ⟨rfl, rfl, rfl, by decide +kernel, rfl, by decide +kernel, by decide +kernel⟩
abbrev st__law_are_letters : Stmt := topS 20
abbrev N__law_are_letters : List Str := ["web", "thing", "row"]
theorem sc__law_are_letters : FnScope N__law_are_letters ["web", "thing"] (defScope st__law_are_letters) := ⟨rfl, rfl, rfl, by decide +kernel, rfl, by decide +kernel, by decide +kernel⟩
abbrev st_law : Stmt := topS 21
abbrev N_law : List Str := ["script", "k", "bag", "web", "thing", "edge", "one", "turn", "found"]
theorem sc_law : FnScope N_law ["script"] (defScope st_law) := ⟨rfl, rfl, rfl, by decide +kernel, rfl, by decide +kernel, by decide +kernel⟩
section
variable {P : Program} {w : World} {K : Frag} {mg : Str → Option Value} {base : Heap} {f : Addr} {fd : FuncData}
theorem ok_is_whole (F : Fun K "is_whole" "is_whole" st_is_whole f fd) (hm : mg "is_whole" = some (.ref f)) (b : Binds K fd ["thing"] []) (T : Txt K mg)  : FnT P w K mg base 1 "is_whole" 1 f_is_whole := by
  have S := sc_is_whole
  refine FnT.of F hm b (fnD (k := 0) [] F sc_is_whole (by decide) fun cdv A outer s H E hr => ?_)
  exact dss_one (ds_ret (de_and (de_q (dq_isi .int (by rfl) T.b_isinstance (by rfl) T.b_int boot_int (dq_name (pv 0)))) (de_and1 (de_not (de_q (dq_isi .bl (by rfl) T.b_isinstance (by rfl) T.b_bool boot_bool (dq_name (pv 0))))))))
theorem ok_is_within (F : Fun K "is_within" "is_within" st_is_within f fd) (hm : mg "is_within" = some (.ref f)) (b : Binds K fd ["thing", "least", "most"] []) (T : Txt K mg) (h_is_whole : FnT P w K mg base 1 "is_whole" 1 f_is_whole) : FnT P w K mg base 2 "is_within" 3 f_is_within := by
  have S := sc_is_within
  refine FnT.of F hm b (fnD (k := 1) [] F sc_is_within (by decide) fun cdv A outer s H E hr => ?_)
  exact dss_one (ds_ret (de_and (de_callT h_is_whole (hr.mono (by decide)) (by rfl) (dm_val (de_name (pv 0)) (dm_nil))) (de_and1 (de_q (dq_chain op_le r_leI op_le r_leI (dq_name (pv 1)) (dq_name (pv 0)) (dq_name (pv 2)))))))
theorem ok_places (F : Fun K "places" "places" st_places f fd) (hm : mg "places" = some (.ref f)) (b : Binds K fd ["web"] []) (T : Txt K mg)  : FnT P w K mg base 1 "places" 1 f_places := by
  have S := sc_places
  refine FnT.of F hm b (fnD (k := 0) [] F sc_places (by decide) fun cdv A outer s H E hr => ?_)
  exact dss_cons (ds_setDComp (own := [("way", 2)]) (by decide) (by decide) rfl S.nd rfl rfl (by rfl) (di_seq (de_name (pv 0))) (blkOk_by (own := [("way", 2)]) (N := N_places) (sc := defScope st_places) (by decide +kernel)) (fun _ _ _ _ _ => dg_name S.nd rfl (Or.inl rfl)) (fun _ _ _ _ _ => dts_nil) (fun _ _ _ _ _ => de_q (dq_ix (dq_name (pv 2)) (dq_int))) (fun _ _ _ _ _ => de_q (dq_bl)))
      (dss_cons (ds_update (de_dcomp (own := [("way", 2)]) (by decide) rfl S.nd (di_seq (de_name (pv 0))) (blkOk_by (own := [("way", 2)]) (N := N_places) (sc := defScope st_places) (by decide +kernel)) (fun _ _ _ _ _ => dg_name S.nd rfl (Or.inl rfl)) (fun _ _ _ _ _ => dts_nil) (fun _ _ _ _ _ => de_q (dq_ix (dq_name (pv 2)) (dq_int))) (fun _ _ _ _ _ => de_q (dq_bl))) (pv 1))
      (dss_one (ds_ret (de_b1q (call_sortK rfl (hu64 hr)) r_sortK (by rfl) T.b_sorted boot_sorted (dq_name (pv 1))))))
theorem ok_is_letter (F : Fun K "is_letter" "is_letter" st_is_letter f fd) (hm : mg "is_letter" = some (.ref f)) (b : Binds K fd ["web", "thing"] []) (T : Txt K mg) (h_places : FnT P w K mg base 1 "places" 1 f_places) (h_is_within : FnT P w K mg base 2 "is_within" 3 f_is_within) : FnT P w K mg base 3 "is_letter" 2 f_is_letter := by
  have S := sc_is_letter
  refine FnT.of F hm b (fnD (k := 2) [] F sc_is_letter (by decide) fun cdv A outer s H E hr => ?_)
  exact dss_cons (ds_if (dt_bool (dw_or (dt_not (dt_val (de_q (dq_isi .tup (by rfl) T.b_isinstance (by rfl) T.b_tuple boot_tuple (dq_name (pv 1)))))) (dw_or (dt_cmpq (op_neD (hu64 hr)) r_ne (dq_b1 call_len' r_len (by rfl) T.b_len boot_len (dq_name (pv 1))) (dq_int) (by rfl)) (dw_or1 (dt_not (dt_val (de_q (dq_isi .str (by rfl) T.b_isinstance (by rfl) T.b_str boot_str (dq_ix (dq_name (pv 1)) (dq_int))))))))))
      (dss_one (ds_ret (de_q (dq_bl))))
      (dss_nil))
      (dss_cons (ds_if (dt_cmp op_ni' (R2S.up r_ni) (de_q (dq_ix (dq_name (pv 1)) (dq_int))) (de_callT h_places (hr.mono (by decide)) (by rfl) (dm_val (de_name (pv 0)) (dm_nil))) (by rfl))
      (dss_one (ds_ret (de_q (dq_bl))))
      (dss_nil))
      (dss_one (ds_ret (de_and (de_callT h_is_within (hr.mono (by decide)) (by rfl) (dm_val (de_q (dq_ix (dq_name (pv 1)) (dq_int))) (dm_val (de_q (dq_int)) (dm_val (de_q (dq_cI (by rfl) T.c_MOST_STRENGTH)) (dm_nil))))) (de_and1 (de_callT h_is_within (hr.mono (by decide)) (by rfl) (dm_val (de_q (dq_ix (dq_name (pv 1)) (dq_int))) (dm_val (de_q (dq_int)) (dm_val (de_q (dq_cI (by rfl) T.c_MOST_MANY)) (dm_nil))))))))))
theorem ok_are_letters (F : Fun K "are_letters" "are_letters" st_are_letters f fd) (hm : mg "are_letters" = some (.ref f)) (b : Binds K fd ["web", "thing"] []) (T : Txt K mg) (h_is_letter : FnT P w K mg base 3 "is_letter" 2 f_is_letter) : FnT P w K mg base 4 "are_letters" 2 f_are_letters := by
  have S := sc_are_letters
  refine FnT.of F hm b (fnD (k := 3) [] F sc_are_letters (by decide) fun cdv A outer s H E hr => ?_)
  exact dss_cons (ds_if (dt_bool (dw_or (dt_not (dt_val (de_q (dq_isi .lst (by rfl) T.b_isinstance (by rfl) T.b_list boot_list (dq_name (pv 1)))))) (dw_or1 (dt_cmpq op_gt r_gtI (dq_b1 call_len' r_len (by rfl) T.b_len boot_len (dq_name (pv 1))) (dq_cI (by rfl) T.c_MOST_LETTERS) (by rfl)))))
      (dss_one (ds_ret (de_q (dq_bl))))
      (dss_nil))
      (dss_one (ds_ret (de_b1 (cr_all rfl) (R1S.up r_all) (by rfl) T.b_all boot_all (de_comp (own := [("one", 2)]) (by decide) rfl S.nd (di_seq (de_name (pv 1))) (blkOk_by (own := [("one", 2)]) (N := N_are_letters) (sc := defScope st_are_letters) (by decide +kernel)) (fun _ _ _ _ _ => dg_name S.nd rfl (Or.inl rfl)) (fun _ _ _ _ _ => dts_nil) (fun _ _ _ _ _ => de_callT h_is_letter (hr.mono (by decide)) (by rfl) (dm_val (de_name (pv 0)) (dm_val (de_name (pv 2)) (dm_nil))))))))
theorem ok__law_bag (F : Fun K "_law_bag" "_law_bag" st__law_bag f fd) (hm : mg "_law_bag" = some (.ref f)) (b : Binds K fd ["script", "k"] []) (T : Txt K mg)  : FnT P w K mg base 1 "_law_bag" 2 f__law_bag := by
  have S := sc__law_bag
  refine FnT.of F hm b (fnD (k := 0) [0] F sc__law_bag (by decide) fun cdv A outer s H E hr => ?_)
  exact dss_cons (ds_set (by decide) S.nd rfl (Or.inl rfl) (de_q (dq_int)))
      (dss_cons (ds_if (dt_cmpq op_lt r_ltI (dq_name (pv 1)) (dq_b1 call_len' r_len (by rfl) T.b_len boot_len (dq_name (pv 0))) (by rfl))
      (dss_one (ds_set (by decide) S.nd rfl (Or.inl rfl) (de_q (dq_b1 call_abs r_abs (by rfl) T.b_abs boot_abs (dq_ix (dq_name (pv 0)) (dq_name (pv 1)))))))
      (dss_nil))
      (dss_cons (ds_if (dt_cmpq op_lt r_ltI (dq_name (pv 2)) (dq_op op_pow r_pow (dq_int) (dq_int)) (by rfl))
      (dss_one (ds_ret (de_lst (k := 0) (da_cons (de_q (dq_int)) (da_cons (de_q (dq_op op_addS r_addS (dq_int) (dq_op op_mod r_mod (dq_op op_addS r_addS (dq_op op_mul r_mulI (dq_name (pv 2)) (dq_int)) (dq_op op_mul r_mulI (dq_int) (dq_name (pv 1)))) (dq_int)))) (da_nil))))))
      (dss_nil))
      (dss_one (ds_ret (de_lst (k := 0) (da_cons (de_name (pv 2)) (da_cons (de_q (dq_op op_addS r_addS (dq_int) (dq_op op_mod r_mod (dq_op op_addS r_addS (dq_name (pv 2)) (dq_name (pv 1))) (dq_int)))) (da_nil))))))))
theorem ok__law_take (F : Fun K "_law_take" "_law_take" st__law_take f fd) (hm : mg "_law_take" = some (.ref f)) (b : Binds K fd ["bag", "many"] []) (T : Txt K mg)  : FnT P w K mg base 1 "_law_take" 2 f__law_take := by
  have S := sc__law_take
  refine FnT.of F hm b (fnD (k := 0) [0] F sc__law_take (by decide) fun cdv A outer s H E hr => ?_)
  exact dss_cons (ds_if (dt_cmpq op_gt r_gtI (dq_ix (dq_name (pv 0)) (dq_int)) (dq_int) (by rfl))
      (dss_cons (ds_set (by decide) S.nd rfl (Or.inl rfl) (de_q (dq_op op_mod r_mod (dq_ix (dq_name (pv 0)) (dq_int)) (dq_name (pv 1)))))
      (dss_cons (ds_put (hu_of hr) (de_q (dq_op op_fdiv r_fdiv (dq_ix (dq_name (pv 0)) (dq_int)) (dq_name (pv 1)))) (pv 0) (de_q (dq_int)))
      (dss_one (ds_ret (de_move (pv 2))))))
      (dss_nil))
      (dss_cons (ds_put (hu_of hr) (de_q (dq_op op_mod r_mod (dq_op op_mul r_mulI (dq_ix (dq_name (pv 0)) (dq_int)) (dq_int)) (dq_int))) (pv 0) (de_q (dq_int)))
      (dss_one (ds_ret (de_q (dq_op op_mod r_mod (dq_op op_fdiv r_fdiv (dq_op op_mod r_mod (dq_op op_mul r_mulI (dq_ix (dq_name (pv 0)) (dq_int)) (dq_ix (dq_name (pv 0)) (dq_int))) (dq_int)) (dq_int)) (dq_name (pv 1)))))))
theorem ok__law_of (F : Fun K "_law_of" "_law_of" st__law_of f fd) (hm : mg "_law_of" = some (.ref f)) (b : Binds K fd ["bag", "some"] []) (T : Txt K mg) (h__law_take : FnT P w K mg base 1 "_law_take" 2 f__law_take) : FnT P w K mg base 2 "_law_of" 2 f__law_of := by
  have S := sc__law_of
  refine FnT.of F hm b (fnD (k := 1) [0] F sc__law_of (by decide) fun cdv A outer s H E hr => ?_)
  exact dss_one (ds_ret (de_ixl (pv 1) (de_callT h__law_take (hr.mono (by decide)) (by rfl) (dm_ref (pv 0) (dm_val (de_q (dq_b1 call_len' r_len (by rfl) T.b_len boot_len (dq_name (pv 1)))) (dm_nil))))))
theorem ok__law_within (F : Fun K "_law_within" "_law_within" st__law_within f fd) (hm : mg "_law_within" = some (.ref f)) (b : Binds K fd ["thing", "least", "most"] []) (T : Txt K mg)  : FnT P w K mg base 1 "_law_within" 3 f__law_within := by
  have S := sc__law_within
  refine FnT.of F hm b (fnD (k := 0) [] F sc__law_within (by decide) fun cdv A outer s H E hr => ?_)
  exact dss_one (ds_ret (de_and (de_q (dq_isi .int (by rfl) T.b_isinstance (by rfl) T.b_int boot_int (dq_name (pv 0)))) (de_and (de_not (de_q (dq_isi .bl (by rfl) T.b_isinstance (by rfl) T.b_bool boot_bool (dq_name (pv 0))))) (de_and1 (de_q (dq_chain op_le r_leI op_le r_leI (dq_name (pv 1)) (dq_name (pv 0)) (dq_name (pv 2))))))))
theorem ok__law_odd (F : Fun K "_law_odd" "_law_odd" st__law_odd f fd) (hm : mg "_law_odd" = some (.ref f)) (b : Binds K fd ["bag"] []) (T : Txt K mg) (h__law_take : FnT P w K mg base 1 "_law_take" 2 f__law_take) : FnT P w K mg base 2 "_law_odd" 1 f__law_odd := by
  have S := sc__law_odd
  refine FnT.of F hm b (fnD (k := 1) [0] F sc__law_odd (by decide) fun cdv A outer s H E hr => ?_)
  exact dss_cons (ds_set (by decide) S.nd rfl (Or.inl rfl) (de_lst (k := 0) (da_cons (de_q (dq_non)) (da_cons (de_q (dq_bl)) (da_cons (de_q (dq_bl)) (da_cons (de_q (dq_int)) (da_cons (de_q (dq_int)) (da_cons (de_q (dq_un un_neg r_neg (dq_int))) (da_cons (de_q (dq_int)) (da_cons (de_q (dq_op op_pow r_pow (dq_int) (dq_int))) (da_cons (de_q (dq_str)) (da_cons (de_q (dq_str)) (da_cons (de_tup (da_nil)) (da_cons (de_lst (k := 0) (da_nil)) (da_cons (de_tup (da_cons (de_q (dq_int)) (da_cons (de_q (dq_int)) (da_nil)))) (da_cons (de_tup (da_cons (de_q (dq_non)) (da_nil))) (da_cons (de_tup (da_cons (de_q (dq_str)) (da_cons (de_q (dq_str)) (da_cons (de_q (dq_int)) (da_cons (de_q (dq_int)) (da_cons (de_q (dq_int)) (da_nil))))))) (da_nil))))))))))))))))))
      (dss_cons (ds_set (by decide) S.nd rfl (Or.inl rfl) (de_opl op_add' r_add (pv 1) (de_lst (k := 0) (da_cons (de_tup (da_cons (de_tup (da_cons (de_q (dq_str)) (da_cons (de_q (dq_str)) (da_cons (de_q (dq_int)) (da_cons (de_q (dq_int)) (da_cons (de_q (dq_int)) (da_nil))))))) (da_nil))) (da_cons (de_lst (k := 0) (da_cons (de_tup (da_cons (de_q (dq_str)) (da_cons (de_q (dq_int)) (da_cons (de_q (dq_int)) (da_nil))))) (da_nil))) (da_cons (de_tup (da_cons (de_q (dq_int)) (da_cons (de_tup (da_nil)) (da_cons (de_tup (da_nil)) (da_nil))))) (da_cons (de_tup (da_cons (de_q (dq_int)) (da_cons (de_tup (da_cons (de_q (dq_int)) (da_nil))) (da_cons (de_tup (da_nil)) (da_nil))))) (da_nil))))))))
      (dss_one (ds_ret (de_ixl (pv 1) (de_callT h__law_take (hr.mono (by decide)) (by rfl) (dm_ref (pv 0) (dm_val (de_q (dq_b1 call_len' r_len (by rfl) T.b_len boot_len (dq_name (pv 1)))) (dm_nil))))))))
theorem ok__law_spoilt (F : Fun K "_law_spoilt" "_law_spoilt" st__law_spoilt f fd) (hm : mg "_law_spoilt" = some (.ref f)) (b : Binds K fd ["bag", "thing"] []) (T : Txt K mg) (h__law_take : FnT P w K mg base 1 "_law_take" 2 f__law_take) (h__law_odd : FnT P w K mg base 2 "_law_odd" 1 f__law_odd) : ∀ n, FnT P w K mg base (n + 2) "_law_spoilt" 2 (f__law_spoilt n)
  | 0 => by
    have z := FnT.of (x := "_law_spoilt") F hm b (fnBad (P := P) (w := w) (mg := mg) (base := base) (k := 1) (n := 2) F sc__law_spoilt)
    exact z
  | n + 1 => by
    have hrec := ok__law_spoilt F hm b T h__law_take h__law_odd n
    have S := sc__law_spoilt
    have hk : n + 1 + 2 = (n + 2) + 1 := by omega
    rw [hk]
    refine FnT.of F hm b (fnD [0] F sc__law_spoilt (by decide) fun cdv A outer s H E hr => ?_)
    exact dss_cons (ds_set (by decide) S.nd rfl (Or.inl rfl) (de_callT h__law_take (hr.mono (by omega)) (by rfl) (dm_ref (pv 0) (dm_val (de_q (dq_int)) (dm_nil)))))
      (dss_cons (ds_if (dt_bool (dw_and (dt_val (de_isi2q .tup .lst (by rfl) T.b_isinstance (by rfl) T.b_tuple boot_tuple (by rfl) T.b_list boot_list (dq_name (pv 1)))) (dw_and (dt_cmpq op_gt r_gtI (dq_b1 call_len' r_len (by rfl) T.b_len boot_len (dq_name (pv 1))) (dq_int) (by rfl)) (dw_and1 (dt_cmpq op_gt r_gtI (dq_name (pv 2)) (dq_int) (by rfl))))))
      (dss_cons (ds_set (by decide) S.nd rfl (Or.inl rfl) (de_t1q call_list_of r_list (by rfl) T.b_list boot_list (dq_name (pv 1))))
      (dss_cons (ds_set (by decide) S.nd rfl (Or.inl rfl) (de_callT h__law_take (hr.mono (by omega)) (by rfl) (dm_ref (pv 0) (dm_val (de_q (dq_b1 call_len' r_len (by rfl) T.b_len boot_len (dq_name (pv 3)))) (dm_nil)))))
      (dss_cons (ds_if (dt_cmpq (op_eqD (hu64 hr)) r_eq (dq_name (pv 2)) (dq_int) (by rfl))
      (dss_one (ds_set (by decide) S.nd rfl (Or.inl rfl) (de_op op_add' r_add (de_slice (de_name (pv 3)) (do_none) (do_some (de_name (pv 4)))) (de_slice (de_name (pv 3)) (do_some (de_q (dq_op op_addS r_addS (dq_name (pv 4)) (dq_int)))) (do_none)))))
      (dss_one (ds_if (dt_cmpq (op_eqD (hu64 hr)) r_eq (dq_name (pv 2)) (dq_int) (by rfl))
      (dss_one (ds_set (by decide) S.nd rfl (Or.inl rfl) (de_op op_add' r_add (de_slice (de_name (pv 3)) (do_none) (do_some (de_q (dq_op op_addS r_addS (dq_name (pv 4)) (dq_int))))) (de_slice (de_name (pv 3)) (do_some (de_name (pv 4))) (do_none)))))
      (dss_one (ds_if (dt_cmpq (op_eqD (hu64 hr)) r_eq (dq_name (pv 2)) (dq_int) (by rfl))
      (dss_cons (ds_set (by decide) S.nd rfl (Or.inl rfl) (de_callT h__law_take (hr.mono (by omega)) (by rfl) (dm_ref (pv 0) (dm_val (de_q (dq_b1 call_len' r_len (by rfl) T.b_len boot_len (dq_name (pv 3)))) (dm_nil)))))
      (dss_one (ds_swap rfl (hu_of hr) (de_tup (da_cons (de_q (dq_ix (dq_name (pv 3)) (dq_name (pv 5)))) (da_cons (de_q (dq_ix (dq_name (pv 3)) (dq_name (pv 4)))) (da_nil)))) (pv 3) (dq_name (pv 4)) (pv 3) (dq_name (pv 5)))))
      (dss_one (ds_if (dt_cmpq (op_eqD (hu64 hr)) r_eq (dq_name (pv 2)) (dq_int) (by rfl))
      (dss_one (ds_ret (de_if (dt_val (de_q (dq_isi .tup (by rfl) T.b_isinstance (by rfl) T.b_tuple boot_tuple (dq_name (pv 1))))) (de_name (pv 3)) (de_t1q call_tuple_of r_tuple (by rfl) T.b_tuple boot_tuple (dq_name (pv 3))))))
      (dss_one (ds_put (hu_of hr) (de_callT hrec (hr.mono (by omega)) (by rfl) (dm_ref (pv 0) (dm_val (de_q (dq_ix (dq_name (pv 3)) (dq_name (pv 4)))) (dm_nil)))) (pv 3) (de_name (pv 4)))))))))))
      (dss_one (ds_ret (de_if (dt_val (de_q (dq_isi .tup (by rfl) T.b_isinstance (by rfl) T.b_tuple boot_tuple (dq_name (pv 1))))) (de_t1q call_tuple_of r_tuple (by rfl) T.b_tuple boot_tuple (dq_name (pv 3))) (de_name (pv 3))))))))
      (dss_nil))
      (dss_cons (ds_if (dt_bool (dw_and (dt_val (de_q (dq_isi .str (by rfl) T.b_isinstance (by rfl) T.b_str boot_str (dq_name (pv 1))))) (dw_and1 (dt_cmpq op_gt r_gtI (dq_name (pv 2)) (dq_int) (by rfl)))))
      (dss_one (ds_ret (de_ix (de_lst (k := 0) (da_cons (de_q (dq_op op_addS r_addS (dq_name (pv 1)) (dq_str))) (da_cons (de_slice (de_name (pv 1)) (do_none) (do_some (de_q (dq_un un_neg r_neg (dq_int))))) (da_cons (de_q (dq_op op_addS r_addS (dq_name (pv 1)) (dq_str))) (da_cons (de_q (dq_upper (dq_name (pv 1)))) (da_cons (de_q (dq_op op_addS r_addS (dq_name (pv 1)) (dq_name (pv 1)))) (da_cons (de_q (dq_op op_addS r_addS (dq_str) (dq_name (pv 1)))) (da_cons (de_q (dq_str)) (da_nil))))))))) (de_q (dq_op op_sub r_sub (dq_name (pv 2)) (dq_int))))))
      (dss_nil))
      (dss_cons (ds_if (dt_bool (dw_and (dt_val (de_q (dq_isi .int (by rfl) T.b_isinstance (by rfl) T.b_int boot_int (dq_name (pv 1))))) (dw_and1 (dt_cmpq op_gt r_gtI (dq_name (pv 2)) (dq_int) (by rfl)))))
      (dss_one (ds_ret (de_ix (de_lst (k := 0) (da_cons (de_q (dq_op op_addB r_addB (dq_name (pv 1)) (dq_int))) (da_cons (de_q (dq_op op_subB r_subB (dq_name (pv 1)) (dq_int))) (da_cons (de_q (dq_un un_negB r_negB (dq_name (pv 1)))) (da_cons (de_q (dq_op op_addB r_addB (dq_name (pv 1)) (dq_int))) (da_cons (de_q (dq_t1 call_strB r_strB (by rfl) T.b_str boot_str (dq_name (pv 1)))) (da_cons (de_q (dq_op op_addB r_addB (dq_name (pv 1)) (dq_int))) (da_cons (de_tup (da_cons (de_name (pv 1)) (da_nil))) (da_nil))))))))) (de_q (dq_op op_sub r_sub (dq_name (pv 2)) (dq_int))))))
      (dss_nil))
      (dss_one (ds_ret (de_callT h__law_odd (hr.mono (by omega)) (by rfl) (dm_ref (pv 0) (dm_nil))))))))
theorem ok__law_web (F : Fun K "_law_web" "_law_web" st__law_web f fd) (hm : mg "_law_web" = some (.ref f)) (b : Binds K fd ["bag", "most"] []) (T : Txt K mg) (h__law_take : FnT P w K mg base 1 "_law_take" 2 f__law_take) (h__law_of : FnT P w K mg base 2 "_law_of" 2 f__law_of) : FnT P w K mg base 3 "_law_web" 2 f__law_web := by
  have S := sc__law_web
  refine FnT.of F hm b (fnD (k := 2) [0] F sc__law_web (by decide) fun cdv A outer s H E hr => ?_)
  exact dss_cons (ds_set (by decide) S.nd rfl (Or.inl rfl) (de_slice (de_lst (k := 0) (da_cons (de_q (dq_str)) (da_cons (de_q (dq_str)) (da_cons (de_q (dq_str)) (da_cons (de_q (dq_str)) (da_cons (de_q (dq_str)) (da_nil))))))) (do_none) (do_some (de_op op_addS (R2S.up r_addS) (de_q (dq_int)) (de_callT h__law_take (hr.mono (by decide)) (by rfl) (dm_ref (pv 0) (dm_val (de_q (dq_int)) (dm_nil))))))))
      (dss_cons (ds_set (by decide) S.nd rfl (Or.inl rfl) (de_newT))
      (dss_cons (ds_for (by decide) PassesOwn.never rfl (di_range1 (by rfl) T.b_range (da_cons (de_op op_addS (R2S.up r_addS) (de_q (dq_int)) (de_callT h__law_take (hr.mono (by decide)) (by rfl) (dm_ref (pv 0) (dm_val (de_name (pv 1)) (dm_nil))))) (da_nil))) (dg_name S.nd rfl (Or.inl rfl))
      (dss_cons (ds_set (by decide) S.nd rfl (Or.inl rfl) (de_ix (de_lst (k := 0) (da_cons (de_q (dq_int)) (da_cons (de_q (dq_int)) (da_cons (de_q (dq_int)) (da_cons (de_q (dq_int)) (da_nil)))))) (de_callT h__law_take (hr.mono (by decide)) (by rfl) (dm_ref (pv 0) (dm_val (de_q (dq_int)) (dm_nil))))))
      (dss_cons (ds_set (by decide) S.nd rfl (Or.inl rfl) (de_op op_addS (R2S.up r_addS) (de_q (dq_int)) (de_callT h__law_take (hr.mono (by decide)) (by rfl) (dm_ref (pv 0) (dm_val (de_q (dq_op op_sub r_sub (dq_name (pv 5)) (dq_int))) (dm_nil))))))
      (dss_cons (ds_set (by decide) S.nd rfl (Or.inl rfl) (de_op op_addS (R2S.up r_addS) (de_q (dq_int)) (de_callT h__law_take (hr.mono (by decide)) (by rfl) (dm_ref (pv 0) (dm_val (de_ix (de_lst (k := 0) (da_cons (de_q (dq_int)) (da_cons (de_q (dq_int)) (da_nil)))) (de_callT h__law_take (hr.mono (by decide)) (by rfl) (dm_ref (pv 0) (dm_val (de_q (dq_int)) (dm_nil))))) (dm_nil))))))
      (dss_one (ds_put (hu_of hr) (de_q (dq_bl)) (pv 3) (de_tup (da_cons (de_callT h__law_of (hr.mono (by decide)) (by rfl) (dm_ref (pv 0) (dm_val (de_name (pv 2)) (dm_nil)))) (da_cons (de_callT h__law_of (hr.mono (by decide)) (by rfl) (dm_ref (pv 0) (dm_val (de_name (pv 2)) (dm_nil)))) (da_cons (de_name (pv 6)) (da_cons (de_name (pv 5)) (da_cons (de_name (pv 7)) (da_nil)))))))))))))
      (dss_one (ds_ret (de_t1 call_tuple_of r_tuple (by rfl) T.b_tuple boot_tuple (de_b1q (call_sortK rfl (hu64 hr)) r_sortK (by rfl) T.b_sorted boot_sorted (dq_name (pv 3))))))))
theorem ok__law_places (F : Fun K "_law_places" "_law_places" st__law_places f fd) (hm : mg "_law_places" = some (.ref f)) (b : Binds K fd ["web"] []) (T : Txt K mg)  : FnT P w K mg base 1 "_law_places" 1 f__law_places := by
  have S := sc__law_places
  refine FnT.of F hm b (fnD (k := 0) [] F sc__law_places (by decide) fun cdv A outer s H E hr => ?_)
  exact dss_one (ds_ret (de_sortSet rfl (hu64 hr) (by rfl) T.b_sorted (by rfl) T.b_set (de_op op_add' r_add (de_comp (own := [("way", 1)]) (by decide) rfl S.nd (di_seq (de_name (pv 0))) (blkOk_by (own := [("way", 1)]) (N := N__law_places) (sc := defScope st__law_places) (by decide +kernel)) (fun _ _ _ _ _ => dg_name S.nd rfl (Or.inl rfl)) (fun _ _ _ _ _ => dts_nil) (fun _ _ _ _ _ => de_q (dq_ix (dq_name (pv 1)) (dq_int)))) (de_comp (own := [("way", 1)]) (by decide) rfl S.nd (di_seq (de_name (pv 0))) (blkOk_by (own := [("way", 1)]) (N := N__law_places) (sc := defScope st__law_places) (by decide +kernel)) (fun _ _ _ _ _ => dg_name S.nd rfl (Or.inl rfl)) (fun _ _ _ _ _ => dts_nil) (fun _ _ _ _ _ => de_q (dq_ix (dq_name (pv 1)) (dq_int)))))))
theorem ok__law_letters (F : Fun K "_law_letters" "_law_letters" st__law_letters f fd) (hm : mg "_law_letters" = some (.ref f)) (b : Binds K fd ["bag", "web", "most", "strongest"] []) (T : Txt K mg) (h__law_take : FnT P w K mg base 1 "_law_take" 2 f__law_take) (h__law_of : FnT P w K mg base 2 "_law_of" 2 f__law_of) (h__law_places : FnT P w K mg base 1 "_law_places" 1 f__law_places) : FnT P w K mg base 3 "_law_letters" 4 f__law_letters := by
  have S := sc__law_letters
  refine FnT.of F hm b (fnD (k := 2) [0] F sc__law_letters (by decide) fun cdv A outer s H E hr => ?_)
  exact dss_cons (ds_set (by decide) S.nd rfl (Or.inl rfl) (de_lst (k := 0) (da_nil)))
      (dss_cons (ds_for (by decide) PassesOwn.never rfl (di_range1 (by rfl) T.b_range (da_cons (de_callT h__law_take (hr.mono (by decide)) (by rfl) (dm_ref (pv 0) (dm_val (de_q (dq_op op_addS r_addS (dq_name (pv 2)) (dq_int))) (dm_nil)))) (da_nil))) (dg_name S.nd rfl (Or.inl rfl))
      (dss_cons (ds_set (by decide) S.nd rfl (Or.inl rfl) (de_ix (de_lst (k := 0) (da_cons (de_q (dq_int)) (da_cons (de_op op_addS (R2S.up r_addS) (de_q (dq_int)) (de_callT h__law_take (hr.mono (by decide)) (by rfl) (dm_ref (pv 0) (dm_val (de_q (dq_int)) (dm_nil))))) (da_cons (de_op op_addS (R2S.up r_addS) (de_q (dq_int)) (de_callT h__law_take (hr.mono (by decide)) (by rfl) (dm_ref (pv 0) (dm_val (de_q (dq_int)) (dm_nil))))) (da_nil))))) (de_callT h__law_take (hr.mono (by decide)) (by rfl) (dm_ref (pv 0) (dm_val (de_q (dq_int)) (dm_nil))))))
      (dss_one (ds_append (de_tup (da_cons (de_callT h__law_of (hr.mono (by decide)) (by rfl) (dm_ref (pv 0) (dm_val (de_callT h__law_places (hr.mono (by decide)) (by rfl) (dm_val (de_name (pv 1)) (dm_nil))) (dm_nil)))) (da_cons (de_op op_addS (R2S.up r_addS) (de_q (dq_int)) (de_callT h__law_take (hr.mono (by decide)) (by rfl) (dm_ref (pv 0) (dm_val (de_name (pv 3)) (dm_nil))))) (da_cons (de_name (pv 6)) (da_nil))))) (pv 4)))))
      (dss_one (ds_ret (de_move (pv 4)))))
theorem ok__law_are_letters (F : Fun K "_law_are_letters" "_law_are_letters" st__law_are_letters f fd) (hm : mg "_law_are_letters" = some (.ref f)) (b : Binds K fd ["web", "thing"] []) (T : Txt K mg) (h__law_places : FnT P w K mg base 1 "_law_places" 1 f__law_places) (h__law_within : FnT P w K mg base 1 "_law_within" 3 f__law_within) : FnT P w K mg base 2 "_law_are_letters" 2 f__law_are_letters := by
  have S := sc__law_are_letters
  refine FnT.of F hm b (fnD (k := 1) [] F sc__law_are_letters (by decide) fun cdv A outer s H E hr => ?_)
  exact dss_cons (ds_if (dt_bool (dw_or (dt_not (dt_val (de_q (dq_isi .lst (by rfl) T.b_isinstance (by rfl) T.b_list boot_list (dq_name (pv 1)))))) (dw_or1 (dt_cmpq op_gt r_gtI (dq_b1 call_len' r_len (by rfl) T.b_len boot_len (dq_name (pv 1))) (dq_int) (by rfl)))))
      (dss_one (ds_ret (de_q (dq_bl))))
      (dss_nil))
      (dss_cons (ds_for (by decide) PassesOwn.never rfl (di_seq (de_name (pv 1))) (dg_name S.nd rfl (Or.inl rfl))
      (dss_cons (ds_if (dt_bool (dw_or (dt_not (dt_val (de_q (dq_isi .tup (by rfl) T.b_isinstance (by rfl) T.b_tuple boot_tuple (dq_name (pv 2)))))) (dw_or (dt_cmpq (op_neD (hu64 hr)) r_ne (dq_b1 call_len' r_len (by rfl) T.b_len boot_len (dq_name (pv 2))) (dq_int) (by rfl)) (dw_or1 (dt_not (dt_val (de_q (dq_isi .str (by rfl) T.b_isinstance (by rfl) T.b_str boot_str (dq_ix (dq_name (pv 2)) (dq_int))))))))))
      (dss_one (ds_ret (de_q (dq_bl))))
      (dss_nil))
      (dss_one (ds_if (dt_bool (dw_or (dt_cmp op_ni' (R2S.up r_ni) (de_q (dq_ix (dq_name (pv 2)) (dq_int))) (de_callT h__law_places (hr.mono (by decide)) (by rfl) (dm_val (de_name (pv 0)) (dm_nil))) (by rfl)) (dw_or (dt_not (dt_val (de_callT h__law_within (hr.mono (by decide)) (by rfl) (dm_val (de_q (dq_ix (dq_name (pv 2)) (dq_int))) (dm_val (de_q (dq_int)) (dm_val (de_q (dq_int)) (dm_nil))))))) (dw_or1 (dt_not (dt_val (de_callT h__law_within (hr.mono (by decide)) (by rfl) (dm_val (de_q (dq_ix (dq_name (pv 2)) (dq_int))) (dm_val (de_q (dq_int)) (dm_val (de_q (dq_int)) (dm_nil)))))))))))
      (dss_one (ds_ret (de_q (dq_bl))))
      (dss_nil)))))
      (dss_one (ds_ret (de_q (dq_bl)))))
theorem ok_law (F : Fun K "law" "law" st_law f fd) (T : Txt K mg) (h__law_bag : FnT P w K mg base 1 "_law_bag" 2 f__law_bag) (h__law_web : FnT P w K mg base 3 "_law_web" 2 f__law_web) (h__law_letters : FnT P w K mg base 3 "_law_letters" 4 f__law_letters) (h__law_of : FnT P w K mg base 2 "_law_of" 2 f__law_of) (h__law_odd : FnT P w K mg base 2 "_law_odd" 1 f__law_odd) (h_are_letters : FnT P w K mg base 4 "are_letters" 2 f_are_letters) (h__law_are_letters : FnT P w K mg base 2 "_law_are_letters" 2 f__law_are_letters) (h__law_spoilt : FnT P w K mg base 42 "_law_spoilt" 2 (f__law_spoilt 40)) : FnOk P w K mg base CX0 43 f fd ["script"] (spD K mg 1 f_law) := by
  have S := sc_law
  refine fnD (k := 42) [0] F sc_law (by decide) fun cdv A outer s H E hr => ?_
  exact dss_cons (ds_for (by decide) PassesOwn.never rfl (di_range1 (by rfl) T.b_range (da_cons (de_q (dq_op op_addS r_addS (dq_int) (dq_b2 (call_min2 rfl) r_min2 (by rfl) T.b_min boot_min (dq_b1 call_len' r_len (by rfl) T.b_len boot_len (dq_name (pv 0))) (dq_int)))) (da_nil))) (dg_name S.nd rfl (Or.inl rfl))
      (dss_cons (ds_set (by decide) S.nd rfl (Or.inl rfl) (de_callT h__law_bag (hr.mono (by decide)) (by rfl) (dm_ref (pv 0) (dm_val (de_name (pv 1)) (dm_nil)))))
      (dss_cons (ds_set (by decide) S.nd rfl (Or.inl rfl) (de_callT h__law_web (hr.mono (by decide)) (by rfl) (dm_ref (pv 2) (dm_val (de_q (dq_int)) (dm_nil)))))
      (dss_cons (ds_set (by decide) S.nd rfl (Or.inl rfl) (de_callT h__law_letters (hr.mono (by decide)) (by rfl) (dm_ref (pv 2) (dm_val (de_name (pv 3)) (dm_val (de_q (dq_int)) (dm_val (de_q (dq_int)) (dm_nil)))))))
      (dss_cons (ds_set (by decide) S.nd rfl (Or.inl rfl) (de_lst (k := 0) (da_cons (de_tup (da_cons (de_q (dq_ix (dq_ix (dq_name (pv 3)) (dq_int)) (dq_int))) (da_cons (de_callT h__law_of (hr.mono (by decide)) (by rfl) (dm_ref (pv 2) (dm_val (de_lst (k := 0) (da_cons (de_q (dq_int)) (da_cons (de_q (dq_int)) (da_cons (de_q (dq_int)) (da_cons (de_q (dq_int)) (da_nil)))))) (dm_nil)))) (da_cons (de_callT h__law_of (hr.mono (by decide)) (by rfl) (dm_ref (pv 2) (dm_val (de_lst (k := 0) (da_cons (de_q (dq_int)) (da_cons (de_q (dq_int)) (da_cons (de_q (dq_int)) (da_cons (de_q (dq_int)) (da_nil)))))) (dm_nil)))) (da_nil))))) (da_nil))))
      (dss_cons (ds_for (by decide) PassesOwn.never rfl (di_seq (de_lst (k := 0) (da_cons (de_name (pv 5)) (da_cons (de_opq op_mulA r_mul (dq_name (pv 5)) (dq_int)) (da_cons (de_opq op_mulA r_mul (dq_name (pv 5)) (dq_int)) (da_cons (de_t1q call_tuple_of r_tuple (by rfl) T.b_tuple boot_tuple (dq_name (pv 4))) (da_cons (de_opq op_add' r_add (dq_name (pv 4)) (dq_name (pv 4))) (da_cons (de_callT h__law_odd (hr.mono (by decide)) (by rfl) (dm_ref (pv 2) (dm_nil))) (da_cons (de_lst (k := 0) (da_nil)) (da_nil)))))))))) (dg_name S.nd rfl (Or.inl rfl))
      (dss_one (ds_if (dt_cmp (op_neD (hu64 hr)) (R2S.up r_ne) (de_callT h_are_letters (hr.mono (by decide)) (by rfl) (dm_val (de_name (pv 3)) (dm_val (de_name (pv 6)) (dm_nil)))) (de_callT h__law_are_letters (hr.mono (by decide)) (by rfl) (dm_val (de_name (pv 3)) (dm_val (de_name (pv 6)) (dm_nil)))) (by rfl))
      (dss_one (ds_ret (de_q (dq_bl))))
      (dss_nil))))
      (dss_one (ds_for (by decide) PassesOwn.never rfl (di_range1 (by rfl) T.b_range (da_cons (de_q (dq_int)) (da_nil))) (dg_name S.nd rfl (Or.inl rfl))
      (dss_cons (ds_set (by decide) S.nd rfl (Or.inl rfl) (de_callT h_are_letters (hr.mono (by decide)) (by rfl) (dm_val (de_name (pv 3)) (dm_val (de_name (pv 4)) (dm_nil)))))
      (dss_cons (ds_if (dt_bool (dw_or (dt_not (dt_val (de_q (dq_isi .bl (by rfl) T.b_isinstance (by rfl) T.b_bool boot_bool (dq_name (pv 8)))))) (dw_or1 (dt_cmpl (op_neD (hu64 hr)) (R2S.up r_ne) (pv 8) (de_callT h__law_are_letters (hr.mono (by decide)) (by rfl) (dm_val (de_name (pv 3)) (dm_val (de_name (pv 4)) (dm_nil)))) (by rfl)))))
      (dss_one (ds_ret (de_q (dq_bl))))
      (dss_nil))
      (dss_one (ds_set (by decide) S.nd rfl (Or.inl rfl) (de_callT h__law_spoilt (hr.mono (by decide)) (by rfl) (dm_ref (pv 2) (dm_val (de_name (pv 4)) (dm_nil))))))))))))))))
      (dss_one (ds_ret (de_q (dq_bl))))
end
end G
namespace G
open PySem PySem.Spec PyProof.Rows L2

theorem all_mk {l : PySem.W.OpenLaw} {w : World} {K : PySem.W.Frag} {h : Heap} {mg : Str → Option Value} {fa f0 f1 f2 f3 f4 f5 f6 f7 f8 f9 f10 f11 f12 f13 f14 f15 : Addr} (X : K.In h) (G : h.Ns mainGlobals mg) (hfa : mg "law" = some (.ref fa))
    {od0 an0 od1 an1 od2 an2 od3 an3 od4 an4 od5 an5 od6 an6 od7 an7 od8 an8 od9 an9 od10 an10 od11 an11 od12 an12 od13 an13 od14 an14 od15 an15 : Option Addr} {sl0 sl1 sl2 sl3 sl4 sl5 sl6 sl7 sl8 sl9 sl10 sl11 sl12 sl13 sl14 sl15 : Array (Option Value)} {oc0 kV0 dc0 pm0 cd0 ct0 oc1 kV1 dc1 pm1 cd1 ct1 oc2 kV2 dc2 pm2 cd2 ct2 oc3 kV3 dc3 pm3 cd3 ct3 oc4 kV4 dc4 pm4 cd4 ct4 oc5 kV5 dc5 pm5 cd5 ct5 oc6 kV6 dc6 pm6 cd6 ct6 oc7 kV7 dc7 pm7 cd7 ct7 oc8 kV8 dc8 pm8 cd8 ct8 oc9 kV9 dc9 pm9 cd9 ct9 oc10 kV10 dc10 pm10 cd10 ct10 oc11 kV11 dc11 pm11 cd11 ct11 oc12 kV12 dc12 pm12 cd12 ct12 oc13 kV13 dc13 pm13 cd13 ct13 oc14 kV14 dc14 pm14 cd14 ct14 oc15 kV15 dc15 pm15 cd15 ct15 : Value}
    {tk0 tk1 tk2 : Tok}
    (a0 : PySem.W.nsIn K mainGlobals "is_whole" = some (some (.ref f0))) (l0 : K.lookup f0 = some ⟨oc0, od0, .func (PySem.W.fnOf "is_whole" "is_whole" (defArgs st_is_whole) (defBody st_is_whole) (defScope st_is_whole) .none kV0 dc0 pm0 an0 cd0 ct0), sl0⟩) (c0 : PySem.W.codeIn K cd0 "is_whole" = true) (k0 : PySem.W.keepIn K (.ref f0) = true)
    (a1 : PySem.W.nsIn K mainGlobals "is_within" = some (some (.ref f1))) (l1 : K.lookup f1 = some ⟨oc1, od1, .func (PySem.W.fnOf "is_within" "is_within" (defArgs st_is_within) (defBody st_is_within) (defScope st_is_within) .none kV1 dc1 pm1 an1 cd1 ct1), sl1⟩) (c1 : PySem.W.codeIn K cd1 "is_within" = true) (k1 : PySem.W.keepIn K (.ref f1) = true)
    (a2 : PySem.W.nsIn K mainGlobals "places" = some (some (.ref f2))) (l2 : K.lookup f2 = some ⟨oc2, od2, .func (PySem.W.fnOf "places" "places" (defArgs st_places) (defBody st_places) (defScope st_places) .none kV2 dc2 pm2 an2 cd2 ct2), sl2⟩) (c2 : PySem.W.codeIn K cd2 "places" = true) (k2 : PySem.W.keepIn K (.ref f2) = true)
    (a3 : PySem.W.nsIn K mainGlobals "is_letter" = some (some (.ref f3))) (l3 : K.lookup f3 = some ⟨oc3, od3, .func (PySem.W.fnOf "is_letter" "is_letter" (defArgs st_is_letter) (defBody st_is_letter) (defScope st_is_letter) .none kV3 dc3 pm3 an3 cd3 ct3), sl3⟩) (c3 : PySem.W.codeIn K cd3 "is_letter" = true) (k3 : PySem.W.keepIn K (.ref f3) = true)
    (a4 : PySem.W.nsIn K mainGlobals "are_letters" = some (some (.ref f4))) (l4 : K.lookup f4 = some ⟨oc4, od4, .func (PySem.W.fnOf "are_letters" "are_letters" (defArgs st_are_letters) (defBody st_are_letters) (defScope st_are_letters) .none kV4 dc4 pm4 an4 cd4 ct4), sl4⟩) (c4 : PySem.W.codeIn K cd4 "are_letters" = true) (k4 : PySem.W.keepIn K (.ref f4) = true)
    (a5 : PySem.W.nsIn K mainGlobals "_law_bag" = some (some (.ref f5))) (l5 : K.lookup f5 = some ⟨oc5, od5, .func (PySem.W.fnOf "_law_bag" "_law_bag" (defArgs st__law_bag) (defBody st__law_bag) (defScope st__law_bag) .none kV5 dc5 pm5 an5 cd5 ct5), sl5⟩) (c5 : PySem.W.codeIn K cd5 "_law_bag" = true) (k5 : PySem.W.keepIn K (.ref f5) = true)
    (a6 : PySem.W.nsIn K mainGlobals "_law_take" = some (some (.ref f6))) (l6 : K.lookup f6 = some ⟨oc6, od6, .func (PySem.W.fnOf "_law_take" "_law_take" (defArgs st__law_take) (defBody st__law_take) (defScope st__law_take) .none kV6 dc6 pm6 an6 cd6 ct6), sl6⟩) (c6 : PySem.W.codeIn K cd6 "_law_take" = true) (k6 : PySem.W.keepIn K (.ref f6) = true)
    (a7 : PySem.W.nsIn K mainGlobals "_law_of" = some (some (.ref f7))) (l7 : K.lookup f7 = some ⟨oc7, od7, .func (PySem.W.fnOf "_law_of" "_law_of" (defArgs st__law_of) (defBody st__law_of) (defScope st__law_of) .none kV7 dc7 pm7 an7 cd7 ct7), sl7⟩) (c7 : PySem.W.codeIn K cd7 "_law_of" = true) (k7 : PySem.W.keepIn K (.ref f7) = true)
    (a8 : PySem.W.nsIn K mainGlobals "_law_within" = some (some (.ref f8))) (l8 : K.lookup f8 = some ⟨oc8, od8, .func (PySem.W.fnOf "_law_within" "_law_within" (defArgs st__law_within) (defBody st__law_within) (defScope st__law_within) .none kV8 dc8 pm8 an8 cd8 ct8), sl8⟩) (c8 : PySem.W.codeIn K cd8 "_law_within" = true) (k8 : PySem.W.keepIn K (.ref f8) = true)
    (a9 : PySem.W.nsIn K mainGlobals "_law_odd" = some (some (.ref f9))) (l9 : K.lookup f9 = some ⟨oc9, od9, .func (PySem.W.fnOf "_law_odd" "_law_odd" (defArgs st__law_odd) (defBody st__law_odd) (defScope st__law_odd) .none kV9 dc9 pm9 an9 cd9 ct9), sl9⟩) (c9 : PySem.W.codeIn K cd9 "_law_odd" = true) (k9 : PySem.W.keepIn K (.ref f9) = true)
    (a10 : PySem.W.nsIn K mainGlobals "_law_spoilt" = some (some (.ref f10))) (l10 : K.lookup f10 = some ⟨oc10, od10, .func (PySem.W.fnOf "_law_spoilt" "_law_spoilt" (defArgs st__law_spoilt) (defBody st__law_spoilt) (defScope st__law_spoilt) .none kV10 dc10 pm10 an10 cd10 ct10), sl10⟩) (c10 : PySem.W.codeIn K cd10 "_law_spoilt" = true) (k10 : PySem.W.keepIn K (.ref f10) = true)
    (a11 : PySem.W.nsIn K mainGlobals "_law_web" = some (some (.ref f11))) (l11 : K.lookup f11 = some ⟨oc11, od11, .func (PySem.W.fnOf "_law_web" "_law_web" (defArgs st__law_web) (defBody st__law_web) (defScope st__law_web) .none kV11 dc11 pm11 an11 cd11 ct11), sl11⟩) (c11 : PySem.W.codeIn K cd11 "_law_web" = true) (k11 : PySem.W.keepIn K (.ref f11) = true)
    (a12 : PySem.W.nsIn K mainGlobals "_law_places" = some (some (.ref f12))) (l12 : K.lookup f12 = some ⟨oc12, od12, .func (PySem.W.fnOf "_law_places" "_law_places" (defArgs st__law_places) (defBody st__law_places) (defScope st__law_places) .none kV12 dc12 pm12 an12 cd12 ct12), sl12⟩) (c12 : PySem.W.codeIn K cd12 "_law_places" = true) (k12 : PySem.W.keepIn K (.ref f12) = true)
    (a13 : PySem.W.nsIn K mainGlobals "_law_letters" = some (some (.ref f13))) (l13 : K.lookup f13 = some ⟨oc13, od13, .func (PySem.W.fnOf "_law_letters" "_law_letters" (defArgs st__law_letters) (defBody st__law_letters) (defScope st__law_letters) .none kV13 dc13 pm13 an13 cd13 ct13), sl13⟩) (c13 : PySem.W.codeIn K cd13 "_law_letters" = true) (k13 : PySem.W.keepIn K (.ref f13) = true)
    (a14 : PySem.W.nsIn K mainGlobals "_law_are_letters" = some (some (.ref f14))) (l14 : K.lookup f14 = some ⟨oc14, od14, .func (PySem.W.fnOf "_law_are_letters" "_law_are_letters" (defArgs st__law_are_letters) (defBody st__law_are_letters) (defScope st__law_are_letters) .none kV14 dc14 pm14 an14 cd14 ct14), sl14⟩) (c14 : PySem.W.codeIn K cd14 "_law_are_letters" = true) (k14 : PySem.W.keepIn K (.ref f14) = true)
    (a15 : PySem.W.nsIn K mainGlobals "law" = some (some (.ref f15))) (l15 : K.lookup f15 = some ⟨oc15, od15, .func (PySem.W.fnOf "law" "law" (defArgs st_law) (defBody st_law) (defScope st_law) .none kV15 dc15 pm15 an15 cd15 ct15), sl15⟩) (c15 : PySem.W.codeIn K cd15 "law" = true) (k15 : PySem.W.keepIn K (.ref f15) = true)
    (z_isinstance : PySem.W.nsIn K mainGlobals "isinstance" = some none)
    (z_int : PySem.W.nsIn K mainGlobals "int" = some none)
    (z_bool : PySem.W.nsIn K mainGlobals "bool" = some none)
    (z_sorted : PySem.W.nsIn K mainGlobals "sorted" = some none)
    (z_tuple : PySem.W.nsIn K mainGlobals "tuple" = some none)
    (z_len : PySem.W.nsIn K mainGlobals "len" = some none)
    (z_str : PySem.W.nsIn K mainGlobals "str" = some none)
    (z_list : PySem.W.nsIn K mainGlobals "list" = some none)
    (z_all : PySem.W.nsIn K mainGlobals "all" = some none)
    (z_abs : PySem.W.nsIn K mainGlobals "abs" = some none)
    (z_range : PySem.W.nsIn K mainGlobals "range" = some none)
    (z_set : PySem.W.nsIn K mainGlobals "set" = some none)
    (z_min : PySem.W.nsIn K mainGlobals "min" = some none)
    (y_MOST_STRENGTH : PySem.W.nsIn K mainGlobals "MOST_STRENGTH" = some (some (.int 2000 tk0)))
    (y_MOST_MANY : PySem.W.nsIn K mainGlobals "MOST_MANY" = some (some (.int 1000 tk1)))
    (y_MOST_LETTERS : PySem.W.nsIn K mainGlobals "MOST_LETTERS" = some (some (.int 20 tk2)))
    : ∃ fd : FuncData, (∀ (s : Shared) (v : Value), BindsTo s fd ⟨[v], []⟩ [("script", v)]) ∧ ∀ base : Heap, K.In base → base.Ns mainGlobals mg → FnOk l.prog w K mg base CX0 43 fa fd ["script"] (spD K (fun _ => none) 1 f_law) := by
  have e := hfa.symm.trans (PySem.W.mg_of X G a15)
  cases e
  have T : Txt K mg := ⟨PySem.W.mg_none_of X G z_isinstance, PySem.W.mg_none_of X G z_int, PySem.W.mg_none_of X G z_bool, PySem.W.mg_none_of X G z_sorted, PySem.W.mg_none_of X G z_tuple, PySem.W.mg_none_of X G z_len, PySem.W.mg_none_of X G z_str, PySem.W.mg_none_of X G z_list, PySem.W.mg_none_of X G z_all, PySem.W.mg_none_of X G z_abs, PySem.W.mg_none_of X G z_range, PySem.W.mg_none_of X G z_set, PySem.W.mg_none_of X G z_min, ⟨_, PySem.W.mg_of X G y_MOST_STRENGTH⟩, ⟨_, PySem.W.mg_of X G y_MOST_MANY⟩, ⟨_, PySem.W.mg_of X G y_MOST_LETTERS⟩⟩
  have F0 := fun_mk (st := st_is_whole) l0 c0 k0
  have b0 := F0.binds (ps := ["thing"]) fun _ _ _ _ _ _ us hl => match us, hl with | [_], _ => rfl
  have F1 := fun_mk (st := st_is_within) l1 c1 k1
  have b1 := F1.binds (ps := ["thing", "least", "most"]) fun _ _ _ _ _ _ us hl => match us, hl with | [_, _, _], _ => rfl
  have F2 := fun_mk (st := st_places) l2 c2 k2
  have b2 := F2.binds (ps := ["web"]) fun _ _ _ _ _ _ us hl => match us, hl with | [_], _ => rfl
  have F3 := fun_mk (st := st_is_letter) l3 c3 k3
  have b3 := F3.binds (ps := ["web", "thing"]) fun _ _ _ _ _ _ us hl => match us, hl with | [_, _], _ => rfl
  have F4 := fun_mk (st := st_are_letters) l4 c4 k4
  have b4 := F4.binds (ps := ["web", "thing"]) fun _ _ _ _ _ _ us hl => match us, hl with | [_, _], _ => rfl
  have F5 := fun_mk (st := st__law_bag) l5 c5 k5
  have b5 := F5.binds (ps := ["script", "k"]) fun _ _ _ _ _ _ us hl => match us, hl with | [_, _], _ => rfl
  have F6 := fun_mk (st := st__law_take) l6 c6 k6
  have b6 := F6.binds (ps := ["bag", "many"]) fun _ _ _ _ _ _ us hl => match us, hl with | [_, _], _ => rfl
  have F7 := fun_mk (st := st__law_of) l7 c7 k7
  have b7 := F7.binds (ps := ["bag", "some"]) fun _ _ _ _ _ _ us hl => match us, hl with | [_, _], _ => rfl
  have F8 := fun_mk (st := st__law_within) l8 c8 k8
  have b8 := F8.binds (ps := ["thing", "least", "most"]) fun _ _ _ _ _ _ us hl => match us, hl with | [_, _, _], _ => rfl
  have F9 := fun_mk (st := st__law_odd) l9 c9 k9
  have b9 := F9.binds (ps := ["bag"]) fun _ _ _ _ _ _ us hl => match us, hl with | [_], _ => rfl
  have F10 := fun_mk (st := st__law_spoilt) l10 c10 k10
  have b10 := F10.binds (ps := ["bag", "thing"]) fun _ _ _ _ _ _ us hl => match us, hl with | [_, _], _ => rfl
  have F11 := fun_mk (st := st__law_web) l11 c11 k11
  have b11 := F11.binds (ps := ["bag", "most"]) fun _ _ _ _ _ _ us hl => match us, hl with | [_, _], _ => rfl
  have F12 := fun_mk (st := st__law_places) l12 c12 k12
  have b12 := F12.binds (ps := ["web"]) fun _ _ _ _ _ _ us hl => match us, hl with | [_], _ => rfl
  have F13 := fun_mk (st := st__law_letters) l13 c13 k13
  have b13 := F13.binds (ps := ["bag", "web", "most", "strongest"]) fun _ _ _ _ _ _ us hl => match us, hl with | [_, _, _, _], _ => rfl
  have F14 := fun_mk (st := st__law_are_letters) l14 c14 k14
  have b14 := F14.binds (ps := ["web", "thing"]) fun _ _ _ _ _ _ us hl => match us, hl with | [_, _], _ => rfl
  have F15 := fun_mk (st := st_law) l15 c15 k15
  refine ⟨PySem.W.fnOf "law" "law" (defArgs st_law) (defBody st_law) (defScope st_law) .none kV15 dc15 pm15 an15 cd15 ct15, fun s v => .of_eq rfl, fun base _ _ => ?_⟩
  have h_is_whole := ok_is_whole (P := l.prog) (w := w) (base := base) F0 (PySem.W.mg_of X G a0) b0 T 
  have h_is_within := ok_is_within (P := l.prog) (w := w) (base := base) F1 (PySem.W.mg_of X G a1) b1 T h_is_whole
  have h_places := ok_places (P := l.prog) (w := w) (base := base) F2 (PySem.W.mg_of X G a2) b2 T 
  have h_is_letter := ok_is_letter (P := l.prog) (w := w) (base := base) F3 (PySem.W.mg_of X G a3) b3 T h_places h_is_within
  have h_are_letters := ok_are_letters (P := l.prog) (w := w) (base := base) F4 (PySem.W.mg_of X G a4) b4 T h_is_letter
  have h__law_bag := ok__law_bag (P := l.prog) (w := w) (base := base) F5 (PySem.W.mg_of X G a5) b5 T 
  have h__law_take := ok__law_take (P := l.prog) (w := w) (base := base) F6 (PySem.W.mg_of X G a6) b6 T 
  have h__law_of := ok__law_of (P := l.prog) (w := w) (base := base) F7 (PySem.W.mg_of X G a7) b7 T h__law_take
  have h__law_within := ok__law_within (P := l.prog) (w := w) (base := base) F8 (PySem.W.mg_of X G a8) b8 T 
  have h__law_odd := ok__law_odd (P := l.prog) (w := w) (base := base) F9 (PySem.W.mg_of X G a9) b9 T h__law_take
  have h__law_spoilt := ok__law_spoilt (P := l.prog) (w := w) (base := base) F10 (PySem.W.mg_of X G a10) b10 T h__law_take h__law_odd 40
  have h__law_web := ok__law_web (P := l.prog) (w := w) (base := base) F11 (PySem.W.mg_of X G a11) b11 T h__law_take h__law_of
  have h__law_places := ok__law_places (P := l.prog) (w := w) (base := base) F12 (PySem.W.mg_of X G a12) b12 T 
  have h__law_letters := ok__law_letters (P := l.prog) (w := w) (base := base) F13 (PySem.W.mg_of X G a13) b13 T h__law_take h__law_of h__law_places
  have h__law_are_letters := ok__law_are_letters (P := l.prog) (w := w) (base := base) F14 (PySem.W.mg_of X G a14) b14 T h__law_places h__law_within
  exact ok_law F15 T h__law_bag h__law_web h__law_letters h__law_of h__law_odd h_are_letters h__law_are_letters h__law_spoilt
theorem walk {l : PySem.W.OpenLaw} {q : Program} {loose : List Str} {XP : (Str → Option Value) → Heap → Prop} {YP : World → Heap → Prop} {d : DefRec} {K : Params → PySem.W.Frag} (hn : l.most = some 63) (hdf : d.params.defaults = [])
    (hY : ∀ (w : World) (h : Heap), YP w h → (K w.params).In h)
    (F : ∀ (w : World) (mg : Str → Option Value) (fa : Addr) (h : Heap), (K w.params).In h → h.Ns mainGlobals mg → mg d.name = some (.ref fa) →
      ∃ fd : FuncData, (∀ (s : Shared) (u : Value), BindsTo s fd ⟨[u], []⟩ [("script", u)]) ∧ ∀ base : Heap, (K w.params).In base → base.Ns mainGlobals mg → FnOk l.prog w (K w.params) mg base CX0 43 fa fd ["script"] (spD (K w.params) (fun _ => none) 1 f_law)) :
    PySem.W.WalkO q loose XP YP l.row.toRowW d [] (fun f vs => PySem.call f vs) :=
  L2.walk_of (n := 63) (k := 43) (x := "script") (CX := fun _ => CX0) (sp := fun w => spD (K w.params) (fun _ => none) 1 f_law) hn (by decide) hdf ⟨rfl, by decide, by decide⟩ hY F (fun _ _ a ns hl _ hS => spD_start hS (law_true ns hl)) fun _ _ _ _ _ z => z
end G

open PySem PySem.W PyProof.Rows in
set_option maxRecDepth 100000 in
set_option maxHeartbeats 0 in
theorem PySem.Challenge.cw_breedpost_k03_letters_told_holds : PySem.Challenge.rw_breedpost_k03_letters_told.Holds := by
  w_on; o_law; k_head; (case hw => w_witness2)
  k_fill
  refine G.walk (l := PySem.Challenge.rw_breedpost_k03_letters_told) rfl rfl (fun w h Y => PySem.W.kIn_of Y) ?F
  case F =>
    intro w mg fa h KX G hmg
    refine' _root_.G.all_mk KX G hmg ?a0 ?l0 ?c0 ?k0 ?a1 ?l1 ?c1 ?k1 ?a2 ?l2 ?c2 ?k2 ?a3 ?l3 ?c3 ?k3 ?a4 ?l4 ?c4 ?k4 ?a5 ?l5 ?c5 ?k5 ?a6 ?l6 ?c6 ?k6 ?a7 ?l7 ?c7 ?k7 ?a8 ?l8 ?c8 ?k8 ?a9 ?l9 ?c9 ?k9 ?a10 ?l10 ?c10 ?k10 ?a11 ?l11 ?c11 ?k11 ?a12 ?l12 ?c12 ?k12 ?a13 ?l13 ?c13 ?k13 ?a14 ?l14 ?c14 ?k14 ?a15 ?l15 ?c15 ?k15 ?z_isinstance ?z_int ?z_bool ?z_sorted ?z_tuple ?z_len ?z_str ?z_list ?z_all ?z_abs ?z_range ?z_set ?z_min ?y_MOST_STRENGTH ?y_MOST_MANY ?y_MOST_LETTERS
    (case a0 => k_is)
    (case l0 => k_is)
    (case c0 => k_is)
    (case k0 => k_is)
    (case a1 => k_is)
    (case l1 => k_is)
    (case c1 => k_is)
    (case k1 => k_is)
    (case a2 => k_is)
    (case l2 => k_is)
    (case c2 => k_is)
    (case k2 => k_is)
    (case a3 => k_is)
    (case l3 => k_is)
    (case c3 => k_is)
    (case k3 => k_is)
    (case a4 => k_is)
    (case l4 => k_is)
    (case c4 => k_is)
    (case k4 => k_is)
    (case a5 => k_is)
    (case l5 => k_is)
    (case c5 => k_is)
    (case k5 => k_is)
    (case a6 => k_is)
    (case l6 => k_is)
    (case c6 => k_is)
    (case k6 => k_is)
    (case a7 => k_is)
    (case l7 => k_is)
    (case c7 => k_is)
    (case k7 => k_is)
    (case a8 => k_is)
    (case l8 => k_is)
    (case c8 => k_is)
    (case k8 => k_is)
    (case a9 => k_is)
    (case l9 => k_is)
    (case c9 => k_is)
    (case k9 => k_is)
    (case a10 => k_is)
    (case l10 => k_is)
    (case c10 => k_is)
    (case k10 => k_is)
    (case a11 => k_is)
    (case l11 => k_is)
    (case c11 => k_is)
    (case k11 => k_is)
    (case a12 => k_is)
    (case l12 => k_is)
    (case c12 => k_is)
    (case k12 => k_is)
    (case a13 => k_is)
    (case l13 => k_is)
    (case c13 => k_is)
    (case k13 => k_is)
    (case a14 => k_is)
    (case l14 => k_is)
    (case c14 => k_is)
    (case k14 => k_is)
    (case a15 => k_is)
    (case l15 => k_is)
    (case c15 => k_is)
    (case k15 => k_is)
    (case z_isinstance => k_is)
    (case z_int => k_is)
    (case z_bool => k_is)
    (case z_sorted => k_is)
    (case z_tuple => k_is)
    (case z_len => k_is)
    (case z_str => k_is)
    (case z_list => k_is)
    (case z_all => k_is)
    (case z_abs => k_is)
    (case z_range => k_is)
    (case z_set => k_is)
    (case z_min => k_is)
    (case y_MOST_STRENGTH => k_is)
    (case y_MOST_MANY => k_is)
    (case y_MOST_LETTERS => k_is)
