import PyProof.Rows.All
import HandS.ForMost
import HandS.ForExc
import HandS.Flow
import HandS.Codes
import HandS.Conv
import HandS.Zip
import HandS.StrMore
import HandS.StrSplit
import HandS.TupAny
import HandS.TupLe
import HandS.Wide
import HandS.WideBits
import HandS.Style
import HandS.IsInst
import HandS.Defaults
import HandS.MakeKw
import HandS.More
import HandS.NoneIn
import HandS.DictComp
import HandS.Deep
import HandS.Rev
import HandS.ExcField
import HandS.TryMany
import HandS.FStr
import KE.KSortTupG
import HandS.HeadHook2
import HandS.ExcOwn
import KE.KUnpackStar
import HandS.Small
import HandS.Keys
import HandS.Ends
import HandS.HeadEnd
import HandS.HeadHook3
import HandS.Head2
import HandS.RaiseMore
import HandS.HeadHook4
import PyProof.StrLawsTight
import KE.KIntText
import PyProof.StrLawsRepr
import PySem.Challenge.RW_passedstands_k85_systems_written_and_rea
set_option Elab.async false
set_option linter.all false
set_option maxRecDepth 100000
/-! EA: data without a heap, own things, what stands for them in the abstract heap, steps. -/
namespace DL
open PySem L2
/-- data that stays as it is -/
inductive D where
  | any | non | bl (b : Bool) | int (i : Int) | str (x : Str)
  | tup (xs : List D) | lst (xs : List D)
  | dk (ks : List Key) (vs : List D)
  | dt (ks : List (List Key)) (vs : List D)
  | opq (v : V)
  | scr (ns : List Int)
/-- a thing of one's own: its lists, dicts, instances are held by nobody else -/
inductive O where
  | d (x : D)
  | ls (xs : List O)
  | dk (ks : List Key) (vs : List O)
  | dt (ks : List (List Key)) (vs : List O)
  | ins (C : Str) (ns : List Str) (vs : List O)
abbrev Fp := List Addr
/-- own classes' places; what the module holds beside its defs, as data -/
structure Wld where
  cl : Str → Addr
  B : Hp
instance : CoeFun Wld fun _ => Str → Addr := ⟨Wld.cl⟩
section
variable (K : PySem.W.Frag)
mutual
/-- the value v is the data d, all of which stands in H and stays -/
def RepD (H : Hp) : D → V → Prop
  | .any, _ => True
  | .non, v => v = .non
  | .bl b, v => v = .bl b
  | .int i, v => v = .int i
  | .str x, v => v = .str x
  | .tup ds, v => ∃ p vs, v = .ref p ∧ SqT K H p vs ∧ RepDs H ds vs
  | .lst ds, v => ∃ p vs, v = .ref p ∧ H p = some (.lst vs) ∧ RepDs H ds vs
  | .dk ks ds, v => ∃ p vs od, v = .ref p ∧ H p = some (.frz od (.dK (ks.zip vs))) ∧ ks.length = vs.length ∧ RepDs H ds vs
  | .dt ks ds, v => ∃ p vs od, v = .ref p ∧ H p = some (.frz od (.dT (ks.zip vs))) ∧ ks.length = vs.length ∧ RepDs H ds vs
  | .opq u, v => v = u
  | .scr ns, v => ∃ p, v = .ref p ∧ SqL K H p (ns.map V.int)
def RepDs (H : Hp) : List D → List V → Prop
  | [], vs => vs = []
  | d :: ds, vs => ∃ v r, vs = v :: r ∧ RepD H d v ∧ RepDs H ds r
end
variable (cl : Wld)
mutual
/-- the value v is the own thing o: its data stands in Hk, its own parts in H at the places f -/
def RepO (Hk H : Hp) : O → V → Fp → Prop
  | .d x, v, f => RepD K Hk x v ∧ f = []
  | .ls xs, v, f => ∃ p vs g, v = .ref p ∧ H p = some (.lst vs) ∧ RepOs Hk H xs vs g ∧ f = p :: g
  | .dk ks xs, v, f => ∃ p vs g, v = .ref p ∧ H p = some (.dK (ks.zip vs)) ∧ (ks.length = vs.length ∧ ks.Nodup) ∧ RepOs Hk H xs vs g ∧ f = p :: g
  | .dt ks xs, v, f => ∃ p vs g, v = .ref p ∧ H p = some (.dT (ks.zip vs)) ∧ (ks.length = vs.length ∧ ks.Nodup) ∧ RepOs Hk H xs vs g ∧ f = p :: g
  | .ins C ns xs, v, f => ∃ p dx vs g, v = .ref p ∧ H p = some (.ins (cl C) dx (ns.zip vs)) ∧ H dx = some (.own p) ∧ ns.length = vs.length ∧ RepOs Hk H xs vs g ∧ f = p :: dx :: g
def RepOs (Hk H : Hp) : List O → List V → Fp → Prop
  | [], vs, f => vs = [] ∧ f = []
  | o :: os, vs, f => ∃ v r f1 f2, vs = v :: r ∧ f = f1 ++ f2 ∧ RepO Hk H o v f1 ∧ RepOs Hk H os r f2
end
end
section
variable {K : PySem.W.Frag} {H H' Hk Hk' : Hp} {cl : Wld}
theorem Rd.same {u : HO} {p : Addr} (s : Same H H') (h : Rd H p u) : Rd H' p u := by
  rcases h with h | ⟨o, h⟩
  · exact .inl (s _ _ h)
  · exact .inr ⟨o, s _ _ h⟩
theorem sqT_same {p : Addr} {vs : List V} (s : Same H H') (h : SqT K H p vs) : SqT K H' p vs := by
  rcases h with h | h
  · exact .inl (Rd.same s h)
  · exact .inr h
theorem sqL_same {p : Addr} {vs : List V} (s : Same H H') (h : SqL K H p vs) : SqL K H' p vs := s.seq h
mutual
theorem RepD.same (s : Same H H') : ∀ (d : D) (v : V), RepD K H d v → RepD K H' d v
  | .any, _, _ => trivial
  | .non, _, h => h
  | .bl _, _, h => h
  | .int _, _, h => h
  | .str _, _, h => h
  | .opq _, _, h => h
  | .tup ds, v, h => by
    obtain ⟨p, vs, e, q, r⟩ := h
    exact ⟨p, vs, e, sqT_same s q, RepDs.same s ds vs r⟩
  | .scr ns, v, h => by
    obtain ⟨p, e, q⟩ := h
    exact ⟨p, e, sqL_same s q⟩
  | .lst ds, v, h => by
    obtain ⟨p, vs, e, q, r⟩ := h
    exact ⟨p, vs, e, s _ _ q, RepDs.same s ds vs r⟩
  | .dk ks ds, v, h => by
    obtain ⟨p, vs, od, e, q, l, r⟩ := h
    exact ⟨p, vs, od, e, s _ _ q, l, RepDs.same s ds vs r⟩
  | .dt ks ds, v, h => by
    obtain ⟨p, vs, od, e, q, l, r⟩ := h
    exact ⟨p, vs, od, e, s _ _ q, l, RepDs.same s ds vs r⟩
theorem RepDs.same (s : Same H H') : ∀ (ds : List D) (vs : List V), RepDs K H ds vs → RepDs K H' ds vs
  | [], _, h => h
  | d :: ds, vs, h => by
    obtain ⟨v, r, e, h1, h2⟩ := h
    exact ⟨v, r, e, RepD.same s d v h1, RepDs.same s ds r h2⟩
end
mutual
theorem RepO.keep (s : Same Hk Hk') : ∀ (o : O) (v : V) (f : Fp), (∀ a ∈ f, ∀ u, H a = some u → H' a = some u) → RepO K cl Hk H o v f → RepO K cl Hk' H' o v f
  | .d x, v, f, _, h => ⟨h.1.same s, h.2⟩
  | .ls xs, v, f, k, h => by
    obtain ⟨p, vs, g, e, hp, r, rfl⟩ := h
    exact ⟨p, vs, g, e, k p List.mem_cons_self _ hp, RepOs.keep s xs vs g (fun a ha => k a (List.mem_cons_of_mem _ ha)) r, rfl⟩
  | .dk ks xs, v, f, k, h => by
    obtain ⟨p, vs, g, e, hp, l, r, rfl⟩ := h
    exact ⟨p, vs, g, e, k p List.mem_cons_self _ hp, l, RepOs.keep s xs vs g (fun a ha => k a (List.mem_cons_of_mem _ ha)) r, rfl⟩
  | .dt ks xs, v, f, k, h => by
    obtain ⟨p, vs, g, e, hp, l, r, rfl⟩ := h
    exact ⟨p, vs, g, e, k p List.mem_cons_self _ hp, l, RepOs.keep s xs vs g (fun a ha => k a (List.mem_cons_of_mem _ ha)) r, rfl⟩
  | .ins C ns xs, v, f, k, h => by
    obtain ⟨p, dx, vs, g, e, hp, hd, l, r, rfl⟩ := h
    exact ⟨p, dx, vs, g, e, k p List.mem_cons_self _ hp, k dx (List.mem_cons_of_mem _ List.mem_cons_self) _ hd, l, RepOs.keep s xs vs g (fun a ha => k a (List.mem_cons_of_mem _ (List.mem_cons_of_mem _ ha))) r, rfl⟩
theorem RepOs.keep (s : Same Hk Hk') : ∀ (os : List O) (vs : List V) (f : Fp), (∀ a ∈ f, ∀ u, H a = some u → H' a = some u) → RepOs K cl Hk H os vs f → RepOs K cl Hk' H' os vs f
  | [], _, _, _, h => h
  | o :: os, vs, f, k, h => by
    obtain ⟨v, r, f1, f2, e, rfl, h1, h2⟩ := h
    exact ⟨v, r, f1, f2, e, rfl, RepO.keep s o v f1 (fun a ha => k a (List.mem_append_left _ ha)) h1, RepOs.keep s os r f2 (fun a ha => k a (List.mem_append_right _ ha)) h2⟩
end
mutual
/-- what is owned is tracked -/
theorem RepO.there : ∀ (o : O) (v : V) (f : Fp), RepO K cl Hk H o v f → ∀ a ∈ f, ∃ u, H a = some u
  | .d x, v, f, h => by rw [h.2]; intro a ha; cases ha
  | .ls xs, v, f, h => by
    obtain ⟨p, vs, g, e, hp, r, rfl⟩ := h
    intro a ha
    rcases List.mem_cons.mp ha with rfl | ha
    · exact ⟨_, hp⟩
    · exact RepOs.there xs vs g r a ha
  | .dk ks xs, v, f, h => by
    obtain ⟨p, vs, g, e, hp, l, r, rfl⟩ := h
    intro a ha
    rcases List.mem_cons.mp ha with rfl | ha
    · exact ⟨_, hp⟩
    · exact RepOs.there xs vs g r a ha
  | .dt ks xs, v, f, h => by
    obtain ⟨p, vs, g, e, hp, l, r, rfl⟩ := h
    intro a ha
    rcases List.mem_cons.mp ha with rfl | ha
    · exact ⟨_, hp⟩
    · exact RepOs.there xs vs g r a ha
  | .ins C ns xs, v, f, h => by
    obtain ⟨p, dx, vs, g, e, hp, hd, l, r, rfl⟩ := h
    intro a ha
    rcases List.mem_cons.mp ha with rfl | ha
    · exact ⟨_, hp⟩
    rcases List.mem_cons.mp ha with rfl | ha
    · exact ⟨_, hd⟩
    · exact RepOs.there xs vs g r a ha
theorem RepOs.there : ∀ (os : List O) (vs : List V) (f : Fp), RepOs K cl Hk H os vs f → ∀ a ∈ f, ∃ u, H a = some u
  | [], _, _, h => by rw [h.2]; intro a ha; cases ha
  | o :: os, vs, f, h => by
    obtain ⟨v, r, f1, f2, e, rfl, h1, h2⟩ := h
    intro a ha
    rcases List.mem_append.mp ha with ha | ha
    · exact RepO.there o v f1 h1 a ha
    · exact RepOs.there os r f2 h2 a ha
end
/-! ### data seen in an own thing -/
def unD : O → Option D
  | .d x => some x
  | _ => none
def unDs : List O → Option (List D)
  | [] => some []
  | o :: os => match unD o, unDs os with
    | some x, some xs => some (x :: xs)
    | _, _ => none
theorem unDs_map : ∀ ds : List D, unDs (ds.map O.d) = some ds
  | [] => rfl
  | d :: ds => by rw [List.map_cons, unDs, unDs_map ds]; rfl
theorem unDs_some : ∀ {os : List O} {ds : List D}, unDs os = some ds → os = ds.map O.d
  | [], _, h => by cases h; rfl
  | o :: os, ds, h => by
    unfold unDs at h
    split at h
    · rename_i x xs h1 h2
      cases h
      rw [List.map_cons, ← unDs_some h2]
      cases o <;> simp [unD] at h1
      rw [h1]
    · cases h
/-- an own thing as data, its own parts left open -/
def unAny : O → D
  | .d x => x
  | _ => .any
theorem unAny_d : unAny ∘ O.d = id := rfl
theorem map_unAny (ds : List D) : (ds.map O.d).map unAny = ds := by rw [List.map_map, unAny_d, List.map_id]
def peek : O → Option D
  | .d x => some x
  | .ls xs => some (.lst (xs.map unAny))
  | .dk ks xs => some (.dk ks (xs.map unAny))
  | .dt ks xs => some (.dt ks (xs.map unAny))
  | .ins _ _ _ => some .any
/-- as RepD, but its outmost part may stand in H -/
def RepB (K : PySem.W.Frag) (Hk H : Hp) : D → V → Prop
  | .lst ds, v => ∃ p vs, v = .ref p ∧ H p = some (.lst vs) ∧ RepDs K Hk ds vs
  | .dk ks ds, v => ∃ p vs, v = .ref p ∧ Rd H p (.dK (ks.zip vs)) ∧ ks.length = vs.length ∧ RepDs K Hk ds vs
  | .dt ks ds, v => ∃ p vs, v = .ref p ∧ Rd H p (.dT (ks.zip vs)) ∧ ks.length = vs.length ∧ RepDs K Hk ds vs
  | d, v => RepD K Hk d v
theorem RepD.toB (s : Same Hk H) : ∀ {d : D} {v : V}, RepD K Hk d v → RepB K Hk H d v
  | .any, _, _ => trivial
  | .non, _, h => h
  | .bl _, _, h => h
  | .int _, _, h => h
  | .str _, _, h => h
  | .opq _, _, h => h
  | .scr _, _, h => h
  | .tup ds, v, h => h
  | .lst ds, v, h => by
    obtain ⟨p, vs, e, q, r⟩ := h
    exact ⟨p, vs, e, s _ _ q, r⟩
  | .dk ks ds, v, h => by
    obtain ⟨p, vs, od, e, q, l, r⟩ := h
    exact ⟨p, vs, e, .inr ⟨od, s _ _ q⟩, l, r⟩
  | .dt ks ds, v, h => by
    obtain ⟨p, vs, od, e, q, l, r⟩ := h
    exact ⟨p, vs, e, .inr ⟨od, s _ _ q⟩, l, r⟩
theorem RepB.same (s : Same Hk Hk') (s2 : Same H H') : ∀ {d : D} {v : V}, RepB K Hk H d v → RepB K Hk' H' d v
  | .any, _, _ => trivial
  | .non, _, h => h
  | .bl _, _, h => h
  | .int _, _, h => h
  | .str _, _, h => h
  | .opq _, _, h => h
  | .scr ns, v, h => RepD.same s (.scr ns) v h
  | .tup ds, v, h => RepD.same s (.tup ds) v h
  | .lst ds, v, h => by
    obtain ⟨p, vs, e, q, r⟩ := h
    exact ⟨p, vs, e, s2 _ _ q, RepDs.same s _ _ r⟩
  | .dk ks ds, v, h => by
    obtain ⟨p, vs, e, q, l, r⟩ := h
    exact ⟨p, vs, e, Rd.same s2 q, l, RepDs.same s _ _ r⟩
  | .dt ks ds, v, h => by
    obtain ⟨p, vs, e, q, l, r⟩ := h
    exact ⟨p, vs, e, Rd.same s2 q, l, RepDs.same s _ _ r⟩
theorem RepDs.length : ∀ {ds : List D} {vs : List V}, RepDs K H ds vs → ds.length = vs.length
  | [], _, h => by cases h; rfl
  | d :: ds, _, h => by
    obtain ⟨v, r, rfl, _, h2⟩ := h
    simp [RepDs.length h2]
theorem RepOs.length : ∀ {os : List O} {vs : List V} {f : Fp}, RepOs K cl Hk H os vs f → os.length = vs.length
  | [], _, _, h => by have e := h.1; subst e; rfl
  | d :: ds, _, _, h => by
    obtain ⟨v, r, f1, f2, rfl, _, _, h2⟩ := h
    simp [RepOs.length h2]
theorem RepDs.get : ∀ {ds : List D} {vs : List V} {i : Nat} {d : D}, RepDs K H ds vs → ds[i]? = some d → ∃ v, vs[i]? = some v ∧ RepD K H d v
  | [], _, _, _, _, e => by simp at e
  | d :: ds, _, 0, _, h, e => by
    obtain ⟨v, r, rfl, h1, _⟩ := h
    simp at e; subst e
    exact ⟨v, rfl, h1⟩
  | d :: ds, _, i + 1, x, h, e => by
    obtain ⟨v, r, rfl, _, h2⟩ := h
    obtain ⟨w, a, b⟩ := RepDs.get (i := i) h2 (by simpa using e)
    exact ⟨w, by simpa using a, b⟩
theorem RepDs.app : ∀ {ds es : List D} {vs us : List V}, RepDs K H ds vs → RepDs K H es us → RepDs K H (ds ++ es) (vs ++ us)
  | [], _, _, _, h, k => by cases h; exact k
  | d :: ds, es, _, us, h, k => by
    obtain ⟨v, r, rfl, h1, h2⟩ := h
    exact ⟨v, r ++ us, rfl, h1, RepDs.app h2 k⟩
theorem RepDs.take : ∀ (n : Nat) {ds : List D} {vs : List V}, RepDs K H ds vs → RepDs K H (ds.take n) (vs.take n)
  | 0, _, _, _ => rfl
  | n + 1, [], _, h => by cases h; rfl
  | n + 1, d :: ds, _, h => by
    obtain ⟨v, r, rfl, h1, h2⟩ := h
    exact ⟨v, r.take n, rfl, h1, RepDs.take n h2⟩
theorem RepDs.drop : ∀ (n : Nat) {ds : List D} {vs : List V}, RepDs K H ds vs → RepDs K H (ds.drop n) (vs.drop n)
  | 0, _, _, h => h
  | n + 1, [], _, h => by cases h; rfl
  | n + 1, d :: ds, _, h => by
    obtain ⟨v, r, rfl, h1, h2⟩ := h
    exact RepDs.drop n h2
theorem RepDs.nil : RepDs K H [] [] := rfl
theorem RepDs.cons {d : D} {ds : List D} {v : V} {vs : List V} (h : RepD K H d v) (k : RepDs K H ds vs) : RepDs K H (d :: ds) (v :: vs) := ⟨v, vs, rfl, h, k⟩
/-- own things that are data -/
theorem RepOs.ofDs : ∀ {ds : List D} {vs : List V}, RepDs K Hk ds vs → RepOs K cl Hk H (ds.map O.d) vs []
  | [], _, h => ⟨h, rfl⟩
  | d :: ds, _, h => by
    obtain ⟨v, r, rfl, h1, h2⟩ := h
    exact ⟨v, r, [], [], rfl, rfl, ⟨h1, rfl⟩, RepOs.ofDs h2⟩
theorem RepOs.toDs : ∀ {ds : List D} {vs : List V} {f : Fp}, RepOs K cl Hk H (ds.map O.d) vs f → RepDs K Hk ds vs ∧ f = []
  | [], _, _, h => ⟨h.1, h.2⟩
  | d :: ds, _, _, h => by
    obtain ⟨v, r, f1, f2, rfl, rfl, h1, h2⟩ := h
    obtain ⟨k1, k2⟩ := RepOs.toDs h2
    exact ⟨⟨v, r, rfl, h1.1, k1⟩, by rw [h1.2, k2]; rfl⟩
theorem RepO.unAny {o : O} {v : V} {f : Fp} (h : RepO K cl Hk H o v f) : RepD K Hk (DL.unAny o) v := by
  cases o with
  | d x => exact h.1
  | _ => trivial
theorem RepOs.unAny : ∀ {os : List O} {vs : List V} {f : Fp}, RepOs K cl Hk H os vs f → RepDs K Hk (os.map DL.unAny) vs
  | [], _, _, h => h.1
  | o :: os, _, _, h => by
    obtain ⟨v, r, f1, f2, rfl, rfl, h1, h2⟩ := h
    exact ⟨v, r, rfl, h1.unAny, RepOs.unAny h2⟩
theorem RepO.peek (s : Same Hk H) : ∀ {o : O} {v : V} {f : Fp} {d : D}, RepO K cl Hk H o v f → peek o = some d → RepB K Hk H d v
  | .d x, v, f, d, h, e => by cases e; exact h.1.toB s
  | .ls xs, v, f, d, h, e => by
    obtain ⟨p, vs, g, e', hp, r, rfl⟩ := h
    cases e
    exact ⟨p, vs, e', hp, r.unAny⟩
  | .dk ks xs, v, f, d, h, e => by
    obtain ⟨p, vs, g, e', hp, l, r, rfl⟩ := h
    cases e
    exact ⟨p, vs, e', Rd.of hp, l.1, r.unAny⟩
  | .dt ks xs, v, f, d, h, e => by
    obtain ⟨p, vs, g, e', hp, l, r, rfl⟩ := h
    cases e
    exact ⟨p, vs, e', Rd.of hp, l.1, r.unAny⟩
  | .ins C ns xs, v, f, d, h, e => by cases e; trivial
/-! ### steps -/
/-- Hk: what stays; H: all; P: what one owns -/
structure Step (Hk H : Hp) (P : Addr → Prop) (Hk' H' : Hp) (P' : Addr → Prop) : Prop where
  kk : Same Hk Hk'
  fr : ∀ a u, ¬ P a → H a = some u → H' a = some u
  nw : ∀ a, Hk' a ≠ none → Hk a ≠ none ∨ H a = none ∨ P a
  ow : ∀ a, P' a → H a = none ∨ P a
theorem Step.refl {P : Addr → Prop} : Step Hk H P Hk H P := ⟨Same.refl _, fun _ _ _ h => h, fun _ h => .inl h, fun _ h => .inr h⟩
theorem Step.trans {H1 H2 Hk1 Hk2 : Hp} {P P1 P2 : Addr → Prop} (a : Step Hk H P Hk1 H1 P1) (b : Step Hk1 H1 P1 Hk2 H2 P2) : Step Hk H P Hk2 H2 P2 := by
  have key : ∀ x, ¬ P x → H x ≠ none → H1 x ≠ none ∧ ¬ P1 x := fun x np hx => by
    cases e : H x with
    | none => exact absurd e hx
    | some u =>
      refine ⟨?_, fun q => ?_⟩
      · rw [a.fr x u np e]; intro z; cases z
      · rcases a.ow x q with z | z
        · rw [e] at z; cases z
        · exact np z
  refine ⟨a.kk.trans b.kk, fun x u np e => ?_, fun x h => ?_, fun x h => ?_⟩
  · have e1 := a.fr x u np e
    exact b.fr x u (key x np (by rw [e]; intro z; cases z)).2 e1
  · by_cases hp : P x
    · exact .inr (.inr hp)
    by_cases hx : H x = none
    · exact .inr (.inl hx)
    have k := key x hp hx
    rcases b.nw x h with z | z | z
    · exact a.nw x z
    · exact absurd z k.1
    · exact absurd z k.2
  · by_cases hp : P x
    · exact .inr hp
    by_cases hx : H x = none
    · exact .inl hx
    have k := key x hp hx
    rcases b.ow x h with z | z
    · exact absurd z k.1
    · exact absurd z k.2
/-- owning less behind, more ahead -/
theorem Step.weak {H' Hk' : Hp} {P Q P' Q' : Addr → Prop} (a : Step Hk H P Hk' H' P') (h1 : ∀ x, P x → Q x) (h2 : ∀ x, Q' x → P' x) : Step Hk H Q Hk' H' Q' :=
  ⟨a.kk, fun x u n e => a.fr x u (fun z => n (h1 x z)) e, fun x h => by
    rcases a.nw x h with z | z | z
    · exact .inl z
    · exact .inr (.inl z)
    · exact .inr (.inr (h1 x z)), fun x h => by
    rcases a.ow x (h2 x h) with z | z
    · exact .inl z
    · exact .inr (h1 x z)⟩
/-- nothing but Hk and H have grown, by things that weren't there -/
theorem Step.grow {P : Addr → Prop} {H' Hk' : Hp} (k : Same Hk Hk') (h : Same H H') (n : ∀ a, Hk' a ≠ none → Hk a ≠ none ∨ H a = none) : Step Hk H P Hk' H' P :=
  ⟨k, fun a u _ e => h a u e, fun a z => (n a z).elim .inl fun z => .inr (.inl z), fun _ z => .inr z⟩
/-- a set of own places beside what stays -/
structure Good (Hk H : Hp) (f : Fp) : Prop where
  same : Same Hk H
  nd : f.Nodup
  off : ∀ a ∈ f, Hk a = none ∧ H a ≠ none
/-! ### the slots -/
abbrev Env := List (Option O)
abbrev Fs := Nat → Fp
def Fs.all (f : Fs) : Addr → Prop := fun a => ∃ i, a ∈ f i
variable (K cl)
structure Cfg (Hk H : Hp) (ρ : Env) (σ : St) (f : Fs) : Prop where
  len : ρ.length = σ.length
  rep : ∀ i o, ρ[i]? = some (some o) → ∃ v, σ[i]? = some (some v) ∧ RepO K cl Hk H o v (f i)
  nd : ∀ i, (f i).Nodup
  dj : ∀ i j a, a ∈ f i → a ∈ f j → i = j
  off : ∀ i a, a ∈ f i → Hk a = none ∧ H a ≠ none
  same : Same Hk H
  bs : Same cl.B Hk
end
end DL
set_option Elab.async false
set_option linter.all false
set_option maxRecDepth 100000
/-! EB: results, readings, the judgements over data, how they follow one another. -/
namespace DL
open PySem L2 PySem.Spec PyProof.Rows
abbrev St := L2.St
structure Exn where
  c : Str
  ns : List Str
  vs : List D
inductive Res (α : Type) where
  | ok (a : α) (ρ : Env)
  | exc (x : Exn) (ρ : Env)
  | bad
def Res.bind {α β : Type} (r : Res α) (k : α → Env → Res β) : Res β := match r with
  | .ok a ρ => k a ρ
  | .exc x ρ => .exc x ρ
  | .bad => .bad
abbrev M (α : Type) := Env → Res α
abbrev Rl (α β : Type) := Hp → Hp → α → β → Fp → Prop
section
variable (K : PySem.W.Frag) (cl : Wld)
def ExnR (Hk H : Hp) (x : Exn) (cls : Value) (dd : Option Addr) : Prop :=
  cls = .ref (cl x.c) ∧ ((x.ns = [] ∧ x.vs = [] ∧ dd = none) ∨ ∃ d vs, dd = some d ∧ H d = some (.xd (x.ns.zip vs)) ∧ x.ns.length = vs.length ∧ RepDs K Hk x.vs vs)
def RD : Rl D V := fun Hk _ d v g => RepD K Hk d v ∧ g = []
def RB : Rl D V := fun Hk H d v g => RepB K Hk H d v ∧ g = []
def RDs : Rl (List D) (List V) := fun Hk _ d v g => RepDs K Hk d v ∧ g = []
def RO : Rl O V := fun Hk H o v g => RepO K cl Hk H o v g
def ROs : Rl (List O) (List V) := fun Hk H o v g => RepOs K cl Hk H o v g
def RT : Rl Bool Bool := fun _ _ a b g => a = b ∧ g = []
structure Apart (Hk H : Hp) (g : Fp) (f : Fs) : Prop where
  nd : g.Nodup
  off : ∀ a ∈ g, Hk a = none ∧ H a ≠ none ∧ ¬ f.all a
theorem Apart.nil {Hk H : Hp} {f : Fs} : Apart Hk H [] f := ⟨List.nodup_nil, fun _ h => nomatch h⟩
variable (W : WX)
def EQ {α β : Type} (R : Rl α β) (r : Bool) (σ : St) (Hk H : Hp) (ρ : Env) (f : Fs) (res : Res α) (Q : β → Hp → Prop) : Prop :=
  match res with
  | .ok a ρ' => ∀ b g Hk' H' f', Cfg K cl Hk' H' ρ' σ f' → Apart Hk' H' g f' → Step Hk H f.all Hk' H' (fun x => x ∈ g ∨ f'.all x) → (r = true → ρ' = ρ ∧ f' = f ∧ Same H H') → R Hk' H' a b g → Q b H'
  | .exc x ρ' => ∀ cls dd Hk' H' f', Cfg K cl Hk' H' ρ' σ f' → Step Hk H f.all Hk' H' f'.all → ExnR K cl Hk' H' x cls dd → W cls dd σ H'
  | .bad => False
def tR {α β : Type} (R : Rl α β) (r : Bool) (m : M α) : St → Hp → (β → Hp → Prop) → Prop := fun σ H Q => ∃ Hk ρ f, Cfg K cl Hk H ρ σ f ∧ EQ K cl W R r σ Hk H ρ f (m ρ) Q
end
structure Grow (Hk H Hk' H' : Hp) : Prop where
  kk : Same Hk Hk'
  hh : Same H H'
  same : Same Hk' H'
  nw : ∀ a, Hk' a ≠ none → Hk a ≠ none ∨ H a = none
theorem Grow.refl {Hk H : Hp} (s : Same Hk H) : Grow Hk H Hk H := ⟨.refl _, .refl _, s, fun _ h => .inl h⟩
theorem same_upd {H : Hp} {p : Addr} {o : HO} (n : H p = none) : Same H (upd H p o) := fun b u e => by
  rw [upd_ne (ne_of_none e n)]; exact e
theorem none_of_same {Hk H : Hp} {p : Addr} (s : Same Hk H) (n : H p = none) : Hk p = none := Same.free s n
theorem Grow.upd {Hk H : Hp} {p : Addr} {o : HO} (s : Same Hk H) (n : H p = none) : Grow Hk H (L2.upd Hk p o) (L2.upd H p o) := by
  refine ⟨same_upd (none_of_same s n), same_upd n, fun b u e => ?_, fun a h => ?_⟩
  · by_cases hb : b = p
    · subst hb; rw [upd_same] at e ⊢; exact e
    · rw [upd_ne hb] at e ⊢; exact s _ _ e
  · by_cases ha : a = p
    · subst ha; exact .inr n
    · rw [upd_ne ha] at h; exact .inl h
theorem Grow.trans {Hk H Hk1 H1 Hk2 H2 : Hp} (a : Grow Hk H Hk1 H1) (b : Grow Hk1 H1 Hk2 H2) : Grow Hk H Hk2 H2 :=
  ⟨a.kk.trans b.kk, a.hh.trans b.hh, b.same, fun x h => by
    rcases b.nw x h with z | z
    · exact a.nw x z
    · exact .inr (Same.free a.hh z)⟩
section
variable {K : PySem.W.Frag} {cl : Wld} {W : WX} {Hk H Hk' H' : Hp} {ρ : Env} {σ : St} {f : Fs}
theorem Cfg.grow (c : Cfg K cl Hk H ρ σ f) (g : Grow Hk H Hk' H') : Cfg K cl Hk' H' ρ σ f :=
  ⟨c.len, fun i o e => by
    obtain ⟨v, a, b⟩ := c.rep i o e
    exact ⟨v, a, b.keep g.kk o v (f i) fun x hx u q => g.hh x u q⟩, c.nd, c.dj, fun i a h => by
    obtain ⟨n, t⟩ := c.off i a h
    refine ⟨?_, fun z => t (Same.free g.hh z)⟩
    cases e : Hk' a with
    | none => rfl
    | some u =>
      rcases g.nw a (by rw [e]; intro z; cases z) with z | z
      · exact absurd n z
      · exact absurd z t, g.same, c.bs.trans g.kk⟩
theorem Grow.step (g : Grow Hk H Hk' H') {P : Addr → Prop} : Step Hk H P Hk' H' P := Step.grow g.kk g.hh g.nw
theorem Apart.step_nil {P : Addr → Prop} (s : Step Hk H P Hk' H' f.all) : Step Hk H P Hk' H' (fun x => x ∈ ([] : Fp) ∨ f.all x) := s.weak (fun _ h => h) fun x h => h.elim (fun z => nomatch z) id
theorem Apart.step_nil' {P : Addr → Prop} (s : Step Hk H P Hk' H' (fun x => x ∈ ([] : Fp) ∨ f.all x)) : Step Hk H P Hk' H' f.all := s.weak (fun _ h => h) fun x h => .inr h
/-- a result is here, of data that stands behind some growing -/
theorem EQ.at {α β : Type} {R : Rl α β} {r : Bool} {a : α} {b : β} {Q : β → Hp → Prop} (c : Cfg K cl Hk H ρ σ f) (h : EQ K cl W R r σ Hk H ρ f (.ok a ρ) Q) (g : Grow Hk H Hk' H') (x : R Hk' H' a b []) : Q b H' :=
  h b [] Hk' H' f (c.grow g) .nil (Apart.step_nil g.step) (fun _ => ⟨rfl, rfl, g.hh⟩) x
/-- .. a new own object at p -/
theorem EQ.own {α β : Type} {R : Rl α β} {r : Bool} {a : α} {b : β} {Q : β → Hp → Prop} {p : Addr} {o : HO} (c : Cfg K cl Hk H ρ σ f) (h : EQ K cl W R r σ Hk H ρ f (.ok a ρ) Q) (n : H p = none) (x : R Hk (L2.upd H p o) a b [p]) : Q b (L2.upd H p o) := by
  have hs : Same H (L2.upd H p o) := same_upd n
  have g : Grow Hk H Hk (L2.upd H p o) := ⟨.refl _, hs, c.same.trans hs, fun _ z => .inl z⟩
  refine h b [p] Hk _ f (c.grow g) ⟨by simp, fun a ha => ?_⟩ ?_ (fun _ => ⟨rfl, rfl, hs⟩) x
  · have e : a = p := by simpa using ha
    subst e
    exact ⟨none_of_same c.same n, by rw [upd_same]; (intro z; cases z), fun ⟨i, hi⟩ => (c.off i _ hi).2 n⟩
  · refine ⟨.refl _, fun a u _ e => hs a u e, fun a z => .inl z, fun a z => ?_⟩
    rcases z with z | z
    · have e : a = p := by simpa using z
      subst e; exact .inl n
    · exact .inr z
/-- one after another -/
theorem EQ.seq {α β γ δ : Type} {R1 : Rl α β} {R2 : Rl γ δ} {r1 r2 : Bool} {res : Res α} {k : α → Env → Res γ} {Q : δ → Hp → Prop} (hp : ∀ Hk H a b g, R1 Hk H a b g → g = [])
    (h : EQ K cl W R2 (r1 && r2) σ Hk H ρ f (res.bind k) Q) :
    EQ K cl W R1 r1 σ Hk H ρ f res fun b H1 => ∃ a Hk1 ρ1 f1, Cfg K cl Hk1 H1 ρ1 σ f1 ∧ Step Hk H f.all Hk1 H1 f1.all ∧ (r1 = true → ρ1 = ρ ∧ f1 = f ∧ Same H H1) ∧ R1 Hk1 H1 a b [] ∧ EQ K cl W R2 r2 σ Hk1 H1 ρ1 f1 (k a ρ1) Q := by
  cases res with
  | bad => exact h
  | exc x ρ' => exact h
  | ok a ρ' =>
    intro b g Hk1 H1 f1 c1 ap st hr x
    have e := hp _ _ _ _ _ x
    subst e
    have st1 : Step Hk H f.all Hk1 H1 f1.all := Apart.step_nil' st
    refine ⟨a, Hk1, ρ', f1, c1, st1, hr, x, ?_⟩
    have h' : EQ K cl W R2 (r1 && r2) σ Hk H ρ f (k a ρ') Q := h
    cases q : k a ρ' with
    | bad => rw [q] at h'; exact h'
    | exc y ρ2 =>
      rw [q] at h'
      intro cls dd Hk2 H2 f2 c2 st2 ex
      exact h' cls dd Hk2 H2 f2 c2 (st1.trans st2) ex
    | ok y ρ2 =>
      rw [q] at h'
      intro b2 g2 Hk2 H2 f2 c2 ap2 st2 hr2 x2
      refine h' b2 g2 Hk2 H2 f2 c2 ap2 (st1.trans st2) (fun e => ?_) x2
      rw [Bool.and_eq_true] at e
      obtain ⟨e1, e2, e3⟩ := hr e.1
      obtain ⟨e4, e5, e6⟩ := hr2 e.2
      exact ⟨e4.trans e1, e5.trans e2, e3.trans e6⟩
theorem EQ.mono {α β : Type} {R : Rl α β} {r : Bool} {res : Res α} {Q Q' : β → Hp → Prop} (h : EQ K cl W R r σ Hk H ρ f res Q) (hq : ∀ b H, Q b H → Q' b H) : EQ K cl W R r σ Hk H ρ f res Q' := by
  cases res with
  | bad => exact h
  | exc x ρ' => exact h
  | ok a ρ' => exact fun b g Hk1 H1 f1 c1 ap st hr x => hq _ _ (h b g Hk1 H1 f1 c1 ap st hr x)
theorem RD.p : ∀ Hk H a b g, RD K Hk H a b g → g = [] := fun _ _ _ _ _ h => h.2
theorem RB.p : ∀ Hk H a b g, RB K Hk H a b g → g = [] := fun _ _ _ _ _ h => h.2
theorem RDs.p : ∀ Hk H a b g, RDs K Hk H a b g → g = [] := fun _ _ _ _ _ h => h.2
theorem RT.p : ∀ (Hk H : Hp) a b g, RT Hk H a b g → g = [] := fun _ _ _ _ _ h => h.2
end
/-! ### the judgements -/
section
variable (X : Cx) (cl : Wld) (W : WX)
/-- an expression that gives data -/
abbrev DE (r : Bool) (e : Expr) (m : M D) : Prop := PE X e (tR X.K cl W (RD X.K) r m)
/-- .. whose outmost part may be another's own -/
abbrev DB (r : Bool) (e : Expr) (m : M D) : Prop := PE X e (tR X.K cl W (RB X.K) r m)
/-- .. that gives a new own thing -/
abbrev DO (r : Bool) (e : Expr) (m : M O) : Prop := PE X e (tR X.K cl W (RO X.K cl) r m)
/-- a test -/
abbrev DT (r : Bool) (e : Expr) (m : M Bool) : Prop := PT X e (tR X.K cl W RT r m)
abbrev DW (r : Bool) (e : Expr) (m : M Bool) : Prop := PW X e (tR X.K cl W RT r m)
/-- several -/
abbrev DA (r : Bool) (es : List Expr) (m : M (List D)) : Prop := PA X es (tR X.K cl W (RDs X.K) r m)
end
section
variable {X : Cx} {cl : Wld} {W : WX} {r ra rb rc : Bool} {e a b c : Expr} {pos : Pos}
theorem PE.imp {t t' : TE} (h : PE X e t) (k : ∀ σ H Q, t' σ H Q → t σ H Q) : PE X e t' := ⟨fun pins s σ H Q I q => h.run pins s σ H Q I (k σ H Q q)⟩
theorem PT.imp {t t' : TT} (h : PT X e t) (k : ∀ σ H Q, t' σ H Q → t σ H Q) : PT X e t' := ⟨fun pins s σ H Q I q => h.run pins s σ H Q I (k σ H Q q)⟩
theorem PW.imp {t t' : TT} (h : PW X e t) (k : ∀ σ H Q, t' σ H Q → t σ H Q) : PW X e t' := ⟨fun w pins s σ H Q I q => h.run w pins s σ H Q I (k σ H Q q)⟩
theorem PA.imp {es : List Expr} {t t' : TA} (h : PA X es t) (k : ∀ σ H Q, t' σ H Q → t σ H Q) : PA X es t' := ⟨fun pos pins s σ H Q I q => h.run pos pins s σ H Q I (k σ H Q q)⟩
theorem DE.toB {m : M D} (h : DE X cl W r e m) : DB X cl W r e m := PE.imp h fun σ H Q ⟨Hk, ρ, f, c, q⟩ => ⟨Hk, ρ, f, c, by
  cases z : m ρ with
  | bad => rw [z] at q; exact q
  | exc x ρ' => rw [z] at q; exact q
  | ok d ρ' =>
    rw [z] at q
    exact fun v g Hk' H' f' c' ap st hr x => q v g Hk' H' f' c' ap st hr ⟨x.1.toB c'.same, x.2⟩⟩
theorem DE.weak {m : M D} (h : DE X cl W r e m) : DE X cl W false e m := PE.imp h fun σ H Q ⟨Hk, ρ, f, c, q⟩ => ⟨Hk, ρ, f, c, by
  cases z : m ρ with
  | bad => rw [z] at q; exact q
  | exc x ρ' => rw [z] at q; exact q
  | ok d ρ' =>
    rw [z] at q
    exact fun v g Hk' H' f' c' ap st hr x => q v g Hk' H' f' c' ap st (fun z => Bool.noConfusion z) x⟩
/-! ### constants, names -/
def mC (d : D) : M D := fun ρ => .ok d ρ
theorem de_int {i j} : DE X cl W true (.Constant (.int i) j pos) (mC (.int i)) := PE.imp pe_int fun σ H Q ⟨Hk, ρ, f, c, q⟩ => EQ.at c q (.refl c.same) ⟨rfl, rfl⟩
theorem de_bl {i j} : DE X cl W true (.Constant (.bool i) j pos) (mC (.bl i)) := PE.imp pe_bl fun σ H Q ⟨Hk, ρ, f, c, q⟩ => EQ.at c q (.refl c.same) ⟨rfl, rfl⟩
theorem de_non {j} : DE X cl W true (.Constant .none j pos) (mC .non) := PE.imp pe_non fun σ H Q ⟨Hk, ρ, f, c, q⟩ => EQ.at c q (.refl c.same) ⟨rfl, rfl⟩
theorem de_str {x j} : DE X cl W true (.Constant (.str x) j pos) (mC (.str x)) := PE.imp pe_str fun σ H Q ⟨Hk, ρ, f, c, q⟩ => EQ.at c q (.refl c.same) ⟨rfl, rfl⟩
/-- a slot that holds data -/
def mV (i : Nat) : M D := fun ρ => match ρ[i]? with
  | some (some (.d x)) => .ok x ρ
  | _ => .bad
/-- .. or an own thing, looked at -/
def mB (i : Nat) : M D := fun ρ => match ρ[i]? with
  | some (some o) => match peek o with
    | some x => .ok x ρ
    | none => .bad
  | _ => .bad
theorem de_var (i : Nat) {x : Str} (hN : X.N[i]? = some x := by rfl) (hv : Vis X.env.scope x := by first | exact Or.inl rfl | exact Or.inr (Or.inl rfl) | exact Or.inr (Or.inr rfl)) (hd : (x == ("__debug__" : Str)) = false := by decide)
    (hcd : (x == ("__classdict__" : Str)) = false := by decide) : DE X cl W true (.Name x pos) (mV i) := PE.imp (pe_var (i := i) hN hv hd hcd) fun σ H Q ⟨Hk, ρ, f, c, q⟩ => by
  unfold mV at q
  split at q
  · rename_i x e
    obtain ⟨v, e2, h⟩ := c.rep i _ e
    exact ⟨v, e2, EQ.at c q (.refl c.same) ⟨h.1, rfl⟩⟩
  · exact q.elim
theorem db_var (i : Nat) {x : Str} (hN : X.N[i]? = some x := by rfl) (hv : Vis X.env.scope x := by first | exact Or.inl rfl | exact Or.inr (Or.inl rfl) | exact Or.inr (Or.inr rfl)) (hd : (x == ("__debug__" : Str)) = false := by decide)
    (hcd : (x == ("__classdict__" : Str)) = false := by decide) : DB X cl W true (.Name x pos) (mB i) := PE.imp (pe_var (i := i) hN hv hd hcd) fun σ H Q ⟨Hk, ρ, f, c, q⟩ => by
  unfold mB at q
  split at q
  · rename_i o e
    obtain ⟨v, e2, h⟩ := c.rep i _ e
    split at q
    · rename_i x e3
      exact ⟨v, e2, EQ.at c q (.refl c.same) ⟨h.peek c.same e3, rfl⟩⟩
    · exact q.elim
  · exact q.elim
/-! ### operators by their local rules -/
def opt1 (g : D → Option D) (x : D) : M D := fun ρ => match g x with
  | some z => .ok z ρ
  | none => .bad
def mOp1 (g : D → Option D) (ma : M D) : M D := fun ρ => (ma ρ).bind fun x ρ1 => opt1 g x ρ1
def mOp2 (g : D → D → Option D) (ma mb : M D) : M D := fun ρ => (ma ρ).bind fun x ρ1 => (mb ρ1).bind fun y ρ2 => opt1 (g x) y ρ2
/-- a one-place rule on values does g on data -/
def Loc1 (K : PySem.W.Frag) (r : V → Hp → VK → Prop) (g : D → Option D) : Prop := ∀ Hk H x d v Q, Same Hk H → RepB K Hk H x v → g x = some d → (∀ b Hk' H', Grow Hk H Hk' H' → RepD K Hk' d b → Q b H') → r v H Q
def Loc2 (K : PySem.W.Frag) (r : R2) (g : D → D → Option D) : Prop := ∀ Hk H x y d v u Q, Same Hk H → RepB K Hk H x v → RepB K Hk H y u → g x y = some d → (∀ b Hk' H', Grow Hk H Hk' H' → RepD K Hk' d b → Q b H') → r v u H Q
/-- the last look: the operands are here -/
theorem EQ.op1 {W : WX} {Hk H : Hp} {ρ : Env} {σ : St} {f : Fs} {g : D → Option D} {x : D} {v : V} {Q : VK} {rr : V → Hp → VK → Prop} {r0 : Bool} (c : Cfg X.K cl Hk H ρ σ f) (l : Loc1 X.K rr g) (hx : RepB X.K Hk H x v)
    (h : EQ X.K cl W (RD X.K) r0 σ Hk H ρ f (opt1 g x ρ) Q) : rr v H Q := by
  unfold opt1 at h
  split at h
  · rename_i z e
    exact l Hk H x z v Q c.same hx e fun b Hk' H' gr rb => EQ.at c h gr ⟨rb, rfl⟩
  · exact h.elim
theorem loc_fix {K : PySem.W.Frag} {r : R2} {g : D → D → Option D} {Hk H : Hp} {x : D} {v : V} (l : Loc2 K r g) (hx : ∀ Hk' H', Grow Hk H Hk' H' → RepB K Hk' H' x v) : ∀ y d u Q, Same Hk H → RepB K Hk H y u → g x y = some d → (∀ b Hk' H', Grow Hk H Hk' H' → RepD K Hk' d b → Q b H') → r v u H Q :=
  fun y d u Q s hy e k => l Hk H x y d v u Q s (hx Hk H (.refl s)) hy e k
theorem EQ.op2 {W : WX} {Hk H : Hp} {ρ : Env} {σ : St} {f : Fs} {g : D → D → Option D} {x y : D} {v u : V} {Q : VK} {rr : R2} {r0 : Bool} (c : Cfg X.K cl Hk H ρ σ f) (l : Loc2 X.K rr g) (hx : RepB X.K Hk H x v) (hy : RepB X.K Hk H y u)
    (h : EQ X.K cl W (RD X.K) r0 σ Hk H ρ f (opt1 (g x) y ρ) Q) : rr v u H Q := by
  unfold opt1 at h
  split at h
  · rename_i z e
    exact l Hk H x y z v u Q c.same hx hy e fun b Hk' H' gr rb => EQ.at c h gr ⟨rb, rfl⟩
  · exact h.elim
theorem eq_true (b : Bool) : (b && true) = b := Bool.and_true b
/-- two operands, as any two-place reading asks them -/
theorem tR.op2 {g : D → D → Option D} {ma mb : M D} {rr : R2} (l : Loc2 X.K rr g) {σ : St} {H : Hp} {Q : VK} (h : tR X.K cl W (RD X.K) (ra && rb) (mOp2 g ma mb) σ H Q) :
    tR X.K cl W (RD X.K) ra ma σ H fun x H1 => tR X.K cl W (RB X.K) rb mb σ H1 fun y H2 => rr x y H2 Q := by
  obtain ⟨Hk, ρ, f, c, q⟩ := h
  have q' : EQ X.K cl W (RD X.K) (ra && (rb && true)) σ Hk H ρ f ((ma ρ).bind fun x ρ1 => (mb ρ1).bind fun y ρ2 => opt1 (g x) y ρ2) Q := by rw [eq_true]; exact q
  refine ⟨Hk, ρ, f, c, (EQ.seq RD.p q').mono fun v H1 ⟨x, Hk1, ρ1, f1, c1, _, _, hx, q1⟩ => ⟨Hk1, ρ1, f1, c1, (EQ.seq RB.p q1).mono fun u H2 ⟨y, Hk2, ρ2, f2, c2, st, _, hy, q2⟩ => ?_⟩⟩
  exact EQ.op2 c2 l (RepD.toB c2.same (RepD.same st.kk x v hx.1)) hy.1 q2
theorem tR.op2' {g : D → D → Option D} {ma mb : M D} {rr : R2} (l : Loc2 X.K rr g) {σ : St} {H : Hp} {Q : VK} (h : tR X.K cl W (RD X.K) ra (mOp2 g ma mb) σ H Q) :
    tR X.K cl W (RB X.K) ra ma σ H fun x H1 => tR X.K cl W (RB X.K) true mb σ H1 fun y H2 => rr x y H2 Q := by
  obtain ⟨Hk, ρ, f, c, q⟩ := h
  have q' : EQ X.K cl W (RD X.K) (ra && (true && true)) σ Hk H ρ f ((ma ρ).bind fun x ρ1 => (mb ρ1).bind fun y ρ2 => opt1 (g x) y ρ2) Q := by rw [eq_true, eq_true]; exact q
  refine ⟨Hk, ρ, f, c, (EQ.seq RB.p q').mono fun v H1 ⟨x, Hk1, ρ1, f1, c1, _, _, hx, q1⟩ => ⟨Hk1, ρ1, f1, c1, (EQ.seq RB.p q1).mono fun u H2 ⟨y, Hk2, ρ2, f2, c2, st, hr, hy, q2⟩ => ?_⟩⟩
  exact EQ.op2 c2 l (RepB.same st.kk (hr rfl).2.2 hx.1) hy.1 q2
theorem tR.op1 {g : D → Option D} {ma : M D} {rr : V → Hp → VK → Prop} (l : Loc1 X.K rr g) {σ : St} {H : Hp} {Q : VK} (h : tR X.K cl W (RD X.K) ra (mOp1 g ma) σ H Q) :
    tR X.K cl W (RB X.K) ra ma σ H fun x H1 => rr x H1 Q := by
  obtain ⟨Hk, ρ, f, c, q⟩ := h
  have q' : EQ X.K cl W (RD X.K) (ra && true) σ Hk H ρ f ((ma ρ).bind fun x ρ1 => opt1 g x ρ1) Q := by rw [eq_true]; exact q
  exact ⟨Hk, ρ, f, c, (EQ.seq RB.p q').mono fun v H1 ⟨x, Hk1, ρ1, f1, c1, _, _, hx, q1⟩ => EQ.op1 c1 l hx.1 q1⟩
theorem de_op2 {op : Operator} {g : D → D → Option D} {ma mb : M D} {rr : R2} (ho : OpR X (binaryOp op) rr) (l : Loc2 X.K rr g) (ha : DE X cl W ra a ma) (hb : DB X cl W rb b mb) : DE X cl W (ra && rb) (.BinOp a op b pos) (mOp2 g ma mb) :=
  PE.imp (pe_op ho ha hb) fun _ _ _ h => tR.op2 l h
theorem de_op2' {op : Operator} {g : D → D → Option D} {ma mb : M D} {rr : R2} (ho : OpR X (binaryOp op) rr) (l : Loc2 X.K rr g) (ha : DB X cl W ra a ma) (hb : DB X cl W true b mb) : DE X cl W ra (.BinOp a op b pos) (mOp2 g ma mb) :=
  PE.imp (pe_op ho ha hb) fun _ _ _ h => tR.op2' l h
theorem de_un {op : UnaryOp} {g : D → Option D} {ma : M D} {rr : V → Hp → VK → Prop} (ho : UnR X (unaryOp op) rr) (l : Loc1 X.K rr g) (ha : DB X cl W ra a ma) : DE X cl W ra (.UnaryOp op a pos) (mOp1 g ma) :=
  PE.imp (pe_un ho ha) fun _ _ _ h => tR.op1 l h
theorem de_cmp {op : CmpOp} {g : D → D → Option D} {ma mb : M D} {rr : R2} (ho : OpR X (compareOp op) rr) (l : Loc2 X.K rr g) (ha : DE X cl W ra a ma) (hb : DB X cl W rb b mb) (hm : behindInMarks op b = false := by first | exact nomark _ | rfl | decide) :
    DE X cl W (ra && rb) (.Compare a [op] [b] pos) (mOp2 g ma mb) := PE.imp (pe_cmpR ho ha hb hm) fun _ _ _ h => tR.op2 l h
theorem de_cmp' {op : CmpOp} {g : D → D → Option D} {ma mb : M D} {rr : R2} (ho : OpR X (compareOp op) rr) (l : Loc2 X.K rr g) (ha : DB X cl W ra a ma) (hb : DB X cl W true b mb) (hm : behindInMarks op b = false := by first | exact nomark _ | rfl | decide) :
    DE X cl W ra (.Compare a [op] [b] pos) (mOp2 g ma mb) := PE.imp (pe_cmpR ho ha hb hm) fun _ _ _ h => tR.op2' l h
end
end DL
set_option Elab.async false
set_option linter.all false
set_option maxRecDepth 100000
/-! EC: operators, comparisons, items, slices on data. -/
namespace DL
open PySem L2 PySem.Spec PyProof.Rows
theorem line16 {n : Nat} (h : n ≤ 16777216) : n ≤ sizeLine := by rw [sizeLine_eq]; exact h
section
variable {K : PySem.W.Frag} {Hk H : Hp}
/-- a new tuple -/
theorem new_tup {Q : VK} {ds : List D} {vs : List V} (s : Same Hk H) (r : RepDs K Hk ds vs) (k : ∀ b Hk' H', Grow Hk H Hk' H' → RepD K Hk' (.tup ds) b → Q b H') : ∀ p, H p = none → Q (.ref p) (upd H p (.tup vs)) := fun p n => by
  have g : Grow Hk H (upd Hk p (.tup vs)) (upd H p (.tup vs)) := Grow.upd s n
  exact k _ _ _ g ⟨p, vs, rfl, SqT.of upd_same, r.same g.kk⟩
theorem new_lst {Q : VK} {ds : List D} {vs : List V} (s : Same Hk H) (r : RepDs K Hk ds vs) (k : ∀ b Hk' H', Grow Hk H Hk' H' → RepD K Hk' (.lst ds) b → Q b H') : ∀ p, H p = none → Q (.ref p) (upd H p (.lst vs)) := fun p n => by
  have g : Grow Hk H (upd Hk p (.lst vs)) (upd H p (.lst vs)) := Grow.upd s n
  exact k _ _ _ g ⟨p, vs, rfl, upd_same, r.same g.kk⟩
theorem RepDs.nil_iff {ds : List D} {vs : List V} (r : RepDs K H ds vs) : vs = [] ↔ ds = [] := by
  have e := r.length
  constructor
  · intro h; subst h; exact List.length_eq_zero_iff.mp (by simpa using e)
  · intro h; subst h; exact List.length_eq_zero_iff.mp (by simpa using e.symm)
/-! ### + - * // % ** -/
def gAdd : D → D → Option D
  | .int i, .int j => some (.int (i + j))
  | .str x, .str y => if x.length + y.length ≤ 16777216 then some (.str (x ++ y)) else none
  | .lst xs, .lst ys => if xs.length + ys.length ≤ 16777216 then some (.lst (xs ++ ys)) else none
  | .tup xs, .tup ys => if xs.length + ys.length ≤ 16777216 then some (.tup (xs ++ ys)) else none
  | _, _ => none
def rAdd4 (K : PySem.W.Frag) : R2 := fun x y H Q => rI0 (fun i j => .int (i + j)) x y H Q ∨ ((∃ i j, x = .str i ∧ y = .str j ∧ i.length + j.length ≤ sizeLine ∧ Q (.str (i ++ j)) H) ∨ (rCat x y H Q ∨ rCatA K x y H Q))
theorem op_add4 {X : Cx} : OpR X (binaryOp .Add) (rAdd4 X.K) := op_add.or (op_add_str.or (op_cat.or op_catA))
theorem loc_add : Loc2 K (rAdd4 K) gAdd := by
  intro Hk H x y d v u Q s hx hy e k
  unfold gAdd at e
  split at e
  · cases e
    exact .inl ⟨_, _, hx, hy, k _ Hk H (.refl s) rfl⟩
  · split at e
    · rename_i h
      cases e
      exact .inr (.inl ⟨_, _, hx, hy, line16 h, k _ Hk H (.refl s) rfl⟩)
    · cases e
  · split at e
    · rename_i h
      cases e
      obtain ⟨p, vs, rfl, hp, r⟩ := hx
      obtain ⟨p', vs', rfl, hp', r'⟩ := hy
      refine .inr (.inr (.inl ⟨p, p', vs, vs', rfl, rfl, hp, hp', line16 (by rw [← r.length, ← r'.length]; exact h), new_lst s (r.app r') k⟩))
    · cases e
  · split at e
    · rename_i h
      cases e
      obtain ⟨p, vs, rfl, hp, r⟩ := hx
      obtain ⟨p', vs', rfl, hp', r'⟩ := hy
      have rr := r.app r'
      refine .inr (.inr (.inr ⟨p, p', vs, vs', rfl, rfl, sqT_same s hp, sqT_same s hp', line16 (by rw [← r.length, ← r'.length]; exact h), fun z => ?_, fun _ z => ?_, fun _ _ => new_tup s rr k⟩))
      · subst z
        exact k _ Hk H (.refl s) ⟨p', vs', rfl, hp', by simpa using rr⟩
      · subst z
        exact k _ Hk H (.refl s) ⟨p, vs, rfl, hp, by simpa using rr⟩
    · cases e
  · cases e
def gSub : D → D → Option D
  | .int i, .int j => some (.int (i - j))
  | _, _ => none
theorem loc_sub : Loc2 K (rI0 fun i j => .int (i - j)) gSub := by
  intro Hk H x y d v u Q s hx hy e k
  unfold gSub at e
  split at e
  · cases e
    exact ⟨_, _, hx, hy, k _ Hk H (.refl s) rfl⟩
  · cases e
/-- whole numbers that aren't too great -/
def inW (i : Int) : Bool := decide (i.natAbs.log2 < 400000)
def gMul : D → D → Option D
  | .int i, .int j => if inW i && inW j then some (.int (i * j)) else none
  | .lst xs, .int k => if 0 ≤ k ∧ k ≤ 16777216 ∧ xs.length * k.toNat ≤ 16777216 then some (.lst (List.replicate k.toNat xs).flatten) else none
  | _, _ => none
def rMul2 : R2 := fun x y H Q => rI CMulW (fun i j => .int (i * j)) x y H Q ∨ rRep x y H Q
theorem op_mul2 {X : Cx} : OpR X (binaryOp .Mult) rMul2 := op_mulW.or op_rep
theorem RepDs.rep {ds : List D} {vs : List V} (r : RepDs K H ds vs) : ∀ k : Nat, RepDs K H (List.replicate k ds).flatten (List.replicate k vs).flatten
  | 0 => rfl
  | k + 1 => by rw [List.replicate_succ, List.replicate_succ, List.flatten_cons, List.flatten_cons]; exact r.app (RepDs.rep r k)
theorem loc_mul : Loc2 K rMul2 gMul := by
  intro Hk H x y d v u Q s hx hy e k
  unfold gMul at e
  split at e
  · split at e
    · rename_i h
      cases e
      rw [Bool.and_eq_true] at h
      have h1 := of_decide_eq_true h.1
      have h2 := of_decide_eq_true h.2
      exact .inl ⟨_, _, hx, hy, by unfold CMulW; omega, k _ Hk H (.refl s) rfl⟩
    · cases e
  · split at e
    · rename_i h
      cases e
      obtain ⟨p, vs, rfl, hp, r⟩ := hx
      obtain ⟨h1, h2, h3⟩ := h
      exact .inr ⟨p, _, vs, rfl, hy, hp, by omega, by omega, line16 (by rw [← r.length]; exact h3), new_lst s (r.rep _) k⟩
    · cases e
  · cases e
def gDiv : D → D → Option D
  | .int i, .int j => if 0 < j ∧ j.natAbs.log2 < 9000 then some (.int (i / j)) else none
  | _, _ => none
theorem loc_div : Loc2 K (rI CDivW fun i j => .int (i / j)) gDiv := by
  intro Hk H x y d v u Q s hx hy e k
  unfold gDiv at e
  split at e
  · split at e
    · rename_i h
      cases e
      exact ⟨_, _, hx, hy, h, k _ Hk H (.refl s) rfl⟩
    · cases e
  · cases e
def gMod : D → D → Option D
  | .int i, .int j => if 0 < j then some (.int (i % j)) else none
  | _, _ => none
theorem loc_mod : Loc2 K (rI (fun _ j => 0 < j) fun i j => .int (i % j)) gMod := by
  intro Hk H x y d v u Q s hx hy e k
  unfold gMod at e
  split at e
  · split at e
    · rename_i h
      cases e
      exact ⟨_, _, hx, hy, h, k _ Hk H (.refl s) rfl⟩
    · cases e
  · cases e
def gPow : D → D → Option D
  | .int i, .int j => if 0 ≤ j ∧ j ≤ 1000 ∧ i.natAbs < 2 ^ 64 then some (.int (i ^ j.toNat)) else none
  | _, _ => none
theorem loc_pow : Loc2 K (rI CPow fun i j => .int (i ^ j.toNat)) gPow := by
  intro Hk H x y d v u Q s hx hy e k
  unfold gPow at e
  split at e
  · split at e
    · rename_i h
      cases e
      exact ⟨_, _, hx, hy, ⟨h.1, by omega, h.2.2⟩, k _ Hk H (.refl s) rfl⟩
    · cases e
  · cases e
def gNeg : D → Option D
  | .int i => some (.int (-i))
  | _ => none
theorem loc_neg : Loc1 K (rU fun i => .int (-i)) gNeg := by
  intro Hk H x d v Q s hx e k
  unfold gNeg at e
  split at e
  · cases e
    exact ⟨_, hx, k _ Hk H (.refl s) rfl⟩
  · cases e
/-! ### < <= > >= -/
def gLt : D → D → Option D
  | .int i, .int j => some (.bl (decide (i < j)))
  | .str x, .str y => some (.bl (decide (x.cps.toList < y.cps.toList)))
  | _, _ => none
def rLt2 : R2 := fun x y H Q => rI0 (fun i j => .bl (decide (i < j))) x y H Q ∨ ∃ i j, x = .str i ∧ y = .str j ∧ Q (.bl (decide (i.cps.toList < j.cps.toList))) H
theorem op_lt2 {X : Cx} : OpR X (compareOp .Lt) rLt2 := op_lt.or op_lt_str
theorem loc_lt : Loc2 K rLt2 gLt := by
  intro Hk H x y d v u Q s hx hy e k
  unfold gLt at e
  split at e
  · cases e
    exact .inl ⟨_, _, hx, hy, k _ Hk H (.refl s) rfl⟩
  · cases e
    exact .inr ⟨_, _, hx, hy, k _ Hk H (.refl s) rfl⟩
  · cases e
def gGt : D → D → Option D
  | .int i, .int j => some (.bl (decide (j < i)))
  | .str x, .str y => some (.bl (decide (y.cps.toList < x.cps.toList)))
  | _, _ => none
def gLe : D → D → Option D
  | .int i, .int j => some (.bl (decide (i ≤ j)))
  | .str x, .str y => some (.bl (!decide (y.cps.toList < x.cps.toList)))
  | _, _ => none
def gGe : D → D → Option D
  | .int i, .int j => some (.bl (decide (j ≤ i)))
  | .str x, .str y => some (.bl (!decide (x.cps.toList < y.cps.toList)))
  | _, _ => none
def rGt2 : R2 := fun x y H Q => rI0 (fun i j => .bl (decide (j < i))) x y H Q ∨ ∃ i j, x = .str i ∧ y = .str j ∧ Q (.bl (decide (j.cps.toList < i.cps.toList))) H
def rLe2 : R2 := fun x y H Q => rI0 (fun i j => .bl (decide (i ≤ j))) x y H Q ∨ ∃ i j, x = .str i ∧ y = .str j ∧ Q (.bl (!decide (j.cps.toList < i.cps.toList))) H
def rGe2 : R2 := fun x y H Q => rI0 (fun i j => .bl (decide (j ≤ i))) x y H Q ∨ ∃ i j, x = .str i ∧ y = .str j ∧ Q (.bl (!decide (i.cps.toList < j.cps.toList))) H
section
variable {X : Cx}
theorem op_gt_str : OpR X (compareOp .Gt) (fun x y H Q => ∃ i j, x = .str i ∧ y = .str j ∧ Q (.bl (decide (j.cps.toList < i.cps.toList))) H) := by
  intro pins s σ H x y v u Q I rx ry h
  obtain ⟨i, j, rfl, rfl, q⟩ := h
  obtain ⟨t, rfl⟩ := rx
  obtain ⟨t', rfl⟩ := ry
  exact P.gt_str (fin_bl I q rfl)
theorem op_le_str : OpR X (compareOp .LtE) (fun x y H Q => ∃ i j, x = .str i ∧ y = .str j ∧ Q (.bl (!decide (j.cps.toList < i.cps.toList))) H) := by
  intro pins s σ H x y v u Q I rx ry h
  obtain ⟨i, j, rfl, rfl, q⟩ := h
  obtain ⟨t, rfl⟩ := rx
  obtain ⟨t', rfl⟩ := ry
  exact P.le_str (fin_bl I q (by simp))
theorem op_ge_str : OpR X (compareOp .GtE) (fun x y H Q => ∃ i j, x = .str i ∧ y = .str j ∧ Q (.bl (!decide (i.cps.toList < j.cps.toList))) H) := by
  intro pins s σ H x y v u Q I rx ry h
  obtain ⟨i, j, rfl, rfl, q⟩ := h
  obtain ⟨t, rfl⟩ := rx
  obtain ⟨t', rfl⟩ := ry
  exact P.ge_str (fin_bl I q (by simp))
theorem op_gt2 : OpR X (compareOp .Gt) rGt2 := op_gt.or op_gt_str
theorem op_le2 : OpR X (compareOp .LtE) rLe2 := op_le.or op_le_str
theorem op_ge2 : OpR X (compareOp .GtE) rGe2 := op_ge.or op_ge_str
end
theorem loc_gt : Loc2 K rGt2 gGt := by
  intro Hk H x y d v u Q s hx hy e k
  unfold gGt at e
  split at e
  · cases e
    exact .inl ⟨_, _, hx, hy, k _ Hk H (.refl s) rfl⟩
  · cases e
    exact .inr ⟨_, _, hx, hy, k _ Hk H (.refl s) rfl⟩
  · cases e
theorem loc_le : Loc2 K rLe2 gLe := by
  intro Hk H x y d v u Q s hx hy e k
  unfold gLe at e
  split at e
  · cases e
    exact .inl ⟨_, _, hx, hy, k _ Hk H (.refl s) rfl⟩
  · cases e
    exact .inr ⟨_, _, hx, hy, k _ Hk H (.refl s) rfl⟩
  · cases e
theorem loc_ge : Loc2 K rGe2 gGe := by
  intro Hk H x y d v u Q s hx hy e k
  unfold gGe at e
  split at e
  · cases e
    exact .inl ⟨_, _, hx, hy, k _ Hk H (.refl s) rfl⟩
  · cases e
    exact .inr ⟨_, _, hx, hy, k _ Hk H (.refl s) rfl⟩
  · cases e
/-! ### == != -/
mutual
def toPy : D → Option PyData
  | .non => some .none
  | .bl b => some (.bool b)
  | .int i => some (.int i)
  | .str x => some (.str x)
  | .tup ds => (toPys ds).map .tuple
  | .lst ds => (toPys ds).map .list
  | _ => none
def toPys : List D → Option (List PyData)
  | [] => some []
  | d :: ds => match toPy d, toPys ds with
    | some x, some xs => some (x :: xs)
    | _, _ => none
end
mutual
theorem toPy_dp (s : Same Hk H) : ∀ (d : D) (v : V) (x : PyData), RepD K Hk d v → toPy d = some x → Dp K H v x
  | .any, _, _, _, e => by cases e
  | .opq _, _, _, _, e => by cases e
  | .scr _, _, _, _, e => by cases e
  | .dk _ _, _, _, _, e => by cases e
  | .dt _ _, _, _, _, e => by cases e
  | .non, v, x, h, e => by cases e; rw [show v = .non from h]; exact .non
  | .bl b, v, x, h, e => by cases e; rw [show v = .bl b from h]; exact .bl b
  | .int i, v, x, h, e => by cases e; rw [show v = .int i from h]; exact .int i
  | .str y, v, x, h, e => by cases e; rw [show v = .str y from h]; exact .str y
  | .tup ds, v, x, h, e => by
    obtain ⟨p, vs, rfl, q, r⟩ := h
    have e : (toPys ds).map PyData.tuple = some x := e
    cases z : toPys ds with
    | none => rw [z] at e; cases e
    | some xs =>
      rw [z] at e
      have e : some (PyData.tuple xs) = some x := e
      cases e
      exact .tup (sqT_same s q) (toPys_dp s ds vs xs r z)
  | .lst ds, v, x, h, e => by
    obtain ⟨p, vs, rfl, q, r⟩ := h
    have e : (toPys ds).map PyData.list = some x := e
    cases z : toPys ds with
    | none => rw [z] at e; cases e
    | some xs =>
      rw [z] at e
      have e : some (PyData.list xs) = some x := e
      cases e
      exact .lst (SqL.of (s _ _ q)) (toPys_dp s ds vs xs r z)
theorem toPys_dp (s : Same Hk H) : ∀ (ds : List D) (vs : List V) (xs : List PyData), RepDs K Hk ds vs → toPys ds = some xs → DpAll K H vs xs
  | [], vs, xs, h, e => by cases e; cases h; exact .nil
  | d :: ds, vs, xs, h, e => by
    obtain ⟨v, r, rfl, h1, h2⟩ := h
    unfold toPys at e
    split at e
    · rename_i y ys e1 e2
      cases e
      exact .cons (toPy_dp s d v y h1 e1) (toPys_dp s ds r ys h2 e2)
    · cases e
end
theorem toPy_dpB (s : Same Hk H) {d : D} {v : V} {x : PyData} (h : RepB K Hk H d v) (e : toPy d = some x) : Dp K H v x := by
  cases d with
  | lst ds =>
    obtain ⟨p, vs, rfl, q, r⟩ := h
    have e : (toPys ds).map PyData.list = some x := e
    cases z : toPys ds with
    | none => rw [z] at e; cases e
    | some xs =>
      rw [z] at e
      have e : some (PyData.list xs) = some x := e
      cases e
      exact .lst (SqL.of q) (toPys_dp s ds vs xs r z)
  | dk _ _ => cases e
  | dt _ _ => cases e
  | any => cases e
  | opq _ => cases e
  | scr _ => cases e
  | non => exact toPy_dp s .non v x h e
  | bl b => exact toPy_dp s (.bl b) v x h e
  | int i => exact toPy_dp s (.int i) v x h e
  | str y => exact toPy_dp s (.str y) v x h e
  | tup ds => exact toPy_dp s (.tup ds) v x h e
/-- whether two data are the same, where that is known -/
def eqD (x y : D) : Option Bool := match toPy x, toPy y with
  | some a, some b => if SeqAt.shaped a && SeqAt.shaped b then some (PyData.eqv a b) else none
  | _, _ => none
def gEq (x y : D) : Option D := (eqD x y).map .bl
def gNe (x y : D) : Option D := (eqD x y).map fun b => .bl (!b)
theorem eqD_some {x y : D} {b : Bool} (h : eqD x y = some b) : ∃ a c, toPy x = some a ∧ toPy y = some c ∧ SeqAt.shaped a = true ∧ SeqAt.shaped c = true ∧ PyData.eqv a c = b := by
  unfold eqD at h
  split at h
  · rename_i a c e1 e2
    split at h
    · rename_i hs
      cases h
      rw [Bool.and_eq_true] at hs
      exact ⟨a, c, e1, e2, hs.1, hs.2, rfl⟩
    · cases h
  · cases h
theorem loc_eq : Loc2 K (rEqD K) gEq := by
  intro Hk H x y d v u Q s hx hy e k
  unfold gEq at e
  cases z : eqD x y with
  | none => rw [z] at e; cases e
  | some b =>
    rw [z] at e
    have e : some (D.bl b) = some d := e
    cases e
    obtain ⟨a, c, e1, e2, s1, s2, e3⟩ := eqD_some z
    exact ⟨a, c, toPy_dpB s hx e1, toPy_dpB s hy e2, s1, s2, k _ Hk H (.refl s) (by rw [e3]; rfl)⟩
theorem loc_ne : Loc2 K (rNeD K) gNe := by
  intro Hk H x y d v u Q s hx hy e k
  unfold gNe at e
  cases z : eqD x y with
  | none => rw [z] at e; cases e
  | some b =>
    rw [z] at e
    have e : some (D.bl (!b)) = some d := e
    cases e
    obtain ⟨a, c, e1, e2, s1, s2, e3⟩ := eqD_some z
    exact ⟨a, c, toPy_dpB s hx e1, toPy_dpB s hy e2, s1, s2, k _ Hk H (.refl s) (by rw [e3]; rfl)⟩
/-- is None, is not None -/
def isNon : D → Option Bool
  | .non => some true
  | .bl _ => some false
  | .int _ => some false
  | .str _ => some false
  | .tup _ => some false
  | .lst _ => some false
  | .dk _ _ => some false
  | .dt _ _ => some false
  | .scr _ => some false
  | _ => none
theorem isNon_of {d : D} {v : V} {b : Bool} (h : RepB K Hk H d v) (e : isNon d = some b) : decide (v = .non) = b := by
  cases d with
  | non => cases e; rw [show v = .non from h]; rfl
  | bl _ => cases e; rw [show v = .bl _ from h]; rfl
  | int _ => cases e; rw [show v = .int _ from h]; rfl
  | str _ => cases e; rw [show v = .str _ from h]; rfl
  | tup _ => cases e; obtain ⟨p, _, rfl, _⟩ := h; rfl
  | lst _ => cases e; obtain ⟨p, _, rfl, _⟩ := h; rfl
  | dk _ _ => cases e; obtain ⟨p, _, rfl, _⟩ := h; rfl
  | dt _ _ => cases e; obtain ⟨p, _, rfl, _⟩ := h; rfl
  | scr _ => cases e; obtain ⟨p, rfl, _⟩ := h; rfl
  | any => cases e
  | opq _ => cases e
def gIs (x y : D) : Option D := match y with
  | .non => (isNon x).map .bl
  | _ => none
def gIsNot (x y : D) : Option D := match y with
  | .non => (isNon x).map fun b => .bl (!b)
  | _ => none
theorem loc_is : Loc2 K (fun x y H Q => y = .non ∧ Q (.bl (decide (x = .non))) H) gIs := by
  intro Hk H x y d v u Q s hx hy e k
  unfold gIs at e
  split at e
  · cases z : isNon x with
    | none => rw [z] at e; cases e
    | some b =>
      rw [z] at e
      have e : some (D.bl b) = some d := e
      cases e
      exact ⟨hy, k _ Hk H (.refl s) (by rw [isNon_of hx z]; rfl)⟩
  · cases e
theorem loc_isnot : Loc2 K (fun x y H Q => y = .non ∧ Q (.bl (!decide (x = .non))) H) gIsNot := by
  intro Hk H x y d v u Q s hx hy e k
  unfold gIsNot at e
  split at e
  · cases z : isNon x with
    | none => rw [z] at e; cases e
    | some b =>
      rw [z] at e
      have e : some (D.bl (!b)) = some d := e
      cases e
      exact ⟨hy, k _ Hk H (.refl s) (by rw [isNon_of hx z]; rfl)⟩
  · cases e
/-! ### in, not in: a text in a text, a flat thing in a list or tuple of flat things -/
def flatD : D → Option V
  | .non => some .non
  | .bl b => some (.bl b)
  | .int i => some (.int i)
  | .str x => some (.str x)
  | _ => none
theorem flatD_of {d : D} {v w : V} (h : RepB K Hk H d v) (e : flatD d = some w) : v = w ∧ flatV w = true := by
  cases d <;> first
    | (cases e; exact ⟨h, rfl⟩)
    | cases e
def flatDs : List D → Option (List V)
  | [] => some []
  | d :: ds => match flatD d, flatDs ds with
    | some x, some xs => some (x :: xs)
    | _, _ => none
theorem flatDs_of : ∀ {ds : List D} {vs ws : List V}, RepDs K Hk ds vs → flatDs ds = some ws → vs = ws ∧ ws.all flatV = true
  | [], vs, ws, h, e => by cases e; cases h; exact ⟨rfl, rfl⟩
  | d :: ds, vs, ws, h, e => by
    obtain ⟨v, r, rfl, h1, h2⟩ := h
    unfold flatDs at e
    split at e
    · rename_i y ys e1 e2
      cases e
      obtain ⟨a1, a2⟩ := flatD_of (H := Hk) (h1.toB (.refl _)) e1
      obtain ⟨b1, b2⟩ := flatDs_of h2 e2
      subst a1 b1
      exact ⟨rfl, by rw [List.all_cons, a2, b2]; rfl⟩
    · cases e
def inD (x y : D) : Option Bool := match y with
  | .str b => match x with
    | .str a => some (!(Builtin.Str.occurrences b a 0 b.length 1).isEmpty)
    | _ => none
  | .tup ds => match flatD x, flatDs ds with
    | some a, some bs => some (inV a bs)
    | _, _ => none
  | .lst ds => match flatD x, flatDs ds with
    | some a, some bs => some (inV a bs)
    | _, _ => none
  | _ => none
def gIn (x y : D) : Option D := (inD x y).map .bl
def gNotIn (x y : D) : Option D := (inD x y).map fun b => .bl (!b)
def rIn2 (K : PySem.W.Frag) : R2 := fun x y H Q => (∃ i j, x = .str i ∧ y = .str j ∧ Q (.bl (!(Builtin.Str.occurrences j i 0 j.length 1).isEmpty)) H) ∨ rIn K false x y H Q
def rNotIn2 (K : PySem.W.Frag) : R2 := fun x y H Q => (∃ i j, x = .str i ∧ y = .str j ∧ Q (.bl (!(!(Builtin.Str.occurrences j i 0 j.length 1).isEmpty))) H) ∨ rIn K true x y H Q
theorem op_in2 {X : Cx} : OpR X (compareOp .In) (rIn2 X.K) := op_in_str.or op_in_seq
theorem op_notIn2 {X : Cx} : OpR X (compareOp .NotIn) (rNotIn2 X.K) := op_notin_str.or op_notIn_seq
theorem inD_some {x y : D} {v u : V} {b : Bool} (s : Same Hk H) (hx : RepB K Hk H x v) (hy : RepB K Hk H y u) (h : inD x y = some b) :
    (∃ i j, v = .str i ∧ u = .str j ∧ b = !(Builtin.Str.occurrences j i 0 j.length 1).isEmpty) ∨ ∃ p xs, u = .ref p ∧ (SqL K H p xs ∨ SqT K H p xs) ∧ flatV v = true ∧ xs.all flatV = true ∧ b = inV v xs := by
  unfold inD at h
  split at h
  · split at h
    · cases h
      exact .inl ⟨_, _, hx, hy, rfl⟩
    · cases h
  · split at h
    · rename_i ds a bs e1 e2
      cases h
      obtain ⟨p, vs, rfl, q, r⟩ := hy
      obtain ⟨a1, a2⟩ := flatD_of hx e1
      obtain ⟨b1, b2⟩ := flatDs_of r e2
      subst a1 b1
      exact .inr ⟨p, _, rfl, .inr (sqT_same s q), a2, b2, rfl⟩
    · cases h
  · split at h
    · rename_i ds a bs e1 e2
      cases h
      obtain ⟨p, vs, rfl, q, r⟩ := hy
      obtain ⟨a1, a2⟩ := flatD_of hx e1
      obtain ⟨b1, b2⟩ := flatDs_of r e2
      subst a1 b1
      exact .inr ⟨p, _, rfl, .inl (SqL.of q), a2, b2, rfl⟩
    · cases h
  · cases h
theorem loc_in : Loc2 K (rIn2 K) gIn := by
  intro Hk H x y d v u Q s hx hy e k
  unfold gIn at e
  cases z : inD x y with
  | none => rw [z] at e; cases e
  | some b =>
    rw [z] at e
    have e : some (D.bl b) = some d := e
    cases e
    rcases inD_some s hx hy z with ⟨i, j, e1, e2, e3⟩ | ⟨p, xs, e1, e2, e3, e4, e5⟩
    · exact .inl ⟨i, j, e1, e2, k _ Hk H (.refl s) (by rw [e3]; rfl)⟩
    · exact .inr ⟨p, xs, e1, e2, e3, e4, k _ Hk H (.refl s) (by rw [e5]; rfl)⟩
theorem loc_notin : Loc2 K (rNotIn2 K) gNotIn := by
  intro Hk H x y d v u Q s hx hy e k
  unfold gNotIn at e
  cases z : inD x y with
  | none => rw [z] at e; cases e
  | some b =>
    rw [z] at e
    have e : some (D.bl (!b)) = some d := e
    cases e
    rcases inD_some s hx hy z with ⟨i, j, e1, e2, e3⟩ | ⟨p, xs, e1, e2, e3, e4, e5⟩
    · exact .inl ⟨i, j, e1, e2, k _ Hk H (.refl s) (by rw [e3]; rfl)⟩
    · exact .inr ⟨p, xs, e1, e2, e3, e4, k _ Hk H (.refl s) (by rw [e5]; rfl)⟩
/-! ### items -/
def gIx : D → D → Option D
  | .lst ds, .int i => atI ds i
  | .tup ds, .int i => atI ds i
  | .str x, .int i => if x.length ≤ 16777216 then (atI x.cps.toList i).map fun c => .str ⟨#[c]⟩ else none
  | .scr ns, .int i => (atI ns i).map .int
  | _, _ => none
theorem RepDs.at {ds : List D} {vs : List V} {i : Int} {d : D} (r : RepDs K H ds vs) (h : atI ds i = some d) : ∃ v, atI vs i = some v ∧ RepD K H d v := by
  unfold atI at h ⊢
  rw [← r.length]
  cases z : ixN ds.length i with
  | none => rw [z] at h; cases h
  | some j =>
    rw [z] at h
    exact r.get (i := j) h
theorem loc_ix : Loc2 K (rIx K) gIx := by
  intro Hk H x y d v u Q s hx hy e k
  unfold gIx at e
  split at e
  · obtain ⟨p, vs, rfl, q, r⟩ := hx
    obtain ⟨w, a, b⟩ := r.at e
    exact .inl ⟨p, vs, _, w, rfl, hy, SqL.of q, a, k _ Hk H (.refl s) b⟩
  · obtain ⟨p, vs, rfl, q, r⟩ := hx
    obtain ⟨w, a, b⟩ := r.at e
    exact .inr (.inl ⟨p, vs, _, w, rfl, hy, sqT_same s q, a, k _ Hk H (.refl s) b⟩)
  · rename_i x i
    split at e
    · rename_i hl
      cases z : atI x.cps.toList i with
      | none => rw [z] at e; cases e
      | some c =>
        rw [z] at e
        have e : some (D.str ⟨#[c]⟩) = some d := e
        cases e
        exact .inr (.inr ⟨x, i, c, hx, hy, line16 hl, z, k _ Hk H (.refl s) rfl⟩)
    · cases e
  · rename_i ns i
    obtain ⟨p, rfl, q⟩ := hx
    cases z : atI ns i with
    | none => rw [z] at e; cases e
    | some c =>
      rw [z] at e
      have e : some (D.int c) = some d := e
      cases e
      have a : atI (ns.map V.int) i = some (V.int c) := by
        unfold atI at z ⊢
        rw [List.length_map]
        cases z2 : ixN ns.length i with
        | none => rw [z2] at z; cases z
        | some j =>
          rw [z2] at z
          have z : ns[j]? = some c := z
          show (ns.map V.int)[j]? = _
          rw [List.getElem?_map, z]; rfl
      exact .inl ⟨p, _, i, _, rfl, hy, sqL_same s q, a, k _ Hk H (.refl s) rfl⟩
  · cases e
section
variable {X : Cx} {cl : Wld} {W : WX} {ra rb : Bool} {a b : Expr} {pos : Pos}
theorem de_ix {ma mb : M D} (ha : DE X cl W ra a ma) (hb : DB X cl W rb b mb) (hs : PlainIx b := by exact fun _ _ => rfl) : DE X cl W (ra && rb) (.Subscript a b pos) (mOp2 gIx ma mb) :=
  PE.imp (pe_ix ix_seq ha hb hs) fun _ _ _ h => tR.op2 loc_ix h
theorem de_ix' {ma mb : M D} (ha : DB X cl W ra a ma) (hb : DB X cl W true b mb) (hs : PlainIx b := by exact fun _ _ => rfl) : DE X cl W ra (.Subscript a b pos) (mOp2 gIx ma mb) :=
  PE.imp (pe_ix ix_seq ha hb hs) fun _ _ _ h => tR.op2' loc_ix h
end
end
end DL
set_option Elab.async false
set_option linter.all false
set_option maxRecDepth 100000
/-! ED: tests, argument lists, displays, slices, built-ins and methods of texts on data. -/
namespace DL
open PySem L2 PySem.Spec PyProof.Rows
/-! ### truth -/
def truD : D → Option Bool
  | .non => some false
  | .bl b => some b
  | .int i => some (i != 0)
  | .str y => if y.length ≤ 16777216 then some ((y.length : Int) != 0) else none
  | .lst xs => some (!xs.isEmpty)
  | .tup xs => some (!xs.isEmpty)
  | _ => none
section
variable {K : PySem.W.Frag} {Hk H : Hp}
theorem isEmpty_len {α β : Type} {xs : List α} {ys : List β} (h : xs.length = ys.length) : xs.isEmpty = ys.isEmpty := by
  cases xs <;> cases ys <;> first | rfl | simp at h
theorem truD_of (s : Same Hk H) {d : D} {v : V} {b : Bool} (h : RepB K Hk H d v) (e : truD d = some b) : TruV K v H b := by
  cases d with
  | non => cases e; rw [show v = .non from h]; rfl
  | bl _ => cases e; rw [show v = .bl _ from h]; rfl
  | int _ => cases e; rw [show v = .int _ from h]; rfl
  | str y =>
    rw [show v = .str y from h]
    have e : (if y.length ≤ 16777216 then some ((y.length : Int) != 0) else none) = some b := e
    split at e
    · rename_i hl
      cases e
      exact ⟨line16 hl, rfl⟩
    · cases e
  | lst xs => cases e; obtain ⟨p, vs, rfl, q, r⟩ := h; exact .inl ⟨vs, SqL.of q, by rw [isEmpty_len r.length]⟩
  | tup xs => cases e; obtain ⟨p, vs, rfl, q, r⟩ := h; exact .inr (.inl ⟨vs, sqT_same s q, by rw [isEmpty_len r.length]⟩)
  | dk _ _ => cases e
  | dt _ _ => cases e
  | scr _ => cases e
  | any => cases e
  | opq _ => cases e
end
def optT (g : D → Option Bool) (x : D) : M Bool := fun ρ => match g x with
  | some b => .ok b ρ
  | none => .bad
def mTru (ma : M D) : M Bool := fun ρ => (ma ρ).bind fun x ρ1 => optT truD x ρ1
def mAnd (ma mb : M Bool) : M Bool := fun ρ => (ma ρ).bind fun c ρ1 => if c = true then mb ρ1 else .ok false ρ1
def mOr (ma mb : M Bool) : M Bool := fun ρ => (ma ρ).bind fun c ρ1 => if c = true then .ok true ρ1 else mb ρ1
def mNot (ma : M Bool) : M Bool := fun ρ => (ma ρ).bind fun c ρ1 => .ok (!c) ρ1
def mIf {α : Type} (mc : M Bool) (ma mb : M α) : M α := fun ρ => (mc ρ).bind fun c ρ1 => if c = true then ma ρ1 else mb ρ1
/-- x and y, x or y as values -/
def mAndV (ma mb : M D) : M D := fun ρ => (ma ρ).bind fun x ρ1 => match truD x with
  | some true => mb ρ1
  | some false => .ok x ρ1
  | none => .bad
def mOrV (ma mb : M D) : M D := fun ρ => (ma ρ).bind fun x ρ1 => match truD x with
  | some true => .ok x ρ1
  | some false => mb ρ1
  | none => .bad
def gNotV (x : D) : Option D := (truD x).map fun b => .bl (!b)
section
variable {X : Cx} {cl : Wld} {W : WX} {r ra rb rc : Bool} {e a b c : Expr} {rest : List Expr} {pos : Pos}
theorem EQ.ret {α β : Type} {R : Rl α β} {r : Bool} {x : α} {y : β} {Q : β → Hp → Prop} {K : PySem.W.Frag} {Hk H : Hp} {ρ : Env} {σ : St} {f : Fs} (c : Cfg K cl Hk H ρ σ f) (h : EQ K cl W R r σ Hk H ρ f (.ok x ρ) Q) (k : R Hk H x y []) : Q y H := EQ.at c h (.refl c.same) k
theorem RT.refl {Hk H : Hp} {b : Bool} : RT Hk H b b [] := ⟨rfl, rfl⟩
theorem and_fix (r : Bool) {p : Bool → Prop} (h : p r) : p (r && true) := by rw [Bool.and_true]; exact h
theorem dt_tru {ma : M D} (ha : DB X cl W r e ma) (he : ∀ whole, isTrue e X.env whole = (do let v ← whole; standAt e.pos; holding [v] (truthy v)) := by intro _; rfl) : DT X cl W r e (mTru ma) := by
  refine PT.imp (pt_truth ha he) fun σ H Q ⟨Hk, ρ, f, c, q⟩ => ?_
  have q' : EQ X.K cl W RT (r && true) σ Hk H ρ f ((ma ρ).bind fun x ρ1 => optT truD x ρ1) Q := by rw [eq_true]; exact q
  refine ⟨Hk, ρ, f, c, (EQ.seq RB.p q').mono fun v H1 ⟨x, Hk1, ρ1, f1, c1, _, _, hx, q1⟩ => ?_⟩
  unfold optT at q1
  split at q1
  · rename_i b e
    exact ⟨b, truD_of c1.same hx.1 e, EQ.ret c1 q1 RT.refl⟩
  · exact q1.elim
def unB : D → Option Bool
  | .bl b => some b
  | _ => none
/-- a reading that gives a bool, as a test -/
theorem tR.test {m : M D} {g : TE} {σ : St} {H : Hp} {Q : Bool → Hp → Prop} (h : tR X.K cl W RT r (fun ρ => (m ρ).bind fun x ρ1 => optT unB x ρ1) σ H Q) :
    tR X.K cl W (RD X.K) r m σ H fun x H' => ∃ k, x = .bl k ∧ Q k H' := by
  obtain ⟨Hk, ρ, f, c, q⟩ := h
  have q' : EQ X.K cl W RT (r && true) σ Hk H ρ f ((m ρ).bind fun x ρ1 => optT unB x ρ1) Q := by rw [eq_true]; exact q
  refine ⟨Hk, ρ, f, c, (EQ.seq RD.p q').mono fun v H1 ⟨x, Hk1, ρ1, f1, c1, _, _, hx, q1⟩ => ?_⟩
  unfold optT at q1
  split at q1
  · rename_i b e
    cases x <;> first
      | (cases e; exact ⟨b, hx.1, EQ.ret c1 q1 RT.refl⟩)
      | cases e
  · exact q1.elim
def mT (m : M D) : M Bool := fun ρ => (m ρ).bind fun x ρ1 => optT unB x ρ1
theorem dt_cmp {op : CmpOp} {g : D → D → Option D} {ma mb : M D} {rr : R2} (ho : OpR X (compareOp op) rr) (l : Loc2 X.K rr g) (ha : DE X cl W ra a ma) (hb : DB X cl W rb b mb) (hm : behindInMarks op b = false := by first | exact nomark _ | rfl | decide) :
    DT X cl W (ra && rb) (.Compare a [op] [b] pos) (mT (mOp2 g ma mb)) := PT.imp (pt_cmpR ho ha hb hm) fun _ _ _ h => tR.op2 l (tR.test (g := tC .non) h)
theorem dt_cmp' {op : CmpOp} {g : D → D → Option D} {ma mb : M D} {rr : R2} (ho : OpR X (compareOp op) rr) (l : Loc2 X.K rr g) (ha : DB X cl W ra a ma) (hb : DB X cl W true b mb) (hm : behindInMarks op b = false := by first | exact nomark _ | rfl | decide) :
    DT X cl W ra (.Compare a [op] [b] pos) (mT (mOp2 g ma mb)) := PT.imp (pt_cmpR ho ha hb hm) fun _ _ _ h => tR.op2' l (tR.test (g := tC .non) h)
theorem EQ.ite {α β : Type} {R : Rl α β} {K : PySem.W.Frag} {Hk H : Hp} {ρ : Env} {σ : St} {f : Fs} {x y : Res α} {Q : β → Hp → Prop} {c : Bool} (h : EQ K cl W R r σ Hk H ρ f (if c = true then x else y) Q) : if c = true then EQ K cl W R r σ Hk H ρ f x Q else EQ K cl W R r σ Hk H ρ f y Q := by
  cases c <;> exact h
theorem dw_and1 {m : M Bool} (h : DT X cl W r a m) : DW X cl W r (.BoolOp .And [a] pos) m := pw_and1 h
theorem dw_or1 {m : M Bool} (h : DT X cl W r a m) : DW X cl W r (.BoolOp .Or [a] pos) m := pw_or1 h
theorem dw_and {ma mb : M Bool} (ha : DT X cl W ra a ma) (hb : DW X cl W rb (.BoolOp .And (b :: rest) pos) mb) : DW X cl W (ra && rb) (.BoolOp .And (a :: b :: rest) pos) (mAnd ma mb) :=
  PW.imp (pw_and ha hb) fun σ H Q ⟨Hk, ρ, f, c, q⟩ => ⟨Hk, ρ, f, c, (EQ.seq RT.p q).mono fun v H1 ⟨x, Hk1, ρ1, f1, c1, _, _, hx, q1⟩ => by
    obtain ⟨rfl, _⟩ := hx
    cases x with
    | true => exact iteT ⟨Hk1, ρ1, f1, c1, q1⟩
    | false => exact iteF (EQ.ret c1 q1 RT.refl)⟩
theorem dw_or {ma mb : M Bool} (ha : DT X cl W ra a ma) (hb : DW X cl W rb (.BoolOp .Or (b :: rest) pos) mb) : DW X cl W (ra && rb) (.BoolOp .Or (a :: b :: rest) pos) (mOr ma mb) :=
  PW.imp (pw_or ha hb) fun σ H Q ⟨Hk, ρ, f, c, q⟩ => ⟨Hk, ρ, f, c, (EQ.seq RT.p q).mono fun v H1 ⟨x, Hk1, ρ1, f1, c1, _, _, hx, q1⟩ => by
    obtain ⟨rfl, _⟩ := hx
    cases x with
    | true => exact iteT (EQ.ret c1 q1 RT.refl)
    | false => exact iteF ⟨Hk1, ρ1, f1, c1, q1⟩⟩
theorem dt_w {m : M Bool} (h : DW X cl W r a m) : DT X cl W r a m := h.pt
theorem dt_not {m : M Bool} (h : DT X cl W r a m) : DT X cl W r (.UnaryOp .Not a pos) (mNot m) := by
  refine PT.imp (pt_not h) fun σ H Q ⟨Hk, ρ, f, c, q⟩ => ?_
  have q' : EQ X.K cl W RT (r && true) σ Hk H ρ f ((m ρ).bind fun x ρ1 => .ok (!x) ρ1) Q := by rw [eq_true]; exact q
  exact ⟨Hk, ρ, f, c, (EQ.seq RT.p q').mono fun v H1 ⟨x, Hk1, ρ1, f1, c1, _, _, hx, q1⟩ => by
    obtain ⟨rfl, _⟩ := hx
    exact EQ.ret c1 q1 RT.refl⟩
theorem EQ.false {α β : Type} {R : Rl α β} {K : PySem.W.Frag} {Hk H : Hp} {ρ : Env} {σ : St} {f : Fs} {x : Res α} {Q : β → Hp → Prop} {r : Bool} (h : EQ K cl W R false σ Hk H ρ f x Q) : EQ K cl W R r σ Hk H ρ f x Q → EQ K cl W R r σ Hk H ρ f x Q := id
/-- a if t else b -/
theorem de_if {mc : M Bool} {ma mb : M D} (hc : DT X cl W rc c mc) (ha : DE X cl W ra a ma) (hb : DE X cl W rb b mb) : DE X cl W (rc && (ra && rb)) (.IfExp c a b pos) (mIf mc ma mb) :=
  PE.imp (pe_ifExp hc ha hb) fun σ H Q ⟨Hk, ρ, f, c, q⟩ => ⟨Hk, ρ, f, c, (EQ.seq RT.p q).mono fun v H1 ⟨x, Hk1, ρ1, f1, c1, _, _, hx, q1⟩ => by
    obtain ⟨rfl, _⟩ := hx
    cases x with
    | true =>
      refine iteT ⟨Hk1, ρ1, f1, c1, ?_⟩
      have q1 : EQ X.K cl W (RD X.K) (ra && rb) σ Hk1 H1 ρ1 f1 (ma ρ1) Q := q1
      cases z : ma ρ1 with
      | bad => rw [z] at q1; exact q1
      | exc _ _ => rw [z] at q1; exact q1
      | ok d ρ2 =>
        rw [z] at q1
        exact fun b g Hk' H' f' c' ap st hr x => q1 b g Hk' H' f' c' ap st (fun e => hr (by rw [Bool.and_eq_true] at e; exact e.1)) x
    | false =>
      refine iteF ⟨Hk1, ρ1, f1, c1, ?_⟩
      have q1 : EQ X.K cl W (RD X.K) (ra && rb) σ Hk1 H1 ρ1 f1 (mb ρ1) Q := q1
      cases z : mb ρ1 with
      | bad => rw [z] at q1; exact q1
      | exc _ _ => rw [z] at q1; exact q1
      | ok d ρ2 =>
        rw [z] at q1
        exact fun b g Hk' H' f' c' ap st hr x => q1 b g Hk' H' f' c' ap st (fun e => hr (by rw [Bool.and_eq_true] at e; exact e.2)) x⟩
theorem de_one {op} {m : M D} (h : DE X cl W r a m) : DE X cl W r (.BoolOp op [a] pos) m := pe_one h
theorem de_and {ma mb : M D} (ha : DE X cl W ra a ma) (hb : DE X cl W rb (.BoolOp .And (b :: rest) pos) mb) : DE X cl W (ra && rb) (.BoolOp .And (a :: b :: rest) pos) (mAndV ma mb) :=
  PE.imp (pe_andT ha hb) fun σ H Q ⟨Hk, ρ, f, c, q⟩ => ⟨Hk, ρ, f, c, (EQ.seq RD.p q).mono fun v H1 ⟨x, Hk1, ρ1, f1, c1, _, _, hx, q1⟩ => by
    cases z : truD x with
    | none => rw [z] at q1; exact q1.elim
    | some k =>
      rw [z] at q1
      refine ⟨k, truD_of c1.same (hx.1.toB c1.same) z, ?_⟩
      cases k with
      | true => exact iteT ⟨Hk1, ρ1, f1, c1, q1⟩
      | false => exact iteF (EQ.ret c1 q1 hx)⟩
theorem de_or {ma mb : M D} (ha : DE X cl W ra a ma) (hb : DE X cl W rb (.BoolOp .Or (b :: rest) pos) mb) : DE X cl W (ra && rb) (.BoolOp .Or (a :: b :: rest) pos) (mOrV ma mb) :=
  PE.imp (pe_orT ha hb) fun σ H Q ⟨Hk, ρ, f, c, q⟩ => ⟨Hk, ρ, f, c, (EQ.seq RD.p q).mono fun v H1 ⟨x, Hk1, ρ1, f1, c1, _, _, hx, q1⟩ => by
    cases z : truD x with
    | none => rw [z] at q1; exact q1.elim
    | some k =>
      rw [z] at q1
      refine ⟨k, truD_of c1.same (hx.1.toB c1.same) z, ?_⟩
      cases k with
      | true => exact iteT (EQ.ret c1 q1 hx)
      | false => exact iteF ⟨Hk1, ρ1, f1, c1, q1⟩⟩
theorem de_not {ma : M D} (ha : DB X cl W r a ma) : DE X cl W r (.UnaryOp .Not a pos) (mOp1 gNotV ma) :=
  PE.imp (pe_notT ha) fun σ H Q h => tR.op1 (rr := fun x H Q => ∃ k, TruV X.K x H k ∧ Q (.bl (!k)) H) (fun Hk H x d v Q s hx e k => by
    unfold gNotV at e
    cases z : truD x with
    | none => rw [z] at e; cases e
    | some b =>
      rw [z] at e
      have e : some (D.bl (!b)) = some d := e
      cases e
      exact ⟨b, truD_of s hx z, k _ Hk H (.refl s) rfl⟩) h
/-- a o b o' c -/
def mChain (g g' : D → D → Option D) (ma mb mc : M D) : M D := fun ρ => (ma ρ).bind fun x ρ1 => (mb ρ1).bind fun y ρ2 => match g x y with
  | some (.bl true) => (mc ρ2).bind fun z ρ3 => opt1 (g' y) z ρ3
  | some (.bl false) => .ok (.bl false) ρ2
  | _ => .bad
/-- a comparison's rule that gives a bool at once -/
def LocB (K : PySem.W.Frag) (r : R2) (g : D → D → Option D) : Prop := ∀ Hk H x y b v u Q, Same Hk H → RepB K Hk H x v → RepB K Hk H y u → g x y = some (.bl b) → Q (.bl b) H → r v u H Q
theorem tR.chain {g g' : D → D → Option D} {ma mb mc : M D} {r1 r2 : R2} (l : LocB X.K r1 g) (l' : Loc2 X.K r2 g') {σ : St} {H : Hp} {Q : VK} (h : tR X.K cl W (RD X.K) (ra && (rb && rc)) (mChain g g' ma mb mc) σ H Q) :
    tR X.K cl W (RD X.K) ra ma σ H fun x H1 => tR X.K cl W (RD X.K) rb mb σ H1 fun y H2 => r1 x y H2 fun z H3 => ∃ k, z = .bl k ∧ (if k = true then tR X.K cl W (RB X.K) rc mc σ H3 fun w' H4 => r2 y w' H4 Q else Q (.bl false) H3) := by
  obtain ⟨Hk, ρ, f, c, q⟩ := h
  refine ⟨Hk, ρ, f, c, (EQ.seq RD.p q).mono fun v H1 ⟨x, Hk1, ρ1, f1, c1, _, _, hx, q1⟩ => ⟨Hk1, ρ1, f1, c1, (EQ.seq RD.p q1).mono fun u H2 ⟨y, Hk2, ρ2, f2, c2, st, _, hy, q2⟩ => ?_⟩⟩
  have hx2 : RepB X.K Hk2 H2 x v := RepD.toB c2.same (RepD.same st.kk x v hx.1)
  have hy2 : RepB X.K Hk2 H2 y u := hy.1.toB c2.same
  split at q2
  · rename_i e
    refine l Hk2 H2 x y true v u _ c2.same hx2 hy2 e ⟨true, rfl, iteT ⟨Hk2, ρ2, f2, c2, ?_⟩⟩
    have q3 : EQ X.K cl W (RD X.K) (rc && true) σ Hk2 H2 ρ2 f2 ((mc ρ2).bind fun z ρ3 => opt1 (g' y) z ρ3) Q := by rw [eq_true]; exact q2
    exact (EQ.seq RB.p q3).mono fun z H3 ⟨dz, Hk3, ρ3, f3, c3, st3, _, hz, q4⟩ => EQ.op2 c3 l' (RepD.toB c3.same (RepD.same st3.kk y u hy.1)) hz.1 q4
  · rename_i e
    exact l Hk2 H2 x y false v u _ c2.same hx2 hy2 e ⟨false, rfl, iteF (EQ.ret c2 q2 ⟨rfl, rfl⟩)⟩
  · exact q2.elim
theorem de_chain {op op' : CmpOp} {g g' : D → D → Option D} {ma mb mc : M D} {r1 r2 : R2} (ho : OpR X (compareOp op) r1) (l : LocB X.K r1 g) (ho' : OpR X (compareOp op') r2) (l' : Loc2 X.K r2 g') (ha : DE X cl W ra a ma) (hb : DE X cl W rb b mb) (hc : DB X cl W rc c mc)
    (hm : lastMarks [op, op'] [b, c] = false := by with_unfolding_all rfl) : DE X cl W (ra && (rb && rc)) (.Compare a [op, op'] [b, c] pos) (mChain g g' ma mb mc) :=
  PE.imp (pe_chain ho ho' ha hb hc hm) fun _ _ _ h => tR.chain l l' h
theorem dt_chain {op op' : CmpOp} {g g' : D → D → Option D} {ma mb mc : M D} {r1 r2 : R2} (ho : OpR X (compareOp op) r1) (l : LocB X.K r1 g) (ho' : OpR X (compareOp op') r2) (l' : Loc2 X.K r2 g') (ha : DE X cl W ra a ma) (hb : DE X cl W rb b mb) (hc : DB X cl W rc c mc)
    (hm : lastMarks [op, op'] [b, c] = false := by with_unfolding_all rfl) : DT X cl W (ra && (rb && rc)) (.Compare a [op, op'] [b, c] pos) (mT (mChain g g' ma mb mc)) :=
  PT.imp (pt_chain ho ho' ha hb hc hm) fun _ _ _ h => tR.chain l l' (tR.test (g := tC .non) h)
theorem locB_le {K : PySem.W.Frag} : LocB K rLe2 gLe := by
  intro Hk H x y b v u Q s hx hy e q
  unfold gLe at e
  split at e
  · cases e
    exact .inl ⟨_, _, hx, hy, q⟩
  · cases e
    exact .inr ⟨_, _, hx, hy, q⟩
  · cases e
theorem locB_lt {K : PySem.W.Frag} : LocB K rLt2 gLt := by
  intro Hk H x y b v u Q s hx hy e q
  unfold gLt at e
  split at e
  · cases e
    exact .inl ⟨_, _, hx, hy, q⟩
  · cases e
    exact .inr ⟨_, _, hx, hy, q⟩
  · cases e
/-! ### argument lists, displays -/
def mNil : M (List D) := fun ρ => .ok [] ρ
def mCons (ma : M D) (ms : M (List D)) : M (List D) := fun ρ => (ma ρ).bind fun x ρ1 => (ms ρ1).bind fun xs ρ2 => .ok (x :: xs) ρ2
theorem da_nil : DA X cl W true [] mNil := PA.imp pa_nil fun σ H Q ⟨Hk, ρ, f, c, q⟩ => EQ.ret c q ⟨rfl, rfl⟩
theorem da_cons {es : List Expr} {ma : M D} {ms : M (List D)} (ha : DE X cl W ra e ma) (hs : DA X cl W rb es ms) (hst : starEach (e :: es) X.env = (false, eval e X.env) :: starEach es X.env := by rfl) : DA X cl W (ra && rb) (e :: es) (mCons ma ms) := by
  refine PA.imp (pa_cons ha hs hst) fun σ H Q ⟨Hk, ρ, f, c, q⟩ => ?_
  have q' : EQ X.K cl W (RDs X.K) (ra && (rb && true)) σ Hk H ρ f ((ma ρ).bind fun x ρ1 => (ms ρ1).bind fun xs ρ2 => .ok (x :: xs) ρ2) Q := by rw [eq_true]; exact q
  exact ⟨Hk, ρ, f, c, (EQ.seq RD.p q').mono fun v H1 ⟨x, Hk1, ρ1, f1, c1, _, _, hx, q1⟩ => ⟨Hk1, ρ1, f1, c1, (EQ.seq RDs.p q1).mono fun vs H2 ⟨xs, Hk2, ρ2, f2, c2, st, _, hxs, q2⟩ =>
    EQ.ret c2 q2 ⟨RepDs.cons (RepD.same st.kk x v hx.1) hxs.1, rfl⟩⟩⟩
def mTup (ms : M (List D)) : M D := fun ρ => (ms ρ).bind fun xs ρ1 => if xs.length ≤ 16777216 then .ok (.tup xs) ρ1 else .bad
def mLst (ms : M (List D)) : M D := fun ρ => (ms ρ).bind fun xs ρ1 => if xs.length ≤ 16777216 then .ok (.lst xs) ρ1 else .bad
def mLsO (ms : M (List D)) : M O := fun ρ => (ms ρ).bind fun xs ρ1 => if xs.length ≤ 16777216 then .ok (.ls (xs.map O.d)) ρ1 else .bad
theorem EQ.newTup {Hk H : Hp} {ρ : Env} {σ : St} {f : Fs} {r : Bool} {xs : List D} {vs : List V} {Q : VK} (c : Cfg X.K cl Hk H ρ σ f) (h : EQ X.K cl W (RD X.K) r σ Hk H ρ f (.ok (.tup xs) ρ) Q) (k : RepDs X.K Hk xs vs) : ∀ p, H p = none → Q (.ref p) (upd H p (.tup vs)) :=
  new_tup c.same k fun b Hk' H' g rb => EQ.at c h g ⟨rb, rfl⟩
theorem EQ.newLst {Hk H : Hp} {ρ : Env} {σ : St} {f : Fs} {r : Bool} {xs : List D} {vs : List V} {Q : VK} (c : Cfg X.K cl Hk H ρ σ f) (h : EQ X.K cl W (RD X.K) r σ Hk H ρ f (.ok (.lst xs) ρ) Q) (k : RepDs X.K Hk xs vs) : ∀ p, H p = none → Q (.ref p) (upd H p (.lst vs)) :=
  new_lst c.same k fun b Hk' H' g rb => EQ.at c h g ⟨rb, rfl⟩
theorem EQ.newOwn {Hk H : Hp} {ρ : Env} {σ : St} {f : Fs} {r : Bool} {xs : List D} {vs : List V} {Q : VK} (c : Cfg X.K cl Hk H ρ σ f) (h : EQ X.K cl W (RO X.K cl) r σ Hk H ρ f (.ok (.ls (xs.map O.d)) ρ) Q) (k : RepDs X.K Hk xs vs) : ∀ p, H p = none → Q (.ref p) (upd H p (.lst vs)) := fun p n =>
  EQ.own c h n ⟨p, vs, [], rfl, upd_same, RepOs.ofDs k, rfl⟩
theorem de_tup {es : List Expr} {ms : M (List D)} {x1} (h : DA X cl W r es ms) : DE X cl W r (.Tuple es x1 pos) (mTup ms) := by
  refine PE.imp (pe_tup h) fun σ H Q ⟨Hk, ρ, f, c, q⟩ => ?_
  have q' : EQ X.K cl W (RD X.K) (r && true) σ Hk H ρ f ((ms ρ).bind fun xs ρ1 => if xs.length ≤ 16777216 then .ok (.tup xs) ρ1 else .bad) Q := by rw [eq_true]; exact q
  refine ⟨Hk, ρ, f, c, (EQ.seq RDs.p q').mono fun vs H1 ⟨xs, Hk1, ρ1, f1, c1, _, _, hx, q1⟩ => ?_⟩
  split at q1
  · rename_i hl
    exact ⟨line16 (by rw [← hx.1.length]; exact hl), EQ.newTup c1 q1 hx.1⟩
  · exact q1.elim
theorem de_lst {es : List Expr} {ms : M (List D)} (h : DA X cl W r es ms) : DE X cl W r (.List es pos) (mLst ms) := by
  refine PE.imp (pe_lst h) fun σ H Q ⟨Hk, ρ, f, c, q⟩ => ?_
  have q' : EQ X.K cl W (RD X.K) (r && true) σ Hk H ρ f ((ms ρ).bind fun xs ρ1 => if xs.length ≤ 16777216 then .ok (.lst xs) ρ1 else .bad) Q := by rw [eq_true]; exact q
  refine ⟨Hk, ρ, f, c, (EQ.seq RDs.p q').mono fun vs H1 ⟨xs, Hk1, ρ1, f1, c1, _, _, hx, q1⟩ => ?_⟩
  split at q1
  · rename_i hl
    exact ⟨line16 (by rw [← hx.1.length]; exact hl), EQ.newLst c1 q1 hx.1⟩
  · exact q1.elim
theorem do_lst {es : List Expr} {ms : M (List D)} (h : DA X cl W r es ms) : DO X cl W r (.List es pos) (mLsO ms) := by
  refine PE.imp (pe_lst h) fun σ H Q ⟨Hk, ρ, f, c, q⟩ => ?_
  have q' : EQ X.K cl W (RO X.K cl) (r && true) σ Hk H ρ f ((ms ρ).bind fun xs ρ1 => if xs.length ≤ 16777216 then .ok (.ls (xs.map O.d)) ρ1 else .bad) Q := by rw [eq_true]; exact q
  refine ⟨Hk, ρ, f, c, (EQ.seq RDs.p q').mono fun vs H1 ⟨xs, Hk1, ρ1, f1, c1, _, _, hx, q1⟩ => ?_⟩
  split at q1
  · rename_i hl
    exact ⟨line16 (by rw [← hx.1.length]; exact hl), EQ.newOwn c1 q1 hx.1⟩
  · exact q1.elim
/-! ### slices -/
abbrev DP (X : Cx) (cl : Wld) (W : WX) (r : Bool) (e : Option Expr) (m : M (Option Int)) : Prop := PO X e (tR X.K cl W (fun (_ _ : Hp) (a b : Option Int) (g : Fp) => a = b ∧ g = []) r m)
theorem PO.imp {e : Option Expr} {t t' : TO} (h : PO X e t) (k : ∀ σ H Q, t' σ H Q → t σ H Q) : PO X e t' := ⟨fun pins s σ H Q I q => h.run pins s σ H Q I (k σ H Q q)⟩
def mNoPart : M (Option Int) := fun ρ => .ok none ρ
def mPart (ma : M D) : M (Option Int) := fun ρ => (ma ρ).bind fun x ρ1 => match x with
  | .int i => .ok (some i) ρ1
  | _ => .bad
theorem dp_none : DP X cl W true none mNoPart := PO.imp po_none fun σ H Q ⟨Hk, ρ, f, c, q⟩ => EQ.ret c q ⟨rfl, rfl⟩
theorem dp_some {ma : M D} (h : DE X cl W r e ma) : DP X cl W r (some e) (mPart ma) := by
  refine PO.imp (po_some h) fun σ H Q ⟨Hk, ρ, f, c, q⟩ => ?_
  have q' : EQ X.K cl W (fun (_ _ : Hp) (a b : Option Int) (g : Fp) => a = b ∧ g = []) (r && true) σ Hk H ρ f ((ma ρ).bind fun x ρ1 => match x with
    | .int i => .ok (some i) ρ1
    | _ => .bad) Q := by rw [eq_true]; exact q
  refine ⟨Hk, ρ, f, c, (EQ.seq RD.p q').mono fun v H1 ⟨x, Hk1, ρ1, f1, c1, _, _, hx, q1⟩ => ?_⟩
  split at q1
  · exact ⟨_, hx.1, EQ.ret c1 q1 ⟨rfl, rfl⟩⟩
  · exact q1.elim
def cutL {α : Type} (xs : List α) (lo hi : Option Int) : List α := (xs.drop (HT.sIx xs.length 0 lo)).take (HT.sIx xs.length xs.length hi - HT.sIx xs.length 0 lo)
def gSl (x : D) (lo hi : Option Int) : Option D := match x with
  | .lst ds => some (.lst (cutL ds lo hi))
  | .tup ds => some (.tup (cutL ds lo hi))
  | .str z => if z.length ≤ 16777216 then some (.str (Txt.slice z lo hi)) else none
  | _ => none
def rSl3 (K : PySem.W.Frag) : V → Option Int → Option Int → Hp → VK → Prop := fun x lo hi H Q => rSlL K x lo hi H Q ∨ (rSlA K x lo hi H Q ∨ C8.rSlX x lo hi H Q)
theorem sl_3 : SlR X (rSl3 X.K) := sl_list.or (sl_tupA.or C8.sl_txt)
theorem RepDs.cut {K : PySem.W.Frag} {H : Hp} {ds : List D} {vs : List V} (r : RepDs K H ds vs) (lo hi : Option Int) : RepDs K H (cutL ds lo hi) (cutV vs lo hi) := by
  unfold cutL cutV
  rw [r.length]
  exact (r.drop _).take _
theorem sIx_whole {α : Type} {xs : List α} {lo hi : Option Int} (h : HT.sIx xs.length 0 lo = 0 ∧ HT.sIx xs.length xs.length hi = xs.length) : cutL xs lo hi = xs := by
  unfold cutL
  rw [h.1, h.2, List.drop_zero, Nat.sub_zero, List.take_length]
theorem loc_sl {K : PySem.W.Frag} {Hk H : Hp} {x d : D} {v : V} {lo hi : Option Int} {Q : VK} (s : Same Hk H) (hx : RepB K Hk H x v) (e : gSl x lo hi = some d) (k : ∀ b Hk' H', Grow Hk H Hk' H' → RepD K Hk' d b → Q b H') : rSl3 K v lo hi H Q := by
  unfold gSl at e
  split at e
  · cases e
    obtain ⟨p, vs, rfl, q, r⟩ := hx
    exact .inl ⟨p, vs, rfl, SqL.of q, new_lst s (r.cut lo hi) k⟩
  · cases e
    obtain ⟨p, vs, rfl, q, r⟩ := hx
    refine .inr (.inl ⟨p, vs, rfl, sqT_same s q, fun h => ?_, fun _ => new_tup s (r.cut lo hi) k⟩)
    refine k _ Hk H (.refl s) ⟨p, vs, rfl, q, ?_⟩
    rw [sIx_whole (by rw [r.length]; exact h)]
    exact r
  · split at e
    · rename_i hl
      cases e
      exact .inr (.inr ⟨_, hx, line16 hl, k _ Hk H (.refl s) rfl⟩)
    · cases e
  · cases e
def mSl (ma : M D) (ml mh : M (Option Int)) : M D := fun ρ => (ma ρ).bind fun x ρ1 => (ml ρ1).bind fun l ρ2 => (mh ρ2).bind fun h ρ3 => match gSl x l h with
  | some d => .ok d ρ3
  | none => .bad
theorem RP.p : ∀ (Hk H : Hp) (a b : Option Int) (g : Fp), (a = b ∧ g = []) → g = [] := fun _ _ _ _ _ h => h.2
theorem de_sl {ma : M D} {ml mh : M (Option Int)} {lo hi : Option Expr} {p2 : Pos} {rl rh : Bool} (ha : DE X cl W ra a ma) (hl : DP X cl W rl lo ml) (hh : DP X cl W rh hi mh) : DE X cl W (ra && (rl && rh)) (.Subscript a (.Slice lo hi none p2) pos) (mSl ma ml mh) := by
  refine PE.imp (pe_slice sl_3 ha hl hh) fun σ H Q ⟨Hk, ρ, f, c, q⟩ => ?_
  have q' : EQ X.K cl W (RD X.K) (ra && (rl && (rh && true))) σ Hk H ρ f ((ma ρ).bind fun x ρ1 => (ml ρ1).bind fun l ρ2 => (mh ρ2).bind fun h ρ3 => match gSl x l h with
    | some d => .ok d ρ3
    | none => .bad) Q := by rw [eq_true]; exact q
  refine ⟨Hk, ρ, f, c, (EQ.seq RD.p q').mono fun v H1 ⟨x, Hk1, ρ1, f1, c1, _, _, hx, q1⟩ => ⟨Hk1, ρ1, f1, c1, (EQ.seq RP.p q1).mono fun l' H2 ⟨l, Hk2, ρ2, f2, c2, st2, _, el, q2⟩ => ⟨Hk2, ρ2, f2, c2, (EQ.seq RP.p q2).mono fun h' H3 ⟨h, Hk3, ρ3, f3, c3, st3, _, eh, q3⟩ => ?_⟩⟩⟩
  obtain ⟨rfl, _⟩ := el
  obtain ⟨rfl, _⟩ := eh
  split at q3
  · rename_i d e
    exact loc_sl c3.same (RepD.toB c3.same (RepD.same (st2.kk.trans st3.kk) x v hx.1)) e fun b Hk' H' g rb => EQ.at c3 q3 g ⟨rb, rfl⟩
  · exact q3.elim
theorem de_sl' {ma : M D} {ml mh : M (Option Int)} {lo hi : Option Expr} {p2 : Pos} (ha : DB X cl W ra a ma) (hl : DP X cl W true lo ml) (hh : DP X cl W true hi mh) : DE X cl W ra (.Subscript a (.Slice lo hi none p2) pos) (mSl ma ml mh) := by
  refine PE.imp (pe_slice sl_3 ha hl hh) fun σ H Q ⟨Hk, ρ, f, c, q⟩ => ?_
  have q' : EQ X.K cl W (RD X.K) (ra && (true && (true && true))) σ Hk H ρ f ((ma ρ).bind fun x ρ1 => (ml ρ1).bind fun l ρ2 => (mh ρ2).bind fun h ρ3 => match gSl x l h with
    | some d => .ok d ρ3
    | none => .bad) Q := by rw [eq_true, eq_true, eq_true]; exact q
  refine ⟨Hk, ρ, f, c, (EQ.seq RB.p q').mono fun v H1 ⟨x, Hk1, ρ1, f1, c1, _, _, hx, q1⟩ => ⟨Hk1, ρ1, f1, c1, (EQ.seq RP.p q1).mono fun l' H2 ⟨l, Hk2, ρ2, f2, c2, st2, hr2, el, q2⟩ => ⟨Hk2, ρ2, f2, c2, (EQ.seq RP.p q2).mono fun h' H3 ⟨h, Hk3, ρ3, f3, c3, st3, hr3, eh, q3⟩ => ?_⟩⟩⟩
  obtain ⟨rfl, _⟩ := el
  obtain ⟨rfl, _⟩ := eh
  split at q3
  · rename_i d e
    exact loc_sl c3.same (RepB.same (st2.kk.trans st3.kk) ((hr2 rfl).2.2.trans (hr3 rfl).2.2) hx.1) e fun b Hk' H' g rb => EQ.at c3 q3 g ⟨rb, rfl⟩
  · exact q3.elim
end
end DL
set_option Elab.async false
set_option linter.all false
set_option maxRecDepth 100000
/-! EE: built-in functions and methods of texts on data. -/
namespace DL
open PySem L2 PySem.Spec PyProof.Rows
/-- a rule of a call with one argument does g on data -/
abbrev LocC (K : PySem.W.Frag) (r : List V → Hp → VK → Prop) (g : D → Option D) : Prop := Loc1 K (fun x H Q => r [x] H Q) g
abbrev LocC2 (K : PySem.W.Frag) (r : List V → Hp → VK → Prop) (g : D → D → Option D) : Prop := Loc2 K (fun x y H Q => r [x, y] H Q) g
/-- .. gives a new list -/
def LocN (K : PySem.W.Frag) (r : V → Hp → VK → Prop) (g : D → Option (List D)) : Prop :=
  ∀ Hk H x ds v Q, Same Hk H → RepB K Hk H x v → g x = some ds → (∀ p vs, H p = none → RepDs K Hk ds vs → Q (.ref p) (upd H p (.lst vs))) → r v H Q
theorem LocN.loc {K : PySem.W.Frag} {r : V → Hp → VK → Prop} {g : D → Option (List D)} (l : LocN K r g) : Loc1 K r fun x => (g x).map .lst := by
  intro Hk H x d v Q s hx e k
  have e : (g x).map D.lst = some d := e
  cases z : g x with
  | none => rw [z] at e; cases e
  | some ds =>
    rw [z] at e
    have e : some (D.lst ds) = some d := e
    cases e
    exact l Hk H x ds v Q s hx z fun p vs n rr => new_lst s rr k p n
def gN (g : D → Option (List D)) (x : D) : Option D := (g x).map .lst
def optN (g : D → Option (List D)) (x : D) : M O := fun ρ => match g x with
  | some ds => .ok (.ls (ds.map O.d)) ρ
  | none => .bad
def mOpN (g : D → Option (List D)) (ma : M D) : M O := fun ρ => (ma ρ).bind fun x ρ1 => optN g x ρ1
section
variable {X : Cx} {cl : Wld} {W : WX} {r ra rb rc : Bool} {e a b c : Expr} {pos p : Pos} {x : Str}
theorem tR.opN {g : D → Option (List D)} {ma : M D} {rr : V → Hp → VK → Prop} (l : LocN X.K rr g) {σ : St} {H : Hp} {Q : VK} (h : tR X.K cl W (RO X.K cl) ra (mOpN g ma) σ H Q) :
    tR X.K cl W (RB X.K) ra ma σ H fun x H1 => rr x H1 Q := by
  obtain ⟨Hk, ρ, f, c, q⟩ := h
  have q' : EQ X.K cl W (RO X.K cl) (ra && true) σ Hk H ρ f ((ma ρ).bind fun x ρ1 => optN g x ρ1) Q := by rw [eq_true]; exact q
  refine ⟨Hk, ρ, f, c, (EQ.seq RB.p q').mono fun v H1 ⟨x, Hk1, ρ1, f1, c1, _, _, hx, q1⟩ => ?_⟩
  unfold optN at q1
  split at q1
  · rename_i ds e
    exact l Hk1 H1 x ds v Q c1.same hx.1 e fun p vs n rr => EQ.newOwn c1 q1 rr p n
  · exact q1.elim
section
variable {id T : String} {rr : List V → Hp → VK → Prop}
theorem de_b1 {g : D → Option D} {ma : M D} (hc : CallR X (.builtin id) rr) (l : LocC X.K rr g) (hm : X.mg x = none) (hv : bootBuiltins x = some (.builtin id)) (ha : DB X cl W r a ma) (hg : Gl X x := by rfl)
    (hn : x ≠ "__name__" := by decide) (hdb : (x == ("__debug__" : Str)) = false := by decide)
    (he : starEach (a :: []) X.env = (false, eval a X.env) :: starEach [] X.env := by rfl) (hpl : (backTo pos (starEach [] X.env)).any (·.1) = false := by rfl) : DE X cl W r (.Call (.Name x p) [a] [] pos) (mOp1 g ma) :=
  PE.imp (pe_callB hc hg hm hv (pa_cons ha pa_nil he) hn hdb he hpl) fun _ _ _ h => tR.op1 l h
theorem de_t1 {g : D → Option D} {ma : M D} (hc : CallR X (.type T) rr) (l : LocC X.K rr g) (hm : X.mg x = none) (hv : bootBuiltins x = some (.type T)) (ha : DB X cl W r a ma) (hg : Gl X x := by rfl)
    (hn : x ≠ "__name__" := by decide) (hdb : (x == ("__debug__" : Str)) = false := by decide)
    (he : starEach (a :: []) X.env = (false, eval a X.env) :: starEach [] X.env := by rfl) (hpl : (backTo pos (starEach [] X.env)).any (·.1) = false := by rfl) : DE X cl W r (.Call (.Name x p) [a] [] pos) (mOp1 g ma) :=
  PE.imp (pe_callTy hc hg hm hv (pa_cons ha pa_nil he) hn hdb he hpl) fun _ _ _ h => tR.op1 l h
theorem do_b1 {g : D → Option (List D)} {ma : M D} (hc : CallR X (.builtin id) rr) (l : LocN X.K (fun x H Q => rr [x] H Q) g) (hm : X.mg x = none) (hv : bootBuiltins x = some (.builtin id)) (ha : DB X cl W r a ma) (hg : Gl X x := by rfl)
    (hn : x ≠ "__name__" := by decide) (hdb : (x == ("__debug__" : Str)) = false := by decide)
    (he : starEach (a :: []) X.env = (false, eval a X.env) :: starEach [] X.env := by rfl) (hpl : (backTo pos (starEach [] X.env)).any (·.1) = false := by rfl) : DO X cl W r (.Call (.Name x p) [a] [] pos) (mOpN g ma) :=
  PE.imp (pe_callB hc hg hm hv (pa_cons ha pa_nil he) hn hdb he hpl) fun _ _ _ h => tR.opN l h
theorem do_t1 {g : D → Option (List D)} {ma : M D} (hc : CallR X (.type T) rr) (l : LocN X.K (fun x H Q => rr [x] H Q) g) (hm : X.mg x = none) (hv : bootBuiltins x = some (.type T)) (ha : DB X cl W r a ma) (hg : Gl X x := by rfl)
    (hn : x ≠ "__name__" := by decide) (hdb : (x == ("__debug__" : Str)) = false := by decide)
    (he : starEach (a :: []) X.env = (false, eval a X.env) :: starEach [] X.env := by rfl) (hpl : (backTo pos (starEach [] X.env)).any (·.1) = false := by rfl) : DO X cl W r (.Call (.Name x p) [a] [] pos) (mOpN g ma) :=
  PE.imp (pe_callTy hc hg hm hv (pa_cons ha pa_nil he) hn hdb he hpl) fun _ _ _ h => tR.opN l h
theorem de_b2 {g : D → D → Option D} {ma mb : M D} (hc : CallR X (.builtin id) rr) (l : LocC2 X.K rr g) (hm : X.mg x = none) (hv : bootBuiltins x = some (.builtin id)) (ha : DE X cl W ra a ma) (hb : DB X cl W rb b mb) (hg : Gl X x := by rfl)
    (hn : x ≠ "__name__" := by decide) (hdb : (x == ("__debug__" : Str)) = false := by decide)
    (he : starEach (a :: [b]) X.env = (false, eval a X.env) :: starEach [b] X.env := by rfl) (he2 : starEach (b :: []) X.env = (false, eval b X.env) :: starEach [] X.env := by rfl) (hpl : (backTo pos (starEach [b] X.env)).any (·.1) = false := by rfl) : DE X cl W (ra && rb) (.Call (.Name x p) [a, b] [] pos) (mOp2 g ma mb) :=
  PE.imp (pe_callB hc hg hm hv (pa_cons ha (pa_cons hb pa_nil he2) he) hn hdb he hpl) fun _ _ _ h => tR.op2 l h
/-- methods of texts -/
def mM1 (g : Str → D → Option D) (ma mb : M D) : M D := fun ρ => (ma ρ).bind fun x ρ1 => match x with
  | .str z => (mb ρ1).bind fun y ρ2 => opt1 (g z) y ρ2
  | _ => .bad
def mM1N (g : Str → D → Option (List D)) (ma mb : M D) : M O := fun ρ => (ma ρ).bind fun x ρ1 => match x with
  | .str z => (mb ρ1).bind fun y ρ2 => optN (g z) y ρ2
  | _ => .bad
def LocM (K : PySem.W.Frag) (r1 : V → List V → Hp → VK → Prop) (g : Str → D → Option D) : Prop := ∀ z, Loc1 K (fun y H Q => r1 (.str z) [y] H Q) (g z)
def LocMN (K : PySem.W.Frag) (r1 : V → List V → Hp → VK → Prop) (g : Str → D → Option (List D)) : Prop := ∀ z, LocN K (fun y H Q => r1 (.str z) [y] H Q) (g z)
theorem de_m1 {name : Str} {apos : Pos} {g : Str → D → Option D} {ma mb : M D} {r1 : V → List V → Hp → VK → Prop} (slot : Slot "str" name id) (ty : typeOf (.builtin id) = pure (.type "method_descriptor")) (rule : MtR X id r1)
    (l : LocM X.K r1 g) (ha : DE X cl W ra a ma) (hb : DB X cl W rb b mb)
    (hs : starEach [b] X.env = [(false, eval b X.env)] := by rfl) (hbase : attributeBase a name X.env (eval a X.env) = eval a X.env := by rfl) (hline : (apos.endLine == pos.line) = true := by rfl) :
    DE X cl W (ra && rb) (.Call (.Attribute a name apos) [b] [] pos) (mM1 g ma mb) :=
  PE.imp (pe_m1 slot ty rule ha hb hs hbase hline) fun σ H Q h => by
    obtain ⟨Hk, ρ, f, c, q⟩ := h
    refine ⟨Hk, ρ, f, c, (EQ.seq RD.p q).mono fun v H1 ⟨dx, Hk1, ρ1, f1, c1, _, _, hx, q1⟩ => ?_⟩
    split at q1
    · rename_i z
      obtain rfl : v = .str z := hx.1
      have q2 : EQ X.K cl W (RD X.K) (rb && true) σ Hk1 H1 ρ1 f1 ((mb ρ1).bind fun y ρ2 => opt1 (g z) y ρ2) Q := by rw [eq_true]; exact q1
      exact ⟨⟨z, rfl⟩, Hk1, ρ1, f1, c1, (EQ.seq RB.p q2).mono fun u H2 ⟨y, Hk2, ρ2, f2, c2, st, _, hy, q3⟩ => EQ.op1 (rr := fun y H Q => r1 (.str z) [y] H Q) c2 (l z) hy.1 q3⟩
    · exact q1.elim
theorem do_m1 {name : Str} {apos : Pos} {g : Str → D → Option (List D)} {ma mb : M D} {r1 : V → List V → Hp → VK → Prop} (slot : Slot "str" name id) (ty : typeOf (.builtin id) = pure (.type "method_descriptor")) (rule : MtR X id r1)
    (l : LocMN X.K r1 g) (ha : DE X cl W ra a ma) (hb : DB X cl W rb b mb)
    (hs : starEach [b] X.env = [(false, eval b X.env)] := by rfl) (hbase : attributeBase a name X.env (eval a X.env) = eval a X.env := by rfl) (hline : (apos.endLine == pos.line) = true := by rfl) :
    DO X cl W (ra && rb) (.Call (.Attribute a name apos) [b] [] pos) (mM1N g ma mb) :=
  PE.imp (pe_m1 slot ty rule ha hb hs hbase hline) fun σ H Q h => by
    obtain ⟨Hk, ρ, f, c, q⟩ := h
    refine ⟨Hk, ρ, f, c, (EQ.seq RD.p q).mono fun v H1 ⟨dx, Hk1, ρ1, f1, c1, _, _, hx, q1⟩ => ?_⟩
    split at q1
    · rename_i z
      obtain rfl : v = .str z := hx.1
      have q2 : EQ X.K cl W (RO X.K cl) (rb && true) σ Hk1 H1 ρ1 f1 ((mb ρ1).bind fun y ρ2 => optN (g z) y ρ2) Q := by rw [eq_true]; exact q1
      refine ⟨⟨z, rfl⟩, Hk1, ρ1, f1, c1, (EQ.seq RB.p q2).mono fun u H2 ⟨y, Hk2, ρ2, f2, c2, st, _, hy, q3⟩ => ?_⟩
      unfold optN at q3
      split at q3
      · rename_i ds e
        exact l z Hk2 H2 y ds u Q c2.same hy.1 e fun p vs n rr => EQ.newOwn c2 q3 rr p n
      · exact q3.elim
    · exact q1.elim
end
/-! ### which built-ins -/
variable {K : PySem.W.Frag}
def gLen : D → Option D
  | .str y => if y.length ≤ 16777216 then some (.int y.length) else none
  | .lst xs => some (.int xs.length)
  | .tup xs => some (.int xs.length)
  | .scr ns => some (.int ns.length)
  | _ => none
theorem loc_len : LocC K (fun xs H Q => ∃ x n, xs = [x] ∧ LenV K x H n ∧ Q (.int n) H) gLen := by
  intro Hk H x d v Q s hx e k
  unfold gLen at e
  split at e
  · split at e
    · rename_i hl
      cases e
      rw [show v = .str _ from hx]
      exact ⟨_, _, rfl, ⟨line16 hl, rfl⟩, k _ Hk H (.refl s) rfl⟩
    · cases e
  · cases e
    obtain ⟨p, vs, rfl, q, rr⟩ := hx
    exact ⟨_, vs.length, rfl, .inl ⟨vs, SqL.of q, rfl⟩, k _ Hk H (.refl s) (by rw [rr.length]; rfl)⟩
  · cases e
    obtain ⟨p, vs, rfl, q, rr⟩ := hx
    exact ⟨_, vs.length, rfl, .inr ⟨vs, sqT_same s q, rfl⟩, k _ Hk H (.refl s) (by rw [rr.length]; rfl)⟩
  · cases e
    rename_i ns
    obtain ⟨p, rfl, q⟩ := hx
    exact ⟨_, (ns.map V.int).length, rfl, .inl ⟨_, sqL_same s q, rfl⟩, k _ Hk H (.refl s) (by rw [List.length_map]; rfl)⟩
  · cases e
def unBs : List D → Option (List Bool)
  | [] => some []
  | .bl b :: r => (unBs r).map (b :: ·)
  | _ :: _ => none
theorem unBs_of : ∀ {ds : List D} {vs : List V} {bs : List Bool} {H : Hp}, RepDs K H ds vs → unBs ds = some bs → vs = bs.map V.bl
  | [], vs, bs, H, h, e => by cases e; cases h; rfl
  | d :: ds, vs, bs, H, h, e => by
    obtain ⟨v, r', rfl, h1, h2⟩ := h
    cases d <;> first | (cases e; done) | skip
    rename_i b
    have e : (unBs ds).map (b :: ·) = some bs := e
    cases z : unBs ds with
    | none => rw [z] at e; cases e
    | some cs =>
      rw [z] at e
      have e : some (b :: cs) = some bs := e
      cases e
      rw [show v = .bl b from h1, unBs_of h2 z]; rfl
def gAll : D → Option D
  | .lst ds => (unBs ds).map fun bs => .bl (bs.all id)
  | _ => none
def gAny : D → Option D
  | .lst ds => (unBs ds).map fun bs => .bl (bs.any id)
  | _ => none
theorem loc_all : LocC K (rAll K) gAll := by
  intro Hk H x d v Q s hx e k
  unfold gAll at e
  split at e
  · rename_i ds
    cases z : unBs ds with
    | none => rw [z] at e; cases e
    | some bs =>
      rw [z] at e
      have e : some (D.bl (bs.all id)) = some d := e
      cases e
      obtain ⟨p, vs, rfl, q, rr⟩ := hx
      exact ⟨p, bs, rfl, SqL.of (by rw [← unBs_of rr z]; exact q), k _ Hk H (.refl s) rfl⟩
  · cases e
theorem loc_any : LocC K (rAny K) gAny := by
  intro Hk H x d v Q s hx e k
  unfold gAny at e
  split at e
  · rename_i ds
    cases z : unBs ds with
    | none => rw [z] at e; cases e
    | some bs =>
      rw [z] at e
      have e : some (D.bl (bs.any id)) = some d := e
      cases e
      obtain ⟨p, vs, rfl, q, rr⟩ := hx
      exact ⟨p, bs, rfl, SqL.of (by rw [← unBs_of rr z]; exact q), k _ Hk H (.refl s) rfl⟩
  · cases e
def unIs : List D → Option (List Int)
  | [] => some []
  | .int b :: r => (unIs r).map (b :: ·)
  | _ :: _ => none
theorem unIs_of : ∀ {ds : List D} {vs : List V} {bs : List Int} {H : Hp}, RepDs K H ds vs → unIs ds = some bs → vs = bs.map V.int
  | [], vs, bs, H, h, e => by cases e; cases h; rfl
  | d :: ds, vs, bs, H, h, e => by
    obtain ⟨v, r', rfl, h1, h2⟩ := h
    cases d <;> first | (cases e; done) | skip
    rename_i b
    have e : (unIs ds).map (b :: ·) = some bs := e
    cases z : unIs ds with
    | none => rw [z] at e; cases e
    | some cs =>
      rw [z] at e
      have e : some (b :: cs) = some bs := e
      cases e
      rw [show v = .int b from h1, unIs_of h2 z]; rfl
def unSs : List D → Option (List Str)
  | [] => some []
  | .str b :: r => (unSs r).map (b :: ·)
  | _ :: _ => none
theorem unSs_of : ∀ {ds : List D} {vs : List V} {bs : List Str} {H : Hp}, RepDs K H ds vs → unSs ds = some bs → vs = bs.map V.str
  | [], vs, bs, H, h, e => by cases e; cases h; rfl
  | d :: ds, vs, bs, H, h, e => by
    obtain ⟨v, r', rfl, h1, h2⟩ := h
    cases d <;> first | (cases e; done) | skip
    rename_i b
    have e : (unSs ds).map (b :: ·) = some bs := e
    cases z : unSs ds with
    | none => rw [z] at e; cases e
    | some cs =>
      rw [z] at e
      have e : some (b :: cs) = some bs := e
      cases e
      rw [show v = .str b from h1, unSs_of h2 z]; rfl
theorem RepDs.ints {H : Hp} : ∀ ns : List Int, RepDs K H (ns.map D.int) (ns.map V.int)
  | [] => rfl
  | n :: ns => ⟨_, _, rfl, rfl, RepDs.ints ns⟩
theorem RepDs.strs {H : Hp} : ∀ ns : List Str, RepDs K H (ns.map D.str) (ns.map V.str)
  | [] => rfl
  | n :: ns => ⟨_, _, rfl, rfl, RepDs.strs ns⟩
theorem unIs_map : ∀ ns : List Int, unIs (ns.map D.int) = some ns
  | [] => rfl
  | n :: ns => by rw [List.map_cons, unIs, unIs_map ns]; rfl
theorem unSs_map : ∀ ns : List Str, unSs (ns.map D.str) = some ns
  | [] => rfl
  | n :: ns => by rw [List.map_cons, unSs, unSs_map ns]; rfl
theorem unBs_map : ∀ ns : List Bool, unBs (ns.map D.bl) = some ns
  | [] => rfl
  | n :: ns => by rw [List.map_cons, unBs, unBs_map ns]; rfl
theorem unSs_eq : ∀ {ds : List D} {ss : List Str}, unSs ds = some ss → ds = ss.map D.str
  | [], _, e => by cases e; rfl
  | d :: ds, ss, e => by
    cases d <;> first | (cases e; done) | skip
    rename_i b
    have e : (unSs ds).map (b :: ·) = some ss := e
    cases z : unSs ds with
    | none => rw [z] at e; cases e
    | some cs =>
      rw [z] at e
      have e : some (b :: cs) = some ss := e
      cases e
      rw [unSs_eq z]; rfl
def gSum : D → Option D
  | .lst ds => (unIs ds).map fun ns => .int ns.sum
  | _ => none
theorem loc_sum : LocC K (rSum K) gSum := by
  intro Hk H x d v Q s hx e k
  unfold gSum at e
  split at e
  · rename_i ds
    cases z : unIs ds with
    | none => rw [z] at e; cases e
    | some bs =>
      rw [z] at e
      have e : some (D.int bs.sum) = some d := e
      cases e
      obtain ⟨p, vs, rfl, q, rr⟩ := hx
      exact ⟨p, bs, rfl, SqL.of (by rw [← unIs_of rr z]; exact q), k _ Hk H (.refl s) rfl⟩
  · cases e
/-- int(a truth | a number | a text), str(a number) -/
def gInt : D → Option D
  | .int i => some (.int i)
  | .bl b => some (.int (if b then 1 else 0))
  | .str a => if a.length ≤ 640 then (PySem.intText? a).map .int else none
  | _ => none
def rInt3 : List V → Hp → VK → Prop := fun xs H Q => ((∃ i, xs = [.int i] ∧ Q (.int i) H) ∨ ∃ k, xs = [.bl k] ∧ Q (.int (if k then 1 else 0)) H) ∨ ∃ a n, xs = [.str a] ∧ PySem.intText? a = some n ∧ a.length ≤ 640 ∧ Q (.int n) H
theorem call_int3 {X : Cx} : CallR X (.type "int") rInt3 := call_int1.or call_int_str
theorem loc_int : LocC K rInt3 gInt := by
  intro Hk H x d v Q s hx e k
  unfold gInt at e
  split at e
  · cases e; rw [show v = .int _ from hx]; exact .inl (.inl ⟨_, rfl, k _ Hk H (.refl s) rfl⟩)
  · cases e; rw [show v = .bl _ from hx]; exact .inl (.inr ⟨_, rfl, k _ Hk H (.refl s) rfl⟩)
  · rename_i a
    split at e
    · rename_i hl
      cases z : PySem.intText? a with
      | none => rw [z] at e; cases e
      | some n =>
        rw [z] at e
        have e : some (D.int n) = some d := e
        cases e
        rw [show v = .str _ from hx]
        exact .inr ⟨a, n, rfl, z, hl, k _ Hk H (.refl s) rfl⟩
    · cases e
  · cases e
def gStr : D → Option D
  | .int i => if i.natAbs.log2 < 1920 then some (.str (toString i)) else none
  | _ => none
theorem loc_str : LocC K (fun xs H Q => ∃ i, xs = [.int i] ∧ i.natAbs.log2 < 1920 ∧ Q (.str (toString i)) H) gStr := by
  intro Hk H x d v Q s hx e k
  unfold gStr at e
  split at e
  · split at e
    · rename_i hl
      cases e; rw [show v = .int _ from hx]; exact ⟨_, rfl, hl, k _ Hk H (.refl s) rfl⟩
    · cases e
  · cases e
def gAbs : D → Option D
  | .int i => some (.int (if i < 0 then -i else i))
  | _ => none
theorem loc_abs : LocC K (fun xs H Q => ∃ i, xs = [.int i] ∧ Q (.int (if i < 0 then -i else i)) H) gAbs := by
  intro Hk H x d v Q s hx e k
  unfold gAbs at e
  split at e
  · cases e; rw [show v = .int _ from hx]; exact ⟨_, rfl, k _ Hk H (.refl s) rfl⟩
  · cases e
/-- tuple(a list | a tuple), list(..) -/
def gTuple : D → Option D
  | .lst ds => some (.tup ds)
  | .tup ds => some (.tup ds)
  | _ => none
theorem loc_tuple : LocC K (fun xs H Q => ∃ p ys, xs = [.ref p] ∧ ((SqL K H p ys ∧ ∀ l, H l = none → Q (.ref l) (upd H l (.tup ys))) ∨ (SqT K H p ys ∧ Q (.ref p) H))) gTuple := by
  intro Hk H x d v Q s hx e k
  unfold gTuple at e
  split at e
  · cases e
    obtain ⟨p, vs, rfl, q, rr⟩ := hx
    exact ⟨p, vs, rfl, .inl ⟨SqL.of q, new_tup s rr k⟩⟩
  · cases e
    obtain ⟨p, vs, rfl, q, rr⟩ := hx
    exact ⟨p, vs, rfl, .inr ⟨sqT_same s q, k _ Hk H (.refl s) ⟨p, vs, rfl, q, rr⟩⟩⟩
  · cases e
def gListN : D → Option (List D)
  | .lst ds => some ds
  | .tup ds => some ds
  | _ => none
theorem loc_list : LocN K (fun x H Q => ∃ p ys, [x] = [V.ref p] ∧ (SqL K H p ys ∨ SqT K H p ys) ∧ ∀ l, H l = none → Q (.ref l) (upd H l (.lst ys))) gListN := by
  intro Hk H x ds v Q s hx e k
  unfold gListN at e
  split at e
  · cases e
    obtain ⟨p, vs, rfl, q, rr⟩ := hx
    exact ⟨p, vs, rfl, .inl (SqL.of q), fun l n => k l vs n rr⟩
  · cases e
    obtain ⟨p, vs, rfl, q, rr⟩ := hx
    exact ⟨p, vs, rfl, .inr (sqT_same s q), fun l n => k l vs n rr⟩
  · cases e
/-! ### isinstance of built-in kinds -/
def tyName : D → Option String
  | .non => some "NoneType"
  | .bl _ => some "bool"
  | .int _ => some "int"
  | .str _ => some "str"
  | .tup _ => some "tuple"
  | .lst _ => some "list"
  | .dk _ _ => some "dict"
  | _ => none
theorem tyName_of {Hk H : Hp} (s : Same Hk H) {d : D} {v : V} {T : String} (h : RepB K Hk H d v) (e : tyName d = some T) : TyX K H v (.type T) := by
  cases d with
  | non => cases e; rw [show v = .non from h]; exact .base .non
  | bl _ => cases e; rw [show v = .bl _ from h]; exact .base (.bl _)
  | int _ => cases e; rw [show v = .int _ from h]; exact .base (.int _)
  | str _ => cases e; rw [show v = .str _ from h]; exact .base (.str _)
  | tup _ =>
    cases e
    obtain ⟨p, vs, rfl, q, r⟩ := h
    rcases q with (q | ⟨o, q⟩) | ⟨o, its, n, q, c, _⟩
    · exact .base (.tup (s _ _ q))
    · exact .fTuple (s _ _ q)
    · exact .kTuple q c
  | lst _ => cases e; obtain ⟨p, vs, rfl, q, r⟩ := h; exact .base (.lst q)
  | dk _ _ =>
    cases e
    obtain ⟨p, vs, rfl, q, r⟩ := h
    rcases q with q | ⟨o, q⟩
    · exact .base (.dK q)
    · exact .fDict q
  | dt _ _ => cases e
  | scr _ => cases e
  | any => cases e
  | opq _ => cases e
def isiB (a T : String) : Option Bool := if ["NoneType", "bool", "int", "str", "tuple", "list", "dict"].contains a && ["bool", "int", "str", "tuple", "list", "dict"].contains T then some (a == T || (a == "bool" && T == "int")) else none
theorem isiB_kit {a T : String} {b : Bool} (h : isiB a T = some b) : kitB a T = some b := by
  unfold isiB at h
  split at h
  · rename_i hc
    cases h
    rw [Bool.and_eq_true] at hc
    have h1 := hc.1
    have h2 := hc.2
    simp only [List.contains_eq_mem, List.mem_cons, List.not_mem_nil, or_false, decide_eq_true_eq] at h1 h2
    rcases h1 with rfl | rfl | rfl | rfl | rfl | rfl | rfl <;> rcases h2 with rfl | rfl | rfl | rfl | rfl | rfl <;> decide +kernel
  · cases h
def gIsi (T : String) (x : D) : Option D := ((tyName x).bind fun a => isiB a T).map .bl
theorem de_isi {X : Cx} {cl : Wld} {W : WX} {r : Bool} {a : Expr} {pos p p2 : Pos} {T : String} {ma : M D} {t : Str} (hm : X.mg "isinstance" = none) (ha : DB X cl W r a ma) (hmT : X.mg t = none) (hvT : bootBuiltins t = some (.type T))
    (hg : Gl X "isinstance" := by rfl) (hgT : Gl X t := by rfl) (hn : t ≠ "__name__" := by decide) (hdb : (t == ("__debug__" : Str)) = false := by decide)
    (he : starEach (a :: [.Name t p2]) X.env = (false, eval a X.env) :: starEach [.Name t p2] X.env := by rfl) (he2 : starEach (.Name t p2 :: []) X.env = (false, eval (.Name t p2) X.env) :: starEach [] X.env := by rfl) (hpl : (backTo pos (starEach [.Name t p2] X.env)).any (·.1) = false := by rfl) :
    DE X cl W r (.Call (.Name "isinstance" p) [a, .Name t p2] [] pos) (mOp1 (gIsi T) ma) :=
  PE.imp (pe_callB call_isi hg hm boot_isinstance (pa_cons ha (pa_cons (pe_bltn (v := .ty T) hgT hmT hvT rfl hn hdb) pa_nil he2) he) (by decide) (by decide) he hpl) fun σ H Q h => tR.op1 (rr := fun x H Q => rIsi X.K [x, .ty T] H Q) (fun Hk H x d v Q s hx e k => by
    have e : ((tyName x).bind fun a => isiB a T).map D.bl = some d := e
    cases z : tyName x with
    | none => rw [z] at e; cases e
    | some A =>
      rw [z] at e
      have e : (isiB A T).map D.bl = some d := e
      cases z2 : isiB A T with
      | none => rw [z2] at e; cases e
      | some b =>
        rw [z2] at e
        have e : some (D.bl b) = some d := e
        cases e
        exact ⟨v, .ty T, .type A, .type T, b, rfl, .ty T, tyName_of s hx z, kit_ty (isiB_kit z2), k _ Hk H (.refl s) rfl⟩) h
/-! ### methods of texts -/
def gJoin (z : Str) : D → Option D
  | .lst ds => (unSs ds).bind fun ys => if (ys.map (·.length)).sum + ys.length * z.length ≤ 16777216 then some (.str (Txt.join z ys)) else none
  | .tup ds => (unSs ds).bind fun ys => if (ys.map (·.length)).sum + ys.length * z.length ≤ 16777216 then some (.str (Txt.join z ys)) else none
  | _ => none
theorem loc_join : LocM K (fun x xs H Q => ∃ a p, ∃ ys : List Str, x = .str a ∧ xs = [.ref p] ∧ (SqL K H p (ys.map V.str) ∨ SqT K H p (ys.map V.str)) ∧ (ys.map (·.length)).sum + ys.length * a.length ≤ 16777216 ∧ Q (.str (Txt.join a ys)) H) gJoin := by
  intro z Hk H x d v Q s hx e k
  have fin : ∀ ds, ((unSs ds).bind fun ys => if (ys.map (·.length)).sum + ys.length * z.length ≤ 16777216 then some (D.str (Txt.join z ys)) else none) = some d → ∃ ys, unSs ds = some ys ∧ (ys.map (·.length)).sum + ys.length * z.length ≤ 16777216 ∧ d = .str (Txt.join z ys) := by
    intro ds e
    cases z2 : unSs ds with
    | none => rw [z2] at e; cases e
    | some ys =>
      rw [z2] at e
      have e : (if (ys.map (·.length)).sum + ys.length * z.length ≤ 16777216 then some (D.str (Txt.join z ys)) else none) = some d := e
      split at e
      · rename_i hl
        cases e
        exact ⟨ys, rfl, hl, rfl⟩
      · cases e
  unfold gJoin at e
  split at e
  · obtain ⟨ys, e1, hl, rfl⟩ := fin _ e
    obtain ⟨p, vs, rfl, q, rr⟩ := hx
    exact ⟨z, p, ys, rfl, rfl, .inl (SqL.of (by rw [← unSs_of rr e1]; exact q)), hl, k _ Hk H (.refl s) rfl⟩
  · obtain ⟨ys, e1, hl, rfl⟩ := fin _ e
    obtain ⟨p, vs, rfl, q, rr⟩ := hx
    exact ⟨z, p, ys, rfl, rfl, .inr (by rw [← unSs_of rr e1]; exact sqT_same s q), hl, k _ Hk H (.refl s) rfl⟩
  · cases e
def gSplitN (z : Str) : D → Option (List D)
  | .str b => if 0 < b.length ∧ z.length ≤ 16777214 then some ((Txt.split z b).map .str) else none
  | _ => none
theorem loc_split : LocMN K (fun x xs H Q => ∃ a b, x = .str a ∧ xs = [.str b] ∧ (b.length == 0) = false ∧ a.length + 2 ≤ sizeLine ∧ rNewStrs (Txt.split a b) H Q) gSplitN := by
  intro z Hk H x ds v Q s hx e k
  unfold gSplitN at e
  split at e
  · rename_i b
    split at e
    · rename_i hl
      cases e
      rw [show v = .str b from hx]
      refine ⟨z, b, rfl, rfl, beq_eq_false_iff_ne.mpr (by omega), by rw [sizeLine_eq]; omega, fun p n => k p _ n (RepDs.strs _)⟩
    · cases e
  · cases e
def gStarts (z : Str) : D → Option D
  | .str b => some (.bl (Txt.startswith z b))
  | _ => none
theorem loc_starts : LocM K (fun x xs H Q => ∃ a b, x = .str a ∧ xs = [.str b] ∧ Q (.bl (Txt.startswith a b)) H) gStarts := by
  intro z Hk H x d v Q s hx e k
  unfold gStarts at e
  split at e
  · cases e
    rw [show v = .str _ from hx]
    exact ⟨z, _, rfl, rfl, k _ Hk H (.refl s) rfl⟩
  · cases e
def gPart (z : Str) : D → Option D
  | .str b => if 0 < b.length ∧ z.length ≤ 16777216 then some (.tup [.str (Txt.partition z b).1, .str (Txt.partition z b).2.1, .str (Txt.partition z b).2.2]) else none
  | _ => none
theorem loc_part : LocM K (fun x xs H Q => ∃ a b, x = .str a ∧ xs = [.str b] ∧ (b.length == 0) = false ∧ a.length ≤ sizeLine ∧
    ∀ p, H p = none → Q (.ref p) (upd H p (.tup [.str (Txt.partition a b).1, .str (Txt.partition a b).2.1, .str (Txt.partition a b).2.2]))) gPart := by
  intro z Hk H x d v Q s hx e k
  unfold gPart at e
  split at e
  · rename_i b
    split at e
    · rename_i hl
      cases e
      rw [show v = .str b from hx]
      exact ⟨z, b, rfl, rfl, beq_eq_false_iff_ne.mpr (by omega), line16 hl.2, new_tup s (RepDs.strs [_, _, _]) k⟩
    · cases e
  · cases e
/-! ### sorted: numbers, texts -/
def insI (x : Int) : List Int → List Int
  | [] => [x]
  | y :: r => if x ≤ y then x :: y :: r else y :: insI x r
def sortI : List Int → List Int
  | [] => []
  | x :: r => insI x (sortI r)
theorem insI_perm (x : Int) : ∀ l, (insI x l).Perm (x :: l)
  | [] => .refl _
  | y :: r => by
    unfold insI
    split
    · exact .refl _
    · exact ((insI_perm x r).cons y).trans (.swap x y r)
theorem sortI_perm : ∀ l, (sortI l).Perm l
  | [] => .refl _
  | x :: r => (insI_perm x _).trans ((sortI_perm r).cons x)
theorem insI_sorted (x : Int) : ∀ l, l.Pairwise (· ≤ ·) → (insI x l).Pairwise (· ≤ ·)
  | [], _ => List.pairwise_singleton _ _
  | y :: r, h => by
    unfold insI
    rw [List.pairwise_cons] at h
    split
    · rename_i hxy
      refine List.pairwise_cons.mpr ⟨fun z hz => ?_, List.pairwise_cons.mpr h⟩
      rcases List.mem_cons.mp hz with rfl | hz
      · exact hxy
      · exact Int.le_trans hxy (h.1 z hz)
    · rename_i hxy
      refine List.pairwise_cons.mpr ⟨fun z hz => ?_, insI_sorted x r h.2⟩
      rcases List.mem_cons.mp ((insI_perm x r).mem_iff.mp hz) with rfl | hz
      · omega
      · exact h.1 z hz
theorem sortI_sorted : ∀ l, (sortI l).Pairwise (· ≤ ·)
  | [] => .nil
  | x :: r => insI_sorted x _ (sortI_sorted r)
theorem sorted_one {α : Type} {le : α → α → Prop} (anti : ∀ a b, le a b → le b a → a = b) : ∀ {l m : List α}, l.Perm m → l.Pairwise le → m.Pairwise le → l = m
  | [], m, h, _, _ => (List.Perm.nil_eq h)
  | a :: l, [], h, _, _ => absurd h.symm.nil_eq (by simp)
  | a :: l, b :: m, h, h1, h2 => by
    rw [List.pairwise_cons] at h1 h2
    have e : a = b := by
      rcases List.mem_cons.mp (h.mem_iff.mp List.mem_cons_self) with e | ha
      · exact e
      rcases List.mem_cons.mp (h.mem_iff.mpr List.mem_cons_self) with e | hb
      · exact e.symm
      · exact anti a b (h1.1 b hb) (h2.1 a ha)
    subst e
    rw [sorted_one anti h.cons_inv h1.2 h2.2]
/-- texts, by their signs -/
def leS (x y : Str) : Prop := ¬ y.cps.toList < x.cps.toList
instance (x y : Str) : Decidable (leS x y) := inferInstanceAs (Decidable (¬ _))
def insS (x : Str) : List Str → List Str
  | [] => [x]
  | y :: r => if leS x y then x :: y :: r else y :: insS x r
def sortS : List Str → List Str
  | [] => []
  | x :: r => insS x (sortS r)
theorem insS_perm (x : Str) : ∀ l, (insS x l).Perm (x :: l)
  | [] => .refl _
  | y :: r => by
    unfold insS
    split
    · exact .refl _
    · exact ((insS_perm x r).cons y).trans (.swap x y r)
theorem sortS_perm : ∀ l, (sortS l).Perm l
  | [] => .refl _
  | x :: r => (insS_perm x _).trans ((sortS_perm r).cons x)
theorem leS_total (x y : Str) (h : ¬ leS x y) : leS y x := by
  unfold leS at *
  intro h2
  exact h fun h3 => absurd h2 (List.not_lt.mpr (List.le_of_lt h3))
theorem leS_trans {x y z : Str} (h : leS x y) (h2 : leS y z) : leS x z := by
  unfold leS at *
  rw [List.not_lt] at *
  exact List.le_trans h h2
theorem leS_anti (x y : Str) (h : leS x y) (h2 : leS y x) : x = y := by
  unfold leS at *
  rw [List.not_lt] at *
  have e : x.cps.toList = y.cps.toList := List.le_antisymm h h2
  cases x; cases y
  simp only [Str.mk.injEq]
  exact Array.toList_inj.mp e
theorem insS_sorted (x : Str) : ∀ l, l.Pairwise leS → (insS x l).Pairwise leS
  | [], _ => List.pairwise_singleton _ _
  | y :: r, h => by
    unfold insS
    rw [List.pairwise_cons] at h
    split
    · rename_i hxy
      refine List.pairwise_cons.mpr ⟨fun z hz => ?_, List.pairwise_cons.mpr h⟩
      rcases List.mem_cons.mp hz with rfl | hz
      · exact hxy
      · exact leS_trans hxy (h.1 z hz)
    · rename_i hxy
      refine List.pairwise_cons.mpr ⟨fun z hz => ?_, insS_sorted x r h.2⟩
      rcases List.mem_cons.mp ((insS_perm x r).mem_iff.mp hz) with rfl | hz
      · exact leS_total _ _ hxy
      · exact h.1 z hz
theorem sortS_sorted : ∀ l, (sortS l).Pairwise leS
  | [] => .nil
  | x :: r => insS_sorted x _ (sortS_sorted r)
theorem risingS_pair : ∀ (l : List Str) (p : Str), PyProof.Rows.risingS p l = true → (p :: l).Pairwise leS
  | [], p, _ => List.pairwise_singleton _ _
  | x :: r, p, h => by
    have h : (!PySem.Spec.ltCps x.cps.toList p.cps.toList && PyProof.Rows.risingS x r) = true := h
    rw [Bool.and_eq_true] at h
    have hx := risingS_pair r x h.2
    have hpx : leS p x := by
      unfold leS
      have h1 := h.1
      rw [PyProof.Rows.ltCps_eq] at h1
      simpa using h1
    rw [List.pairwise_cons] at hx
    refine List.pairwise_cons.mpr ⟨fun z hz => ?_, List.pairwise_cons.mpr hx⟩
    rcases List.mem_cons.mp hz with rfl | hz
    · exact hpx
    · exact leS_trans hpx (hx.1 z hz)
theorem sortedS_pair : ∀ {l : List Str}, PyProof.Rows.sortedS l = true → l.Pairwise leS
  | [], _ => .nil
  | x :: r, h => risingS_pair r x h
end
end DL
set_option Elab.async false
set_option linter.all false
set_option maxRecDepth 100000
/-! EF: what is walked, targets, list comprehensions on data. -/
namespace DL
open PySem L2 PySem.Spec PyProof.Rows RZ
/-- J walks the data ds, where B stands -/
structure ItD (K : PySem.W.Frag) (Hk0 B : Hp) (J : It) (ds : List D) : Prop where
  go : ∀ H i, Same B H → i < ds.length → J.go i H
  stop : ∀ H, Same B H → J.stop ds.length H
  yld : ∀ Hk H i x H', i < ds.length → Same Hk0 Hk → Same Hk H → Same B H → J.yld i H x H' → ∃ d Hk', ds[i]? = some d ∧ Grow Hk H Hk' H' ∧ RepD K Hk' d x
def RI (K : PySem.W.Frag) (pure : Bool) : Rl (List D) It := fun Hk H ds J g => ItD K Hk (bif pure then Hk else H) J ds ∧ g = []
theorem RI.p {K : PySem.W.Frag} {pure : Bool} : ∀ Hk H a b g, RI K pure Hk H a b g → g = [] := fun _ _ _ _ _ h => h.2
abbrev DI (X : Cx) (cl : Wld) (W : WX) (pure r : Bool) (tg e : Expr) (m : M (List D)) : Prop := PI X tg e (tR X.K cl W (RI X.K pure) r m)
theorem PI.imp {X : Cx} {tg e : Expr} {t t' : TI} (h : PI X tg e t) (k : ∀ σ H R, t' σ H R → t σ H R) : PI X tg e t' := ⟨fun pins s σ H R I q => h.run pins s σ H R I (k σ H R q)⟩
theorem get_lt {α : Type} {xs : List α} {i : Nat} (h : i < xs.length) : ∃ x, xs[i]? = some x := ⟨xs[i], List.getElem?_eq_getElem h⟩
section
variable {X : Cx} {cl : Wld} {W : WX} {r ra rb : Bool} {tg e a b : Expr} {pos p : Pos}
/-- a list, a tuple or a text, by its value -/
def iAny (K : PySem.W.Frag) (te : TE) : TI := fun σ H R => te σ H fun v H1 => (∃ a, v = .ref a ∧ (∃ xs, SqL K H1 a xs) ∧ R (Itl K a) H1) ∨ (∃ a, v = .ref a ∧ (∃ xs, SqT K H1 a xs) ∧ R (Itt K a) H1) ∨ ∃ z, v = .str z ∧ R (Its z) H1
theorem pi_any {te : TE} (he : PE X e te) : PI X tg e (iAny X.K te) := by
  constructor
  intro pins s σ H R I hte
  apply thn (he.run pins s σ H _ I hte)
  rintro v s1 ⟨y, H1, J, rel, hy⟩
  have old : ∀ ob, Inv X pins σ H1 { s1 with heap := s1.heap.push ob, toks := s1.toks } := fun ob => J.kept (t' := s1.toks) fun _ _ o => Heap.get?_push_of_some _ o
  have own : ∀ q ∈ [s1.heap.objs.size], FpOk X pins H1 q := by
    intro q hq
    rw [List.mem_singleton] at hq
    rw [hq]
    exact J.fpOk (Nat.le_refl _) (J.hok.fresh (Nat.le_refl _))
  rcases hy with ⟨l, rfl, ⟨xs, hl⟩, q⟩ | ⟨l, rfl, ⟨xs, hl⟩, q⟩ | ⟨z, rfl, q⟩
  · obtain ⟨its, _, pl, _⟩ := J.list hl
    obtain rfl : v = Value.ref l := rel
    exact wpAny_pyIter_list pl.isList ⟨_, _, _, _, H1, rfl, old _, turn_list l _, ⟨_, Heap.get?_push_size _ rfl, rfl, rfl⟩, own, q⟩
  · obtain ⟨its, _, pl, _⟩ := J.tuple hl
    obtain rfl : v = Value.ref l := rel
    exact wpAny_pyIter_tuple (show s1.heap.IsTuple l its.toArray from pl) ⟨_, _, _, _, H1, rfl, old _, turn_tuple l _, ⟨_, Heap.get?_push_size _ rfl, rfl, rfl⟩, own, q⟩
  · obtain ⟨t, rfl⟩ := rel
    cases w : z.cps.all (· < 128) with
    | true => exact wpAny_pyIter_ascii w (pi_one (tk := s1.toks) J _ (turn_str _ z t "str_ascii_iterator" (.inl rfl)) ⟨_, Heap.get?_push_size _ rfl, rfl, rfl⟩ q)
    | false => exact wpAny_pyIter_wide w (pi_one (tk := s1.toks) J _ (turn_str _ z t "str_iterator" (.inr rfl)) ⟨_, Heap.get?_push_size _ rfl, rfl, rfl⟩ q)
def itemsOf : D → Option (List D)
  | .lst ds => some ds
  | .tup ds => some ds
  | .str z => some (z.cps.toList.map fun c => .str ⟨#[c]⟩)
  | .scr ns => some (ns.map .int)
  | _ => none
def optI {α β : Type} (g : α → Option β) (x : α) : M β := fun ρ => match g x with
  | some y => .ok y ρ
  | none => .bad
def mItems (ma : M D) : M (List D) := fun ρ => (ma ρ).bind fun x ρ1 => optI itemsOf x ρ1
theorem itl_of {K : PySem.W.Frag} {Hk0 B : Hp} {a : Addr} {vs : List V} {ds : List D} (hL : ∀ H, Same B H → SqL K H a vs) (r : RepDs K Hk0 ds vs) : ItD K Hk0 B (Itl K a) ds where
  go := fun H i s hi => by
    obtain ⟨x, hx⟩ := get_lt (show i < vs.length by rw [← r.length]; exact hi)
    exact ⟨vs, x, hL H s, hx⟩
  stop := fun H s => ⟨vs, hL H s, by rw [r.length]; exact Nat.le_refl _⟩
  yld := fun Hk H i x H' hi k s sb ⟨e, h⟩ => by
    subst e
    have hx := h vs (hL H' sb)
    obtain ⟨d, hd⟩ := get_lt (show i < ds.length by rw [r.length]; exact (List.getElem?_eq_some_iff.mp hx).1)
    obtain ⟨v, hv, rv⟩ := r.get hd
    rw [hx] at hv; cases hv
    exact ⟨d, Hk, hd, .refl s, rv.same k⟩
theorem itt_of {K : PySem.W.Frag} {Hk0 B : Hp} {a : Addr} {vs : List V} {ds : List D} (hL : ∀ H, Same B H → SqT K H a vs) (r : RepDs K Hk0 ds vs) : ItD K Hk0 B (Itt K a) ds where
  go := fun H i s hi => by
    obtain ⟨x, hx⟩ := get_lt (show i < vs.length by rw [← r.length]; exact hi)
    exact ⟨vs, x, hL H s, hx⟩
  stop := fun H s => ⟨vs, hL H s, by rw [r.length]; exact Nat.le_refl _⟩
  yld := fun Hk H i x H' hi k s sb ⟨e, h⟩ => by
    subst e
    have hx := h vs (hL H' sb)
    obtain ⟨d, hd⟩ := get_lt (show i < ds.length by rw [r.length]; exact (List.getElem?_eq_some_iff.mp hx).1)
    obtain ⟨v, hv, rv⟩ := r.get hd
    rw [hx] at hv; cases hv
    exact ⟨d, Hk, hd, .refl s, rv.same k⟩
theorem its_of {K : PySem.W.Frag} {Hk0 B : Hp} {z : Str} : ItD K Hk0 B (Its z) (z.cps.toList.map fun c => .str ⟨#[c]⟩) where
  go := fun H i s hi => by
    have hi : i < (z.cps.toList.map fun c => D.str ⟨#[c]⟩).length := hi
    rw [List.length_map, Array.length_toList] at hi
    exact hi
  stop := fun H s => by
    show z.cps.size ≤ (z.cps.toList.map fun c => D.str ⟨#[c]⟩).length
    rw [List.length_map, Array.length_toList]
    exact Nat.le_refl _
  yld := fun Hk H i x H' hi k s sb ⟨e, c, hc, hx⟩ => by
    subst e hx
    refine ⟨.str ⟨#[c]⟩, Hk, ?_, .refl s, rfl⟩
    rw [List.getElem?_map, Array.getElem?_toList, hc]; rfl
theorem items_it {K : PySem.W.Frag} {Hk H B : Hp} {d : D} {v : V} {ds : List D} (sb : Same B H) (hkB : Same Hk B) (h : RepB K Hk B d v) (e : itemsOf d = some ds) {R : It → Hp → Prop}
    (k : ∀ J, ItD K Hk B J ds → R J H) : (∃ a, v = .ref a ∧ (∃ xs, SqL K H a xs) ∧ R (Itl K a) H) ∨ (∃ a, v = .ref a ∧ (∃ xs, SqT K H a xs) ∧ R (Itt K a) H) ∨ ∃ z, v = .str z ∧ R (Its z) H := by
  cases d with
  | lst xs =>
    cases e
    obtain ⟨a, vs, rfl, q, r⟩ := h
    exact .inl ⟨a, rfl, ⟨vs, SqL.of (sb _ _ q)⟩, k _ (itl_of (fun H' s' => SqL.of (s' _ _ q)) r)⟩
  | tup xs =>
    cases e
    obtain ⟨a, vs, rfl, q, r⟩ := h
    exact .inr (.inl ⟨a, rfl, ⟨vs, sqT_same (hkB.trans sb) q⟩, k _ (itt_of (fun H' s' => sqT_same (hkB.trans s') q) r)⟩)
  | str z =>
    cases e
    exact .inr (.inr ⟨z, h, k _ its_of⟩)
  | scr ns =>
    cases e
    obtain ⟨a, rfl, q⟩ := h
    exact .inl ⟨a, rfl, ⟨_, sqL_same (hkB.trans sb) q⟩, k _ (itl_of (fun H' s' => sqL_same (hkB.trans s') q) (RepDs.ints ns))⟩
  | non => cases e
  | bl _ => cases e
  | int _ => cases e
  | dk _ _ => cases e
  | dt _ _ => cases e
  | any => cases e
  | opq _ => cases e
/-- walks over data; over another's own things (nothing else but growing around) -/
theorem di_any {ma : M D} (ha : DE X cl W r e ma) : DI X cl W true r tg e (mItems ma) := by
  refine PI.imp (pi_any ha) fun σ H R ⟨Hk, ρ, f, c, q⟩ => ?_
  have q' : EQ X.K cl W (RI X.K true) (r && true) σ Hk H ρ f ((ma ρ).bind fun x ρ1 => optI itemsOf x ρ1) R := by rw [eq_true]; exact q
  refine ⟨Hk, ρ, f, c, (EQ.seq RD.p q').mono fun v H1 ⟨x, Hk1, ρ1, f1, c1, _, _, hx, q1⟩ => ?_⟩
  unfold optI at q1
  split at q1
  · rename_i ds e
    exact items_it (B := Hk1) c1.same (.refl _) (hx.1.toB (.refl _)) e fun J hJ => EQ.ret c1 q1 ⟨hJ, rfl⟩
  · exact q1.elim
theorem di_own {ma : M D} (ha : DB X cl W r e ma) : DI X cl W false r tg e (mItems ma) := by
  refine PI.imp (pi_any ha) fun σ H R ⟨Hk, ρ, f, c, q⟩ => ?_
  have q' : EQ X.K cl W (RI X.K false) (r && true) σ Hk H ρ f ((ma ρ).bind fun x ρ1 => optI itemsOf x ρ1) R := by rw [eq_true]; exact q
  refine ⟨Hk, ρ, f, c, (EQ.seq RB.p q').mono fun v H1 ⟨x, Hk1, ρ1, f1, c1, _, _, hx, q1⟩ => ?_⟩
  unfold optI at q1
  split at q1
  · rename_i ds e
    exact items_it (B := H1) (.refl _) c1.same hx.1 e fun J hJ => EQ.ret c1 q1 ⟨hJ, rfl⟩
  · exact q1.elim
/-! ### range, enumerate, zip, items of a dict -/
def rngD (lo : Int) (n : Nat) : List D := (List.range n).map fun (i : Nat) => .int (lo + (i : Int))
theorem itr_of {K : PySem.W.Frag} {Hk0 B : Hp} {lo : Int} {n : Nat} : ItD K Hk0 B (Itr lo n) (rngD lo n) where
  go := fun H i s hi => by
    have hi : i < (rngD lo n).length := hi
    unfold rngD at hi
    rw [List.length_map, List.length_range] at hi
    exact hi
  stop := fun H s => by
    show n ≤ (rngD lo n).length
    unfold rngD
    rw [List.length_map, List.length_range]
    exact Nat.le_refl _
  yld := fun Hk H i x H' hi k s sb ⟨e, hx⟩ => by
    subst e hx
    have hi : i < (rngD lo n).length := hi
    unfold rngD at hi
    rw [List.length_map, List.length_range] at hi
    refine ⟨.int (lo + (i : Int)), Hk, ?_, .refl s, rfl⟩
    unfold rngD
    rw [List.getElem?_map, List.getElem?_range hi]; rfl
def g62 (i : Int) : Bool := decide (-(2 ^ 62) ≤ i ∧ i < 2 ^ 62)
def mRng1 (ma : M D) : M (List D) := fun ρ => (ma ρ).bind fun x ρ1 => match x with
  | .int j => if g62 j = true then .ok (rngD 0 j.toNat) ρ1 else .bad
  | _ => .bad
def gRng2 : D → D → Option (List D)
  | .int i, .int j => if g62 i && g62 j then some (rngD i (j - i).toNat) else none
  | _, _ => none
def mBin {γ : Type} (g : D → D → Option γ) (ma mb : M D) : M γ := fun ρ => (ma ρ).bind fun x ρ1 => (mb ρ1).bind fun y ρ2 => optI (g x) y ρ2
theorem di_rng1 {ma : M D} (hm : X.mg "range" = none) (ha : DE X cl W r a ma) (hg : Gl X "range" := by rfl) (hs : starEach [a] X.env = [(false, eval a X.env)] := by rfl) : DI X cl W true r tg (.Call (.Name "range" p) [a] [] pos) (mRng1 ma) := by
  refine PI.imp (pi_range1 hg hm (pa_cons ha pa_nil hs) hs) fun σ H R ⟨Hk, ρ, f, c, q⟩ => ?_
  have q' : EQ X.K cl W (RI X.K true) (r && true) σ Hk H ρ f ((ma ρ).bind fun x ρ1 => match x with
    | .int j => if g62 j = true then .ok (rngD 0 j.toNat) ρ1 else .bad
    | _ => .bad) R := by rw [eq_true]; exact q
  refine ⟨Hk, ρ, f, c, (EQ.seq RD.p q').mono fun v H1 ⟨x, Hk1, ρ1, f1, c1, _, _, hx, q1⟩ => ?_⟩
  split at q1
  · rename_i j
    split at q1
    · rename_i h
      have h := of_decide_eq_true h
      exact ⟨j, by rw [show v = .int j from hx.1], h.1, h.2, EQ.ret c1 q1 ⟨itr_of, rfl⟩⟩
    · exact q1.elim
  · exact q1.elim
theorem tR.bin {γ δ : Type} {R : Rl γ δ} {g : D → D → Option γ} {ma mb : M D} {σ : St} {H : Hp} {Q : δ → Hp → Prop} {S : V → V → Hp → Prop} (h : tR X.K cl W R (ra && rb) (mBin g ma mb) σ H Q)
    (k : ∀ x y z v u Hk H ρ f, Cfg X.K cl Hk H ρ σ f → RepD X.K Hk x v → RepD X.K Hk y u → g x y = some z → EQ X.K cl W R true σ Hk H ρ f (.ok z ρ) Q → S v u H) :
    tR X.K cl W (RD X.K) ra ma σ H fun v H1 => tR X.K cl W (RD X.K) rb mb σ H1 fun u H2 => S v u H2 := by
  obtain ⟨Hk, ρ, f, c, q⟩ := h
  have q' : EQ X.K cl W R (ra && (rb && true)) σ Hk H ρ f ((ma ρ).bind fun x ρ1 => (mb ρ1).bind fun y ρ2 => optI (g x) y ρ2) Q := by rw [eq_true]; exact q
  refine ⟨Hk, ρ, f, c, (EQ.seq RD.p q').mono fun v H1 ⟨x, Hk1, ρ1, f1, c1, _, _, hx, q1⟩ => ⟨Hk1, ρ1, f1, c1, (EQ.seq RD.p q1).mono fun u H2 ⟨y, Hk2, ρ2, f2, c2, st, _, hy, q2⟩ => ?_⟩⟩
  unfold optI at q2
  split at q2
  · rename_i z e
    exact k x y z v u Hk2 H2 ρ2 f2 c2 (RepD.same st.kk x v hx.1) hy.1 e q2
  · exact q2.elim
theorem di_rng2 {ma mb : M D} (hm : X.mg "range" = none) (ha : DE X cl W ra a ma) (hb : DE X cl W rb b mb) (hg : Gl X "range" := by rfl) (hs : starEach [a, b] X.env = [(false, eval a X.env), (false, eval b X.env)] := by rfl) (hs2 : starEach [b] X.env = [(false, eval b X.env)] := by rfl)
    (hs3 : starEach [a, b] X.env = (false, eval a X.env) :: starEach [b] X.env := by rfl) (hs4 : starEach [b] X.env = (false, eval b X.env) :: starEach [] X.env := by rfl) :
    DI X cl W true (ra && rb) tg (.Call (.Name "range" p) [a, b] [] pos) (mBin gRng2 ma mb) := by
  refine PI.imp (pi_range2 hg hm (pa_cons ha (pa_cons hb pa_nil hs4) hs3) hs hs2) fun σ H R h => ?_
  refine tR.bin (S := fun v u H2 => ∃ i j : Int, [v, u] = [.int i, .int j] ∧ (-(2 ^ 62) ≤ i ∧ i < 2 ^ 62 ∧ -(2 ^ 62) ≤ j ∧ j < 2 ^ 62) ∧ R (Itr i (j - i).toNat) H2) h fun x y z v u Hk H ρ f c hx hy e q => ?_
  unfold gRng2 at e
  split at e
  · split at e
    · rename_i i j h
      cases e
      rw [Bool.and_eq_true] at h
      have h1 := of_decide_eq_true h.1
      have h2 := of_decide_eq_true h.2
      exact ⟨i, j, by rw [show v = .int i from hx, show u = .int j from hy], ⟨h1.1, h1.2, h2.1, h2.2⟩, EQ.ret c q ⟨itr_of, rfl⟩⟩
    · cases e
  · cases e
/-- a new pair for each item -/
theorem pair_yld {K : PySem.W.Frag} {Hk H : Hp} {T : Addr} {x y : D} {v u : V} (s : Same Hk H) (n : H T = none) (hx : RepD K Hk x v) (hy : RepD K Hk y u) : ∃ Hk', Grow Hk H Hk' (upd H T (.tup [v, u])) ∧ RepD K Hk' (.tup [x, y]) (.ref T) := by
  have g : Grow Hk H (upd Hk T (.tup [v, u])) (upd H T (.tup [v, u])) := Grow.upd s n
  exact ⟨_, g, T, [v, u], rfl, SqT.of upd_same, RepDs.cons (hx.same g.kk) (RepDs.cons (hy.same g.kk) rfl)⟩
def enumD (ds : List D) : List D := (List.range ds.length).zipWith (fun (i : Nat) d => .tup [.int (i : Int), d]) ds
theorem enumD_get {ds : List D} {i : Nat} {d : D} (h : ds[i]? = some d) : (enumD ds)[i]? = some (.tup [.int (i : Int), d]) := by
  unfold enumD
  rw [List.getElem?_zipWith, h, List.getElem?_range (List.getElem?_eq_some_iff.mp h).1]
theorem enumD_length (ds : List D) : (enumD ds).length = ds.length := by
  unfold enumD
  rw [List.length_zipWith, List.length_range, Nat.min_self]
theorem ite_of {K : PySem.W.Frag} {Hk0 B : Hp} {a : Addr} {vs : List V} {ds : List D} (hL : ∀ H, Same B H → SqL K H a vs) (r : RepDs K Hk0 ds vs) : ItD K Hk0 B (Ite K a) (enumD ds) where
  go := fun H i s hi => by
    have hi : i < (enumD ds).length := hi
    rw [enumD_length] at hi
    obtain ⟨x, hx⟩ := get_lt (show i < vs.length by rw [← r.length]; exact hi)
    exact ⟨vs, x, hL H s, hx⟩
  stop := fun H s => ⟨vs, hL H s, by rw [enumD_length, r.length]; exact Nat.le_refl _⟩
  yld := fun Hk H i v H' hi k s sb ⟨T, x, ev, n, e, h⟩ => by
    subst ev e
    have hx := h vs (hL H sb)
    obtain ⟨d, hd⟩ := get_lt (show i < ds.length by rw [r.length]; exact (List.getElem?_eq_some_iff.mp hx).1)
    obtain ⟨w, hv, rv⟩ := r.get hd
    rw [hx] at hv; cases hv
    obtain ⟨Hk', g, q⟩ := pair_yld (x := .int (i : Int)) (v := .int (i : Nat)) s n rfl (rv.same k)
    exact ⟨_, Hk', enumD_get hd, g, q⟩
def zipD (xs ys : List D) : List D := List.zipWith (fun x y => .tup [x, y]) xs ys
theorem zipD_get {xs ys : List D} {i : Nat} {x y : D} (h : xs[i]? = some x) (h2 : ys[i]? = some y) : (zipD xs ys)[i]? = some (.tup [x, y]) := by
  unfold zipD
  rw [List.getElem?_zipWith, h, h2]
theorem itz_of {K : PySem.W.Frag} {Hk0 B : Hp} {a b : Addr} {vs us : List V} {xs ys : List D} (hL : ∀ H, Same B H → SqL K H a vs) (r : RepDs K Hk0 xs vs) (hL2 : ∀ H, Same B H → SqL K H b us) (r2 : RepDs K Hk0 ys us) : ItD K Hk0 B (Itz K a b) (zipD xs ys) where
  go := fun H i s hi => by
    have hi : i < (zipD xs ys).length := hi
    unfold zipD at hi
    rw [List.length_zipWith, r.length, r2.length] at hi
    obtain ⟨x, hx⟩ := get_lt (show i < vs.length by omega)
    obtain ⟨y, hy⟩ := get_lt (show i < us.length by omega)
    exact ⟨vs, us, x, y, hL H s, hL2 H s, hx, hy⟩
  stop := fun H s => ⟨vs, us, hL H s, hL2 H s, by unfold zipD; rw [List.length_zipWith, r.length, r2.length]; omega⟩
  yld := fun Hk H i v H' hi k s sb ⟨T, x, y, ev, n, e, h, h2⟩ => by
    subst ev e
    have hx := h vs (hL H sb)
    have hy := h2 us (hL2 H sb)
    obtain ⟨d, hd⟩ := get_lt (show i < xs.length by rw [r.length]; exact (List.getElem?_eq_some_iff.mp hx).1)
    obtain ⟨d2, hd2⟩ := get_lt (show i < ys.length by rw [r2.length]; exact (List.getElem?_eq_some_iff.mp hy).1)
    obtain ⟨w, hv, rv⟩ := r.get hd
    obtain ⟨w2, hv2, rv2⟩ := r2.get hd2
    rw [hx] at hv; cases hv
    rw [hy] at hv2; cases hv2
    obtain ⟨Hk', g, q⟩ := pair_yld s n (rv.same k) (rv2.same k)
    exact ⟨_, Hk', zipD_get hd hd2, g, q⟩
theorem itzT_of {K : PySem.W.Frag} {Hk0 B : Hp} {a b : Addr} {vs us : List V} {xs ys : List D} (hL : ∀ H, Same B H → SqT K H a vs) (r : RepDs K Hk0 xs vs) (hL2 : ∀ H, Same B H → SqT K H b us) (r2 : RepDs K Hk0 ys us) : ItD K Hk0 B (ItzT K a b) (zipD xs ys) where
  go := fun H i s hi => by
    have hi : i < (zipD xs ys).length := hi
    unfold zipD at hi
    rw [List.length_zipWith, r.length, r2.length] at hi
    obtain ⟨x, hx⟩ := get_lt (show i < vs.length by omega)
    obtain ⟨y, hy⟩ := get_lt (show i < us.length by omega)
    exact ⟨vs, us, x, y, hL H s, hL2 H s, hx, hy⟩
  stop := fun H s => ⟨vs, us, hL H s, hL2 H s, by unfold zipD; rw [List.length_zipWith, r.length, r2.length]; omega⟩
  yld := fun Hk H i v H' hi k s sb ⟨T, x, y, ev, n, e, h, h2⟩ => by
    subst ev e
    have hx := h vs (hL H sb)
    have hy := h2 us (hL2 H sb)
    obtain ⟨d, hd⟩ := get_lt (show i < xs.length by rw [r.length]; exact (List.getElem?_eq_some_iff.mp hx).1)
    obtain ⟨d2, hd2⟩ := get_lt (show i < ys.length by rw [r2.length]; exact (List.getElem?_eq_some_iff.mp hy).1)
    obtain ⟨w, hv, rv⟩ := r.get hd
    obtain ⟨w2, hv2, rv2⟩ := r2.get hd2
    rw [hx] at hv; cases hv
    rw [hy] at hv2; cases hv2
    obtain ⟨Hk', g, q⟩ := pair_yld s n (rv.same k) (rv2.same k)
    exact ⟨_, Hk', zipD_get hd hd2, g, q⟩
def mEnum (ma : M D) : M (List D) := fun ρ => (ma ρ).bind fun x ρ1 => match x with
  | .lst ds => .ok (enumD ds) ρ1
  | _ => .bad
def gZip : D → D → Option (List D)
  | .lst xs, .lst ys => some (zipD xs ys)
  | .tup xs, .tup ys => some (zipD xs ys)
  | _, _ => none
variable {elts : List Expr} {kk : Nat} {tpos : Pos}
theorem di_enum {ma : M D} (hm : X.mg "enumerate" = none) (ha : DE X cl W r a ma) (hg : Gl X "enumerate" := by rfl) (hs : starEach [a] X.env = [(false, eval a X.env)] := by rfl) : DI X cl W true r (.Tuple elts kk tpos) (.Call (.Name "enumerate" p) [a] [] pos) (mEnum ma) := by
  refine PI.imp (pi_enum hg hm (pa_cons ha pa_nil hs) hs) fun σ H R ⟨Hk, ρ, f, c, q⟩ => ?_
  have q' : EQ X.K cl W (RI X.K true) (r && true) σ Hk H ρ f ((ma ρ).bind fun x ρ1 => match x with
    | .lst ds => .ok (enumD ds) ρ1
    | _ => .bad) R := by rw [eq_true]; exact q
  refine ⟨Hk, ρ, f, c, (EQ.seq RD.p q').mono fun v H1 ⟨x, Hk1, ρ1, f1, c1, _, _, hx, q1⟩ => ?_⟩
  split at q1
  · obtain ⟨a, vs, rfl, q, rr⟩ := hx.1
    exact ⟨a, vs, rfl, SqL.of (c1.same _ _ q), EQ.ret c1 q1 ⟨ite_of (fun H' s' => SqL.of (s' _ _ q)) rr, rfl⟩⟩
  · exact q1.elim
theorem di_zip {ma mb : M D} (hm : X.mg "zip" = none) (ha : DE X cl W ra a ma) (hb : DE X cl W rb b mb) (hg : Gl X "zip" := by rfl)
    (hs : starEach [a, b] X.env = (false, eval a X.env) :: starEach [b] X.env := by rfl) (hs2 : starEach [b] X.env = (false, eval b X.env) :: starEach [] X.env := by rfl) (hpl : (backTo pos (starEach [b] X.env)).any (·.1) = false := by rfl) :
    DI X cl W true (ra && rb) (.Tuple elts kk tpos) (.Call (.Name "zip" p) [a, b] [] pos) (mBin gZip ma mb) := by
  refine PI.imp (pi_zipA hg hm (pa_cons ha (pa_cons hb pa_nil hs2) hs) hs hpl) fun σ H R h => ?_
  refine tR.bin (S := fun v u H2 => ∃ a b xs ys, [v, u] = [.ref a, .ref b] ∧ ((SqL X.K H2 a xs ∧ SqL X.K H2 b ys ∧ R (Itz X.K a b) H2) ∨ (SqT X.K H2 a xs ∧ SqT X.K H2 b ys ∧ R (ItzT X.K a b) H2))) h fun x y z v u Hk H ρ f c hx hy e q => ?_
  unfold gZip at e
  split at e
  · cases e
    obtain ⟨a, vs, rfl, q1, rr⟩ := hx
    obtain ⟨b, us, rfl, q2, rr'⟩ := hy
    exact ⟨a, b, vs, us, rfl, .inl ⟨SqL.of (c.same _ _ q1), SqL.of (c.same _ _ q2), EQ.ret c q ⟨itz_of (fun H' s' => SqL.of (s' _ _ q1)) rr (fun H' s' => SqL.of (s' _ _ q2)) rr', rfl⟩⟩⟩
  · cases e
    obtain ⟨a, vs, rfl, q1, rr⟩ := hx
    obtain ⟨b, us, rfl, q2, rr'⟩ := hy
    exact ⟨a, b, vs, us, rfl, .inr ⟨sqT_same c.same q1, sqT_same c.same q2, EQ.ret c q ⟨itzT_of (fun H' s' => sqT_same s' q1) rr (fun H' s' => sqT_same s' q2) rr', rfl⟩⟩⟩
  · cases e
def itmD (ks : List Key) (ds : List D) : List D := List.zipWith (fun (k : Key) d => .tup [match k with | .inl i => .int i | .inr z => .str z, d]) ks ds
theorem key_rep {K : PySem.W.Frag} {H : Hp} (k : Key) : RepD K H (match k with | .inl i => .int i | .inr z => .str z) (kV k) := by
  cases k <;> rfl
theorem zip_get {α β : Type} {ks : List α} {vs : List β} {i : Nat} {k : α} {v : β} (h : (ks.zip vs)[i]? = some (k, v)) : ks[i]? = some k ∧ vs[i]? = some v := by
  have e := List.getElem?_zip_eq_some.mp h
  exact e
theorem iti_of {K : PySem.W.Frag} {Hk0 B : Hp} {d : Addr} {od : Obj} {ks : List Key} {vs : List V} {ds : List D} (hL : B d = some (.frz od (.dK (ks.zip vs)))) (hl : ks.length = vs.length) (r : RepDs K Hk0 ds vs) : ItD K Hk0 B (Iti d od (ks.zip vs)) (itmD ks ds) where
  go := fun H i s hi => by
    have hi : i < (itmD ks ds).length := hi
    unfold itmD at hi
    rw [List.length_zipWith, r.length] at hi
    exact ⟨s _ _ hL, by rw [List.length_zip]; omega⟩
  stop := fun H s => ⟨s _ _ hL, by unfold itmD; rw [List.length_zipWith, List.length_zip, r.length]; exact Nat.le_refl _⟩
  yld := fun Hk H i v H' hi k s sb ⟨T, ky, w, h, ev, n, e⟩ => by
    subst ev e
    obtain ⟨h1, h2⟩ := zip_get h
    obtain ⟨x, hx⟩ := get_lt (show i < ds.length by rw [r.length]; exact (List.getElem?_eq_some_iff.mp h2).1)
    obtain ⟨w2, hv, rv⟩ := r.get hx
    rw [h2] at hv; cases hv
    obtain ⟨Hk', g, q⟩ := pair_yld (K := K) s n (key_rep ky) (rv.same k)
    exact ⟨_, Hk', by unfold itmD; rw [List.getElem?_zipWith, h1, hx], g, q⟩
def mItms (ma : M D) : M (List D) := fun ρ => (ma ρ).bind fun x ρ1 => match x with
  | .dk ks ds => .ok (itmD ks ds) ρ1
  | _ => .bad
theorem di_items {ma : M D} {apos cpos : Pos} (ha : DE X cl W r a ma) (hbase : attributeBase a "items" X.env (eval a X.env) = eval a X.env := by rfl) (hline : (apos.endLine == cpos.line) = true := by rfl) :
    DI X cl W true r (.Tuple elts kk tpos) (.Call (.Attribute a "items" apos) [] [] cpos) (mItms ma) := by
  refine PI.imp (pi_items ha hbase hline) fun σ H R ⟨Hk, ρ, f, c, q⟩ => ?_
  have q' : EQ X.K cl W (RI X.K true) (r && true) σ Hk H ρ f ((ma ρ).bind fun x ρ1 => match x with
    | .dk ks ds => .ok (itmD ks ds) ρ1
    | _ => .bad) R := by rw [eq_true]; exact q
  refine ⟨Hk, ρ, f, c, (EQ.seq RD.p q').mono fun v H1 ⟨x, Hk1, ρ1, f1, c1, _, _, hx, q1⟩ => ?_⟩
  split at q1
  · obtain ⟨a, vs, od, rfl, q, hl, rr⟩ := hx.1
    exact ⟨a, od, _, rfl, c1.same _ _ q, EQ.ret c1 q1 ⟨iti_of q hl rr, rfl⟩⟩
  · exact q1.elim
end
end DL
set_option Elab.async false
set_option linter.all false
set_option maxRecDepth 100000
/-! EG: targets, list comprehensions on data. -/
namespace DL
open PySem L2 PySem.Spec PyProof.Rows RZ
/-- σ' is σ but at the places is -/
def Off (is : List Nat) (σ σ' : St) : Prop := σ'.length = σ.length ∧ ∀ i, i ∉ is → σ'[i]? = σ[i]?
theorem Off.refl {is : List Nat} {σ : St} : Off is σ σ := ⟨rfl, fun _ _ => rfl⟩
theorem Off.trans {is : List Nat} {σ σ1 σ2 : St} (a : Off is σ σ1) (b : Off is σ1 σ2) : Off is σ σ2 := ⟨b.1.trans a.1, fun i h => (b.2 i h).trans (a.2 i h)⟩
theorem Off.mono {is js : List Nat} {σ σ1 : St} (a : Off is σ σ1) (h : ∀ i ∈ is, i ∈ js) : Off js σ σ1 := ⟨a.1, fun i n => a.2 i fun z => n (h i z)⟩
theorem Off.set {σ : St} {i : Nat} {v : Option V} : Off [i] σ (σ.set i v) := ⟨List.length_set .., fun j h => by
  rw [List.getElem?_set_ne]
  intro e
  exact h (by rw [e]; exact List.mem_cons_self)⟩
section
variable {K : PySem.W.Frag} {cl : Wld} {Hk H : Hp} {ρ : Env} {σ : St} {f : Fs}
def Fs.put (f : Fs) (i : Nat) (g : Fp) : Fs := fun j => if j = i then g else f j
theorem Fs.put_same {f : Fs} {i : Nat} {g : Fp} : f.put i g i = g := if_pos rfl
theorem Fs.put_ne {f : Fs} {i j : Nat} {g : Fp} (h : j ≠ i) : f.put i g j = f j := if_neg h
theorem Fs.put_all {f : Fs} {i : Nat} {g : Fp} {a : Addr} (h : (f.put i g).all a) : a ∈ g ∨ f.all a := by
  obtain ⟨j, hj⟩ := h
  by_cases e : j = i
  · subst e; rw [Fs.put_same] at hj; exact .inl hj
  · rw [Fs.put_ne e] at hj; exact .inr ⟨j, hj⟩
/-- a slot is stored -/
theorem Cfg.set {i : Nat} {o : O} {v : V} {g : Fp} (c : Cfg K cl Hk H ρ σ f) (hi : i < ρ.length) (r : RepO K cl Hk H o v g) (ap : Apart Hk H g f) : Cfg K cl Hk H (ρ.set i (some o)) (σ.set i (some v)) (f.put i g) := by
  refine ⟨by rw [List.length_set, List.length_set]; exact c.len, fun j o' e => ?_, fun j => ?_, fun j k a h1 h2 => ?_, fun j a h => ?_, c.same, c.bs⟩
  · by_cases hj : j = i
    · subst hj
      rw [List.getElem?_set_self hi] at e
      cases e
      refine ⟨v, List.getElem?_set_self (by rw [← c.len]; exact hi), ?_⟩
      rw [Fs.put_same]; exact r
    · rw [List.getElem?_set_ne (Ne.symm hj)] at e
      obtain ⟨w, e1, r1⟩ := c.rep j o' e
      refine ⟨w, by rw [List.getElem?_set_ne (Ne.symm hj)]; exact e1, ?_⟩
      rw [Fs.put_ne hj]; exact r1
  · by_cases hj : j = i
    · subst hj; rw [Fs.put_same]; exact ap.nd
    · rw [Fs.put_ne hj]; exact c.nd j
  · by_cases hj : j = i <;> by_cases hk : k = i
    · rw [hj, hk]
    · subst hj
      rw [Fs.put_same] at h1
      rw [Fs.put_ne hk] at h2
      exact absurd ⟨k, h2⟩ (ap.off a h1).2.2
    · subst hk
      rw [Fs.put_same] at h2
      rw [Fs.put_ne hj] at h1
      exact absurd ⟨j, h1⟩ (ap.off a h2).2.2
    · rw [Fs.put_ne hj] at h1
      rw [Fs.put_ne hk] at h2
      exact c.dj j k a h1 h2
  · by_cases hj : j = i
    · subst hj; rw [Fs.put_same] at h; exact ⟨(ap.off a h).1, (ap.off a h).2.1⟩
    · rw [Fs.put_ne hj] at h; exact c.off j a h
/-- slots forgotten, in the own words and in the frame -/
theorem Cfg.less {ρ' : Env} {σ' : St} (c : Cfg K cl Hk H ρ σ f) (hl : ρ'.length = σ'.length) (h : ∀ (i : Nat) (o : O), ρ'[i]? = some (some o) → ρ[i]? = some (some o) ∧ ∀ v : V, σ[i]? = some (some v) → σ'[i]? = some (some v)) : Cfg K cl Hk H ρ' σ' f :=
  ⟨hl, fun i o e => by
    obtain ⟨e1, k⟩ := h i o e
    obtain ⟨v, e2, r⟩ := c.rep i o e1
    exact ⟨v, k v e2, r⟩, c.nd, c.dj, c.off, c.same, c.bs⟩
def wipeE (ρ : Env) : List Nat → Env
  | [] => ρ
  | v :: vs => (wipeE ρ vs).set v none
theorem wipeE_length (ρ : Env) : ∀ vs : List Nat, (wipeE ρ vs).length = ρ.length
  | [] => rfl
  | v :: vs => by unfold wipeE; rw [List.length_set, wipeE_length ρ vs]
theorem wipeE_some {ρ : Env} {i : Nat} {x : O} : ∀ {vs : List Nat}, (wipeE ρ vs)[i]? = some (some x) → ρ[i]? = some (some x) ∧ i ∉ vs
  | [], h => ⟨h, by simp⟩
  | v :: vs, h => by
    unfold wipeE at h
    by_cases hi : v = i
    · subst hi
      by_cases hv : v < (wipeE ρ vs).length
      · rw [List.getElem?_set_self hv] at h; cases h
      · rw [List.getElem?_eq_none (by rw [List.length_set]; omega)] at h; cases h
    · rw [List.getElem?_set_ne hi] at h
      obtain ⟨h1, h2⟩ := wipeE_some h
      refine ⟨h1, fun z => ?_⟩
      rcases List.mem_cons.mp z with z | z
      · exact hi z.symm
      · exact h2 z
theorem wipeE_off {ρ : Env} {i : Nat} : ∀ {vs : List Nat}, i ∉ vs → (wipeE ρ vs)[i]? = ρ[i]?
  | [], _ => rfl
  | v :: vs, h => by
    rw [List.mem_cons, not_or] at h
    unfold wipeE
    rw [List.getElem?_set_ne (fun e => h.1 e.symm), wipeE_off h.2]
theorem wipe_off {σ : St} {i : Nat} : ∀ {vs : List Nat}, i ∉ vs → (wipe σ vs)[i]? = σ[i]?
  | [], _ => rfl
  | v :: vs, h => by
    rw [List.mem_cons, not_or] at h
    unfold wipe
    rw [List.getElem?_set_ne (fun e => h.1 e.symm), wipe_off h.2]
theorem wipe_on {σ : St} {i : Nat} : ∀ {vs : List Nat}, i ∈ vs → i < σ.length → (wipe σ vs)[i]? = some none
  | v :: vs, h, hl => by
    unfold wipe
    by_cases e : v = i
    · subst e
      exact List.getElem?_set_self (by rw [wipe_length]; exact hl)
    · rw [List.getElem?_set_ne e]
      rcases List.mem_cons.mp h with z | z
      · exact absurd z.symm e
      · exact wipe_on z hl
theorem wipe_eq {σ σ' : St} {vs : List Nat} (h : Off vs σ σ') : wipe σ' vs = wipe σ vs := by
  apply List.ext_getElem?
  intro i
  by_cases hi : i ∈ vs
  · by_cases hl : i < σ.length
    · rw [wipe_on hi hl, wipe_on hi (by rw [h.1]; exact hl)]
    · rw [List.getElem?_eq_none (by rw [wipe_length, h.1]; omega), List.getElem?_eq_none (by rw [wipe_length]; omega)]
  · rw [wipe_off hi, wipe_off hi]
    exact h.2 i hi
theorem wipe_off_of {σ : St} {vs : List Nat} : Off vs σ (wipe σ vs) := ⟨wipe_length σ vs, fun _ h => wipe_off h⟩
theorem Cfg.wipe (c : Cfg K cl Hk H ρ σ f) (vs : List Nat) : Cfg K cl Hk H (wipeE ρ vs) (L2.wipe σ vs) f :=
  c.less (by rw [wipeE_length, wipe_length]; exact c.len) fun i o e => by
    obtain ⟨e1, n⟩ := wipeE_some e
    exact ⟨e1, fun v e2 => by rw [wipe_off n]; exact e2⟩
/-! ### targets -/
variable (K cl) in
def tG (t : D → Env → Option Env) (is : List Nat) : TG := fun v σ H Q => ∃ Hk ρ f d ρ', Cfg K cl Hk H ρ σ f ∧ RepD K Hk d v ∧ t d ρ = some ρ' ∧ ∀ σ' f', Cfg K cl Hk H ρ' σ' f' → Off is σ σ' → (∀ a, f'.all a → f.all a) → Q σ' H
variable (K cl) in
def tGs (t : List D → Env → Option Env) (is : List Nat) : TGs := fun vs σ H Q => ∃ Hk ρ f ds ρ', Cfg K cl Hk H ρ σ f ∧ RepDs K Hk ds vs ∧ t ds ρ = some ρ' ∧ ∀ σ' f', Cfg K cl Hk H ρ' σ' f' → Off is σ σ' → (∀ a, f'.all a → f.all a) → Q σ' H
end
abbrev DG (X : Cx) (cl : Wld) (is : List Nat) (tg : Expr) (t : D → Env → Option Env) : Prop := PG X tg (tG X.K cl t is)
abbrev DGs (X : Cx) (cl : Wld) (is : List Nat) (tgs : List Expr) (t : List D → Env → Option Env) : Prop := PGs X tgs (tGs X.K cl t is)
theorem PG.imp {X : Cx} {tg : Expr} {t t' : TG} (h : PG X tg t) (k : ∀ v σ H Q, t' v σ H Q → t v σ H Q) : PG X tg t' := ⟨fun pins s σ H v u Q I r q => h.run pins s σ H v u Q I r (k v σ H Q q)⟩
theorem PGs.imp {X : Cx} {tg : List Expr} {t t' : TGs} (h : PGs X tg t) (k : ∀ v σ H Q, t' v σ H Q → t v σ H Q) : PGs X tg t' := ⟨fun pins s σ H v u Q I r q => h.run pins s σ H v u Q I r (k v σ H Q q)⟩
def setE (i : Nat) (o : O) (ρ : Env) : Option Env := if i < ρ.length then some (ρ.set i (some o)) else none
def tgN (i : Nat) : D → Env → Option Env := fun d ρ => setE i (.d d) ρ
def tgNil : List D → Env → Option Env
  | [], ρ => some ρ
  | _ :: _, _ => none
def tgCons (t : D → Env → Option Env) (ts : List D → Env → Option Env) : List D → Env → Option Env
  | d :: ds, ρ => (t d ρ).bind (ts ds)
  | [], _ => none
def tgT (n : Nat) (ts : List D → Env → Option Env) : D → Env → Option Env
  | .tup ds, ρ => if ds.length = n then ts ds ρ else none
  | _, _ => none
section
variable {X : Cx} {cl : Wld} {W : WX} {r ra rb rc : Bool} {tg e a b : Expr} {pos p : Pos} {is js : List Nat}
theorem dg_n (i : Nat) {x : Str} (hN : X.N.Nodup) (hi : X.N[i]? = some x := by rfl) (hx : Loc X.env.scope x := by first | exact .inl rfl | exact .inr rfl) (hf : X.fn x = true ∨ X.env.scope.names.lookup x = some .local := by first | exact .inl rfl | exact .inr rfl) :
    DG X cl [i] (.Name x pos) (tgN i) := PG.imp (pg_name hN hi hx hf) fun v σ H Q ⟨Hk, ρ, f, d, ρ', c, hd, e, k⟩ => by
  unfold tgN setE at e
  split at e
  · rename_i hl
    cases e
    refine k _ _ (c.set hl (o := .d d) (g := []) ⟨hd, rfl⟩ .nil) Off.set fun a h => ?_
    rcases Fs.put_all h with z | z
    · cases z
    · exact z
  · cases e
theorem dgs_nil : DGs X cl [] [] tgNil := PGs.imp pgs_nil fun vs σ H Q ⟨Hk, ρ, f, ds, ρ', c, hd, e, k⟩ => by
  cases ds with
  | nil => cases e; exact ⟨hd, k _ _ c .refl fun _ h => h⟩
  | cons _ _ => cases e
theorem dgs_cons {es : List Expr} {t : D → Env → Option Env} {ts : List D → Env → Option Env} (h1 : DG X cl is e t) (h2 : DGs X cl js es ts) (hs : (assignEach (e :: es) X.env).map (·.2) = assign e X.env :: (assignEach es X.env).map (·.2) := by rfl) :
    DGs X cl (is ++ js) (e :: es) (tgCons t ts) := PGs.imp (pgs_cons h1 h2 hs) fun vs σ H Q ⟨Hk, ρ, f, ds, ρ', c, hd, e, k⟩ => by
  cases ds with
  | nil => cases e
  | cons d ds =>
    obtain ⟨v, vr, rfl, h1, h2⟩ := hd
    have e : (t d ρ).bind (ts ds) = some ρ' := e
    cases z : t d ρ with
    | none => rw [z] at e; cases e
    | some ρ1 =>
      rw [z] at e
      exact ⟨v, vr, rfl, Hk, ρ, f, d, ρ1, c, h1, z, fun σ1 f1 c1 o1 s1 => ⟨Hk, ρ1, f1, ds, ρ', c1, h2, e, fun σ2 f2 c2 o2 s2 =>
        k σ2 f2 c2 ((o1.mono fun i h => List.mem_append_left _ h).trans (o2.mono fun i h => List.mem_append_right _ h)) fun a h => s1 a (s2 a h)⟩⟩
theorem dg_t {es : List Expr} {kk n : Nat} {ts : List D → Env → Option Env} (h : DGs X cl is es ts) (hc : X.calm = true := by rfl) (hn : (assignEach es X.env).length = n := by rfl) (hst : (assignEach es X.env).findIdx? (·.1) = none := by rfl) :
    DG X cl is (.Tuple es kk pos) (tgT n ts) := PG.imp (pg_tup hc h hn hst) fun v σ H Q ⟨Hk, ρ, f, d, ρ', c, hd, e, k⟩ => by
  cases d with
  | tup ds =>
    have e : (if ds.length = n then ts ds ρ else none) = some ρ' := e
    split at e
    · rename_i hl
      obtain ⟨a, vs, rfl, q, rr⟩ := hd
      exact ⟨a, vs, rfl, sqT_same c.same q, by rw [← rr.length]; exact hl, Hk, ρ, f, ds, ρ', c, rr, e, k⟩
    · cases e
  | _ => cases e
/-! ### list comprehensions -/
def mYes : M Bool := fun ρ => .ok true ρ
def lcX (own : List Nat) (t : D → Env → Option Env) (mc : M Bool) (me : M D) : List D → Env → Res (List D)
  | [], ρ => .ok [] ρ
  | x :: xs, ρ => match t x (wipeE ρ own) with
    | none => .bad
    | some ρ1 => match mc ρ1 with
      | .ok true ρ2 => match me ρ2 with
        | .ok y ρ3 => (lcX own t mc me xs ρ3).bind fun ys ρ4 => .ok (y :: ys) ρ4
        | _ => .bad
      | .ok false ρ2 => lcX own t mc me xs ρ2
      | _ => .bad
/-- the comprehension's own slots as they were (where they held data), all else as it is -/
def restE (own : List Nat) (ρ0 ρ : Env) : Env := (List.range ρ.length).map fun i => if i ∈ own then (match ρ0[i]? with
    | some (some (.d x)) => some (.d x)
    | _ => none) else (match ρ[i]? with
    | some o => o
    | none => none)
theorem restE_length (own : List Nat) (ρ0 ρ : Env) : (restE own ρ0 ρ).length = ρ.length := by unfold restE; rw [List.length_map, List.length_range]
theorem restE_some {own : List Nat} {ρ0 ρ : Env} {i : Nat} {o : O} (h : (restE own ρ0 ρ)[i]? = some (some o)) : (i ∈ own ∧ ∃ x, o = .d x ∧ ρ0[i]? = some (some (.d x))) ∨ (i ∉ own ∧ ρ[i]? = some (some o)) := by
  unfold restE at h
  rw [List.getElem?_map] at h
  by_cases hl : i < ρ.length
  · rw [List.getElem?_range hl] at h
    have h := Option.some.inj h
    dsimp only at h
    split at h
    · rename_i hi
      split at h
      · rename_i x e
        cases h
        exact .inl ⟨hi, x, rfl, e⟩
      · cases h
    · rename_i hi
      split at h
      · rename_i o' e
        subst h
        exact .inr ⟨hi, e⟩
      · cases h
  · rw [List.getElem?_eq_none (by rw [List.length_range]; omega)] at h; cases h
def endX {α : Type} (g : List D → α) (own : List Nat) (t : D → Env → Option Env) (mc : M Bool) (me : M D) (xs : List D) : M α := fun ρ1 => match lcX own t mc me xs ρ1 with
  | .ok ys ρ2 => if ys.length ≤ 16777216 then .ok (g ys) (restE own ρ1 ρ2) else .bad
  | _ => .bad
def mLcX (own : List Nat) (mi : M (List D)) (t : D → Env → Option Env) (mc : M Bool) (me : M D) : M D := fun ρ => (mi ρ).bind fun xs ρ1 => endX .lst own t mc me xs ρ1
def mLcXO (own : List Nat) (mi : M (List D)) (t : D → Env → Option Env) (mc : M Bool) (me : M D) : M O := fun ρ => (mi ρ).bind fun xs ρ1 => endX (fun ys => .ls (ys.map O.d)) own t mc me xs ρ1
/-- how a new list of data is told: as data, as an own thing -/
structure NewL {α : Type} (K : PySem.W.Frag) (cl : Wld) (R : Rl α V) (g : List D → α) : Prop where
  tell : ∀ (W : WX) Hk H ρ σ f r Hk0 H0 (f0 : Fs) (ys : List D) (p : Addr) (vs : List V) (Q : VK), Cfg K cl Hk H ρ σ f → H p = some (.lst vs) → Hk p = none → ¬ f.all p → RepDs K Hk ys vs → Step Hk0 H0 f0.all Hk H f.all → H0 p = none →
    (∀ b gp Hk' H' f', Cfg K cl Hk' H' ρ σ f' → Apart Hk' H' gp f' → Step Hk0 H0 f0.all Hk' H' (fun x => x ∈ gp ∨ f'.all x) → (r = true → f' = f ∧ H' = H) → R Hk' H' (g ys) b gp → Q b H') → Q (.ref p) H
theorem newL_d {K : PySem.W.Frag} {cl : Wld} : NewL K cl (RD K) .lst where
  tell := fun W Hk H ρ σ f r Hk0 H0 f0 ys p vs Q c hp hk hf rr st h0 k => by
    have s1 : Same Hk (upd Hk p (.lst vs)) := same_upd hk
    have s2 : Same (upd Hk p (.lst vs)) H := fun b u e => by
      by_cases hb : b = p
      · subst hb; rw [upd_same] at e; rw [hp]; exact e
      · rw [upd_ne hb] at e; exact c.same _ _ e
    have c' : Cfg K cl (upd Hk p (.lst vs)) H ρ σ f := ⟨c.len, fun i o e => by
      obtain ⟨v, a, b⟩ := c.rep i o e
      exact ⟨v, a, b.keep s1 o v (f i) fun x hx u q => q⟩, c.nd, c.dj, fun i a h => ⟨by rw [upd_ne (fun e => hf ⟨i, by rw [← e]; exact h⟩)]; exact (c.off i a h).1, (c.off i a h).2⟩, s2, c.bs.trans s1⟩
    refine k (.ref p) [] _ H f c' .nil (Apart.step_nil ⟨st.kk.trans s1, st.fr, fun a h => ?_, st.ow⟩) (fun _ => ⟨rfl, rfl⟩) ⟨⟨p, vs, rfl, upd_same, rr.same s1⟩, rfl⟩
    by_cases ha : a = p
    · subst ha; exact .inr (.inl h0)
    · rw [upd_ne ha] at h; exact st.nw a h
theorem newL_o {K : PySem.W.Frag} {cl : Wld} : NewL K cl (RO K cl) (fun ys => .ls (ys.map O.d)) where
  tell := fun W Hk H ρ σ f r Hk0 H0 f0 ys p vs Q c hp hk hf rr st h0 k => by
    refine k (.ref p) [p] Hk H f c ⟨by simp, fun a ha => ?_⟩ ⟨st.kk, st.fr, st.nw, fun a h => ?_⟩ (fun _ => ⟨rfl, rfl⟩) ⟨p, vs, [], rfl, hp, RepOs.ofDs rr, rfl⟩
    · have e : a = p := by simpa using ha
      subst e
      exact ⟨hk, by rw [hp]; (intro z; cases z), hf⟩
    · rcases h with h | h
      · have e : a = p := by simpa using h
        subst e; exact .inl h0
      · exact st.ow a h
/-- the reading of a comprehension, by turns -/
theorem lcX_read {α : Type} {R : Rl α V} {g : List D → α} {own : List Nat} {t : D → Env → Option Env} {mc : M Bool} {me : M D} {W0 : WX} {rc re : Bool} {σ : St} {Hk1 H1 : Hp} {ρ1 : Env} {f1 : Fs} {J : It} {xs : List D} {Q : VK} {K : PySem.W.Frag}
    (NL : NewL K cl R g) (c1 : Cfg K cl Hk1 H1 ρ1 σ f1) (hJ : ItD K Hk1 Hk1 J xs) (q : EQ K cl W R false σ Hk1 H1 ρ1 f1 (endX g own t mc me xs ρ1) Q) (D0 : Addr) (n0 : H1 D0 = none) :
    ∃ Wv : Nat → Nat → Hp → Prop, (∃ m, Wv 0 m (upd H1 D0 (.lst []))) ∧ ∀ i m H, Wv i m H → (J.stop i H ∧ Q (.ref D0) H) ∨ (J.go i H ∧ ∃ Nx : Hp → Prop, (∀ H', Nx H' → ∃ m', m' < m ∧ Wv (i + 1) m' H') ∧ ∀ x H', J.yld i H x H' →
      tG K cl t own x (L2.wipe σ own) H' fun σ2 H2 => L2.wipe σ2 own = L2.wipe σ own ∧ tR K cl W0 RT rc mc σ2 H2 fun b H3 => if b = true then tR K cl W0 (RD K) re me σ2 H3 fun y H4 => ∃ acc, H4 D0 = some (.lst acc) ∧ acc.length < sizeLine ∧ Nx (upd H4 D0 (.lst (acc ++ [y]))) else Nx H3) := by
  unfold endX at q
  cases z : lcX own t mc me xs ρ1 with
  | bad => rw [z] at q; exact q.elim
  | exc _ _ => rw [z] at q; exact q.elim
  | ok ys ρ2 =>
    rw [z] at q
    by_cases hl : ys.length ≤ 16777216
    · have q : EQ K cl W R false σ Hk1 H1 ρ1 f1 (.ok (g ys) (restE own ρ1 ρ2)) Q := by simpa only [if_pos hl] using q
      let St' : Nat → Hp → Prop := fun i H => ∃ Hk ρ f dn vs rest, Cfg K cl Hk H (wipeE ρ own) (L2.wipe σ own) f ∧ ρ.length = ρ1.length ∧ Step Hk1 H1 f1.all Hk H f.all ∧ H D0 = some (.lst vs) ∧ Hk D0 = none ∧ ¬ f.all D0 ∧ RepDs K Hk dn vs ∧ lcX own t mc me (xs.drop i) ρ = .ok rest ρ2 ∧ dn ++ rest = ys
      have hs1 : Same H1 (upd H1 D0 (.lst [])) := same_upd n0
      refine ⟨fun i m H => m = xs.length - i ∧ i ≤ xs.length ∧ St' i H, ⟨xs.length, by simp, Nat.zero_le _, Hk1, ρ1, f1, [], [], ys, ?_, rfl, ?_, upd_same, none_of_same c1.same n0, fun ⟨j, hj⟩ => (c1.off j _ hj).2 n0, rfl, by simpa using z, rfl⟩, ?_⟩
      · exact Cfg.wipe (c1.grow ⟨.refl _, hs1, c1.same.trans hs1, fun _ h => .inl h⟩) own
      · exact ⟨.refl _, fun a u _ e => hs1 a u e, fun a h => .inl h, fun a h => .inr h⟩
      · rintro i m H ⟨rfl, hi, Hk, ρ, f, dn, vs, rest, c, hlen, st, hD, hkD, hfD, rr, hz, hy⟩
        have sB : Same Hk1 H := st.kk.trans c.same
        by_cases hlt : i < xs.length
        · obtain ⟨x0, hx0⟩ := get_lt hlt
          have hdrop : xs.drop i = x0 :: xs.drop (i + 1) := by
            rw [List.drop_eq_getElem_cons hlt]
            rw [List.getElem?_eq_getElem hlt] at hx0
            cases hx0; rfl
          refine .inr ⟨hJ.go H i sB hlt, St' (i + 1), fun H' p' => ⟨xs.length - (i + 1), by omega, rfl, hlt, p'⟩, fun x H' y => ?_⟩
          obtain ⟨d, Hk', hd, gr, rd⟩ := hJ.yld Hk H i x H' hlt st.kk c.same sB y
          rw [hx0] at hd; cases hd
          rw [hdrop] at hz
          unfold lcX at hz
          split at hz
          · cases hz
          · rename_i ρa ea
            have c' := c.grow gr
            have hD' : H' D0 = some (.lst vs) := gr.hh _ _ hD
            have hkD' : Hk' D0 = none := by
              cases w : Hk' D0 with
              | none => rfl
              | some u =>
                rcases gr.nw D0 (by rw [w]; intro z; cases z) with z | z
                · exact absurd hkD z
                · rw [hD] at z; cases z
            refine ⟨Hk', wipeE ρ own, f, x0, ρa, c', rd, ea, fun σ2 f2 c2 off sub => ?_⟩
            have hw : L2.wipe σ2 own = L2.wipe σ own := (wipe_eq off).trans (wipe_eq wipe_off_of)
            refine ⟨hw, Hk', ρa, f2, c2, ?_⟩
            have hf2 : ¬ f2.all D0 := fun h => hfD (sub _ h)
            have st2 : Step Hk1 H1 f1.all Hk' H' f2.all := (st.trans (gr.step (P := f.all))).weak (fun _ h => h) sub
            have la : ρa.length = ρ1.length := by
              rw [c2.len, off.1, wipe_length, ← c1.len]
            -- what is carried over an evaluation
            have carry : ∀ {Hka Ha Hkb Hb : Hp} {fa fb : Fs} {ws : List V}, Cfg K cl Hka Ha ρa σ2 fa ∨ True → Step Hka Ha fa.all Hkb Hb fb.all → Ha D0 = some (.lst ws) → Hka D0 = none → ¬ fa.all D0 → Hb D0 = some (.lst ws) ∧ Hkb D0 = none ∧ ¬ fb.all D0 := by
              intro Hka Ha Hkb Hb fa fb ws _ s hA hkA hfA
              refine ⟨s.fr _ _ hfA hA, ?_, fun h => ?_⟩
              · cases w : Hkb D0 with
                | none => rfl
                | some u =>
                  rcases s.nw D0 (by rw [w]; intro z; cases z) with z | z | z
                  · exact absurd hkA z
                  · rw [hA] at z; cases z
                  · exact absurd z hfA
              · rcases s.ow D0 h with z | z
                · rw [hA] at z; cases z
                · exact hfA z
            cases zc : mc ρa with
            | bad => rw [zc] at hz; cases hz
            | exc _ _ => rw [zc] at hz; cases hz
            | ok b ρb =>
              rw [zc] at hz
              intro b' gp Hk3 H3 f3 c3 _ s3' _ eb
              obtain ⟨rfl, rfl⟩ := eb
              have s3 : Step Hk' H' f2.all Hk3 H3 f3.all := Apart.step_nil' s3'
              obtain ⟨hD3, hkD3, hfD3⟩ := carry (.inr trivial) s3 hD' hkD' hf2
              have lb : ρb.length = ρ1.length := by rw [c3.len, ← c2.len]; exact la
              cases b with
              | false =>
                refine iteF ?_
                exact ⟨Hk3, ρb, f3, dn, vs, rest, by rw [← hw]; exact Cfg.wipe c3 own, lb, st2.trans s3, hD3, hkD3, hfD3, rr.same (gr.kk.trans s3.kk), hz, hy⟩
              | true =>
                refine iteT ⟨Hk3, ρb, f3, c3, ?_⟩
                have hz : (match me ρb with
                  | .ok y ρ3 => (lcX own t mc me (xs.drop (i + 1)) ρ3).bind fun ys ρ4 => .ok (y :: ys) ρ4
                  | _ => .bad) = .ok rest ρ2 := hz
                cases ze : me ρb with
                | bad => rw [ze] at hz; cases hz
                | exc _ _ => rw [ze] at hz; cases hz
                | ok y0 ρc =>
                  rw [ze] at hz
                  have hz : (lcX own t mc me (xs.drop (i + 1)) ρc).bind (fun ys ρ4 => .ok (y0 :: ys) ρ4) = .ok rest ρ2 := hz
                  intro v gv Hk4 H4 f4 c4 _ s4' _ rv
                  obtain ⟨rv, rfl⟩ := rv
                  have s4 : Step Hk3 H3 f3.all Hk4 H4 f4.all := Apart.step_nil' s4'
                  obtain ⟨hD4, hkD4, hfD4⟩ := carry (.inr trivial) s4 hD3 hkD3 hfD3
                  cases zr : lcX own t mc me (xs.drop (i + 1)) ρc with
                  | bad => rw [zr] at hz; cases hz
                  | exc _ _ => rw [zr] at hz; cases hz
                  | ok rest' ρe =>
                    rw [zr] at hz
                    have hz : Res.ok (y0 :: rest') ρe = .ok rest ρ2 := hz
                    cases hz
                    have hln : dn.length < ys.length := by rw [← hy, List.length_append, List.length_cons]; omega
                    refine ⟨vs, hD4, by rw [← rr.length, sizeLine_eq]; omega, ?_⟩
                    have su : ∀ a u, a ≠ D0 → H4 a = some u → upd H4 D0 (.lst (vs ++ [v])) a = some u := fun a u n e => by rw [upd_ne n]; exact e
                    have c5 : Cfg K cl Hk4 (upd H4 D0 (.lst (vs ++ [v]))) ρc σ2 f4 := ⟨c4.len, fun j o e => by
                      obtain ⟨w, e1, r1⟩ := c4.rep j o e
                      exact ⟨w, e1, r1.keep (.refl _) o w (f4 j) fun a ha u q => su a u (fun z => hfD4 ⟨j, by rw [← z]; exact ha⟩) q⟩, c4.nd, c4.dj, fun j a h => ⟨(c4.off j a h).1, by
                        rw [upd_ne (fun z => hfD4 ⟨j, by rw [← z]; exact h⟩)]; exact (c4.off j a h).2⟩, fun a u e => su a u (fun z => by rw [z, hkD4] at e; cases e) (c4.same a u e), c4.bs⟩
                    refine ⟨Hk4, ρc, f4, dn ++ [y0], vs ++ [v], rest', by rw [← hw]; exact Cfg.wipe c5 own, ?_, ?_, upd_same, hkD4, hfD4, ?_, zr, by rw [← hy]; simp⟩
                    · rw [c4.len, ← c3.len]; exact lb
                    · have s5 := (st2.trans s3).trans s4
                      refine ⟨s5.kk, fun a u n e => ?_, s5.nw, s5.ow⟩
                      exact su a u (fun z => by rw [z, n0] at e; cases e) (s5.fr a u n e)
                    · exact (rr.same (gr.kk.trans (s3.kk.trans s4.kk))).app (RepDs.cons rv rfl)
        · have e : i = xs.length := by omega
          subst e
          refine .inl ⟨hJ.stop H sB, ?_⟩
          rw [List.drop_length] at hz
          have hz : Res.ok [] ρ = .ok rest ρ2 := hz
          injection hz with e1 e2
          rw [← e1, List.append_nil] at hy
          rw [← e2] at q
          -- the frame's slots again
          let f' : Fs := fun j => if j ∈ own then [] else f j
          have sub : ∀ a, Fs.all f' a → Fs.all f a := fun a ⟨j, hj⟩ => by
            have hj : a ∈ (if j ∈ own then [] else f j) := hj
            split at hj
            · cases hj
            · exact ⟨j, hj⟩
          have mem : ∀ j a, a ∈ f' j → a ∈ f j := fun j a hj => by
            have hj : a ∈ (if j ∈ own then [] else f j) := hj
            split at hj
            · cases hj
            · exact hj
          have cF : Cfg K cl Hk H (restE own ρ1 ρ) σ f' := by
            refine ⟨by rw [restE_length, hlen, c1.len], fun j o e => ?_, fun j => ?_, fun j k a h1 h2 => c.dj j k a (mem j a h1) (mem k a h2), fun j a h => c.off j a (mem j a h), c.same, c.bs⟩
            · rcases restE_some e with ⟨hj, x, rfl, e1⟩ | ⟨hj, e1⟩
              · obtain ⟨v, e2, r2⟩ := c1.rep j _ e1
                exact ⟨v, e2, RepD.same st.kk x v r2.1, if_pos hj⟩
              · obtain ⟨v, e2, r2⟩ := c.rep j o (by rw [wipeE_off hj]; exact e1)
                rw [wipe_off hj] at e2
                refine ⟨v, e2, ?_⟩
                show RepO K cl Hk H o v (if j ∈ own then [] else f j)
                rw [if_neg hj]; exact r2
            · show (if j ∈ own then [] else f j).Nodup
              split
              · exact List.nodup_nil
              · exact c.nd j
          refine NL.tell W Hk H (restE own ρ1 ρ) σ f' false Hk1 H1 f1 dn D0 vs Q cF hD hkD (fun h => hfD (sub _ h)) rr (st.weak (fun _ h => h) sub) n0 fun b gp Hk' H' f'' c' ap s' _ x => ?_
          rw [hy] at x
          exact q b gp Hk' H' f'' c' ap s' (fun z => Bool.noConfusion z) x
    · simp only [if_neg hl] at q
      exact q.elim
/-- .. where nothing but new things come -/
def lcR (own : List Nat) (t : D → Env → Option Env) (mc : M Bool) (me : M D) (ρ : Env) : List D → Option (List D)
  | [] => some []
  | x :: xs => match t x (wipeE ρ own) with
    | none => none
    | some ρ1 => match mc ρ1 with
      | .ok true ρ2 => match me ρ2 with
        | .ok y _ => (lcR own t mc me ρ xs).map (y :: ·)
        | _ => none
      | .ok false _ => lcR own t mc me ρ xs
      | _ => none
def endR {α : Type} (g : List D → α) (own : List Nat) (t : D → Env → Option Env) (mc : M Bool) (me : M D) (xs : List D) : M α := fun ρ1 => match lcR own t mc me ρ1 xs with
  | some ys => if ys.length ≤ 16777216 then .ok (g ys) ρ1 else .bad
  | none => .bad
def mLcR (own : List Nat) (mi : M (List D)) (t : D → Env → Option Env) (mc : M Bool) (me : M D) : M D := fun ρ => (mi ρ).bind fun xs ρ1 => endR .lst own t mc me xs ρ1
def mLcRO (own : List Nat) (mi : M (List D)) (t : D → Env → Option Env) (mc : M Bool) (me : M D) : M O := fun ρ => (mi ρ).bind fun xs ρ1 => endR (fun ys => .ls (ys.map O.d)) own t mc me xs ρ1
theorem lcR_read {α : Type} {R : Rl α V} {g : List D → α} {own : List Nat} {t : D → Env → Option Env} {mc : M Bool} {me : M D} {W0 : WX} {pure : Bool} {σ : St} {Hk1 H1 : Hp} {ρ1 : Env} {f1 : Fs} {J : It} {xs : List D} {Q : VK} {K : PySem.W.Frag}
    (NL : NewL K cl R g) (c1 : Cfg K cl Hk1 H1 ρ1 σ f1) (hJ : ItD K Hk1 (bif pure then Hk1 else H1) J xs) (q : EQ K cl W R true σ Hk1 H1 ρ1 f1 (endR g own t mc me xs ρ1) Q) (D0 : Addr) (n0 : H1 D0 = none) :
    ∃ Wv : Nat → Nat → Hp → Prop, (∃ m, Wv 0 m (upd H1 D0 (.lst []))) ∧ ∀ i m H, Wv i m H → (J.stop i H ∧ Q (.ref D0) H) ∨ (J.go i H ∧ ∃ Nx : Hp → Prop, (∀ H', Nx H' → ∃ m', m' < m ∧ Wv (i + 1) m' H') ∧ ∀ x H', J.yld i H x H' →
      tG K cl t own x (L2.wipe σ own) H' fun σ2 H2 => L2.wipe σ2 own = L2.wipe σ own ∧ tR K cl W0 RT true mc σ2 H2 fun b H3 => if b = true then tR K cl W0 (RD K) true me σ2 H3 fun y H4 => ∃ acc, H4 D0 = some (.lst acc) ∧ acc.length < sizeLine ∧ Nx (upd H4 D0 (.lst (acc ++ [y]))) else Nx H3) := by
  unfold endR at q
  cases z : lcR own t mc me ρ1 xs with
  | none => rw [z] at q; exact q.elim
  | some ys =>
    rw [z] at q
    by_cases hl : ys.length ≤ 16777216
    · have q : EQ K cl W R true σ Hk1 H1 ρ1 f1 (.ok (g ys) ρ1) Q := by simpa only [if_pos hl] using q
      let St' : Nat → Hp → Prop := fun i H => ∃ Hk dn vs rest, Same Hk1 Hk ∧ Same H1 H ∧ Same Hk H ∧ (∀ a, Hk a ≠ none → Hk1 a ≠ none ∨ H1 a = none) ∧ H D0 = some (.lst vs) ∧ Hk D0 = none ∧ RepDs K Hk dn vs ∧ lcR own t mc me ρ1 (xs.drop i) = some rest ∧ dn ++ rest = ys
      have hs1 : Same H1 (upd H1 D0 (.lst [])) := same_upd n0
      have sB0 : Same (bif pure then Hk1 else H1) H1 := by cases pure <;> first | exact c1.same | exact .refl _
      refine ⟨fun i m H => m = xs.length - i ∧ i ≤ xs.length ∧ St' i H, ⟨xs.length, by simp, Nat.zero_le _, Hk1, [], [], ys, .refl _, hs1, c1.same.trans hs1, fun _ h => .inl h, upd_same, none_of_same c1.same n0, rfl, by simpa using z, rfl⟩, ?_⟩
      rintro i m H ⟨rfl, hi, Hk, dn, vs, rest, k1, k2, k3, k4, hD, hkD, rr, hz, hy⟩
      have sB : Same (bif pure then Hk1 else H1) H := sB0.trans k2
      have c : Cfg K cl Hk H ρ1 σ f1 := c1.grow ⟨k1, k2, k3, k4⟩
      by_cases hlt : i < xs.length
      · obtain ⟨x0, hx0⟩ := get_lt hlt
        have hdrop : xs.drop i = x0 :: xs.drop (i + 1) := by
          rw [List.drop_eq_getElem_cons hlt]
          rw [List.getElem?_eq_getElem hlt] at hx0
          cases hx0; rfl
        refine .inr ⟨hJ.go H i sB hlt, St' (i + 1), fun H' p' => ⟨xs.length - (i + 1), by omega, rfl, hlt, p'⟩, fun x H' y => ?_⟩
        obtain ⟨d, Hk', hd, gr, rd⟩ := hJ.yld Hk H i x H' hlt k1 k3 sB y
        rw [hx0] at hd; cases hd
        rw [hdrop] at hz
        unfold lcR at hz
        split at hz
        · cases hz
        · rename_i ρa ea
          have gr1 : Grow Hk1 H1 Hk' H' := ⟨k1.trans gr.kk, k2.trans gr.hh, gr.same, fun a h => by
            rcases gr.nw a h with z | z
            · exact k4 a z
            · exact .inr (Same.free k2 z)⟩
          have c' := (c1.grow gr1).wipe own
          have hD' : H' D0 = some (.lst vs) := gr.hh _ _ hD
          have hkD' : Hk' D0 = none := by
            cases w : Hk' D0 with
            | none => rfl
            | some u =>
              rcases gr.nw D0 (by rw [w]; intro z; cases z) with z | z
              · exact absurd hkD z
              · rw [hD] at z; cases z
          refine ⟨Hk', wipeE ρ1 own, f1, x0, ρa, c', rd, ea, fun σ2 f2 c2 off sub => ?_⟩
          have hw : L2.wipe σ2 own = L2.wipe σ own := (wipe_eq off).trans (wipe_eq wipe_off_of)
          refine ⟨hw, Hk', ρa, f2, c2, ?_⟩
          -- an evaluation that only grows
          have grown : ∀ {Hka Ha Hkb Hb : Hp} {fa : Fs} {ρx : Env}, Cfg K cl Hka Ha ρx σ2 fa → Cfg K cl Hkb Hb ρx σ2 fa → Step Hka Ha fa.all Hkb Hb fa.all → Same Ha Hb → Grow Hka Ha Hkb Hb := fun {Hka Ha Hkb Hb fa ρx} ca cb s sh => ⟨s.kk, sh, cb.same, fun a h => by
            rcases s.nw a h with z | z | ⟨j, z⟩
            · exact .inl z
            · exact .inr z
            · exact absurd (cb.off j a z).1 h⟩
          cases zc : mc ρa with
          | bad => rw [zc] at hz; cases hz
          | exc _ _ => rw [zc] at hz; cases hz
          | ok b ρb =>
            rw [zc] at hz
            intro b' gp Hk3 H3 f3 c3 _ s3' ro3 eb
            obtain ⟨rfl, rfl⟩ := eb
            obtain ⟨e1, e2, sh3⟩ := ro3 rfl
            subst e1
            subst e2
            have g3 : Grow Hk' H' Hk3 H3 := grown c2 c3 (Apart.step_nil' s3') sh3
            have hkD3 : Hk3 D0 = none := by
              cases w : Hk3 D0 with
              | none => rfl
              | some u =>
                rcases g3.nw D0 (by rw [w]; intro z; cases z) with z | z
                · exact absurd hkD' z
                · rw [hD'] at z; cases z
            have gr3 := gr1.trans g3
            cases b with
            | false =>
              refine iteF ?_
              exact ⟨Hk3, dn, vs, rest, gr3.kk, gr3.hh, gr3.same, gr3.nw, g3.hh _ _ hD', hkD3, rr.same (gr.kk.trans g3.kk), hz, hy⟩
            | true =>
              refine iteT ⟨Hk3, ρb, f3, c3, ?_⟩
              have hz2 : (match me ρb with
                | .ok y _ => (lcR own t mc me ρ1 (xs.drop (i + 1))).map (y :: ·)
                | _ => none) = some rest := hz
              cases ze : me ρb with
              | bad => rw [ze] at hz2; cases hz2
              | exc _ _ => rw [ze] at hz2; cases hz2
              | ok y0 ρc =>
                have hz3 : (lcR own t mc me ρ1 (xs.drop (i + 1))).map (y0 :: ·) = some rest := by rw [ze] at hz2; exact hz2
                clear hz2 hz
                intro v gv Hk4 H4 f4 c4 _ s4' ro4 rv
                obtain ⟨rv, rfl⟩ := rv
                obtain ⟨e1, e2, sh4⟩ := ro4 rfl
                subst e1
                subst e2
                have g4 : Grow Hk3 H3 Hk4 H4 := grown c3 c4 (Apart.step_nil' s4') sh4
                have hD4 : H4 D0 = some (.lst vs) := g4.hh _ _ (g3.hh _ _ hD')
                have hkD4 : Hk4 D0 = none := by
                  cases w : Hk4 D0 with
                  | none => rfl
                  | some u =>
                    rcases g4.nw D0 (by rw [w]; intro z; cases z) with z | z
                    · exact absurd hkD3 z
                    · rw [g3.hh _ _ hD'] at z; cases z
                have gr4 := gr3.trans g4
                cases zr : lcR own t mc me ρ1 (xs.drop (i + 1)) with
                | none => rw [zr] at hz3; cases hz3
                | some rest' =>
                  rw [zr] at hz3
                  have hz4 : some (y0 :: rest') = some rest := hz3
                  cases hz4
                  have hln : dn.length < ys.length := by rw [← hy, List.length_append, List.length_cons]; omega
                  refine ⟨vs, hD4, by rw [← rr.length, sizeLine_eq]; omega, ?_⟩
                  have su : ∀ a u, a ≠ D0 → H4 a = some u → upd H4 D0 (.lst (vs ++ [v])) a = some u := fun a u n e => by rw [upd_ne n]; exact e
                  refine ⟨Hk4, dn ++ [y0], vs ++ [v], rest', gr4.kk, fun a u e => su a u (fun z => by rw [z, n0] at e; cases e) (gr4.hh a u e), fun a u e => su a u (fun z => by rw [z, hkD4] at e; cases e) (gr4.same a u e), gr4.nw, upd_same, hkD4, ?_, zr, by rw [← hy]; simp⟩
                  exact (rr.same (gr.kk.trans (g3.kk.trans g4.kk))).app (RepDs.cons rv rfl)
      · have e : i = xs.length := by omega
        subst e
        refine .inl ⟨hJ.stop H sB, ?_⟩
        rw [List.drop_length] at hz
        have hz : some [] = some rest := hz
        cases hz
        rw [List.append_nil] at hy
        subst hy
        exact NL.tell W Hk H ρ1 σ f1 true Hk1 H1 f1 dn D0 vs Q c hD hkD (fun ⟨j, hj⟩ => (c1.off j _ hj).2 n0) rr (Grow.step ⟨k1, k2, k3, k4⟩) n0 fun b gp Hk' H' f' c' ap s' ro x => q b gp Hk' H' f' c' ap s' (fun _ => ⟨rfl, (ro rfl).1, by rw [(ro rfl).2]; exact k2⟩) x
    · simp only [if_neg hl] at q
      exact q.elim
theorem pts_yes {r0 : Bool} : PTs X [] (tR X.K cl W RT true mYes) := ⟨fun pins s σ H Q I ⟨Hk, ρ, f, c, q⟩ => pts_nil.run pins s σ H Q I (EQ.ret c q RT.refl)⟩
theorem pts_if {c : Expr} {m : M Bool} (h : DT X cl W r c m) : PTs X [c] (tR X.K cl W RT r m) := pts_one h
section
variable {α : Type} {R : Rl α V} {g : List D → α} {own : List (Str × Nat)} {iter elt : Expr} {ifs : List Expr} {scope : Scope} {t : D → Env → Option Env} {mi : M (List D)} {mc : M Bool} {me : M D} {ri re : Bool} {W0 : WX} {pure : Bool}
theorem lcX_all (NL : NewL X.K cl R g) (hN : X.N.Nodup) (hi : DI X cl W true ri tg iter mi) (ok : BlkOk X.N X.env.scope scope own)
    (hg : ∀ (s : Shared) (H : Hp) (C : Addr) (cl' : List (Str × Addr)) (fp : List Addr), PG (X.blk s H scope (compEnvC scope cl' C X.env) fp) tg (tG X.K cl t (own.map (·.2))))
    (ht : ∀ (s : Shared) (H : Hp) (C : Addr) (cl' : List (Str × Addr)) (fp : List Addr), PTs (X.blk s H scope (compEnvC scope cl' C X.env) fp) ifs (tR X.K cl W0 RT rc mc))
    (he : ∀ (s : Shared) (H : Hp) (C : Addr) (cl' : List (Str × Addr)) (fp : List Addr), PE (X.blk s H scope (compEnvC scope cl' C X.env) fp) elt (tR X.K cl W0 (RD X.K) re me)) (hc : X.calm = true := by rfl) (hs : ∀ x, foldedSetIterable iter X.env x = Pure.pure x := by intro _; rfl) :
    PE X (.ListComp elt [⟨tg, iter, ifs, 0⟩] scope pos) (tR X.K cl W R false (fun ρ => (mi ρ).bind fun xs ρ1 => endX g (own.map (·.2)) t mc me xs ρ1)) := by
  refine PE.imp (pe_lc hc hN hi ok hg ht he hs) fun σ H Q ⟨Hk, ρ, f, c, q⟩ => ?_
  have q' : EQ X.K cl W R (ri && false) σ Hk H ρ f ((mi ρ).bind fun xs ρ1 => endX g (own.map (·.2)) t mc me xs ρ1) Q := by rw [Bool.and_false]; exact q
  exact ⟨Hk, ρ, f, c, (EQ.seq RI.p q').mono fun J H1 ⟨xs, Hk1, ρ1, f1, c1, _, _, hJ, q1⟩ D0 n0 => lcX_read NL c1 hJ.1 q1 D0 n0⟩
theorem lcR_all (NL : NewL X.K cl R g) (hN : X.N.Nodup) (hi : DI X cl W pure ri tg iter mi) (ok : BlkOk X.N X.env.scope scope own)
    (hg : ∀ (s : Shared) (H : Hp) (C : Addr) (cl' : List (Str × Addr)) (fp : List Addr), PG (X.blk s H scope (compEnvC scope cl' C X.env) fp) tg (tG X.K cl t (own.map (·.2))))
    (ht : ∀ (s : Shared) (H : Hp) (C : Addr) (cl' : List (Str × Addr)) (fp : List Addr), PTs (X.blk s H scope (compEnvC scope cl' C X.env) fp) ifs (tR X.K cl W0 RT true mc))
    (he : ∀ (s : Shared) (H : Hp) (C : Addr) (cl' : List (Str × Addr)) (fp : List Addr), PE (X.blk s H scope (compEnvC scope cl' C X.env) fp) elt (tR X.K cl W0 (RD X.K) true me)) (hc : X.calm = true := by rfl) (hs : ∀ x, foldedSetIterable iter X.env x = Pure.pure x := by intro _; rfl) :
    PE X (.ListComp elt [⟨tg, iter, ifs, 0⟩] scope pos) (tR X.K cl W R ri (fun ρ => (mi ρ).bind fun xs ρ1 => endR g (own.map (·.2)) t mc me xs ρ1)) := by
  refine PE.imp (pe_lc hc hN hi ok hg ht he hs) fun σ H Q ⟨Hk, ρ, f, c, q⟩ => ?_
  have q' : EQ X.K cl W R (ri && true) σ Hk H ρ f ((mi ρ).bind fun xs ρ1 => endR g (own.map (·.2)) t mc me xs ρ1) Q := by rw [eq_true]; exact q
  exact ⟨Hk, ρ, f, c, (EQ.seq RI.p q').mono fun J H1 ⟨xs, Hk1, ρ1, f1, c1, _, _, hJ, q1⟩ D0 n0 => lcR_read NL c1 hJ.1 q1 D0 n0⟩
end
end
end DL
set_option Elab.async false
set_option linter.all false
set_option maxRecDepth 100000
/-! EH: statements on data. -/
namespace DL
open PySem L2 PySem.Spec PyProof.Rows RZ
inductive SRes where
  | nx (ρ : Env) | bk (ρ : Env) | ct (ρ : Env)
  | rt (o : O) (outs : List O)
  | exc (x : Exn) (ρ : Env)
  | bad
abbrev MS := Env → SRes
def bindS {α : Type} (r : Res α) (k : α → Env → SRes) : SRes := match r with
  | .ok a ρ => k a ρ
  | .exc x ρ => .exc x ρ
  | .bad => .bad
def SRes.then (r : SRes) (k : Env → SRes) : SRes := match r with
  | .nx ρ => k ρ
  | r => r
def sSeq (a b : MS) : MS := fun ρ => (a ρ).then b
def sNil : MS := fun ρ => .nx ρ
/-- the first n slots' things -/
def outsFrom : Nat → Nat → Env → Option (List O)
  | _, 0, _ => some []
  | k, n + 1, ρ => match ρ[k]? with
    | some (some o) => (outsFrom (k + 1) n ρ).map (o :: ·)
    | _ => none
def Pin (pv : List V) (σ : St) : Prop := ∀ (j : Nat) v, pv[j]? = some v → σ[j]? = some (some v)
theorem Pin.off {pv : List V} {σ σ' : St} {is : List Nat} (p : Pin pv σ) (o : Off is σ σ') (h : ∀ i ∈ is, pv.length ≤ i) : Pin pv σ' := fun j v e => by
  rw [o.2 j fun z => absurd (h j z) (by have := (List.getElem?_eq_some_iff.mp e).1; omega)]
  exact p j v e
section
variable (K : PySem.W.Frag) (cl : Wld) (W : WX) (pv : List V)
def SQ (Hk H : Hp) (f : Fs) (res : SRes) (Dn : Ends) : Prop := match res with
  | .nx ρ' => ∀ σ' Hk' H' f', Cfg K cl Hk' H' ρ' σ' f' → Pin pv σ' → Step Hk H f.all Hk' H' f'.all → Dn.nx σ' H'
  | .bk ρ' => ∀ σ' Hk' H' f', Cfg K cl Hk' H' ρ' σ' f' → Pin pv σ' → Step Hk H f.all Hk' H' f'.all → Dn.bk σ' H'
  | .ct ρ' => ∀ σ' Hk' H' f', Cfg K cl Hk' H' ρ' σ' f' → Pin pv σ' → Step Hk H f.all Hk' H' f'.all → Dn.ct σ' H'
  | .rt o outs => ∀ v g gs Hk' H', RepO K cl Hk' H' o v g → RepOs K cl Hk' H' outs pv gs → Good Hk' H' (g ++ gs) → Step Hk H f.all Hk' H' (fun a => a ∈ g ++ gs) → Dn.rt v H'
  | .exc x ρ' => ∀ cls dd σ' Hk' H' f', Cfg K cl Hk' H' ρ' σ' f' → Pin pv σ' → Step Hk H f.all Hk' H' f'.all → ExnR K cl Hk' H' x cls dd → W cls dd σ' H'
  | .bad => False
def tS (m : MS) : TS := fun Dn σ H => ∃ Hk ρ f, Cfg K cl Hk H ρ σ f ∧ Pin pv σ ∧ SQ K cl W pv Hk H f (m ρ) Dn
end
abbrev DS (X : Cx) (cl : Wld) (W : WX) (pv : List V) (st : Stmt) (m : MS) : Prop := PS X st (tS X.K cl W pv m)
abbrev DSs (X : Cx) (cl : Wld) (W : WX) (pv : List V) (st : List Stmt) (m : MS) : Prop := PSs X st (tS X.K cl W pv m)
section
variable {K : PySem.W.Frag} {cl : Wld} {W : WX} {pv : List V} {Hk H Hk1 H1 : Hp} {f f1 : Fs} {ρ : Env} {σ : St}
/-- from a later state on -/
theorem SQ.from {res : SRes} {Dn : Ends} (h : SQ K cl W pv Hk H f res Dn) (s : Step Hk H f.all Hk1 H1 f1.all) : SQ K cl W pv Hk1 H1 f1 res Dn := by
  cases res with
  | nx ρ' => exact fun σ' Hk' H' f' c p s' => h σ' Hk' H' f' c p (s.trans s')
  | bk ρ' => exact fun σ' Hk' H' f' c p s' => h σ' Hk' H' f' c p (s.trans s')
  | ct ρ' => exact fun σ' Hk' H' f' c p s' => h σ' Hk' H' f' c p (s.trans s')
  | rt o outs => exact fun v g gs Hk' H' r rs gd s' => h v g gs Hk' H' r rs gd (s.trans s')
  | exc x ρ' => exact fun cls dd σ' Hk' H' f' c p s' => h cls dd σ' Hk' H' f' c p (s.trans s')
  | bad => exact h
/-- an expression, then what follows -/
theorem SQ.expr {α β : Type} {R : Rl α β} {r : Bool} {res : Res α} {k : α → Env → SRes} {Dn : Ends} (p : Pin pv σ) (hp : ∀ Hk H a b g, R Hk H a b g → g = []) (h : SQ K cl W pv Hk H f (bindS res k) Dn) :
    EQ K cl W R r σ Hk H ρ f res fun b H1 => ∃ a Hk1 ρ1 f1, Cfg K cl Hk1 H1 ρ1 σ f1 ∧ Step Hk H f.all Hk1 H1 f1.all ∧ (r = true → ρ1 = ρ ∧ f1 = f ∧ Same H H1) ∧ R Hk1 H1 a b [] ∧ SQ K cl W pv Hk1 H1 f1 (k a ρ1) Dn := by
  cases res with
  | bad => exact h
  | exc x ρ' => exact fun cls dd Hk' H' f' c s e => h cls dd σ Hk' H' f' c p s e
  | ok a ρ' =>
    intro b g Hk' H' f' c ap s hr x
    have e := hp _ _ _ _ _ x
    subst e
    exact ⟨a, Hk', ρ', f', c, Apart.step_nil' s, hr, x, SQ.from h (Apart.step_nil' s)⟩
/-- an own thing, then what follows -/
theorem SQ.own {r : Bool} {res : Res O} {k : O → Env → SRes} {Dn : Ends} (p : Pin pv σ) (h : SQ K cl W pv Hk H f (bindS res k) Dn) :
    EQ K cl W (RO K cl) r σ Hk H ρ f res fun b H1 => ∃ a g Hk1 ρ1 f1, Cfg K cl Hk1 H1 ρ1 σ f1 ∧ Apart Hk1 H1 g f1 ∧ Step Hk H f.all Hk1 H1 (fun x => x ∈ g ∨ f1.all x) ∧ (r = true → ρ1 = ρ ∧ f1 = f ∧ Same H H1) ∧ RepO K cl Hk1 H1 a b g ∧ SQ K cl W pv Hk H f (k a ρ1) Dn := by
  cases res with
  | bad => exact h
  | exc x ρ' => exact fun cls dd Hk' H' f' c s e => h cls dd σ Hk' H' f' c p s e
  | ok a ρ' => exact fun b g Hk' H' f' c ap s hr x => ⟨a, g, Hk', ρ', f', c, ap, s, hr, x, h⟩
theorem outs_rep (c : Cfg K cl Hk H ρ σ f) : ∀ (n k : Nat) (pvs : List V) (outs : List O), pvs.length = n → (∀ (j : Nat) v, pvs[j]? = some v → σ[k + j]? = some (some v)) → outsFrom k n ρ = some outs →
    ∃ gs, RepOs K cl Hk H outs pvs gs ∧ gs.Nodup ∧ ∀ a ∈ gs, ∃ i, k ≤ i ∧ a ∈ f i
  | 0, k, pvs, outs, hl, _, e => by
    cases e
    exact ⟨[], ⟨List.length_eq_zero_iff.mp hl, rfl⟩, List.nodup_nil, fun _ h => nomatch h⟩
  | n + 1, k, pvs, outs, hl, hp, e => by
    cases pvs with
    | nil => cases hl
    | cons w ws =>
      unfold outsFrom at e
      split at e
      · rename_i o eo
        cases z : outsFrom (k + 1) n ρ with
        | none => rw [z] at e; cases e
        | some os =>
          rw [z] at e
          have e : some (o :: os) = some outs := e
          cases e
          obtain ⟨v, e1, r1⟩ := c.rep k o eo
          have e2 := hp 0 w rfl
          rw [Nat.add_zero, e1] at e2
          cases e2
          obtain ⟨gs, r2, nd, mem⟩ := outs_rep c n (k + 1) ws os (by simpa using hl) (fun j v' e' => by have := hp (j + 1) v' (by simpa using e'); rw [show k + 1 + j = k + (j + 1) by omega]; exact this) z
          refine ⟨f k ++ gs, ⟨w, ws, f k, gs, rfl, rfl, r1, r2⟩, ?_, fun a ha => ?_⟩
          · rw [List.nodup_append]
            refine ⟨c.nd k, nd, fun a ha b hb e => ?_⟩
            subst e
            obtain ⟨i, hi, hai⟩ := mem a hb
            have := c.dj k i a ha hai
            omega
          · rcases List.mem_append.mp ha with ha | ha
            · exact ⟨k, Nat.le_refl _, ha⟩
            · obtain ⟨i, hi, hai⟩ := mem a ha
              exact ⟨i, by omega, hai⟩
      · cases e
end
section
variable {X : Cx} {cl : Wld} {W : WX} {pv : List V} {r ra rb rc : Bool} {tg e a b c : Expr} {pos p : Pos} {is js : List Nat} {st : Stmt} {rest body : List Stmt} {x : Str}
theorem PS.imp {t t' : TS} (h : PS X st t) (k : ∀ D σ H, t' D σ H → t D σ H) : PS X st t' := ⟨fun pins s σ H D I q => h.run pins s σ H D I (k D σ H q)⟩
theorem PSs.imp {t t' : TS} (h : PSs X rest t) (k : ∀ D σ H, t' D σ H → t D σ H) : PSs X rest t' := ⟨fun pins s σ H D I q => h.run pins s σ H D I (k D σ H q)⟩
theorem dss_nil : DSs X cl W pv [] sNil := PSs.imp pss_nil fun D σ H ⟨Hk, ρ, f, c, p, q⟩ => q σ Hk H f c p .refl
theorem dss_cons {m1 m2 : MS} (h1 : DS X cl W pv st m1) (h2 : DSs X cl W pv rest m2) : DSs X cl W pv (st :: rest) (sSeq m1 m2) := PSs.imp (pss_cons h1 h2) fun D σ H ⟨Hk, ρ, f, c, p, q⟩ => by
  refine ⟨Hk, ρ, f, c, p, ?_⟩
  have q : SQ X.K cl W pv Hk H f ((m1 ρ).then m2) D := q
  cases z : m1 ρ with
  | nx ρ1 =>
    rw [z] at q
    exact fun σ1 Hk1 H1 f1 c1 p1 s1 => ⟨Hk1, ρ1, f1, c1, p1, SQ.from q s1⟩
  | bk _ => rw [z] at q; exact q
  | ct _ => rw [z] at q; exact q
  | rt _ _ => rw [z] at q; exact q
  | exc _ _ => rw [z] at q; exact q
  | bad => rw [z] at q; exact q
theorem dss_one {m : MS} (h : DS X cl W pv st m) : DSs X cl W pv [st] m := PSs.imp (pss_one h) fun _ _ _ q => q
def sBrk : MS := fun ρ => .bk ρ
def sCnt : MS := fun ρ => .ct ρ
theorem ds_pass : DS X cl W pv (.Pass pos) sNil := PS.imp ps_pass fun D σ H ⟨Hk, ρ, f, c, p, q⟩ => q σ Hk H f c p .refl
theorem ds_brk : DS X cl W pv (.Break pos) sBrk := PS.imp ps_break fun D σ H ⟨Hk, ρ, f, c, p, q⟩ => q σ Hk H f c p .refl
theorem ds_cnt : DS X cl W pv (.Continue pos) sCnt := PS.imp ps_continue fun D σ H ⟨Hk, ρ, f, c, p, q⟩ => q σ Hk H f c p .refl
/-- target = data -/
def optS (o : Option Env) : SRes := match o with
  | some ρ => .nx ρ
  | none => .bad
def sAsg (me : M D) (t : D → Env → Option Env) : MS := fun ρ => bindS (me ρ) fun d ρ1 => optS (t d ρ1)
theorem sub_step {K : PySem.W.Frag} {Hk H : Hp} {f f' : Fs} (h : ∀ a, f'.all a → f.all a) : Step Hk H f.all Hk H f'.all := Step.refl.weak (fun _ h => h) h
theorem ds_asg {me : M D} {t : D → Env → Option Env} (he : DE X cl W r e me) (hg : DG X cl is tg t) (hi : ∀ i ∈ is, pv.length ≤ i) (hs : swapsWithSole [tg] e pos.line X.env = pure false := by rfl) (hw : swappedStores [tg] e X.env = pure none := by rfl)
    (h1 : (assignEach [tg] X.env).map (·.2) = [assign tg X.env] := by rfl) : DS X cl W pv (.Assign [tg] e pos) (sAsg me t) := PS.imp (ps_asg he hg hs hw h1) fun D σ H ⟨Hk, ρ, f, c, p, q⟩ => by
  refine ⟨Hk, ρ, f, c, (SQ.expr p RD.p q).mono fun v H1 ⟨d, Hk1, ρ1, f1, c1, _, _, hd, q1⟩ => ?_⟩
  cases z : t d ρ1 with
  | none => rw [z] at q1; exact q1.elim
  | some ρ2 =>
    rw [z] at q1
    exact ⟨Hk1, ρ1, f1, d, ρ2, c1, hd.1, z, fun σ2 f2 c2 o2 s2 => q1 σ2 Hk1 H1 f2 c2 (p.off o2 hi) (sub_step (K := X.K) s2)⟩
def sSet (i : Nat) (me : M D) : MS := fun ρ => bindS (me ρ) fun d ρ1 => optS (setE i (.d d) ρ1)
def sSetO (i : Nat) (me : M O) : MS := fun ρ => bindS (me ρ) fun o ρ1 => optS (setE i o ρ1)
theorem put_nil {f : Fs} {i : Nat} : ∀ a, (f.put i []).all a → f.all a := fun a h => by
  rcases Fs.put_all h with z | z
  · cases z
  · exact z
theorem ds_set (i : Nat) {me : M D} {pos' : Pos} (hN : X.N.Nodup) (he : DE X cl W r e me) (hpi : pv.length ≤ i) (hi : X.N[i]? = some x := by rfl) (hx : Loc X.env.scope x := by first | exact .inl rfl | exact .inr rfl) (hs : swapsWith e (some (.Name x pos')) pos.line X.env = pure false := by rfl) (hf : X.fn x = true ∨ X.env.scope.names.lookup x = some .local := by first | exact .inl rfl | exact .inr rfl) :
    DS X cl W pv (.Assign [.Name x pos'] e pos) (sSet i me) := PS.imp (ps_set hN hi hx he hs hf) fun D σ H ⟨Hk, ρ, f, c, p, q⟩ => by
  refine ⟨Hk, ρ, f, c, (SQ.expr p RD.p q).mono fun v H1 ⟨d, Hk1, ρ1, f1, c1, _, _, hd, q1⟩ => ?_⟩
  unfold setE at q1
  split at q1
  · rename_i hl
    exact q1 _ Hk1 H1 _ (c1.set hl (o := .d d) (g := []) ⟨hd.1, rfl⟩ .nil) (p.off (is := [i]) Off.set fun j hj => by rw [List.mem_singleton.mp hj]; exact hpi) (sub_step (K := X.K) put_nil)
  · exact q1.elim
theorem ds_setO (i : Nat) {me : M O} {pos' : Pos} (hN : X.N.Nodup) (he : DO X cl W r e me) (hpi : pv.length ≤ i) (hi : X.N[i]? = some x := by rfl) (hx : Loc X.env.scope x := by first | exact .inl rfl | exact .inr rfl) (hs : swapsWith e (some (.Name x pos')) pos.line X.env = pure false := by rfl) (hf : X.fn x = true ∨ X.env.scope.names.lookup x = some .local := by first | exact .inl rfl | exact .inr rfl) :
    DS X cl W pv (.Assign [.Name x pos'] e pos) (sSetO i me) := PS.imp (ps_set hN hi hx he hs hf) fun D σ H ⟨Hk, ρ, f, c, p, q⟩ => by
  refine ⟨Hk, ρ, f, c, (SQ.own p q).mono fun v H1 ⟨o, g, Hk1, ρ1, f1, c1, ap, st, _, hd, q1⟩ => ?_⟩
  unfold setE at q1
  split at q1
  · rename_i hl
    exact q1 _ Hk1 H1 _ (c1.set hl hd ap) (p.off (is := [i]) Off.set fun j hj => by rw [List.mem_singleton.mp hj]; exact hpi) (st.weak (fun _ h => h) fun a h => Fs.put_all h)
  · exact q1.elim
/-- an expression whose value is dropped -/
def sDrop (me : M D) : MS := fun ρ => bindS (me ρ) fun _ ρ1 => .nx ρ1
theorem ds_expr {me : M D} (he : DE X cl W r e me) (hs : swapsWith e none pos.line X.env = pure false := by rfl) : DS X cl W pv (.Expr e pos) (sDrop me) := PS.imp (ps_expr he hs) fun D σ H ⟨Hk, ρ, f, c, p, q⟩ =>
  ⟨Hk, ρ, f, c, (SQ.expr p RD.p q).mono fun v H1 ⟨d, Hk1, ρ1, f1, c1, _, _, hd, q1⟩ => q1 σ Hk1 H1 f1 c1 p .refl⟩
/-- if -/
def sIf (mc : M Bool) (m1 m2 : MS) : MS := fun ρ => bindS (mc ρ) fun b ρ1 => if b = true then m1 ρ1 else m2 ρ1
theorem ds_if {mc : M Bool} {m1 m2 : MS} {s1 s2 : List Stmt} (hc : DT X cl W r c mc) (h1 : DSs X cl W pv s1 m1) (h2 : DSs X cl W pv s2 m2) : DS X cl W pv (.If c s1 s2 pos) (sIf mc m1 m2) := PS.imp (ps_if hc h1 h2) fun D σ H ⟨Hk, ρ, f, c, p, q⟩ =>
  ⟨Hk, ρ, f, c, (SQ.expr p RT.p q).mono fun b H1 ⟨b', Hk1, ρ1, f1, c1, _, _, hb, q1⟩ => by
    obtain ⟨rfl, _⟩ := hb
    cases b' with
    | true => exact iteT ⟨Hk1, ρ1, f1, c1, p, q1⟩
    | false => exact iteF ⟨Hk1, ρ1, f1, c1, p, q1⟩⟩
/-- return -/
def retS (n : Nat) (o : O) (ρ : Env) : SRes := match outsFrom 0 n ρ with
  | some outs => .rt o outs
  | none => .bad
def sRet (n : Nat) (me : M D) : MS := fun ρ => bindS (me ρ) fun d ρ1 => retS n (.d d) ρ1
def sRetO (n : Nat) (me : M O) : MS := fun ρ => bindS (me ρ) fun o ρ1 => retS n o ρ1
theorem SQ.ret {K : PySem.W.Frag} {Hk0 H0 Hk H : Hp} {f0 f : Fs} {ρ : Env} {σ : St} {o : O} {v : V} {g : Fp} {Dn : Ends} {n : Nat} (hn : pv.length = n) (c : Cfg K cl Hk H ρ σ f) (p : Pin pv σ) (ap : Apart Hk H g f) (r : RepO K cl Hk H o v g)
    (s : Step Hk0 H0 f0.all Hk H (fun x => x ∈ g ∨ f.all x)) (q : SQ K cl W pv Hk0 H0 f0 (retS n o ρ) Dn) : Dn.rt v H := by
  unfold retS at q
  cases z : outsFrom 0 n ρ with
  | none => rw [z] at q; exact q.elim
  | some outs =>
    rw [z] at q
    obtain ⟨gs, rs, nd, mem⟩ := outs_rep c n 0 pv outs hn (fun j v e => by rw [Nat.zero_add]; exact p j v e) z
    refine q v g gs Hk H r rs ⟨c.same, ?_, fun a ha => ?_⟩ (s.weak (fun _ h => h) fun a ha => ?_)
    · rw [List.nodup_append]
      refine ⟨ap.nd, nd, fun a ha b hb e => ?_⟩
      subst e
      obtain ⟨i, _, hi⟩ := mem a hb
      exact (ap.off a ha).2.2 ⟨i, hi⟩
    · rcases List.mem_append.mp ha with ha | ha
      · exact ⟨(ap.off a ha).1, (ap.off a ha).2.1⟩
      · obtain ⟨i, _, hi⟩ := mem a ha
        exact c.off i a hi
    · rcases List.mem_append.mp ha with ha | ha
      · exact .inl ha
      · obtain ⟨i, _, hi⟩ := mem a ha
        exact .inr ⟨i, hi⟩
theorem ds_ret {n : Nat} {me : M D} (he : DE X cl W r e me) (hn : pv.length = n := by rfl) : DS X cl W pv (.Return (some e) pos) (sRet n me) := PS.imp (ps_ret he) fun D σ H ⟨Hk, ρ, f, c, p, q⟩ =>
  ⟨Hk, ρ, f, c, (SQ.expr p RD.p q).mono fun v H1 ⟨d, Hk1, ρ1, f1, c1, _, _, hd, q1⟩ => SQ.ret (o := .d d) (g := []) hn c1 p .nil ⟨hd.1, rfl⟩ (Apart.step_nil .refl) q1⟩
theorem ds_retO {n : Nat} {me : M O} (he : DO X cl W r e me) (hn : pv.length = n := by rfl) : DS X cl W pv (.Return (some e) pos) (sRetO n me) := PS.imp (ps_ret he) fun D σ H ⟨Hk, ρ, f, c, p, q⟩ =>
  ⟨Hk, ρ, f, c, (SQ.own p q).mono fun v H1 ⟨o, g, Hk1, ρ1, f1, c1, ap, st, _, hd, q1⟩ => SQ.ret hn c1 p ap hd st q1⟩
theorem ds_retN {n : Nat} (hn : pv.length = n := by rfl) : DS X cl W pv (.Return none pos) (sRet n (mC .non)) := PS.imp ps_retN fun D σ H ⟨Hk, ρ, f, c, p, q⟩ =>
  SQ.ret (o := .d .non) (v := .non) (g := []) hn c p .nil ⟨rfl, rfl⟩ (Apart.step_nil .refl) q
/-- for -/
def forX (t : D → Env → Option Env) (mb : MS) : List D → Env → SRes
  | [], ρ => .nx ρ
  | x :: xs, ρ => match t x ρ with
    | none => .bad
    | some ρ1 => match mb ρ1 with
      | .nx ρ2 => forX t mb xs ρ2
      | .ct ρ2 => forX t mb xs ρ2
      | .bk ρ2 => .nx ρ2
      | r => r
def sFor (mi : M (List D)) (t : D → Env → Option Env) (mb : MS) : MS := fun ρ => bindS (mi ρ) fun xs ρ1 => forX t mb xs ρ1
theorem ds_for {mi : M (List D)} {t : D → Env → Option Env} {mb : MS} {iter : Expr} {ri : Bool} (hp : PassesOwn (model X.prog X.w) X.A X.env X.xe) (hi : DI X cl W true ri tg iter mi) (hg : DG X cl is tg t) (hb : DSs X cl W pv body mb) (his : ∀ i ∈ is, pv.length ≤ i)
    (hc : X.calm = true := by rfl) (hs : ∀ x, foldedSetIterable iter X.env x = pure x := by intro _; rfl) : DS X cl W pv (.For tg iter body [] pos) (sFor mi t mb) := PS.imp (ps_for hp hc hi hg hb hs) fun D σ H ⟨Hk, ρ, f, c, p, q⟩ => by
  refine ⟨Hk, ρ, f, c, (SQ.expr p RI.p q).mono fun J H1 ⟨xs, Hk1, ρ1, f1, c1, _, _, hJ, q1⟩ => ?_⟩
  have hJ : ItD X.K Hk1 Hk1 J xs := hJ.1
  refine ⟨fun i m σ' H' => m = xs.length - i ∧ i ≤ xs.length ∧ ∃ Hk' ρ' f', Cfg X.K cl Hk' H' ρ' σ' f' ∧ Pin pv σ' ∧ Step Hk1 H1 f1.all Hk' H' f'.all ∧ SQ X.K cl W pv Hk' H' f' (forX t mb (xs.drop i) ρ') D, ⟨xs.length, by simp, Nat.zero_le _, Hk1, ρ1, f1, c1, p, .refl, q1⟩, ?_⟩
  rintro i m σ2 H2 ⟨rfl, hi, Hk2, ρ2, f2, c2, p2, st2, q2⟩
  have sB : Same Hk1 H2 := st2.kk.trans c2.same
  by_cases hlt : i < xs.length
  · obtain ⟨x0, hx0⟩ := get_lt hlt
    have hdrop : xs.drop i = x0 :: xs.drop (i + 1) := by
      rw [List.drop_eq_getElem_cons hlt]
      rw [List.getElem?_eq_getElem hlt] at hx0
      cases hx0; rfl
    refine .inr ⟨hJ.go H2 i sB hlt, fun σ' H' => i + 1 ≤ xs.length ∧ ∃ Hk' ρ' f', Cfg X.K cl Hk' H' ρ' σ' f' ∧ Pin pv σ' ∧ Step Hk1 H1 f1.all Hk' H' f'.all ∧ SQ X.K cl W pv Hk' H' f' (forX t mb (xs.drop (i + 1)) ρ') D, fun σ' H' p' => ⟨xs.length - (i + 1), by omega, rfl, p'.1, p'.2⟩, fun v H' y => ?_⟩
    obtain ⟨d, Hk', hd, gr, rd⟩ := hJ.yld Hk2 H2 i v H' hlt st2.kk c2.same sB y
    rw [hx0] at hd; cases hd
    rw [hdrop] at q2
    unfold forX at q2
    split at q2
    · exact q2.elim
    · rename_i ρa ea
      refine ⟨Hk', ρ2, f2, x0, ρa, c2.grow gr, rd, ea, fun σ3 f3 c3 o3 s3 => ?_⟩
      have p3 : Pin pv σ3 := p2.off o3 his
      have st3 : Step Hk2 H2 f2.all Hk' H' f3.all := (gr.step (P := f2.all)).weak (fun _ h => h) s3
      refine ⟨Hk', ρa, f3, c3, p3, ?_⟩
      cases z : mb ρa with
      | nx ρb =>
        rw [z] at q2
        exact fun σ4 Hk4 H4 f4 c4 p4 s4 => ⟨hlt, Hk4, ρb, f4, c4, p4, (st2.trans st3).trans s4, SQ.from q2 (st3.trans s4)⟩
      | ct ρb =>
        rw [z] at q2
        exact fun σ4 Hk4 H4 f4 c4 p4 s4 => ⟨hlt, Hk4, ρb, f4, c4, p4, (st2.trans st3).trans s4, SQ.from q2 (st3.trans s4)⟩
      | bk ρb =>
        rw [z] at q2
        exact fun σ4 Hk4 H4 f4 c4 p4 s4 => q2 σ4 Hk4 H4 f4 c4 p4 (st3.trans s4)
      | rt o outs => rw [z] at q2; exact SQ.from q2 st3
      | exc x ρb => rw [z] at q2; exact SQ.from q2 st3
      | bad => rw [z] at q2; exact q2
  · have e : i = xs.length := by omega
    subst e
    rw [List.drop_length] at q2
    exact .inl ⟨hJ.stop H2 sB, q2 σ2 Hk2 H2 f2 c2 p2 .refl⟩
/-- while -/
def iterW (mc : M Bool) (mb : MS) : Nat → Env → Option SRes
  | 0, _ => none
  | n + 1, ρ => match mc ρ with
    | .bad => some .bad
    | .exc x ρ1 => some (.exc x ρ1)
    | .ok false ρ1 => some (.nx ρ1)
    | .ok true ρ1 => match mb ρ1 with
      | .nx ρ2 => iterW mc mb n ρ2
      | .ct ρ2 => iterW mc mb n ρ2
      | .bk ρ2 => some (.nx ρ2)
      | r => some r
theorem iterW_mono {mc : M Bool} {mb : MS} : ∀ {n : Nat} {ρ : Env} {r : SRes}, iterW mc mb n ρ = some r → iterW mc mb (n + 1) ρ = some r
  | 0, _, _, h => by cases h
  | n + 1, ρ, r, h => by
    unfold iterW at h ⊢
    cases z : mc ρ with
    | bad => rw [z] at h; exact h
    | exc x ρ1 => rw [z] at h; exact h
    | ok b ρ1 =>
      rw [z] at h
      cases b with
      | false => exact h
      | true =>
        dsimp only at h ⊢
        cases z2 : mb ρ1 with
        | nx ρ2 => rw [z2] at h; exact iterW_mono h
        | ct ρ2 => rw [z2] at h; exact iterW_mono h
        | bk ρ2 => rw [z2] at h; exact h
        | rt o outs => rw [z2] at h; exact h
        | exc x ρ2 => rw [z2] at h; exact h
        | bad => rw [z2] at h; exact h
theorem iterW_le {mc : M Bool} {mb : MS} {n k : Nat} {ρ : Env} {r : SRes} (h : iterW mc mb n ρ = some r) : iterW mc mb (n + k) ρ = some r := by
  induction k with
  | zero => exact h
  | succ k ih => exact iterW_mono ih
open Classical in
noncomputable def sWhile (mc : M Bool) (mb : MS) : MS := fun ρ => if h : ∃ n r, iterW mc mb n ρ = some r then Classical.choose (Classical.choose_spec h) else .bad
theorem sWhile_of {mc : M Bool} {mb : MS} {n : Nat} {ρ : Env} {r : SRes} (h : iterW mc mb n ρ = some r) : sWhile mc mb ρ = r := by
  unfold sWhile
  have hx : ∃ n r, iterW mc mb n ρ = some r := ⟨n, r, h⟩
  rw [dif_pos hx]
  have h2 := Classical.choose_spec (Classical.choose_spec hx)
  have a := iterW_le (k := n) h2
  have b := iterW_le (k := Classical.choose hx) h
  rw [Nat.add_comm] at b
  rw [a] at b
  exact Option.some.inj b
theorem sWhile_ex {mc : M Bool} {mb : MS} {ρ : Env} (h : sWhile mc mb ρ ≠ .bad) : ∃ n, iterW mc mb n ρ = some (sWhile mc mb ρ) := by
  by_cases hx : ∃ n r, iterW mc mb n ρ = some r
  · obtain ⟨n, r, e⟩ := hx
    exact ⟨n, by rw [sWhile_of e]; exact e⟩
  · exact absurd (by unfold sWhile; rw [dif_neg hx]) h
theorem ds_while {mc : M Bool} {mb : MS} (hp : PassesOwn (model X.prog X.w) X.A X.env X.xe) (hc : DT X cl W r c mc) (hb : DSs X cl W pv body mb) : DS X cl W pv (.While c body [] pos) (sWhile mc mb) := PS.imp (ps_while hp hc hb) fun D σ H ⟨Hk, ρ, f, c0, p, q⟩ => by
  have nb : sWhile mc mb ρ ≠ .bad := fun z => by rw [z] at q; exact q
  obtain ⟨n0, e0⟩ := sWhile_ex nb
  refine ⟨fun m σ' H' => ∃ Hk' ρ' f' res, Cfg X.K cl Hk' H' ρ' σ' f' ∧ Pin pv σ' ∧ iterW mc mb m ρ' = some res ∧ SQ X.K cl W pv Hk' H' f' res D, ⟨n0, Hk, ρ, f, _, c0, p, e0, q⟩, ?_⟩
  rintro m σ1 H1 ⟨Hk1, ρ1, f1, res, c1, p1, e1, q1⟩
  refine ⟨Hk1, ρ1, f1, c1, ?_⟩
  cases m with
  | zero => cases e1
  | succ m =>
    unfold iterW at e1
    cases z : mc ρ1 with
    | bad => rw [z] at e1; cases e1; exact q1
    | exc x ρ2 => rw [z] at e1; cases e1; exact fun cls dd Hk' H' f' c s e => q1 cls dd σ1 Hk' H' f' c p1 s e
    | ok b ρ2 =>
      rw [z] at e1
      intro b' g Hk2 H2 f2 c2 _ st' _ eb
      obtain ⟨rfl, rfl⟩ := eb
      have st : Step Hk1 H1 f1.all Hk2 H2 f2.all := Apart.step_nil' st'
      cases b with
      | false =>
        cases e1
        exact iteF (q1 σ1 Hk2 H2 f2 c2 p1 st)
      | true =>
        refine iteT ⟨fun σ' H' => ∃ Hk' ρ' f' res, Cfg X.K cl Hk' H' ρ' σ' f' ∧ Pin pv σ' ∧ iterW mc mb m ρ' = some res ∧ SQ X.K cl W pv Hk' H' f' res D, fun σ' H' w => ⟨m, Nat.lt_succ_self _, w⟩, Hk2, ρ2, f2, c2, p1, ?_⟩
        dsimp only at e1
        cases z2 : mb ρ2 with
        | nx ρ3 => rw [z2] at e1; exact fun σ3 Hk3 H3 f3 c3 p3 s3 => ⟨Hk3, ρ3, f3, res, c3, p3, e1, SQ.from q1 (st.trans s3)⟩
        | ct ρ3 => rw [z2] at e1; exact fun σ3 Hk3 H3 f3 c3 p3 s3 => ⟨Hk3, ρ3, f3, res, c3, p3, e1, SQ.from q1 (st.trans s3)⟩
        | bk ρ3 => rw [z2] at e1; cases e1; exact fun σ3 Hk3 H3 f3 c3 p3 s3 => q1 σ3 Hk3 H3 f3 c3 p3 (st.trans s3)
        | rt o outs => rw [z2] at e1; cases e1; exact SQ.from q1 st
        | exc x ρ3 => rw [z2] at e1; cases e1; exact SQ.from q1 st
        | bad => rw [z2] at e1; cases e1; exact q1
end
end DL
set_option Elab.async false
set_option linter.all false
set_option maxRecDepth 100000
/-! EI: defs: what they do to own things; calls. -/
namespace DL
open PySem L2 PySem.Spec PyProof.Rows RZ
theorem Step.frame {Hk H Hk' H' : Hp} {P P' : Addr → Prop} (R : Addr → Prop) (s : Step Hk H P Hk' H' P') : Step Hk H (fun a => P a ∨ R a) Hk' H' (fun a => P' a ∨ R a) :=
  ⟨s.kk, fun a u n e => s.fr a u (fun z => n (.inl z)) e, fun a h => (s.nw a h).elim .inl fun z => z.elim (fun z => .inr (.inl z)) fun z => .inr (.inr (.inl z)), fun a h => h.elim (fun z => (s.ow a z).elim .inl fun z => .inr (.inl z)) fun z => .inr (.inr z)⟩
/-! ### several slots at once -/
def getS (ρ : Env) : List Nat → Option (List O)
  | [] => some []
  | i :: is => match ρ[i]?, getS ρ is with
    | some (some o), some os => some (o :: os)
    | _, _ => none
def putS : List Nat → List O → Env → Env
  | i :: is, o :: os, ρ => (putS is os ρ).set i (some o)
  | _, _, ρ => ρ
def putFs : List Nat → List Fp → Fs → Fs
  | i :: is, p :: ps, f => (putFs is ps f).put i p
  | _, _, f => f
theorem putS_length : ∀ (is : List Nat) (os : List O) (ρ : Env), (putS is os ρ).length = ρ.length
  | [], _, _ => rfl
  | _ :: _, [], _ => rfl
  | i :: is, o :: os, ρ => by rw [putS, List.length_set, putS_length is os ρ]
theorem putS_off : ∀ {is : List Nat} (os : List O) {ρ : Env} {j : Nat}, j ∉ is → (putS is os ρ)[j]? = ρ[j]?
  | [], _, _, _, _ => rfl
  | _ :: _, [], _, _, _ => rfl
  | i :: is, o :: os, ρ, j, h => by
    rw [putS, List.getElem?_set_ne fun e => h (by rw [← e]; exact List.mem_cons_self), putS_off os fun z => h (List.mem_cons_of_mem _ z)]
theorem putS_at : ∀ {is : List Nat} {os : List O} {ρ : Env} {k i : Nat} {o : O}, is.Nodup → is[k]? = some i → os[k]? = some o → i < ρ.length → (putS is os ρ)[i]? = some (some o)
  | [], _, _, _, _, _, _, h, _, _ => by simp at h
  | _ :: _, [], _, _, _, _, _, _, h, _ => by simp at h
  | i :: is, o :: os, ρ, 0, _, _, _, h1, h2, hl => by
    simp at h1 h2; subst h1; subst h2
    rw [putS, List.getElem?_set_self (by rw [putS_length]; exact hl)]
  | i :: is, o :: os, ρ, k + 1, j, x, nd, h1, h2, hl => by
    have h1' : is[k]? = some j := by simpa using h1
    have ne : i ≠ j := fun e => (List.nodup_cons.mp nd).1 (by rw [e]; exact List.mem_of_getElem? h1')
    rw [putS, List.getElem?_set_ne ne]
    exact putS_at (List.nodup_cons.mp nd).2 h1' (by simpa using h2) hl
theorem putFs_off : ∀ {is : List Nat} {ps : List Fp} {f : Fs} {j : Nat}, j ∉ is → putFs is ps f j = f j
  | [], _, _, _, _ => rfl
  | _ :: _, [], _, _, _ => rfl
  | i :: is, p :: ps, f, j, h => by
    rw [putFs, Fs.put_ne fun e => h (by rw [e]; exact List.mem_cons_self), putFs_off fun z => h (List.mem_cons_of_mem _ z)]
theorem putFs_at : ∀ {is : List Nat} {ps : List Fp} {f : Fs} {k i : Nat} {p : Fp}, is.Nodup → is[k]? = some i → ps[k]? = some p → putFs is ps f i = p
  | [], _, _, _, _, _, _, h, _ => by simp at h
  | _ :: _, [], _, _, _, _, _, _, h => by simp at h
  | i :: is, p :: ps, f, 0, _, _, _, h1, h2 => by
    simp at h1 h2; subst h1; subst h2
    exact Fs.put_same
  | i :: is, p :: ps, f, k + 1, j, x, nd, h1, h2 => by
    have h1' : is[k]? = some j := by simpa using h1
    have ne : j ≠ i := fun e => (List.nodup_cons.mp nd).1 (by rw [← e]; exact List.mem_of_getElem? h1')
    rw [putFs, Fs.put_ne ne]
    exact putFs_at (List.nodup_cons.mp nd).2 h1' (by simpa using h2)
section
variable {K : PySem.W.Frag} {cl : Wld} {Hk H Hk' H' : Hp} {ρ : Env} {σ : St} {f : Fs}
theorem RepOs.parts : ∀ {os : List O} {vs : List V} {g : Fp}, RepOs K cl Hk H os vs g → ∃ ps : List Fp, ps.length = os.length ∧ g = ps.flatten ∧ ∀ (k : Nat) o, os[k]? = some o → ∃ v p, vs[k]? = some v ∧ ps[k]? = some p ∧ RepO K cl Hk H o v p
  | [], _, _, h => ⟨[], rfl, h.2, fun k o e => by simp at e⟩
  | o :: os, _, _, h => by
    obtain ⟨v, r, f1, f2, rfl, rfl, h1, h2⟩ := h
    obtain ⟨ps, l, e, k⟩ := RepOs.parts h2
    refine ⟨f1 :: ps, by simp [l], by simp [e], fun j x q => ?_⟩
    cases j with
    | zero => simp at q; subst q; exact ⟨v, f1, rfl, rfl, h1⟩
    | succ j =>
      obtain ⟨v', p, a, b, c⟩ := k j x (by simpa using q)
      exact ⟨v', p, by simpa using a, by simpa using b, c⟩
theorem mem_fm {is : List Nat} {a : Addr} (h : a ∈ is.flatMap f) : ∃ i ∈ is, a ∈ f i := List.mem_flatMap.mp h
theorem fm_all {is : List Nat} {a : Addr} (h : a ∈ is.flatMap f) : f.all a := let ⟨i, _, h⟩ := mem_fm h; ⟨i, h⟩
/-- the things in the slots is, handed out -/
theorem Cfg.hand (c : Cfg K cl Hk H ρ σ f) : ∀ {is : List Nat} {os : List O}, is.Nodup → getS ρ is = some os →
    ∃ vs, vs.length = is.length ∧ RepOs K cl Hk H os vs (is.flatMap f) ∧ Good Hk H (is.flatMap f) ∧ ∀ (k i : Nat), is[k]? = some i → i < ρ.length ∧ ∃ v, vs[k]? = some v ∧ σ[i]? = some (some v)
  | [], _, _, e => by cases e; exact ⟨[], rfl, ⟨rfl, rfl⟩, ⟨c.same, List.nodup_nil, fun _ h => nomatch h⟩, fun k i e => by simp at e⟩
  | i :: is, os, nd, e => by
    unfold getS at e
    split at e
    · rename_i o os' e1 e2
      cases e
      obtain ⟨ni, nd'⟩ := List.nodup_cons.mp nd
      obtain ⟨vs, l, r, g, k⟩ := Cfg.hand c nd' e2
      obtain ⟨v, e3, r1⟩ := c.rep i _ e1
      refine ⟨v :: vs, by simp [l], ⟨v, vs, f i, is.flatMap f, rfl, by simp, r1, r⟩, ⟨c.same, ?_, fun a ha => ?_⟩, fun j x q => ?_⟩
      · rw [List.flatMap_cons, List.nodup_append]
        refine ⟨c.nd i, g.nd, fun a ha b hb e => ?_⟩
        subst e
        obtain ⟨j, hj, hb⟩ := mem_fm hb
        have e := c.dj i j a ha hb
        exact ni (e ▸ hj)
      · rw [List.flatMap_cons] at ha
        rcases List.mem_append.mp ha with ha | ha
        · exact c.off i a ha
        · exact g.off a ha
      · cases j with
        | zero =>
          simp at q; subst q
          exact ⟨(List.getElem?_eq_some_iff.mp e1).1, v, rfl, e3⟩
        | succ j =>
          obtain ⟨a, u, b, d⟩ := k j x (by simpa using q)
          exact ⟨a, u, by simpa using b, d⟩
    · cases e
/-- .. and back -/
theorem Cfg.back {is : List Nat} {outs : List O} {vs : List V} {g gs : Fp} (c : Cfg K cl Hk H ρ σ f) (nd : is.Nodup) (hv : ∀ (k i : Nat), is[k]? = some i → i < ρ.length ∧ ∃ v, vs[k]? = some v ∧ σ[i]? = some (some v)) (hl : vs.length = is.length)
    (r : RepOs K cl Hk' H' outs vs gs) (gd : Good Hk' H' (g ++ gs)) (st : Step Hk H (· ∈ is.flatMap f) Hk' H' (· ∈ g ++ gs)) :
    ∃ f', Cfg K cl Hk' H' (putS is outs ρ) σ f' ∧ Apart Hk' H' g f' ∧ Step Hk H f.all Hk' H' (fun a => a ∈ g ∨ f'.all a) ∧ (is = [] → f' = f) := by
  obtain ⟨ps, lp, egs, rp⟩ := r.parts
  have lo : outs.length = is.length := r.length.trans hl
  have get_p : ∀ {k i : Nat}, is[k]? = some i → ∃ o p v, outs[k]? = some o ∧ ps[k]? = some p ∧ vs[k]? = some v ∧ RepO K cl Hk' H' o v p := fun {k i} e => by
    have hk : k < outs.length := by rw [lo]; exact (List.getElem?_eq_some_iff.mp e).1
    obtain ⟨v, p, a, b, d⟩ := rp k outs[k] (List.getElem?_eq_getElem hk)
    exact ⟨_, p, v, List.getElem?_eq_getElem hk, b, a, d⟩
  have inGs : ∀ {k : Nat} {p : Fp} {a : Addr}, ps[k]? = some p → a ∈ p → a ∈ gs := fun {k p a} e ha => by
    rw [egs]; exact List.mem_flatten.mpr ⟨p, List.mem_of_getElem? e, ha⟩
  have ix : ∀ {i : Nat}, i ∈ is → ∃ k, is[k]? = some i := fun {i} h => List.mem_iff_getElem?.mp h
  have f'at : ∀ {i : Nat} {a : Addr}, a ∈ putFs is ps f i → (∃ k p, is[k]? = some i ∧ ps[k]? = some p ∧ a ∈ p) ∨ (i ∉ is ∧ a ∈ f i) := fun {i a} h => by
    by_cases hi : i ∈ is
    · obtain ⟨k, e⟩ := ix hi
      obtain ⟨o, p, v, _, e2, _, _⟩ := get_p e
      rw [putFs_at nd e e2] at h
      exact .inl ⟨k, p, e, e2, h⟩
    · rw [putFs_off hi] at h
      exact .inr ⟨hi, h⟩
  have off : ∀ {j : Nat} {a : Addr}, j ∉ is → a ∈ f j → a ∉ is.flatMap f := fun {j a} hj ha z => by
    obtain ⟨i, hi, hb⟩ := mem_fm z
    have := c.dj j i a ha hb
    subst this
    exact hj hi
  have sep : ∀ {j : Nat} {a : Addr}, j ∉ is → a ∈ f j → a ∉ g ++ gs := fun {j a} hj ha z => by
    rcases st.ow a z with e | e
    · exact (c.off j a ha).2 e
    · exact off hj ha e
  have ndG := List.nodup_append.mp gd.nd
  have ndP : ps.flatten.Nodup := by rw [← egs]; exact ndG.2.1
  have ndE : ∀ {l : List Fp}, l.flatten.Nodup → ∀ {k : Nat} {p : Fp}, l[k]? = some p → p.Nodup := by
    intro l
    induction l with
    | nil => intro _ k p e; simp at e
    | cons q l ih =>
      intro h k p e
      rw [List.flatten_cons, List.nodup_append] at h
      cases k with
      | zero => simp at e; subst e; exact h.1
      | succ k => exact ih h.2.1 (by simpa using e)
  have ndD : ∀ {l : List Fp}, l.flatten.Nodup → ∀ {j k : Nat} {p q : Fp} {a : Addr}, l[j]? = some p → l[k]? = some q → a ∈ p → a ∈ q → j = k := by
    intro l
    induction l with
    | nil => intro _ j k p q a e; simp at e
    | cons x l ih =>
      intro h j k p q a e1 e2 h1 h2
      rw [List.flatten_cons, List.nodup_append] at h
      cases j with
      | zero =>
        simp at e1; subst e1
        cases k with
        | zero => rfl
        | succ k => exact absurd rfl (h.2.2 a h1 a (List.mem_flatten.mpr ⟨q, List.mem_of_getElem? (by simpa using e2), h2⟩))
      | succ j =>
        cases k with
        | zero =>
          simp at e2; subst e2
          exact absurd rfl (h.2.2 a h2 a (List.mem_flatten.mpr ⟨p, List.mem_of_getElem? (by simpa using e1), h1⟩))
        | succ k => exact congrArg Nat.succ (ih h.2.1 (by simpa using e1) (by simpa using e2) h1 h2)
  refine ⟨putFs is ps f, ⟨by rw [putS_length]; exact c.len, fun i o e => ?_, fun i => ?_, fun i j a h1 h2 => ?_, fun i a h => ?_, gd.same, c.bs.trans st.kk⟩, ⟨ndG.1, fun a ha => ⟨(gd.off a (List.mem_append_left _ ha)).1, (gd.off a (List.mem_append_left _ ha)).2, fun ⟨i, hi⟩ => ?_⟩⟩, ?_, fun e => ?_⟩
  · by_cases hi : i ∈ is
    · obtain ⟨k, e1⟩ := ix hi
      obtain ⟨o', p, v, e2, e3, e4, r1⟩ := get_p e1
      obtain ⟨hlt, v', e5, e6⟩ := hv k i e1
      rw [e4] at e5; cases e5
      rw [putS_at nd e1 e2 hlt] at e
      cases e
      exact ⟨v, e6, by rw [putFs_at nd e1 e3]; exact r1⟩
    · rw [putS_off outs hi] at e
      obtain ⟨v, e1, r1⟩ := c.rep i o e
      refine ⟨v, e1, ?_⟩
      rw [putFs_off hi]
      exact r1.keep st.kk o v (f i) fun a ha u q => st.fr a u (off hi ha) q
  · by_cases hi : i ∈ is
    · obtain ⟨k, e1⟩ := ix hi
      obtain ⟨o', p, v, e2, e3, e4, r1⟩ := get_p e1
      rw [putFs_at nd e1 e3]
      exact ndE ndP e3
    · rw [putFs_off hi]; exact c.nd i
  · rcases f'at h1 with ⟨k, p, a1, a2, a3⟩ | ⟨n1, a3⟩
    · rcases f'at h2 with ⟨k2, q, b1, b2, b3⟩ | ⟨n2, b3⟩
      · have := ndD ndP a2 b2 a3 b3
        subst this
        rw [a1] at b1; cases b1; rfl
      · exact absurd (List.mem_append_right g (inGs a2 a3)) (sep n2 b3)
    · rcases f'at h2 with ⟨k2, q, b1, b2, b3⟩ | ⟨n2, b3⟩
      · exact absurd (List.mem_append_right g (inGs b2 b3)) (sep n1 a3)
      · exact c.dj i j a a3 b3
  · rcases f'at h with ⟨k, p, a1, a2, a3⟩ | ⟨n1, a3⟩
    · exact gd.off a (List.mem_append_right _ (inGs a2 a3))
    · obtain ⟨o1, o2⟩ := c.off i a a3
      refine ⟨?_, fun z => ?_⟩
      · cases q : Hk' a with
        | none => rfl
        | some u =>
          rcases st.nw a (by rw [q]; intro z; cases z) with z | z | z
          · exact absurd o1 z
          · exact absurd z o2
          · exact absurd z (off n1 a3)
      · cases q : H a with
        | none => exact o2 q
        | some u =>
          rw [st.fr a u (off n1 a3) q] at z
          cases z
  · rcases f'at hi with ⟨k, p, a1, a2, a3⟩ | ⟨n1, a3⟩
    · exact ndG.2.2 a ha a (inGs a2 a3) rfl
    · exact sep n1 a3 (List.mem_append_left _ ha)
  · refine (Step.frame f.all st).weak (fun x h => h.elim fm_all id) fun x h => ?_
    rcases h with h | ⟨i, h⟩
    · exact .inl (List.mem_append_left _ h)
    · rcases f'at h with ⟨k, p, a1, a2, a3⟩ | ⟨n1, a3⟩
      · exact .inl (List.mem_append_right _ (inGs a2 a3))
      · exact .inr ⟨i, a3⟩
  · subst e; rfl
end
/-! ### what a def does -/
inductive FRes where
  | ok (o : O) (outs : List O)
  | exc (x : Exn) (outs : List O)
  | bad
section
variable (K : PySem.W.Frag) (cl : Wld)
def FQ (pv : List V) (Hk H : Hp) (f : Fp) (r : FRes) (Q : VK) (E : XK) : Prop := match r with
  | .ok o outs => ∀ v g gs Hk' H', RepO K cl Hk' H' o v g → RepOs K cl Hk' H' outs pv gs → Good Hk' H' (g ++ gs) → Step Hk H (· ∈ f) Hk' H' (· ∈ g ++ gs) → Q v H'
  | .exc x outs => ∀ cls dd gs Hk' H', RepOs K cl Hk' H' outs pv gs → Good Hk' H' gs → Step Hk H (· ∈ f) Hk' H' (· ∈ gs) → ExnR K cl Hk' H' x cls dd → E cls dd H'
  | .bad => False
def spF (n nio : Nat) (F : List O → FRes) : Sp := fun vs H Q E => vs.length = n ∧ ∃ Hk os f, Same cl.B Hk ∧ RepOs K cl Hk H os vs f ∧ Good Hk H f ∧ FQ K cl (vs.take nio) Hk H f (F os) Q E
end
def rho0 (nN : Nat) (os : List O) : Env := os.map some ++ List.replicate (nN - os.length) none
def withOuts (nio : Nat) (ρ : Env) (k : List O → FRes) : FRes := match outsFrom 0 nio ρ with
  | some outs => k outs
  | none => .bad
def runF (nN nio : Nat) (m : MS) (os : List O) : FRes := match m (rho0 nN os) with
  | .nx ρ => withOuts nio ρ (.ok (.d .non))
  | .rt o outs => .ok o outs
  | .exc x ρ => withOuts nio ρ (.exc x)
  | _ => .bad
structure RoomG (k : Nat) (A : Around) : Prop where
  rm : Room k A
  gd : A.guards = some []
theorem RoomG.mono {j k : Nat} {A : Around} (r : RoomG k A) (h : j ≤ k) : RoomG j A := ⟨r.rm.mono h, r.gd⟩
theorem RoomG.deeper {k : Nat} {A : Around} (r : RoomG (k + 1) A) (env : PySem.Env) : RoomG k (A.deeper env) := ⟨r.rm.deeper env, r.gd⟩
theorem RoomG.make {k : Nat} {A : Around} (r : RoomG (k + 1) A) (C : Addr) (us : List Value) (kw : List (Str × Value)) : RoomG k (A.under (.builtin "type.__call__" ⟨.ref C :: us, kw⟩)) := by
  refine ⟨r.rm.make C us kw, ?_⟩
  have e : (Code.builtin "type.__call__" ⟨.ref C :: us, kw⟩).guards = [] := by rfl
  show pushGuards (Code.builtin "type.__call__" ⟨.ref C :: us, kw⟩).guards A.guards = some []
  rw [e, r.gd] <;> rfl
structure FnG (P : Program) (w : World) (K : PySem.W.Frag) (mg : Str → Option Value) (base : Heap) (k : Nat) (f : Addr) (fd : FuncData) (ps : List Str) (sp : Sp) : Prop where
  ar : ∀ vs H Q E, sp vs H Q E → vs.length = ps.length
  go : ∀ {A : Around} {outer : List PySem.Env} {s : Shared} {H : Hp} {args : Args} {us : List Value} {vs : List V} {Q : VK} {E : XK}, RoomG k A → Env0 P w K mg base A outer s H → BindsTo s fd args (ps.zip us) → Vals vs us → sp vs H Q E →
    codeAny (model P w) A (.call (.ref f) args) (CR (L2.CX P w) outer P w H s Q E) s
theorem FnG.mono {P : Program} {w : World} {K : PySem.W.Frag} {mg : Str → Option Value} {base : Heap} {j k : Nat} {f : Addr} {fd : FuncData} {ps : List Str} {sp : Sp} (F : FnG P w K mg base j f fd ps sp) (h : j ≤ k) : FnG P w K mg base k f fd ps sp :=
  ⟨F.ar, fun hr => F.go (hr.mono h)⟩
section
variable {K : PySem.W.Frag} {cl : Wld} {Hk H Hk' H' : Hp}
theorem start_cfg : ∀ {N : List Str} {os : List O} {vs : List V} {f : Fp}, Same cl.B Hk → RepOs K cl Hk H os vs f → Good Hk H f → os.length ≤ N.length → ∃ fs, Cfg K cl Hk H (rho0 N.length os) (L2.start N vs) fs ∧ ∀ a, fs.all a ↔ a ∈ f := fun {N os vs f} sB r gd hl => by
  obtain ⟨ps, lp, ef, rp⟩ := r.parts
  have lv : os.length = vs.length := r.length
  have ndP : ps.flatten.Nodup := by rw [← ef]; exact gd.nd
  have mem : ∀ {i : Nat} {a : Addr}, a ∈ (ps[i]?).getD [] → ∃ p, ps[i]? = some p ∧ a ∈ p := fun {i a} h => by
    cases e : ps[i]? with
    | none => rw [e] at h; cases h
    | some p => rw [e] at h; exact ⟨p, rfl, h⟩
  have inF : ∀ {i : Nat} {a : Addr}, a ∈ (ps[i]?).getD [] → a ∈ f := fun {i a} h => by
    obtain ⟨p, e, ha⟩ := mem h
    rw [ef]; exact List.mem_flatten.mpr ⟨p, List.mem_of_getElem? e, ha⟩
  have key : ∀ {l : List Fp}, l.flatten.Nodup → (∀ {k : Nat} {p : Fp}, l[k]? = some p → p.Nodup) ∧ ∀ {j k : Nat} {p q : Fp} {a : Addr}, l[j]? = some p → l[k]? = some q → a ∈ p → a ∈ q → j = k := by
    intro l
    induction l with
    | nil => intro _; exact ⟨fun e => by simp at e, fun e => by simp at e⟩
    | cons x l ih =>
      intro h
      rw [List.flatten_cons, List.nodup_append] at h
      obtain ⟨i1, i2⟩ := ih h.2.1
      refine ⟨fun {k p} e => ?_, fun {j k p q a} e1 e2 h1 h2 => ?_⟩
      · cases k with
        | zero => simp at e; subst e; exact h.1
        | succ k => exact i1 (k := k) (by simpa using e)
      · cases j with
        | zero =>
          simp at e1; subst e1
          cases k with
          | zero => rfl
          | succ k => exact absurd rfl (h.2.2 a h1 a (List.mem_flatten.mpr ⟨q, List.mem_of_getElem? (by simpa using e2), h2⟩))
        | succ j =>
          cases k with
          | zero =>
            simp at e2; subst e2
            exact absurd rfl (h.2.2 a h2 a (List.mem_flatten.mpr ⟨p, List.mem_of_getElem? (by simpa using e1), h1⟩))
          | succ k => exact congrArg Nat.succ (i2 (by simpa using e1) (by simpa using e2) h1 h2)
  refine ⟨fun i => (ps[i]?).getD [], ⟨?_, fun i o e => ?_, fun i => ?_, fun i j a h1 h2 => ?_, fun i a h => gd.off a (inF h), gd.same, sB⟩, fun a => ⟨fun ⟨i, h⟩ => inF h, fun h => ?_⟩⟩
  · unfold rho0 L2.start
    simp [lv]
  · have ei : i < os.length := by
      rcases Nat.lt_or_ge i os.length with z | z
      · exact z
      · unfold rho0 at e
        rw [List.getElem?_append_right (by simpa using z), List.getElem?_replicate] at e
        split at e <;> cases e
    have eo : os[i]? = some o := by
      unfold rho0 at e
      rw [List.getElem?_append_left (by simpa using ei), List.getElem?_map] at e
      cases q : os[i]? with
      | none => rw [q] at e; cases e
      | some a => rw [q] at e; cases e; rfl
    obtain ⟨v, p, a, b, d⟩ := rp i o eo
    refine ⟨v, ?_, by show RepO K cl Hk H o v ((ps[i]?).getD []); rw [b]; exact d⟩
    unfold L2.start
    rw [List.getElem?_append_left (by rw [List.length_map, ← lv]; exact ei), List.getElem?_map, a] <;> rfl
  · cases e : ps[i]? with
    | none => exact List.nodup_nil
    | some p => exact (key ndP).1 e
  · obtain ⟨p, e1, k1⟩ := mem h1
    obtain ⟨q, e2, k2⟩ := mem h2
    exact (key ndP).2 e1 e2 k1 k2
  · rw [ef] at h
    obtain ⟨p, hp, ha⟩ := List.mem_flatten.mp h
    obtain ⟨i, e⟩ := List.mem_iff_getElem?.mp hp
    exact ⟨i, by show a ∈ (ps[i]?).getD []; rw [e]; exact ha⟩
end
section
variable {P : Program} {w : World} {K : PySem.W.Frag} {mg : Str → Option Value} {base : Heap} {x qual : Str} {params : Arguments} {body : List Stmt} {scope : Scope} {dvs : List V} {kws : List (Str × V)} {f : Addr} {fd : FuncData} {cl : Wld}
/-- the slots that the caller holds are the first ones, bound to pv -/
theorem pin_start {N : List Str} {vs : List V} {nio : Nat} : Pin (vs.take nio) (L2.start N vs) := fun j v e => by
  have hj : j < vs.length ∧ vs[j]? = some v := by
    rw [List.getElem?_take] at e
    split at e
    · exact ⟨(List.getElem?_eq_some_iff.mp e).1, e⟩
    · cases e
  unfold L2.start
  rw [List.getElem?_append_left (by simpa using hj.1), List.getElem?_map, hj.2] <;> rfl
theorem FunD.okG {N ps : List Str} {k n nio : Nat} {m : MS} (F : FunD K x qual params body scope dvs kws f fd) (S : FnScope N ps scope) (hn : ps.length = n) (hio : nio ≤ n)
    (hb : ∀ (cdv : Value) (A : Around) (outer : List PySem.Env) (s : Shared) (H : Hp) (E : XK) (pv : List V), pv.length = nio → RoomG k (A.deeper (envOfC qual scope s.heap.objs.size f cdv)) →
      DSs (cxOf (L2.CX P w) P w K mg base N qual scope f cdv A outer s H E) cl (fun c d _ H' => E c d H') pv body m) :
    FnG P w K mg base (k + 1) f fd ps (spF K cl n nio (runF N.length nio m)) := by
  obtain ⟨oc, od, dV, kV, doc, pm, an, cdv, ct, osl, rfl, lk, hcd, _, _⟩ := F.ex
  refine ⟨fun vs H Q E h => h.1.trans hn.symm, fun {A outer s H args us vs Q E} hr e0 bd r hsp => ?_⟩
  have hl : vs.length = ps.length := hsp.1.trans hn.symm
  have KX : K.In s.heap := e0.mod.kin.keeps fun b o e => (e0.bs b o e).1
  have lim : s.heap.NoLimit := e0.mod.nolimit.keeps fun b o e => (e0.bs b o e).1
  have hkind : ∀ y ∈ ps.zip us, scope.names.lookup y.1 = some .local ∨ (scope.names.lookup y.1 = some .cell ∧ ((cellsFrom (s.heap.objs.size + 1) scope.names []).lookup y.1).isSome = true) := fun ⟨a, v⟩ hy =>
    (S.par a (List.of_mem_zip hy).1).imp id fun q => ⟨q, PySem.W.cellsFrom_some _ _ _ (.inl q)⟩
  refine codeAny_call_function hr.rm.depth (KX _ _ lk) rfl S.co S.gen rfl (PySem.W.codeRec_of KX hcd) (bd _ _ _ _ (wpAny_newFunctionEnv_cells S.kind hkind fun env he s1 x1 => ?_))
  subst he
  refine ⟨lim.keeps x1.toInCall.keep, codeAny_func ?_⟩
  obtain ⟨_, Hk, os, fp, sB, rep, gd, hq⟩ := hsp
  have pl : (vs.take nio).length = nio := by rw [List.length_take]; omega
  have body := hb cdv A outer s H E (vs.take nio) pl (hr.deeper _)
  have I : Inv (cxOf (L2.CX P w) P w K mg base N qual scope f cdv A outer s H E) [] (L2.start N vs) H s1 := inv_start S hr.rm.hd e0 hl r x1
  have hNl : os.length ≤ N.length := by
    have e1 : os.length = vs.length := rep.length
    have e2 := congrArg List.length S.pre
    rw [List.length_take] at e2
    omega
  obtain ⟨fs, c0, hall⟩ := start_cfg (N := N) sB rep gd hNl
  have t : tS K cl (fun c d _ H' => E c d H') (vs.take nio) m { nx := fun _ H' => Q .non H', rt := Q } (L2.start N vs) H := by
    refine ⟨Hk, rho0 N.length os, fs, c0, pin_start, ?_⟩
    have mon : ∀ {Hk' H' : Hp} {P' : Addr → Prop}, Step Hk H fs.all Hk' H' P' → Step Hk H (· ∈ fp) Hk' H' P' := fun s' => s'.weak (fun a h => (hall a).mp h) fun _ h => h
    have outs_of : ∀ {ρ' : DL.Env} {σ' : St} {Hk' H' : Hp} {f' : Fs} {outs : List O}, Cfg K cl Hk' H' ρ' σ' f' → Pin (vs.take nio) σ' → outsFrom 0 nio ρ' = some outs → ∃ gs, RepOs K cl Hk' H' outs (vs.take nio) gs ∧ Good Hk' H' gs ∧ ∀ a ∈ gs, f'.all a := fun {ρ' σ' Hk' H' f' outs} c p z => by
      obtain ⟨gs, rs, nd, mem⟩ := outs_rep c nio 0 (vs.take nio) outs pl (fun j v e => by rw [Nat.zero_add]; exact p j v e) z
      exact ⟨gs, rs, ⟨c.same, nd, fun a ha => let ⟨i, _, hi⟩ := mem a ha; c.off i a hi⟩, fun a ha => let ⟨i, _, hi⟩ := mem a ha; ⟨i, hi⟩⟩
    unfold runF at hq
    cases z : m (rho0 N.length os) with
    | nx ρ' =>
      rw [z] at hq
      have hq : FQ K cl (vs.take nio) Hk H fp (withOuts nio ρ' (.ok (.d .non))) Q E := hq
      unfold withOuts at hq
      cases zo : outsFrom 0 nio ρ' with
      | none => rw [zo] at hq; exact hq.elim
      | some outs =>
        rw [zo] at hq
        intro σ' Hk' H' f' c p st
        obtain ⟨gs, rs, gd', mem⟩ := outs_of c p zo
        exact hq .non [] gs Hk' H' ⟨rfl, rfl⟩ rs gd' ((mon st).weak (fun _ h => h) fun a h => mem a h)
    | bk _ => rw [z] at hq; exact hq.elim
    | ct _ => rw [z] at hq; exact hq.elim
    | bad => rw [z] at hq; exact hq.elim
    | rt o outs =>
      rw [z] at hq
      exact fun v g gs Hk' H' r1 r2 gd' st => hq v g gs Hk' H' r1 r2 gd' (mon st)
    | exc xx ρ' =>
      rw [z] at hq
      have hq : FQ K cl (vs.take nio) Hk H fp (withOuts nio ρ' (.exc xx)) Q E := hq
      unfold withOuts at hq
      cases zo : outsFrom 0 nio ρ' with
      | none => rw [zo] at hq; exact hq.elim
      | some outs =>
        rw [zo] at hq
        intro cls dd σ' Hk' H' f' c p st ex
        obtain ⟨gs, rs, gd', mem⟩ := outs_of c p zo
        exact hq cls dd gs Hk' H' rs gd' ((mon st).weak (fun _ h => h) fun a h => mem a h) ex
  refine wpAny_mono (body.run [] s1 (L2.start N vs) H _ I t) (fun fl s' hs => ?_) fun e s' hs => hs
  cases fl with
  | ret u =>
    obtain ⟨v, σ', H', J, rv, q⟩ := hs
    exact ⟨v, H', J.os, J.bare, J.base, J.hok, rv, q⟩
  | next =>
    obtain ⟨σ', H', J, q⟩ := hs
    exact ⟨V.non, H', J.os, J.bare, J.base, J.hok, rfl, q⟩
  | brk =>
    obtain ⟨_, _, _, q⟩ := hs
    exact q.elim
  | cont =>
    obtain ⟨_, _, _, q⟩ := hs
    exact q.elim
end
end DL
set_option Elab.async false
set_option linter.all false
set_option maxRecDepth 100000
/-! EJ: calls of defs, methods, classes; freezing. -/
namespace DL
open PySem L2 PySem.Spec PyProof.Rows RZ
section
variable {X : Cx} {W : WX} {k n : Nat} {f C : Addr} {fd : FuncData} {ps : List Str} {sp : Sp} {dvs : List V} {ds : List Value} {x m : Str} {p pos apos : Pos} {e o : Expr} {es : List Expr} {ta : TE} {t : TA}
theorem run_G {pins : List (Addr × Obj)} {σ : St} {H : Hp} {s : Shared} {Q : VK} {args : Args} {us : List Value} {vs : List V} (F : FnG X.prog X.w X.K X.mg X.base k f fd ps sp) (hr : RoomG k X.A) (b : BindsTo s fd args (ps.zip us)) (tk : Takes X W)
    (I : Inv X pins σ H s) (r : Vals vs us) (h : sp vs H Q (WE W σ)) : wpAny (model X.prog X.w) X.A (call (.ref f) args.pos args.kw) (EP X pins σ Q) X.xe s := by
  refine wpAny_call (codeAny_mono (F.go hr I.env0 b r h) fun z s' hq => ?_)
  match z, hq with
  | .error e, hq => exact passAt tk σ pins H s e s' I hq
  | .ok (.ret u), hq => exact I.after hq
def tCallG (sp : Sp) (dvs : List V) (W : WX) (t : TA) : TE := fun σ H Q => t σ H fun vs H1 => sp (vs ++ dvs) H1 Q (WE W σ)
theorem run_B {pins : List (Addr × Obj)} {σ : St} {H : Hp} {s : Shared} {Q : VK} {us : List Value} {vs : List V} (F : FnG X.prog X.w X.K X.mg X.base k f fd ps sp) (hr : RoomG k X.A) (hb : Binds X.K fd ps ds) (hd : Vals dvs ds) (tk : Takes X W)
    (I : Inv X pins σ H s) (r : Vals vs us) (h : sp (vs ++ dvs) H Q (WE W σ)) : wpAny (model X.prog X.w) X.A (call (.ref f) us) (EP X pins σ Q) X.xe s := by
  have r2 : Vals (vs ++ dvs) (us ++ ds) := r.append hd
  exact run_G (args := ⟨us, []⟩) F hr (hb s us I.kIn (by rw [← r2.length]; exact F.ar _ _ _ _ h)) tk I r2 h
theorem pe_callG (F : FnG X.prog X.w X.K X.mg X.base k f fd ps sp) (hr : RoomG k X.A) (hb : Binds X.K fd ps ds) (hd : Vals dvs ds) (tk : Takes X W) (hk : PySem.W.keepIn X.K (.ref f) = true) (hg : Gl X x) (hm : X.mg x = some (.ref f))
    (ha : PA X (e :: es) t) (hdb : (x == ("__debug__" : Str)) = false := by decide) (he : starEach (e :: es) X.env = (false, eval e X.env) :: starEach es X.env := by rfl) (hpl : (backTo pos (starEach es X.env)).any (·.1) = false := by rfl) :
    PE X (.Call (.Name x p) (e :: es) [] pos) (tCallG sp dvs W t) :=
  ⟨fun pins s σ H Q I h => wpAny_Call_Name_kw (ld_glob I hg hm (PySem.W.callWith_K (h₀ := X.base) I.ok.mod.kin hk (thn (ha.run pos pins s σ H _ I h) fun us s1 ⟨vs, H1, I1, r, q⟩ => ⟨I1.kIn, run_B F hr hb hd tk I1 r q⟩) he hpl) hdb)⟩
theorem pe_callG0 (F : FnG X.prog X.w X.K X.mg X.base k f fd ps sp) (hr : RoomG k X.A) (hb : Binds X.K fd ps ds) (hd : Vals dvs ds) (tk : Takes X W) (hk : PySem.W.keepIn X.K (.ref f) = true) (hg : Gl X x) (hm : X.mg x = some (.ref f))
    (hdb : (x == ("__debug__" : Str)) = false := by decide) : PE X (.Call (.Name x p) [] [] pos) (tCallG sp dvs W tNil) :=
  ⟨fun pins s σ H Q I h => wpAny_Call_Name_kw (ld_glob I hg hm (PySem.W.callWith_K0 I.kIn hk (run_B (us := []) F hr hb hd tk I .nil h)) hdb)⟩
/-- a method of an instance -/
def tMethG (C : Addr) (m : Str) (sp : Sp) (dvs : List V) (W : WX) (ta : TE) (t : TA) : TE := fun σ H Q => ta σ H fun x H1 => ∃ a dx fs, x = .ref a ∧ H1 a = some (.ins C dx fs) ∧ fs.lookup m = none ∧ t σ H1 fun vs H2 => sp (x :: (vs ++ dvs)) H2 Q (WE W σ)
theorem pe_methG {pl : Sem Bool} (he : PE X o ta) (c : Cls X.K C) (hm : Meth X.K C m f) (F : FnG X.prog X.w X.K X.mg X.base k f fd ps sp) (hr : RoomG k X.A) (hb : Binds X.K fd ps ds) (hd : Vals dvs ds) (tk : Takes X W) (ha : PA X (e :: es) t)
    (hst : starEach (e :: es) X.env = (false, eval e X.env) :: starEach es X.env := by rfl) (hpl : (backTo pos (starEach es X.env)).any (·.1) = false := by rfl)
    (ht : eval (.Call (.Attribute o m apos) (e :: es) [] pos) X.env = (do
      let ov ← eval o X.env; standAt apos.atName
      let (f, first) ← holding [ov] (getMethod ov m pl)
      callWith pos f first (backTo pos (starEach (e :: es) X.env)) (backToKw pos (keywordEach [] X.env))) := by rfl) : PE X (.Call (.Attribute o m apos) (e :: es) [] pos) (tMethG C m sp dvs W ta t) := by
  refine ⟨fun pins s σ H Q I h => PySem.W.methodCall_KW (pl := pl) (thn (he.run pins s σ H _ I h) fun u s1 ⟨x, H1, I1, rx, a, dx, fs, ex, ea, l, q⟩ => ?_) ht⟩
  subst ex
  obtain rfl : u = Value.ref a := rx
  exact getmeth_ok I1 ea c hm l (PySem.W.callWith_K (first := [.ref a]) (h₀ := X.base) I.ok.mod.kin hm.kp (thn (ha.run pos pins s1 σ H1 _ I1 q) fun us s2 ⟨vs, H2, I2, r, q2⟩ =>
    ⟨I2.kIn, run_B (us := .ref a :: us) (vs := .ref a :: vs) F hr hb hd tk I2 (.cons rfl r) q2⟩) hst hpl)
theorem pe_methG0 {pl : Sem Bool} (he : PE X o ta) (c : Cls X.K C) (hm : Meth X.K C m f) (F : FnG X.prog X.w X.K X.mg X.base k f fd ps sp) (hr : RoomG k X.A) (hb : Binds X.K fd ps ds) (hd : Vals dvs ds) (tk : Takes X W)
    (ht : eval (.Call (.Attribute o m apos) [] [] pos) X.env = (do
      let ov ← eval o X.env; standAt apos.atName
      let (f, first) ← holding [ov] (getMethod ov m pl)
      callWith pos f first (backTo pos (starEach [] X.env)) (backToKw pos (keywordEach [] X.env))) := by rfl) : PE X (.Call (.Attribute o m apos) [] [] pos) (tMethG C m sp dvs W ta tNil) := by
  refine ⟨fun pins s σ H Q I h => PySem.W.methodCall_KW (pl := pl) (thn (he.run pins s σ H _ I h) fun u s1 ⟨x, H1, I1, rx, a, dx, fs, ex, ea, l, q⟩ => ?_) ht⟩
  subst ex
  obtain rfl : u = Value.ref a := rx
  exact getmeth_ok I1 ea c hm l (PySem.W.callWith_K0 (first := [.ref a]) I1.kIn hm.kp (run_B (us := [.ref a]) (vs := [.ref a]) F hr hb hd tk I1 (.cons rfl .nil) q))
/-- a class is called -/
def tMakeG (C : Addr) (sp : Sp) (dvs : List V) (W : WX) (t : TA) : TE := fun σ H Q => t σ H fun vs H1 => ∀ x dx, H1 x = none → H1 dx = none → dx ≠ x →
  sp (.ref x :: (vs ++ dvs)) (upd (upd H1 dx (.own x)) x (.ins C dx [])) (fun v H2 => v = .non ∧ Q (.ref x) H2) (WE W σ)
theorem run_makeG {pins : List (Addr × Obj)} {σ : St} {H : Hp} {s : Shared} {Q : VK} {us : List Value} {vs : List V} (M : Mk X.K C f) (F : FnG X.prog X.w X.K X.mg X.base k f fd ps sp) (hr : RoomG (k + 1) X.A) (hb : Binds X.K fd ps ds) (hd : Vals dvs ds) (tk : Takes X W)
    (I : Inv X pins σ H s) (r : Vals vs us) (h : ∀ x dx, H x = none → H dx = none → dx ≠ x → sp (.ref x :: (vs ++ dvs)) (upd (upd H dx (.own x)) x (.ins C dx [])) (fun v H2 => v = .non ∧ Q (.ref x) H2) (WE W σ)) :
    wpAny (model X.prog X.w) X.A (call (.ref C) us) (EP X pins σ Q) X.xe s := by
  have fr1 := I.hok.fresh (Nat.le_succ s.heap.objs.size)
  have fr0 := I.hok.fresh (Nat.le_refl s.heap.objs.size)
  have h0 := h _ _ fr1 fr0 (Nat.ne_of_lt (Nat.lt_succ_self _))
  have J := Inv.made (C := C) I
  have r2 : Vals (V.ref (s.heap.objs.size + 1) :: (vs ++ dvs)) (Value.ref (s.heap.objs.size + 1) :: (us ++ ds)) := .cons rfl (r.append hd)
  refine wpAny_call (make_map (f := f) I.kIn M.makes M.init (beq_iff_eq.mp M.fn) (codeAny_mono (F.go (hr.make C us []) (J.env0.make C us []) (hb _ (Value.ref (s.heap.objs.size + 1) :: us) J.kIn (r2.length.symm.trans (F.ar _ _ _ _ h0))) r2 h0) fun z s' hq => ?_))
  match z, hq with
  | .error e, hq => exact passAt tk σ pins _ _ e s' J hq
  | .ok (.ret u), hq =>
    obtain ⟨v, H', J2, rv, ev, q3⟩ := J.after hq
    subst ev
    exact ⟨rv, ⟨V.ref (s.heap.objs.size + 1), H', J2, rfl, q3⟩⟩
theorem pe_makeG (M : Mk X.K C f) (F : FnG X.prog X.w X.K X.mg X.base k f fd ps sp) (hr : RoomG (k + 1) X.A) (hb : Binds X.K fd ps ds) (hd : Vals dvs ds) (tk : Takes X W) (hg : Gl X x) (hm : X.mg x = some (.ref C))
    (ha : PA X (e :: es) t) (hdb : (x == ("__debug__" : Str)) = false := by decide) (he : starEach (e :: es) X.env = (false, eval e X.env) :: starEach es X.env := by rfl) (hpl : (backTo pos (starEach es X.env)).any (·.1) = false := by rfl) :
    PE X (.Call (.Name x p) (e :: es) [] pos) (tMakeG C sp dvs W t) :=
  ⟨fun pins s σ H Q I h => wpAny_Call_Name_kw (ld_glob I hg hm (PySem.W.callWith_K (h₀ := X.base) I.ok.mod.kin M.kp (thn (ha.run pos pins s σ H _ I h) fun us s1 ⟨vs, H1, I1, r, q⟩ => ⟨I1.kIn, run_makeG M F hr hb hd tk I1 r q⟩) he hpl) hdb)⟩
end
/-! ### over own things -/
def DAr (X : Cx) (cl : Wld) (W : WX) (is : List Nat) (r : Bool) (es : List Expr) (m : M (List D)) : Prop :=
  PA X es fun σ H Q => ∃ vs : List V, vs.length = is.length ∧ (∀ (j i : Nat), is[j]? = some i → ∃ v, vs[j]? = some v ∧ σ[i]? = some (some v)) ∧ tR X.K cl W (RDs X.K) r m σ H fun us H1 => Q (vs ++ us) H1
section
variable {X : Cx} {cl : Wld} {W : WX} {r ra : Bool} {e : Expr} {es : List Expr} {is : List Nat} {pos : Pos}
theorem dar_nil {m : M (List D)} (h : DA X cl W r es m) : DAr X cl W [] r es m := PA.imp h fun σ H Q ⟨vs, hl, _, q⟩ => by
  have e : vs = [] := List.length_eq_zero_iff.mp hl
  subst e
  exact q
theorem dar_cons (i : Nat) {x : Str} {m : M (List D)} (h : DAr X cl W is r es m) (hN : X.N[i]? = some x := by rfl) (hv : Vis X.env.scope x := by first | exact Or.inl rfl | exact Or.inr (Or.inl rfl) | exact Or.inr (Or.inr rfl)) (hd : (x == ("__debug__" : Str)) = false := by decide)
    (hcd : (x == ("__classdict__" : Str)) = false := by decide) : DAr X cl W (i :: is) r (.Name x pos :: es) m := PA.imp (pa_cons (pe_var (i := i) hN hv hd hcd) h) fun σ H Q ⟨vs, hl, hg, q⟩ => by
  obtain ⟨v, e1, e2⟩ := hg 0 i rfl
  cases vs with
  | nil => cases hl
  | cons w ws =>
    cases e1
    exact ⟨v, e2, ws, by simpa using hl, fun j i' e => by simpa using hg (j + 1) i' (by simpa using e), q⟩
end
def callR (is : List Nat) (r : FRes) (ρ : Env) : Res O := match r with
  | .ok o outs => .ok o (putS is outs ρ)
  | .exc x outs => .exc x (putS is outs ρ)
  | .bad => .bad
def goF (n : Nat) (is : List Nat) (F : List O → FRes) (ds : List D) (ρ : Env) : Res O :=
  if is.length + ds.length = n then match getS ρ is with
    | some os => callR is (F (os ++ ds.map O.d)) ρ
    | none => .bad
  else .bad
/-- the own things in the slots is, then data, then what lacks -/
def mCall (n : Nat) (is : List Nat) (F : List O → FRes) (dds : List D) (ma : M (List D)) : M O := fun ρ => match getS ρ is with
  | none => .bad
  | some _ => (ma ρ).bind fun ds ρ1 => goF n is F (ds ++ dds) ρ1
section
variable {K : PySem.W.Frag} {cl : Wld} {W : WX} {Hk H Hk' H' : Hp} {ρ : Env} {σ : St} {f : Fs}
theorem RepOs.appDs : ∀ {os : List O} {vs : List V} {g : Fp} {ds : List D} {us : List V}, RepOs K cl Hk H os vs g → RepDs K Hk ds us → RepOs K cl Hk H (os ++ ds.map O.d) (vs ++ us) g
  | [], _, _, _, _, h, k => by
    obtain ⟨rfl, rfl⟩ := h
    exact RepOs.ofDs k
  | o :: os, _, _, _, us, h, k => by
    obtain ⟨v, r, f1, f2, rfl, rfl, h1, h2⟩ := h
    exact ⟨v, r ++ us, f1, f2, rfl, rfl, h1, RepOs.appDs h2 k⟩
/-- the call itself -/
theorem EQ.go {n : Nat} {is : List Nat} {F : List O → FRes} {ds : List D} {vs us : List V} {Q : VK} {r : Bool} (c : Cfg K cl Hk H ρ σ f) (nd : is.Nodup) (hr : r = true → is = []) (hl : vs.length = is.length) (hv : ∀ (j i : Nat), is[j]? = some i → ∃ v, vs[j]? = some v ∧ σ[i]? = some (some v)) (hd : RepDs K Hk ds us)
    (h : EQ K cl W (RO K cl) r σ Hk H ρ f (goF n is F ds ρ) Q) : spF K cl n is.length F (vs ++ us) H Q (WE W σ) := by
  unfold goF at h
  split at h
  · rename_i en
    split at h
    · rename_i os eos
      obtain ⟨ws, lw, rw', gd, hw⟩ := c.hand nd eos
      have e : ws = vs := by
        refine List.ext_getElem? fun j => ?_
        by_cases hj : j < is.length
        · obtain ⟨i, hi⟩ : ∃ i, is[j]? = some i := ⟨_, List.getElem?_eq_getElem hj⟩
          obtain ⟨_, v, a, b⟩ := hw j i hi
          obtain ⟨v', a', b'⟩ := hv j i hi
          rw [b] at b'; cases b'
          rw [a, a']
        · rw [List.getElem?_eq_none (by omega), List.getElem?_eq_none (by omega)]
      subst e
      refine ⟨by rw [List.length_append, ← hd.length, lw]; exact en, Hk, os ++ ds.map O.d, is.flatMap f, c.bs, rw'.appDs hd, gd, ?_⟩
      have et : (ws ++ us).take is.length = ws := by rw [← lw]; simp
      rw [et]
      unfold callR at h
      cases z : F (os ++ ds.map O.d) with
      | bad => rw [z] at h; exact h
      | ok o outs =>
        rw [z] at h
        intro v g gs Hk' H' r1 r2 gd' st
        obtain ⟨f', c', ap, st', ef⟩ := c.back nd hw lw r2 gd' st
        refine h v g Hk' H' f' c' ap st' (fun er => ?_) r1
        have ei := hr er
        subst ei
        exact ⟨rfl, ef rfl, fun a u q => st.fr a u (fun z => nomatch (show a ∈ ([] : List Addr) from z)) q⟩
      | exc x outs =>
        rw [z] at h
        intro cls dd gs Hk' H' r2 gd' st ex
        obtain ⟨f', c', ap, st', ef⟩ := c.back (g := []) nd hw lw r2 gd' st
        exact h cls dd Hk' H' f' c' (Apart.step_nil' st') ex
    · exact h.elim
  · exact h.elim
end
/-- how a call without keywords binds: the lacking values are dv -/
def CB (d : He.DefD) (ps : List Str) (dv : PySem.W.Frag → List V) : Prop := ∀ (K : PySem.W.Frag) (f : Addr) (fd : FuncData), FunD K d.name d.qual d.params d.body d.scope (d.dvs K) (d.kws K) f fd → ∃ ds, Vals (dv K) ds ∧ Binds K fd ps ds
def noDv : PySem.W.Frag → List V := fun _ => []
structure OkD (P : Program) (w : World) (K : PySem.W.Frag) (mg : Str → Option Value) (base : Heap) (cl : Wld) (d : He.DefD) (k : Nat) (ps : List Str) (n nio : Nat) (F : List O → FRes) : Prop where
  ex : ∃ fd, FunD K d.name d.qual d.params d.body d.scope (d.dvs K) (d.kws K) (He.fAd K d.at_) fd ∧ FnG P w K mg base k (He.fAd K d.at_) fd ps (spF K cl n nio F)
section
variable {X : Cx} {cl : Wld} {W : WX} {r ra : Bool} {e o : Expr} {es : List Expr} {pos p apos : Pos} {x : Str} {is : List Nat} {d : He.DefD} {k j n nio : Nat} {ps : List Str} {F : List O → FRes} {dv : PySem.W.Frag → List V} {dds : List D} {ma : M (List D)}
theorem tR.go {σ : St} {H : Hp} {Q : VK} (nd : is.Nodup) (hio : nio = is.length) (hdd : ∀ H, RepDs X.K H dds (dv X.K)) (h : tR X.K cl W (RO X.K cl) (ra && is.isEmpty) (mCall n is F dds ma) σ H Q) :
    ∃ vs : List V, vs.length = is.length ∧ (∀ (j i : Nat), is[j]? = some i → ∃ v, vs[j]? = some v ∧ σ[i]? = some (some v)) ∧ tR X.K cl W (RDs X.K) ra ma σ H fun us H1 => spF X.K cl n nio F (vs ++ us ++ dv X.K) H1 Q (WE W σ) := by
  obtain ⟨Hk, ρ, f, c, q⟩ := h
  subst hio
  unfold mCall at q
  split at q
  · exact q.elim
  · rename_i os eos
    obtain ⟨vs, hl, _, _, hv⟩ := c.hand nd eos
    have hv' : ∀ (j i : Nat), is[j]? = some i → ∃ v, vs[j]? = some v ∧ σ[i]? = some (some v) := fun j i e => (hv j i e).2
    refine ⟨vs, hl, hv', Hk, ρ, f, c, (EQ.seq RDs.p (R2 := RO X.K cl) (r2 := is.isEmpty) q).mono fun us H1 ⟨ds, Hk1, ρ1, f1, c1, _, _, hd, q1⟩ => ?_⟩
    rw [List.append_assoc]
    exact EQ.go c1 nd (fun e => List.isEmpty_iff.mp e) hl hv' (RepDs.app hd.1 (hdd Hk1)) q1
theorem do_call (G0 : OkD X.prog X.w X.K X.mg X.base cl d k ps n nio F) (hb : CB d ps dv) (hdd : ∀ H, RepDs X.K H dds (dv X.K)) (hr : RoomG j X.A) (hm : X.mg x = some (.ref (He.fAd X.K d.at_))) (tk : Takes X W) (ha : DAr X cl W is ra (e :: es) ma) (hkj : k ≤ j := by decide)
    (hio : nio = is.length := by rfl) (nd : is.Nodup := by decide) (hg : Gl X x := by rfl) (hdb : (x == ("__debug__" : Str)) = false := by decide) (he : starEach (e :: es) X.env = (false, eval e X.env) :: starEach es X.env := by rfl) (hpl : (backTo pos (starEach es X.env)).any (·.1) = false := by rfl) :
    DO X cl W (ra && is.isEmpty) (.Call (.Name x p) (e :: es) [] pos) (mCall n is F dds ma) := by
  obtain ⟨fd, D, G⟩ := G0.ex
  obtain ⟨us, hu, bd⟩ := hb X.K _ fd D
  exact PE.imp (pe_callG (G.mono hkj) hr bd hu tk D.kp hg hm ha hdb he hpl) fun σ H Q h => tR.go nd hio hdd h
/-- f() -/
theorem do_call0 (G0 : OkD X.prog X.w X.K X.mg X.base cl d k ps n 0 F) (hb : CB d ps dv) (hdd : ∀ H, RepDs X.K H dds (dv X.K)) (hr : RoomG j X.A) (hm : X.mg x = some (.ref (He.fAd X.K d.at_))) (tk : Takes X W) (hkj : k ≤ j := by decide)
    (hg : Gl X x := by rfl) (hdb : (x == ("__debug__" : Str)) = false := by decide) : DO X cl W true (.Call (.Name x p) [] [] pos) (mCall n [] F dds fun ρ => .ok [] ρ) := by
  obtain ⟨fd, D, G⟩ := G0.ex
  obtain ⟨us, hu, bd⟩ := hb X.K _ fd D
  exact PE.imp (pe_callG0 (G.mono hkj) hr bd hu tk D.kp hg hm hdb) fun σ H Q ⟨Hk, ρ, f, c, q⟩ => EQ.go (r := true) (is := []) (vs := []) (us := dv X.K) c List.nodup_nil (fun _ => rfl) rfl (fun j i e => by simp at e) (hdd Hk) q
/-- a method of the instance in slot i, other own things in the slots is -/
def insIs (C : Str) (m : Str) : O → Bool
  | .ins C' ns _ => decide (C' = C) && !ns.contains m
  | _ => false
def mMeth (C m : Str) (n : Nat) (i : Nat) (is : List Nat) (F : List O → FRes) (dds : List D) (ma : M (List D)) : M O := fun ρ => match ρ[i]? with
  | some (some o) => if insIs C m o then mCall n (i :: is) F dds ma ρ else .bad
  | _ => .bad
theorem lookup_zip {m : Str} : ∀ {ns : List Str} {vs : List V}, ns.contains m = false → (ns.zip vs).lookup m = none
  | [], _, _ => rfl
  | _ :: _, [], _ => rfl
  | a :: ns, v :: vs, h => by
    rw [List.contains_cons, Bool.or_eq_false_iff] at h
    show ((a, v) :: ns.zip vs).lookup m = none
    rw [List.lookup_cons, h.1]
    exact lookup_zip h.2
theorem insIs_ok {K : PySem.W.Frag} {Hk H : Hp} {C m : Str} {o : O} {v : V} {f : Fp} (h : insIs C m o = true) (r : RepO K cl Hk H o v f) : ∃ a dx fs, v = .ref a ∧ H a = some (.ins (cl C) dx fs) ∧ fs.lookup m = none := by
  cases o with
  | ins C' ns os =>
    have h : (decide (C' = C) && !ns.contains m) = true := h
    rw [Bool.and_eq_true, decide_eq_true_eq] at h
    obtain ⟨rfl, h2⟩ := h
    obtain ⟨a, dx, vs, g, rfl, e, _, _, _, _⟩ := r
    exact ⟨a, dx, _, rfl, e, lookup_zip (by simpa using h2)⟩
  | _ => cases h
theorem do_meth {C m y : Str} {i : Nat} {pl : Sem Bool} (G0 : OkD X.prog X.w X.K X.mg X.base cl d k ps n nio F) (hb : CB d ps dv) (hdd : ∀ H, RepDs X.K H dds (dv X.K)) (hr : RoomG j X.A) (cC : Cls X.K (cl C)) (hm : Meth X.K (cl C) m (He.fAd X.K d.at_)) (tk : Takes X W) (ha : DAr X cl W is ra (e :: es) ma)
    (hkj : k ≤ j := by decide) (hio : nio = (i :: is).length := by rfl) (nd : (i :: is).Nodup := by decide) (hN : X.N[i]? = some y := by rfl) (hv : Vis X.env.scope y := by first | exact Or.inl rfl | exact Or.inr (Or.inl rfl) | exact Or.inr (Or.inr rfl)) (hdb : (y == ("__debug__" : Str)) = false := by decide)
    (hcd : (y == ("__classdict__" : Str)) = false := by decide) (he : starEach (e :: es) X.env = (false, eval e X.env) :: starEach es X.env := by rfl) (hpl : (backTo pos (starEach es X.env)).any (·.1) = false := by rfl)
    (ht : eval (.Call (.Attribute (.Name y p) m apos) (e :: es) [] pos) X.env = (do
      let ov ← eval (.Name y p) X.env; standAt apos.atName
      let (f, first) ← holding [ov] (getMethod ov m pl)
      callWith pos f first (backTo pos (starEach (e :: es) X.env)) (backToKw pos (keywordEach [] X.env))) := by rfl) :
    DO X cl W false (.Call (.Attribute (.Name y p) m apos) (e :: es) [] pos) (mMeth C m n i is F dds ma) := by
  obtain ⟨fd, D, G⟩ := G0.ex
  obtain ⟨us, hu, bd⟩ := hb X.K _ fd D
  refine PE.imp (pe_methG (pl := pl) (pe_var (i := i) hN hv hdb hcd) cC hm (G.mono hkj) hr bd hu tk ha he hpl ht) fun σ H Q ⟨Hk, ρ, f, c, q⟩ => ?_
  unfold mMeth at q
  split at q
  · rename_i o eo
    split at q
    · rename_i hi
      obtain ⟨v, e1, r1⟩ := c.rep i o eo
      obtain ⟨a, dx, fs, e2, e3, e4⟩ := insIs_ok hi r1
      have h : tR X.K cl W (RO X.K cl) (ra && (i :: is).isEmpty) (mCall n (i :: is) F dds ma) σ H Q := ⟨Hk, ρ, f, c, by rw [show (ra && (i :: is).isEmpty) = false by simp]; exact q⟩
      obtain ⟨vs, hl, hv', q2⟩ := tR.go (dv := dv) nd hio hdd h
      cases vs with
      | nil => cases hl
      | cons w ws =>
        obtain ⟨v', b1, b2⟩ := hv' 0 i rfl
        cases b1
        rw [e1] at b2; cases b2
        exact ⟨v, e1, a, dx, fs, e2, e3, e4, ws, by simpa using hl, fun j i' e => by simpa using hv' (j + 1) i' (by simpa using e), q2⟩
    · exact q.elim
  · exact q.elim
theorem do_meth0 {C m y : Str} {i : Nat} {pl : Sem Bool} (G0 : OkD X.prog X.w X.K X.mg X.base cl d k ps n 1 F) (hb : CB d ps dv) (hdd : ∀ H, RepDs X.K H dds (dv X.K)) (hr : RoomG j X.A) (cC : Cls X.K (cl C)) (hm : Meth X.K (cl C) m (He.fAd X.K d.at_)) (tk : Takes X W)
    (hkj : k ≤ j := by decide) (hN : X.N[i]? = some y := by rfl) (hv : Vis X.env.scope y := by first | exact Or.inl rfl | exact Or.inr (Or.inl rfl) | exact Or.inr (Or.inr rfl)) (hdb : (y == ("__debug__" : Str)) = false := by decide)
    (hcd : (y == ("__classdict__" : Str)) = false := by decide)
    (ht : eval (.Call (.Attribute (.Name y p) m apos) [] [] pos) X.env = (do
      let ov ← eval (.Name y p) X.env; standAt apos.atName
      let (f, first) ← holding [ov] (getMethod ov m pl)
      callWith pos f first (backTo pos (starEach [] X.env)) (backToKw pos (keywordEach [] X.env))) := by rfl) :
    DO X cl W false (.Call (.Attribute (.Name y p) m apos) [] [] pos) (mMeth C m n i [] F dds fun ρ => .ok [] ρ) := by
  obtain ⟨fd, D, G⟩ := G0.ex
  obtain ⟨us, hu, bd⟩ := hb X.K _ fd D
  refine PE.imp (pe_methG0 (pl := pl) (pe_var (i := i) hN hv hdb hcd) cC hm (G.mono hkj) hr bd hu tk ht) fun σ H Q ⟨Hk, ρ, f, c, q⟩ => ?_
  unfold mMeth at q
  split at q
  · rename_i o eo
    split at q
    · rename_i hi
      obtain ⟨v, e1, r1⟩ := c.rep i o eo
      obtain ⟨a, dx, fs, e2, e3, e4⟩ := insIs_ok hi r1
      have q : EQ X.K cl W (RO X.K cl) false σ Hk H ρ f (match getS ρ [i] with
        | none => .bad
        | some _ => (Res.ok [] ρ).bind fun ds ρ1 => goF n [i] F (ds ++ dds) ρ1) Q := q
      split at q
      · exact q.elim
      · exact ⟨v, e1, a, dx, fs, e2, e3, e4, EQ.go (r := false) (is := [i]) (vs := [v]) (us := dv X.K) c (by simp) (fun e => Bool.noConfusion e) rfl (fun j i' e => by
          cases j with
          | zero => simp at e; subst e; exact ⟨v, rfl, e1⟩
          | succ j => simp at e) (hdd Hk) q⟩
    · exact q.elim
  · exact q.elim
/-- C(..) -/
def newF (r : FRes) (ρ : Env) : Res O := match r with
  | .ok (.d .non) [o] => .ok o ρ
  | .exc x [_] => .exc x ρ
  | _ => .bad
def mMake (C : Str) (n : Nat) (F : List O → FRes) (dds : List D) (ma : M (List D)) : M O := fun ρ => (ma ρ).bind fun ds ρ1 => if 1 + (ds ++ dds).length = n then newF (F (.ins C [] [] :: (ds ++ dds).map O.d)) ρ1 else .bad
end
section
variable {K : PySem.W.Frag} {cl : Wld} {W : WX} {Hk H Hk' H' : Hp} {ρ : Env} {σ : St} {f : Fs}
/-- what is done beside the slots -/
theorem Cfg.beside {P P' : Addr → Prop} (c : Cfg K cl Hk H ρ σ f) (st : Step Hk H P Hk' H' P') (sep : ∀ a, f.all a → ¬ P a) (s : Same Hk' H') : Cfg K cl Hk' H' ρ σ f :=
  ⟨c.len, fun i o e => by
    obtain ⟨v, e1, r1⟩ := c.rep i o e
    exact ⟨v, e1, r1.keep st.kk o v (f i) fun a ha u q => st.fr a u (sep a ⟨i, ha⟩) q⟩, c.nd, c.dj, fun i a h => by
    obtain ⟨o1, o2⟩ := c.off i a h
    constructor
    · cases q : Hk' a with
      | none => rfl
      | some u =>
        rcases st.nw a (by rw [q]; intro z; cases z) with z | z | z
        · exact absurd o1 z
        · exact absurd z o2
        · exact absurd z (sep a ⟨i, h⟩)
    · intro z
      cases q : H a with
      | none => exact o2 q
      | some u =>
        rw [st.fr a u (sep a ⟨i, h⟩) q] at z
        (cases z), s, c.bs.trans st.kk⟩
theorem EQ.make {C : Str} {n : Nat} {F : List O → FRes} {ds : List D} {us : List V} {Q : VK} {r : Bool} (c : Cfg K cl Hk H ρ σ f) (hd : RepDs K Hk ds us) (hn : 1 + ds.length = n) (h : EQ K cl W (RO K cl) r σ Hk H ρ f (newF (F (.ins C [] [] :: ds.map O.d)) ρ) Q)
    {x dx : Addr} (hx : H x = none) (hdx : H dx = none) (ne : dx ≠ x) : spF K cl n 1 F (.ref x :: us) (upd (upd H dx (.own x)) x (.ins (cl C) dx [])) (fun v H2 => v = .non ∧ Q (.ref x) H2) (WE W σ) := by
  have u1 : (upd H dx (.own x)) x = none := by rw [upd_ne (Ne.symm ne)]; exact hx
  have s1 : Same H (upd H dx (.own x)) := same_upd hdx
  have s2 : Same (upd H dx (.own x)) (upd (upd H dx (.own x)) x (.ins (cl C) dx [])) := same_upd u1
  have sH := s1.trans s2
  have sK := c.same.trans sH
  have atx : (upd (upd H dx (.own x)) x (.ins (cl C) dx [])) x = some (.ins (cl C) dx []) := upd_same
  have atd : (upd (upd H dx (.own x)) x (.ins (cl C) dx [])) dx = some (.own x) := by rw [upd_ne ne]; exact upd_same
  have st0 : Step Hk H f.all Hk (upd (upd H dx (.own x)) x (.ins (cl C) dx [])) (fun a => a ∈ [x, dx] ∨ f.all a) := ⟨.refl _, fun a u _ e => sH a u e, fun _ h => .inl h, fun a h => by
    rcases h with h | h
    · simp at h
      rcases h with rfl | rfl
      · exact .inl hx
      · exact .inl hdx
    · exact .inr h⟩
  have c0 : Cfg K cl Hk (upd (upd H dx (.own x)) x (.ins (cl C) dx [])) ρ σ f := c.grow ⟨.refl _, sH, sK, fun _ h => .inl h⟩
  have sep : ∀ a, f.all a → ¬ a ∈ [x, dx] := fun a ⟨i, hi⟩ z => by
    simp at z
    rcases z with rfl | rfl
    · exact (c.off i _ hi).2 hx
    · exact (c.off i _ hi).2 hdx
  refine ⟨by show us.length + 1 = n; rw [← hd.length]; omega, Hk, .ins C [] [] :: ds.map O.d, [x, dx], c.bs, ⟨.ref x, us, [x, dx], [], rfl, rfl, ⟨x, dx, [], [], rfl, atx, atd, rfl, ⟨rfl, rfl⟩, rfl⟩, RepOs.ofDs hd⟩, ⟨sK, by simp [Ne.symm ne], fun a ha => ?_⟩, ?_⟩
  · simp at ha
    rcases ha with rfl | rfl
    · exact ⟨none_of_same c.same hx, by rw [atx]; (intro z; cases z)⟩
    · exact ⟨none_of_same c.same hdx, by rw [atd]; (intro z; cases z)⟩
  · show FQ K cl [.ref x] Hk _ [x, dx] _ _ _
    unfold newF at h
    split at h
    · rename_i o eF
      rw [eF]
      intro v g gs Hk' H' r1 r2 gd' st
      obtain ⟨e1, e2⟩ := r1
      subst e2
      obtain ⟨v1, rr, g1, g2, ev, eg, r3, r4⟩ := r2
      cases ev
      obtain ⟨_, rfl⟩ := r4
      rw [List.append_nil] at eg
      subst eg
      have gd' : Good Hk' H' gs := gd'
      have st : Step Hk _ (· ∈ [x, dx]) Hk' H' (· ∈ gs) := st
      have c' : Cfg K cl Hk' H' ρ σ f := c0.beside st sep gd'.same
      refine ⟨e1, h (.ref x) gs Hk' H' f c' ⟨gd'.nd, fun a ha => ⟨(gd'.off a ha).1, (gd'.off a ha).2, fun ⟨i, hi⟩ => ?_⟩⟩ (st0.trans (Step.frame f.all st)) (fun _ => ⟨rfl, rfl, fun a u q => ?_⟩) r3⟩
      · rcases st.ow a ha with z | z
        · exact (c0.off i a hi).2 z
        · exact sep a ⟨i, hi⟩ z
      · refine st.fr a u (fun z => ?_) (sH a u q)
        simp at z
        rcases z with rfl | rfl
        · rw [hx] at q; cases q
        · rw [hdx] at q; cases q
    · rename_i ex o' eF
      rw [eF]
      intro cls dd gs Hk' H' r2 gd' st xx
      have c' : Cfg K cl Hk' H' ρ σ f := c0.beside st sep gd'.same
      exact h cls dd Hk' H' f c' ((st0.trans (Step.frame f.all st)).weak (fun _ h => h) fun a ha => .inr ha) xx
    · exact h.elim
end
section
variable {X : Cx} {cl : Wld} {W : WX} {r ra : Bool} {e o : Expr} {es : List Expr} {pos p apos : Pos} {x C : Str} {d : He.DefD} {k j n : Nat} {ps : List Str} {F : List O → FRes} {dv : PySem.W.Frag → List V} {dds : List D} {ma : M (List D)}
theorem do_make (G0 : OkD X.prog X.w X.K X.mg X.base cl d k ps n 1 F) (hb : CB d ps dv) (hdd : ∀ H, RepDs X.K H dds (dv X.K)) (hr : RoomG (j + 1) X.A) (M0 : Mk X.K (cl C) (He.fAd X.K d.at_)) (hm : X.mg x = some (.ref (cl C))) (tk : Takes X W) (ha : DA X cl W ra (e :: es) ma) (hkj : k ≤ j := by decide)
    (hg : Gl X x := by rfl) (hdb : (x == ("__debug__" : Str)) = false := by decide) (he : starEach (e :: es) X.env = (false, eval e X.env) :: starEach es X.env := by rfl) (hpl : (backTo pos (starEach es X.env)).any (·.1) = false := by rfl) :
    DO X cl W ra (.Call (.Name x p) (e :: es) [] pos) (mMake C n F dds ma) := by
  obtain ⟨fd, D, G⟩ := G0.ex
  obtain ⟨us, hu, bd⟩ := hb X.K _ fd D
  refine PE.imp (pe_makeG M0 (G.mono hkj) hr bd hu tk hg hm ha hdb he hpl) fun σ H Q ⟨Hk, ρ, f, c, q⟩ => ?_
  have q' : EQ X.K cl W (RO X.K cl) (ra && true) σ Hk H ρ f ((ma ρ).bind fun ds ρ1 => if 1 + (ds ++ dds).length = n then newF (F (.ins C [] [] :: (ds ++ dds).map O.d)) ρ1 else .bad) Q := by rw [eq_true]; exact q
  refine ⟨Hk, ρ, f, c, (EQ.seq RDs.p q').mono fun us1 H1 ⟨ds, Hk1, ρ1, f1, c1, _, _, hd, q1⟩ x dx hx hdx ne => ?_⟩
  split at q1
  · rename_i hn
    exact EQ.make c1 (RepDs.app hd.1 (hdd Hk1)) hn q1 hx hdx ne
  · exact q1.elim
end
/-! ### freezing -/
def frz : O → Option D
  | .d x => some x
  | .ls os => (unDs os).map .lst
  | _ => none
def mFz (m : M O) : M D := fun ρ => (m ρ).bind fun o ρ1 => match frz o with
  | some d => .ok d ρ1
  | none => .bad
section
variable {X : Cx} {cl : Wld} {W : WX} {r : Bool} {e : Expr}
theorem de_fz {m : M O} (h : DO X cl W r e m) : DE X cl W r e (mFz m) := PE.imp h fun σ H Q ⟨Hk, ρ, f, c, q⟩ => by
  refine ⟨Hk, ρ, f, c, ?_⟩
  unfold mFz at q
  cases z : m ρ with
  | bad => rw [z] at q; exact q
  | exc x ρ' => rw [z] at q; exact q
  | ok o ρ' =>
    rw [z] at q
    intro v g Hk' H' f' c' ap st hr rv
    have q : EQ X.K cl W (RD X.K) r σ Hk H ρ f (match frz o with
      | some d => .ok d ρ'
      | none => .bad) Q := q
    cases o with
    | d x =>
      obtain ⟨r1, rfl⟩ := rv
      exact q v [] Hk' H' f' c' ap st hr ⟨r1, rfl⟩
    | ls os =>
      obtain ⟨p, vs, g1, rfl, hp, r1, rfl⟩ := rv
      cases u : unDs os with
      | none => rw [show frz (.ls os) = none by show (unDs os).map D.lst = none; rw [u]; rfl] at q; exact q.elim
      | some ds =>
        rw [show frz (.ls os) = some (.lst ds) by show (unDs os).map D.lst = _; rw [u]; rfl] at q
        rw [unDs_some u] at r1
        obtain ⟨r2, rfl⟩ := RepOs.toDs r1
        obtain ⟨o1, o2, o3⟩ := ap.off p List.mem_cons_self
        have s1 : Same Hk' (upd Hk' p (.lst vs)) := same_upd o1
        have s2 : Same (upd Hk' p (.lst vs)) H' := fun b u e => by
          by_cases hb : b = p
          · subst hb; rw [upd_same] at e; rw [hp]; exact e
          · rw [upd_ne hb] at e; exact c'.same _ _ e
        have c2 : Cfg X.K cl (upd Hk' p (.lst vs)) H' ρ' σ f' := ⟨c'.len, fun i o e => by
          obtain ⟨v, a, b⟩ := c'.rep i o e
          exact ⟨v, a, b.keep s1 o v (f' i) fun x hx u q => q⟩, c'.nd, c'.dj, fun i a h => ⟨by rw [upd_ne (fun e => o3 ⟨i, by rw [← e]; exact h⟩)]; exact (c'.off i a h).1, (c'.off i a h).2⟩, s2, c'.bs.trans s1⟩
        refine q (.ref p) [] _ H' f' c2 .nil ⟨st.kk.trans s1, st.fr, fun a h => ?_, fun a h => st.ow a (.inr (h.elim (fun z => nomatch z) id))⟩ hr ⟨⟨p, vs, rfl, upd_same, r2.same s1⟩, rfl⟩
        by_cases ha : a = p
        · subst ha
          rcases st.ow a (.inl List.mem_cons_self) with z | z
          · exact .inr (.inl z)
          · exact .inr (.inr z)
        · rw [upd_ne ha] at h; exact st.nw a h
    | dk _ _ => exact q.elim
    | dt _ _ => exact q.elim
    | ins _ _ _ => exact q.elim
end
end DL
set_option Elab.async false
set_option linter.all false
set_option maxRecDepth 100000
/-! EK: places inside own things. -/
namespace DL
open PySem L2 PySem.Spec PyProof.Rows RZ
inductive Stp where
  | fld (x : Str) | key (k : Key) | tky (k : List Key) | idx (n : Nat)
def ixOf {κ : Type} [DecidableEq κ] (k : κ) : List κ → Option Nat
  | [] => none
  | a :: r => if a = k then some 0 else (ixOf k r).map (· + 1)
def kids : O → List O
  | .d _ => []
  | .ls xs => xs
  | .dk _ xs => xs
  | .dt _ xs => xs
  | .ins _ _ xs => xs
def withKids : O → List O → O
  | .d x, _ => .d x
  | .ls _, xs => .ls xs
  | .dk ks _, xs => .dk ks xs
  | .dt ks _, xs => .dt ks xs
  | .ins C ns _, xs => .ins C ns xs
def posOf : Stp → O → Option Nat
  | .idx n, .ls _ => some n
  | .fld x, .ins _ ns _ => ixOf x ns
  | .key k, .dk ks _ => ixOf k ks
  | .tky k, .dt ks _ => ixOf k ks
  | _, _ => none
def kidAt (s : Stp) (o : O) : Option (Nat × O) := match posOf s o with
  | some i => (kids o)[i]?.map fun c => (i, c)
  | none => none
def getP : List Stp → O → Option O
  | [], o => some o
  | s :: p, o => match kidAt s o with
    | some (_, c) => getP p c
    | none => none
def setP : List Stp → O → O → O
  | [], _, o1 => o1
  | s :: p, o, o1 => match kidAt s o with
    | some (i, c) => withKids o ((kids o).set i (setP p c o1))
    | none => o
def kidV (H : Hp) : Stp → V → V → Prop
  | .idx n, v, u => ∃ a vs, v = .ref a ∧ H a = some (.lst vs) ∧ vs[n]? = some u
  | .fld x, v, u => ∃ a C dx fs, v = .ref a ∧ H a = some (.ins C dx fs) ∧ fs.lookup x = some u
  | .key k, v, u => ∃ a kvs, v = .ref a ∧ H a = some (.dK kvs) ∧ valV kvs k = some u
  | .tky k, v, u => ∃ a kvs, v = .ref a ∧ H a = some (.dT kvs) ∧ valV kvs k = some u
def atV (H : Hp) : List Stp → V → V → Prop
  | [], v, w => v = w
  | s :: p, v, w => ∃ u, kidV H s v u ∧ atV H p u w
theorem kidV_same {H H' : Hp} (s : Same H H') : ∀ {st : Stp} {v u : V}, kidV H st v u → kidV H' st v u
  | .idx _, _, _, ⟨a, vs, e, h, q⟩ => ⟨a, vs, e, s _ _ h, q⟩
  | .fld _, _, _, ⟨a, C, dx, fs, e, h, q⟩ => ⟨a, C, dx, fs, e, s _ _ h, q⟩
  | .key _, _, _, ⟨a, kvs, e, h, q⟩ => ⟨a, kvs, e, s _ _ h, q⟩
  | .tky _, _, _, ⟨a, kvs, e, h, q⟩ => ⟨a, kvs, e, s _ _ h, q⟩
theorem atV_same {H H' : Hp} (s : Same H H') : ∀ {p : List Stp} {v u : V}, atV H p v u → atV H' p v u
  | [], _, _, h => h
  | _ :: p, _, _, ⟨u, h, q⟩ => ⟨u, kidV_same s h, atV_same s q⟩
theorem atV_app {H : Hp} {s : Stp} : ∀ {p : List Stp} {v u w : V}, atV H p v u → kidV H s u w → atV H (p ++ [s]) v w
  | [], _, _, _, h, q => by cases h; exact ⟨_, q, rfl⟩
  | _ :: p, _, _, _, ⟨u, h, r⟩, q => ⟨u, h, atV_app r q⟩
theorem getP_app {s : Stp} : ∀ {p : List Stp} {o o1 : O}, getP p o = some o1 → getP (p ++ [s]) o = getP [s] o1
  | [], _, _, h => by cases h; rfl
  | t :: p, o, o1, h => by
    show getP (t :: (p ++ [s])) o = _
    unfold getP at h ⊢
    split at h
    · rename_i i c e
      exact getP_app (p := p) h
    · cases h
theorem valV_zip {κ : Type} [DecidableEq κ] {k : κ} : ∀ {ks : List κ} {vs : List V}, ks.length = vs.length → valV (ks.zip vs) k = (ixOf k ks).bind fun i => vs[i]?
  | [], [], _ => rfl
  | a :: ks, v :: vs, h => by
    show valV ((a, v) :: ks.zip vs) k = _
    by_cases e : a = k
    · rw [valV_pos (p := (a, v)) e, ixOf, if_pos e] <;> rfl
    · rw [valV_neg (p := (a, v)) e, ixOf, if_neg e, valV_zip (ks := ks) (vs := vs) (by simpa using h)]
      cases ixOf k ks <;> simp
theorem lookup_zip' {k : Str} : ∀ {ks : List Str} {vs : List V}, ks.length = vs.length → (ks.zip vs).lookup k = (ixOf k ks).bind fun i => vs[i]?
  | [], [], _ => rfl
  | a :: ks, v :: vs, h => by
    show ((a, v) :: ks.zip vs).lookup k = _
    rw [List.lookup_cons]
    by_cases e : a = k
    · subst e
      rw [ixOf, if_pos rfl]
      simp
    · have e2 : (k == a) = false := by simpa using fun z => e z.symm
      rw [e2, ixOf, if_neg e]
      show (ks.zip vs).lookup k = _
      rw [lookup_zip' (ks := ks) (vs := vs) (by simpa using h)]
      cases ixOf k ks <;> simp
section
variable {K : PySem.W.Frag} {cl : Wld} {Hk H Hk' H' : Hp} {ρ : Env} {σ : St} {f : Fs}
theorem RepOs.kid : ∀ {os : List O} {vs : List V} {g : Fp} {i : Nat} {c : O}, RepOs K cl Hk H os vs g → os[i]? = some c → ∃ u f1 rest, vs[i]? = some u ∧ RepO K cl Hk H c u f1 ∧ g.Perm (f1 ++ rest) ∧
    ∀ (Hk' H' : Hp) (c' : O) (f1' : Fp), Same Hk Hk' → (∀ a ∈ rest, ∀ u, H a = some u → H' a = some u) → RepO K cl Hk' H' c' u f1' → ∃ g', RepOs K cl Hk' H' (os.set i c') vs g' ∧ g'.Perm (f1' ++ rest)
  | [], _, _, _, _, _, e => by simp at e
  | o :: os, _, _, 0, c, h, e => by
    obtain ⟨v, r, f1, f2, rfl, rfl, h1, h2⟩ := h
    simp at e; subst e
    exact ⟨v, f1, f2, rfl, h1, .refl _, fun Hk' H' c' f1' s k r' => ⟨f1' ++ f2, ⟨v, r, f1', f2, rfl, rfl, r', h2.keep s _ _ _ k⟩, .refl _⟩⟩
  | o :: os, _, _, i + 1, c, h, e => by
    obtain ⟨v, r, f1, f2, rfl, rfl, h1, h2⟩ := h
    obtain ⟨u, g1, rest, e1, r1, pm, bk⟩ := RepOs.kid (i := i) h2 (by simpa using e)
    refine ⟨u, g1, f1 ++ rest, by simpa using e1, r1, ?_, fun Hk' H' c' f1' s k r' => ?_⟩
    · refine (List.Perm.append_left f1 pm).trans ?_
      rw [← List.append_assoc, ← List.append_assoc]
      exact List.Perm.append_right _ List.perm_append_comm
    · obtain ⟨g', r2, pm'⟩ := bk Hk' H' c' f1' s (fun a ha => k a (List.mem_append_right _ ha)) r'
      refine ⟨f1 ++ g', ⟨v, r, f1, g', rfl, rfl, h1.keep s _ _ _ fun a ha => k a (List.mem_append_left _ ha), r2⟩, ?_⟩
      refine (List.Perm.append_left f1 pm').trans ?_
      rw [← List.append_assoc, ← List.append_assoc]
      exact List.Perm.append_right _ List.perm_append_comm
theorem kidAt_some {s : Stp} {o : O} {i : Nat} {c : O} (h : kidAt s o = some (i, c)) : posOf s o = some i ∧ (kids o)[i]? = some c := by
  unfold kidAt at h
  split at h
  · rename_i j e
    cases q : (kids o)[j]? with
    | none => rw [q] at h; cases h
    | some x => rw [q] at h; cases h; exact ⟨e, q⟩
  · cases h
/-- one step down -/
theorem RepO.kid {s : Stp} {o : O} {v : V} {g : Fp} {i : Nat} {c : O} (r : RepO K cl Hk H o v g) (h : kidAt s o = some (i, c)) : ∃ u f1 rest, kidV H s v u ∧ RepO K cl Hk H c u f1 ∧ g.Perm (f1 ++ rest) ∧
    ∀ (Hk' H' : Hp) (c' : O) (f1' : Fp), Same Hk Hk' → (∀ a ∈ rest, ∀ u, H a = some u → H' a = some u) → RepO K cl Hk' H' c' u f1' → ∃ g', RepO K cl Hk' H' (withKids o ((kids o).set i c')) v g' ∧ g'.Perm (f1' ++ rest) := by
  obtain ⟨h1, h2⟩ := kidAt_some h
  cases o with
  | d x => simp [kids] at h2
  | ls xs =>
    obtain ⟨p, vs, g0, rfl, hp, r0, rfl⟩ := r
    obtain ⟨u, f1, rest, e1, r1, pm, bk⟩ := r0.kid (i := i) h2
    refine ⟨u, f1, p :: rest, ?_, r1, (List.Perm.cons p pm).trans List.perm_middle.symm, fun Hk' H' c' f1' s' k r' => ?_⟩
    · cases s with
      | idx n => cases h1; exact ⟨p, vs, rfl, hp, e1⟩
      | _ => cases h1
    · obtain ⟨g', r2, pm'⟩ := bk Hk' H' c' f1' s' (fun a ha => k a (List.mem_cons_of_mem _ ha)) r'
      exact ⟨p :: g', ⟨p, vs, g', rfl, k p List.mem_cons_self _ hp, r2, rfl⟩, (List.Perm.cons p pm').trans List.perm_middle.symm⟩
  | dk ks xs =>
    obtain ⟨p, vs, g0, rfl, hp, l, r0, rfl⟩ := r
    obtain ⟨u, f1, rest, e1, r1, pm, bk⟩ := r0.kid (i := i) h2
    refine ⟨u, f1, p :: rest, ?_, r1, (List.Perm.cons p pm).trans List.perm_middle.symm, fun Hk' H' c' f1' s' k r' => ?_⟩
    · cases s with
      | key kk => exact ⟨p, _, rfl, hp, by rw [valV_zip l.1, show ixOf kk ks = some i from h1]; exact e1⟩
      | _ => cases h1
    · obtain ⟨g', r2, pm'⟩ := bk Hk' H' c' f1' s' (fun a ha => k a (List.mem_cons_of_mem _ ha)) r'
      exact ⟨p :: g', ⟨p, vs, g', rfl, k p List.mem_cons_self _ hp, l, r2, rfl⟩, (List.Perm.cons p pm').trans List.perm_middle.symm⟩
  | dt ks xs =>
    obtain ⟨p, vs, g0, rfl, hp, l, r0, rfl⟩ := r
    obtain ⟨u, f1, rest, e1, r1, pm, bk⟩ := r0.kid (i := i) h2
    refine ⟨u, f1, p :: rest, ?_, r1, (List.Perm.cons p pm).trans List.perm_middle.symm, fun Hk' H' c' f1' s' k r' => ?_⟩
    · cases s with
      | tky kk => exact ⟨p, _, rfl, hp, by rw [valV_zip l.1, show ixOf kk ks = some i from h1]; exact e1⟩
      | _ => cases h1
    · obtain ⟨g', r2, pm'⟩ := bk Hk' H' c' f1' s' (fun a ha => k a (List.mem_cons_of_mem _ ha)) r'
      exact ⟨p :: g', ⟨p, vs, g', rfl, k p List.mem_cons_self _ hp, l, r2, rfl⟩, (List.Perm.cons p pm').trans List.perm_middle.symm⟩
  | ins C ns xs =>
    obtain ⟨p, dx, vs, g0, rfl, hp, hd, l, r0, rfl⟩ := r
    obtain ⟨u, f1, rest, e1, r1, pm, bk⟩ := r0.kid (i := i) h2
    refine ⟨u, f1, p :: dx :: rest, ?_, r1, (((pm.cons dx).trans List.perm_middle.symm).cons p).trans List.perm_middle.symm, fun Hk' H' c' f1' s' k r' => ?_⟩
    · cases s with
      | fld x => exact ⟨p, _, dx, _, rfl, hp, by rw [lookup_zip' l, show ixOf x ns = some i from h1]; exact e1⟩
      | _ => cases h1
    · obtain ⟨g', r2, pm'⟩ := bk Hk' H' c' f1' s' (fun a ha => k a (List.mem_cons_of_mem _ (List.mem_cons_of_mem _ ha))) r'
      exact ⟨p :: dx :: g', ⟨p, dx, vs, g', rfl, k p List.mem_cons_self _ hp, k dx (List.mem_cons_of_mem _ List.mem_cons_self) _ hd, l, r2, rfl⟩, (((pm'.cons dx).trans List.perm_middle.symm).cons p).trans List.perm_middle.symm⟩
theorem kidV_one {s : Stp} {v u w : V} (a : kidV H s v u) (b : kidV H s v w) : u = w := by
  cases s with
  | idx n =>
    obtain ⟨p, vs, rfl, e, q⟩ := a
    obtain ⟨p', vs', e0, e', q'⟩ := b
    cases e0
    rw [e] at e'; cases e'
    rw [q] at q'; cases q'; rfl
  | fld x =>
    obtain ⟨p, C, dx, vs, rfl, e, q⟩ := a
    obtain ⟨p', C', dx', vs', e0, e', q'⟩ := b
    cases e0
    rw [e] at e'; cases e'
    rw [q] at q'; cases q'; rfl
  | key x =>
    obtain ⟨p, vs, rfl, e, q⟩ := a
    obtain ⟨p', vs', e0, e', q'⟩ := b
    cases e0
    rw [e] at e'; cases e'
    rw [q] at q'; cases q'; rfl
  | tky x =>
    obtain ⟨p, vs, rfl, e, q⟩ := a
    obtain ⟨p', vs', e0, e', q'⟩ := b
    cases e0
    rw [e] at e'; cases e'
    rw [q] at q'; cases q'; rfl
/-- down a path -/
theorem RepO.path : ∀ {p : List Stp} {o : O} {v w : V} {g : Fp} {o1 : O}, RepO K cl Hk H o v g → getP p o = some o1 → atV H p v w → ∃ f1 rest, RepO K cl Hk H o1 w f1 ∧ g.Perm (f1 ++ rest) ∧
    ∀ (Hk' H' : Hp) (o' : O) (f1' : Fp), Same Hk Hk' → (∀ a ∈ rest, ∀ u, H a = some u → H' a = some u) → RepO K cl Hk' H' o' w f1' → ∃ g', RepO K cl Hk' H' (setP p o o') v g' ∧ g'.Perm (f1' ++ rest)
  | [], o, v, w, g, o1, r, h, a => by
    cases h; cases a
    exact ⟨g, [], r, by simp, fun Hk' H' o' f1' _ _ r' => ⟨f1', r', by simp⟩⟩
  | s :: p, o, v, w, g, o1, r, h, a => by
    obtain ⟨u, k1, a2⟩ := a
    unfold getP at h
    split at h
    · rename_i i c ek
      obtain ⟨u', f1, rest, k2, r1, pm, bk⟩ := r.kid ek
      cases kidV_one k1 k2
      obtain ⟨f2, rest2, r2, pm2, bk2⟩ := RepO.path (p := p) r1 h a2
      refine ⟨f2, rest2 ++ rest, r2, by rw [← List.append_assoc]; exact pm.trans (pm2.append_right rest), fun Hk' H' o' f1' s' k r' => ?_⟩
      obtain ⟨g1, r3, pm3⟩ := bk2 Hk' H' o' f1' s' (fun a ha => k a (List.mem_append_left _ ha)) r'
      obtain ⟨g2, r4, pm4⟩ := bk Hk' H' _ g1 s' (fun a ha => k a (List.mem_append_right _ ha)) r3
      exact ⟨g2, by unfold setP; rw [ek]; exact r4, by rw [← List.append_assoc]; exact pm4.trans (pm3.append_right rest)⟩
    · cases h
/-- a place of a slot, and what is written there -/
theorem Cfg.place {i : Nat} {p : List Stp} {o o1 : O} {v0 w : V} (c : Cfg K cl Hk H ρ σ f) (e : ρ[i]? = some (some o)) (e0 : σ[i]? = some (some v0)) (h : getP p o = some o1) (a : atV H p v0 w) : ∃ f1, RepO K cl Hk H o1 w f1 ∧ f1.Nodup ∧ (∀ x ∈ f1, f.all x) ∧
    ∀ (Hk' H' : Hp) (o' : O) (g ga f1' : Fp), (∀ x ∈ ga, ¬ f.all x) → RepO K cl Hk' H' o' w f1' → Good Hk' H' (g ++ f1') → Step Hk H (fun x => x ∈ f1 ∨ x ∈ ga) Hk' H' (· ∈ g ++ f1') →
      ∃ f', Cfg K cl Hk' H' (ρ.set i (some (setP p o o'))) σ f' ∧ Apart Hk' H' g f' ∧ Step Hk H (fun x => x ∈ ga ∨ f.all x) Hk' H' (fun x => x ∈ g ∨ f'.all x) := by
  obtain ⟨v1, e1, r⟩ := c.rep i o e
  rw [e0] at e1; cases e1
  obtain ⟨f1, rest, r1, pm, bk⟩ := r.path h a
  have ndf := c.nd i
  have nd2 := (pm.nodup_iff).mp ndf
  have ndA := List.nodup_append.mp nd2
  have in1 : ∀ {x : Addr}, x ∈ f1 → x ∈ f i := fun hx => pm.mem_iff.mpr (List.mem_append_left _ hx)
  have inR : ∀ {x : Addr}, x ∈ rest → x ∈ f i := fun hx => pm.mem_iff.mpr (List.mem_append_right _ hx)
  refine ⟨f1, r1, ndA.1, fun x hx => ⟨i, in1 hx⟩, fun Hk' H' o' g ga f1' hga r' gd st => ?_⟩
  have sepR : ∀ {x : Addr}, x ∈ rest → ¬ (x ∈ f1 ∨ x ∈ ga) := fun hx z => z.elim (fun z => ndA.2.2 _ z _ hx rfl) fun z => hga _ z ⟨i, inR hx⟩
  have sepJ : ∀ {j : Nat} {x : Addr}, j ≠ i → x ∈ f j → ¬ (x ∈ f1 ∨ x ∈ ga) := fun hj hx z => z.elim (fun z => hj (c.dj _ _ _ hx (in1 z))) fun z => hga _ z ⟨_, hx⟩
  have outR : ∀ {x : Addr}, x ∈ rest → x ∉ g ++ f1' := fun hx z => by
    rcases st.ow _ z with q | q
    · exact (c.off i _ (inR hx)).2 q
    · exact sepR hx q
  have outJ : ∀ {j : Nat} {x : Addr}, j ≠ i → x ∈ f j → x ∉ g ++ f1' := fun hj hx z => by
    rcases st.ow _ z with q | q
    · exact (c.off _ _ hx).2 q
    · exact sepJ hj hx q
  obtain ⟨g', r2, pm'⟩ := bk Hk' H' o' f1' st.kk (fun x hx u q => st.fr _ u (sepR hx) q) r'
  have mem' : ∀ {x : Addr}, x ∈ g' → x ∈ f1' ∨ x ∈ rest := fun hx => List.mem_append.mp (pm'.mem_iff.mp hx)
  have ndG := List.nodup_append.mp gd.nd
  have still : ∀ {j : Nat} {x : Addr}, x ∈ f j → ¬ (x ∈ f1 ∨ x ∈ ga) → Hk' x = none ∧ H' x ≠ none := fun {j x} hx n1 => by
    obtain ⟨o1, o2⟩ := c.off j x hx
    constructor
    · cases q : Hk' x with
      | none => rfl
      | some u =>
        rcases st.nw x (by rw [q]; intro z; cases z) with z | z | z
        · exact absurd o1 z
        · exact absurd z o2
        · exact absurd z n1
    · intro z
      cases q : H x with
      | none => exact o2 q
      | some u =>
        rw [st.fr _ u n1 q] at z
        cases z
  have hi : i < ρ.length := (List.getElem?_eq_some_iff.mp e).1
  refine ⟨f.put i g', ⟨by rw [List.length_set]; exact c.len, fun j oj ej => ?_, fun j => ?_, fun j k x h1 h2 => ?_, fun j x hx => ?_, gd.same, c.bs.trans st.kk⟩, ⟨ndG.1, fun x hx => ⟨(gd.off x (List.mem_append_left _ hx)).1, (gd.off x (List.mem_append_left _ hx)).2, fun ⟨j, hj⟩ => ?_⟩⟩, ?_⟩
  · by_cases q : j = i
    · subst q
      rw [List.getElem?_set_self hi] at ej
      cases ej
      exact ⟨v0, e0, by rw [Fs.put_same]; exact r2⟩
    · rw [List.getElem?_set_ne (Ne.symm q)] at ej
      obtain ⟨vj, e2, rj⟩ := c.rep j oj ej
      exact ⟨vj, e2, by rw [Fs.put_ne q]; exact rj.keep st.kk oj vj (f j) fun x hx u q' => st.fr _ u (sepJ q hx) q'⟩
  · by_cases q : j = i
    · subst q
      rw [Fs.put_same]
      refine pm'.nodup_iff.mpr ?_
      rw [List.nodup_append]
      exact ⟨ndG.2.1, ndA.2.1, fun x hx y hy exy => outR hy (exy ▸ List.mem_append_right _ hx)⟩
    · rw [Fs.put_ne q]; exact c.nd j
  · by_cases qj : j = i
    · by_cases qk : k = i
      · rw [qj, qk]
      · subst qj
        rw [Fs.put_same] at h1
        rw [Fs.put_ne qk] at h2
        rcases mem' h1 with z | z
        · exact absurd (List.mem_append_right g z) (outJ qk h2)
        · exact absurd (c.dj _ _ _ h2 (inR z)) qk
    · rw [Fs.put_ne qj] at h1
      by_cases qk : k = i
      · subst qk
        rw [Fs.put_same] at h2
        rcases mem' h2 with z | z
        · exact absurd (List.mem_append_right g z) (outJ qj h1)
        · exact absurd (c.dj _ _ _ h1 (inR z)) qj
      · rw [Fs.put_ne qk] at h2
        exact c.dj j k x h1 h2
  · by_cases q : j = i
    · subst q
      rw [Fs.put_same] at hx
      rcases mem' hx with z | z
      · exact gd.off x (List.mem_append_right _ z)
      · exact still (inR z) (sepR z)
    · rw [Fs.put_ne q] at hx
      exact still hx (sepJ q hx)
  · by_cases q : j = i
    · subst q
      rw [Fs.put_same] at hj
      rcases mem' hj with z | z
      · exact ndG.2.2 x hx x z rfl
      · exact outR z (List.mem_append_left _ hx)
    · rw [Fs.put_ne q] at hj
      exact outJ q hj (List.mem_append_left _ hx)
  · refine (Step.frame f.all st).weak (fun x h => ?_) fun x h => ?_
    · rcases h with (h | h) | h
      · exact .inr ⟨i, in1 h⟩
      · exact .inl h
      · exact .inr h
    · rcases h with h | h
      · exact .inl (List.mem_append_left _ h)
      · rcases Fs.put_all h with z | z
        · rcases mem' z with z | z
          · exact .inl (List.mem_append_right _ z)
          · exact .inr ⟨i, inR z⟩
        · exact .inr z
end
end DL
set_option Elab.async false
set_option linter.all false
set_option maxRecDepth 100000
/-! EL: expressions that name a place; reading; methods that change what stands there. -/
namespace DL
open PySem L2 PySem.Spec PyProof.Rows RZ
abbrev Pl := Nat × List Stp
def nodeAt (ρ : Env) (pl : Pl) : Option O := match ρ[pl.1]? with
  | some (some o) => getP pl.2 o
  | _ => none
def putAt (ρ : Env) (pl : Pl) (o' : O) : Env := match ρ[pl.1]? with
  | some (some o) => ρ.set pl.1 (some (setP pl.2 o o'))
  | _ => ρ
def RPl (σ : St) : Rl Pl V := fun _ H pl v g => (∃ v0, σ[pl.1]? = some (some v0) ∧ atV H pl.2 v0 v) ∧ g = []
theorem RPl.p {σ : St} : ∀ Hk H a b g, RPl σ Hk H a b g → g = [] := fun _ _ _ _ _ h => h.2
abbrev DPl (X : Cx) (cl : Wld) (W : WX) (r : Bool) (e : Expr) (m : M Pl) : Prop := PE X e fun σ H Q => tR X.K cl W (RPl σ) r m σ H Q
section
variable {K : PySem.W.Frag} {cl : Wld} {W : WX} {Hk H Hk' H' : Hp} {ρ : Env} {σ : St} {f : Fs}
/-- what stands at a place, what comes there -/
theorem Cfg.at {pl : Pl} {o1 : O} {w : V} (c : Cfg K cl Hk H ρ σ f) (h : nodeAt ρ pl = some o1) (a : ∃ v0, σ[pl.1]? = some (some v0) ∧ atV H pl.2 v0 w) : ∃ f1, RepO K cl Hk H o1 w f1 ∧ f1.Nodup ∧ (∀ x ∈ f1, f.all x) ∧
    ∀ (Hk' H' : Hp) (o' : O) (g ga f1' : Fp), (∀ x ∈ ga, ¬ f.all x) → RepO K cl Hk' H' o' w f1' → Good Hk' H' (g ++ f1') → Step Hk H (fun x => x ∈ f1 ∨ x ∈ ga) Hk' H' (· ∈ g ++ f1') →
      ∃ f', Cfg K cl Hk' H' (putAt ρ pl o') σ f' ∧ Apart Hk' H' g f' ∧ Step Hk H (fun x => x ∈ ga ∨ f.all x) Hk' H' (fun x => x ∈ g ∨ f'.all x) := by
  obtain ⟨v0, e0, a⟩ := a
  unfold nodeAt at h
  split at h
  · rename_i o e
    obtain ⟨f1, r1, nd, sub, bk⟩ := c.place e e0 h a
    refine ⟨f1, r1, nd, sub, fun Hk' H' o' g ga f1' h1 h2 h3 h4 => ?_⟩
    unfold putAt
    rw [e]
    exact bk Hk' H' o' g ga f1' h1 h2 h3 h4
  · cases h
theorem EQ.seqG {α β γ δ : Type} {R1 : Rl α β} {R2 : Rl γ δ} {r1 r2 : Bool} {res : Res α} {k : α → Env → Res γ} {Q : δ → Hp → Prop} (h : EQ K cl W R2 (r1 && r2) σ Hk H ρ f (res.bind k) Q) :
    EQ K cl W R1 r1 σ Hk H ρ f res fun b H1 => ∃ a g Hk1 ρ1 f1, Cfg K cl Hk1 H1 ρ1 σ f1 ∧ Apart Hk1 H1 g f1 ∧ Step Hk H f.all Hk1 H1 (fun x => x ∈ g ∨ f1.all x) ∧ (r1 = true → ρ1 = ρ ∧ f1 = f ∧ Same H H1) ∧ R1 Hk1 H1 a b g ∧
      EQ K cl W R2 (r1 && r2) σ Hk H ρ f (k a ρ1) Q := by
  cases res with
  | bad => exact h
  | exc x ρ' => exact h
  | ok a ρ' => exact fun b g Hk1 H1 f1 c1 ap st hr x => ⟨a, g, Hk1, ρ', f1, c1, ap, st, hr, x, h⟩
/-- what is apart stays so when but data is added -/
theorem Apart.after {g : Fp} (ap : Apart Hk H g f) (st : Step Hk H f.all Hk' H' f.all) (s : Same H H') : Apart Hk' H' g f := ⟨ap.nd, fun a ha => by
  obtain ⟨o1, o2, o3⟩ := ap.off a ha
  refine ⟨?_, fun z => o2 (Same.free s z), o3⟩
  cases q : Hk' a with
  | none => rfl
  | some u =>
    rcases st.nw a (by rw [q]; intro z; cases z) with z | z | z
    · exact absurd o1 z
    · exact absurd z o2
    · exact absurd z o3⟩
theorem RPl.after {pl : Pl} {v : V} {g : Fp} (h : RPl σ Hk H pl v g) (s : Same H H') : ∃ v0, σ[pl.1]? = some (some v0) ∧ atV H' pl.2 v0 v := let ⟨v0, e, a⟩ := h.1; ⟨v0, e, atV_same s a⟩
end
section
variable {X : Cx} {cl : Wld} {W : WX} {r ra rb : Bool} {e o : Expr} {es : List Expr} {pos apos cpos : Pos}
def mPs (i : Nat) : M Pl := fun ρ => match ρ[i]? with
  | some (some _) => .ok (i, []) ρ
  | _ => .bad
theorem dp_slot (i : Nat) {x : Str} (hN : X.N[i]? = some x := by rfl) (hv : Vis X.env.scope x := by first | exact Or.inl rfl | exact Or.inr (Or.inl rfl) | exact Or.inr (Or.inr rfl)) (hd : (x == ("__debug__" : Str)) = false := by decide)
    (hcd : (x == ("__classdict__" : Str)) = false := by decide) : DPl X cl W true (.Name x pos) (mPs i) := PE.imp (pe_var (i := i) hN hv hd hcd) fun σ H Q ⟨Hk, ρ, f, c, q⟩ => by
  unfold mPs at q
  split at q
  · rename_i o e
    obtain ⟨v, e2, h⟩ := c.rep i _ e
    exact ⟨v, e2, EQ.at c q (.refl c.same) ⟨⟨v, e2, rfl⟩, rfl⟩⟩
  · exact q.elim
/-- a field of an instance of C -/
def isIns (C : Str) (x : Str) (ρ : Env) (pl : Pl) : Bool := match nodeAt ρ pl with
  | some (.ins C' ns vs) => decide (C' = C) && (kidAt (.fld x) (.ins C' ns vs)).isSome
  | _ => false
def mPf (C x : Str) (mp : M Pl) : M Pl := fun ρ => (mp ρ).bind fun pl ρ1 => if isIns C x ρ1 pl then .ok (pl.1, pl.2 ++ [.fld x]) ρ1 else .bad
theorem kid_fld {K : PySem.W.Frag} {Hk H : Hp} {C x : Str} {ns : List Str} {vs : List O} {v : V} {f : Fp} {i : Nat} {c : O} (r : RepO K cl Hk H (.ins C ns vs) v f) (h : kidAt (.fld x) (.ins C ns vs) = some (i, c)) :
    ∃ a dx fs u, v = .ref a ∧ H a = some (.ins (cl C) dx fs) ∧ fs.lookup x = some u ∧ kidV H (.fld x) v u := by
  obtain ⟨u, f1, rest, k, _, _, _⟩ := r.kid h
  have k' := k
  obtain ⟨a, C', dx, fs, rfl, e, l⟩ := k
  obtain ⟨p, dx', vs', g, e1, e2, _⟩ := r
  cases e1
  rw [e] at e2; cases e2
  exact ⟨a, dx, _, u, rfl, e, l, k'⟩
theorem isIns_ok {K : PySem.W.Frag} {Hk H : Hp} {ρ : Env} {σ : St} {f : Fs} {C x : Str} {pl : Pl} {v : V} (c : Cfg K cl Hk H ρ σ f) (h : isIns C x ρ pl = true) (a : ∃ v0, σ[pl.1]? = some (some v0) ∧ atV H pl.2 v0 v) :
    ∃ p dx fs u, v = .ref p ∧ H p = some (.ins (cl C) dx fs) ∧ fs.lookup x = some u ∧ kidV H (.fld x) v u := by
  unfold isIns at h
  split at h
  · rename_i C' ns vs en
    rw [Bool.and_eq_true, decide_eq_true_eq] at h
    obtain ⟨rfl, h2⟩ := h
    obtain ⟨⟨i, k⟩, ek⟩ := Option.isSome_iff_exists.mp h2
    obtain ⟨f1, r1, _, _, _⟩ := c.at en a
    exact kid_fld r1 ek
  · cases h
theorem dp_fld {C x : Str} {mp : M Pl} (hC : Cls X.K (cl C)) (hx : NoAttr X.K (cl C) x) (hp : DPl X cl W r o mp) (hb : attributeBase o x X.env (eval o X.env) = eval o X.env := by rfl) : DPl X cl W r (.Attribute o x apos) (mPf C x mp) :=
  PE.imp (pe_fld hp hb) fun σ H Q ⟨Hk, ρ, f, c, q⟩ => by
    have q' : EQ X.K cl W (RPl σ) (r && true) σ Hk H ρ f ((mp ρ).bind fun pl ρ1 => if isIns C x ρ1 pl then .ok (pl.1, pl.2 ++ [.fld x]) ρ1 else .bad) Q := by rw [eq_true]; exact q
    refine ⟨Hk, ρ, f, c, (EQ.seq RPl.p q').mono fun v H1 ⟨pl, Hk1, ρ1, f1, c1, _, _, hx1, q1⟩ => ?_⟩
    split at q1
    · rename_i hi
      obtain ⟨p, dx, fs, u, rfl, e1, l, k⟩ := isIns_ok c1 hi hx1.1
      obtain ⟨v0, e0, a0⟩ := hx1.1
      exact ⟨p, cl C, dx, fs, u, rfl, e1, hC, hx, l, EQ.at c1 q1 (.refl c1.same) ⟨⟨v0, e0, atV_app a0 k⟩, rfl⟩⟩
    · exact q1.elim
/-- what a dict holds at a key; an item of a list -/
def keyD : D → Option Key
  | .int i => some (.inl i)
  | .str x => some (.inr x)
  | _ => none
theorem keyD_v {K : PySem.W.Frag} {H : Hp} {d : D} {v : V} {k : Key} (r : RepD K H d v) (h : keyD d = some k) : v = kV k := by
  cases d with
  | int i => cases h; exact r
  | str x => cases h; exact r
  | _ => cases h
def stpAt (ρ : Env) (pl : Pl) (d : D) : Option Stp := match nodeAt ρ pl with
  | some (.dk ks vs) => (match keyD d with
    | some k => if (kidAt (.key k) (.dk ks vs)).isSome then some (.key k) else none
    | none => none)
  | some (.ls vs) => (match d with
    | .int i => (match ixN vs.length i with
      | some n => some (.idx n)
      | none => none)
    | _ => none)
  | _ => none
def mPi (mp : M Pl) (mi : M D) : M Pl := fun ρ => (mp ρ).bind fun pl ρ1 => (mi ρ1).bind fun d ρ2 => match stpAt ρ2 pl d with
  | some s => .ok (pl.1, pl.2 ++ [s]) ρ2
  | none => .bad
/-- a data thing at a place -/
def mRd (mp : M Pl) : M D := fun ρ => (mp ρ).bind fun pl ρ1 => match nodeAt ρ1 pl with
  | some (.d x) => .ok x ρ1
  | _ => .bad
def mRdB (mp : M Pl) : M D := fun ρ => (mp ρ).bind fun pl ρ1 => match nodeAt ρ1 pl with
  | some o => (match peek o with
    | some x => .ok x ρ1
    | none => .bad)
  | none => .bad
theorem de_rd {mp : M Pl} (hp : DPl X cl W r e mp) : DE X cl W r e (mRd mp) := PE.imp hp fun σ H Q ⟨Hk, ρ, f, c, q⟩ => by
  have q' : EQ X.K cl W (RD X.K) (r && true) σ Hk H ρ f ((mp ρ).bind fun pl ρ1 => match nodeAt ρ1 pl with
    | some (.d x) => .ok x ρ1
    | _ => .bad) Q := by rw [eq_true]; exact q
  refine ⟨Hk, ρ, f, c, (EQ.seq RPl.p q').mono fun v H1 ⟨pl, Hk1, ρ1, f1, c1, _, _, hx1, q1⟩ => ?_⟩
  split at q1
  · rename_i x en
    obtain ⟨g1, r1, _, _, _⟩ := c1.at en hx1.1
    exact EQ.at c1 q1 (.refl c1.same) ⟨r1.1, rfl⟩
  · exact q1.elim
theorem db_rd {mp : M Pl} (hp : DPl X cl W r e mp) : DB X cl W r e (mRdB mp) := PE.imp hp fun σ H Q ⟨Hk, ρ, f, c, q⟩ => by
  have q' : EQ X.K cl W (RB X.K) (r && true) σ Hk H ρ f ((mp ρ).bind fun pl ρ1 => match nodeAt ρ1 pl with
    | some o => (match peek o with
      | some x => .ok x ρ1
      | none => .bad)
    | none => .bad) Q := by rw [eq_true]; exact q
  refine ⟨Hk, ρ, f, c, (EQ.seq RPl.p q').mono fun v H1 ⟨pl, Hk1, ρ1, f1, c1, _, _, hx1, q1⟩ => ?_⟩
  split at q1
  · rename_i x en
    obtain ⟨g1, r1, _, _, _⟩ := c1.at en hx1.1
    split at q1
    · rename_i y ep
      exact EQ.at c1 q1 (.refl c1.same) ⟨r1.peek c1.same ep, rfl⟩
    · exact q1.elim
  · exact q1.elim
/-! ### arguments that may be own -/
abbrev DAo (X : Cx) (cl : Wld) (W : WX) (r : Bool) (es : List Expr) (m : M (List O)) : Prop := PA X es (tR X.K cl W (ROs X.K cl) r m)
def mOs (m : M (List D)) : M (List O) := fun ρ => (m ρ).bind fun ds ρ1 => .ok (ds.map O.d) ρ1
def mO1 (m : M O) : M (List O) := fun ρ => (m ρ).bind fun o ρ1 => .ok [o] ρ1
theorem dao_d {m : M (List D)} (h : DA X cl W r es m) : DAo X cl W r es (mOs m) := PA.imp h fun σ H Q ⟨Hk, ρ, f, c, q⟩ => by
  have q' : EQ X.K cl W (ROs X.K cl) (r && true) σ Hk H ρ f ((m ρ).bind fun ds ρ1 => .ok (ds.map O.d) ρ1) Q := by rw [eq_true]; exact q
  refine ⟨Hk, ρ, f, c, (EQ.seqG (R1 := RDs X.K) q').mono fun vs H1 ⟨ds, g, Hk1, ρ1, f1, c1, ap, st, hr, hx, q1⟩ => ?_⟩
  obtain ⟨hx1, rfl⟩ := hx
  rw [eq_true] at q1
  exact q1 vs [] Hk1 H1 f1 c1 ap st hr (RepOs.ofDs hx1)
theorem dao_1 {m : M O} (h : DO X cl W r e m) (he : starEach (e :: []) X.env = (false, eval e X.env) :: starEach [] X.env := by rfl) : DAo X cl W r [e] (mO1 m) := PA.imp (pa_cons h pa_nil he) fun σ H Q ⟨Hk, ρ, f, c, q⟩ => by
  have q' : EQ X.K cl W (ROs X.K cl) (r && true) σ Hk H ρ f ((m ρ).bind fun o ρ1 => .ok [o] ρ1) Q := by rw [eq_true]; exact q
  refine ⟨Hk, ρ, f, c, (EQ.seqG (R1 := RO X.K cl) q').mono fun v H1 ⟨o, g, Hk1, ρ1, f1, c1, ap, st, hr, hx, q1⟩ => ?_⟩
  rw [eq_true] at q1
  exact q1 [v] g Hk1 H1 f1 c1 ap st hr ⟨v, [], g, [], rfl, by simp, hx, ⟨rfl, rfl⟩⟩
/-! ### methods that change what stands at a place -/
def LocMut (K : PySem.W.Frag) (cl : Wld) (rr : V → List V → Hp → VK → Prop) (g : O → List O → Option (O × O)) : Prop := ∀ (Hk H : Hp) (o : O) (v : V) (f1 : Fp) (as : List O) (xs : List V) (ga : Fp) (o' b : O) (Q : VK), Same Hk H → RepO K cl Hk H o v f1 → RepOs K cl Hk H as xs ga →
  (f1 ++ ga).Nodup → (∀ a ∈ f1 ++ ga, Hk a = none) → g o as = some (o', b) →
  (∀ (w : V) (H' : Hp) (gb f1' : Fp), (∀ a u, a ∉ f1 → H a = some u → H' a = some u) → RepO K cl Hk H' o' v f1' → RepO K cl Hk H' b w gb → (∀ a ∈ gb ++ f1', a ∈ f1 ++ ga) → (gb ++ f1').Nodup → Q w H') → rr v xs H Q
def tyO : O → Option String
  | .ls _ => some "list"
  | .dk _ _ => some "dict"
  | .dt _ _ => some "dict"
  | _ => none
theorem tyO_ok {K : PySem.W.Frag} {Hk H : Hp} {o : O} {v : V} {f : Fp} {T : String} (h : tyO o = some T) (r : RepO K cl Hk H o v f) : tyV K T v H := by
  cases o with
  | ls xs => cases h; obtain ⟨p, vs, g, rfl, hp, _⟩ := r; exact .inl ⟨rfl, vs, SqL.of hp⟩
  | dk ks xs => cases h; obtain ⟨p, vs, g, rfl, hp, _⟩ := r; exact .inr (.inr (.inl ⟨rfl, .inl ⟨_, hp⟩⟩))
  | dt ks xs => cases h; obtain ⟨p, vs, g, rfl, hp, _⟩ := r; exact .inr (.inr (.inl ⟨rfl, .inr ⟨_, hp⟩⟩))
  | _ => cases h
def mutK (g : O → List O → Option (O × O)) (pl : Pl) (as : List O) (ρ : Env) : Res O := match nodeAt ρ pl with
  | some o => (match g o as with
    | some (o', b) => .ok b (putAt ρ pl o')
    | none => .bad)
  | none => .bad
def hasTy (T : String) (ρ : Env) (pl : Pl) : Bool := match nodeAt ρ pl with
  | some o => decide (tyO o = some T)
  | none => false
def mMut (T : String) (g : O → List O → Option (O × O)) (mp : M Pl) (mas : M (List O)) : M O := fun ρ => (mp ρ).bind fun pl ρ1 => if hasTy T ρ1 pl then (mas ρ1).bind fun as ρ2 => mutK g pl as ρ2 else .bad
theorem hasTy_ok {K : PySem.W.Frag} {Hk H : Hp} {ρ : Env} {σ : St} {f : Fs} {T : String} {pl : Pl} {v : V} (c : Cfg K cl Hk H ρ σ f) (h : hasTy T ρ pl = true) (a : ∃ v0, σ[pl.1]? = some (some v0) ∧ atV H pl.2 v0 v) : tyV K T v H := by
  unfold hasTy at h
  split at h
  · rename_i o en
    obtain ⟨g1, r1, _, _, _⟩ := c.at en a
    exact tyO_ok (of_decide_eq_true h) r1
  · cases h
/-- the change itself -/
theorem eq_mut {K : PySem.W.Frag} {Hk0 H0 Hk H : Hp} {ρ0 ρ : Env} {σ : St} {f0 f : Fs} {rr : V → List V → Hp → VK → Prop} {g : O → List O → Option (O × O)} {pl : Pl} {as : List O} {v : V} {xs : List V} {ga : Fp} {Q : VK} (l : LocMut K cl rr g) (c : Cfg K cl Hk H ρ σ f)
    (a : ∃ v0, σ[pl.1]? = some (some v0) ∧ atV H pl.2 v0 v) (ap : Apart Hk H ga f) (ra : RepOs K cl Hk H as xs ga) (st0 : Step Hk0 H0 f0.all Hk H (fun x => x ∈ ga ∨ f.all x)) (q : EQ K cl W (RO K cl) false σ Hk0 H0 ρ0 f0 (mutK g pl as ρ) Q) : rr v xs H Q := by
  unfold mutK at q
  split at q
  · rename_i o en
    split at q
    · rename_i o' b eg
      obtain ⟨f1, r1, nd1, sub, bk⟩ := c.at en a
      have sep : ∀ x ∈ ga, ¬ f.all x := fun x hx => (ap.off x hx).2.2
      have ndA : (f1 ++ ga).Nodup := by
        rw [List.nodup_append]
        exact ⟨nd1, ap.nd, fun x hx y hy e => sep y hy (sub y (e ▸ hx))⟩
      have offA : ∀ x ∈ f1 ++ ga, Hk x = none := fun x hx => by
        rcases List.mem_append.mp hx with h | h
        · obtain ⟨i, hi⟩ := sub x h
          exact (c.off i x hi).1
        · exact (ap.off x h).1
      refine l Hk H o v f1 as xs ga o' b Q c.same r1 ra ndA offA eg fun w H' gb f1' fr r2 rb sb nd' => ?_
      have s' : Same Hk H' := fun x u e => fr x u (fun z => by have := offA x (List.mem_append_left _ z); rw [e] at this; cases this) (c.same x u e)
      have gd : Good Hk H' (gb ++ f1') := ⟨s', nd', fun x hx => ⟨offA x (sb x hx), by
        rcases List.mem_append.mp hx with h | h
        · obtain ⟨u, e⟩ := rb.there _ _ _ x h
          rw [e]; (intro z; cases z)
        · obtain ⟨u, e⟩ := r2.there _ _ _ x h
          rw [e]; (intro z; cases z)⟩⟩
      obtain ⟨f', c', ap', st'⟩ := bk Hk H' o' gb ga f1' sep r2 gd ⟨.refl _, fun x u n e => fr x u (fun z => n (.inl z)) e, fun x h => .inl h, fun x h => .inr (List.mem_append.mp (sb x h))⟩
      exact q w gb Hk H' f' c' ap' (st0.trans st') (fun e => Bool.noConfusion e) rb
    · exact q.elim
  · exact q.elim
variable {T id : String} {name : Str} {rr : V → List V → Hp → VK → Prop} {g : O → List O → Option (O × O)}
/-- place.name(e, ..): what is behind the place's name is but read -/
theorem do_mut {mp : M Pl} {mas : M (List O)} (pa : PlainAttrs T) (slot : Slot T name id) (hty : typeOf (.builtin id) = pure (.type "method_descriptor")) (hm : MtR X id rr) (l : LocMut X.K cl rr g) (hp : DPl X cl W r o mp) (ha : DAo X cl W true (e :: es) mas)
    (hbase : attributeBase o name X.env (eval o X.env) = eval o X.env := by rfl)
    (hfew : ((backTo cpos (starEach (e :: es) X.env)).all (fun x => !x.1) && (backToKw cpos (keywordEach [] X.env)).all (fun x => x.1.isSome)
      && decide ((e :: es).length + ([] : List Keyword).length + (if ([] : List Keyword).isEmpty then 0 else 1) < 30)) = true := by rfl)
    (hline : (apos.endLine == cpos.line) = true := by rfl) (hs : starEach (e :: es) X.env = (false, eval e X.env) :: starEach es X.env := by rfl) (hplain : (backTo cpos (starEach es X.env)).any (·.1) = false := by rfl) :
    DO X cl W false (.Call (.Attribute o name apos) (e :: es) [] cpos) (mMut T g mp mas) := PE.imp (pe_bm pa slot hty hm hp ha hbase hfew hline hs hplain) fun σ H Q ⟨Hk, ρ, f, c, q⟩ => by
  have q' : EQ X.K cl W (RO X.K cl) (r && false) σ Hk H ρ f (mMut T g mp mas ρ) Q := by rw [Bool.and_false]; exact q
  refine ⟨Hk, ρ, f, c, (EQ.seqG (R1 := RPl σ) q').mono fun v H1 ⟨pl, g1, Hk1, ρ1, f1, c1, ap1, st1, _, hx1, q1⟩ => ?_⟩
  split at q1
  · rename_i ht
    refine ⟨hasTy_ok c1 ht hx1.1, Hk1, ρ1, f1, c1, ?_⟩
    have hx1' := hx1.1
    obtain ⟨_, rfl⟩ := hx1
    have st1 : Step Hk H f.all Hk1 H1 f1.all := Apart.step_nil' st1
    rw [Bool.and_false] at q1
    cases z : mas ρ1 with
    | bad => rw [z] at q1; exact q1
    | exc x ρ2 => rw [z] at q1; exact fun cls dd Hk' H' f' c' s' xx => q1 cls dd Hk' H' f' c' (st1.trans s') xx
    | ok as ρ2 =>
      rw [z] at q1
      intro xs ga Hk2 H2 f2 c2 ap2 st2 hr2 ra
      obtain ⟨rfl, rfl, sm⟩ := hr2 rfl
      exact eq_mut l c2 (RPl.after (Hk := Hk1) ⟨hx1', rfl⟩ sm) ap2 ra (st1.trans st2) q1
  · exact q1.elim
/-- slot.name(e, ..): what stands in the slot is the same thing, whatever e does -/
theorem do_mutS (i : Nat) {mas : M (List O)} (pa : PlainAttrs T) (slot : Slot T name id) (hty : typeOf (.builtin id) = pure (.type "method_descriptor")) (hm : MtR X id rr) (l : LocMut X.K cl rr g) (ha : DAo X cl W r (e :: es) mas) {y : Str} {p : Pos}
    (hN : X.N[i]? = some y := by rfl) (hv : Vis X.env.scope y := by first | exact Or.inl rfl | exact Or.inr (Or.inl rfl) | exact Or.inr (Or.inr rfl)) (hdb : (y == ("__debug__" : Str)) = false := by decide) (hcd : (y == ("__classdict__" : Str)) = false := by decide)
    (hbase : attributeBase (.Name y p) name X.env (eval (.Name y p) X.env) = eval (.Name y p) X.env := by rfl)
    (hfew : ((backTo cpos (starEach (e :: es) X.env)).all (fun x => !x.1) && (backToKw cpos (keywordEach [] X.env)).all (fun x => x.1.isSome)
      && decide ((e :: es).length + ([] : List Keyword).length + (if ([] : List Keyword).isEmpty then 0 else 1) < 30)) = true := by rfl)
    (hline : (apos.endLine == cpos.line) = true := by rfl) (hs : starEach (e :: es) X.env = (false, eval e X.env) :: starEach es X.env := by rfl) (hplain : (backTo cpos (starEach es X.env)).any (·.1) = false := by rfl) :
    DO X cl W false (.Call (.Attribute (.Name y p) name apos) (e :: es) [] cpos) (mMut T g (mPs i) mas) := PE.imp (pe_bm pa slot hty hm (dp_slot (cl := cl) (W := W) i hN hv hdb hcd) ha hbase hfew hline hs hplain) fun σ H Q ⟨Hk, ρ, f, c, q⟩ => by
  refine ⟨Hk, ρ, f, c, ?_⟩
  have z : mMut T g (mPs i) mas ρ = (mPs i ρ).bind fun pl ρ1 => if hasTy T ρ1 pl then (mas ρ1).bind fun as ρ2 => mutK g pl as ρ2 else .bad := rfl
  rw [z] at q
  unfold mPs at q ⊢
  split at q
  · rename_i o eo
    have q1 : EQ X.K cl W (RO X.K cl) false σ Hk H ρ f (if hasTy T ρ (i, []) then (mas ρ).bind fun as ρ2 => mutK g (i, []) as ρ2 else .bad) Q := q
    intro v g1 Hk1 H1 f1 c1 ap1 st1 hr1 hx1
    obtain ⟨hx, rfl⟩ := hx1
    split at q1
    · rename_i ht
      refine ⟨hasTy_ok c1 ht hx, Hk1, ρ, f1, c1, ?_⟩
      have st1 : Step Hk H f.all Hk1 H1 f1.all := Apart.step_nil' st1
      cases z : mas ρ with
      | bad => rw [z] at q1; exact q1
      | exc x ρ2 => rw [z] at q1; exact fun cls dd Hk' H' f' c' s' xx => q1 cls dd Hk' H' f' c' (st1.trans s') xx
      | ok as ρ2 =>
        rw [z] at q1
        intro xs ga Hk2 H2 f2 c2 ap2 st2 hr2 ra
        obtain ⟨v0, e0, a0⟩ := hx
        exact eq_mut l c2 ⟨v0, e0, a0⟩ ap2 ra (st1.trans st2) q1
    · exact q1.elim
  · exact q
/-- place.name() -/
theorem do_mut0 {mp : M Pl} (pa : PlainAttrs T) (slot : Slot T name id) (hty : typeOf (.builtin id) = pure (.type "method_descriptor")) (hm : MtR X id rr) (l : LocMut X.K cl rr g) (hp : DPl X cl W r o mp)
    (hbase : attributeBase o name X.env (eval o X.env) = eval o X.env := by rfl) (hline : (apos.endLine == cpos.line) = true := by rfl) : DO X cl W false (.Call (.Attribute o name apos) [] [] cpos) (mMut T g mp fun ρ => .ok [] ρ) := PE.imp (pe_bm0 pa slot hty hm hp hbase hline) fun σ H Q ⟨Hk, ρ, f, c, q⟩ => by
  have q' : EQ X.K cl W (RO X.K cl) (r && false) σ Hk H ρ f (mMut T g mp (fun ρ => .ok [] ρ) ρ) Q := by rw [Bool.and_false]; exact q
  refine ⟨Hk, ρ, f, c, (EQ.seqG (R1 := RPl σ) q').mono fun v H1 ⟨pl, g1, Hk1, ρ1, f1, c1, ap1, st1, _, hx1, q1⟩ => ?_⟩
  split at q1
  · rename_i ht
    refine ⟨hasTy_ok c1 ht hx1.1, ?_⟩
    obtain ⟨hx, rfl⟩ := hx1
    rw [Bool.and_false] at q1
    exact eq_mut (as := []) l c1 hx .nil ⟨rfl, rfl⟩ st1 q1
  · exact q1.elim
end
section
variable {K : PySem.W.Frag} {cl : Wld} {Hk H H' : Hp}
theorem RepOs.snoc : ∀ {os : List O} {vs : List V} {g ga : Fp} {o : O} {v : V}, RepOs K cl Hk H os vs g → RepO K cl Hk H o v ga → RepOs K cl Hk H (os ++ [o]) (vs ++ [v]) (g ++ ga)
  | [], _, _, ga, o, v, h, r => by
    obtain ⟨rfl, rfl⟩ := h
    exact ⟨v, [], ga, [], rfl, by simp, r, ⟨rfl, rfl⟩⟩
  | x :: os, _, _, ga, o, v, h, r => by
    obtain ⟨w, r1, f1, f2, rfl, rfl, h1, h2⟩ := h
    exact ⟨w, r1 ++ [v], f1, f2 ++ ga, rfl, by simp, h1, RepOs.snoc h2 r⟩
theorem upd_keep {p : Addr} {u : HO} {g : Fp} (h : p ∉ g) : ∀ a ∈ g, ∀ w, H a = some w → upd H p u a = some w := fun a ha w e => by
  rw [upd_ne (fun z => h (by rw [← z]; exact ha))]; exact e
def gAppend : O → List O → Option (O × O)
  | .ls xs, [x] => if xs.length < 16777216 then some (.ls (xs ++ [x]), .d .non) else none
  | _, _ => none
theorem line16' {n : Nat} (h : n < 16777216) : n < sizeLine := by rw [sizeLine_eq]; exact h
theorem loc_append : LocMut K cl rAppend gAppend := by
  intro Hk H o v f1 as xs ga o' b Q sm r ra nd off e k
  unfold gAppend at e
  split at e
  · rename_i ys y
    split at e
    · rename_i hl
      cases e
      obtain ⟨p, vs, g, rfl, hp, r0, rfl⟩ := r
      obtain ⟨w, ws, f1, f2, rfl, rfl, r1, r2⟩ := ra
      obtain ⟨rfl, rfl⟩ := r2
      rw [List.cons_append, List.nodup_cons] at nd
      have n1 : p ∉ g := fun z => nd.1 (List.mem_append_left _ z)
      have n2 : p ∉ f1 := fun z => nd.1 (List.mem_append_right _ (by simpa using z))
      refine ⟨p, vs, w, rfl, rfl, hp, line16' (by rw [← r0.length]; exact hl), k .non _ [] (p :: (g ++ f1)) (fun a u n e => ?_) ⟨p, vs ++ [w], g ++ f1, rfl, upd_same, (r0.keep (.refl _) _ _ _ (upd_keep n1)).snoc (r1.keep (.refl _) _ _ _ (upd_keep n2)), rfl⟩ ⟨rfl, rfl⟩ (fun a ha => ?_) ?_⟩
      · rw [upd_ne (fun z => n (by rw [z]; exact List.mem_cons_self))]; exact e
      · simpa using ha
      · rw [List.nil_append, List.nodup_cons]
        simpa using nd
    · cases e
  · cases e
def gExtend : O → List O → Option (O × O)
  | .ls xs, [.d (.lst ds)] => if xs.length + ds.length ≤ 16777216 then some (.ls (xs ++ ds.map O.d), .d .non) else none
  | _, _ => none
theorem loc_extend : LocMut K cl rExtend gExtend := by
  intro Hk H o v f1 as xs ga o' b Q sm r ra nd off e k
  unfold gExtend at e
  split at e
  · rename_i ys ds
    split at e
    · rename_i hl
      cases e
      obtain ⟨p, vs, g, rfl, hp, r0, rfl⟩ := r
      obtain ⟨w, ws, f1, f2, rfl, rfl, r1, r2⟩ := ra
      obtain ⟨rfl, rfl⟩ := r2
      obtain ⟨⟨q, us, rfl, hq, rd⟩, rfl⟩ := r1
      have nd' := List.nodup_cons.mp (by simpa using nd : (p :: g).Nodup)
      refine ⟨p, q, vs, us, rfl, rfl, hp, sm _ _ hq, line16 (by rw [← r0.length, ← rd.length]; exact hl), k .non _ [] (p :: g) (fun a u n e => ?_) ⟨p, vs ++ us, g, rfl, upd_same, (r0.keep (.refl _) _ _ _ (upd_keep nd'.1)).appDs rd, rfl⟩ ⟨rfl, rfl⟩ (fun a ha => ?_) ?_⟩
      · rw [upd_ne (fun z => n (by rw [z]; exact List.mem_cons_self))]; exact e
      · simpa using ha
      · simpa using nd
    · cases e
  · cases e
end
end DL
set_option Elab.async false
set_option linter.all false
set_option maxRecDepth 100000
/-! EM: unpacking of lists, starred targets. -/
namespace DL
open PySem L2 PySem.Spec PyProof.Rows RZ
section
variable {prog : Program} {w : World} {A : Around} {E : Value → Shared → Prop} {s : Shared}
/-- what is left of a walk, then a new list of all but the last ones -/
theorem star_tail {I ax : Addr} {items : Array Value} {n i : Nat} {T : String} {St : Nat → Heap → Prop} {Q : List Value → Shared → Prop} {first : List Value}
    (hTm : T = "str_ascii_iterator" ∨ T = "str_iterator" ∨ T = "list_iterator" ∨ T = "tuple_iterator") (Wk : Walks prog w A.in1 I [I, ax] [I] items.size (fun i v => items[i]? = some v) St) (hT : ∀ i (u : Shared), St i u.heap → u.TypeIs (.ref I) T)
    (hi : i < n) (hn : n ≤ items.size + 1) (hz : items.size ≤ sizeLine) (st : St i s.heap) (hI : I < s.heap.objs.size) (hax : ax < s.heap.objs.size)
    (h : ∀ (h' : Heap) (tk : Nat), (∀ b o, b ≠ I → s.heap.get? b = some o → h'.get? b = some o) → Q (first ++ [.ref h'.objs.size] ++ (items.toList.drop i).drop (items.size + 1 - n)) { s with heap := h'.push { cls := .type "list", data := .seq ((items.toList.drop i).take (items.size + 1 - n)).toArray }, toks := tk }) :
    wpAny (model prog w) A (do
      let rest ← holding first (collect (.ref I))
      let after := n - 1 - i
      if rest.length < after then
        rule "unpack.star.too-few"
        raiseError "ValueError" s!"not enough values to unpack (expected at least {n - 1}, got {i + rest.length})"
      let mid := rest.length - after
      return first ++ [← newList (rest.take mid)] ++ rest.drop mid) Q E s := by
  refine wpAny_bind (wpAny_holding (PySem.W.kun_collect hTm Wk hT (by omega) st hI hax (fun h2 tk hk => ?_) hz))
  have hl : (items.toList.drop i).length = items.size - i := by rw [List.length_drop, Array.length_toList]
  have hm : (items.toList.drop i).length - (n - 1 - i) = items.size + 1 - n := by rw [hl]; omega
  dsimp only
  rw [if_neg (by rw [hl]; omega), hm]
  exact wpAny_bind (wpAny_newList (s := { s with heap := h2, toks := tk }) (wpAny_pure (h h2 tk hk)) (by rw [List.length_take, hl]; omega))
theorem star_list {l : Addr} {items : Array Value} {n i : Nat} {Q : List Value → Shared → Prop} (hl : s.heap.IsList l items) (hh : A.handled = none) (hi : i < n) (hn : n ≤ items.size + 1) (hz : items.size ≤ sizeLine)
    (h : ∀ (h' : Heap) (tk : Nat), (∀ b o, s.heap.get? b = some o → h'.get? b = some o) → Q (items.toList.take i ++ [.ref h'.objs.size] ++ (items.toList.drop i).drop (items.size + 1 - n)) { s with heap := h'.push { cls := .type "list", data := .seq ((items.toList.drop i).take (items.size + 1 - n)).toArray }, toks := tk }) :
    wpAny (model prog w) A (unpackItems (.ref l) n (some i)) Q E s := by
  have hlt : l ≠ s.heap.objs.size := by obtain ⟨o, ho, _⟩ := hl; exact Nat.ne_of_lt (Heap.lt_size ho)
  unfold unpackItems notIterableAtAll
  refine wpAny_bind (wpAny_bind (wpAny_specialOf hl.typeIs slot_list_iter.lookup (wpAny_pure ?_)))
  rw [if_neg Bool.false_ne_true]
  refine wpAny_bind (wpAny_holding (wpAny_pyIter_list hl (wpAny_bind (wpAny_holding (PySem.W.kun_draw hlt i 0 _ _ ⟨_, Heap.get?_push_size _ rfl, rfl, rfl⟩ (hl.push _) (by omega) fun h1 it1 sb1 => ?_)))))
  rw [List.drop_zero, if_neg (by rw [List.length_take, Array.length_toList]; omega)]
  rw [Nat.zero_add] at it1
  have hl1 : h1.IsList l items := (hl.push _).extBut sb1.extBut hlt
  obtain ⟨o1, ho1, _⟩ := id it1
  obtain ⟨o2, ho2, _⟩ := id hl1
  exact star_tail (s := { s with heap := h1 }) (T := "list_iterator") (.inr (.inr (.inl rfl))) (Walks.list (A := A.in1) hh s.heap.objs.size l hlt items) (fun j u st => st.1.typeIs) hi hn hz ⟨it1, hl1⟩ (Heap.lt_size ho1) (Heap.lt_size ho2)
    fun h2 tk hk => h h2 tk fun b o e => hk b o (Nat.ne_of_lt (Heap.lt_size e)) (sb1.extBut b o (Nat.ne_of_lt (Heap.lt_size e)) (Heap.get?_push_of_some _ e))
theorem star_tup {l : Addr} {items : Array Value} {n i : Nat} {Q : List Value → Shared → Prop} (hl : IsTup s.heap l items) (hh : A.handled = none) (hi : i < n) (hn : n ≤ items.size + 1) (hz : items.size ≤ sizeLine)
    (h : ∀ (h' : Heap) (tk : Nat), (∀ b o, s.heap.get? b = some o → h'.get? b = some o) → Q (items.toList.take i ++ [.ref h'.objs.size] ++ (items.toList.drop i).drop (items.size + 1 - n)) { s with heap := h'.push { cls := .type "list", data := .seq ((items.toList.drop i).take (items.size + 1 - n)).toArray }, toks := tk }) :
    wpAny (model prog w) A (unpackItems (.ref l) n (some i)) Q E s := by
  have hlt : l ≠ s.heap.objs.size := by obtain ⟨o, ho, _⟩ := hl; exact Nat.ne_of_lt (Heap.lt_size ho)
  unfold unpackItems notIterableAtAll
  refine wpAny_bind (wpAny_bind (wpAny_specialOf hl.typeIs slot_tuple_iter.lookup (wpAny_pure ?_)))
  rw [if_neg Bool.false_ne_true]
  refine wpAny_bind (wpAny_holding (iter_tuple hl (wpAny_bind (wpAny_holding (draw_tuple hlt i 0 _ _ ⟨_, Heap.get?_push_size _ rfl, rfl, rfl⟩ (hl.push _) (by omega) fun h1 it1 sb1 => ?_)))))
  rw [List.drop_zero, if_neg (by rw [List.length_take, Array.length_toList]; omega)]
  rw [Nat.zero_add] at it1
  have hl1 : IsTup h1 l items := (hl.push _).extBut sb1.extBut hlt
  obtain ⟨o1, ho1, _⟩ := id it1
  obtain ⟨o2, ho2, _⟩ := id hl1
  exact star_tail (s := { s with heap := h1 }) (T := "tuple_iterator") (.inr (.inr (.inr rfl))) (Walks.tuple (A := A.in1) hh s.heap.objs.size l hlt items) (fun j u st => st.1.typeIs) hi hn hz ⟨it1, hl1⟩ (Heap.lt_size ho1) (Heap.lt_size ho2)
    fun h2 tk hk => h h2 tk fun b o e => hk b o (Nat.ne_of_lt (Heap.lt_size e)) (sb1.extBut b o (Nat.ne_of_lt (Heap.lt_size e)) (Heap.get?_push_of_some _ e))
end
section
variable {X : Cx} {cl : Wld} {W : WX} {pv : List V} {r ra rb : Bool} {e a b : Expr} {es elts : List Expr} {pos p : Pos} {is js : List Nat}
/-- a tuple or a list -/
def gSeq (K : PySem.W.Frag) (n : Nat) (t : TGs) : TG := fun v σ H Q => ∃ a xs, v = .ref a ∧ (SqT K H a xs ∨ SqL K H a xs) ∧ xs.length = n ∧ t xs σ H Q
theorem pg_seq {kk n : Nat} {t : TGs} (hc : X.calm = true) (h : PGs X es t) (hn : (assignEach es X.env).length = n) (hst : (assignEach es X.env).findIdx? (·.1) = none) : PG X (.Tuple es kk pos) (gSeq X.K n t) := by
  refine ⟨fun pins s σ H v u Q I r hw => ?_⟩
  obtain ⟨a, xs, rfl, hq, hl, hw⟩ := hw
  cases r
  have go : ∀ (its : List Value), Vals xs its → ∀ h', Heap.ExtBut s.heap.objs.size s.heap h' → wpAny (model X.prog X.w) X.A (assignInOrder ((assignEach es X.env).map (·.2)) its.toArray.toList) (fun _ s' => ∃ σ' H', Inv X pins σ' H' s' ∧ Q σ' H') X.xe { s with heap := h' } := fun its rv h' hx => by
    have I1 : Inv X pins σ H { s with heap := h' } := I.kept (t' := s.toks) fun b o e => hx b o (Nat.ne_of_lt (Heap.lt_size e)) e
    exact h.run pins _ σ H xs _ Q I1 (by simpa using rv) hw
  rcases hq with hq | hq
  · obtain ⟨its, rv, ht, hz⟩ := I.tuple hq
    exact assign_Tuple_tuple (I.ok.hd hc) ht (by simp [hn, ← hl, rv.length]) hst (go its rv)
  · obtain ⟨its, rv, ⟨o, m, e1, e2, e3, e4⟩, hz⟩ := I.list hq
    have hL : s.heap.IsList a its.toArray := ⟨o, e1, e2, m, e4⟩
    rw [assign_Tuple]
    refine wpAny_bind (wpAny_standAt ?_)
    unfold unpack
    rw [hst, show (assignEach es X.env).length = its.toArray.size by simp [hn, ← hl, rv.length]]
    exact wpAny_bind (wpAny_holding (PySem.W.kun_itemsOf (I.ok.hd hc) hL (go its rv)))
def seqD : D → Option (List D)
  | .tup ds => some ds
  | .lst ds => some ds
  | _ => none
def tgSeq (n : Nat) (ts : List D → Env → Option Env) : D → Env → Option Env := fun d ρ => match seqD d with
  | some ds => if ds.length = n then ts ds ρ else none
  | none => none
theorem seqD_ok {K : PySem.W.Frag} {Hk H : Hp} {d : D} {ds : List D} {v : V} (s : Same Hk H) (h : seqD d = some ds) (r : RepD K Hk d v) : ∃ a vs, v = .ref a ∧ (SqT K H a vs ∨ SqL K H a vs) ∧ RepDs K Hk ds vs := by
  cases d with
  | tup xs => cases h; obtain ⟨a, vs, rfl, q, rr⟩ := r; exact ⟨a, vs, rfl, .inl (sqT_same s q), rr⟩
  | lst xs => cases h; obtain ⟨a, vs, rfl, q, rr⟩ := r; exact ⟨a, vs, rfl, .inr (SqL.of (s _ _ q)), rr⟩
  | _ => cases h
theorem dg_seq {kk n : Nat} {ts : List D → Env → Option Env} (h : DGs X cl is es ts) (hc : X.calm = true := by rfl) (hn : (assignEach es X.env).length = n := by rfl) (hst : (assignEach es X.env).findIdx? (·.1) = none := by rfl) :
    DG X cl is (.Tuple es kk pos) (tgSeq n ts) := PG.imp (pg_seq hc h hn hst) fun v σ H Q ⟨Hk, ρ, f, d, ρ', c, hd, e, k⟩ => by
  unfold tgSeq at e
  split at e
  · rename_i ds ed
    split at e
    · rename_i hl
      obtain ⟨a, vs, rfl, q, rr⟩ := seqD_ok c.same ed hd
      exact ⟨a, vs, rfl, q, by rw [← rr.length]; exact hl, Hk, ρ, f, ds, ρ', c, rr, e, k⟩
    · cases e
  · cases e
/-- a, *b, c = .. -/
theorem dgs_star {t : D → Env → Option Env} {ts : List D → Env → Option Env} {tg : Expr} (h1 : DG X cl is tg t) (h2 : DGs X cl js es ts) (hs : (assignEach (.Starred tg p :: es) X.env).map (·.2) = assign tg X.env :: (assignEach es X.env).map (·.2) := by rfl) :
    DGs X cl (is ++ js) (.Starred tg p :: es) (tgCons t ts) := by
  have h : PGs X (.Starred tg p :: es) (gCons (tG X.K cl t is) (tGs X.K cl ts js)) := ⟨fun pins s σ H vs us Q I r ⟨v, vr, e1, h⟩ => by
    subst e1
    cases r with
    | cons r rr =>
      rw [hs]
      exact assignInOrder_cons (thn (h1.run pins s σ H _ _ _ I r h) fun _ s1 ⟨σ1, H1, I1, q1⟩ => h2.run pins s1 σ1 H1 _ _ Q I1 rr q1)⟩
  exact PGs.imp h fun vs σ H Q ⟨Hk, ρ, f, ds, ρ', c, hd, e, k⟩ => by
    cases ds with
    | nil => cases e
    | cons d ds =>
      obtain ⟨v, vr, rfl, h1, h2⟩ := hd
      have e : (t d ρ).bind (ts ds) = some ρ' := e
      cases z : t d ρ with
      | none => rw [z] at e; cases e
      | some ρ1 =>
        rw [z] at e
        exact ⟨v, vr, rfl, Hk, ρ, f, d, ρ1, c, h1, z, fun σ1 f1 c1 o1 s1 => ⟨Hk, ρ1, f1, ds, ρ', c1, h2, e, fun σ2 f2 c2 o2 s2 =>
          k σ2 f2 c2 ((o1.mono fun i h => List.mem_append_left _ h).trans (o2.mono fun i h => List.mem_append_right _ h)) fun a h => s1 a (s2 a h)⟩⟩
def gStar (K : PySem.W.Frag) (n i : Nat) (t : TGs) : TG := fun v σ H Q => ∃ a xs, v = .ref a ∧ (SqT K H a xs ∨ SqL K H a xs) ∧ n ≤ xs.length + 1 ∧
  ∀ D0, H D0 = none → t (xs.take i ++ [.ref D0] ++ (xs.drop i).drop (xs.length + 1 - n)) σ (upd H D0 (.lst ((xs.drop i).take (xs.length + 1 - n)))) Q
theorem Vals.take' {xs : List V} {us : List Value} (k : Nat) (h : Vals xs us) : Vals (xs.take k) (us.take k) := by
  induction h generalizing k with
  | nil => simp; exact .nil
  | cons r _ ih =>
    cases k with
    | zero => exact .nil
    | succ k => exact .cons r (ih k)
theorem pg_star {kk n i : Nat} {t : TGs} (hc : X.calm = true) (h : PGs X es t) (hi : i < n) (hn : (assignEach es X.env).length = n) (hst : (assignEach es X.env).findIdx? (·.1) = some i) : PG X (.Tuple es kk pos) (gStar X.K n i t) := by
  refine ⟨fun pins s σ H v u Q I r hw => ?_⟩
  obtain ⟨a, xs, rfl, hq, hl, hw⟩ := hw
  cases r
  rw [assign_Tuple]
  refine wpAny_bind (wpAny_standAt ?_)
  unfold unpack
  rw [hst, hn]
  have go : ∀ (its : List Value), Vals xs its → xs.length ≤ sizeLine → ∀ (h' : Heap) (tk : Nat), (∀ b o, s.heap.get? b = some o → h'.get? b = some o) →
      wpAny (model X.prog X.w) X.A (assignInOrder ((assignEach es X.env).map (·.2)) (its.toArray.toList.take i ++ [.ref h'.objs.size] ++ (its.toArray.toList.drop i).drop (its.toArray.size + 1 - n))) (fun _ s' => ∃ σ' H', Inv X pins σ' H' s' ∧ Q σ' H') X.xe
        { s with heap := h'.push { cls := .type "list", data := .seq ((its.toArray.toList.drop i).take (its.toArray.size + 1 - n)).toArray }, toks := tk } := fun its rv hz h' tk hk => by
    have I1 : Inv X pins σ H { s with heap := h' } := I.kept (t' := s.toks) hk
    have sz : its.toArray.size = xs.length := by rw [List.size_toArray, rv.length]
    have lt : its.toArray.toList = its := by simp
    rw [sz, lt]
    have vm : Vals ((xs.drop i).take (xs.length + 1 - n)) ((its.drop i).take (xs.length + 1 - n)) := Vals.take' _ (rv.drop i)
    have I2 := I1.laid (a := h'.objs.size) (o := .lst ((xs.drop i).take (xs.length + 1 - n))) (h' := h'.push { cls := .type "list", data := .seq ((its.drop i).take (xs.length + 1 - n)).toArray }) (t' := tk) (fun b u q => Heap.get?_push_of_some _ q) (Nat.le_refl _)
      ⟨by rw [List.length_take, List.length_drop]; omega, _, 0, vm, Heap.get?_push_size _ rfl⟩
    exact h.run pins _ σ _ _ _ Q I2 (((Vals.take' i rv).append (.cons (show RelV (.ref h'.objs.size) (.ref h'.objs.size) from rfl) .nil)).append ((rv.drop i).drop _)) (hw _ (I1.hok.fresh (Nat.le_refl _)))
  rcases hq with hq | hq
  · obtain ⟨its, rv, ht, hz⟩ := I.tuple hq
    exact wpAny_bind (wpAny_holding (star_tup ht (I.ok.hd hc) hi (by rw [List.size_toArray, ← rv.length]; exact hl) (by rw [List.size_toArray, ← rv.length]; exact hz) (go its rv hz)))
  · obtain ⟨its, rv, ⟨o, m, e1, e2, e3, e4⟩, hz⟩ := I.list hq
    have hL : s.heap.IsList a its.toArray := ⟨o, e1, e2, m, e4⟩
    exact wpAny_bind (wpAny_holding (star_list hL (I.ok.hd hc) hi (by rw [List.size_toArray, ← rv.length]; exact hl) (by rw [List.size_toArray, ← rv.length]; exact hz) (go its rv hz)))
def starD (n i : Nat) (ds : List D) : List D := ds.take i ++ [.lst ((ds.drop i).take (ds.length + 1 - n))] ++ (ds.drop i).drop (ds.length + 1 - n)
def sStar (n i : Nat) (me : M D) (ts : List D → Env → Option Env) : MS := fun ρ => bindS (me ρ) fun d ρ1 => match seqD d with
  | some ds => if n ≤ ds.length + 1 then optS (ts (starD n i ds) ρ1) else .bad
  | none => .bad
theorem ds_star {kk n i : Nat} {me : M D} {ts : List D → Env → Option Env} (he : DE X cl W r e me) (h : DGs X cl is es ts) (his : ∀ i ∈ is, pv.length ≤ i) (hi : i < n := by decide) (hc : X.calm = true := by rfl) (hn : (assignEach es X.env).length = n := by rfl) (hst : (assignEach es X.env).findIdx? (·.1) = some i := by rfl)
    (hs : swapsWithSole [.Tuple es kk p] e pos.line X.env = pure false := by rfl) (hw : swappedStores [.Tuple es kk p] e X.env = pure none := by rfl) (h1 : (assignEach [.Tuple es kk p] X.env).map (·.2) = [assign (.Tuple es kk p) X.env] := by rfl) :
    DS X cl W pv (.Assign [.Tuple es kk p] e pos) (sStar n i me ts) := PS.imp (ps_asg he (pg_star hc h hi hn hst) hs hw h1) fun D σ H ⟨Hk, ρ, f, c, p, q⟩ => by
  refine ⟨Hk, ρ, f, c, (SQ.expr p RD.p q).mono fun v H1 ⟨d, Hk1, ρ1, f1, c1, _, _, hd, q1⟩ => ?_⟩
  split at q1
  · rename_i ds ed
    split at q1
    · rename_i hl
      obtain ⟨a, vs, rfl, hq, rr⟩ := seqD_ok c1.same ed hd.1
      refine ⟨a, vs, rfl, hq, by rw [← rr.length]; exact hl, fun D0 hD => ?_⟩
      cases z : ts (starD n i ds) ρ1 with
      | none => rw [z] at q1; exact q1.elim
      | some ρ2 =>
        rw [z] at q1
        have g := Grow.upd (o := .lst ((vs.drop i).take (vs.length + 1 - n))) c1.same hD
        have rm : RepDs X.K (upd Hk1 D0 (.lst ((vs.drop i).take (vs.length + 1 - n)))) ((ds.drop i).take (ds.length + 1 - n)) ((vs.drop i).take (vs.length + 1 - n)) := by
          rw [rr.length]; exact ((rr.drop i).take _).same g.kk
        refine ⟨_, ρ1, f1, starD n i ds, ρ2, c1.grow g, ?_, z, fun σ2 f2 c2 o2 s2 => SQ.from q1 (g.step (P := f1.all)) σ2 _ _ f2 c2 (p.off o2 his) (sub_step (K := X.K) s2)⟩
        exact (((rr.take i).same g.kk).app (.cons (d := .lst ((ds.drop i).take (ds.length + 1 - n))) (v := .ref D0) ⟨D0, _, rfl, upd_same, rm⟩ .nil)).app (by rw [rr.length]; exact ((rr.drop i).drop _).same g.kk)
    · exact q1.elim
  · exact q1.elim
end
end DL
set_option Elab.async false
set_option linter.all false
set_option maxRecDepth 100000
/-! EN: stores into lists, dicts, fields; places by keys. -/
namespace DL
open PySem L2 PySem.Spec PyProof.Rows RZ
section
variable {K : PySem.W.Frag} {cl : Wld} {Hk H Hk' H' : Hp}
theorem RepOs.put : ∀ {os : List O} {vs : List V} {g ga : Fp} {j : Nat} {x : O} {xv : V}, RepOs K cl Hk H os vs g → RepO K cl Hk H x xv ga → (g ++ ga).Nodup → j < os.length → ∃ g', RepOs K cl Hk H (os.set j x) (vs.set j xv) g' ∧ (∀ a ∈ g', a ∈ g ++ ga) ∧ g'.Nodup
  | [], _, _, _, _, _, _, _, _, _, h => by simp at h
  | o :: os, _, _, ga, 0, x, xv, r, rx, nd, _ => by
    obtain ⟨v, r1, f1, f2, rfl, rfl, h1, h2⟩ := r
    rw [List.append_assoc, List.nodup_append] at nd
    refine ⟨ga ++ f2, ⟨xv, r1, ga, f2, rfl, rfl, rx, h2⟩, fun a ha => ?_, (List.perm_append_comm.nodup_iff).mp nd.2.1⟩
    rcases List.mem_append.mp ha with ha | ha
    · simp [ha]
    · simp [ha]
  | o :: os, _, _, ga, j + 1, x, xv, r, rx, nd, hj => by
    obtain ⟨v, r1, f1, f2, rfl, rfl, h1, h2⟩ := r
    rw [List.append_assoc, List.nodup_append] at nd
    obtain ⟨g', q1, q2, q3⟩ := RepOs.put (j := j) h2 rx nd.2.1 (by simpa using hj)
    refine ⟨f1 ++ g', ⟨v, r1.set j xv, f1, g', rfl, rfl, h1, q1⟩, fun a ha => ?_, ?_⟩
    · rcases List.mem_append.mp ha with ha | ha
      · simp [ha]
      · rw [List.append_assoc]; exact List.mem_append_right _ (q2 a ha)
    · rw [List.nodup_append]
      exact ⟨nd.1, q3, fun a ha b hb e => nd.2.2 a ha b (q2 b hb) e⟩
theorem any_zip {κ : Type} [DecidableEq κ] {k : κ} : ∀ {ks : List κ} {vs : List V}, ks.length = vs.length → ((ks.zip vs).any fun kv => decide (kv.1 = k)) = (ixOf k ks).isSome
  | [], [], _ => rfl
  | a :: ks, v :: vs, h => by
    show (decide (a = k) || (ks.zip vs).any fun kv => decide (kv.1 = k)) = _
    rw [any_zip (ks := ks) (vs := vs) (by simpa using h)]
    show _ = (if a = k then some 0 else (ixOf k ks).map (· + 1)).isSome
    by_cases e : a = k
    · simp [e]
    · simp [e]
theorem ixOf_none {κ : Type} [DecidableEq κ] {k : κ} : ∀ {ks : List κ}, ixOf k ks = none → k ∉ ks
  | [], _, h => nomatch h
  | a :: ks, e, h => by
    unfold ixOf at e
    split at e
    · cases e
    · rename_i n
      rcases List.mem_cons.mp h with z | z
      · exact n z.symm
      · exact ixOf_none (Option.map_eq_none_iff.mp e) z
theorem ixOf_lt {κ : Type} [DecidableEq κ] {k : κ} : ∀ {ks : List κ} {j : Nat}, ixOf k ks = some j → j < ks.length
  | a :: ks, j, e => by
    unfold ixOf at e
    split at e
    · cases e; simp
    · obtain ⟨i, hi, rfl⟩ := Option.map_eq_some_iff.mp e
      have := ixOf_lt hi
      simp; omega
theorem map_off {κ : Type} [DecidableEq κ] {k : κ} {v : V} : ∀ {ks : List κ} {vs : List V}, k ∉ ks → (ks.zip vs).map (fun kv => if kv.1 = k then (kv.1, v) else kv) = ks.zip vs
  | [], _, _ => rfl
  | _ :: _, [], _ => rfl
  | a :: ks, u :: vs, h => by
    show (if a = k then (a, v) else (a, u)) :: (ks.zip vs).map _ = _
    rw [if_neg (fun e => h (by rw [e]; exact List.mem_cons_self)), map_off fun z => h (List.mem_cons_of_mem _ z)]
    rfl
theorem map_at {κ : Type} [DecidableEq κ] {k : κ} {v : V} : ∀ {ks : List κ} {vs : List V} {j : Nat}, ks.Nodup → ks.length = vs.length → ixOf k ks = some j → (ks.zip vs).map (fun kv => if kv.1 = k then (kv.1, v) else kv) = ks.zip (vs.set j v)
  | [], _, _, _, _, e => by cases e
  | a :: ks, u :: vs, j, nd, h, e => by
    obtain ⟨n1, n2⟩ := List.nodup_cons.mp nd
    unfold ixOf at e
    show (if a = k then (a, v) else (a, u)) :: (ks.zip vs).map _ = _
    split at e
    · rename_i q
      cases e
      rw [if_pos q, map_off (by rw [← q]; exact n1)]
      rfl
    · rename_i q
      obtain ⟨i, hi, rfl⟩ := Option.map_eq_some_iff.mp e
      rw [if_neg q, map_at n2 (by simpa using h) hi]
      rfl
theorem putK_zip {κ : Type} [DecidableEq κ] {k : κ} {v : V} {ks : List κ} {vs : List V} (nd : ks.Nodup) (h : ks.length = vs.length) : putK (ks.zip vs) k v = match ixOf k ks with
    | some j => ks.zip (vs.set j v)
    | none => (ks ++ [k]).zip (vs ++ [v]) := by
  unfold putK
  rw [any_zip h]
  cases e : ixOf k ks with
  | some j => rw [if_pos (show (some j).isSome = true from rfl)]; exact map_at nd h e
  | none =>
    rw [if_neg (by simp), List.zip_append h]
    rfl
theorem ixN_below {n j : Nat} {i : Int} (h : ixN n i = some j) : j < n := by
  obtain ⟨h1, h2, h3, h4⟩ := ixN_seq h
  omega
/-- o[d] = x -/
def setK : O → D → O → Option O
  | .ls xs, .int i, x => (ixN xs.length i).map fun j => .ls (xs.set j x)
  | .dk ks xs, d, x => match keyD d with
    | some k => if ks.length < 16777216 then some (match ixOf k ks with
      | some j => .dk ks (xs.set j x)
      | none => .dk (ks ++ [k]) (xs ++ [x])) else none
    | none => none
  | _, _, _ => none
def rSet : TSet := fun o i v H Q => rSetL o i v H Q ∨ rSetD o i v H Q
theorem loc_set {o : O} {v : V} {f1 : Fp} {d : D} {iv : V} {x : O} {xv : V} {ga : Fp} {o' : O} {Q : Hp → Prop} (r : RepO K cl Hk H o v f1) (rd : RepD K Hk d iv) (rx : RepO K cl Hk H x xv ga) (nd : (f1 ++ ga).Nodup) (e : setK o d x = some o')
    (k : ∀ (H' : Hp) (f1' : Fp), (∀ a u, a ∉ f1 → H a = some u → H' a = some u) → RepO K cl Hk H' o' v f1' → (∀ a ∈ f1', a ∈ f1 ++ ga) → f1'.Nodup → Q H') : rSet v iv xv H Q := by
  cases o with
  | ls xs =>
   cases d with
   | int i =>
    have e : ((ixN xs.length i).map fun j => O.ls (xs.set j x)) = some o' := e
    obtain ⟨j, hj, e⟩ := Option.map_eq_some_iff.mp e
    cases e
    obtain ⟨p, vs, g, rfl, hp, r0, rfl⟩ := r
    obtain rfl : iv = .int i := rd
    rw [List.cons_append, List.nodup_cons] at nd
    have n1 : p ∉ g := fun z => nd.1 (List.mem_append_left _ z)
    have n2 : p ∉ ga := fun z => nd.1 (List.mem_append_right _ z)
    have hlt : j < xs.length := ixN_below hj
    obtain ⟨g', q1, q2, q3⟩ := (r0.keep (H' := upd H p (.lst (vs.set j xv))) (.refl _) _ _ _ (upd_keep n1)).put (rx.keep (.refl _) _ _ _ (upd_keep n2)) nd.2 hlt
    refine .inl ⟨p, vs, i, j, rfl, rfl, hp, by rw [← r0.length]; exact hj, k _ (p :: g') (fun a u n e => ?_) ⟨p, vs.set j xv, g', rfl, upd_same, q1, rfl⟩ (fun a ha => ?_) (List.nodup_cons.mpr ⟨fun z => ?_, q3⟩)⟩
    · rw [upd_ne (fun z => n (by rw [z]; exact List.mem_cons_self))]; exact e
    · rcases List.mem_cons.mp ha with z | z
      · rw [z]; simp
      · exact List.mem_cons_of_mem _ (q2 a z)
    · exact nd.1 (q2 p z)
   | _ => cases e
  | dk ks xs =>
    have e : (match keyD d with
      | some k => if ks.length < 16777216 then some (match ixOf k ks with
        | some j => O.dk ks (xs.set j x)
        | none => O.dk (ks ++ [k]) (xs ++ [x])) else none
      | none => none) = some o' := e
    split at e
    · rename_i kk ek
      split at e
      · rename_i hl
        cases e
        obtain ⟨p, vs, g, rfl, hp, l, r0, rfl⟩ := r
        have ei := keyD_v rd ek
        subst ei
        rw [List.cons_append, List.nodup_cons] at nd
        have n1 : p ∉ g := fun z => nd.1 (List.mem_append_left _ z)
        have n2 : p ∉ ga := fun z => nd.1 (List.mem_append_right _ z)
        have hz : (ks.zip vs).length < sizeLine := line16' (by rw [List.length_zip, ← l.1, Nat.min_self]; exact hl)
        refine .inr ⟨p, _, rfl, DPut.k hp hz, ?_⟩
        rw [putK_zip l.2 l.1]
        cases ex : ixOf kk ks with
        | some j =>
          have hlt : j < xs.length := by rw [r0.length, ← l.1]; exact ixOf_lt ex
          obtain ⟨g', q1, q2, q3⟩ := (r0.keep (H' := upd H p (.dK (ks.zip (vs.set j xv)))) (.refl _) _ _ _ (upd_keep n1)).put (rx.keep (.refl _) _ _ _ (upd_keep n2)) nd.2 hlt
          refine k _ (p :: g') (fun a u n e => ?_) (by rw [ex]; exact ⟨p, vs.set j xv, g', rfl, upd_same, ⟨by simpa using l.1, l.2⟩, q1, rfl⟩) (fun a ha => ?_) (List.nodup_cons.mpr ⟨fun z => nd.1 (q2 p z), q3⟩)
          · rw [upd_ne (fun z => n (by rw [z]; exact List.mem_cons_self))]; exact e
          · rcases List.mem_cons.mp ha with z | z
            · rw [z]; simp
            · exact List.mem_cons_of_mem _ (q2 a z)
        | none =>
          have ndk : (ks ++ [kk]).Nodup := by
            rw [List.nodup_append]
            exact ⟨l.2, by simp, fun a ha b hb eab => by
              have eb : b = kk := by simpa using hb
              rw [eab, eb] at ha
              exact ixOf_none ex ha⟩
          refine k _ (p :: (g ++ ga)) (fun a u n e => ?_) (by rw [ex]; exact ⟨p, vs ++ [xv], g ++ ga, rfl, upd_same, ⟨by simp [l.1], ndk⟩, (r0.keep (.refl _) _ _ _ (upd_keep n1)).snoc (rx.keep (.refl _) _ _ _ (upd_keep n2)), rfl⟩) (fun a ha => ha) (List.nodup_cons.mpr nd)
          rw [upd_ne (fun z => n (by rw [z]; exact List.mem_cons_self))]; exact e
      · cases e
    · cases e
  | _ => cases e
/-- o.x = c -/
def setF (x : Str) (o' : O) : O → Option O
  | .ins C ns xs => if ns.length < 999 then some (match ixOf x ns with
    | some j => .ins C ns (xs.set j o')
    | none => .ins C (ns ++ [x]) (xs ++ [o'])) else none
  | _ => none
theorem putF_zip {x : Str} {v : V} : ∀ {ns : List Str} {vs : List V}, ns.length = vs.length → putF x v (ns.zip vs) = match ixOf x ns with
    | some j => ns.zip (vs.set j v)
    | none => (ns ++ [x]).zip (vs ++ [v])
  | [], [], _ => rfl
  | a :: ns, u :: vs, h => by
    show putF x v ((a, u) :: ns.zip vs) = _
    unfold putF ixOf
    by_cases e : a = x
    · rw [if_pos e, if_pos e] <;> rfl
    · rw [if_neg e, if_neg e, putF_zip (ns := ns) (vs := vs) (by simpa using h)]
      cases ixOf x ns <;> rfl
theorem loc_setF {C : Str} {ns : List Str} {xs : List O} {v : V} {f1 : Fp} {x : Str} {c : O} {cv : V} {ga : Fp} {o' : O} {Q : Hp → Prop} (r : RepO K cl Hk H (.ins C ns xs) v f1) (rx : RepO K cl Hk H c cv ga) (nd : (f1 ++ ga).Nodup) (e : setF x c (.ins C ns xs) = some o')
    (k : ∀ (H' : Hp) (f1' : Fp), (∀ a u, a ∉ f1 → H a = some u → H' a = some u) → RepO K cl Hk H' o' v f1' → (∀ a ∈ f1', a ∈ f1 ++ ga) → f1'.Nodup → Q H') :
    ∃ a dx fs, v = .ref a ∧ H a = some (.ins (cl C) dx fs) ∧ fs.length < 1000 ∧ Q (upd H a (.ins (cl C) dx (putF x cv fs))) := by
  have e : (if ns.length < 999 then some (match ixOf x ns with
    | some j => O.ins C ns (xs.set j c)
    | none => O.ins C (ns ++ [x]) (xs ++ [c])) else none) = some o' := e
  · split at e
    · rename_i hl
      cases e
      obtain ⟨p, dx, vs, g, rfl, hp, hd, l, r0, rfl⟩ := r
      rw [List.cons_append, List.cons_append, List.nodup_cons, List.nodup_cons] at nd
      have n0 : dx ≠ p := fun z => nd.1 (by rw [z]; exact List.mem_cons_self)
      have n1 : p ∉ g := fun z => nd.1 (List.mem_cons_of_mem _ (List.mem_append_left _ z))
      have n2 : p ∉ ga := fun z => nd.1 (List.mem_cons_of_mem _ (List.mem_append_right _ z))
      refine ⟨p, dx, _, rfl, hp, by rw [List.length_zip, ← l, Nat.min_self]; omega, ?_⟩
      rw [putF_zip l]
      have fr : ∀ (u0 : HO) a u, a ∉ p :: dx :: g → H a = some u → upd H p u0 a = some u := fun u0 a u n e => by
        rw [upd_ne (fun z => n (by rw [z]; exact List.mem_cons_self))]; exact e
      have hd' : ∀ u0 : HO, upd H p u0 dx = some (.own p) := fun u0 => by rw [upd_ne n0]; exact hd
      cases ex : ixOf x ns with
      | some j =>
        have hlt : j < xs.length := by rw [r0.length, ← l]; exact ixOf_lt ex
        obtain ⟨g', q1, q2, q3⟩ := (r0.keep (H' := upd H p (.ins (cl C) dx (ns.zip (vs.set j cv)))) (.refl _) _ _ _ (upd_keep n1)).put (rx.keep (.refl _) _ _ _ (upd_keep n2)) nd.2.2 hlt
        refine k _ (p :: dx :: g') (fr _) (by rw [ex]; exact ⟨p, dx, vs.set j cv, g', rfl, upd_same, hd' _, by simpa using l, q1, rfl⟩) (fun a ha => ?_) (List.nodup_cons.mpr ⟨fun z => ?_, List.nodup_cons.mpr ⟨fun z => nd.2.1 (q2 dx z), q3⟩⟩)
        · rcases List.mem_cons.mp ha with z | z
          · rw [z]; simp
          · rcases List.mem_cons.mp z with z | z
            · rw [z]; simp
            · exact List.mem_cons_of_mem _ (List.mem_cons_of_mem _ (q2 a z))
        · rcases List.mem_cons.mp z with z | z
          · exact n0 z.symm
          · exact nd.1 (List.mem_cons_of_mem _ (q2 p z))
      | none =>
        exact k _ (p :: dx :: (g ++ ga)) (fr _) (by rw [ex]; exact ⟨p, dx, vs ++ [cv], g ++ ga, rfl, upd_same, hd' _, by simp [l], (r0.keep (.refl _) _ _ _ (upd_keep n1)).snoc (rx.keep (.refl _) _ _ _ (upd_keep n2)), rfl⟩) (fun a ha => ha)
          (List.nodup_cons.mpr ⟨nd.1, List.nodup_cons.mpr nd.2⟩)
    · cases e
/-- .. of an instance of C -/
def setFC (C x : Str) (c : O) : O → Option O
  | .ins C' ns xs => if C' = C then setF x c (.ins C' ns xs) else none
  | _ => none
theorem setFC_ok {C x : Str} {c o o' : O} (h : setFC C x c o = some o') : ∃ ns xs, o = .ins C ns xs ∧ setF x c (.ins C ns xs) = some o' := by
  unfold setFC at h
  split at h
  · split at h
    · rename_i e
      subst e
      exact ⟨_, _, rfl, h⟩
    · cases h
  · cases h
end
section
variable {K : PySem.W.Frag} {cl : Wld} {W : WX} {Hk H : Hp} {ρ : Env} {σ : St} {f : Fs}
/-- a thing at a place gives way to another -/
theorem Cfg.write {pl : Pl} {o o' : O} {w : V} {ga : Fp} (c : Cfg K cl Hk H ρ σ f) (h : nodeAt ρ pl = some o) (a : ∃ v0, σ[pl.1]? = some (some v0) ∧ atV H pl.2 v0 w) (ap : Apart Hk H ga f) : ∃ f1, RepO K cl Hk H o w f1 ∧ (f1 ++ ga).Nodup ∧
    ∀ (H' : Hp) (f1' : Fp), (∀ a u, a ∉ f1 → H a = some u → H' a = some u) → RepO K cl Hk H' o' w f1' → (∀ a ∈ f1', a ∈ f1 ++ ga) → f1'.Nodup → ∃ f', Cfg K cl Hk H' (putAt ρ pl o') σ f' ∧ Step Hk H (fun x => x ∈ ga ∨ f.all x) Hk H' f'.all := by
  obtain ⟨f1, r1, nd1, sub, bk⟩ := c.at h a
  have sep : ∀ x ∈ ga, ¬ f.all x := fun x hx => (ap.off x hx).2.2
  refine ⟨f1, r1, ?_, fun H' f1' fr r2 sb nd' => ?_⟩
  · rw [List.nodup_append]
    exact ⟨nd1, ap.nd, fun x hx y hy e => sep y hy (sub y (e ▸ hx))⟩
  · have offA : ∀ x ∈ f1 ++ ga, Hk x = none := fun x hx => by
      rcases List.mem_append.mp hx with h | h
      · obtain ⟨i, hi⟩ := sub x h
        exact (c.off i x hi).1
      · exact (ap.off x h).1
    have s' : Same Hk H' := fun x u e => fr x u (fun z => by have := offA x (List.mem_append_left _ z); rw [e] at this; cases this) (c.same x u e)
    have gd : Good Hk H' ([] ++ f1') := ⟨s', nd', fun x hx => ⟨offA x (sb x hx), by
      obtain ⟨u, e⟩ := r2.there _ _ _ x hx
      rw [e]; (intro z; cases z)⟩⟩
    obtain ⟨f', c', ap', st'⟩ := bk Hk H' o' [] ga f1' sep r2 gd ⟨.refl _, fun x u n e => fr x u (fun z => n (.inl z)) e, fun x h => .inl h, fun x h => .inr (List.mem_append.mp (sb x h))⟩
    exact ⟨f', c', Apart.step_nil' st'⟩
end
section
variable {X : Cx} {cl : Wld} {W : WX} {pv : List V} {r ra rb : Bool} {e o i : Expr} {es : List Expr} {pos apos tpos p : Pos}
theorem set_any (hu : X.A.units + 1 < cLine) : PSet X rSet := fun pins s σ H o i v ov iv u Q I ro ri rv h => h.elim (set_list pins s σ H o i v ov iv u Q I ro ri rv) (set_dict hu pins s σ H o i v ov iv u Q I ro ri rv)
def sPut (pl : Pl) (f : O → Option O) : MS := fun ρ => match nodeAt ρ pl with
  | some o => (match f o with
    | some o' => .nx (putAt ρ pl o')
    | none => .bad)
  | none => .bad
def sSto (mp : M Pl) (mi : M D) (me : M O) : MS := fun ρ => bindS (me ρ) fun x ρ1 => bindS (mp ρ1) fun pl ρ2 => bindS (mi ρ2) fun d ρ3 => sPut pl (fun o => setK o d x) ρ3
theorem SQ.pure {K : PySem.W.Frag} {Hk0 H0 Hk H : Hp} {ρ : Env} {σ : St} {f0 f : Fs} {α β : Type} {R : Rl α β} {res : Res α} {k : α → Env → SRes} {Dn : Ends} {ga : Fp} (p : Pin pv σ) (c : Cfg K cl Hk H ρ σ f) (ap : Apart Hk H ga f) (st : Step Hk0 H0 f0.all Hk H (fun x => x ∈ ga ∨ f.all x))
    (hp : ∀ Hk H a b g, R Hk H a b g → g = []) (h : SQ K cl W pv Hk0 H0 f0 (bindS res k) Dn) :
    EQ K cl W R true σ Hk H ρ f res fun b H1 => ∃ a Hk1, Cfg K cl Hk1 H1 ρ σ f ∧ Apart Hk1 H1 ga f ∧ Step Hk0 H0 f0.all Hk1 H1 (fun x => x ∈ ga ∨ f.all x) ∧ Same Hk Hk1 ∧ Same H H1 ∧ R Hk1 H1 a b [] ∧ SQ K cl W pv Hk0 H0 f0 (k a ρ) Dn := by
  cases res with
  | bad => exact h
  | exc x ρ' => exact fun cls dd Hk' H' f' c' s e => h cls dd σ Hk' H' f' c' p ((st.trans ((Step.frame (fun x => x ∈ ga) s).weak (fun x h => h.elim (fun z => Or.inr z) (fun z => Or.inl z)) (fun x h => Or.inl h)))) e
  | ok a ρ' =>
    intro b g Hk' H' f' c' ap' s hr x
    have e := hp _ _ _ _ _ x
    subst e
    obtain ⟨rfl, rfl, sm⟩ := hr rfl
    have s1 : Step Hk H f'.all Hk' H' f'.all := Apart.step_nil' s
    exact ⟨a, Hk', c', ap.after s1 sm, st.trans ((Step.frame (fun x => x ∈ ga) s1).weak (fun x h => h.elim (fun z => Or.inr z) (fun z => Or.inl z)) (fun x h => h.elim (fun z => Or.inr z) (fun z => Or.inl z))), s1.kk, sm, x, h⟩
theorem ds_sto {me : M O} {mp : M Pl} {mi : M D} (hu : X.A.units + 1 < cLine) (he : DO X cl W r e me) (hp : DPl X cl W true o mp) (hi : DE X cl W true i mi)
    (hs : swapsWithSole [.Subscript o i tpos] e pos.line X.env = pure false := by rfl) (hw : swappedStores [.Subscript o i tpos] e X.env = pure none := by rfl) (h1 : (assignEach [.Subscript o i tpos] X.env).map (·.2) = [assign (.Subscript o i tpos) X.env] := by rfl)
    (ha : ∀ v, assign (.Subscript o i tpos) X.env v = (do
      let ov ← holding [v] (eval o X.env); let iv ← holding [v, ov] (eval i X.env)
      standAt tpos; holding [v, ov, iv] (setItem ov iv v)
      release [v, ov, iv] []) := by intro _; rfl) : DS X cl W pv (.Assign [.Subscript o i tpos] e pos) (sSto mp mi me) := PS.imp (ps_asg he (pg_sub hp hi (set_any hu) ha) hs hw h1) fun D σ H ⟨Hk, ρ, f, c, p, q⟩ => by
  refine ⟨Hk, ρ, f, c, (SQ.own p q).mono fun v H1 ⟨x, ga, Hk1, ρ1, f1, c1, ap, st, _, hx, q1⟩ => ⟨Hk1, ρ1, f1, c1, (SQ.pure p c1 ap st RPl.p q1).mono fun w H2 ⟨pl, Hk2, c2, ap2, st2, k2, h2, hpl, q2⟩ => ⟨Hk2, ρ1, f1, c2, (SQ.pure p c2 ap2 st2 RD.p q2).mono fun iv H3 ⟨d, Hk3, c3, ap3, st3, k3, h3, hd, q3⟩ => ?_⟩⟩⟩
  unfold sPut at q3
  split at q3
  · rename_i o en
    split at q3
    · rename_i o' es
      obtain ⟨f', r1, nd, bk⟩ := c3.write (o' := o') en (RPl.after hpl h3) ap3
      have rx : RepO X.K cl Hk3 H3 x v ga := hx.keep (k2.trans k3) _ _ _ fun a ha u q => h3 a u (h2 a u q)
      exact loc_set r1 hd.1 rx nd es fun H' f1' a1 a2 a3 a4 => by
        obtain ⟨f4, c4, s4⟩ := bk H' f1' a1 a2 a3 a4
        exact q3 σ Hk3 H' f4 c4 p (st3.trans s4)
    · exact q3.elim
  · exact q3.elim
/-- o.x = e -/
def sFst (C x : Str) (mp : M Pl) (me : M O) : MS := fun ρ => bindS (me ρ) fun c ρ1 => bindS (mp ρ1) fun pl ρ2 => sPut pl (setFC C x c) ρ2
theorem ds_fst {C x : Str} {me : M O} {mp : M Pl} (hC : Cls X.K (cl C)) (hx : NoAttr X.K (cl C) x) (he : DO X cl W r e me) (hp : DPl X cl W true o mp) (hs : swapsWith e (some (.Attribute o x tpos)) pos.line X.env = pure false := by rfl) :
    DS X cl W pv (.Assign [.Attribute o x tpos] e pos) (sFst C x mp me) := PS.imp (ps_fld hp he hs) fun D σ H ⟨Hk, ρ, f, c, p, q⟩ => by
  refine ⟨Hk, ρ, f, c, (SQ.own p q).mono fun v H1 ⟨z, ga, Hk1, ρ1, f1, c1, ap, st, _, hz, q1⟩ => ⟨Hk1, ρ1, f1, c1, (SQ.pure p c1 ap st RPl.p q1).mono fun w H2 ⟨pl, Hk2, c2, ap2, st2, k2, h2, hpl, q2⟩ => ?_⟩⟩
  unfold sPut at q2
  split at q2
  · rename_i o en
    split at q2
    · rename_i o' es
      obtain ⟨ns, xs, rfl, es2⟩ := setFC_ok es
      obtain ⟨f', r1, nd, bk⟩ := c2.write (o' := o') en hpl.1 ap2
      obtain ⟨a, dx, fs, b1, b2, b3, b4⟩ := loc_setF r1 (hz.keep k2 _ _ _ fun a ha u q => h2 a u q) nd es2 (Q := fun H' => D.nx σ H') fun H' f1' a1 a2 a3 a4 => by
        obtain ⟨f4, c4, s4⟩ := bk H' f1' a1 a2 a3 a4
        exact q2 σ Hk2 H' f4 c4 p (st2.trans s4)
      exact ⟨a, _, dx, fs, b1, b2, hC, hx, b3, b4⟩
    · exact q2.elim
  · exact q2.elim
/-- o.x += e, of ints -/
def fldI (C x : Str) : O → Option Int
  | .ins C' ns xs => if C' = C then (match kidAt (.fld x) (.ins C' ns xs) with
    | some (_, .d (.int a)) => some a
    | _ => none) else none
  | _ => none
theorem fldI_ok {K : PySem.W.Frag} {Hk H : Hp} {C x : Str} {o : O} {a : Int} {v : V} {f1 : Fp} (h : fldI C x o = some a) (r : RepO K cl Hk H o v f1) : ∃ ns xs p dx fs, o = .ins C ns xs ∧ v = .ref p ∧ H p = some (.ins (cl C) dx fs) ∧ fs.lookup x = some (.int a) := by
  unfold fldI at h
  split at h
  · rename_i C' ns xs
    split at h
    · rename_i eC
      subst eC
      split at h
      · rename_i j a' ek
        cases h
        obtain ⟨p, dx, fs, u, rfl, e1, l, kv⟩ := kid_fld r ek
        obtain ⟨u', g1, rest, kv2, r2, _, _⟩ := r.kid ek
        cases kidV_one kv kv2
        obtain rfl : u = .int a := r2.1
        exact ⟨ns, xs, p, dx, fs, rfl, rfl, e1, l⟩
      · cases h
    · cases h
  · cases h
def sFau (g : Int → Int → Int) (C x : Str) (mp : M Pl) (me : M D) : MS := fun ρ => bindS (mp ρ) fun pl ρ1 => match (nodeAt ρ1 pl).bind (fldI C x) with
  | some a => bindS (me ρ1) fun d ρ2 => (match d with
    | .int b => sPut pl (setFC C x (.d (.int (g a b)))) ρ2
    | _ => .bad)
  | none => .bad
def rInt (g : Int → Int → Int) : V → V → Hp → VK → Prop := fun x y H Q => ∃ i j, x = .int i ∧ y = .int j ∧ Q (.int (g i j)) H
theorem ds_fau {C x : Str} {op : Operator} {g : Int → Int → Int} {mp : M Pl} {me : M D} (ho : InOp X op (rInt g)) (hC : Cls X.K (cl C)) (hx : NoAttr X.K (cl C) x) (hp : DPl X cl W true o mp) (he : DE X cl W true e me) :
    DS X cl W pv (.AugAssign (.Attribute o x tpos) op e pos) (sFau g C x mp me) := PS.imp (ps_fldaug hp he ho) fun D σ H ⟨Hk, ρ, f, c, p, q⟩ => by
  refine ⟨Hk, ρ, f, c, (SQ.pure p c .nil (Apart.step_nil .refl) RPl.p q).mono fun w H1 ⟨pl, Hk1, c1, ap1, st1, k1, h1, hpl, q1⟩ => ?_⟩
  split at q1
  · rename_i a ea
    cases eo : nodeAt ρ pl with
    | none => rw [eo] at ea; cases ea
    | some o1 =>
      rw [eo] at ea
      obtain ⟨f1, r1, _, _, _⟩ := c1.at eo hpl.1
      obtain ⟨ns, xs, b, dx, fs, rfl, rfl, hb, hl⟩ := fldI_ok ea r1
      refine ⟨b, cl C, dx, fs, .int a, rfl, hb, hC, hx, hl, Hk1, ρ, f, c1, (SQ.pure p c1 ap1 st1 RD.p q1).mono fun y H2 ⟨d, Hk2, c2, ap2, st2, k2, h2, hd, q2⟩ => ?_⟩
      split at q2
      · rename_i bb
        obtain rfl : y = .int bb := hd.1
        refine ⟨a, bb, rfl, rfl, ?_⟩
        unfold sPut at q2
        rw [eo] at q2
        have q2 : SQ X.K cl W pv Hk H f (match setFC C x (.d (.int (g a bb))) (.ins C ns xs) with
          | some o' => .nx (putAt ρ pl o')
          | none => .bad) D := q2
        split at q2
        · rename_i o' es
          obtain ⟨ns', xs', e3, es2⟩ := setFC_ok es
          cases e3
          obtain ⟨f', r1', nd, bk⟩ := c2.write (o' := o') eo (RPl.after (Hk := Hk1) (g := []) ⟨hpl.1, rfl⟩ h2) ap2
          obtain ⟨a', dx2, fs2, b1, b2, b3, b4⟩ := loc_setF (c := .d (.int (g a bb))) (cv := .int (g a bb)) (ga := []) r1' ⟨rfl, rfl⟩ nd es2 (Q := fun H' => D.nx σ H') fun H' f1' a1 a2 a3 a4 => by
            obtain ⟨f4, c4, s4⟩ := bk H' f1' a1 a2 a3 a4
            exact q2 σ Hk2 H' f4 c4 p (st2.trans s4)
          cases b1
          exact ⟨dx2, fs2, b2, b3, b4⟩
        · exact q2.elim
      · exact q2.elim
  · exact q1.elim
end
end DL
set_option Elab.async false
set_option linter.all false
set_option maxRecDepth 100000
/-! EO: comprehensions that make dicts. -/
namespace DL
open PySem L2 PySem.Spec PyProof.Rows RZ
def putKO (ks : List Key) (os : List O) (k : Key) (o : O) : List Key × List O := match ixOf k ks with
  | some j => (ks, os.set j o)
  | none => (ks ++ [k], os ++ [o])
def dcR (own : List Nat) (t : D → Env → Option Env) (mc : M Bool) (mk : M D) (mv : M O) (ρ : Env) : List D → List Key → List O → Option (List Key × List O)
  | [], ks, os => some (ks, os)
  | x :: xs, ks, os => match t x (wipeE ρ own) with
    | none => none
    | some ρ1 => match mc ρ1 with
      | .ok true ρ2 => (match mk ρ2 with
        | .ok y ρ3 => (match keyD y with
          | some k => (match mv ρ3 with
            | .ok o _ => dcR own t mc mk mv ρ xs (putKO ks os k o).1 (putKO ks os k o).2
            | _ => none)
          | none => none)
        | _ => none)
      | .ok false _ => dcR own t mc mk mv ρ xs ks os
      | _ => none
def endDR (own : List Nat) (t : D → Env → Option Env) (mc : M Bool) (mk : M D) (mv : M O) (xs : List D) : M O := fun ρ1 => if xs.length < 16777216 then match dcR own t mc mk mv ρ1 xs [] [] with
  | some (ks, os) => .ok (.dk ks os) ρ1
  | none => .bad else .bad
def mDcR (own : List Nat) (mi : M (List D)) (t : D → Env → Option Env) (mc : M Bool) (mk : M D) (mv : M O) : M O := fun ρ => (mi ρ).bind fun xs ρ1 => endDR own t mc mk mv xs ρ1
section
variable {K : PySem.W.Frag} {cl : Wld} {Hk H Hk' H' : Hp} {ρ : Env} {σ : St} {f : Fs}
/-- an evaluation that only grows -/
theorem grown {Hka Ha Hkb Hb : Hp} {fa : Fs} {ρx : Env} {g : Fp} (ca : Cfg K cl Hka Ha ρx σ fa) (cb : Cfg K cl Hkb Hb ρx σ fa) (s : Step Hka Ha fa.all Hkb Hb (fun x => x ∈ g ∨ fa.all x)) (sh : Same Ha Hb) : Grow Hka Ha Hkb Hb := ⟨s.kk, sh, cb.same, fun a h => by
  rcases s.nw a h with z | z | ⟨j, z⟩
  · exact .inl z
  · exact .inr z
  · exact absurd (cb.off j a z).1 h⟩
theorem Grow.off {Hk1 H1 : Hp} {a : Addr} (g : Grow Hk H Hk1 H1) (h : H a ≠ none) (k : Hk a = none) : Hk1 a = none := by
  cases w : Hk1 a with
  | none => rfl
  | some u =>
    rcases g.nw a (by rw [w]; intro z; cases z) with z | z
    · exact absurd k z
    · exact absurd z h
theorem dcR_read {own : List Nat} {t : D → Env → Option Env} {mc : M Bool} {mk : M D} {mv : M O} {W W0 : WX} {pure : Bool} {Hk1 H1 : Hp} {ρ1 : Env} {f1 : Fs} {J : It} {xs : List D} {Q : VK}
    (c1 : Cfg K cl Hk1 H1 ρ1 σ f1) (hJ : ItD K Hk1 (bif pure then Hk1 else H1) J xs) (q : EQ K cl W (RO K cl) true σ Hk1 H1 ρ1 f1 (endDR own t mc mk mv xs ρ1) Q) (D0 : Addr) (n0 : H1 D0 = none) :
    ∃ Wv : Nat → Nat → Hp → Prop, (∃ m, Wv 0 m (upd H1 D0 (.dK []))) ∧ ∀ i m H, Wv i m H → (J.stop i H ∧ Q (.ref D0) H) ∨ (J.go i H ∧ ∃ Nx : Hp → Prop, (∀ H', Nx H' → ∃ m', m' < m ∧ Wv (i + 1) m' H') ∧ ∀ x H', J.yld i H x H' →
      tG K cl t own x (L2.wipe σ own) H' fun σ2 H2 => L2.wipe σ2 own = L2.wipe σ own ∧ tR K cl W0 RT true mc σ2 H2 fun b H3 => if b = true then tR K cl W0 (RD K) true mk σ2 H3 fun y H4 => tR K cl W0 (RO K cl) true mv σ2 H4 fun z H5 =>
        ∃ kvs k, y = kV k ∧ H5 D0 = some (.dK kvs) ∧ kvs.length < sizeLine ∧ Nx (upd H5 D0 (.dK (putK kvs k z))) else Nx H3) := by
  unfold endDR at q
  split at q
  · rename_i hlen
    cases z : dcR own t mc mk mv ρ1 xs [] [] with
    | none => rw [z] at q; exact q.elim
    | some fin =>
      obtain ⟨ksF, osF⟩ := fin
      rw [z] at q
      have q : EQ K cl W (RO K cl) true σ Hk1 H1 ρ1 f1 (.ok (.dk ksF osF) ρ1) Q := q
      let St' : Nat → Hp → Prop := fun i H => ∃ Hk ks os vs G, Same Hk1 Hk ∧ Same H1 H ∧ Same Hk H ∧ (∀ a, Hk a ≠ none → Hk1 a ≠ none ∨ H1 a = none) ∧ H D0 = some (.dK (ks.zip vs)) ∧ Hk D0 = none ∧ ks.length = vs.length ∧ ks.Nodup ∧ ks.length ≤ i ∧
        RepOs K cl Hk H os vs G ∧ (D0 :: G).Nodup ∧ (∀ a ∈ G, Hk a = none ∧ H1 a = none) ∧ dcR own t mc mk mv ρ1 (xs.drop i) ks os = some (ksF, osF)
      have hs1 : Same H1 (upd H1 D0 (.dK [])) := same_upd n0
      have sB0 : Same (bif pure then Hk1 else H1) H1 := by cases pure <;> first | exact c1.same | exact .refl _
      refine ⟨fun i m H => m = xs.length - i ∧ i ≤ xs.length ∧ St' i H, ⟨xs.length, by simp, Nat.zero_le _, Hk1, [], [], [], [], .refl _, hs1, c1.same.trans hs1, fun _ h => .inl h, upd_same, none_of_same c1.same n0, rfl, List.nodup_nil, Nat.le_refl _, ⟨rfl, rfl⟩, by simp, (fun _ h => nomatch h), by simpa using z⟩, ?_⟩
      rintro i m H ⟨rfl, hi, Hk, ks, os, vs, G, k1, k2, k3, k4, hD, hkD, l1, nk, l2, rr, ndG, fG, hz⟩
      have sB : Same (bif pure then Hk1 else H1) H := sB0.trans k2
      have c : Cfg K cl Hk H ρ1 σ f1 := c1.grow ⟨k1, k2, k3, k4⟩
      by_cases hlt : i < xs.length
      · obtain ⟨x0, hx0⟩ := get_lt hlt
        have hdrop : xs.drop i = x0 :: xs.drop (i + 1) := by
          rw [List.drop_eq_getElem_cons hlt]
          rw [List.getElem?_eq_getElem hlt] at hx0
          cases hx0; rfl
        refine .inr ⟨hJ.go H i sB hlt, St' (i + 1), fun H' p' => ⟨xs.length - (i + 1), by omega, rfl, hlt, p'⟩, fun x H' y => ?_⟩
        obtain ⟨d, Hk', hd, gr, rd⟩ := hJ.yld Hk H i x H' hlt k1 k3 sB y
        rw [hx0] at hd; cases hd
        rw [hdrop] at hz
        unfold dcR at hz
        have there : ∀ {a : Addr} {Hx : Hp}, Same H Hx → a ∈ G → H a ≠ none := fun {a Hx} _ ha => by
          obtain ⟨u, e⟩ := rr.there _ _ _ a ha
          rw [e]; (intro z; cases z)
        split at hz
        · cases hz
        · rename_i ρa ea
          have gr1 : Grow Hk1 H1 Hk' H' := Grow.trans ⟨k1, k2, k3, k4⟩ gr
          have c' := (c1.grow gr1).wipe own
          refine ⟨Hk', wipeE ρ1 own, f1, x0, ρa, c', rd, ea, fun σ2 f2 c2 off sub => ?_⟩
          have hw : L2.wipe σ2 own = L2.wipe σ own := (wipe_eq off).trans (wipe_eq wipe_off_of)
          refine ⟨hw, Hk', ρa, f2, c2, ?_⟩
          cases zc : mc ρa with
          | bad => rw [zc] at hz; cases hz
          | exc _ _ => rw [zc] at hz; cases hz
          | ok b ρb =>
            rw [zc] at hz
            intro b' gp Hk3 H3 f3 c3 _ s3' ro3 eb
            obtain ⟨rfl, rfl⟩ := eb
            obtain ⟨e1, e2, sh3⟩ := ro3 rfl
            subst e1
            subst e2
            have g3 : Grow Hk' H' Hk3 H3 := grown c2 c3 s3' sh3
            have gg3 : Grow Hk H Hk3 H3 := gr.trans g3
            have gr3 := gr1.trans g3
            cases b with
            | false =>
              refine iteF ?_
              exact ⟨Hk3, ks, os, vs, G, gr3.kk, gr3.hh, gr3.same, gr3.nw, gg3.hh _ _ hD, gg3.off (by rw [hD]; intro z; cases z) hkD, l1, nk, by omega, rr.keep gg3.kk _ _ _ fun a _ u e => gg3.hh a u e, ndG, fun a ha => ⟨gg3.off (there (.refl _) ha) (fG a ha).1, (fG a ha).2⟩, hz⟩
            | true =>
              refine iteT ⟨Hk3, ρb, f3, c3, ?_⟩
              have hz2 : (match mk ρb with
                | .ok y ρ3 => (match keyD y with
                  | some k => (match mv ρ3 with
                    | .ok o _ => dcR own t mc mk mv ρ1 (xs.drop (i + 1)) (putKO ks os k o).1 (putKO ks os k o).2
                    | _ => none)
                  | none => none)
                | _ => none) = some (ksF, osF) := hz
              clear hz
              cases zk : mk ρb with
              | bad => rw [zk] at hz2; cases hz2
              | exc _ _ => rw [zk] at hz2; cases hz2
              | ok y0 ρc =>
                rw [zk] at hz2
                have hz2 : (match keyD y0 with
                  | some k => (match mv ρc with
                    | .ok o _ => dcR own t mc mk mv ρ1 (xs.drop (i + 1)) (putKO ks os k o).1 (putKO ks os k o).2
                    | _ => none)
                  | none => none) = some (ksF, osF) := hz2
                intro yv gy Hk4 H4 f4 c4 _ s4' ro4 ry
                obtain ⟨ry, rfl⟩ := ry
                obtain ⟨e1, e2, sh4⟩ := ro4 rfl
                subst e1
                subst e2
                have g4 : Grow Hk3 H3 Hk4 H4 := grown c3 c4 s4' sh4
                have gg4 := gg3.trans g4
                have gr4 := gr3.trans g4
                cases ek : keyD y0 with
                | none => rw [ek] at hz2; cases hz2
                | some k =>
                  rw [ek] at hz2
                  have hz2 : (match mv ρc with
                    | .ok o _ => dcR own t mc mk mv ρ1 (xs.drop (i + 1)) (putKO ks os k o).1 (putKO ks os k o).2
                    | _ => none) = some (ksF, osF) := hz2
                  refine ⟨Hk4, ρc, f4, c4, ?_⟩
                  cases zw : mv ρc with
                  | bad => rw [zw] at hz2; cases hz2
                  | exc _ _ => rw [zw] at hz2; cases hz2
                  | ok o0 ρd =>
                    rw [zw] at hz2
                    have hz5 : dcR own t mc mk mv ρ1 (xs.drop (i + 1)) (putKO ks os k o0).1 (putKO ks os k o0).2 = some (ksF, osF) := hz2
                    clear hz2
                    intro zv gv Hk5 H5 f5 c5 ap5 s5' ro5 rv
                    obtain ⟨e1, e2, sh5⟩ := ro5 rfl
                    subst e1
                    subst e2
                    have g5 : Grow Hk4 H4 Hk5 H5 := grown c4 c5 s5' sh5
                    have gg5 := gg4.trans g5
                    have gr5 := gr4.trans g5
                    have hD5 : H5 D0 = some (.dK (ks.zip vs)) := gg5.hh _ _ hD
                    have hkD5 : Hk5 D0 = none := gg5.off (by rw [hD]; intro z; cases z) hkD
                    have rr5 : RepOs K cl Hk5 H5 os vs G := rr.keep gg5.kk _ _ _ fun a _ u e => gg5.hh a u e
                    have fresh : ∀ a ∈ gv, H4 a = none := fun a ha => by
                      rcases s5'.ow a (.inl ha) with z | z
                      · exact z
                      · exact absurd z (ap5.off a ha).2.2
                    have fG5 : ∀ a ∈ G ++ gv, Hk5 a = none ∧ H1 a = none := fun a ha => by
                      rcases List.mem_append.mp ha with h | h
                      · exact ⟨gg5.off (there (.refl _) h) (fG a h).1, (fG a h).2⟩
                      · exact ⟨(ap5.off a h).1, Same.free gr4.hh (fresh a h)⟩
                    have hD4 : H4 D0 ≠ none := by rw [gg4.hh _ _ hD]; (intro z; cases z)
                    have ndA : (D0 :: (G ++ gv)).Nodup := by
                      rw [List.nodup_cons] at ndG ⊢
                      refine ⟨fun z => ?_, ?_⟩
                      · rcases List.mem_append.mp z with h | h
                        · exact ndG.1 h
                        · exact hD4 (fresh _ h)
                      · rw [List.nodup_append]
                        refine ⟨ndG.2, ap5.nd, fun a ha b hb e => ?_⟩
                        subst e
                        exact (there (.refl _) ha) (Same.free gg4.hh (fresh a hb))
                    have nA := List.nodup_cons.mp ndA
                    have hzl : (ks.zip vs).length < sizeLine := line16' (by rw [List.length_zip, ← l1, Nat.min_self]; omega)
                    refine ⟨_, k, keyD_v ry ek, hD5, hzl, ?_⟩
                    rw [putK_zip nk l1]
                    have up : ∀ (u0 : HO), Same H1 (upd H5 D0 u0) := fun u0 a u e => by rw [upd_ne (fun z => by rw [z, n0] at e; cases e)]; exact gr5.hh a u e
                    have upk : ∀ (u0 : HO), Same Hk5 (upd H5 D0 u0) := fun u0 a u e => by rw [upd_ne (fun z => by rw [z, hkD5] at e; cases e)]; exact gr5.same a u e
                    have kp : ∀ (u0 : HO) (g : Fp), (∀ a ∈ g, a ∈ G ++ gv) → ∀ a ∈ g, ∀ w, H5 a = some w → upd H5 D0 u0 a = some w := fun u0 g hg => upd_keep fun z => nA.1 (hg _ z)
                    cases ex : ixOf k ks with
                    | some j =>
                      have hj : j < os.length := by rw [rr.length, ← l1]; exact ixOf_lt ex
                      obtain ⟨G', q1, q2, q3⟩ := (rr5.keep (H' := upd H5 D0 (.dK (ks.zip (vs.set j zv)))) (.refl _) _ _ _ (kp _ _ fun a h => List.mem_append_left _ h)).put (rv.keep (.refl _) _ _ _ (kp _ _ fun a h => List.mem_append_right _ h)) nA.2 hj
                      unfold putKO at hz5
                      rw [ex] at hz5
                      exact ⟨Hk5, ks, os.set j o0, vs.set j zv, G', gr5.kk, up _, upk _, gr5.nw, upd_same, hkD5, by simpa using l1, nk, by omega, q1, List.nodup_cons.mpr ⟨fun z => nA.1 (q2 _ z), q3⟩, fun a ha => fG5 a (q2 a ha), hz5⟩
                    | none =>
                      unfold putKO at hz5
                      rw [ex] at hz5
                      have ndk : (ks ++ [k]).Nodup := by
                        rw [List.nodup_append]
                        exact ⟨nk, by simp, fun a ha b hb eab => by
                          have eb : b = k := by simpa using hb
                          rw [eab, eb] at ha
                          exact ixOf_none ex ha⟩
                      exact ⟨Hk5, ks ++ [k], os ++ [o0], vs ++ [zv], G ++ gv, gr5.kk, up _, upk _, gr5.nw, upd_same, hkD5, by simp [l1], ndk, by simp; omega, (rr5.keep (.refl _) _ _ _ (kp _ _ fun a h => List.mem_append_left _ h)).snoc (rv.keep (.refl _) _ _ _ (kp _ _ fun a h => List.mem_append_right _ h)), ndA, fG5, hz5⟩
      · have e : i = xs.length := by omega
        subst e
        refine .inl ⟨hJ.stop H sB, ?_⟩
        rw [List.drop_length] at hz
        have hz : some (ks, os) = some (ksF, osF) := hz
        cases hz
        have hG : ∀ a ∈ D0 :: G, Hk a = none ∧ H a ≠ none ∧ ¬ f1.all a ∧ H1 a = none := fun a ha => by
          rcases List.mem_cons.mp ha with h | h
          · rw [h]
            exact ⟨hkD, by rw [hD]; (intro z; cases z), fun ⟨j, hj⟩ => (c1.off j _ hj).2 n0, n0⟩
          · obtain ⟨u, e⟩ := rr.there _ _ _ a h
            exact ⟨(fG a h).1, by rw [e]; (intro z; cases z), fun ⟨j, hj⟩ => (c1.off j _ hj).2 (fG a h).2, (fG a h).2⟩
        exact q (.ref D0) (D0 :: G) Hk H f1 c ⟨ndG, fun a ha => ⟨(hG a ha).1, (hG a ha).2.1, (hG a ha).2.2.1⟩⟩ ⟨k1, fun a u _ e => k2 a u e, fun a h => (k4 a h).elim .inl fun z => .inr (.inl z), fun a h => h.elim (fun z => .inl (hG a z).2.2.2) .inr⟩ (fun _ => ⟨rfl, rfl, k2⟩)
          ⟨D0, vs, G, rfl, hD, ⟨l1, nk⟩, rr, rfl⟩
  · exact q.elim
end
section
variable {X : Cx} {cl : Wld} {W W0 : WX} {ri : Bool} {pure : Bool} {tg iter kx vx : Expr} {ifs : List Expr} {scope : Scope} {own : List (Str × Nat)} {pos : Pos} {mi : M (List D)} {t : D → Env → Option Env} {mc : M Bool} {mk : M D} {mv : M O}
theorem dcR_all (hN : X.N.Nodup) (hi : DI X cl W pure ri tg iter mi) (ok : BlkOk X.N X.env.scope scope own)
    (hg : ∀ (s : Shared) (H : Hp) (C : Addr) (cl' : List (Str × Addr)) (fp : List Addr), PG (X.blk s H scope (compEnvC scope cl' C X.env) fp) tg (tG X.K cl t (own.map (·.2))))
    (ht : ∀ (s : Shared) (H : Hp) (C : Addr) (cl' : List (Str × Addr)) (fp : List Addr), PTs (X.blk s H scope (compEnvC scope cl' C X.env) fp) ifs (tR X.K cl W0 RT true mc))
    (hk : ∀ (s : Shared) (H : Hp) (C : Addr) (cl' : List (Str × Addr)) (fp : List Addr), PE (X.blk s H scope (compEnvC scope cl' C X.env) fp) kx (tR X.K cl W0 (RD X.K) true mk))
    (he : ∀ (s : Shared) (H : Hp) (C : Addr) (cl' : List (Str × Addr)) (fp : List Addr), PE (X.blk s H scope (compEnvC scope cl' C X.env) fp) vx (tR X.K cl W0 (RO X.K cl) true mv)) (hc : X.calm = true := by rfl) (hs : ∀ x, foldedSetIterable iter X.env x = Pure.pure x := by intro _; rfl) :
    DO X cl W ri (.DictComp kx vx [⟨tg, iter, ifs, 0⟩] scope pos) (mDcR (own.map (·.2)) mi t mc mk mv) := by
  refine PE.imp (pe_dc hc hN hi ok hg ht hk he hs) fun σ H Q ⟨Hk, ρ, f, c, q⟩ => ?_
  have q' : EQ X.K cl W (RO X.K cl) (ri && true) σ Hk H ρ f ((mi ρ).bind fun xs ρ1 => endDR (own.map (·.2)) t mc mk mv xs ρ1) Q := by rw [eq_true]; exact q
  exact ⟨Hk, ρ, f, c, (EQ.seq RI.p q').mono fun J H1 ⟨xs, Hk1, ρ1, f1, c1, _, _, hJ, q1⟩ D0 n0 => dcR_read c1 hJ.1 q1 D0 n0⟩
end
end DL
set_option Elab.async false
set_option linter.all false
set_option maxRecDepth 100000
/-! EP: dicts read, displayed; the module's names; what is never reached. -/
namespace DL
open PySem L2 PySem.Spec PyProof.Rows RZ
section
variable {X : Cx} {cl : Wld} {W : WX} {pv : List V} {r ra rb rc : Bool} {e o i a b c : Expr} {es : List Expr} {pos apos cpos p : Pos} {x : Str}
/-! ### subscripts of dicts, too -/
def rIxG : R2 := fun x y H Q => ∃ a v, x = .ref a ∧ DGet H a y (some v) ∧ Q v H
def rIxA (K : PySem.W.Frag) : R2 := fun x y H Q => rIx K x y H Q ∨ rIxG x y H Q
theorem ix_dictG (hu : X.A.units + 1 < cLine) : IxR X rIxG := fun value slice pins s σ H x y v u Q I rx ry ⟨a, w, ex, g, q⟩ hs => by
  subst ex
  obtain rfl : v = Value.ref a := rx
  exact tail_any (dict_typeIs I g) PySem.F.slot_dict_getitem.lookup (d_getItem hu I g ry fun w' s3 I3 rw' => ⟨w, H, I3, rw', q⟩) hs
theorem ix_all (hu : X.A.units + 1 < cLine) : IxR X (rIxA X.K) := ix_seq.or (ix_dictG hu)
def lookD (ks : List Key) (ds : List D) (d : D) : Option D := (keyD d).bind fun k => (ixOf k ks).bind fun i => ds[i]?
def gIxA : D → D → Option D
  | .dk ks ds, d => lookD ks ds d
  | x, y => gIx x y
theorem keyD_B {K : PySem.W.Frag} {Hk H : Hp} {d : D} {v : V} {k : Key} (r : RepB K Hk H d v) (h : keyD d = some k) : v = kV k := by
  cases d with
  | int i => cases h; exact r
  | str x => cases h; exact r
  | _ => cases h
theorem dget_ok {K : PySem.W.Frag} {Hk H : Hp} {ks : List Key} {ds : List D} {d : D} {v u : V} {k : Key} (hx : RepB K Hk H (.dk ks ds) v) (hy : RepB K Hk H d u) (hk : keyD d = some k) : ∃ a o, v = .ref a ∧ IsD H a ∧ DGet H a u o ∧ match (ixOf k ks).bind fun i => ds[i]? with
    | some z => ∃ w, o = some w ∧ RepD K Hk z w
    | none => o = none := by
  obtain ⟨p, vs, rfl, hp, l, rr⟩ := hx
  have e := keyD_B hy hk
  subst e
  refine ⟨p, _, rfl, .inl ⟨_, hp⟩, .inl ⟨_, k, hp, rfl, rfl⟩, ?_⟩
  rw [valV_zip l]
  cases ex : ixOf k ks with
  | none => rfl
  | some j =>
    show match ds[j]? with
      | some z => ∃ w, vs[j]? = some w ∧ RepD K Hk z w
      | none => vs[j]? = none
    cases ed : ds[j]? with
    | none => 
      have : vs.length ≤ j := by rw [← rr.length]; exact List.getElem?_eq_none_iff.mp ed
      exact List.getElem?_eq_none this
    | some z =>
      obtain ⟨w, h1, h2⟩ := rr.get ed
      exact ⟨w, h1, h2⟩
theorem loc_ixA {K : PySem.W.Frag} : Loc2 K (rIxA K) gIxA := by
  intro Hk H x y d v u Q s hx hy e k
  cases x with
  | dk ks ds =>
    have e : (keyD y).bind (fun k => (ixOf k ks).bind fun i => ds[i]?) = some d := e
    cases ek : keyD y with
    | none => rw [ek] at e; cases e
    | some kk =>
      rw [ek] at e
      have e : ((ixOf kk ks).bind fun i => ds[i]?) = some d := e
      obtain ⟨a, o, rfl, _, g, h⟩ := dget_ok hx hy ek
      rw [e] at h
      obtain ⟨w, rfl, rw'⟩ := h
      exact .inr ⟨a, w, rfl, g, k w Hk H (.refl s) rw'⟩
  | _ => exact .inl (loc_ix Hk H _ y d v u Q s hx hy e k)
theorem de_ixA {ma mb : M D} (hu : X.A.units + 1 < cLine) (ha : DE X cl W ra a ma) (hb : DB X cl W rb b mb) (hs : PlainIx b := by exact fun _ _ => rfl) : DE X cl W (ra && rb) (.Subscript a b pos) (mOp2 gIxA ma mb) :=
  PE.imp (pe_ix (ix_all hu) ha hb hs) fun _ _ _ h => tR.op2 loc_ixA h
theorem de_ixA' {ma mb : M D} (hu : X.A.units + 1 < cLine) (ha : DB X cl W ra a ma) (hb : DB X cl W true b mb) (hs : PlainIx b := by exact fun _ _ => rfl) : DE X cl W ra (.Subscript a b pos) (mOp2 gIxA ma mb) :=
  PE.imp (pe_ix (ix_all hu) ha hb hs) fun _ _ _ h => tR.op2' loc_ixA h
/-- a place's item is a place -/
theorem stpAt_ok {K : PySem.W.Frag} {Hk H : Hp} {ρ : Env} {σ : St} {f : Fs} {pl : Pl} {d : D} {s : Stp} {v iv : V} (c : Cfg K cl Hk H ρ σ f) (h : stpAt ρ pl d = some s) (a : ∃ v0, σ[pl.1]? = some (some v0) ∧ atV H pl.2 v0 v) (rd : RepD K Hk d iv) :
    ∃ u, kidV H s v u ∧ ∀ Q : VK, Q u H → rIxA K v iv H Q := by
  unfold stpAt at h
  split at h
  · rename_i ks vs en
    split at h
    · rename_i k ek
      split at h
      · rename_i hk
        cases h
        obtain ⟨⟨j, c0⟩, ej⟩ := Option.isSome_iff_exists.mp hk
        obtain ⟨f1, r1, _, _, _⟩ := c.at en a
        obtain ⟨u, g1, rest, kv, _, _, _⟩ := r1.kid ej
        have e := keyD_v rd ek
        subst e
        refine ⟨u, kv, fun Q q => ?_⟩
        obtain ⟨p, kvs, rfl, e1, e2⟩ := kv
        exact .inr ⟨p, u, rfl, .inl ⟨kvs, k, .inl e1, rfl, e2.symm⟩, q⟩
      · cases h
    · cases h
  · rename_i vs en
    split at h
    · rename_i i
      split at h
      · rename_i n hn
        cases h
        obtain ⟨f1, r1, _, _, _⟩ := c.at en a
        obtain rfl : iv = .int i := rd
        obtain ⟨p, us, g, rfl, hp, rr, _⟩ := r1
        have hlt : n < us.length := by rw [← rr.length]; exact ixN_below hn
        refine ⟨us[n], ⟨p, us, rfl, hp, List.getElem?_eq_getElem hlt⟩, fun Q q => .inl (.inl ⟨p, us, i, us[n], rfl, rfl, SqL.of hp, ?_, q⟩)⟩
        unfold atI
        rw [← rr.length, hn]
        exact List.getElem?_eq_getElem hlt
      · cases h
    · cases h
  · cases h
theorem dp_ix {mp : M Pl} {mi : M D} (hu : X.A.units + 1 < cLine) (hp : DPl X cl W r o mp) (hi : DE X cl W true i mi) (hs : PlainIx i := by exact fun _ _ => rfl) : DPl X cl W r (.Subscript o i pos) (mPi mp mi) := PE.imp (pe_ix (ix_all hu) hp hi hs) fun σ H Q ⟨Hk, ρ, f, c, q⟩ => by
  have q' : EQ X.K cl W (RPl σ) (r && (true && true)) σ Hk H ρ f ((mp ρ).bind fun pl ρ1 => (mi ρ1).bind fun d ρ2 => match stpAt ρ2 pl d with
    | some s => .ok (pl.1, pl.2 ++ [s]) ρ2
    | none => .bad) Q := by rw [Bool.and_true, Bool.and_true]; exact q
  refine ⟨Hk, ρ, f, c, (EQ.seq RPl.p q').mono fun v H1 ⟨pl, Hk1, ρ1, f1, c1, _, _, hx1, q1⟩ => ⟨Hk1, ρ1, f1, c1, (EQ.seq RD.p q1).mono fun iv H2 ⟨d, Hk2, ρ2, f2, c2, st2, hr2, hd, q2⟩ => ?_⟩⟩
  split at q2
  · rename_i s es
    obtain ⟨rfl, rfl, sm⟩ := hr2 rfl
    have a2 := RPl.after hx1 sm
    obtain ⟨u, kv, k⟩ := stpAt_ok c2 es a2 hd.1
    obtain ⟨v0, e0, a0⟩ := a2
    exact k Q (EQ.at c2 q2 (.refl c2.same) ⟨⟨v0, e0, atV_app a0 kv⟩, rfl⟩)
  · exact q2.elim
/-! ### x in a dict -/
def rInA (K : PySem.W.Frag) : R2 := fun x y H Q => rIn2 K x y H Q ∨ (∃ a o, y = .ref a ∧ DGet H a x o ∧ Q (.bl o.isSome) H) ∨ ∃ a kvs, y = .ref a ∧ x = .non ∧ Rd H a (.dK kvs) ∧ Q (.bl false) H
def rNotInA (K : PySem.W.Frag) : R2 := fun x y H Q => rNotIn2 K x y H Q ∨ (∃ a o, y = .ref a ∧ DGet H a x o ∧ Q (.bl (!o.isSome)) H) ∨ ∃ a kvs, y = .ref a ∧ x = .non ∧ Rd H a (.dK kvs) ∧ Q (.bl true) H
theorem op_inA (hu : X.A.units + 1 < cLine) : OpR X (compareOp .In) (rInA X.K) := fun pins s σ H x y v u Q I rx ry h => by
  rcases h with h | ⟨a, ov, ey, g, q⟩ | ⟨a, kvs, ey, ex, g, q⟩
  · exact op_in2 pins s σ H x y v u Q I rx ry h
  · subst ey
    obtain rfl : u = Value.ref a := ry
    exact d_in hu I g rx fun s3 I3 => ⟨.bl ov.isSome, H, I3, rfl, q⟩
  · subst ey ex
    obtain rfl : u = Value.ref a := ry
    obtain rfl : v = Value.none := rx
    exact d_inNone I g fun s3 I3 => ⟨.bl false, H, I3, rfl, q⟩
theorem op_notInA (hu : X.A.units + 1 < cLine) : OpR X (compareOp .NotIn) (rNotInA X.K) := fun pins s σ H x y v u Q I rx ry h => by
  rcases h with h | ⟨a, ov, ey, g, q⟩ | ⟨a, kvs, ey, ex, g, q⟩
  · exact op_notIn2 pins s σ H x y v u Q I rx ry h
  · subst ey
    obtain rfl : u = Value.ref a := ry
    exact d_notIn hu I g rx fun s3 I3 => ⟨.bl (!ov.isSome), H, I3, rfl, q⟩
  · subst ey ex
    obtain rfl : u = Value.ref a := ry
    obtain rfl : v = Value.none := rx
    exact d_notInNone I g fun s3 I3 => ⟨.bl true, H, I3, rfl, q⟩
def inA (x y : D) : Option Bool := match y with
  | .dk ks _ => (match x with
    | .non => some false
    | x => (keyD x).map fun k => (ixOf k ks).isSome)
  | y => inD x y
def gInA (x y : D) : Option D := (inA x y).map .bl
def gNotInA (x y : D) : Option D := (inA x y).map fun b => .bl (!b)
theorem inA_some {K : PySem.W.Frag} {Hk H : Hp} {x y : D} {v u : V} {b : Bool} (s : Same Hk H) (hx : RepB K Hk H x v) (hy : RepB K Hk H y u) (h : inA x y = some b) :
    inD x y = some b ∨ (∃ a o, u = .ref a ∧ DGet H a v o ∧ o.isSome = b) ∨ ∃ a kvs, u = .ref a ∧ v = .non ∧ Rd H a (.dK kvs) ∧ b = false := by
  cases y with
  | dk ks ds =>
    obtain ⟨p, vs, rfl, hp, l, rr⟩ := hy
    have go : ∀ k : Key, keyD x = some k → (ixOf k ks).isSome = b → ∃ a o, V.ref p = .ref a ∧ DGet H a v o ∧ o.isSome = b := fun k ek eb => by
      have e := keyD_B hx ek
      subst e
      refine ⟨p, _, rfl, .inl ⟨_, k, hp, rfl, rfl⟩, ?_⟩
      rw [valV_zip l, ← eb]
      cases ex : ixOf k ks with
      | none => rfl
      | some j =>
        show (vs[j]?).isSome = true
        rw [List.getElem?_eq_getElem (by rw [← l]; exact ixOf_lt ex)] <;> rfl
    cases x with
    | non => cases h; exact .inr (.inr ⟨p, _, rfl, hx, hp, rfl⟩)
    | int i => exact .inr (.inl (go _ rfl (Option.some.inj h)))
    | str i => exact .inr (.inl (go _ rfl (Option.some.inj h)))
    | _ => cases h
  | _ => exact .inl h
theorem loc_inA {K : PySem.W.Frag} (l0 : Loc2 K (rIn2 K) gIn) : Loc2 K (rInA K) gInA := by
  intro Hk H x y d v u Q s hx hy e k
  obtain ⟨b, eb, e2⟩ := Option.map_eq_some_iff.mp e
  rcases inA_some s hx hy eb with h | ⟨a, o, ea, g, eo⟩ | ⟨a, kvs, ea, ev, g, rfl⟩
  · exact .inl (l0 Hk H x y d v u Q s hx hy (by show (inD x y).map D.bl = some d; rw [h]; exact congrArg some e2) k)
  · subst e2 ea
    exact .inr (.inl ⟨a, o, rfl, g, k _ Hk H (.refl s) (by show V.bl o.isSome = V.bl b; rw [eo])⟩)
  · subst e2 ea
    exact .inr (.inr ⟨a, kvs, rfl, ev, g, k _ Hk H (.refl s) rfl⟩)
theorem loc_notInA {K : PySem.W.Frag} (l0 : Loc2 K (rNotIn2 K) gNotIn) : Loc2 K (rNotInA K) gNotInA := by
  intro Hk H x y d v u Q s hx hy e k
  obtain ⟨b, eb, e2⟩ := Option.map_eq_some_iff.mp e
  rcases inA_some s hx hy eb with h | ⟨a, o, ea, g, eo⟩ | ⟨a, kvs, ea, ev, g, rfl⟩
  · exact .inl (l0 Hk H x y d v u Q s hx hy (by show (inD x y).map (fun b => D.bl (!b)) = some d; rw [h]; exact congrArg some e2) k)
  · subst e2 ea
    exact .inr (.inl ⟨a, o, rfl, g, k _ Hk H (.refl s) (by show V.bl (!o.isSome) = V.bl (!b); rw [eo])⟩)
  · subst e2 ea
    exact .inr (.inr ⟨a, kvs, rfl, ev, g, k _ Hk H (.refl s) rfl⟩)
/-! ### d.get -/
def mGet1 (ma mb : M D) : M D := fun ρ => (ma ρ).bind fun x ρ1 => match x with
  | .dk ks ds => (mb ρ1).bind fun y ρ2 => (match keyD y with
    | some k => .ok (((ixOf k ks).bind fun i => ds[i]?).getD .non) ρ2
    | none => .bad)
  | _ => .bad
theorem de_get1 {ma mb : M D} (hu : X.A.units + 1 < cLine) (ha : DB X cl W ra a ma) (hb : DE X cl W true b mb) (m : M1 X a "get" apos b cpos := by exact ⟨rfl, rfl, rfl, rfl⟩) : DE X cl W ra (.Call (.Attribute a "get" apos) [b] [] cpos) (mGet1 ma mb) :=
  PE.imp (pe_dget1 hu ha hb m) fun σ H Q ⟨Hk, ρ, f, c, q⟩ => by
    have q' : EQ X.K cl W (RD X.K) (ra && (true && true)) σ Hk H ρ f (mGet1 ma mb ρ) Q := by rw [Bool.and_true, Bool.and_true]; exact q
    refine ⟨Hk, ρ, f, c, (EQ.seq RB.p q').mono fun v H1 ⟨x, Hk1, ρ1, f1, c1, _, _, hx, q1⟩ => ?_⟩
    split at q1
    · rename_i ks ds
      obtain ⟨p, vs, rfl, hp, l, rr⟩ := id hx.1
      refine ⟨p, rfl, .inl ⟨_, hp⟩, Hk1, ρ1, f1, c1, (EQ.seq RD.p q1).mono fun u H2 ⟨y, Hk2, ρ2, f2, c2, st2, hr2, hy, q2⟩ => ?_⟩
      split at q2
      · rename_i k ek
        have hx2 : RepB X.K Hk2 H2 (.dk ks ds) (.ref p) := RepB.same st2.kk (hr2 rfl).2.2 hx.1
        obtain ⟨a, o, ea, _, g, h⟩ := dget_ok hx2 (hy.1.toB c2.same) ek
        cases ea
        refine ⟨o, g, EQ.at c2 q2 (.refl c2.same) ⟨?_, rfl⟩⟩
        cases ez : (ixOf k ks).bind fun i => ds[i]? with
        | none => rw [ez] at h; rw [h]; rfl
        | some z =>
          rw [ez] at h
          obtain ⟨w, rfl, rw'⟩ := h
          exact rw'
      · exact q2.elim
    · exact q1.elim
/-! ### own, then dropped -/
def mPk (m : M O) : M D := fun ρ => (m ρ).bind fun o ρ1 => match peek o with
  | some d => .ok d ρ1
  | none => .bad
theorem db_o {m : M O} (h : DO X cl W r e m) : DB X cl W r e (mPk m) := PE.imp h fun σ H Q ⟨Hk, ρ, f, c, q⟩ => by
  refine ⟨Hk, ρ, f, c, ?_⟩
  unfold mPk at q
  cases z : m ρ with
  | bad => rw [z] at q; exact q
  | exc x ρ' => rw [z] at q; exact q
  | ok o ρ' =>
    rw [z] at q
    intro v g Hk' H' f' c' ap st hr rv
    have q : EQ X.K cl W (RB X.K) r σ Hk H ρ f (match peek o with
      | some d => .ok d ρ'
      | none => .bad) Q := q
    split at q
    · rename_i d ed
      exact q v [] Hk' H' f' c' .nil (st.weak (fun _ h => h) fun x h => h.elim (fun z => nomatch z) .inr) hr ⟨RepO.peek c'.same rv ed, rfl⟩
    · exact q.elim
/-- data as an own thing -/
def mD (m : M D) : M O := fun ρ => (m ρ).bind fun d ρ1 => .ok (.d d) ρ1
theorem do_d {m : M D} (h : DE X cl W r e m) : DO X cl W r e (mD m) := PE.imp h fun σ H Q ⟨Hk, ρ, f, c, q⟩ => by
  have q' : EQ X.K cl W (RO X.K cl) (r && true) σ Hk H ρ f ((m ρ).bind fun d ρ1 => .ok (.d d) ρ1) Q := by rw [eq_true]; exact q
  refine ⟨Hk, ρ, f, c, (EQ.seqG (R1 := RD X.K) q').mono fun v H1 ⟨d, g, Hk1, ρ1, f1, c1, ap, st, hr, hx, q1⟩ => ?_⟩
  rw [eq_true] at q1
  obtain ⟨hx1, rfl⟩ := hx
  exact q1 v [] Hk1 H1 f1 c1 ap st hr ⟨hx1, rfl⟩
/-! ### the module's names -/
theorem de_gint {n : Int} (h : ∃ t, X.mg x = some (.int n t)) (hg : Gl X x := by rfl) (hd : (x == ("__debug__" : Str)) = false := by decide) : DE X cl W true (.Name x pos) (mC (.int n)) := by
  obtain ⟨t, ht⟩ := h
  exact PE.imp (pe_glob (v := .int n) hg ht ⟨t, rfl⟩ hd) fun σ H Q ⟨Hk, ρ, f, c, q⟩ => EQ.at c q (.refl c.same) ⟨rfl, rfl⟩
theorem de_gstr {z : Str} (h : ∃ t, X.mg x = some (.str z t)) (hg : Gl X x := by rfl) (hd : (x == ("__debug__" : Str)) = false := by decide) : DE X cl W true (.Name x pos) (mC (.str z)) := by
  obtain ⟨t, ht⟩ := h
  exact PE.imp (pe_glob (v := .str z) hg ht ⟨t, rfl⟩ hd) fun σ H Q ⟨Hk, ρ, f, c, q⟩ => EQ.at c q (.refl c.same) ⟨rfl, rfl⟩
theorem de_gref {g : Addr} {d : D} (h : X.mg x = some (.ref g)) (hB : ∀ H, Same cl.B H → RepD X.K H d (.ref g)) (hg : Gl X x := by rfl) (hd : (x == ("__debug__" : Str)) = false := by decide) : DE X cl W true (.Name x pos) (mC d) :=
  PE.imp (pe_glob (v := .ref g) hg h rfl hd) fun σ H Q ⟨Hk, ρ, f, c, q⟩ => EQ.at c q (.refl c.same) ⟨hB Hk c.bs, rfl⟩
/-! ### what is never reached -/
def sBad : MS := fun _ => .bad
theorem ds_bad {st : Stmt} : DS X cl W pv st sBad := ⟨fun _ _ _ _ _ _ ⟨_, _, _, _, _, q⟩ => q.elim⟩
def mBad {α : Type} : M α := fun _ => .bad
theorem de_bad : DE X cl W r e mBad := ⟨fun _ _ _ _ _ _ ⟨_, _, _, _, q⟩ => q.elim⟩
theorem do_bad : DO X cl W r e mBad := ⟨fun _ _ _ _ _ _ ⟨_, _, _, _, q⟩ => q.elim⟩
end
end DL
set_option Elab.async false
set_option linter.all false
set_option maxRecDepth 100000
/-! EQ: sorted. -/
namespace DL
open PySem L2 PySem.Spec PyProof.Rows RZ
/-! ### sorting by keys -/
section
variable (O : KeyOrd)
def insO (x : O.α) : List O.α → List O.α
  | [] => [x]
  | y :: r => if O.blt y x = false then x :: y :: r else y :: insO x r
def sortO : List O.α → List O.α
  | [] => []
  | x :: r => insO O x (sortO r)
variable {O}
theorem insO_perm (x : O.α) : ∀ l, (insO O x l).Perm (x :: l)
  | [] => .refl _
  | y :: r => by
    unfold insO
    split
    · exact .refl _
    · exact ((insO_perm x r).cons y).trans (.swap x y r)
theorem sortO_perm : ∀ l, (sortO O l).Perm l
  | [] => .refl _
  | x :: r => (insO_perm x _).trans ((sortO_perm r).cons x)
theorem insO_sorted (x : O.α) : ∀ l, l.Pairwise O.kle → (insO O x l).Pairwise O.kle
  | [], _ => by simp [insO]
  | y :: r, h => by
    unfold insO
    have h' := List.pairwise_cons.mp h
    split
    · rename_i e
      have hxy : O.kle x y := e
      refine List.pairwise_cons.mpr ⟨fun z hz => ?_, h⟩
      rcases List.mem_cons.mp hz with rfl | hz
      · exact hxy
      · exact KeyOrd.kle_trans hxy (h'.1 z hz)
    · rename_i e
      have hyx : O.kle y x := KeyOrd.kle_of_klt (by
        show O.blt y x = true
        cases z : O.blt y x with
        | true => rfl
        | false => exact absurd z e)
      refine List.pairwise_cons.mpr ⟨fun z hz => ?_, insO_sorted x r h'.2⟩
      rcases List.mem_cons.mp ((insO_perm x r).mem_iff.mp hz) with rfl | hz
      · exact hyx
      · exact h'.1 z hz
theorem sortO_sorted : ∀ l, (sortO O l).Pairwise O.kle
  | [] => .nil
  | x :: r => insO_sorted x _ (sortO_sorted r)
theorem sortO_one {l m : List O.α} (p : l.Perm m) (h : l.Pairwise O.kle) : l = sortO O m :=
  sorted_one (le := O.kle) (fun a b h1 h2 => O.total a b h2 h1) (p.trans (sortO_perm m).symm) h (sortO_sorted m)
end
abbrev TK := Int ⊕ List Nat
abbrev tupO : KeyOrd := listOrd itemOrd
/-! ### tuples of numbers and texts -/
def keyIt (shape : Nat → Bool) : Nat → List D → Option (List TK)
  | _, [] => some []
  | i, .int n :: r => if shape i = true then none else (keyIt shape (i + 1) r).map (Sum.inl n :: ·)
  | i, .str x :: r => if shape i = true then (keyIt shape (i + 1) r).map (Sum.inr x.cps.toList :: ·) else none
  | _, _ :: _ => none
def unIt : TK → D
  | .inl n => .int n
  | .inr cs => .str ⟨cs.toArray⟩
def unKey (l : List TK) : D := .tup (l.map unIt)
theorem unIt_key {shape : Nat → Bool} : ∀ {ds : List D} {i : Nat} {l : List TK}, keyIt shape i ds = some l → l.map unIt = ds
  | [], _, _, h => by cases h; rfl
  | .int n :: r, i, l, h => by
    unfold keyIt at h
    split at h
    · cases h
    · obtain ⟨t, e, rfl⟩ := Option.map_eq_some_iff.mp h
      rw [List.map_cons, unIt_key e] <;> rfl
  | .str x :: r, i, l, h => by
    unfold keyIt at h
    split at h
    · obtain ⟨t, e, rfl⟩ := Option.map_eq_some_iff.mp h
      rw [List.map_cons, unIt_key e]
      cases x; rfl
    · cases h
  | .any :: _, _, _, h => by cases h
  | .non :: _, _, _, h => by cases h
  | .bl _ :: _, _, _, h => by cases h
  | .tup _ :: _, _, _, h => by cases h
  | .lst _ :: _, _, _, h => by cases h
  | .dk _ _ :: _, _, _, h => by cases h
  | .dt _ _ :: _, _, _, h => by cases h
  | .opq _ :: _, _, _, h => by cases h
  | .scr _ :: _, _, _, h => by cases h
def shapeOf (ds : List D) : Nat → Bool := fun i => match ds[i]? with
  | some (.str _) => true
  | _ => false
def keyT (shape : Nat → Bool) : D → Option (List TK)
  | .tup (x :: r) => keyIt shape 0 (x :: r)
  | _ => none
def keysT (shape : Nat → Bool) : List D → Option (List (List TK))
  | [] => some []
  | d :: ds => match keyT shape d, keysT shape ds with
    | some k, some ks => some (k :: ks)
    | _, _ => none
def headT : List D → Option (List D)
  | .tup xs :: _ => some xs
  | _ => none
def sortT (ds : List D) : Option (List D) := match headT ds with
  | some xs => (keysT (shapeOf xs) ds).map fun ks => (sortO tupO ks).map unKey
  | none => none
def intsD : List D → Option (List Int)
  | [] => some []
  | .int n :: r => (intsD r).map (n :: ·)
  | _ :: _ => none
def strsD : List D → Option (List Str)
  | [] => some []
  | .str n :: r => (strsD r).map (n :: ·)
  | _ :: _ => none
theorem intsD_eq : ∀ {ds : List D} {ns : List Int}, intsD ds = some ns → ds = ns.map D.int
  | [], _, h => by cases h; rfl
  | .int n :: r, ns, h => by
    obtain ⟨t, e, rfl⟩ := Option.map_eq_some_iff.mp (show (intsD r).map (n :: ·) = some ns from h)
    rw [List.map_cons, ← intsD_eq e]
  | .str _ :: _, _, h => by cases h
  | .any :: _, _, h => by cases h
  | .non :: _, _, h => by cases h
  | .bl _ :: _, _, h => by cases h
  | .tup _ :: _, _, h => by cases h
  | .lst _ :: _, _, h => by cases h
  | .dk _ _ :: _, _, h => by cases h
  | .dt _ _ :: _, _, h => by cases h
  | .opq _ :: _, _, h => by cases h
  | .scr _ :: _, _, h => by cases h
theorem strsD_eq : ∀ {ds : List D} {ns : List Str}, strsD ds = some ns → ds = ns.map D.str
  | [], _, h => by cases h; rfl
  | .str n :: r, ns, h => by
    obtain ⟨t, e, rfl⟩ := Option.map_eq_some_iff.mp (show (strsD r).map (n :: ·) = some ns from h)
    rw [List.map_cons, ← strsD_eq e]
  | .int _ :: _, _, h => by cases h
  | .any :: _, _, h => by cases h
  | .non :: _, _, h => by cases h
  | .bl _ :: _, _, h => by cases h
  | .tup _ :: _, _, h => by cases h
  | .lst _ :: _, _, h => by cases h
  | .dk _ _ :: _, _, h => by cases h
  | .dt _ _ :: _, _, h => by cases h
  | .opq _ :: _, _, h => by cases h
  | .scr _ :: _, _, h => by cases h
def sortD (ds : List D) : Option (List D) := match intsD ds with
  | some ns => if ns.length < 64 then some ((sortI ns).map D.int) else none
  | none => match strsD ds with
    | some xs => if xs.length < 64 then some ((sortS xs).map D.str) else none
    | none => sortT ds
def gSort : D → Option (List D)
  | .lst ds => sortD ds
  | _ => none
section
variable {K : PySem.W.Frag} {H : Hp}
theorem RepDs.toInts : ∀ {ns : List Int} {vs : List V}, RepDs K H (ns.map D.int) vs → vs = ns.map V.int
  | [], _, h => h
  | n :: ns, _, ⟨v, r, e, h1, h2⟩ => by
    rw [e, RepDs.toInts h2, show v = .int n from h1]; rfl
theorem RepDs.toStrs : ∀ {ns : List Str} {vs : List V}, RepDs K H (ns.map D.str) vs → vs = ns.map V.str
  | [], _, h => h
  | n :: ns, _, ⟨v, r, e, h1, h2⟩ => by
    rw [e, RepDs.toStrs h2, show v = .str n from h1]; rfl
theorem RepDs.ofInts : ∀ {ns : List Int}, RepDs K H (ns.map D.int) (ns.map V.int)
  | [] => rfl
  | n :: ns => ⟨.int n, _, rfl, rfl, RepDs.ofInts⟩
theorem RepDs.ofStrs : ∀ {ns : List Str}, RepDs K H (ns.map D.str) (ns.map V.str)
  | [] => rfl
  | n :: ns => ⟨.str n, _, rfl, rfl, RepDs.ofStrs⟩
end
/-! ### the rule -/
def keyV (shape : Nat → Bool) : Nat → List V → Option (List TK)
  | _, [] => some []
  | i, .int n :: r => if shape i = true then none else (keyV shape (i + 1) r).map (Sum.inl n :: ·)
  | i, .str x :: r => if shape i = true then (keyV shape (i + 1) r).map (Sum.inr x.cps.toList :: ·) else none
  | _, _ :: _ => none
theorem keyV_items {shape : Nat → Bool} : ∀ {xs : List V} {us : List Value} {i : Nat} {l : List TK}, Vals xs us → keyV shape i xs = some l → PyProof.Rows.tupItems shape i us = some l
  | [], _, _, _, .nil, h => h
  | .int n :: r, _, i, l, .cons ru t, h => by
    obtain ⟨tk, rfl⟩ := ru
    unfold keyV at h
    unfold PyProof.Rows.tupItems
    split at h
    · cases h
    · rename_i hs
      obtain ⟨m, e, rfl⟩ := Option.map_eq_some_iff.mp h
      rw [if_neg hs, keyV_items t e] <;> rfl
  | .str x :: r, _, i, l, .cons ru t, h => by
    obtain ⟨tk, rfl⟩ := ru
    unfold keyV at h
    unfold PyProof.Rows.tupItems
    split at h
    · rename_i hs
      obtain ⟨m, e, rfl⟩ := Option.map_eq_some_iff.mp h
      rw [if_pos hs, keyV_items t e] <;> rfl
    · cases h
def rSortT (K : PySem.W.Frag) : List V → Hp → VK → Prop := fun vs H Q => ∃ (a : Addr) (shape : Nat → Bool) (zs : List (V × List TK)), vs = [V.ref a] ∧ SqL K H a (zs.map (·.1)) ∧
  (∀ z ∈ zs, ∃ t x r, z.1 = V.ref t ∧ SqT K H t (x :: r) ∧ keyV shape 0 (x :: r) = some z.2) ∧
  ∀ (zs' : List (V × List TK)) (p : Addr), zs'.Perm zs → (zs'.map (·.2)).Pairwise tupO.kle → H p = none → Q (.ref p) (upd H p (.lst (zs'.map (·.1))))
def toVal : V → Value
  | .ref a => .ref a
  | _ => .none
theorem vals_toVal : ∀ {xs : List V} {us : List Value}, Vals xs us → (∀ x ∈ xs, ∃ t, x = V.ref t) → us = xs.map toVal
  | _, _, .nil, _ => rfl
  | x :: xs, u :: us, .cons r t, h => by
    obtain ⟨a, rfl⟩ := h x List.mem_cons_self
    cases r
    rw [List.map_cons, vals_toVal t fun y hy => h y (List.mem_cons_of_mem _ hy)]
    rfl
theorem vals_toVal' : ∀ {xs : List V}, (∀ x ∈ xs, ∃ t, x = V.ref t) → Vals xs (xs.map toVal)
  | [], _ => .nil
  | x :: xs, h => by
    obtain ⟨a, rfl⟩ := h x List.mem_cons_self
    exact .cons rfl (vals_toVal' fun y hy => h y (List.mem_cons_of_mem _ hy))
theorem cr_sortT {X : Cx} : CallR X (.builtin "sorted") (rSortT X.K) := by
  intro pins s σ H vs us Q I r h
  obtain ⟨a, shape, zs, rfl, hs, hz, q⟩ := h
  obtain ⟨its, rv, hl, hlen⟩ := I.list hs
  rw [Vals.ref1 r]
  have refs : ∀ x ∈ zs.map (·.1), ∃ t, x = V.ref t := fun x hx => by
    obtain ⟨z, hz', rfl⟩ := List.mem_map.mp hx
    obtain ⟨t, _, _, e, _⟩ := hz z hz'
    exact ⟨t, e⟩
  have eits : its = (zs.map (·.1)).map toVal := vals_toVal rv refs
  -- each item
  have item : ∀ z ∈ zs, ∃ f, PyProof.Rows.TupOf s.heap shape (toVal z.1) f ∧ PyProof.Rows.G.tupKeyC s.heap shape (toVal z.1) = some z.2 := fun z hz' => by
    obtain ⟨t, x, rs, e, ht, hk⟩ := hz z hz'
    obtain ⟨us, ru, ⟨o, ho, hc, n, hd⟩, _⟩ := I.tuple ht
    rw [e]
    have hk2 := keyV_items ru hk
    cases ru with
    | @cons _ u _ us rx rt =>
      refine ⟨u, ⟨t, o, _, n, rfl, ho, hc, hd, by simp, fun hsh => ?_, fun hsh => ?_⟩, ?_⟩
      · cases x with
        | int i => obtain ⟨tk, rfl⟩ := rx; exact ⟨i, tk, rfl⟩
        | str y => unfold keyV at hk; rw [hsh] at hk; cases hk
        | _ => cases hk
      · cases x with
        | str y => obtain ⟨tk, rfl⟩ := rx; exact ⟨y, tk, rfl⟩
        | int i => unfold keyV at hk; rw [hsh] at hk; cases hk
        | _ => cases hk
      · unfold PyProof.Rows.G.tupKeyC PyProof.Rows.G.isTupObj
        simp only [toVal, ho, hc]
        rw [if_pos (by decide)]
        unfold PyProof.Rows.tupKey
        simp only [ho, hd]
        simpa using hk2
  have tups : ∀ l : List (V × List TK), (∀ z ∈ l, z ∈ zs) → ∃ fs, PyProof.Rows.TupsOf s.heap shape (l.map fun z => toVal z.1) fs := by
    intro l
    induction l with
    | nil => intro _; exact ⟨[], .nil⟩
    | cons z l ih =>
      intro hm
      obtain ⟨fs, h1⟩ := ih fun y hy => hm y (List.mem_cons_of_mem _ hy)
      obtain ⟨f, h2, _⟩ := item z (hm z List.mem_cons_self)
      exact ⟨f :: fs, .cons h2 h1⟩
  obtain ⟨fs, ht⟩ := tups zs fun _ h => h
  have em : (zs.map fun z => toVal z.1) = its := by rw [eits, List.map_map]; rfl
  rw [em] at ht
  have lenI : its.length = zs.length := by rw [← em, List.length_map]
  refine PyProof.Rows.G.sorted_tups (shape := shape) hl.isList ht (fun v hv => ?_) (by rw [lenI]; rw [List.length_map] at hlen; exact hlen) fun st' hp hs' _ => ?_
  · rw [← em] at hv
    obtain ⟨z, hz', rfl⟩ := List.mem_map.mp hv
    obtain ⟨_, _, h2⟩ := item z hz'
    exact ⟨_, h2⟩
  · obtain ⟨ep, he'⟩ := PyProof.Rows.sortedAll_at s.heap its ((arrOf st').map (·.2))
    have hpl : (arrOf st').toList.Perm (its.zip its) := by
      have := hp.toList
      rwa [pairsOf_toList] at this
    -- the pairs are of the same twice
    have same : ∀ p ∈ (arrOf st').toList, p.1 = p.2 := fun p hp' => by
      have := (hpl.mem_iff).mp hp'
      exact (PyProof.Rows.mem_zip_self this).1
    have ez : zs.map (fun z => (toVal z.1, toVal z.1)) = its.zip its := by
      rw [← em]
      have key : ∀ l : List (V × List TK), l.map (fun z => (toVal z.1, toVal z.1)) = (l.map fun z => toVal z.1).zip (l.map fun z => toVal z.1) := by
        intro l
        induction l with
        | nil => rfl
        | cons z l ih => simp [ih]
      exact key zs
    obtain ⟨zs', hp', em'⟩ := L2.perm_lift (fun z : V × List TK => (toVal z.1, toVal z.1)) hpl zs ez
    have eout : ((arrOf st').map (·.2)).toList = (zs'.map (·.1)).map toVal := by
      rw [Array.toList_map, ← em', List.map_map, List.map_map]; rfl
    have refs' : ∀ x ∈ zs'.map (·.1), ∃ t, x = V.ref t := fun x hx => by
      obtain ⟨z, hz', rfl⟩ := List.mem_map.mp hx
      obtain ⟨t, _, _, e, _⟩ := hz z ((hp'.mem_iff).mp hz')
      exact ⟨t, e⟩
    have hlen' : (zs'.map (·.1)).length ≤ sizeLine := by rw [List.length_map, hp'.length_eq]; rw [List.length_map] at hlen; exact hlen
    refine ⟨.ref _, upd H (s.heap.objs.size + 1) (.lst (zs'.map (·.1))), I.laid (t' := s.toks) (fun _ _ => PyProof.Rows.sortedAll_old) (Nat.le_succ _) ⟨hlen', ((arrOf st').map (·.2)).toList, ep, by rw [eout]; exact vals_toVal' refs', by simpa only [Array.toArray_toList] using he'⟩, rfl, q zs' _ hp' ?_ (I.hok.fresh (Nat.le_succ _))⟩
    -- sorted by keys
    rw [List.pairwise_iff_getElem]
    intro i j hi hj hij
    rw [List.length_map] at hi hj
    have sz : (arrOf st').size = zs'.length := by rw [← Array.length_toList, ← em', List.length_map]
    have szp : (pairsOf its).size = zs'.length := by rw [pairsOf_size, lenI, hp'.length_eq]
    have kk : ∀ (n : Nat) (hn : n < zs'.length), KK (PyProof.Rows.G.tupKindC s.heap shape) (arrOf st') n = (zs'[n]).2 := fun n hn => by
      unfold KK
      have e1 : (arrOf st')[n]? = some (toVal (zs'[n]).1, toVal (zs'[n]).1) := by
        rw [← Array.getElem?_toList, ← em', List.getElem?_map, List.getElem?_eq_getElem hn] <;> rfl
      rw [e1]
      obtain ⟨_, _, h2⟩ := item zs'[n] ((hp'.mem_iff).mp (List.getElem_mem hn))
      show (PyProof.Rows.G.tupKeyC s.heap shape (toVal zs'[n].1)).getD [] = _
      rw [h2] <;> rfl
    have z := hs' i j (Nat.le_of_lt hij) (by rw [szp]; exact hj)
    rw [kk i hi, kk j hj] at z
    simpa using z
section
variable {K : PySem.W.Frag} {X : Cx}
theorem keyIt_V {H : Hp} {shape : Nat → Bool} : ∀ {ds : List D} {vs : List V} {i : Nat} {l : List TK}, RepDs K H ds vs → keyIt shape i ds = some l → keyV shape i vs = some l
  | [], _, _, _, h, e => by cases h; exact e
  | .int n :: r, _, i, l, h, e => by
    obtain ⟨v, t, rfl, h1, h2⟩ := h
    obtain rfl : v = .int n := h1
    unfold keyIt at e
    unfold keyV
    split at e
    · cases e
    · rename_i hs
      obtain ⟨m, e', rfl⟩ := Option.map_eq_some_iff.mp e
      rw [if_neg hs, keyIt_V h2 e'] <;> rfl
  | .str x :: r, _, i, l, h, e => by
    obtain ⟨v, t, rfl, h1, h2⟩ := h
    obtain rfl : v = .str x := h1
    unfold keyIt at e
    unfold keyV
    split at e
    · rename_i hs
      obtain ⟨m, e', rfl⟩ := Option.map_eq_some_iff.mp e
      rw [if_pos hs, keyIt_V h2 e'] <;> rfl
    · cases e
  | .any :: _, _, _, _, _, h => by cases h
  | .non :: _, _, _, _, _, h => by cases h
  | .bl _ :: _, _, _, _, _, h => by cases h
  | .tup _ :: _, _, _, _, _, h => by cases h
  | .lst _ :: _, _, _, _, _, h => by cases h
  | .dk _ _ :: _, _, _, _, _, h => by cases h
  | .dt _ _ :: _, _, _, _, _, h => by cases h
  | .opq _ :: _, _, _, _, _, h => by cases h
  | .scr _ :: _, _, _, _, _, h => by cases h
theorem keysT_zip {H Hk : Hp} {shape : Nat → Bool} (s : Same Hk H) : ∀ {ds : List D} {vs : List V} {ks : List (List TK)}, RepDs K Hk ds vs → keysT shape ds = some ks →
    ∃ zs : List (V × List TK), zs.map (·.1) = vs ∧ zs.map (·.2) = ks ∧ (∀ z ∈ zs, ∃ t x r, z.1 = V.ref t ∧ SqT K H t (x :: r) ∧ keyV shape 0 (x :: r) = some z.2) ∧ ∀ z ∈ zs, RepD K Hk (unKey z.2) z.1
  | [], _, _, h, e => by cases h; cases e; exact ⟨[], rfl, rfl, fun _ h => (nomatch h), fun _ h => (nomatch h)⟩
  | d :: ds, _, ks, h, e => by
    obtain ⟨v, t, rfl, h1, h2⟩ := h
    unfold keysT at e
    split at e
    · rename_i k ks' ek eks
      cases e
      obtain ⟨zs, a1, a2, a3, a4⟩ := keysT_zip s h2 eks
      have one : (∃ t x r, v = V.ref t ∧ SqT K H t (x :: r) ∧ keyV shape 0 (x :: r) = some k) ∧ RepD K Hk (unKey k) v := by
        cases d with
        | tup items =>
          cases items with
          | nil => cases ek
          | cons x r =>
            have ek : keyIt shape 0 (x :: r) = some k := ek
            obtain ⟨p, us, rfl, q, rr⟩ := id h1
            have hk := keyIt_V rr ek
            obtain ⟨u, us', rfl, _, _⟩ := id rr
            refine ⟨⟨p, u, us', rfl, sqT_same s q, hk⟩, ?_⟩
            show RepD K Hk (.tup (k.map unIt)) (.ref p)
            rw [unIt_key ek]
            exact h1
        | _ => cases ek
      refine ⟨(v, k) :: zs, by rw [List.map_cons, a1], by rw [List.map_cons, a2], fun z hz => ?_, fun z hz => ?_⟩
      · rcases List.mem_cons.mp hz with rfl | hz
        · exact one.1
        · exact a3 z hz
      · rcases List.mem_cons.mp hz with rfl | hz
        · exact one.2
        · exact a4 z hz
    · cases e
theorem unKeys_rep {Hk : Hp} : ∀ {zs : List (V × List TK)}, (∀ z ∈ zs, RepD K Hk (unKey z.2) z.1) → RepDs K Hk ((zs.map (·.2)).map unKey) (zs.map (·.1))
  | [], _ => rfl
  | z :: zs, h => ⟨z.1, _, rfl, h z List.mem_cons_self, unKeys_rep fun y hy => h y (List.mem_cons_of_mem _ hy)⟩
def rSortA (K : PySem.W.Frag) : List V → Hp → VK → Prop := fun vs H Q => rSorted K vs H Q ∨ rSortedS K vs H Q ∨ rSortT K vs H Q
theorem cr_sortA : CallR X (.builtin "sorted") (rSortA X.K) := fun pins s σ H xs us Q I r h => by
  rcases h with h | h | h
  · exact cr_sorted pins s σ H xs us Q I r h
  · exact cr_sortedS pins s σ H xs us Q I r h
  · exact cr_sortT pins s σ H xs us Q I r h
theorem loc_sort : LocN K (fun x H Q => rSortA K [x] H Q) gSort := by
  intro Hk H x ds v Q s hx e k
  cases x with
  | lst xs =>
    obtain ⟨p, vs, rfl, hp, rr⟩ := hx
    have e : sortD xs = some ds := e
    unfold sortD at e
    split at e
    · rename_i ns en
      split at e
      · rename_i hl
        cases e
        rw [intsD_eq en] at rr
        have ev := RepDs.toInts rr
        subst ev
        refine .inl ⟨p, ns, rfl, SqL.of hp, hl, fun ns' q hp' hs' hq => ?_⟩
        have e2 : ns' = sortI ns := sorted_one (le := (· ≤ ·)) (fun a b h1 h2 => Int.le_antisymm h1 h2) (hp'.trans (sortI_perm ns).symm) hs' (sortI_sorted ns)
        subst e2
        exact k q _ hq RepDs.ofInts
      · cases e
    · split at e
      · rename_i ns en
        split at e
        · rename_i hl
          cases e
          rw [strsD_eq en] at rr
          have ev := RepDs.toStrs rr
          subst ev
          refine .inr (.inl ⟨p, ns, rfl, SqL.of hp, hl, fun ns' q hp' hs' hq => ?_⟩)
          have e2 : ns' = sortS ns := sorted_one (le := leS) leS_anti (hp'.trans (sortS_perm ns).symm) (sortedS_pair hs') (sortS_sorted ns)
          subst e2
          exact k q _ hq RepDs.ofStrs
        · cases e
      · unfold sortT at e
        split at e
        · rename_i xs0 ex0
          obtain ⟨ks, eks, rfl⟩ := Option.map_eq_some_iff.mp e
          obtain ⟨zs, a1, a2, a3, a4⟩ := keysT_zip s rr eks
          refine .inr (.inr ⟨p, shapeOf xs0, zs, rfl, by rw [a1]; exact SqL.of hp, a3, fun zs' q hp' hs' hq => ?_⟩)
          have e2 : zs'.map (·.2) = sortO tupO ks := sortO_one (by rw [← a2]; exact hp'.map _) hs'
          refine k q _ hq ?_
          rw [← e2]
          exact unKeys_rep fun z hz => a4 z ((hp'.mem_iff).mp hz)
        · cases e
  | _ => cases e
end
end DL
set_option Elab.async false
set_option linter.all false
set_option maxRecDepth 100000
/-! ER: repr, displayed dicts. -/
namespace DL
open PySem L2 PySem.Spec PyProof.Rows RZ
/-! ### repr -/
def okRepr (p : PyData) : Bool := p.showable && !p.hasDict && decide (p.depth ≤ 64) && decide (p.shown.length ≤ 16777216)
def isRef : D → Bool
  | .tup _ => true
  | .lst _ => true
  | _ => false
def gRepr (d : D) : Option D := if isRef d then (match toPy d with
  | some p => if okRepr p then some (.str p.shown) else none
  | none => none) else none
def rRepr (K : PySem.W.Frag) : List V → Hp → VK → Prop := fun xs H Q => ∃ a d, xs = [V.ref a] ∧ Dp K H (.ref a) d ∧ okRepr d = true ∧ Q (.str d.shown) H
theorem cr_repr {X : Cx} (hr : ∃ k, RoomG k X.A) : CallR X (.builtin "repr") (rRepr X.K) := by
  intro pins s σ H xs us Q I r h
  obtain ⟨a, d, rfl, hd, ok, q⟩ := h
  rw [Vals.ref1 r]
  unfold okRepr at ok
  rw [Bool.and_eq_true, Bool.and_eq_true, Bool.and_eq_true, decide_eq_true_eq, decide_eq_true_eq] at ok
  obtain ⟨⟨⟨h1, h2⟩, h3⟩, h4⟩ := ok
  have h2 : d.hasDict = false := by simpa using h2
  obtain ⟨as, rd⟩ := Dp.reads I d (.ref a) (.ref a) hd rfl
  obtain ⟨k, hk⟩ := hr
  have hu := hk.rm.un
  exact repr_of_reads' rd h1 (PyData.noDict_hsm h2) hk.gd (by omega) (fun _ _ e => e) (fun h' u tk hk' => ⟨.str d.shown, H, I.kept hk', ⟨u, rfl⟩, q⟩) (by rw [sizeLine_eq]; exact h4)
section
variable {K : PySem.W.Frag}
theorem RepB.refd {Hk H : Hp} {d : D} {v : V} (hr : isRef d = true) (h : RepB K Hk H d v) : ∃ a, v = .ref a := by
  cases d with
  | tup ds => obtain ⟨p, _, rfl, _, _⟩ := h; exact ⟨p, rfl⟩
  | lst ds => obtain ⟨p, _, rfl, _, _⟩ := h; exact ⟨p, rfl⟩
  | _ => cases hr
theorem loc_repr : LocC K (rRepr K) gRepr := by
  intro Hk H x d v Q s hx e k
  have e : gRepr x = some d := e
  unfold gRepr at e
  split at e
  · rename_i hr
    split at e
    · rename_i p ep
      split at e
      · rename_i ok
        cases e
        obtain ⟨a, rfl⟩ := RepB.refd hr hx
        exact ⟨a, p, rfl, toPy_dpB s hx ep, ok, k _ Hk H (.refl s) rfl⟩
      · cases e
    · cases e
  · cases e
end
/-! ### displays of dicts -/
def mergeO : List (Key × O) → List Key → List O → List Key × List O
  | [], ks, os => (ks, os)
  | (k, o) :: r, ks, os => mergeO r (putKO ks os k o).1 (putKO ks os k o).2
def pairsE : List (M D × M O) → Env → Option (List (Key × O))
  | [], _ => some []
  | (mk, mv) :: r, ρ => match mk ρ with
    | .ok y ρ1 => (match keyD y with
      | some k => (match mv ρ1 with
        | .ok o ρ2 => (pairsE r ρ2).map ((k, o) :: ·)
        | _ => none)
      | none => none)
    | _ => none
def mDisp (ps : List (M D × M O)) : M O := fun ρ => match pairsE ps ρ with
  | some l => if l.length ≤ 15 then .ok (.dk (mergeO l [] []).1 (mergeO l [] []).2) ρ else .bad
  | none => .bad
inductive DPs (X : Cx) (cl : Wld) (W : WX) (pos : Pos) : List (Option Expr) → List Expr → List (M D × M O) → Prop where
  | nil : DPs X cl W pos [] [] []
  | cons {k v : Expr} {ks : List (Option Expr)} {vs : List Expr} {mk : M D} {mv : M O} {ps : List (M D × M O)} (hk : DE X cl W true k mk) (hv : DO X cl W true v mv) (h : DPs X cl W pos ks vs ps) : DPs X cl W pos (some k :: ks) (v :: vs) ((mk, mv) :: ps)
section
variable {K : PySem.W.Frag} {cl : Wld} {W : WX} {σ : St} {f : Fs} {ρ : Env}
def trOf (K : PySem.W.Frag) (cl : Wld) (W : WX) (ps : List (M D × M O)) : List (TE × TE) := ps.map fun p => (tR K cl W (RD K) true p.1, tR K cl W (RO K cl) true p.2)
theorem pairs_ok : ∀ {ps : List (M D × M O)} {ρ : Env} {f : Fs} {Hk H : Hp} {l : List (Key × O)} {Q : List (V × V) → Hp → Prop}, Cfg K cl Hk H ρ σ f → pairsE ps ρ = some l →
    (∀ Hk' H' (vs : List V) (G : Fp), Grow Hk H Hk' H' → Cfg K cl Hk' H' ρ σ f → RepOs K cl Hk' H' (l.map (·.2)) vs G → G.Nodup → (∀ a ∈ G, Hk' a = none ∧ H a = none) → Q (((l.map (·.1)).map kV).zip vs) H') → tPairs (trOf K cl W ps) σ H Q
  | [], ρ, f, Hk, H, l, Q, c, e, k => by
    cases e
    exact k Hk H [] [] (.refl c.same) c ⟨rfl, rfl⟩ List.nodup_nil fun _ h => nomatch h
  | (mk, mv) :: ps, ρ, f, Hk, H, l, Q, c, e, k => by
    unfold pairsE at e
    refine ⟨Hk, ρ, f, c, ?_⟩
    dsimp only
    cases zk : mk ρ with
    | bad => rw [zk] at e; cases e
    | exc _ _ => rw [zk] at e; cases e
    | ok y ρ1 =>
      rw [zk] at e
      intro yv gy Hk1 H1 f1 c1 _ s1 r1 ry
      obtain ⟨ry, rfl⟩ := ry
      obtain ⟨e1, e2, sh1⟩ := r1 rfl
      subst e1; subst e2
      have g1 : Grow Hk H Hk1 H1 := grown c c1 s1 sh1
      refine ⟨Hk1, ρ1, f1, c1, ?_⟩
      dsimp only at e
      cases ek : keyD y with
      | none => rw [ek] at e; cases e
      | some kk =>
        rw [ek] at e
        dsimp only at e
        cases zv : mv ρ1 with
        | bad => rw [zv] at e; cases e
        | exc _ _ => rw [zv] at e; cases e
        | ok o ρ2 =>
          rw [zv] at e
          intro ov go Hk2 H2 f2 c2 ap2 s2 r2 ro
          obtain ⟨e1, e2, sh2⟩ := r2 rfl
          subst e1; subst e2
          have g2 : Grow Hk1 H1 Hk2 H2 := grown c1 c2 s2 sh2
          obtain ⟨l', el, rfl⟩ := Option.map_eq_some_iff.mp e
          have fresh : ∀ a ∈ go, H1 a = none := fun a ha => by
            rcases s2.ow a (.inl ha) with z | z
            · exact z
            · exact absurd z (ap2.off a ha).2.2
          refine pairs_ok c2 el fun Hk3 H3 vs G g3 c3 rr nd off => ?_
          have eyv := keyD_v ry ek
          subst eyv
          have gg : Grow Hk H Hk3 H3 := (g1.trans g2).trans g3
          have there : ∀ a ∈ go, H2 a ≠ none := fun a ha => by
            obtain ⟨u, e⟩ := ro.there _ _ _ a ha
            rw [e]; (intro z; cases z)
          refine k Hk3 H3 (ov :: vs) (go ++ G) gg c3 ⟨ov, vs, go, G, rfl, rfl, ro.keep g3.kk _ _ _ fun a _ u q => g3.hh a u q, rr⟩ ?_ fun a ha => ?_
          · rw [List.nodup_append]
            exact ⟨ap2.nd, nd, fun a ha b hb e => by
              subst e
              exact there a ha (off a hb).2⟩
          · rcases List.mem_append.mp ha with h | h
            · exact ⟨g3.off (there a h) (ap2.off a h).1, Same.free g1.hh (fresh a h)⟩
            · exact ⟨(off a h).1, Same.free (g1.trans g2).hh (off a h).2⟩
theorem merge_ok {Hk H : Hp} : ∀ {l : List (Key × O)} {us : List V} {ks : List Key} {os : List O} {vs : List V} {G G2 : Fp}, RepOs K cl Hk H os vs G → ks.length = vs.length → ks.Nodup → RepOs K cl Hk H (l.map (·.2)) us G2 → (G ++ G2).Nodup →
    ∃ vs' G', mergeK (ks.zip vs) ((l.map (·.1)).zip us) = (mergeO l ks os).1.zip vs' ∧ (mergeO l ks os).1.length = vs'.length ∧ (mergeO l ks os).1.Nodup ∧ RepOs K cl Hk H (mergeO l ks os).2 vs' G' ∧ G'.Nodup ∧ ∀ a ∈ G', a ∈ G ++ G2
  | [], us, ks, os, vs, G, G2, r, h1, h2, r2, nd => by
    obtain ⟨rfl, rfl⟩ := r2
    exact ⟨vs, G, rfl, h1, h2, r, by simpa using nd, fun a ha => by simpa using ha⟩
  | (k, o) :: l, us, ks, os, vs, G, G2, r, h1, h2, r2, nd => by
    obtain ⟨v, us', g1, g2, rfl, rfl, ro, rr⟩ := r2
    rw [← List.append_assoc] at nd
    have nd1 : (G ++ g1).Nodup := (List.nodup_append.mp nd).1
    have step : ∃ vs1 G1, putK (ks.zip vs) k v = (putKO ks os k o).1.zip vs1 ∧ (putKO ks os k o).1.length = vs1.length ∧ (putKO ks os k o).1.Nodup ∧ RepOs K cl Hk H (putKO ks os k o).2 vs1 G1 ∧ G1.Nodup ∧ ∀ a ∈ G1, a ∈ G ++ g1 := by
      rw [putK_zip h2 h1]
      unfold putKO
      cases ex : ixOf k ks with
      | some j =>
        have hj : j < os.length := by rw [r.length, ← h1]; exact ixOf_lt ex
        obtain ⟨G', q1, q2, q3⟩ := r.put ro nd1 hj
        exact ⟨vs.set j v, G', rfl, by simpa using h1, h2, q1, q3, q2⟩
      | none =>
        refine ⟨vs ++ [v], G ++ g1, rfl, by simp [h1], ?_, r.snoc ro, nd1, fun a h => h⟩
        rw [List.nodup_append]
        exact ⟨h2, by simp, fun a ha b hb eab => by
          have eb : b = k := by simpa using hb
          rw [eab, eb] at ha
          exact ixOf_none ex ha⟩
    obtain ⟨vs1, G1, e1, e2, e3, e4, e5, e6⟩ := step
    have nd2 : (G1 ++ g2).Nodup := by
      rw [List.nodup_append] at nd ⊢
      exact ⟨e5, nd.2.1, fun a ha b hb e => nd.2.2 a (e6 a ha) b hb e⟩
    obtain ⟨vs', G', b1, b2, b3, b4, b5, b6⟩ := merge_ok (l := l) e4 e2 e3 rr nd2
    refine ⟨vs', G', ?_, b2, b3, b4, b5, fun a ha => ?_⟩
    · show mergeK (putK (ks.zip vs) k v) ((l.map (·.1)).zip us') = _
      rw [e1]
      exact b1
    · rcases List.mem_append.mp (b6 a ha) with h | h
      · rcases List.mem_append.mp (e6 a h) with h | h
        · simp [h]
        · simp [h]
      · simp [h]
end
section
variable {X : Cx} {cl : Wld} {W : WX} {r : Bool} {pos : Pos}
theorem DPs.pps {keys : List (Option Expr)} {values : List Expr} {ps : List (M D × M O)} (h : DPs X cl W pos keys values ps) : PPs X pos keys values (trOf X.K cl W ps) := by
  induction h with
  | nil => exact pps_nil
  | cons hk hv _ ih => exact pps_cons hk hv ih
theorem do_disp {keys : List (Option Expr)} {values : List Expr} {ps : List (M D × M O)} (h : DPs X cl W pos keys values ps) (hall : keys.all (·.isSome) = true := by rfl) (hl : keys.length = values.length := by rfl) (h0 : keys ≠ [] := by exact List.cons_ne_nil _ _) (h15 : keys.length ≤ 15 := by decide) :
    DO X cl W true (.Dict keys values pos) (mDisp ps) := PE.imp (pe_disp h.pps hall hl h0 h15) fun σ H Q ⟨Hk, ρ, f, c, q⟩ p hp => by
  unfold mDisp at q
  split at q
  · rename_i l el
    split at q
    · rename_i h15'
      have s1 : Same H (upd H p (.dK [])) := same_upd hp
      have g0 : Grow Hk H Hk (upd H p (.dK [])) := ⟨.refl _, s1, c.same.trans s1, fun _ h => .inl h⟩
      refine pairs_ok (c.grow g0) el fun Hk' H' vs G g c' rr nd off => ?_
      have hp' : H' p = some (.dK []) := g.hh _ _ upd_same
      have hkp : Hk' p = none := g.off (by rw [upd_same]; intro z; cases z) (none_of_same c.same hp)
      have lv : l.length = vs.length := by have := rr.length; rw [List.length_map] at this; exact this
      have gg : Grow Hk H Hk' H' := g0.trans g
      refine ⟨hp', (l.map (·.1)).zip vs, ?_, by rw [List.length_zip, List.length_map, ← lv, Nat.min_self]; exact h15', ?_⟩
      · have key : ∀ (ks : List Key) (vs : List V), (ks.map kV).zip vs = (ks.zip vs).map fun kv => (kV kv.1, kv.2) := by
          intro ks
          induction ks with
          | nil => intro vs; rfl
          | cons a ks ih =>
            intro vs
            cases vs with
            | nil => rfl
            | cons b vs => simp [ih]
        exact key _ _
      · have np : p ∉ G := fun z => by have := (off p z).2; rw [upd_same] at this; cases this
        obtain ⟨vs', G', b1, b2, b3, b4, b5, b6⟩ := merge_ok (K := X.K) (cl := cl) (ks := []) (os := []) (vs := []) (G := []) (l := l) ⟨rfl, rfl⟩ rfl List.nodup_nil rr (by simpa using nd)
        have b1 : mergeK [] ((l.map (·.1)).zip vs) = (mergeO l [] []).1.zip vs' := b1
        have inG : ∀ a ∈ G', a ∈ G := fun a ha => by simpa using b6 a ha
        have np' : p ∉ G' := fun z => np (inG p z)
        rw [b1]
        have su : ∀ a u, a ≠ p → H' a = some u → upd H' p (.dK ((mergeO l [] []).1.zip vs')) a = some u := fun a u n e => by rw [upd_ne n]; exact e
        have gH : Same H (upd H' p (.dK ((mergeO l [] []).1.zip vs'))) := fun a u e => su a u (fun z => by rw [z, hp] at e; cases e) (gg.hh a u e)
        have gK : Same Hk' (upd H' p (.dK ((mergeO l [] []).1.zip vs'))) := fun a u e => su a u (fun z => by rw [z, hkp] at e; cases e) (gg.same a u e)
        have frG : ∀ a ∈ G', H a = none := fun a ha => Same.free s1 (off a (inG a ha)).2
        have cF : Cfg X.K cl Hk' (upd H' p (.dK ((mergeO l [] []).1.zip vs'))) ρ σ f := c.grow ⟨gg.kk, gH, gK, gg.nw⟩
        refine q (.ref p) (p :: G') Hk' _ f cF ⟨List.nodup_cons.mpr ⟨np', b5⟩, fun a ha => ?_⟩ ⟨gg.kk, fun a u _ e => gH a u e, fun a h => (gg.nw a h).elim .inl fun z => .inr (.inl z), fun a h => ?_⟩ (fun _ => ⟨rfl, rfl, gH⟩)
          ⟨p, vs', G', rfl, upd_same, ⟨b2, b3⟩, b4.keep (.refl _) _ _ _ (upd_keep np'), rfl⟩
        · rcases List.mem_cons.mp ha with h | h
          · rw [h]
            exact ⟨hkp, by rw [upd_same]; (intro z; cases z), fun ⟨j, hj⟩ => (c.off j _ hj).2 hp⟩
          · obtain ⟨u, e⟩ := b4.there _ _ _ a h
            refine ⟨(off a (inG a h)).1, ?_, fun ⟨j, hj⟩ => (c.off j _ hj).2 (frG a h)⟩
            rw [su a u (fun z => np' (z ▸ h)) e]; (intro z; cases z)
        · rcases h with h | h
          · rcases List.mem_cons.mp h with h | h
            · rw [h]; exact .inl hp
            · exact .inl (frG a h)
          · exact .inr h
    · exact q.elim
  · exact q.elim
end
end DL
set_option Elab.async false
set_option linter.all false
set_option maxRecDepth 100000
/-! ES: comprehensions with two walks. -/
namespace DL
open PySem L2 PySem.Spec PyProof.Rows RZ
section
variable {K : PySem.W.Frag} {cl : Wld} {W : WX} {σ : St} {f f1 : Fs} {ρ ρ1 : Env} {Hk1 H1 Hk H : Hp}
/-- all is as it was, but for one list of nobody's that grows -/
structure But (D0 : Addr) (Hk1 H1 Hk H : Hp) : Prop where
  kk : Same Hk1 Hk
  hh : ∀ a u, a ≠ D0 → H1 a = some u → H a = some u
  same : Same Hk H
  nw : ∀ a, Hk a ≠ none → Hk1 a ≠ none ∨ H1 a = none
theorem Cfg.but {D0 : Addr} (c : Cfg K cl Hk1 H1 ρ σ f) (b : But D0 Hk1 H1 Hk H) (h0 : ¬ f.all D0) : Cfg K cl Hk H ρ σ f := by
  have ne : ∀ i a, a ∈ f i → a ≠ D0 := fun i a h z => h0 ⟨i, z ▸ h⟩
  refine ⟨c.len, fun i o e => ?_, c.nd, c.dj, fun i a h => ?_, b.same, c.bs.trans b.kk⟩
  · obtain ⟨v, e1, r1⟩ := c.rep i o e
    exact ⟨v, e1, r1.keep b.kk o v (f i) fun a ha u q => b.hh a u (ne i a ha) q⟩
  · obtain ⟨o1, o2⟩ := c.off i a h
    constructor
    · cases q : Hk a with
      | none => rfl
      | some u =>
        rcases b.nw a (by rw [q]; intro z; cases z) with z | z
        · exact absurd o1 z
        · exact absurd z o2
    · cases q : H1 a with
      | none => exact absurd q o2
      | some u => rw [b.hh a u (ne i a h) q]; (intro z; cases z)
theorem But.grow {D0 : Addr} {Hk2 H2 : Hp} (b : But D0 Hk1 H1 Hk H) (g : Grow Hk H Hk2 H2) (n : H D0 ≠ none) (n1 : H1 D0 ≠ none) : But D0 Hk1 H1 Hk2 H2 :=
  ⟨b.kk.trans g.kk, fun a u ne e => g.hh a u (b.hh a u ne e), g.same, fun a h => by
    rcases g.nw a h with z | z
    · exact b.nw a z
    · by_cases q : a = D0
      · subst q; exact absurd z n
      · cases w : H1 a with
        | none => exact .inr rfl
        | some u => rw [b.hh a u q w] at z; cases z⟩
/-- the inner walk -/
theorem lcIn {own : List Nat} {t : D → Env → Option Env} {mc : M Bool} {me : M D} {W0 : WX} {J : It} {xs ys dn0 : List D} {vs0 : List V} {D0 : Addr} (c1 : Cfg K cl Hk1 H1 ρ1 σ f1) (hJ : ItD K Hk1 Hk1 J xs) (h0 : ¬ f1.all D0) (hD0 : H1 D0 = some (.lst vs0)) (hkD0 : Hk1 D0 = none) (rr0 : RepDs K Hk1 dn0 vs0)
    (z : lcR own t mc me ρ1 xs = some ys) (hl : dn0.length + ys.length ≤ 16777216) (Fin : Hp → Prop) (k : ∀ Hk H vs, But D0 Hk1 H1 Hk H → H D0 = some (.lst vs) → Hk D0 = none → RepDs K Hk (dn0 ++ ys) vs → Fin H) :
    ∃ Wv : Nat → Nat → Hp → Prop, (∃ m, Wv 0 m H1) ∧ ∀ i m H, Wv i m H → (J.stop i H ∧ Fin H) ∨ (J.go i H ∧ ∃ Nx : Hp → Prop, (∀ H', Nx H' → ∃ m', m' < m ∧ Wv (i + 1) m' H') ∧ ∀ x H', J.yld i H x H' →
      tG K cl t own x (L2.wipe σ own) H' fun σ2 H2 => L2.wipe σ2 own = L2.wipe σ own ∧ tR K cl W0 RT true mc σ2 H2 fun b H3 => if b = true then tR K cl W0 (RD K) true me σ2 H3 fun y H4 => ∃ acc, H4 D0 = some (.lst acc) ∧ acc.length < sizeLine ∧ Nx (upd H4 D0 (.lst (acc ++ [y]))) else Nx H3) := by
  have n1 : H1 D0 ≠ none := by rw [hD0]; (intro z; cases z)
  let St' : Nat → Hp → Prop := fun i H => ∃ Hk dn vs rest, But D0 Hk1 H1 Hk H ∧ H D0 = some (.lst vs) ∧ Hk D0 = none ∧ RepDs K Hk (dn0 ++ dn) vs ∧ lcR own t mc me ρ1 (xs.drop i) = some rest ∧ dn ++ rest = ys
  refine ⟨fun i m H => m = xs.length - i ∧ i ≤ xs.length ∧ St' i H, ⟨xs.length, by simp, Nat.zero_le _, Hk1, [], vs0, ys, ⟨.refl _, fun _ _ _ e => e, c1.same, fun _ h => .inl h⟩, hD0, hkD0, by simpa using rr0, by simpa using z, rfl⟩, ?_⟩
  rintro i m H ⟨rfl, hi, Hk, dn, vs, rest, bt, hD, hkD, rr, hz, hy⟩
  have nH : H D0 ≠ none := by rw [hD]; (intro z; cases z)
  have sB : Same Hk1 H := bt.kk.trans bt.same
  have c : Cfg K cl Hk H ρ1 σ f1 := c1.but bt h0
  by_cases hlt : i < xs.length
  · obtain ⟨x0, hx0⟩ := get_lt hlt
    have hdrop : xs.drop i = x0 :: xs.drop (i + 1) := by
      rw [List.drop_eq_getElem_cons hlt]
      rw [List.getElem?_eq_getElem hlt] at hx0
      cases hx0; rfl
    refine .inr ⟨hJ.go H i sB hlt, St' (i + 1), fun H' p' => ⟨xs.length - (i + 1), by omega, rfl, hlt, p'⟩, fun x H' y => ?_⟩
    obtain ⟨d, Hk', hd, gr, rd⟩ := hJ.yld Hk H i x H' hlt bt.kk bt.same sB y
    rw [hx0] at hd; cases hd
    rw [hdrop] at hz
    unfold lcR at hz
    split at hz
    · cases hz
    · rename_i ρa ea
      have c' := (c.grow gr).wipe own
      refine ⟨Hk', wipeE ρ1 own, f1, x0, ρa, c', rd, ea, fun σ2 f2 c2 off sub => ?_⟩
      have hw : L2.wipe σ2 own = L2.wipe σ own := (wipe_eq off).trans (wipe_eq wipe_off_of)
      refine ⟨hw, Hk', ρa, f2, c2, ?_⟩
      cases zc : mc ρa with
      | bad => rw [zc] at hz; cases hz
      | exc _ _ => rw [zc] at hz; cases hz
      | ok b ρb =>
        rw [zc] at hz
        intro b' gp Hk3 H3 f3 c3 _ s3' ro3 eb
        obtain ⟨rfl, rfl⟩ := eb
        obtain ⟨e1, e2, sh3⟩ := ro3 rfl
        subst e1
        subst e2
        have g3 : Grow Hk H Hk3 H3 := gr.trans (grown c2 c3 s3' sh3)
        cases b with
        | false =>
          refine iteF ?_
          exact ⟨Hk3, dn, vs, rest, bt.grow g3 nH n1, g3.hh _ _ hD, g3.off nH hkD, rr.same g3.kk, hz, hy⟩
        | true =>
          refine iteT ⟨Hk3, ρb, f3, c3, ?_⟩
          have hz2 : (match me ρb with
            | .ok y _ => (lcR own t mc me ρ1 (xs.drop (i + 1))).map (y :: ·)
            | _ => none) = some rest := hz
          cases ze : me ρb with
          | bad => rw [ze] at hz2; cases hz2
          | exc _ _ => rw [ze] at hz2; cases hz2
          | ok y0 ρc =>
            have hz3 : (lcR own t mc me ρ1 (xs.drop (i + 1))).map (y0 :: ·) = some rest := by rw [ze] at hz2; exact hz2
            clear hz2 hz
            intro v gv Hk4 H4 f4 c4 _ s4' ro4 rv
            obtain ⟨rv, rfl⟩ := rv
            obtain ⟨e1, e2, sh4⟩ := ro4 rfl
            subst e1
            subst e2
            have g4 : Grow Hk H Hk4 H4 := g3.trans (grown c3 c4 s4' sh4)
            obtain ⟨rest', zr, hz4⟩ := Option.map_eq_some_iff.mp hz3
            subst hz4
            have hln : dn0.length + dn.length < 16777216 := by
              have : dn.length + (rest'.length + 1) = ys.length := by rw [← hy, List.length_append, List.length_cons]
              omega
            have b4 := bt.grow g4 nH n1
            refine ⟨vs, g4.hh _ _ hD, line16' (by rw [← rr.length, List.length_append]; exact hln), ?_⟩
            refine ⟨Hk4, dn ++ [y0], vs ++ [v], rest', ⟨b4.kk, fun a u n e => by rw [upd_ne n]; exact b4.hh a u n e, fun a u e => ?_, b4.nw⟩, upd_same, g4.off nH hkD, ?_, zr, by rw [← hy]; simp⟩
            · have := g4.off nH hkD
              rw [upd_ne (fun z => by rw [z, this] at e; cases e)]
              exact g4.same a u e
            · rw [← List.append_assoc]
              exact (rr.same g4.kk).app (RepDs.cons rv rfl)
  · have e : i = xs.length := by omega
    subst e
    refine .inl ⟨hJ.stop H sB, ?_⟩
    rw [List.drop_length] at hz
    have hz : some [] = some rest := hz
    cases hz
    rw [List.append_nil] at hy
    subst hy
    exact k Hk H vs bt hD hkD rr
end
def lc2R (own : List Nat) (t : D → Env → Option Env) (mc : M Bool) (mi1 : M (List D)) (own1 : List Nat) (t1 : D → Env → Option Env) (mc1 : M Bool) (me : M D) (ρ : Env) : List D → Option (List D)
  | [] => some []
  | x :: xs => match t x (wipeE ρ own) with
    | none => none
    | some ρ1 => match mc ρ1 with
      | .ok true ρ2 => (match mi1 ρ2 with
        | .ok ys ρ3 => (match lcR own1 t1 mc1 me ρ3 ys with
          | some zs => (lc2R own t mc mi1 own1 t1 mc1 me ρ xs).map (zs ++ ·)
          | none => none)
        | _ => none)
      | .ok false _ => lc2R own t mc mi1 own1 t1 mc1 me ρ xs
      | _ => none
def endR2 {α : Type} (g : List D → α) (own : List Nat) (t : D → Env → Option Env) (mc : M Bool) (mi1 : M (List D)) (own1 : List Nat) (t1 : D → Env → Option Env) (mc1 : M Bool) (me : M D) (xs : List D) : M α := fun ρ1 => match lc2R own t mc mi1 own1 t1 mc1 me ρ1 xs with
  | some ys => if ys.length ≤ 16777216 then .ok (g ys) ρ1 else .bad
  | none => .bad
section
variable {K : PySem.W.Frag} {cl : Wld} {W : WX} {σ : St} {f f1 : Fs} {ρ ρ1 : Env} {Hk1 H1 Hk H : Hp}
theorem lc2R_read {α : Type} {R : Rl α V} {g : List D → α} {own own1 : List Nat} {t t1 : D → Env → Option Env} {mc mc1 : M Bool} {mi1 : M (List D)} {me : M D} {W0 : WX} {pure : Bool} {J : It} {xs : List D} {Q : VK}
    (NL : NewL K cl R g) (c1 : Cfg K cl Hk1 H1 ρ1 σ f1) (hJ : ItD K Hk1 (bif pure then Hk1 else H1) J xs) (q : EQ K cl W R true σ Hk1 H1 ρ1 f1 (endR2 g own t mc mi1 own1 t1 mc1 me xs ρ1) Q) (D0 : Addr) (n0 : H1 D0 = none) :
    ∃ Wv : Nat → Nat → Hp → Prop, (∃ m, Wv 0 m (upd H1 D0 (.lst []))) ∧ ∀ i m H, Wv i m H → (J.stop i H ∧ Q (.ref D0) H) ∨ (J.go i H ∧ ∃ Nx : Hp → Prop, (∀ H', Nx H' → ∃ m', m' < m ∧ Wv (i + 1) m' H') ∧ ∀ x H', J.yld i H x H' →
      tG K cl t own x (L2.wipe σ own) H' fun σ2 H2 => L2.wipe σ2 own = L2.wipe σ own ∧ tR K cl W0 RT true mc σ2 H2 fun b H3 => if b = true then
        tR K cl W0 (RI K true) true mi1 σ2 H3 fun J1 H4 => ∃ W1 : Nat → Nat → Hp → Prop, (∃ m, W1 0 m H4) ∧ ∀ j k H, W1 j k H → (J1.stop j H ∧ Nx H) ∨ (J1.go j H ∧ ∃ Nx1 : Hp → Prop, (∀ H', Nx1 H' → ∃ k', k' < k ∧ W1 (j + 1) k' H') ∧ ∀ x H', J1.yld j H x H' →
          tG K cl t1 own1 x (L2.wipe σ2 own1) H' fun σ3 H5 => L2.wipe σ3 own1 = L2.wipe σ2 own1 ∧ tR K cl W0 RT true mc1 σ3 H5 fun b H6 => if b = true then tR K cl W0 (RD K) true me σ3 H6 fun y H7 => ∃ acc, H7 D0 = some (.lst acc) ∧ acc.length < sizeLine ∧ Nx1 (upd H7 D0 (.lst (acc ++ [y]))) else Nx1 H6) else Nx H3) := by
  unfold endR2 at q
  cases z : lc2R own t mc mi1 own1 t1 mc1 me ρ1 xs with
  | none => rw [z] at q; exact q.elim
  | some ys =>
    rw [z] at q
    by_cases hl : ys.length ≤ 16777216
    · have q : EQ K cl W R true σ Hk1 H1 ρ1 f1 (.ok (g ys) ρ1) Q := by simpa only [if_pos hl] using q
      let St' : Nat → Hp → Prop := fun i H => ∃ Hk dn vs rest, Same Hk1 Hk ∧ Same H1 H ∧ Same Hk H ∧ (∀ a, Hk a ≠ none → Hk1 a ≠ none ∨ H1 a = none) ∧ H D0 = some (.lst vs) ∧ Hk D0 = none ∧ RepDs K Hk dn vs ∧ lc2R own t mc mi1 own1 t1 mc1 me ρ1 (xs.drop i) = some rest ∧ dn ++ rest = ys
      have hs1 : Same H1 (upd H1 D0 (.lst [])) := same_upd n0
      have sB0 : Same (bif pure then Hk1 else H1) H1 := by cases pure <;> first | exact c1.same | exact .refl _
      refine ⟨fun i m H => m = xs.length - i ∧ i ≤ xs.length ∧ St' i H, ⟨xs.length, by simp, Nat.zero_le _, Hk1, [], [], ys, .refl _, hs1, c1.same.trans hs1, fun _ h => .inl h, upd_same, none_of_same c1.same n0, rfl, by simpa using z, rfl⟩, ?_⟩
      rintro i m H ⟨rfl, hi, Hk, dn, vs, rest, k1, k2, k3, k4, hD, hkD, rr, hz, hy⟩
      have nH : H D0 ≠ none := by rw [hD]; (intro z; cases z)
      have sB : Same (bif pure then Hk1 else H1) H := sB0.trans k2
      have gr0 : Grow Hk1 H1 Hk H := ⟨k1, k2, k3, k4⟩
      have c : Cfg K cl Hk H ρ1 σ f1 := c1.grow gr0
      by_cases hlt : i < xs.length
      · obtain ⟨x0, hx0⟩ := get_lt hlt
        have hdrop : xs.drop i = x0 :: xs.drop (i + 1) := by
          rw [List.drop_eq_getElem_cons hlt]
          rw [List.getElem?_eq_getElem hlt] at hx0
          cases hx0; rfl
        refine .inr ⟨hJ.go H i sB hlt, St' (i + 1), fun H' p' => ⟨xs.length - (i + 1), by omega, rfl, hlt, p'⟩, fun x H' y => ?_⟩
        obtain ⟨d, Hk', hd, gr, rd⟩ := hJ.yld Hk H i x H' hlt k1 k3 sB y
        rw [hx0] at hd; cases hd
        rw [hdrop] at hz
        unfold lc2R at hz
        split at hz
        · cases hz
        · rename_i ρa ea
          have c' := (c.grow gr).wipe own
          refine ⟨Hk', wipeE ρ1 own, f1, x0, ρa, c', rd, ea, fun σ2 f2 c2 off sub => ?_⟩
          have hw : L2.wipe σ2 own = L2.wipe σ own := (wipe_eq off).trans (wipe_eq wipe_off_of)
          refine ⟨hw, Hk', ρa, f2, c2, ?_⟩
          have h02 : ¬ f2.all D0 := fun h => by
            obtain ⟨j, hj⟩ := sub D0 h
            exact (c1.off j _ hj).2 n0
          cases zc : mc ρa with
          | bad => rw [zc] at hz; cases hz
          | exc _ _ => rw [zc] at hz; cases hz
          | ok b ρb =>
            rw [zc] at hz
            intro b' gp Hk3 H3 f3 c3 _ s3' ro3 eb
            obtain ⟨rfl, rfl⟩ := eb
            obtain ⟨e1, e2, sh3⟩ := ro3 rfl
            subst e1
            subst e2
            have g3 : Grow Hk H Hk3 H3 := gr.trans (grown c2 c3 s3' sh3)
            cases b with
            | false =>
              refine iteF ?_
              have gg := gr0.trans g3
              exact ⟨Hk3, dn, vs, rest, gg.kk, gg.hh, gg.same, gg.nw, g3.hh _ _ hD, g3.off nH hkD, rr.same g3.kk, hz, hy⟩
            | true =>
              refine iteT ⟨Hk3, ρb, f3, c3, ?_⟩
              have hz2 : (match mi1 ρb with
                | .ok ys ρ3 => (match lcR own1 t1 mc1 me ρ3 ys with
                  | some zs => (lc2R own t mc mi1 own1 t1 mc1 me ρ1 (xs.drop (i + 1))).map (zs ++ ·)
                  | none => none)
                | _ => none) = some rest := hz
              clear hz
              cases zi : mi1 ρb with
              | bad => rw [zi] at hz2; cases hz2
              | exc _ _ => rw [zi] at hz2; cases hz2
              | ok us ρc =>
                rw [zi] at hz2
                have hz3 : (match lcR own1 t1 mc1 me ρc us with
                  | some zs => (lc2R own t mc mi1 own1 t1 mc1 me ρ1 (xs.drop (i + 1))).map (zs ++ ·)
                  | none => none) = some rest := hz2
                clear hz2
                intro J1 gJ Hk4 H4 f4 c4 _ s4' ro4 rJ
                obtain ⟨rJ, rfl⟩ := rJ
                obtain ⟨e1, e2, sh4⟩ := ro4 rfl
                subst e1
                subst e2
                have g4 : Grow Hk H Hk4 H4 := g3.trans (grown c3 c4 s4' sh4)
                cases zl : lcR own1 t1 mc1 me ρc us with
                | none => rw [zl] at hz3; cases hz3
                | some zs =>
                  rw [zl] at hz3
                  obtain ⟨rest', zr, hz4⟩ := Option.map_eq_some_iff.mp hz3
                  have hln : dn.length + zs.length ≤ 16777216 := by
                    have : dn.length + (zs.length + rest'.length) = ys.length := by rw [← hy, ← hz4, List.length_append, List.length_append]
                    omega
                  refine lcIn c4 rJ h02 (g4.hh _ _ hD) (g4.off nH hkD) (rr.same g4.kk) zl hln (St' (i + 1)) fun Hk5 H5 vs5 b5 hD5 hkD5 rr5 => ?_
                  have gg := gr0.trans g4
                  refine ⟨Hk5, dn ++ zs, vs5, rest', gg.kk.trans b5.kk, fun a u e => b5.hh a u (fun z => by rw [z, n0] at e; cases e) (gg.hh a u e), b5.same, fun a h => ?_, hD5, hkD5, rr5, zr, by rw [← hy, ← hz4, List.append_assoc]⟩
                  rcases b5.nw a h with z | z
                  · exact gg.nw a z
                  · exact .inr (Same.free gg.hh z)
      · have e : i = xs.length := by omega
        subst e
        refine .inl ⟨hJ.stop H sB, ?_⟩
        rw [List.drop_length] at hz
        have hz : some [] = some rest := hz
        cases hz
        rw [List.append_nil] at hy
        subst hy
        exact NL.tell W Hk H ρ1 σ f1 true Hk1 H1 f1 dn D0 vs Q c hD hkD (fun ⟨j, hj⟩ => (c1.off j _ hj).2 n0) rr (Grow.step ⟨k1, k2, k3, k4⟩) n0 fun b gp Hk' H' f' c' ap s' ro x => q b gp Hk' H' f' c' ap s' (fun _ => ⟨rfl, (ro rfl).1, by rw [(ro rfl).2]; exact k2⟩) x
    · simp only [if_neg hl] at q
      exact q.elim
end
section
variable {α : Type} {X : Cx} {cl : Wld} {W W0 : WX} {R : Rl α V} {g : List D → α} {ri : Bool} {pure : Bool} {tg iter tg1 iter1 elt : Expr} {ifs ifs1 : List Expr} {scope : Scope} {own : List (Str × Nat)} {vs1 : List Nat} {pos : Pos} {mi mi1 : M (List D)} {t t1 : D → Env → Option Env} {mc mc1 : M Bool} {me : M D}
theorem lc2R_all (NL : NewL X.K cl R g) (hN : X.N.Nodup) (hi : DI X cl W pure ri tg iter mi) (ok : BlkOk X.N X.env.scope scope own) (hv : ∀ i ∈ vs1, i ∈ own.map (·.2))
    (hg : ∀ (s : Shared) (H : Hp) (C : Addr) (cl' : List (Str × Addr)) (fp : List Addr), PG (X.blk s H scope (compEnvC scope cl' C X.env) fp) tg (tG X.K cl t (own.map (·.2))))
    (ht : ∀ (s : Shared) (H : Hp) (C : Addr) (cl' : List (Str × Addr)) (fp : List Addr), PTs (X.blk s H scope (compEnvC scope cl' C X.env) fp) ifs (tR X.K cl W0 RT true mc))
    (hi1 : ∀ (s : Shared) (H : Hp) (C : Addr) (cl' : List (Str × Addr)) (fp : List Addr), PI (X.blk s H scope (compEnvC scope cl' C X.env) fp) tg1 iter1 (tR X.K cl W0 (RI X.K true) true mi1))
    (hg1 : ∀ (s : Shared) (H : Hp) (C : Addr) (cl' : List (Str × Addr)) (fp : List Addr), PG (X.blk s H scope (compEnvC scope cl' C X.env) fp) tg1 (tG X.K cl t1 vs1))
    (ht1 : ∀ (s : Shared) (H : Hp) (C : Addr) (cl' : List (Str × Addr)) (fp : List Addr), PTs (X.blk s H scope (compEnvC scope cl' C X.env) fp) ifs1 (tR X.K cl W0 RT true mc1))
    (he : ∀ (s : Shared) (H : Hp) (C : Addr) (cl' : List (Str × Addr)) (fp : List Addr), PE (X.blk s H scope (compEnvC scope cl' C X.env) fp) elt (tR X.K cl W0 (RD X.K) true me)) (hc : X.calm = true := by rfl) (hs : ∀ x, foldedSetIterable iter X.env x = Pure.pure x := by intro _; rfl) (hs1 : ∀ env x, foldedSetIterable iter1 env x = Pure.pure x := by intro _ _; rfl) :
    PE X (.ListComp elt [⟨tg, iter, ifs, 0⟩, ⟨tg1, iter1, ifs1, 0⟩] scope pos) (tR X.K cl W R ri (fun ρ => (mi ρ).bind fun xs ρ1 => endR2 g (own.map (·.2)) t mc mi1 vs1 t1 mc1 me xs ρ1)) := by
  refine PE.imp (pe_lc2 hc hN hi ok hv hg ht hi1 hg1 ht1 he hs hs1) fun σ H Q ⟨Hk, ρ, f, c, q⟩ => ?_
  have q' : EQ X.K cl W R (ri && true) σ Hk H ρ f ((mi ρ).bind fun xs ρ1 => endR2 g (own.map (·.2)) t mc mi1 vs1 t1 mc1 me xs ρ1) Q := by rw [eq_true]; exact q
  exact ⟨Hk, ρ, f, c, (EQ.seq RI.p q').mono fun J H1 ⟨xs, Hk1, ρ1, f1, c1, _, _, hJ, q1⟩ D0 n0 => lc2R_read NL c1 hJ.1 q1 D0 n0⟩
end
end DL
set_option Elab.async false
set_option linter.all false
set_option maxRecDepth 100000
/-! ET: a law's end over defs; the module's dicts as data. -/
namespace DL
open PySem L2 PySem.Spec PyProof.Rows RZ
theorem lawG {l : PySem.W.OpenLaw} {n k : Nat} {q : Program} {loose : List Str} {XP : (Str → Option Value) → Heap → Prop} {YP : World → Heap → Prop} {d : DefRec} {x : Str}
    (hn : l.most = some n) (hn2 : n ≤ sizeLine) (hdf : d.params.defaults = []) (hr : RoomG k callerA)
    (F : ∀ (w : World) (mg : Str → Option Value) (fa : Addr) (h : Heap), YP w h → h.Ns mainGlobals mg → mg d.name = some (.ref fa) →
      ∃ (K : PySem.W.Frag) (cl : Wld) (fd : FuncData) (F1 : List O → FRes), K.In h ∧ HOk l.prog w cl.B h ∧ (∀ b, cl.B b ≠ none → K.lookup b = none ∧ b ≠ mainGlobals ∧ b ≠ builtinsNs ∧ b ≠ cStatics ∧ ∃ o u es ep, cl.B b = some (.frz o u) ∧ o.data = .dict es ep) ∧
        (∀ (s : Shared) (u : Value), BindsTo s fd ⟨[u], []⟩ [(x, u)]) ∧ (∀ ns : List Int, ns.length ≤ n → F1 [.d (.scr ns)] = .ok (.d (.bl true)) []) ∧
        ∀ base : Heap, K.In base → base.Ns mainGlobals mg → FnG l.prog w K mg base k fa fd [x] (spF K cl 1 0 F1)) :
    PySem.W.WalkO q loose XP YP l.row.toRowW d [] (fun f vs => PySem.call f vs) := by
  refine Att.attach_call hn hdf fun w s₀ s₁ mg mb fa o pm cd doc a vs ns G Y ho hd hcd hmg hobj hints hlen hg => ?_
  obtain ⟨K, cl, fd, F1, KX, hB, hB2, hbind, hF1, hF⟩ := F w mg fa _ Y G.T.g hmg
  have rv := vals_ints hints
  have lenV := hints.length
  have Ba : cl.B a = none := by
    cases e : cl.B a with
    | none => rfl
    | some u =>
      obtain ⟨_, _, _, _, o', u', es, ep, e1, e2⟩ := hB2 a (by rw [e]; intro z; cases z)
      obtain ⟨e3, _⟩ := hB a _ e1
      rw [hobj] at e3; cases e3
      have e2 : Data.seq vs.toArray _ = Data.dict es ep := e2
      cases e2
  have core : ∀ H : Hp, Same cl.B H → (∀ b, H b = none ∨ ∃ o u, H b = some (.frz o u)) → SqL K H a (ns.map V.int) → HOk l.prog w H s₁.heap → (∀ b, H b ≠ none → b = a ∨ cl.B b ≠ none) → (H a ≠ none → K.lookup a = none) →
      codeAny (model l.prog w) callerA (.call (.ref fa) ⟨[.ref a], []⟩) (fun r s' => r = .ok (.ret (.bool true)) ∧ OldK s₁.heap s'.heap ∧ s'.os = s₁.os ∧ AllBare s'.gens) s₁ := by
    intro H sB hO hS hok hA hK
    have nsK : ∀ {b : Addr} {m : Str → Option Value}, (b = mainGlobals ∨ b = builtinsNs ∨ b = cStatics) → s₁.heap.Ns b m → (hidT s₁.heap H).Ns b m := fun {b m} hb ⟨o, es, ep, e, d, r⟩ => ⟨o, es, ep, hidT_get e (by
      cases z : H b with
      | none => rfl
      | some u =>
        rcases hA b (by rw [z]; intro y; cases y) with e' | e'
        · subst e'
          rw [hobj] at e; cases e
          have d' : Data.seq vs.toArray _ = Data.dict es ep := d
          cases d'
        · obtain ⟨_, n1, n2, n3, _⟩ := hB2 b e'
          rcases hb with h | h | h
          · exact absurd h n1
          · exact absurd h n2
          · exact absurd h n3), d, r⟩
    have hKb : K.In (hidT s₁.heap H) := fun b o e => hidT_get (KX b o e) (by
      cases z : H b with
      | none => rfl
      | some u =>
        have nn : H b ≠ none := by rw [z]; (intro y; cases y)
        rcases hA b nn with e' | e'
        · subst e'
          rw [hK nn] at e; cases e
        · rw [(hB2 b e').1] at e; cases e)
    have hM : Mod K mg (hidT s₁.heap H) := ⟨hKb, nsK (.inl rfl) G.T.g, ⟨mb, nsK (.inr (.inl rfl)) G.T.b, G.T.builtins⟩, let ⟨mc, h1, h2⟩ := G.T.nolimit; ⟨mc, nsK (.inr (.inr rfl)) h1, h2⟩⟩
    have e0 : Env0 l.prog w K mg (hidT s₁.heap H) callerA [] s₁ H := ⟨rfl, hM, fun b o e => of_hidT e, Nat.le_of_eq (hidT_size _ _), trivial, fun b hb => absurd (show b ∈ ([] : List Addr) from hb) (by simp), hok, .of_eq hg⟩
    have hsp : spF K cl 1 0 F1 [.ref a] H (fun v _ => v = .bl true) (fun _ _ _ => False) := by
      refine ⟨rfl, H, [.d (.scr ns)], [], sB, ⟨.ref a, [], [], [], rfl, rfl, ⟨⟨a, rfl, hS⟩, rfl⟩, ⟨rfl, rfl⟩⟩, ⟨.refl _, List.nodup_nil, fun _ h => nomatch h⟩, ?_⟩
      rw [hF1 ns hlen]
      exact fun v g gs Hk' H' r1 _ _ _ => r1.1
    refine codeAny_mono ((hF _ hKb (nsK (.inl rfl) G.T.g)).go (args := ⟨[.ref a], []⟩) (us := [.ref a]) (vs := [.ref a]) hr e0 (hbind s₁ (.ref a)) (.cons rfl .nil) hsp) fun r s' h => ?_
    match r, h with
    | .error e, h =>
      obtain ⟨_, _, _, _, _, _, _, _, _, _, _, _, z⟩ := h
      exact z.elim
    | .ok (.ret u), h =>
      obtain ⟨v, H', os, bare, un, hok', r', qv⟩ := h
      have q' : v = .bl true := qv
      subst q'
      obtain rfl : u = Value.bool true := r'
      refine ⟨rfl, OldK.of_keep fun b o e => ?_, os, bare⟩
      rcases hO b with z | ⟨ob, xs, z⟩
      · exact un.keep b o e z (by intro z; exact absurd (show b ∈ ([] : List Addr) from z) (by simp)) (by simp)
      · obtain ⟨e1, _⟩ := hok b _ z
        obtain ⟨e2, _⟩ := hok' b _ (un.frzs b ob _ z)
        rw [e] at e1; cases e1
        exact e2
  have hBfrz : ∀ b, cl.B b = none ∨ ∃ o u, cl.B b = some (.frz o u) := fun b => by
    cases e : cl.B b with
    | none => exact .inl rfl
    | some u =>
      obtain ⟨_, _, _, _, o', u', _, _, e1, _⟩ := hB2 b (by rw [e]; intro z; cases z)
      rw [e] at e1; exact .inr ⟨o', u', e1⟩
  cases hk : K.lookup a with
  | some o =>
    have e := KX a o hk
    rw [hobj] at e; cases e
    exact core cl.B (.refl _) hBfrz (.inr ⟨_, vs.toArray, _, hk, rfl, rfl, rfl, by rw [List.size_toArray, lenV]; exact Nat.le_trans hlen hn2, by simpa using rv⟩) hB (fun b h => .inr h) fun h => absurd Ba h
  | none =>
    have sB : Same cl.B (upd cl.B a (.frz { cls := .type "list", data := .seq vs.toArray } (.lst (ns.map V.int)))) := same_upd Ba
    refine core _ sB (fun b => ?_) (.inl (.inr ⟨_, upd_same⟩)) (fun b u z => ?_) (fun b h => ?_) fun _ => hk
    · by_cases hb : b = a
      · subst hb; exact .inr ⟨_, _, upd_same⟩
      · rw [upd_ne hb]; exact hBfrz b
    · by_cases hb : b = a
      · subst hb
        rw [upd_same] at z; cases z
        exact ⟨hobj, by rw [List.length_map]; exact Nat.le_trans hlen hn2, vs, _, rv, hobj⟩
      · rw [upd_ne hb] at z
        exact (hB b u z).stay (fun c w' _ r => r) (fun c r => sB c _ r) fun c xs r => sB c _ r
    · by_cases hb : b = a
      · exact .inl hb
      · rw [upd_ne hb] at h; exact .inr h
/-! ### the head's facts, the module's dicts left out of the written part -/
abbrev TabD : Type := Str × List (Str × He.Dv)
def cutK (ts : List TabD) (K : PySem.W.Frag) : PySem.W.Frag := K.filter fun q => !(ts.any fun t => He.ga K t.1 == q.1)
theorem cut_lookup (p : Addr → Bool) {a : Addr} : ∀ K : PySem.W.Frag, (K.filter fun q => p q.1).lookup a = if p a = true then K.lookup a else none
  | [] => by cases p a <;> rfl
  | (b, o) :: K => by
    have ih := cut_lookup p (a := a) K
    rw [List.filter_cons]
    cases hb : p b with
    | true =>
      rw [if_pos rfl]
      show (match a == b with | true => some o | false => (K.filter fun q => p q.1).lookup a) = if p a = true then (match a == b with | true => some o | false => K.lookup a) else none
      cases e : a == b with
      | true =>
        have e' : a = b := beq_iff_eq.mp e
        rw [e', hb] <;> rfl
      | false => exact ih
    | false =>
      rw [if_neg Bool.false_ne_true, ih]
      show _ = if p a = true then (match a == b with | true => some o | false => K.lookup a) else none
      cases e : a == b with
      | true =>
        have e' : a = b := beq_iff_eq.mp e
        rw [e', hb] <;> rfl
      | false => rfl
def tabOk (K K' : PySem.W.Frag) (t : TabD) : Bool := He.eqO (PySem.W.nsIn K' mainGlobals t.1) (some (some (.ref (He.ga K t.1)))) && (!(He.ga K t.1 == mainGlobals) && (!(He.ga K t.1 == builtinsNs) && (!(He.ga K t.1 == cStatics) && (decide (t.2.length ≤ 1000) && (match K.lookup (He.ga K t.1) with
  | some ⟨_, _, .dict es _, _⟩ => He.relAll (t.2.map fun q => q.2.v K') (es.toList.map (·.val))
  | _ => false)))))
abbrev AlM : Type := He.AlD × (Bool × List (Option (List (Option (Str × Int)))))
def obsM (fa : List He.Fa) (fn : List He.DefD) (ts : List TabD) (ex : PySem.W.Frag → Bool) (K : PySem.W.Frag) : AlM := (He.obsD fa fn (cutK ts K), ((ex (cutK ts K) && ts.all fun t => tabOk K (cutK ts K) t), ts.map fun t => He.dicW K (He.ga K t.1)))
def valM (fn : List He.DefD) (ts : List TabD) (w : World) : AlM := (He.valD fn, (true, ts.map fun t => some (He.keysIn w.params (t.2.map (·.1)))))
def SaysM (fa : List He.Fa) (fn : List He.DefD) (ts : List TabD) (ex : PySem.W.Frag → Bool) (w : World) (K : PySem.W.Frag) : Prop := obsM fa fn ts ex K = valM fn ts w
def obsMG (n : Nat) (fa : List He.Fa) (fn : List He.DefD) (ts : List TabD) (ex : PySem.W.Frag → Bool) (g : Addr → Option Obj) : AlM := obsM fa fn ts ex (He.frG g (He.asD g n))
def hookM (n : Nat) (fa : List He.Fa) (fn : List He.DefD) (ts : List TabD) (ex : PySem.W.Frag → Bool) : PySem.W.Hook where
  α := AlM
  obs := fun s => obsMG n fa fn ts ex s.heap.get?
  val := fun w => valM fn ts w
  says := fun w h => ∃ K : PySem.W.Frag, K.In h ∧ SaysM fa fn ts ex w K
  of := fun _ _ e => ⟨_, He.frG_in, e⟩
  keeps := fun _ _ _ ⟨K, hK, c⟩ k => ⟨K, PySem.W.Frag.In.keeps hK k, c⟩
theorem obsMG_eq {n : Nat} {fa : List He.Fa} {fn : List He.DefD} {ts : List TabD} {ex : PySem.W.Frag → Bool} {g : Addr → Option Obj} {s : Shared} (h : ∀ a, g a = s.heap.get? a) : obsMG n fa fn ts ex g = (hookM n fa fn ts ex).obs s := by
  have e : g = s.heap.get? := funext h
  rw [e] <;> rfl
/-- the module's dicts as data -/
def tabB (ts : List TabD) (K : PySem.W.Frag) : Hp := fun a => match ts.find? fun t => He.ga K t.1 == a with
  | some t => (K.lookup a).map fun o => .frz o (.dK (t.2.map fun q => (Sum.inr q.1, q.2.v (cutK ts K))))
  | none => none
def wldOf (ts : List TabD) (K : PySem.W.Frag) : Wld := ⟨He.ga (cutK ts K), tabB ts K⟩
section
variable {fa : List He.Fa} {fn : List He.DefD} {ts : List TabD} {ex : PySem.W.Frag → Bool} {w : World} {K : PySem.W.Frag} {h : Heap}
theorem SaysM.d (c : SaysM fa fn ts ex w K) : He.SaysD fa fn (cutK ts K) := congrArg (fun z : AlM => z.1) c
theorem SaysM.bool (c : SaysM fa fn ts ex w K) : (ex (cutK ts K) && ts.all fun t => tabOk K (cutK ts K) t) = true := congrArg (fun z : AlM => z.2.1) c
theorem SaysM.exs (c : SaysM fa fn ts ex w K) : ex (cutK ts K) = true := (He.ba c.bool).1
theorem SaysM.keys (c : SaysM fa fn ts ex w K) {t : TabD} (h : t ∈ ts) : He.dicW K (He.ga K t.1) = some (He.keysIn w.params (t.2.map (·.1))) := by
  have e : ts.map (fun t => He.dicW K (He.ga K t.1)) = ts.map fun t => some (He.keysIn w.params (t.2.map (·.1))) := congrArg (fun z : AlM => z.2.2) c
  obtain ⟨i, hi, rfl⟩ := List.mem_iff_getElem.mp h
  have e2 := congrArg (fun l => l[i]?) e
  simpa [List.getElem?_map, List.getElem?_eq_getElem hi] using e2
theorem cutK_in (X : K.In h) : (cutK ts K).In h := fun a o e => by
  have e2 := cut_lookup (fun b => !(ts.any fun t => He.ga K t.1 == b)) (a := a) K
  have e3 : (cutK ts K).lookup a = some o := e
  unfold cutK at e3
  rw [e2] at e3
  split at e3
  · exact X a o e3
  · cases e3
theorem cutK_out {a : Addr} (h : tabB ts K a ≠ none) : (cutK ts K).lookup a = none := by
  unfold tabB at h
  cases e : ts.find? fun t => He.ga K t.1 == a with
  | none => rw [e] at h; exact absurd rfl h
  | some t =>
    have h1 := List.find?_some e
    have h2 := List.mem_of_find?_eq_some e
    unfold cutK
    rw [cut_lookup (fun b => !(ts.any fun t => He.ga K t.1 == b))]
    rw [if_neg]
    intro z
    have z' : (ts.any fun t => He.ga K t.1 == a) = false := by simpa using z
    rw [List.any_eq_false] at z'
    exact z' t h2 h1
theorem pairs_of {P : Program} {w : World} : ∀ {l : List DictEntry} {ks : List Str} {us : List V}, l.map He.keyOf = He.keysIn w.params ks → Vals us (l.map (·.val)) → ∃ vs : List (Key × Value), KV ((ks.map Sum.inr).zip us) vs ∧ PySem.Pairs (mixKind P w) l vs ∧ vs.map (·.1) = ks.map Sum.inr
  | [], [], _, _, .nil => ⟨[], .nil, .nil, rfl⟩
  | [], _ :: _, _, h, _ => by cases h
  | _ :: _, [], _, h, _ => by cases h
  | e :: l, k :: ks, u :: us, h, .cons r t => by
    have h1 : He.keyOf e :: l.map He.keyOf = some (k, PyData.keyHash w.params k) :: He.keysIn w.params ks := h
    injection h1 with h2 h3
    obtain ⟨vs, a1, a2, a3⟩ := pairs_of (P := P) h3 t
    refine ⟨(Sum.inr k, e.val) :: vs, .cons ⟨rfl, r⟩ a1, .cons ?_ rfl a2, by rw [List.map_cons, a3] <;> rfl⟩
    unfold He.keyOf at h2
    split at h2
    · rename_i x tk q
      have h4 := Option.some.inj h2
      obtain ⟨rfl, _⟩ := Prod.mk.inj h4
      rw [q]
      exact mixKind_str P w x tk
    · cases h2
theorem keysOf_of {P : Program} {w : World} : ∀ {l : List DictEntry} {ks : List Str}, l.map He.keyOf = He.keysIn w.params ks → ∀ e ∈ l, ∃ k : Key, (mixKind P w).is k e.key = true ∧ e.hash = (mixKind P w).hash k
  | [], _, _, e, he => nomatch he
  | _ :: _, [], h, _, _ => by cases h
  | e :: l, k :: ks, h, e', he => by
    have h1 : He.keyOf e :: l.map He.keyOf = some (k, PyData.keyHash w.params k) :: He.keysIn w.params ks := h
    injection h1 with h2 h3
    rcases List.mem_cons.mp he with rfl | he
    · unfold He.keyOf at h2
      split at h2
      · rename_i x tk q
        have h4 := Option.some.inj h2
        obtain ⟨rfl, h6⟩ := Prod.mk.inj h4
        refine ⟨Sum.inr x, by rw [q]; exact mixKind_str P w x tk, ?_⟩
        rw [h6]
        rfl
      · cases h2
    · exact keysOf_of h3 e' he
/-- each of these dicts stands in the heap as told -/
theorem tab_ok {P : Program} (X : K.In h) (c : SaysM fa fn ts ex w K) (nd : ∀ t ∈ ts, (t.2.map (·.1)).Nodup) {a : Addr} {u : HO} (e : tabB ts K a = some u) :
    ∃ o t es ep, t ∈ ts ∧ He.ga K t.1 = a ∧ u = .frz o (.dK (t.2.map fun q => (Sum.inr q.1, q.2.v (cutK ts K)))) ∧ o.data = .dict es ep ∧ ObjOk P w (tabB ts K) h a u ∧ a ≠ mainGlobals ∧ a ≠ builtinsNs ∧ a ≠ cStatics := by
  unfold tabB at e
  cases ef : ts.find? fun t => He.ga K t.1 == a with
  | none => rw [ef] at e; cases e
  | some t =>
    rw [ef] at e
    have ea : He.ga K t.1 = a := beq_iff_eq.mp (show (He.ga K t.1 == a) = true from List.find?_some (p := fun t : TabD => He.ga K t.1 == a) ef)
    have ht := List.mem_of_find?_eq_some ef
    obtain ⟨o, lo, rfl⟩ := Option.map_eq_some_iff.mp e
    have ok := List.all_eq_true.mp (He.ba c.bool).2 t ht
    obtain ⟨k0, k1⟩ := He.ba ok
    obtain ⟨n1, k2⟩ := He.ba k1
    obtain ⟨n2, k3⟩ := He.ba k2
    obtain ⟨n3, k4⟩ := He.ba k3
    obtain ⟨n4, k5⟩ := He.ba k4
    have kk := c.keys ht
    rw [ea] at k5 n1 n2 n3 kk
    rw [lo] at k5
    unfold He.dicW at kk
    rw [lo] at kk
    obtain ⟨oc, od, dt, osl⟩ := o
    cases oc with
    | type cn =>
      cases od with
      | none =>
        cases dt with
        | dict es ep =>
          have kk1 : (match decide (cn = "dict") && (osl.isEmpty && !(a == sysModules)) with
            | true => some (es.toList.map He.keyOf)
            | false => none) = some (He.keysIn w.params (t.2.map (·.1))) := kk
          cases z : decide (cn = "dict") && (osl.isEmpty && !(a == sysModules)) with
          | false => rw [z] at kk1; cases kk1
          | true =>
            rw [z] at kk1
            have kk2 := Option.some.inj kk1
            obtain ⟨z1, z2⟩ := He.ba z
            obtain ⟨z3, z4⟩ := He.ba z2
            have rel := He.relAll_ok k5
            obtain ⟨vs, a1, a2, a3⟩ := pairs_of (P := P) kk2 rel
            have ez : (t.2.map fun q => ((Sum.inr q.1 : Key), q.2.v (cutK ts K))) = ((t.2.map (·.1)).map Sum.inr).zip (t.2.map fun q => q.2.v (cutK ts K)) := by
              generalize t.2 = l
              induction l with
              | nil => rfl
              | cons q l ih => simp [ih]
            refine ⟨_, t, es, ep, ht, ea, rfl, rfl, ⟨X a _ lo, ?_⟩, by simpa using n1, by simpa using n2, by simpa using n3⟩
            rw [ez]
            refine ⟨?_, by simpa using z4, vs, a1, _, es, ep, X a _ lo, ⟨congrArg Value.type (of_decide_eq_true z1), rfl, Array.isEmpty_iff.mp z3⟩, rfl, fun e he => keysOf_of (P := P) kk2 e (Array.mem_toList_iff.mpr he), a2, ?_⟩
            · rw [List.length_zip, List.length_map, List.length_map, List.length_map, Nat.min_self]
              exact Nat.le_trans (of_decide_eq_true n4) (by rw [sizeLine_eq]; omega)
            · rw [a3]
              have := nd t ht
              rw [List.nodup_iff_pairwise_ne] at this ⊢
              rw [List.pairwise_map]
              exact this.imp fun h e => h (Sum.inr.inj e)
        | _ => cases kk
      | some d => cases dt <;> cases kk
    | _ => cases od <;> cases dt <;> cases kk
/-- a global's name of such a dict -/
theorem tab_glo {mg : Str → Option Value} {base : Heap} (Xb : (cutK ts K).In base) (G : base.Ns mainGlobals mg) (c : SaysM fa fn ts ex w K) {t : TabD} (ht : t ∈ ts) (ndn : ∀ t' ∈ ts, He.ga K t'.1 = He.ga K t.1 → t' = t) :
    mg t.1 = some (.ref (He.ga K t.1)) ∧ ∃ o, tabB ts K (He.ga K t.1) = some (.frz o (.dK (t.2.map fun q => (Sum.inr q.1, q.2.v (cutK ts K))))) := by
  have ok := List.all_eq_true.mp (He.ba c.bool).2 t ht
  obtain ⟨k0, k1⟩ := He.ba ok
  refine ⟨PySem.W.mg_of Xb G (He.eqO_ok k0), ?_⟩
  have kk := c.keys ht
  unfold tabB
  cases ef : ts.find? fun t' => He.ga K t'.1 == He.ga K t.1 with
  | none =>
    have := List.find?_eq_none.mp ef t ht
    simp at this
  | some t' =>
    have e1 := ndn t' (List.mem_of_find?_eq_some ef) (beq_iff_eq.mp (show (He.ga K t'.1 == He.ga K t.1) = true from List.find?_some (p := fun t' : TabD => He.ga K t'.1 == He.ga K t.1) ef))
    subst e1
    unfold He.dicW at kk
    cases lo : K.lookup (He.ga K t'.1) with
    | none =>
      rw [lo] at kk
      cases kk
    | some o => exact ⟨o, rfl⟩
end
end DL
set_option Elab.async false
set_option linter.all false
set_option maxRecDepth 100000
/-! EU: names bound to comprehensions on one line; things moved; calls' bindings. -/
namespace DL
open PySem L2 PySem.Spec PyProof.Rows RZ
section
variable {X : Cx}
theorem ps_setDcN {i : Nat} {y : Str} {py : Pos} {kx vx tg iter : Expr} {ifs : List Expr} {scope : Scope} {own : List (Str × Nat)} {pos spos : Pos} {wi : TI} {g : TG} {tt : TT} {tk tv : TE} (hc : X.calm = true) (hN : X.N.Nodup) (hy : X.N[i]? = some y) (hyl : X.env.scope.names.lookup y = some .local)
    (hsw : swapsWith (.DictComp kx vx [⟨tg, iter, ifs, 0⟩] scope pos) (some (.Name y py)) spos.line X.env = pure true) (hi : PI X tg iter wi) (ok : BlkOk X.N X.env.scope scope own)
    (hg : ∀ (s : Shared) (H : Hp) (C : Addr) (cl : List (Str × Addr)) (fp : List Addr), PG (X.blk s H scope (compEnvC scope cl C X.env) fp) tg g) (ht : ∀ (s : Shared) (H : Hp) (C : Addr) (cl : List (Str × Addr)) (fp : List Addr), PTs (X.blk s H scope (compEnvC scope cl C X.env) fp) ifs tt)
    (hk : ∀ (s : Shared) (H : Hp) (C : Addr) (cl : List (Str × Addr)) (fp : List Addr), PE (X.blk s H scope (compEnvC scope cl C X.env) fp) kx tk)
    (he : ∀ (s : Shared) (H : Hp) (C : Addr) (cl : List (Str × Addr)) (fp : List Addr), PE (X.blk s H scope (compEnvC scope cl C X.env) fp) vx tv) (hs : ∀ x, foldedSetIterable iter X.env x = pure x) :
    PS X (.Assign [.Name y py] (.DictComp kx vx [⟨tg, iter, ifs, 0⟩] scope pos) spos) (tAsg (tDc wi g tt tk tv (own.map (·.2))) (gName i)) := by
  refine ⟨fun pins s σ H D I h => ?_⟩
  rw [exec_Assign_Name_used _ _ _ _ hsw]
  refine wpAny_bind (wpAny_standAt (wpAny_bind ?_))
  show wpAny _ X.A (do let _ ← comprehension (.DictComp kx vx [⟨tg, iter, ifs, 0⟩] scope pos) scope X.env (firstIterPos [⟨tg, iter, ifs, 0⟩] pos) newDict false (eval iter X.env) (some (assign (.Name y py) X.env))) _ _ s
  have hh : tDc wi g tt tk tv (own.map (·.2)) σ H (fun x H1 => gName i x σ H1 D.nx) := h
  refine wpAny_bind (thn (dc_core (Qf := fun _ s' => SP X pins D .next s') hc hN I hi ok hg ht hk he hs hh fun L C s' m H' I' q hn f => ?_) fun _ s' hq => wpAny_pure (wpAny_pure hq))
  show wpAny _ _ (assign (.Name y py) X.env (.ref L)) _ _ _
  refine wpAny_assign_Name (store_ok2 (v := V.ref L) I' hN hy (.inl hyl) rfl (fun s2 I2 ⟨a, sb, ha⟩ => ?_) (.inr hyl))
  obtain ⟨f0, f1, f2, f3, f4, f5⟩ := f
  have haC : C ≠ a := ha.elim (fun z => by rw [z]; exact f1) fun z e => f4 y a z e.symm
  exact ⟨m, hn.sameBut sb haC, fun h3 sb3 => ⟨_, H', I2.turned (t' := s2.toks) (fun b o hb e => (sb3.2 b hb).trans e) f0 f1 f3 f4 f5, q⟩⟩
end
section
variable {K : PySem.W.Frag} {cl : Wld} {W : WX} {pv : List V} {r : Bool} {D : Ends} {σ : St} {H : Hp} {i : Nat}
theorem setS_read {me : M DL.D} (hpi : pv.length ≤ i) (h : tS K cl W pv (sSet i me) D σ H) : tR K cl W (RD K) r me σ H fun v H1 => D.nx (σ.set i (some v)) H1 := by
  obtain ⟨Hk, ρ, f, c, p, q⟩ := h
  refine ⟨Hk, ρ, f, c, (SQ.expr p RD.p q).mono fun v H1 ⟨d, Hk1, ρ1, f1, c1, _, _, hd, q1⟩ => ?_⟩
  unfold setE at q1
  split at q1
  · rename_i hl
    exact q1 _ Hk1 H1 _ (c1.set hl (o := .d d) (g := []) ⟨hd.1, rfl⟩ .nil) (p.off (is := [i]) Off.set fun j hj => by rw [List.mem_singleton.mp hj]; exact hpi) (sub_step (K := K) put_nil)
  · exact q1.elim
theorem setO_read {me : M O} (hpi : pv.length ≤ i) (h : tS K cl W pv (sSetO i me) D σ H) : tR K cl W (RO K cl) r me σ H fun v H1 => D.nx (σ.set i (some v)) H1 := by
  obtain ⟨Hk, ρ, f, c, p, q⟩ := h
  refine ⟨Hk, ρ, f, c, (SQ.own p q).mono fun v H1 ⟨o, g, Hk1, ρ1, f1, c1, ap, st, _, hd, q1⟩ => ?_⟩
  unfold setE at q1
  split at q1
  · rename_i hl
    exact q1 _ Hk1 H1 _ (c1.set hl hd ap) (p.off (is := [i]) Off.set fun j hj => by rw [List.mem_singleton.mp hj]; exact hpi) (st.weak (fun _ h => h) fun a h => Fs.put_all h)
  · exact q1.elim
end
section
variable {X : Cx} {cl : Wld} {W W0 : WX} {pv : List V} {ri : Bool} {pure : Bool} {tg iter elt kx vx : Expr} {ifs : List Expr} {scope : Scope} {own : List (Str × Nat)} {pos spos py : Pos} {mi : M (List D)} {t : D → Env → Option Env} {mc : M Bool} {me mk : M D} {mv : M O} {y : Str}
/-- name = [..] -/
theorem ds_lcX (i : Nat) {rc re : Bool} (hN : X.N.Nodup) (hi : DI X cl W true ri tg iter mi) (ok : BlkOk X.N X.env.scope scope own)
    (hg : ∀ (s : Shared) (H : Hp) (C : Addr) (cl' : List (Str × Addr)) (fp : List Addr), PG (X.blk s H scope (compEnvC scope cl' C X.env) fp) tg (tG X.K cl t (own.map (·.2))))
    (ht : ∀ (s : Shared) (H : Hp) (C : Addr) (cl' : List (Str × Addr)) (fp : List Addr), PTs (X.blk s H scope (compEnvC scope cl' C X.env) fp) ifs (tR X.K cl W0 RT rc mc))
    (he : ∀ (s : Shared) (H : Hp) (C : Addr) (cl' : List (Str × Addr)) (fp : List Addr), PE (X.blk s H scope (compEnvC scope cl' C X.env) fp) elt (tR X.K cl W0 (RD X.K) re me)) (hpi : pv.length ≤ i)
    (hsw : swapsWith (.ListComp elt [⟨tg, iter, ifs, 0⟩] scope pos) (some (.Name y py)) spos.line X.env = Pure.pure true := by exact sw_true rfl rfl rfl rfl) (hy : X.N[i]? = some y := by rfl) (hyl : X.env.scope.names.lookup y = some .local := by rfl) (hc : X.calm = true := by rfl) (hs : ∀ x, foldedSetIterable iter X.env x = Pure.pure x := by intro _; rfl) :
    DS X cl W pv (.Assign [.Name y py] (.ListComp elt [⟨tg, iter, ifs, 0⟩] scope pos) spos) (sSet i (mLcX (own.map (·.2)) mi t mc me)) := PS.imp (ps_setLc hc hN hy hyl hsw hi ok hg ht he hs) fun D σ H h => by
  obtain ⟨Hk, ρ, f, c, q⟩ := setS_read (r := false) hpi h
  have q' : EQ X.K cl W (RD X.K) (ri && false) σ Hk H ρ f ((mi ρ).bind fun xs ρ1 => endX .lst (own.map (·.2)) t mc me xs ρ1) (fun v H1 => D.nx (σ.set i (some v)) H1) := by rw [Bool.and_false]; exact q
  exact ⟨Hk, ρ, f, c, (EQ.seq RI.p q').mono fun J H1 ⟨xs, Hk1, ρ1, f1, c1, _, _, hJ, q1⟩ D0 n0 => lcX_read newL_d c1 hJ.1 q1 D0 n0⟩
theorem ds_lcXO (i : Nat) {rc re : Bool} (hN : X.N.Nodup) (hi : DI X cl W true ri tg iter mi) (ok : BlkOk X.N X.env.scope scope own)
    (hg : ∀ (s : Shared) (H : Hp) (C : Addr) (cl' : List (Str × Addr)) (fp : List Addr), PG (X.blk s H scope (compEnvC scope cl' C X.env) fp) tg (tG X.K cl t (own.map (·.2))))
    (ht : ∀ (s : Shared) (H : Hp) (C : Addr) (cl' : List (Str × Addr)) (fp : List Addr), PTs (X.blk s H scope (compEnvC scope cl' C X.env) fp) ifs (tR X.K cl W0 RT rc mc))
    (he : ∀ (s : Shared) (H : Hp) (C : Addr) (cl' : List (Str × Addr)) (fp : List Addr), PE (X.blk s H scope (compEnvC scope cl' C X.env) fp) elt (tR X.K cl W0 (RD X.K) re me)) (hpi : pv.length ≤ i)
    (hsw : swapsWith (.ListComp elt [⟨tg, iter, ifs, 0⟩] scope pos) (some (.Name y py)) spos.line X.env = Pure.pure true := by exact sw_true rfl rfl rfl rfl) (hy : X.N[i]? = some y := by rfl) (hyl : X.env.scope.names.lookup y = some .local := by rfl) (hc : X.calm = true := by rfl) (hs : ∀ x, foldedSetIterable iter X.env x = Pure.pure x := by intro _; rfl) :
    DS X cl W pv (.Assign [.Name y py] (.ListComp elt [⟨tg, iter, ifs, 0⟩] scope pos) spos) (sSetO i (mLcXO (own.map (·.2)) mi t mc me)) := PS.imp (ps_setLc hc hN hy hyl hsw hi ok hg ht he hs) fun D σ H h => by
  obtain ⟨Hk, ρ, f, c, q⟩ := setO_read (r := false) hpi h
  have q' : EQ X.K cl W (RO X.K cl) (ri && false) σ Hk H ρ f ((mi ρ).bind fun xs ρ1 => endX (fun ys => .ls (ys.map O.d)) (own.map (·.2)) t mc me xs ρ1) (fun v H1 => D.nx (σ.set i (some v)) H1) := by rw [Bool.and_false]; exact q
  exact ⟨Hk, ρ, f, c, (EQ.seq RI.p q').mono fun J H1 ⟨xs, Hk1, ρ1, f1, c1, _, _, hJ, q1⟩ D0 n0 => lcX_read newL_o c1 hJ.1 q1 D0 n0⟩
theorem ds_lcR (i : Nat) (hN : X.N.Nodup) (hi : DI X cl W pure ri tg iter mi) (ok : BlkOk X.N X.env.scope scope own)
    (hg : ∀ (s : Shared) (H : Hp) (C : Addr) (cl' : List (Str × Addr)) (fp : List Addr), PG (X.blk s H scope (compEnvC scope cl' C X.env) fp) tg (tG X.K cl t (own.map (·.2))))
    (ht : ∀ (s : Shared) (H : Hp) (C : Addr) (cl' : List (Str × Addr)) (fp : List Addr), PTs (X.blk s H scope (compEnvC scope cl' C X.env) fp) ifs (tR X.K cl W0 RT true mc))
    (he : ∀ (s : Shared) (H : Hp) (C : Addr) (cl' : List (Str × Addr)) (fp : List Addr), PE (X.blk s H scope (compEnvC scope cl' C X.env) fp) elt (tR X.K cl W0 (RD X.K) true me)) (hpi : pv.length ≤ i)
    (hsw : swapsWith (.ListComp elt [⟨tg, iter, ifs, 0⟩] scope pos) (some (.Name y py)) spos.line X.env = Pure.pure true := by exact sw_true rfl rfl rfl rfl) (hy : X.N[i]? = some y := by rfl) (hyl : X.env.scope.names.lookup y = some .local := by rfl) (hc : X.calm = true := by rfl) (hs : ∀ x, foldedSetIterable iter X.env x = Pure.pure x := by intro _; rfl) :
    DS X cl W pv (.Assign [.Name y py] (.ListComp elt [⟨tg, iter, ifs, 0⟩] scope pos) spos) (sSet i (mLcR (own.map (·.2)) mi t mc me)) := PS.imp (ps_setLc hc hN hy hyl hsw hi ok hg ht he hs) fun D σ H h => by
  obtain ⟨Hk, ρ, f, c, q⟩ := setS_read (r := ri) hpi h
  have q' : EQ X.K cl W (RD X.K) (ri && true) σ Hk H ρ f ((mi ρ).bind fun xs ρ1 => endR .lst (own.map (·.2)) t mc me xs ρ1) (fun v H1 => D.nx (σ.set i (some v)) H1) := by rw [eq_true]; exact q
  exact ⟨Hk, ρ, f, c, (EQ.seq RI.p q').mono fun J H1 ⟨xs, Hk1, ρ1, f1, c1, _, _, hJ, q1⟩ D0 n0 => lcR_read newL_d c1 hJ.1 q1 D0 n0⟩
theorem ds_lcRO (i : Nat) (hN : X.N.Nodup) (hi : DI X cl W pure ri tg iter mi) (ok : BlkOk X.N X.env.scope scope own)
    (hg : ∀ (s : Shared) (H : Hp) (C : Addr) (cl' : List (Str × Addr)) (fp : List Addr), PG (X.blk s H scope (compEnvC scope cl' C X.env) fp) tg (tG X.K cl t (own.map (·.2))))
    (ht : ∀ (s : Shared) (H : Hp) (C : Addr) (cl' : List (Str × Addr)) (fp : List Addr), PTs (X.blk s H scope (compEnvC scope cl' C X.env) fp) ifs (tR X.K cl W0 RT true mc))
    (he : ∀ (s : Shared) (H : Hp) (C : Addr) (cl' : List (Str × Addr)) (fp : List Addr), PE (X.blk s H scope (compEnvC scope cl' C X.env) fp) elt (tR X.K cl W0 (RD X.K) true me)) (hpi : pv.length ≤ i)
    (hsw : swapsWith (.ListComp elt [⟨tg, iter, ifs, 0⟩] scope pos) (some (.Name y py)) spos.line X.env = Pure.pure true := by exact sw_true rfl rfl rfl rfl) (hy : X.N[i]? = some y := by rfl) (hyl : X.env.scope.names.lookup y = some .local := by rfl) (hc : X.calm = true := by rfl) (hs : ∀ x, foldedSetIterable iter X.env x = Pure.pure x := by intro _; rfl) :
    DS X cl W pv (.Assign [.Name y py] (.ListComp elt [⟨tg, iter, ifs, 0⟩] scope pos) spos) (sSetO i (mLcRO (own.map (·.2)) mi t mc me)) := PS.imp (ps_setLc hc hN hy hyl hsw hi ok hg ht he hs) fun D σ H h => by
  obtain ⟨Hk, ρ, f, c, q⟩ := setO_read (r := ri) hpi h
  have q' : EQ X.K cl W (RO X.K cl) (ri && true) σ Hk H ρ f ((mi ρ).bind fun xs ρ1 => endR (fun ys => .ls (ys.map O.d)) (own.map (·.2)) t mc me xs ρ1) (fun v H1 => D.nx (σ.set i (some v)) H1) := by rw [eq_true]; exact q
  exact ⟨Hk, ρ, f, c, (EQ.seq RI.p q').mono fun J H1 ⟨xs, Hk1, ρ1, f1, c1, _, _, hJ, q1⟩ D0 n0 => lcR_read newL_o c1 hJ.1 q1 D0 n0⟩
theorem sw_dict {l : Nat} {gs : List Comprehension} {env : PySem.Env} (hk : env.scope.kind = .function) (hy : env.scope.names.lookup y = some .local) (hl : (py.line == pos.line) = true)
    (ha : (scope.names.any fun (n, k) => n == y && (k == .local || k == .cell)) = false) : swapsWith (.DictComp kx vx gs scope pos) (some (.Name y py)) l env = Pure.pure true := by
  have ky : env.kindOf y = some .local := hy
  have hb : env.blockKind = .function := by unfold PySem.Env.blockKind; rw [hk]; rfl
  unfold swapsWith
  simp only [hb, ky, ha, Expr.pos, hl]
  rfl
theorem ds_dcR (i : Nat) (hN : X.N.Nodup) (hi : DI X cl W pure ri tg iter mi) (ok : BlkOk X.N X.env.scope scope own)
    (hg : ∀ (s : Shared) (H : Hp) (C : Addr) (cl' : List (Str × Addr)) (fp : List Addr), PG (X.blk s H scope (compEnvC scope cl' C X.env) fp) tg (tG X.K cl t (own.map (·.2))))
    (ht : ∀ (s : Shared) (H : Hp) (C : Addr) (cl' : List (Str × Addr)) (fp : List Addr), PTs (X.blk s H scope (compEnvC scope cl' C X.env) fp) ifs (tR X.K cl W0 RT true mc))
    (hk : ∀ (s : Shared) (H : Hp) (C : Addr) (cl' : List (Str × Addr)) (fp : List Addr), PE (X.blk s H scope (compEnvC scope cl' C X.env) fp) kx (tR X.K cl W0 (RD X.K) true mk))
    (he : ∀ (s : Shared) (H : Hp) (C : Addr) (cl' : List (Str × Addr)) (fp : List Addr), PE (X.blk s H scope (compEnvC scope cl' C X.env) fp) vx (tR X.K cl W0 (RO X.K cl) true mv)) (hpi : pv.length ≤ i)
    (hsw : swapsWith (.DictComp kx vx [⟨tg, iter, ifs, 0⟩] scope pos) (some (.Name y py)) spos.line X.env = Pure.pure true := by exact sw_dict rfl rfl rfl rfl) (hy : X.N[i]? = some y := by rfl) (hyl : X.env.scope.names.lookup y = some .local := by rfl) (hc : X.calm = true := by rfl) (hs : ∀ x, foldedSetIterable iter X.env x = Pure.pure x := by intro _; rfl) :
    DS X cl W pv (.Assign [.Name y py] (.DictComp kx vx [⟨tg, iter, ifs, 0⟩] scope pos) spos) (sSetO i (mDcR (own.map (·.2)) mi t mc mk mv)) := PS.imp (ps_setDcN hc hN hy hyl hsw hi ok hg ht hk he hs) fun D σ H h => by
  obtain ⟨Hk, ρ, f, c, q⟩ := setO_read (r := ri) hpi h
  have q' : EQ X.K cl W (RO X.K cl) (ri && true) σ Hk H ρ f ((mi ρ).bind fun xs ρ1 => endDR (own.map (·.2)) t mc mk mv xs ρ1) (fun v H1 => D.nx (σ.set i (some v)) H1) := by rw [eq_true]; exact q
  exact ⟨Hk, ρ, f, c, (EQ.seq RI.p q').mono fun J H1 ⟨xs, Hk1, ρ1, f1, c1, _, _, hJ, q1⟩ D0 n0 => dcR_read c1 hJ.1 q1 D0 n0⟩
end
/-! ### a slot's thing is given away -/
def mMov (i : Nat) : M O := fun ρ => match ρ[i]? with
  | some (some o) => .ok o (ρ.set i none)
  | _ => .bad
section
variable {X : Cx} {cl : Wld} {W : WX} {pos : Pos}
theorem Cfg.take {K : PySem.W.Frag} {Hk H : Hp} {ρ : Env} {σ : St} {f : Fs} {i : Nat} (c : Cfg K cl Hk H ρ σ f) : Cfg K cl Hk H (ρ.set i none) σ (f.put i []) ∧ Apart Hk H (f i) (f.put i []) := by
  have mem : ∀ j a, a ∈ (f.put i []) j → a ∈ f j ∧ j ≠ i := fun j a h => by
    by_cases e : j = i
    · subst e; rw [Fs.put_same] at h; cases h
    · rw [Fs.put_ne e] at h; exact ⟨h, e⟩
  refine ⟨⟨by rw [List.length_set]; exact c.len, fun j o e => ?_, fun j => ?_, fun j k a h1 h2 => c.dj j k a (mem j a h1).1 (mem k a h2).1, fun j a h => c.off j a (mem j a h).1, c.same, c.bs⟩, c.nd i, fun a ha => ⟨(c.off i a ha).1, (c.off i a ha).2, fun ⟨j, hj⟩ => ?_⟩⟩
  · by_cases q : j = i
    · subst q
      rcases Nat.lt_or_ge j ρ.length with h | h
      · rw [List.getElem?_set_self h] at e; cases e
      · rw [List.getElem?_eq_none (by simpa using h)] at e; cases e
    · rw [List.getElem?_set_ne (Ne.symm q)] at e
      obtain ⟨v, e1, r⟩ := c.rep j o e
      exact ⟨v, e1, by rw [Fs.put_ne q]; exact r⟩
  · by_cases q : j = i
    · subst q; rw [Fs.put_same]; exact List.nodup_nil
    · rw [Fs.put_ne q]; exact c.nd j
  · obtain ⟨h1, h2⟩ := mem j a hj
    exact h2 (c.dj j i a h1 ha)
theorem do_mov (i : Nat) {x : Str} (hN : X.N[i]? = some x := by rfl) (hv : Vis X.env.scope x := by first | exact Or.inl rfl | exact Or.inr (Or.inl rfl) | exact Or.inr (Or.inr rfl)) (hd : (x == ("__debug__" : Str)) = false := by decide)
    (hcd : (x == ("__classdict__" : Str)) = false := by decide) : DO X cl W false (.Name x pos) (mMov i) := PE.imp (pe_var (i := i) hN hv hd hcd) fun σ H Q ⟨Hk, ρ, f, c, q⟩ => by
  unfold mMov at q
  split at q
  · rename_i o e
    obtain ⟨v, e2, h⟩ := c.rep i _ e
    obtain ⟨c', ap⟩ := c.take (i := i)
    refine ⟨v, e2, q v (f i) Hk H (f.put i []) c' ap ⟨.refl _, fun _ _ _ h => h, fun _ h => .inl h, fun a h => ?_⟩ (fun z => Bool.noConfusion z) h⟩
    rcases h with h | ⟨j, hj⟩
    · exact .inr ⟨i, h⟩
    · by_cases z : j = i
      · subst z; rw [Fs.put_same] at hj; cases hj
      · rw [Fs.put_ne z] at hj; exact .inr ⟨j, hj⟩
  · exact q.elim
/-- how a call binds where all parameters are given -/
theorem cb_all {d : He.DefD} {ps : List Str} (hd : d.dfl = []) (h : ∀ (kV doc pm : Value) (an : Option Addr) (cdv ct : Value) (us : List Value), us.length = ps.length → bindArgs (PySem.W.fnOf d.name d.qual d.params d.body d.scope .none kV doc pm an cdv ct) ⟨us, []⟩ = pure (ps.zip us)) : CB d ps noDv := fun K f fd F => by
  have F' : FunD K d.name d.qual d.params d.body d.scope [] (d.kws K) f fd := by
    have e : d.dvs K = [] := by unfold He.DefD.dvs; rw [hd]; rfl
    rw [e] at F; exact F
  exact ⟨[], .nil, F'.bindsN h⟩
theorem noDv_rep {K : PySem.W.Frag} : ∀ H, RepDs K H [] (noDv K) := fun _ => rfl
end
end DL
set_option Elab.async false
set_option linter.all false
set_option maxRecDepth 100000
/-! EV: two walks over data; module dicts by name; defaults. -/
namespace DL
open PySem L2 PySem.Spec PyProof.Rows RZ
section
variable {X : Cx} {cl : Wld} {is js : List Nat} {tg : Expr} {t : D → Env → Option Env}
theorem DG.mono (h : DG X cl is tg t) (hs : ∀ i ∈ is, i ∈ js) : DG X cl js tg t := PG.imp h fun v σ H Q ⟨Hk, ρ, f, d, ρ', c, hd, e, k⟩ => ⟨Hk, ρ, f, d, ρ', c, hd, e, fun σ' f' c' o s => k σ' f' c' (o.mono hs) s⟩
end
def mLc2 (own : List Nat) (mi : M (List D)) (t : D → Env → Option Env) (mc : M Bool) (mi1 : M (List D)) (own1 : List Nat) (t1 : D → Env → Option Env) (mc1 : M Bool) (me : M D) : M D := fun ρ => (mi ρ).bind fun xs ρ1 => endR2 .lst own t mc mi1 own1 t1 mc1 me xs ρ1
section
variable {X : Cx} {cl : Wld} {W W0 : WX} {ri : Bool} {pure : Bool} {tg iter tg1 iter1 elt : Expr} {ifs ifs1 : List Expr} {scope : Scope} {own : List (Str × Nat)} {js vs1 : List Nat} {pos : Pos} {mi mi1 : M (List D)} {t t1 : D → Env → Option Env} {mc mc1 : M Bool} {me : M D} {x : Str}
theorem de_lc2 (hN : X.N.Nodup) (hi : DI X cl W pure ri tg iter mi) (ok : BlkOk X.N X.env.scope scope own) (hv : ∀ i ∈ vs1, i ∈ own.map (·.2)) (hj : ∀ i ∈ js, i ∈ own.map (·.2))
    (hg : ∀ (s : Shared) (H : Hp) (C : Addr) (cl' : List (Str × Addr)) (fp : List Addr), PG (X.blk s H scope (compEnvC scope cl' C X.env) fp) tg (tG X.K cl t js))
    (ht : ∀ (s : Shared) (H : Hp) (C : Addr) (cl' : List (Str × Addr)) (fp : List Addr), PTs (X.blk s H scope (compEnvC scope cl' C X.env) fp) ifs (tR X.K cl W0 RT true mc))
    (hi1 : ∀ (s : Shared) (H : Hp) (C : Addr) (cl' : List (Str × Addr)) (fp : List Addr), PI (X.blk s H scope (compEnvC scope cl' C X.env) fp) tg1 iter1 (tR X.K cl W0 (RI X.K true) true mi1))
    (hg1 : ∀ (s : Shared) (H : Hp) (C : Addr) (cl' : List (Str × Addr)) (fp : List Addr), PG (X.blk s H scope (compEnvC scope cl' C X.env) fp) tg1 (tG X.K cl t1 vs1))
    (ht1 : ∀ (s : Shared) (H : Hp) (C : Addr) (cl' : List (Str × Addr)) (fp : List Addr), PTs (X.blk s H scope (compEnvC scope cl' C X.env) fp) ifs1 (tR X.K cl W0 RT true mc1))
    (he : ∀ (s : Shared) (H : Hp) (C : Addr) (cl' : List (Str × Addr)) (fp : List Addr), PE (X.blk s H scope (compEnvC scope cl' C X.env) fp) elt (tR X.K cl W0 (RD X.K) true me)) (hc : X.calm = true := by rfl) (hs : ∀ x, foldedSetIterable iter X.env x = Pure.pure x := by intro _; rfl) (hs1 : ∀ env x, foldedSetIterable iter1 env x = Pure.pure x := by intro _ _; rfl) :
    DE X cl W ri (.ListComp elt [⟨tg, iter, ifs, 0⟩, ⟨tg1, iter1, ifs1, 0⟩] scope pos) (mLc2 (own.map (·.2)) mi t mc mi1 vs1 t1 mc1 me) :=
  lc2R_all newL_d hN hi ok hv (fun s H C cl' fp => DG.mono (hg s H C cl' fp) hj) ht hi1 hg1 ht1 he hc hs hs1
theorem de_gdk {ks : List Key} {ds : List D} {vs : List V} (h : ∃ a o, X.mg x = some (.ref a) ∧ cl.B a = some (.frz o (.dK (ks.zip vs)))) (hl : ks.length = vs.length) (hd : ∀ H, RepDs X.K H ds vs) (hg : Gl X x := by rfl) (hdb : (x == ("__debug__" : Str)) = false := by decide) :
    DE X cl W true (.Name x pos) (mC (.dk ks ds)) := by
  obtain ⟨a, o, h1, h2⟩ := h
  exact de_gref h1 (fun H s => ⟨a, vs, o, rfl, s _ _ h2, hl, hd H⟩) hg hdb
end
/-- n values are given, the defaults behind the first j fill up -/
theorem cb_dfl {d : He.DefD} {ps : List Str} {n j : Nat} (hd : d.dfl ≠ []) (hn : n + (d.dfl.length - j) = ps.length)
    (h : ∀ (T : Addr) (kV doc pm : Value) (an : Option Addr) (cdv ct : Value) (us its : List Value), us.length = n → its.length = d.dfl.length →
      ∃ k, bindArgs (PySem.W.fnOf d.name d.qual d.params d.body d.scope (.ref T) kV doc pm an cdv ct) ⟨us, []⟩ = seqItems? (.ref T) >>= k ∧ k (some its.toArray) = pure (ps.zip (us ++ its.drop j))) : CB d ps fun K => (d.dvs K).drop j := fun K f fd F => by
  have e : (d.dvs K).length = d.dfl.length := by unfold He.DefD.dvs; rw [List.length_map]
  exact F.binds1 n j (fun z => hd (List.map_eq_nil_iff.mp z)) (by rw [e]; exact hn) fun T kV doc pm an cdv ct us its h1 h2 => h T kV doc pm an cdv ct us its h1 (h2.trans e)
end DL
set_option Elab.async false
set_option linter.all false
set_option maxRecDepth 100000
/-! EW: str(a number | a text). -/
namespace DL
open PySem L2 PySem.Spec PyProof.Rows RZ
def gStr2 : D → Option D
  | .int i => if i.natAbs.log2 < 1920 then some (.str (toString i)) else none
  | .str z => some (.str z)
  | _ => none
def rStr2 : List V → Hp → VK → Prop := fun xs H Q => (∃ i, xs = [.int i] ∧ i.natAbs.log2 < 1920 ∧ Q (.str (toString i)) H) ∨ ∃ a, xs = [.str a] ∧ Q (.str a) H
theorem call_str2 {X : Cx} : CallR X (.type "str") rStr2 := call_str_int.or SkE.call_str_str
theorem loc_str2 {K : PySem.W.Frag} : LocC K rStr2 gStr2 := by
  intro Hk H x d v Q s hx e k
  unfold gStr2 at e
  split at e
  · split at e
    · rename_i hl
      cases e; rw [show v = .int _ from hx]; exact .inl ⟨_, rfl, hl, k _ Hk H (.refl s) rfl⟩
    · cases e
  · cases e; rw [show v = .str _ from hx]; exact .inr ⟨_, rfl, k _ Hk H (.refl s) rfl⟩
  · cases e
/-- a new own list from two -/
def gAddN : D → D → Option (List D)
  | .lst xs, .lst ys => if xs.length + ys.length ≤ 16777216 then some (xs ++ ys) else none
  | _, _ => none
def mAddN (ma mb : M D) : M O := fun ρ => (ma ρ).bind fun x ρ1 => (mb ρ1).bind fun y ρ2 => optN (gAddN x) y ρ2
section
variable {X : Cx} {cl : Wld} {W : WX} {ra rb : Bool} {a b : Expr} {pos : Pos}
theorem do_addN {ma mb : M D} (ha : DE X cl W ra a ma) (hb : DB X cl W rb b mb) : DO X cl W (ra && rb) (.BinOp a .Add b pos) (mAddN ma mb) :=
  PE.imp (pe_op op_add4 ha hb) fun σ H Q ⟨Hk, ρ, f, c, q⟩ => by
    have q' : EQ X.K cl W (RO X.K cl) (ra && (rb && true)) σ Hk H ρ f ((ma ρ).bind fun x ρ1 => (mb ρ1).bind fun y ρ2 => optN (gAddN x) y ρ2) Q := by rw [Bool.and_true]; exact q
    refine ⟨Hk, ρ, f, c, (EQ.seq RD.p q').mono fun v H1 ⟨x, Hk1, ρ1, f1, c1, _, _, hx, q1⟩ => ⟨Hk1, ρ1, f1, c1, (EQ.seq RB.p q1).mono fun u H2 ⟨y, Hk2, ρ2, f2, c2, st, _, hy, q2⟩ => ?_⟩⟩
    have hx2 := RepD.toB c2.same (RepD.same st.kk x v hx.1)
    have hy2 := hy.1
    unfold optN at q2
    split at q2
    · rename_i ds e
      unfold gAddN at e
      split at e
      · split at e
        · rename_i hl
          cases e
          obtain ⟨p, vs, rfl, hp, r⟩ := hx2
          obtain ⟨p', vs', rfl, hp', r'⟩ := hy2
          exact .inr (.inr (.inl ⟨p, p', vs, vs', rfl, rfl, hp, hp', line16 (by rw [← r.length, ← r'.length]; exact hl), fun p n => EQ.newOwn c2 q2 (r.app r') p n⟩))
        · cases e
      · cases e
    · exact q2.elim
end
end DL
set_option Elab.async false
set_option linter.all false
set_option maxRecDepth 100000
set_option maxHeartbeats 0
noncomputable section
namespace K85
open PySem L2 DL PySem.Spec PyProof.Rows
def top (i : Nat) : Stmt := PySem.Challenge.pw_passedstands_k85_systems_written_and_rea.main.body.getD i (.Pass ⟨0, 0, 0, 0⟩)
def mem (i j : Nat) : Stmt := match top i with
  | .ClassDef (body := b) .. => b.getD j (.Pass ⟨0, 0, 0, 0⟩)
  | s => s
def c_WAYS : D := .tup [(.str "row"), (.str "loose")]
def c_SIGNS : D := .tup [(.str "under"), (.str "is"), (.str "over")]
def c_SETS : D := .tup [(.str "put"), (.str "add"), (.str "less")]
def tk_SIGN_TEXTS : List Key := [.inr "under", .inr "is", .inr "over"]
def td_SIGN_TEXTS : List D := [(.str "<"), (.str "="), (.str ">")]
def tv_SIGN_TEXTS : List V := [(.str "<"), (.str "="), (.str ">")]
abbrev s_worth_text : Stmt := top 2
def N_worth_text : List Str := ["worth"]
def d_worth_text : He.DefD := ⟨("worth_text", none), "worth_text", "worth_text", defArgs s_worth_text, defBody s_worth_text, defScope s_worth_text, [], []⟩
def m_worth_text : MS := sSeq (sIf (mNot (mTru (mOp1 (gIsi "tuple") (mV 0)))) (sRet 0 (mOp1 gStr2 (mV 0))) (sNil))
  (sSeq (sIf (mT (mOp2 gEq (mOp2 gIxA (mV 0) (mC (.int 0))) (mC (.str "slot")))) (sRet 0 (mOp2 gAdd (mC (.str "s")) (mOp1 gStr2 (mOp2 gIxA (mV 0) (mC (.int 1)))))) (sNil))
  (sRet 0 (mOp2 gIxA (mV 0) (mC (.int 0)))))
def F_worth_text : List O → FRes := runF 1 0 m_worth_text
abbrev k_worth_text : Nat := 0
abbrev s_test_text : Stmt := top 3
def N_test_text : List Str := ["test", "what", "sign", "number", "about"]
def d_test_text : He.DefD := ⟨("test_text", none), "test_text", "test_text", defArgs s_test_text, defBody s_test_text, defScope s_test_text, [], []⟩
def m_test_text : MS := sSeq (sAsg (mV 0) (tgSeq 3 (tgCons (tgN 1) (tgCons (tgN 2) (tgCons (tgN 3) (tgNil))))))
  (sSeq (sSet 4 (mIf (mT (mOp2 gEq (mV 1) (mC (.str "told")))) (mV 1) (mOp2 gAdd (mC (.str "s")) (mOp1 gStr2 (mV 1)))))
  (sRet 0 (mM1 gJoin (mC (.str " ")) (mLst (mCons (mV 4) (mCons (mOp2 gIxA (mC (.dk tk_SIGN_TEXTS td_SIGN_TEXTS)) (mV 2)) (mCons (mOp1 gStr2 (mV 3)) (mNil))))))))
def F_test_text : List O → FRes := runF 5 0 m_test_text
abbrev k_test_text : Nat := 0
abbrev s_act_text : Stmt := top 4
def N_act_text : List Str := ["act", "word", "rest", "ahead", "worth"]
def d_act_text : He.DefD := ⟨("act_text", none), "act_text", "act_text", defArgs s_act_text, defBody s_act_text, defScope s_act_text, [], []⟩
def m_act_text : MS := sSeq (sStar 2 1 (mV 0) (tgCons (tgN 1) (tgCons (tgN 2) (tgNil))))
  (sSeq (sIf (mT (mOp2 gEq (mV 1) (mC (.str "rest")))) (sRet 0 (mV 1)) (sNil))
  (sSeq (sStar 2 0 (mV 2) (tgCons (tgN 3) (tgCons (tgN 4) (tgNil))))
  (sSeq (sIf (mT (mOp2 gEq (mV 1) (mC (.str "send")))) (sRet 0 (mM1 gJoin (mC (.str " ")) (mOp2 gAdd (mOp2 gAdd (mLst (mCons (mV 1) (mNil))) (mV 3)) (mLst (mCons (mFz (mCall 1 [] F_worth_text [] (mCons (mV 4) (mNil)))) (mNil)))))) (sNil))
  (sRet 0 (mM1 gJoin (mC (.str " ")) (mLst (mCons (mV 1) (mCons (mOp2 gAdd (mC (.str "s")) (mOp1 gStr2 (mOp2 gIxA (mV 3) (mC (.int 0))))) (mCons (mFz (mCall 1 [] F_worth_text [] (mCons (mV 4) (mNil)))) (mNil))))))))))
def F_act_text : List O → FRes := runF 5 0 m_act_text
abbrev k_act_text : Nat := 1
abbrev s_rule_text : Stmt := top 5
def N_rule_text : List Str := ["house", "rule", "when", "tests", "acts", "whens", "about", "does", "test", "act"]
def d_rule_text : He.DefD := ⟨("rule_text", none), "rule_text", "rule_text", defArgs s_rule_text, defBody s_rule_text, defScope s_rule_text, [], []⟩
def m_rule_text : MS := sSeq (sAsg (mV 1) (tgSeq 3 (tgCons (tgN 2) (tgCons (tgN 3) (tgCons (tgN 4) (tgNil))))))
  (sSeq (sSet 5 (mIf (mT (mOp2 gEq (mV 2) (mTup (mCons (mC (.str "self")) (mNil))))) (mC (.str "self")) (mOp2 gAdd (mC (.str "on ")) (mOp2 gIxA (mV 2) (mC (.int 1))))))
  (sSeq (sSet 6 (mOrV (mM1 gJoin (mC (.str " & ")) (mLcR [8] (mItems (mV 3)) (tgN 8) (mYes) (mFz (mCall 1 [] F_test_text [] (mCons (mV 8) (mNil)))))) (mC (.str "."))))
  (sSeq (sSet 7 (mOrV (mM1 gJoin (mC (.str " , ")) (mLcR [9] (mItems (mV 4)) (tgN 9) (mYes) (mFz (mCall 1 [] F_act_text [] (mCons (mV 9) (mNil)))))) (mC (.str "."))))
  (sRet 0 (mM1 gJoin (mC (.str " ; ")) (mLst (mCons (mOp2 gAdd (mOp2 gAdd (mOp2 gAdd (mC (.str "rule ")) (mV 0)) (mC (.str " "))) (mV 5)) (mCons (mV 6) (mCons (mV 7) (mNil))))))))))
def F_rule_text : List O → FRes := runF 10 0 m_rule_text
abbrev k_rule_text : Nat := 2
abbrev s_ended : Stmt := top 6
def N_ended : List Str := ["lines", "line"]
def d_ended : He.DefD := ⟨("ended", none), "ended", "ended", defArgs s_ended, defBody s_ended, defScope s_ended, [], []⟩
def m_ended : MS := sRet 0 (mM1 gJoin (mC (.str "")) (mLcR [1] (mItems (mV 0)) (tgN 1) (mYes) (mOp2 gAdd (mV 1) (mC (.str "\n")))))
def F_ended : List O → FRes := runF 2 0 m_ended
abbrev k_ended : Nat := 0
abbrev s_system_text : Stmt := top 7
def N_system_text : List Str := ["system", "net", "programs", "lines", "house", "road", "program", "rule"]
def d_system_text : He.DefD := ⟨("system_text", none), "system_text", "system_text", defArgs s_system_text, defBody s_system_text, defScope s_system_text, [], []⟩
def m_system_text : MS := sSeq (sAsg (mV 0) (tgSeq 2 (tgCons (tgN 1) (tgCons (tgN 2) (tgNil)))))
  (sSeq (sSetO 3 (mAddN (mLcR [4] (mItems (mOp2 gIxA (mV 1) (mC (.int 0)))) (tgN 4) (mYes) (mOp2 gAdd (mC (.str "house ")) (mV 4))) (mLcR [5] (mItems (mOp2 gIxA (mV 1) (mC (.int 1)))) (tgN 5) (mYes) (mM1 gJoin (mC (.str " ")) (mOp2 gAdd (mTup (mCons (mC (.str "road")) (mNil))) (mV 5))))))
  (sSeq (sDrop (mFz (mMut "list" gExtend (mPs 3) (mOs (mCons (mLc2 [4, 6, 7] (mBin gZip (mOp2 gIxA (mV 1) (mC (.int 0))) (mV 2)) (tgSeq 2 (tgCons (tgN 4) (tgCons (tgN 6) (tgNil)))) mYes (mItems (mV 6)) [7] (tgN 7) mYes (mFz (mCall 2 [] F_rule_text [] (mCons (mV 4) (mCons (mV 7) (mNil)))))) (mNil))))))
  (sRetO 0 (mCall 1 [] F_ended [] (mCons (mFz (mMov 3)) (mNil))))))
def F_system_text : List O → FRes := runF 8 0 m_system_text
abbrev k_system_text : Nat := 3
abbrev s_is_name : Stmt := top 14
def N_is_name : List Str := ["thing", "sign"]
def d_is_name : He.DefD := ⟨("is_name", none), "is_name", "is_name", defArgs s_is_name, defBody s_is_name, defScope s_is_name, [], []⟩
def m_is_name : MS := sRet 0 (mAndV (mOp1 (gIsi "str") (mV 0)) (mAndV (mChain gLe gLe (mC (.int 1)) (mOp1 gLen (mV 0)) (mC (.int 8))) (mOp1 gAll (mLcR [1] (mItems (mV 0)) (tgN 1) (mYes) (mOp2 gInA (mV 1) (mC (.str "abcdefghijklmnopqrstuvwxyz")))))))
def F_is_name : List O → FRes := runF 2 0 m_is_name
abbrev k_is_name : Nat := 0
abbrev s_is_whole : Stmt := top 15
def N_is_whole : List Str := ["thing"]
def d_is_whole : He.DefD := ⟨("is_whole", none), "is_whole", "is_whole", defArgs s_is_whole, defBody s_is_whole, defScope s_is_whole, [], []⟩
def m_is_whole : MS := sRet 0 (mAndV (mOp1 (gIsi "int") (mV 0)) (mOp1 gNotV (mOp1 (gIsi "bool") (mV 0))))
def F_is_whole : List O → FRes := runF 1 0 m_is_whole
abbrev k_is_whole : Nat := 0
abbrev s_is_from : Stmt := top 16
def N_is_from : List Str := ["thing", "least", "most"]
def d_is_from : He.DefD := ⟨("is_from", none), "is_from", "is_from", defArgs s_is_from, defBody s_is_from, defScope s_is_from, [], []⟩
def m_is_from : MS := sRet 0 (mAndV (mFz (mCall 1 [] F_is_whole [] (mCons (mV 0) (mNil)))) (mChain gLe gLe (mV 1) (mV 0) (mV 2)))
def F_is_from : List O → FRes := runF 3 0 m_is_from
abbrev k_is_from : Nat := 1
abbrev s_is_row : Stmt := top 17
def N_is_row : List Str := ["thing", "least", "most"]
def d_is_row : He.DefD := ⟨("is_row", none), "is_row", "is_row", defArgs s_is_row, defBody s_is_row, defScope s_is_row, [], []⟩
def m_is_row : MS := sRet 0 (mAndV (mOp1 (gIsi "tuple") (mV 0)) (mChain gLe gLe (mV 1) (mOp1 gLen (mV 0)) (mV 2)))
def F_is_row : List O → FRes := runF 3 0 m_is_row
abbrev k_is_row : Nat := 0
abbrev s_is_road : Stmt := top 22
def N_is_road : List Str := ["houses", "thing", "road", "one", "other", "way", "part"]
def d_is_road : He.DefD := ⟨("is_road", none), "is_road", "is_road", defArgs s_is_road, defBody s_is_road, defScope s_is_road, [], []⟩
def m_is_road : MS := sSeq (sIf (mOr (mNot (mTru (mFz (mCall 3 [] F_is_row [] (mCons (mV 1) (mCons (mC (.int 4)) (mCons (mC (.int 4)) (mNil)))))))) (mNot (mTru (mOp1 gAll (mLcR [6] (mItems (mV 1)) (tgN 6) (mYes) (mOp1 (gIsi "str") (mV 6))))))) (sRet 0 (mC (.bl false))) (sNil))
  (sSeq (sAsg (mV 1) (tgSeq 4 (tgCons (tgN 2) (tgCons (tgN 3) (tgCons (tgN 4) (tgCons (tgN 5) (tgNil)))))))
  (sRet 0 (mAndV (mFz (mCall 1 [] F_is_name [] (mCons (mV 2) (mNil)))) (mAndV (mOp2 gInA (mV 3) (mV 0)) (mAndV (mOp2 gInA (mV 4) (mV 0)) (mAndV (mOp2 gNe (mV 3) (mV 4)) (mOp2 gInA (mV 5) (mC c_WAYS))))))))
def F_is_road : List O → FRes := runF 7 0 m_is_road
abbrev k_is_road : Nat := 1
abbrev s_roads_out : Stmt := top 23
def N_roads_out : List Str := ["net", "house", "road", "one", "other", "way"]
def d_roads_out : He.DefD := ⟨("roads_out", none), "roads_out", "roads_out", defArgs s_roads_out, defBody s_roads_out, defScope s_roads_out, [], []⟩
def m_roads_out : MS := sRetO 0 (mLcRO [2, 3, 4, 5] (mItems (mOp2 gIxA (mV 0) (mC (.int 1)))) (tgSeq 4 (tgCons (tgN 2) (tgCons (tgN 3) (tgCons (tgN 4) (tgCons (tgN 5) (tgNil)))))) (mT (mOp2 gEq (mV 3) (mV 1))) (mV 2))
def F_roads_out : List O → FRes := runF 6 0 m_roads_out
abbrev k_roads_out : Nat := 0
abbrev s_is_slot : Stmt := top 32
def N_is_slot : List Str := ["thing"]
def d_is_slot : He.DefD := ⟨("is_slot", none), "is_slot", "is_slot", defArgs s_is_slot, defBody s_is_slot, defScope s_is_slot, [], []⟩
def m_is_slot : MS := sRetO 0 (mCall 3 [] F_is_from [] (mCons (mV 0) (mCons (mC (.int 0)) (mCons (mOp2 gSub (mC (.int 3)) (mC (.int 1))) (mNil)))))
def F_is_slot : List O → FRes := runF 1 0 m_is_slot
abbrev k_is_slot : Nat := 2
abbrev s_is_number : Stmt := top 33
def N_is_number : List Str := ["thing"]
def d_is_number : He.DefD := ⟨("is_number", none), "is_number", "is_number", defArgs s_is_number, defBody s_is_number, defScope s_is_number, [], []⟩
def m_is_number : MS := sRetO 0 (mCall 3 [] F_is_from [] (mCons (mV 0) (mCons (mOp2 gSub (mC (.int 1)) (mC (.int 1000000000000000000000000000000))) (mCons (mOp2 gSub (mC (.int 1000000000000000000000000000000)) (mC (.int 1))) (mNil)))))
def F_is_number : List O → FRes := runF 1 0 m_is_number
abbrev k_is_number : Nat := 2
abbrev s_is_sign : Stmt := top 34
def N_is_sign : List Str := ["thing"]
def d_is_sign : He.DefD := ⟨("is_sign", none), "is_sign", "is_sign", defArgs s_is_sign, defBody s_is_sign, defScope s_is_sign, [], []⟩
def m_is_sign : MS := sRet 0 (mAndV (mOp1 (gIsi "str") (mV 0)) (mOp2 gInA (mV 0) (mC c_SIGNS)))
def F_is_sign : List O → FRes := runF 1 0 m_is_sign
abbrev k_is_sign : Nat := 0
abbrev s_is_when : Stmt := top 35
def N_is_when : List Str := ["thing"]
def d_is_when : He.DefD := ⟨("is_when", none), "is_when", "is_when", defArgs s_is_when, defBody s_is_when, defScope s_is_when, [], []⟩
def m_is_when : MS := sSeq (sIf (mOr (mNot (mTru (mFz (mCall 3 [] F_is_row [] (mCons (mV 0) (mCons (mC (.int 1)) (mCons (mC (.int 2)) (mNil)))))))) (mNot (mTru (mOp1 (gIsi "str") (mOp2 gIxA (mV 0) (mC (.int 0))))))) (sRet 0 (mC (.bl false))) (sNil))
  (sSeq (sIf (mT (mOp2 gEq (mOp1 gLen (mV 0)) (mC (.int 1)))) (sRet 0 (mOp2 gEq (mOp2 gIxA (mV 0) (mC (.int 0))) (mC (.str "self")))) (sNil))
  (sRet 0 (mAndV (mOp2 gEq (mOp2 gIxA (mV 0) (mC (.int 0))) (mC (.str "letter"))) (mFz (mCall 1 [] F_is_name [] (mCons (mOp2 gIxA (mV 0) (mC (.int 1))) (mNil)))))))
def F_is_when : List O → FRes := runF 1 0 m_is_when
abbrev k_is_when : Nat := 1
abbrev s_is_test : Stmt := top 36
def N_is_test : List Str := ["thing", "is_letter"]
def d_is_test : He.DefD := ⟨("is_test", none), "is_test", "is_test", defArgs s_is_test, defBody s_is_test, defScope s_is_test, [], []⟩
def m_is_test : MS := sSeq (sIf (mOr (mNot (mTru (mFz (mCall 3 [] F_is_row [] (mCons (mV 0) (mCons (mC (.int 3)) (mCons (mC (.int 3)) (mNil)))))))) (mOr (mNot (mTru (mFz (mCall 1 [] F_is_sign [] (mCons (mOp2 gIxA (mV 0) (mC (.int 1))) (mNil)))))) (mNot (mTru (mFz (mCall 1 [] F_is_number [] (mCons (mOp2 gIxA (mV 0) (mC (.int 2))) (mNil)))))))) (sRet 0 (mC (.bl false))) (sNil))
  (sRet 0 (mOrV (mFz (mCall 1 [] F_is_slot [] (mCons (mOp2 gIxA (mV 0) (mC (.int 0))) (mNil)))) (mAndV (mV 1) (mAndV (mOp1 (gIsi "str") (mOp2 gIxA (mV 0) (mC (.int 0)))) (mOp2 gEq (mOp2 gIxA (mV 0) (mC (.int 0))) (mC (.str "told")))))))
def F_is_test : List O → FRes := runF 2 0 m_is_test
abbrev k_is_test : Nat := 3
abbrev s_is_worth : Stmt := top 37
def N_is_worth : List Str := ["thing", "is_letter"]
def d_is_worth : He.DefD := ⟨("is_worth", none), "is_worth", "is_worth", defArgs s_is_worth, defBody s_is_worth, defScope s_is_worth, [], []⟩
def m_is_worth : MS := sSeq (sIf (mTru (mFz (mCall 1 [] F_is_number [] (mCons (mV 0) (mNil))))) (sRet 0 (mC (.bl true))) (sNil))
  (sSeq (sIf (mOr (mNot (mTru (mFz (mCall 3 [] F_is_row [] (mCons (mV 0) (mCons (mC (.int 1)) (mCons (mC (.int 2)) (mNil)))))))) (mNot (mTru (mOp1 (gIsi "str") (mOp2 gIxA (mV 0) (mC (.int 0))))))) (sRet 0 (mC (.bl false))) (sNil))
  (sSeq (sIf (mT (mOp2 gEq (mOp1 gLen (mV 0)) (mC (.int 2)))) (sRet 0 (mAndV (mOp2 gEq (mOp2 gIxA (mV 0) (mC (.int 0))) (mC (.str "slot"))) (mFz (mCall 1 [] F_is_slot [] (mCons (mOp2 gIxA (mV 0) (mC (.int 1))) (mNil)))))) (sNil))
  (sRet 0 (mAndV (mV 1) (mOp2 gEq (mOp2 gIxA (mV 0) (mC (.int 0))) (mC (.str "told")))))))
def F_is_worth : List O → FRes := runF 2 0 m_is_worth
abbrev k_is_worth : Nat := 3
abbrev s_is_act : Stmt := top 38
def N_is_act : List Str := ["out", "thing", "is_letter", "word", "rest"]
def d_is_act : He.DefD := ⟨("is_act", none), "is_act", "is_act", defArgs s_is_act, defBody s_is_act, defScope s_is_act, [], []⟩
def m_is_act : MS := sSeq (sIf (mOr (mNot (mTru (mFz (mCall 3 [] F_is_row [] (mCons (mV 1) (mCons (mC (.int 1)) (mCons (mC (.int 4)) (mNil)))))))) (mNot (mTru (mOp1 (gIsi "str") (mOp2 gIxA (mV 1) (mC (.int 0))))))) (sRet 0 (mC (.bl false))) (sNil))
  (sSeq (sStar 2 1 (mV 1) (tgCons (tgN 3) (tgCons (tgN 4) (tgNil))))
  (sSeq (sIf (mT (mOp2 gEq (mV 3) (mC (.str "rest")))) (sRet 0 (mOp2 gEq (mV 4) (mLst (mNil)))) (sNil))
  (sSeq (sIf (mT (mOp2 gInA (mV 3) (mC c_SETS))) (sRet 0 (mAndV (mOp2 gEq (mOp1 gLen (mV 4)) (mC (.int 2))) (mAndV (mFz (mCall 1 [] F_is_slot [] (mCons (mOp2 gIxA (mV 4) (mC (.int 0))) (mNil)))) (mFz (mCall 2 [] F_is_worth [] (mCons (mOp2 gIxA (mV 4) (mC (.int 1))) (mCons (mV 2) (mNil)))))))) (sNil))
  (sSeq (sIf (mOr (mT (mOp2 gNe (mV 3) (mC (.str "send")))) (mOr (mT (mOp2 gNe (mOp1 gLen (mV 4)) (mC (.int 3)))) (mOr (mNot (mTru (mOp1 (gIsi "str") (mOp2 gIxA (mV 4) (mC (.int 0)))))) (mT (mOp2 gNotInA (mOp2 gIxA (mV 4) (mC (.int 0))) (mV 0)))))) (sRet 0 (mC (.bl false))) (sNil))
  (sRet 0 (mAndV (mFz (mCall 1 [] F_is_name [] (mCons (mOp2 gIxA (mV 4) (mC (.int 1))) (mNil)))) (mFz (mCall 2 [] F_is_worth [] (mCons (mOp2 gIxA (mV 4) (mC (.int 2))) (mCons (mV 2) (mNil)))))))))))
def F_is_act : List O → FRes := runF 5 0 m_is_act
abbrev k_is_act : Nat := 4
abbrev s_is_rule : Stmt := top 39
def N_is_rule : List Str := ["out", "thing", "when", "tests", "acts", "is_letter", "act", "test"]
def d_is_rule : He.DefD := ⟨("is_rule", none), "is_rule", "is_rule", defArgs s_is_rule, defBody s_is_rule, defScope s_is_rule, [], []⟩
def m_is_rule : MS := sSeq (sIf (mOr (mNot (mTru (mFz (mCall 3 [] F_is_row [] (mCons (mV 1) (mCons (mC (.int 3)) (mCons (mC (.int 3)) (mNil)))))))) (mNot (mTru (mFz (mCall 1 [] F_is_when [] (mCons (mOp2 gIxA (mV 1) (mC (.int 0))) (mNil))))))) (sRet 0 (mC (.bl false))) (sNil))
  (sSeq (sAsg (mV 1) (tgSeq 3 (tgCons (tgN 2) (tgCons (tgN 3) (tgCons (tgN 4) (tgNil))))))
  (sSeq (sSet 5 (mOp2 gEq (mOp2 gIxA (mV 2) (mC (.int 0))) (mC (.str "letter"))))
  (sSeq (sIf (mOr (mNot (mTru (mFz (mCall 3 [] F_is_row [] (mCons (mV 3) (mCons (mC (.int 0)) (mCons (mC (.int 3)) (mNil)))))))) (mNot (mTru (mOp1 gAll (mLcR [7] (mItems (mV 3)) (tgN 7) (mYes) (mFz (mCall 2 [] F_is_test [] (mCons (mV 7) (mCons (mV 5) (mNil)))))))))) (sRet 0 (mC (.bl false))) (sNil))
  (sRet 0 (mAndV (mFz (mCall 3 [] F_is_row [] (mCons (mV 4) (mCons (mC (.int 0)) (mCons (mC (.int 4)) (mNil)))))) (mOp1 gAll (mLcR [6] (mItems (mV 4)) (tgN 6) (mYes) (mFz (mCall 3 [] F_is_act [] (mCons (mV 0) (mCons (mV 6) (mCons (mV 5) (mNil)))))))))))))
def F_is_rule : List O → FRes := runF 8 0 m_is_rule
abbrev k_is_rule : Nat := 5
abbrev s_number_in : Stmt := top 43
def N_number_in : List Str := ["word", "most", "figures", "sign"]
def d_number_in : He.DefD := ⟨("number_in", none), "number_in", "number_in", defArgs s_number_in, defBody s_number_in, defScope s_number_in, [(.int 1000)], []⟩
def dd1_number_in : List D := [(.int 1000)]
def m_number_in : MS := sSeq (sSet 2 (mIf (mTru (mM1 gStarts (mV 0) (mC (.str "-")))) (mSl (mV 0) (mPart (mC (.int 1))) mNoPart) (mV 0)))
  (sSeq (sIf (mOr (mNot (mT (mChain gLe gLe (mC (.int 1)) (mOp1 gLen (mV 2)) (mV 1)))) (mNot (mTru (mOp1 gAll (mLcR [3] (mItems (mV 2)) (tgN 3) (mYes) (mOp2 gInA (mV 3) (mC (.str "0123456789")))))))) (sRet 0 (mC .non)) (sNil))
  (sSeq (sIf (mAnd (mT (mOp2 gEq (mOp2 gIxA (mV 2) (mC (.int 0))) (mC (.str "0")))) (mT (mOp2 gNe (mV 0) (mC (.str "0"))))) (sRet 0 (mC .non)) (sNil))
  (sRet 0 (mOp1 gInt (mV 0)))))
def F_number_in : List O → FRes := runF 4 0 m_number_in
abbrev k_number_in : Nat := 0
abbrev s_lines_of : Stmt := top 44
def N_lines_of : List Str := ["text", "lines", "rest"]
def d_lines_of : He.DefD := ⟨("lines_of", none), "lines_of", "lines_of", defArgs s_lines_of, defBody s_lines_of, defScope s_lines_of, [], []⟩
def m_lines_of : MS := sSeq (sIf (mNot (mTru (mOp1 (gIsi "str") (mV 0)))) (sBad) (sNil))
  (sSeq (sStar 2 0 (mFz (mM1N gSplitN (mV 0) (mC (.str "\n")))) (tgCons (tgN 1) (tgCons (tgN 2) (tgNil))))
  (sRet 0 (mIf (mT (mOp2 gEq (mV 2) (mC (.str "")))) (mV 1) (mOp2 gAdd (mV 1) (mLst (mCons (mC (.str "\n")) (mNil)))))))
def F_lines_of : List O → FRes := runF 3 0 m_lines_of
abbrev k_lines_of : Nat := 0
abbrev s_Lines_init : Stmt := mem 45 0
def N_Lines_init : List Str := ["self", "lines"]
def d_Lines_init : He.DefD := ⟨("Lines", some "__init__"), "__init__", "Lines.__init__", defArgs s_Lines_init, defBody s_Lines_init, defScope s_Lines_init, [], []⟩
def m_Lines_init : MS := sSeq (sFst "Lines" "rows_here" (mPs 0) (mD (mV 1)))
  (sFst "Lines" "row_at" (mPs 0) (mD (mC (.int 0))))
def F_Lines_init : List O → FRes := runF 2 1 m_Lines_init
abbrev k_Lines_init : Nat := 0
abbrev s_Lines_begins : Stmt := mem 45 1
def N_Lines_begins : List Str := ["self", "word"]
def d_Lines_begins : He.DefD := ⟨("Lines", some "begins"), "begins", "Lines.begins", defArgs s_Lines_begins, defBody s_Lines_begins, defScope s_Lines_begins, [], []⟩
def m_Lines_begins : MS := sRet 1 (mAndV (mOp2 gLt (mRd (mPf "Lines" "row_at" (mPs 0))) (mOp1 gLen (mRd (mPf "Lines" "rows_here" (mPs 0))))) (mOp2 gEq (mOp2 gIxA (mFz (mM1N gSplitN (mOp2 gIxA (mRd (mPf "Lines" "rows_here" (mPs 0))) (mRd (mPf "Lines" "row_at" (mPs 0)))) (mC (.str " ")))) (mC (.int 0))) (mV 1)))
def F_Lines_begins : List O → FRes := runF 2 1 m_Lines_begins
abbrev k_Lines_begins : Nat := 0
abbrev s_Lines_need : Stmt := mem 45 3
def N_Lines_need : List Str := ["self", "truth"]
def d_Lines_need : He.DefD := ⟨("Lines", some "need"), "need", "Lines.need", defArgs s_Lines_need, defBody s_Lines_need, defScope s_Lines_need, [], []⟩
def m_Lines_need : MS := sIf (mNot (mTru (mV 1))) (sBad) (sNil)
def F_Lines_need : List O → FRes := runF 2 1 m_Lines_need
abbrev k_Lines_need : Nat := 0
abbrev s_Lines_ahead : Stmt := mem 45 2
def N_Lines_ahead : List Str := ["self"]
def d_Lines_ahead : He.DefD := ⟨("Lines", some "ahead"), "ahead", "Lines.ahead", defArgs s_Lines_ahead, defBody s_Lines_ahead, defScope s_Lines_ahead, [], []⟩
def m_Lines_ahead : MS := sSeq (sDrop (mFz (mMeth "Lines" "need" 2 0 [] F_Lines_need [] (mCons (mOp2 gLt (mRd (mPf "Lines" "row_at" (mPs 0))) (mOp1 gLen (mRd (mPf "Lines" "rows_here" (mPs 0))))) (mNil)))))
  (sRet 1 (mOp2 gIxA (mRd (mPf "Lines" "rows_here" (mPs 0))) (mRd (mPf "Lines" "row_at" (mPs 0)))))
def F_Lines_ahead : List O → FRes := runF 1 1 m_Lines_ahead
abbrev k_Lines_ahead : Nat := 1
abbrev s_Lines_through : Stmt := mem 45 4
def N_Lines_through : List Str := ["self"]
def d_Lines_through : He.DefD := ⟨("Lines", some "through"), "through", "Lines.through", defArgs s_Lines_through, defBody s_Lines_through, defScope s_Lines_through, [], []⟩
def m_Lines_through : MS := sFau (fun a b => a + b) "Lines" "row_at" (mPs 0) (mC (.int 1))
def F_Lines_through : List O → FRes := runF 1 1 m_Lines_through
abbrev k_Lines_through : Nat := 0
abbrev s_Lines_finish : Stmt := mem 45 5
def N_Lines_finish : List Str := ["self"]
def d_Lines_finish : He.DefD := ⟨("Lines", some "finish"), "finish", "Lines.finish", defArgs s_Lines_finish, defBody s_Lines_finish, defScope s_Lines_finish, [], []⟩
def m_Lines_finish : MS := sDrop (mFz (mMeth "Lines" "need" 2 0 [] F_Lines_need [] (mCons (mOp2 gEq (mRd (mPf "Lines" "row_at" (mPs 0))) (mOp1 gLen (mRd (mPf "Lines" "rows_here" (mPs 0))))) (mNil))))
def F_Lines_finish : List O → FRes := runF 1 1 m_Lines_finish
abbrev k_Lines_finish : Nat := 1
abbrev s_houses_in : Stmt := top 46
def N_houses_in : List Str := ["lines", "found", "first", "rest"]
def d_houses_in : He.DefD := ⟨("houses_in", none), "houses_in", "houses_in", defArgs s_houses_in, defBody s_houses_in, defScope s_houses_in, [], []⟩
def m_houses_in : MS := sSeq (sSetO 1 (mLsO (mNil)))
  (sSeq (sWhile (mTru (mFz (mMeth "Lines" "begins" 2 0 [] F_Lines_begins [] (mCons (mC (.str "house")) (mNil))))) (sSeq (sStar 2 1 (mFz (mM1N gSplitN (mFz (mMeth "Lines" "ahead" 1 0 [] F_Lines_ahead [] (fun ρ => .ok [] ρ))) (mC (.str " ")))) (tgCons (tgN 2) (tgCons (tgN 3) (tgNil))))
  (sSeq (sDrop (mFz (mMeth "Lines" "need" 2 0 [] F_Lines_need [] (mCons (mAndV (mOp2 gEq (mOp1 gLen (mV 3)) (mC (.int 1))) (mAndV (mFz (mCall 1 [] F_is_name [] (mCons (mOp2 gIxA (mV 3) (mC (.int 0))) (mNil)))) (mOp2 gLt (mOp1 gLen (mB 1)) (mC (.int 5))))) (mNil)))))
  (sSeq (sDrop (mFz (mMeth "Lines" "need" 2 0 [] F_Lines_need [] (mCons (mOrV (mOp2 gEq (mB 1) (mLst (mNil))) (mOp2 gLt (mOp2 gIxA (mB 1) (mOp1 gNeg (mC (.int 1)))) (mOp2 gIxA (mV 3) (mC (.int 0))))) (mNil)))))
  (sSeq (sDrop (mFz (mMut "list" gAppend (mPs 1) (mOs (mCons (mOp2 gIxA (mV 3) (mC (.int 0))) (mNil))))))
  (sDrop (mFz (mMeth "Lines" "through" 1 0 [] F_Lines_through [] (fun ρ => .ok [] ρ)))))))))
  (sSeq (sDrop (mFz (mMeth "Lines" "need" 2 0 [] F_Lines_need [] (mCons (mOp2 gNe (mB 1) (mLst (mNil))) (mNil)))))
  (sRet 1 (mOp1 gTuple (mB 1)))))
def F_houses_in : List O → FRes := runF 4 1 m_houses_in
abbrev k_houses_in : Nat := 2
abbrev s_roads_in : Stmt := top 47
def N_roads_in : List Str := ["lines", "houses", "found", "first", "rest"]
def d_roads_in : He.DefD := ⟨("roads_in", none), "roads_in", "roads_in", defArgs s_roads_in, defBody s_roads_in, defScope s_roads_in, [], []⟩
def m_roads_in : MS := sSeq (sSetO 2 (mLsO (mNil)))
  (sSeq (sWhile (mTru (mFz (mMeth "Lines" "begins" 2 0 [] F_Lines_begins [] (mCons (mC (.str "road")) (mNil))))) (sSeq (sStar 2 1 (mFz (mM1N gSplitN (mFz (mMeth "Lines" "ahead" 1 0 [] F_Lines_ahead [] (fun ρ => .ok [] ρ))) (mC (.str " ")))) (tgCons (tgN 3) (tgCons (tgN 4) (tgNil))))
  (sSeq (sDrop (mFz (mMeth "Lines" "need" 2 0 [] F_Lines_need [] (mCons (mAndV (mFz (mCall 2 [] F_is_road [] (mCons (mV 1) (mCons (mOp1 gTuple (mV 4)) (mNil))))) (mOp2 gLt (mOp1 gLen (mB 2)) (mC (.int 8)))) (mNil)))))
  (sSeq (sDrop (mFz (mMeth "Lines" "need" 2 0 [] F_Lines_need [] (mCons (mOrV (mOp2 gEq (mB 2) (mLst (mNil))) (mOp2 gLt (mOp2 gIxA (mOp2 gIxA (mB 2) (mOp1 gNeg (mC (.int 1)))) (mC (.int 0))) (mOp2 gIxA (mV 4) (mC (.int 0))))) (mNil)))))
  (sSeq (sDrop (mFz (mMut "list" gAppend (mPs 2) (mOs (mCons (mOp1 gTuple (mV 4)) (mNil))))))
  (sDrop (mFz (mMeth "Lines" "through" 1 0 [] F_Lines_through [] (fun ρ => .ok [] ρ)))))))))
  (sRet 1 (mOp1 gTuple (mB 2))))
def F_roads_in : List O → FRes := runF 5 1 m_roads_in
abbrev k_roads_in : Nat := 2
abbrev s_slot_in : Stmt := top 48
def N_slot_in : List Str := ["word", "slots", "slot"]
def d_slot_in : He.DefD := ⟨("slot_in", none), "slot_in", "slot_in", defArgs s_slot_in, defBody s_slot_in, defScope s_slot_in, [], []⟩
def m_slot_in : MS := sSeq (sSetO 1 (mDcR [2] (mRng1 (mC (.int 3))) (tgN 2) (mYes) (mOp2 gAdd (mC (.str "s")) (mOp1 gStr2 (mV 2))) (mD (mV 2))))
  (sRet 0 (mGet1 (mB 1) (mV 0)))
def F_slot_in : List O → FRes := runF 3 0 m_slot_in
abbrev k_slot_in : Nat := 0
abbrev s_worth_in : Stmt := top 49
def N_worth_in : List Str := ["word"]
def d_worth_in : He.DefD := ⟨("worth_in", none), "worth_in", "worth_in", defArgs s_worth_in, defBody s_worth_in, defScope s_worth_in, [], []⟩
def m_worth_in : MS := sSeq (sIf (mT (mOp2 gEq (mV 0) (mC (.str "told")))) (sRet 0 (mTup (mCons (mC (.str "told")) (mNil)))) (sNil))
  (sSeq (sIf (mT (mOp2 gIsNot (mFz (mCall 1 [] F_slot_in [] (mCons (mV 0) (mNil)))) (mC .non))) (sRet 0 (mTup (mCons (mC (.str "slot")) (mCons (mFz (mCall 1 [] F_slot_in [] (mCons (mV 0) (mNil)))) (mNil))))) (sNil))
  (sRetO 0 (mCall 2 [] F_number_in dd1_number_in (mCons (mV 0) (mNil)))))
def F_worth_in : List O → FRes := runF 1 0 m_worth_in
abbrev k_worth_in : Nat := 1
abbrev s_test_in : Stmt := top 50
def N_test_in : List Str := ["text", "what", "rest", "signs", "about", "word", "sign"]
def d_test_in : He.DefD := ⟨("test_in", none), "test_in", "test_in", defArgs s_test_in, defBody s_test_in, defScope s_test_in, [], []⟩
def m_test_in : MS := sSeq (sStar 2 1 (mFz (mM1N gSplitN (mV 0) (mC (.str " ")))) (tgCons (tgN 1) (tgCons (tgN 2) (tgNil))))
  (sSeq (sIf (mT (mOp2 gNe (mOp1 gLen (mV 2)) (mC (.int 2)))) (sRet 0 (mC .non)) (sNil))
  (sSeq (sSetO 3 (mDcR [5, 6] (mItms (mC (.dk tk_SIGN_TEXTS td_SIGN_TEXTS))) (tgSeq 2 (tgCons (tgN 5) (tgCons (tgN 6) (tgNil)))) (mYes) (mV 6) (mD (mV 5))))
  (sSeq (sSet 4 (mIf (mT (mOp2 gEq (mV 1) (mC (.str "told")))) (mV 1) (mFz (mCall 1 [] F_slot_in [] (mCons (mV 1) (mNil))))))
  (sRet 0 (mTup (mCons (mV 4) (mCons (mGet1 (mB 3) (mOp2 gIxA (mV 2) (mC (.int 0)))) (mCons (mFz (mCall 2 [] F_number_in dd1_number_in (mCons (mOp2 gIxA (mV 2) (mC (.int 1))) (mNil)))) (mNil)))))))))
def F_test_in : List O → FRes := runF 7 0 m_test_in
abbrev k_test_in : Nat := 1
abbrev s_act_in : Stmt := top 51
def N_act_in : List Str := ["text", "word", "rest", "about", "last", "one"]
def d_act_in : He.DefD := ⟨("act_in", none), "act_in", "act_in", defArgs s_act_in, defBody s_act_in, defScope s_act_in, [], []⟩
def m_act_in : MS := sSeq (sStar 2 1 (mFz (mM1N gSplitN (mV 0) (mC (.str " ")))) (tgCons (tgN 1) (tgCons (tgN 2) (tgNil))))
  (sSeq (sIf (mOr (mT (mOp2 gEq (mV 1) (mC (.str "rest")))) (mT (mOp2 gEq (mV 2) (mLst (mNil))))) (sRet 0 (mOp2 gAdd (mTup (mCons (mV 1) (mNil))) (mOp1 gTuple (mV 2)))) (sNil))
  (sSeq (sStar 2 0 (mV 2) (tgCons (tgN 3) (tgCons (tgN 4) (tgNil))))
  (sSeq (sIf (mT (mOp2 gEq (mV 1) (mC (.str "send")))) (sRet 0 (mOp2 gAdd (mOp2 gAdd (mTup (mCons (mV 1) (mNil))) (mOp1 gTuple (mV 3))) (mTup (mCons (mFz (mCall 1 [] F_worth_in [] (mCons (mV 4) (mNil)))) (mNil))))) (sNil))
  (sRet 0 (mOp2 gAdd (mOp2 gAdd (mTup (mCons (mV 1) (mNil))) (mOp1 gTuple (mLcR [5] (mItems (mV 3)) (tgN 5) (mYes) (mFz (mCall 1 [] F_slot_in [] (mCons (mV 5) (mNil))))))) (mTup (mCons (mFz (mCall 1 [] F_worth_in [] (mCons (mV 4) (mNil)))) (mNil))))))))
def F_act_in : List O → FRes := runF 6 0 m_act_in
abbrev k_act_in : Nat := 2
abbrev s_rule_in : Stmt := top 52
def N_rule_in : List Str := ["text", "when", "rest", "tests", "acts", "one"]
def d_rule_in : He.DefD := ⟨("rule_in", none), "rule_in", "rule_in", defArgs s_rule_in, defBody s_rule_in, defScope s_rule_in, [], []⟩
def m_rule_in : MS := sSeq (sStar 2 1 (mFz (mM1N gSplitN (mV 0) (mC (.str " ; ")))) (tgCons (tgN 1) (tgCons (tgN 2) (tgNil))))
  (sSeq (sIf (mT (mOp2 gNe (mOp1 gLen (mV 2)) (mC (.int 2)))) (sRet 0 (mC .non)) (sNil))
  (sSeq (sSet 3 (mIf (mT (mOp2 gEq (mOp2 gIxA (mV 2) (mC (.int 0))) (mC (.str ".")))) (mTup (mNil)) (mOp1 gTuple (mLcR [5] (mItems (mFz (mM1N gSplitN (mOp2 gIxA (mV 2) (mC (.int 0))) (mC (.str " & "))))) (tgN 5) (mYes) (mFz (mCall 1 [] F_test_in [] (mCons (mV 5) (mNil))))))))
  (sSeq (sSet 4 (mIf (mT (mOp2 gEq (mOp2 gIxA (mV 2) (mC (.int 1))) (mC (.str ".")))) (mTup (mNil)) (mOp1 gTuple (mLcR [5] (mItems (mFz (mM1N gSplitN (mOp2 gIxA (mV 2) (mC (.int 1))) (mC (.str " , "))))) (tgN 5) (mYes) (mFz (mCall 1 [] F_act_in [] (mCons (mV 5) (mNil))))))))
  (sSeq (sIf (mT (mOp2 gEq (mV 1) (mC (.str "self")))) (sRet 0 (mTup (mCons (mTup (mCons (mC (.str "self")) (mNil))) (mCons (mV 3) (mCons (mV 4) (mNil)))))) (sNil))
  (sRet 0 (mTup (mCons (mTup (mCons (mC (.str "letter")) (mCons (mSl (mV 1) (mPart (mC (.int 3))) mNoPart) (mNil)))) (mCons (mV 3) (mCons (mV 4) (mNil))))))))))
def F_rule_in : List O → FRes := runF 6 0 m_rule_in
abbrev k_rule_in : Nat := 3
abbrev s_programs_in : Stmt := top 53
def N_programs_in : List Str := ["lines", "net", "found", "last", "line", "first", "house", "rest", "rule"]
def d_programs_in : He.DefD := ⟨("programs_in", none), "programs_in", "programs_in", defArgs s_programs_in, defBody s_programs_in, defScope s_programs_in, [], []⟩
def m_programs_in : MS := sSeq (sSetO 2 (mDcR [6] (mItems (mOp2 gIxA (mV 1) (mC (.int 0)))) (tgN 6) (mYes) (mV 6) (mLsO (mNil))))
  (sSeq (sSet 3 (mOp2 gIxA (mOp2 gIxA (mV 1) (mC (.int 0))) (mC (.int 0))))
  (sSeq (sWhile (mTru (mFz (mMeth "Lines" "begins" 2 0 [] F_Lines_begins [] (mCons (mC (.str "rule")) (mNil))))) (sSeq (sSet 4 (mFz (mMeth "Lines" "ahead" 1 0 [] F_Lines_ahead [] (fun ρ => .ok [] ρ))))
  (sSeq (sStar 3 2 (mOp2 gAdd (mFz (mM1N gSplitN (mV 4) (mC (.str " ")))) (mLst (mCons (mC (.str "")) (mNil)))) (tgCons (tgN 5) (tgCons (tgN 6) (tgCons (tgN 7) (tgNil)))))
  (sSeq (sDrop (mFz (mMeth "Lines" "need" 2 0 [] F_Lines_need [] (mCons (mAndV (mOp2 gInA (mV 6) (mB 2)) (mAndV (mOp2 gGe (mV 6) (mV 3)) (mOp2 gLt (mOp1 gLen (mRdB (mPi (mPs 2) (mV 6)))) (mC (.int 8))))) (mNil)))))
  (sSeq (sSet 8 (mFz (mCall 1 [] F_rule_in [] (mCons (mSl (mV 4) (mPart (mOp1 gLen (mOp2 gAdd (mOp2 gAdd (mC (.str "rule ")) (mV 6)) (mC (.str " "))))) mNoPart) (mNil)))))
  (sSeq (sDrop (mFz (mMeth "Lines" "need" 2 0 [] F_Lines_need [] (mCons (mAndV (mFz (mCall 2 [] F_is_rule [] (mCons (mFz (mCall 2 [] F_roads_out [] (mCons (mV 1) (mCons (mV 6) (mNil))))) (mCons (mV 8) (mNil))))) (mOp2 gEq (mFz (mCall 2 [] F_rule_text [] (mCons (mV 6) (mCons (mV 8) (mNil))))) (mV 4))) (mNil)))))
  (sSeq (sDrop (mFz (mMut "list" gAppend (mPi (mPs 2) (mV 6)) (mOs (mCons (mV 8) (mNil))))))
  (sSeq (sSet 3 (mV 6))
  (sDrop (mFz (mMeth "Lines" "through" 1 0 [] F_Lines_through [] (fun ρ => .ok [] ρ))))))))))))
  (sRet 1 (mOp1 gTuple (mLcR [6] (mItems (mOp2 gIxA (mV 1) (mC (.int 0)))) (tgN 6) (mYes) (mOp1 gTuple (mRdB (mPi (mPs 2) (mV 6)))))))))
def F_programs_in : List O → FRes := runF 9 1 m_programs_in
abbrev k_programs_in : Nat := 6
abbrev s_system_in : Stmt := top 54
def N_system_in : List Str := ["lines", "houses", "net"]
def d_system_in : He.DefD := ⟨("system_in", none), "system_in", "system_in", defArgs s_system_in, defBody s_system_in, defScope s_system_in, [], []⟩
def m_system_in : MS := sSeq (sSet 1 (mFz (mCall 1 [0] F_houses_in [] (mNil))))
  (sSeq (sSet 2 (mTup (mCons (mV 1) (mCons (mFz (mCall 2 [0] F_roads_in [] (mCons (mV 1) (mNil)))) (mNil)))))
  (sRet 1 (mTup (mCons (mV 2) (mCons (mFz (mCall 2 [0] F_programs_in [] (mCons (mV 2) (mNil)))) (mNil))))))
def F_system_in : List O → FRes := runF 3 1 m_system_in
abbrev k_system_in : Nat := 7
abbrev s_read_system : Stmt := top 55
def N_read_system : List Str := ["text", "lines", "system"]
def d_read_system : He.DefD := ⟨("read_system", none), "read_system", "read_system", defArgs s_read_system, defBody s_read_system, defScope s_read_system, [], []⟩
def m_read_system : MS := sSeq (sSetO 1 (mMake "Lines" 2 F_Lines_init [] (mCons (mFz (mCall 1 [] F_lines_of [] (mCons (mV 0) (mNil)))) (mNil))))
  (sSeq (sSet 2 (mFz (mCall 1 [1] F_system_in [] (mNil))))
  (sSeq (sDrop (mFz (mMeth "Lines" "finish" 1 1 [] F_Lines_finish [] (fun ρ => .ok [] ρ))))
  (sRet 0 (mV 2))))
def F_read_system : List O → FRes := runF 3 0 m_read_system
abbrev k_read_system : Nat := 8
abbrev s_law_feed : Stmt := top 57
def N_law_feed : List Str := ["_law_script", "_law_k", "_law_cell", "_law_great"]
def d_law_feed : He.DefD := ⟨("_law_feed", none), "_law_feed", "_law_feed", defArgs s_law_feed, defBody s_law_feed, defScope s_law_feed, [], []⟩
def m_law_feed : MS := sSeq (sSet 2 (mC (.int 0)))
  (sSeq (sIf (mT (mOp2 gLt (mV 1) (mOp1 gLen (mV 0)))) (sSet 2 (mOp2 gIxA (mV 0) (mV 1))) (sNil))
  (sSeq (sSet 3 (mOp1 gAbs (mV 2)))
  (sSeq (sIf (mT (mOp2 gLt (mV 3) (mOp2 gPow (mC (.int 10)) (mC (.int 18))))) (sSet 3 (mC (.int 0))) (sNil))
  (sRetO 0 (mLsO (mCons (mV 3) (mCons (mOp2 gMod (mOp2 gAdd (mOp2 gAdd (mOp2 gMul (mOp2 gMod (mV 2) (mC (.int 2147483423))) (mC (.int 48271))) (mOp2 gMul (mC (.int 6151)) (mV 1))) (mC (.int 17))) (mC (.int 2147483423))) (mCons (mC (.int 0)) (mNil)))))))))
def F_law_feed : List O → FRes := runF 4 0 m_law_feed
abbrev k_law_feed : Nat := 0
abbrev s_law_take : Stmt := top 58
def N_law_take : List Str := ["_law_feed_here", "_law_many", "_law_digit", "_law_many_so", "_law_mixed"]
def d_law_take : He.DefD := ⟨("_law_take", none), "_law_take", "_law_take", defArgs s_law_take, defBody s_law_take, defScope s_law_take, [], []⟩
def m_law_take : MS := sSeq (sIf (mT (mOp2 gGt (mOp2 gIxA (mB 0) (mC (.int 0))) (mC (.int 0)))) (sSeq (sSet 2 (mOp2 gMod (mOp2 gIxA (mB 0) (mC (.int 0))) (mV 1)))
  (sSeq (sSto (mPs 0) (mC (.int 0)) (mD (mOp2 gDiv (mOp2 gIxA (mB 0) (mC (.int 0))) (mV 1))))
  (sRet 1 (mV 2)))) (sNil))
  (sSeq (sSet 3 (mOp2 gAdd (mOp2 gIxA (mB 0) (mC (.int 2))) (mC (.int 1))))
  (sSeq (sSto (mPs 0) (mC (.int 2)) (mD (mV 3)))
  (sSeq (sSet 4 (mOp2 gMod (mOp2 gAdd (mOp2 gAdd (mOp2 gIxA (mB 0) (mC (.int 1))) (mOp2 gMul (mOp2 gMul (mC (.int 40692)) (mV 3)) (mV 3))) (mOp2 gMul (mC (.int 69621)) (mV 3))) (mC (.int 2147483647))))
  (sSeq (sSet 4 (mOp2 gMod (mOp2 gAdd (mOp2 gAdd (mOp2 gMul (mV 4) (mV 4)) (mOp2 gMul (mC (.int 39373)) (mV 4))) (mV 3)) (mC (.int 2147483579))))
  (sSeq (sSet 4 (mOp2 gMod (mOp2 gAdd (mOp2 gMul (mV 4) (mV 4)) (mOp2 gMul (mC (.int 16807)) (mV 4))) (mC (.int 2147483549))))
  (sRet 1 (mOp2 gMod (mOp2 gDiv (mV 4) (mC (.int 64))) (mV 1))))))))
def F_law_take : List O → FRes := runF 5 1 m_law_take
abbrev k_law_take : Nat := 0
abbrev s_law_names : Stmt := top 59
def N_law_names : List Str := ["_law_feed_here", "_law_many", "_law_letters", "_law_way", "_law_first", "_law_stride", "_law_words", "_law_signs", "_law_base", "_law_spot", "_law_found", "_law_k", "_law_sign", "_law_name"]
def d_law_names : He.DefD := ⟨("_law_names", none), "_law_names", "_law_names", defArgs s_law_names, defBody s_law_names, defScope s_law_names, [], []⟩
def m_law_names : MS := sSeq (sSet 2 (mC (.str "abcdefghijklmnopqrstuvwxyz")))
  (sSeq (sSet 3 (mFz (mCall 2 [0] F_law_take [] (mCons (mC (.int 4)) (mNil)))))
  (sSeq (sSet 4 (mFz (mCall 2 [0] F_law_take [] (mCons (mC (.int 26)) (mNil)))))
  (sSeq (sSet 5 (mOp2 gIxA (mLst (mCons (mC (.int 1)) (mCons (mC (.int 3)) (mCons (mC (.int 5)) (mCons (mC (.int 7)) (mCons (mC (.int 9)) (mCons (mC (.int 11)) (mCons (mC (.int 15)) (mCons (mC (.int 17)) (mNil)))))))))) (mFz (mCall 2 [0] F_law_take [] (mCons (mC (.int 8)) (mNil))))))
  (sSeq (sSet 6 (mLst (mCons (mC (.str "take")) (mCons (mC (.str "self")) (mCons (mC (.str "rest")) (mCons (mC (.str "works")) (mCons (mC (.str "begin")) (mCons (mC (.str "deeds")) (mCons (mC (.str "house")) (mCons (mC (.str "road")) (mCons (mC (.str "loose")) (mCons (mC (.str "row")) (mCons (mC (.str "told")) (mCons (mC (.str "mark")) (mNil)))))))))))))))
  (sSeq (sIf (mT (mOp2 gEq (mV 3) (mC (.int 0)))) (sRetO 1 (mLcRO [11] (mRng1 (mV 1)) (tgN 11) (mYes) (mOp2 gIxA (mV 6) (mOp2 gMod (mOp2 gAdd (mV 4) (mOp2 gMul (mC (.int 5)) (mV 11))) (mC (.int 12)))))) (sNil))
  (sSeq (sSet 7 (mLcR [11] (mRng1 (mV 1)) (tgN 11) (mYes) (mOp2 gIxA (mV 2) (mOp2 gMod (mOp2 gAdd (mV 4) (mOp2 gMul (mV 5) (mV 11))) (mC (.int 26))))))
  (sSeq (sSet 8 (mM1 gJoin (mC (.str "")) (mLcX [11] (mRng1 (mFz (mCall 2 [0] F_law_take [] (mCons (mC (.int 8)) (mNil))))) (tgN 11) (mYes) (mOp2 gIxA (mV 2) (mFz (mCall 2 [0] F_law_take [] (mCons (mC (.int 26)) (mNil))))))))
  (sSeq (sSet 9 (mFz (mCall 2 [0] F_law_take [] (mCons (mOp2 gAdd (mOp1 gLen (mV 8)) (mC (.int 1))) (mNil)))))
  (sSeq (sIf (mT (mOp2 gEq (mV 3) (mC (.int 1)))) (sRet 1 (mV 7)) (sNil))
  (sSeq (sSet 10 (mLcR [12] (mItems (mV 7)) (tgN 12) (mYes) (mOp2 gAdd (mOp2 gAdd (mSl (mV 8) mNoPart (mPart (mV 9))) (mV 12)) (mSl (mV 8) (mPart (mV 9)) mNoPart))))
  (sSeq (sIf (mT (mOp2 gEq (mV 3) (mC (.int 2)))) (sRet 1 (mV 10)) (sNil))
  (sRetO 1 (mLcRO [11, 13] (mEnum (mV 10)) (tgSeq 2 (tgCons (tgN 11) (tgCons (tgN 13) (tgNil)))) (mYes) (mSl (mV 13) mNoPart (mPart (mOp2 gAdd (mOp2 gAdd (mV 9) (mC (.int 1))) (mOp2 gMod (mV 11) (mOp2 gSub (mOp1 gLen (mV 13)) (mV 9)))))))))))))))))))
def F_law_names : List O → FRes := runF 14 1 m_law_names
abbrev k_law_names : Nat := 1
abbrev s_law_net : Stmt := top 60
def N_law_net : List Str := ["_law_feed_here", "_law_houses", "_law_roads", "_law_ways", "_law_names_here", "_law_many", "_law_found", "_law_road", "_law_one", "_law_other"]
def d_law_net : He.DefD := ⟨("_law_net", none), "_law_net", "_law_net", defArgs s_law_net, defBody s_law_net, defScope s_law_net, [], []⟩
def m_law_net : MS := sSeq (sSet 4 (mFz (mOpN gSort (mFz (mCall 2 [0] F_law_names [] (mCons (mOp2 gAdd (mC (.int 1)) (mFz (mCall 2 [0] F_law_take [] (mCons (mV 1) (mNil))))) (mNil)))))))
  (sSeq (sSet 5 (mOp2 gMul (mFz (mCall 2 [0] F_law_take [] (mCons (mOp2 gAdd (mV 2) (mC (.int 1))) (mNil)))) (mOp1 gInt (mOp2 gGt (mOp1 gLen (mV 4)) (mC (.int 1))))))
  (sSeq (sSetO 6 (mLsO (mNil)))
  (sSeq (sFor (mItems (mFz (mCall 2 [0] F_law_names [] (mCons (mV 5) (mNil))))) (tgN 7) (sSeq (sSet 8 (mFz (mCall 2 [0] F_law_take [] (mCons (mOp1 gLen (mV 4)) (mNil)))))
  (sSeq (sSet 9 (mOp2 gMod (mOp2 gAdd (mOp2 gAdd (mV 8) (mC (.int 1))) (mFz (mCall 2 [0] F_law_take [] (mCons (mOp2 gSub (mOp1 gLen (mV 4)) (mC (.int 1))) (mNil))))) (mOp1 gLen (mV 4))))
  (sDrop (mFz (mMut "list" gAppend (mPs 6) (mOs (mCons (mTup (mCons (mV 7) (mCons (mOp2 gIxA (mV 4) (mV 8)) (mCons (mOp2 gIxA (mV 4) (mV 9)) (mCons (mOp2 gIxA (mV 3) (mFz (mCall 2 [0] F_law_take [] (mCons (mOp1 gLen (mV 3)) (mNil))))) (mNil)))))) (mNil)))))))))
  (sRet 1 (mTup (mCons (mOp1 gTuple (mV 4)) (mCons (mOp1 gTuple (mFz (mOpN gSort (mB 6)))) (mNil))))))))
def F_law_net : List O → FRes := runF 10 1 m_law_net
abbrev k_law_net : Nat := 2
abbrev s_law_number : Stmt := top 61
def N_law_number : List Str := ["_law_feed_here", "_law_far"]
def d_law_number : He.DefD := ⟨("_law_number", none), "_law_number", "_law_number", defArgs s_law_number, defBody s_law_number, defScope s_law_number, [], []⟩
def m_law_number : MS := sSeq (sSet 1 (mFz (mCall 2 [0] F_law_take [] (mCons (mC (.int 1000)) (mNil)))))
  (sRet 1 (mOp2 gIxA (mLst (mCons (mC (.int 0)) (mCons (mC (.int 1)) (mCons (mOp1 gNeg (mC (.int 1))) (mCons (mC (.int 2)) (mCons (mOp2 gSub (mOp2 gMod (mV 1) (mC (.int 7))) (mC (.int 3))) (mCons (mV 1) (mCons (mOp2 gSub (mOp2 gSub (mOp2 gPow (mC (.int 10)) (mC (.int 30))) (mC (.int 1))) (mV 1)) (mCons (mOp2 gSub (mV 1) (mOp2 gPow (mC (.int 10)) (mC (.int 29)))) (mNil)))))))))) (mFz (mCall 2 [0] F_law_take [] (mCons (mC (.int 8)) (mNil))))))
def F_law_number : List O → FRes := runF 2 1 m_law_number
abbrev k_law_number : Nat := 1
abbrev s_law_some_worth : Stmt := top 62
def N_law_some_worth : List Str := ["_law_feed_here", "_law_on_letter"]
def d_law_some_worth : He.DefD := ⟨("_law_some_worth", none), "_law_some_worth", "_law_some_worth", defArgs s_law_some_worth, defBody s_law_some_worth, defScope s_law_some_worth, [], []⟩
def m_law_some_worth : MS := sSeq (sIf (mAnd (mTru (mV 1)) (mT (mOp2 gEq (mFz (mCall 2 [0] F_law_take [] (mCons (mC (.int 3)) (mNil)))) (mC (.int 0))))) (sRet 1 (mTup (mCons (mC (.str "told")) (mNil)))) (sNil))
  (sSeq (sIf (mT (mOp2 gEq (mFz (mCall 2 [0] F_law_take [] (mCons (mC (.int 2)) (mNil)))) (mC (.int 0)))) (sRet 1 (mTup (mCons (mC (.str "slot")) (mCons (mFz (mCall 2 [0] F_law_take [] (mCons (mC (.int 3)) (mNil)))) (mNil))))) (sNil))
  (sRetO 1 (mCall 1 [0] F_law_number [] (mNil))))
def F_law_some_worth : List O → FRes := runF 2 1 m_law_some_worth
abbrev k_law_some_worth : Nat := 2
abbrev s_law_test : Stmt := top 63
def N_law_test : List Str := ["_law_feed_here", "_law_on_letter", "_law_what"]
def d_law_test : He.DefD := ⟨("_law_test", none), "_law_test", "_law_test", defArgs s_law_test, defBody s_law_test, defScope s_law_test, [], []⟩
def m_law_test : MS := sSeq (sSet 2 (mOp2 gIxA (mLst (mCons (mC (.int 0)) (mCons (mC (.int 1)) (mCons (mC (.int 2)) (mCons (mC (.str "told")) (mNil)))))) (mFz (mCall 2 [0] F_law_take [] (mCons (mOp2 gAdd (mC (.int 3)) (mOp1 gInt (mV 1))) (mNil))))))
  (sRet 1 (mTup (mCons (mV 2) (mCons (mOp2 gIxA (mLst (mCons (mC (.str "under")) (mCons (mC (.str "is")) (mCons (mC (.str "over")) (mNil))))) (mFz (mCall 2 [0] F_law_take [] (mCons (mC (.int 3)) (mNil))))) (mCons (mOp2 gIxA (mLst (mCons (mC (.int 0)) (mCons (mC (.int 1)) (mCons (mC (.int 2)) (mCons (mFz (mCall 1 [0] F_law_number [] (mNil))) (mNil)))))) (mFz (mCall 2 [0] F_law_take [] (mCons (mC (.int 4)) (mNil))))) (mNil))))))
def F_law_test : List O → FRes := runF 3 1 m_law_test
abbrev k_law_test : Nat := 2
abbrev s_law_rule : Stmt := top 64
def N_law_rule : List Str := ["_law_feed_here", "_law_out", "_law_words", "_law_on_letter", "_law_when", "_law_tests", "_law_acts", "_law_k", "_law_way", "_law_slot", "_law_worth"]
def d_law_rule : He.DefD := ⟨("_law_rule", none), "_law_rule", "_law_rule", defArgs s_law_rule, defBody s_law_rule, defScope s_law_rule, [], []⟩
def m_law_rule : MS := sSeq (sSet 3 (mOp2 gEq (mFz (mCall 2 [0] F_law_take [] (mCons (mC (.int 2)) (mNil)))) (mC (.int 0))))
  (sSeq (sSet 4 (mOp2 gIxA (mLst (mCons (mTup (mCons (mC (.str "self")) (mNil))) (mCons (mTup (mCons (mC (.str "letter")) (mCons (mOp2 gIxA (mV 2) (mFz (mCall 2 [0] F_law_take [] (mCons (mOp1 gLen (mV 2)) (mNil))))) (mNil)))) (mNil)))) (mOp1 gInt (mV 3))))
  (sSeq (sSet 5 (mOp1 gTuple (mLcX [7] (mRng1 (mOp2 gIxA (mLst (mCons (mC (.int 0)) (mCons (mC (.int 0)) (mCons (mC (.int 1)) (mCons (mC (.int 3)) (mNil)))))) (mFz (mCall 2 [0] F_law_take [] (mCons (mC (.int 4)) (mNil)))))) (tgN 7) (mYes) (mFz (mCall 2 [0] F_law_test [] (mCons (mV 3) (mNil)))))))
  (sSeq (sSetO 6 (mLsO (mNil)))
  (sSeq (sFor (mRng1 (mOp2 gIxA (mLst (mCons (mC (.int 0)) (mCons (mC (.int 1)) (mCons (mC (.int 1)) (mCons (mC (.int 2)) (mCons (mC (.int 3)) (mCons (mC (.int 4)) (mNil)))))))) (mFz (mCall 2 [0] F_law_take [] (mCons (mC (.int 6)) (mNil)))))) (tgN 7) (sSeq (sSet 8 (mFz (mCall 2 [0] F_law_take [] (mCons (mC (.int 7)) (mNil)))))
  (sSeq (sSet 9 (mFz (mCall 2 [0] F_law_take [] (mCons (mC (.int 3)) (mNil)))))
  (sSeq (sSet 10 (mFz (mCall 2 [0] F_law_some_worth [] (mCons (mV 3) (mNil)))))
  (sIf (mAnd (mT (mOp2 gLt (mV 8) (mC (.int 3)))) (mT (mOp2 gNe (mV 1) (mLst (mNil))))) (sDrop (mFz (mMut "list" gAppend (mPs 6) (mOs (mCons (mTup (mCons (mC (.str "send")) (mCons (mOp2 gIxA (mV 1) (mFz (mCall 2 [0] F_law_take [] (mCons (mOp1 gLen (mV 1)) (mNil))))) (mCons (mOp2 gIxA (mV 2) (mFz (mCall 2 [0] F_law_take [] (mCons (mOp1 gLen (mV 2)) (mNil))))) (mCons (mV 10) (mNil)))))) (mNil)))))) (sIf (mT (mOp2 gEq (mV 8) (mC (.int 6)))) (sDrop (mFz (mMut "list" gAppend (mPs 6) (mOs (mCons (mTup (mCons (mC (.str "rest")) (mNil))) (mNil)))))) (sDrop (mFz (mMut "list" gAppend (mPs 6) (mOs (mCons (mTup (mCons (mOp2 gIxA (mLst (mCons (mC (.str "put")) (mCons (mC (.str "add")) (mCons (mC (.str "less")) (mNil))))) (mOp2 gMod (mV 8) (mC (.int 3)))) (mCons (mV 9) (mCons (mV 10) (mNil))))) (mNil))))))))))))
  (sRet 1 (mTup (mCons (mV 4) (mCons (mV 5) (mCons (mOp1 gTuple (mB 6)) (mNil))))))))))
def F_law_rule : List O → FRes := runF 11 1 m_law_rule
abbrev k_law_rule : Nat := 3
abbrev s_law_system : Stmt := top 65
def N_law_system : List Str := ["_law_feed_here", "_law_net_here", "_law_words", "_law_programs", "_law_house", "_law_out", "_law_many", "_law_road", "_law_one", "_law_other", "_law_way", "_law_k"]
def d_law_system : He.DefD := ⟨("_law_system", none), "_law_system", "_law_system", defArgs s_law_system, defBody s_law_system, defScope s_law_system, [], []⟩
def m_law_system : MS := sSeq (sSet 2 (mFz (mCall 2 [0] F_law_names [] (mCons (mC (.int 2)) (mNil)))))
  (sSeq (sSetO 3 (mLsO (mNil)))
  (sSeq (sFor (mItems (mOp2 gIxA (mV 1) (mC (.int 0)))) (tgN 4) (sSeq (sSet 5 (mLcR [7, 8, 9, 10] (mItems (mOp2 gIxA (mV 1) (mC (.int 1)))) (tgSeq 4 (tgCons (tgN 7) (tgCons (tgN 8) (tgCons (tgN 9) (tgCons (tgN 10) (tgNil)))))) (mT (mOp2 gEq (mV 8) (mV 4))) (mV 7)))
  (sSeq (sSet 6 (mOp2 gIxA (mLst (mCons (mC (.int 1)) (mCons (mC (.int 2)) (mCons (mC (.int 3)) (mCons (mC (.int 4)) (mCons (mC (.int 8)) (mNil))))))) (mFz (mCall 2 [0] F_law_take [] (mCons (mC (.int 5)) (mNil))))))
  (sDrop (mFz (mMut "list" gAppend (mPs 3) (mOs (mCons (mOp1 gTuple (mLcX [11] (mRng1 (mV 6)) (tgN 11) (mYes) (mFz (mCall 3 [0] F_law_rule [] (mCons (mV 5) (mCons (mV 2) (mNil))))))) (mNil)))))))))
  (sRet 1 (mTup (mCons (mV 1) (mCons (mOp1 gTuple (mB 3)) (mNil)))))))
def F_law_system : List O → FRes := runF 12 1 m_law_system
abbrev k_law_system : Nat := 4
abbrev s_law_worth_text : Stmt := top 66
def N_law_worth_text : List Str := ["_law_worth"]
def d_law_worth_text : He.DefD := ⟨("_law_worth_text", none), "_law_worth_text", "_law_worth_text", defArgs s_law_worth_text, defBody s_law_worth_text, defScope s_law_worth_text, [], []⟩
def m_law_worth_text : MS := sSeq (sIf (mTru (mOp1 (gIsi "int") (mV 0))) (sRet 0 (mOp1 gStr2 (mV 0))) (sNil))
  (sRet 0 (mOp2 gIxA (mPk (mDisp [(mC (.str "slot"), mD (mOp2 gAdd (mC (.str "s")) (mOp1 gStr2 (mOp2 gIxA (mV 0) (mOp1 gNeg (mC (.int 1))))))), (mC (.str "told"), mD (mC (.str "told")))])) (mOp2 gIxA (mV 0) (mC (.int 0)))))
def F_law_worth_text : List O → FRes := runF 1 0 m_law_worth_text
abbrev k_law_worth_text : Nat := 0
abbrev s_law_test_text : Stmt := top 67
def N_law_test_text : List Str := ["_law_test_here", "_law_what", "_law_sign", "_law_number_here", "_law_words"]
def d_law_test_text : He.DefD := ⟨("_law_test_text", none), "_law_test_text", "_law_test_text", defArgs s_law_test_text, defBody s_law_test_text, defScope s_law_test_text, [], []⟩
def m_law_test_text : MS := sSeq (sAsg (mV 0) (tgSeq 3 (tgCons (tgN 1) (tgCons (tgN 2) (tgCons (tgN 3) (tgNil))))))
  (sSeq (sSetO 4 (mLsO (mCons (mOp2 gAdd (mC (.str "s")) (mOp1 gStr2 (mV 1))) (mCons (mOp2 gIxA (mPk (mDisp [(mC (.str "under"), mD (mC (.str "<"))), (mC (.str "is"), mD (mC (.str "="))), (mC (.str "over"), mD (mC (.str ">")))])) (mV 2)) (mCons (mOp1 gStr2 (mV 3)) (mNil))))))
  (sSeq (sIf (mT (mOp2 gEq (mV 1) (mC (.str "told")))) (sSto (mPs 4) (mC (.int 0)) (mD (mC (.str "told")))) (sNil))
  (sRet 0 (mM1 gJoin (mC (.str " ")) (mB 4)))))
def F_law_test_text : List O → FRes := runF 5 0 m_law_test_text
abbrev k_law_test_text : Nat := 0
abbrev s_law_act_text : Stmt := top 68
def N_law_act_text : List Str := ["_law_act"]
def d_law_act_text : He.DefD := ⟨("_law_act_text", none), "_law_act_text", "_law_act_text", defArgs s_law_act_text, defBody s_law_act_text, defScope s_law_act_text, [], []⟩
def m_law_act_text : MS := sSeq (sIf (mT (mOp2 gEq (mOp2 gIxA (mV 0) (mC (.int 0))) (mC (.str "rest")))) (sRet 0 (mC (.str "rest"))) (sNil))
  (sSeq (sIf (mT (mOp2 gEq (mOp2 gIxA (mV 0) (mC (.int 0))) (mC (.str "send")))) (sRet 0 (mM1 gJoin (mC (.str " ")) (mLst (mCons (mC (.str "send")) (mCons (mOp2 gIxA (mV 0) (mC (.int 1))) (mCons (mOp2 gIxA (mV 0) (mC (.int 2))) (mCons (mFz (mCall 1 [] F_law_worth_text [] (mCons (mOp2 gIxA (mV 0) (mC (.int 3))) (mNil)))) (mNil)))))))) (sNil))
  (sRet 0 (mM1 gJoin (mC (.str " ")) (mLst (mCons (mOp2 gIxA (mV 0) (mC (.int 0))) (mCons (mOp2 gAdd (mC (.str "s")) (mOp1 gStr2 (mOp2 gIxA (mV 0) (mC (.int 1))))) (mCons (mFz (mCall 1 [] F_law_worth_text [] (mCons (mOp2 gIxA (mV 0) (mC (.int 2))) (mNil)))) (mNil))))))))
def F_law_act_text : List O → FRes := runF 1 0 m_law_act_text
abbrev k_law_act_text : Nat := 1
abbrev s_law_rule_text : Stmt := top 69
def N_law_rule_text : List Str := ["_law_house", "_law_rule_here", "_law_when", "_law_tests", "_law_acts", "_law_words", "_law_some", "_law_more", "_law_test_here", "_law_act"]
def d_law_rule_text : He.DefD := ⟨("_law_rule_text", none), "_law_rule_text", "_law_rule_text", defArgs s_law_rule_text, defBody s_law_rule_text, defScope s_law_rule_text, [], []⟩
def m_law_rule_text : MS := sSeq (sAsg (mV 1) (tgSeq 3 (tgCons (tgN 2) (tgCons (tgN 3) (tgCons (tgN 4) (tgNil))))))
  (sSeq (sSet 5 (mOp2 gAdd (mOp2 gAdd (mOp2 gAdd (mC (.str "rule ")) (mV 0)) (mC (.str " "))) (mOp2 gIxA (mLst (mCons (mC (.str "self")) (mCons (mOp2 gAdd (mC (.str "on ")) (mOp2 gIxA (mV 2) (mOp1 gNeg (mC (.int 1))))) (mNil)))) (mOp1 gInt (mOp2 gEq (mOp1 gLen (mV 2)) (mC (.int 2)))))))
  (sSeq (sSet 6 (mOp2 gIxA (mLst (mCons (mC (.str ".")) (mCons (mM1 gJoin (mC (.str " & ")) (mLcR [8] (mItems (mV 3)) (tgN 8) (mYes) (mFz (mCall 1 [] F_law_test_text [] (mCons (mV 8) (mNil)))))) (mNil)))) (mOp1 gInt (mOp2 gNe (mV 3) (mTup (mNil))))))
  (sSeq (sSet 7 (mOp2 gIxA (mLst (mCons (mC (.str ".")) (mCons (mM1 gJoin (mC (.str " , ")) (mLcR [9] (mItems (mV 4)) (tgN 9) (mYes) (mFz (mCall 1 [] F_law_act_text [] (mCons (mV 9) (mNil)))))) (mNil)))) (mOp1 gInt (mOp2 gNe (mV 4) (mTup (mNil))))))
  (sRet 0 (mOp2 gAdd (mOp2 gAdd (mOp2 gAdd (mOp2 gAdd (mV 5) (mC (.str " ; "))) (mV 6)) (mC (.str " ; "))) (mV 7))))))
def F_law_rule_text : List O → FRes := runF 10 0 m_law_rule_text
abbrev k_law_rule_text : Nat := 2
abbrev s_law_system_lines : Stmt := top 70
def N_law_system_lines : List Str := ["_law_system_here", "_law_net_here", "_law_programs", "_law_lines", "_law_house", "_law_program", "_law_road", "_law_rule_here"]
def d_law_system_lines : He.DefD := ⟨("_law_system_lines", none), "_law_system_lines", "_law_system_lines", defArgs s_law_system_lines, defBody s_law_system_lines, defScope s_law_system_lines, [], []⟩
def m_law_system_lines : MS := sSeq (sAsg (mV 0) (tgSeq 2 (tgCons (tgN 1) (tgCons (tgN 2) (tgNil)))))
  (sSeq (sSetO 3 (mAddN (mLcR [4] (mItems (mOp2 gIxA (mV 1) (mC (.int 0)))) (tgN 4) (mYes) (mOp2 gAdd (mC (.str "house ")) (mV 4))) (mLcR [6] (mItems (mOp2 gIxA (mV 1) (mC (.int 1)))) (tgN 6) (mYes) (mOp2 gAdd (mC (.str "road ")) (mM1 gJoin (mC (.str " ")) (mV 6))))))
  (sSeq (sFor (mBin gZip (mOp2 gIxA (mV 1) (mC (.int 0))) (mV 2)) (tgSeq 2 (tgCons (tgN 4) (tgCons (tgN 5) (tgNil)))) (sDrop (mFz (mMut "list" gExtend (mPs 3) (mOs (mCons (mLcR [7] (mItems (mV 5)) (tgN 7) (mYes) (mFz (mCall 2 [] F_law_rule_text [] (mCons (mV 4) (mCons (mV 7) (mNil)))))) (mNil)))))))
  (sRetO 0 (mMov 3))))
def F_law_system_lines : List O → FRes := runF 8 0 m_law_system_lines
abbrev k_law_system_lines : Nat := 3
abbrev s_law_ended : Stmt := top 71
def N_law_ended : List Str := ["_law_lines", "_law_line"]
def d_law_ended : He.DefD := ⟨("_law_ended", none), "_law_ended", "_law_ended", defArgs s_law_ended, defBody s_law_ended, defScope s_law_ended, [], []⟩
def m_law_ended : MS := sRet 0 (mM1 gJoin (mC (.str "")) (mLcR [1] (mItems (mV 0)) (tgN 1) (mYes) (mOp2 gAdd (mV 1) (mC (.str "\n")))))
def F_law_ended : List O → FRes := runF 2 0 m_law_ended
abbrev k_law_ended : Nat := 0
abbrev s_law : Stmt := top 72
def N_law : List Str := ["_law_script", "_law_ahead", "_law_k", "_law_feed_here", "_law_system_here", "_law_one", "_law_kept", "_law_due"]
def d_law : He.DefD := ⟨("law", none), "law", "law", defArgs s_law, defBody s_law, defScope s_law, [], []⟩
def m_law : MS := sSeq (sSet 1 (mTup (mCons (mTup (mCons (mTup (mCons (mC (.str "a")) (mNil))) (mCons (mTup (mNil)) (mNil)))) (mCons (mTup (mCons (mTup (mNil)) (mNil))) (mNil)))))
  (sSeq (sFor (mRng1 (mC (.int 4))) (tgN 2) (sSeq (sSetO 3 (mCall 2 [] F_law_feed [] (mCons (mV 0) (mCons (mV 2) (mNil)))))
  (sSeq (sSet 4 (mFz (mCall 2 [3] F_law_system [] (mCons (mFz (mCall 4 [3] F_law_net [] (mCons (mC (.int 5)) (mCons (mC (.int 8)) (mCons (mTup (mCons (mC (.str "row")) (mCons (mC (.str "loose")) (mNil)))) (mNil)))))) (mNil)))))
  (sSeq (sIf (mT (mOp2 gEq (mFz (mCall 2 [3] F_law_take [] (mCons (mC (.int 4)) (mNil)))) (mC (.int 0)))) (sSet 4 (mTup (mCons (mOp2 gIxA (mV 4) (mC (.int 0))) (mCons (mOp2 gAdd (mSl (mOp2 gIxA (mV 4) (mC (.int 1))) mNoPart (mPart (mOp1 gNeg (mC (.int 1))))) (mTup (mCons (mTup (mNil)) (mNil)))) (mNil))))) (sNil))
  (sSeq (sFor (mItems (mTup (mCons (mV 4) (mCons (mV 1) (mCons (mV 4) (mNil)))))) (tgN 5) (sSeq (sSet 6 (mOp1 gRepr (mV 5)))
  (sSeq (sSet 7 (mFz (mCall 1 [] F_law_ended [] (mCons (mFz (mCall 1 [] F_law_system_lines [] (mCons (mV 5) (mNil)))) (mNil)))))
  (sIf (mOr (mT (mOp2 gNe (mFz (mCall 1 [] F_system_text [] (mCons (mV 5) (mNil)))) (mV 7))) (mOr (mT (mOp2 gNe (mOp1 gRepr (mFz (mCall 1 [] F_read_system [] (mCons (mV 7) (mNil))))) (mV 6))) (mT (mOp2 gNe (mOp1 gRepr (mV 5)) (mV 6))))) (sRet 0 (mC (.bl false))) (sNil)))))
  (sSet 1 (mV 4)))))))
  (sRet 0 (mC (.bl true))))
def F_law : List O → FRes := runF 8 0 m_law
abbrev k_law : Nat := 9
def fa : List He.Fa := [.free "isinstance", .free "tuple", .free "str", .glo "worth_text", .glo "test_text", .glo "act_text", .free "zip", .glo "rule_text", .glo "ended", .free "len", .int "LONGEST" 8, .str "LETTERS" "abcdefghijklmnopqrstuvwxyz", .free "all", .free "int", .free "bool", .glo "is_whole", .glo "is_row", .glo "is_name", .glo "WAYS", .int "SLOTS" 3, .glo "is_from", .int "BEYOND" 1000000000000000000000000000000, .glo "SIGNS", .glo "is_sign", .glo "is_number", .glo "is_slot", .glo "SETS", .glo "is_worth", .glo "is_when", .int "MOST_TESTS" 3, .glo "is_test", .int "MOST_ACTS" 4, .glo "is_act", .str "FIGURES" "0123456789", .cls "Lines", .noat "Lines" "rows_here", .noat "Lines" "row_at", .meth "Lines" "need", .meth "Lines" "begins", .meth "Lines" "ahead", .int "MOST_HOUSES" 5, .meth "Lines" "through", .glo "is_road", .int "MOST_ROADS" 8, .free "range", .glo "slot_in", .glo "number_in", .glo "worth_in", .glo "test_in", .glo "act_in", .int "MOST_RULES" 8, .glo "rule_in", .glo "roads_out", .glo "is_rule", .glo "houses_in", .glo "roads_in", .glo "programs_in", .glo "lines_of", .mkr "Lines", .glo "Lines", .glo "system_in", .meth "Lines" "finish", .free "abs", .glo "_law_take", .free "enumerate", .glo "_law_names", .free "sorted", .glo "_law_number", .glo "_law_test", .glo "_law_some_worth", .glo "_law_rule", .glo "_law_worth_text", .glo "_law_test_text", .glo "_law_act_text", .glo "_law_rule_text", .glo "_law_feed", .glo "_law_net", .glo "_law_system", .free "repr", .glo "_law_system_lines", .glo "_law_ended", .glo "system_text", .glo "read_system", .glo "law"]
def fn : List He.DefD := [d_worth_text, d_test_text, d_act_text, d_rule_text, d_ended, d_system_text, d_is_name, d_is_whole, d_is_from, d_is_row, d_is_road, d_roads_out, d_is_slot, d_is_number, d_is_sign, d_is_when, d_is_test, d_is_worth, d_is_act, d_is_rule, d_number_in, d_lines_of, d_Lines_init, d_Lines_begins, d_Lines_need, d_Lines_ahead, d_Lines_through, d_Lines_finish, d_houses_in, d_roads_in, d_slot_in, d_worth_in, d_test_in, d_act_in, d_rule_in, d_programs_in, d_system_in, d_read_system, d_law_feed, d_law_take, d_law_names, d_law_net, d_law_number, d_law_some_worth, d_law_test, d_law_rule, d_law_system, d_law_worth_text, d_law_test_text, d_law_act_text, d_law_rule_text, d_law_system_lines, d_law_ended, d_law]
def ts : List TabD := [("SIGN_TEXTS", [("under", (.str "<")), ("is", (.str "=")), ("over", (.str ">"))])]
def exB (K : PySem.W.Frag) : Bool := He.tupB K "WAYS" [(.str "row"), (.str "loose")] && He.tupB K "SIGNS" [(.str "under"), (.str "is"), (.str "over")] && He.tupB K "SETS" [(.str "put"), (.str "add"), (.str "less")]
structure Mo (K : PySem.W.Frag) (mg : Str → Option Value) (base : Heap) (B : Hp) : Prop where
  says : He.SaysD fa fn K
  ex : exB K = true
  kin : K.In base
  ns : base.Ns mainGlobals mg
  tabs : ∀ t ∈ ts, ∃ a o, mg t.1 = some (.ref a) ∧ B a = some (.frz o (.dK (t.2.map fun q => (Sum.inr q.1, q.2.v K))))
section
variable {P : Program} {w : World} {K : PySem.W.Frag} {mg : Str → Option Value} {base : Heap} {B : Hp}
theorem Mo.f (m : Mo K mg base B) (i : Nat) {f : He.Fa} (h : fa[i]? = some f := by rfl) : f.ok K = true := m.says.fact i h
theorem glo_law (m : Mo K mg base B) : mg "law" = some (.ref (He.ga K "law")) := He.glo_ok m.kin m.ns (m.f 83)
theorem tp_WAYS (m : Mo K mg base B) (H : Hp) : RepD K H c_WAYS (.ref (He.ga K "WAYS")) := ⟨_, _, rfl, He.tupB_ok (He.ba (He.ba m.ex).1).1 H, ⟨_, _, rfl, rfl, ⟨_, _, rfl, rfl, rfl⟩⟩⟩
theorem tp_SIGNS (m : Mo K mg base B) (H : Hp) : RepD K H c_SIGNS (.ref (He.ga K "SIGNS")) := ⟨_, _, rfl, He.tupB_ok (He.ba (He.ba m.ex).1).2 H, ⟨_, _, rfl, rfl, ⟨_, _, rfl, rfl, ⟨_, _, rfl, rfl, rfl⟩⟩⟩⟩
theorem tp_SETS (m : Mo K mg base B) (H : Hp) : RepD K H c_SETS (.ref (He.ga K "SETS")) := ⟨_, _, rfl, He.tupB_ok (He.ba m.ex).2 H, ⟨_, _, rfl, rfl, ⟨_, _, rfl, rfl, ⟨_, _, rfl, rfl, rfl⟩⟩⟩⟩
theorem mem_SIGN_TEXTS : (("SIGN_TEXTS", [("under", (.str "<")), ("is", (.str "=")), ("over", (.str ">"))]) : TabD) ∈ ts := by unfold ts; simp
theorem rep_SIGN_TEXTS {H : Hp} : RepDs K H td_SIGN_TEXTS tv_SIGN_TEXTS := ⟨_, _, rfl, rfl, ⟨_, _, rfl, rfl, ⟨_, _, rfl, rfl, rfl⟩⟩⟩
theorem sc_worth_text : FnScope N_worth_text ["worth"] (defScope s_worth_text) := ⟨rfl, rfl, rfl, by decide +kernel, rfl, by decide +kernel, by decide +kernel⟩
theorem cb_worth_text : CB d_worth_text ["worth"] noDv := cb_all rfl fun _ _ _ _ _ _ us hl => match us, hl with | [_], _ => rfl
theorem sc_test_text : FnScope N_test_text ["test"] (defScope s_test_text) := ⟨rfl, rfl, rfl, by decide +kernel, rfl, by decide +kernel, by decide +kernel⟩
theorem cb_test_text : CB d_test_text ["test"] noDv := cb_all rfl fun _ _ _ _ _ _ us hl => match us, hl with | [_], _ => rfl
theorem sc_act_text : FnScope N_act_text ["act"] (defScope s_act_text) := ⟨rfl, rfl, rfl, by decide +kernel, rfl, by decide +kernel, by decide +kernel⟩
theorem cb_act_text : CB d_act_text ["act"] noDv := cb_all rfl fun _ _ _ _ _ _ us hl => match us, hl with | [_], _ => rfl
theorem sc_rule_text : FnScope N_rule_text ["house", "rule"] (defScope s_rule_text) := ⟨rfl, rfl, rfl, by decide +kernel, rfl, by decide +kernel, by decide +kernel⟩
theorem cb_rule_text : CB d_rule_text ["house", "rule"] noDv := cb_all rfl fun _ _ _ _ _ _ us hl => match us, hl with | [_, _], _ => rfl
theorem sc_ended : FnScope N_ended ["lines"] (defScope s_ended) := ⟨rfl, rfl, rfl, by decide +kernel, rfl, by decide +kernel, by decide +kernel⟩
theorem cb_ended : CB d_ended ["lines"] noDv := cb_all rfl fun _ _ _ _ _ _ us hl => match us, hl with | [_], _ => rfl
theorem sc_system_text : FnScope N_system_text ["system"] (defScope s_system_text) := ⟨rfl, rfl, rfl, by decide +kernel, rfl, by decide +kernel, by decide +kernel⟩
theorem cb_system_text : CB d_system_text ["system"] noDv := cb_all rfl fun _ _ _ _ _ _ us hl => match us, hl with | [_], _ => rfl
theorem sc_is_name : FnScope N_is_name ["thing"] (defScope s_is_name) := ⟨rfl, rfl, rfl, by decide +kernel, rfl, by decide +kernel, by decide +kernel⟩
theorem cb_is_name : CB d_is_name ["thing"] noDv := cb_all rfl fun _ _ _ _ _ _ us hl => match us, hl with | [_], _ => rfl
theorem sc_is_whole : FnScope N_is_whole ["thing"] (defScope s_is_whole) := ⟨rfl, rfl, rfl, by decide +kernel, rfl, by decide +kernel, by decide +kernel⟩
theorem cb_is_whole : CB d_is_whole ["thing"] noDv := cb_all rfl fun _ _ _ _ _ _ us hl => match us, hl with | [_], _ => rfl
theorem sc_is_from : FnScope N_is_from ["thing", "least", "most"] (defScope s_is_from) := ⟨rfl, rfl, rfl, by decide +kernel, rfl, by decide +kernel, by decide +kernel⟩
theorem cb_is_from : CB d_is_from ["thing", "least", "most"] noDv := cb_all rfl fun _ _ _ _ _ _ us hl => match us, hl with | [_, _, _], _ => rfl
theorem sc_is_row : FnScope N_is_row ["thing", "least", "most"] (defScope s_is_row) := ⟨rfl, rfl, rfl, by decide +kernel, rfl, by decide +kernel, by decide +kernel⟩
theorem cb_is_row : CB d_is_row ["thing", "least", "most"] noDv := cb_all rfl fun _ _ _ _ _ _ us hl => match us, hl with | [_, _, _], _ => rfl
theorem sc_is_road : FnScope N_is_road ["houses", "thing"] (defScope s_is_road) := ⟨rfl, rfl, rfl, by decide +kernel, rfl, by decide +kernel, by decide +kernel⟩
theorem cb_is_road : CB d_is_road ["houses", "thing"] noDv := cb_all rfl fun _ _ _ _ _ _ us hl => match us, hl with | [_, _], _ => rfl
theorem sc_roads_out : FnScope N_roads_out ["net", "house"] (defScope s_roads_out) := ⟨rfl, rfl, rfl, by decide +kernel, rfl, by decide +kernel, by decide +kernel⟩
theorem cb_roads_out : CB d_roads_out ["net", "house"] noDv := cb_all rfl fun _ _ _ _ _ _ us hl => match us, hl with | [_, _], _ => rfl
theorem sc_is_slot : FnScope N_is_slot ["thing"] (defScope s_is_slot) := ⟨rfl, rfl, rfl, by decide +kernel, rfl, by decide +kernel, by decide +kernel⟩
theorem cb_is_slot : CB d_is_slot ["thing"] noDv := cb_all rfl fun _ _ _ _ _ _ us hl => match us, hl with | [_], _ => rfl
theorem sc_is_number : FnScope N_is_number ["thing"] (defScope s_is_number) := ⟨rfl, rfl, rfl, by decide +kernel, rfl, by decide +kernel, by decide +kernel⟩
theorem cb_is_number : CB d_is_number ["thing"] noDv := cb_all rfl fun _ _ _ _ _ _ us hl => match us, hl with | [_], _ => rfl
theorem sc_is_sign : FnScope N_is_sign ["thing"] (defScope s_is_sign) := ⟨rfl, rfl, rfl, by decide +kernel, rfl, by decide +kernel, by decide +kernel⟩
theorem cb_is_sign : CB d_is_sign ["thing"] noDv := cb_all rfl fun _ _ _ _ _ _ us hl => match us, hl with | [_], _ => rfl
theorem sc_is_when : FnScope N_is_when ["thing"] (defScope s_is_when) := ⟨rfl, rfl, rfl, by decide +kernel, rfl, by decide +kernel, by decide +kernel⟩
theorem cb_is_when : CB d_is_when ["thing"] noDv := cb_all rfl fun _ _ _ _ _ _ us hl => match us, hl with | [_], _ => rfl
theorem sc_is_test : FnScope N_is_test ["thing", "is_letter"] (defScope s_is_test) := ⟨rfl, rfl, rfl, by decide +kernel, rfl, by decide +kernel, by decide +kernel⟩
theorem cb_is_test : CB d_is_test ["thing", "is_letter"] noDv := cb_all rfl fun _ _ _ _ _ _ us hl => match us, hl with | [_, _], _ => rfl
theorem sc_is_worth : FnScope N_is_worth ["thing", "is_letter"] (defScope s_is_worth) := ⟨rfl, rfl, rfl, by decide +kernel, rfl, by decide +kernel, by decide +kernel⟩
theorem cb_is_worth : CB d_is_worth ["thing", "is_letter"] noDv := cb_all rfl fun _ _ _ _ _ _ us hl => match us, hl with | [_, _], _ => rfl
theorem sc_is_act : FnScope N_is_act ["out", "thing", "is_letter"] (defScope s_is_act) := ⟨rfl, rfl, rfl, by decide +kernel, rfl, by decide +kernel, by decide +kernel⟩
theorem cb_is_act : CB d_is_act ["out", "thing", "is_letter"] noDv := cb_all rfl fun _ _ _ _ _ _ us hl => match us, hl with | [_, _, _], _ => rfl
theorem sc_is_rule : FnScope N_is_rule ["out", "thing"] (defScope s_is_rule) := ⟨rfl, rfl, rfl, by decide +kernel, rfl, by decide +kernel, by decide +kernel⟩
theorem cb_is_rule : CB d_is_rule ["out", "thing"] noDv := cb_all rfl fun _ _ _ _ _ _ us hl => match us, hl with | [_, _], _ => rfl
theorem sc_number_in : FnScope N_number_in ["word", "most"] (defScope s_number_in) := ⟨rfl, rfl, rfl, by decide +kernel, rfl, by decide +kernel, by decide +kernel⟩
theorem cbd1_number_in : CB d_number_in ["word", "most"] (fun K => (d_number_in.dvs K).drop 0) := cb_dfl (n := 1) (j := 0) (by decide) rfl fun _ _ _ _ _ _ _ us its hl hl2 => match us, its, hl, hl2 with | [_], [_], _, _ => ⟨_, rfl, rfl⟩
theorem ddr1_number_in : ∀ H, RepDs K H dd1_number_in ((d_number_in.dvs K).drop 0) := fun _ => ⟨_, _, rfl, rfl, rfl⟩
theorem sc_lines_of : FnScope N_lines_of ["text"] (defScope s_lines_of) := ⟨rfl, rfl, rfl, by decide +kernel, rfl, by decide +kernel, by decide +kernel⟩
theorem cb_lines_of : CB d_lines_of ["text"] noDv := cb_all rfl fun _ _ _ _ _ _ us hl => match us, hl with | [_], _ => rfl
theorem sc_Lines_init : FnScope N_Lines_init ["self", "lines"] (defScope s_Lines_init) := ⟨rfl, rfl, rfl, by decide +kernel, rfl, by decide +kernel, by decide +kernel⟩
theorem cb_Lines_init : CB d_Lines_init ["self", "lines"] noDv := cb_all rfl fun _ _ _ _ _ _ us hl => match us, hl with | [_, _], _ => rfl
theorem sc_Lines_begins : FnScope N_Lines_begins ["self", "word"] (defScope s_Lines_begins) := ⟨rfl, rfl, rfl, by decide +kernel, rfl, by decide +kernel, by decide +kernel⟩
theorem cb_Lines_begins : CB d_Lines_begins ["self", "word"] noDv := cb_all rfl fun _ _ _ _ _ _ us hl => match us, hl with | [_, _], _ => rfl
theorem sc_Lines_need : FnScope N_Lines_need ["self", "truth"] (defScope s_Lines_need) := ⟨rfl, rfl, rfl, by decide +kernel, rfl, by decide +kernel, by decide +kernel⟩
theorem cb_Lines_need : CB d_Lines_need ["self", "truth"] noDv := cb_all rfl fun _ _ _ _ _ _ us hl => match us, hl with | [_, _], _ => rfl
theorem sc_Lines_ahead : FnScope N_Lines_ahead ["self"] (defScope s_Lines_ahead) := ⟨rfl, rfl, rfl, by decide +kernel, rfl, by decide +kernel, by decide +kernel⟩
theorem cb_Lines_ahead : CB d_Lines_ahead ["self"] noDv := cb_all rfl fun _ _ _ _ _ _ us hl => match us, hl with | [_], _ => rfl
theorem sc_Lines_through : FnScope N_Lines_through ["self"] (defScope s_Lines_through) := ⟨rfl, rfl, rfl, by decide +kernel, rfl, by decide +kernel, by decide +kernel⟩
theorem cb_Lines_through : CB d_Lines_through ["self"] noDv := cb_all rfl fun _ _ _ _ _ _ us hl => match us, hl with | [_], _ => rfl
theorem sc_Lines_finish : FnScope N_Lines_finish ["self"] (defScope s_Lines_finish) := ⟨rfl, rfl, rfl, by decide +kernel, rfl, by decide +kernel, by decide +kernel⟩
theorem cb_Lines_finish : CB d_Lines_finish ["self"] noDv := cb_all rfl fun _ _ _ _ _ _ us hl => match us, hl with | [_], _ => rfl
theorem sc_houses_in : FnScope N_houses_in ["lines"] (defScope s_houses_in) := ⟨rfl, rfl, rfl, by decide +kernel, rfl, by decide +kernel, by decide +kernel⟩
theorem cb_houses_in : CB d_houses_in ["lines"] noDv := cb_all rfl fun _ _ _ _ _ _ us hl => match us, hl with | [_], _ => rfl
theorem sc_roads_in : FnScope N_roads_in ["lines", "houses"] (defScope s_roads_in) := ⟨rfl, rfl, rfl, by decide +kernel, rfl, by decide +kernel, by decide +kernel⟩
theorem cb_roads_in : CB d_roads_in ["lines", "houses"] noDv := cb_all rfl fun _ _ _ _ _ _ us hl => match us, hl with | [_, _], _ => rfl
theorem sc_slot_in : FnScope N_slot_in ["word"] (defScope s_slot_in) := ⟨rfl, rfl, rfl, by decide +kernel, rfl, by decide +kernel, by decide +kernel⟩
theorem cb_slot_in : CB d_slot_in ["word"] noDv := cb_all rfl fun _ _ _ _ _ _ us hl => match us, hl with | [_], _ => rfl
theorem sc_worth_in : FnScope N_worth_in ["word"] (defScope s_worth_in) := ⟨rfl, rfl, rfl, by decide +kernel, rfl, by decide +kernel, by decide +kernel⟩
theorem cb_worth_in : CB d_worth_in ["word"] noDv := cb_all rfl fun _ _ _ _ _ _ us hl => match us, hl with | [_], _ => rfl
theorem sc_test_in : FnScope N_test_in ["text"] (defScope s_test_in) := ⟨rfl, rfl, rfl, by decide +kernel, rfl, by decide +kernel, by decide +kernel⟩
theorem cb_test_in : CB d_test_in ["text"] noDv := cb_all rfl fun _ _ _ _ _ _ us hl => match us, hl with | [_], _ => rfl
theorem sc_act_in : FnScope N_act_in ["text"] (defScope s_act_in) := ⟨rfl, rfl, rfl, by decide +kernel, rfl, by decide +kernel, by decide +kernel⟩
theorem cb_act_in : CB d_act_in ["text"] noDv := cb_all rfl fun _ _ _ _ _ _ us hl => match us, hl with | [_], _ => rfl
theorem sc_rule_in : FnScope N_rule_in ["text"] (defScope s_rule_in) := ⟨rfl, rfl, rfl, by decide +kernel, rfl, by decide +kernel, by decide +kernel⟩
theorem cb_rule_in : CB d_rule_in ["text"] noDv := cb_all rfl fun _ _ _ _ _ _ us hl => match us, hl with | [_], _ => rfl
theorem sc_programs_in : FnScope N_programs_in ["lines", "net"] (defScope s_programs_in) := ⟨rfl, rfl, rfl, by decide +kernel, rfl, by decide +kernel, by decide +kernel⟩
theorem cb_programs_in : CB d_programs_in ["lines", "net"] noDv := cb_all rfl fun _ _ _ _ _ _ us hl => match us, hl with | [_, _], _ => rfl
theorem sc_system_in : FnScope N_system_in ["lines"] (defScope s_system_in) := ⟨rfl, rfl, rfl, by decide +kernel, rfl, by decide +kernel, by decide +kernel⟩
theorem cb_system_in : CB d_system_in ["lines"] noDv := cb_all rfl fun _ _ _ _ _ _ us hl => match us, hl with | [_], _ => rfl
theorem sc_read_system : FnScope N_read_system ["text"] (defScope s_read_system) := ⟨rfl, rfl, rfl, by decide +kernel, rfl, by decide +kernel, by decide +kernel⟩
theorem cb_read_system : CB d_read_system ["text"] noDv := cb_all rfl fun _ _ _ _ _ _ us hl => match us, hl with | [_], _ => rfl
theorem sc_law_feed : FnScope N_law_feed ["_law_script", "_law_k"] (defScope s_law_feed) := ⟨rfl, rfl, rfl, by decide +kernel, rfl, by decide +kernel, by decide +kernel⟩
theorem cb_law_feed : CB d_law_feed ["_law_script", "_law_k"] noDv := cb_all rfl fun _ _ _ _ _ _ us hl => match us, hl with | [_, _], _ => rfl
theorem sc_law_take : FnScope N_law_take ["_law_feed_here", "_law_many"] (defScope s_law_take) := ⟨rfl, rfl, rfl, by decide +kernel, rfl, by decide +kernel, by decide +kernel⟩
theorem cb_law_take : CB d_law_take ["_law_feed_here", "_law_many"] noDv := cb_all rfl fun _ _ _ _ _ _ us hl => match us, hl with | [_, _], _ => rfl
theorem sc_law_names : FnScope N_law_names ["_law_feed_here", "_law_many"] (defScope s_law_names) := ⟨rfl, rfl, rfl, by decide +kernel, rfl, by decide +kernel, by decide +kernel⟩
theorem cb_law_names : CB d_law_names ["_law_feed_here", "_law_many"] noDv := cb_all rfl fun _ _ _ _ _ _ us hl => match us, hl with | [_, _], _ => rfl
theorem sc_law_net : FnScope N_law_net ["_law_feed_here", "_law_houses", "_law_roads", "_law_ways"] (defScope s_law_net) := ⟨rfl, rfl, rfl, by decide +kernel, rfl, by decide +kernel, by decide +kernel⟩
theorem cb_law_net : CB d_law_net ["_law_feed_here", "_law_houses", "_law_roads", "_law_ways"] noDv := cb_all rfl fun _ _ _ _ _ _ us hl => match us, hl with | [_, _, _, _], _ => rfl
theorem sc_law_number : FnScope N_law_number ["_law_feed_here"] (defScope s_law_number) := ⟨rfl, rfl, rfl, by decide +kernel, rfl, by decide +kernel, by decide +kernel⟩
theorem cb_law_number : CB d_law_number ["_law_feed_here"] noDv := cb_all rfl fun _ _ _ _ _ _ us hl => match us, hl with | [_], _ => rfl
theorem sc_law_some_worth : FnScope N_law_some_worth ["_law_feed_here", "_law_on_letter"] (defScope s_law_some_worth) := ⟨rfl, rfl, rfl, by decide +kernel, rfl, by decide +kernel, by decide +kernel⟩
theorem cb_law_some_worth : CB d_law_some_worth ["_law_feed_here", "_law_on_letter"] noDv := cb_all rfl fun _ _ _ _ _ _ us hl => match us, hl with | [_, _], _ => rfl
theorem sc_law_test : FnScope N_law_test ["_law_feed_here", "_law_on_letter"] (defScope s_law_test) := ⟨rfl, rfl, rfl, by decide +kernel, rfl, by decide +kernel, by decide +kernel⟩
theorem cb_law_test : CB d_law_test ["_law_feed_here", "_law_on_letter"] noDv := cb_all rfl fun _ _ _ _ _ _ us hl => match us, hl with | [_, _], _ => rfl
theorem sc_law_rule : FnScope N_law_rule ["_law_feed_here", "_law_out", "_law_words"] (defScope s_law_rule) := ⟨rfl, rfl, rfl, by decide +kernel, rfl, by decide +kernel, by decide +kernel⟩
theorem cb_law_rule : CB d_law_rule ["_law_feed_here", "_law_out", "_law_words"] noDv := cb_all rfl fun _ _ _ _ _ _ us hl => match us, hl with | [_, _, _], _ => rfl
theorem sc_law_system : FnScope N_law_system ["_law_feed_here", "_law_net_here"] (defScope s_law_system) := ⟨rfl, rfl, rfl, by decide +kernel, rfl, by decide +kernel, by decide +kernel⟩
theorem cb_law_system : CB d_law_system ["_law_feed_here", "_law_net_here"] noDv := cb_all rfl fun _ _ _ _ _ _ us hl => match us, hl with | [_, _], _ => rfl
theorem sc_law_worth_text : FnScope N_law_worth_text ["_law_worth"] (defScope s_law_worth_text) := ⟨rfl, rfl, rfl, by decide +kernel, rfl, by decide +kernel, by decide +kernel⟩
theorem cb_law_worth_text : CB d_law_worth_text ["_law_worth"] noDv := cb_all rfl fun _ _ _ _ _ _ us hl => match us, hl with | [_], _ => rfl
theorem sc_law_test_text : FnScope N_law_test_text ["_law_test_here"] (defScope s_law_test_text) := ⟨rfl, rfl, rfl, by decide +kernel, rfl, by decide +kernel, by decide +kernel⟩
theorem cb_law_test_text : CB d_law_test_text ["_law_test_here"] noDv := cb_all rfl fun _ _ _ _ _ _ us hl => match us, hl with | [_], _ => rfl
theorem sc_law_act_text : FnScope N_law_act_text ["_law_act"] (defScope s_law_act_text) := ⟨rfl, rfl, rfl, by decide +kernel, rfl, by decide +kernel, by decide +kernel⟩
theorem cb_law_act_text : CB d_law_act_text ["_law_act"] noDv := cb_all rfl fun _ _ _ _ _ _ us hl => match us, hl with | [_], _ => rfl
theorem sc_law_rule_text : FnScope N_law_rule_text ["_law_house", "_law_rule_here"] (defScope s_law_rule_text) := ⟨rfl, rfl, rfl, by decide +kernel, rfl, by decide +kernel, by decide +kernel⟩
theorem cb_law_rule_text : CB d_law_rule_text ["_law_house", "_law_rule_here"] noDv := cb_all rfl fun _ _ _ _ _ _ us hl => match us, hl with | [_, _], _ => rfl
theorem sc_law_system_lines : FnScope N_law_system_lines ["_law_system_here"] (defScope s_law_system_lines) := ⟨rfl, rfl, rfl, by decide +kernel, rfl, by decide +kernel, by decide +kernel⟩
theorem cb_law_system_lines : CB d_law_system_lines ["_law_system_here"] noDv := cb_all rfl fun _ _ _ _ _ _ us hl => match us, hl with | [_], _ => rfl
theorem sc_law_ended : FnScope N_law_ended ["_law_lines"] (defScope s_law_ended) := ⟨rfl, rfl, rfl, by decide +kernel, rfl, by decide +kernel, by decide +kernel⟩
theorem cb_law_ended : CB d_law_ended ["_law_lines"] noDv := cb_all rfl fun _ _ _ _ _ _ us hl => match us, hl with | [_], _ => rfl
theorem sc_law : FnScope N_law ["_law_script"] (defScope s_law) := ⟨rfl, rfl, rfl, by decide +kernel, rfl, by decide +kernel, by decide +kernel⟩
theorem cb_law : CB d_law ["_law_script"] noDv := cb_all rfl fun _ _ _ _ _ _ us hl => match us, hl with | [_], _ => rfl
theorem ok_worth_text (m : Mo K mg base B) : OkD P w K mg base ⟨He.ga K, B⟩ d_worth_text (k_worth_text + 1) ["worth"] 1 0 F_worth_text := by
  obtain ⟨fd, F⟩ := m.says.def_ 0 (d := d_worth_text) rfl
  refine ⟨fd, F, DL.FunD.okG F sc_worth_text rfl (by decide) fun cdv A outer s H E pv hpv hr => ?_⟩
  have hu : (A.deeper (envOfC "worth_text" (defScope s_worth_text) s.heap.objs.size (He.fAd K d_worth_text.at_) cdv)).units + 1 < cLine := by have := hr.rm.un; show A.units + 3 + 1 < cLine; have h2 : A.units + 3 + 16 * k_worth_text + 200 < cLine := this; omega
  have hu2 : (A.deeper (envOfC "worth_text" (defScope s_worth_text) s.heap.objs.size (He.fAd K d_worth_text.at_) cdv)).units + 64 < cLine := by have := hr.rm.un; show A.units + 3 + 64 < cLine; have h2 : A.units + 3 + 16 * k_worth_text + 200 < cLine := this; omega
  have tk := takes_of (X := cxOf (L2.CX P w) P w K mg base N_worth_text "worth_text" (defScope s_worth_text) (He.fAd K d_worth_text.at_) cdv A outer s H E) (E := E) rfl rfl rfl rfl
  have po := passes_of (X := cxOf (L2.CX P w) P w K mg base N_worth_text "worth_text" (defScope s_worth_text) (He.fAd K d_worth_text.at_) cdv A outer s H E) rfl
  have nd : N_worth_text.Nodup := sc_worth_text.nd
  have hp : ∀ i, 0 ≤ i → pv.length ≤ i := fun i h => by rw [hpv]; exact h
  have hps : ∀ {is : List Nat}, (∀ i ∈ is, 0 ≤ i) → ∀ i ∈ is, pv.length ≤ i := fun h i hi => hp i (h i hi)
  exact (dss_cons (ds_if (dt_not (dt_tru (DE.toB (de_isi (He.free_ok m.kin m.ns (m.f 0)) (DE.toB (de_var 0)) (He.free_ok m.kin m.ns (m.f 1)) (by decide +kernel))))) (dss_one (ds_ret (de_t1 call_str2 loc_str2 (He.free_ok m.kin m.ns (m.f 2)) (by decide +kernel) (DE.toB (de_var 0))) hpv)) dss_nil)
  (dss_cons (ds_if (dt_cmp (op_eqD hu2) loc_eq (de_ixA hu (de_var 0) (DE.toB de_int)) (DE.toB de_str)) (dss_one (ds_ret (de_op2 op_add4 loc_add de_str (DE.toB (de_t1 call_str2 loc_str2 (He.free_ok m.kin m.ns (m.f 2)) (by decide +kernel) (DE.toB (de_ixA hu (de_var 0) (DE.toB de_int)))))) hpv)) dss_nil)
  (dss_one (ds_ret (de_ixA hu (de_var 0) (DE.toB de_int)) hpv))))
theorem ok_test_text (m : Mo K mg base B) : OkD P w K mg base ⟨He.ga K, B⟩ d_test_text (k_test_text + 1) ["test"] 1 0 F_test_text := by
  obtain ⟨fd, F⟩ := m.says.def_ 1 (d := d_test_text) rfl
  refine ⟨fd, F, DL.FunD.okG F sc_test_text rfl (by decide) fun cdv A outer s H E pv hpv hr => ?_⟩
  have hu : (A.deeper (envOfC "test_text" (defScope s_test_text) s.heap.objs.size (He.fAd K d_test_text.at_) cdv)).units + 1 < cLine := by have := hr.rm.un; show A.units + 3 + 1 < cLine; have h2 : A.units + 3 + 16 * k_test_text + 200 < cLine := this; omega
  have hu2 : (A.deeper (envOfC "test_text" (defScope s_test_text) s.heap.objs.size (He.fAd K d_test_text.at_) cdv)).units + 64 < cLine := by have := hr.rm.un; show A.units + 3 + 64 < cLine; have h2 : A.units + 3 + 16 * k_test_text + 200 < cLine := this; omega
  have tk := takes_of (X := cxOf (L2.CX P w) P w K mg base N_test_text "test_text" (defScope s_test_text) (He.fAd K d_test_text.at_) cdv A outer s H E) (E := E) rfl rfl rfl rfl
  have po := passes_of (X := cxOf (L2.CX P w) P w K mg base N_test_text "test_text" (defScope s_test_text) (He.fAd K d_test_text.at_) cdv A outer s H E) rfl
  have nd : N_test_text.Nodup := sc_test_text.nd
  have hp : ∀ i, 0 ≤ i → pv.length ≤ i := fun i h => by rw [hpv]; exact h
  have hps : ∀ {is : List Nat}, (∀ i ∈ is, 0 ≤ i) → ∀ i ∈ is, pv.length ≤ i := fun h i hi => hp i (h i hi)
  exact (dss_cons (ds_asg (de_var 0) (dg_seq (dgs_cons (dg_n 1 nd) (dgs_cons (dg_n 2 nd) (dgs_cons (dg_n 3 nd) dgs_nil)))) (hps (by decide)))
  (dss_cons (ds_set 4 nd (de_if (dt_cmp (op_eqD hu2) loc_eq (de_var 1) (DE.toB de_str)) (de_var 1) (de_op2 op_add4 loc_add de_str (DE.toB (de_t1 call_str2 loc_str2 (He.free_ok m.kin m.ns (m.f 2)) (by decide +kernel) (DE.toB (de_var 1)))))) (hp 4 (by decide)))
  (dss_one (ds_ret (de_m1 PySem.F.slot_str_join PySem.F.type_str_join mt_join loc_join de_str (DE.toB (de_lst (da_cons (de_var 4) (da_cons (de_ixA hu (de_gdk (vs := tv_SIGN_TEXTS) (m.tabs _ (mem_SIGN_TEXTS)) rfl (fun _ => rep_SIGN_TEXTS)) (DE.toB (de_var 2))) (da_cons (de_t1 call_str2 loc_str2 (He.free_ok m.kin m.ns (m.f 2)) (by decide +kernel) (DE.toB (de_var 3))) da_nil)))))) hpv))))
theorem ok_act_text (m : Mo K mg base B) : OkD P w K mg base ⟨He.ga K, B⟩ d_act_text (k_act_text + 1) ["act"] 1 0 F_act_text := by
  obtain ⟨fd, F⟩ := m.says.def_ 2 (d := d_act_text) rfl
  refine ⟨fd, F, DL.FunD.okG F sc_act_text rfl (by decide) fun cdv A outer s H E pv hpv hr => ?_⟩
  have hu : (A.deeper (envOfC "act_text" (defScope s_act_text) s.heap.objs.size (He.fAd K d_act_text.at_) cdv)).units + 1 < cLine := by have := hr.rm.un; show A.units + 3 + 1 < cLine; have h2 : A.units + 3 + 16 * k_act_text + 200 < cLine := this; omega
  have hu2 : (A.deeper (envOfC "act_text" (defScope s_act_text) s.heap.objs.size (He.fAd K d_act_text.at_) cdv)).units + 64 < cLine := by have := hr.rm.un; show A.units + 3 + 64 < cLine; have h2 : A.units + 3 + 16 * k_act_text + 200 < cLine := this; omega
  have tk := takes_of (X := cxOf (L2.CX P w) P w K mg base N_act_text "act_text" (defScope s_act_text) (He.fAd K d_act_text.at_) cdv A outer s H E) (E := E) rfl rfl rfl rfl
  have po := passes_of (X := cxOf (L2.CX P w) P w K mg base N_act_text "act_text" (defScope s_act_text) (He.fAd K d_act_text.at_) cdv A outer s H E) rfl
  have nd : N_act_text.Nodup := sc_act_text.nd
  have hp : ∀ i, 0 ≤ i → pv.length ≤ i := fun i h => by rw [hpv]; exact h
  have hps : ∀ {is : List Nat}, (∀ i ∈ is, 0 ≤ i) → ∀ i ∈ is, pv.length ≤ i := fun h i hi => hp i (h i hi)
  exact (dss_cons (ds_star (n := 2) (i := 1) (de_var 0) (dgs_cons (dg_n 1 nd) (dgs_star (dg_n 2 nd) dgs_nil)) (hps (by decide)))
  (dss_cons (ds_if (dt_cmp (op_eqD hu2) loc_eq (de_var 1) (DE.toB de_str)) (dss_one (ds_ret (de_var 1) hpv)) dss_nil)
  (dss_cons (ds_star (n := 2) (i := 0) (de_var 2) (dgs_star (dg_n 3 nd) (dgs_cons (dg_n 4 nd) dgs_nil)) (hps (by decide)))
  (dss_cons (ds_if (dt_cmp (op_eqD hu2) loc_eq (de_var 1) (DE.toB de_str)) (dss_one (ds_ret (de_m1 PySem.F.slot_str_join PySem.F.type_str_join mt_join loc_join de_str (DE.toB (de_op2 op_add4 loc_add (de_op2 op_add4 loc_add (de_lst (da_cons (de_var 1) da_nil)) (DE.toB (de_var 3))) (DE.toB (de_lst (da_cons (de_fz (do_call (j := k_act_text) (ok_worth_text m) cb_worth_text noDv_rep hr (He.glo_ok m.kin m.ns (m.f 3)) tk (dar_nil (da_cons (de_var 4) da_nil)))) da_nil)))))) hpv)) dss_nil)
  (dss_one (ds_ret (de_m1 PySem.F.slot_str_join PySem.F.type_str_join mt_join loc_join de_str (DE.toB (de_lst (da_cons (de_var 1) (da_cons (de_op2 op_add4 loc_add de_str (DE.toB (de_t1 call_str2 loc_str2 (He.free_ok m.kin m.ns (m.f 2)) (by decide +kernel) (DE.toB (de_ixA hu (de_var 3) (DE.toB de_int)))))) (da_cons (de_fz (do_call (j := k_act_text) (ok_worth_text m) cb_worth_text noDv_rep hr (He.glo_ok m.kin m.ns (m.f 3)) tk (dar_nil (da_cons (de_var 4) da_nil)))) da_nil)))))) hpv))))))
theorem ok_rule_text (m : Mo K mg base B) : OkD P w K mg base ⟨He.ga K, B⟩ d_rule_text (k_rule_text + 1) ["house", "rule"] 2 0 F_rule_text := by
  obtain ⟨fd, F⟩ := m.says.def_ 3 (d := d_rule_text) rfl
  refine ⟨fd, F, DL.FunD.okG F sc_rule_text rfl (by decide) fun cdv A outer s H E pv hpv hr => ?_⟩
  have hu : (A.deeper (envOfC "rule_text" (defScope s_rule_text) s.heap.objs.size (He.fAd K d_rule_text.at_) cdv)).units + 1 < cLine := by have := hr.rm.un; show A.units + 3 + 1 < cLine; have h2 : A.units + 3 + 16 * k_rule_text + 200 < cLine := this; omega
  have hu2 : (A.deeper (envOfC "rule_text" (defScope s_rule_text) s.heap.objs.size (He.fAd K d_rule_text.at_) cdv)).units + 64 < cLine := by have := hr.rm.un; show A.units + 3 + 64 < cLine; have h2 : A.units + 3 + 16 * k_rule_text + 200 < cLine := this; omega
  have tk := takes_of (X := cxOf (L2.CX P w) P w K mg base N_rule_text "rule_text" (defScope s_rule_text) (He.fAd K d_rule_text.at_) cdv A outer s H E) (E := E) rfl rfl rfl rfl
  have po := passes_of (X := cxOf (L2.CX P w) P w K mg base N_rule_text "rule_text" (defScope s_rule_text) (He.fAd K d_rule_text.at_) cdv A outer s H E) rfl
  have nd : N_rule_text.Nodup := sc_rule_text.nd
  have hp : ∀ i, 0 ≤ i → pv.length ≤ i := fun i h => by rw [hpv]; exact h
  have hps : ∀ {is : List Nat}, (∀ i ∈ is, 0 ≤ i) → ∀ i ∈ is, pv.length ≤ i := fun h i hi => hp i (h i hi)
  exact (dss_cons (ds_asg (de_var 1) (dg_seq (dgs_cons (dg_n 2 nd) (dgs_cons (dg_n 3 nd) (dgs_cons (dg_n 4 nd) dgs_nil)))) (hps (by decide)))
  (dss_cons (ds_set 5 nd (de_if (dt_cmp (op_eqD hu2) loc_eq (de_var 2) (DE.toB (de_tup (da_cons de_str da_nil)))) de_str (de_op2 op_add4 loc_add de_str (DE.toB (de_ixA hu (de_var 2) (DE.toB de_int))))) (hp 5 (by decide)))
  (dss_cons (ds_set 6 nd (de_or (de_m1 PySem.F.slot_str_join PySem.F.type_str_join mt_join loc_join de_str (DE.toB (lcR_all newL_d nd (di_any (de_var 3)) (W0 := fun _ _ _ _ => False) (own := [("test", 8)]) (blkOk_by (N := N_rule_text) (sc := defScope s_rule_text) (by decide +kernel)) (fun _ _ _ _ _ => (dg_n 8 nd)) (fun _ _ _ _ _ => (pts_yes (r0 := true))) (fun _ _ _ _ _ => (de_fz (do_call (j := k_rule_text) (ok_test_text m) cb_test_text noDv_rep hr (He.glo_ok m.kin m.ns (m.f 4)) takes_none5 (dar_nil (da_cons (de_var 8) da_nil)))))))) (de_one de_str)) (hp 6 (by decide)))
  (dss_cons (ds_set 7 nd (de_or (de_m1 PySem.F.slot_str_join PySem.F.type_str_join mt_join loc_join de_str (DE.toB (lcR_all newL_d nd (di_any (de_var 4)) (W0 := fun _ _ _ _ => False) (own := [("act", 9)]) (blkOk_by (N := N_rule_text) (sc := defScope s_rule_text) (by decide +kernel)) (fun _ _ _ _ _ => (dg_n 9 nd)) (fun _ _ _ _ _ => (pts_yes (r0 := true))) (fun _ _ _ _ _ => (de_fz (do_call (j := k_rule_text) (ok_act_text m) cb_act_text noDv_rep hr (He.glo_ok m.kin m.ns (m.f 5)) takes_none5 (dar_nil (da_cons (de_var 9) da_nil)))))))) (de_one de_str)) (hp 7 (by decide)))
  (dss_one (ds_ret (de_m1 PySem.F.slot_str_join PySem.F.type_str_join mt_join loc_join de_str (DE.toB (de_lst (da_cons (de_op2 op_add4 loc_add (de_op2 op_add4 loc_add (de_op2 op_add4 loc_add de_str (DE.toB (de_var 0))) (DE.toB de_str)) (DE.toB (de_var 5))) (da_cons (de_var 6) (da_cons (de_var 7) da_nil)))))) hpv))))))
theorem ok_ended (m : Mo K mg base B) : OkD P w K mg base ⟨He.ga K, B⟩ d_ended (k_ended + 1) ["lines"] 1 0 F_ended := by
  obtain ⟨fd, F⟩ := m.says.def_ 4 (d := d_ended) rfl
  refine ⟨fd, F, DL.FunD.okG F sc_ended rfl (by decide) fun cdv A outer s H E pv hpv hr => ?_⟩
  have hu : (A.deeper (envOfC "ended" (defScope s_ended) s.heap.objs.size (He.fAd K d_ended.at_) cdv)).units + 1 < cLine := by have := hr.rm.un; show A.units + 3 + 1 < cLine; have h2 : A.units + 3 + 16 * k_ended + 200 < cLine := this; omega
  have hu2 : (A.deeper (envOfC "ended" (defScope s_ended) s.heap.objs.size (He.fAd K d_ended.at_) cdv)).units + 64 < cLine := by have := hr.rm.un; show A.units + 3 + 64 < cLine; have h2 : A.units + 3 + 16 * k_ended + 200 < cLine := this; omega
  have tk := takes_of (X := cxOf (L2.CX P w) P w K mg base N_ended "ended" (defScope s_ended) (He.fAd K d_ended.at_) cdv A outer s H E) (E := E) rfl rfl rfl rfl
  have po := passes_of (X := cxOf (L2.CX P w) P w K mg base N_ended "ended" (defScope s_ended) (He.fAd K d_ended.at_) cdv A outer s H E) rfl
  have nd : N_ended.Nodup := sc_ended.nd
  have hp : ∀ i, 0 ≤ i → pv.length ≤ i := fun i h => by rw [hpv]; exact h
  have hps : ∀ {is : List Nat}, (∀ i ∈ is, 0 ≤ i) → ∀ i ∈ is, pv.length ≤ i := fun h i hi => hp i (h i hi)
  exact (dss_one (ds_ret (de_m1 PySem.F.slot_str_join PySem.F.type_str_join mt_join loc_join de_str (DE.toB (lcR_all newL_d nd (di_any (de_var 0)) (W0 := fun _ _ _ _ => False) (own := [("line", 1)]) (blkOk_by (N := N_ended) (sc := defScope s_ended) (by decide +kernel)) (fun _ _ _ _ _ => (dg_n 1 nd)) (fun _ _ _ _ _ => (pts_yes (r0 := true))) (fun _ _ _ _ _ => (de_op2 op_add4 loc_add (de_var 1) (DE.toB de_str)))))) hpv))
theorem ok_system_text (m : Mo K mg base B) : OkD P w K mg base ⟨He.ga K, B⟩ d_system_text (k_system_text + 1) ["system"] 1 0 F_system_text := by
  obtain ⟨fd, F⟩ := m.says.def_ 5 (d := d_system_text) rfl
  refine ⟨fd, F, DL.FunD.okG F sc_system_text rfl (by decide) fun cdv A outer s H E pv hpv hr => ?_⟩
  have hu : (A.deeper (envOfC "system_text" (defScope s_system_text) s.heap.objs.size (He.fAd K d_system_text.at_) cdv)).units + 1 < cLine := by have := hr.rm.un; show A.units + 3 + 1 < cLine; have h2 : A.units + 3 + 16 * k_system_text + 200 < cLine := this; omega
  have hu2 : (A.deeper (envOfC "system_text" (defScope s_system_text) s.heap.objs.size (He.fAd K d_system_text.at_) cdv)).units + 64 < cLine := by have := hr.rm.un; show A.units + 3 + 64 < cLine; have h2 : A.units + 3 + 16 * k_system_text + 200 < cLine := this; omega
  have tk := takes_of (X := cxOf (L2.CX P w) P w K mg base N_system_text "system_text" (defScope s_system_text) (He.fAd K d_system_text.at_) cdv A outer s H E) (E := E) rfl rfl rfl rfl
  have po := passes_of (X := cxOf (L2.CX P w) P w K mg base N_system_text "system_text" (defScope s_system_text) (He.fAd K d_system_text.at_) cdv A outer s H E) rfl
  have nd : N_system_text.Nodup := sc_system_text.nd
  have hp : ∀ i, 0 ≤ i → pv.length ≤ i := fun i h => by rw [hpv]; exact h
  have hps : ∀ {is : List Nat}, (∀ i ∈ is, 0 ≤ i) → ∀ i ∈ is, pv.length ≤ i := fun h i hi => hp i (h i hi)
  exact (dss_cons (ds_asg (de_var 0) (dg_seq (dgs_cons (dg_n 1 nd) (dgs_cons (dg_n 2 nd) dgs_nil))) (hps (by decide)))
  (dss_cons (ds_setO 3 nd (do_addN (lcR_all newL_d nd (di_any (de_ixA hu (de_var 1) (DE.toB de_int))) (W0 := fun _ _ _ _ => False) (own := [("house", 4)]) (blkOk_by (N := N_system_text) (sc := defScope s_system_text) (by decide +kernel)) (fun _ _ _ _ _ => (dg_n 4 nd)) (fun _ _ _ _ _ => (pts_yes (r0 := true))) (fun _ _ _ _ _ => (de_op2 op_add4 loc_add de_str (DE.toB (de_var 4))))) (DE.toB (lcR_all newL_d nd (di_any (de_ixA hu (de_var 1) (DE.toB de_int))) (W0 := fun _ _ _ _ => False) (own := [("road", 5)]) (blkOk_by (N := N_system_text) (sc := defScope s_system_text) (by decide +kernel)) (fun _ _ _ _ _ => (dg_n 5 nd)) (fun _ _ _ _ _ => (pts_yes (r0 := true))) (fun _ _ _ _ _ => (de_m1 PySem.F.slot_str_join PySem.F.type_str_join mt_join loc_join de_str (DE.toB (de_op2 op_add4 loc_add (de_tup (da_cons de_str da_nil)) (DE.toB (de_var 5))))))))) (hp 3 (by decide)))
  (dss_cons (ds_expr (de_fz (do_mutS 3 PySem.F.plainAttrs_list PySem.F.slot_list_extend PySem.F.type_list_extend mt_extend loc_extend (dao_d (da_cons (de_lc2 nd (di_zip (He.free_ok m.kin m.ns (m.f 6)) (de_ixA hu (de_var 1) (DE.toB de_int)) (de_var 2)) (W0 := fun _ _ _ _ => False) (own := [("house", 4), ("program", 6), ("rule", 7)]) (blkOk_by (N := N_system_text) (sc := defScope s_system_text) (by decide +kernel)) (by decide) (by decide) (fun _ _ _ _ _ => (dg_seq (dgs_cons (dg_n 4 nd) (dgs_cons (dg_n 6 nd) dgs_nil)))) (fun _ _ _ _ _ => (pts_yes (r0 := true))) (fun _ _ _ _ _ => (di_any (de_var 6))) (fun _ _ _ _ _ => (dg_n 7 nd)) (fun _ _ _ _ _ => (pts_yes (r0 := true))) (fun _ _ _ _ _ => (de_fz (do_call (j := k_system_text) (ok_rule_text m) cb_rule_text noDv_rep hr (He.glo_ok m.kin m.ns (m.f 7)) takes_none5 (dar_nil (da_cons (de_var 4) (da_cons (de_var 7) da_nil))))))) da_nil)))))
  (dss_one (ds_retO (do_call (j := k_system_text) (ok_ended m) cb_ended noDv_rep hr (He.glo_ok m.kin m.ns (m.f 8)) tk (dar_nil (da_cons (de_fz (do_mov 3)) da_nil))) hpv)))))
theorem ok_is_name (m : Mo K mg base B) : OkD P w K mg base ⟨He.ga K, B⟩ d_is_name (k_is_name + 1) ["thing"] 1 0 F_is_name := by
  obtain ⟨fd, F⟩ := m.says.def_ 6 (d := d_is_name) rfl
  refine ⟨fd, F, DL.FunD.okG F sc_is_name rfl (by decide) fun cdv A outer s H E pv hpv hr => ?_⟩
  have hu : (A.deeper (envOfC "is_name" (defScope s_is_name) s.heap.objs.size (He.fAd K d_is_name.at_) cdv)).units + 1 < cLine := by have := hr.rm.un; show A.units + 3 + 1 < cLine; have h2 : A.units + 3 + 16 * k_is_name + 200 < cLine := this; omega
  have hu2 : (A.deeper (envOfC "is_name" (defScope s_is_name) s.heap.objs.size (He.fAd K d_is_name.at_) cdv)).units + 64 < cLine := by have := hr.rm.un; show A.units + 3 + 64 < cLine; have h2 : A.units + 3 + 16 * k_is_name + 200 < cLine := this; omega
  have tk := takes_of (X := cxOf (L2.CX P w) P w K mg base N_is_name "is_name" (defScope s_is_name) (He.fAd K d_is_name.at_) cdv A outer s H E) (E := E) rfl rfl rfl rfl
  have po := passes_of (X := cxOf (L2.CX P w) P w K mg base N_is_name "is_name" (defScope s_is_name) (He.fAd K d_is_name.at_) cdv A outer s H E) rfl
  have nd : N_is_name.Nodup := sc_is_name.nd
  have hp : ∀ i, 0 ≤ i → pv.length ≤ i := fun i h => by rw [hpv]; exact h
  have hps : ∀ {is : List Nat}, (∀ i ∈ is, 0 ≤ i) → ∀ i ∈ is, pv.length ≤ i := fun h i hi => hp i (h i hi)
  exact (dss_one (ds_ret (de_and (de_isi (He.free_ok m.kin m.ns (m.f 0)) (DE.toB (de_var 0)) (He.free_ok m.kin m.ns (m.f 2)) (by decide +kernel)) (de_and (de_chain op_le2 locB_le op_le2 loc_le de_int (de_b1 call_len loc_len (He.free_ok m.kin m.ns (m.f 9)) (by decide +kernel) (DE.toB (de_var 0))) (DE.toB (de_gint (He.int_ok m.kin m.ns (m.f 10))))) (de_one (de_b1 (cr_all rfl) loc_all (He.free_ok m.kin m.ns (m.f 12)) (by decide +kernel) (DE.toB (lcR_all newL_d nd (di_any (de_var 0)) (W0 := fun _ _ _ _ => False) (own := [("sign", 1)]) (blkOk_by (N := N_is_name) (sc := defScope s_is_name) (by decide +kernel)) (fun _ _ _ _ _ => (dg_n 1 nd)) (fun _ _ _ _ _ => (pts_yes (r0 := true))) (fun _ _ _ _ _ => (de_cmp (op_inA hu) (loc_inA loc_in) (de_var 1) (DE.toB (de_gstr (He.str_ok m.kin m.ns (m.f 11)))))))))))) hpv))
theorem ok_is_whole (m : Mo K mg base B) : OkD P w K mg base ⟨He.ga K, B⟩ d_is_whole (k_is_whole + 1) ["thing"] 1 0 F_is_whole := by
  obtain ⟨fd, F⟩ := m.says.def_ 7 (d := d_is_whole) rfl
  refine ⟨fd, F, DL.FunD.okG F sc_is_whole rfl (by decide) fun cdv A outer s H E pv hpv hr => ?_⟩
  have hu : (A.deeper (envOfC "is_whole" (defScope s_is_whole) s.heap.objs.size (He.fAd K d_is_whole.at_) cdv)).units + 1 < cLine := by have := hr.rm.un; show A.units + 3 + 1 < cLine; have h2 : A.units + 3 + 16 * k_is_whole + 200 < cLine := this; omega
  have hu2 : (A.deeper (envOfC "is_whole" (defScope s_is_whole) s.heap.objs.size (He.fAd K d_is_whole.at_) cdv)).units + 64 < cLine := by have := hr.rm.un; show A.units + 3 + 64 < cLine; have h2 : A.units + 3 + 16 * k_is_whole + 200 < cLine := this; omega
  have tk := takes_of (X := cxOf (L2.CX P w) P w K mg base N_is_whole "is_whole" (defScope s_is_whole) (He.fAd K d_is_whole.at_) cdv A outer s H E) (E := E) rfl rfl rfl rfl
  have po := passes_of (X := cxOf (L2.CX P w) P w K mg base N_is_whole "is_whole" (defScope s_is_whole) (He.fAd K d_is_whole.at_) cdv A outer s H E) rfl
  have nd : N_is_whole.Nodup := sc_is_whole.nd
  have hp : ∀ i, 0 ≤ i → pv.length ≤ i := fun i h => by rw [hpv]; exact h
  have hps : ∀ {is : List Nat}, (∀ i ∈ is, 0 ≤ i) → ∀ i ∈ is, pv.length ≤ i := fun h i hi => hp i (h i hi)
  exact (dss_one (ds_ret (de_and (de_isi (He.free_ok m.kin m.ns (m.f 0)) (DE.toB (de_var 0)) (He.free_ok m.kin m.ns (m.f 13)) (by decide +kernel)) (de_one (de_not (DE.toB (de_isi (He.free_ok m.kin m.ns (m.f 0)) (DE.toB (de_var 0)) (He.free_ok m.kin m.ns (m.f 14)) (by decide +kernel)))))) hpv))
theorem ok_is_from (m : Mo K mg base B) : OkD P w K mg base ⟨He.ga K, B⟩ d_is_from (k_is_from + 1) ["thing", "least", "most"] 3 0 F_is_from := by
  obtain ⟨fd, F⟩ := m.says.def_ 8 (d := d_is_from) rfl
  refine ⟨fd, F, DL.FunD.okG F sc_is_from rfl (by decide) fun cdv A outer s H E pv hpv hr => ?_⟩
  have hu : (A.deeper (envOfC "is_from" (defScope s_is_from) s.heap.objs.size (He.fAd K d_is_from.at_) cdv)).units + 1 < cLine := by have := hr.rm.un; show A.units + 3 + 1 < cLine; have h2 : A.units + 3 + 16 * k_is_from + 200 < cLine := this; omega
  have hu2 : (A.deeper (envOfC "is_from" (defScope s_is_from) s.heap.objs.size (He.fAd K d_is_from.at_) cdv)).units + 64 < cLine := by have := hr.rm.un; show A.units + 3 + 64 < cLine; have h2 : A.units + 3 + 16 * k_is_from + 200 < cLine := this; omega
  have tk := takes_of (X := cxOf (L2.CX P w) P w K mg base N_is_from "is_from" (defScope s_is_from) (He.fAd K d_is_from.at_) cdv A outer s H E) (E := E) rfl rfl rfl rfl
  have po := passes_of (X := cxOf (L2.CX P w) P w K mg base N_is_from "is_from" (defScope s_is_from) (He.fAd K d_is_from.at_) cdv A outer s H E) rfl
  have nd : N_is_from.Nodup := sc_is_from.nd
  have hp : ∀ i, 0 ≤ i → pv.length ≤ i := fun i h => by rw [hpv]; exact h
  have hps : ∀ {is : List Nat}, (∀ i ∈ is, 0 ≤ i) → ∀ i ∈ is, pv.length ≤ i := fun h i hi => hp i (h i hi)
  exact (dss_one (ds_ret (de_and (de_fz (do_call (j := k_is_from) (ok_is_whole m) cb_is_whole noDv_rep hr (He.glo_ok m.kin m.ns (m.f 15)) tk (dar_nil (da_cons (de_var 0) da_nil)))) (de_one (de_chain op_le2 locB_le op_le2 loc_le (de_var 1) (de_var 0) (DE.toB (de_var 2))))) hpv))
theorem ok_is_row (m : Mo K mg base B) : OkD P w K mg base ⟨He.ga K, B⟩ d_is_row (k_is_row + 1) ["thing", "least", "most"] 3 0 F_is_row := by
  obtain ⟨fd, F⟩ := m.says.def_ 9 (d := d_is_row) rfl
  refine ⟨fd, F, DL.FunD.okG F sc_is_row rfl (by decide) fun cdv A outer s H E pv hpv hr => ?_⟩
  have hu : (A.deeper (envOfC "is_row" (defScope s_is_row) s.heap.objs.size (He.fAd K d_is_row.at_) cdv)).units + 1 < cLine := by have := hr.rm.un; show A.units + 3 + 1 < cLine; have h2 : A.units + 3 + 16 * k_is_row + 200 < cLine := this; omega
  have hu2 : (A.deeper (envOfC "is_row" (defScope s_is_row) s.heap.objs.size (He.fAd K d_is_row.at_) cdv)).units + 64 < cLine := by have := hr.rm.un; show A.units + 3 + 64 < cLine; have h2 : A.units + 3 + 16 * k_is_row + 200 < cLine := this; omega
  have tk := takes_of (X := cxOf (L2.CX P w) P w K mg base N_is_row "is_row" (defScope s_is_row) (He.fAd K d_is_row.at_) cdv A outer s H E) (E := E) rfl rfl rfl rfl
  have po := passes_of (X := cxOf (L2.CX P w) P w K mg base N_is_row "is_row" (defScope s_is_row) (He.fAd K d_is_row.at_) cdv A outer s H E) rfl
  have nd : N_is_row.Nodup := sc_is_row.nd
  have hp : ∀ i, 0 ≤ i → pv.length ≤ i := fun i h => by rw [hpv]; exact h
  have hps : ∀ {is : List Nat}, (∀ i ∈ is, 0 ≤ i) → ∀ i ∈ is, pv.length ≤ i := fun h i hi => hp i (h i hi)
  exact (dss_one (ds_ret (de_and (de_isi (He.free_ok m.kin m.ns (m.f 0)) (DE.toB (de_var 0)) (He.free_ok m.kin m.ns (m.f 1)) (by decide +kernel)) (de_one (de_chain op_le2 locB_le op_le2 loc_le (de_var 1) (de_b1 call_len loc_len (He.free_ok m.kin m.ns (m.f 9)) (by decide +kernel) (DE.toB (de_var 0))) (DE.toB (de_var 2))))) hpv))
theorem ok_is_road (m : Mo K mg base B) : OkD P w K mg base ⟨He.ga K, B⟩ d_is_road (k_is_road + 1) ["houses", "thing"] 2 0 F_is_road := by
  obtain ⟨fd, F⟩ := m.says.def_ 10 (d := d_is_road) rfl
  refine ⟨fd, F, DL.FunD.okG F sc_is_road rfl (by decide) fun cdv A outer s H E pv hpv hr => ?_⟩
  have hu : (A.deeper (envOfC "is_road" (defScope s_is_road) s.heap.objs.size (He.fAd K d_is_road.at_) cdv)).units + 1 < cLine := by have := hr.rm.un; show A.units + 3 + 1 < cLine; have h2 : A.units + 3 + 16 * k_is_road + 200 < cLine := this; omega
  have hu2 : (A.deeper (envOfC "is_road" (defScope s_is_road) s.heap.objs.size (He.fAd K d_is_road.at_) cdv)).units + 64 < cLine := by have := hr.rm.un; show A.units + 3 + 64 < cLine; have h2 : A.units + 3 + 16 * k_is_road + 200 < cLine := this; omega
  have tk := takes_of (X := cxOf (L2.CX P w) P w K mg base N_is_road "is_road" (defScope s_is_road) (He.fAd K d_is_road.at_) cdv A outer s H E) (E := E) rfl rfl rfl rfl
  have po := passes_of (X := cxOf (L2.CX P w) P w K mg base N_is_road "is_road" (defScope s_is_road) (He.fAd K d_is_road.at_) cdv A outer s H E) rfl
  have nd : N_is_road.Nodup := sc_is_road.nd
  have hp : ∀ i, 0 ≤ i → pv.length ≤ i := fun i h => by rw [hpv]; exact h
  have hps : ∀ {is : List Nat}, (∀ i ∈ is, 0 ≤ i) → ∀ i ∈ is, pv.length ≤ i := fun h i hi => hp i (h i hi)
  exact (dss_cons (ds_if (dt_w (dw_or (dt_not (dt_tru (DE.toB (de_fz (do_call (j := k_is_road) (ok_is_row m) cb_is_row noDv_rep hr (He.glo_ok m.kin m.ns (m.f 16)) tk (dar_nil (da_cons (de_var 1) (da_cons de_int (da_cons de_int da_nil))))))))) (dw_or1 (dt_not (dt_tru (DE.toB (de_b1 (cr_all rfl) loc_all (He.free_ok m.kin m.ns (m.f 12)) (by decide +kernel) (DE.toB (lcR_all newL_d nd (di_any (de_var 1)) (W0 := fun _ _ _ _ => False) (own := [("part", 6)]) (blkOk_by (N := N_is_road) (sc := defScope s_is_road) (by decide +kernel)) (fun _ _ _ _ _ => (dg_n 6 nd)) (fun _ _ _ _ _ => (pts_yes (r0 := true))) (fun _ _ _ _ _ => (de_isi (He.free_ok m.kin m.ns (m.f 0)) (DE.toB (de_var 6)) (He.free_ok m.kin m.ns (m.f 2)) (by decide +kernel)))))))))))) (dss_one (ds_ret de_bl hpv)) dss_nil)
  (dss_cons (ds_asg (de_var 1) (dg_seq (dgs_cons (dg_n 2 nd) (dgs_cons (dg_n 3 nd) (dgs_cons (dg_n 4 nd) (dgs_cons (dg_n 5 nd) dgs_nil))))) (hps (by decide)))
  (dss_one (ds_ret (de_and (de_fz (do_call (j := k_is_road) (ok_is_name m) cb_is_name noDv_rep hr (He.glo_ok m.kin m.ns (m.f 17)) tk (dar_nil (da_cons (de_var 2) da_nil)))) (de_and (de_cmp (op_inA hu) (loc_inA loc_in) (de_var 3) (DE.toB (de_var 0))) (de_and (de_cmp (op_inA hu) (loc_inA loc_in) (de_var 4) (DE.toB (de_var 0))) (de_and (de_cmp (op_neD hu2) loc_ne (de_var 3) (DE.toB (de_var 4))) (de_one (de_cmp (op_inA hu) (loc_inA loc_in) (de_var 5) (DE.toB (de_gref (He.glo_ok m.kin m.ns (m.f 18)) (fun H _ => tp_WAYS m H))))))))) hpv))))
theorem ok_roads_out (m : Mo K mg base B) : OkD P w K mg base ⟨He.ga K, B⟩ d_roads_out (k_roads_out + 1) ["net", "house"] 2 0 F_roads_out := by
  obtain ⟨fd, F⟩ := m.says.def_ 11 (d := d_roads_out) rfl
  refine ⟨fd, F, DL.FunD.okG F sc_roads_out rfl (by decide) fun cdv A outer s H E pv hpv hr => ?_⟩
  have hu : (A.deeper (envOfC "roads_out" (defScope s_roads_out) s.heap.objs.size (He.fAd K d_roads_out.at_) cdv)).units + 1 < cLine := by have := hr.rm.un; show A.units + 3 + 1 < cLine; have h2 : A.units + 3 + 16 * k_roads_out + 200 < cLine := this; omega
  have hu2 : (A.deeper (envOfC "roads_out" (defScope s_roads_out) s.heap.objs.size (He.fAd K d_roads_out.at_) cdv)).units + 64 < cLine := by have := hr.rm.un; show A.units + 3 + 64 < cLine; have h2 : A.units + 3 + 16 * k_roads_out + 200 < cLine := this; omega
  have tk := takes_of (X := cxOf (L2.CX P w) P w K mg base N_roads_out "roads_out" (defScope s_roads_out) (He.fAd K d_roads_out.at_) cdv A outer s H E) (E := E) rfl rfl rfl rfl
  have po := passes_of (X := cxOf (L2.CX P w) P w K mg base N_roads_out "roads_out" (defScope s_roads_out) (He.fAd K d_roads_out.at_) cdv A outer s H E) rfl
  have nd : N_roads_out.Nodup := sc_roads_out.nd
  have hp : ∀ i, 0 ≤ i → pv.length ≤ i := fun i h => by rw [hpv]; exact h
  have hps : ∀ {is : List Nat}, (∀ i ∈ is, 0 ≤ i) → ∀ i ∈ is, pv.length ≤ i := fun h i hi => hp i (h i hi)
  exact (dss_one (ds_retO (lcR_all newL_o nd (di_any (de_ixA hu (de_var 0) (DE.toB de_int))) (W0 := fun _ _ _ _ => False) (own := [("road", 2), ("one", 3), ("other", 4), ("way", 5)]) (blkOk_by (N := N_roads_out) (sc := defScope s_roads_out) (by decide +kernel)) (fun _ _ _ _ _ => (dg_seq (dgs_cons (dg_n 2 nd) (dgs_cons (dg_n 3 nd) (dgs_cons (dg_n 4 nd) (dgs_cons (dg_n 5 nd) dgs_nil)))))) (fun _ _ _ _ _ => (pts_if (dt_cmp (op_eqD hu2) loc_eq (de_var 3) (DE.toB (de_var 1))))) (fun _ _ _ _ _ => (de_var 2))) hpv))
theorem ok_is_slot (m : Mo K mg base B) : OkD P w K mg base ⟨He.ga K, B⟩ d_is_slot (k_is_slot + 1) ["thing"] 1 0 F_is_slot := by
  obtain ⟨fd, F⟩ := m.says.def_ 12 (d := d_is_slot) rfl
  refine ⟨fd, F, DL.FunD.okG F sc_is_slot rfl (by decide) fun cdv A outer s H E pv hpv hr => ?_⟩
  have hu : (A.deeper (envOfC "is_slot" (defScope s_is_slot) s.heap.objs.size (He.fAd K d_is_slot.at_) cdv)).units + 1 < cLine := by have := hr.rm.un; show A.units + 3 + 1 < cLine; have h2 : A.units + 3 + 16 * k_is_slot + 200 < cLine := this; omega
  have hu2 : (A.deeper (envOfC "is_slot" (defScope s_is_slot) s.heap.objs.size (He.fAd K d_is_slot.at_) cdv)).units + 64 < cLine := by have := hr.rm.un; show A.units + 3 + 64 < cLine; have h2 : A.units + 3 + 16 * k_is_slot + 200 < cLine := this; omega
  have tk := takes_of (X := cxOf (L2.CX P w) P w K mg base N_is_slot "is_slot" (defScope s_is_slot) (He.fAd K d_is_slot.at_) cdv A outer s H E) (E := E) rfl rfl rfl rfl
  have po := passes_of (X := cxOf (L2.CX P w) P w K mg base N_is_slot "is_slot" (defScope s_is_slot) (He.fAd K d_is_slot.at_) cdv A outer s H E) rfl
  have nd : N_is_slot.Nodup := sc_is_slot.nd
  have hp : ∀ i, 0 ≤ i → pv.length ≤ i := fun i h => by rw [hpv]; exact h
  have hps : ∀ {is : List Nat}, (∀ i ∈ is, 0 ≤ i) → ∀ i ∈ is, pv.length ≤ i := fun h i hi => hp i (h i hi)
  exact (dss_one (ds_retO (do_call (j := k_is_slot) (ok_is_from m) cb_is_from noDv_rep hr (He.glo_ok m.kin m.ns (m.f 20)) tk (dar_nil (da_cons (de_var 0) (da_cons de_int (da_cons (de_op2 op_sub loc_sub (de_gint (He.int_ok m.kin m.ns (m.f 19))) (DE.toB de_int)) da_nil))))) hpv))
theorem ok_is_number (m : Mo K mg base B) : OkD P w K mg base ⟨He.ga K, B⟩ d_is_number (k_is_number + 1) ["thing"] 1 0 F_is_number := by
  obtain ⟨fd, F⟩ := m.says.def_ 13 (d := d_is_number) rfl
  refine ⟨fd, F, DL.FunD.okG F sc_is_number rfl (by decide) fun cdv A outer s H E pv hpv hr => ?_⟩
  have hu : (A.deeper (envOfC "is_number" (defScope s_is_number) s.heap.objs.size (He.fAd K d_is_number.at_) cdv)).units + 1 < cLine := by have := hr.rm.un; show A.units + 3 + 1 < cLine; have h2 : A.units + 3 + 16 * k_is_number + 200 < cLine := this; omega
  have hu2 : (A.deeper (envOfC "is_number" (defScope s_is_number) s.heap.objs.size (He.fAd K d_is_number.at_) cdv)).units + 64 < cLine := by have := hr.rm.un; show A.units + 3 + 64 < cLine; have h2 : A.units + 3 + 16 * k_is_number + 200 < cLine := this; omega
  have tk := takes_of (X := cxOf (L2.CX P w) P w K mg base N_is_number "is_number" (defScope s_is_number) (He.fAd K d_is_number.at_) cdv A outer s H E) (E := E) rfl rfl rfl rfl
  have po := passes_of (X := cxOf (L2.CX P w) P w K mg base N_is_number "is_number" (defScope s_is_number) (He.fAd K d_is_number.at_) cdv A outer s H E) rfl
  have nd : N_is_number.Nodup := sc_is_number.nd
  have hp : ∀ i, 0 ≤ i → pv.length ≤ i := fun i h => by rw [hpv]; exact h
  have hps : ∀ {is : List Nat}, (∀ i ∈ is, 0 ≤ i) → ∀ i ∈ is, pv.length ≤ i := fun h i hi => hp i (h i hi)
  exact (dss_one (ds_retO (do_call (j := k_is_number) (ok_is_from m) cb_is_from noDv_rep hr (He.glo_ok m.kin m.ns (m.f 20)) tk (dar_nil (da_cons (de_var 0) (da_cons (de_op2 op_sub loc_sub de_int (DE.toB (de_gint (He.int_ok m.kin m.ns (m.f 21))))) (da_cons (de_op2 op_sub loc_sub (de_gint (He.int_ok m.kin m.ns (m.f 21))) (DE.toB de_int)) da_nil))))) hpv))
theorem ok_is_sign (m : Mo K mg base B) : OkD P w K mg base ⟨He.ga K, B⟩ d_is_sign (k_is_sign + 1) ["thing"] 1 0 F_is_sign := by
  obtain ⟨fd, F⟩ := m.says.def_ 14 (d := d_is_sign) rfl
  refine ⟨fd, F, DL.FunD.okG F sc_is_sign rfl (by decide) fun cdv A outer s H E pv hpv hr => ?_⟩
  have hu : (A.deeper (envOfC "is_sign" (defScope s_is_sign) s.heap.objs.size (He.fAd K d_is_sign.at_) cdv)).units + 1 < cLine := by have := hr.rm.un; show A.units + 3 + 1 < cLine; have h2 : A.units + 3 + 16 * k_is_sign + 200 < cLine := this; omega
  have hu2 : (A.deeper (envOfC "is_sign" (defScope s_is_sign) s.heap.objs.size (He.fAd K d_is_sign.at_) cdv)).units + 64 < cLine := by have := hr.rm.un; show A.units + 3 + 64 < cLine; have h2 : A.units + 3 + 16 * k_is_sign + 200 < cLine := this; omega
  have tk := takes_of (X := cxOf (L2.CX P w) P w K mg base N_is_sign "is_sign" (defScope s_is_sign) (He.fAd K d_is_sign.at_) cdv A outer s H E) (E := E) rfl rfl rfl rfl
  have po := passes_of (X := cxOf (L2.CX P w) P w K mg base N_is_sign "is_sign" (defScope s_is_sign) (He.fAd K d_is_sign.at_) cdv A outer s H E) rfl
  have nd : N_is_sign.Nodup := sc_is_sign.nd
  have hp : ∀ i, 0 ≤ i → pv.length ≤ i := fun i h => by rw [hpv]; exact h
  have hps : ∀ {is : List Nat}, (∀ i ∈ is, 0 ≤ i) → ∀ i ∈ is, pv.length ≤ i := fun h i hi => hp i (h i hi)
  exact (dss_one (ds_ret (de_and (de_isi (He.free_ok m.kin m.ns (m.f 0)) (DE.toB (de_var 0)) (He.free_ok m.kin m.ns (m.f 2)) (by decide +kernel)) (de_one (de_cmp (op_inA hu) (loc_inA loc_in) (de_var 0) (DE.toB (de_gref (He.glo_ok m.kin m.ns (m.f 22)) (fun H _ => tp_SIGNS m H)))))) hpv))
theorem ok_is_when (m : Mo K mg base B) : OkD P w K mg base ⟨He.ga K, B⟩ d_is_when (k_is_when + 1) ["thing"] 1 0 F_is_when := by
  obtain ⟨fd, F⟩ := m.says.def_ 15 (d := d_is_when) rfl
  refine ⟨fd, F, DL.FunD.okG F sc_is_when rfl (by decide) fun cdv A outer s H E pv hpv hr => ?_⟩
  have hu : (A.deeper (envOfC "is_when" (defScope s_is_when) s.heap.objs.size (He.fAd K d_is_when.at_) cdv)).units + 1 < cLine := by have := hr.rm.un; show A.units + 3 + 1 < cLine; have h2 : A.units + 3 + 16 * k_is_when + 200 < cLine := this; omega
  have hu2 : (A.deeper (envOfC "is_when" (defScope s_is_when) s.heap.objs.size (He.fAd K d_is_when.at_) cdv)).units + 64 < cLine := by have := hr.rm.un; show A.units + 3 + 64 < cLine; have h2 : A.units + 3 + 16 * k_is_when + 200 < cLine := this; omega
  have tk := takes_of (X := cxOf (L2.CX P w) P w K mg base N_is_when "is_when" (defScope s_is_when) (He.fAd K d_is_when.at_) cdv A outer s H E) (E := E) rfl rfl rfl rfl
  have po := passes_of (X := cxOf (L2.CX P w) P w K mg base N_is_when "is_when" (defScope s_is_when) (He.fAd K d_is_when.at_) cdv A outer s H E) rfl
  have nd : N_is_when.Nodup := sc_is_when.nd
  have hp : ∀ i, 0 ≤ i → pv.length ≤ i := fun i h => by rw [hpv]; exact h
  have hps : ∀ {is : List Nat}, (∀ i ∈ is, 0 ≤ i) → ∀ i ∈ is, pv.length ≤ i := fun h i hi => hp i (h i hi)
  exact (dss_cons (ds_if (dt_w (dw_or (dt_not (dt_tru (DE.toB (de_fz (do_call (j := k_is_when) (ok_is_row m) cb_is_row noDv_rep hr (He.glo_ok m.kin m.ns (m.f 16)) tk (dar_nil (da_cons (de_var 0) (da_cons de_int (da_cons de_int da_nil))))))))) (dw_or1 (dt_not (dt_tru (DE.toB (de_isi (He.free_ok m.kin m.ns (m.f 0)) (DE.toB (de_ixA hu (de_var 0) (DE.toB de_int))) (He.free_ok m.kin m.ns (m.f 2)) (by decide +kernel)))))))) (dss_one (ds_ret de_bl hpv)) dss_nil)
  (dss_cons (ds_if (dt_cmp (op_eqD hu2) loc_eq (de_b1 call_len loc_len (He.free_ok m.kin m.ns (m.f 9)) (by decide +kernel) (DE.toB (de_var 0))) (DE.toB de_int)) (dss_one (ds_ret (de_cmp (op_eqD hu2) loc_eq (de_ixA hu (de_var 0) (DE.toB de_int)) (DE.toB de_str)) hpv)) dss_nil)
  (dss_one (ds_ret (de_and (de_cmp (op_eqD hu2) loc_eq (de_ixA hu (de_var 0) (DE.toB de_int)) (DE.toB de_str)) (de_one (de_fz (do_call (j := k_is_when) (ok_is_name m) cb_is_name noDv_rep hr (He.glo_ok m.kin m.ns (m.f 17)) tk (dar_nil (da_cons (de_ixA hu (de_var 0) (DE.toB de_int)) da_nil)))))) hpv))))
theorem ok_is_test (m : Mo K mg base B) : OkD P w K mg base ⟨He.ga K, B⟩ d_is_test (k_is_test + 1) ["thing", "is_letter"] 2 0 F_is_test := by
  obtain ⟨fd, F⟩ := m.says.def_ 16 (d := d_is_test) rfl
  refine ⟨fd, F, DL.FunD.okG F sc_is_test rfl (by decide) fun cdv A outer s H E pv hpv hr => ?_⟩
  have hu : (A.deeper (envOfC "is_test" (defScope s_is_test) s.heap.objs.size (He.fAd K d_is_test.at_) cdv)).units + 1 < cLine := by have := hr.rm.un; show A.units + 3 + 1 < cLine; have h2 : A.units + 3 + 16 * k_is_test + 200 < cLine := this; omega
  have hu2 : (A.deeper (envOfC "is_test" (defScope s_is_test) s.heap.objs.size (He.fAd K d_is_test.at_) cdv)).units + 64 < cLine := by have := hr.rm.un; show A.units + 3 + 64 < cLine; have h2 : A.units + 3 + 16 * k_is_test + 200 < cLine := this; omega
  have tk := takes_of (X := cxOf (L2.CX P w) P w K mg base N_is_test "is_test" (defScope s_is_test) (He.fAd K d_is_test.at_) cdv A outer s H E) (E := E) rfl rfl rfl rfl
  have po := passes_of (X := cxOf (L2.CX P w) P w K mg base N_is_test "is_test" (defScope s_is_test) (He.fAd K d_is_test.at_) cdv A outer s H E) rfl
  have nd : N_is_test.Nodup := sc_is_test.nd
  have hp : ∀ i, 0 ≤ i → pv.length ≤ i := fun i h => by rw [hpv]; exact h
  have hps : ∀ {is : List Nat}, (∀ i ∈ is, 0 ≤ i) → ∀ i ∈ is, pv.length ≤ i := fun h i hi => hp i (h i hi)
  exact (dss_cons (ds_if (dt_w (dw_or (dt_not (dt_tru (DE.toB (de_fz (do_call (j := k_is_test) (ok_is_row m) cb_is_row noDv_rep hr (He.glo_ok m.kin m.ns (m.f 16)) tk (dar_nil (da_cons (de_var 0) (da_cons de_int (da_cons de_int da_nil))))))))) (dw_or (dt_not (dt_tru (DE.toB (de_fz (do_call (j := k_is_test) (ok_is_sign m) cb_is_sign noDv_rep hr (He.glo_ok m.kin m.ns (m.f 23)) tk (dar_nil (da_cons (de_ixA hu (de_var 0) (DE.toB de_int)) da_nil))))))) (dw_or1 (dt_not (dt_tru (DE.toB (de_fz (do_call (j := k_is_test) (ok_is_number m) cb_is_number noDv_rep hr (He.glo_ok m.kin m.ns (m.f 24)) tk (dar_nil (da_cons (de_ixA hu (de_var 0) (DE.toB de_int)) da_nil))))))))))) (dss_one (ds_ret de_bl hpv)) dss_nil)
  (dss_one (ds_ret (de_or (de_fz (do_call (j := k_is_test) (ok_is_slot m) cb_is_slot noDv_rep hr (He.glo_ok m.kin m.ns (m.f 25)) tk (dar_nil (da_cons (de_ixA hu (de_var 0) (DE.toB de_int)) da_nil)))) (de_one (de_and (de_var 1) (de_and (de_isi (He.free_ok m.kin m.ns (m.f 0)) (DE.toB (de_ixA hu (de_var 0) (DE.toB de_int))) (He.free_ok m.kin m.ns (m.f 2)) (by decide +kernel)) (de_one (de_cmp (op_eqD hu2) loc_eq (de_ixA hu (de_var 0) (DE.toB de_int)) (DE.toB de_str))))))) hpv)))
theorem ok_is_worth (m : Mo K mg base B) : OkD P w K mg base ⟨He.ga K, B⟩ d_is_worth (k_is_worth + 1) ["thing", "is_letter"] 2 0 F_is_worth := by
  obtain ⟨fd, F⟩ := m.says.def_ 17 (d := d_is_worth) rfl
  refine ⟨fd, F, DL.FunD.okG F sc_is_worth rfl (by decide) fun cdv A outer s H E pv hpv hr => ?_⟩
  have hu : (A.deeper (envOfC "is_worth" (defScope s_is_worth) s.heap.objs.size (He.fAd K d_is_worth.at_) cdv)).units + 1 < cLine := by have := hr.rm.un; show A.units + 3 + 1 < cLine; have h2 : A.units + 3 + 16 * k_is_worth + 200 < cLine := this; omega
  have hu2 : (A.deeper (envOfC "is_worth" (defScope s_is_worth) s.heap.objs.size (He.fAd K d_is_worth.at_) cdv)).units + 64 < cLine := by have := hr.rm.un; show A.units + 3 + 64 < cLine; have h2 : A.units + 3 + 16 * k_is_worth + 200 < cLine := this; omega
  have tk := takes_of (X := cxOf (L2.CX P w) P w K mg base N_is_worth "is_worth" (defScope s_is_worth) (He.fAd K d_is_worth.at_) cdv A outer s H E) (E := E) rfl rfl rfl rfl
  have po := passes_of (X := cxOf (L2.CX P w) P w K mg base N_is_worth "is_worth" (defScope s_is_worth) (He.fAd K d_is_worth.at_) cdv A outer s H E) rfl
  have nd : N_is_worth.Nodup := sc_is_worth.nd
  have hp : ∀ i, 0 ≤ i → pv.length ≤ i := fun i h => by rw [hpv]; exact h
  have hps : ∀ {is : List Nat}, (∀ i ∈ is, 0 ≤ i) → ∀ i ∈ is, pv.length ≤ i := fun h i hi => hp i (h i hi)
  exact (dss_cons (ds_if (dt_tru (DE.toB (de_fz (do_call (j := k_is_worth) (ok_is_number m) cb_is_number noDv_rep hr (He.glo_ok m.kin m.ns (m.f 24)) tk (dar_nil (da_cons (de_var 0) da_nil)))))) (dss_one (ds_ret de_bl hpv)) dss_nil)
  (dss_cons (ds_if (dt_w (dw_or (dt_not (dt_tru (DE.toB (de_fz (do_call (j := k_is_worth) (ok_is_row m) cb_is_row noDv_rep hr (He.glo_ok m.kin m.ns (m.f 16)) tk (dar_nil (da_cons (de_var 0) (da_cons de_int (da_cons de_int da_nil))))))))) (dw_or1 (dt_not (dt_tru (DE.toB (de_isi (He.free_ok m.kin m.ns (m.f 0)) (DE.toB (de_ixA hu (de_var 0) (DE.toB de_int))) (He.free_ok m.kin m.ns (m.f 2)) (by decide +kernel)))))))) (dss_one (ds_ret de_bl hpv)) dss_nil)
  (dss_cons (ds_if (dt_cmp (op_eqD hu2) loc_eq (de_b1 call_len loc_len (He.free_ok m.kin m.ns (m.f 9)) (by decide +kernel) (DE.toB (de_var 0))) (DE.toB de_int)) (dss_one (ds_ret (de_and (de_cmp (op_eqD hu2) loc_eq (de_ixA hu (de_var 0) (DE.toB de_int)) (DE.toB de_str)) (de_one (de_fz (do_call (j := k_is_worth) (ok_is_slot m) cb_is_slot noDv_rep hr (He.glo_ok m.kin m.ns (m.f 25)) tk (dar_nil (da_cons (de_ixA hu (de_var 0) (DE.toB de_int)) da_nil)))))) hpv)) dss_nil)
  (dss_one (ds_ret (de_and (de_var 1) (de_one (de_cmp (op_eqD hu2) loc_eq (de_ixA hu (de_var 0) (DE.toB de_int)) (DE.toB de_str)))) hpv)))))
theorem ok_is_act (m : Mo K mg base B) : OkD P w K mg base ⟨He.ga K, B⟩ d_is_act (k_is_act + 1) ["out", "thing", "is_letter"] 3 0 F_is_act := by
  obtain ⟨fd, F⟩ := m.says.def_ 18 (d := d_is_act) rfl
  refine ⟨fd, F, DL.FunD.okG F sc_is_act rfl (by decide) fun cdv A outer s H E pv hpv hr => ?_⟩
  have hu : (A.deeper (envOfC "is_act" (defScope s_is_act) s.heap.objs.size (He.fAd K d_is_act.at_) cdv)).units + 1 < cLine := by have := hr.rm.un; show A.units + 3 + 1 < cLine; have h2 : A.units + 3 + 16 * k_is_act + 200 < cLine := this; omega
  have hu2 : (A.deeper (envOfC "is_act" (defScope s_is_act) s.heap.objs.size (He.fAd K d_is_act.at_) cdv)).units + 64 < cLine := by have := hr.rm.un; show A.units + 3 + 64 < cLine; have h2 : A.units + 3 + 16 * k_is_act + 200 < cLine := this; omega
  have tk := takes_of (X := cxOf (L2.CX P w) P w K mg base N_is_act "is_act" (defScope s_is_act) (He.fAd K d_is_act.at_) cdv A outer s H E) (E := E) rfl rfl rfl rfl
  have po := passes_of (X := cxOf (L2.CX P w) P w K mg base N_is_act "is_act" (defScope s_is_act) (He.fAd K d_is_act.at_) cdv A outer s H E) rfl
  have nd : N_is_act.Nodup := sc_is_act.nd
  have hp : ∀ i, 0 ≤ i → pv.length ≤ i := fun i h => by rw [hpv]; exact h
  have hps : ∀ {is : List Nat}, (∀ i ∈ is, 0 ≤ i) → ∀ i ∈ is, pv.length ≤ i := fun h i hi => hp i (h i hi)
  exact (dss_cons (ds_if (dt_w (dw_or (dt_not (dt_tru (DE.toB (de_fz (do_call (j := k_is_act) (ok_is_row m) cb_is_row noDv_rep hr (He.glo_ok m.kin m.ns (m.f 16)) tk (dar_nil (da_cons (de_var 1) (da_cons de_int (da_cons de_int da_nil))))))))) (dw_or1 (dt_not (dt_tru (DE.toB (de_isi (He.free_ok m.kin m.ns (m.f 0)) (DE.toB (de_ixA hu (de_var 1) (DE.toB de_int))) (He.free_ok m.kin m.ns (m.f 2)) (by decide +kernel)))))))) (dss_one (ds_ret de_bl hpv)) dss_nil)
  (dss_cons (ds_star (n := 2) (i := 1) (de_var 1) (dgs_cons (dg_n 3 nd) (dgs_star (dg_n 4 nd) dgs_nil)) (hps (by decide)))
  (dss_cons (ds_if (dt_cmp (op_eqD hu2) loc_eq (de_var 3) (DE.toB de_str)) (dss_one (ds_ret (de_cmp (op_eqD hu2) loc_eq (de_var 4) (DE.toB (de_lst da_nil))) hpv)) dss_nil)
  (dss_cons (ds_if (dt_cmp (op_inA hu) (loc_inA loc_in) (de_var 3) (DE.toB (de_gref (He.glo_ok m.kin m.ns (m.f 26)) (fun H _ => tp_SETS m H)))) (dss_one (ds_ret (de_and (de_cmp (op_eqD hu2) loc_eq (de_b1 call_len loc_len (He.free_ok m.kin m.ns (m.f 9)) (by decide +kernel) (DE.toB (de_var 4))) (DE.toB de_int)) (de_and (de_fz (do_call (j := k_is_act) (ok_is_slot m) cb_is_slot noDv_rep hr (He.glo_ok m.kin m.ns (m.f 25)) tk (dar_nil (da_cons (de_ixA hu (de_var 4) (DE.toB de_int)) da_nil)))) (de_one (de_fz (do_call (j := k_is_act) (ok_is_worth m) cb_is_worth noDv_rep hr (He.glo_ok m.kin m.ns (m.f 27)) tk (dar_nil (da_cons (de_ixA hu (de_var 4) (DE.toB de_int)) (da_cons (de_var 2) da_nil)))))))) hpv)) dss_nil)
  (dss_cons (ds_if (dt_w (dw_or (dt_cmp (op_neD hu2) loc_ne (de_var 3) (DE.toB de_str)) (dw_or (dt_cmp (op_neD hu2) loc_ne (de_b1 call_len loc_len (He.free_ok m.kin m.ns (m.f 9)) (by decide +kernel) (DE.toB (de_var 4))) (DE.toB de_int)) (dw_or (dt_not (dt_tru (DE.toB (de_isi (He.free_ok m.kin m.ns (m.f 0)) (DE.toB (de_ixA hu (de_var 4) (DE.toB de_int))) (He.free_ok m.kin m.ns (m.f 2)) (by decide +kernel))))) (dw_or1 (dt_cmp (op_notInA hu) (loc_notInA loc_notin) (de_ixA hu (de_var 4) (DE.toB de_int)) (DE.toB (de_var 0)))))))) (dss_one (ds_ret de_bl hpv)) dss_nil)
  (dss_one (ds_ret (de_and (de_fz (do_call (j := k_is_act) (ok_is_name m) cb_is_name noDv_rep hr (He.glo_ok m.kin m.ns (m.f 17)) tk (dar_nil (da_cons (de_ixA hu (de_var 4) (DE.toB de_int)) da_nil)))) (de_one (de_fz (do_call (j := k_is_act) (ok_is_worth m) cb_is_worth noDv_rep hr (He.glo_ok m.kin m.ns (m.f 27)) tk (dar_nil (da_cons (de_ixA hu (de_var 4) (DE.toB de_int)) (da_cons (de_var 2) da_nil))))))) hpv)))))))
theorem ok_is_rule (m : Mo K mg base B) : OkD P w K mg base ⟨He.ga K, B⟩ d_is_rule (k_is_rule + 1) ["out", "thing"] 2 0 F_is_rule := by
  obtain ⟨fd, F⟩ := m.says.def_ 19 (d := d_is_rule) rfl
  refine ⟨fd, F, DL.FunD.okG F sc_is_rule rfl (by decide) fun cdv A outer s H E pv hpv hr => ?_⟩
  have hu : (A.deeper (envOfC "is_rule" (defScope s_is_rule) s.heap.objs.size (He.fAd K d_is_rule.at_) cdv)).units + 1 < cLine := by have := hr.rm.un; show A.units + 3 + 1 < cLine; have h2 : A.units + 3 + 16 * k_is_rule + 200 < cLine := this; omega
  have hu2 : (A.deeper (envOfC "is_rule" (defScope s_is_rule) s.heap.objs.size (He.fAd K d_is_rule.at_) cdv)).units + 64 < cLine := by have := hr.rm.un; show A.units + 3 + 64 < cLine; have h2 : A.units + 3 + 16 * k_is_rule + 200 < cLine := this; omega
  have tk := takes_of (X := cxOf (L2.CX P w) P w K mg base N_is_rule "is_rule" (defScope s_is_rule) (He.fAd K d_is_rule.at_) cdv A outer s H E) (E := E) rfl rfl rfl rfl
  have po := passes_of (X := cxOf (L2.CX P w) P w K mg base N_is_rule "is_rule" (defScope s_is_rule) (He.fAd K d_is_rule.at_) cdv A outer s H E) rfl
  have nd : N_is_rule.Nodup := sc_is_rule.nd
  have hp : ∀ i, 0 ≤ i → pv.length ≤ i := fun i h => by rw [hpv]; exact h
  have hps : ∀ {is : List Nat}, (∀ i ∈ is, 0 ≤ i) → ∀ i ∈ is, pv.length ≤ i := fun h i hi => hp i (h i hi)
  exact (dss_cons (ds_if (dt_w (dw_or (dt_not (dt_tru (DE.toB (de_fz (do_call (j := k_is_rule) (ok_is_row m) cb_is_row noDv_rep hr (He.glo_ok m.kin m.ns (m.f 16)) tk (dar_nil (da_cons (de_var 1) (da_cons de_int (da_cons de_int da_nil))))))))) (dw_or1 (dt_not (dt_tru (DE.toB (de_fz (do_call (j := k_is_rule) (ok_is_when m) cb_is_when noDv_rep hr (He.glo_ok m.kin m.ns (m.f 28)) tk (dar_nil (da_cons (de_ixA hu (de_var 1) (DE.toB de_int)) da_nil)))))))))) (dss_one (ds_ret de_bl hpv)) dss_nil)
  (dss_cons (ds_asg (de_var 1) (dg_seq (dgs_cons (dg_n 2 nd) (dgs_cons (dg_n 3 nd) (dgs_cons (dg_n 4 nd) dgs_nil)))) (hps (by decide)))
  (dss_cons (ds_set 5 nd (de_cmp (op_eqD hu2) loc_eq (de_ixA hu (de_var 2) (DE.toB de_int)) (DE.toB de_str)) (hp 5 (by decide)))
  (dss_cons (ds_if (dt_w (dw_or (dt_not (dt_tru (DE.toB (de_fz (do_call (j := k_is_rule) (ok_is_row m) cb_is_row noDv_rep hr (He.glo_ok m.kin m.ns (m.f 16)) tk (dar_nil (da_cons (de_var 3) (da_cons de_int (da_cons (de_gint (He.int_ok m.kin m.ns (m.f 29))) da_nil))))))))) (dw_or1 (dt_not (dt_tru (DE.toB (de_b1 (cr_all rfl) loc_all (He.free_ok m.kin m.ns (m.f 12)) (by decide +kernel) (DE.toB (lcR_all newL_d nd (di_any (de_var 3)) (W0 := fun _ _ _ _ => False) (own := [("test", 7)]) (blkOk_by (N := N_is_rule) (sc := defScope s_is_rule) (by decide +kernel)) (fun _ _ _ _ _ => (dg_n 7 nd)) (fun _ _ _ _ _ => (pts_yes (r0 := true))) (fun _ _ _ _ _ => (de_fz (do_call (j := k_is_rule) (ok_is_test m) cb_is_test noDv_rep hr (He.glo_ok m.kin m.ns (m.f 30)) takes_none5 (dar_nil (da_cons (de_var 7) (da_cons (de_var 5) da_nil))))))))))))))) (dss_one (ds_ret de_bl hpv)) dss_nil)
  (dss_one (ds_ret (de_and (de_fz (do_call (j := k_is_rule) (ok_is_row m) cb_is_row noDv_rep hr (He.glo_ok m.kin m.ns (m.f 16)) tk (dar_nil (da_cons (de_var 4) (da_cons de_int (da_cons (de_gint (He.int_ok m.kin m.ns (m.f 31))) da_nil)))))) (de_one (de_b1 (cr_all rfl) loc_all (He.free_ok m.kin m.ns (m.f 12)) (by decide +kernel) (DE.toB (lcR_all newL_d nd (di_any (de_var 4)) (W0 := fun _ _ _ _ => False) (own := [("act", 6)]) (blkOk_by (N := N_is_rule) (sc := defScope s_is_rule) (by decide +kernel)) (fun _ _ _ _ _ => (dg_n 6 nd)) (fun _ _ _ _ _ => (pts_yes (r0 := true))) (fun _ _ _ _ _ => (de_fz (do_call (j := k_is_rule) (ok_is_act m) cb_is_act noDv_rep hr (He.glo_ok m.kin m.ns (m.f 32)) takes_none5 (dar_nil (da_cons (de_var 0) (da_cons (de_var 6) (da_cons (de_var 5) da_nil)))))))))))) hpv))))))
theorem ok_number_in (m : Mo K mg base B) : OkD P w K mg base ⟨He.ga K, B⟩ d_number_in (k_number_in + 1) ["word", "most"] 2 0 F_number_in := by
  obtain ⟨fd, F⟩ := m.says.def_ 20 (d := d_number_in) rfl
  refine ⟨fd, F, DL.FunD.okG F sc_number_in rfl (by decide) fun cdv A outer s H E pv hpv hr => ?_⟩
  have hu : (A.deeper (envOfC "number_in" (defScope s_number_in) s.heap.objs.size (He.fAd K d_number_in.at_) cdv)).units + 1 < cLine := by have := hr.rm.un; show A.units + 3 + 1 < cLine; have h2 : A.units + 3 + 16 * k_number_in + 200 < cLine := this; omega
  have hu2 : (A.deeper (envOfC "number_in" (defScope s_number_in) s.heap.objs.size (He.fAd K d_number_in.at_) cdv)).units + 64 < cLine := by have := hr.rm.un; show A.units + 3 + 64 < cLine; have h2 : A.units + 3 + 16 * k_number_in + 200 < cLine := this; omega
  have tk := takes_of (X := cxOf (L2.CX P w) P w K mg base N_number_in "number_in" (defScope s_number_in) (He.fAd K d_number_in.at_) cdv A outer s H E) (E := E) rfl rfl rfl rfl
  have po := passes_of (X := cxOf (L2.CX P w) P w K mg base N_number_in "number_in" (defScope s_number_in) (He.fAd K d_number_in.at_) cdv A outer s H E) rfl
  have nd : N_number_in.Nodup := sc_number_in.nd
  have hp : ∀ i, 0 ≤ i → pv.length ≤ i := fun i h => by rw [hpv]; exact h
  have hps : ∀ {is : List Nat}, (∀ i ∈ is, 0 ≤ i) → ∀ i ∈ is, pv.length ≤ i := fun h i hi => hp i (h i hi)
  exact (dss_cons (ds_set 2 nd (de_if (dt_tru (DE.toB (de_m1 PySem.F.slot_str_startswith PySem.F.type_str_startswith mt_startswith loc_starts (de_var 0) (DE.toB de_str)))) (de_sl (de_var 0) (dp_some de_int) dp_none) (de_var 0)) (hp 2 (by decide)))
  (dss_cons (ds_if (dt_w (dw_or (dt_not (dt_chain op_le2 locB_le op_le2 loc_le de_int (de_b1 call_len loc_len (He.free_ok m.kin m.ns (m.f 9)) (by decide +kernel) (DE.toB (de_var 2))) (DE.toB (de_var 1)))) (dw_or1 (dt_not (dt_tru (DE.toB (de_b1 (cr_all rfl) loc_all (He.free_ok m.kin m.ns (m.f 12)) (by decide +kernel) (DE.toB (lcR_all newL_d nd (di_any (de_var 2)) (W0 := fun _ _ _ _ => False) (own := [("sign", 3)]) (blkOk_by (N := N_number_in) (sc := defScope s_number_in) (by decide +kernel)) (fun _ _ _ _ _ => (dg_n 3 nd)) (fun _ _ _ _ _ => (pts_yes (r0 := true))) (fun _ _ _ _ _ => (de_cmp (op_inA hu) (loc_inA loc_in) (de_var 3) (DE.toB (de_gstr (He.str_ok m.kin m.ns (m.f 33))))))))))))))) (dss_one (ds_ret de_non hpv)) dss_nil)
  (dss_cons (ds_if (dt_w (dw_and (dt_cmp (op_eqD hu2) loc_eq (de_ixA hu (de_var 2) (DE.toB de_int)) (DE.toB de_str)) (dw_and1 (dt_cmp (op_neD hu2) loc_ne (de_var 0) (DE.toB de_str))))) (dss_one (ds_ret de_non hpv)) dss_nil)
  (dss_one (ds_ret (de_t1 call_int3 loc_int (He.free_ok m.kin m.ns (m.f 13)) (by decide +kernel) (DE.toB (de_var 0))) hpv)))))
theorem ok_lines_of (m : Mo K mg base B) : OkD P w K mg base ⟨He.ga K, B⟩ d_lines_of (k_lines_of + 1) ["text"] 1 0 F_lines_of := by
  obtain ⟨fd, F⟩ := m.says.def_ 21 (d := d_lines_of) rfl
  refine ⟨fd, F, DL.FunD.okG F sc_lines_of rfl (by decide) fun cdv A outer s H E pv hpv hr => ?_⟩
  have hu : (A.deeper (envOfC "lines_of" (defScope s_lines_of) s.heap.objs.size (He.fAd K d_lines_of.at_) cdv)).units + 1 < cLine := by have := hr.rm.un; show A.units + 3 + 1 < cLine; have h2 : A.units + 3 + 16 * k_lines_of + 200 < cLine := this; omega
  have hu2 : (A.deeper (envOfC "lines_of" (defScope s_lines_of) s.heap.objs.size (He.fAd K d_lines_of.at_) cdv)).units + 64 < cLine := by have := hr.rm.un; show A.units + 3 + 64 < cLine; have h2 : A.units + 3 + 16 * k_lines_of + 200 < cLine := this; omega
  have tk := takes_of (X := cxOf (L2.CX P w) P w K mg base N_lines_of "lines_of" (defScope s_lines_of) (He.fAd K d_lines_of.at_) cdv A outer s H E) (E := E) rfl rfl rfl rfl
  have po := passes_of (X := cxOf (L2.CX P w) P w K mg base N_lines_of "lines_of" (defScope s_lines_of) (He.fAd K d_lines_of.at_) cdv A outer s H E) rfl
  have nd : N_lines_of.Nodup := sc_lines_of.nd
  have hp : ∀ i, 0 ≤ i → pv.length ≤ i := fun i h => by rw [hpv]; exact h
  have hps : ∀ {is : List Nat}, (∀ i ∈ is, 0 ≤ i) → ∀ i ∈ is, pv.length ≤ i := fun h i hi => hp i (h i hi)
  exact (dss_cons (ds_if (dt_not (dt_tru (DE.toB (de_isi (He.free_ok m.kin m.ns (m.f 0)) (DE.toB (de_var 0)) (He.free_ok m.kin m.ns (m.f 2)) (by decide +kernel))))) (dss_one ds_bad) dss_nil)
  (dss_cons (ds_star (n := 2) (i := 0) (de_fz (do_m1 PySem.F.slot_str_split PySem.F.type_str_split mt_split loc_split (de_var 0) (DE.toB de_str))) (dgs_star (dg_n 1 nd) (dgs_cons (dg_n 2 nd) dgs_nil)) (hps (by decide)))
  (dss_one (ds_ret (de_if (dt_cmp (op_eqD hu2) loc_eq (de_var 2) (DE.toB de_str)) (de_var 1) (de_op2 op_add4 loc_add (de_var 1) (DE.toB (de_lst (da_cons de_str da_nil))))) hpv))))
theorem ok_Lines_init (m : Mo K mg base B) : OkD P w K mg base ⟨He.ga K, B⟩ d_Lines_init (k_Lines_init + 1) ["self", "lines"] 2 1 F_Lines_init := by
  obtain ⟨fd, F⟩ := m.says.def_ 22 (d := d_Lines_init) rfl
  refine ⟨fd, F, DL.FunD.okG F sc_Lines_init rfl (by decide) fun cdv A outer s H E pv hpv hr => ?_⟩
  have hu : (A.deeper (envOfC "Lines.__init__" (defScope s_Lines_init) s.heap.objs.size (He.fAd K d_Lines_init.at_) cdv)).units + 1 < cLine := by have := hr.rm.un; show A.units + 3 + 1 < cLine; have h2 : A.units + 3 + 16 * k_Lines_init + 200 < cLine := this; omega
  have hu2 : (A.deeper (envOfC "Lines.__init__" (defScope s_Lines_init) s.heap.objs.size (He.fAd K d_Lines_init.at_) cdv)).units + 64 < cLine := by have := hr.rm.un; show A.units + 3 + 64 < cLine; have h2 : A.units + 3 + 16 * k_Lines_init + 200 < cLine := this; omega
  have tk := takes_of (X := cxOf (L2.CX P w) P w K mg base N_Lines_init "Lines.__init__" (defScope s_Lines_init) (He.fAd K d_Lines_init.at_) cdv A outer s H E) (E := E) rfl rfl rfl rfl
  have po := passes_of (X := cxOf (L2.CX P w) P w K mg base N_Lines_init "Lines.__init__" (defScope s_Lines_init) (He.fAd K d_Lines_init.at_) cdv A outer s H E) rfl
  have nd : N_Lines_init.Nodup := sc_Lines_init.nd
  have hp : ∀ i, 1 ≤ i → pv.length ≤ i := fun i h => by rw [hpv]; exact h
  have hps : ∀ {is : List Nat}, (∀ i ∈ is, 1 ≤ i) → ∀ i ∈ is, pv.length ≤ i := fun h i hi => hp i (h i hi)
  exact (dss_cons (ds_fst (C := "Lines") (He.cls_ok (m.f 34)) (He.noat_ok (m.f 35)) (do_d (de_var 1)) (dp_slot 0))
  (dss_one (ds_fst (C := "Lines") (He.cls_ok (m.f 34)) (He.noat_ok (m.f 36)) (do_d de_int) (dp_slot 0))))
theorem ok_Lines_begins (m : Mo K mg base B) : OkD P w K mg base ⟨He.ga K, B⟩ d_Lines_begins (k_Lines_begins + 1) ["self", "word"] 2 1 F_Lines_begins := by
  obtain ⟨fd, F⟩ := m.says.def_ 23 (d := d_Lines_begins) rfl
  refine ⟨fd, F, DL.FunD.okG F sc_Lines_begins rfl (by decide) fun cdv A outer s H E pv hpv hr => ?_⟩
  have hu : (A.deeper (envOfC "Lines.begins" (defScope s_Lines_begins) s.heap.objs.size (He.fAd K d_Lines_begins.at_) cdv)).units + 1 < cLine := by have := hr.rm.un; show A.units + 3 + 1 < cLine; have h2 : A.units + 3 + 16 * k_Lines_begins + 200 < cLine := this; omega
  have hu2 : (A.deeper (envOfC "Lines.begins" (defScope s_Lines_begins) s.heap.objs.size (He.fAd K d_Lines_begins.at_) cdv)).units + 64 < cLine := by have := hr.rm.un; show A.units + 3 + 64 < cLine; have h2 : A.units + 3 + 16 * k_Lines_begins + 200 < cLine := this; omega
  have tk := takes_of (X := cxOf (L2.CX P w) P w K mg base N_Lines_begins "Lines.begins" (defScope s_Lines_begins) (He.fAd K d_Lines_begins.at_) cdv A outer s H E) (E := E) rfl rfl rfl rfl
  have po := passes_of (X := cxOf (L2.CX P w) P w K mg base N_Lines_begins "Lines.begins" (defScope s_Lines_begins) (He.fAd K d_Lines_begins.at_) cdv A outer s H E) rfl
  have nd : N_Lines_begins.Nodup := sc_Lines_begins.nd
  have hp : ∀ i, 1 ≤ i → pv.length ≤ i := fun i h => by rw [hpv]; exact h
  have hps : ∀ {is : List Nat}, (∀ i ∈ is, 1 ≤ i) → ∀ i ∈ is, pv.length ≤ i := fun h i hi => hp i (h i hi)
  exact (dss_one (ds_ret (de_and (de_cmp op_lt2 loc_lt (de_rd (dp_fld (C := "Lines") (He.cls_ok (m.f 34)) (He.noat_ok (m.f 36)) (dp_slot 0))) (DE.toB (de_b1 call_len loc_len (He.free_ok m.kin m.ns (m.f 9)) (by decide +kernel) (DE.toB (de_rd (dp_fld (C := "Lines") (He.cls_ok (m.f 34)) (He.noat_ok (m.f 35)) (dp_slot 0))))))) (de_one (de_cmp (op_eqD hu2) loc_eq (de_ixA hu (de_fz (do_m1 PySem.F.slot_str_split PySem.F.type_str_split mt_split loc_split (de_ixA hu (de_rd (dp_fld (C := "Lines") (He.cls_ok (m.f 34)) (He.noat_ok (m.f 35)) (dp_slot 0))) (DE.toB (de_rd (dp_fld (C := "Lines") (He.cls_ok (m.f 34)) (He.noat_ok (m.f 36)) (dp_slot 0))))) (DE.toB de_str))) (DE.toB de_int)) (DE.toB (de_var 1))))) hpv))
theorem ok_Lines_need (m : Mo K mg base B) : OkD P w K mg base ⟨He.ga K, B⟩ d_Lines_need (k_Lines_need + 1) ["self", "truth"] 2 1 F_Lines_need := by
  obtain ⟨fd, F⟩ := m.says.def_ 24 (d := d_Lines_need) rfl
  refine ⟨fd, F, DL.FunD.okG F sc_Lines_need rfl (by decide) fun cdv A outer s H E pv hpv hr => ?_⟩
  have hu : (A.deeper (envOfC "Lines.need" (defScope s_Lines_need) s.heap.objs.size (He.fAd K d_Lines_need.at_) cdv)).units + 1 < cLine := by have := hr.rm.un; show A.units + 3 + 1 < cLine; have h2 : A.units + 3 + 16 * k_Lines_need + 200 < cLine := this; omega
  have hu2 : (A.deeper (envOfC "Lines.need" (defScope s_Lines_need) s.heap.objs.size (He.fAd K d_Lines_need.at_) cdv)).units + 64 < cLine := by have := hr.rm.un; show A.units + 3 + 64 < cLine; have h2 : A.units + 3 + 16 * k_Lines_need + 200 < cLine := this; omega
  have tk := takes_of (X := cxOf (L2.CX P w) P w K mg base N_Lines_need "Lines.need" (defScope s_Lines_need) (He.fAd K d_Lines_need.at_) cdv A outer s H E) (E := E) rfl rfl rfl rfl
  have po := passes_of (X := cxOf (L2.CX P w) P w K mg base N_Lines_need "Lines.need" (defScope s_Lines_need) (He.fAd K d_Lines_need.at_) cdv A outer s H E) rfl
  have nd : N_Lines_need.Nodup := sc_Lines_need.nd
  have hp : ∀ i, 1 ≤ i → pv.length ≤ i := fun i h => by rw [hpv]; exact h
  have hps : ∀ {is : List Nat}, (∀ i ∈ is, 1 ≤ i) → ∀ i ∈ is, pv.length ≤ i := fun h i hi => hp i (h i hi)
  exact (dss_one (ds_if (dt_not (dt_tru (DE.toB (de_var 1)))) (dss_one ds_bad) dss_nil))
theorem ok_Lines_ahead (m : Mo K mg base B) : OkD P w K mg base ⟨He.ga K, B⟩ d_Lines_ahead (k_Lines_ahead + 1) ["self"] 1 1 F_Lines_ahead := by
  obtain ⟨fd, F⟩ := m.says.def_ 25 (d := d_Lines_ahead) rfl
  refine ⟨fd, F, DL.FunD.okG F sc_Lines_ahead rfl (by decide) fun cdv A outer s H E pv hpv hr => ?_⟩
  have hu : (A.deeper (envOfC "Lines.ahead" (defScope s_Lines_ahead) s.heap.objs.size (He.fAd K d_Lines_ahead.at_) cdv)).units + 1 < cLine := by have := hr.rm.un; show A.units + 3 + 1 < cLine; have h2 : A.units + 3 + 16 * k_Lines_ahead + 200 < cLine := this; omega
  have hu2 : (A.deeper (envOfC "Lines.ahead" (defScope s_Lines_ahead) s.heap.objs.size (He.fAd K d_Lines_ahead.at_) cdv)).units + 64 < cLine := by have := hr.rm.un; show A.units + 3 + 64 < cLine; have h2 : A.units + 3 + 16 * k_Lines_ahead + 200 < cLine := this; omega
  have tk := takes_of (X := cxOf (L2.CX P w) P w K mg base N_Lines_ahead "Lines.ahead" (defScope s_Lines_ahead) (He.fAd K d_Lines_ahead.at_) cdv A outer s H E) (E := E) rfl rfl rfl rfl
  have po := passes_of (X := cxOf (L2.CX P w) P w K mg base N_Lines_ahead "Lines.ahead" (defScope s_Lines_ahead) (He.fAd K d_Lines_ahead.at_) cdv A outer s H E) rfl
  have nd : N_Lines_ahead.Nodup := sc_Lines_ahead.nd
  have hp : ∀ i, 1 ≤ i → pv.length ≤ i := fun i h => by rw [hpv]; exact h
  have hps : ∀ {is : List Nat}, (∀ i ∈ is, 1 ≤ i) → ∀ i ∈ is, pv.length ≤ i := fun h i hi => hp i (h i hi)
  exact (dss_cons (ds_expr (de_fz (do_meth (j := k_Lines_ahead) (C := "Lines") (i := 0) (ok_Lines_need m) cb_Lines_need noDv_rep hr (He.cls_ok (m.f 34)) (He.meth_ok (m.f 37)) tk (dar_nil (da_cons (de_cmp op_lt2 loc_lt (de_rd (dp_fld (C := "Lines") (He.cls_ok (m.f 34)) (He.noat_ok (m.f 36)) (dp_slot 0))) (DE.toB (de_b1 call_len loc_len (He.free_ok m.kin m.ns (m.f 9)) (by decide +kernel) (DE.toB (de_rd (dp_fld (C := "Lines") (He.cls_ok (m.f 34)) (He.noat_ok (m.f 35)) (dp_slot 0))))))) da_nil)))))
  (dss_one (ds_ret (de_ixA hu (de_rd (dp_fld (C := "Lines") (He.cls_ok (m.f 34)) (He.noat_ok (m.f 35)) (dp_slot 0))) (DE.toB (de_rd (dp_fld (C := "Lines") (He.cls_ok (m.f 34)) (He.noat_ok (m.f 36)) (dp_slot 0))))) hpv)))
theorem ok_Lines_through (m : Mo K mg base B) : OkD P w K mg base ⟨He.ga K, B⟩ d_Lines_through (k_Lines_through + 1) ["self"] 1 1 F_Lines_through := by
  obtain ⟨fd, F⟩ := m.says.def_ 26 (d := d_Lines_through) rfl
  refine ⟨fd, F, DL.FunD.okG F sc_Lines_through rfl (by decide) fun cdv A outer s H E pv hpv hr => ?_⟩
  have hu : (A.deeper (envOfC "Lines.through" (defScope s_Lines_through) s.heap.objs.size (He.fAd K d_Lines_through.at_) cdv)).units + 1 < cLine := by have := hr.rm.un; show A.units + 3 + 1 < cLine; have h2 : A.units + 3 + 16 * k_Lines_through + 200 < cLine := this; omega
  have hu2 : (A.deeper (envOfC "Lines.through" (defScope s_Lines_through) s.heap.objs.size (He.fAd K d_Lines_through.at_) cdv)).units + 64 < cLine := by have := hr.rm.un; show A.units + 3 + 64 < cLine; have h2 : A.units + 3 + 16 * k_Lines_through + 200 < cLine := this; omega
  have tk := takes_of (X := cxOf (L2.CX P w) P w K mg base N_Lines_through "Lines.through" (defScope s_Lines_through) (He.fAd K d_Lines_through.at_) cdv A outer s H E) (E := E) rfl rfl rfl rfl
  have po := passes_of (X := cxOf (L2.CX P w) P w K mg base N_Lines_through "Lines.through" (defScope s_Lines_through) (He.fAd K d_Lines_through.at_) cdv A outer s H E) rfl
  have nd : N_Lines_through.Nodup := sc_Lines_through.nd
  have hp : ∀ i, 1 ≤ i → pv.length ≤ i := fun i h => by rw [hpv]; exact h
  have hps : ∀ {is : List Nat}, (∀ i ∈ is, 1 ≤ i) → ∀ i ∈ is, pv.length ≤ i := fun h i hi => hp i (h i hi)
  exact (dss_one (ds_fau (g := (fun a b => a + b)) (C := "Lines") in_add (He.cls_ok (m.f 34)) (He.noat_ok (m.f 36)) (dp_slot 0) de_int))
theorem ok_Lines_finish (m : Mo K mg base B) : OkD P w K mg base ⟨He.ga K, B⟩ d_Lines_finish (k_Lines_finish + 1) ["self"] 1 1 F_Lines_finish := by
  obtain ⟨fd, F⟩ := m.says.def_ 27 (d := d_Lines_finish) rfl
  refine ⟨fd, F, DL.FunD.okG F sc_Lines_finish rfl (by decide) fun cdv A outer s H E pv hpv hr => ?_⟩
  have hu : (A.deeper (envOfC "Lines.finish" (defScope s_Lines_finish) s.heap.objs.size (He.fAd K d_Lines_finish.at_) cdv)).units + 1 < cLine := by have := hr.rm.un; show A.units + 3 + 1 < cLine; have h2 : A.units + 3 + 16 * k_Lines_finish + 200 < cLine := this; omega
  have hu2 : (A.deeper (envOfC "Lines.finish" (defScope s_Lines_finish) s.heap.objs.size (He.fAd K d_Lines_finish.at_) cdv)).units + 64 < cLine := by have := hr.rm.un; show A.units + 3 + 64 < cLine; have h2 : A.units + 3 + 16 * k_Lines_finish + 200 < cLine := this; omega
  have tk := takes_of (X := cxOf (L2.CX P w) P w K mg base N_Lines_finish "Lines.finish" (defScope s_Lines_finish) (He.fAd K d_Lines_finish.at_) cdv A outer s H E) (E := E) rfl rfl rfl rfl
  have po := passes_of (X := cxOf (L2.CX P w) P w K mg base N_Lines_finish "Lines.finish" (defScope s_Lines_finish) (He.fAd K d_Lines_finish.at_) cdv A outer s H E) rfl
  have nd : N_Lines_finish.Nodup := sc_Lines_finish.nd
  have hp : ∀ i, 1 ≤ i → pv.length ≤ i := fun i h => by rw [hpv]; exact h
  have hps : ∀ {is : List Nat}, (∀ i ∈ is, 1 ≤ i) → ∀ i ∈ is, pv.length ≤ i := fun h i hi => hp i (h i hi)
  exact (dss_one (ds_expr (de_fz (do_meth (j := k_Lines_finish) (C := "Lines") (i := 0) (ok_Lines_need m) cb_Lines_need noDv_rep hr (He.cls_ok (m.f 34)) (He.meth_ok (m.f 37)) tk (dar_nil (da_cons (de_cmp (op_eqD hu2) loc_eq (de_rd (dp_fld (C := "Lines") (He.cls_ok (m.f 34)) (He.noat_ok (m.f 36)) (dp_slot 0))) (DE.toB (de_b1 call_len loc_len (He.free_ok m.kin m.ns (m.f 9)) (by decide +kernel) (DE.toB (de_rd (dp_fld (C := "Lines") (He.cls_ok (m.f 34)) (He.noat_ok (m.f 35)) (dp_slot 0))))))) da_nil))))))
theorem ok_houses_in (m : Mo K mg base B) : OkD P w K mg base ⟨He.ga K, B⟩ d_houses_in (k_houses_in + 1) ["lines"] 1 1 F_houses_in := by
  obtain ⟨fd, F⟩ := m.says.def_ 28 (d := d_houses_in) rfl
  refine ⟨fd, F, DL.FunD.okG F sc_houses_in rfl (by decide) fun cdv A outer s H E pv hpv hr => ?_⟩
  have hu : (A.deeper (envOfC "houses_in" (defScope s_houses_in) s.heap.objs.size (He.fAd K d_houses_in.at_) cdv)).units + 1 < cLine := by have := hr.rm.un; show A.units + 3 + 1 < cLine; have h2 : A.units + 3 + 16 * k_houses_in + 200 < cLine := this; omega
  have hu2 : (A.deeper (envOfC "houses_in" (defScope s_houses_in) s.heap.objs.size (He.fAd K d_houses_in.at_) cdv)).units + 64 < cLine := by have := hr.rm.un; show A.units + 3 + 64 < cLine; have h2 : A.units + 3 + 16 * k_houses_in + 200 < cLine := this; omega
  have tk := takes_of (X := cxOf (L2.CX P w) P w K mg base N_houses_in "houses_in" (defScope s_houses_in) (He.fAd K d_houses_in.at_) cdv A outer s H E) (E := E) rfl rfl rfl rfl
  have po := passes_of (X := cxOf (L2.CX P w) P w K mg base N_houses_in "houses_in" (defScope s_houses_in) (He.fAd K d_houses_in.at_) cdv A outer s H E) rfl
  have nd : N_houses_in.Nodup := sc_houses_in.nd
  have hp : ∀ i, 1 ≤ i → pv.length ≤ i := fun i h => by rw [hpv]; exact h
  have hps : ∀ {is : List Nat}, (∀ i ∈ is, 1 ≤ i) → ∀ i ∈ is, pv.length ≤ i := fun h i hi => hp i (h i hi)
  exact (dss_cons (ds_setO 1 nd (do_lst da_nil) (hp 1 (by decide)))
  (dss_cons (ds_while po (dt_tru (DE.toB (de_fz (do_meth (j := k_houses_in) (C := "Lines") (i := 0) (ok_Lines_begins m) cb_Lines_begins noDv_rep hr (He.cls_ok (m.f 34)) (He.meth_ok (m.f 38)) tk (dar_nil (da_cons de_str da_nil)))))) (dss_cons (ds_star (n := 2) (i := 1) (de_fz (do_m1 PySem.F.slot_str_split PySem.F.type_str_split mt_split loc_split (de_fz (do_meth0 (j := k_houses_in) (C := "Lines") (i := 0) (ok_Lines_ahead m) cb_Lines_ahead noDv_rep hr (He.cls_ok (m.f 34)) (He.meth_ok (m.f 39)) tk)) (DE.toB de_str))) (dgs_cons (dg_n 2 nd) (dgs_star (dg_n 3 nd) dgs_nil)) (hps (by decide)))
  (dss_cons (ds_expr (de_fz (do_meth (j := k_houses_in) (C := "Lines") (i := 0) (ok_Lines_need m) cb_Lines_need noDv_rep hr (He.cls_ok (m.f 34)) (He.meth_ok (m.f 37)) tk (dar_nil (da_cons (de_and (de_cmp (op_eqD hu2) loc_eq (de_b1 call_len loc_len (He.free_ok m.kin m.ns (m.f 9)) (by decide +kernel) (DE.toB (de_var 3))) (DE.toB de_int)) (de_and (de_fz (do_call (j := k_houses_in) (ok_is_name m) cb_is_name noDv_rep hr (He.glo_ok m.kin m.ns (m.f 17)) tk (dar_nil (da_cons (de_ixA hu (de_var 3) (DE.toB de_int)) da_nil)))) (de_one (de_cmp op_lt2 loc_lt (de_b1 call_len loc_len (He.free_ok m.kin m.ns (m.f 9)) (by decide +kernel) (db_var 1)) (DE.toB (de_gint (He.int_ok m.kin m.ns (m.f 40)))))))) da_nil)))))
  (dss_cons (ds_expr (de_fz (do_meth (j := k_houses_in) (C := "Lines") (i := 0) (ok_Lines_need m) cb_Lines_need noDv_rep hr (He.cls_ok (m.f 34)) (He.meth_ok (m.f 37)) tk (dar_nil (da_cons (de_or (de_cmp' (op_eqD hu2) loc_eq (db_var 1) (DE.toB (de_lst da_nil))) (de_one (de_cmp op_lt2 loc_lt (de_ixA' hu (db_var 1) (DE.toB (de_un un_neg loc_neg (DE.toB de_int)))) (DE.toB (de_ixA hu (de_var 3) (DE.toB de_int)))))) da_nil)))))
  (dss_cons (ds_expr (de_fz (do_mutS 1 PySem.F.plainAttrs_list PySem.F.slot_list_append PySem.F.type_list_append mt_append loc_append (dao_d (da_cons (de_ixA hu (de_var 3) (DE.toB de_int)) da_nil)))))
  (dss_one (ds_expr (de_fz (do_meth0 (j := k_houses_in) (C := "Lines") (i := 0) (ok_Lines_through m) cb_Lines_through noDv_rep hr (He.cls_ok (m.f 34)) (He.meth_ok (m.f 41)) tk)))))))))
  (dss_cons (ds_expr (de_fz (do_meth (j := k_houses_in) (C := "Lines") (i := 0) (ok_Lines_need m) cb_Lines_need noDv_rep hr (He.cls_ok (m.f 34)) (He.meth_ok (m.f 37)) tk (dar_nil (da_cons (de_cmp' (op_neD hu2) loc_ne (db_var 1) (DE.toB (de_lst da_nil))) da_nil)))))
  (dss_one (ds_ret (de_t1 call_tuple_of loc_tuple (He.free_ok m.kin m.ns (m.f 1)) (by decide +kernel) (db_var 1)) hpv)))))
theorem ok_roads_in (m : Mo K mg base B) : OkD P w K mg base ⟨He.ga K, B⟩ d_roads_in (k_roads_in + 1) ["lines", "houses"] 2 1 F_roads_in := by
  obtain ⟨fd, F⟩ := m.says.def_ 29 (d := d_roads_in) rfl
  refine ⟨fd, F, DL.FunD.okG F sc_roads_in rfl (by decide) fun cdv A outer s H E pv hpv hr => ?_⟩
  have hu : (A.deeper (envOfC "roads_in" (defScope s_roads_in) s.heap.objs.size (He.fAd K d_roads_in.at_) cdv)).units + 1 < cLine := by have := hr.rm.un; show A.units + 3 + 1 < cLine; have h2 : A.units + 3 + 16 * k_roads_in + 200 < cLine := this; omega
  have hu2 : (A.deeper (envOfC "roads_in" (defScope s_roads_in) s.heap.objs.size (He.fAd K d_roads_in.at_) cdv)).units + 64 < cLine := by have := hr.rm.un; show A.units + 3 + 64 < cLine; have h2 : A.units + 3 + 16 * k_roads_in + 200 < cLine := this; omega
  have tk := takes_of (X := cxOf (L2.CX P w) P w K mg base N_roads_in "roads_in" (defScope s_roads_in) (He.fAd K d_roads_in.at_) cdv A outer s H E) (E := E) rfl rfl rfl rfl
  have po := passes_of (X := cxOf (L2.CX P w) P w K mg base N_roads_in "roads_in" (defScope s_roads_in) (He.fAd K d_roads_in.at_) cdv A outer s H E) rfl
  have nd : N_roads_in.Nodup := sc_roads_in.nd
  have hp : ∀ i, 1 ≤ i → pv.length ≤ i := fun i h => by rw [hpv]; exact h
  have hps : ∀ {is : List Nat}, (∀ i ∈ is, 1 ≤ i) → ∀ i ∈ is, pv.length ≤ i := fun h i hi => hp i (h i hi)
  exact (dss_cons (ds_setO 2 nd (do_lst da_nil) (hp 2 (by decide)))
  (dss_cons (ds_while po (dt_tru (DE.toB (de_fz (do_meth (j := k_roads_in) (C := "Lines") (i := 0) (ok_Lines_begins m) cb_Lines_begins noDv_rep hr (He.cls_ok (m.f 34)) (He.meth_ok (m.f 38)) tk (dar_nil (da_cons de_str da_nil)))))) (dss_cons (ds_star (n := 2) (i := 1) (de_fz (do_m1 PySem.F.slot_str_split PySem.F.type_str_split mt_split loc_split (de_fz (do_meth0 (j := k_roads_in) (C := "Lines") (i := 0) (ok_Lines_ahead m) cb_Lines_ahead noDv_rep hr (He.cls_ok (m.f 34)) (He.meth_ok (m.f 39)) tk)) (DE.toB de_str))) (dgs_cons (dg_n 3 nd) (dgs_star (dg_n 4 nd) dgs_nil)) (hps (by decide)))
  (dss_cons (ds_expr (de_fz (do_meth (j := k_roads_in) (C := "Lines") (i := 0) (ok_Lines_need m) cb_Lines_need noDv_rep hr (He.cls_ok (m.f 34)) (He.meth_ok (m.f 37)) tk (dar_nil (da_cons (de_and (de_fz (do_call (j := k_roads_in) (ok_is_road m) cb_is_road noDv_rep hr (He.glo_ok m.kin m.ns (m.f 42)) tk (dar_nil (da_cons (de_var 1) (da_cons (de_t1 call_tuple_of loc_tuple (He.free_ok m.kin m.ns (m.f 1)) (by decide +kernel) (DE.toB (de_var 4))) da_nil))))) (de_one (de_cmp op_lt2 loc_lt (de_b1 call_len loc_len (He.free_ok m.kin m.ns (m.f 9)) (by decide +kernel) (db_var 2)) (DE.toB (de_gint (He.int_ok m.kin m.ns (m.f 43))))))) da_nil)))))
  (dss_cons (ds_expr (de_fz (do_meth (j := k_roads_in) (C := "Lines") (i := 0) (ok_Lines_need m) cb_Lines_need noDv_rep hr (He.cls_ok (m.f 34)) (He.meth_ok (m.f 37)) tk (dar_nil (da_cons (de_or (de_cmp' (op_eqD hu2) loc_eq (db_var 2) (DE.toB (de_lst da_nil))) (de_one (de_cmp op_lt2 loc_lt (de_ixA hu (de_ixA' hu (db_var 2) (DE.toB (de_un un_neg loc_neg (DE.toB de_int)))) (DE.toB de_int)) (DE.toB (de_ixA hu (de_var 4) (DE.toB de_int)))))) da_nil)))))
  (dss_cons (ds_expr (de_fz (do_mutS 2 PySem.F.plainAttrs_list PySem.F.slot_list_append PySem.F.type_list_append mt_append loc_append (dao_d (da_cons (de_t1 call_tuple_of loc_tuple (He.free_ok m.kin m.ns (m.f 1)) (by decide +kernel) (DE.toB (de_var 4))) da_nil)))))
  (dss_one (ds_expr (de_fz (do_meth0 (j := k_roads_in) (C := "Lines") (i := 0) (ok_Lines_through m) cb_Lines_through noDv_rep hr (He.cls_ok (m.f 34)) (He.meth_ok (m.f 41)) tk)))))))))
  (dss_one (ds_ret (de_t1 call_tuple_of loc_tuple (He.free_ok m.kin m.ns (m.f 1)) (by decide +kernel) (db_var 2)) hpv))))
theorem ok_slot_in (m : Mo K mg base B) : OkD P w K mg base ⟨He.ga K, B⟩ d_slot_in (k_slot_in + 1) ["word"] 1 0 F_slot_in := by
  obtain ⟨fd, F⟩ := m.says.def_ 30 (d := d_slot_in) rfl
  refine ⟨fd, F, DL.FunD.okG F sc_slot_in rfl (by decide) fun cdv A outer s H E pv hpv hr => ?_⟩
  have hu : (A.deeper (envOfC "slot_in" (defScope s_slot_in) s.heap.objs.size (He.fAd K d_slot_in.at_) cdv)).units + 1 < cLine := by have := hr.rm.un; show A.units + 3 + 1 < cLine; have h2 : A.units + 3 + 16 * k_slot_in + 200 < cLine := this; omega
  have hu2 : (A.deeper (envOfC "slot_in" (defScope s_slot_in) s.heap.objs.size (He.fAd K d_slot_in.at_) cdv)).units + 64 < cLine := by have := hr.rm.un; show A.units + 3 + 64 < cLine; have h2 : A.units + 3 + 16 * k_slot_in + 200 < cLine := this; omega
  have tk := takes_of (X := cxOf (L2.CX P w) P w K mg base N_slot_in "slot_in" (defScope s_slot_in) (He.fAd K d_slot_in.at_) cdv A outer s H E) (E := E) rfl rfl rfl rfl
  have po := passes_of (X := cxOf (L2.CX P w) P w K mg base N_slot_in "slot_in" (defScope s_slot_in) (He.fAd K d_slot_in.at_) cdv A outer s H E) rfl
  have nd : N_slot_in.Nodup := sc_slot_in.nd
  have hp : ∀ i, 0 ≤ i → pv.length ≤ i := fun i h => by rw [hpv]; exact h
  have hps : ∀ {is : List Nat}, (∀ i ∈ is, 0 ≤ i) → ∀ i ∈ is, pv.length ≤ i := fun h i hi => hp i (h i hi)
  exact (dss_cons (ds_dcR 1 nd (di_rng1 (He.free_ok m.kin m.ns (m.f 44)) (de_gint (He.int_ok m.kin m.ns (m.f 19)))) (W0 := fun _ _ _ _ => False) (own := [("slot", 2)]) (blkOk_by (N := N_slot_in) (sc := defScope s_slot_in) (by decide +kernel)) (fun _ _ _ _ _ => (dg_n 2 nd)) (fun _ _ _ _ _ => (pts_yes (r0 := true))) (fun _ _ _ _ _ => (de_op2 op_add4 loc_add de_str (DE.toB (de_t1 call_str2 loc_str2 (He.free_ok m.kin m.ns (m.f 2)) (by decide +kernel) (DE.toB (de_var 2)))))) (fun _ _ _ _ _ => (do_d (de_var 2))) (hp 1 (by decide)))
  (dss_one (ds_ret (de_get1 hu (db_var 1) (de_var 0)) hpv)))
theorem ok_worth_in (m : Mo K mg base B) : OkD P w K mg base ⟨He.ga K, B⟩ d_worth_in (k_worth_in + 1) ["word"] 1 0 F_worth_in := by
  obtain ⟨fd, F⟩ := m.says.def_ 31 (d := d_worth_in) rfl
  refine ⟨fd, F, DL.FunD.okG F sc_worth_in rfl (by decide) fun cdv A outer s H E pv hpv hr => ?_⟩
  have hu : (A.deeper (envOfC "worth_in" (defScope s_worth_in) s.heap.objs.size (He.fAd K d_worth_in.at_) cdv)).units + 1 < cLine := by have := hr.rm.un; show A.units + 3 + 1 < cLine; have h2 : A.units + 3 + 16 * k_worth_in + 200 < cLine := this; omega
  have hu2 : (A.deeper (envOfC "worth_in" (defScope s_worth_in) s.heap.objs.size (He.fAd K d_worth_in.at_) cdv)).units + 64 < cLine := by have := hr.rm.un; show A.units + 3 + 64 < cLine; have h2 : A.units + 3 + 16 * k_worth_in + 200 < cLine := this; omega
  have tk := takes_of (X := cxOf (L2.CX P w) P w K mg base N_worth_in "worth_in" (defScope s_worth_in) (He.fAd K d_worth_in.at_) cdv A outer s H E) (E := E) rfl rfl rfl rfl
  have po := passes_of (X := cxOf (L2.CX P w) P w K mg base N_worth_in "worth_in" (defScope s_worth_in) (He.fAd K d_worth_in.at_) cdv A outer s H E) rfl
  have nd : N_worth_in.Nodup := sc_worth_in.nd
  have hp : ∀ i, 0 ≤ i → pv.length ≤ i := fun i h => by rw [hpv]; exact h
  have hps : ∀ {is : List Nat}, (∀ i ∈ is, 0 ≤ i) → ∀ i ∈ is, pv.length ≤ i := fun h i hi => hp i (h i hi)
  exact (dss_cons (ds_if (dt_cmp (op_eqD hu2) loc_eq (de_var 0) (DE.toB de_str)) (dss_one (ds_ret (de_tup (da_cons de_str da_nil)) hpv)) dss_nil)
  (dss_cons (ds_if (dt_cmp op_notN loc_isnot (de_fz (do_call (j := k_worth_in) (ok_slot_in m) cb_slot_in noDv_rep hr (He.glo_ok m.kin m.ns (m.f 45)) tk (dar_nil (da_cons (de_var 0) da_nil)))) (DE.toB de_non)) (dss_one (ds_ret (de_tup (da_cons de_str (da_cons (de_fz (do_call (j := k_worth_in) (ok_slot_in m) cb_slot_in noDv_rep hr (He.glo_ok m.kin m.ns (m.f 45)) tk (dar_nil (da_cons (de_var 0) da_nil)))) da_nil))) hpv)) dss_nil)
  (dss_one (ds_retO (do_call (j := k_worth_in) (ok_number_in m) cbd1_number_in ddr1_number_in hr (He.glo_ok m.kin m.ns (m.f 46)) tk (dar_nil (da_cons (de_var 0) da_nil))) hpv))))
theorem ok_test_in (m : Mo K mg base B) : OkD P w K mg base ⟨He.ga K, B⟩ d_test_in (k_test_in + 1) ["text"] 1 0 F_test_in := by
  obtain ⟨fd, F⟩ := m.says.def_ 32 (d := d_test_in) rfl
  refine ⟨fd, F, DL.FunD.okG F sc_test_in rfl (by decide) fun cdv A outer s H E pv hpv hr => ?_⟩
  have hu : (A.deeper (envOfC "test_in" (defScope s_test_in) s.heap.objs.size (He.fAd K d_test_in.at_) cdv)).units + 1 < cLine := by have := hr.rm.un; show A.units + 3 + 1 < cLine; have h2 : A.units + 3 + 16 * k_test_in + 200 < cLine := this; omega
  have hu2 : (A.deeper (envOfC "test_in" (defScope s_test_in) s.heap.objs.size (He.fAd K d_test_in.at_) cdv)).units + 64 < cLine := by have := hr.rm.un; show A.units + 3 + 64 < cLine; have h2 : A.units + 3 + 16 * k_test_in + 200 < cLine := this; omega
  have tk := takes_of (X := cxOf (L2.CX P w) P w K mg base N_test_in "test_in" (defScope s_test_in) (He.fAd K d_test_in.at_) cdv A outer s H E) (E := E) rfl rfl rfl rfl
  have po := passes_of (X := cxOf (L2.CX P w) P w K mg base N_test_in "test_in" (defScope s_test_in) (He.fAd K d_test_in.at_) cdv A outer s H E) rfl
  have nd : N_test_in.Nodup := sc_test_in.nd
  have hp : ∀ i, 0 ≤ i → pv.length ≤ i := fun i h => by rw [hpv]; exact h
  have hps : ∀ {is : List Nat}, (∀ i ∈ is, 0 ≤ i) → ∀ i ∈ is, pv.length ≤ i := fun h i hi => hp i (h i hi)
  exact (dss_cons (ds_star (n := 2) (i := 1) (de_fz (do_m1 PySem.F.slot_str_split PySem.F.type_str_split mt_split loc_split (de_var 0) (DE.toB de_str))) (dgs_cons (dg_n 1 nd) (dgs_star (dg_n 2 nd) dgs_nil)) (hps (by decide)))
  (dss_cons (ds_if (dt_cmp (op_neD hu2) loc_ne (de_b1 call_len loc_len (He.free_ok m.kin m.ns (m.f 9)) (by decide +kernel) (DE.toB (de_var 2))) (DE.toB de_int)) (dss_one (ds_ret de_non hpv)) dss_nil)
  (dss_cons (ds_dcR 3 nd (di_items (de_gdk (vs := tv_SIGN_TEXTS) (m.tabs _ (mem_SIGN_TEXTS)) rfl (fun _ => rep_SIGN_TEXTS))) (W0 := fun _ _ _ _ => False) (own := [("word", 5), ("sign", 6)]) (blkOk_by (N := N_test_in) (sc := defScope s_test_in) (by decide +kernel)) (fun _ _ _ _ _ => (dg_seq (dgs_cons (dg_n 5 nd) (dgs_cons (dg_n 6 nd) dgs_nil)))) (fun _ _ _ _ _ => (pts_yes (r0 := true))) (fun _ _ _ _ _ => (de_var 6)) (fun _ _ _ _ _ => (do_d (de_var 5))) (hp 3 (by decide)))
  (dss_cons (ds_set 4 nd (de_if (dt_cmp (op_eqD hu2) loc_eq (de_var 1) (DE.toB de_str)) (de_var 1) (de_fz (do_call (j := k_test_in) (ok_slot_in m) cb_slot_in noDv_rep hr (He.glo_ok m.kin m.ns (m.f 45)) tk (dar_nil (da_cons (de_var 1) da_nil))))) (hp 4 (by decide)))
  (dss_one (ds_ret (de_tup (da_cons (de_var 4) (da_cons (de_get1 hu (db_var 3) (de_ixA hu (de_var 2) (DE.toB de_int))) (da_cons (de_fz (do_call (j := k_test_in) (ok_number_in m) cbd1_number_in ddr1_number_in hr (He.glo_ok m.kin m.ns (m.f 46)) tk (dar_nil (da_cons (de_ixA hu (de_var 2) (DE.toB de_int)) da_nil)))) da_nil)))) hpv))))))
theorem ok_act_in (m : Mo K mg base B) : OkD P w K mg base ⟨He.ga K, B⟩ d_act_in (k_act_in + 1) ["text"] 1 0 F_act_in := by
  obtain ⟨fd, F⟩ := m.says.def_ 33 (d := d_act_in) rfl
  refine ⟨fd, F, DL.FunD.okG F sc_act_in rfl (by decide) fun cdv A outer s H E pv hpv hr => ?_⟩
  have hu : (A.deeper (envOfC "act_in" (defScope s_act_in) s.heap.objs.size (He.fAd K d_act_in.at_) cdv)).units + 1 < cLine := by have := hr.rm.un; show A.units + 3 + 1 < cLine; have h2 : A.units + 3 + 16 * k_act_in + 200 < cLine := this; omega
  have hu2 : (A.deeper (envOfC "act_in" (defScope s_act_in) s.heap.objs.size (He.fAd K d_act_in.at_) cdv)).units + 64 < cLine := by have := hr.rm.un; show A.units + 3 + 64 < cLine; have h2 : A.units + 3 + 16 * k_act_in + 200 < cLine := this; omega
  have tk := takes_of (X := cxOf (L2.CX P w) P w K mg base N_act_in "act_in" (defScope s_act_in) (He.fAd K d_act_in.at_) cdv A outer s H E) (E := E) rfl rfl rfl rfl
  have po := passes_of (X := cxOf (L2.CX P w) P w K mg base N_act_in "act_in" (defScope s_act_in) (He.fAd K d_act_in.at_) cdv A outer s H E) rfl
  have nd : N_act_in.Nodup := sc_act_in.nd
  have hp : ∀ i, 0 ≤ i → pv.length ≤ i := fun i h => by rw [hpv]; exact h
  have hps : ∀ {is : List Nat}, (∀ i ∈ is, 0 ≤ i) → ∀ i ∈ is, pv.length ≤ i := fun h i hi => hp i (h i hi)
  exact (dss_cons (ds_star (n := 2) (i := 1) (de_fz (do_m1 PySem.F.slot_str_split PySem.F.type_str_split mt_split loc_split (de_var 0) (DE.toB de_str))) (dgs_cons (dg_n 1 nd) (dgs_star (dg_n 2 nd) dgs_nil)) (hps (by decide)))
  (dss_cons (ds_if (dt_w (dw_or (dt_cmp (op_eqD hu2) loc_eq (de_var 1) (DE.toB de_str)) (dw_or1 (dt_cmp (op_eqD hu2) loc_eq (de_var 2) (DE.toB (de_lst da_nil)))))) (dss_one (ds_ret (de_op2 op_add4 loc_add (de_tup (da_cons (de_var 1) da_nil)) (DE.toB (de_t1 call_tuple_of loc_tuple (He.free_ok m.kin m.ns (m.f 1)) (by decide +kernel) (DE.toB (de_var 2))))) hpv)) dss_nil)
  (dss_cons (ds_star (n := 2) (i := 0) (de_var 2) (dgs_star (dg_n 3 nd) (dgs_cons (dg_n 4 nd) dgs_nil)) (hps (by decide)))
  (dss_cons (ds_if (dt_cmp (op_eqD hu2) loc_eq (de_var 1) (DE.toB de_str)) (dss_one (ds_ret (de_op2 op_add4 loc_add (de_op2 op_add4 loc_add (de_tup (da_cons (de_var 1) da_nil)) (DE.toB (de_t1 call_tuple_of loc_tuple (He.free_ok m.kin m.ns (m.f 1)) (by decide +kernel) (DE.toB (de_var 3))))) (DE.toB (de_tup (da_cons (de_fz (do_call (j := k_act_in) (ok_worth_in m) cb_worth_in noDv_rep hr (He.glo_ok m.kin m.ns (m.f 47)) tk (dar_nil (da_cons (de_var 4) da_nil)))) da_nil)))) hpv)) dss_nil)
  (dss_one (ds_ret (de_op2 op_add4 loc_add (de_op2 op_add4 loc_add (de_tup (da_cons (de_var 1) da_nil)) (DE.toB (de_t1 call_tuple_of loc_tuple (He.free_ok m.kin m.ns (m.f 1)) (by decide +kernel) (DE.toB (lcR_all newL_d nd (di_any (de_var 3)) (W0 := fun _ _ _ _ => False) (own := [("one", 5)]) (blkOk_by (N := N_act_in) (sc := defScope s_act_in) (by decide +kernel)) (fun _ _ _ _ _ => (dg_n 5 nd)) (fun _ _ _ _ _ => (pts_yes (r0 := true))) (fun _ _ _ _ _ => (de_fz (do_call (j := k_act_in) (ok_slot_in m) cb_slot_in noDv_rep hr (He.glo_ok m.kin m.ns (m.f 45)) takes_none5 (dar_nil (da_cons (de_var 5) da_nil)))))))))) (DE.toB (de_tup (da_cons (de_fz (do_call (j := k_act_in) (ok_worth_in m) cb_worth_in noDv_rep hr (He.glo_ok m.kin m.ns (m.f 47)) tk (dar_nil (da_cons (de_var 4) da_nil)))) da_nil)))) hpv))))))
theorem ok_rule_in (m : Mo K mg base B) : OkD P w K mg base ⟨He.ga K, B⟩ d_rule_in (k_rule_in + 1) ["text"] 1 0 F_rule_in := by
  obtain ⟨fd, F⟩ := m.says.def_ 34 (d := d_rule_in) rfl
  refine ⟨fd, F, DL.FunD.okG F sc_rule_in rfl (by decide) fun cdv A outer s H E pv hpv hr => ?_⟩
  have hu : (A.deeper (envOfC "rule_in" (defScope s_rule_in) s.heap.objs.size (He.fAd K d_rule_in.at_) cdv)).units + 1 < cLine := by have := hr.rm.un; show A.units + 3 + 1 < cLine; have h2 : A.units + 3 + 16 * k_rule_in + 200 < cLine := this; omega
  have hu2 : (A.deeper (envOfC "rule_in" (defScope s_rule_in) s.heap.objs.size (He.fAd K d_rule_in.at_) cdv)).units + 64 < cLine := by have := hr.rm.un; show A.units + 3 + 64 < cLine; have h2 : A.units + 3 + 16 * k_rule_in + 200 < cLine := this; omega
  have tk := takes_of (X := cxOf (L2.CX P w) P w K mg base N_rule_in "rule_in" (defScope s_rule_in) (He.fAd K d_rule_in.at_) cdv A outer s H E) (E := E) rfl rfl rfl rfl
  have po := passes_of (X := cxOf (L2.CX P w) P w K mg base N_rule_in "rule_in" (defScope s_rule_in) (He.fAd K d_rule_in.at_) cdv A outer s H E) rfl
  have nd : N_rule_in.Nodup := sc_rule_in.nd
  have hp : ∀ i, 0 ≤ i → pv.length ≤ i := fun i h => by rw [hpv]; exact h
  have hps : ∀ {is : List Nat}, (∀ i ∈ is, 0 ≤ i) → ∀ i ∈ is, pv.length ≤ i := fun h i hi => hp i (h i hi)
  exact (dss_cons (ds_star (n := 2) (i := 1) (de_fz (do_m1 PySem.F.slot_str_split PySem.F.type_str_split mt_split loc_split (de_var 0) (DE.toB de_str))) (dgs_cons (dg_n 1 nd) (dgs_star (dg_n 2 nd) dgs_nil)) (hps (by decide)))
  (dss_cons (ds_if (dt_cmp (op_neD hu2) loc_ne (de_b1 call_len loc_len (He.free_ok m.kin m.ns (m.f 9)) (by decide +kernel) (DE.toB (de_var 2))) (DE.toB de_int)) (dss_one (ds_ret de_non hpv)) dss_nil)
  (dss_cons (ds_set 3 nd (de_if (dt_cmp (op_eqD hu2) loc_eq (de_ixA hu (de_var 2) (DE.toB de_int)) (DE.toB de_str)) (de_tup da_nil) (de_t1 call_tuple_of loc_tuple (He.free_ok m.kin m.ns (m.f 1)) (by decide +kernel) (DE.toB (lcR_all newL_d nd (di_any (de_fz (do_m1 PySem.F.slot_str_split PySem.F.type_str_split mt_split loc_split (de_ixA hu (de_var 2) (DE.toB de_int)) (DE.toB de_str)))) (W0 := fun _ _ _ _ => False) (own := [("one", 5)]) (blkOk_by (N := N_rule_in) (sc := defScope s_rule_in) (by decide +kernel)) (fun _ _ _ _ _ => (dg_n 5 nd)) (fun _ _ _ _ _ => (pts_yes (r0 := true))) (fun _ _ _ _ _ => (de_fz (do_call (j := k_rule_in) (ok_test_in m) cb_test_in noDv_rep hr (He.glo_ok m.kin m.ns (m.f 48)) takes_none5 (dar_nil (da_cons (de_var 5) da_nil))))))))) (hp 3 (by decide)))
  (dss_cons (ds_set 4 nd (de_if (dt_cmp (op_eqD hu2) loc_eq (de_ixA hu (de_var 2) (DE.toB de_int)) (DE.toB de_str)) (de_tup da_nil) (de_t1 call_tuple_of loc_tuple (He.free_ok m.kin m.ns (m.f 1)) (by decide +kernel) (DE.toB (lcR_all newL_d nd (di_any (de_fz (do_m1 PySem.F.slot_str_split PySem.F.type_str_split mt_split loc_split (de_ixA hu (de_var 2) (DE.toB de_int)) (DE.toB de_str)))) (W0 := fun _ _ _ _ => False) (own := [("one", 5)]) (blkOk_by (N := N_rule_in) (sc := defScope s_rule_in) (by decide +kernel)) (fun _ _ _ _ _ => (dg_n 5 nd)) (fun _ _ _ _ _ => (pts_yes (r0 := true))) (fun _ _ _ _ _ => (de_fz (do_call (j := k_rule_in) (ok_act_in m) cb_act_in noDv_rep hr (He.glo_ok m.kin m.ns (m.f 49)) takes_none5 (dar_nil (da_cons (de_var 5) da_nil))))))))) (hp 4 (by decide)))
  (dss_cons (ds_if (dt_cmp (op_eqD hu2) loc_eq (de_var 1) (DE.toB de_str)) (dss_one (ds_ret (de_tup (da_cons (de_tup (da_cons de_str da_nil)) (da_cons (de_var 3) (da_cons (de_var 4) da_nil)))) hpv)) dss_nil)
  (dss_one (ds_ret (de_tup (da_cons (de_tup (da_cons de_str (da_cons (de_sl (de_var 1) (dp_some de_int) dp_none) da_nil))) (da_cons (de_var 3) (da_cons (de_var 4) da_nil)))) hpv)))))))
theorem ok_programs_in (m : Mo K mg base B) : OkD P w K mg base ⟨He.ga K, B⟩ d_programs_in (k_programs_in + 1) ["lines", "net"] 2 1 F_programs_in := by
  obtain ⟨fd, F⟩ := m.says.def_ 35 (d := d_programs_in) rfl
  refine ⟨fd, F, DL.FunD.okG F sc_programs_in rfl (by decide) fun cdv A outer s H E pv hpv hr => ?_⟩
  have hu : (A.deeper (envOfC "programs_in" (defScope s_programs_in) s.heap.objs.size (He.fAd K d_programs_in.at_) cdv)).units + 1 < cLine := by have := hr.rm.un; show A.units + 3 + 1 < cLine; have h2 : A.units + 3 + 16 * k_programs_in + 200 < cLine := this; omega
  have hu2 : (A.deeper (envOfC "programs_in" (defScope s_programs_in) s.heap.objs.size (He.fAd K d_programs_in.at_) cdv)).units + 64 < cLine := by have := hr.rm.un; show A.units + 3 + 64 < cLine; have h2 : A.units + 3 + 16 * k_programs_in + 200 < cLine := this; omega
  have tk := takes_of (X := cxOf (L2.CX P w) P w K mg base N_programs_in "programs_in" (defScope s_programs_in) (He.fAd K d_programs_in.at_) cdv A outer s H E) (E := E) rfl rfl rfl rfl
  have po := passes_of (X := cxOf (L2.CX P w) P w K mg base N_programs_in "programs_in" (defScope s_programs_in) (He.fAd K d_programs_in.at_) cdv A outer s H E) rfl
  have nd : N_programs_in.Nodup := sc_programs_in.nd
  have hp : ∀ i, 1 ≤ i → pv.length ≤ i := fun i h => by rw [hpv]; exact h
  have hps : ∀ {is : List Nat}, (∀ i ∈ is, 1 ≤ i) → ∀ i ∈ is, pv.length ≤ i := fun h i hi => hp i (h i hi)
  exact (dss_cons (ds_setO 2 nd (dcR_all nd (di_any (de_ixA hu (de_var 1) (DE.toB de_int))) (W0 := fun _ _ _ _ => False) (own := [("house", 6)]) (blkOk_by (N := N_programs_in) (sc := defScope s_programs_in) (by decide +kernel)) (fun _ _ _ _ _ => (dg_n 6 nd)) (fun _ _ _ _ _ => (pts_yes (r0 := true))) (fun _ _ _ _ _ => (de_var 6)) (fun _ _ _ _ _ => (do_lst da_nil))) (hp 2 (by decide)))
  (dss_cons (ds_set 3 nd (de_ixA hu (de_ixA hu (de_var 1) (DE.toB de_int)) (DE.toB de_int)) (hp 3 (by decide)))
  (dss_cons (ds_while po (dt_tru (DE.toB (de_fz (do_meth (j := k_programs_in) (C := "Lines") (i := 0) (ok_Lines_begins m) cb_Lines_begins noDv_rep hr (He.cls_ok (m.f 34)) (He.meth_ok (m.f 38)) tk (dar_nil (da_cons de_str da_nil)))))) (dss_cons (ds_set 4 nd (de_fz (do_meth0 (j := k_programs_in) (C := "Lines") (i := 0) (ok_Lines_ahead m) cb_Lines_ahead noDv_rep hr (He.cls_ok (m.f 34)) (He.meth_ok (m.f 39)) tk)) (hp 4 (by decide)))
  (dss_cons (ds_star (n := 3) (i := 2) (de_op2 op_add4 loc_add (de_fz (do_m1 PySem.F.slot_str_split PySem.F.type_str_split mt_split loc_split (de_var 4) (DE.toB de_str))) (DE.toB (de_lst (da_cons de_str da_nil)))) (dgs_cons (dg_n 5 nd) (dgs_cons (dg_n 6 nd) (dgs_star (dg_n 7 nd) dgs_nil))) (hps (by decide)))
  (dss_cons (ds_expr (de_fz (do_meth (j := k_programs_in) (C := "Lines") (i := 0) (ok_Lines_need m) cb_Lines_need noDv_rep hr (He.cls_ok (m.f 34)) (He.meth_ok (m.f 37)) tk (dar_nil (da_cons (de_and (de_cmp (op_inA hu) (loc_inA loc_in) (de_var 6) (db_var 2)) (de_and (de_cmp op_ge2 loc_ge (de_var 6) (DE.toB (de_var 3))) (de_one (de_cmp op_lt2 loc_lt (de_b1 call_len loc_len (He.free_ok m.kin m.ns (m.f 9)) (by decide +kernel) (db_rd (dp_ix hu (dp_slot 2) (de_var 6)))) (DE.toB (de_gint (He.int_ok m.kin m.ns (m.f 50)))))))) da_nil)))))
  (dss_cons (ds_set 8 nd (de_fz (do_call (j := k_programs_in) (ok_rule_in m) cb_rule_in noDv_rep hr (He.glo_ok m.kin m.ns (m.f 51)) tk (dar_nil (da_cons (de_sl (de_var 4) (dp_some (de_b1 call_len loc_len (He.free_ok m.kin m.ns (m.f 9)) (by decide +kernel) (DE.toB (de_op2 op_add4 loc_add (de_op2 op_add4 loc_add de_str (DE.toB (de_var 6))) (DE.toB de_str))))) dp_none) da_nil)))) (hp 8 (by decide)))
  (dss_cons (ds_expr (de_fz (do_meth (j := k_programs_in) (C := "Lines") (i := 0) (ok_Lines_need m) cb_Lines_need noDv_rep hr (He.cls_ok (m.f 34)) (He.meth_ok (m.f 37)) tk (dar_nil (da_cons (de_and (de_fz (do_call (j := k_programs_in) (ok_is_rule m) cb_is_rule noDv_rep hr (He.glo_ok m.kin m.ns (m.f 53)) tk (dar_nil (da_cons (de_fz (do_call (j := k_programs_in) (ok_roads_out m) cb_roads_out noDv_rep hr (He.glo_ok m.kin m.ns (m.f 52)) tk (dar_nil (da_cons (de_var 1) (da_cons (de_var 6) da_nil))))) (da_cons (de_var 8) da_nil))))) (de_one (de_cmp (op_eqD hu2) loc_eq (de_fz (do_call (j := k_programs_in) (ok_rule_text m) cb_rule_text noDv_rep hr (He.glo_ok m.kin m.ns (m.f 7)) tk (dar_nil (da_cons (de_var 6) (da_cons (de_var 8) da_nil))))) (DE.toB (de_var 4))))) da_nil)))))
  (dss_cons (ds_expr (de_fz (do_mut PySem.F.plainAttrs_list PySem.F.slot_list_append PySem.F.type_list_append mt_append loc_append (dp_ix hu (dp_slot 2) (de_var 6)) (dao_d (da_cons (de_var 8) da_nil)))))
  (dss_cons (ds_set 3 nd (de_var 6) (hp 3 (by decide)))
  (dss_one (ds_expr (de_fz (do_meth0 (j := k_programs_in) (C := "Lines") (i := 0) (ok_Lines_through m) cb_Lines_through noDv_rep hr (He.cls_ok (m.f 34)) (He.meth_ok (m.f 41)) tk))))))))))))
  (dss_one (ds_ret (de_t1 call_tuple_of loc_tuple (He.free_ok m.kin m.ns (m.f 1)) (by decide +kernel) (DE.toB (lcR_all newL_d nd (di_any (de_ixA hu (de_var 1) (DE.toB de_int))) (W0 := fun _ _ _ _ => False) (own := [("house", 6)]) (blkOk_by (N := N_programs_in) (sc := defScope s_programs_in) (by decide +kernel)) (fun _ _ _ _ _ => (dg_n 6 nd)) (fun _ _ _ _ _ => (pts_yes (r0 := true))) (fun _ _ _ _ _ => (de_t1 call_tuple_of loc_tuple (He.free_ok m.kin m.ns (m.f 1)) (by decide +kernel) (db_rd (dp_ix hu (dp_slot 2) (de_var 6)))))))) hpv)))))
theorem ok_system_in (m : Mo K mg base B) : OkD P w K mg base ⟨He.ga K, B⟩ d_system_in (k_system_in + 1) ["lines"] 1 1 F_system_in := by
  obtain ⟨fd, F⟩ := m.says.def_ 36 (d := d_system_in) rfl
  refine ⟨fd, F, DL.FunD.okG F sc_system_in rfl (by decide) fun cdv A outer s H E pv hpv hr => ?_⟩
  have hu : (A.deeper (envOfC "system_in" (defScope s_system_in) s.heap.objs.size (He.fAd K d_system_in.at_) cdv)).units + 1 < cLine := by have := hr.rm.un; show A.units + 3 + 1 < cLine; have h2 : A.units + 3 + 16 * k_system_in + 200 < cLine := this; omega
  have hu2 : (A.deeper (envOfC "system_in" (defScope s_system_in) s.heap.objs.size (He.fAd K d_system_in.at_) cdv)).units + 64 < cLine := by have := hr.rm.un; show A.units + 3 + 64 < cLine; have h2 : A.units + 3 + 16 * k_system_in + 200 < cLine := this; omega
  have tk := takes_of (X := cxOf (L2.CX P w) P w K mg base N_system_in "system_in" (defScope s_system_in) (He.fAd K d_system_in.at_) cdv A outer s H E) (E := E) rfl rfl rfl rfl
  have po := passes_of (X := cxOf (L2.CX P w) P w K mg base N_system_in "system_in" (defScope s_system_in) (He.fAd K d_system_in.at_) cdv A outer s H E) rfl
  have nd : N_system_in.Nodup := sc_system_in.nd
  have hp : ∀ i, 1 ≤ i → pv.length ≤ i := fun i h => by rw [hpv]; exact h
  have hps : ∀ {is : List Nat}, (∀ i ∈ is, 1 ≤ i) → ∀ i ∈ is, pv.length ≤ i := fun h i hi => hp i (h i hi)
  exact (dss_cons (ds_set 1 nd (de_fz (do_call (j := k_system_in) (ok_houses_in m) cb_houses_in noDv_rep hr (He.glo_ok m.kin m.ns (m.f 54)) tk (dar_cons 0 (dar_nil da_nil)))) (hp 1 (by decide)))
  (dss_cons (ds_set 2 nd (de_tup (da_cons (de_var 1) (da_cons (de_fz (do_call (j := k_system_in) (ok_roads_in m) cb_roads_in noDv_rep hr (He.glo_ok m.kin m.ns (m.f 55)) tk (dar_cons 0 (dar_nil (da_cons (de_var 1) da_nil))))) da_nil))) (hp 2 (by decide)))
  (dss_one (ds_ret (de_tup (da_cons (de_var 2) (da_cons (de_fz (do_call (j := k_system_in) (ok_programs_in m) cb_programs_in noDv_rep hr (He.glo_ok m.kin m.ns (m.f 56)) tk (dar_cons 0 (dar_nil (da_cons (de_var 2) da_nil))))) da_nil))) hpv))))
theorem ok_read_system (m : Mo K mg base B) : OkD P w K mg base ⟨He.ga K, B⟩ d_read_system (k_read_system + 1) ["text"] 1 0 F_read_system := by
  obtain ⟨fd, F⟩ := m.says.def_ 37 (d := d_read_system) rfl
  refine ⟨fd, F, DL.FunD.okG F sc_read_system rfl (by decide) fun cdv A outer s H E pv hpv hr => ?_⟩
  have hu : (A.deeper (envOfC "read_system" (defScope s_read_system) s.heap.objs.size (He.fAd K d_read_system.at_) cdv)).units + 1 < cLine := by have := hr.rm.un; show A.units + 3 + 1 < cLine; have h2 : A.units + 3 + 16 * k_read_system + 200 < cLine := this; omega
  have hu2 : (A.deeper (envOfC "read_system" (defScope s_read_system) s.heap.objs.size (He.fAd K d_read_system.at_) cdv)).units + 64 < cLine := by have := hr.rm.un; show A.units + 3 + 64 < cLine; have h2 : A.units + 3 + 16 * k_read_system + 200 < cLine := this; omega
  have tk := takes_of (X := cxOf (L2.CX P w) P w K mg base N_read_system "read_system" (defScope s_read_system) (He.fAd K d_read_system.at_) cdv A outer s H E) (E := E) rfl rfl rfl rfl
  have po := passes_of (X := cxOf (L2.CX P w) P w K mg base N_read_system "read_system" (defScope s_read_system) (He.fAd K d_read_system.at_) cdv A outer s H E) rfl
  have nd : N_read_system.Nodup := sc_read_system.nd
  have hp : ∀ i, 0 ≤ i → pv.length ≤ i := fun i h => by rw [hpv]; exact h
  have hps : ∀ {is : List Nat}, (∀ i ∈ is, 0 ≤ i) → ∀ i ∈ is, pv.length ≤ i := fun h i hi => hp i (h i hi)
  exact (dss_cons (ds_setO 1 nd (do_make (j := k_Lines_init + 1) (C := "Lines") (ok_Lines_init m) cb_Lines_init noDv_rep (hr.mono (by decide)) (He.mkr_ok (m.f 58)) (He.glo_ok m.kin m.ns (m.f 59)) tk (da_cons (de_fz (do_call (j := k_read_system) (ok_lines_of m) cb_lines_of noDv_rep hr (He.glo_ok m.kin m.ns (m.f 57)) tk (dar_nil (da_cons (de_var 0) da_nil)))) da_nil)) (hp 1 (by decide)))
  (dss_cons (ds_set 2 nd (de_fz (do_call (j := k_read_system) (ok_system_in m) cb_system_in noDv_rep hr (He.glo_ok m.kin m.ns (m.f 60)) tk (dar_cons 1 (dar_nil da_nil)))) (hp 2 (by decide)))
  (dss_cons (ds_expr (de_fz (do_meth0 (j := k_read_system) (C := "Lines") (i := 1) (ok_Lines_finish m) cb_Lines_finish noDv_rep hr (He.cls_ok (m.f 34)) (He.meth_ok (m.f 61)) tk)))
  (dss_one (ds_ret (de_var 2) hpv)))))
theorem ok_law_feed (m : Mo K mg base B) : OkD P w K mg base ⟨He.ga K, B⟩ d_law_feed (k_law_feed + 1) ["_law_script", "_law_k"] 2 0 F_law_feed := by
  obtain ⟨fd, F⟩ := m.says.def_ 38 (d := d_law_feed) rfl
  refine ⟨fd, F, DL.FunD.okG F sc_law_feed rfl (by decide) fun cdv A outer s H E pv hpv hr => ?_⟩
  have hu : (A.deeper (envOfC "_law_feed" (defScope s_law_feed) s.heap.objs.size (He.fAd K d_law_feed.at_) cdv)).units + 1 < cLine := by have := hr.rm.un; show A.units + 3 + 1 < cLine; have h2 : A.units + 3 + 16 * k_law_feed + 200 < cLine := this; omega
  have hu2 : (A.deeper (envOfC "_law_feed" (defScope s_law_feed) s.heap.objs.size (He.fAd K d_law_feed.at_) cdv)).units + 64 < cLine := by have := hr.rm.un; show A.units + 3 + 64 < cLine; have h2 : A.units + 3 + 16 * k_law_feed + 200 < cLine := this; omega
  have tk := takes_of (X := cxOf (L2.CX P w) P w K mg base N_law_feed "_law_feed" (defScope s_law_feed) (He.fAd K d_law_feed.at_) cdv A outer s H E) (E := E) rfl rfl rfl rfl
  have po := passes_of (X := cxOf (L2.CX P w) P w K mg base N_law_feed "_law_feed" (defScope s_law_feed) (He.fAd K d_law_feed.at_) cdv A outer s H E) rfl
  have nd : N_law_feed.Nodup := sc_law_feed.nd
  have hp : ∀ i, 0 ≤ i → pv.length ≤ i := fun i h => by rw [hpv]; exact h
  have hps : ∀ {is : List Nat}, (∀ i ∈ is, 0 ≤ i) → ∀ i ∈ is, pv.length ≤ i := fun h i hi => hp i (h i hi)
  exact (dss_cons (ds_set 2 nd de_int (hp 2 (by decide)))
  (dss_cons (ds_if (dt_cmp op_lt2 loc_lt (de_var 1) (DE.toB (de_b1 call_len loc_len (He.free_ok m.kin m.ns (m.f 9)) (by decide +kernel) (DE.toB (de_var 0))))) (dss_one (ds_set 2 nd (de_ixA hu (de_var 0) (DE.toB (de_var 1))) (hp 2 (by decide)))) dss_nil)
  (dss_cons (ds_set 3 nd (de_b1 call_abs loc_abs (He.free_ok m.kin m.ns (m.f 62)) (by decide +kernel) (DE.toB (de_var 2))) (hp 3 (by decide)))
  (dss_cons (ds_if (dt_cmp op_lt2 loc_lt (de_var 3) (DE.toB (de_op2 op_pow loc_pow de_int (DE.toB de_int)))) (dss_one (ds_set 3 nd de_int (hp 3 (by decide)))) dss_nil)
  (dss_one (ds_retO (do_lst (da_cons (de_var 3) (da_cons (de_op2 op_mod loc_mod (de_op2 op_add4 loc_add (de_op2 op_add4 loc_add (de_op2 op_mul2 loc_mul (de_op2 op_mod loc_mod (de_var 2) (DE.toB de_int)) (DE.toB de_int)) (DE.toB (de_op2 op_mul2 loc_mul de_int (DE.toB (de_var 1))))) (DE.toB de_int)) (DE.toB de_int)) (da_cons de_int da_nil)))) hpv))))))
theorem ok_law_take (m : Mo K mg base B) : OkD P w K mg base ⟨He.ga K, B⟩ d_law_take (k_law_take + 1) ["_law_feed_here", "_law_many"] 2 1 F_law_take := by
  obtain ⟨fd, F⟩ := m.says.def_ 39 (d := d_law_take) rfl
  refine ⟨fd, F, DL.FunD.okG F sc_law_take rfl (by decide) fun cdv A outer s H E pv hpv hr => ?_⟩
  have hu : (A.deeper (envOfC "_law_take" (defScope s_law_take) s.heap.objs.size (He.fAd K d_law_take.at_) cdv)).units + 1 < cLine := by have := hr.rm.un; show A.units + 3 + 1 < cLine; have h2 : A.units + 3 + 16 * k_law_take + 200 < cLine := this; omega
  have hu2 : (A.deeper (envOfC "_law_take" (defScope s_law_take) s.heap.objs.size (He.fAd K d_law_take.at_) cdv)).units + 64 < cLine := by have := hr.rm.un; show A.units + 3 + 64 < cLine; have h2 : A.units + 3 + 16 * k_law_take + 200 < cLine := this; omega
  have tk := takes_of (X := cxOf (L2.CX P w) P w K mg base N_law_take "_law_take" (defScope s_law_take) (He.fAd K d_law_take.at_) cdv A outer s H E) (E := E) rfl rfl rfl rfl
  have po := passes_of (X := cxOf (L2.CX P w) P w K mg base N_law_take "_law_take" (defScope s_law_take) (He.fAd K d_law_take.at_) cdv A outer s H E) rfl
  have nd : N_law_take.Nodup := sc_law_take.nd
  have hp : ∀ i, 1 ≤ i → pv.length ≤ i := fun i h => by rw [hpv]; exact h
  have hps : ∀ {is : List Nat}, (∀ i ∈ is, 1 ≤ i) → ∀ i ∈ is, pv.length ≤ i := fun h i hi => hp i (h i hi)
  exact (dss_cons (ds_if (dt_cmp op_gt2 loc_gt (de_ixA' hu (db_var 0) (DE.toB de_int)) (DE.toB de_int)) (dss_cons (ds_set 2 nd (de_op2 op_mod loc_mod (de_ixA' hu (db_var 0) (DE.toB de_int)) (DE.toB (de_var 1))) (hp 2 (by decide)))
  (dss_cons (ds_sto hu (do_d (de_op2 op_fdivW loc_div (de_ixA' hu (db_var 0) (DE.toB de_int)) (DE.toB (de_var 1)))) (dp_slot 0) de_int)
  (dss_one (ds_ret (de_var 2) hpv)))) dss_nil)
  (dss_cons (ds_set 3 nd (de_op2 op_add4 loc_add (de_ixA' hu (db_var 0) (DE.toB de_int)) (DE.toB de_int)) (hp 3 (by decide)))
  (dss_cons (ds_sto hu (do_d (de_var 3)) (dp_slot 0) de_int)
  (dss_cons (ds_set 4 nd (de_op2 op_mod loc_mod (de_op2 op_add4 loc_add (de_op2 op_add4 loc_add (de_ixA' hu (db_var 0) (DE.toB de_int)) (DE.toB (de_op2 op_mul2 loc_mul (de_op2 op_mul2 loc_mul de_int (DE.toB (de_var 3))) (DE.toB (de_var 3))))) (DE.toB (de_op2 op_mul2 loc_mul de_int (DE.toB (de_var 3))))) (DE.toB de_int)) (hp 4 (by decide)))
  (dss_cons (ds_set 4 nd (de_op2 op_mod loc_mod (de_op2 op_add4 loc_add (de_op2 op_add4 loc_add (de_op2 op_mul2 loc_mul (de_var 4) (DE.toB (de_var 4))) (DE.toB (de_op2 op_mul2 loc_mul de_int (DE.toB (de_var 4))))) (DE.toB (de_var 3))) (DE.toB de_int)) (hp 4 (by decide)))
  (dss_cons (ds_set 4 nd (de_op2 op_mod loc_mod (de_op2 op_add4 loc_add (de_op2 op_mul2 loc_mul (de_var 4) (DE.toB (de_var 4))) (DE.toB (de_op2 op_mul2 loc_mul de_int (DE.toB (de_var 4))))) (DE.toB de_int)) (hp 4 (by decide)))
  (dss_one (ds_ret (de_op2 op_mod loc_mod (de_op2 op_fdivW loc_div (de_var 4) (DE.toB de_int)) (DE.toB (de_var 1))) hpv))))))))
theorem ok_law_names (m : Mo K mg base B) : OkD P w K mg base ⟨He.ga K, B⟩ d_law_names (k_law_names + 1) ["_law_feed_here", "_law_many"] 2 1 F_law_names := by
  obtain ⟨fd, F⟩ := m.says.def_ 40 (d := d_law_names) rfl
  refine ⟨fd, F, DL.FunD.okG F sc_law_names rfl (by decide) fun cdv A outer s H E pv hpv hr => ?_⟩
  have hu : (A.deeper (envOfC "_law_names" (defScope s_law_names) s.heap.objs.size (He.fAd K d_law_names.at_) cdv)).units + 1 < cLine := by have := hr.rm.un; show A.units + 3 + 1 < cLine; have h2 : A.units + 3 + 16 * k_law_names + 200 < cLine := this; omega
  have hu2 : (A.deeper (envOfC "_law_names" (defScope s_law_names) s.heap.objs.size (He.fAd K d_law_names.at_) cdv)).units + 64 < cLine := by have := hr.rm.un; show A.units + 3 + 64 < cLine; have h2 : A.units + 3 + 16 * k_law_names + 200 < cLine := this; omega
  have tk := takes_of (X := cxOf (L2.CX P w) P w K mg base N_law_names "_law_names" (defScope s_law_names) (He.fAd K d_law_names.at_) cdv A outer s H E) (E := E) rfl rfl rfl rfl
  have po := passes_of (X := cxOf (L2.CX P w) P w K mg base N_law_names "_law_names" (defScope s_law_names) (He.fAd K d_law_names.at_) cdv A outer s H E) rfl
  have nd : N_law_names.Nodup := sc_law_names.nd
  have hp : ∀ i, 1 ≤ i → pv.length ≤ i := fun i h => by rw [hpv]; exact h
  have hps : ∀ {is : List Nat}, (∀ i ∈ is, 1 ≤ i) → ∀ i ∈ is, pv.length ≤ i := fun h i hi => hp i (h i hi)
  exact (dss_cons (ds_set 2 nd de_str (hp 2 (by decide)))
  (dss_cons (ds_set 3 nd (de_fz (do_call (j := k_law_names) (ok_law_take m) cb_law_take noDv_rep hr (He.glo_ok m.kin m.ns (m.f 63)) tk (dar_cons 0 (dar_nil (da_cons de_int da_nil))))) (hp 3 (by decide)))
  (dss_cons (ds_set 4 nd (de_fz (do_call (j := k_law_names) (ok_law_take m) cb_law_take noDv_rep hr (He.glo_ok m.kin m.ns (m.f 63)) tk (dar_cons 0 (dar_nil (da_cons de_int da_nil))))) (hp 4 (by decide)))
  (dss_cons (ds_set 5 nd (de_ixA hu (de_lst (da_cons de_int (da_cons de_int (da_cons de_int (da_cons de_int (da_cons de_int (da_cons de_int (da_cons de_int (da_cons de_int da_nil))))))))) (DE.toB (de_fz (do_call (j := k_law_names) (ok_law_take m) cb_law_take noDv_rep hr (He.glo_ok m.kin m.ns (m.f 63)) tk (dar_cons 0 (dar_nil (da_cons de_int da_nil))))))) (hp 5 (by decide)))
  (dss_cons (ds_set 6 nd (de_lst (da_cons de_str (da_cons de_str (da_cons de_str (da_cons de_str (da_cons de_str (da_cons de_str (da_cons de_str (da_cons de_str (da_cons de_str (da_cons de_str (da_cons de_str (da_cons de_str da_nil))))))))))))) (hp 6 (by decide)))
  (dss_cons (ds_if (dt_cmp (op_eqD hu2) loc_eq (de_var 3) (DE.toB de_int)) (dss_one (ds_retO (lcR_all newL_o nd (di_rng1 (He.free_ok m.kin m.ns (m.f 44)) (de_var 1)) (W0 := fun _ _ _ _ => False) (own := [("_law_k", 11)]) (blkOk_by (N := N_law_names) (sc := defScope s_law_names) (by decide +kernel)) (fun _ _ _ _ _ => (dg_n 11 nd)) (fun _ _ _ _ _ => (pts_yes (r0 := true))) (fun _ _ _ _ _ => (de_ixA hu (de_var 6) (DE.toB (de_op2 op_mod loc_mod (de_op2 op_add4 loc_add (de_var 4) (DE.toB (de_op2 op_mul2 loc_mul de_int (DE.toB (de_var 11))))) (DE.toB de_int)))))) hpv)) dss_nil)
  (dss_cons (ds_lcR 7 nd (di_rng1 (He.free_ok m.kin m.ns (m.f 44)) (de_var 1)) (W0 := fun _ _ _ _ => False) (own := [("_law_k", 11)]) (blkOk_by (N := N_law_names) (sc := defScope s_law_names) (by decide +kernel)) (fun _ _ _ _ _ => (dg_n 11 nd)) (fun _ _ _ _ _ => (pts_yes (r0 := true))) (fun _ _ _ _ _ => (de_ixA hu (de_var 2) (DE.toB (de_op2 op_mod loc_mod (de_op2 op_add4 loc_add (de_var 4) (DE.toB (de_op2 op_mul2 loc_mul (de_var 5) (DE.toB (de_var 11))))) (DE.toB de_int))))) (hp 7 (by decide)))
  (dss_cons (ds_set 8 nd (de_m1 PySem.F.slot_str_join PySem.F.type_str_join mt_join loc_join de_str (DE.toB (lcX_all newL_d nd (di_rng1 (He.free_ok m.kin m.ns (m.f 44)) (de_fz (do_call (j := k_law_names) (ok_law_take m) cb_law_take noDv_rep hr (He.glo_ok m.kin m.ns (m.f 63)) tk (dar_cons 0 (dar_nil (da_cons de_int da_nil)))))) (W0 := fun _ _ _ _ => False) (own := [("_law_k", 11)]) (blkOk_by (N := N_law_names) (sc := defScope s_law_names) (by decide +kernel)) (fun _ _ _ _ _ => (dg_n 11 nd)) (fun _ _ _ _ _ => (pts_yes (r0 := true))) (fun _ _ _ _ _ => (de_ixA hu (de_var 2) (DE.toB (de_fz (do_call (j := k_law_names) (ok_law_take m) cb_law_take noDv_rep hr (He.glo_ok m.kin m.ns (m.f 63)) takes_none5 (dar_cons 0 (dar_nil (da_cons de_int da_nil))))))))))) (hp 8 (by decide)))
  (dss_cons (ds_set 9 nd (de_fz (do_call (j := k_law_names) (ok_law_take m) cb_law_take noDv_rep hr (He.glo_ok m.kin m.ns (m.f 63)) tk (dar_cons 0 (dar_nil (da_cons (de_op2 op_add4 loc_add (de_b1 call_len loc_len (He.free_ok m.kin m.ns (m.f 9)) (by decide +kernel) (DE.toB (de_var 8))) (DE.toB de_int)) da_nil))))) (hp 9 (by decide)))
  (dss_cons (ds_if (dt_cmp (op_eqD hu2) loc_eq (de_var 3) (DE.toB de_int)) (dss_one (ds_ret (de_var 7) hpv)) dss_nil)
  (dss_cons (ds_lcR 10 nd (di_any (de_var 7)) (W0 := fun _ _ _ _ => False) (own := [("_law_sign", 12)]) (blkOk_by (N := N_law_names) (sc := defScope s_law_names) (by decide +kernel)) (fun _ _ _ _ _ => (dg_n 12 nd)) (fun _ _ _ _ _ => (pts_yes (r0 := true))) (fun _ _ _ _ _ => (de_op2 op_add4 loc_add (de_op2 op_add4 loc_add (de_sl (de_var 8) dp_none (dp_some (de_var 9))) (DE.toB (de_var 12))) (DE.toB (de_sl (de_var 8) (dp_some (de_var 9)) dp_none)))) (hp 10 (by decide)))
  (dss_cons (ds_if (dt_cmp (op_eqD hu2) loc_eq (de_var 3) (DE.toB de_int)) (dss_one (ds_ret (de_var 10) hpv)) dss_nil)
  (dss_one (ds_retO (lcR_all newL_o nd (di_enum (He.free_ok m.kin m.ns (m.f 64)) (de_var 10)) (W0 := fun _ _ _ _ => False) (own := [("_law_k", 11), ("_law_name", 13)]) (blkOk_by (N := N_law_names) (sc := defScope s_law_names) (by decide +kernel)) (fun _ _ _ _ _ => (dg_seq (dgs_cons (dg_n 11 nd) (dgs_cons (dg_n 13 nd) dgs_nil)))) (fun _ _ _ _ _ => (pts_yes (r0 := true))) (fun _ _ _ _ _ => (de_sl (de_var 13) dp_none (dp_some (de_op2 op_add4 loc_add (de_op2 op_add4 loc_add (de_var 9) (DE.toB de_int)) (DE.toB (de_op2 op_mod loc_mod (de_var 11) (DE.toB (de_op2 op_sub loc_sub (de_b1 call_len loc_len (He.free_ok m.kin m.ns (m.f 9)) (by decide +kernel) (DE.toB (de_var 13))) (DE.toB (de_var 9))))))))))) hpv))))))))))))))
theorem ok_law_net (m : Mo K mg base B) : OkD P w K mg base ⟨He.ga K, B⟩ d_law_net (k_law_net + 1) ["_law_feed_here", "_law_houses", "_law_roads", "_law_ways"] 4 1 F_law_net := by
  obtain ⟨fd, F⟩ := m.says.def_ 41 (d := d_law_net) rfl
  refine ⟨fd, F, DL.FunD.okG F sc_law_net rfl (by decide) fun cdv A outer s H E pv hpv hr => ?_⟩
  have hu : (A.deeper (envOfC "_law_net" (defScope s_law_net) s.heap.objs.size (He.fAd K d_law_net.at_) cdv)).units + 1 < cLine := by have := hr.rm.un; show A.units + 3 + 1 < cLine; have h2 : A.units + 3 + 16 * k_law_net + 200 < cLine := this; omega
  have hu2 : (A.deeper (envOfC "_law_net" (defScope s_law_net) s.heap.objs.size (He.fAd K d_law_net.at_) cdv)).units + 64 < cLine := by have := hr.rm.un; show A.units + 3 + 64 < cLine; have h2 : A.units + 3 + 16 * k_law_net + 200 < cLine := this; omega
  have tk := takes_of (X := cxOf (L2.CX P w) P w K mg base N_law_net "_law_net" (defScope s_law_net) (He.fAd K d_law_net.at_) cdv A outer s H E) (E := E) rfl rfl rfl rfl
  have po := passes_of (X := cxOf (L2.CX P w) P w K mg base N_law_net "_law_net" (defScope s_law_net) (He.fAd K d_law_net.at_) cdv A outer s H E) rfl
  have nd : N_law_net.Nodup := sc_law_net.nd
  have hp : ∀ i, 1 ≤ i → pv.length ≤ i := fun i h => by rw [hpv]; exact h
  have hps : ∀ {is : List Nat}, (∀ i ∈ is, 1 ≤ i) → ∀ i ∈ is, pv.length ≤ i := fun h i hi => hp i (h i hi)
  exact (dss_cons (ds_set 4 nd (de_fz (do_b1 cr_sortA loc_sort (He.free_ok m.kin m.ns (m.f 66)) (by decide +kernel) (DE.toB (de_fz (do_call (j := k_law_net) (ok_law_names m) cb_law_names noDv_rep hr (He.glo_ok m.kin m.ns (m.f 65)) tk (dar_cons 0 (dar_nil (da_cons (de_op2 op_add4 loc_add de_int (DE.toB (de_fz (do_call (j := k_law_net) (ok_law_take m) cb_law_take noDv_rep hr (He.glo_ok m.kin m.ns (m.f 63)) tk (dar_cons 0 (dar_nil (da_cons (de_var 1) da_nil))))))) da_nil)))))))) (hp 4 (by decide)))
  (dss_cons (ds_set 5 nd (de_op2 op_mul2 loc_mul (de_fz (do_call (j := k_law_net) (ok_law_take m) cb_law_take noDv_rep hr (He.glo_ok m.kin m.ns (m.f 63)) tk (dar_cons 0 (dar_nil (da_cons (de_op2 op_add4 loc_add (de_var 2) (DE.toB de_int)) da_nil))))) (DE.toB (de_t1 call_int3 loc_int (He.free_ok m.kin m.ns (m.f 13)) (by decide +kernel) (DE.toB (de_cmp op_gt2 loc_gt (de_b1 call_len loc_len (He.free_ok m.kin m.ns (m.f 9)) (by decide +kernel) (DE.toB (de_var 4))) (DE.toB de_int)))))) (hp 5 (by decide)))
  (dss_cons (ds_setO 6 nd (do_lst da_nil) (hp 6 (by decide)))
  (dss_cons (ds_for po (di_any (de_fz (do_call (j := k_law_net) (ok_law_names m) cb_law_names noDv_rep hr (He.glo_ok m.kin m.ns (m.f 65)) tk (dar_cons 0 (dar_nil (da_cons (de_var 5) da_nil)))))) (dg_n 7 nd) (dss_cons (ds_set 8 nd (de_fz (do_call (j := k_law_net) (ok_law_take m) cb_law_take noDv_rep hr (He.glo_ok m.kin m.ns (m.f 63)) tk (dar_cons 0 (dar_nil (da_cons (de_b1 call_len loc_len (He.free_ok m.kin m.ns (m.f 9)) (by decide +kernel) (DE.toB (de_var 4))) da_nil))))) (hp 8 (by decide)))
  (dss_cons (ds_set 9 nd (de_op2 op_mod loc_mod (de_op2 op_add4 loc_add (de_op2 op_add4 loc_add (de_var 8) (DE.toB de_int)) (DE.toB (de_fz (do_call (j := k_law_net) (ok_law_take m) cb_law_take noDv_rep hr (He.glo_ok m.kin m.ns (m.f 63)) tk (dar_cons 0 (dar_nil (da_cons (de_op2 op_sub loc_sub (de_b1 call_len loc_len (He.free_ok m.kin m.ns (m.f 9)) (by decide +kernel) (DE.toB (de_var 4))) (DE.toB de_int)) da_nil))))))) (DE.toB (de_b1 call_len loc_len (He.free_ok m.kin m.ns (m.f 9)) (by decide +kernel) (DE.toB (de_var 4))))) (hp 9 (by decide)))
  (dss_one (ds_expr (de_fz (do_mutS 6 PySem.F.plainAttrs_list PySem.F.slot_list_append PySem.F.type_list_append mt_append loc_append (dao_d (da_cons (de_tup (da_cons (de_var 7) (da_cons (de_ixA hu (de_var 4) (DE.toB (de_var 8))) (da_cons (de_ixA hu (de_var 4) (DE.toB (de_var 9))) (da_cons (de_ixA hu (de_var 3) (DE.toB (de_fz (do_call (j := k_law_net) (ok_law_take m) cb_law_take noDv_rep hr (He.glo_ok m.kin m.ns (m.f 63)) tk (dar_cons 0 (dar_nil (da_cons (de_b1 call_len loc_len (He.free_ok m.kin m.ns (m.f 9)) (by decide +kernel) (DE.toB (de_var 3))) da_nil))))))) da_nil))))) da_nil)))))))) (hps (by decide)))
  (dss_one (ds_ret (de_tup (da_cons (de_t1 call_tuple_of loc_tuple (He.free_ok m.kin m.ns (m.f 1)) (by decide +kernel) (DE.toB (de_var 4))) (da_cons (de_t1 call_tuple_of loc_tuple (He.free_ok m.kin m.ns (m.f 1)) (by decide +kernel) (DE.toB (de_fz (do_b1 cr_sortA loc_sort (He.free_ok m.kin m.ns (m.f 66)) (by decide +kernel) (db_var 6))))) da_nil))) hpv))))))
theorem ok_law_number (m : Mo K mg base B) : OkD P w K mg base ⟨He.ga K, B⟩ d_law_number (k_law_number + 1) ["_law_feed_here"] 1 1 F_law_number := by
  obtain ⟨fd, F⟩ := m.says.def_ 42 (d := d_law_number) rfl
  refine ⟨fd, F, DL.FunD.okG F sc_law_number rfl (by decide) fun cdv A outer s H E pv hpv hr => ?_⟩
  have hu : (A.deeper (envOfC "_law_number" (defScope s_law_number) s.heap.objs.size (He.fAd K d_law_number.at_) cdv)).units + 1 < cLine := by have := hr.rm.un; show A.units + 3 + 1 < cLine; have h2 : A.units + 3 + 16 * k_law_number + 200 < cLine := this; omega
  have hu2 : (A.deeper (envOfC "_law_number" (defScope s_law_number) s.heap.objs.size (He.fAd K d_law_number.at_) cdv)).units + 64 < cLine := by have := hr.rm.un; show A.units + 3 + 64 < cLine; have h2 : A.units + 3 + 16 * k_law_number + 200 < cLine := this; omega
  have tk := takes_of (X := cxOf (L2.CX P w) P w K mg base N_law_number "_law_number" (defScope s_law_number) (He.fAd K d_law_number.at_) cdv A outer s H E) (E := E) rfl rfl rfl rfl
  have po := passes_of (X := cxOf (L2.CX P w) P w K mg base N_law_number "_law_number" (defScope s_law_number) (He.fAd K d_law_number.at_) cdv A outer s H E) rfl
  have nd : N_law_number.Nodup := sc_law_number.nd
  have hp : ∀ i, 1 ≤ i → pv.length ≤ i := fun i h => by rw [hpv]; exact h
  have hps : ∀ {is : List Nat}, (∀ i ∈ is, 1 ≤ i) → ∀ i ∈ is, pv.length ≤ i := fun h i hi => hp i (h i hi)
  exact (dss_cons (ds_set 1 nd (de_fz (do_call (j := k_law_number) (ok_law_take m) cb_law_take noDv_rep hr (He.glo_ok m.kin m.ns (m.f 63)) tk (dar_cons 0 (dar_nil (da_cons de_int da_nil))))) (hp 1 (by decide)))
  (dss_one (ds_ret (de_ixA hu (de_lst (da_cons de_int (da_cons de_int (da_cons (de_un un_neg loc_neg (DE.toB de_int)) (da_cons de_int (da_cons (de_op2 op_sub loc_sub (de_op2 op_mod loc_mod (de_var 1) (DE.toB de_int)) (DE.toB de_int)) (da_cons (de_var 1) (da_cons (de_op2 op_sub loc_sub (de_op2 op_sub loc_sub (de_op2 op_pow loc_pow de_int (DE.toB de_int)) (DE.toB de_int)) (DE.toB (de_var 1))) (da_cons (de_op2 op_sub loc_sub (de_var 1) (DE.toB (de_op2 op_pow loc_pow de_int (DE.toB de_int)))) da_nil))))))))) (DE.toB (de_fz (do_call (j := k_law_number) (ok_law_take m) cb_law_take noDv_rep hr (He.glo_ok m.kin m.ns (m.f 63)) tk (dar_cons 0 (dar_nil (da_cons de_int da_nil))))))) hpv)))
theorem ok_law_some_worth (m : Mo K mg base B) : OkD P w K mg base ⟨He.ga K, B⟩ d_law_some_worth (k_law_some_worth + 1) ["_law_feed_here", "_law_on_letter"] 2 1 F_law_some_worth := by
  obtain ⟨fd, F⟩ := m.says.def_ 43 (d := d_law_some_worth) rfl
  refine ⟨fd, F, DL.FunD.okG F sc_law_some_worth rfl (by decide) fun cdv A outer s H E pv hpv hr => ?_⟩
  have hu : (A.deeper (envOfC "_law_some_worth" (defScope s_law_some_worth) s.heap.objs.size (He.fAd K d_law_some_worth.at_) cdv)).units + 1 < cLine := by have := hr.rm.un; show A.units + 3 + 1 < cLine; have h2 : A.units + 3 + 16 * k_law_some_worth + 200 < cLine := this; omega
  have hu2 : (A.deeper (envOfC "_law_some_worth" (defScope s_law_some_worth) s.heap.objs.size (He.fAd K d_law_some_worth.at_) cdv)).units + 64 < cLine := by have := hr.rm.un; show A.units + 3 + 64 < cLine; have h2 : A.units + 3 + 16 * k_law_some_worth + 200 < cLine := this; omega
  have tk := takes_of (X := cxOf (L2.CX P w) P w K mg base N_law_some_worth "_law_some_worth" (defScope s_law_some_worth) (He.fAd K d_law_some_worth.at_) cdv A outer s H E) (E := E) rfl rfl rfl rfl
  have po := passes_of (X := cxOf (L2.CX P w) P w K mg base N_law_some_worth "_law_some_worth" (defScope s_law_some_worth) (He.fAd K d_law_some_worth.at_) cdv A outer s H E) rfl
  have nd : N_law_some_worth.Nodup := sc_law_some_worth.nd
  have hp : ∀ i, 1 ≤ i → pv.length ≤ i := fun i h => by rw [hpv]; exact h
  have hps : ∀ {is : List Nat}, (∀ i ∈ is, 1 ≤ i) → ∀ i ∈ is, pv.length ≤ i := fun h i hi => hp i (h i hi)
  exact (dss_cons (ds_if (dt_w (dw_and (dt_tru (DE.toB (de_var 1))) (dw_and1 (dt_cmp (op_eqD hu2) loc_eq (de_fz (do_call (j := k_law_some_worth) (ok_law_take m) cb_law_take noDv_rep hr (He.glo_ok m.kin m.ns (m.f 63)) tk (dar_cons 0 (dar_nil (da_cons de_int da_nil))))) (DE.toB de_int))))) (dss_one (ds_ret (de_tup (da_cons de_str da_nil)) hpv)) dss_nil)
  (dss_cons (ds_if (dt_cmp (op_eqD hu2) loc_eq (de_fz (do_call (j := k_law_some_worth) (ok_law_take m) cb_law_take noDv_rep hr (He.glo_ok m.kin m.ns (m.f 63)) tk (dar_cons 0 (dar_nil (da_cons de_int da_nil))))) (DE.toB de_int)) (dss_one (ds_ret (de_tup (da_cons de_str (da_cons (de_fz (do_call (j := k_law_some_worth) (ok_law_take m) cb_law_take noDv_rep hr (He.glo_ok m.kin m.ns (m.f 63)) tk (dar_cons 0 (dar_nil (da_cons de_int da_nil))))) da_nil))) hpv)) dss_nil)
  (dss_one (ds_retO (do_call (j := k_law_some_worth) (ok_law_number m) cb_law_number noDv_rep hr (He.glo_ok m.kin m.ns (m.f 67)) tk (dar_cons 0 (dar_nil da_nil))) hpv))))
theorem ok_law_test (m : Mo K mg base B) : OkD P w K mg base ⟨He.ga K, B⟩ d_law_test (k_law_test + 1) ["_law_feed_here", "_law_on_letter"] 2 1 F_law_test := by
  obtain ⟨fd, F⟩ := m.says.def_ 44 (d := d_law_test) rfl
  refine ⟨fd, F, DL.FunD.okG F sc_law_test rfl (by decide) fun cdv A outer s H E pv hpv hr => ?_⟩
  have hu : (A.deeper (envOfC "_law_test" (defScope s_law_test) s.heap.objs.size (He.fAd K d_law_test.at_) cdv)).units + 1 < cLine := by have := hr.rm.un; show A.units + 3 + 1 < cLine; have h2 : A.units + 3 + 16 * k_law_test + 200 < cLine := this; omega
  have hu2 : (A.deeper (envOfC "_law_test" (defScope s_law_test) s.heap.objs.size (He.fAd K d_law_test.at_) cdv)).units + 64 < cLine := by have := hr.rm.un; show A.units + 3 + 64 < cLine; have h2 : A.units + 3 + 16 * k_law_test + 200 < cLine := this; omega
  have tk := takes_of (X := cxOf (L2.CX P w) P w K mg base N_law_test "_law_test" (defScope s_law_test) (He.fAd K d_law_test.at_) cdv A outer s H E) (E := E) rfl rfl rfl rfl
  have po := passes_of (X := cxOf (L2.CX P w) P w K mg base N_law_test "_law_test" (defScope s_law_test) (He.fAd K d_law_test.at_) cdv A outer s H E) rfl
  have nd : N_law_test.Nodup := sc_law_test.nd
  have hp : ∀ i, 1 ≤ i → pv.length ≤ i := fun i h => by rw [hpv]; exact h
  have hps : ∀ {is : List Nat}, (∀ i ∈ is, 1 ≤ i) → ∀ i ∈ is, pv.length ≤ i := fun h i hi => hp i (h i hi)
  exact (dss_cons (ds_set 2 nd (de_ixA hu (de_lst (da_cons de_int (da_cons de_int (da_cons de_int (da_cons de_str da_nil))))) (DE.toB (de_fz (do_call (j := k_law_test) (ok_law_take m) cb_law_take noDv_rep hr (He.glo_ok m.kin m.ns (m.f 63)) tk (dar_cons 0 (dar_nil (da_cons (de_op2 op_add4 loc_add de_int (DE.toB (de_t1 call_int3 loc_int (He.free_ok m.kin m.ns (m.f 13)) (by decide +kernel) (DE.toB (de_var 1))))) da_nil))))))) (hp 2 (by decide)))
  (dss_one (ds_ret (de_tup (da_cons (de_var 2) (da_cons (de_ixA hu (de_lst (da_cons de_str (da_cons de_str (da_cons de_str da_nil)))) (DE.toB (de_fz (do_call (j := k_law_test) (ok_law_take m) cb_law_take noDv_rep hr (He.glo_ok m.kin m.ns (m.f 63)) tk (dar_cons 0 (dar_nil (da_cons de_int da_nil))))))) (da_cons (de_ixA hu (de_lst (da_cons de_int (da_cons de_int (da_cons de_int (da_cons (de_fz (do_call (j := k_law_test) (ok_law_number m) cb_law_number noDv_rep hr (He.glo_ok m.kin m.ns (m.f 67)) tk (dar_cons 0 (dar_nil da_nil)))) da_nil))))) (DE.toB (de_fz (do_call (j := k_law_test) (ok_law_take m) cb_law_take noDv_rep hr (He.glo_ok m.kin m.ns (m.f 63)) tk (dar_cons 0 (dar_nil (da_cons de_int da_nil))))))) da_nil)))) hpv)))
theorem ok_law_rule (m : Mo K mg base B) : OkD P w K mg base ⟨He.ga K, B⟩ d_law_rule (k_law_rule + 1) ["_law_feed_here", "_law_out", "_law_words"] 3 1 F_law_rule := by
  obtain ⟨fd, F⟩ := m.says.def_ 45 (d := d_law_rule) rfl
  refine ⟨fd, F, DL.FunD.okG F sc_law_rule rfl (by decide) fun cdv A outer s H E pv hpv hr => ?_⟩
  have hu : (A.deeper (envOfC "_law_rule" (defScope s_law_rule) s.heap.objs.size (He.fAd K d_law_rule.at_) cdv)).units + 1 < cLine := by have := hr.rm.un; show A.units + 3 + 1 < cLine; have h2 : A.units + 3 + 16 * k_law_rule + 200 < cLine := this; omega
  have hu2 : (A.deeper (envOfC "_law_rule" (defScope s_law_rule) s.heap.objs.size (He.fAd K d_law_rule.at_) cdv)).units + 64 < cLine := by have := hr.rm.un; show A.units + 3 + 64 < cLine; have h2 : A.units + 3 + 16 * k_law_rule + 200 < cLine := this; omega
  have tk := takes_of (X := cxOf (L2.CX P w) P w K mg base N_law_rule "_law_rule" (defScope s_law_rule) (He.fAd K d_law_rule.at_) cdv A outer s H E) (E := E) rfl rfl rfl rfl
  have po := passes_of (X := cxOf (L2.CX P w) P w K mg base N_law_rule "_law_rule" (defScope s_law_rule) (He.fAd K d_law_rule.at_) cdv A outer s H E) rfl
  have nd : N_law_rule.Nodup := sc_law_rule.nd
  have hp : ∀ i, 1 ≤ i → pv.length ≤ i := fun i h => by rw [hpv]; exact h
  have hps : ∀ {is : List Nat}, (∀ i ∈ is, 1 ≤ i) → ∀ i ∈ is, pv.length ≤ i := fun h i hi => hp i (h i hi)
  exact (dss_cons (ds_set 3 nd (de_cmp (op_eqD hu2) loc_eq (de_fz (do_call (j := k_law_rule) (ok_law_take m) cb_law_take noDv_rep hr (He.glo_ok m.kin m.ns (m.f 63)) tk (dar_cons 0 (dar_nil (da_cons de_int da_nil))))) (DE.toB de_int)) (hp 3 (by decide)))
  (dss_cons (ds_set 4 nd (de_ixA hu (de_lst (da_cons (de_tup (da_cons de_str da_nil)) (da_cons (de_tup (da_cons de_str (da_cons (de_ixA hu (de_var 2) (DE.toB (de_fz (do_call (j := k_law_rule) (ok_law_take m) cb_law_take noDv_rep hr (He.glo_ok m.kin m.ns (m.f 63)) tk (dar_cons 0 (dar_nil (da_cons (de_b1 call_len loc_len (He.free_ok m.kin m.ns (m.f 9)) (by decide +kernel) (DE.toB (de_var 2))) da_nil))))))) da_nil))) da_nil))) (DE.toB (de_t1 call_int3 loc_int (He.free_ok m.kin m.ns (m.f 13)) (by decide +kernel) (DE.toB (de_var 3))))) (hp 4 (by decide)))
  (dss_cons (ds_set 5 nd (de_t1 call_tuple_of loc_tuple (He.free_ok m.kin m.ns (m.f 1)) (by decide +kernel) (DE.toB (lcX_all newL_d nd (di_rng1 (He.free_ok m.kin m.ns (m.f 44)) (de_ixA hu (de_lst (da_cons de_int (da_cons de_int (da_cons de_int (da_cons de_int da_nil))))) (DE.toB (de_fz (do_call (j := k_law_rule) (ok_law_take m) cb_law_take noDv_rep hr (He.glo_ok m.kin m.ns (m.f 63)) tk (dar_cons 0 (dar_nil (da_cons de_int da_nil)))))))) (W0 := fun _ _ _ _ => False) (own := [("_law_k", 7)]) (blkOk_by (N := N_law_rule) (sc := defScope s_law_rule) (by decide +kernel)) (fun _ _ _ _ _ => (dg_n 7 nd)) (fun _ _ _ _ _ => (pts_yes (r0 := true))) (fun _ _ _ _ _ => (de_fz (do_call (j := k_law_rule) (ok_law_test m) cb_law_test noDv_rep hr (He.glo_ok m.kin m.ns (m.f 68)) takes_none5 (dar_cons 0 (dar_nil (da_cons (de_var 3) da_nil))))))))) (hp 5 (by decide)))
  (dss_cons (ds_setO 6 nd (do_lst da_nil) (hp 6 (by decide)))
  (dss_cons (ds_for po (di_rng1 (He.free_ok m.kin m.ns (m.f 44)) (de_ixA hu (de_lst (da_cons de_int (da_cons de_int (da_cons de_int (da_cons de_int (da_cons de_int (da_cons de_int da_nil))))))) (DE.toB (de_fz (do_call (j := k_law_rule) (ok_law_take m) cb_law_take noDv_rep hr (He.glo_ok m.kin m.ns (m.f 63)) tk (dar_cons 0 (dar_nil (da_cons de_int da_nil)))))))) (dg_n 7 nd) (dss_cons (ds_set 8 nd (de_fz (do_call (j := k_law_rule) (ok_law_take m) cb_law_take noDv_rep hr (He.glo_ok m.kin m.ns (m.f 63)) tk (dar_cons 0 (dar_nil (da_cons de_int da_nil))))) (hp 8 (by decide)))
  (dss_cons (ds_set 9 nd (de_fz (do_call (j := k_law_rule) (ok_law_take m) cb_law_take noDv_rep hr (He.glo_ok m.kin m.ns (m.f 63)) tk (dar_cons 0 (dar_nil (da_cons de_int da_nil))))) (hp 9 (by decide)))
  (dss_cons (ds_set 10 nd (de_fz (do_call (j := k_law_rule) (ok_law_some_worth m) cb_law_some_worth noDv_rep hr (He.glo_ok m.kin m.ns (m.f 69)) tk (dar_cons 0 (dar_nil (da_cons (de_var 3) da_nil))))) (hp 10 (by decide)))
  (dss_one (ds_if (dt_w (dw_and (dt_cmp op_lt2 loc_lt (de_var 8) (DE.toB de_int)) (dw_and1 (dt_cmp (op_neD hu2) loc_ne (de_var 1) (DE.toB (de_lst da_nil)))))) (dss_one (ds_expr (de_fz (do_mutS 6 PySem.F.plainAttrs_list PySem.F.slot_list_append PySem.F.type_list_append mt_append loc_append (dao_d (da_cons (de_tup (da_cons de_str (da_cons (de_ixA hu (de_var 1) (DE.toB (de_fz (do_call (j := k_law_rule) (ok_law_take m) cb_law_take noDv_rep hr (He.glo_ok m.kin m.ns (m.f 63)) tk (dar_cons 0 (dar_nil (da_cons (de_b1 call_len loc_len (He.free_ok m.kin m.ns (m.f 9)) (by decide +kernel) (DE.toB (de_var 1))) da_nil))))))) (da_cons (de_ixA hu (de_var 2) (DE.toB (de_fz (do_call (j := k_law_rule) (ok_law_take m) cb_law_take noDv_rep hr (He.glo_ok m.kin m.ns (m.f 63)) tk (dar_cons 0 (dar_nil (da_cons (de_b1 call_len loc_len (He.free_ok m.kin m.ns (m.f 9)) (by decide +kernel) (DE.toB (de_var 2))) da_nil))))))) (da_cons (de_var 10) da_nil))))) da_nil)))))) (dss_one (ds_if (dt_cmp (op_eqD hu2) loc_eq (de_var 8) (DE.toB de_int)) (dss_one (ds_expr (de_fz (do_mutS 6 PySem.F.plainAttrs_list PySem.F.slot_list_append PySem.F.type_list_append mt_append loc_append (dao_d (da_cons (de_tup (da_cons de_str da_nil)) da_nil)))))) (dss_one (ds_expr (de_fz (do_mutS 6 PySem.F.plainAttrs_list PySem.F.slot_list_append PySem.F.type_list_append mt_append loc_append (dao_d (da_cons (de_tup (da_cons (de_ixA hu (de_lst (da_cons de_str (da_cons de_str (da_cons de_str da_nil)))) (DE.toB (de_op2 op_mod loc_mod (de_var 8) (DE.toB de_int)))) (da_cons (de_var 9) (da_cons (de_var 10) da_nil)))) da_nil))))))))))))) (hps (by decide)))
  (dss_one (ds_ret (de_tup (da_cons (de_var 4) (da_cons (de_var 5) (da_cons (de_t1 call_tuple_of loc_tuple (He.free_ok m.kin m.ns (m.f 1)) (by decide +kernel) (db_var 6)) da_nil)))) hpv)))))))
theorem ok_law_system (m : Mo K mg base B) : OkD P w K mg base ⟨He.ga K, B⟩ d_law_system (k_law_system + 1) ["_law_feed_here", "_law_net_here"] 2 1 F_law_system := by
  obtain ⟨fd, F⟩ := m.says.def_ 46 (d := d_law_system) rfl
  refine ⟨fd, F, DL.FunD.okG F sc_law_system rfl (by decide) fun cdv A outer s H E pv hpv hr => ?_⟩
  have hu : (A.deeper (envOfC "_law_system" (defScope s_law_system) s.heap.objs.size (He.fAd K d_law_system.at_) cdv)).units + 1 < cLine := by have := hr.rm.un; show A.units + 3 + 1 < cLine; have h2 : A.units + 3 + 16 * k_law_system + 200 < cLine := this; omega
  have hu2 : (A.deeper (envOfC "_law_system" (defScope s_law_system) s.heap.objs.size (He.fAd K d_law_system.at_) cdv)).units + 64 < cLine := by have := hr.rm.un; show A.units + 3 + 64 < cLine; have h2 : A.units + 3 + 16 * k_law_system + 200 < cLine := this; omega
  have tk := takes_of (X := cxOf (L2.CX P w) P w K mg base N_law_system "_law_system" (defScope s_law_system) (He.fAd K d_law_system.at_) cdv A outer s H E) (E := E) rfl rfl rfl rfl
  have po := passes_of (X := cxOf (L2.CX P w) P w K mg base N_law_system "_law_system" (defScope s_law_system) (He.fAd K d_law_system.at_) cdv A outer s H E) rfl
  have nd : N_law_system.Nodup := sc_law_system.nd
  have hp : ∀ i, 1 ≤ i → pv.length ≤ i := fun i h => by rw [hpv]; exact h
  have hps : ∀ {is : List Nat}, (∀ i ∈ is, 1 ≤ i) → ∀ i ∈ is, pv.length ≤ i := fun h i hi => hp i (h i hi)
  exact (dss_cons (ds_set 2 nd (de_fz (do_call (j := k_law_system) (ok_law_names m) cb_law_names noDv_rep hr (He.glo_ok m.kin m.ns (m.f 65)) tk (dar_cons 0 (dar_nil (da_cons de_int da_nil))))) (hp 2 (by decide)))
  (dss_cons (ds_setO 3 nd (do_lst da_nil) (hp 3 (by decide)))
  (dss_cons (ds_for po (di_any (de_ixA hu (de_var 1) (DE.toB de_int))) (dg_n 4 nd) (dss_cons (ds_set 5 nd (lcR_all newL_d nd (di_any (de_ixA hu (de_var 1) (DE.toB de_int))) (W0 := fun _ _ _ _ => False) (own := [("_law_road", 7), ("_law_one", 8), ("_law_other", 9), ("_law_way", 10)]) (blkOk_by (N := N_law_system) (sc := defScope s_law_system) (by decide +kernel)) (fun _ _ _ _ _ => (dg_seq (dgs_cons (dg_n 7 nd) (dgs_cons (dg_n 8 nd) (dgs_cons (dg_n 9 nd) (dgs_cons (dg_n 10 nd) dgs_nil)))))) (fun _ _ _ _ _ => (pts_if (dt_cmp (op_eqD hu2) loc_eq (de_var 8) (DE.toB (de_var 4))))) (fun _ _ _ _ _ => (de_var 7))) (hp 5 (by decide)))
  (dss_cons (ds_set 6 nd (de_ixA hu (de_lst (da_cons de_int (da_cons de_int (da_cons de_int (da_cons de_int (da_cons de_int da_nil)))))) (DE.toB (de_fz (do_call (j := k_law_system) (ok_law_take m) cb_law_take noDv_rep hr (He.glo_ok m.kin m.ns (m.f 63)) tk (dar_cons 0 (dar_nil (da_cons de_int da_nil))))))) (hp 6 (by decide)))
  (dss_one (ds_expr (de_fz (do_mutS 3 PySem.F.plainAttrs_list PySem.F.slot_list_append PySem.F.type_list_append mt_append loc_append (dao_d (da_cons (de_t1 call_tuple_of loc_tuple (He.free_ok m.kin m.ns (m.f 1)) (by decide +kernel) (DE.toB (lcX_all newL_d nd (di_rng1 (He.free_ok m.kin m.ns (m.f 44)) (de_var 6)) (W0 := fun _ _ _ _ => False) (own := [("_law_k", 11)]) (blkOk_by (N := N_law_system) (sc := defScope s_law_system) (by decide +kernel)) (fun _ _ _ _ _ => (dg_n 11 nd)) (fun _ _ _ _ _ => (pts_yes (r0 := true))) (fun _ _ _ _ _ => (de_fz (do_call (j := k_law_system) (ok_law_rule m) cb_law_rule noDv_rep hr (He.glo_ok m.kin m.ns (m.f 70)) takes_none5 (dar_cons 0 (dar_nil (da_cons (de_var 5) (da_cons (de_var 2) da_nil)))))))))) da_nil)))))))) (hps (by decide)))
  (dss_one (ds_ret (de_tup (da_cons (de_var 1) (da_cons (de_t1 call_tuple_of loc_tuple (He.free_ok m.kin m.ns (m.f 1)) (by decide +kernel) (db_var 3)) da_nil))) hpv)))))
theorem ok_law_worth_text (m : Mo K mg base B) : OkD P w K mg base ⟨He.ga K, B⟩ d_law_worth_text (k_law_worth_text + 1) ["_law_worth"] 1 0 F_law_worth_text := by
  obtain ⟨fd, F⟩ := m.says.def_ 47 (d := d_law_worth_text) rfl
  refine ⟨fd, F, DL.FunD.okG F sc_law_worth_text rfl (by decide) fun cdv A outer s H E pv hpv hr => ?_⟩
  have hu : (A.deeper (envOfC "_law_worth_text" (defScope s_law_worth_text) s.heap.objs.size (He.fAd K d_law_worth_text.at_) cdv)).units + 1 < cLine := by have := hr.rm.un; show A.units + 3 + 1 < cLine; have h2 : A.units + 3 + 16 * k_law_worth_text + 200 < cLine := this; omega
  have hu2 : (A.deeper (envOfC "_law_worth_text" (defScope s_law_worth_text) s.heap.objs.size (He.fAd K d_law_worth_text.at_) cdv)).units + 64 < cLine := by have := hr.rm.un; show A.units + 3 + 64 < cLine; have h2 : A.units + 3 + 16 * k_law_worth_text + 200 < cLine := this; omega
  have tk := takes_of (X := cxOf (L2.CX P w) P w K mg base N_law_worth_text "_law_worth_text" (defScope s_law_worth_text) (He.fAd K d_law_worth_text.at_) cdv A outer s H E) (E := E) rfl rfl rfl rfl
  have po := passes_of (X := cxOf (L2.CX P w) P w K mg base N_law_worth_text "_law_worth_text" (defScope s_law_worth_text) (He.fAd K d_law_worth_text.at_) cdv A outer s H E) rfl
  have nd : N_law_worth_text.Nodup := sc_law_worth_text.nd
  have hp : ∀ i, 0 ≤ i → pv.length ≤ i := fun i h => by rw [hpv]; exact h
  have hps : ∀ {is : List Nat}, (∀ i ∈ is, 0 ≤ i) → ∀ i ∈ is, pv.length ≤ i := fun h i hi => hp i (h i hi)
  exact (dss_cons (ds_if (dt_tru (DE.toB (de_isi (He.free_ok m.kin m.ns (m.f 0)) (DE.toB (de_var 0)) (He.free_ok m.kin m.ns (m.f 13)) (by decide +kernel)))) (dss_one (ds_ret (de_t1 call_str2 loc_str2 (He.free_ok m.kin m.ns (m.f 2)) (by decide +kernel) (DE.toB (de_var 0))) hpv)) dss_nil)
  (dss_one (ds_ret (de_ixA' hu (db_o (do_disp (.cons de_str (do_d (de_op2 op_add4 loc_add de_str (DE.toB (de_t1 call_str2 loc_str2 (He.free_ok m.kin m.ns (m.f 2)) (by decide +kernel) (DE.toB (de_ixA hu (de_var 0) (DE.toB (de_un un_neg loc_neg (DE.toB de_int))))))))) (.cons de_str (do_d de_str) .nil)))) (DE.toB (de_ixA hu (de_var 0) (DE.toB de_int)))) hpv)))
theorem ok_law_test_text (m : Mo K mg base B) : OkD P w K mg base ⟨He.ga K, B⟩ d_law_test_text (k_law_test_text + 1) ["_law_test_here"] 1 0 F_law_test_text := by
  obtain ⟨fd, F⟩ := m.says.def_ 48 (d := d_law_test_text) rfl
  refine ⟨fd, F, DL.FunD.okG F sc_law_test_text rfl (by decide) fun cdv A outer s H E pv hpv hr => ?_⟩
  have hu : (A.deeper (envOfC "_law_test_text" (defScope s_law_test_text) s.heap.objs.size (He.fAd K d_law_test_text.at_) cdv)).units + 1 < cLine := by have := hr.rm.un; show A.units + 3 + 1 < cLine; have h2 : A.units + 3 + 16 * k_law_test_text + 200 < cLine := this; omega
  have hu2 : (A.deeper (envOfC "_law_test_text" (defScope s_law_test_text) s.heap.objs.size (He.fAd K d_law_test_text.at_) cdv)).units + 64 < cLine := by have := hr.rm.un; show A.units + 3 + 64 < cLine; have h2 : A.units + 3 + 16 * k_law_test_text + 200 < cLine := this; omega
  have tk := takes_of (X := cxOf (L2.CX P w) P w K mg base N_law_test_text "_law_test_text" (defScope s_law_test_text) (He.fAd K d_law_test_text.at_) cdv A outer s H E) (E := E) rfl rfl rfl rfl
  have po := passes_of (X := cxOf (L2.CX P w) P w K mg base N_law_test_text "_law_test_text" (defScope s_law_test_text) (He.fAd K d_law_test_text.at_) cdv A outer s H E) rfl
  have nd : N_law_test_text.Nodup := sc_law_test_text.nd
  have hp : ∀ i, 0 ≤ i → pv.length ≤ i := fun i h => by rw [hpv]; exact h
  have hps : ∀ {is : List Nat}, (∀ i ∈ is, 0 ≤ i) → ∀ i ∈ is, pv.length ≤ i := fun h i hi => hp i (h i hi)
  exact (dss_cons (ds_asg (de_var 0) (dg_seq (dgs_cons (dg_n 1 nd) (dgs_cons (dg_n 2 nd) (dgs_cons (dg_n 3 nd) dgs_nil)))) (hps (by decide)))
  (dss_cons (ds_setO 4 nd (do_lst (da_cons (de_op2 op_add4 loc_add de_str (DE.toB (de_t1 call_str2 loc_str2 (He.free_ok m.kin m.ns (m.f 2)) (by decide +kernel) (DE.toB (de_var 1))))) (da_cons (de_ixA' hu (db_o (do_disp (.cons de_str (do_d de_str) (.cons de_str (do_d de_str) (.cons de_str (do_d de_str) .nil))))) (DE.toB (de_var 2))) (da_cons (de_t1 call_str2 loc_str2 (He.free_ok m.kin m.ns (m.f 2)) (by decide +kernel) (DE.toB (de_var 3))) da_nil)))) (hp 4 (by decide)))
  (dss_cons (ds_if (dt_cmp (op_eqD hu2) loc_eq (de_var 1) (DE.toB de_str)) (dss_one (ds_sto hu (do_d de_str) (dp_slot 4) de_int)) dss_nil)
  (dss_one (ds_ret (de_m1 PySem.F.slot_str_join PySem.F.type_str_join mt_join loc_join de_str (db_var 4)) hpv)))))
theorem ok_law_act_text (m : Mo K mg base B) : OkD P w K mg base ⟨He.ga K, B⟩ d_law_act_text (k_law_act_text + 1) ["_law_act"] 1 0 F_law_act_text := by
  obtain ⟨fd, F⟩ := m.says.def_ 49 (d := d_law_act_text) rfl
  refine ⟨fd, F, DL.FunD.okG F sc_law_act_text rfl (by decide) fun cdv A outer s H E pv hpv hr => ?_⟩
  have hu : (A.deeper (envOfC "_law_act_text" (defScope s_law_act_text) s.heap.objs.size (He.fAd K d_law_act_text.at_) cdv)).units + 1 < cLine := by have := hr.rm.un; show A.units + 3 + 1 < cLine; have h2 : A.units + 3 + 16 * k_law_act_text + 200 < cLine := this; omega
  have hu2 : (A.deeper (envOfC "_law_act_text" (defScope s_law_act_text) s.heap.objs.size (He.fAd K d_law_act_text.at_) cdv)).units + 64 < cLine := by have := hr.rm.un; show A.units + 3 + 64 < cLine; have h2 : A.units + 3 + 16 * k_law_act_text + 200 < cLine := this; omega
  have tk := takes_of (X := cxOf (L2.CX P w) P w K mg base N_law_act_text "_law_act_text" (defScope s_law_act_text) (He.fAd K d_law_act_text.at_) cdv A outer s H E) (E := E) rfl rfl rfl rfl
  have po := passes_of (X := cxOf (L2.CX P w) P w K mg base N_law_act_text "_law_act_text" (defScope s_law_act_text) (He.fAd K d_law_act_text.at_) cdv A outer s H E) rfl
  have nd : N_law_act_text.Nodup := sc_law_act_text.nd
  have hp : ∀ i, 0 ≤ i → pv.length ≤ i := fun i h => by rw [hpv]; exact h
  have hps : ∀ {is : List Nat}, (∀ i ∈ is, 0 ≤ i) → ∀ i ∈ is, pv.length ≤ i := fun h i hi => hp i (h i hi)
  exact (dss_cons (ds_if (dt_cmp (op_eqD hu2) loc_eq (de_ixA hu (de_var 0) (DE.toB de_int)) (DE.toB de_str)) (dss_one (ds_ret de_str hpv)) dss_nil)
  (dss_cons (ds_if (dt_cmp (op_eqD hu2) loc_eq (de_ixA hu (de_var 0) (DE.toB de_int)) (DE.toB de_str)) (dss_one (ds_ret (de_m1 PySem.F.slot_str_join PySem.F.type_str_join mt_join loc_join de_str (DE.toB (de_lst (da_cons de_str (da_cons (de_ixA hu (de_var 0) (DE.toB de_int)) (da_cons (de_ixA hu (de_var 0) (DE.toB de_int)) (da_cons (de_fz (do_call (j := k_law_act_text) (ok_law_worth_text m) cb_law_worth_text noDv_rep hr (He.glo_ok m.kin m.ns (m.f 71)) tk (dar_nil (da_cons (de_ixA hu (de_var 0) (DE.toB de_int)) da_nil)))) da_nil))))))) hpv)) dss_nil)
  (dss_one (ds_ret (de_m1 PySem.F.slot_str_join PySem.F.type_str_join mt_join loc_join de_str (DE.toB (de_lst (da_cons (de_ixA hu (de_var 0) (DE.toB de_int)) (da_cons (de_op2 op_add4 loc_add de_str (DE.toB (de_t1 call_str2 loc_str2 (He.free_ok m.kin m.ns (m.f 2)) (by decide +kernel) (DE.toB (de_ixA hu (de_var 0) (DE.toB de_int)))))) (da_cons (de_fz (do_call (j := k_law_act_text) (ok_law_worth_text m) cb_law_worth_text noDv_rep hr (He.glo_ok m.kin m.ns (m.f 71)) tk (dar_nil (da_cons (de_ixA hu (de_var 0) (DE.toB de_int)) da_nil)))) da_nil)))))) hpv))))
theorem ok_law_rule_text (m : Mo K mg base B) : OkD P w K mg base ⟨He.ga K, B⟩ d_law_rule_text (k_law_rule_text + 1) ["_law_house", "_law_rule_here"] 2 0 F_law_rule_text := by
  obtain ⟨fd, F⟩ := m.says.def_ 50 (d := d_law_rule_text) rfl
  refine ⟨fd, F, DL.FunD.okG F sc_law_rule_text rfl (by decide) fun cdv A outer s H E pv hpv hr => ?_⟩
  have hu : (A.deeper (envOfC "_law_rule_text" (defScope s_law_rule_text) s.heap.objs.size (He.fAd K d_law_rule_text.at_) cdv)).units + 1 < cLine := by have := hr.rm.un; show A.units + 3 + 1 < cLine; have h2 : A.units + 3 + 16 * k_law_rule_text + 200 < cLine := this; omega
  have hu2 : (A.deeper (envOfC "_law_rule_text" (defScope s_law_rule_text) s.heap.objs.size (He.fAd K d_law_rule_text.at_) cdv)).units + 64 < cLine := by have := hr.rm.un; show A.units + 3 + 64 < cLine; have h2 : A.units + 3 + 16 * k_law_rule_text + 200 < cLine := this; omega
  have tk := takes_of (X := cxOf (L2.CX P w) P w K mg base N_law_rule_text "_law_rule_text" (defScope s_law_rule_text) (He.fAd K d_law_rule_text.at_) cdv A outer s H E) (E := E) rfl rfl rfl rfl
  have po := passes_of (X := cxOf (L2.CX P w) P w K mg base N_law_rule_text "_law_rule_text" (defScope s_law_rule_text) (He.fAd K d_law_rule_text.at_) cdv A outer s H E) rfl
  have nd : N_law_rule_text.Nodup := sc_law_rule_text.nd
  have hp : ∀ i, 0 ≤ i → pv.length ≤ i := fun i h => by rw [hpv]; exact h
  have hps : ∀ {is : List Nat}, (∀ i ∈ is, 0 ≤ i) → ∀ i ∈ is, pv.length ≤ i := fun h i hi => hp i (h i hi)
  exact (dss_cons (ds_asg (de_var 1) (dg_seq (dgs_cons (dg_n 2 nd) (dgs_cons (dg_n 3 nd) (dgs_cons (dg_n 4 nd) dgs_nil)))) (hps (by decide)))
  (dss_cons (ds_set 5 nd (de_op2 op_add4 loc_add (de_op2 op_add4 loc_add (de_op2 op_add4 loc_add de_str (DE.toB (de_var 0))) (DE.toB de_str)) (DE.toB (de_ixA hu (de_lst (da_cons de_str (da_cons (de_op2 op_add4 loc_add de_str (DE.toB (de_ixA hu (de_var 2) (DE.toB (de_un un_neg loc_neg (DE.toB de_int)))))) da_nil))) (DE.toB (de_t1 call_int3 loc_int (He.free_ok m.kin m.ns (m.f 13)) (by decide +kernel) (DE.toB (de_cmp (op_eqD hu2) loc_eq (de_b1 call_len loc_len (He.free_ok m.kin m.ns (m.f 9)) (by decide +kernel) (DE.toB (de_var 2))) (DE.toB de_int)))))))) (hp 5 (by decide)))
  (dss_cons (ds_set 6 nd (de_ixA hu (de_lst (da_cons de_str (da_cons (de_m1 PySem.F.slot_str_join PySem.F.type_str_join mt_join loc_join de_str (DE.toB (lcR_all newL_d nd (di_any (de_var 3)) (W0 := fun _ _ _ _ => False) (own := [("_law_test_here", 8)]) (blkOk_by (N := N_law_rule_text) (sc := defScope s_law_rule_text) (by decide +kernel)) (fun _ _ _ _ _ => (dg_n 8 nd)) (fun _ _ _ _ _ => (pts_yes (r0 := true))) (fun _ _ _ _ _ => (de_fz (do_call (j := k_law_rule_text) (ok_law_test_text m) cb_law_test_text noDv_rep hr (He.glo_ok m.kin m.ns (m.f 72)) takes_none5 (dar_nil (da_cons (de_var 8) da_nil)))))))) da_nil))) (DE.toB (de_t1 call_int3 loc_int (He.free_ok m.kin m.ns (m.f 13)) (by decide +kernel) (DE.toB (de_cmp (op_neD hu2) loc_ne (de_var 3) (DE.toB (de_tup da_nil))))))) (hp 6 (by decide)))
  (dss_cons (ds_set 7 nd (de_ixA hu (de_lst (da_cons de_str (da_cons (de_m1 PySem.F.slot_str_join PySem.F.type_str_join mt_join loc_join de_str (DE.toB (lcR_all newL_d nd (di_any (de_var 4)) (W0 := fun _ _ _ _ => False) (own := [("_law_act", 9)]) (blkOk_by (N := N_law_rule_text) (sc := defScope s_law_rule_text) (by decide +kernel)) (fun _ _ _ _ _ => (dg_n 9 nd)) (fun _ _ _ _ _ => (pts_yes (r0 := true))) (fun _ _ _ _ _ => (de_fz (do_call (j := k_law_rule_text) (ok_law_act_text m) cb_law_act_text noDv_rep hr (He.glo_ok m.kin m.ns (m.f 73)) takes_none5 (dar_nil (da_cons (de_var 9) da_nil)))))))) da_nil))) (DE.toB (de_t1 call_int3 loc_int (He.free_ok m.kin m.ns (m.f 13)) (by decide +kernel) (DE.toB (de_cmp (op_neD hu2) loc_ne (de_var 4) (DE.toB (de_tup da_nil))))))) (hp 7 (by decide)))
  (dss_one (ds_ret (de_op2 op_add4 loc_add (de_op2 op_add4 loc_add (de_op2 op_add4 loc_add (de_op2 op_add4 loc_add (de_var 5) (DE.toB de_str)) (DE.toB (de_var 6))) (DE.toB de_str)) (DE.toB (de_var 7))) hpv))))))
theorem ok_law_system_lines (m : Mo K mg base B) : OkD P w K mg base ⟨He.ga K, B⟩ d_law_system_lines (k_law_system_lines + 1) ["_law_system_here"] 1 0 F_law_system_lines := by
  obtain ⟨fd, F⟩ := m.says.def_ 51 (d := d_law_system_lines) rfl
  refine ⟨fd, F, DL.FunD.okG F sc_law_system_lines rfl (by decide) fun cdv A outer s H E pv hpv hr => ?_⟩
  have hu : (A.deeper (envOfC "_law_system_lines" (defScope s_law_system_lines) s.heap.objs.size (He.fAd K d_law_system_lines.at_) cdv)).units + 1 < cLine := by have := hr.rm.un; show A.units + 3 + 1 < cLine; have h2 : A.units + 3 + 16 * k_law_system_lines + 200 < cLine := this; omega
  have hu2 : (A.deeper (envOfC "_law_system_lines" (defScope s_law_system_lines) s.heap.objs.size (He.fAd K d_law_system_lines.at_) cdv)).units + 64 < cLine := by have := hr.rm.un; show A.units + 3 + 64 < cLine; have h2 : A.units + 3 + 16 * k_law_system_lines + 200 < cLine := this; omega
  have tk := takes_of (X := cxOf (L2.CX P w) P w K mg base N_law_system_lines "_law_system_lines" (defScope s_law_system_lines) (He.fAd K d_law_system_lines.at_) cdv A outer s H E) (E := E) rfl rfl rfl rfl
  have po := passes_of (X := cxOf (L2.CX P w) P w K mg base N_law_system_lines "_law_system_lines" (defScope s_law_system_lines) (He.fAd K d_law_system_lines.at_) cdv A outer s H E) rfl
  have nd : N_law_system_lines.Nodup := sc_law_system_lines.nd
  have hp : ∀ i, 0 ≤ i → pv.length ≤ i := fun i h => by rw [hpv]; exact h
  have hps : ∀ {is : List Nat}, (∀ i ∈ is, 0 ≤ i) → ∀ i ∈ is, pv.length ≤ i := fun h i hi => hp i (h i hi)
  exact (dss_cons (ds_asg (de_var 0) (dg_seq (dgs_cons (dg_n 1 nd) (dgs_cons (dg_n 2 nd) dgs_nil))) (hps (by decide)))
  (dss_cons (ds_setO 3 nd (do_addN (lcR_all newL_d nd (di_any (de_ixA hu (de_var 1) (DE.toB de_int))) (W0 := fun _ _ _ _ => False) (own := [("_law_house", 4)]) (blkOk_by (N := N_law_system_lines) (sc := defScope s_law_system_lines) (by decide +kernel)) (fun _ _ _ _ _ => (dg_n 4 nd)) (fun _ _ _ _ _ => (pts_yes (r0 := true))) (fun _ _ _ _ _ => (de_op2 op_add4 loc_add de_str (DE.toB (de_var 4))))) (DE.toB (lcR_all newL_d nd (di_any (de_ixA hu (de_var 1) (DE.toB de_int))) (W0 := fun _ _ _ _ => False) (own := [("_law_road", 6)]) (blkOk_by (N := N_law_system_lines) (sc := defScope s_law_system_lines) (by decide +kernel)) (fun _ _ _ _ _ => (dg_n 6 nd)) (fun _ _ _ _ _ => (pts_yes (r0 := true))) (fun _ _ _ _ _ => (de_op2 op_add4 loc_add de_str (DE.toB (de_m1 PySem.F.slot_str_join PySem.F.type_str_join mt_join loc_join de_str (DE.toB (de_var 6))))))))) (hp 3 (by decide)))
  (dss_cons (ds_for po (di_zip (He.free_ok m.kin m.ns (m.f 6)) (de_ixA hu (de_var 1) (DE.toB de_int)) (de_var 2)) (dg_seq (dgs_cons (dg_n 4 nd) (dgs_cons (dg_n 5 nd) dgs_nil))) (dss_one (ds_expr (de_fz (do_mutS 3 PySem.F.plainAttrs_list PySem.F.slot_list_extend PySem.F.type_list_extend mt_extend loc_extend (dao_d (da_cons (lcR_all newL_d nd (di_any (de_var 5)) (W0 := fun _ _ _ _ => False) (own := [("_law_rule_here", 7)]) (blkOk_by (N := N_law_system_lines) (sc := defScope s_law_system_lines) (by decide +kernel)) (fun _ _ _ _ _ => (dg_n 7 nd)) (fun _ _ _ _ _ => (pts_yes (r0 := true))) (fun _ _ _ _ _ => (de_fz (do_call (j := k_law_system_lines) (ok_law_rule_text m) cb_law_rule_text noDv_rep hr (He.glo_ok m.kin m.ns (m.f 74)) takes_none5 (dar_nil (da_cons (de_var 4) (da_cons (de_var 7) da_nil))))))) da_nil)))))) (hps (by decide)))
  (dss_one (ds_retO (do_mov 3) hpv)))))
theorem ok_law_ended (m : Mo K mg base B) : OkD P w K mg base ⟨He.ga K, B⟩ d_law_ended (k_law_ended + 1) ["_law_lines"] 1 0 F_law_ended := by
  obtain ⟨fd, F⟩ := m.says.def_ 52 (d := d_law_ended) rfl
  refine ⟨fd, F, DL.FunD.okG F sc_law_ended rfl (by decide) fun cdv A outer s H E pv hpv hr => ?_⟩
  have hu : (A.deeper (envOfC "_law_ended" (defScope s_law_ended) s.heap.objs.size (He.fAd K d_law_ended.at_) cdv)).units + 1 < cLine := by have := hr.rm.un; show A.units + 3 + 1 < cLine; have h2 : A.units + 3 + 16 * k_law_ended + 200 < cLine := this; omega
  have hu2 : (A.deeper (envOfC "_law_ended" (defScope s_law_ended) s.heap.objs.size (He.fAd K d_law_ended.at_) cdv)).units + 64 < cLine := by have := hr.rm.un; show A.units + 3 + 64 < cLine; have h2 : A.units + 3 + 16 * k_law_ended + 200 < cLine := this; omega
  have tk := takes_of (X := cxOf (L2.CX P w) P w K mg base N_law_ended "_law_ended" (defScope s_law_ended) (He.fAd K d_law_ended.at_) cdv A outer s H E) (E := E) rfl rfl rfl rfl
  have po := passes_of (X := cxOf (L2.CX P w) P w K mg base N_law_ended "_law_ended" (defScope s_law_ended) (He.fAd K d_law_ended.at_) cdv A outer s H E) rfl
  have nd : N_law_ended.Nodup := sc_law_ended.nd
  have hp : ∀ i, 0 ≤ i → pv.length ≤ i := fun i h => by rw [hpv]; exact h
  have hps : ∀ {is : List Nat}, (∀ i ∈ is, 0 ≤ i) → ∀ i ∈ is, pv.length ≤ i := fun h i hi => hp i (h i hi)
  exact (dss_one (ds_ret (de_m1 PySem.F.slot_str_join PySem.F.type_str_join mt_join loc_join de_str (DE.toB (lcR_all newL_d nd (di_any (de_var 0)) (W0 := fun _ _ _ _ => False) (own := [("_law_line", 1)]) (blkOk_by (N := N_law_ended) (sc := defScope s_law_ended) (by decide +kernel)) (fun _ _ _ _ _ => (dg_n 1 nd)) (fun _ _ _ _ _ => (pts_yes (r0 := true))) (fun _ _ _ _ _ => (de_op2 op_add4 loc_add (de_var 1) (DE.toB de_str)))))) hpv))
theorem ok_law (m : Mo K mg base B) : OkD P w K mg base ⟨He.ga K, B⟩ d_law (k_law + 1) ["_law_script"] 1 0 F_law := by
  obtain ⟨fd, F⟩ := m.says.def_ 53 (d := d_law) rfl
  refine ⟨fd, F, DL.FunD.okG F sc_law rfl (by decide) fun cdv A outer s H E pv hpv hr => ?_⟩
  have hu : (A.deeper (envOfC "law" (defScope s_law) s.heap.objs.size (He.fAd K d_law.at_) cdv)).units + 1 < cLine := by have := hr.rm.un; show A.units + 3 + 1 < cLine; have h2 : A.units + 3 + 16 * k_law + 200 < cLine := this; omega
  have hu2 : (A.deeper (envOfC "law" (defScope s_law) s.heap.objs.size (He.fAd K d_law.at_) cdv)).units + 64 < cLine := by have := hr.rm.un; show A.units + 3 + 64 < cLine; have h2 : A.units + 3 + 16 * k_law + 200 < cLine := this; omega
  have tk := takes_of (X := cxOf (L2.CX P w) P w K mg base N_law "law" (defScope s_law) (He.fAd K d_law.at_) cdv A outer s H E) (E := E) rfl rfl rfl rfl
  have po := passes_of (X := cxOf (L2.CX P w) P w K mg base N_law "law" (defScope s_law) (He.fAd K d_law.at_) cdv A outer s H E) rfl
  have nd : N_law.Nodup := sc_law.nd
  have hp : ∀ i, 0 ≤ i → pv.length ≤ i := fun i h => by rw [hpv]; exact h
  have hps : ∀ {is : List Nat}, (∀ i ∈ is, 0 ≤ i) → ∀ i ∈ is, pv.length ≤ i := fun h i hi => hp i (h i hi)
  exact (dss_cons (ds_set 1 nd (de_tup (da_cons (de_tup (da_cons (de_tup (da_cons de_str da_nil)) (da_cons (de_tup da_nil) da_nil))) (da_cons (de_tup (da_cons (de_tup da_nil) da_nil)) da_nil))) (hp 1 (by decide)))
  (dss_cons (ds_for po (di_rng1 (He.free_ok m.kin m.ns (m.f 44)) de_int) (dg_n 2 nd) (dss_cons (ds_setO 3 nd (do_call (j := k_law) (ok_law_feed m) cb_law_feed noDv_rep hr (He.glo_ok m.kin m.ns (m.f 75)) tk (dar_nil (da_cons (de_var 0) (da_cons (de_var 2) da_nil)))) (hp 3 (by decide)))
  (dss_cons (ds_set 4 nd (de_fz (do_call (j := k_law) (ok_law_system m) cb_law_system noDv_rep hr (He.glo_ok m.kin m.ns (m.f 77)) tk (dar_cons 3 (dar_nil (da_cons (de_fz (do_call (j := k_law) (ok_law_net m) cb_law_net noDv_rep hr (He.glo_ok m.kin m.ns (m.f 76)) tk (dar_cons 3 (dar_nil (da_cons de_int (da_cons de_int (da_cons (de_tup (da_cons de_str (da_cons de_str da_nil))) da_nil))))))) da_nil))))) (hp 4 (by decide)))
  (dss_cons (ds_if (dt_cmp (op_eqD hu2) loc_eq (de_fz (do_call (j := k_law) (ok_law_take m) cb_law_take noDv_rep hr (He.glo_ok m.kin m.ns (m.f 63)) tk (dar_cons 3 (dar_nil (da_cons de_int da_nil))))) (DE.toB de_int)) (dss_one (ds_set 4 nd (de_tup (da_cons (de_ixA hu (de_var 4) (DE.toB de_int)) (da_cons (de_op2 op_add4 loc_add (de_sl (de_ixA hu (de_var 4) (DE.toB de_int)) dp_none (dp_some (de_un un_neg loc_neg (DE.toB de_int)))) (DE.toB (de_tup (da_cons (de_tup da_nil) da_nil)))) da_nil))) (hp 4 (by decide)))) dss_nil)
  (dss_cons (ds_for po (di_any (de_tup (da_cons (de_var 4) (da_cons (de_var 1) (da_cons (de_var 4) da_nil))))) (dg_n 5 nd) (dss_cons (ds_set 6 nd (de_b1 (cr_repr ⟨_, hr⟩) loc_repr (He.free_ok m.kin m.ns (m.f 78)) (by decide +kernel) (DE.toB (de_var 5))) (hp 6 (by decide)))
  (dss_cons (ds_set 7 nd (de_fz (do_call (j := k_law) (ok_law_ended m) cb_law_ended noDv_rep hr (He.glo_ok m.kin m.ns (m.f 80)) tk (dar_nil (da_cons (de_fz (do_call (j := k_law) (ok_law_system_lines m) cb_law_system_lines noDv_rep hr (He.glo_ok m.kin m.ns (m.f 79)) tk (dar_nil (da_cons (de_var 5) da_nil)))) da_nil)))) (hp 7 (by decide)))
  (dss_one (ds_if (dt_w (dw_or (dt_cmp (op_neD hu2) loc_ne (de_fz (do_call (j := k_law) (ok_system_text m) cb_system_text noDv_rep hr (He.glo_ok m.kin m.ns (m.f 81)) tk (dar_nil (da_cons (de_var 5) da_nil)))) (DE.toB (de_var 7))) (dw_or (dt_cmp (op_neD hu2) loc_ne (de_b1 (cr_repr ⟨_, hr⟩) loc_repr (He.free_ok m.kin m.ns (m.f 78)) (by decide +kernel) (DE.toB (de_fz (do_call (j := k_law) (ok_read_system m) cb_read_system noDv_rep hr (He.glo_ok m.kin m.ns (m.f 82)) tk (dar_nil (da_cons (de_var 7) da_nil)))))) (DE.toB (de_var 6))) (dw_or1 (dt_cmp (op_neD hu2) loc_ne (de_b1 (cr_repr ⟨_, hr⟩) loc_repr (He.free_ok m.kin m.ns (m.f 78)) (by decide +kernel) (DE.toB (de_var 5))) (DE.toB (de_var 6))))))) (dss_one (ds_ret de_bl hpv)) dss_nil)))) (hps (by decide)))
  (dss_one (ds_set 1 nd (de_var 4) (hp 1 (by decide)))))))) (hps (by decide)))
  (dss_one (ds_ret de_bl hpv))))
end
end K85
end
set_option Elab.async false
set_option linter.all false
set_option maxRecDepth 100000
set_option maxHeartbeats 0
namespace K85
open PySem PySem.W PySem.Calls PyProof.Rows DL
def names0 : List PySem.Str := ["__name__", "SIGN_TEXTS", "worth_text", "test_text", "act_text", "rule_text", "ended", "system_text", "NetError", "NoText", "LETTERS", "LONGEST", "is_name", "is_whole", "is_from", "is_row"]
def names1 : List PySem.Str := ["MOST_HOUSES", "MOST_ROADS", "WAYS", "is_road", "roads_out", "SLOTS", "MOST_RULES", "MOST_TESTS", "MOST_ACTS", "BEYOND", "SIGNS", "SETS", "is_slot", "is_number", "is_sign", "is_when"]
def names2 : List PySem.Str := ["is_test", "is_worth", "is_act", "is_rule", "FIGURES", "MOST_FIGURES", "number_in", "lines_of", "Lines", "houses_in", "roads_in", "slot_in", "worth_in", "test_in", "act_in", "rule_in"]
def names3 : List PySem.Str := ["programs_in", "system_in", "read_system", "_law_feed", "_law_take", "_law_names", "_law_net", "_law_number", "_law_some_worth", "_law_test", "_law_rule", "_law_system", "_law_worth_text", "_law_test_text", "_law_act_text", "_law_rule_text"]
def names4 : List PySem.Str := ["_law_system_lines", "_law_ended"]
def names : List PySem.Str := names0 ++ names1 ++ names2 ++ names3 ++ names4
abbrev R : OpenRow := OpenLaw.row PySem.Challenge.rw_passedstands_k85_systems_written_and_rea
abbrev hk : Hook := hookM 5 fa fn ts exB
def ob (s : SharedT) : AlM := obsMG 5 fa fn ts exB (HandSHeadRun.getT s)
theorem ob_eq (s : SharedT) : ob s = hk.obs s.abs := obsMG_eq (HandSHeadRun.getT_eq s)
theorem run (w : World) : HandSHeadRun.RunEq R (view R.prog [72]) hk ob 12000 names w :=
  byRow2 "special-get-raises" (P := fun w => HandSHeadRun.RunEq R (view R.prog [72]) hk ob 12000 names w)
    (fun w => by
      intro os
      kernel_rfl)
    (fun w => by
      intro os
      kernel_rfl) w
end K85
set_option Elab.async false
set_option linter.all false
set_option maxRecDepth 100000
set_option maxHeartbeats 0
noncomputable section
namespace K85
open PySem L2 DL PySem.Spec PyProof.Rows
theorem tabs_nd : ∀ t ∈ ts, (t.2.map (·.1)).Nodup := by decide +kernel
theorem facts {w : World} {mg : Str → Option Value} {fa' : Addr} {h : Heap} (F1 : ∀ ns : List Int, ns.length ≤ 63 → F_law [.d (.scr ns)] = .ok (.d (.bl true)) []) (hY : hk.says w h) (G : h.Ns mainGlobals mg) (hmg : mg "law" = some (.ref fa')) :
      ∃ (K : PySem.W.Frag) (cl : Wld) (fd : FuncData) (F1 : List O → FRes), K.In h ∧ HOk R.prog w cl.B h ∧ (∀ b, cl.B b ≠ none → K.lookup b = none ∧ b ≠ mainGlobals ∧ b ≠ builtinsNs ∧ b ≠ cStatics ∧ ∃ o u es ep, cl.B b = some (.frz o u) ∧ o.data = .dict es ep) ∧
        (∀ (s : Shared) (u : Value), BindsTo s fd ⟨[u], []⟩ [("_law_script", u)]) ∧ (∀ ns : List Int, ns.length ≤ 63 → F1 [.d (.scr ns)] = .ok (.d (.bl true)) []) ∧
        ∀ base : Heap, K.In base → base.Ns mainGlobals mg → FnG R.prog w K mg base (k_law + 1) fa' fd ["_law_script"] (spF K cl 1 0 F1) := by
  obtain ⟨K, X, c⟩ := hY
  have X' : (cutK ts K).In h := cutK_in X
  have mo : ∀ base : Heap, (cutK ts K).In base → base.Ns mainGlobals mg → Mo (cutK ts K) mg base (tabB ts K) := fun base Xb Gb =>
    ⟨c.d, c.exs, Xb, Gb, fun t ht => by
      obtain ⟨a1, o, a2⟩ := tab_glo Xb Gb c ht (fun t' ht' _ => (List.mem_singleton.mp ht').trans (List.mem_singleton.mp ht).symm)
      exact ⟨_, o, a1, a2⟩⟩
  obtain ⟨fd, F, _⟩ := (ok_law (P := R.prog) (w := w) (mo h X' G)).ex
  have hfa : fa' = He.ga (cutK ts K) "law" := by
    have e := hmg.symm.trans (glo_law (mo h X' G))
    cases e
    rfl
  subst hfa
  refine ⟨cutK ts K, wldOf ts K, fd, F_law, X', fun b u e => ?_, fun b e => ?_, fun s u => ?_, F1, fun base Xb Gb => ?_⟩
  · obtain ⟨_, _, _, _, _, _, _, _, ok, _⟩ := tab_ok (P := R.prog) (w := w) X c tabs_nd e
    exact ok
  · cases q : tabB ts K b with
    | none => exact absurd q e
    | some u =>
      obtain ⟨o, t, es, ep, _, _, eu, ed, _, n1, n2, n3⟩ := tab_ok (P := R.prog) (w := w) X c tabs_nd q
      exact ⟨cutK_out e, n1, n2, n3, o, _, es, ep, by show tabB ts K b = _; rw [q, eu], ed⟩
  · exact FunD.bindsA (ps := ["_law_script"]) F (fun _ _ _ _ _ _ us hl => match us, hl with | [_], _ => rfl) s [u] rfl
  · obtain ⟨fd2, F2, G2⟩ := (ok_law (P := R.prog) (w := w) (mo base Xb Gb)).ex
    have e : fd2 = fd := by
      obtain ⟨_, _, _, _, _, _, _, _, _, _, _, l1, _⟩ := F.ex
      obtain ⟨_, _, _, _, _, _, _, _, _, _, _, l2, _⟩ := F2.ex
      cases Option.some.inj (l1.symm.trans l2)
      rfl
    rw [← e]
    exact G2
end K85
end
set_option Elab.async false
set_option linter.all false
set_option maxRecDepth 100000
set_option maxHeartbeats 0
open PySem PySem.W PySem.Calls PyProof.Rows
theorem k85_of (F1 : ∀ ns : List Int, ns.length ≤ 63 → K85.F_law [.d (.scr ns)] = .ok (.d (.bl true)) []) : PySem.Challenge.rw_passedstands_k85_systems_written_and_rea.Holds := by
  w_on; o_law
  refine HandSHeadRun.head_any (q := view K85.R.prog [72]) (H := K85.hk) (ob := K85.ob) (M := 12000) (loose := K85.names) (d := HandSHeadRun.topDef K85.R.prog 72) (kwd := []) K85.ob_eq
    (by kernel_rfl) (fun s => by kernel_rfl) K85.run (by kernel_rfl) (by kernel_rfl) (by kernel_rfl) (by rfl) (by first | assumption | decide +kernel) (by decide +kernel) ⟨rfl, rfl, rfl, rfl, rfl, by decide +kernel⟩ ?hw ?hc
  case hw => w_witness2
  case hc =>
    refine DL.lawG (l := PySem.Challenge.rw_passedstands_k85_systems_written_and_rea) (n := 63) (k := K85.k_law + 1) (x := "_law_script") rfl (by decide) (by kernel_rfl) ⟨⟨rfl, by decide, by decide⟩, rfl⟩ ?F
    intro w mg fa h Y G hmg0
    have hmg : mg ("law" : PySem.Str) = some (.ref fa) := by
      have e : (HandSHeadRun.topDef K85.R.prog 72).name = ("law" : PySem.Str) := by kernel_rfl
      rw [← e]
      exact hmg0
    exact K85.facts F1 Y G hmg
set_option Elab.async false
set_option linter.all false
set_option maxRecDepth 100000
/-! PA: texts as lists of signs: a joined text, split again. -/
namespace DL
open PySem PySem.StrLaws Builtin Builtin.Str
abbrev tl (x : Str) : List Nat := x.cps.toList
theorem tl_inj {x y : Str} (h : tl x = tl y) : x = y := Str.ext' (Array.toList_inj.mp h)
theorem tl_app (x y : Str) : tl (x ++ y) = tl x ++ tl y := by show (x ++ y).cps.toList = _; rw [Str.cps_append, Array.toList_append]
theorem tl_len (x : Str) : (tl x).length = x.length := by simp [tl, Str.length]
theorem at_iff {x y : Str} {i : Nat} : At x y x.length i ↔ i + (tl y).length ≤ (tl x).length ∧ ((tl x).drop i).take (tl y).length = tl y := by
  unfold At
  rw [subAt_eq, tl_len, tl_len, beq_iff_eq]
/-- a separator that bears the sign b, all signs ahead of it others -/
structure Sep (y : Str) (b : Nat) : Prop where
  ex : ∃ l r, tl y = l ++ b :: r ∧ b ∉ l
  k1 : ¬ (∃ x : Str, Builtin.Str.strKind x < Builtin.Str.strKind y)
theorem sep_no {y : Str} {b : Nat} (S : Sep y b) {X p rest : List Nat} {a i : Nat} (hX : X.drop a = p ++ rest) (hp : b ∉ p) (hr : rest = [] ∨ ∃ u, rest = tl y ++ u) (h1 : a ≤ i) (h2 : i < a + p.length ∨ rest = []) (h3 : i + (tl y).length ≤ X.length)
    (h4 : (X.drop i).take (tl y).length = tl y) : False := by
  obtain ⟨l, r, ey, hl⟩ := S.ex
  have g : X[i + l.length]? = some b := by
    have e := congrArg (fun z => z[l.length]?) h4
    rw [ey, List.getElem?_take_of_lt (by simp), List.getElem?_drop] at e
    rw [e]; simp
  have g2 : (X.drop a)[i - a + l.length]? = some b := by rw [List.getElem?_drop]; rw [← g]; congr 1; omega
  rw [hX] at g2
  by_cases hlt : i - a + l.length < p.length
  · rw [List.getElem?_append_left hlt] at g2
    exact hp (List.mem_of_getElem? g2)
  · rw [List.getElem?_append_right (by omega)] at g2
    rcases hr with e | ⟨u, e⟩
    · rw [e] at g2; cases g2
    · rcases h2 with h2 | h2
      · rw [e, ey, List.append_assoc, List.getElem?_append_left (by omega)] at g2
        exact hl (List.mem_of_getElem? g2)
      · rw [h2] at g2; cases g2
theorem cuts_parts {x y : Str} {b : Nat} (S : Sep y b) : ∀ (parts : List Str) (a f : Nat) (cuts : List Nat), parts ≠ [] → (∀ p ∈ parts, b ∉ tl p) → a ≤ (tl x).length → (tl x).drop a = tl (Str.join y parts) →
    ChainG x y x.length a cuts f → (∀ k, f ≤ k → ¬ At x y x.length k) → partsFrom x y.length a cuts = parts
  | [], _, _, _, h, _, _, _, _, _ => absurd rfl h
  | [p], a, f, cuts, _, hf, ha, hx, hc, hn => by
    have hx : (tl x).drop a = tl p ++ [] := by rw [List.append_nil]; exact hx
    cases cuts with
    | nil =>
      show [strSub x a x.length] = [p]
      congr 1
      apply tl_inj
      show (strSub x a x.length).cps.toList = _
      rw [strSub_toList]
      show ((tl x).drop a).take (x.length - a) = tl p
      rw [List.take_of_length_le (by rw [List.length_drop, tl_len]; exact Nat.le_refl _), hx, List.append_nil]
    | cons c r =>
      obtain ⟨h1, h2, _, _⟩ := hc
      obtain ⟨h3, h4⟩ := at_iff.mp h2
      exact (sep_no S hx (hf p (by simp)) (.inl rfl) h1 (.inr rfl) h3 h4).elim
  | p :: q :: r, a, f, cuts, _, hf, ha, hx, hc, hn => by
    have hx : (tl x).drop a = tl p ++ (tl y ++ tl (Str.join y (q :: r))) := by
      rw [hx]
      show tl (p ++ y ++ Str.join y (q :: r)) = _
      rw [tl_app, tl_app, List.append_assoc]
    have hlen := congrArg List.length hx
    rw [List.length_drop, List.length_append, List.length_append] at hlen
    have hA : At x y x.length (a + (tl p).length) := by
      refine at_iff.mpr ⟨by omega, ?_⟩
      rw [← List.drop_drop, hx, List.drop_left, List.take_left]
    cases cuts with
    | nil =>
      have e : f = a := hc
      exact absurd hA (hn _ (by omega))
    | cons c cs =>
      obtain ⟨h1, h2, h5, h6⟩ := hc
      obtain ⟨h3, h4⟩ := at_iff.mp h2
      have le : c ≤ a + (tl p).length := by
        by_cases z : c ≤ a + (tl p).length
        · exact z
        · exact absurd hA (h5 _ (by omega) (by omega))
      have e : c = a + (tl p).length := by
        by_cases z : c < a + (tl p).length
        · exact (sep_no S hx (hf p (by simp)) (.inr ⟨_, rfl⟩) h1 (.inl z) h3 h4).elim
        · omega
      have ly : y.length = (tl y).length := (tl_len y).symm
      have ih := cuts_parts S (q :: r) (c + y.length) f cs (by simp) (fun z hz => hf z (List.mem_cons_of_mem _ hz)) (by omega) (by
        rw [e, ly, ← List.drop_drop, ← List.drop_drop, hx, List.drop_left, List.drop_left]) h6 hn
      show strSub x a c :: partsFrom x y.length (c + y.length) cs = _
      rw [ih]
      congr 1
      apply tl_inj
      show (strSub x a c).cps.toList = _
      rw [strSub_toList]
      show ((tl x).drop a).take (c - a) = tl p
      rw [hx, e, show a + (tl p).length - a = (tl p).length by omega, List.take_left]
/-- split of a joined text -/
theorem split_join {y : Str} {b : Nat} (S : Sep y b) {parts : List Str} (hne : parts ≠ []) (hf : ∀ p ∈ parts, b ∉ tl p) : Txt.split (Str.join y parts) y = parts := by
  generalize hx : Str.join y parts = x
  have hy : 1 ≤ y.length := by
    obtain ⟨l, r, e, _⟩ := S.ex
    rw [← tl_len, e, List.length_append, List.length_cons]; omega
  obtain ⟨f, hG, hn⟩ := occ_tight x y hy
  have key := cuts_parts S parts 0 f _ hne hf (Nat.zero_le _) (by rw [List.drop_zero, hx]) hG hn
  unfold Txt.split
  split
  · rename_i hc
    rw [Bool.or_eq_true, decide_eq_true_eq, decide_eq_true_eq] at hc
    rcases hc with h | h
    · cases parts with
      | nil => exact absurd rfl hne
      | cons p r =>
        cases r with
        | nil => rw [← hx]; rfl
        | cons q r =>
          have e := congrArg (fun z => (tl z).length) hx
          rw [show Str.join y (p :: q :: r) = p ++ y ++ Str.join y (q :: r) from rfl, tl_app, tl_app, List.length_append, List.length_append, tl_len x, tl_len y] at e
          omega
    · exact absurd ⟨x, h⟩ S.k1
  · split
    · rename_i he
      rw [List.isEmpty_iff.mp he] at key
      rw [← key]
      show [x] = [strSub x 0 x.length]
      rw [sub_whole]
    · rw [partsBetween_eq]
      exact key
theorem kind_ge (x : Str) : 1 ≤ Builtin.Str.strKind x := by
  unfold Builtin.Str.strKind
  split
  · exact Nat.le_refl _
  · split <;> omega
theorem sep_of {y : Str} {b : Nat} {l r : List Nat} (e : tl y = l ++ b :: r) (hl : b ∉ l) (hk : Builtin.Str.strKind y = 1) : Sep y b := ⟨⟨l, r, e, hl⟩, fun ⟨x, h⟩ => by have := kind_ge x; omega⟩
theorem sep_sp : Sep (" " : Str) 32 := sep_of (l := []) (r := []) (by decide +kernel) (by simp) (by decide +kernel)
theorem sep_nl : Sep ("\n" : Str) 10 := sep_of (l := []) (r := []) (by decide +kernel) (by simp) (by decide +kernel)
theorem sep_semi : Sep (" ; " : Str) 59 := sep_of (l := [32]) (r := [32]) (by decide +kernel) (by simp) (by decide +kernel)
theorem sep_and : Sep (" & " : Str) 38 := sep_of (l := [32]) (r := [32]) (by decide +kernel) (by simp) (by decide +kernel)
theorem sep_comma : Sep (" , " : Str) 44 := sep_of (l := [32]) (r := [32]) (by decide +kernel) (by simp) (by decide +kernel)
end DL
set_option Elab.async false
set_option linter.all false
set_option maxRecDepth 100000
/-! PB: texts of numbers. -/
namespace DL
open PySem PySem.StrLaws PySem.W PySem.W.KIN PySem.NumText PyProof.Rows
def fig (m : Nat) : List Nat := (Nat.toDigits 10 m).map Char.toNat
theorem fig_all (m : Nat) : AllDigits (fig m) := by
  intro c hc
  obtain ⟨ch, hch, e⟩ := List.mem_map.mp hc
  have r := digit_range (Nat.isDigit_of_mem_toDigits (by decide) (by decide) hch)
  rw [← e]
  exact r
theorem fig_ne (m : Nat) : fig m ≠ [] := by
  intro e
  have h := toDigits_len_ge 10 m
  rw [List.map_eq_nil_iff.mp e] at h
  exact absurd h (by decide)
theorem fig_len {k m : Nat} (hk : 1 ≤ k) (h : m < 10 ^ k) : (fig m).length ≤ k := by
  unfold fig
  rw [List.length_map]
  exact toDigits_len_pow (by decide) hk h
theorem fig_val (m : Nat) : digitsVal (fig m) = m := val_back m
def numT (n : Int) : Str := Str.ofString (toString n)
theorem num_pos (m : Nat) : tl (numT (m : Int)) = fig m := signs_num m
theorem num_neg (m : Nat) : tl (numT (-((m + 1 : Nat) : Int))) = 45 :: fig (m + 1) := by
  show (Str.ofString (toString (Int.negSucc m))).cps.toList = _
  rw [signs_ofString]
  show (("-" ++ Nat.repr (m + 1) : String)).toList.map Char.toNat = _
  rw [String.toList_append, List.map_append, Nat.toList_repr]
  rfl
theorem num_cases (n : Int) : (∃ m : Nat, n = m ∧ tl (numT n) = fig m) ∨ ∃ m : Nat, n = -((m + 1 : Nat) : Int) ∧ tl (numT n) = 45 :: fig (m + 1) := by
  match n with
  | .ofNat m => exact .inl ⟨m, rfl, num_pos m⟩
  | .negSucc m => exact .inr ⟨m, rfl, num_neg m⟩
theorem num_len {k : Nat} {n : Int} (hk : 1 ≤ k) (h : n.natAbs < 10 ^ k) : (numT n).length ≤ k + 1 := by
  rw [← tl_len]
  rcases num_cases n with ⟨m, rfl, e⟩ | ⟨m, rfl, e⟩
  · rw [e]; have := fig_len (m := m) hk (by simpa using h); omega
  · rw [e, List.length_cons]; have := fig_len (m := m + 1) hk (by rw [Int.natAbs_neg, Int.natAbs_natCast] at h; exact h); omega
theorem num_reads {n : Int} (h : (numT n).length ≤ 4300) : PySem.intText? (numT n) = some n := by
  rcases num_cases n with ⟨m, e0, e⟩ | ⟨m, e0, e⟩
  · have e2 := intText_digits (x := numT n) (by rw [show (numT n).cps.toList = fig m from e]; exact fig_all m) (by rw [show (numT n).cps.toList = fig m from e]; exact fig_ne m) h
    rw [e2, show (numT n).cps.toList = fig m from e, fig_val, e0]
  · have e2 := intText_neg (x := numT n) e (fig_all _) (fig_ne _) h
    rw [e2, fig_val, e0]
/-- a number's figures do not begin with nought, but nought's -/
theorem fig_head : ∀ (m : Nat), m ≠ 0 → ∃ c r, fig m = c :: r ∧ c ≠ 48 := by
  intro m
  induction m using Nat.strongRecOn with
  | _ m ih =>
    intro h0
    by_cases h : m < 10
    · unfold fig
      rw [Nat.toDigits_of_lt_base h]
      refine ⟨_, [], rfl, ?_⟩
      have : ∀ d : Nat, d < 10 → d ≠ 0 → (Nat.digitChar d).toNat ≠ 48 := by decide
      exact this m h h0
    · have hm : m % 10 < 10 := Nat.mod_lt m (by decide)
      have t : Nat.toDigits 10 (m / 10) ++ Nat.toDigits 10 (m % 10) = Nat.toDigits 10 (10 * (m / 10) + m % 10) := Nat.toDigits_append_toDigits (by decide) (by omega) hm
      rw [Nat.div_add_mod] at t
      obtain ⟨c, r, e, hc⟩ := ih (m / 10) (by omega) (by omega)
      unfold fig at e ⊢
      rw [← t, List.map_append, e]
      exact ⟨c, _, rfl, hc⟩
theorem fig_zero : fig 0 = [48] := by decide
end DL
set_option Elab.async false
set_option linter.all false
set_option maxRecDepth 100000
/-! PC: mirrors run by simp. -/
namespace DL
open PySem L2 PySem.Spec PyProof.Rows RZ
section
variable {α β : Type} {ρ : Env} {k : α → Env → Res β} {a : α} {x : Exn} {d : D} {i : Nat}
@[simp] theorem x_ok : (Res.ok a ρ).bind k = k a ρ := Eq.trans rfl rfl
@[simp] theorem x_exc : (Res.exc x ρ).bind k = .exc x ρ := Eq.trans rfl rfl
@[simp] theorem x_bad : (Res.bad : Res α).bind k = .bad := rfl
@[simp] theorem x_C : mC d ρ = .ok d ρ := Eq.trans rfl rfl
theorem x_V (h : ρ[i]? = some (some (.d d))) : mV i ρ = .ok d ρ := by unfold mV; rw [h]
@[simp] theorem x_op1 {g : D → Option D} {ma : M D} : mOp1 g ma ρ = (ma ρ).bind fun x ρ1 => opt1 g x ρ1 := Eq.trans rfl rfl
@[simp] theorem x_op2 {g : D → D → Option D} {ma mb : M D} : mOp2 g ma mb ρ = (ma ρ).bind fun x ρ1 => (mb ρ1).bind fun y ρ2 => opt1 (g x) y ρ2 := Eq.trans rfl rfl
theorem x_opt1 {g : D → Option D} {z : D} (h : g d = some z) : opt1 g d ρ = .ok z ρ := by unfold opt1; rw [h]
@[simp] theorem x_mT {m : M D} : mT m ρ = (m ρ).bind fun x ρ1 => optT unB x ρ1 := Eq.trans rfl rfl
@[simp] theorem x_tru {m : M D} : mTru m ρ = (m ρ).bind fun x ρ1 => optT truD x ρ1 := Eq.trans rfl rfl
@[simp] theorem x_unB {b : Bool} : optT unB (.bl b) ρ = .ok b ρ := Eq.trans rfl rfl
@[simp] theorem x_truB {b : Bool} : optT truD (.bl b) ρ = .ok b ρ := Eq.trans rfl rfl
@[simp] theorem x_not {m : M Bool} : mNot m ρ = (m ρ).bind fun c ρ1 => .ok (!c) ρ1 := Eq.trans rfl rfl
@[simp] theorem x_and {ma mb : M Bool} : mAnd ma mb ρ = (ma ρ).bind fun c ρ1 => if c = true then mb ρ1 else .ok false ρ1 := Eq.trans rfl rfl
@[simp] theorem x_or {ma mb : M Bool} : mOr ma mb ρ = (ma ρ).bind fun c ρ1 => if c = true then .ok true ρ1 else mb ρ1 := Eq.trans rfl rfl
@[simp] theorem x_if {mc : M Bool} {ma mb : M α} : mIf mc ma mb ρ = (mc ρ).bind fun c ρ1 => if c = true then ma ρ1 else mb ρ1 := Eq.trans rfl rfl
@[simp] theorem x_nil : mNil ρ = .ok [] ρ := Eq.trans rfl rfl
@[simp] theorem x_cons {ma : M D} {ms : M (List D)} : mCons ma ms ρ = (ma ρ).bind fun x ρ1 => (ms ρ1).bind fun xs ρ2 => .ok (x :: xs) ρ2 := Eq.trans rfl rfl
@[simp] theorem x_seq {p q : MS} : sSeq p q ρ = (p ρ).then q := Eq.trans rfl rfl
@[simp] theorem x_snil : sNil ρ = .nx ρ := Eq.trans rfl rfl
@[simp] theorem x_nx {q : Env → SRes} : (SRes.nx ρ).then q = q ρ := Eq.trans rfl rfl
@[simp] theorem x_rt {q : Env → SRes} {o : O} {os : List O} : (SRes.rt o os).then q = .rt o os := rfl
@[simp] theorem x_bS {kk : α → Env → SRes} : bindS (.ok a ρ) kk = kk a ρ := Eq.trans rfl rfl
@[simp] theorem x_sif {mc : M Bool} {p q : MS} : sIf mc p q ρ = bindS (mc ρ) fun b ρ1 => if b = true then p ρ1 else q ρ1 := Eq.trans rfl rfl
@[simp] theorem x_ret0 {me : M D} : sRet 0 me ρ = bindS (me ρ) fun d _ => .rt (.d d) [] := Eq.trans rfl rfl
@[simp] theorem x_set {me : M D} : sSet i me ρ = bindS (me ρ) fun d ρ1 => optS (setE i (.d d) ρ1) := Eq.trans rfl rfl
end
/-! ### texts of ASCII signs -/
def Asc (x : Str) : Prop := ∀ c ∈ tl x, c < 128
theorem Asc.ok {x : Str} (h : Asc x) : PyData.strOk x = true := by
  unfold PyData.strOk
  rw [← Array.all_toList, List.all_eq_true]
  intro c hc
  have := h c hc
  exact decide_eq_true (by omega)
theorem Asc.app {x y : Str} (h : Asc x) (k : Asc y) : Asc (x ++ y) := fun c hc => by
  rw [tl_app] at hc
  exact (List.mem_append.mp hc).elim (h c) (k c)
theorem eq_str {x y : Str} (hx : Asc x) (hy : Asc y) : gEq (.str x) (.str y) = some (.bl (decide (x = y))) := by
  unfold gEq eqD
  simp [toPy, SeqAt.shaped, PyData.eqv, PyData.canLay0, PyData.depth, hx.ok, hy.ok]
  rfl
theorem ne_str {x y : Str} (hx : Asc x) (hy : Asc y) : gNe (.str x) (.str y) = some (.bl (!decide (x = y))) := by
  unfold gNe eqD
  simp [toPy, SeqAt.shaped, PyData.eqv, PyData.canLay0, PyData.depth, hx.ok, hy.ok]
  rfl
theorem gs_int {n : Int} (h : n.natAbs.log2 < 1920) : gStr2 (.int n) = some (.str (numT n)) := by
  show (if n.natAbs.log2 < 1920 then some (D.str (Str.ofString (toString n))) else none) = _
  rw [if_pos h]; rfl
theorem gs_str {z : Str} : gStr2 (.str z) = some (.str z) := rfl
theorem unSs_str : ∀ l : List Str, unSs (l.map D.str) = some l
  | [] => rfl
  | x :: l => by
    show (unSs (D.str x :: l.map D.str)) = _
    unfold unSs
    rw [unSs_str l] <;> rfl
theorem join_lst {z : Str} {l : List Str} (h : (l.map (·.length)).sum + l.length * z.length ≤ 16777216) : gJoin z (.lst (l.map D.str)) = some (.str (Str.join z l)) := by
  show ((unSs (l.map D.str)).bind fun ys => if (ys.map (·.length)).sum + ys.length * z.length ≤ 16777216 then some (D.str (Txt.join z ys)) else none) = _
  rw [unSs_str]
  show (if (l.map (·.length)).sum + l.length * z.length ≤ 16777216 then some (D.str (Txt.join z l)) else none) = _
  rw [if_pos h]
  show some (D.str (Builtin.Str.glued z l)) = _
  rw [StrLaws.glued_eq_join]
theorem num_asc (n : Int) : Asc (numT n) := fun c hc => by
  rcases num_cases n with ⟨m, _, e⟩ | ⟨m, _, e⟩
  · rw [e] at hc; have := fig_all _ c hc; omega
  · rw [e] at hc
    rcases List.mem_cons.mp hc with rfl | hc
    · decide
    · have := fig_all _ c hc; omega
end DL
set_option Elab.async false
set_option linter.all false
set_option maxRecDepth 100000
/-! PX: mirrors unfolded by simp. -/
namespace DL
open PySem L2 PySem.Spec PyProof.Rows RZ
section
variable {α β γ : Type} {ρ : Env} {a : α} {x : Exn} {d : D} {i n k : Nat} {o : O} {os : List O} {ds : List D}
@[simp] theorem y_V : mV i ρ = (match ρ[i]? with | some (some (.d x)) => .ok x ρ | _ => .bad) := Eq.trans rfl rfl
@[simp] theorem y_B : mB i ρ = (match ρ[i]? with | some (some o) => (match peek o with | some x => .ok x ρ | none => .bad) | _ => .bad) := Eq.trans rfl rfl
@[simp] theorem y_opt1 {g : D → Option D} : opt1 g d ρ = (match g d with | some z => .ok z ρ | none => .bad) := Eq.trans rfl rfl
@[simp] theorem y_optT {g : D → Option Bool} : optT g d ρ = (match g d with | some z => .ok z ρ | none => .bad) := Eq.trans rfl rfl
@[simp] theorem y_optN {g : D → Option (List D)} : optN g d ρ = (match g d with | some ds => .ok (.ls (ds.map O.d)) ρ | none => .bad) := Eq.trans rfl rfl
@[simp] theorem y_optI {g : α → Option β} : optI g a ρ = (match g a with | some y => .ok y ρ | none => .bad) := Eq.trans rfl rfl
@[simp] theorem y_opN {g : D → Option (List D)} {ma : M D} : mOpN g ma ρ = (ma ρ).bind fun x ρ1 => optN g x ρ1 := Eq.trans rfl rfl
@[simp] theorem y_andV {ma mb : M D} : mAndV ma mb ρ = (ma ρ).bind fun x ρ1 => (match truD x with | some true => mb ρ1 | some false => .ok x ρ1 | none => .bad) := Eq.trans rfl rfl
@[simp] theorem y_orV {ma mb : M D} : mOrV ma mb ρ = (ma ρ).bind fun x ρ1 => (match truD x with | some true => .ok x ρ1 | some false => mb ρ1 | none => .bad) := Eq.trans rfl rfl
@[simp] theorem y_m1 {g : Str → D → Option D} {ma mb : M D} : mM1 g ma mb ρ = (ma ρ).bind fun x ρ1 => (match x with | .str z => (mb ρ1).bind fun y ρ2 => opt1 (g z) y ρ2 | _ => .bad) := Eq.trans rfl rfl
@[simp] theorem y_m1n {g : Str → D → Option (List D)} {ma mb : M D} : mM1N g ma mb ρ = (ma ρ).bind fun x ρ1 => (match x with | .str z => (mb ρ1).bind fun y ρ2 => optN (g z) y ρ2 | _ => .bad) := Eq.trans rfl rfl
@[simp] theorem y_items {ma : M D} : mItems ma ρ = (ma ρ).bind fun x ρ1 => optI itemsOf x ρ1 := Eq.trans rfl rfl
@[simp] theorem y_itms {ma : M D} : mItms ma ρ = (ma ρ).bind fun x ρ1 => (match x with | .dk ks ds => .ok (itmD ks ds) ρ1 | _ => .bad) := Eq.trans rfl rfl
@[simp] theorem y_rng1 {ma : M D} : mRng1 ma ρ = (ma ρ).bind fun x ρ1 => (match x with | .int j => if g62 j = true then .ok (rngD 0 j.toNat) ρ1 else .bad | _ => .bad) := Eq.trans rfl rfl
@[simp] theorem y_enum {ma : M D} : mEnum ma ρ = (ma ρ).bind fun x ρ1 => (match x with | .lst ds => .ok (enumD ds) ρ1 | _ => .bad) := Eq.trans rfl rfl
@[simp] theorem y_bin {g : D → D → Option γ} {ma mb : M D} : mBin g ma mb ρ = (ma ρ).bind fun x ρ1 => (mb ρ1).bind fun y ρ2 => optI (g x) y ρ2 := Eq.trans rfl rfl
@[simp] theorem y_tup {ms : M (List D)} : mTup ms ρ = (ms ρ).bind fun xs ρ1 => if xs.length ≤ 16777216 then .ok (.tup xs) ρ1 else .bad := Eq.trans rfl rfl
@[simp] theorem y_lst {ms : M (List D)} : mLst ms ρ = (ms ρ).bind fun xs ρ1 => if xs.length ≤ 16777216 then .ok (.lst xs) ρ1 else .bad := Eq.trans rfl rfl
@[simp] theorem y_lso {ms : M (List D)} : mLsO ms ρ = (ms ρ).bind fun xs ρ1 => if xs.length ≤ 16777216 then .ok (.ls (xs.map O.d)) ρ1 else .bad := Eq.trans rfl rfl
@[simp] theorem y_nopart : mNoPart ρ = .ok none ρ := Eq.trans rfl rfl
@[simp] theorem y_part {ma : M D} : mPart ma ρ = (ma ρ).bind fun x ρ1 => (match x with | .int i => .ok (some i) ρ1 | _ => .bad) := Eq.trans rfl rfl
@[simp] theorem y_sl {ma : M D} {ml mh : M (Option Int)} : mSl ma ml mh ρ = (ma ρ).bind fun x ρ1 => (ml ρ1).bind fun l ρ2 => (mh ρ2).bind fun h ρ3 => (match gSl x l h with | some d => .ok d ρ3 | none => .bad) := Eq.trans rfl rfl
@[simp] theorem y_chain {g g' : D → D → Option D} {ma mb mc : M D} : mChain g g' ma mb mc ρ = (ma ρ).bind fun x ρ1 => (mb ρ1).bind fun y ρ2 => (match g x y with | some (.bl true) => (mc ρ2).bind fun z ρ3 => opt1 (g' y) z ρ3 | some (.bl false) => .ok (.bl false) ρ2 | _ => .bad) := Eq.trans rfl rfl
@[simp] theorem y_asg {me : M D} {t : D → Env → Option Env} : sAsg me t ρ = bindS (me ρ) fun d ρ1 => optS (t d ρ1) := Eq.trans rfl rfl
@[simp] theorem y_seto {me : M O} : sSetO i me ρ = bindS (me ρ) fun o ρ1 => optS (setE i o ρ1) := Eq.trans rfl rfl
@[simp] theorem y_drop {me : M D} : sDrop me ρ = bindS (me ρ) fun _ ρ1 => .nx ρ1 := Eq.trans rfl rfl
@[simp] theorem y_ret {me : M D} : sRet n me ρ = bindS (me ρ) fun d ρ1 => retS n (.d d) ρ1 := Eq.trans rfl rfl
@[simp] theorem y_reto {me : M O} : sRetO n me ρ = bindS (me ρ) fun o ρ1 => retS n o ρ1 := Eq.trans rfl rfl
@[simp] theorem y_retS : retS n o ρ = (match outsFrom 0 n ρ with | some outs => .rt o outs | none => .bad) := Eq.trans rfl rfl
@[simp] theorem y_outs0 : outsFrom k 0 ρ = some [] := Eq.trans rfl rfl
@[simp] theorem y_outsS : outsFrom k (n + 1) ρ = (match ρ[k]? with | some (some o) => (outsFrom (k + 1) n ρ).map (o :: ·) | _ => none) := Eq.trans rfl rfl
@[simp] theorem y_outs1 : outsFrom 0 1 ρ = (match ρ[0]? with | some (some o) => some [o] | _ => none) := by
  show (match ρ[0]? with | some (some o) => some [o] | _ => none) = _
  rfl
@[simp] theorem y_optS {e : Option Env} : optS e = (match e with | some ρ => .nx ρ | none => .bad) := Eq.trans rfl rfl
@[simp] theorem y_setE : setE i o ρ = if i < ρ.length then some (ρ.set i (some o)) else none := Eq.trans rfl rfl
@[simp] theorem y_tgN : tgN i d ρ = setE i (.d d) ρ := Eq.trans rfl rfl
@[simp] theorem y_tgNil : tgNil [] ρ = some ρ := Eq.trans rfl rfl
@[simp] theorem y_tgCons {t : D → Env → Option Env} {ts : List D → Env → Option Env} : tgCons t ts (d :: ds) ρ = (t d ρ).bind (ts ds) := Eq.trans rfl rfl
@[simp] theorem y_tgSeqT {ts : List D → Env → Option Env} : tgSeq n ts (.tup ds) ρ = if ds.length = n then ts ds ρ else none := Eq.trans rfl rfl
@[simp] theorem y_tgSeqL {ts : List D → Env → Option Env} : tgSeq n ts (.lst ds) ρ = if ds.length = n then ts ds ρ else none := Eq.trans rfl rfl
@[simp] theorem y_star {me : M D} {ts : List D → Env → Option Env} : sStar n i me ts ρ = bindS (me ρ) fun d ρ1 => (match seqD d with | some ds => if n ≤ ds.length + 1 then optS (ts (starD n i ds) ρ1) else .bad | none => .bad) := Eq.trans rfl rfl
@[simp] theorem y_seqT : seqD (.tup ds) = some ds := rfl
@[simp] theorem y_seqL : seqD (.lst ds) = some ds := rfl
@[simp] theorem y_D {m : M D} : mD m ρ = (m ρ).bind fun d ρ1 => .ok (.d d) ρ1 := Eq.trans rfl rfl
@[simp] theorem y_Pk {m : M O} : mPk m ρ = (m ρ).bind fun o ρ1 => (match peek o with | some d => .ok d ρ1 | none => .bad) := Eq.trans rfl rfl
@[simp] theorem y_call {is : List Nat} {F : List O → FRes} {dds : List D} {ma : M (List D)} : mCall n is F dds ma ρ = (match getS ρ is with | none => .bad | some _ => (ma ρ).bind fun ds ρ1 => goF n is F (ds ++ dds) ρ1) := Eq.trans rfl rfl
@[simp] theorem y_goF {is : List Nat} {F : List O → FRes} : goF n is F ds ρ = (if is.length + ds.length = n then (match getS ρ is with | some os => callR is (F (os ++ ds.map O.d)) ρ | none => .bad) else .bad) := Eq.trans rfl rfl
@[simp] theorem y_getS0 : getS ρ [] = some [] := Eq.trans rfl rfl
@[simp] theorem y_getS1 {is : List Nat} : getS ρ (i :: is) = (match ρ[i]?, getS ρ is with | some (some o), some os => some (o :: os) | _, _ => none) := Eq.trans rfl rfl
@[simp] theorem y_putS0 : putS [] os ρ = ρ := Eq.trans rfl rfl
@[simp] theorem y_putS1 {is : List Nat} : putS (i :: is) (o :: os) ρ = (putS is os ρ).set i (some o) := Eq.trans rfl rfl
@[simp] theorem y_callOk {is : List Nat} : callR is (.ok o os) ρ = .ok o (putS is os ρ) := Eq.trans rfl rfl
@[simp] theorem y_callExc {is : List Nat} : callR is (.exc x os) ρ = .exc x (putS is os ρ) := Eq.trans rfl rfl
@[simp] theorem y_fz {m : M O} : mFz m ρ = (m ρ).bind fun o ρ1 => (match frz o with | some d => .ok d ρ1 | none => .bad) := Eq.trans rfl rfl
@[simp] theorem y_frzD : frz (.d d) = some d := rfl
@[simp] theorem y_frzL : frz (.ls (ds.map O.d)) = some (.lst ds) := by show (unDs (ds.map O.d)).map D.lst = _; rw [unDs_map]; rfl
@[simp] theorem y_frzL0 : frz (.ls []) = some (.lst []) := rfl
@[simp] theorem y_peekD : peek (.d d) = some d := rfl
@[simp] theorem y_peekLm : peek (.ls (ds.map O.d)) = some (.lst ds) := by show some (D.lst ((ds.map O.d).map unAny)) = _; rw [map_unAny]
@[simp] theorem y_peekL : peek (.ls os) = some (.lst (os.map unAny)) := rfl
@[simp] theorem y_peekDk {ks : List Key} : peek (.dk ks os) = some (.dk ks (os.map unAny)) := rfl
@[simp] theorem y_unAnyD : unAny (.d d) = d := rfl
@[simp] theorem y_unAnyL : unAny (.ls os) = .any := rfl
@[simp] theorem y_unAnyC : List.map (unAny ∘ O.d) ds = ds := by rw [unAny_d, List.map_id]
@[simp] theorem y_ps : mPs i ρ = (match ρ[i]? with | some (some _) => .ok (i, []) ρ | _ => .bad) := Eq.trans rfl rfl
@[simp] theorem y_pf {C f : Str} {mp : M Pl} : mPf C f mp ρ = (mp ρ).bind fun pl ρ1 => if isIns C f ρ1 pl then .ok (pl.1, pl.2 ++ [.fld f]) ρ1 else .bad := Eq.trans rfl rfl
@[simp] theorem y_pi {mp : M Pl} {mi : M D} : mPi mp mi ρ = (mp ρ).bind fun pl ρ1 => (mi ρ1).bind fun d ρ2 => (match stpAt ρ2 pl d with | some s => .ok (pl.1, pl.2 ++ [s]) ρ2 | none => .bad) := Eq.trans rfl rfl
@[simp] theorem y_rd {mp : M Pl} : mRd mp ρ = (mp ρ).bind fun pl ρ1 => (match nodeAt ρ1 pl with | some (.d x) => .ok x ρ1 | _ => .bad) := Eq.trans rfl rfl
@[simp] theorem y_rdB {mp : M Pl} : mRdB mp ρ = (mp ρ).bind fun pl ρ1 => (match nodeAt ρ1 pl with | some o => (match peek o with | some x => .ok x ρ1 | none => .bad) | none => .bad) := Eq.trans rfl rfl
@[simp] theorem y_node {p : List Stp} : nodeAt ρ (i, p) = (match ρ[i]? with | some (some o) => getP p o | _ => none) := Eq.trans rfl rfl
@[simp] theorem y_putAt {p : List Stp} {o' : O} : putAt ρ (i, p) o' = (match ρ[i]? with | some (some o) => ρ.set i (some (setP p o o')) | _ => ρ) := Eq.trans rfl rfl
@[simp] theorem y_getP0 : getP [] o = some o := rfl
@[simp] theorem y_getP1 {s : Stp} {p : List Stp} : getP (s :: p) o = (match kidAt s o with | some (_, c) => getP p c | none => none) := rfl
@[simp] theorem y_setP0 {o1 : O} : setP [] o o1 = o1 := rfl
@[simp] theorem y_setP1 {s : Stp} {p : List Stp} {o1 : O} : setP (s :: p) o o1 = (match kidAt s o with | some (i, c) => withKids o ((kids o).set i (setP p c o1)) | none => o) := rfl
@[simp] theorem y_os {m : M (List D)} : mOs m ρ = (m ρ).bind fun ds ρ1 => .ok (ds.map O.d) ρ1 := Eq.trans rfl rfl
@[simp] theorem y_mut {T : String} {g : O → List O → Option (O × O)} {mp : M Pl} {mas : M (List O)} : mMut T g mp mas ρ = (mp ρ).bind fun pl ρ1 => if hasTy T ρ1 pl then (mas ρ1).bind fun as ρ2 => mutK g pl as ρ2 else .bad := Eq.trans rfl rfl
@[simp] theorem y_mutK {g : O → List O → Option (O × O)} {pl : Pl} : mutK g pl os ρ = (match nodeAt ρ pl with | some o => (match g o os with | some (o', b) => .ok b (putAt ρ pl o') | none => .bad) | none => .bad) := Eq.trans rfl rfl
@[simp] theorem y_hasTy {T : String} {pl : Pl} : hasTy T ρ pl = (match nodeAt ρ pl with | some o => decide (tyO o = some T) | none => false) := Eq.trans rfl rfl
@[simp] theorem y_tyL : tyO (.ls os) = some "list" := rfl
@[simp] theorem y_append : gAppend (.ls os) [o] = if os.length < 16777216 then some (.ls (os ++ [o]), .d .non) else none := rfl
@[simp] theorem y_extend : gExtend (.ls os) [.d (.lst ds)] = if os.length + ds.length ≤ 16777216 then some (.ls (os ++ ds.map O.d), .d .non) else none := rfl
@[simp] theorem y_meth {C m : Str} {is : List Nat} {F : List O → FRes} {dds : List D} {ma : M (List D)} : mMeth C m n i is F dds ma ρ = (match ρ[i]? with | some (some o) => if insIs C m o then mCall n (i :: is) F dds ma ρ else .bad | _ => .bad) := Eq.trans rfl rfl
@[simp] theorem y_sto {mp : M Pl} {mi : M D} {me : M O} : sSto mp mi me ρ = bindS (me ρ) fun x ρ1 => bindS (mp ρ1) fun pl ρ2 => bindS (mi ρ2) fun d ρ3 => sPut pl (fun o => setK o d x) ρ3 := Eq.trans rfl rfl
@[simp] theorem y_put {pl : Pl} {f : O → Option O} : sPut pl f ρ = (match nodeAt ρ pl with | some o => (match f o with | some o' => .nx (putAt ρ pl o') | none => .bad) | none => .bad) := Eq.trans rfl rfl
@[simp] theorem y_for {mi : M (List D)} {t : D → Env → Option Env} {mb : MS} : sFor mi t mb ρ = bindS (mi ρ) fun xs ρ1 => forX t mb xs ρ1 := Eq.trans rfl rfl
@[simp] theorem y_lcr {own : List Nat} {mi : M (List D)} {t : D → Env → Option Env} {mc : M Bool} {me : M D} : mLcR own mi t mc me ρ = (mi ρ).bind fun xs ρ1 => endR .lst own t mc me xs ρ1 := Eq.trans rfl rfl
@[simp] theorem y_lcro {own : List Nat} {mi : M (List D)} {t : D → Env → Option Env} {mc : M Bool} {me : M D} : mLcRO own mi t mc me ρ = (mi ρ).bind fun xs ρ1 => endR (fun ys => .ls (ys.map O.d)) own t mc me xs ρ1 := Eq.trans rfl rfl
@[simp] theorem y_lcx {own : List Nat} {mi : M (List D)} {t : D → Env → Option Env} {mc : M Bool} {me : M D} : mLcX own mi t mc me ρ = (mi ρ).bind fun xs ρ1 => endX .lst own t mc me xs ρ1 := Eq.trans rfl rfl
@[simp] theorem y_mov : mMov i ρ = (match ρ[i]? with | some (some o) => .ok o (ρ.set i none) | _ => .bad) := Eq.trans rfl rfl
@[simp] theorem y_addn {ma mb : M D} : mAddN ma mb ρ = (ma ρ).bind fun x ρ1 => (mb ρ1).bind fun y ρ2 => optN (gAddN x) y ρ2 := Eq.trans rfl rfl
@[simp] theorem y_get1 {ma mb : M D} : mGet1 ma mb ρ = (ma ρ).bind fun x ρ1 => (match x with | .dk ks ds => (mb ρ1).bind fun y ρ2 => (match keyD y with | some k => .ok (((ixOf k ks).bind fun i => ds[i]?).getD .non) ρ2 | none => .bad) | _ => .bad) := Eq.trans rfl rfl
@[simp] theorem y_bSok {kk : α → Env → SRes} {ρ' : Env} : bindS (.exc x ρ' : Res α) kk = .exc x ρ' := Eq.trans rfl rfl
@[simp] theorem y_truB {b : Bool} : truD (.bl b) = some b := rfl
@[simp] theorem y_unB {b : Bool} : unB (.bl b) = some b := rfl
@[simp] theorem y_yes : mYes ρ = .ok true ρ := Eq.trans rfl rfl
@[simp] theorem y_wipe0 : wipeE ρ [] = ρ := Eq.trans rfl rfl
@[simp] theorem y_wipe1 {is : List Nat} : wipeE ρ (i :: is) = (wipeE ρ is).set i none := Eq.trans rfl rfl
end
/-! ### what operators give -/
section
variable {i j : Int} {x y : Str} {a b c d e : D} {ds es : List D}
@[simp] theorem g_lenL : gLen (.lst ds) = some (.int ds.length) := rfl
@[simp] theorem g_lenT : gLen (.tup ds) = some (.int ds.length) := rfl
@[simp] theorem g_lenN {ns : List Int} : gLen (.scr ns) = some (.int ns.length) := rfl
theorem g_lenS (h : x.length ≤ 16777216) : gLen (.str x) = some (.int x.length) := if_pos h
@[simp] theorem g_addI : gAdd (.int i) (.int j) = some (.int (i + j)) := rfl
theorem g_addS (h : x.length + y.length ≤ 16777216) : gAdd (.str x) (.str y) = some (.str (x ++ y)) := if_pos h
@[simp] theorem g_addL : gAdd (.lst ds) (.lst es) = if ds.length + es.length ≤ 16777216 then some (.lst (ds ++ es)) else none := rfl
@[simp] theorem g_addT : gAdd (.tup ds) (.tup es) = if ds.length + es.length ≤ 16777216 then some (.tup (ds ++ es)) else none := rfl
@[simp] theorem g_addnL : gAddN (.lst ds) (.lst es) = if ds.length + es.length ≤ 16777216 then some (ds ++ es) else none := rfl
@[simp] theorem g_subI : gSub (.int i) (.int j) = some (.int (i - j)) := rfl
@[simp] theorem g_ltI : gLt (.int i) (.int j) = some (.bl (decide (i < j))) := rfl
@[simp] theorem g_gtI : gGt (.int i) (.int j) = some (.bl (decide (j < i))) := rfl
@[simp] theorem g_leI : gLe (.int i) (.int j) = some (.bl (decide (i ≤ j))) := rfl
@[simp] theorem g_geI : gGe (.int i) (.int j) = some (.bl (decide (j ≤ i))) := rfl
@[simp] theorem g_ltS : gLt (.str x) (.str y) = some (.bl (decide (tl x < tl y))) := rfl
@[simp] theorem g_geS : gGe (.str x) (.str y) = some (.bl (!decide (tl x < tl y))) := rfl
@[simp] theorem g_negI : gNeg (.int i) = some (.int (-i)) := rfl
@[simp] theorem g_intI : gInt (.int i) = some (.int i) := rfl
@[simp] theorem g_intB {b : Bool} : gInt (.bl b) = some (.int (if b then 1 else 0)) := rfl
@[simp] theorem g_tupL : gTuple (.lst ds) = some (.tup ds) := rfl
@[simp] theorem g_tupT : gTuple (.tup ds) = some (.tup ds) := rfl
@[simp] theorem g_strS : gStr2 (.str x) = some (.str x) := rfl
@[simp] theorem g_absI : gAbs (.int i) = some (.int (if i < 0 then -i else i)) := rfl
@[simp] theorem g_itemsL : itemsOf (.lst ds) = some ds := rfl
@[simp] theorem g_itemsT : itemsOf (.tup ds) = some ds := rfl
@[simp] theorem g_truL : truD (.lst ds) = some (!ds.isEmpty) := rfl
@[simp] theorem g_truT : truD (.tup ds) = some (!ds.isEmpty) := rfl
theorem g_truS (h : x.length ≤ 16777216) : truD (.str x) = some ((x.length : Int) != 0) := if_pos h
@[simp] theorem g_eqI : gEq (.int i) (.int j) = some (.bl (decide (i = j))) := by
  unfold gEq eqD
  simp [toPy, SeqAt.shaped, PyData.eqv, PyData.canLay0, PyData.depth]
  rfl
@[simp] theorem g_neI : gNe (.int i) (.int j) = some (.bl (!decide (i = j))) := by
  unfold gNe eqD
  simp [toPy, SeqAt.shaped, PyData.eqv, PyData.canLay0, PyData.depth]
  rfl
@[simp] theorem g_eqIS (h : Asc x) : gEq (.int i) (.str x) = some (.bl false) := by
  unfold gEq eqD
  simp [toPy, SeqAt.shaped, PyData.eqv, PyData.canLay0, PyData.depth, h.ok]
@[simp] theorem g_isiS : gIsi "str" (.str x) = some (.bl true) := rfl
@[simp] theorem g_isiI : gIsi "int" (.int i) = some (.bl true) := rfl
@[simp] theorem g_isiBI : gIsi "bool" (.int i) = some (.bl false) := rfl
@[simp] theorem g_isiIS : gIsi "int" (.str x) = some (.bl false) := rfl
@[simp] theorem g_isiSI : gIsi "str" (.int i) = some (.bl false) := rfl
@[simp] theorem g_isiT : gIsi "tuple" (.tup ds) = some (.bl true) := rfl
@[simp] theorem g_isiTS : gIsi "tuple" (.str x) = some (.bl false) := rfl
@[simp] theorem g_isiTI : gIsi "tuple" (.int i) = some (.bl false) := rfl
@[simp] theorem g_isiIT : gIsi "int" (.tup ds) = some (.bl false) := rfl
@[simp] theorem g_isiST : gIsi "str" (.tup ds) = some (.bl false) := rfl
@[simp] theorem g_notB {b : Bool} : gNotV (.bl b) = some (.bl (!b)) := rfl
/-! items at written places -/
theorem at_nat {α : Type} {xs : List α} {n : Nat} (h : n < xs.length) : atI xs (n : Int) = xs[n]? := by
  unfold atI ixN
  rw [if_pos (by omega), if_pos (by omega)]
  rfl
theorem at_back {α : Type} {xs : List α} {y : α} : atI (xs ++ [y]) (-1) = some y := by
  unfold atI ixN
  rw [if_neg (by omega), if_pos (by simp; omega)]
  have e : ((-1 : Int) + ((xs ++ [y]).length : Nat)).toNat = xs.length := by rw [List.length_append, List.length_singleton]; omega
  show (xs ++ [y])[((-1 : Int) + ((xs ++ [y]).length : Nat)).toNat]? = some y
  rw [e]
  simp
@[simp] theorem ix_t0 : gIxA (.tup (a :: ds)) (.int 0) = some a := by show atI (a :: ds) ((0 : Nat) : Int) = _; rw [at_nat (by simp)]; rfl
@[simp] theorem ix_t1 : gIxA (.tup (a :: b :: ds)) (.int 1) = some b := by show atI (a :: b :: ds) ((1 : Nat) : Int) = _; rw [at_nat (by simp)]; rfl
@[simp] theorem ix_t2 : gIxA (.tup (a :: b :: c :: ds)) (.int 2) = some c := by show atI (a :: b :: c :: ds) ((2 : Nat) : Int) = _; rw [at_nat (by simp)]; rfl
@[simp] theorem ix_t3 : gIxA (.tup (a :: b :: c :: d :: ds)) (.int 3) = some d := by show atI (a :: b :: c :: d :: ds) ((3 : Nat) : Int) = _; rw [at_nat (by simp)]; rfl
@[simp] theorem ix_l0 : gIxA (.lst (a :: ds)) (.int 0) = some a := by show atI (a :: ds) ((0 : Nat) : Int) = _; rw [at_nat (by simp)]; rfl
@[simp] theorem ix_l1 : gIxA (.lst (a :: b :: ds)) (.int 1) = some b := by show atI (a :: b :: ds) ((1 : Nat) : Int) = _; rw [at_nat (by simp)]; rfl
@[simp] theorem ix_l2 : gIxA (.lst (a :: b :: c :: ds)) (.int 2) = some c := by show atI (a :: b :: c :: ds) ((2 : Nat) : Int) = _; rw [at_nat (by simp)]; rfl
theorem ix_lm : gIxA (.lst (ds ++ [a])) (.int (-1)) = some a := at_back
theorem ix_tm : gIxA (.tup (ds ++ [a])) (.int (-1)) = some a := at_back
@[simp] theorem ix_tm1 : gIxA (.tup [a]) (.int (-1)) = some a := at_back (xs := [])
@[simp] theorem ix_tm2 : gIxA (.tup [a, b]) (.int (-1)) = some b := at_back (xs := [a])
theorem ix_lk {n : Nat} (h : n < ds.length) : gIxA (.lst ds) (.int n) = ds[n]? := at_nat h
theorem ix_tk {n : Nat} (h : n < ds.length) : gIxA (.tup ds) (.int n) = ds[n]? := at_nat h
/-! comprehensions -/
theorem lcR_map {α : Type} {own : List Nat} {t : D → Env → Option Env} {mc : M Bool} {me : M D} {ρ : Env} {f g : α → D} : ∀ {xs : List α}, (∀ x ∈ xs, ∃ ρ1 ρ2 ρ3, t (f x) (wipeE ρ own) = some ρ1 ∧ mc ρ1 = .ok true ρ2 ∧ me ρ2 = .ok (g x) ρ3) → lcR own t mc me ρ (xs.map f) = some (xs.map g)
  | [], _ => rfl
  | x :: xs, h => by
    obtain ⟨ρ1, ρ2, ρ3, h1, h2, h3⟩ := h x List.mem_cons_self
    rw [List.map_cons, lcR, h1]
    dsimp only
    rw [h2]
    dsimp only
    rw [h3]
    dsimp only
    rw [lcR_map fun y hy => h y (List.mem_cons_of_mem _ hy)] <;> rfl
theorem lcR_filter {α : Type} {own : List Nat} {t : D → Env → Option Env} {mc : M Bool} {me : M D} {ρ : Env} {f g : α → D} {p : α → Bool} : ∀ {xs : List α}, (∀ x ∈ xs, ∃ ρ1 ρ2, t (f x) (wipeE ρ own) = some ρ1 ∧ mc ρ1 = .ok (p x) ρ2 ∧ (p x = true → ∃ ρ3, me ρ2 = .ok (g x) ρ3)) → lcR own t mc me ρ (xs.map f) = some ((xs.filter p).map g)
  | [], _ => rfl
  | x :: xs, h => by
    obtain ⟨ρ1, ρ2, h1, h2, h3⟩ := h x List.mem_cons_self
    have ih := lcR_filter (own := own) (t := t) (mc := mc) (me := me) (ρ := ρ) (f := f) (g := g) (p := p) (xs := xs) fun y hy => h y (List.mem_cons_of_mem _ hy)
    rw [List.map_cons, lcR, h1]
    dsimp only
    rw [h2]
    cases hp : p x with
    | true =>
      dsimp only
      obtain ⟨ρ3, h3⟩ := h3 hp
      rw [h3]
      dsimp only
      rw [ih, List.filter_cons_of_pos hp] <;> rfl
    | false =>
      dsimp only
      rw [ih, List.filter_cons_of_neg (by rw [hp]; exact Bool.false_ne_true)]
theorem endR_map {α β : Type} {own : List Nat} {t : D → Env → Option Env} {mc : M Bool} {me : M D} {ρ : Env} {f g : α → D} {G : List D → β} {xs : List α} (hl : xs.length ≤ 16777216) (h : ∀ x ∈ xs, ∃ ρ1 ρ2 ρ3, t (f x) (wipeE ρ own) = some ρ1 ∧ mc ρ1 = .ok true ρ2 ∧ me ρ2 = .ok (g x) ρ3) : endR G own t mc me (xs.map f) ρ = .ok (G (xs.map g)) ρ := by
  unfold endR
  rw [lcR_map h]
  dsimp only
  rw [if_pos (by rw [List.length_map]; exact hl)]
theorem endR_filter {α β : Type} {own : List Nat} {t : D → Env → Option Env} {mc : M Bool} {me : M D} {ρ : Env} {f g : α → D} {G : List D → β} {p : α → Bool} {xs : List α} (hl : xs.length ≤ 16777216) (h : ∀ x ∈ xs, ∃ ρ1 ρ2, t (f x) (wipeE ρ own) = some ρ1 ∧ mc ρ1 = .ok (p x) ρ2 ∧ (p x = true → ∃ ρ3, me ρ2 = .ok (g x) ρ3)) : endR G own t mc me (xs.map f) ρ = .ok (G ((xs.filter p).map g)) ρ := by
  unfold endR
  rw [lcR_filter h]
  dsimp only
  rw [if_pos (by rw [List.length_map]; exact Nat.le_trans (List.length_filter_le _ _) hl)]
/-! all(..) -/
theorem unBs_fun {α : Type} {p : α → Bool} : ∀ xs : List α, unBs (xs.map fun x => D.bl (p x)) = some (xs.map p)
  | [] => rfl
  | x :: xs => by
    show (unBs (xs.map fun x => D.bl (p x))).map (p x :: ·) = _
    rw [unBs_fun xs] <;> rfl
theorem all_map {α : Type} {p : α → Bool} {xs : List α} : gAll (.lst (xs.map fun x => D.bl (p x))) = some (.bl (xs.all p)) := by
  show (unBs _).map _ = _
  rw [unBs_fun]
  show some (D.bl ((xs.map p).all id)) = _
  rw [List.all_map]; rfl
end
/-! ### what is compared with an empty list, an empty tuple -/
theorem eq_of_py {x y : D} {p q : PyData} (hx : toPy x = some p) (hy : toPy y = some q) (h1 : SeqAt.shaped p = true) (h2 : SeqAt.shaped q = true) : gEq x y = some (.bl (PyData.eqv p q)) ∧ gNe x y = some (.bl (!PyData.eqv p q)) := by
  unfold gEq gNe eqD
  rw [hx, hy]
  dsimp only
  rw [h1, h2]
  exact ⟨rfl, rfl⟩
end DL
set_option Elab.async false
set_option linter.all false
set_option maxRecDepth 100000
/-! PD: systems as plain data, and their texts. -/
namespace DL
open PySem
inductive Wo where
  | told
  | slot (k : Nat)
  | num (n : Int)
structure Te where
  what : Option Nat
  sign : Nat
  num : Int
inductive Ac where
  | rest
  | send (road word : Str) (w : Wo)
  | set (kind : Nat) (slot : Nat) (w : Wo)
structure Ru where
  wh : Option Str
  tests : List Te
  acts : List Ac
structure Ro where
  road : Str
  one : Str
  other : Str
  way : Nat
structure Sy where
  houses : List Str
  roads : List Ro
  progs : List (List Ru)
def signW : Nat → Str
  | 0 => "under"
  | 1 => "is"
  | _ => "over"
def signT : Nat → Str
  | 0 => "<"
  | 1 => "="
  | _ => ">"
def setW : Nat → Str
  | 0 => "put"
  | 1 => "add"
  | _ => "less"
def wayW : Nat → Str
  | 0 => "row"
  | _ => "loose"
def Wo.d : Wo → D
  | .told => .tup [.str "told"]
  | .slot k => .tup [.str "slot", .int k]
  | .num n => .int n
def Te.d (t : Te) : D := .tup [match t.what with | none => .str "told" | some k => .int k, .str (signW t.sign), .int t.num]
def Ac.d : Ac → D
  | .rest => .tup [.str "rest"]
  | .send r w x => .tup [.str "send", .str r, .str w, x.d]
  | .set k s x => .tup [.str (setW k), .int s, x.d]
def whD : Option Str → D
  | none => .tup [.str "self"]
  | some w => .tup [.str "letter", .str w]
def Ru.d (r : Ru) : D := .tup [whD r.wh, .tup (r.tests.map Te.d), .tup (r.acts.map Ac.d)]
def Ro.d (r : Ro) : D := .tup [.str r.road, .str r.one, .str r.other, .str (wayW r.way)]
def Sy.net (s : Sy) : D := .tup [.tup (s.houses.map .str), .tup (s.roads.map Ro.d)]
def Sy.d (s : Sy) : D := .tup [s.net, .tup (s.progs.map fun p => .tup (p.map Ru.d))]
/-! ### their texts -/
def slotT (k : Nat) : Str := "s" ++ numT k
def Wo.t : Wo → Str
  | .told => "told"
  | .slot k => slotT k
  | .num n => numT n
def Te.t (t : Te) : Str := Str.join " " [match t.what with | none => "told" | some k => slotT k, signT t.sign, numT t.num]
def Ac.t : Ac → Str
  | .rest => "rest"
  | .send r w x => Str.join " " ["send", r, w, x.t]
  | .set k s x => Str.join " " [setW k, slotT s, x.t]
def dotT (sep : Str) : List Str → Str
  | [] => "."
  | l => Str.join sep l
def whT : Option Str → Str
  | none => "self"
  | some w => "on " ++ w
def Ru.body (r : Ru) : Str := Str.join " ; " [whT r.wh, dotT " & " (r.tests.map Te.t), dotT " , " (r.acts.map Ac.t)]
def Ru.t (h : Str) (r : Ru) : Str := "rule " ++ h ++ " " ++ r.body
def Ro.t (r : Ro) : Str := Str.join " " ["road", r.road, r.one, r.other, wayW r.way]
def Sy.lines (s : Sy) : List Str := s.houses.map (fun h => ("house " : Str) ++ h) ++ s.roads.map Ro.t ++ ((s.houses.zip s.progs).map fun q => q.2.map (Ru.t q.1)).flatten
def endT (l : List Str) : Str := Str.join "" (l.map fun x => x ++ "\n")
def Sy.t (s : Sy) : Str := endT s.lines
/-! ### which are systems -/
def Nm (x : Str) : Prop := 1 ≤ (tl x).length ∧ (tl x).length ≤ 8 ∧ ∀ c ∈ tl x, 97 ≤ c ∧ c ≤ 122
def Nu (n : Int) : Prop := n.natAbs < 10 ^ 30
def Wo.ok (b : Bool) : Wo → Prop
  | .told => b = true
  | .slot k => k < 3
  | .num n => Nu n
def Te.ok (b : Bool) (t : Te) : Prop := (match t.what with | none => b = true | some k => k < 3) ∧ t.sign < 3 ∧ Nu t.num
def Ac.ok (out : List Str) (b : Bool) : Ac → Prop
  | .rest => True
  | .send r w x => r ∈ out ∧ Nm r ∧ Nm w ∧ x.ok b
  | .set k s x => k < 3 ∧ s < 3 ∧ x.ok b
structure Ru.ok (out : List Str) (r : Ru) : Prop where
  wh : ∀ w, r.wh = some w → Nm w
  lt : r.tests.length ≤ 3
  la : r.acts.length ≤ 4
  te : ∀ t ∈ r.tests, t.ok r.wh.isSome
  ac : ∀ a ∈ r.acts, a.ok out r.wh.isSome
structure Ro.ok (hs : List Str) (r : Ro) : Prop where
  nm : Nm r.road
  one : r.one ∈ hs
  other : r.other ∈ hs
  ne : r.one ≠ r.other
  way : r.way < 2
def outs (s : Sy) (h : Str) : List Str := (s.roads.filter fun r => decide (r.one = h)).map Ro.road
structure Sy.ok (s : Sy) : Prop where
  nm : ∀ h ∈ s.houses, Nm h
  h1 : 1 ≤ s.houses.length
  h5 : s.houses.length ≤ 5
  hs : s.houses.Pairwise fun x y => tl x < tl y
  r8 : s.roads.length ≤ 8
  ro : ∀ r ∈ s.roads, r.ok s.houses
  rs : s.roads.Pairwise fun x y => tl x.road < tl y.road
  pl : s.progs.length = s.houses.length
  p8 : ∀ p ∈ s.progs, p.length ≤ 8
  pr : ∀ q ∈ s.houses.zip s.progs, ∀ r ∈ q.2, r.ok (outs s q.1)
end DL
set_option Elab.async false
set_option linter.all false
set_option maxRecDepth 100000
/-! PY: written texts, lengths, names. -/
namespace DL
open PySem L2 PySem.Spec PyProof.Rows RZ
theorem len_app (x y : Str) : (x ++ y).length = x.length + y.length := by rw [← tl_len, tl_app, List.length_append, tl_len, tl_len]
theorem lit_tl (s : String) : tl (Str.ofString s) = s.toList.map Char.toNat := signs_ofString s
@[simp] theorem lit_len (s : String) : (Str.ofString s).length = s.length := by rw [← tl_len, lit_tl, List.length_map, String.length_toList]
@[simp] theorem lit_asc {s : String} (h : (s.toList.all fun c => decide (c.toNat < 128)) = true) : Asc (Str.ofString s) := fun c hc => by
  rw [lit_tl] at hc
  obtain ⟨d, hd, rfl⟩ := List.mem_map.mp hc
  exact of_decide_eq_true (List.all_eq_true.mp h d hd)
@[simp] theorem lit_eq (a b : String) : (Str.ofString a = Str.ofString b) = (a = b) := propext ⟨fun h => by
  have h2 : a.toList.map Char.toNat = b.toList.map Char.toNat := by rw [← lit_tl, ← lit_tl, h]
  have inj : Function.Injective Char.toNat := fun x y e => Char.toNat_inj.mp e
  exact String.toList_inj.mp ((List.map_inj_right inj).mp h2), fun h => by rw [h]⟩
@[simp] theorem sEq {x y : Str} (hx : Asc x) (hy : Asc y) : gEq (.str x) (.str y) = some (.bl (decide (x = y))) := DL.eq_str hx hy
@[simp] theorem sNe {x y : Str} (hx : Asc x) (hy : Asc y) : gNe (.str x) (.str y) = some (.bl (!decide (x = y))) := DL.ne_str hx hy
/-! ### lengths -/
theorem join1 (z a : Str) : Str.join z [a] = a := rfl
theorem join2 (z a b : Str) (l : List Str) : Str.join z (a :: b :: l) = a ++ z ++ Str.join z (b :: l) := rfl
theorem join_asc {z : Str} (hz : Asc z) : ∀ {l : List Str}, (∀ x ∈ l, Asc x) → Asc (Str.join z l)
  | [], _ => fun c hc => by cases hc
  | [x], h => h x (by simp)
  | x :: y :: l, h => by
    rw [join2]
    exact ((h x (by simp)).app hz).app (join_asc hz fun a ha => h a (List.mem_cons_of_mem _ ha))
theorem join_len (z : Str) : ∀ {l : List Str}, (Str.join z l).length ≤ (l.map (·.length)).sum + l.length * z.length
  | [] => Nat.zero_le _
  | [x] => by show x.length ≤ x.length + 0 + 1 * z.length; omega
  | x :: y :: l => by
    have ih := join_len z (l := y :: l)
    rw [join2, len_app, len_app, List.map_cons, List.sum_cons, List.length_cons]
    rw [Nat.succ_mul]
    omega
theorem sum_le {α : Type} {g : α → Nat} {m : Nat} : ∀ {l : List α}, (∀ x ∈ l, g x ≤ m) → (l.map g).sum ≤ l.length * m
  | [], _ => Nat.zero_le _
  | x :: l, h => by
    have ih := sum_le (l := l) fun y hy => h y (List.mem_cons_of_mem _ hy)
    have h1 := h x List.mem_cons_self
    rw [List.map_cons, List.sum_cons, List.length_cons, Nat.succ_mul]
    omega
theorem Nm.asc {x : Str} (h : Nm x) : Asc x := fun c hc => by have := h.2.2 c hc; omega
theorem Nm.len {x : Str} (h : Nm x) : x.length ≤ 8 := by rw [← tl_len]; exact h.2.1
theorem nu_len {n : Int} (h : Nu n) : (numT n).length ≤ 31 := num_len (by decide) h
theorem nu_log {n : Int} (h : Nu n) : n.natAbs.log2 < 1920 := by
  have h1 : n.natAbs < 2 ^ 1920 := Nat.lt_of_lt_of_le h (by decide)
  by_cases z : n.natAbs = 0
  · rw [z]; decide
  · exact (Nat.log2_lt z).mpr h1
theorem nu_3 {k : Nat} (h : k < 3) : Nu (k : Int) := by
  show ((k : Int)).natAbs < _
  rw [Int.natAbs_natCast]
  exact Nat.lt_of_lt_of_le h (by decide)
theorem slot_len {k : Nat} (h : k < 3) : (slotT k).length ≤ 2 := by
  match k, h with
  | 0, _ => exact Nat.le_of_eq rfl
  | 1, _ => exact Nat.le_of_eq rfl
  | 2, _ => exact Nat.le_of_eq rfl
theorem slot_asc (k : Nat) : Asc (slotT k) := (lit_asc (s := "s") rfl).app (num_asc _)
theorem Wo.asc {b : Bool} {w : Wo} (h : w.ok b) : Asc w.t := by
  cases w with
  | told => exact lit_asc rfl
  | slot k => exact slot_asc k
  | num n => exact num_asc n
theorem Wo.len {b : Bool} {w : Wo} (h : w.ok b) : w.t.length ≤ 31 := by
  cases w with
  | told => exact (by decide : (4 : Nat) ≤ 31)
  | slot k => exact Nat.le_trans (slot_len h) (by decide)
  | num n => exact nu_len h
theorem sign_asc (k : Nat) : Asc (signT k) := by
  match k with
  | 0 => exact lit_asc rfl
  | 1 => exact lit_asc rfl
  | _ + 2 => exact lit_asc rfl
theorem sign_len (k : Nat) : (signT k).length = 1 := by
  match k with
  | 0 => rfl
  | 1 => rfl
  | _ + 2 => rfl
theorem set_asc (k : Nat) : Asc (setW k) := by
  match k with
  | 0 => exact lit_asc rfl
  | 1 => exact lit_asc rfl
  | _ + 2 => exact lit_asc rfl
theorem set_len (k : Nat) : (setW k).length ≤ 4 := by
  match k with
  | 0 => exact (by decide : (3 : Nat) ≤ 4)
  | 1 => exact (by decide : (3 : Nat) ≤ 4)
  | _ + 2 => exact Nat.le_refl 4
theorem way_asc (k : Nat) : Asc (wayW k) := by
  match k with
  | 0 => exact lit_asc rfl
  | _ + 1 => exact lit_asc rfl
theorem way_len (k : Nat) : (wayW k).length ≤ 5 := by
  match k with
  | 0 => exact (by decide : (3 : Nat) ≤ 5)
  | _ + 1 => exact Nat.le_refl 5
def whatT : Option Nat → Str
  | none => "told"
  | some k => slotT k
theorem Te.t_eq (t : Te) : t.t = Str.join " " [whatT t.what, signT t.sign, numT t.num] := by
  unfold Te.t
  cases t.what <;> rfl
def whatD : Option Nat → D
  | none => .str "told"
  | some k => .int k
theorem Te.d_eq (t : Te) : t.d = .tup [whatD t.what, .str (signW t.sign), .int t.num] := by
  unfold Te.d
  cases t.what <;> rfl
theorem Te.ok1 {b : Bool} {t : Te} (h : t.ok b) : ∀ k, t.what = some k → k < 3 := fun k e => by
  have h1 := h.1
  rw [e] at h1
  exact h1
theorem Te.ok0 {b : Bool} {t : Te} (h : t.ok b) (e : t.what = none) : b = true := by
  have h1 := h.1
  rw [e] at h1
  exact h1
theorem what_asc (o : Option Nat) : Asc (whatT o) := by
  cases o with
  | none => exact lit_asc rfl
  | some k => exact slot_asc k
theorem what_len {o : Option Nat} (h : ∀ k, o = some k → k < 3) : (whatT o).length ≤ 4 := by
  cases o with
  | none => exact Nat.le_refl 4
  | some k => exact Nat.le_trans (slot_len (h k rfl)) (by decide)
theorem sp_asc : Asc (" " : Str) := lit_asc rfl
theorem Te.asc (t : Te) : Asc t.t := by
  rw [Te.t_eq]
  refine join_asc sp_asc fun x hx => ?_
  simp only [List.mem_cons, List.not_mem_nil, or_false] at hx
  rcases hx with rfl | rfl | rfl
  · exact what_asc _
  · exact sign_asc _
  · exact num_asc _
theorem Te.len {b : Bool} {t : Te} (h : t.ok b) : t.t.length ≤ 38 := by
  rw [Te.t_eq]
  have h1 := what_len (Te.ok1 h)
  have h2 := sign_len t.sign
  have h3 := nu_len h.2.2
  show (whatT t.what ++ " " ++ (signT t.sign ++ " " ++ numT t.num)).length ≤ 38
  simp only [len_app, lit_len]
  have : (" " : String).length = 1 := rfl
  omega
theorem Ac.asc {out : List Str} {b : Bool} {a : Ac} (h : a.ok out b) : Asc a.t := by
  cases a with
  | rest => exact lit_asc rfl
  | send r w x =>
    refine join_asc sp_asc fun z hz => ?_
    simp only [List.mem_cons, List.not_mem_nil, or_false] at hz
    rcases hz with rfl | rfl | rfl | rfl
    · exact lit_asc rfl
    · exact h.2.1.asc
    · exact h.2.2.1.asc
    · exact Wo.asc h.2.2.2
  | set k s x =>
    refine join_asc sp_asc fun z hz => ?_
    simp only [List.mem_cons, List.not_mem_nil, or_false] at hz
    rcases hz with rfl | rfl | rfl
    · exact set_asc _
    · exact slot_asc _
    · exact Wo.asc h.2.2
theorem Ac.len {out : List Str} {b : Bool} {a : Ac} (h : a.ok out b) : a.t.length ≤ 60 := by
  have e : (" " : String).length = 1 := rfl
  cases a with
  | rest => exact (by decide : (4 : Nat) ≤ 60)
  | send r w x =>
    have h1 := h.2.1.len
    have h2 := h.2.2.1.len
    have h3 := Wo.len h.2.2.2
    show (("send" : Str) ++ " " ++ (r ++ " " ++ (w ++ " " ++ x.t))).length ≤ 60
    simp only [len_app, lit_len]
    have : ("send" : String).length = 4 := rfl
    omega
  | set k s x =>
    have h1 := set_len k
    have h2 := slot_len h.2.1
    have h3 := Wo.len h.2.2
    show (setW k ++ " " ++ (slotT s ++ " " ++ x.t)).length ≤ 60
    simp only [len_app, lit_len]
    omega
theorem dot_asc {z : Str} (hz : Asc z) {l : List Str} (h : ∀ x ∈ l, Asc x) : Asc (dotT z l) := by
  cases l with
  | nil => exact lit_asc rfl
  | cons x r => exact join_asc hz h
theorem dot_len {z : Str} {l : List Str} {m n : Nat} (hz : z.length ≤ 3) (h : ∀ x ∈ l, x.length ≤ m) (hl : l.length ≤ n) : (dotT z l).length ≤ 1 + n * (m + 3) := by
  cases l with
  | nil => exact Nat.le_trans (Nat.le_refl 1) (Nat.le_add_right _ _)
  | cons x r =>
    have h1 := join_len z (l := x :: r)
    have h2 := sum_le (g := fun y : Str => y.length) h
    have h3 : (x :: r).length * m ≤ n * m := Nat.mul_le_mul_right m hl
    have h4 : (x :: r).length * z.length ≤ n * 3 := Nat.mul_le_mul hl hz
    have h5 : n * (m + 3) = n * m + n * 3 := Nat.mul_add _ _ _
    show (Str.join z (x :: r)).length ≤ _
    omega
theorem wh_asc {o : Option Str} (h : ∀ w, o = some w → Nm w) : Asc (whT o) := by
  cases o with
  | none => exact lit_asc rfl
  | some w => exact (lit_asc (s := "on ") rfl).app (h w rfl).asc
theorem wh_len {o : Option Str} (h : ∀ w, o = some w → Nm w) : (whT o).length ≤ 11 := by
  cases o with
  | none => exact (by decide : (4 : Nat) ≤ 11)
  | some w =>
    have h1 := (h w rfl).len
    show (("on " : Str) ++ w).length ≤ 11
    rw [len_app, lit_len]
    have : ("on " : String).length = 3 := rfl
    omega
theorem and_len : (" & " : Str).length = 3 := rfl
theorem com_len : (" , " : Str).length = 3 := rfl
theorem semi_len : (" ; " : Str).length = 3 := rfl
section
variable {out : List Str} {r : Ru} {h : Str}
theorem Ru.tests_len (k : r.ok out) : (dotT " & " (r.tests.map Te.t)).length ≤ 130 := by
  refine Nat.le_trans (dot_len (m := 38) (n := 3) (Nat.le_of_eq and_len) (fun x hx => ?_) (by rw [List.length_map]; exact k.lt)) (by decide)
  obtain ⟨t, ht, rfl⟩ := List.mem_map.mp hx
  exact Te.len (k.te t ht)
theorem Ru.acts_len (k : r.ok out) : (dotT " , " (r.acts.map Ac.t)).length ≤ 260 := by
  refine Nat.le_trans (dot_len (m := 60) (n := 4) (Nat.le_of_eq com_len) (fun x hx => ?_) (by rw [List.length_map]; exact k.la)) (by decide)
  obtain ⟨t, ht, rfl⟩ := List.mem_map.mp hx
  exact Ac.len (k.ac t ht)
theorem Ru.tests_asc (k : r.ok out) : Asc (dotT " & " (r.tests.map Te.t)) := dot_asc (lit_asc rfl) fun x hx => by
  obtain ⟨t, ht, rfl⟩ := List.mem_map.mp hx
  exact Te.asc t
theorem Ru.acts_asc (k : r.ok out) : Asc (dotT " , " (r.acts.map Ac.t)) := dot_asc (lit_asc rfl) fun x hx => by
  obtain ⟨t, ht, rfl⟩ := List.mem_map.mp hx
  exact Ac.asc (k.ac t ht)
theorem Ru.body_eq : r.body = whT r.wh ++ " ; " ++ (dotT " & " (r.tests.map Te.t) ++ " ; " ++ dotT " , " (r.acts.map Ac.t)) := rfl
theorem Ru.body_len (k : r.ok out) : r.body.length ≤ 420 := by
  have h1 := wh_len k.wh
  have h2 := Ru.tests_len k
  have h3 := Ru.acts_len k
  rw [Ru.body_eq]
  simp only [len_app, semi_len]
  omega
theorem Ru.body_asc (k : r.ok out) : Asc r.body := by
  rw [Ru.body_eq]
  have hs : Asc (" ; " : Str) := lit_asc rfl
  exact ((wh_asc k.wh).app hs).app (((Ru.tests_asc k).app hs).app (Ru.acts_asc k))
theorem Ru.t_len (hn : Nm h) (k : r.ok out) : (r.t h).length ≤ 440 := by
  have h1 := hn.len
  have h2 := Ru.body_len k
  show (("rule " : Str) ++ h ++ " " ++ r.body).length ≤ 440
  simp only [len_app, lit_len]
  have e1 : ("rule " : String).length = 5 := rfl
  have e2 : (" " : String).length = 1 := rfl
  omega
theorem Ru.t_asc (hn : Nm h) (k : r.ok out) : Asc (r.t h) := (((lit_asc (s := "rule ") rfl).app hn.asc).app sp_asc).app (Ru.body_asc k)
end
theorem Ro.parts_asc {hs : List Str} {r : Ro} (hn : ∀ h ∈ hs, Nm h) (k : r.ok hs) : ∀ x ∈ [("road" : Str), r.road, r.one, r.other, wayW r.way], Asc x := fun z hz => by
  simp only [List.mem_cons, List.not_mem_nil, or_false] at hz
  rcases hz with rfl | rfl | rfl | rfl | rfl
  · exact lit_asc rfl
  · exact k.nm.asc
  · exact (hn _ k.one).asc
  · exact (hn _ k.other).asc
  · exact way_asc _
theorem Ro.t_asc {hs : List Str} {r : Ro} (hn : ∀ h ∈ hs, Nm h) (k : r.ok hs) : Asc r.t := join_asc sp_asc (Ro.parts_asc hn k)
theorem Ro.t_len {hs : List Str} {r : Ro} (hn : ∀ h ∈ hs, Nm h) (k : r.ok hs) : r.t.length ≤ 440 := by
  have h1 := k.nm.len
  have h2 := (hn _ k.one).len
  have h3 := (hn _ k.other).len
  have h4 := way_len r.way
  show (("road" : Str) ++ " " ++ (r.road ++ " " ++ (r.one ++ " " ++ (r.other ++ " " ++ wayW r.way)))).length ≤ 440
  simp only [len_app, lit_len]
  have e1 : ("road" : String).length = 4 := rfl
  have e2 : (" " : String).length = 1 := rfl
  omega
theorem Ac.pos (a : Ac) : 1 ≤ a.t.length := by
  cases a with
  | rest => exact (by decide : 1 ≤ 4)
  | send r w x =>
    show 1 ≤ (("send" : Str) ++ " " ++ (r ++ " " ++ (w ++ " " ++ x.t))).length
    simp only [len_app, lit_len]
    have : ("send" : String).length = 4 := rfl
    omega
  | set k s x =>
    show 1 ≤ (setW k ++ " " ++ (slotT s ++ " " ++ x.t)).length
    simp only [len_app, lit_len]
    have : (" " : String).length = 1 := rfl
    omega
section
variable {nio : Nat} {ρ : Env} {kf : List O → FRes}
@[simp] theorem y_wO0 : withOuts 0 ρ kf = kf [] := rfl
@[simp] theorem y_wO1 : withOuts 1 ρ kf = (match ρ[0]? with | some (some o) => kf [o] | _ => .bad) := by
  unfold withOuts
  rw [y_outs1]
  cases h : ρ[0]? with
  | none => rfl
  | some a => cases a <;> rfl
end
end DL
set_option Elab.async false
set_option linter.all false
set_option maxRecDepth 100000
/-! PZ: comprehensions with one name, with two walks; lists that grow. -/
namespace DL
open PySem L2 PySem.Spec PyProof.Rows RZ
section
variable {α β : Type} {i j n : Nat} {ρ ρ3 : Env} {x r : D} {xs : List α} {f g : α → D} {F : List O → FRes} {me : M D} {G : List D → β} {z : Str}
theorem endR_1 (hi : i < ρ.length) (hl : xs.length ≤ 16777216) (h : ∀ x ∈ xs, ∃ ρ3, me (ρ.set i (some (.d (f x)))) = .ok (g x) ρ3) : endR G [i] (tgN i) mYes me (xs.map f) ρ = .ok (G (xs.map g)) ρ :=
  endR_map hl fun x hx => by
    obtain ⟨ρ3, e⟩ := h x hx
    exact ⟨ρ.set i (some (.d (f x))), _, ρ3, by simp [hi], rfl, e⟩
theorem call1 (hi : i < ρ.length) (h : F [.d x] = .ok (.d r) []) : mFz (mCall 1 [] F [] (mCons (mV i) mNil)) (ρ.set i (some (.d x))) = .ok r (ρ.set i (some (.d x))) := by
  simp [hi, h]
theorem callO1 (hi : i < ρ.length) {ds : List D} (h : F [.d x] = .ok (.ls (ds.map O.d)) []) : mFz (mCall 1 [] F [] (mCons (mV i) mNil)) (ρ.set i (some (.d x))) = .ok (.lst ds) (ρ.set i (some (.d x))) := by
  simp [hi, h]
theorem orDot {g : α → Str} {me : M D} (hi : i < ρ.length) (hj : ρ[j]? = some (some (.d (.tup (xs.map f))))) (hF : ∀ x ∈ xs, ∃ ρ3, me (ρ.set i (some (.d (f x)))) = .ok (.str (g x)) ρ3) (hl : xs.length ≤ 16777216) (h1 : ∀ x ∈ xs, 1 ≤ (g x).length)
    (hs : ((xs.map g).map (·.length)).sum + (xs.map g).length * z.length ≤ 16777216) :
    mOrV (mM1 gJoin (mC (.str z)) (mLcR [i] (mItems (mV j)) (tgN i) mYes me)) (mC (.str ".")) ρ = .ok (.str (dotT z (xs.map g))) ρ := by
  have e := endR_1 (G := D.lst) (g := fun x => .str (g x)) hi hl hF
  have hjn := join_lst (z := z) (l := xs.map g) hs
  have hle := join_len z (l := xs.map g)
  rw [List.map_map] at hjn
  simp only [y_orV, y_m1, x_C, x_ok, y_lcr, y_items, y_V, hj, y_optI, g_itemsT, e, y_opt1]
  rw [show (fun x => D.str (g x)) = D.str ∘ g from rfl, hjn]
  dsimp only [x_ok]
  rw [x_ok, g_truS (Nat.le_trans hle hs)]
  cases xs with
  | nil => rfl
  | cons a l =>
    have hp : 1 ≤ (Str.join z ((a :: l).map g)).length := by
      have h2 := h1 a List.mem_cons_self
      cases l with
      | nil => exact h2
      | cons b l =>
        show 1 ≤ (g a ++ z ++ Str.join z ((b :: l).map g)).length
        rw [len_app, len_app]
        omega
    have hb : (((Str.join z ((a :: l).map g)).length : Int) != 0) = true := by
      rw [bne_iff_ne]
      omega
    rw [hb]
    rfl
end
/-! two walks -/
theorem lc2R_map {α : Type} {own own1 : List Nat} {t t1 : D → Env → Option Env} {mc mc1 : M Bool} {mi1 : M (List D)} {me : M D} {ρ : Env} {f : α → D} {g : α → List D} :
    ∀ {xs : List α}, (∀ x ∈ xs, ∃ ρ1 ρ2 ρ3 ys, t (f x) (wipeE ρ own) = some ρ1 ∧ mc ρ1 = .ok true ρ2 ∧ mi1 ρ2 = .ok ys ρ3 ∧ lcR own1 t1 mc1 me ρ3 ys = some (g x)) → lc2R own t mc mi1 own1 t1 mc1 me ρ (xs.map f) = some (xs.map g).flatten
  | [], _ => rfl
  | x :: xs, h => by
    obtain ⟨ρ1, ρ2, ρ3, ys, h1, h2, h3, h4⟩ := h x List.mem_cons_self
    rw [List.map_cons, lc2R, h1]
    dsimp only
    rw [h2]
    dsimp only
    rw [h3]
    dsimp only
    rw [h4]
    dsimp only
    rw [lc2R_map fun y hy => h y (List.mem_cons_of_mem _ hy)] <;> rfl
@[simp] theorem y_unDs0 : unDs [] = some [] := rfl
@[simp] theorem y_unDsm {ds : List D} : unDs (ds.map O.d) = some ds := unDs_map ds
@[simp] theorem y_unDs1 {d : D} {os : List O} : unDs (.d d :: os) = (unDs os).map (d :: ·) := by
  show (match unD (.d d), unDs os with | some x, some xs => some (x :: xs) | _, _ => none) = _
  cases unDs os <;> rfl
@[simp] theorem y_frzLc {d : D} {os : List O} : frz (.ls (.d d :: os)) = (unDs (.d d :: os)).map .lst := rfl
@[simp] theorem y_unDsC {α : Type} {f : α → D} {l : List α} : unDs (l.map (O.d ∘ f)) = some (l.map f) := by rw [← List.map_map, unDs_map]
@[simp] theorem y_frzLC {α : Type} {f : α → D} {l : List α} : frz (.ls (l.map (O.d ∘ f))) = some (.lst (l.map f)) := by rw [← List.map_map, y_frzL]
@[simp] theorem y_peekLC {α : Type} {f : α → D} {l : List α} : peek (.ls (l.map (O.d ∘ f))) = some (.lst (l.map f)) := by rw [← List.map_map, y_peekLm]
@[simp] theorem y_unAnyF {α : Type} {f : α → D} : unAny ∘ O.d ∘ f = f := rfl
theorem frz_app {ds es : List D} : frz (.ls (ds.map O.d ++ es.map O.d)) = some (.lst (ds ++ es)) := by
  rw [← List.map_append, y_frzL]
theorem zipD_map {α β : Type} {f : α → D} {g : β → D} {xs : List α} {ys : List β} : zipD (xs.map f) (ys.map g) = (xs.zip ys).map fun q => .tup [f q.1, g q.2] := by
  unfold zipD
  rw [List.zipWith_map, List.zip, List.map_zipWith]
@[simp] theorem y_lc2 {own own1 : List Nat} {mi mi1 : M (List D)} {t t1 : D → Env → Option Env} {mc mc1 : M Bool} {me : M D} {ρ : Env} : mLc2 own mi t mc mi1 own1 t1 mc1 me ρ = (mi ρ).bind fun xs ρ1 => endR2 .lst own t mc mi1 own1 t1 mc1 me xs ρ1 := rfl
@[simp] theorem g_zipT {xs ys : List D} : gZip (.tup xs) (.tup ys) = some (zipD xs ys) := rfl
theorem flat_len {α β : Type} {g : α → List β} {m : Nat} : ∀ {l : List α}, (∀ x ∈ l, (g x).length ≤ m) → (l.map g).flatten.length ≤ l.length * m
  | [], _ => Nat.zero_le _
  | x :: l, h => by
    have ih := flat_len (l := l) fun y hy => h y (List.mem_cons_of_mem _ hy)
    have h1 := h x List.mem_cons_self
    rw [List.map_cons, List.flatten_cons, List.length_append, List.length_cons, Nat.succ_mul]
    omega
end DL
set_option Elab.async false
set_option linter.all false
set_option maxRecDepth 100000
/-! PR: data that can be compared and shown. -/
namespace DL
open PySem L2 PySem.Spec PyProof.Rows RZ PyData
structure PyIs (n m : Nat) (d : D) (p : PyData) : Prop where
  py : toPy d = some p
  lay : p.canLay0 = true
  dep : p.depth ≤ n
  shw : p.showable = true
  nod : p.hasDict = false
  len : p.shown.length ≤ m
  asc : Asc p.shown
def PyOk (n m : Nat) (d : D) : Prop := ∃ p, PyIs n m d p
theorem PyIs.mono {n m n' m' : Nat} {d : D} {p : PyData} (h : PyIs n m d p) (h1 : n ≤ n') (h2 : m ≤ m') : PyIs n' m' d p :=
  ⟨h.py, h.lay, Nat.le_trans h.dep h1, h.shw, h.nod, Nat.le_trans h.len h2, h.asc⟩
theorem PyOk.mono {n m n' m' : Nat} {d : D} (h : PyOk n m d) (h1 : n ≤ n') (h2 : m ≤ m') : PyOk n' m' d := let ⟨p, h⟩ := h; ⟨p, h.mono h1 h2⟩
theorem rc1 : ∀ c : Fin 128, ∀ d ∈ Builtin.Str.reprChar 39 c.1, d < 128 := by decide +kernel
theorem rc2 : ∀ c : Fin 128, ∀ d ∈ Builtin.Str.reprChar 34 c.1, d < 128 := by decide +kernel
theorem foldl_app (q : Nat) : ∀ (l : List Nat) (acc : Array Nat), (l.foldl (fun out c => out ++ (Builtin.Str.reprChar q c).toArray) acc).toList = acc.toList ++ (l.map (Builtin.Str.reprChar q)).flatten
  | [], acc => by simp
  | c :: r, acc => by
    rw [List.foldl_cons, foldl_app q r]
    simp
theorem repr_asc {x : Str} (h : Asc x) : Asc (reprText x) := by
  have hq : reprQuote x = 34 ∨ reprQuote x = 39 := by
    unfold reprQuote
    split
    · exact .inl rfl
    · exact .inr rfl
  have hq2 : reprQuote x < 128 := by omega
  intro c hc
  unfold reprText tl at hc
  rw [Array.toList_push, ← Array.foldl_toList, foldl_app] at hc
  simp only [List.mem_append, List.mem_singleton, List.mem_flatten, List.mem_map] at hc
  rcases hc with (hc | ⟨l, ⟨d, hd, rfl⟩, hl⟩) | hc
  · have hc : c = reprQuote x := hc
    omega
  · have hd2 := h d hd
    rcases hq with e | e
    · rw [e] at hl; exact rc2 ⟨d, hd2⟩ c hl
    · rw [e] at hl; exact rc1 ⟨d, hd2⟩ c hl
  · omega
theorem PyIs.str {x : Str} {k : Nat} (h : Asc x) (hl : x.length ≤ k) : PyIs 0 (10 * k + 2) (.str x) (.str x) :=
  ⟨rfl, h.ok, Nat.le_refl _, rfl, rfl, by
    have := StrLaws.reprText_len x fun c hc => by have := h c hc; omega
    show (reprText x).length ≤ _
    omega, repr_asc h⟩
theorem PyIs.int {n : Int} {k : Nat} (hk : 1 ≤ k) (h : n.natAbs < 10 ^ k) (hl : n.natAbs.log2 < 1920) : PyIs 0 (k + 1) (.int n) (.int n) :=
  ⟨rfl, rfl, Nat.le_refl _, decide_eq_true hl, rfl, num_len hk h, num_asc n⟩
theorem shownAll_map : ∀ ps : List PyData, shownAll ps = ps.map shown
  | [] => rfl
  | p :: ps => by rw [shownAll, shownAll_map ps] <;> rfl
theorem tupleText_len (ts : List Str) : (tupleText ts).length ≤ (ts.map (·.length)).sum + 2 * ts.length + 3 := by
  have h := join_len ", " (l := ts)
  have e : (", " : Str).length = 2 := rfl
  unfold tupleText
  rw [len_app, len_app]
  have e1 : ("(" : Str).length = 1 := rfl
  have e2 : ((if (ts.length == 1) = true then ",)" else ")" : String) : Str).length ≤ 2 := by
    split
    · exact Nat.le_refl 2
    · exact (by decide : (1 : Nat) ≤ 2)
  rw [e] at h
  rw [e1]
  omega
theorem tupleText_asc {ts : List Str} (h : ∀ t ∈ ts, Asc t) : Asc (tupleText ts) := by
  unfold tupleText
  refine ((lit_asc rfl).app (join_asc (lit_asc rfl) h)).app ?_
  split
  · exact lit_asc rfl
  · exact lit_asc rfl
theorem many {n m : Nat} : ∀ {ds : List D}, (∀ d ∈ ds, PyOk n m d) → ∃ ps : List PyData, toPys ds = some ps ∧ ps.length = ds.length ∧ canLayAll0 ps = true ∧ depthAll ps ≤ n ∧ showableAll ps = true ∧ hasDictAll ps = false ∧ ∀ t ∈ shownAll ps, t.length ≤ m ∧ Asc t
  | [], _ => ⟨[], rfl, rfl, rfl, Nat.zero_le _, rfl, rfl, fun _ h => nomatch h⟩
  | d :: ds, h => by
    obtain ⟨p, q⟩ := h d List.mem_cons_self
    obtain ⟨ps, h1, h2, h3, h4, h5, h6, h7⟩ := many fun e he => h e (List.mem_cons_of_mem _ he)
    refine ⟨p :: ps, ?_, ?_, ?_, ?_, ?_, ?_, ?_⟩
    · unfold toPys
      rw [q.py, h1] <;> rfl
    · simp [h2]
    · simp [canLayAll0, q.lay, h3]
    · have := q.dep
      show max p.depth (depthAll ps) ≤ n
      omega
    · simp [showableAll, q.shw, h5]
    · simp [hasDictAll, q.nod, h6]
    · intro t ht
      rw [shownAll, List.mem_cons] at ht
      rcases ht with rfl | ht
      · exact ⟨q.len, q.asc⟩
      · exact h7 t ht
theorem PyOk.tup {n m k : Nat} {ds : List D} (h : ∀ d ∈ ds, PyOk n m d) (hl : ds.length ≤ k) : PyOk (n + 1) (k * (m + 2) + 3) (.tup ds) := by
  obtain ⟨ps, h1, h2, h3, h4, h5, h6, h7⟩ := many h
  refine ⟨.tuple ps, ?_, h3, ?_, h5, h6, ?_, ?_⟩
  · show (toPys ds).map PyData.tuple = _
    rw [h1] <;> rfl
  · show depthAll ps + 1 ≤ n + 1
    omega
  · have a := tupleText_len (shownAll ps)
    have b := sum_le (g := fun t : Str => t.length) fun t ht => (h7 t ht).1
    have c : (shownAll ps).length = ds.length := by rw [shownAll_map, List.length_map, h2]
    rw [c] at a b
    have d1 : ds.length * m ≤ k * m := Nat.mul_le_mul_right _ hl
    have e : k * (m + 2) = k * m + k * 2 := Nat.mul_add _ _ _
    show (tupleText (shownAll ps)).length ≤ _
    have f := a
    omega
  · exact tupleText_asc fun t ht => (h7 t ht).2
theorem PyIs.shaped {n m : Nat} {d : D} {p : PyData} (h : PyIs n m d p) (hn : n ≤ 64) : SeqAt.shaped p = true := by
  unfold SeqAt.shaped
  rw [h.lay, Bool.true_and]
  exact decide_eq_true (Nat.le_trans h.dep hn)
theorem eqvAll_nil : ∀ ps : List PyData, eqvAll ps [] = ps.isEmpty
  | [] => rfl
  | _ :: _ => rfl
theorem tup_nil {n m : Nat} {ds : List D} (h : PyOk n m (.tup ds)) (hn : n ≤ 64) : gNe (.tup ds) (.tup []) = some (.bl (!ds.isEmpty)) ∧ gEq (.tup ds) (.tup []) = some (.bl ds.isEmpty) := by
  obtain ⟨p, q⟩ := h
  have e := q.py
  cases z : toPys ds with
  | none => rw [toPy, z] at e; cases e
  | some ps =>
    rw [toPy, z] at e
    cases e
    have he : ps.isEmpty = ds.isEmpty := by
      cases ds with
      | nil => cases z; rfl
      | cons d ds =>
        unfold toPys at z
        split at z
        · cases z; rfl
        · cases z
    have k := eq_of_py (x := .tup ds) (y := .tup []) (p := .tuple ps) (q := .tuple []) (by rw [toPy, z]; rfl) rfl (q.shaped hn) rfl
    have e2 : PyData.eqv (.tuple ps) (.tuple []) = ds.isEmpty := by
      show eqvAll ps [] = _
      rw [eqvAll_nil, he]
    rw [e2] at k
    exact ⟨k.2, k.1⟩
theorem lst_nil {n m : Nat} {ds : List D} (h : PyOk n m (.tup ds)) (hn : n ≤ 64) : gNe (.lst ds) (.lst []) = some (.bl (!ds.isEmpty)) ∧ gEq (.lst ds) (.lst []) = some (.bl ds.isEmpty) := by
  obtain ⟨p, q⟩ := h
  have e := q.py
  cases z : toPys ds with
  | none => rw [toPy, z] at e; cases e
  | some ps =>
    rw [toPy, z] at e
    cases e
    have he : ps.isEmpty = ds.isEmpty := by
      cases ds with
      | nil => cases z; rfl
      | cons d ds =>
        unfold toPys at z
        split at z
        · cases z; rfl
        · cases z
    have hsh : SeqAt.shaped (.list ps) = true := q.shaped hn
    have k := eq_of_py (x := .lst ds) (y := .lst []) (p := .list ps) (q := .list []) (by rw [toPy, z]; rfl) rfl hsh rfl
    have e2 : PyData.eqv (.list ps) (.list []) = ds.isEmpty := by
      show eqvAll ps [] = _
      rw [eqvAll_nil, he]
    rw [e2] at k
    exact ⟨k.2, k.1⟩
theorem repr_tup {n m : Nat} {ds : List D} (h : PyOk n m (.tup ds)) (hn : n ≤ 64) (hm : m ≤ 16777216) : ∃ z, Asc z ∧ gRepr (.tup ds) = some (.str z) := by
  obtain ⟨p, q⟩ := h
  refine ⟨p.shown, q.asc, ?_⟩
  unfold gRepr
  rw [if_pos (show isRef (.tup ds) = true from rfl), q.py]
  dsimp only
  rw [if_pos]
  unfold okRepr
  rw [q.shw, q.nod, decide_eq_true (Nat.le_trans q.dep hn), decide_eq_true (Nat.le_trans q.len hm)]
  rfl
/-! ### systems -/
theorem Wo.py {b : Bool} {w : Wo} (h : w.ok b) : PyOk 1 200 w.d := by
  have i1 : PyOk 0 90 (.str "told") := ⟨_, (PyIs.str (k := 4) (lit_asc rfl) (by rw [lit_len]; decide)).mono (by omega) (by omega)⟩
  have i2 : PyOk 0 90 (.str "slot") := ⟨_, (PyIs.str (k := 4) (lit_asc rfl) (by rw [lit_len]; decide)).mono (by omega) (by omega)⟩
  cases w with
  | told =>
    refine (PyOk.tup (n := 0) (m := 90) (k := 1) (fun d hd => ?_) (Nat.le_refl _)).mono (by omega) (by omega)
    simp only [List.mem_cons, List.not_mem_nil, or_false] at hd
    subst hd
    exact i1
  | slot k =>
    refine (PyOk.tup (n := 0) (m := 90) (k := 2) (fun d hd => ?_) (Nat.le_refl _)).mono (by omega) (by omega)
    simp only [List.mem_cons, List.not_mem_nil, or_false] at hd
    rcases hd with rfl | rfl
    · exact i2
    · exact ⟨_, (PyIs.int (k := 30) (by omega) (nu_3 h) (nu_log (nu_3 h))).mono (by omega) (by omega)⟩
  | num n => exact ⟨_, (PyIs.int (k := 30) (by omega) h (nu_log h)).mono (by omega) (by omega)⟩
theorem lit_py {s : String} (h : (s.toList.all fun c => decide (c.toNat < 128)) = true) (hl : s.length ≤ 8) : PyOk 0 82 (.str (Str.ofString s)) := ⟨_, (PyIs.str (k := 8) (lit_asc h) (by rw [lit_len]; exact hl)).mono (by omega) (by omega)⟩
theorem Nm.py {x : Str} (h : Nm x) : PyOk 0 82 (.str x) := ⟨_, (PyIs.str (k := 8) h.asc h.len).mono (by omega) (by omega)⟩
theorem nu_py {n : Int} (h : Nu n) : PyOk 0 82 (.int n) := ⟨_, (PyIs.int (k := 30) (by omega) h (nu_log h)).mono (by omega) (by omega)⟩
theorem signW_py (k : Nat) : PyOk 0 82 (.str (signW k)) := by
  match k with
  | 0 => exact lit_py rfl (by decide)
  | 1 => exact lit_py rfl (by decide)
  | _ + 2 => exact lit_py rfl (by decide)
theorem setW_py (k : Nat) : PyOk 0 82 (.str (setW k)) := by
  match k with
  | 0 => exact lit_py rfl (by decide)
  | 1 => exact lit_py rfl (by decide)
  | _ + 2 => exact lit_py rfl (by decide)
theorem wayW_py (k : Nat) : PyOk 0 82 (.str (wayW k)) := by
  match k with
  | 0 => exact lit_py rfl (by decide)
  | _ + 1 => exact lit_py rfl (by decide)
theorem Te.py {b : Bool} {t : Te} (h : t.ok b) : PyOk 2 900 t.d := by
  rw [Te.d_eq]
  refine (PyOk.tup (n := 0) (m := 82) (k := 3) (fun d hd => ?_) (Nat.le_refl _)).mono (by omega) (by omega)
  simp only [List.mem_cons, List.not_mem_nil, or_false] at hd
  rcases hd with rfl | rfl | rfl
  · cases e : t.what with
    | none => exact lit_py rfl (by decide)
    | some k => exact nu_py (nu_3 (Te.ok1 h k e))
  · exact signW_py _
  · exact nu_py h.2.2
theorem Ac.py {out : List Str} {b : Bool} {a : Ac} (h : a.ok out b) : PyOk 2 900 a.d := by
  cases a with
  | rest =>
    refine (PyOk.tup (n := 0) (m := 82) (k := 1) (fun d hd => ?_) (Nat.le_refl _)).mono (by omega) (by omega)
    simp only [List.mem_cons, List.not_mem_nil, or_false] at hd
    subst hd
    exact lit_py rfl (by decide)
  | send r w x =>
    refine (PyOk.tup (n := 1) (m := 200) (k := 4) (fun d hd => ?_) (Nat.le_refl _)).mono (by omega) (by omega)
    simp only [List.mem_cons, List.not_mem_nil, or_false] at hd
    rcases hd with rfl | rfl | rfl | rfl
    · exact (lit_py rfl (by decide)).mono (by omega) (by omega)
    · exact h.2.1.py.mono (by omega) (by omega)
    · exact h.2.2.1.py.mono (by omega) (by omega)
    · exact Wo.py h.2.2.2
  | set k s x =>
    refine (PyOk.tup (n := 1) (m := 200) (k := 3) (fun d hd => ?_) (Nat.le_refl _)).mono (by omega) (by omega)
    simp only [List.mem_cons, List.not_mem_nil, or_false] at hd
    rcases hd with rfl | rfl | rfl
    · exact (setW_py _).mono (by omega) (by omega)
    · exact (nu_py (nu_3 h.2.1)).mono (by omega) (by omega)
    · exact Wo.py h.2.2
theorem tests_py {t : List Te} {b : Bool} (h : ∀ x ∈ t, x.ok b) (hl : t.length ≤ 3) : PyOk 3 2800 (.tup (t.map Te.d)) := by
  refine (PyOk.tup (n := 2) (m := 900) (k := 3) (fun d hd => ?_) (by rw [List.length_map]; exact hl)).mono (by omega) (by omega)
  obtain ⟨x, hx, rfl⟩ := List.mem_map.mp hd
  exact Te.py (h x hx)
theorem acts_py {t : List Ac} {b : Bool} {out : List Str} (h : ∀ x ∈ t, x.ok out b) (hl : t.length ≤ 4) : PyOk 3 3700 (.tup (t.map Ac.d)) := by
  refine (PyOk.tup (n := 2) (m := 900) (k := 4) (fun d hd => ?_) (by rw [List.length_map]; exact hl)).mono (by omega) (by omega)
  obtain ⟨x, hx, rfl⟩ := List.mem_map.mp hd
  exact Ac.py (h x hx)
theorem wh_py {o : Option Str} (h : ∀ w, o = some w → Nm w) : PyOk 1 200 (whD o) := by
  cases o with
  | none =>
    refine (PyOk.tup (n := 0) (m := 82) (k := 1) (fun d hd => ?_) (Nat.le_refl _)).mono (by omega) (by omega)
    simp only [List.mem_cons, List.not_mem_nil, or_false] at hd
    subst hd
    exact lit_py rfl (by decide)
  | some w =>
    refine (PyOk.tup (n := 0) (m := 82) (k := 2) (fun d hd => ?_) (Nat.le_refl _)).mono (by omega) (by omega)
    simp only [List.mem_cons, List.not_mem_nil, or_false] at hd
    rcases hd with rfl | rfl
    · exact lit_py rfl (by decide)
    · exact (h w rfl).py
theorem Ru.py {out : List Str} {r : Ru} (h : r.ok out) : PyOk 4 12000 r.d := by
  refine (PyOk.tup (n := 3) (m := 3700) (k := 3) (fun d hd => ?_) (Nat.le_refl _)).mono (by omega) (by omega)
  simp only [List.mem_cons, List.not_mem_nil, or_false] at hd
  rcases hd with rfl | rfl | rfl
  · exact (wh_py h.wh).mono (by omega) (by omega)
  · exact (tests_py h.te h.lt).mono (by omega) (by omega)
  · exact acts_py h.ac h.la
theorem Ro.py {hs : List Str} {r : Ro} (hn : ∀ h ∈ hs, Nm h) (k : r.ok hs) : PyOk 1 400 r.d := by
  refine (PyOk.tup (n := 0) (m := 82) (k := 4) (fun d hd => ?_) (Nat.le_refl _)).mono (by omega) (by omega)
  simp only [List.mem_cons, List.not_mem_nil, or_false] at hd
  rcases hd with rfl | rfl | rfl | rfl
  · exact k.nm.py
  · exact (hn _ k.one).py
  · exact (hn _ k.other).py
  · exact wayW_py _
theorem Sy.py {s : Sy} (k : s.ok) : PyOk 6 500000 s.net ∧ PyOk 6 500000 (.tup (s.progs.map fun p => .tup (p.map Ru.d))) ∧ PyOk 7 1100000 s.d := by
  have h1 : PyOk 6 500000 s.net := by
    refine (PyOk.tup (n := 2) (m := 4000) (k := 2) (fun d hd => ?_) (Nat.le_refl _)).mono (by omega) (by omega)
    simp only [List.mem_cons, List.not_mem_nil, or_false] at hd
    rcases hd with rfl | rfl
    · refine (PyOk.tup (n := 0) (m := 82) (k := 5) (fun d hd => ?_) (by rw [List.length_map]; exact k.h5)).mono (by omega) (by omega)
      obtain ⟨x, hx, rfl⟩ := List.mem_map.mp hd
      exact (k.nm x hx).py
    · refine (PyOk.tup (n := 1) (m := 400) (k := 8) (fun d hd => ?_) (by rw [List.length_map]; exact k.r8)).mono (by omega) (by omega)
      obtain ⟨x, hx, rfl⟩ := List.mem_map.mp hd
      exact Ro.py k.nm (k.ro x hx)
  have h2 : PyOk 6 500000 (.tup (s.progs.map fun p => .tup (p.map Ru.d))) := by
    refine (PyOk.tup (n := 5) (m := 97000) (k := 5) (fun d hd => ?_) (by rw [List.length_map, k.pl]; exact k.h5)).mono (by omega) (by omega)
    obtain ⟨x, hx, rfl⟩ := List.mem_map.mp hd
    refine (PyOk.tup (n := 4) (m := 12000) (k := 8) (fun d hd => ?_) (by rw [List.length_map]; exact k.p8 x hx)).mono (by omega) (by omega)
    obtain ⟨r, hr, rfl⟩ := List.mem_map.mp hd
    obtain ⟨i, hi⟩ := List.mem_iff_getElem?.mp hx
    have li : i < s.houses.length := by rw [← k.pl]; exact (List.getElem?_eq_some_iff.mp hi).1
    have hm : (s.houses[i], x) ∈ s.houses.zip s.progs := List.mem_iff_getElem?.mpr ⟨i, by
      rw [List.getElem?_zip_eq_some]
      exact ⟨List.getElem?_eq_getElem li, hi⟩⟩
    exact Ru.py (k.pr _ hm r hr)
  refine ⟨h1, h2, (PyOk.tup (n := 6) (m := 500000) (k := 2) (fun d hd => ?_) (Nat.le_refl _)).mono (by omega) (by omega)⟩
  simp only [List.mem_cons, List.not_mem_nil, or_false] at hd
  rcases hd with rfl | rfl
  · exact h1
  · exact h2
end DL
set_option Elab.async false
set_option linter.all false
set_option maxRecDepth 100000
/-! PT: texts read. -/
namespace DL
open PySem L2 PySem.Spec PyProof.Rows RZ
theorem eta (x : Str) : x = ⟨(tl x).toArray⟩ := tl_inj rfl
theorem from_tl {x : Str} {n : Nat} : Txt.slice x (some (n : Int)) none = ⟨((tl x).drop n).toArray⟩ := by
  conv => lhs; rw [eta x]
  exact SX.slice_from (a := tl x) (i := (n : Int)) (by omega)
theorem upto_tl {x : Str} {n : Nat} : Txt.slice x none (some (n : Int)) = ⟨((tl x).take n).toArray⟩ := by
  conv => lhs; rw [eta x]
  exact SX.slice_to (a := tl x) (i := (n : Int)) (by omega)
theorem starts1 {x : Str} {c : Nat} {y : Str} (hy : tl y = [c]) : Txt.startswith x y = decide ((tl x).head? = some c) := by
  unfold Txt.startswith
  rw [StrLaws.subAt_eq, ← tl_len y, ← tl_len x, hy]
  show (decide (0 + 1 ≤ (tl x).length) && (((tl x).drop 0).take [c].length == tl y)) = _
  rw [hy]
  cases h : tl x with
  | nil => simp
  | cons a r => simp [Bool.beq_eq_decide_eq]
/-- a text split, whose first piece has no blank -/
theorem split_app {p q : Str} (hp : 32 ∉ tl p) : Txt.split (p ++ " " ++ q) " " = p :: Txt.split q " " := by
  have hj := StrLaws.join_split q " "
  have hf := StrLaws.split_free q 32
  have e1 : (" " : Str) = ⟨#[32]⟩ := rfl
  have hne : Txt.split q " " ≠ [] := by
    intro h
    have k := StrLaws.join_split q " "
    rw [h] at k
    have l := split_join sep_sp (parts := [Str.join " " []]) (by simp) (by intro p hp; simp at hp; subst hp; intro z; cases z)
    have l2 : Txt.split (Str.join " " []) " " = [Str.join " " []] := l
    rw [k, h] at l2
    cases l2
  have h : Str.join " " (p :: Txt.split q " ") = p ++ " " ++ q := by
    cases h : Txt.split q " " with
    | nil => exact absurd h hne
    | cons a l => rw [join2, ← h, hj]
  rw [← h]
  exact split_join sep_sp (by simp) fun x hx => by
    rcases List.mem_cons.mp hx with rfl | hx
    · exact hp
    · exact hf x hx
theorem split_one {p : Str} (hp : 32 ∉ tl p) : Txt.split p " " = [p] := split_join sep_sp (parts := [p]) (by simp) fun x hx => by
  simp only [List.mem_cons, List.not_mem_nil, or_false] at hx
  subst hx
  exact hp
theorem Nm.no {x : Str} {c : Nat} (h : Nm x) (hc : c < 97 ∨ 122 < c) : c ∉ tl x := fun m => by have := h.2.2 c m; omega
theorem join_no {z : Str} {c : Nat} (hz : c ∉ tl z) : ∀ {l : List Str}, (∀ x ∈ l, c ∉ tl x) → c ∉ tl (Str.join z l)
  | [], _ => fun h => by cases h
  | [x], h => h x (by simp)
  | x :: y :: l, h => by
    rw [join2, tl_app, tl_app]
    intro k
    rcases List.mem_append.mp k with k | k
    · rcases List.mem_append.mp k with k | k
      · exact h x (by simp) k
      · exact hz k
    · exact join_no hz (fun a ha => h a (List.mem_cons_of_mem _ ha)) k
theorem lit_no {s : String} {c : Nat} (h : (s.toList.map Char.toNat).contains c = false) : c ∉ tl (Str.ofString s) := by
  rw [lit_tl]
  intro m
  have h2 := List.contains_iff_mem.mpr m
  rw [h] at h2
  cases h2
theorem num_no {n : Int} {c : Nat} (h : c ≠ 45 ∧ (c < 48 ∨ 57 < c)) : c ∉ tl (numT n) := fun m => by
  rcases num_cases n with ⟨k, _, e⟩ | ⟨k, _, e⟩
  · rw [e] at m
    have := fig_all _ c m
    omega
  · rw [e] at m
    rcases List.mem_cons.mp m with rfl | m
    · omega
    · have := fig_all _ c m
      omega
theorem slot_no {k c : Nat} (h : c ≠ 45 ∧ c ≠ 115 ∧ (c < 48 ∨ 57 < c)) : c ∉ tl (slotT k) := by
  unfold slotT
  rw [tl_app]
  intro m
  rcases List.mem_append.mp m with m | m
  · have m : c ∈ [115] := m
    simp at m
    omega
  · exact num_no ⟨h.1, h.2.2⟩ m
theorem Wo.no {b : Bool} {w : Wo} {c : Nat} (h : c < 97 ∨ 122 < c) (h2 : c ≠ 45 ∧ (c < 48 ∨ 57 < c)) : c ∉ tl w.t := by
  cases w with
  | told =>
    intro m
    have m : c ∈ [116, 111, 108, 100] := m
    simp at m
    omega
  | slot k => exact slot_no ⟨h2.1, by omega, h2.2⟩
  | num n => exact num_no h2
theorem what_no {o : Option Nat} {c : Nat} (h : c < 97 ∨ 122 < c) (h2 : c ≠ 45 ∧ (c < 48 ∨ 57 < c)) : c ∉ tl (whatT o) := by
  cases o with
  | none =>
    intro m
    have m : c ∈ [116, 111, 108, 100] := m
    simp at m
    omega
  | some k => exact slot_no ⟨h2.1, by omega, h2.2⟩
theorem sign_no {k c : Nat} (h : c < 60 ∨ 62 < c) : c ∉ tl (signT k) := by
  match k with
  | 0 => intro m; have m : c ∈ [60] := m; simp at m; omega
  | 1 => intro m; have m : c ∈ [61] := m; simp at m; omega
  | _ + 2 => intro m; have m : c ∈ [62] := m; simp at m; omega
theorem set_no {k c : Nat} (h : c < 97 ∨ 122 < c) : c ∉ tl (setW k) := by
  match k with
  | 0 => intro m; have m : c ∈ [112, 117, 116] := m; simp at m; omega
  | 1 => intro m; have m : c ∈ [97, 100, 100] := m; simp at m; omega
  | _ + 2 => intro m; have m : c ∈ [108, 101, 115, 115] := m; simp at m; omega
theorem way_no {k c : Nat} (h : c < 97 ∨ 122 < c) : c ∉ tl (wayW k) := by
  match k with
  | 0 => intro m; have m : c ∈ [114, 111, 119] := m; simp at m; omega
  | _ + 1 => intro m; have m : c ∈ [108, 111, 111, 115, 101] := m; simp at m; omega
theorem sp_no {c : Nat} (h : c ≠ 32) : c ∉ tl (" " : Str) := by intro m; have m : c ∈ [32] := m; simp at m; omega
/-- a test's text has none of these: line end, &, ;, comma -/
def Mark (c : Nat) : Prop := c = 10 ∨ c = 38 ∨ c = 59 ∨ c = 44
theorem Te.no {t : Te} {c : Nat} (h : Mark c) : c ∉ tl t.t := by
  unfold Mark at h
  rw [Te.t_eq]
  refine join_no (sp_no (by omega)) fun x hx => ?_
  simp only [List.mem_cons, List.not_mem_nil, or_false] at hx
  rcases hx with rfl | rfl | rfl
  · exact what_no (by omega) (by omega)
  · exact sign_no (by omega)
  · exact num_no (by omega)
theorem Ac.no {out : List Str} {b : Bool} {a : Ac} {c : Nat} (k : a.ok out b) (h : Mark c) : c ∉ tl a.t := by
  unfold Mark at h
  cases a with
  | rest => intro m; have m : c ∈ [114, 101, 115, 116] := m; simp at m; omega
  | send r w x =>
    refine join_no (sp_no (by omega)) fun z hz => ?_
    simp only [List.mem_cons, List.not_mem_nil, or_false] at hz
    rcases hz with rfl | rfl | rfl | rfl
    · intro m; have m : c ∈ [115, 101, 110, 100] := m; simp at m; omega
    · exact k.2.1.no (by omega)
    · exact k.2.2.1.no (by omega)
    · exact Wo.no (b := b) (by omega) (by omega)
  | set s x y =>
    refine join_no (sp_no (by omega)) fun z hz => ?_
    simp only [List.mem_cons, List.not_mem_nil, or_false] at hz
    rcases hz with rfl | rfl | rfl
    · exact set_no (by omega)
    · exact slot_no (by omega)
    · exact Wo.no (b := b) (by omega) (by omega)
theorem wh_no {o : Option Str} {c : Nat} (k : ∀ w, o = some w → Nm w) (h : Mark c) : c ∉ tl (whT o) := by
  unfold Mark at h
  cases o with
  | none => intro m; have m : c ∈ [115, 101, 108, 102] := m; simp at m; omega
  | some w =>
    show c ∉ tl (("on " : Str) ++ w)
    rw [tl_app]
    intro m
    rcases List.mem_append.mp m with m | m
    · have m : c ∈ [111, 110, 32] := m; simp at m; omega
    · exact (k w rfl).no (by omega) m
theorem dot_no {z : Str} {l : List Str} {c : Nat} (hc : c ≠ 46) (hz : c ∉ tl z) (h : ∀ x ∈ l, c ∉ tl x) : c ∉ tl (dotT z l) := by
  cases l with
  | nil => intro m; have m : c ∈ [46] := m; simp at m; omega
  | cons a r => exact join_no hz h
theorem tests_no {t : List Te} {c : Nat} (h : c = 59 ∨ c = 10) : c ∉ tl (dotT " & " (t.map Te.t)) := dot_no (by omega) (by intro m; have m : c ∈ [32, 38, 32] := m; simp at m; omega) fun x hx => by
  obtain ⟨y, _, rfl⟩ := List.mem_map.mp hx
  exact Te.no (by unfold Mark; omega)
theorem acts_no {t : List Ac} {c : Nat} {out : List Str} {b : Bool} (k : ∀ x ∈ t, x.ok out b) (h : c = 59 ∨ c = 10) : c ∉ tl (dotT " , " (t.map Ac.t)) := dot_no (by omega) (by intro m; have m : c ∈ [32, 44, 32] := m; simp at m; omega) fun x hx => by
  obtain ⟨y, hy, rfl⟩ := List.mem_map.mp hx
  exact Ac.no (k y hy) (by unfold Mark; omega)
end DL
set_option Elab.async false
set_option linter.all false
set_option maxRecDepth 100000
/-! PW: sorted rows. -/
namespace DL
open PySem L2 PySem.Spec PyProof.Rows RZ
theorem strict_of {α : Type} {f : α → List Nat} : ∀ {l : List α}, l.Pairwise (fun x y => ¬ f y < f x) → (l.map f).Nodup → l.Pairwise fun x y => f x < f y := by
  intro l h hn
  rw [List.nodup_iff_pairwise_ne, List.pairwise_map] at hn
  exact (h.and hn).imp fun {a b} ⟨h1, h2⟩ => by
    rw [List.not_lt] at h1
    rcases List.le_iff_lt_or_eq.mp h1 with h | h
    · exact h
    · exact absurd h h2
theorem tl_nodup {l : List Str} (h : l.Nodup) : (l.map tl).Nodup := by
  rw [List.nodup_iff_pairwise_ne, List.pairwise_map]
  rw [List.nodup_iff_pairwise_ne] at h
  exact h.imp fun {a b} h1 h2 => h1 (tl_inj h2)
theorem sort_strs {l : List Str} (hn : l.Nodup) (hl : l.length < 64) : ∃ l' : List Str, l'.Perm l ∧ l'.Pairwise (fun x y => tl x < tl y) ∧ gSort (.lst (l.map .str)) = some (l'.map .str) := by
  cases l with
  | nil => exact ⟨[], .refl _, .nil, rfl⟩
  | cons x r =>
    refine ⟨sortS (x :: r), sortS_perm _, ?_, ?_⟩
    · have h1 : (sortS (x :: r)).Pairwise fun x y => ¬ tl y < tl x := sortS_sorted _
      exact strict_of h1 (tl_nodup ((sortS_perm _).nodup_iff.mpr hn))
    · have hs : strsD ((x :: r).map D.str) = some (x :: r) := by
        have : ∀ l : List Str, strsD (l.map D.str) = some l := by
          intro l
          induction l with
          | nil => rfl
          | cons a l ih =>
            show (strsD (l.map D.str)).map (a :: ·) = _
            rw [ih]
            rfl
        exact this _
      show sortD ((x :: r).map D.str) = _
      unfold sortD
      have hi : intsD ((x :: r).map D.str) = none := rfl
      rw [hi, hs]
      dsimp only
      rw [if_pos hl]
theorem perm_map {α β : Type} {f : α → β} {l L : List β} (h : l.Perm L) : ∀ {m : List α}, L = m.map f → ∃ l' : List α, l'.Perm m ∧ l = l'.map f := by
  induction h with
  | nil => intro m e; cases m with | nil => exact ⟨[], List.Perm.refl _, rfl⟩ | cons a m => cases e
  | cons x h ih =>
    intro m e
    cases m with
    | nil => cases e
    | cons a m =>
      rw [List.map_cons] at e
      cases e
      obtain ⟨l', p, e'⟩ := ih rfl
      exact ⟨a :: l', p.cons a, by rw [List.map_cons, e']⟩
  | swap x y l =>
    intro m e
    cases m with
    | nil => cases e
    | cons a m =>
      cases m with
      | nil => cases e
      | cons b m =>
        rw [List.map_cons, List.map_cons] at e
        cases e
        exact ⟨b :: a :: m, .swap a b m, rfl⟩
  | trans h1 h2 ih1 ih2 =>
    intro m e
    obtain ⟨l2, p2, e2⟩ := ih2 e
    obtain ⟨l1, p1, e1⟩ := ih1 e2
    exact ⟨l1, p1.trans p2, e1⟩
def roK (r : Ro) : List TK := [.inr (tl r.road), .inr (tl r.one), .inr (tl r.other), .inr (tl (wayW r.way))]
theorem unKey_ro (r : Ro) : unKey (roK r) = r.d := by
  unfold unKey roK Ro.d
  simp only [List.map_cons, List.map_nil, unIt]
theorem roK_le {a b : Ro} (h : tupO.kle (roK a) (roK b)) : ¬ tl b.road < tl a.road := by
  have h : lexLt itemOrd (roK b) (roK a) = false := h
  intro hlt
  have h2 : itemOrd.blt (.inr (tl b.road)) (.inr (tl a.road)) = true := by
    show strKind.blt (tl b.road) (tl a.road) = true
    exact decide_eq_true hlt
  unfold roK at h
  rw [lex_cons, h2] at h
  cases h
theorem sort_roads {rs : List Ro} (hn : (rs.map Ro.road).Nodup) : ∃ rs' : List Ro, rs'.Perm rs ∧ rs'.Pairwise (fun x y => tl x.road < tl y.road) ∧ gSort (.lst (rs.map Ro.d)) = some (rs'.map Ro.d) := by
  cases rs with
  | nil => exact ⟨[], .refl _, .nil, rfl⟩
  | cons x r =>
    have hk : keysT (shapeOf [.str x.road, .str x.one, .str x.other, .str (wayW x.way)]) ((x :: r).map Ro.d) = some ((x :: r).map roK) := by
      have : ∀ l : List Ro, keysT (shapeOf [.str x.road, .str x.one, .str x.other, .str (wayW x.way)]) (l.map Ro.d) = some (l.map roK) := by
        intro l
        induction l with
        | nil => rfl
        | cons a l ih =>
          rw [List.map_cons, keysT, ih]
          have : keyT (shapeOf [.str x.road, .str x.one, .str x.other, .str (wayW x.way)]) a.d = some (roK a) := rfl
          rw [this]
          rfl
      exact this _
    have hp : (sortO tupO ((x :: r).map roK)).Perm ((x :: r).map roK) := sortO_perm _
    obtain ⟨l', hl', e⟩ := perm_map hp rfl
    refine ⟨l', hl', ?_, ?_⟩
    · have h1 : (l'.map roK).Pairwise tupO.kle := by rw [← e]; exact sortO_sorted _
      rw [List.pairwise_map] at h1
      have h2 : l'.Pairwise fun x y => ¬ tl y.road < tl x.road := h1.imp fun h => roK_le h
      refine strict_of (f := fun r : Ro => tl r.road) h2 ?_
      have h3 := tl_nodup hn
      rw [List.map_map] at h3
      exact (hl'.map _).nodup_iff.mpr h3
    · show sortD ((x :: r).map Ro.d) = _
      unfold sortD
      have hi : intsD ((x :: r).map Ro.d) = none := rfl
      have hs : strsD ((x :: r).map Ro.d) = none := rfl
      rw [hi, hs]
      show sortT ((x :: r).map Ro.d) = _
      unfold sortT
      have hh : headT ((x :: r).map Ro.d) = some [.str x.road, .str x.one, .str x.other, .str (wayW x.way)] := rfl
      rw [hh]
      dsimp only
      rw [hk]
      show some ((sortO tupO ((x :: r).map roK)).map unKey) = _
      rw [e, List.map_map]
      congr 1
end DL
set_option Elab.async false
set_option linter.all false
set_option maxRecDepth 100000
/-! PE: the texts' defs. -/
namespace K85
open PySem L2 DL PySem.Spec PyProof.Rows
theorem worth_int {n : Int} (h : n.natAbs.log2 < 1920) : F_worth_text [.d (.int n)] = .ok (.d (.str (numT n))) [] := by
  unfold F_worth_text runF
  simp [m_worth_text, rho0, gs_int h, withOuts]
theorem worth_told : F_worth_text [.d (.tup [.str "told"])] = .ok (.d (.str "told")) [] := by kernel_rfl
theorem worth_0 : F_worth_text [.d (.tup [.str "slot", .int 0])] = .ok (.d (.str (slotT 0))) [] := by kernel_rfl
theorem worth_1 : F_worth_text [.d (.tup [.str "slot", .int 1])] = .ok (.d (.str (slotT 1))) [] := by kernel_rfl
theorem worth_2 : F_worth_text [.d (.tup [.str "slot", .int 2])] = .ok (.d (.str (slotT 2))) [] := by kernel_rfl
theorem worth_text {b : Bool} {w : Wo} (h : w.ok b) : F_worth_text [.d w.d] = .ok (.d (.str w.t)) [] := by
  match w, h with
  | .told, _ => exact worth_told
  | .num n, h => exact worth_int (nu_log h)
  | .slot 0, _ => exact worth_0
  | .slot 1, _ => exact worth_1
  | .slot 2, _ => exact worth_2
  | .slot (k + 3), h => exact absurd (show k + 3 < 3 from h) (by omega)
theorem e_st0 : gIxA (.dk tk_SIGN_TEXTS td_SIGN_TEXTS) (.str "under") = some (.str "<") := by kernel_rfl
theorem e_st1 : gIxA (.dk tk_SIGN_TEXTS td_SIGN_TEXTS) (.str "is") = some (.str "=") := by kernel_rfl
theorem e_st2 : gIxA (.dk tk_SIGN_TEXTS td_SIGN_TEXTS) (.str "over") = some (.str ">") := by kernel_rfl
theorem e_st {k : Nat} (h : k < 3) : gIxA (.dk tk_SIGN_TEXTS td_SIGN_TEXTS) (.str (signW k)) = some (.str (signT k)) := by
  match k, h with
  | 0, _ => exact e_st0
  | 1, _ => exact e_st1
  | 2, _ => exact e_st2
theorem add_slot {k : Nat} (h : k < 3) : gAdd (.str "s") (.str (numT k)) = some (.str (slotT k)) := g_addS (by
  have h1 := slot_len h
  unfold slotT at h1
  rw [len_app] at h1
  omega)
theorem str_slot {k : Nat} (h : k < 3) : gStr2 (.int k) = some (.str (numT k)) := gs_int (nu_log (nu_3 h))
theorem test_text {b : Bool} {t : Te} (h : t.ok b) : F_test_text [.d t.d] = .ok (.d (.str t.t)) [] := by
  rw [Te.d_eq, Te.t_eq]
  have hk := Te.ok1 h
  have hn := gs_int (nu_log h.2.2)
  have hs := e_st h.2.1
  have hj := join_lst (z := " ") (l := [whatT t.what, signT t.sign, numT t.num]) (by
    have h1 := what_len hk
    have h2 := sign_len t.sign
    have h3 := nu_len h.2.2
    simp only [List.map_cons, List.map_nil, List.sum_cons, List.sum_nil, List.length_cons, List.length_nil, lit_len]
    have : (" " : String).length = 1 := rfl
    omega)
  simp only [List.map_cons, List.map_nil] at hj
  unfold F_test_text runF
  cases e : t.what with
  | none =>
    rw [e] at hj
    simp only [whatT] at hj
    simp [m_test_text, rho0, whatT, whatD, hn, hs, hj]
  | some k =>
    rw [e] at hj
    have h3 := hk k e
    simp only [whatT] at hj
    simp [m_test_text, rho0, whatT, whatD, hn, hs, add_slot h3, str_slot h3, hj]
theorem act_rest : F_act_text [.d (.tup [.str "rest"])] = .ok (.d (.str "rest")) [] := by kernel_rfl
theorem act_text {out : List Str} {b : Bool} {a : Ac} (h : a.ok out b) : F_act_text [.d a.d] = .ok (.d (.str a.t)) [] := by
  cases a with
  | rest => exact act_rest
  | send r w x =>
    have hx := worth_text h.2.2.2
    have hj := join_lst (z := " ") (l := ["send", r, w, x.t]) (by
      have h1 := h.2.1.len
      have h2 := h.2.2.1.len
      have h3 := Wo.len h.2.2.2
      simp only [List.map_cons, List.map_nil, List.sum_cons, List.sum_nil, List.length_cons, List.length_nil, lit_len]
      have : (" " : String).length = 1 := rfl
      have : ("send" : String).length = 4 := rfl
      omega)
    simp only [List.map_cons, List.map_nil] at hj
    unfold F_act_text runF
    simp [m_act_text, rho0, Ac.d, Ac.t, starD, hx, hj]
  | set k s x =>
    have hx := worth_text h.2.2
    have h3 := h.2.1
    have hj := join_lst (z := " ") (l := [setW k, slotT s, x.t]) (by
      have h1 := set_len k
      have h2 := slot_len h3
      have h4 := Wo.len h.2.2
      simp only [List.map_cons, List.map_nil, List.sum_cons, List.sum_nil, List.length_cons, List.length_nil, lit_len]
      have : (" " : String).length = 1 := rfl
      omega)
    simp only [List.map_cons, List.map_nil] at hj
    unfold F_act_text runF
    have hk := h.1
    have e1 : setW k ≠ "rest" := by
      match k, hk with
      | 0, _ => simp [setW]
      | 1, _ => simp [setW]
      | 2, _ => simp [setW]
    have e2 : setW k ≠ "send" := by
      match k, hk with
      | 0, _ => simp [setW]
      | 1, _ => simp [setW]
      | 2, _ => simp [setW]
    simp [m_act_text, rho0, Ac.d, Ac.t, starD, hx, hj, e1, e2, set_asc, add_slot h3, str_slot h3]
end K85
set_option Elab.async false
set_option linter.all false
set_option maxRecDepth 100000
/-! PF: lines and systems written. -/
namespace K85
open PySem L2 DL PySem.Spec PyProof.Rows
theorem e_wh0 : gEq (.tup [.str "self"]) (.tup [.str "self"]) = some (.bl true) := by kernel_rfl
theorem e_wh1 {w : Str} (h : Asc w) : gEq (.tup [.str "letter", .str w]) (.tup [.str "self"]) = some (.bl false) := by
  have e := (eq_of_py (x := .tup [.str "letter", .str w]) (y := .tup [.str "self"]) (p := .tuple [.str "letter", .str w]) (q := .tuple [.str "self"]) rfl rfl (by
    simp [SeqAt.shaped, PyData.canLay0, PyData.canLayAll0, PyData.depth, PyData.depthAll, h.ok]; exact (lit_asc rfl).ok) (by decide +kernel)).1
  rw [e]
  rfl
theorem tests_dot {t : List Te} {ρ : DL.Env} {i j : Nat} {b : Bool} (hi : i < ρ.length) (hj : ρ[j]? = some (some (.d (.tup (t.map Te.d))))) (ht : ∀ x ∈ t, x.ok b) (hl : t.length ≤ 3) :
    mOrV (mM1 gJoin (mC (.str " & ")) (mLcR [i] (mItems (mV j)) (tgN i) mYes (mFz (mCall 1 [] F_test_text [] (mCons (mV i) mNil))))) (mC (.str ".")) ρ = .ok (.str (dotT " & " (t.map Te.t))) ρ :=
  orDot hi hj (fun x hx => ⟨_, call1 hi (test_text (ht x hx))⟩) (by omega) (fun x hx => by
    rw [Te.t_eq]
    show 1 ≤ (whatT x.what ++ " " ++ (signT x.sign ++ " " ++ numT x.num)).length
    simp only [len_app, lit_len, sign_len]
    omega) (by
    have h1 := sum_le (g := fun y : Str => y.length) (l := t.map Te.t) (m := 38) fun y hy => by
      obtain ⟨x, hx, rfl⟩ := List.mem_map.mp hy
      exact Te.len (ht x hx)
    rw [List.length_map] at h1 ⊢
    rw [and_len]
    omega)
theorem acts_dot {t : List Ac} {ρ : DL.Env} {i j : Nat} {b : Bool} {out : List Str} (hi : i < ρ.length) (hj : ρ[j]? = some (some (.d (.tup (t.map Ac.d))))) (ht : ∀ x ∈ t, x.ok out b) (hl : t.length ≤ 4) :
    mOrV (mM1 gJoin (mC (.str " , ")) (mLcR [i] (mItems (mV j)) (tgN i) mYes (mFz (mCall 1 [] F_act_text [] (mCons (mV i) mNil))))) (mC (.str ".")) ρ = .ok (.str (dotT " , " (t.map Ac.t))) ρ :=
  orDot hi hj (fun x hx => ⟨_, call1 hi (act_text (ht x hx))⟩) (by omega) (fun x hx => Ac.pos x) (by
    have h1 := sum_le (g := fun y : Str => y.length) (l := t.map Ac.t) (m := 60) fun y hy => by
      obtain ⟨x, hx, rfl⟩ := List.mem_map.mp hy
      exact Ac.len (ht x hx)
    rw [List.length_map] at h1 ⊢
    rw [com_len]
    omega)
theorem rule_text {out : List Str} {r : Ru} {h : Str} (hn : Nm h) (k : r.ok out) : F_rule_text [.d (.str h), .d r.d] = .ok (.d (.str (r.t h))) [] := by
  have hb : (whT r.wh).length ≤ 11 := wh_len k.wh
  have hj := join_lst (z := " ; ") (l := ["rule " ++ h ++ " " ++ whT r.wh, dotT " & " (r.tests.map Te.t), dotT " , " (r.acts.map Ac.t)]) (by
    have h1 := Ru.tests_len k
    have h2 := Ru.acts_len k
    have h3 := hn.len
    simp only [List.map_cons, List.map_nil, List.sum_cons, List.sum_nil, List.length_cons, List.length_nil, len_app, lit_len]
    have e1 : ("rule " : String).length = 5 := rfl
    have e2 : (" " : String).length = 1 := rfl
    have e3 : (" ; " : String).length = 3 := rfl
    omega)
  have h3 := hn.len
  have a1 : gAdd (.str "rule ") (.str h) = some (.str ("rule " ++ h)) := g_addS (by simp only [lit_len]; have e1 : ("rule " : String).length = 5 := rfl; omega)
  have a2 : gAdd (.str ("rule " ++ h)) (.str " ") = some (.str ("rule " ++ h ++ " ")) := g_addS (by simp only [lit_len, len_app]; have e1 : ("rule " : String).length = 5 := rfl; have e2 : (" " : String).length = 1 := rfl; omega)
  have a3 : gAdd (.str ("rule " ++ h ++ " ")) (.str (whT r.wh)) = some (.str ("rule " ++ h ++ " " ++ whT r.wh)) := g_addS (by simp only [lit_len, len_app]; have e1 : ("rule " : String).length = 5 := rfl; have e2 : (" " : String).length = 1 := rfl; omega)
  have ej : r.t h = Str.join " ; " ["rule " ++ h ++ " " ++ whT r.wh, dotT " & " (r.tests.map Te.t), dotT " , " (r.acts.map Ac.t)] := by
    show ("rule " : Str) ++ h ++ " " ++ (whT r.wh ++ " ; " ++ (dotT " & " (r.tests.map Te.t) ++ " ; " ++ dotT " , " (r.acts.map Ac.t))) = ("rule " : Str) ++ h ++ " " ++ whT r.wh ++ " ; " ++ (dotT " & " (r.tests.map Te.t) ++ " ; " ++ dotT " , " (r.acts.map Ac.t))
    apply tl_inj
    simp only [tl_app, List.append_assoc]
  rw [ej]
  simp only [List.map_cons, List.map_nil] at hj
  have hT : ∀ ρ : DL.Env, ρ.length = 10 → ρ[3]? = some (some (.d (.tup (r.tests.map Te.d)))) → _ := fun ρ e1 e2 => tests_dot (i := 8) (j := 3) (by omega) e2 k.te k.lt
  have hA : ∀ ρ : DL.Env, ρ.length = 10 → ρ[4]? = some (some (.d (.tup (r.acts.map Ac.d)))) → _ := fun ρ e1 e2 => acts_dot (i := 9) (j := 4) (by omega) e2 k.ac k.la
  unfold F_rule_text runF
  cases e : r.wh with
  | none =>
    rw [e] at hj a3
    simp only [whT] at hj a3
    simp [-y_orV, m_rule_text, rho0, Ru.d, e, whD, e_wh0, hT, hA, a1, a2, a3, hj, whT]
  | some w =>
    rw [e] at hj a3 hb
    simp only [whT] at hj a3 hb
    have a4 : gAdd (.str "on ") (.str w) = some (.str ("on " ++ w)) := g_addS (by rw [len_app] at hb; omega)
    simp [-y_orV, m_rule_text, rho0, Ru.d, e, whD, e_wh1 (k.wh w e).asc, hT, hA, a1, a2, a3, a4, hj, whT]
theorem nl_len : ("\n" : Str).length = 1 := rfl
theorem lines_len {l : List Str} {n : Nat} (h : ∀ x ∈ l, x.length ≤ 440) (hl : l.length ≤ n) : (endT l).length ≤ n * 441 := by
  have h1 := join_len "" (l := l.map fun x => x ++ ("\n" : Str))
  have h2 := sum_le (g := fun y : Str => y.length) (l := l.map fun x => x ++ ("\n" : Str)) (m := 441) fun y hy => by
    obtain ⟨x, hx, rfl⟩ := List.mem_map.mp hy
    have := h x hx
    rw [len_app, nl_len]
    omega
  rw [List.length_map] at h1 h2
  have h3 : l.length * 441 ≤ n * 441 := Nat.mul_le_mul_right _ hl
  have h4 : ("" : Str).length = 0 := rfl
  unfold endT
  rw [h4] at h1
  omega
theorem ended_run {l : List Str} {n : Nat} (h : ∀ x ∈ l, x.length ≤ 440) (hl : l.length ≤ n) (hn : n ≤ 1000) : ((l.map fun x => x ++ ("\n" : Str)).map (·.length)).sum + (l.map fun x => x ++ ("\n" : Str)).length * ("" : Str).length ≤ 16777216 := by
  have h2 := sum_le (g := fun y : Str => y.length) (l := l.map fun x => x ++ ("\n" : Str)) (m := 441) fun y hy => by
    obtain ⟨x, hx, rfl⟩ := List.mem_map.mp hy
    have := h x hx
    rw [len_app, nl_len]
    omega
  rw [List.length_map] at h2 ⊢
  have h3 : l.length * 441 ≤ n * 441 := Nat.mul_le_mul_right _ hl
  have h4 : ("" : Str).length = 0 := rfl
  rw [h4]
  omega
theorem ended {l : List Str} {n : Nat} (h : ∀ x ∈ l, x.length ≤ 440) (hl : l.length ≤ n) (hn : n ≤ 1000) : F_ended [.d (.lst (l.map .str))] = .ok (.d (.str (endT l))) [] ∧ F_law_ended [.d (.lst (l.map .str))] = .ok (.d (.str (endT l))) [] := by
  have hj := join_lst (z := "") (l := l.map fun x => x ++ ("\n" : Str)) (ended_run h hl hn)
  rw [List.map_map] at hj
  have hE : ∀ ρ : DL.Env, ρ.length = 2 → endR D.lst [1] (tgN 1) mYes (mOp2 gAdd (mV 1) (mC (.str "\n"))) (l.map D.str) ρ = .ok (D.lst (l.map (D.str ∘ fun x => x ++ ("\n" : Str)))) ρ := fun ρ e => endR_1 (by omega) (by omega) fun x hx => ⟨_, by
    have := h x hx
    simp [e, g_addS (show x.length + ("\n" : Str).length ≤ 16777216 by rw [nl_len]; omega)]
    rfl⟩
  constructor
  · unfold F_ended runF
    simp [m_ended, rho0, hE, hj, endT]
  · unfold F_law_ended runF
    simp [m_law_ended, rho0, hE, hj, endT]
end K85
set_option Elab.async false
set_option linter.all false
set_option maxRecDepth 100000
/-! PG: systems written. -/
namespace K85
open PySem L2 DL PySem.Spec PyProof.Rows
theorem join_tup {z : Str} {l : List Str} (h : (l.map (·.length)).sum + l.length * z.length ≤ 16777216) : gJoin z (.tup (l.map D.str)) = some (.str (Str.join z l)) := join_lst h
theorem frz_app3 {A B C : List D} : frz (.ls (A.map O.d ++ (B.map O.d ++ C.map O.d))) = some (.lst (A ++ (B ++ C))) := by
  rw [← List.map_append, ← List.map_append, y_frzL]
theorem sys_run {Hd Rd : List D} {Pd : List D} {A B C zs : List D} {T : Str} (hz : zipD Hd Pd = zs) (lA : A.length ≤ 1000) (lB : B.length ≤ 1000) (lC : C.length ≤ 1000)
    (hH : ∀ ρ : DL.Env, ρ.length = 8 → endR D.lst [4] (tgN 4) mYes (mOp2 gAdd (mC (.str "house ")) (mV 4)) Hd ρ = .ok (.lst A) ρ)
    (hR : ∀ ρ : DL.Env, ρ.length = 8 → endR D.lst [5] (tgN 5) mYes (mM1 gJoin (mC (.str " ")) (mOp2 gAdd (mTup (mCons (mC (.str "road")) mNil)) (mV 5))) Rd ρ = .ok (.lst B) ρ)
    (hL : ∀ ρ : DL.Env, ρ.length = 8 → endR2 D.lst [4, 6, 7] (tgSeq 2 (tgCons (tgN 4) (tgCons (tgN 6) tgNil))) mYes (mItems (mV 6)) [7] (tgN 7) mYes (mFz (mCall 2 [] F_rule_text [] (mCons (mV 4) (mCons (mV 7) mNil)))) zs ρ = .ok (.lst C) ρ)
    (hE : F_ended [.d (.lst (A ++ (B ++ C)))] = .ok (.d (.str T)) []) :
    F_system_text [.d (.tup [.tup [.tup Hd, .tup Rd], .tup Pd])] = .ok (.d (.str T)) [] := by
  unfold F_system_text runF
  simp [m_system_text, rho0, hz, hH, hR, hL, hE, frz_app3, show A.length + B.length ≤ 16777216 by omega, show A.length + B.length + C.length ≤ 16777216 by omega]
theorem lsys_run {Hd Rd : List D} {Pd : List D} {A B C zs : List D} (hz : zipD Hd Pd = zs) (lA : A.length ≤ 1000) (lB : B.length ≤ 1000)
    (hH : ∀ ρ : DL.Env, ρ.length = 8 → endR D.lst [4] (tgN 4) mYes (mOp2 gAdd (mC (.str "house ")) (mV 4)) Hd ρ = .ok (.lst A) ρ)
    (hR : ∀ ρ : DL.Env, ρ.length = 8 → endR D.lst [6] (tgN 6) mYes (mOp2 gAdd (mC (.str "road ")) (mM1 gJoin (mC (.str " ")) (mV 6))) Rd ρ = .ok (.lst B) ρ)
    (hL : ∀ ρ : DL.Env, ρ.length = 8 → ρ[3]? = some (some (.ls (A.map O.d ++ B.map O.d))) → ∃ ρ' : DL.Env, ρ'[3]? = some (some (.ls (A.map O.d ++ (B.map O.d ++ C.map O.d)))) ∧ forX (tgSeq 2 (tgCons (tgN 4) (tgCons (tgN 5) tgNil))) (sDrop (mFz (mMut "list" gExtend (mPs 3) (mOs (mCons (mLcR [7] (mItems (mV 5)) (tgN 7) (mYes) (mFz (mCall 2 [] F_law_rule_text [] (mCons (mV 4) (mCons (mV 7) (mNil)))))) (mNil)))))) zs ρ = .nx ρ') :
    F_law_system_lines [.d (.tup [.tup [.tup Hd, .tup Rd], .tup Pd])] = .ok (.ls ((A ++ (B ++ C)).map O.d)) [] := by
  unfold F_law_system_lines runF
  obtain ⟨ρ', e1, e2⟩ := hL [some (.d (.tup [.tup [.tup Hd, .tup Rd], .tup Pd])), some (.d (.tup [.tup Hd, .tup Rd])), some (.d (.tup Pd)), some (.ls (A.map O.d ++ B.map O.d)), none, none, none, none] rfl rfl
  simp [m_law_system_lines, rho0, hz, hH, hR, show A.length + B.length ≤ 16777216 by omega, e2, e1]
end K85
set_option Elab.async false
set_option linter.all false
set_option maxRecDepth 100000
/-! PH: the law's own texts. -/
namespace K85
open PySem L2 DL PySem.Spec PyProof.Rows
theorem lworth_int {n : Int} (h : n.natAbs.log2 < 1920) : F_law_worth_text [.d (.int n)] = .ok (.d (.str (numT n))) [] := by
  unfold F_law_worth_text runF
  simp [m_law_worth_text, rho0, gs_int h]
theorem lworth_told : F_law_worth_text [.d (.tup [.str "told"])] = .ok (.d (.str "told")) [] := by kernel_rfl
theorem lworth_0 : F_law_worth_text [.d (.tup [.str "slot", .int 0])] = .ok (.d (.str (slotT 0))) [] := by kernel_rfl
theorem lworth_1 : F_law_worth_text [.d (.tup [.str "slot", .int 1])] = .ok (.d (.str (slotT 1))) [] := by kernel_rfl
theorem lworth_2 : F_law_worth_text [.d (.tup [.str "slot", .int 2])] = .ok (.d (.str (slotT 2))) [] := by kernel_rfl
theorem lworth_text {b : Bool} {w : Wo} (h : w.ok b) : F_law_worth_text [.d w.d] = .ok (.d (.str w.t)) [] := by
  match w, h with
  | .told, _ => exact lworth_told
  | .num n, h => exact lworth_int (nu_log h)
  | .slot 0, _ => exact lworth_0
  | .slot 1, _ => exact lworth_1
  | .slot 2, _ => exact lworth_2
  | .slot (k + 3), h => exact absurd (show k + 3 < 3 from h) (by omega)
def sgK : List Key := [.inr "under", .inr "is", .inr "over"]
theorem disp_sg (ρ : DL.Env) : mDisp [(mC (.str "under"), mD (mC (.str "<"))), (mC (.str "is"), mD (mC (.str "="))), (mC (.str "over"), mD (mC (.str ">")))] ρ = .ok (.dk sgK [.d (.str "<"), .d (.str "="), .d (.str ">")]) ρ := by
  simp [mDisp, pairsE, mergeO, putKO, ixOf, keyD, sgK]
theorem e_sg0 : gIxA (.dk sgK [.str "<", .str "=", .str ">"]) (.str "under") = some (.str "<") := by kernel_rfl
theorem e_sg1 : gIxA (.dk sgK [.str "<", .str "=", .str ">"]) (.str "is") = some (.str "=") := by kernel_rfl
theorem e_sg2 : gIxA (.dk sgK [.str "<", .str "=", .str ">"]) (.str "over") = some (.str ">") := by kernel_rfl
theorem e_sg {k : Nat} (h : k < 3) : gIxA (.dk sgK [.str "<", .str "=", .str ">"]) (.str (signW k)) = some (.str (signT k)) := by
  match k, h with
  | 0, _ => exact e_sg0
  | 1, _ => exact e_sg1
  | 2, _ => exact e_sg2
theorem add_told : gAdd (.str "s") (.str "told") = some (.str "stold") := by kernel_rfl
theorem ltest_text {b : Bool} {t : Te} (h : t.ok b) : F_law_test_text [.d t.d] = .ok (.d (.str t.t)) [] := by
  rw [Te.d_eq, Te.t_eq]
  have hk := Te.ok1 h
  have hn := gs_int (nu_log h.2.2)
  have hs := e_sg h.2.1
  have hj := join_lst (z := " ") (l := [whatT t.what, signT t.sign, numT t.num]) (by
    have h1 := what_len hk
    have h2 := sign_len t.sign
    have h3 := nu_len h.2.2
    simp only [List.map_cons, List.map_nil, List.sum_cons, List.sum_nil, List.length_cons, List.length_nil, lit_len]
    have : (" " : String).length = 1 := rfl
    omega)
  simp only [List.map_cons, List.map_nil] at hj
  unfold F_law_test_text runF
  cases e : t.what with
  | none =>
    rw [e] at hj
    simp only [whatT] at hj
    simp [m_law_test_text, rho0, whatT, whatD, hn, hs, hj, disp_sg, add_told, setK, ixN]
  | some k =>
    rw [e] at hj
    have h3 := hk k e
    simp only [whatT] at hj
    simp [m_law_test_text, rho0, whatT, whatD, hn, hs, add_slot h3, str_slot h3, hj, disp_sg]
theorem lact_rest : F_law_act_text [.d (.tup [.str "rest"])] = .ok (.d (.str "rest")) [] := by kernel_rfl
theorem lact_text {out : List Str} {b : Bool} {a : Ac} (h : a.ok out b) : F_law_act_text [.d a.d] = .ok (.d (.str a.t)) [] := by
  cases a with
  | rest => exact lact_rest
  | send r w x =>
    have hx := lworth_text h.2.2.2
    have hj := join_lst (z := " ") (l := ["send", r, w, x.t]) (by
      have h1 := h.2.1.len
      have h2 := h.2.2.1.len
      have h3 := Wo.len h.2.2.2
      simp only [List.map_cons, List.map_nil, List.sum_cons, List.sum_nil, List.length_cons, List.length_nil, lit_len]
      have : (" " : String).length = 1 := rfl
      have : ("send" : String).length = 4 := rfl
      omega)
    simp only [List.map_cons, List.map_nil] at hj
    unfold F_law_act_text runF
    simp [m_law_act_text, rho0, Ac.d, Ac.t, hx, hj]
  | set k s x =>
    have hx := lworth_text h.2.2
    have h3 := h.2.1
    have hj := join_lst (z := " ") (l := [setW k, slotT s, x.t]) (by
      have h1 := set_len k
      have h2 := slot_len h3
      have h4 := Wo.len h.2.2
      simp only [List.map_cons, List.map_nil, List.sum_cons, List.sum_nil, List.length_cons, List.length_nil, lit_len]
      have : (" " : String).length = 1 := rfl
      omega)
    simp only [List.map_cons, List.map_nil] at hj
    unfold F_law_act_text runF
    have hk := h.1
    have e1 : setW k ≠ "rest" := by
      match k, hk with
      | 0, _ => simp [setW]
      | 1, _ => simp [setW]
      | 2, _ => simp [setW]
    have e2 : setW k ≠ "send" := by
      match k, hk with
      | 0, _ => simp [setW]
      | 1, _ => simp [setW]
      | 2, _ => simp [setW]
    simp [m_law_act_text, rho0, Ac.d, Ac.t, hx, hj, e1, e2, set_asc, add_slot h3, str_slot h3]
/-! rules: the joined text, or a point -/
theorem ltests_join {t : List Te} {ρ : DL.Env} {b : Bool} (hi : 8 < ρ.length) (ht : ∀ x ∈ t, x.ok b) (hl : t.length ≤ 3) :
    endR D.lst [8] (tgN 8) mYes (mFz (mCall 1 [] F_law_test_text [] (mCons (mV 8) mNil))) (t.map Te.d) ρ = .ok (.lst (t.map fun x => .str x.t)) ρ :=
  endR_1 hi (by omega) fun x hx => ⟨_, call1 hi (ltest_text (ht x hx))⟩
theorem lacts_join {t : List Ac} {ρ : DL.Env} {b : Bool} {out : List Str} (hi : 9 < ρ.length) (ht : ∀ x ∈ t, x.ok out b) (hl : t.length ≤ 4) :
    endR D.lst [9] (tgN 9) mYes (mFz (mCall 1 [] F_law_act_text [] (mCons (mV 9) mNil))) (t.map Ac.d) ρ = .ok (.lst (t.map fun x => .str x.t)) ρ :=
  endR_1 hi (by omega) fun x hx => ⟨_, call1 hi (lact_text (ht x hx))⟩
theorem j_tests {t : List Te} {b : Bool} (ht : ∀ x ∈ t, x.ok b) (hl : t.length ≤ 3) : gJoin " & " (.lst (t.map fun x => .str x.t)) = some (.str (Str.join " & " (t.map Te.t))) := by
  have h1 := sum_le (g := fun y : Str => y.length) (l := t.map Te.t) (m := 38) fun y hy => by
    obtain ⟨x, hx, rfl⟩ := List.mem_map.mp hy
    exact Te.len (ht x hx)
  have e := join_lst (z := " & ") (l := t.map Te.t) (by rw [List.length_map] at h1 ⊢; rw [and_len]; omega)
  rw [List.map_map] at e
  exact e
theorem j_acts {t : List Ac} {b : Bool} {out : List Str} (ht : ∀ x ∈ t, x.ok out b) (hl : t.length ≤ 4) : gJoin " , " (.lst (t.map fun x => .str x.t)) = some (.str (Str.join " , " (t.map Ac.t))) := by
  have h1 := sum_le (g := fun y : Str => y.length) (l := t.map Ac.t) (m := 60) fun y hy => by
    obtain ⟨x, hx, rfl⟩ := List.mem_map.mp hy
    exact Ac.len (ht x hx)
  have e := join_lst (z := " , ") (l := t.map Ac.t) (by rw [List.length_map] at h1 ⊢; rw [com_len]; omega)
  rw [List.map_map] at e
  exact e
theorem pick {α : Type} {z : Str} {g : α → Str} {l : List α} [Decidable (l = [])] : gIxA (.lst [.str ".", .str (Str.join z (l.map g))]) (.int (if l = [] then 0 else 1)) = some (.str (dotT z (l.map g))) := by
  cases l with
  | nil => simp [dotT]
  | cons a l => simp [dotT]
theorem lrule_text {out : List Str} {r : Ru} {h : Str} (hn : Nm h) (k : r.ok out) (n1 : gNe (.tup (r.tests.map Te.d)) (.tup []) = some (.bl (!r.tests.isEmpty))) (n2 : gNe (.tup (r.acts.map Ac.d)) (.tup []) = some (.bl (!r.acts.isEmpty))) : F_law_rule_text [.d (.str h), .d r.d] = .ok (.d (.str (r.t h))) [] := by
  have hb : (whT r.wh).length ≤ 11 := wh_len k.wh
  have h1 := Ru.tests_len k
  have h2 := Ru.acts_len k
  have h3 := hn.len
  have l1 : ("rule " : String).length = 5 := rfl
  have l2 : (" " : String).length = 1 := rfl
  have l3 : (" ; " : String).length = 3 := rfl
  have a1 : gAdd (.str "rule ") (.str h) = some (.str ("rule " ++ h)) := g_addS (by simp only [lit_len]; omega)
  have a2 : gAdd (.str ("rule " ++ h)) (.str " ") = some (.str ("rule " ++ h ++ " ")) := g_addS (by simp only [lit_len, len_app]; omega)
  have a3 : gAdd (.str ("rule " ++ h ++ " ")) (.str (whT r.wh)) = some (.str ("rule " ++ h ++ " " ++ whT r.wh)) := g_addS (by simp only [lit_len, len_app]; omega)
  have a5 : gAdd (.str ("rule " ++ h ++ " " ++ whT r.wh)) (.str " ; ") = some (.str ("rule " ++ h ++ " " ++ whT r.wh ++ " ; ")) := g_addS (by simp only [lit_len, len_app]; omega)
  have a6 : gAdd (.str ("rule " ++ h ++ " " ++ whT r.wh ++ " ; ")) (.str (dotT " & " (r.tests.map Te.t))) = some (.str ("rule " ++ h ++ " " ++ whT r.wh ++ " ; " ++ dotT " & " (r.tests.map Te.t))) := g_addS (by simp only [lit_len, len_app]; omega)
  have a7 : gAdd (.str ("rule " ++ h ++ " " ++ whT r.wh ++ " ; " ++ dotT " & " (r.tests.map Te.t))) (.str " ; ") = some (.str ("rule " ++ h ++ " " ++ whT r.wh ++ " ; " ++ dotT " & " (r.tests.map Te.t) ++ " ; ")) := g_addS (by simp only [lit_len, len_app]; omega)
  have a8 : gAdd (.str ("rule " ++ h ++ " " ++ whT r.wh ++ " ; " ++ dotT " & " (r.tests.map Te.t) ++ " ; ")) (.str (dotT " , " (r.acts.map Ac.t))) = some (.str ("rule " ++ h ++ " " ++ whT r.wh ++ " ; " ++ dotT " & " (r.tests.map Te.t) ++ " ; " ++ dotT " , " (r.acts.map Ac.t))) := g_addS (by simp only [lit_len, len_app]; omega)
  have ej : r.t h = "rule " ++ h ++ " " ++ whT r.wh ++ " ; " ++ dotT " & " (r.tests.map Te.t) ++ " ; " ++ dotT " , " (r.acts.map Ac.t) := by
    show ("rule " : Str) ++ h ++ " " ++ (whT r.wh ++ " ; " ++ (dotT " & " (r.tests.map Te.t) ++ " ; " ++ dotT " , " (r.acts.map Ac.t))) = ("rule " : Str) ++ h ++ " " ++ whT r.wh ++ " ; " ++ dotT " & " (r.tests.map Te.t) ++ " ; " ++ dotT " , " (r.acts.map Ac.t)
    apply tl_inj
    simp only [tl_app, List.append_assoc]
  rw [ej]
  have i1 : ∀ [Decidable (r.tests = [])], gIxA (.lst [.str ".", .str (Str.join " & " (r.tests.map Te.t))]) (.int (if r.tests = [] then 0 else 1)) = some (.str (dotT " & " (r.tests.map Te.t))) := by
    intro _
    exact pick
  have i2 : ∀ [Decidable (r.acts = [])], gIxA (.lst [.str ".", .str (Str.join " , " (r.acts.map Ac.t))]) (.int (if r.acts = [] then 0 else 1)) = some (.str (dotT " , " (r.acts.map Ac.t))) := by
    intro _
    exact pick
  have hT : ∀ ρ : DL.Env, ρ.length = 10 → _ := fun ρ e1 => ltests_join (t := r.tests) (ρ := ρ) (by omega) k.te k.lt
  have hA : ∀ ρ : DL.Env, ρ.length = 10 → _ := fun ρ e1 => lacts_join (t := r.acts) (ρ := ρ) (by omega) k.ac k.la
  have j1 := j_tests k.te k.lt
  have j2 := j_acts k.ac k.la
  have b1 : gAdd (.str "on ") (.str "self") = some (.str "on self") := by kernel_rfl
  generalize dotT " & " (r.tests.map Te.t) = TT at *
  generalize dotT " , " (r.acts.map Ac.t) = TA at *
  generalize ("rule " : Str) ++ h ++ " " = HH at *
  unfold F_law_rule_text runF
  cases e : r.wh with
  | none =>
    rw [e] at a3 a5 a6 a7 a8 hb
    simp only [whT] at a3 a5 a6 a7 a8
    simp [m_law_rule_text, rho0, Ru.d, e, whD, hT, hA, a1, a2, a3, a5, a6, a7, a8, whT, n1, n2, j1, j2, b1, i1, i2]
  | some w =>
    rw [e] at a3 a5 a6 a7 a8 hb
    simp only [whT] at a3 a5 a6 a7 a8 hb
    have a4 : gAdd (.str "on ") (.str w) = some (.str ("on " ++ w)) := g_addS (by rw [len_app] at hb; omega)
    simp [m_law_rule_text, rho0, Ru.d, e, whD, hT, hA, a1, a2, a3, a4, a5, a6, a7, a8, whT, n1, n2, j1, j2, i1, i2]
end K85
set_option Elab.async false
set_option linter.all false
set_option maxRecDepth 100000
/-! PI: both texts of a system. -/
namespace K85
open PySem L2 DL PySem.Spec PyProof.Rows
variable {s : Sy}
theorem house_cat {h : Str} (hn : Nm h) : gAdd (.str "house ") (.str h) = some (.str ("house " ++ h)) := g_addS (by
  have := hn.len
  rw [lit_len]
  have e : ("house " : String).length = 6 := rfl
  omega)
theorem houses_run (k : s.ok) (ρ : DL.Env) (e : ρ.length = 8) : endR D.lst [4] (tgN 4) mYes (mOp2 gAdd (mC (.str "house ")) (mV 4)) (s.houses.map .str) ρ = .ok (.lst (s.houses.map fun h => .str ("house " ++ h))) ρ :=
  endR_1 (by omega) (by have := k.h5; omega) fun x hx => ⟨ρ.set 4 (some (.d (.str x))), by simp [e, house_cat (k.nm x hx)]⟩
theorem road_j {r : Ro} (k : s.ok) (hr : r ∈ s.roads) : (([("road" : Str), r.road, r.one, r.other, wayW r.way].map (·.length)).sum + [("road" : Str), r.road, r.one, r.other, wayW r.way].length * (" " : Str).length) ≤ 16777216 := by
  have ko := k.ro r hr
  have h1 := ko.nm.len
  have h2 := (k.nm _ ko.one).len
  have h3 := (k.nm _ ko.other).len
  have h4 := way_len r.way
  simp only [List.map_cons, List.map_nil, List.sum_cons, List.sum_nil, List.length_cons, List.length_nil, lit_len]
  have e1 : ("road" : String).length = 4 := rfl
  have e2 : (" " : String).length = 1 := rfl
  omega
theorem roads_run (k : s.ok) (ρ : DL.Env) (e : ρ.length = 8) : endR D.lst [5] (tgN 5) mYes (mM1 gJoin (mC (.str " ")) (mOp2 gAdd (mTup (mCons (mC (.str "road")) mNil)) (mV 5))) (s.roads.map Ro.d) ρ = .ok (.lst (s.roads.map fun r => .str r.t)) ρ :=
  endR_1 (by omega) (by have := k.r8; omega) fun x hx => ⟨_, by
    have hj := join_tup (z := " ") (l := [("road" : Str), x.road, x.one, x.other, wayW x.way]) (road_j k hx)
    simp only [List.map_cons, List.map_nil] at hj
    simp [e, Ro.d, hj, Ro.t]
    rfl⟩
theorem lroads_run (k : s.ok) (ρ : DL.Env) (e : ρ.length = 8) : endR D.lst [6] (tgN 6) mYes (mOp2 gAdd (mC (.str "road ")) (mM1 gJoin (mC (.str " ")) (mV 6))) (s.roads.map Ro.d) ρ = .ok (.lst (s.roads.map fun r => .str r.t)) ρ :=
  endR_1 (by omega) (by have := k.r8; omega) fun x hx => ⟨_, by
    have hb := road_j k hx
    have hj := join_tup (z := " ") (l := [x.road, x.one, x.other, wayW x.way]) (by
      simp only [List.map_cons, List.map_nil, List.sum_cons, List.sum_nil, List.length_cons, List.length_nil, lit_len] at hb ⊢
      omega)
    simp only [List.map_cons, List.map_nil] at hj
    have hl := Ro.t_len k.nm (k.ro x hx)
    have et : x.t = "road " ++ Str.join " " [x.road, x.one, x.other, wayW x.way] := by
      show ("road" : Str) ++ " " ++ Str.join " " [x.road, x.one, x.other, wayW x.way] = _
      congr 1
    have ha : gAdd (.str "road ") (.str (Str.join " " [x.road, x.one, x.other, wayW x.way])) = some (.str x.t) := by
      rw [et] at hl ⊢
      exact g_addS (by rw [len_app] at hl; omega)
    simp [e, Ro.d, hj, ha]
    rfl⟩
theorem zip_eq : zipD (s.houses.map D.str) (s.progs.map fun p => D.tup (p.map Ru.d)) = (s.houses.zip s.progs).map fun q => D.tup [D.str q.1, D.tup (q.2.map Ru.d)] := zipD_map
def rlines (s : Sy) : List Str := ((s.houses.zip s.progs).map fun q => q.2.map (Ru.t q.1)).flatten
theorem zip_mem (k : s.ok) {q : Str × List Ru} (h : q ∈ s.houses.zip s.progs) : Nm q.1 ∧ q.2.length ≤ 8 ∧ ∀ r ∈ q.2, r.ok (outs s q.1) :=
  ⟨k.nm _ (List.of_mem_zip h).1, k.p8 _ (List.of_mem_zip h).2, k.pr q h⟩
theorem rlines_len (k : s.ok) : (rlines s).length ≤ 40 := by
  have h := flat_len (g := fun q : Str × List Ru => q.2.map (Ru.t q.1)) (l := s.houses.zip s.progs) (m := 8) fun q hq => by rw [List.length_map]; exact (zip_mem k hq).2.1
  have l : (s.houses.zip s.progs).length ≤ 5 := by rw [List.length_zip]; have := k.h5; omega
  unfold rlines
  omega
theorem rules_run (k : s.ok) (ρ : DL.Env) (e : ρ.length = 8) : endR2 D.lst [4, 6, 7] (tgSeq 2 (tgCons (tgN 4) (tgCons (tgN 6) tgNil))) mYes (mItems (mV 6)) [7] (tgN 7) mYes (mFz (mCall 2 [] F_rule_text [] (mCons (mV 4) (mCons (mV 7) mNil)))) ((s.houses.zip s.progs).map fun q => D.tup [D.str q.1, D.tup (q.2.map Ru.d)]) ρ = .ok (.lst ((rlines s).map .str)) ρ := by
  match ρ, e with
  | [a, b, c, d, e, f, g, h], _ =>
    have key := lc2R_map (own := [4, 6, 7]) (own1 := [7]) (t := tgSeq 2 (tgCons (tgN 4) (tgCons (tgN 6) tgNil))) (t1 := tgN 7) (mc := mYes) (mc1 := mYes) (mi1 := mItems (mV 6)) (me := mFz (mCall 2 [] F_rule_text [] (mCons (mV 4) (mCons (mV 7) mNil)))) (ρ := [a, b, c, d, e, f, g, h])
      (f := fun q : Str × List Ru => D.tup [D.str q.1, D.tup (q.2.map Ru.d)]) (g := fun q => q.2.map fun r => D.str (r.t q.1)) (xs := s.houses.zip s.progs) fun q hq => by
        obtain ⟨z1, z2, z3⟩ := zip_mem k hq
        refine ⟨[a, b, c, d, some (.d (.str q.1)), f, some (.d (.tup (q.2.map Ru.d))), none], _, [a, b, c, d, some (.d (.str q.1)), f, some (.d (.tup (q.2.map Ru.d))), none], q.2.map Ru.d, by simp, rfl, by simp, ?_⟩
        exact lcR_map fun r hr => ⟨[a, b, c, d, some (.d (.str q.1)), f, some (.d (.tup (q.2.map Ru.d))), some (.d r.d)], _, [a, b, c, d, some (.d (.str q.1)), f, some (.d (.tup (q.2.map Ru.d))), some (.d r.d)], by simp, rfl, by simp [rule_text z1 (z3 r hr)]⟩
    have e2 : ((s.houses.zip s.progs).map fun q => q.2.map fun r => D.str (r.t q.1)).flatten = (rlines s).map .str := by
      unfold rlines
      rw [List.map_flatten, List.map_map]
      congr 1
      apply List.map_congr_left
      intro q _
      simp
    rw [e2] at key
    unfold endR2
    rw [key]
    dsimp only
    rw [if_pos (by rw [List.length_map]; have := rlines_len k; omega)]
theorem n_tests {out : List Str} {r : Ru} (k : r.ok out) : gNe (.tup (r.tests.map Te.d)) (.tup []) = some (.bl (!r.tests.isEmpty)) := by
  rw [(tup_nil (tests_py k.te k.lt) (by omega)).1]
  cases r.tests <;> rfl
theorem n_acts {out : List Str} {r : Ru} (k : r.ok out) : gNe (.tup (r.acts.map Ac.d)) (.tup []) = some (.bl (!r.acts.isEmpty)) := by
  rw [(tup_nil (acts_py k.ac k.la) (by omega)).1]
  cases r.acts <;> rfl
theorem lrules_run (k : s.ok) : ∀ (qs : List (Str × List Ru)) (X : List O) (ρ : DL.Env), (∀ q ∈ qs, q ∈ s.houses.zip s.progs) → X.length + 8 * qs.length ≤ 1000 → ρ.length = 8 → ρ[3]? = some (some (.ls X)) →
    ∃ ρ' : DL.Env, ρ'[3]? = some (some (.ls (X ++ (((qs.map fun q => q.2.map (Ru.t q.1)).flatten).map D.str).map O.d))) ∧ forX (tgSeq 2 (tgCons (tgN 4) (tgCons (tgN 5) tgNil))) (sDrop (mFz (mMut "list" gExtend (mPs 3) (mOs (mCons (mLcR [7] (mItems (mV 5)) (tgN 7) (mYes) (mFz (mCall 2 [] F_law_rule_text [] (mCons (mV 4) (mCons (mV 7) (mNil)))))) (mNil))))))
      (qs.map fun q => D.tup [D.str q.1, D.tup (q.2.map Ru.d)]) ρ = .nx ρ'
  | [], X, ρ, _, _, _, h => ⟨ρ, by simpa using h, rfl⟩
  | q :: qs, X, ρ, hq, hl, e, h => by
    obtain ⟨z1, z2, z3⟩ := zip_mem k (hq q List.mem_cons_self)
    match ρ, e, h with
    | [a, b, c, _, e, f, g, h], _, rfl =>
      have hr : endR D.lst [7] (tgN 7) mYes (mFz (mCall 2 [] F_law_rule_text [] (mCons (mV 4) (mCons (mV 7) mNil)))) (q.2.map Ru.d) [a, b, c, some (.ls X), some (.d (.str q.1)), some (.d (.tup (q.2.map Ru.d))), g, h] = .ok (.lst (q.2.map fun r => D.str (r.t q.1))) [a, b, c, some (.ls X), some (.d (.str q.1)), some (.d (.tup (q.2.map Ru.d))), g, h] :=
        endR_1 (by simp) (by omega) fun r hr => ⟨[a, b, c, some (.ls X), some (.d (.str q.1)), some (.d (.tup (q.2.map Ru.d))), g, some (.d r.d)], by simp [lrule_text z1 (z3 r hr) (n_tests (z3 r hr)) (n_acts (z3 r hr))]⟩
      rw [List.length_cons] at hl
      obtain ⟨ρ', i1, i2⟩ := lrules_run k qs (X ++ (q.2.map fun r => D.str (r.t q.1)).map O.d) [a, b, c, some (.ls (X ++ (q.2.map fun r => D.str (r.t q.1)).map O.d)), some (.d (.str q.1)), some (.d (.tup (q.2.map Ru.d))), g, h] (fun x hx => hq x (List.mem_cons_of_mem _ hx)) (by
        rw [List.length_append, List.length_map, List.length_map]; omega) rfl rfl
      refine ⟨ρ', ?_, ?_⟩
      · rw [i1]
        simp
      · rw [List.map_cons, forX]
        simp [hr, show X.length + q.2.length ≤ 16777216 by omega]
        simpa using i2
theorem lines_eq : s.lines = s.houses.map (fun h => ("house " : Str) ++ h) ++ (s.roads.map Ro.t ++ rlines s) := by
  unfold Sy.lines rlines
  rw [List.append_assoc]
theorem lines_str : (s.houses.map fun h => D.str ("house " ++ h)) ++ ((s.roads.map fun r => D.str r.t) ++ (rlines s).map .str) = s.lines.map .str := by
  rw [lines_eq, List.map_append, List.map_append, List.map_map, List.map_map]
  rfl
theorem lines_ok (k : s.ok) : s.lines.length ≤ 53 ∧ ∀ x ∈ s.lines, x.length ≤ 440 := by
  rw [lines_eq]
  refine ⟨?_, fun x hx => ?_⟩
  · have := rlines_len k
    have := k.h5
    have := k.r8
    simp only [List.length_append, List.length_map]
    omega
  · rw [List.mem_append, List.mem_append] at hx
    rcases hx with hx | hx | hx
    · obtain ⟨h, hh, rfl⟩ := List.mem_map.mp hx
      have := (k.nm h hh).len
      rw [len_app, lit_len]
      have e : ("house " : String).length = 6 := rfl
      omega
    · obtain ⟨r, hr, rfl⟩ := List.mem_map.mp hx
      exact Ro.t_len k.nm (k.ro r hr)
    · unfold rlines at hx
      obtain ⟨l, hl, hx⟩ := List.mem_flatten.mp hx
      obtain ⟨q, hq, rfl⟩ := List.mem_map.mp hl
      obtain ⟨r, hr, rfl⟩ := List.mem_map.mp hx
      exact Ru.t_len (zip_mem k hq).1 ((zip_mem k hq).2.2 r hr)
theorem ends (k : s.ok) : F_ended [.d (.lst (s.lines.map .str))] = .ok (.d (.str s.t)) [] ∧ F_law_ended [.d (.lst (s.lines.map .str))] = .ok (.d (.str s.t)) [] := ended (lines_ok k).2 (lines_ok k).1 (by omega)
theorem system_text (k : s.ok) : F_system_text [.d s.d] = .ok (.d (.str s.t)) [] :=
  sys_run zip_eq (by rw [List.length_map]; have := k.h5; omega) (by rw [List.length_map]; have := k.r8; omega) (by rw [List.length_map]; have := rlines_len k; omega) (houses_run k) (roads_run k) (rules_run k) (by rw [lines_str]; exact (ends k).1)
theorem law_lines (k : s.ok) : F_law_system_lines [.d s.d] = .ok (.ls ((s.lines.map D.str).map O.d)) [] := by
  rw [← lines_str]
  exact lsys_run zip_eq (by rw [List.length_map]; have := k.h5; omega) (by rw [List.length_map]; have := k.r8; omega) (houses_run k) (lroads_run k) (fun ρ e h => by
    obtain ⟨ρ', i1, i2⟩ := lrules_run k (s.houses.zip s.progs) _ ρ (fun _ h => h) (by
      have := k.h5
      have := k.r8
      simp only [List.length_append, List.length_map, List.length_zip]
      omega) e h
    refine ⟨ρ', ?_, i2⟩
    rw [i1, List.append_assoc]
    rfl)
end K85
set_option Elab.async false
set_option linter.all false
set_option maxRecDepth 100000
/-! PJ: words read. -/
namespace K85
open PySem L2 DL PySem.Spec PyProof.Rows
theorem dig_in : ∀ c : Fin 58, 48 ≤ c.1 → gInA (.str ⟨#[c.1]⟩) (.str "0123456789") = some (.bl true) := by
  intro c h
  have k : ∀ c : Fin 58, 48 ≤ c.1 → (!(Builtin.Str.occurrences ("0123456789" : Str) ⟨#[c.1]⟩ 0 ("0123456789" : Str).length 1).isEmpty) = true := by decide +kernel
  show (inD (.str ⟨#[c.1]⟩) (.str "0123456789")).map D.bl = _
  show some (D.bl _) = _
  rw [k c h]
theorem let_in : ∀ c : Fin 123, 97 ≤ c.1 → gInA (.str ⟨#[c.1]⟩) (.str "abcdefghijklmnopqrstuvwxyz") = some (.bl true) := by
  intro c h
  have k : ∀ c : Fin 123, 97 ≤ c.1 → (!(Builtin.Str.occurrences ("abcdefghijklmnopqrstuvwxyz" : Str) ⟨#[c.1]⟩ 0 ("abcdefghijklmnopqrstuvwxyz" : Str).length 1).isEmpty) = true := by decide +kernel
  show (inD (.str ⟨#[c.1]⟩) (.str "abcdefghijklmnopqrstuvwxyz")).map D.bl = _
  show some (D.bl _) = _
  rw [k c h]
theorem items_str (x : Str) : itemsOf (.str x) = some ((tl x).map fun c => .str ⟨#[c]⟩) := rfl
theorem all_true {α : Type} (xs : List α) : gAll (.lst (xs.map fun _ => D.bl true)) = some (.bl true) := by
  have h := all_map (p := fun _ : α => true) (xs := xs)
  rw [h]
  congr 2
  exact List.all_eq_true.mpr fun _ _ => rfl
theorem ix_s0 {x : Str} {c : Nat} {r : List Nat} (h : tl x = c :: r) (hl : x.length ≤ 16777216) : gIxA (.str x) (.int 0) = some (.str ⟨#[c]⟩) := by
  show (if x.length ≤ 16777216 then (atI (tl x) ((0 : Nat) : Int)).map fun c => D.str ⟨#[c]⟩ else none) = _
  rw [if_pos hl, h, at_nat (by simp)]
  rfl
theorem one_eq {c d : Nat} (hc : c < 128) (hd : d < 128) : gEq (.str ⟨#[c]⟩) (.str ⟨#[d]⟩) = some (.bl (decide (c = d))) := by
  rw [sEq (fun e he => by have he : e ∈ [c] := he; simp at he; omega) (fun e he => by have he : e ∈ [d] := he; simp at he; omega)]
  congr 2
  by_cases h : c = d
  · subst h; simp
  · rw [decide_eq_false h, decide_eq_false]
    intro e
    have := congrArg tl e
    exact h (by simpa using (List.cons.inj (show [c] = [d] from this)).1)
theorem number_run {w f : Str} {n : Int} {c : Nat} {r : List Nat} (hf : tl f = c :: r) (hd : NumText.AllDigits (tl f)) (ha : Asc w) (hl : w.length ≤ 100) (hlf : f.length ≤ 100) (hr : PySem.intText? w = some n) (h0 : c = 48 → w = "0")
    (hs : (Txt.startswith w "-" = true ∧ Txt.slice w (some 1) none = f) ∨ (Txt.startswith w "-" = false ∧ w = f)) : F_number_in [.d (.str w), .d (.int 1000)] = .ok (.d (.int n)) [] := by
  have hE : ∀ ρ : DL.Env, ρ.length = 4 → endR D.lst [3] (tgN 3) mYes (mOp2 gInA (mV 3) (mC (.str "0123456789"))) ((tl f).map fun c => .str ⟨#[c]⟩) ρ = .ok (.lst ((tl f).map fun _ => .bl true)) ρ := fun ρ e => endR_1 (by omega) (by rw [tl_len]; omega) fun x hx => ⟨ρ.set 3 (some (.d (.str ⟨#[x]⟩))), by
    have := hd x hx
    simp [e, dig_in ⟨x, by omega⟩ this.1]⟩
  have h1 := g_lenS (x := f) (by omega)
  have hfl : 1 ≤ f.length := by rw [← tl_len, hf]; simp
  have h2 := ix_s0 hf (by omega)
  have h3 : gEq (.str ⟨#[c]⟩) (.str "0") = some (.bl (decide (c = 48))) := one_eq (d := 48) (by have := hd c (by rw [hf]; simp); omega) (by omega)
  have h4 : gInt (.str w) = some (.int n) := by
    show (if w.length ≤ 640 then (PySem.intText? w).map D.int else none) = _
    rw [if_pos (by omega), hr]
    rfl
  have h5 : gStarts w (.str "-") = some (.bl (Txt.startswith w "-")) := rfl
  have h6 : gSl (.str w) (some 1) none = some (.str (Txt.slice w (some 1) none)) := by
    show (if w.length ≤ 16777216 then some (D.str (Txt.slice w (some 1) none)) else none) = _
    rw [if_pos (by omega)]
  have b1 : (1 : Int) ≤ f.length := by omega
  have b2 : (f.length : Int) ≤ 1000 := by omega
  have h7 : gNe (.str w) (.str "0") = some (.bl (!decide (w = "0"))) := sNe ha (lit_asc rfl)
  unfold F_number_in runF
  rcases hs with ⟨s1, s2⟩ | ⟨s1, s2⟩
  · rw [s1] at h5
    rw [s2] at h6
    by_cases hc : c = 48
    · have hw := h0 hc
      rw [hw] at s1
      exact absurd s1 (by decide +kernel)
    · simp [m_number_in, rho0, h5, h6, h1, b1, b2, items_str, hE, all_true, h2, h3, hc, h4]
  · rw [s1] at h5
    subst s2
    by_cases hc : c = 48
    · have hw := h0 hc
      have h8 : gNe (.str w) (.str "0") = some (.bl false) := by rw [h7, decide_eq_true hw]; rfl
      subst hc
      rw [decide_eq_true rfl] at h3
      simp [m_number_in, rho0, h5, h1, b1, b2, items_str, hE, all_true, h2, h3, h4, h8]
    · simp [m_number_in, rho0, h5, h1, b1, b2, items_str, hE, all_true, h2, h3, hc, h4]
theorem minus_tl : tl ("-" : Str) = [45] := by decide +kernel
theorem number_in {n : Int} (h : Nu n) : F_number_in [.d (.str (numT n)), .d (.int 1000)] = .ok (.d (.int n)) [] := by
  have hl := nu_len h
  have hr := num_reads (n := n) (by omega)
  rcases num_cases n with ⟨m, rfl, e⟩ | ⟨m, rfl, e⟩
  · by_cases hm : m = 0
    · subst hm
      refine number_run (f := numT ((0 : Nat) : Int)) (c := 48) (r := []) (by rw [e, fig_zero]) (by rw [e]; exact fig_all 0) (num_asc _) (by omega) (by omega) hr (fun _ => rfl) (.inr ⟨?_, rfl⟩)
      decide +kernel
    · obtain ⟨c, r, e1, e2⟩ := fig_head m hm
      refine number_run (f := numT (m : Int)) (by rw [e, e1]) (by rw [e]; exact fig_all m) (num_asc _) (by omega) (by omega) hr (fun z => absurd z e2) (.inr ⟨?_, rfl⟩)
      rw [starts1 minus_tl, e, e1]
      have := fig_all m c (by rw [e1]; simp)
      simp
      omega
  · obtain ⟨c, r, e1, e2⟩ := fig_head (m + 1) (by omega)
    have hf : tl (⟨(fig (m + 1)).toArray⟩ : Str) = fig (m + 1) := rfl
    refine number_run (f := ⟨(fig (m + 1)).toArray⟩) (by rw [hf, e1]) (by rw [hf]; exact fig_all _) (num_asc _) (by omega) (by
      rw [← tl_len, hf]
      have := congrArg List.length e
      rw [List.length_cons, tl_len] at this
      omega) hr (fun z => absurd z e2) (.inl ⟨?_, ?_⟩)
    · rw [starts1 minus_tl, e]
      simp
    · have k := from_tl (x := numT (-((m + 1 : Nat) : Int))) (n := 1)
      rw [e] at k
      exact k
/-! slots -/
def slK : List Key := [.inr "s0", .inr "s1", .inr "s2"]
theorem slots_run {ρ : DL.Env} (h : ρ.length = 3) : mDcR [2] (mRng1 (mC (.int 3))) (tgN 2) (mYes) (mOp2 gAdd (mC (.str "s")) (mOp1 gStr2 (mV 2))) (mD (mV 2)) ρ = .ok (.dk slK [.d (.int 0), .d (.int 1), .d (.int 2)]) ρ := by
  match ρ, h with
  | [a, b, c], _ =>
    have a0 : gAdd (.str "s") (.str (numT 0)) = some (.str "s0") := by kernel_rfl
    have a1 : gAdd (.str "s") (.str (numT 1)) = some (.str "s1") := by kernel_rfl
    have a2 : gAdd (.str "s") (.str (numT 2)) = some (.str "s2") := by kernel_rfl
    have b0 : gStr2 (.int 0) = some (.str (numT 0)) := gs_int (by decide)
    have b1 : gStr2 (.int 1) = some (.str (numT 1)) := gs_int (by decide)
    have b2 : gStr2 (.int 2) = some (.str (numT 2)) := gs_int (by decide)
    have r : rngD 0 3 = [.int 0, .int 1, .int 2] := rfl
    simp [mDcR, endDR, dcR, r, g62, a0, a1, a2, b0, b1, b2, keyD, putKO, ixOf, slK]
theorem slot_in (w : Str) : F_slot_in [.d (.str w)] = .ok (.d (((ixOf (.inr w) slK).bind fun i => [D.int 0, D.int 1, D.int 2][i]?).getD .non)) [] := by
  have h := slots_run (ρ := [some (.d (.str w)), none, none]) rfl
  unfold F_slot_in runF
  simp [m_slot_in, rho0, h, keyD]
theorem slot_0 : F_slot_in [.d (.str (slotT 0))] = .ok (.d (.int 0)) [] := by rw [slot_in]; kernel_rfl
theorem slot_1 : F_slot_in [.d (.str (slotT 1))] = .ok (.d (.int 1)) [] := by rw [slot_in]; kernel_rfl
theorem slot_2 : F_slot_in [.d (.str (slotT 2))] = .ok (.d (.int 2)) [] := by rw [slot_in]; kernel_rfl
theorem slot_k {k : Nat} (h : k < 3) : F_slot_in [.d (.str (slotT k))] = .ok (.d (.int k)) [] := by
  match k, h with
  | 0, _ => exact slot_0
  | 1, _ => exact slot_1
  | 2, _ => exact slot_2
theorem num_head (n : Int) : ∃ c r, tl (numT n) = c :: r ∧ (c = 45 ∨ (48 ≤ c ∧ c ≤ 57)) := by
  rcases num_cases n with ⟨m, _, e⟩ | ⟨m, _, e⟩
  · cases z : fig m with
    | nil => exact absurd z (fig_ne m)
    | cons c r =>
      have := fig_all m c (by rw [z]; simp)
      exact ⟨c, r, e.trans z, .inr (by omega)⟩
  · exact ⟨45, _, e, .inl rfl⟩
theorem num_ne {n : Int} {x : Str} {c : Nat} {r : List Nat} (h : tl x = c :: r) (hc : c ≠ 45 ∧ (c < 48 ∨ 57 < c)) : numT n ≠ x := fun e => by
  obtain ⟨d, s, k, hd⟩ := num_head n
  rw [e, h] at k
  have := (List.cons.inj k).1
  omega
theorem slot_num (n : Int) : F_slot_in [.d (.str (numT n))] = .ok (.d .non) [] := by
  rw [slot_in]
  have h0 : numT n ≠ "s0" := num_ne (c := 115) (r := [48]) (by decide +kernel) (by omega)
  have h1 : numT n ≠ "s1" := num_ne (c := 115) (r := [49]) (by decide +kernel) (by omega)
  have h2 : numT n ≠ "s2" := num_ne (c := 115) (r := [50]) (by decide +kernel) (by omega)
  simp [ixOf, slK, Ne.symm h0, Ne.symm h1, Ne.symm h2]
theorem worthin_told : F_worth_in [.d (.str "told")] = .ok (.d (.tup [.str "told"])) [] := by kernel_rfl
theorem worth_in {b : Bool} {w : Wo} (h : w.ok b) : F_worth_in [.d (.str w.t)] = .ok (.d w.d) [] := by
  cases w with
  | told => exact worthin_told
  | slot k =>
    have h1 := slot_k h
    have hne : slotT k ≠ "told" := by
      match k, h with
      | 0, _ => exact fun e => absurd (congrArg tl e) (by decide +kernel)
      | 1, _ => exact fun e => absurd (congrArg tl e) (by decide +kernel)
      | 2, _ => exact fun e => absurd (congrArg tl e) (by decide +kernel)
    unfold F_worth_in runF
    simp [m_worth_in, rho0, Wo.t, Wo.d, h1, slot_asc, hne, gIsNot, DL.isNon]
  | num n =>
    have hne : numT n ≠ "told" := num_ne (c := 116) (r := [111, 108, 100]) (by decide +kernel) (by omega)
    unfold F_worth_in runF
    simp [m_worth_in, rho0, Wo.t, Wo.d, num_asc, hne, slot_num, gIsNot, DL.isNon, number_in h, dd1_number_in]
end K85
set_option Elab.async false
set_option linter.all false
set_option maxRecDepth 100000
/-! PK: tests, acts, rules read. -/
namespace K85
open PySem L2 DL PySem.Spec PyProof.Rows
theorem spl {y z : Str} {b : Nat} {parts : List Str} (S : Sep y b) (h1 : 0 < y.length) (hl : z.length ≤ 16777214) (e : z = Str.join y parts) (hne : parts ≠ []) (hf : ∀ p ∈ parts, b ∉ tl p) : gSplitN z (.str y) = some (parts.map .str) := by
  show (if 0 < y.length ∧ z.length ≤ 16777214 then some ((Txt.split z y).map D.str) else none) = _
  rw [if_pos ⟨h1, hl⟩, e, split_join S hne hf]
def snK : List Key := [.inr "<", .inr "=", .inr ">"]
theorem signs_run {ρ : DL.Env} (h : ρ.length = 7) : mDcR [5, 6] (mItms (mC (.dk tk_SIGN_TEXTS td_SIGN_TEXTS))) (tgSeq 2 (tgCons (tgN 5) (tgCons (tgN 6) (tgNil)))) (mYes) (mV 6) (mD (mV 5)) ρ = .ok (.dk snK [.d (.str "under"), .d (.str "is"), .d (.str "over")]) ρ := by
  match ρ, h with
  | [a, b, c, d, e, f, g], _ =>
    have r : itmD tk_SIGN_TEXTS td_SIGN_TEXTS = [.tup [.str "under", .str "<"], .tup [.str "is", .str "="], .tup [.str "over", .str ">"]] := rfl
    simp [mDcR, endDR, dcR, r, keyD, putKO, ixOf, snK]
theorem sign_at {k : Nat} (h : k < 3) : ((ixOf (.inr (signT k)) snK).bind fun i => [D.str "under", D.str "is", D.str "over"][i]?).getD .non = .str (signW k) := by
  match k, h with
  | 0, _ => kernel_rfl
  | 1, _ => kernel_rfl
  | 2, _ => kernel_rfl
theorem slot_ne {k : Nat} (h : k < 3) {s : String} (e : (s.toList.map Char.toNat).head? ≠ some 115) : slotT k ≠ s := fun z => by
  have := congrArg (fun x => (tl x).head?) z
  rw [lit_tl] at this
  have h2 : (tl (slotT k)).head? = some 115 := by
    unfold slotT
    rw [tl_app]
    rfl
  exact e (this.symm.trans h2)
theorem test_in {b : Bool} {t : Te} (h : t.ok b) : F_test_in [.d (.str t.t)] = .ok (.d t.d) [] := by
  have hs := spl (parts := [whatT t.what, signT t.sign, numT t.num]) sep_sp (by decide) (by have := Te.len h; omega) (Te.t_eq t) (by simp) fun p hp => by
    simp only [List.mem_cons, List.not_mem_nil, or_false] at hp
    rcases hp with rfl | rfl | rfl
    · exact what_no (by omega) (by omega)
    · exact sign_no (by omega)
    · exact num_no (by omega)
  have hn := number_in h.2.2
  have hg := sign_at h.2.1
  have hr := fun (ρ : DL.Env) (e : ρ.length = 7) => signs_run e
  simp only [List.map_cons, List.map_nil] at hs
  rw [Te.d_eq]
  unfold F_test_in runF
  cases e : t.what with
  | none =>
    rw [e] at hs
    simp only [whatT] at hs
    simp [m_test_in, rho0, hs, starD, hr, keyD, hg, hn, dd1_number_in, whatD]
  | some k =>
    rw [e] at hs
    have hk := Te.ok1 h k e
    have h1 := slot_k hk
    have h2 : slotT k ≠ "told" := slot_ne hk (by decide)
    simp only [whatT] at hs
    simp [m_test_in, rho0, hs, starD, hr, keyD, hg, hn, dd1_number_in, whatD, h1, h2, slot_asc]
theorem actin_rest : F_act_in [.d (.str "rest")] = .ok (.d (.tup [.str "rest"])) [] := by kernel_rfl
theorem strs_py {l : List Str} (h : ∀ x ∈ l, Asc x ∧ x.length ≤ 1000) : PyOk 1 (l.length * 10004 + 3) (.tup (l.map .str)) := by
  refine PyOk.tup (n := 0) (m := 10002) (fun d hd => ?_) (by rw [List.length_map]; exact Nat.le_refl _)
  obtain ⟨x, hx, rfl⟩ := List.mem_map.mp hd
  exact ⟨_, (PyIs.str (k := 1000) (h x hx).1 (h x hx).2).mono (by omega) (by omega)⟩
theorem act_in {out : List Str} {b : Bool} {a : Ac} (h : a.ok out b) : F_act_in [.d (.str a.t)] = .ok (.d a.d) [] := by
  cases a with
  | rest => exact actin_rest
  | send r w x =>
    have hx := worth_in h.2.2.2
    have hs := spl (z := (Ac.send r w x).t) (parts := ["send", r, w, x.t]) sep_sp (by decide) (by have := Ac.len h; omega) rfl (by simp) fun p hp => by
      simp only [List.mem_cons, List.not_mem_nil, or_false] at hp
      rcases hp with rfl | rfl | rfl | rfl
      · exact lit_no rfl
      · exact h.2.1.no (by omega)
      · exact h.2.2.1.no (by omega)
      · exact Wo.no (b := b) (by omega) (by omega)
    have hq := (lst_nil (ds := [.str r, .str w, .str x.t]) (strs_py (l := [r, w, x.t]) fun y hy => by
      simp only [List.mem_cons, List.not_mem_nil, or_false] at hy
      rcases hy with rfl | rfl | rfl
      · exact ⟨h.2.1.asc, by have := h.2.1.len; omega⟩
      · exact ⟨h.2.2.1.asc, by have := h.2.2.1.len; omega⟩
      · exact ⟨Wo.asc h.2.2.2, by have := Wo.len h.2.2.2; omega⟩) (by omega)).2
    simp only [List.map_cons, List.map_nil] at hs
    unfold F_act_in runF
    simp [m_act_in, rho0, hs, starD, hx, hq, Ac.d]
  | set k s x =>
    have hx := worth_in h.2.2
    have hk := h.1
    have hsl := slot_k h.2.1
    have hs := spl (z := (Ac.set k s x).t) (parts := [setW k, slotT s, x.t]) sep_sp (by decide) (by have := Ac.len h; omega) rfl (by simp) fun p hp => by
      simp only [List.mem_cons, List.not_mem_nil, or_false] at hp
      rcases hp with rfl | rfl | rfl
      · exact set_no (by omega)
      · exact slot_no (by omega)
      · exact Wo.no (b := b) (by omega) (by omega)
    have hq := (lst_nil (ds := [.str (slotT s), .str x.t]) (strs_py (l := [slotT s, x.t]) fun y hy => by
      simp only [List.mem_cons, List.not_mem_nil, or_false] at hy
      rcases hy with rfl | rfl
      · exact ⟨slot_asc s, by have := slot_len h.2.1; omega⟩
      · exact ⟨Wo.asc h.2.2, by have := Wo.len h.2.2; omega⟩) (by omega)).2
    have e1 : setW k ≠ "rest" := by
      match k, hk with
      | 0, _ => simp [setW]
      | 1, _ => simp [setW]
      | 2, _ => simp [setW]
    have e2 : setW k ≠ "send" := by
      match k, hk with
      | 0, _ => simp [setW]
      | 1, _ => simp [setW]
      | 2, _ => simp [setW]
    have hE : ∀ ρ : DL.Env, ρ.length = 6 → endR D.lst [5] (tgN 5) mYes (mFz (mCall 1 [] F_slot_in [] (mCons (mV 5) mNil))) [D.str (slotT s)] ρ = .ok (.lst [.int s]) ρ := fun ρ e => endR_1 (xs := [s]) (f := fun s => .str (slotT s)) (g := fun s => .int s) (by omega) (by simp) fun z hz => by
      simp only [List.mem_cons, List.not_mem_nil, or_false] at hz
      subst hz
      exact ⟨_, call1 (by omega) hsl⟩
    simp only [List.map_cons, List.map_nil] at hs
    unfold F_act_in runF
    simp [m_act_in, rho0, hs, starD, hx, hq, Ac.d, e1, e2, set_asc, hE]
end K85
set_option Elab.async false
set_option linter.all false
set_option maxRecDepth 100000
/-! PL: rules read. -/
namespace K85
open PySem L2 DL PySem.Spec PyProof.Rows
theorem dotRead {α : Type} {z : Str} {b : Nat} {g : α → Str} {f : α → D} {F : List O → FRes} {me : M D} {xs : List α} {ρ : DL.Env} (S : Sep z b) (hz : 0 < z.length) (h5 : 5 < ρ.length) (hm : me ρ = .ok (.str (dotT z (xs.map g))) ρ) (ha : ∀ x ∈ xs, Asc (g x)) (hza : Asc z)
    (hF : ∀ x ∈ xs, F [.d (.str (g x))] = .ok (.d (f x)) []) (hf : ∀ x ∈ xs, b ∉ tl (g x)) (h2 : ∀ x ∈ xs, 2 ≤ (g x).length) (hx : xs.length ≤ 1000) (hl : (dotT z (xs.map g)).length ≤ 16777214) :
    mIf (mT (mOp2 gEq me (mC (.str ".")))) (mTup mNil) (mOp1 gTuple (mLcR [5] (mItems (mFz (mM1N gSplitN me (mC (.str z))))) (tgN 5) mYes (mFz (mCall 1 [] F [] (mCons (mV 5) mNil))))) ρ = .ok (.tup (xs.map f)) ρ := by
  cases xs with
  | nil =>
    simp [hm, dotT]
  | cons a l =>
    have hA : Asc (dotT z ((a :: l).map g)) := dot_asc hza fun x hx => by
      obtain ⟨y, hy, rfl⟩ := List.mem_map.mp hx
      exact ha y hy
    have hne : dotT z ((a :: l).map g) ≠ "." := fun e => by
      have e1 := congrArg (fun x : Str => x.length) e
      have e2 : 2 ≤ (dotT z ((a :: l).map g)).length := by
        have := h2 a List.mem_cons_self
        cases l with
        | nil => exact this
        | cons c l =>
          show 2 ≤ (g a ++ z ++ Str.join z ((c :: l).map g)).length
          rw [len_app, len_app]
          omega
      have e3 : (("." : Str)).length = 1 := rfl
      omega
    have hs := spl (z := dotT z ((a :: l).map g)) (parts := (a :: l).map g) S hz hl rfl (by simp) fun p hp => by
      obtain ⟨y, hy, rfl⟩ := List.mem_map.mp hp
      exact hf y hy
    have hE := endR_1 (G := D.lst) (me := mFz (mCall 1 [] F [] (mCons (mV 5) mNil))) (f := fun x => .str (g x)) (g := f) (xs := a :: l) (ρ := ρ) h5 (by omega) fun x hx => ⟨_, call1 h5 (hF x hx)⟩
    rw [List.map_map] at hs
    have hs2 : gSplitN (dotT z ((a :: l).map g)) (.str z) = some ((a :: l).map fun x => .str (g x)) := hs
    generalize a :: l = w at *
    simp only [x_if, x_mT, x_op2, hm, x_ok, x_C, y_opt1, sEq hA (lit_asc (s := ".") rfl), decide_eq_false hne, y_optT, y_unB, x_op1, y_lcr, y_items, y_fz, y_m1n, y_optN, hs2, y_frzL, y_optI, g_itemsL, hE, g_tupL]
    simp only [x_ok, Bool.false_eq_true, if_false, y_frzL, y_optI, g_itemsL, hE, g_tupL]
theorem te_len2 (t : Te) : 2 ≤ t.t.length := by
  rw [Te.t_eq]
  show 2 ≤ (whatT t.what ++ " " ++ (signT t.sign ++ " " ++ numT t.num)).length
  simp only [len_app, lit_len, sign_len]
  have : (" " : String).length = 1 := rfl
  omega
theorem ac_len2 (a : Ac) : 2 ≤ a.t.length := by
  cases a with
  | rest => exact (by decide : 2 ≤ 4)
  | send r w x =>
    show 2 ≤ (("send" : Str) ++ " " ++ (r ++ " " ++ (w ++ " " ++ x.t))).length
    simp only [len_app, lit_len]
    have : ("send" : String).length = 4 := rfl
    omega
  | set k s x =>
    show 2 ≤ (setW k ++ " " ++ (slotT s ++ " " ++ x.t)).length
    simp only [len_app, lit_len]
    have : (" " : String).length = 1 := rfl
    omega
theorem rule_in {out : List Str} {r : Ru} (k : r.ok out) : F_rule_in [.d (.str r.body)] = .ok (.d r.d) [] := by
  have hs := spl (z := r.body) (parts := [whT r.wh, dotT " & " (r.tests.map Te.t), dotT " , " (r.acts.map Ac.t)]) sep_semi (by decide) (by have := Ru.body_len k; omega) rfl (by simp) fun p hp => by
    simp only [List.mem_cons, List.not_mem_nil, or_false] at hp
    rcases hp with rfl | rfl | rfl
    · exact wh_no k.wh (by unfold Mark; omega)
    · exact tests_no (by omega)
    · exact acts_no k.ac (by omega)
  have hT : ∀ ρ : DL.Env, ρ.length = 6 → ρ[2]? = some (some (.d (.lst [.str (dotT " & " (r.tests.map Te.t)), .str (dotT " , " (r.acts.map Ac.t))]))) → mIf (mT (mOp2 gEq (mOp2 gIxA (mV 2) (mC (.int 0))) (mC (.str ".")))) (mTup (mNil)) (mOp1 gTuple (mLcR [5] (mItems (mFz (mM1N gSplitN (mOp2 gIxA (mV 2) (mC (.int 0))) (mC (.str " & "))))) (tgN 5) (mYes) (mFz (mCall 1 [] F_test_in [] (mCons (mV 5) (mNil)))))) ρ = .ok (.tup (r.tests.map Te.d)) ρ := fun ρ e1 e2 =>
    dotRead (g := Te.t) sep_and (by decide) (by omega) (by simp [e2]) (fun x _ => Te.asc x) (lit_asc rfl) (fun x hx => test_in (k.te x hx)) (fun x _ => Te.no (by unfold Mark; omega)) (fun x _ => te_len2 x) (by have := k.lt; omega) (by have := Ru.tests_len k; omega)
  have hA : ∀ ρ : DL.Env, ρ.length = 6 → ρ[2]? = some (some (.d (.lst [.str (dotT " & " (r.tests.map Te.t)), .str (dotT " , " (r.acts.map Ac.t))]))) → mIf (mT (mOp2 gEq (mOp2 gIxA (mV 2) (mC (.int 1))) (mC (.str ".")))) (mTup (mNil)) (mOp1 gTuple (mLcR [5] (mItems (mFz (mM1N gSplitN (mOp2 gIxA (mV 2) (mC (.int 1))) (mC (.str " , "))))) (tgN 5) (mYes) (mFz (mCall 1 [] F_act_in [] (mCons (mV 5) (mNil)))))) ρ = .ok (.tup (r.acts.map Ac.d)) ρ := fun ρ e1 e2 =>
    dotRead (g := Ac.t) sep_comma (by decide) (by omega) (by simp [e2]) (fun x hx => Ac.asc (k.ac x hx)) (lit_asc rfl) (fun x hx => act_in (k.ac x hx)) (fun x hx => Ac.no (k.ac x hx) (by unfold Mark; omega)) (fun x _ => ac_len2 x) (by have := k.la; omega) (by have := Ru.acts_len k; omega)
  simp only [List.map_cons, List.map_nil] at hs
  generalize dotT " & " (r.tests.map Te.t) = TT at *
  generalize dotT " , " (r.acts.map Ac.t) = TA at *
  unfold F_rule_in runF
  cases e : r.wh with
  | none =>
    rw [e] at hs
    simp only [whT] at hs
    simp [-x_if, m_rule_in, rho0, hs, starD, hT, hA, Ru.d, e, whD]
  | some w =>
    rw [e] at hs
    simp only [whT] at hs
    have hw := k.wh w e
    have hl : (("on " : Str) ++ w).length ≤ 16777216 := by have := hw.len; rw [len_app, lit_len]; have e : ("on " : String).length = 3 := rfl; omega
    have h1 : ("on " : Str) ++ w ≠ "self" := fun z => by
      have z2 := congrArg (fun x => (tl x).head?) z
      rw [tl_app] at z2
      exact absurd (show some 111 = some 115 from z2) (by decide)
    have h2 : gSl (.str ("on " ++ w)) (some 3) none = some (.str w) := by
      show (if (("on " : Str) ++ w).length ≤ 16777216 then some (D.str (Txt.slice (("on " : Str) ++ w) (some 3) none)) else none) = _
      rw [if_pos hl]
      have := from_tl (x := ("on " : Str) ++ w) (n := 3)
      rw [tl_app] at this
      congr 2
    have h3 : Asc (("on " : Str) ++ w) := (lit_asc rfl).app hw.asc
    simp [-x_if, m_rule_in, rho0, hs, starD, hT, hA, Ru.d, e, whD, h1, h2, h3]
end K85
set_option Elab.async false
set_option linter.all false
set_option maxRecDepth 100000
/-! PM: what is looked at. -/
namespace K85
open PySem L2 DL PySem.Spec PyProof.Rows
theorem flat_strs : ∀ l : List Str, flatDs (l.map D.str) = some (l.map V.str)
  | [] => rfl
  | x :: l => by
    rw [List.map_cons, flatDs, flat_strs l]
    rfl
theorem in_strs {r : Str} {l : List Str} : inV (.str r) (l.map V.str) = decide (r ∈ l) := by
  unfold inV
  rw [List.any_map]
  induction l with
  | nil => rfl
  | cons x l ih =>
    rw [List.any_cons, ih]
    show ((x == r) || decide (r ∈ l)) = _
    by_cases h : r = x
    · subst h; simp
    · have h2 : (x == r) = false := beq_eq_false_iff_ne.mpr fun e => h e.symm
      rw [h2]
      simp [h]
theorem inA_lst {r : Str} {l : List Str} : gInA (.str r) (.lst (l.map .str)) = some (.bl (decide (r ∈ l))) ∧ gNotInA (.str r) (.lst (l.map .str)) = some (.bl (!decide (r ∈ l))) := by
  have h : inA (.str r) (.lst (l.map .str)) = some (decide (r ∈ l)) := by
    show (match flatD (.str r), flatDs (l.map D.str) with | some a, some bs => some (inV a bs) | _, _ => none) = _
    rw [flat_strs]
    show some (inV (.str r) (l.map V.str)) = _
    rw [in_strs]
  exact ⟨by show (inA _ _).map _ = _; rw [h]; rfl, by show (inA _ _).map _ = _; rw [h]; rfl⟩
theorem inA_tup {r : Str} {l : List Str} : gInA (.str r) (.tup (l.map .str)) = some (.bl (decide (r ∈ l))) := by
  have h : inA (.str r) (.tup (l.map .str)) = some (decide (r ∈ l)) := by
    show (match flatD (.str r), flatDs (l.map D.str) with | some a, some bs => some (inV a bs) | _, _ => none) = _
    rw [flat_strs]
    show some (inV (.str r) (l.map V.str)) = _
    rw [in_strs]
  show (inA _ _).map _ = _
  rw [h]
  rfl
theorem is_name {x : Str} (h : Nm x) : F_is_name [.d (.str x)] = .ok (.d (.bl true)) [] := by
  have hE : ∀ ρ : DL.Env, ρ.length = 2 → endR D.lst [1] (tgN 1) mYes (mOp2 gInA (mV 1) (mC (.str "abcdefghijklmnopqrstuvwxyz"))) ((tl x).map fun c => .str ⟨#[c]⟩) ρ = .ok (.lst ((tl x).map fun _ => .bl true)) ρ := fun ρ e => endR_1 (by omega) (by have := h.2.1; omega) fun c hc => ⟨ρ.set 1 (some (.d (.str ⟨#[c]⟩))), by
    have := h.2.2 c hc
    simp [e, let_in ⟨c, by omega⟩ this.1]⟩
  have hl := h.len
  have h1 := g_lenS (x := x) (by omega)
  have h2 : 1 ≤ x.length := by rw [← tl_len]; exact h.1
  unfold F_is_name runF
  simp [m_is_name, rho0, h1, items_str, hE, all_true, show (1 : Int) ≤ x.length by omega, show (x.length : Int) ≤ 8 by omega]
theorem is_whole {n : Int} : F_is_whole [.d (.int n)] = .ok (.d (.bl true)) [] := by kernel_rfl
theorem is_whole_t {ds : List D} : F_is_whole [.d (.tup ds)] = .ok (.d (.bl false)) [] := by
  unfold F_is_whole runF
  simp [m_is_whole, rho0]
theorem is_from {n a b : Int} : F_is_from [.d (.int n), .d (.int a), .d (.int b)] = .ok (.d (.bl (decide (a ≤ n) && decide (n ≤ b)))) [] := by
  unfold F_is_from runF
  by_cases h : a ≤ n
  · simp [m_is_from, rho0, is_whole, h]
  · simp [m_is_from, rho0, is_whole, h]
theorem is_from_t {ds : List D} {a b : Int} : F_is_from [.d (.tup ds), .d (.int a), .d (.int b)] = .ok (.d (.bl false)) [] := by
  unfold F_is_from runF
  simp [m_is_from, rho0, is_whole_t]
theorem is_row {ds : List D} {a b : Int} : F_is_row [.d (.tup ds), .d (.int a), .d (.int b)] = .ok (.d (.bl (decide (a ≤ ds.length) && decide ((ds.length : Int) ≤ b)))) [] := by
  unfold F_is_row runF
  by_cases h : a ≤ ds.length
  · simp [m_is_row, rho0, h]
  · simp [m_is_row, rho0, h]
theorem is_slot {k : Nat} (h : k < 3) : F_is_slot [.d (.int k)] = .ok (.d (.bl true)) [] := by
  unfold F_is_slot runF
  simp [m_is_slot, rho0, is_from, show (k : Int) ≤ 2 by omega]
theorem is_slot_told : F_is_slot [.d (.str "told")] = .ok (.d (.bl false)) [] := by kernel_rfl
theorem is_number {n : Int} (h : Nu n) : F_is_number [.d (.int n)] = .ok (.d (.bl true)) [] := by
  unfold Nu at h
  have e : (10 : Nat) ^ 30 = 1000000000000000000000000000000 := by decide
  rw [e] at h
  unfold F_is_number runF
  simp [m_is_number, rho0, is_from, show (-999999999999999999999999999999 : Int) ≤ n by omega, show n ≤ (999999999999999999999999999999 : Int) by omega]
theorem is_number_t {ds : List D} : F_is_number [.d (.tup ds)] = .ok (.d (.bl false)) [] := by
  unfold F_is_number runF
  simp [m_is_number, rho0, is_from_t]
theorem is_sign0 : F_is_sign [.d (.str "under")] = .ok (.d (.bl true)) [] := by kernel_rfl
theorem is_sign1 : F_is_sign [.d (.str "is")] = .ok (.d (.bl true)) [] := by kernel_rfl
theorem is_sign2 : F_is_sign [.d (.str "over")] = .ok (.d (.bl true)) [] := by kernel_rfl
theorem is_sign (k : Nat) : F_is_sign [.d (.str (signW k))] = .ok (.d (.bl true)) [] := by
  match k with
  | 0 => exact is_sign0
  | 1 => exact is_sign1
  | _ + 2 => exact is_sign2
theorem is_when {o : Option Str} (h : ∀ w, o = some w → Nm w) : F_is_when [.d (whD o)] = .ok (.d (.bl true)) [] := by
  cases o with
  | none => kernel_rfl
  | some w =>
    unfold F_is_when runF
    simp [m_is_when, rho0, whD, is_row, is_name (h w rfl)]
theorem is_test {b : Bool} {t : Te} (h : t.ok b) : F_is_test [.d t.d, .d (.bl b)] = .ok (.d (.bl true)) [] := by
  have h1 := is_sign t.sign
  have h2 := is_number h.2.2
  rw [Te.d_eq]
  unfold F_is_test runF
  cases e : t.what with
  | none =>
    have hb := Te.ok0 h e
    simp [m_is_test, rho0, whatD, is_row, h1, h2, is_slot_told, hb]
  | some k =>
    have hk := is_slot (Te.ok1 h k e)
    simp [m_is_test, rho0, whatD, is_row, h1, h2, hk]
theorem is_worth {b : Bool} {w : Wo} (h : w.ok b) : F_is_worth [.d w.d, .d (.bl b)] = .ok (.d (.bl true)) [] := by
  cases w with
  | told =>
    have hb : b = true := h
    unfold F_is_worth runF
    simp [m_is_worth, rho0, Wo.d, is_row, is_number_t, hb]
  | slot k =>
    have hk := is_slot h
    unfold F_is_worth runF
    simp [m_is_worth, rho0, Wo.d, is_row, is_number_t, hk]
  | num n =>
    have hk := is_number h
    unfold F_is_worth runF
    simp [m_is_worth, rho0, Wo.d, hk]
theorem sets_in0 : gInA (.str "put") c_SETS = some (.bl true) := by kernel_rfl
theorem sets_in1 : gInA (.str "add") c_SETS = some (.bl true) := by kernel_rfl
theorem sets_in2 : gInA (.str "less") c_SETS = some (.bl true) := by kernel_rfl
theorem sets_in (k : Nat) : gInA (.str (setW k)) c_SETS = some (.bl true) := by
  match k with
  | 0 => exact sets_in0
  | 1 => exact sets_in1
  | _ + 2 => exact sets_in2
theorem sets_send : gInA (.str "send") c_SETS = some (.bl false) := by kernel_rfl
theorem ix_l3 {a b c d : D} {ds : List D} : gIxA (.lst (a :: b :: c :: d :: ds)) (.int 3) = some d := by show atI (a :: b :: c :: d :: ds) ((3 : Nat) : Int) = _; rw [at_nat (by simp)]; rfl
theorem nil_nil : gEq (.lst []) (.lst []) = some (.bl true) := by kernel_rfl
theorem is_act {out : List Str} {b : Bool} {a : Ac} (h : a.ok out b) : F_is_act [.d (.lst (out.map .str)), .d a.d, .d (.bl b)] = .ok (.d (.bl true)) [] := by
  cases a with
  | rest =>
    unfold F_is_act runF
    simp [m_is_act, rho0, Ac.d, is_row, starD, nil_nil]
  | send r w x =>
    have h1 := is_worth h.2.2.2
    have h2 := is_name h.2.2.1
    have h3 : gNotInA (.str r) (.lst (out.map .str)) = some (.bl false) := by
      rw [inA_lst.2, decide_eq_true h.1]
      rfl
    unfold F_is_act runF
    simp [m_is_act, rho0, Ac.d, is_row, starD, sets_send, h1, h2, h3]
  | set k s x =>
    have h1 := is_worth h.2.2
    have h2 := is_slot h.2.1
    have hk := h.1
    have e1 : setW k ≠ "rest" := by
      match k, hk with
      | 0, _ => simp [setW]
      | 1, _ => simp [setW]
      | 2, _ => simp [setW]
    unfold F_is_act runF
    simp [m_is_act, rho0, Ac.d, is_row, starD, sets_in, h1, h2, set_asc, e1]
theorem wh_letter {o : Option Str} : ∃ x, whD o = .tup x ∧ ∃ a, x.head? = some a ∧ gEq a (.str "letter") = some (.bl o.isSome) := by
  cases o with
  | none => exact ⟨_, rfl, _, rfl, by simp⟩
  | some w => exact ⟨_, rfl, _, rfl, by simp⟩
theorem is_rule {out : List Str} {r : Ru} (k : r.ok out) : F_is_rule [.d (.lst (out.map .str)), .d r.d] = .ok (.d (.bl true)) [] := by
  have h1 := is_when k.wh
  have hT : ∀ ρ : DL.Env, ρ.length = 8 → ρ[5]? = some (some (.d (.bl r.wh.isSome))) → endR D.lst [7] (tgN 7) mYes (mFz (mCall 2 [] F_is_test [] (mCons (mV 7) (mCons (mV 5) (mNil))))) (r.tests.map Te.d) ρ = .ok (.lst (r.tests.map fun _ => .bl true)) ρ := fun ρ e1 e2 =>
    endR_1 (by omega) (by have := k.lt; omega) fun t ht => ⟨ρ.set 7 (some (.d t.d)), match ρ, e1, e2 with
      | [_, _, _, _, _, _, _, _], _, rfl => by simp [is_test (k.te t ht)]⟩
  have hA : ∀ ρ : DL.Env, ρ.length = 8 → ρ[0]? = some (some (.d (.lst (out.map .str)))) → ρ[5]? = some (some (.d (.bl r.wh.isSome))) → endR D.lst [6] (tgN 6) mYes (mFz (mCall 3 [] F_is_act [] (mCons (mV 0) (mCons (mV 6) (mCons (mV 5) (mNil)))))) (r.acts.map Ac.d) ρ = .ok (.lst (r.acts.map fun _ => .bl true)) ρ := fun ρ e1 e2 e3 =>
    endR_1 (by omega) (by have := k.la; omega) fun t ht => ⟨ρ.set 6 (some (.d t.d)), match ρ, e1, e2, e3 with
      | [_, _, _, _, _, _, _, _], _, rfl, rfl => by simp [is_act (k.ac t ht)]⟩
  have l1 : ((r.tests.length : Nat) : Int) ≤ 3 := by have := k.lt; omega
  have l2 : ((r.acts.length : Nat) : Int) ≤ 4 := by have := k.la; omega
  obtain ⟨x, ex, a, ea, eg⟩ := wh_letter (o := r.wh)
  have hx : gIxA (.tup x) (.int 0) = some a := by
    cases x with
    | nil => cases ea
    | cons y ys => cases ea; simp
  rw [ex] at h1
  unfold F_is_rule runF
  simp [m_is_rule, rho0, Ru.d, is_row, ex, h1, hx, eg, hT, hA, all_true, l1, l2]
end K85
set_option Elab.async false
set_option linter.all false
set_option maxRecDepth 100000
/-! PN: lines, houses read. -/
namespace K85
open PySem L2 DL PySem.Spec PyProof.Rows
def obj (L : List Str) (i : Nat) : O := .ins "Lines" ["rows_here", "row_at"] [.d (.lst (L.map .str)), .d (.int i)]
section
variable {L : List Str} {i : Nat} {x p w : Str} {r : List Str} {ρ : DL.Env}
theorem rd_rows (h : ρ[0]? = some (some (obj L i))) : mRd (mPf "Lines" "rows_here" (mPs 0)) ρ = .ok (.lst (L.map .str)) ρ := by
  simp [h, isIns, obj, kidAt, posOf, ixOf, kids]
theorem rd_at (h : ρ[0]? = some (some (obj L i))) : mRd (mPf "Lines" "row_at" (mPs 0)) ρ = .ok (.int i) ρ := by
  simp [h, isIns, obj, kidAt, posOf, ixOf, kids]
theorem ins_ok {m : Str} (h : (["rows_here", "row_at"] : List Str).contains m = false) : insIs "Lines" m (obj L i) = true := by
  show (decide (("Lines" : Str) = "Lines") && !(["rows_here", "row_at"] : List Str).contains m) = true
  rw [h, decide_eq_true rfl]
  rfl
theorem need_ok {o : O} : F_Lines_need [o, .d (.bl true)] = .ok (.d .non) [o] := by
  unfold F_Lines_need runF
  simp [m_Lines_need, rho0]
theorem row_ix (h : L[i]? = some x) : gIxA (.lst (L.map .str)) (.int i) = some (.str x) := by
  rw [ix_lk (by rw [List.length_map]; exact (List.getElem?_eq_some_iff.mp h).1), List.getElem?_map, h]
  rfl
theorem begins_at (h : L[i]? = some x) (hs : Txt.split x " " = p :: r) (hl : x.length ≤ 1000) (hp : Asc p) (hw : Asc w) : F_Lines_begins [obj L i, .d (.str w)] = .ok (.d (.bl (decide (p = w)))) [obj L i] := by
  have hi : i < L.length := (List.getElem?_eq_some_iff.mp h).1
  have h1 : gSplitN x (.str " ") = some (.str p :: r.map .str) := by
    show (if 0 < (" " : Str).length ∧ x.length ≤ 16777214 then some ((Txt.split x " ").map D.str) else none) = _
    rw [if_pos ⟨by decide, by omega⟩, hs]
    rfl
  have h2 := row_ix h
  have hr1 := fun ρ (e : (ρ : DL.Env)[0]? = some (some (obj L i))) => rd_rows e
  have hr2 := fun ρ (e : (ρ : DL.Env)[0]? = some (some (obj L i))) => rd_at e
  unfold F_Lines_begins runF
  simp [-y_rd, m_Lines_begins, rho0, hr1, hr2, hi, h2, h1, hp, hw]
theorem begins_end : F_Lines_begins [obj L L.length, .d (.str w)] = .ok (.d (.bl false)) [obj L L.length] := by
  have hr1 := fun ρ (e : (ρ : DL.Env)[0]? = some (some (obj L L.length))) => rd_rows e
  have hr2 := fun ρ (e : (ρ : DL.Env)[0]? = some (some (obj L L.length))) => rd_at e
  unfold F_Lines_begins runF
  simp [-y_rd, m_Lines_begins, rho0, hr1, hr2]
theorem ahead_at (h : L[i]? = some x) : F_Lines_ahead [obj L i] = .ok (.d (.str x)) [obj L i] := by
  have hi : i < L.length := (List.getElem?_eq_some_iff.mp h).1
  have h2 := row_ix h
  have hr1 := fun ρ (e : (ρ : DL.Env)[0]? = some (some (obj L i))) => rd_rows e
  have hr2 := fun ρ (e : (ρ : DL.Env)[0]? = some (some (obj L i))) => rd_at e
  have hi2 : insIs "Lines" "need" (obj L i) = true := ins_ok (by decide +kernel)
  unfold F_Lines_ahead runF
  simp [-y_rd, m_Lines_ahead, rho0, hr1, hr2, hi, h2, hi2, need_ok]
theorem through_at : F_Lines_through [obj L i] = .ok (.d .non) [obj L (i + 1)] := by
  unfold F_Lines_through runF
  simp [m_Lines_through, rho0, sFau, obj, isIns, kidAt, posOf, ixOf, kids, fldI, setFC, setF]
theorem finish_at : F_Lines_finish [obj L L.length] = .ok (.d .non) [obj L L.length] := by
  have hr1 := fun ρ (e : (ρ : DL.Env)[0]? = some (some (obj L L.length))) => rd_rows e
  have hr2 := fun ρ (e : (ρ : DL.Env)[0]? = some (some (obj L L.length))) => rd_at e
  have hi2 : insIs "Lines" "need" (obj L L.length) = true := ins_ok (by decide +kernel)
  unfold F_Lines_finish runF
  simp [-y_rd, m_Lines_finish, rho0, hr1, hr2, hi2, need_ok]
theorem init_at : F_Lines_init [.ins "Lines" [] [], .d (.lst (L.map .str))] = .ok (.d .non) [obj L 0] := by
  unfold F_Lines_init runF
  simp [m_Lines_init, rho0, sFst, obj, setFC, setF, ixOf]
end
end K85
set_option Elab.async false
set_option linter.all false
set_option maxRecDepth 100000
/-! PO: houses, roads read. -/
namespace K85
open PySem L2 DL PySem.Spec PyProof.Rows
def cH (w : Str) : M Bool := mTru (mFz (mMeth "Lines" "begins" 2 0 [] F_Lines_begins [] (mCons (mC (.str w)) (mNil))))
noncomputable def bH : MS := sSeq (sStar 2 1 (mFz (mM1N gSplitN (mFz (mMeth "Lines" "ahead" 1 0 [] F_Lines_ahead [] (fun ρ => .ok [] ρ))) (mC (.str " ")))) (tgCons (tgN 2) (tgCons (tgN 3) (tgNil))))
  (sSeq (sDrop (mFz (mMeth "Lines" "need" 2 0 [] F_Lines_need [] (mCons (mAndV (mOp2 gEq (mOp1 gLen (mV 3)) (mC (.int 1))) (mAndV (mFz (mCall 1 [] F_is_name [] (mCons (mOp2 gIxA (mV 3) (mC (.int 0))) (mNil)))) (mOp2 gLt (mOp1 gLen (mB 1)) (mC (.int 5))))) (mNil)))))
  (sSeq (sDrop (mFz (mMeth "Lines" "need" 2 0 [] F_Lines_need [] (mCons (mOrV (mOp2 gEq (mB 1) (mLst (mNil))) (mOp2 gLt (mOp2 gIxA (mB 1) (mOp1 gNeg (mC (.int 1)))) (mOp2 gIxA (mV 3) (mC (.int 0))))) (mNil)))))
  (sSeq (sDrop (mFz (mMut "list" gAppend (mPs 1) (mOs (mCons (mOp2 gIxA (mV 3) (mC (.int 0))) (mNil))))))
  (sDrop (mFz (mMeth "Lines" "through" 1 0 [] F_Lines_through [] (fun ρ => .ok [] ρ)))))))
section
variable {L : List Str} {i : Nat} {x p w : Str} {r : List Str} {ρ : DL.Env}
theorem ins_l (m : Str) (h : (["rows_here", "row_at"] : List Str).contains m = false) {L i} : insIs "Lines" m (obj L i) = true := ins_ok h
theorem c_begins : (["rows_here", "row_at"] : List Str).contains "begins" = false := by decide +kernel
theorem c_ahead : (["rows_here", "row_at"] : List Str).contains "ahead" = false := by decide +kernel
theorem c_need : (["rows_here", "row_at"] : List Str).contains "need" = false := by decide +kernel
theorem c_through : (["rows_here", "row_at"] : List Str).contains "through" = false := by decide +kernel
theorem c_finish : (["rows_here", "row_at"] : List Str).contains "finish" = false := by decide +kernel
/-- the first word of the next line, if there is one, is another one -/
def Stop (L : List Str) (i : Nat) (w : Str) : Prop := i = L.length ∨ ∃ x p r, L[i]? = some x ∧ Txt.split x " " = p :: r ∧ x.length ≤ 1000 ∧ Asc p ∧ p ≠ w
theorem cH_stop (h : ρ[0]? = some (some (obj L i))) (hs : Stop L i w) (hw : Asc w) (h0 : 0 < ρ.length) : cH w ρ = .ok false ρ := by
  have e0 : ρ.set 0 (some (obj L i)) = ρ := by
    cases ρ with
    | nil => simp at h0
    | cons a l => simp at h; rw [h]; rfl
  have k : F_Lines_begins [obj L i, .d (.str w)] = .ok (.d (.bl false)) [obj L i] := by
    rcases hs with rfl | ⟨x, p, r, h1, h2, h3, h4, h5⟩
    · exact begins_end
    · rw [begins_at h1 h2 h3 h4 hw, decide_eq_false h5]
  unfold cH
  simp [h, ins_l _ c_begins, k, e0]
theorem cH_go (h : ρ[0]? = some (some (obj L i))) (h0 : 0 < ρ.length) (h1 : L[i]? = some x) (h2 : Txt.split x " " = w :: r) (h3 : x.length ≤ 1000) (hw : Asc w) : cH w ρ = .ok true ρ := by
  have e0 : ρ.set 0 (some (obj L i)) = ρ := by
    cases ρ with
    | nil => simp at h0
    | cons a l => simp at h; rw [h]; rfl
  have k : F_Lines_begins [obj L i, .d (.str w)] = .ok (.d (.bl true)) [obj L i] := by
    rw [begins_at h1 h2 h3 hw hw, decide_eq_true rfl]
  unfold cH
  simp [h, ins_l _ c_begins, k, e0]
/-- what was found so far is nothing, or its last one is less -/
def After (done : List Str) (h : Str) : Prop := done = [] ∨ ∃ d l, done = d ++ [l] ∧ tl l < tl h
theorem house_split {h : Str} (hn : Nm h) : Txt.split ("house " ++ h) " " = [("house" : Str), h] := by
  have e : ("house " : Str) ++ h = "house" ++ " " ++ h := rfl
  rw [e, split_app (lit_no rfl), split_one (hn.no (by omega))]
theorem house_step {h : Str} {done : List Str} {a b : Option O} (hx : L[i]? = some ("house " ++ h)) (hn : Nm h) (hd : ∀ y ∈ done, Nm y) (hl : done.length < 5) (ha : After done h) :
    bH [some (obj L i), some (.ls (done.map (O.d ∘ D.str))), a, b] = .nx [some (obj L (i + 1)), some (.ls ((done ++ [h]).map (O.d ∘ D.str))), some (.d (.str "house")), some (.d (.lst [.str h]))] := by
  have hh := hn.len
  have h1 : gSplitN ("house " ++ h) (.str " ") = some [.str "house", .str h] := by
    show (if 0 < (" " : Str).length ∧ (("house " : Str) ++ h).length ≤ 16777214 then some ((Txt.split ("house " ++ h) " ").map D.str) else none) = _
    rw [if_pos ⟨by decide, by rw [len_app, lit_len]; have : ("house " : String).length = 6 := rfl; omega⟩, house_split hn]
    rfl
  have h2 := ahead_at hx
  have h3 := is_name hn
  have h4 := need_ok (o := obj L i)
  have h5 := through_at (L := L) (i := i)
  have h6 := (lst_nil (strs_py (l := done) fun y hy => ⟨(hd y hy).asc, by have := (hd y hy).len; omega⟩) (by omega)).2
  unfold bH
  rcases ha with rfl | ⟨d, l, rfl, hlt⟩
  · simp [ins_l _ c_ahead, ins_l _ c_need, ins_l _ c_through, h2, h1, starD, h3, h4, h5, nil_nil]
  · have h7 : gIxA (.lst ((d ++ [l]).map .str)) (.int (-1)) = some (.str l) := by
      rw [List.map_append]
      exact ix_lm
    rw [List.length_append, List.length_singleton] at hl
    simp only [List.map_append, List.map_cons, List.map_nil] at h6 h7
    rw [show (d.map D.str ++ [D.str l]).isEmpty = false by cases d <;> rfl] at h6
    simp [ins_l _ c_ahead, ins_l _ c_need, ins_l _ c_through, h2, h1, starD, h3, h4, h5, h6, h7, hlt, show ((d.length : Int) + 1 < 5) by omega, show d.length + 1 < 16777216 by omega]
theorem house_loop : ∀ (todo done : List Str) (i : Nat) (a b : Option O) (tail : List Str), L.drop i = todo.map (fun h => ("house " : Str) ++ h) ++ tail → Stop L (i + todo.length) "house" → (∀ y ∈ done ++ todo, Nm y) → (done ++ todo).length ≤ 5 → (done ++ todo).Pairwise (fun x y => tl x < tl y) →
    ∃ a' b', iterW (cH "house") bH (todo.length + 1) [some (obj L i), some (.ls (done.map (O.d ∘ D.str))), a, b] = some (.nx [some (obj L (i + todo.length)), some (.ls ((done ++ todo).map (O.d ∘ D.str))), a', b'])
  | [], done, i, a, b, tail, _, hs, _, _, _ => by
    refine ⟨a, b, ?_⟩
    rw [List.length_nil, iterW, cH_stop rfl hs (lit_asc rfl) (by simp), List.append_nil]
    rfl
  | h :: todo, done, i, a, b, tail, hd, hs, hn, hl, hp => by
    have hx : L[i]? = some ("house " ++ h) := by
      have e := congrArg (fun l => l[0]?) hd
      simpa using e
    have hdn : L.drop (i + 1) = todo.map (fun h => ("house " : Str) ++ h) ++ tail := by
      rw [← List.drop_drop, hd]
      rfl
    have nh : Nm h := hn h (by simp)
    have hl2 := hl
    rw [List.length_append, List.length_cons] at hl2
    have hst := house_step (a := a) (b := b) hx nh (fun y hy => hn y (List.mem_append_left _ hy)) (by omega) (by
      rcases List.eq_nil_or_concat done with e | ⟨d, l, e⟩
      · exact .inl e
      · refine .inr ⟨d, l, by rw [e, List.concat_eq_append], ?_⟩
        rw [List.pairwise_append] at hp
        exact hp.2.2 l (by rw [e]; simp) h (by simp))
    obtain ⟨a', b', ih⟩ := house_loop todo (done ++ [h]) (i + 1) (some (.d (.str "house"))) (some (.d (.lst [.str h]))) tail hdn (by rw [List.length_cons] at hs; rw [show i + 1 + todo.length = i + (todo.length + 1) by omega]; exact hs) (by simpa using hn) (by simpa using hl) (by simpa using hp)
    refine ⟨a', b', ?_⟩
    rw [List.length_cons, iterW, cH_go rfl (by simp) hx (house_split nh) (by have := nh.len; rw [len_app, lit_len]; have : ("house " : String).length = 6 := rfl; omega) (lit_asc rfl)]
    dsimp only
    rw [hst]
    dsimp only
    rw [ih, show i + 1 + todo.length = i + (todo.length + 1) by omega, List.append_assoc]
    rfl
theorem houses_in {hs tail : List Str} (hd : L.drop i = hs.map (fun h => ("house " : Str) ++ h) ++ tail) (hst : Stop L (i + hs.length) "house") (hn : ∀ y ∈ hs, Nm y) (h1 : 1 ≤ hs.length) (h5 : hs.length ≤ 5) (hp : hs.Pairwise (fun x y => tl x < tl y)) :
    F_houses_in [obj L i] = .ok (.d (.tup (hs.map .str))) [obj L (i + hs.length)] := by
  obtain ⟨a, b, e⟩ := house_loop hs [] i none none tail hd hst (by simpa using hn) (by simpa using h5) (by simpa using hp)
  have hw := sWhile_of e
  rw [List.nil_append, List.map_nil] at hw
  have h6 := (lst_nil (strs_py (l := hs) fun y hy => ⟨(hn y hy).asc, by have := (hn y hy).len; omega⟩) (by omega)).1
  rw [show (hs.map D.str).isEmpty = false by cases hs with | nil => cases h1 | cons => rfl] at h6
  unfold cH bH at hw
  unfold F_houses_in runF
  simp only [m_houses_in, x_seq, rho0, y_seto, y_lso, x_nil, x_ok, x_bS]
  simp [hw, ins_l _ c_need, h6, need_ok]
end
end K85
set_option Elab.async false
set_option linter.all false
set_option maxRecDepth 100000
/-! PP: roads read. -/
namespace K85
open PySem L2 DL PySem.Spec PyProof.Rows
noncomputable def bR : MS := sSeq (sStar 2 1 (mFz (mM1N gSplitN (mFz (mMeth "Lines" "ahead" 1 0 [] F_Lines_ahead [] (fun ρ => .ok [] ρ))) (mC (.str " ")))) (tgCons (tgN 3) (tgCons (tgN 4) (tgNil))))
  (sSeq (sDrop (mFz (mMeth "Lines" "need" 2 0 [] F_Lines_need [] (mCons (mAndV (mFz (mCall 2 [] F_is_road [] (mCons (mV 1) (mCons (mOp1 gTuple (mV 4)) (mNil))))) (mOp2 gLt (mOp1 gLen (mB 2)) (mC (.int 8)))) (mNil)))))
  (sSeq (sDrop (mFz (mMeth "Lines" "need" 2 0 [] F_Lines_need [] (mCons (mOrV (mOp2 gEq (mB 2) (mLst (mNil))) (mOp2 gLt (mOp2 gIxA (mOp2 gIxA (mB 2) (mOp1 gNeg (mC (.int 1)))) (mC (.int 0))) (mOp2 gIxA (mV 4) (mC (.int 0))))) (mNil)))))
  (sSeq (sDrop (mFz (mMut "list" gAppend (mPs 2) (mOs (mCons (mOp1 gTuple (mV 4)) (mNil))))))
  (sDrop (mFz (mMeth "Lines" "through" 1 0 [] F_Lines_through [] (fun ρ => .ok [] ρ)))))))
section
variable {L hs : List Str} {i : Nat} {x p w : Str} {ρ : DL.Env}
theorem ways0 : gInA (.str "row") c_WAYS = some (.bl true) := by kernel_rfl
theorem ways1 : gInA (.str "loose") c_WAYS = some (.bl true) := by kernel_rfl
theorem ways (k : Nat) : gInA (.str (wayW k)) c_WAYS = some (.bl true) := by
  match k with
  | 0 => exact ways0
  | _ + 1 => exact ways1
theorem is_road {r : Ro} (hn : ∀ h ∈ hs, Nm h) (k : r.ok hs) : F_is_road [.d (.tup (hs.map .str)), .d r.d] = .ok (.d (.bl true)) [] := by
  have hE : ∀ ρ : DL.Env, ρ.length = 7 → endR D.lst [6] (tgN 6) mYes (mOp1 (gIsi "str") (mV 6)) [D.str r.road, D.str r.one, D.str r.other, D.str (wayW r.way)] ρ = .ok (.lst [.bl true, .bl true, .bl true, .bl true]) ρ := fun ρ e => endR_1 (xs := [r.road, r.one, r.other, wayW r.way]) (f := D.str) (g := fun _ => .bl true) (by omega) (by simp) fun z hz => ⟨ρ.set 6 (some (.d (.str z))), by simp [e]⟩
  have h1 : gInA (.str r.one) (.tup (hs.map .str)) = some (.bl true) := by rw [inA_tup, decide_eq_true k.one]
  have h2 : gInA (.str r.other) (.tup (hs.map .str)) = some (.bl true) := by rw [inA_tup, decide_eq_true k.other]
  have h3 : gNe (.str r.one) (.str r.other) = some (.bl true) := by
    rw [sNe (hn _ k.one).asc (hn _ k.other).asc, decide_eq_false k.ne]
    rfl
  have h4 : gAll (.lst [.bl true, .bl true, .bl true, .bl true]) = some (.bl true) := rfl
  unfold F_is_road runF
  simp [m_is_road, rho0, Ro.d, is_row, hE, h1, h2, h3, h4, is_name k.nm, ways]
theorem road_parts {r : Ro} (hn : ∀ h ∈ hs, Nm h) (k : r.ok hs) : Txt.split r.t " " = [("road" : Str), r.road, r.one, r.other, wayW r.way] := split_join sep_sp (by simp) fun z hz => by
  simp only [List.mem_cons, List.not_mem_nil, or_false] at hz
  rcases hz with rfl | rfl | rfl | rfl | rfl
  · exact lit_no rfl
  · exact k.nm.no (by omega)
  · exact (hn _ k.one).no (by omega)
  · exact (hn _ k.other).no (by omega)
  · exact way_no (by omega)
theorem roads_py {rs : List Ro} (hn : ∀ h ∈ hs, Nm h) (k : ∀ r ∈ rs, r.ok hs) (hl : rs.length ≤ 8) : PyOk 2 4000 (.tup (rs.map Ro.d)) := by
  refine (PyOk.tup (n := 1) (m := 400) (k := 8) (fun d hd => ?_) (by rw [List.length_map]; exact hl)).mono (by omega) (by omega)
  obtain ⟨x, hx, rfl⟩ := List.mem_map.mp hd
  exact Ro.py hn (k x hx)
def AfterR (done : List Ro) (h : Str) : Prop := done = [] ∨ ∃ d l, done = d ++ [l] ∧ tl l.road < tl h
theorem road_step {r : Ro} {done : List Ro} {a b : Option O} (hx : L[i]? = some r.t) (hn : ∀ h ∈ hs, Nm h) (k : r.ok hs) (hd : ∀ y ∈ done, y.ok hs) (hl : done.length < 8) (ha : AfterR done r.road) :
    bR [some (obj L i), some (.d (.tup (hs.map .str))), some (.ls (done.map (O.d ∘ Ro.d))), a, b] = .nx [some (obj L (i + 1)), some (.d (.tup (hs.map .str))), some (.ls ((done ++ [r]).map (O.d ∘ Ro.d))), some (.d (.str "road")), some (.d (.lst [.str r.road, .str r.one, .str r.other, .str (wayW r.way)]))] := by
  have hh := Ro.t_len hn k
  have h1 : gSplitN r.t (.str " ") = some [.str "road", .str r.road, .str r.one, .str r.other, .str (wayW r.way)] := by
    show (if 0 < (" " : Str).length ∧ r.t.length ≤ 16777214 then some ((Txt.split r.t " ").map D.str) else none) = _
    rw [if_pos ⟨by decide, by omega⟩, road_parts hn k]
    rfl
  have h2 := ahead_at hx
  have h3 : F_is_road [.d (.tup (hs.map .str)), .d (.tup [.str r.road, .str r.one, .str r.other, .str (wayW r.way)])] = .ok (.d (.bl true)) [] := is_road hn k
  have h4 := need_ok (o := obj L i)
  have h5 := through_at (L := L) (i := i)
  have h6 := (lst_nil (roads_py hn hd (by omega)) (by omega)).2
  unfold bR
  rcases ha with rfl | ⟨d, l, rfl, hlt⟩
  · simp [ins_l _ c_ahead, ins_l _ c_need, ins_l _ c_through, h2, h1, starD, h3, h4, h5, nil_nil, Ro.d]
  · have h7 : gIxA (.lst ((d ++ [l]).map Ro.d)) (.int (-1)) = some l.d := by
      rw [List.map_append]
      exact ix_lm
    have h8 : gIxA l.d (.int 0) = some (.str l.road) := by simp [Ro.d]
    rw [List.length_append, List.length_singleton] at hl
    simp only [List.map_append, List.map_cons, List.map_nil] at h6 h7
    rw [show (d.map Ro.d ++ [l.d]).isEmpty = false by cases d <;> rfl] at h6
    simp [ins_l _ c_ahead, ins_l _ c_need, ins_l _ c_through, h2, h1, starD, h3, h4, h5, h6, h7, h8, hlt, show ((d.length : Int) + 1 < 8) by omega, show d.length + 1 < 16777216 by omega]
    rfl
theorem road_loop (hn : ∀ h ∈ hs, Nm h) : ∀ (todo done : List Ro) (i : Nat) (a b : Option O) (tail : List Str), L.drop i = todo.map Ro.t ++ tail → Stop L (i + todo.length) "road" → (∀ y ∈ done ++ todo, y.ok hs) → (done ++ todo).length ≤ 8 → (done ++ todo).Pairwise (fun x y => tl x.road < tl y.road) →
    ∃ a' b', iterW (cH "road") bR (todo.length + 1) [some (obj L i), some (.d (.tup (hs.map .str))), some (.ls (done.map (O.d ∘ Ro.d))), a, b] = some (.nx [some (obj L (i + todo.length)), some (.d (.tup (hs.map .str))), some (.ls ((done ++ todo).map (O.d ∘ Ro.d))), a', b'])
  | [], done, i, a, b, tail, _, hs, _, _, _ => by
    refine ⟨a, b, ?_⟩
    rw [List.length_nil, iterW, cH_stop rfl hs (lit_asc rfl) (by simp), List.append_nil]
    rfl
  | r :: todo, done, i, a, b, tail, hd, hs, ho, hl, hp => by
    have hx : L[i]? = some r.t := by
      have e := congrArg (fun l => l[0]?) hd
      simpa using e
    have hdn : L.drop (i + 1) = todo.map Ro.t ++ tail := by
      rw [← List.drop_drop, hd]
      rfl
    have ko := ho r (by simp)
    have hl2 := hl
    rw [List.length_append, List.length_cons] at hl2
    have hst := road_step (a := a) (b := b) hx hn ko (fun y hy => ho y (List.mem_append_left _ hy)) (by omega) (by
      rcases List.eq_nil_or_concat done with e | ⟨d, l, e⟩
      · exact .inl e
      · refine .inr ⟨d, l, by rw [e, List.concat_eq_append], ?_⟩
        rw [List.pairwise_append] at hp
        exact hp.2.2 l (by rw [e]; simp) r (by simp))
    obtain ⟨a', b', ih⟩ := road_loop hn todo (done ++ [r]) (i + 1) (some (.d (.str "road"))) (some (.d (.lst [.str r.road, .str r.one, .str r.other, .str (wayW r.way)]))) tail hdn (by rw [List.length_cons] at hs; rw [show i + 1 + todo.length = i + (todo.length + 1) by omega]; exact hs) (by simpa using ho) (by simpa using hl) (by simpa using hp)
    refine ⟨a', b', ?_⟩
    rw [List.length_cons, iterW, cH_go rfl (by simp) hx (road_parts hn ko) (by have := Ro.t_len hn ko; omega) (lit_asc rfl)]
    dsimp only
    rw [hst]
    dsimp only
    rw [ih, show i + 1 + todo.length = i + (todo.length + 1) by omega, List.append_assoc]
    rfl
theorem roads_in {rs : List Ro} {tail : List Str} (hd : L.drop i = rs.map Ro.t ++ tail) (hst : Stop L (i + rs.length) "road") (hn : ∀ y ∈ hs, Nm y) (ho : ∀ r ∈ rs, r.ok hs) (h8 : rs.length ≤ 8) (hp : rs.Pairwise (fun x y => tl x.road < tl y.road)) :
    F_roads_in [obj L i, .d (.tup (hs.map .str))] = .ok (.d (.tup (rs.map Ro.d))) [obj L (i + rs.length)] := by
  obtain ⟨a, b, e⟩ := road_loop hn rs [] i none none tail hd hst (by simpa using ho) (by simpa using h8) (by simpa using hp)
  have hw := sWhile_of e
  rw [List.nil_append, List.map_nil] at hw
  unfold cH bR at hw
  unfold F_roads_in runF
  simp only [m_roads_in, x_seq, rho0, y_seto, y_lso, x_nil, x_ok, x_bS]
  simp [hw]
/-! roads out of a house -/
theorem roads_out {rs : List Ro} {h : Str} (hn : ∀ y ∈ hs, Nm y) (ho : ∀ r ∈ rs, r.ok hs) (h8 : rs.length ≤ 8) (hh : Nm h) :
    F_roads_out [.d (.tup [.tup (hs.map .str), .tup (rs.map Ro.d)]), .d (.str h)] = .ok (.ls ((((rs.filter fun r => decide (r.one = h)).map Ro.road).map D.str).map O.d)) [] := by
  have hE : ∀ ρ : DL.Env, ρ.length = 6 → ρ[1]? = some (some (.d (.str h))) → endR (fun ys => O.ls (ys.map O.d)) [2, 3, 4, 5] (tgSeq 4 (tgCons (tgN 2) (tgCons (tgN 3) (tgCons (tgN 4) (tgCons (tgN 5) (tgNil)))))) (mT (mOp2 gEq (mV 3) (mV 1))) (mV 2) (rs.map Ro.d) ρ = .ok (.ls (((rs.filter fun r => decide (r.one = h)).map fun r => D.str r.road).map O.d)) ρ := fun ρ e1 e2 =>
    match ρ, e1, e2 with
    | [a, _, c, d, e, f], _, rfl => endR_filter (by omega) fun r hr => ⟨[a, some (.d (.str h)), some (.d (.str r.road)), some (.d (.str r.one)), some (.d (.str r.other)), some (.d (.str (wayW r.way)))], [a, some (.d (.str h)), some (.d (.str r.road)), some (.d (.str r.one)), some (.d (.str r.other)), some (.d (.str (wayW r.way)))], by simp [Ro.d], by simp [(hn _ (ho r hr).one).asc, hh.asc], fun _ => ⟨[a, some (.d (.str h)), some (.d (.str r.road)), some (.d (.str r.one)), some (.d (.str r.other)), some (.d (.str (wayW r.way)))], by simp⟩⟩
  unfold F_roads_out runF
  rw [List.map_map]
  simp [m_roads_out, rho0, hE]
end
end K85
set_option Elab.async false
set_option linter.all false
set_option maxRecDepth 100000
/-! PQ: programs read. -/
namespace K85
open PySem L2 DL PySem.Spec PyProof.Rows
noncomputable def bP : MS := sSeq (sSet 4 (mFz (mMeth "Lines" "ahead" 1 0 [] F_Lines_ahead [] (fun ρ => .ok [] ρ))))
  (sSeq (sStar 3 2 (mOp2 gAdd (mFz (mM1N gSplitN (mV 4) (mC (.str " ")))) (mLst (mCons (mC (.str "")) (mNil)))) (tgCons (tgN 5) (tgCons (tgN 6) (tgCons (tgN 7) (tgNil)))))
  (sSeq (sDrop (mFz (mMeth "Lines" "need" 2 0 [] F_Lines_need [] (mCons (mAndV (mOp2 gInA (mV 6) (mB 2)) (mAndV (mOp2 gGe (mV 6) (mV 3)) (mOp2 gLt (mOp1 gLen (mRdB (mPi (mPs 2) (mV 6)))) (mC (.int 8))))) (mNil)))))
  (sSeq (sSet 8 (mFz (mCall 1 [] F_rule_in [] (mCons (mSl (mV 4) (mPart (mOp1 gLen (mOp2 gAdd (mOp2 gAdd (mC (.str "rule ")) (mV 6)) (mC (.str " "))))) mNoPart) (mNil)))))
  (sSeq (sDrop (mFz (mMeth "Lines" "need" 2 0 [] F_Lines_need [] (mCons (mAndV (mFz (mCall 2 [] F_is_rule [] (mCons (mFz (mCall 2 [] F_roads_out [] (mCons (mV 1) (mCons (mV 6) (mNil))))) (mCons (mV 8) (mNil))))) (mOp2 gEq (mFz (mCall 2 [] F_rule_text [] (mCons (mV 6) (mCons (mV 8) (mNil))))) (mV 4))) (mNil)))))
  (sSeq (sDrop (mFz (mMut "list" gAppend (mPi (mPs 2) (mV 6)) (mOs (mCons (mV 8) (mNil))))))
  (sSeq (sSet 3 (mV 6))
  (sDrop (mFz (mMeth "Lines" "through" 1 0 [] F_Lines_through [] (fun ρ => .ok [] ρ))))))))))
section
variable {L hs : List Str} {i : Nat} {x p w : Str} {ρ : DL.Env}
theorem join_count : ∀ (l : List Str), l.length ≤ (Str.join " " l).length + 1
  | [] => Nat.zero_le _
  | [x] => by show 1 ≤ _; omega
  | x :: y :: l => by
    have ih := join_count (y :: l)
    rw [join2, len_app, len_app, List.length_cons]
    have : (" " : Str).length = 1 := rfl
    omega
theorem split_count (q : Str) : (Txt.split q " ").length ≤ q.length + 1 := by
  have := join_count (Txt.split q " ")
  rw [StrLaws.join_split] at this
  exact this
theorem star32 {a b : D} {c : List D} : starD 3 2 (a :: b :: c) = [a, b, .lst c] := by
  unfold starD
  have e : (a :: b :: c).length + 1 - 3 = c.length := by simp
  rw [e]
  simp
theorem in_dk {h : Str} {ks : List Key} {ds : List D} : gInA (.str h) (.dk ks ds) = some (.bl (ixOf (.inr h) ks).isSome) := rfl
theorem ix_at : ∀ {h1 h2 : List Str} {h : Str}, h ∉ h1 → ixOf (Sum.inr h : Key) ((h1 ++ h :: h2).map Sum.inr) = some h1.length
  | [], _, _, _ => by simp [ixOf]
  | a :: h1, h2, h, hn => by
    have ih := ix_at (h1 := h1) (h2 := h2) (h := h) fun z => hn (List.mem_cons_of_mem _ z)
    have e : (Sum.inr a : Key) ≠ Sum.inr h := fun z => hn (by cases z; exact List.mem_cons_self)
    rw [List.cons_append, List.map_cons, ixOf, if_neg e, ih]
    rfl
theorem kid_dk {h1 h2 : List Str} {h : Str} {p1 p2 : List O} {o : O} (hn : h ∉ h1) (hl : p1.length = h1.length) : kidAt (.key (.inr h)) (.dk ((h1 ++ h :: h2).map Sum.inr) (p1 ++ o :: p2)) = some (p1.length, o) := by
  unfold kidAt posOf
  dsimp only
  rw [ix_at hn]
  show ((p1 ++ o :: p2)[h1.length]?).map _ = _
  rw [← hl]
  simp
theorem rule_line {h : Str} {r : Ru} (hn : Nm h) : Txt.split (r.t h) " " = ("rule" : Str) :: h :: Txt.split r.body " " := by
  have e : r.t h = "rule" ++ " " ++ (h ++ " " ++ r.body) := by
    show ("rule " : Str) ++ h ++ " " ++ r.body = _
    apply tl_inj
    simp only [tl_app, List.append_assoc]
    rfl
  rw [e, split_app (lit_no rfl), split_app (hn.no (by omega))]
theorem rule_step {h : Str} {h1 h2 : List Str} {r : Ru} {rs : List Ro} {p1 p2 : List O} {done : List Ru} {last : Str} {e4 e5 e6 e7 e8 : Option O} (hx : L[i]? = some (r.t h)) (hn : Nm h) (ehs : hs = h1 ++ h :: h2) (hh1 : h ∉ h1) (hall : ∀ y ∈ hs, Nm y) (ho : ∀ r ∈ rs, r.ok hs) (h8 : rs.length ≤ 8) (k : r.ok ((rs.filter fun r => decide (r.one = h)).map Ro.road))
    (hl : p1.length = h1.length) (hd : done.length < 8) (hlast : ¬ tl h < tl last) :
    bP [some (obj L i), some (.d (.tup [.tup (hs.map .str), .tup (rs.map Ro.d)])), some (.dk (hs.map Sum.inr) (p1 ++ .ls (done.map (O.d ∘ Ru.d)) :: p2)), some (.d (.str last)), e4, e5, e6, e7, e8] =
      .nx [some (obj L (i + 1)), some (.d (.tup [.tup (hs.map .str), .tup (rs.map Ro.d)])), some (.dk (hs.map Sum.inr) (p1 ++ .ls ((done ++ [r]).map (O.d ∘ Ru.d)) :: p2)), some (.d (.str h)), some (.d (.str (r.t h))), some (.d (.str "rule")), some (.d (.str h)), some (.d (.lst ((Txt.split r.body " ").map D.str ++ [.str ""]))), some (.d r.d)] := by
  have hh := Ru.t_len hn k
  have hb := Ru.body_len k
  have hc := split_count r.body
  have hnl := hn.len
  have g1 : gSplitN (r.t h) (.str " ") = some (.str "rule" :: .str h :: (Txt.split r.body " ").map .str) := by
    show (if 0 < (" " : Str).length ∧ (r.t h).length ≤ 16777214 then some ((Txt.split (r.t h) " ").map D.str) else none) = _
    rw [if_pos ⟨by decide, by omega⟩, rule_line hn]
    rfl
  have g2 := ahead_at hx
  have g4 := need_ok (o := obj L i)
  have g5 := through_at (L := L) (i := i)
  have hk := kid_dk (h2 := h2) (p2 := p2) (o := .ls (done.map (O.d ∘ Ru.d))) hh1 hl
  have hix : ixOf (Sum.inr h : Key) (hs.map Sum.inr) = some h1.length := by rw [ehs]; exact ix_at hh1
  have g6 : ∀ ds : List D, gInA (.str h) (.dk (hs.map Sum.inr) ds) = some (.bl true) := fun ds => by rw [in_dk, hix]; rfl
  rw [← ehs] at hk
  have a1 : gAdd (.str "rule ") (.str h) = some (.str ("rule " ++ h)) := g_addS (by simp only [lit_len]; have e1 : ("rule " : String).length = 5 := rfl; omega)
  have a2 : gAdd (.str ("rule " ++ h)) (.str " ") = some (.str ("rule " ++ h ++ " ")) := g_addS (by simp only [lit_len, len_app]; have e1 : ("rule " : String).length = 5 := rfl; have e2 : (" " : String).length = 1 := rfl; omega)
  have a3 : gLen (.str ("rule " ++ h ++ " ")) = some (.int (("rule " ++ h ++ " " : Str).length : Nat)) := g_lenS (by simp only [lit_len, len_app]; have e1 : ("rule " : String).length = 5 := rfl; have e2 : (" " : String).length = 1 := rfl; omega)
  have a4 : gSl (.str (r.t h)) (some (("rule " ++ h ++ " " : Str).length : Nat)) none = some (.str r.body) := by
    show (if (r.t h).length ≤ 16777216 then some (D.str (Txt.slice (r.t h) (some (("rule " ++ h ++ " " : Str).length : Nat)) none)) else none) = _
    rw [if_pos (by omega), from_tl]
    congr 2
    rw [show tl (r.t h) = tl ("rule " ++ h ++ " " : Str) ++ tl r.body from tl_app _ _, ← tl_len, List.drop_left]
  have a5 := rule_in k
  have a6 := roads_out hall ho h8 hn
  have a7 := is_rule k
  have a8 := rule_text hn k
  have a9 : gEq (.str (r.t h)) (.str (r.t h)) = some (.bl true) := by rw [sEq (Ru.t_asc hn k) (Ru.t_asc hn k), decide_eq_true rfl]
  have hset : (p1 ++ .ls (done.map (O.d ∘ Ru.d)) :: p2).set p1.length (.ls (done.map (O.d ∘ Ru.d) ++ [.d r.d])) = p1 ++ .ls (done.map (O.d ∘ Ru.d) ++ [.d r.d]) :: p2 := by
    rw [List.set_append_right _ _ (by omega), Nat.sub_self]
    rfl
  generalize ((rs.filter fun r => decide (r.one = h)).map Ro.road) = out at *
  generalize ("rule " ++ h ++ " " : Str).length = n at *
  generalize ("rule " ++ h ++ " " : Str) = pre at *
  generalize Txt.split r.body " " = pieces at *
  rw [List.map_map] at a6
  unfold bP
  simp [ins_l _ c_ahead, ins_l _ c_need, ins_l _ c_through, g1, g2, g4, g5, g6, show pieces.length + 1 + 1 + 1 ≤ 16777216 by omega, star32, hlast, stpAt, keyD, hk, show ((done.length : Int) < 8) by omega, a1, a2, a3, a4, a5, a6, a7, a8, a9, show done.length < 16777216 by omega, kids, withKids, hset]
end
end K85
set_option Elab.async false
set_option linter.all false
set_option maxRecDepth 100000
/-! QA: systems read. -/
namespace K85
open PySem L2 DL PySem.Spec PyProof.Rows
section
variable {L hs : List Str} {i : Nat} {rs : List Ro}
def netD (hs : List Str) (rs : List Ro) : D := .tup [.tup (hs.map .str), .tup (rs.map Ro.d)]
def ou (rs : List Ro) (h : Str) : List Str := (rs.filter fun r => decide (r.one = h)).map Ro.road
theorem rules_loop {h : Str} {h1 h2 : List Str} {p1 p2 : List O} (hn : Nm h) (ehs : hs = h1 ++ h :: h2) (hh1 : h ∉ h1) (hall : ∀ y ∈ hs, Nm y) (ho : ∀ r ∈ rs, r.ok hs) (h8 : rs.length ≤ 8) (hl : p1.length = h1.length) :
    ∀ (todo done : List Ru) (i n : Nat) (last : Str) (e4 e5 e6 e7 e8 : Option O) (tail : List Str), L.drop i = todo.map (Ru.t h) ++ tail → (∀ r ∈ todo, r.ok (ou rs h)) → (done ++ todo).length ≤ 8 → ¬ tl h < tl last →
      ∃ last' f4 f5 f6 f7 f8, (last' = last ∨ last' = h) ∧ iterW (cH "rule") bP (todo.length + n) [some (obj L i), some (.d (netD hs rs)), some (.dk (hs.map Sum.inr) (p1 ++ .ls (done.map (O.d ∘ Ru.d)) :: p2)), some (.d (.str last)), e4, e5, e6, e7, e8] =
        iterW (cH "rule") bP n [some (obj L (i + todo.length)), some (.d (netD hs rs)), some (.dk (hs.map Sum.inr) (p1 ++ .ls ((done ++ todo).map (O.d ∘ Ru.d)) :: p2)), some (.d (.str last')), f4, f5, f6, f7, f8]
  | [], done, i, n, last, e4, e5, e6, e7, e8, tail, _, _, _, _ => ⟨last, e4, e5, e6, e7, e8, .inl rfl, by simp⟩
  | r :: todo, done, i, n, last, e4, e5, e6, e7, e8, tail, hd, hr, hl8, hlast => by
    have hx : L[i]? = some (r.t h) := by
      have e := congrArg (fun l => l[0]?) hd
      simpa using e
    have hdn : L.drop (i + 1) = todo.map (Ru.t h) ++ tail := by
      rw [← List.drop_drop, hd]
      rfl
    have k := hr r List.mem_cons_self
    have hl2 := hl8
    rw [List.length_append, List.length_cons] at hl2
    have hst := rule_step (e4 := e4) (e5 := e5) (e6 := e6) (e7 := e7) (e8 := e8) (p2 := p2) hx hn ehs hh1 hall ho h8 k hl (show done.length < 8 by omega) hlast
    obtain ⟨last', f4, f5, f6, f7, f8, hor, ih⟩ := rules_loop hn ehs hh1 hall ho h8 hl (p2 := p2) todo (done ++ [r]) (i + 1) n h (some (.d (.str (r.t h)))) (some (.d (.str "rule"))) (some (.d (.str h))) (some (.d (.lst ((Txt.split r.body " ").map D.str ++ [.str ""])))) (some (.d r.d)) tail hdn (fun x hx => hr x (List.mem_cons_of_mem _ hx)) (by simpa using hl8) (fun z => absurd z (List.lt_irrefl _))
    refine ⟨last', f4, f5, f6, f7, f8, .inr (hor.elim id id), ?_⟩
    rw [List.length_cons, show todo.length + 1 + n = todo.length + n + 1 by omega, iterW, cH_go rfl (by simp) hx (rule_line hn) (by have := Ru.t_len hn k; omega) (lit_asc rfl)]
    dsimp only
    unfold netD at hst ih ⊢
    rw [hst]
    dsimp only
    rw [ih, show i + 1 + todo.length = i + (todo.length + 1) by omega, List.append_assoc]
    rfl
def rl (qs : List (Str × List Ru)) : List Str := (qs.map fun q => q.2.map (Ru.t q.1)).flatten
def doneO (qs : List (Str × List Ru)) : List O := qs.map fun q => .ls (q.2.map (O.d ∘ Ru.d))
def freeO (qs : List (Str × List Ru)) : List O := qs.map fun _ => .ls []
theorem progs_loop (hall : ∀ y ∈ hs, Nm y) (ho : ∀ r ∈ rs, r.ok hs) (h8 : rs.length ≤ 8) (hp : hs.Pairwise fun x y => tl x < tl y) :
    ∀ (qs pre : List (Str × List Ru)) (i n : Nat) (last : Str) (e4 e5 e6 e7 e8 : Option O) (tail : List Str), hs = pre.map (·.1) ++ qs.map (·.1) → L.drop i = rl qs ++ tail → (∀ q ∈ qs, q.2.length ≤ 8 ∧ ∀ r ∈ q.2, r.ok (ou rs q.1)) → (∀ q ∈ qs, ¬ tl q.1 < tl last) →
      ∃ last' f4 f5 f6 f7 f8, iterW (cH "rule") bP ((rl qs).length + n) [some (obj L i), some (.d (netD hs rs)), some (.dk (hs.map Sum.inr) (doneO pre ++ freeO qs)), some (.d (.str last)), e4, e5, e6, e7, e8] =
        iterW (cH "rule") bP n [some (obj L (i + (rl qs).length)), some (.d (netD hs rs)), some (.dk (hs.map Sum.inr) (doneO pre ++ doneO qs)), some (.d (.str last')), f4, f5, f6, f7, f8]
  | [], pre, i, n, last, e4, e5, e6, e7, e8, tail, _, _, _, _ => ⟨last, e4, e5, e6, e7, e8, by simp [rl, doneO, freeO]⟩
  | q :: qs, pre, i, n, last, e4, e5, e6, e7, e8, tail, ehs, hd, hq, hlast => by
    have hn : Nm q.1 := hall _ (by rw [ehs]; simp)
    have hpp := hp
    rw [ehs, List.map_cons, List.pairwise_append] at hpp
    have hh1 : q.1 ∉ pre.map (·.1) := fun z => absurd (hpp.2.2 _ z q.1 List.mem_cons_self) (List.lt_irrefl _)
    have hlt : ∀ z ∈ qs, tl q.1 < tl z.1 := fun z hz => (List.pairwise_cons.mp hpp.2.1).1 _ (List.mem_map.mpr ⟨z, hz, rfl⟩)
    have hrl : rl (q :: qs) = q.2.map (Ru.t q.1) ++ rl qs := rfl
    have hd1 : L.drop i = q.2.map (Ru.t q.1) ++ (rl qs ++ tail) := by rw [hd, hrl, List.append_assoc]
    obtain ⟨last1, f4, f5, f6, f7, f8, hor, e1⟩ := rules_loop (p2 := freeO qs) hn ehs hh1 hall ho h8 (p1 := doneO pre) (by unfold doneO; simp) q.2 [] i ((rl qs).length + n) last e4 e5 e6 e7 e8 (rl qs ++ tail) hd1 (hq q List.mem_cons_self).2 (by simpa using (hq q List.mem_cons_self).1) (hlast q List.mem_cons_self)
    have hd2 : L.drop (i + q.2.length) = rl qs ++ tail := by
      rw [← List.drop_drop, hd1, List.drop_left' (by rw [List.length_map])]
    obtain ⟨last', g4, g5, g6, g7, g8, e2⟩ := progs_loop hall ho h8 hp qs (pre ++ [q]) (i + q.2.length) n last1 f4 f5 f6 f7 f8 tail (by rw [ehs]; simp) hd2 (fun z hz => hq z (List.mem_cons_of_mem _ hz)) (fun z hz => by
      rcases hor with rfl | rfl
      · exact hlast z (List.mem_cons_of_mem _ hz)
      · exact fun y => absurd (List.lt_trans y (hlt z hz)) (List.lt_irrefl _))
    refine ⟨last', g4, g5, g6, g7, g8, ?_⟩
    rw [hrl, List.length_append, List.length_map, Nat.add_assoc]
    have e3 : doneO pre ++ freeO (q :: qs) = doneO pre ++ .ls (([] : List Ru).map (O.d ∘ Ru.d)) :: freeO qs := rfl
    rw [e3, e1]
    have e4 : doneO pre ++ O.ls ((([] : List Ru) ++ q.2).map (O.d ∘ Ru.d)) :: freeO qs = doneO (pre ++ [q]) ++ freeO qs := by
      unfold doneO
      simp
    rw [e4, e2]
    have e5 : doneO (pre ++ [q]) ++ doneO qs = doneO pre ++ doneO (q :: qs) := by
      unfold doneO
      simp
    rw [e5, show i + q.2.length + (rl qs).length = i + (q.2.length + (rl qs).length) by omega]
/-! the dict of the houses -/
theorem ix_none : ∀ {l : List Str} {h : Str}, h ∉ l → ixOf (Sum.inr h : Key) (l.map Sum.inr) = none
  | [], _, _ => rfl
  | a :: l, h, hn => by
    have e : (Sum.inr a : Key) ≠ Sum.inr h := fun z => hn (by cases z; exact List.mem_cons_self)
    rw [List.map_cons, ixOf, if_neg e, ix_none fun z => hn (List.mem_cons_of_mem _ z)]
    rfl
theorem dict_run {ρ : DL.Env} (hl : ρ.length = 9) : ∀ (todo done : List Str), (done ++ todo).Nodup → dcR [6] (tgN 6) mYes (mV 6) (mLsO mNil) ρ (todo.map D.str) (done.map Sum.inr) (done.map fun _ => .ls []) = some ((done ++ todo).map Sum.inr, (done ++ todo).map fun _ => .ls [])
  | [], done, _ => by simp [dcR]
  | h :: todo, done, hn => by
    have hnd : h ∉ done := fun z => by
      rw [List.nodup_append] at hn
      exact hn.2.2 h z h List.mem_cons_self rfl
    have ih := dict_run hl todo (done ++ [h]) (by simpa using hn)
    match ρ, hl with
    | [a, b, c, d, e, f, g, h', i'], _ =>
      rw [List.map_cons, dcR]
      simp [keyD, putKO, ix_none hnd]
      simpa using ih
theorem programs_in {qs : List (Str × List Ru)} (hall : ∀ y ∈ hs, Nm y) (ho : ∀ r ∈ rs, r.ok hs) (h8 : rs.length ≤ 8) (hp : hs.Pairwise fun x y => tl x < tl y) (h1 : 1 ≤ hs.length) (h5 : hs.length ≤ 5) (ehs : hs = qs.map (·.1)) (hd : L.drop i = rl qs) (hi : i ≤ L.length)
    (hq : ∀ q ∈ qs, q.2.length ≤ 8 ∧ ∀ r ∈ q.2, r.ok (ou rs q.1)) :
    F_programs_in [obj L i, .d (netD hs rs)] = .ok (.d (.tup (qs.map fun q => .tup (q.2.map Ru.d)))) [obj L L.length] := by
  have hnd : hs.Nodup := hp.imp fun {a b} h e => absurd (by rw [e] at h; exact h) (List.lt_irrefl (tl b))
  have hlen : i + (rl qs).length = L.length := by
    have := congrArg List.length hd
    rw [List.length_drop] at this
    omega
  cases qs with
  | nil => rw [ehs] at h1; cases h1
  | cons q0 qr =>
  obtain ⟨last', f4, f5, f6, f7, f8, e⟩ := progs_loop (L := L) hall ho h8 hp (q0 :: qr) [] i 1 q0.1 none none none none none [] (by simpa using ehs) (by simpa using hd) hq (fun q hq => by
    rcases List.mem_cons.mp hq with rfl | hq
    · exact List.lt_irrefl _
    · have := hp
      rw [ehs, List.map_cons, List.pairwise_cons] at this
      exact fun z => absurd (List.lt_trans z (this.1 _ (List.mem_map.mpr ⟨q, hq, rfl⟩))) (List.lt_irrefl _))
  generalize hqs : q0 :: qr = qs at *
  rw [hlen] at e
  have fin : ∀ ρ : DL.Env, ρ[0]? = some (some (obj L L.length)) → 0 < ρ.length → iterW (cH "rule") bP 1 ρ = some (.nx ρ) := fun ρ h0 h1 => by
    rw [iterW, cH_stop h0 (.inl rfl) (lit_asc rfl) h1]
  have hw := sWhile_of (e.trans (fin _ rfl (by simp)))
  have hdict := dict_run (ρ := [some (obj L i), some (.d (netD hs rs)), none, none, none, none, none, none, none]) rfl hs [] (by simpa using hnd)
  simp only [List.map_nil, List.nil_append] at hdict
  have hfree : (hs.map fun _ => O.ls []) = freeO qs := by
    unfold freeO
    rw [ehs, List.map_map]
    rfl
  rw [hfree] at hdict
  have hlq : qs.length ≤ 5 := by rw [ehs, List.length_map] at h5; exact h5
  have hE : endR D.lst [6] (tgN 6) mYes (mOp1 gTuple (mRdB (mPi (mPs 2) (mV 6)))) (hs.map D.str) [some (obj L L.length), some (.d (netD hs rs)), some (.dk (hs.map Sum.inr) (doneO qs)), some (.d (.str last')), f4, f5, f6, f7, f8] = .ok (.lst (qs.map fun q => .tup (q.2.map Ru.d))) [some (obj L L.length), some (.d (netD hs rs)), some (.dk (hs.map Sum.inr) (doneO qs)), some (.d (.str last')), f4, f5, f6, f7, f8] := by
    have em : hs.map D.str = qs.map fun q => D.str q.1 := by rw [ehs, List.map_map]; rfl
    rw [em]
    refine endR_1 (by simp) (by omega) fun q hqm => ⟨[some (obj L L.length), some (.d (netD hs rs)), some (.dk (hs.map Sum.inr) (doneO qs)), some (.d (.str last')), f4, f5, some (.d (.str q.1)), f7, f8], ?_⟩
    obtain ⟨u, v, euv⟩ := List.append_of_mem hqm
    have ehs2 : hs = u.map (·.1) ++ q.1 :: v.map (·.1) := by rw [ehs, euv]; simp
    have hnu : q.1 ∉ u.map (·.1) := fun z => by
      have := hnd
      rw [ehs2, List.nodup_append] at this
      exact this.2.2 _ z _ List.mem_cons_self rfl
    have edo : doneO qs = doneO u ++ .ls (q.2.map (O.d ∘ Ru.d)) :: doneO v := by rw [euv]; unfold doneO; simp
    have hk := kid_dk (h1 := u.map (·.1)) (h2 := v.map (·.1)) (p1 := doneO u) (p2 := doneO v) (o := .ls (q.2.map (O.d ∘ Ru.d))) hnu (by unfold doneO; simp)
    rw [← ehs2, ← edo] at hk
    simp [stpAt, keyD, hk]
  have hhead : gIxA (.tup (hs.map .str)) (.int 0) = some (.str q0.1) := by
    rw [ehs, ← hqs]
    simp
  unfold cH bP at hw
  unfold F_programs_in runF
  have hnet : netD hs rs = .tup [.tup (hs.map .str), .tup (rs.map Ro.d)] := rfl
  have g0 : gIxA (netD hs rs) (.int 0) = some (.tup (hs.map .str)) := by rw [hnet]; simp
  have hm : mDcR [6] (mItems (mOp2 gIxA (mV 1) (mC (.int 0)))) (tgN 6) (mYes) (mV 6) (mLsO (mNil)) [some (obj L i), some (.d (netD hs rs)), none, none, none, none, none, none, none] = .ok (.dk (hs.map Sum.inr) (freeO qs)) [some (obj L i), some (.d (netD hs rs)), none, none, none, none, none, none, none] := by
    unfold mDcR
    simp [g0, endDR, hdict, show hs.length < 16777216 by omega]
  have e1 : doneO [] = [] := rfl
  rw [e1, List.nil_append, List.nil_append] at hw
  simp [m_programs_in, rho0, hm, g0, hhead, hw, hE]
end
end K85
set_option Elab.async false
set_option linter.all false
set_option maxRecDepth 100000
/-! QB: a system's text read. -/
namespace K85
open PySem L2 DL PySem.Spec PyProof.Rows
theorem end_join : ∀ l : List Str, endT l = Str.join "\n" (l ++ [("" : Str)])
  | [] => rfl
  | [x] => by
    show Str.join "" [x ++ "\n"] = x ++ "\n" ++ ("" : Str)
    apply tl_inj
    have e : Str.join "" [x ++ ("\n" : Str)] = x ++ "\n" := rfl
    rw [e, tl_app, tl_app, tl_app]
    exact (List.append_nil _).symm
  | x :: y :: l => by
    have ih := end_join (y :: l)
    have e1 : endT (x :: y :: l) = x ++ "\n" ++ "" ++ endT (y :: l) := rfl
    have e2 : Str.join "\n" (x :: y :: l ++ [("" : Str)]) = x ++ "\n" ++ Str.join "\n" (y :: l ++ [("" : Str)]) := rfl
    rw [e1, e2, ih]
    apply tl_inj
    simp only [tl_app, List.append_assoc]
    rfl
theorem star20 {ds : List D} {e : D} : starD 2 0 (ds ++ [e]) = [.lst ds, e] := by
  unfold starD
  have h : (ds ++ [e]).length + 1 - 2 = ds.length := by simp
  rw [h]
  simp
theorem lines_of {l : List Str} (hn : ∀ x ∈ l, 10 ∉ tl x) (hl : (endT l).length ≤ 16777214) (hc : l.length ≤ 1000) : F_lines_of [.d (.str (endT l))] = .ok (.d (.lst (l.map .str))) [] := by
  have hs := spl (z := endT l) (parts := l ++ [("" : Str)]) sep_nl (by decide) hl (end_join l) (by simp) fun p hp => by
    rcases List.mem_append.mp hp with hp | hp
    · exact hn p hp
    · simp only [List.mem_cons, List.not_mem_nil, or_false] at hp
      subst hp
      exact fun z => by cases z
  rw [List.map_append] at hs
  simp only [List.map_cons, List.map_nil] at hs
  have hst := star20 (ds := l.map .str) (e := .str "")
  have he : gEq (.str "") (.str "") = some (.bl true) := by kernel_rfl
  have hf : frz (.ls (l.map (O.d ∘ D.str) ++ [.d (.str "")])) = some (.lst (l.map .str ++ [.str ""])) := by
    have := frz_app (ds := l.map .str) (es := [.str ""])
    simpa using this
  unfold F_lines_of runF
  simp [m_lines_of, rho0, hs, hf, hst, he]
variable {s : Sy}
theorem Nm.no10 {x : Str} (h : Nm x) : 10 ∉ tl x := h.no (by omega)
theorem lines_no (k : s.ok) : ∀ x ∈ s.lines, 10 ∉ tl x := by
  intro x hx
  rw [lines_eq, List.mem_append, List.mem_append] at hx
  rcases hx with hx | hx | hx
  · obtain ⟨h, hh, rfl⟩ := List.mem_map.mp hx
    rw [tl_app]
    intro m
    rcases List.mem_append.mp m with m | m
    · exact lit_no (s := "house ") rfl m
    · exact Nm.no10 (k.nm h hh) m
  · obtain ⟨r, hr, rfl⟩ := List.mem_map.mp hx
    have ko := k.ro r hr
    refine join_no (sp_no (by omega)) fun z hz => ?_
    simp only [List.mem_cons, List.not_mem_nil, or_false] at hz
    rcases hz with rfl | rfl | rfl | rfl | rfl
    · exact lit_no rfl
    · exact Nm.no10 ko.nm
    · exact Nm.no10 (k.nm _ ko.one)
    · exact Nm.no10 (k.nm _ ko.other)
    · exact way_no (by omega)
  · unfold rlines at hx
    obtain ⟨l, hl, hx⟩ := List.mem_flatten.mp hx
    obtain ⟨q, hq, rfl⟩ := List.mem_map.mp hl
    obtain ⟨r, hr, rfl⟩ := List.mem_map.mp hx
    obtain ⟨z1, z2, z3⟩ := zip_mem k hq
    have kr := z3 r hr
    show 10 ∉ tl (("rule " : Str) ++ q.1 ++ " " ++ r.body)
    rw [Ru.body_eq]
    simp only [tl_app, List.mem_append]
    rintro (((m | m) | m) | ((m | m) | ((m | m) | m)))
    · exact lit_no (s := "rule ") rfl m
    · exact Nm.no10 z1 m
    · exact sp_no (by omega) m
    · exact wh_no kr.wh (by unfold Mark; omega) m
    · exact lit_no (s := " ; ") rfl m
    · exact tests_no (by omega) m
    · exact lit_no (s := " ; ") rfl m
    · exact acts_no kr.ac (by omega) m
theorem stop_rules (k : s.ok) {L : List Str} {i : Nat} (hd : L.drop i = rlines s) (hi : i ≤ L.length) (w : String) (hw : ("rule" : Str) ≠ w) : Stop L i w := by
  cases h : rlines s with
  | nil =>
    rw [h] at hd
    refine .inl ?_
    have := congrArg List.length hd
    rw [List.length_drop, List.length_nil] at this
    omega
  | cons x t =>
    rw [h] at hd
    have hx : L[i]? = some x := by
      have e := congrArg (fun l => l[0]?) hd
      simpa using e
    have hm : x ∈ rlines s := by rw [h]; simp
    unfold rlines at hm
    obtain ⟨l, hl, hm⟩ := List.mem_flatten.mp hm
    obtain ⟨q, hq, rfl⟩ := List.mem_map.mp hl
    obtain ⟨r, hr, rfl⟩ := List.mem_map.mp hm
    obtain ⟨z1, z2, z3⟩ := zip_mem k hq
    exact .inr ⟨_, _, _, hx, rule_line z1, by have := Ru.t_len z1 (z3 r hr); omega, lit_asc rfl, hw⟩
theorem stop_roads (k : s.ok) {L : List Str} {i : Nat} (hd : L.drop i = s.roads.map Ro.t ++ rlines s) (hi : i ≤ L.length) : Stop L i "house" := by
  cases h : s.roads with
  | nil =>
    rw [h] at hd
    exact stop_rules k hd hi "house" (by simp)
  | cons r t =>
    rw [h] at hd
    have hx : L[i]? = some r.t := by
      have e := congrArg (fun l => l[0]?) hd
      simpa using e
    have hr : r ∈ s.roads := by rw [h]; simp
    exact .inr ⟨_, _, _, hx, road_parts k.nm (k.ro r hr), by have := Ro.t_len k.nm (k.ro r hr); omega, lit_asc rfl, by simp⟩
theorem zip_fst (k : s.ok) : s.houses = (s.houses.zip s.progs).map (·.1) := by rw [List.map_fst_zip (by rw [k.pl]; exact Nat.le_refl _)]
theorem zip_snd (k : s.ok) : s.progs = (s.houses.zip s.progs).map (·.2) := by rw [List.map_snd_zip (by rw [k.pl]; exact Nat.le_refl _)]
theorem system_in (k : s.ok) : F_system_in [obj s.lines 0] = .ok (.d s.d) [obj s.lines s.lines.length] := by
  have hL := lines_eq (s := s)
  have d0 : s.lines.drop 0 = s.houses.map (fun h => ("house " : Str) ++ h) ++ (s.roads.map Ro.t ++ rlines s) := by rw [List.drop_zero, hL]
  have d1 : s.lines.drop (0 + s.houses.length) = s.roads.map Ro.t ++ rlines s := by rw [hL, Nat.zero_add, List.drop_left' (by rw [List.length_map])]
  have d2 : s.lines.drop (0 + s.houses.length + s.roads.length) = rlines s := by rw [← List.drop_drop, d1, List.drop_left' (by rw [List.length_map])]
  have hlen : s.lines.length = s.houses.length + (s.roads.length + (rlines s).length) := by rw [hL]; simp
  have h1 := houses_in d0 (stop_roads k d1 (by omega)) k.nm k.h1 k.h5 k.hs
  have h2 := roads_in (L := s.lines) (i := 0 + s.houses.length) (tail := rlines s) d1 (stop_rules k d2 (by omega) "road" (by simp)) k.nm k.ro k.r8 k.rs
  have h3 := programs_in (L := s.lines) (i := 0 + s.houses.length + s.roads.length) (qs := s.houses.zip s.progs) k.nm k.ro k.r8 k.hs k.h1 k.h5 (zip_fst k) d2 (by omega) fun q hq => (zip_mem k hq).2
  have e3 : ((s.houses.zip s.progs).map fun q => D.tup (q.2.map Ru.d)) = s.progs.map fun p => D.tup (p.map Ru.d) := by
    conv => rhs; rw [zip_snd k]
    rw [List.map_map]
    rfl
  rw [e3] at h3
  unfold netD at h3
  unfold F_system_in runF
  simp only [Nat.zero_add] at h1 h2 h3
  simp [m_system_in, rho0, h1, h2, h3, Sy.d, Sy.net]
theorem read_system (k : s.ok) : F_read_system [.d (.str s.t)] = .ok (.d s.d) [] := by
  obtain ⟨l1, l2⟩ := lines_ok k
  have h1 := lines_of (lines_no k) (by have := lines_len l2 l1; omega) (by omega)
  have h2 := system_in k
  have h3 := init_at (L := s.lines)
  have h4 := finish_at (L := s.lines)
  unfold F_read_system runF
  show (match m_read_system (rho0 3 [.d (.str (endT s.lines))]) with | .nx ρ => withOuts 0 ρ (.ok (.d .non)) | .rt o outs => .ok o outs | .exc x ρ => withOuts 0 ρ (.exc x) | _ => .bad) = _
  simp [m_read_system, rho0, mMake, newF, h1, h2, h3, h4, ins_l _ c_finish]
end K85
set_option Elab.async false
set_option linter.all false
set_option maxRecDepth 100000
/-! QC: what is drawn. -/
namespace K85
open PySem L2 DL PySem.Spec PyProof.Rows
/-- a feed of which at most n numbers were drawn without digits -/
def FD (n : Nat) (o : O) : Prop := ∃ a b c : Int, o = .ls [.d (.int a), .d (.int b), .d (.int c)] ∧ 0 ≤ c ∧ c ≤ n
theorem inW_small {i : Int} (h0 : 0 ≤ i) (h : i < 2 ^ 90) : inW i = true := by
  refine decide_eq_true ?_
  have h2 : i.natAbs < 2 ^ 90 := by
    have : (i.natAbs : Int) = i := by omega
    have h3 : ((i.natAbs : Nat) : Int) < ((2 ^ 90 : Nat) : Int) := by rw [this]; exact h
    exact Int.ofNat_lt.mp h3
  by_cases z : i.natAbs = 0
  · rw [z]; decide
  · have := (Nat.log2_lt z).mpr h2
    omega
theorem mul_ok {i j : Int} (h0 : 0 ≤ i) (h : i < 2 ^ 90) (k0 : 0 ≤ j) (k : j < 2 ^ 90) : gMul (.int i) (.int j) = some (.int (i * j)) := by
  show (if (inW i && inW j) = true then some (D.int (i * j)) else none) = _
  rw [inW_small h0 h, inW_small k0 k]
  rfl
theorem mod_ok {i j : Int} (h : 0 < j) : gMod (.int i) (.int j) = some (.int (i % j)) := if_pos h
theorem div_ok {i j : Int} (h : 0 < j) (h2 : j < 2 ^ 60) : gDiv (.int i) (.int j) = some (.int (i / j)) := by
  refine if_pos ⟨h, ?_⟩
  have h3 : j.natAbs < 2 ^ 60 := by omega
  have := (Nat.log2_lt (show j.natAbs ≠ 0 by omega)).mpr h3
  omega
theorem p90 : (2 : Int) ^ 90 = 1237940039285380274899124224 := by decide
theorem p60 : (2 : Int) ^ 60 = 1152921504606846976 := by decide
theorem modlt {i j : Int} (h : 0 < j) : 0 ≤ i % j ∧ i % j < j := ⟨Int.emod_nonneg _ (by omega), Int.emod_lt_of_pos _ h⟩
theorem take {n : Nat} {f : O} {m : Int} (hf : FD n f) (hn : n ≤ 1000000) (h0 : 0 < m) (h1 : m ≤ 1000) :
    ∃ k : Nat, (k : Int) < m ∧ ∃ f', FD (n + 1) f' ∧ F_law_take [f, .d (.int m)] = .ok (.d (.int k)) [f'] := by
  obtain ⟨a, b, c, rfl, hc0, hc⟩ := hf
  by_cases ha : 0 < a
  · have q := modlt (i := a) h0
    refine ⟨(a % m).toNat, by omega, .ls [.d (.int (a / m)), .d (.int b), .d (.int c)], ⟨_, _, _, rfl, hc0, by omega⟩, ?_⟩
    have e1 := mod_ok (i := a) h0
    have e2 := div_ok (i := a) h0 (by rw [p60]; omega)
    rw [show (((a % m).toNat : Nat) : Int) = a % m by omega]
    unfold F_law_take runF
    simp [m_law_take, rho0, ha, e1, e2, setK, ixN]
  · have w1 := mul_ok (i := 40692) (j := c + 1) (by omega) (by rw [p90]; omega) (by omega) (by rw [p90]; omega)
    have hcc : 0 ≤ 40692 * (c + 1) := by omega
    have w2 := mul_ok (i := 40692 * (c + 1)) (j := c + 1) (by omega) (by rw [p90]; omega) (by omega) (by rw [p90]; omega)
    have w3 := mul_ok (i := 69621) (j := c + 1) (by omega) (by rw [p90]; omega) (by omega) (by rw [p90]; omega)
    have w4 := mod_ok (i := b + 40692 * (c + 1) * (c + 1) + 69621 * (c + 1)) (j := 2147483647) (by omega)
    have q1 := modlt (i := b + 40692 * (c + 1) * (c + 1) + 69621 * (c + 1)) (j := 2147483647) (by omega)
    generalize (b + 40692 * (c + 1) * (c + 1) + 69621 * (c + 1)) % 2147483647 = x1 at *
    have w5 := mul_ok (i := x1) (j := x1) (by omega) (by rw [p90]; omega) (by omega) (by rw [p90]; omega)
    have w6 := mul_ok (i := 39373) (j := x1) (by omega) (by rw [p90]; omega) (by omega) (by rw [p90]; omega)
    have w7 := mod_ok (i := x1 * x1 + 39373 * x1 + (c + 1)) (j := 2147483579) (by omega)
    have q2 := modlt (i := x1 * x1 + 39373 * x1 + (c + 1)) (j := 2147483579) (by omega)
    generalize (x1 * x1 + 39373 * x1 + (c + 1)) % 2147483579 = x2 at *
    have w8 := mul_ok (i := x2) (j := x2) (by omega) (by rw [p90]; omega) (by omega) (by rw [p90]; omega)
    have w9 := mul_ok (i := 16807) (j := x2) (by omega) (by rw [p90]; omega) (by omega) (by rw [p90]; omega)
    have w10 := mod_ok (i := x2 * x2 + 16807 * x2) (j := 2147483549) (by omega)
    generalize (x2 * x2 + 16807 * x2) % 2147483549 = x3 at *
    have w11 := div_ok (i := x3) (j := 64) (by omega) (by rw [p60]; omega)
    have w12 := mod_ok (i := x3 / 64) h0
    have q3 := modlt (i := x3 / 64) h0
    refine ⟨(x3 / 64 % m).toNat, by omega, .ls [.d (.int a), .d (.int b), .d (.int (c + 1))], ⟨_, _, _, rfl, by omega, by omega⟩, ?_⟩
    rw [show (((x3 / 64 % m).toNat : Nat) : Int) = x3 / 64 % m by omega]
    unfold F_law_take runF
    simp [m_law_take, rho0, ha, setK, ixN, w1, w2, w3, w4, w5, w6, w7, w8, w9, w10, w11, w12]
end K85
set_option Elab.async false
set_option linter.all false
set_option maxRecDepth 100000
/-! QD: numbers, worths, tests drawn. -/
namespace K85
open PySem L2 DL PySem.Spec PyProof.Rows
theorem pow18 : gPow (.int 10) (.int 18) = some (.int 1000000000000000000) := by kernel_rfl
theorem pow30 : gPow (.int 10) (.int 30) = some (.int 1000000000000000000000000000000) := by kernel_rfl
theorem pow29 : gPow (.int 10) (.int 29) = some (.int 100000000000000000000000000000) := by kernel_rfl
theorem feed {ns : List Int} {k : Nat} (hk : k < 4) : ∃ f, FD 0 f ∧ F_law_feed [.d (.scr ns), .d (.int k)] = .ok f [] := by
  have h0 : ∀ x : Int, 0 ≤ x % 2147483423 ∧ x % 2147483423 < 2147483423 := fun x => modlt (by omega)
  have w1 : ∀ x : Int, gMod (.int x) (.int 2147483423) = some (.int (x % 2147483423)) := fun x => mod_ok (by omega)
  have w2 : ∀ x : Int, gMul (.int (x % 2147483423)) (.int 48271) = some (.int (x % 2147483423 * 48271)) := fun x => mul_ok (h0 x).1 (by rw [p90]; have := (h0 x).2; omega) (by omega) (by rw [p90]; omega)
  have w3 : gMul (.int 6151) (.int k) = some (.int (6151 * k)) := mul_ok (by omega) (by rw [p90]; omega) (by omega) (by rw [p90]; omega)
  by_cases hl : k < ns.length
  · have e1 : gIxA (.scr ns) (.int k) = some (.int ns[k]) := by
      show (atI ns (k : Int)).map D.int = _
      rw [at_nat hl, List.getElem?_eq_getElem hl]
      rfl
    generalize ns[k] = v at *
    by_cases hv : (if v < 0 then -v else v) < 1000000000000000000
    · refine ⟨.ls [.d (.int 0), .d (.int ((v % 2147483423 * 48271 + 6151 * k + 17) % 2147483423)), .d (.int 0)], ⟨_, _, _, rfl, by omega, by omega⟩, ?_⟩
      unfold F_law_feed runF
      simp [m_law_feed, rho0, hl, e1, pow18, hv, w1, w2, w3]
    · refine ⟨.ls [.d (.int (if v < 0 then -v else v)), .d (.int ((v % 2147483423 * 48271 + 6151 * k + 17) % 2147483423)), .d (.int 0)], ⟨_, _, _, rfl, by omega, by omega⟩, ?_⟩
      unfold F_law_feed runF
      simp [m_law_feed, rho0, hl, e1, pow18, hv, w1, w2, w3]
  · refine ⟨.ls [.d (.int 0), .d (.int (((0 : Int) % 2147483423 * 48271 + 6151 * k + 17) % 2147483423)), .d (.int 0)], ⟨_, _, _, rfl, by omega, by omega⟩, ?_⟩
    have w4 := w1 0
    have w5 := w2 0
    unfold F_law_feed runF
    simp [m_law_feed, rho0, hl, pow18, w1, w4, w5, w3] at w4 w5 ⊢
    simp [w3, w5, w1]
theorem ix_k8 {a b c d e f g h : D} {k : Nat} (hk : (k : Int) < 8) : gIxA (.lst [a, b, c, d, e, f, g, h]) (.int k) = [a, b, c, d, e, f, g, h][k]? := ix_lk (by simp; omega)
theorem number {n : Nat} {f : O} (hf : FD n f) (hn : n ≤ 900000) : ∃ z : Int, Nu z ∧ ∃ f', FD (n + 2) f' ∧ F_law_number [f] = .ok (.d (.int z)) [f'] := by
  obtain ⟨far, hk1, f1, hf1, e1⟩ := take (m := 1000) hf (by omega) (by omega) (by omega)
  obtain ⟨k, hk2, f2, hf2, e2⟩ := take (m := 8) hf1 (by omega) (by omega) (by omega)
  have w := mod_ok (i := (far : Int)) (j := 7) (by omega)
  have q := modlt (i := (far : Int)) (j := 7) (by omega)
  have ep : (10 : Nat) ^ 30 = 1000000000000000000000000000000 := by decide
  have key : ∃ z : Int, Nu z ∧ gIxA (.lst [.int 0, .int 1, .int (-1), .int 2, .int ((far : Int) % 7 - 3), .int far, .int (999999999999999999999999999999 - far), .int (far - 100000000000000000000000000000)]) (.int k) = some (.int z) := by
    rw [ix_k8 hk2]
    unfold Nu
    rw [ep]
    match k, hk2 with
    | 0, _ => exact ⟨_, by decide, rfl⟩
    | 1, _ => exact ⟨_, by decide, rfl⟩
    | 2, _ => exact ⟨_, by decide, rfl⟩
    | 3, _ => exact ⟨_, by decide, rfl⟩
    | 4, _ => exact ⟨_, by omega, rfl⟩
    | 5, _ => exact ⟨_, by omega, rfl⟩
    | 6, _ => exact ⟨_, by omega, rfl⟩
    | 7, _ => exact ⟨_, by omega, rfl⟩
    | k + 8, h => omega
  obtain ⟨z, hz, ez⟩ := key
  refine ⟨z, hz, f2, hf2, ?_⟩
  unfold F_law_number runF
  simp [m_law_number, rho0, e1, e2, w, pow30, pow29, ez]
theorem some_worth {n : Nat} {f : O} {b : Bool} (hf : FD n f) (hn : n ≤ 800000) : ∃ w : Wo, w.ok b ∧ ∃ m f', m ≤ n + 4 ∧ FD m f' ∧ F_law_some_worth [f, .d (.bl b)] = .ok (.d w.d) [f'] := by
  have hrest : ∀ {n : Nat} {f : O}, FD n f → n ≤ 800001 → ∃ w : Wo, w.ok b ∧ ∃ m f', m ≤ n + 3 ∧ FD m f' ∧ ∃ (k : Nat) (f1 : O), F_law_take [f, .d (.int 2)] = .ok (.d (.int k)) [f1] ∧ ((k = 0 ∧ ∃ s : Nat, w = .slot s ∧ F_law_take [f1, .d (.int 3)] = .ok (.d (.int s)) [f']) ∨ (k ≠ 0 ∧ F_law_number [f1] = .ok (.d w.d) [f'])) := by
    intro n f hf hn
    obtain ⟨k, hk, f1, hf1, e1⟩ := take (m := 2) hf (by omega) (by omega) (by omega)
    by_cases h0 : k = 0
    · obtain ⟨s, hs, f2, hf2, e2⟩ := take (m := 3) hf1 (by omega) (by omega) (by omega)
      exact ⟨.slot s, show s < 3 by omega, _, f2, by omega, hf2, k, f1, e1, .inl ⟨h0, s, rfl, e2⟩⟩
    · obtain ⟨z, hz, f2, hf2, e2⟩ := number hf1 (by omega)
      exact ⟨.num z, hz, _, f2, by omega, hf2, k, f1, e1, .inr ⟨h0, e2⟩⟩
  have hm : m_law_some_worth = sSeq (sIf (mAnd (mTru (mV 1)) (mT (mOp2 gEq (mFz (mCall 2 [0] F_law_take [] (mCons (mC (.int 3)) (mNil)))) (mC (.int 0))))) (sRet 1 (mTup (mCons (mC (.str "told")) (mNil)))) (sNil)) (sSeq (sIf (mT (mOp2 gEq (mFz (mCall 2 [0] F_law_take [] (mCons (mC (.int 2)) (mNil)))) (mC (.int 0)))) (sRet 1 (mTup (mCons (mC (.str "slot")) (mCons (mFz (mCall 2 [0] F_law_take [] (mCons (mC (.int 3)) (mNil)))) (mNil))))) (sNil)) (sRetO 1 (mCall 1 [0] F_law_number [] (mNil)))) := rfl
  cases b with
  | false =>
    obtain ⟨w, hw, m, f', hm', hf', k, f1, e1, h⟩ := hrest hf (by omega)
    refine ⟨w, hw, m, f', by omega, hf', ?_⟩
    unfold F_law_some_worth runF
    rcases h with ⟨rfl, s, rfl, e2⟩ | ⟨h0, e2⟩
    · simp [hm, rho0, e1, e2, Wo.d] at e1 e2 ⊢
    · simp [hm, rho0, e1, e2, h0]
  | true =>
    obtain ⟨j, hj, f0, hf0, e0⟩ := take (m := 3) hf (by omega) (by omega) (by omega)
    by_cases hj0 : j = 0
    · subst hj0
      refine ⟨.told, rfl, _, f0, by omega, hf0, ?_⟩
      unfold F_law_some_worth runF
      simp [hm, rho0, Wo.d] at e0 ⊢
      simp [e0]
    · obtain ⟨w, hw, m, f', hm', hf', k, f1, e1, h⟩ := hrest hf0 (by omega)
      refine ⟨w, hw, m, f', by omega, hf', ?_⟩
      unfold F_law_some_worth runF
      rcases h with ⟨rfl, s, rfl, e2⟩ | ⟨h0, e2⟩
      · simp [hm, rho0, e0, Wo.d, hj0] at e1 e2 ⊢
        simp [e1, e2]
      · simp [hm, rho0, e0, e1, e2, h0, hj0]
/-- a test -/
theorem ix_l {l : List D} {k : Nat} (hk : k < l.length) : gIxA (.lst l) (.int k) = l[k]? := ix_lk hk
theorem law_test {n : Nat} {f : O} {b : Bool} (hf : FD n f) (hn : n ≤ 700000) : ∃ t : Te, t.ok b ∧ ∃ f', FD (n + 5) f' ∧ F_law_test [f, .d (.bl b)] = .ok (.d t.d) [f'] := by
  have hb : ∃ m : Int, (3 : Int) + (if b = true then 1 else 0) = m ∧ 0 < m ∧ m ≤ 4 ∧ (b = false → m = 3) := by
    cases b with
    | false => exact ⟨3, rfl, by omega, by omega, fun _ => rfl⟩
    | true => exact ⟨4, rfl, by omega, by omega, fun h => by cases h⟩
  obtain ⟨m, em, hm0, hm4, hm3⟩ := hb
  obtain ⟨k1, hk1, f1, hf1, e1⟩ := take hf (by omega) hm0 (by omega)
  obtain ⟨k2, hk2, f2, hf2, e2⟩ := take (m := 3) hf1 (by omega) (by omega) (by omega)
  obtain ⟨z, hz, f3, hf3, e3⟩ := number hf2 (by omega)
  obtain ⟨k4, hk4, f4, hf4, e4⟩ := take (m := 4) hf3 (by omega) (by omega) (by omega)
  have w1 : ∃ o : Option Nat, (∀ k, o = some k → k < 3) ∧ (o = none → b = true) ∧ gIxA (.lst [.int 0, .int 1, .int 2, .str "told"]) (.int k1) = some (whatD o) := by
    rw [ix_l (by simp; omega)]
    match k1, hk1 with
    | 0, _ => exact ⟨some 0, fun k e => (by cases e; omega), fun e => (nomatch e), rfl⟩
    | 1, _ => exact ⟨some 1, fun k e => (by cases e; omega), fun e => (nomatch e), rfl⟩
    | 2, _ => exact ⟨some 2, fun k e => (by cases e; omega), fun e => (nomatch e), rfl⟩
    | 3, h => exact ⟨none, fun k e => (nomatch e), fun _ => (by
        cases b with
        | true => rfl
        | false =>
          have := hm3 rfl
          omega), rfl⟩
    | k + 4, h => omega
  obtain ⟨o, ho, hon, e5⟩ := w1
  have w2 : gIxA (.lst [.str "under", .str "is", .str "over"]) (.int k2) = some (.str (signW k2)) := by
    rw [ix_l (by simp; omega)]
    match k2, hk2 with
    | 0, _ => rfl
    | 1, _ => rfl
    | 2, _ => rfl
    | k + 3, h => omega
  have w3 : ∃ y : Int, Nu y ∧ gIxA (.lst [.int 0, .int 1, .int 2, .int z]) (.int k4) = some (.int y) := by
    rw [ix_l (by simp; omega)]
    match k4, hk4 with
    | 0, _ => exact ⟨0, nu_3 (by decide : 0 < 3), rfl⟩
    | 1, _ => exact ⟨1, nu_3 (by decide : 1 < 3), rfl⟩
    | 2, _ => exact ⟨2, nu_3 (by decide : 2 < 3), rfl⟩
    | 3, _ => exact ⟨z, hz, rfl⟩
    | k + 4, h => omega
  obtain ⟨y, hy, e6⟩ := w3
  refine ⟨⟨o, k2, y⟩, ⟨?_, by show k2 < 3; omega, hy⟩, f4, hf4, ?_⟩
  · cases o with
    | none => exact hon rfl
    | some k => exact ho k rfl
  · rw [Te.d_eq]
    unfold F_law_test runF
    simp [m_law_test, rho0, em, e1, e2, e3, e4, e5, w2, e6]
end K85
set_option Elab.async false
set_option linter.all false
set_option maxRecDepth 100000
/-! QE: names drawn. -/
namespace K85
open PySem L2 DL PySem.Spec PyProof.Rows
def letS (k : Nat) : Str := ⟨#[97 + k % 26]⟩
def abc : Str := "abcdefghijklmnopqrstuvwxyz"
theorem abc_tl : tl abc = (List.range 26).map (97 + ·) := by decide +kernel
theorem ix_abc {k : Nat} (h : k < 26) : gIxA (.str abc) (.int k) = some (.str (letS k)) := by
  show (if abc.length ≤ 16777216 then (atI (tl abc) (k : Int)).map fun c => D.str ⟨#[c]⟩ else none) = _
  rw [if_pos (by decide +kernel), at_nat (by rw [abc_tl]; simpa using h), abc_tl, List.getElem?_map, List.getElem?_range h]
  show some (D.str ⟨#[97 + k]⟩) = some (D.str ⟨#[97 + k % 26]⟩)
  rw [Nat.mod_eq_of_lt h]
theorem let_nm (k : Nat) : Nm (letS k) := by
  have h : k % 26 < 26 := Nat.mod_lt _ (by omega)
  refine ⟨Nat.le_refl 1, show 1 ≤ 8 by omega, fun c hc => ?_⟩
  have hc : c ∈ [97 + k % 26] := hc
  simp at hc
  omega
theorem let_inj {j k : Nat} (hj : j < 26) (hk : k < 26) (h : letS j = letS k) : j = k := by
  have e : [97 + j % 26] = [97 + k % 26] := congrArg tl h
  simp at e
  omega
/-! texts put together -/
theorem cat_nm {a b : Str} (ha : ∀ c ∈ tl a, 97 ≤ c ∧ c ≤ 122) (hb : ∀ c ∈ tl b, 97 ≤ c ∧ c ≤ 122) : ∀ c ∈ tl (a ++ b), 97 ≤ c ∧ c ≤ 122 := fun c hc => by
  rw [tl_app] at hc
  exact (List.mem_append.mp hc).elim (ha c) (hb c)
def takeS (x : Str) (n : Nat) : Str := ⟨((tl x).take n).toArray⟩
def dropS (x : Str) (n : Nat) : Str := ⟨((tl x).drop n).toArray⟩
theorem take_tl {x : Str} {n : Nat} : tl (takeS x n) = (tl x).take n := rfl
theorem drop_tl {x : Str} {n : Nat} : tl (dropS x n) = (tl x).drop n := rfl
theorem sl_to {x : Str} {n : Nat} (h : x.length ≤ 16777216) : gSl (.str x) none (some (n : Int)) = some (.str (takeS x n)) := by
  show (if x.length ≤ 16777216 then some (D.str (Txt.slice x none (some (n : Int)))) else none) = _
  rw [if_pos h, upto_tl]
  rfl
theorem sl_from {x : Str} {n : Nat} (h : x.length ≤ 16777216) : gSl (.str x) (some (n : Int)) none = some (.str (dropS x n)) := by
  show (if x.length ≤ 16777216 then some (D.str (Txt.slice x (some (n : Int)) none)) else none) = _
  rw [if_pos h, from_tl]
  rfl
/-- the base with one more sign in it -/
def mid (base : Str) (spot : Nat) (c : Nat) : Str := takeS base spot ++ letS c ++ dropS base spot
theorem mid_tl {base : Str} {spot c : Nat} : tl (mid base spot c) = (tl base).take spot ++ (97 + c % 26) :: (tl base).drop spot := by
  unfold mid
  rw [tl_app, tl_app, take_tl, drop_tl]
  show _ ++ [97 + c % 26] ++ _ = _
  simp
theorem mid_at {base : Str} {spot c : Nat} (h : spot ≤ (tl base).length) : (tl (mid base spot c))[spot]? = some (97 + c % 26) := by
  rw [mid_tl, List.getElem?_append_right (by rw [List.length_take]; omega), List.length_take, Nat.min_eq_left h]
  simp
theorem mid_len {base : Str} {spot c : Nat} : (tl (mid base spot c)).length = (tl base).length + 1 := by
  rw [mid_tl, List.length_append, List.length_cons, List.length_take, List.length_drop]
  omega
theorem mid_low {base : Str} {spot c : Nat} (hb : ∀ d ∈ tl base, 97 ≤ d ∧ d ≤ 122) : ∀ d ∈ tl (mid base spot c), 97 ≤ d ∧ d ≤ 122 := fun d hd => by
  rw [mid_tl, List.mem_append, List.mem_cons] at hd
  rcases hd with h | h | h
  · exact hb d (List.mem_of_mem_take h)
  · have : c % 26 < 26 := Nat.mod_lt _ (by omega)
    omega
  · exact hb d (List.mem_of_mem_drop h)
theorem nodup_range {m : Nat} {g : Nat → Str} (h : ∀ j k, j < m → k < m → g j = g k → j = k) : ((List.range m).map g).Nodup := by
  rw [List.nodup_iff_pairwise_ne, List.pairwise_map]
  refine List.pairwise_iff_getElem.mpr fun i j hi hj hij e => ?_
  rw [List.length_range] at hi hj
  rw [List.getElem_range, List.getElem_range] at e
  have := h i j hi hj e
  omega
theorem strides {s : Nat} (hs : s ∈ [1, 3, 5, 7, 9, 11, 15, 17]) {a j k : Nat} (hj : j < 26) (hk : k < 26) (h : (a + s * j) % 26 = (a + s * k) % 26) : j = k := by
  simp only [List.mem_cons, List.not_mem_nil, or_false] at hs
  rcases hs with rfl | rfl | rfl | rfl | rfl | rfl | rfl | rfl <;> omega
/-! letters drawn one after another -/
theorem lcX_feed {α : Type} {P : α → Prop} {g : α → D} {E : O → Option O → DL.Env} {i K B : Nat} {me : M D} (hw : ∀ f v x, tgN i x (wipeE (E f v) [i]) = some (E f (some (.d x))))
    (hme : ∀ n f x, FD n f → n + K ≤ B → ∃ r : α, P r ∧ ∃ m f', m ≤ n + K ∧ FD m f' ∧ me (E f (some (.d x))) = .ok (g r) (E f' (some (.d x)))) :
    ∀ (xs : List D) (n : Nat) (f : O) (v : Option O), FD n f → n + K * xs.length ≤ B → ∃ rs : List α, rs.length = xs.length ∧ (∀ r ∈ rs, P r) ∧ ∃ m f' v', m ≤ n + K * xs.length ∧ FD m f' ∧ lcX [i] (tgN i) mYes me xs (E f v) = .ok (rs.map g) (E f' v')
  | [], n, f, v, hf, hn => ⟨[], rfl, fun _ h => (nomatch h), n, f, v, Nat.le_add_right _ _, hf, rfl⟩
  | x :: xs, n, f, v, hf, hn => by
    rw [List.length_cons, Nat.mul_succ] at hn
    obtain ⟨r, hr, m, f1, hm, hf1, e1⟩ := hme n f x hf (by omega)
    obtain ⟨rs, h1, h2, m2, f2, v2, h3, h4, e2⟩ := lcX_feed hw hme xs m f1 (some (.d x)) hf1 (by omega)
    refine ⟨r :: rs, by simp [h1], fun z hz => ?_, m2, f2, v2, by rw [List.length_cons, Nat.mul_succ]; omega, h4, ?_⟩
    · rcases List.mem_cons.mp hz with rfl | hz
      · exact hr
      · exact h2 z hz
    · rw [lcX, hw]
      dsimp only
      rw [y_yes]
      dsimp only
      rw [e1]
      dsimp only
      rw [e2]
      rfl
theorem FD.mono {n m : Nat} {f : O} (h : FD n f) (hm : n ≤ m) : FD m f := by
  obtain ⟨a, b, c, e, h1, h2⟩ := h
  exact ⟨a, b, c, e, h1, by omega⟩
theorem rng_ok {m : Nat} (h : m ≤ 1000) : g62 (m : Int) = true := decide_eq_true (by omega)
theorem rng_eq {m : Nat} : rngD 0 m = (List.range m).map fun i : Nat => D.int i := by
  unfold rngD
  exact List.map_congr_left fun a _ => by rw [Int.zero_add]
theorem enum_eq {m : Nat} {g : Nat → Str} : enumD (((List.range m).map g).map D.str) = (List.range m).map fun i : Nat => .tup [.int i, .str (g i)] := by
  unfold enumD
  rw [List.length_map, List.length_map, List.length_range, List.map_map, List.zipWith_map_right]
  apply List.ext_getElem?
  intro i
  simp only [List.getElem?_zipWith, List.getElem?_map]
  by_cases h : i < m
  · rw [List.getElem?_range h]
    rfl
  · rw [List.getElem?_eq_none (by rw [List.length_range]; omega)]
    rfl
/-! ### the four ways -/
def wordN (k : Nat) : Str := match k % 12 with
  | 0 => "take" | 1 => "self" | 2 => "rest" | 3 => "works" | 4 => "begin" | 5 => "deeds" | 6 => "house" | 7 => "road" | 8 => "loose" | 9 => "row" | 10 => "told" | _ => "mark"
def wordsD : List D := [.str "take", .str "self", .str "rest", .str "works", .str "begin", .str "deeds", .str "house", .str "road", .str "loose", .str "row", .str "told", .str "mark"]
theorem word_at : ∀ k : Fin 12, wordsD[k.1]? = some (.str (wordN k.1)) := by
  intro k
  match k with
  | ⟨0, _⟩ | ⟨1, _⟩ | ⟨2, _⟩ | ⟨3, _⟩ | ⟨4, _⟩ | ⟨5, _⟩ | ⟨6, _⟩ | ⟨7, _⟩ | ⟨8, _⟩ | ⟨9, _⟩ | ⟨10, _⟩ | ⟨11, _⟩ => rfl
theorem word_nm (k : Nat) : Nm (wordN k) := by
  have h : ∀ j : Fin 12, ((tl (wordN j.1)).all fun c => decide (97 ≤ c) && decide (c ≤ 122)) = true ∧ 1 ≤ (tl (wordN j.1)).length ∧ (tl (wordN j.1)).length ≤ 8 := by decide +kernel
  have e : wordN k = wordN (k % 12) := by unfold wordN; rw [Nat.mod_mod]
  have hk := h ⟨k % 12, Nat.mod_lt _ (by omega)⟩
  rw [e]
  refine ⟨hk.2.1, hk.2.2, fun c hc => ?_⟩
  have := List.all_eq_true.mp hk.1 c hc
  simpa using this
theorem word_inj {a j k : Nat} (hj : j < 12) (hk : k < 12) (h : wordN ((a + 5 * j) % 12) = wordN ((a + 5 * k) % 12)) : j = k := by
  have hi : ∀ x y : Fin 12, wordN x.1 = wordN y.1 → x = y := by
    intro x y e
    have e2 := congrArg tl e
    revert x y
    decide +kernel
  have := hi ⟨(a + 5 * j) % 12, Nat.mod_lt _ (by omega)⟩ ⟨(a + 5 * k) % 12, Nat.mod_lt _ (by omega)⟩ h
  have h2 : (a + 5 * j) % 12 = (a + 5 * k) % 12 := congrArg Fin.val this
  omega
end K85
set_option Elab.async false
set_option linter.all false
set_option maxRecDepth 100000
/-! QF: rows of names drawn. -/
namespace K85
open PySem L2 DL PySem.Spec PyProof.Rows
structure Names (m : Nat) (l : List Str) : Prop where
  len : l.length = m
  nd : l.Nodup
  nm : ∀ x ∈ l, Nm x
theorem names_range {m : Nat} {g : Nat → Str} (h : ∀ j k, j < m → k < m → g j = g k → j = k) (hn : ∀ k, k < m → Nm (g k)) : Names m ((List.range m).map g) :=
  ⟨by simp, nodup_range h, fun x hx => by
    obtain ⟨k, hk, rfl⟩ := List.mem_map.mp hx
    exact hn k (List.mem_range.mp hk)⟩
/-- the result of a call that is an own list, or data -/
def Gives (r : FRes) (l : List Str) (f' : O) : Prop := ∃ o, frz o = some (.lst (l.map .str)) ∧ r = .ok o [f']
theorem join_tl (l : List Str) : tl (Str.join "" l) = (l.map tl).flatten := by
  induction l with
  | nil => rfl
  | cons a l ih =>
    cases l with
    | nil => simp; rfl
    | cons b l =>
      rw [join2, tl_app, tl_app, ih]
      simp
      rfl
theorem base_facts {ks : List Nat} (h : ks.length ≤ 7) : (tl (Str.join "" (ks.map letS))).length = ks.length ∧ ∀ c ∈ tl (Str.join "" (ks.map letS)), 97 ≤ c ∧ c ≤ 122 := by
  rw [join_tl, List.map_map]
  constructor
  · clear h
    induction ks with
    | nil => rfl
    | cons a l ih =>
      rw [List.map_cons, List.flatten_cons, List.length_append, ih, List.length_cons]
      show 1 + l.length = _
      omega
  · intro c hc
    obtain ⟨l, hl, hc⟩ := List.mem_flatten.mp hc
    obtain ⟨k, _, rfl⟩ := List.mem_map.mp hl
    exact (let_nm k).2.2 c hc
noncomputable def restN : MS := (sSeq (sIf (mT (mOp2 gEq (mV 3) (mC (.int 1)))) (sRet 1 (mV 7)) (sNil))
  (sSeq (sSet 10 (mLcR [12] (mItems (mV 7)) (tgN 12) (mYes) (mOp2 gAdd (mOp2 gAdd (mSl (mV 8) mNoPart (mPart (mV 9))) (mV 12)) (mSl (mV 8) (mPart (mV 9)) mNoPart))))
  (sSeq (sIf (mT (mOp2 gEq (mV 3) (mC (.int 2)))) (sRet 1 (mV 10)) (sNil))
  (sRetO 1 (mLcRO [11, 13] (mEnum (mV 10)) (tgSeq 2 (tgCons (tgN 11) (tgCons (tgN 13) (tgNil)))) (mYes) (mSl (mV 13) mNoPart (mPart (mOp2 gAdd (mOp2 gAdd (mV 9) (mC (.int 1))) (mOp2 gMod (mV 11) (mOp2 gSub (mOp1 gLen (mV 13)) (mV 9)))))))))))
noncomputable def midN : MS := (sSeq (sIf (mT (mOp2 gEq (mV 3) (mC (.int 0)))) (sRetO 1 (mLcRO [11] (mRng1 (mV 1)) (tgN 11) (mYes) (mOp2 gIxA (mV 6) (mOp2 gMod (mOp2 gAdd (mV 4) (mOp2 gMul (mC (.int 5)) (mV 11))) (mC (.int 12)))))) (sNil))
  (sSeq (sSet 7 (mLcR [11] (mRng1 (mV 1)) (tgN 11) (mYes) (mOp2 gIxA (mV 2) (mOp2 gMod (mOp2 gAdd (mV 4) (mOp2 gMul (mV 5) (mV 11))) (mC (.int 26))))))
  (sSeq (sSet 8 (mM1 gJoin (mC (.str "")) (mLcX [11] (mRng1 (mFz (mCall 2 [0] F_law_take [] (mCons (mC (.int 8)) (mNil))))) (tgN 11) (mYes) (mOp2 gIxA (mV 2) (mFz (mCall 2 [0] F_law_take [] (mCons (mC (.int 26)) (mNil))))))))
  (sSeq (sSet 9 (mFz (mCall 2 [0] F_law_take [] (mCons (mOp2 gAdd (mOp1 gLen (mV 8)) (mC (.int 1))) (mNil)))))
  restN))))
theorem names_eq : m_law_names = sSeq (sSet 2 (mC (.str "abcdefghijklmnopqrstuvwxyz")))
  (sSeq (sSet 3 (mFz (mCall 2 [0] F_law_take [] (mCons (mC (.int 4)) (mNil)))))
  (sSeq (sSet 4 (mFz (mCall 2 [0] F_law_take [] (mCons (mC (.int 26)) (mNil)))))
  (sSeq (sSet 5 (mOp2 gIxA (mLst (mCons (mC (.int 1)) (mCons (mC (.int 3)) (mCons (mC (.int 5)) (mCons (mC (.int 7)) (mCons (mC (.int 9)) (mCons (mC (.int 11)) (mCons (mC (.int 15)) (mCons (mC (.int 17)) (mNil)))))))))) (mFz (mCall 2 [0] F_law_take [] (mCons (mC (.int 8)) (mNil))))))
  (sSeq (sSet 6 (mLst (mCons (mC (.str "take")) (mCons (mC (.str "self")) (mCons (mC (.str "rest")) (mCons (mC (.str "works")) (mCons (mC (.str "begin")) (mCons (mC (.str "deeds")) (mCons (mC (.str "house")) (mCons (mC (.str "road")) (mCons (mC (.str "loose")) (mCons (mC (.str "row")) (mCons (mC (.str "told")) (mCons (mC (.str "mark")) (mNil)))))))))))))))
  midN)))) := rfl
theorem nE {m first : Nat} (hm : m ≤ 12) (hfi2 : first < 26) : ∀ ρ : DL.Env, ρ.length = 14 → ρ[4]? = some (some (.d (.int first))) → ρ[6]? = some (some (.d (.lst wordsD))) → endR (fun ys => O.ls (ys.map O.d)) [11] (tgN 11) mYes (mOp2 gIxA (mV 6) (mOp2 gMod (mOp2 gAdd (mV 4) (mOp2 gMul (mC (.int 5)) (mV 11))) (mC (.int 12)))) (rngD 0 m) ρ = .ok (.ls (((List.range m).map fun k => D.str (wordN ((first + 5 * k) % 12))).map O.d)) ρ := fun ρ h1 h2 h3 => by
  rw [rng_eq]
  refine endR_1 (by omega) (by rw [List.length_range]; omega) fun k hk => ?_
  have hk := List.mem_range.mp hk
  have w1 := mul_ok (i := 5) (j := (k : Int)) (by omega) (by rw [p90]; omega) (by omega) (by rw [p90]; omega)
  have w2 := mod_ok (i := (first : Int) + 5 * k) (j := 12) (by omega)
  have w3 : gIxA (.lst wordsD) (.int (((first : Int) + 5 * k) % 12)) = some (.str (wordN ((first + 5 * k) % 12))) := by
    rw [show ((first : Int) + 5 * k) % 12 = (((first + 5 * k) % 12 : Nat) : Int) by omega, ix_l (show (first + 5 * k) % 12 < wordsD.length from Nat.mod_lt _ (by decide))]
    exact word_at ⟨(first + 5 * k) % 12, Nat.mod_lt _ (by omega)⟩
  match ρ, h1, h2, h3 with
  | [a0, a1, a2, a3, _, a5, _, a7, a8, a9, a10, a11, a12, a13], _, rfl, rfl =>
    exact ⟨[a0, a1, a2, a3, some (.d (.int first)), a5, some (.d (.lst wordsD)), a7, a8, a9, a10, some (.d (.int k)), a12, a13], by simp [w1, w2, w3]⟩
theorem nS {m first s : Nat} (hm : m ≤ 12) (hfi2 : first < 26) (hs2 : s ≤ 17) : ∀ ρ : DL.Env, ρ.length = 14 → ρ[2]? = some (some (.d (.str abc))) → ρ[4]? = some (some (.d (.int first))) → ρ[5]? = some (some (.d (.int s))) → endR D.lst [11] (tgN 11) mYes (mOp2 gIxA (mV 2) (mOp2 gMod (mOp2 gAdd (mV 4) (mOp2 gMul (mV 5) (mV 11))) (mC (.int 26)))) (rngD 0 m) ρ = .ok (.lst ((List.range m).map fun k => D.str (letS ((first + s * k) % 26)))) ρ := fun ρ h1 h2 h3 h4 => by
  rw [rng_eq]
  refine endR_1 (by omega) (by rw [List.length_range]; omega) fun k hk => ?_
  have hk := List.mem_range.mp hk
  have w1 := mul_ok (i := (s : Int)) (j := (k : Int)) (by omega) (by rw [p90]; omega) (by omega) (by rw [p90]; omega)
  have w2 := mod_ok (i := (first : Int) + s * k) (j := 26) (by omega)
  have w3 : gIxA (.str abc) (.int (((first : Int) + s * k) % 26)) = some (.str (letS ((first + s * k) % 26))) := by
    rw [show ((first : Int) + s * k) % 26 = (((first + s * k) % 26 : Nat) : Int) by push_cast; rfl, ix_abc (Nat.mod_lt _ (by omega))]
  match ρ, h1, h2, h3, h4 with
  | [a0, a1, _, a3, _, _, a6, a7, a8, a9, a10, a11, a12, a13], _, rfl, rfl, rfl =>
    exact ⟨[a0, a1, some (.d (.str abc)), a3, some (.d (.int first)), some (.d (.int s)), a6, a7, a8, a9, a10, some (.d (.int k)), a12, a13], by simp [w1, w2, w3]⟩
theorem nF {m first s spot : Nat} {base : Str} (hm : m ≤ 12) (hb7 : base.length ≤ 7) (hbl16 : base.length ≤ 16777216) : ∀ ρ : DL.Env, ρ.length = 14 → ρ[8]? = some (some (.d (.str base))) → ρ[9]? = some (some (.d (.int spot))) → endR D.lst [12] (tgN 12) mYes (mOp2 gAdd (mOp2 gAdd (mSl (mV 8) mNoPart (mPart (mV 9))) (mV 12)) (mSl (mV 8) (mPart (mV 9)) mNoPart)) ((List.range m).map fun k => D.str (letS ((first + s * k) % 26))) ρ = .ok (.lst ((List.range m).map fun k => D.str (mid base spot ((first + s * k) % 26)))) ρ := fun ρ h1 h2 h3 => by
  refine endR_1 (by omega) (by rw [List.length_range]; omega) fun k hk => ?_
  have w1 := sl_to (x := base) (n := spot) hbl16
  have w2 := sl_from (x := base) (n := spot) hbl16
  have l1 : (takeS base spot).length ≤ 7 := by rw [← tl_len, take_tl, List.length_take, tl_len]; omega
  have l2 : (dropS base spot).length ≤ 7 := by rw [← tl_len, drop_tl, List.length_drop, tl_len]; omega
  have l3 : ∀ c, (letS c).length = 1 := fun _ => rfl
  have w3 := g_addS (x := takeS base spot) (y := letS ((first + s * k) % 26)) (by rw [l3]; omega)
  have w4 := g_addS (x := takeS base spot ++ letS ((first + s * k) % 26)) (y := dropS base spot) (by rw [len_app, l3]; omega)
  match ρ, h1, h2, h3 with
  | [a0, a1, a2, a3, a4, a5, a6, a7, _, _, a10, a11, a12, a13], _, rfl, rfl =>
    exact ⟨[a0, a1, a2, a3, a4, a5, a6, a7, some (.d (.str base)), some (.d (.int spot)), a10, a11, some (.d (.str (letS ((first + s * k) % 26)))), a13], by simp [w1, w2, w3, w4]; rfl⟩
theorem nCut {spot : Nat} {base : Str} (hb7 : base.length ≤ 7) (hsp2 : spot ≤ base.length) (hml : ∀ c, (tl (mid base spot c)).length = base.length + 1) : ∀ k c : Nat, gSl (.str (mid base spot c)) none (some ((spot : Int) + 1 + (k : Int) % ((base.length : Int) + 1 - spot))) = some (.str (takeS (mid base spot c) (spot + 1 + k % (base.length + 1 - spot)))) := fun k c => by
  have h1 : (spot : Int) + 1 + (k : Int) % ((base.length : Int) + 1 - spot) = ((spot + 1 + k % (base.length + 1 - spot) : Nat) : Int) := by
    rw [Int.natCast_add, Int.natCast_add, Int.natCast_emod, Int.ofNat_sub (by omega)]
    rfl
  rw [h1]
  exact sl_to (by rw [← tl_len, hml]; omega)
theorem nC {m first s spot : Nat} {base : Str} (hm : m ≤ 12) (hb7 : base.length ≤ 7) (hsp2 : spot ≤ base.length) (hml : ∀ c, (tl (mid base spot c)).length = base.length + 1) (hcut : ∀ k c : Nat, gSl (.str (mid base spot c)) none (some ((spot : Int) + 1 + (k : Int) % ((base.length : Int) + 1 - spot))) = some (.str (takeS (mid base spot c) (spot + 1 + k % (base.length + 1 - spot))))) : ∀ ρ : DL.Env, ρ.length = 14 → ρ[9]? = some (some (.d (.int spot))) → endR (fun ys => O.ls (ys.map O.d)) [11, 13] (tgSeq 2 (tgCons (tgN 11) (tgCons (tgN 13) (tgNil)))) (mYes) (mSl (mV 13) mNoPart (mPart (mOp2 gAdd (mOp2 gAdd (mV 9) (mC (.int 1))) (mOp2 gMod (mV 11) (mOp2 gSub (mOp1 gLen (mV 13)) (mV 9)))))) (enumD ((List.range m).map fun k => D.str (mid base spot ((first + s * k) % 26)))) ρ = .ok (.ls (((List.range m).map fun k => D.str (takeS (mid base spot ((first + s * k) % 26)) (spot + 1 + k % (base.length + 1 - spot)))).map O.d)) ρ := fun ρ h1 h2 => by
  have ee := enum_eq (m := m) (g := fun k => mid base spot ((first + s * k) % 26))
  rw [List.map_map] at ee
  have ee2 : enumD ((List.range m).map fun k => D.str (mid base spot ((first + s * k) % 26))) = _ := ee
  rw [ee2]
  refine endR_map (by rw [List.length_range]; omega) fun k hk => ?_
  have w1 := g_lenS (x := mid base spot ((first + s * k) % 26)) (by rw [← tl_len, hml]; omega)
  rw [← tl_len, hml] at w1
  have w2 := mod_ok (i := (k : Int)) (j := (base.length : Int) + 1 - spot) (by omega)
  have w3 := hcut k ((first + s * k) % 26)
  match ρ, h1, h2 with
  | [a0, a1, a2, a3, a4, a5, a6, a7, a8, _, a10, a11, a12, a13], _, rfl =>
    refine ⟨[a0, a1, a2, a3, a4, a5, a6, a7, a8, some (.d (.int spot)), a10, some (.d (.int k)), a12, some (.d (.str (mid base spot ((first + s * k) % 26))))], _, [a0, a1, a2, a3, a4, a5, a6, a7, a8, some (.d (.int spot)), a10, some (.d (.int k)), a12, some (.d (.str (mid base spot ((first + s * k) % 26))))], by simp, rfl, ?_⟩
    simp [w1, w2, w3]
theorem nA {f f1 f2 f3 : O} {m way first k3 s : Nat} (e1 : F_law_take [f, O.d (D.int 4)] = FRes.ok (O.d (D.int way)) [f1]) (e2 : F_law_take [f1, O.d (D.int 26)] = FRes.ok (O.d (D.int first)) [f2]) (e3 : F_law_take [f2, O.d (D.int 8)] = FRes.ok (O.d (D.int k3)) [f3]) (e4 : gIxA (.lst [.int 1, .int 3, .int 5, .int 7, .int 9, .int 11, .int 15, .int 17]) (.int k3) = some (.int s)) :
    m_law_names (rho0 14 [f, .d (.int m)]) = midN [some f3, some (.d (.int m)), some (.d (.str abc)), some (.d (.int way)), some (.d (.int first)), some (.d (.int s)), some (.d (.lst wordsD)), none, none, none, none, none, none, none] := by
  have ewd : [D.str "take", .str "self", .str "rest", .str "works", .str "begin", .str "deeds", .str "house", .str "road", .str "loose", .str "row", .str "told", .str "mark"] = wordsD := rfl
  have hwl : wordsD.length = 12 := rfl
  have eab : (Str.ofString "abcdefghijklmnopqrstuvwxyz") = abc := rfl
  rw [names_eq]
  simp [rho0, e1, e2, e3, e4, ewd, hwl, eab]
theorem rng_run {ma : M D} {ρ ρ1 : DL.Env} {m : Nat} (h : ma ρ = .ok (.int m) ρ1) (hm : m ≤ 1000) : mRng1 ma ρ = .ok (rngD 0 m) ρ1 := by
  have hg := rng_ok hm
  have hmr : ((m : Int)).toNat = m := by omega
  rw [y_rng1, h, x_ok]
  simp only [hg, hmr, if_true]
theorem nB {f3 : O} {m first s : Nat} (hm : m ≤ 12) (hfi2 : first < 26) : midN [some f3, some (.d (.int m)), some (.d (.str abc)), some (.d (.int ((0 : Nat) : Int))), some (.d (.int first)), some (.d (.int s)), some (.d (.lst wordsD)), none, none, none, none, none, none, none] = .rt (.ls (((List.range m).map fun k => D.str (wordN ((first + 5 * k) % 12))).map O.d)) [f3] := by
  have hR : ∀ ρ : DL.Env, ρ[1]? = some (some (.d (.int m))) → mRng1 (mV 1) ρ = .ok (rngD 0 m) ρ := fun ρ h => rng_run (by simp [h]) (by omega)
  have hE2 := fun a => nE hm hfi2 [some f3, some (.d (.int m)), some (.d (.str abc)), a, some (.d (.int first)), some (.d (.int s)), some (.d (.lst wordsD)), none, none, none, none, none, none, none] rfl rfl rfl
  unfold midN
  simp [-y_rng1, hR, hE2]
theorem nC0 {f3 f4 f5 f6 : O} {m way first s nb spot : Nat} {ks : List Nat} {base : Str} (hm : m ≤ 12) (hfi2 : first < 26) (hs2 : s ≤ 17) (hw0 : ¬ way = 0) (hnb : nb < 8) (e5 : F_law_take [f3, O.d (D.int 8)] = FRes.ok (O.d (D.int nb)) [f4]) (hjn : gJoin (Str.ofString "") (D.lst (List.map (D.str ∘ letS) ks)) = some (D.str base)) (e8 : gLen (D.str base) = some (D.int base.length)) (e7 : F_law_take [f5, O.d (D.int (↑base.length + 1))] = FRes.ok (O.d (D.int spot)) [f6])
    (hX : endX D.lst [11] (tgN 11) mYes (mOp2 gIxA (mV 2) (mFz (mCall 2 [0] F_law_take [] (mCons (mC (.int 26)) (mNil))))) (rngD 0 nb) [some f4, some (.d (.int m)), some (.d (.str abc)), some (.d (.int way)), some (.d (.int first)), some (.d (.int s)), some (.d (.lst wordsD)), some (.d (.lst ((List.range m).map fun k => D.str (letS ((first + s * k) % 26))))), none, none, none, none, none, none] =
        .ok (.lst (ks.map (D.str ∘ letS))) [some f5, some (.d (.int m)), some (.d (.str abc)), some (.d (.int way)), some (.d (.int first)), some (.d (.int s)), some (.d (.lst wordsD)), some (.d (.lst ((List.range m).map fun k => D.str (letS ((first + s * k) % 26))))), none, none, none, none, none, none]) :
    midN [some f3, some (.d (.int m)), some (.d (.str abc)), some (.d (.int way)), some (.d (.int first)), some (.d (.int s)), some (.d (.lst wordsD)), none, none, none, none, none, none, none] = restN [some f6, some (.d (.int m)), some (.d (.str abc)), some (.d (.int way)), some (.d (.int first)), some (.d (.int s)), some (.d (.lst wordsD)), some (.d (.lst ((List.range m).map fun k => D.str (letS ((first + s * k) % 26))))), some (.d (.str base)), some (.d (.int spot)), none, none, none, none] := by
  have hR : ∀ ρ : DL.Env, ρ[1]? = some (some (.d (.int m))) → mRng1 (mV 1) ρ = .ok (rngD 0 m) ρ := fun ρ h => rng_run (by simp [h]) (by omega)
  have hR2 : ∀ ρ : DL.Env, ρ[0]? = some (some f3) → mRng1 (mFz (mCall 2 [0] F_law_take [] (mCons (mC (.int 8)) (mNil)))) ρ = .ok (rngD 0 nb) (ρ.set 0 (some f4)) := fun ρ h => rng_run (by simp [h, e5]) (by omega)
  have hwi0 : ¬ (way : Int) = 0 := by omega
  have hS := nS (m := m) hm hfi2 hs2
  unfold midN
  simp [-y_rng1, hR, hR2, hwi0, hw0, hS, hX, hjn, e8, e7]
theorem nD1 {f6 : O} {L : List D} {a b c d e f g h i : Option O} : restN [some f6, a, b, some (.d (.int ((1 : Nat) : Int))), c, d, e, some (.d (.lst L)), f, g, h, i, none, none] = .rt (.d (.lst L)) [f6] := by
  unfold restN
  simp [-y_rng1]
theorem nD2 {f6 : O} {m first s spot : Nat} {base : Str} {a b c d e h i : Option O} (hm : m ≤ 12) (hb7 : base.length ≤ 7) (hbl16 : base.length ≤ 16777216) : restN [some f6, a, b, some (.d (.int ((2 : Nat) : Int))), c, d, e, some (.d (.lst ((List.range m).map fun k => D.str (letS ((first + s * k) % 26))))), some (.d (.str base)), some (.d (.int spot)), h, i, none, none] = .rt (.d (.lst ((List.range m).map fun k => D.str (mid base spot ((first + s * k) % 26))))) [f6] := by
  have hF := nF (m := m) (first := first) (s := s) (spot := spot) hm hb7 hbl16
  unfold restN
  simp [-y_rng1, hF]
theorem nD3 {f6 : O} {m first s spot way : Nat} {base : Str} {a b c d e h i : Option O} (hw1 : ¬ way = 1) (hw2 : ¬ way = 2) (hm : m ≤ 12) (hb7 : base.length ≤ 7) (hbl16 : base.length ≤ 16777216) (hsp2 : spot ≤ base.length) (hml : ∀ c, (tl (mid base spot c)).length = base.length + 1) : restN [some f6, a, b, some (.d (.int way)), c, d, e, some (.d (.lst ((List.range m).map fun k => D.str (letS ((first + s * k) % 26))))), some (.d (.str base)), some (.d (.int spot)), h, i, none, none] = .rt (.ls (((List.range m).map fun k => D.str (takeS (mid base spot ((first + s * k) % 26)) (spot + 1 + k % (base.length + 1 - spot)))).map O.d)) [f6] := by
  have hF := nF (m := m) (first := first) (s := s) (spot := spot) hm hb7 hbl16
  have hC := nC (m := m) (first := first) (s := s) hm hb7 hsp2 hml (nCut hb7 hsp2 hml)
  have hwi1 : ¬ (way : Int) = 1 := by omega
  have hwi2 : ¬ (way : Int) = 2 := by omega
  unfold restN
  simp [-y_rng1, hF, hwi1, hwi2, hw1, hw2, hC]
theorem law_names {n : Nat} {f : O} {m : Nat} (hf : FD n f) (hn : n ≤ 900000) (hm : m ≤ 12) : ∃ l, Names m l ∧ ∃ j f', j ≤ n + 12 ∧ FD j f' ∧ Gives (F_law_names [f, .d (.int m)]) l f' := by
  obtain ⟨way, hw, f1, hf1, e1⟩ := take (m := 4) hf (by omega) (by omega) (by omega)
  obtain ⟨first, hfi, f2, hf2, e2⟩ := take (m := 26) hf1 (by omega) (by omega) (by omega)
  obtain ⟨k3, hk3, f3, hf3, e3⟩ := take (m := 8) hf2 (by omega) (by omega) (by omega)
  have hfi2 : first < 26 := by omega
  have hst : ∃ s : Nat, s ∈ [1, 3, 5, 7, 9, 11, 15, 17] ∧ gIxA (.lst [.int 1, .int 3, .int 5, .int 7, .int 9, .int 11, .int 15, .int 17]) (.int k3) = some (.int s) := by
    rw [ix_l (by simp; omega)]
    match k3, hk3 with
    | 0, _ => exact ⟨1, by simp, rfl⟩
    | 1, _ => exact ⟨3, by simp, rfl⟩
    | 2, _ => exact ⟨5, by simp, rfl⟩
    | 3, _ => exact ⟨7, by simp, rfl⟩
    | 4, _ => exact ⟨9, by simp, rfl⟩
    | 5, _ => exact ⟨11, by simp, rfl⟩
    | 6, _ => exact ⟨15, by simp, rfl⟩
    | 7, _ => exact ⟨17, by simp, rfl⟩
    | k + 8, h => omega
  obtain ⟨s, hs, e4⟩ := hst
  have hs2 : s ≤ 17 := by simp only [List.mem_cons, List.not_mem_nil, or_false] at hs; omega
  have hg := rng_ok (m := m) (by omega)
  have ewd : [D.str "take", .str "self", .str "rest", .str "works", .str "begin", .str "deeds", .str "house", .str "road", .str "loose", .str "row", .str "told", .str "mark"] = wordsD := rfl
  have hmr : ((m : Int)).toNat = m := by omega
  have hwl : wordsD.length = 12 := rfl
  have eab : (Str.ofString "abcdefghijklmnopqrstuvwxyz") = abc := rfl
  have hA := nA (m := m) e1 e2 e3 e4
  by_cases hw0 : way = 0
  · subst hw0
    refine ⟨(List.range m).map fun k => wordN ((first + 5 * k) % 12), names_range (fun j k hj hk h => word_inj (by omega) (by omega) h) (fun k _ => word_nm _), n + 3, f3, by omega, hf3, ?_⟩
    refine ⟨.ls (((List.range m).map fun k => D.str (wordN ((first + 5 * k) % 12))).map O.d), by rw [y_frzL, List.map_map]; rfl, ?_⟩
    unfold F_law_names runF
    rw [hA, nB hm hfi2]
  · -- letters by a stride
    obtain ⟨nb, hnb, f4, hf4, e5⟩ := take (m := 8) hf3 (by omega) (by omega) (by omega)
    obtain ⟨ks, hks, _, j5, f5, v5, hj5, hf5, e6⟩ := lcX_feed (α := Nat) (P := fun _ => True) (g := fun k => .str (letS k)) (E := fun f v => [some f, some (.d (.int m)), some (.d (.str abc)), some (.d (.int way)), some (.d (.int first)), some (.d (.int s)), some (.d (.lst wordsD)), some (.d (.lst ((List.range m).map fun k => D.str (letS ((first + s * k) % 26))))), none, none, none, v, none, none]) (i := 11) (K := 1) (B := n + 11)
      (me := mOp2 gIxA (mV 2) (mFz (mCall 2 [0] F_law_take [] (mCons (mC (.int 26)) (mNil))))) (fun f v x => by simp) (fun n' f' x hf' hn' => by
        obtain ⟨k, hk, g1, hg1, eg⟩ := take (m := 26) hf' (by omega) (by omega) (by omega)
        exact ⟨k, trivial, _, g1, Nat.le_refl _, hg1, by simp [eg, ix_abc (show k < 26 by omega)]⟩) (rngD 0 nb) (n + 3 + 1) f4 none hf4 (by rw [rng_eq, List.length_map, List.length_range]; omega)
    have hlr : (rngD 0 nb).length = nb := by rw [rng_eq, List.length_map, List.length_range]
    rw [hlr] at hks hj5
    have hb := base_facts (ks := ks) (by omega)
    have hjn := join_lst (z := "") (l := ks.map letS) (by
      have h1 := sum_le (g := fun y : Str => y.length) (l := ks.map letS) (m := 1) fun y hy => by
        obtain ⟨k, _, rfl⟩ := List.mem_map.mp hy
        exact Nat.le_refl 1
      rw [List.length_map] at h1 ⊢
      have : ("" : Str).length = 0 := rfl
      rw [this]
      omega)
    rw [List.map_map] at hjn
    generalize hbase : Str.join "" (ks.map letS) = base at *
    have hbl : base.length = ks.length := by rw [← tl_len]; exact hb.1
    have hbl16 : base.length ≤ 16777216 := by omega
    obtain ⟨spot, hsp, f6, hf6, e7⟩ := take (m := (base.length : Int) + 1) hf5 (by omega) (by omega) (by omega)
    have e8 := g_lenS (x := base) hbl16
    have hX : endX D.lst [11] (tgN 11) mYes (mOp2 gIxA (mV 2) (mFz (mCall 2 [0] F_law_take [] (mCons (mC (.int 26)) (mNil))))) (rngD 0 nb) [some f4, some (.d (.int m)), some (.d (.str abc)), some (.d (.int way)), some (.d (.int first)), some (.d (.int s)), some (.d (.lst wordsD)), some (.d (.lst ((List.range m).map fun k => D.str (letS ((first + s * k) % 26))))), none, none, none, none, none, none] =
        .ok (.lst (ks.map (D.str ∘ letS))) [some f5, some (.d (.int m)), some (.d (.str abc)), some (.d (.int way)), some (.d (.int first)), some (.d (.int s)), some (.d (.lst wordsD)), some (.d (.lst ((List.range m).map fun k => D.str (letS ((first + s * k) % 26))))), none, none, none, none, none, none] := by
      unfold endX
      have e6' : lcX [11] (tgN 11) mYes (mOp2 gIxA (mV 2) (mFz (mCall 2 [0] F_law_take [] (mCons (mC (.int 26)) (mNil))))) (rngD 0 nb) [some f4, some (.d (.int m)), some (.d (.str abc)), some (.d (.int way)), some (.d (.int first)), some (.d (.int s)), some (.d (.lst wordsD)), some (.d (.lst ((List.range m).map fun k => D.str (letS ((first + s * k) % 26))))), none, none, none, none, none, none] = _ := e6
      rw [e6']
      dsimp only
      rw [if_pos (by rw [List.length_map]; omega)]
      rfl
    have hgb := rng_ok (m := nb) (by omega)
    have hnbr : ((nb : Int)).toNat = nb := by omega
    have hspl : spot ≤ (tl base).length := by rw [tl_len]; omega
    have hC0 := nC0 hm hfi2 hs2 hw0 (show nb < 8 by omega) e5 hjn e8 e7 hX
    have hdist : ∀ j k, j < m → k < m → letS ((first + s * j) % 26) = letS ((first + s * k) % 26) → j = k := fun j k hj hk h => strides hs (by omega) (by omega) (let_inj (Nat.mod_lt _ (by omega)) (Nat.mod_lt _ (by omega)) h)
    have hdist2 : ∀ j k, j < m → k < m → 97 + (first + s * j) % 26 % 26 = 97 + (first + s * k) % 26 % 26 → j = k := fun j k hj hk h => strides hs (a := first) (by omega) (by omega) (by omega)
    by_cases hw1 : way = 1
    · subst hw1
      refine ⟨(List.range m).map fun k => letS ((first + s * k) % 26), names_range hdist (fun k _ => let_nm _), _, f6, by omega, hf6, .d (.lst ((List.range m).map fun k => D.str (letS ((first + s * k) % 26)))), by rw [List.map_map]; rfl, ?_⟩
      unfold F_law_names runF
      rw [hA, hC0, nD1]
    · -- the base with a sign put in
      have hml : ∀ c, (tl (mid base spot c)).length = base.length + 1 := fun c => by rw [mid_len, tl_len]
      have hmn : ∀ c, Nm (mid base spot c) := fun c => ⟨by rw [hml]; omega, by rw [hml]; omega, mid_low hb.2⟩
      by_cases hw2 : way = 2
      · subst hw2
        refine ⟨(List.range m).map fun k => mid base spot ((first + s * k) % 26), names_range (fun j k hj hk h => hdist2 j k hj hk (by
          have h2 := congrArg (fun x => (tl x)[spot]?) h
          rw [mid_at hspl, mid_at hspl] at h2
          exact Option.some.inj h2)) (fun k _ => hmn _), _, f6, by omega, hf6, .d (.lst ((List.range m).map fun k => D.str (mid base spot ((first + s * k) % 26)))), by rw [List.map_map]; rfl, ?_⟩
        unfold F_law_names runF
        rw [hA, hC0, nD2 hm (by omega) hbl16]
      · -- cut behind the sign
        refine ⟨(List.range m).map fun k => takeS (mid base spot ((first + s * k) % 26)) (spot + 1 + k % (base.length + 1 - spot)), names_range (fun j k hj hk h => hdist2 j k hj hk (by
          have h2 := congrArg (fun x => (tl x)[spot]?) h
          rw [take_tl, take_tl, List.getElem?_take_of_lt (by omega), List.getElem?_take_of_lt (by omega), mid_at hspl, mid_at hspl] at h2
          exact Option.some.inj h2)) (fun k _ => ⟨by rw [take_tl, List.length_take, hml]; omega, by rw [take_tl, List.length_take, hml]; omega, fun c hc => (hmn _).2.2 c (List.mem_of_mem_take hc)⟩), _, f6, by omega, hf6, _, by rw [y_frzL, List.map_map], ?_⟩
        unfold F_law_names runF
        rw [hA, hC0, nD3 hw1 hw2 hm (by omega) hbl16 (by omega) hml]
        rfl
end K85
set_option Elab.async false
set_option linter.all false
set_option maxRecDepth 100000
/-! QG: nets drawn. -/
namespace K85
open PySem L2 DL PySem.Spec PyProof.Rows
theorem nodup_get {α : Type} {l : List α} (h : l.Nodup) {i j : Nat} (hi : i < l.length) (hj : j < l.length) (e : l[i] = l[j]) : i = j := by
  rw [List.nodup_iff_pairwise_ne, List.pairwise_iff_getElem] at h
  by_cases h1 : i < j
  · exact absurd e (h i j hi hj h1)
  · by_cases h2 : j < i
    · exact absurd e.symm (h j i hj hi h2)
    · omega
theorem names_call {f f' : O} {m : Int} {l : List Str} {ρ : DL.Env} {me : M D} (hg : Gives (F_law_names [f, .d (.int m)]) l f') (h0 : ρ[0]? = some (some f)) (hm : me ρ = .ok (.int m) ρ) :
    mFz (mCall 2 [0] F_law_names [] (mCons me mNil)) ρ = .ok (.lst (l.map .str)) (ρ.set 0 (some f')) := by
  obtain ⟨o, e1, e2⟩ := hg
  simp [h0, hm, e1, e2]
theorem ix_lst {ds : List D} {k : Nat} {d : D} (h : ds[k]? = some d) : gIxA (.lst ds) (.int k) = some d := by
  rw [ix_l (List.getElem?_eq_some_iff.mp h).1, h]
/-- a road between two unlike houses -/
theorem road_turn {n : Nat} {f : O} {hs : List Str} {h : Str} {done : List Ro} {e1 e2 e3 e4 e5 e6 : Option O} (hf : FD n f) (hn : n ≤ 800000) (hnd : hs.Nodup) (h2 : 2 ≤ hs.length) (h5 : hs.length ≤ 5) (hh : Nm h) (hall : ∀ y ∈ hs, Nm y) (hd : done.length ≤ 100) :
    ∃ r : Ro, r.road = h ∧ r.ok hs ∧ ∃ f' a b, FD (n + 3) f' ∧
      (sSeq (sSet 8 (mFz (mCall 2 [0] F_law_take [] (mCons (mOp1 gLen (mV 4)) (mNil)))))
  (sSeq (sSet 9 (mOp2 gMod (mOp2 gAdd (mOp2 gAdd (mV 8) (mC (.int 1))) (mFz (mCall 2 [0] F_law_take [] (mCons (mOp2 DL.gSub (mOp1 gLen (mV 4)) (mC (.int 1))) (mNil))))) (mOp1 gLen (mV 4))))
  (sDrop (mFz (mMut "list" gAppend (mPs 6) (mOs (mCons (mTup (mCons (mV 7) (mCons (mOp2 gIxA (mV 4) (mV 8)) (mCons (mOp2 gIxA (mV 4) (mV 9)) (mCons (mOp2 gIxA (mV 3) (mFz (mCall 2 [0] F_law_take [] (mCons (mOp1 gLen (mV 3)) (mNil))))) (mNil)))))) (mNil)))))))) [some f, e1, e2, some (.d (.tup [.str "row", .str "loose"])), some (.d (.lst (hs.map .str))), e5, some (.ls (done.map (O.d ∘ Ro.d))), some (.d (.str h)), e3, e4] =
        .nx [some f', e1, e2, some (.d (.tup [.str "row", .str "loose"])), some (.d (.lst (hs.map .str))), e5, some (.ls ((done ++ [r]).map (O.d ∘ Ro.d))), some (.d (.str h)), a, b] := by
  obtain ⟨k1, hk1, f1, hf1, t1⟩ := take (m := (hs.length : Int)) hf (by omega) (by omega) (by omega)
  obtain ⟨k2, hk2, f2, hf2, t2⟩ := take (m := (hs.length : Int) - 1) hf1 (by omega) (by omega) (by omega)
  obtain ⟨k3, hk3, f3, hf3, t3⟩ := take (m := 2) hf2 (by omega) (by omega) (by omega)
  have hk1' : k1 < hs.length := by omega
  have ho : (k1 + 1 + k2) % hs.length < hs.length := Nat.mod_lt _ (by omega)
  have hne : (k1 + 1 + k2) % hs.length ≠ k1 := by
    intro e
    have h1 : k1 + 1 + k2 < 2 * hs.length := by omega
    by_cases h3 : k1 + 1 + k2 < hs.length
    · rw [Nat.mod_eq_of_lt h3] at e
      omega
    · rw [Nat.mod_eq_sub_mod (by omega), Nat.mod_eq_of_lt (by omega)] at e
      omega
  have w1 := mod_ok (i := (k1 : Int) + 1 + k2) (j := (hs.length : Int)) (by omega)
  have w2 : gIxA (.lst (hs.map .str)) (.int k1) = some (.str hs[k1]) := ix_lst (by rw [List.getElem?_map, List.getElem?_eq_getElem hk1']; rfl)
  have w3 : gIxA (.lst (hs.map .str)) (.int (((k1 : Int) + 1 + k2) % (hs.length : Int))) = some (.str hs[(k1 + 1 + k2) % hs.length]) := by
    rw [show ((k1 : Int) + 1 + k2) % (hs.length : Int) = (((k1 + 1 + k2) % hs.length : Nat) : Int) by rw [Int.natCast_emod]; rfl]
    exact ix_lst (by rw [List.getElem?_map, List.getElem?_eq_getElem ho]; rfl)
  have w4 : gIxA (.tup [.str "row", .str "loose"]) (.int k3) = some (.str (wayW k3)) := by
    rw [ix_tk (by simp; omega)]
    match k3, hk3 with
    | 0, _ => rfl
    | 1, _ => rfl
    | k + 2, h => omega
  refine ⟨⟨h, hs[k1], hs[(k1 + 1 + k2) % hs.length], k3⟩, rfl, ⟨hh, List.getElem_mem _, List.getElem_mem _, fun e => hne (nodup_get hnd _ _ e).symm, by show k3 < 2; omega⟩, f3, some (.d (.int k1)), some (.d (.int (((k1 : Int) + 1 + k2) % (hs.length : Int)))), hf3, ?_⟩
  simp [t1, t2, t3, w1, w2, w3, w4, show done.length < 16777216 by omega, Ro.d]
theorem roads_turns {hs : List Str} {e1 e2 e5 : Option O} (hnd : hs.Nodup) (h2 : 2 ≤ hs.length) (h5 : hs.length ≤ 5) (hall : ∀ y ∈ hs, Nm y) : ∀ (todo : List Str) (done : List Ro) (n : Nat) (f : O) (e7 e3 e4 : Option O), FD n f → n + 3 * todo.length ≤ 800000 → (∀ y ∈ todo, Nm y) → done.length + todo.length ≤ 100 →
    ∃ rs : List Ro, rs.map Ro.road = todo ∧ (∀ r ∈ rs, r.ok hs) ∧ ∃ f' a b c, FD (n + 3 * todo.length) f' ∧
      forX (tgN 7) (sSeq (sSet 8 (mFz (mCall 2 [0] F_law_take [] (mCons (mOp1 gLen (mV 4)) (mNil)))))
  (sSeq (sSet 9 (mOp2 gMod (mOp2 gAdd (mOp2 gAdd (mV 8) (mC (.int 1))) (mFz (mCall 2 [0] F_law_take [] (mCons (mOp2 DL.gSub (mOp1 gLen (mV 4)) (mC (.int 1))) (mNil))))) (mOp1 gLen (mV 4))))
  (sDrop (mFz (mMut "list" gAppend (mPs 6) (mOs (mCons (mTup (mCons (mV 7) (mCons (mOp2 gIxA (mV 4) (mV 8)) (mCons (mOp2 gIxA (mV 4) (mV 9)) (mCons (mOp2 gIxA (mV 3) (mFz (mCall 2 [0] F_law_take [] (mCons (mOp1 gLen (mV 3)) (mNil))))) (mNil)))))) (mNil)))))))) (todo.map D.str) [some f, e1, e2, some (.d (.tup [.str "row", .str "loose"])), some (.d (.lst (hs.map .str))), e5, some (.ls (done.map (O.d ∘ Ro.d))), e7, e3, e4] =
        .nx [some f', e1, e2, some (.d (.tup [.str "row", .str "loose"])), some (.d (.lst (hs.map .str))), e5, some (.ls ((done ++ rs).map (O.d ∘ Ro.d))), a, b, c]
  | [], done, n, f, e7, e3, e4, hf, _, _, _ => ⟨[], rfl, fun _ h => (nomatch h), f, e7, e3, e4, hf, by simp [forX]⟩
  | h :: todo, done, n, f, e7, e3, e4, hf, hn, hall2, hl => by
    rw [List.length_cons] at hn hl
    obtain ⟨r, hr1, hr2, f1, a1, b1, hf1, t1⟩ := road_turn (done := done) (e1 := e1) (e2 := e2) (e5 := e5) (e3 := e3) (e4 := e4) (e6 := none) hf (by omega) hnd h2 h5 (hall2 h List.mem_cons_self) hall (by omega)
    obtain ⟨rs, g1, g2, f2, a2, b2, c2, hf2, t2⟩ := roads_turns (e1 := e1) (e2 := e2) (e5 := e5) hnd h2 h5 hall todo (done ++ [r]) (n + 3) f1 (some (.d (.str h))) a1 b1 hf1 (by omega) (fun y hy => hall2 y (List.mem_cons_of_mem _ hy)) (by rw [List.length_append, List.length_singleton]; omega)
    refine ⟨r :: rs, by rw [List.map_cons, hr1, g1], fun x hx => ?_, f2, a2, b2, c2, by rw [List.length_cons]; exact hf2.mono (by omega), ?_⟩
    · rcases List.mem_cons.mp hx with rfl | hx
      · exact hr2
      · exact g2 x hx
    · rw [List.map_cons, forX]
      have e0 : tgN 7 (.str h) [some f, e1, e2, some (.d (.tup [.str "row", .str "loose"])), some (.d (.lst (hs.map .str))), e5, some (.ls (done.map (O.d ∘ Ro.d))), e7, e3, e4] = some [some f, e1, e2, some (.d (.tup [.str "row", .str "loose"])), some (.d (.lst (hs.map .str))), e5, some (.ls (done.map (O.d ∘ Ro.d))), some (.d (.str h)), e3, e4] := rfl
      rw [e0]
      dsimp only
      rw [t1]
      dsimp only
      rw [t2, List.append_assoc]
      rfl
theorem law_net {n : Nat} {f : O} (hf : FD n f) (hn : n ≤ 700000) : ∃ (hs : List Str) (rs : List Ro), (∀ y ∈ hs, Nm y) ∧ 1 ≤ hs.length ∧ hs.length ≤ 5 ∧ hs.Pairwise (fun x y => tl x < tl y) ∧ rs.length ≤ 8 ∧ (∀ r ∈ rs, r.ok hs) ∧ rs.Pairwise (fun x y => tl x.road < tl y.road) ∧
    ∃ m f', m ≤ n + 50 ∧ FD m f' ∧ F_law_net [f, .d (.int 5), .d (.int 8), .d (.tup [.str "row", .str "loose"])] = .ok (.d (netD hs rs)) [f'] := by
  obtain ⟨k1, hk1, f1, hf1, t1⟩ := take (m := 5) hf (by omega) (by omega) (by omega)
  obtain ⟨l, hl, j2, f2, hj2, hf2, g2⟩ := law_names (m := k1 + 1) hf1 (by omega) (by omega)
  obtain ⟨hs, hp, hso, es⟩ := sort_strs hl.nd (by rw [hl.len]; omega)
  have hlen : hs.length = k1 + 1 := by rw [hp.length_eq, hl.len]
  have hall : ∀ y ∈ hs, Nm y := fun y hy => hl.nm y (hp.mem_iff.mp hy)
  have hnd : hs.Nodup := hp.nodup_iff.mpr hl.nd
  obtain ⟨k3, hk3, f3, hf3, t3⟩ := take (m := 9) hf2 (by omega) (by omega) (by omega)
  have g2' : Gives (F_law_names [f1, .d (.int (1 + (k1 : Int)))]) l f2 := by
    rw [show (1 : Int) + k1 = ((k1 + 1 : Nat) : Int) by omega]
    exact g2
  obtain ⟨o2, eo2, ee2⟩ := g2'
  have hmul : ∀ b : Bool, gMul (.int k3) (.int (if b then 1 else 0)) = some (.int ((k3 : Int) * (if b then 1 else 0))) := fun b => by
    cases b
    · exact mul_ok (by omega) (by rw [p90]; omega) (by simp) (by simp)
    · exact mul_ok (by omega) (by rw [p90]; omega) (by simp) (by rw [p90]; simp)
  have hm : ∃ m : Nat, m ≤ 8 ∧ (2 ≤ hs.length ∨ m = 0) ∧ (k3 : Int) * (if decide ((1 : Int) < hs.length) then 1 else 0) = m := by
    by_cases h : (1 : Int) < hs.length
    · exact ⟨k3, by omega, .inl (by omega), by rw [decide_eq_true h]; simp⟩
    · exact ⟨0, by omega, .inr rfl, by rw [decide_eq_false h]; simp⟩
  obtain ⟨m, hm8, hm2, em⟩ := hm
  obtain ⟨l4, hl4, j4, f4, hj4, hf4, g4⟩ := law_names (m := m) hf3 (by omega) (by omega)
  have key : ∃ rs : List Ro, rs.map Ro.road = l4 ∧ (∀ r ∈ rs, r.ok hs) ∧ ∃ f' a b c, FD (j4 + 24) f' ∧ forX (tgN 7) (sSeq (sSet 8 (mFz (mCall 2 [0] F_law_take [] (mCons (mOp1 gLen (mV 4)) (mNil)))))
  (sSeq (sSet 9 (mOp2 gMod (mOp2 gAdd (mOp2 gAdd (mV 8) (mC (.int 1))) (mFz (mCall 2 [0] F_law_take [] (mCons (mOp2 DL.gSub (mOp1 gLen (mV 4)) (mC (.int 1))) (mNil))))) (mOp1 gLen (mV 4))))
  (sDrop (mFz (mMut "list" gAppend (mPs 6) (mOs (mCons (mTup (mCons (mV 7) (mCons (mOp2 gIxA (mV 4) (mV 8)) (mCons (mOp2 gIxA (mV 4) (mV 9)) (mCons (mOp2 gIxA (mV 3) (mFz (mCall 2 [0] F_law_take [] (mCons (mOp1 gLen (mV 3)) (mNil))))) (mNil)))))) (mNil)))))))) (l4.map D.str) [some f4, some (.d (.int 5)), some (.d (.int 8)), some (.d (.tup [.str "row", .str "loose"])), some (.d (.lst (hs.map .str))), some (.d (.int m)), some (.ls []), none, none, none] =
        .nx [some f', some (.d (.int 5)), some (.d (.int 8)), some (.d (.tup [.str "row", .str "loose"])), some (.d (.lst (hs.map .str))), some (.d (.int m)), some (.ls (rs.map (O.d ∘ Ro.d))), a, b, c] := by
    rcases hm2 with h2 | h0
    · obtain ⟨rs, a1, a2, f', a, b, c, a3, a4⟩ := roads_turns (e1 := some (.d (.int 5))) (e2 := some (.d (.int 8))) (e5 := some (.d (.int m))) hnd h2 (by omega) hall l4 [] j4 f4 none none none hf4 (by rw [hl4.len]; omega) hl4.nm (by rw [hl4.len]; simp; omega)
      exact ⟨rs, a1, a2, f', a, b, c, a3.mono (by rw [hl4.len]; omega), a4⟩
    · have e0 : l4 = [] := List.length_eq_zero_iff.mp (by rw [hl4.len, h0])
      rw [e0]
      exact ⟨[], rfl, fun _ h => (nomatch h), f4, none, none, none, hf4.mono (by omega), rfl⟩
  obtain ⟨rs, a1, a2, f5, a, b, c, hf5, eL⟩ := key
  have hrl : rs.length = m := by rw [← hl4.len, ← a1, List.length_map]
  obtain ⟨rs', p', so', er⟩ := sort_roads (rs := rs) (by rw [a1]; exact hl4.nd)
  obtain ⟨o4, eo4, ee4⟩ := g4
  refine ⟨hs, rs', hall, by omega, by omega, hso, by rw [p'.length_eq]; omega, fun r hr => a2 r (p'.mem_iff.mp hr), so', _, f5, by omega, hf5, ?_⟩
  have hm3 := hmul (decide ((1 : Int) < hs.length))
  rw [em] at hm3
  unfold F_law_net runF
  have hgt : gGt (.int (hs.length : Int)) (.int 1) = some (.bl (decide ((1 : Int) < hs.length))) := rfl
  generalize hbb : (decide ((1 : Int) < hs.length)) = bb at *
  simp [-g_gtI, m_law_net, rho0, t1, ee2, eo2, es, hgt, t3, hm3, ee4, eo4, eL, er, netD]
end K85
set_option Elab.async false
set_option linter.all false
set_option maxRecDepth 100000
/-! QH: rules drawn. -/
namespace K85
open PySem L2 DL PySem.Spec PyProof.Rows
noncomputable def bA : MS := sSeq (sSet 8 (mFz (mCall 2 [0] F_law_take [] (mCons (mC (.int 7)) (mNil)))))
  (sSeq (sSet 9 (mFz (mCall 2 [0] F_law_take [] (mCons (mC (.int 3)) (mNil)))))
  (sSeq (sSet 10 (mFz (mCall 2 [0] F_law_some_worth [] (mCons (mV 3) (mNil)))))
  (sIf (mAnd (mT (mOp2 gLt (mV 8) (mC (.int 3)))) (mT (mOp2 gNe (mV 1) (mLst (mNil))))) (sDrop (mFz (mMut "list" gAppend (mPs 6) (mOs (mCons (mTup (mCons (mC (.str "send")) (mCons (mOp2 gIxA (mV 1) (mFz (mCall 2 [0] F_law_take [] (mCons (mOp1 gLen (mV 1)) (mNil))))) (mCons (mOp2 gIxA (mV 2) (mFz (mCall 2 [0] F_law_take [] (mCons (mOp1 gLen (mV 2)) (mNil))))) (mCons (mV 10) (mNil)))))) (mNil)))))) (sIf (mT (mOp2 gEq (mV 8) (mC (.int 6)))) (sDrop (mFz (mMut "list" gAppend (mPs 6) (mOs (mCons (mTup (mCons (mC (.str "rest")) (mNil))) (mNil)))))) (sDrop (mFz (mMut "list" gAppend (mPs 6) (mOs (mCons (mTup (mCons (mOp2 gIxA (mLst (mCons (mC (.str "put")) (mCons (mC (.str "add")) (mCons (mC (.str "less")) (mNil))))) (mOp2 gMod (mV 8) (mC (.int 3)))) (mCons (mV 9) (mCons (mV 10) (mNil))))) (mNil)))))))))) 
section
variable {out words : List Str} {b : Bool}
theorem act_turn {n : Nat} {f : O} {done : List Ac} {e4 e5 e7 e8 e9 e10 : Option O} (hf : FD n f) (hn : n ≤ 700000) (ho : ∀ y ∈ out, Nm y) (hol : out.length ≤ 900) (hw : ∀ y ∈ words, Nm y) (hw1 : 1 ≤ words.length) (hw2 : words.length ≤ 900) (hd : done.length ≤ 1000) :
    ∃ a : Ac, a.ok out b ∧ ∃ m f' a8 a9 a10, m ≤ n + 8 ∧ FD m f' ∧ bA [some f, some (.d (.lst (out.map .str))), some (.d (.lst (words.map .str))), some (.d (.bl b)), e4, e5, some (.ls (done.map (O.d ∘ Ac.d))), e7, e8, e9, e10] =
      .nx [some f', some (.d (.lst (out.map .str))), some (.d (.lst (words.map .str))), some (.d (.bl b)), e4, e5, some (.ls ((done ++ [a]).map (O.d ∘ Ac.d))), e7, a8, a9, a10] := by
  obtain ⟨way, hw7, f1, hf1, t1⟩ := take (m := 7) hf (by omega) (by omega) (by omega)
  obtain ⟨slot, hs3, f2, hf2, t2⟩ := take (m := 3) hf1 (by omega) (by omega) (by omega)
  obtain ⟨w, hwk, m3, f3, hm3, hf3, t3⟩ := some_worth (b := b) hf2 (by omega)
  have hnil := (lst_nil (strs_py (l := out) fun y hy => ⟨(ho y hy).asc, by have := (ho y hy).len; omega⟩) (by omega)).1
  have hcat : done.length < 16777216 := by omega
  by_cases h3 : way < 3
  · cases hout : out with
    | nil =>
      have h3i : (way : Int) < 3 := by omega
      have h6i : ¬ (way : Int) = 6 := by omega
      have w1 := mod_ok (i := (way : Int)) (j := 3) (by omega)
      have w2 : gIxA (.lst [.str "put", .str "add", .str "less"]) (.int ((way : Int) % 3)) = some (.str (setW (way % 3))) := by
        rw [show (way : Int) % 3 = ((way % 3 : Nat) : Int) by omega]
        have h : way % 3 < 3 := Nat.mod_lt _ (by omega)
        rw [ix_l (by simpa using h)]
        match way % 3, h with
        | 0, _ => rfl
        | 1, _ => rfl
        | 2, _ => rfl
      subst hout
      rw [show ((([] : List Str).map D.str).isEmpty) = true from rfl] at hnil
      refine ⟨.set (way % 3) slot w, ⟨Nat.mod_lt _ (by omega), by omega, hwk⟩, m3, f3, some (.d (.int way)), some (.d (.int slot)), some (.d w.d), by omega, hf3, ?_⟩
      unfold bA
      simp at hnil
      simp [t1, t2, t3, h3, h3i, h6i, hnil, w1, w2, hcat, Ac.d]
    | cons o os =>
      rw [← hout]
      have h3i : (way : Int) < 3 := by omega
      have hl1 : 1 ≤ out.length := by rw [hout]; simp
      obtain ⟨k4, hk4, f4, hf4, t4⟩ := take (m := (out.length : Int)) hf3 (by omega) (by omega) (by omega)
      obtain ⟨k5, hk5, f5, hf5, t5⟩ := take (m := (words.length : Int)) hf4 (by omega) (by omega) (by omega)
      have hk4' : k4 < out.length := by omega
      have hk5' : k5 < words.length := by omega
      have w1 : gIxA (.lst (out.map .str)) (.int k4) = some (.str out[k4]) := ix_lst (by rw [List.getElem?_map, List.getElem?_eq_getElem hk4']; rfl)
      have w2 : gIxA (.lst (words.map .str)) (.int k5) = some (.str words[k5]) := ix_lst (by rw [List.getElem?_map, List.getElem?_eq_getElem hk5']; rfl)
      rw [show (out.map D.str).isEmpty = false by rw [hout]; rfl] at hnil
      refine ⟨.send out[k4] words[k5] w, ⟨List.getElem_mem _, ho _ (List.getElem_mem _), hw _ (List.getElem_mem _), hwk⟩, _, f5, some (.d (.int way)), some (.d (.int slot)), some (.d w.d), by omega, hf5, ?_⟩
      unfold bA
      simp [t1, t2, t3, t4, t5, h3, h3i, hnil, w1, w2, hcat, Ac.d]
  · have h3i : ¬ (way : Int) < 3 := by omega
    by_cases h6 : way = 6
    · subst h6
      have t1 : F_law_take [f, .d (.int 7)] = .ok (.d (.int 6)) [f1] := t1
      refine ⟨.rest, trivial, m3, f3, some (.d (.int 6)), some (.d (.int slot)), some (.d w.d), by omega, hf3, ?_⟩
      unfold bA
      simp [t1, t2, t3, hcat, Ac.d]
    · have h6i : ¬ (way : Int) = 6 := by omega
      have w1 := mod_ok (i := (way : Int)) (j := 3) (by omega)
      have w2 : gIxA (.lst [.str "put", .str "add", .str "less"]) (.int ((way : Int) % 3)) = some (.str (setW (way % 3))) := by
        rw [show (way : Int) % 3 = ((way % 3 : Nat) : Int) by omega]
        have h : way % 3 < 3 := Nat.mod_lt _ (by omega)
        rw [ix_l (by simpa using h)]
        match way % 3, h with
        | 0, _ => rfl
        | 1, _ => rfl
        | 2, _ => rfl
      refine ⟨.set (way % 3) slot w, ⟨Nat.mod_lt _ (by omega), by omega, hwk⟩, m3, f3, some (.d (.int way)), some (.d (.int slot)), some (.d w.d), by omega, hf3, ?_⟩
      unfold bA
      simp [t1, t2, t3, h3, h3i, h6, h6i, w1, w2, hcat, Ac.d]
theorem acts_turns {e4 e5 : Option O} (ho : ∀ y ∈ out, Nm y) (hol : out.length ≤ 900) (hw : ∀ y ∈ words, Nm y) (hw1 : 1 ≤ words.length) (hw2 : words.length ≤ 900) : ∀ (xs : List D) (done : List Ac) (n : Nat) (f : O) (e7 e8 e9 e10 : Option O), FD n f → n + 8 * xs.length ≤ 700000 → done.length + xs.length ≤ 1000 →
    ∃ as : List Ac, as.length = xs.length ∧ (∀ a ∈ as, a.ok out b) ∧ ∃ m f' a7 a8 a9 a10, m ≤ n + 8 * xs.length ∧ FD m f' ∧ forX (tgN 7) bA xs [some f, some (.d (.lst (out.map .str))), some (.d (.lst (words.map .str))), some (.d (.bl b)), e4, e5, some (.ls (done.map (O.d ∘ Ac.d))), e7, e8, e9, e10] =
      .nx [some f', some (.d (.lst (out.map .str))), some (.d (.lst (words.map .str))), some (.d (.bl b)), e4, e5, some (.ls ((done ++ as).map (O.d ∘ Ac.d))), a7, a8, a9, a10]
  | [], done, n, f, e7, e8, e9, e10, hf, _, _ => ⟨[], rfl, fun _ h => (nomatch h), n, f, e7, e8, e9, e10, Nat.le_refl _, hf, by simp [forX]⟩
  | x :: xs, done, n, f, e7, e8, e9, e10, hf, hn, hl => by
    rw [List.length_cons] at hn hl
    obtain ⟨a, ha, m1, f1, c8, c9, c10, hm1, hf1, t1⟩ := act_turn (b := b) (done := done) (e4 := e4) (e5 := e5) (e7 := some (.d x)) (e8 := e8) (e9 := e9) (e10 := e10) hf (by omega) ho hol hw hw1 hw2 (by omega)
    obtain ⟨as, g1, g2, m2, f2, d7, d8, d9, d10, hm2, hf2, t2⟩ := acts_turns (e4 := e4) (e5 := e5) ho hol hw hw1 hw2 xs (done ++ [a]) m1 f1 (some (.d x)) c8 c9 c10 hf1 (by omega) (by rw [List.length_append, List.length_singleton]; omega)
    refine ⟨a :: as, by simp [g1], fun y hy => ?_, m2, f2, d7, d8, d9, d10, by rw [List.length_cons]; omega, hf2, ?_⟩
    · rcases List.mem_cons.mp hy with rfl | hy
      · exact ha
      · exact g2 y hy
    · rw [forX]
      have e0 : tgN 7 x [some f, some (.d (.lst (out.map .str))), some (.d (.lst (words.map .str))), some (.d (.bl b)), e4, e5, some (.ls (done.map (O.d ∘ Ac.d))), e7, e8, e9, e10] = some [some f, some (.d (.lst (out.map .str))), some (.d (.lst (words.map .str))), some (.d (.bl b)), e4, e5, some (.ls (done.map (O.d ∘ Ac.d))), some (.d x), e8, e9, e10] := rfl
      rw [e0]
      dsimp only
      rw [t1]
      dsimp only
      rw [t2, List.append_assoc]
      rfl
end
end K85
set_option Elab.async false
set_option linter.all false
set_option maxRecDepth 100000
/-! QI: rules, systems drawn. -/
namespace K85
open PySem L2 DL PySem.Spec PyProof.Rows
section
variable {out words : List Str}
theorem tests_drawn {n : Nat} {f : O} {b : Bool} {nt : Nat} {e1 e2 e4 : Option O} (hf : FD n f) (hn : n ≤ 600000) (hnt : nt ≤ 3) : ∃ ts : List Te, ts.length = nt ∧ (∀ t ∈ ts, t.ok b) ∧ ∃ m f', m ≤ n + 15 ∧ FD m f' ∧
    endX D.lst [7] (tgN 7) mYes (mFz (mCall 2 [0] F_law_test [] (mCons (mV 3) (mNil)))) (rngD 0 nt) [some f, e1, e2, some (.d (.bl b)), e4, none, none, none, none, none, none] = .ok (.lst (ts.map Te.d)) [some f', e1, e2, some (.d (.bl b)), e4, none, none, none, none, none, none] := by
  have hlr : (rngD 0 nt).length = nt := by rw [rng_eq, List.length_map, List.length_range]
  obtain ⟨ts, h1, h2, m, f', v, h3, h4, h5⟩ := lcX_feed (α := Te) (P := fun t => t.ok b) (g := Te.d) (E := fun f v => [some f, e1, e2, some (.d (.bl b)), e4, none, none, v, none, none, none]) (i := 7) (K := 5) (B := n + 15)
    (me := mFz (mCall 2 [0] F_law_test [] (mCons (mV 3) (mNil)))) (fun f v x => by simp) (fun n' f' x hf' hn' => by
      obtain ⟨t, ht, g1, hg1, eg⟩ := law_test (b := b) hf' (by omega)
      exact ⟨t, ht, _, g1, Nat.le_refl _, hg1, by simp [eg]⟩) (rngD 0 nt) n f none hf (by rw [hlr]; omega)
  rw [hlr] at h1 h3
  refine ⟨ts, h1, h2, m, f', by omega, h4, ?_⟩
  unfold endX
  have h6 : lcX [7] (tgN 7) mYes (mFz (mCall 2 [0] F_law_test [] (mCons (mV 3) (mNil)))) (rngD 0 nt) [some f, e1, e2, some (.d (.bl b)), e4, none, none, none, none, none, none] = _ := h5
  rw [h6]
  dsimp only
  rw [if_pos (by rw [List.length_map]; omega)]
  cases e1 <;> cases e2 <;> cases e4 <;> rfl
theorem law_rule {n : Nat} {f : O} (hf : FD n f) (hn : n ≤ 500000) (ho : ∀ y ∈ out, Nm y) (hol : out.length ≤ 900) (hw : ∀ y ∈ words, Nm y) (hw2 : words.length = 2) :
    ∃ r : Ru, r.ok out ∧ ∃ m f', m ≤ n + 60 ∧ FD m f' ∧ F_law_rule [f, .d (.lst (out.map .str)), .d (.lst (words.map .str))] = .ok (.d r.d) [f'] := by
  obtain ⟨k1, hk1, f1, hf1, t1⟩ := take (m := 2) hf (by omega) (by omega) (by omega)
  obtain ⟨k2, hk2, f2, hf2, t2⟩ := take (m := (words.length : Int)) hf1 (by omega) (by omega) (by omega)
  obtain ⟨k3, hk3, f3, hf3, t3⟩ := take (m := 4) hf2 (by omega) (by omega) (by omega)
  have hk2' : k2 < words.length := by omega
  have w2 : gIxA (.lst (words.map .str)) (.int k2) = some (.str words[k2]) := ix_lst (by rw [List.getElem?_map, List.getElem?_eq_getElem hk2']; rfl)
  generalize hb : decide ((k1 : Int) = 0) = b
  have w3 : ∃ o : Option Str, o.isSome = b ∧ (∀ w, o = some w → Nm w) ∧ gIxA (.lst [.tup [.str "self"], .tup [.str "letter", .str words[k2]]]) (.int (if b = true then 1 else 0)) = some (whD o) := by
    cases b with
    | false => exact ⟨none, rfl, fun w e => (nomatch e), by simp [whD]⟩
    | true => exact ⟨some words[k2], rfl, fun w e => by cases e; exact hw _ (List.getElem_mem _), by simp [whD]⟩
  obtain ⟨o, ho1, ho2, w3⟩ := w3
  have w4 : ∃ nt : Nat, nt ≤ 3 ∧ gIxA (.lst [.int 0, .int 0, .int 1, .int 3]) (.int k3) = some (.int nt) := by
    rw [ix_l (by simp; omega)]
    match k3, hk3 with
    | 0, _ => exact ⟨0, by omega, rfl⟩
    | 1, _ => exact ⟨0, by omega, rfl⟩
    | 2, _ => exact ⟨1, by omega, rfl⟩
    | 3, _ => exact ⟨3, by omega, rfl⟩
    | k + 4, h => omega
  obtain ⟨nt, hnt, w4⟩ := w4
  obtain ⟨ts, ht1, ht2, m4, f4, hm4, hf4, t4⟩ := tests_drawn (b := b) (e1 := some (.d (.lst (out.map .str)))) (e2 := some (.d (.lst (words.map .str)))) (e4 := some (.d (whD o))) hf3 (by omega) hnt
  obtain ⟨k5, hk5, f5, hf5, t5⟩ := take (m := 6) hf4 (by omega) (by omega) (by omega)
  have w5 : ∃ na : Nat, na ≤ 4 ∧ gIxA (.lst [.int 0, .int 1, .int 1, .int 2, .int 3, .int 4]) (.int k5) = some (.int na) := by
    rw [ix_l (by simp; omega)]
    match k5, hk5 with
    | 0, _ => exact ⟨0, by omega, rfl⟩
    | 1, _ => exact ⟨1, by omega, rfl⟩
    | 2, _ => exact ⟨1, by omega, rfl⟩
    | 3, _ => exact ⟨2, by omega, rfl⟩
    | 4, _ => exact ⟨3, by omega, rfl⟩
    | 5, _ => exact ⟨4, by omega, rfl⟩
    | k + 6, h => omega
  obtain ⟨na, hna, w5⟩ := w5
  have hlr : (rngD 0 na).length = na := by rw [rng_eq, List.length_map, List.length_range]
  obtain ⟨as, ha1, ha2, m6, f6, a7, a8, a9, a10, hm6, hf6, t6⟩ := acts_turns (b := b) (e4 := some (.d (whD o))) (e5 := some (.d (.tup (ts.map Te.d)))) ho hol hw (by omega) (by omega) (rngD 0 na) [] (m4 + 1) f5 none none none none hf5 (by rw [hlr]; omega) (by rw [hlr]; simp; omega)
  rw [hlr] at ha1 hm6
  rw [List.map_nil, List.nil_append] at t6
  unfold bA at t6
  have hR1 : ∀ ρ : DL.Env, ρ[0]? = some (some f2) → mRng1 (mOp2 gIxA (mLst (mCons (mC (.int 0)) (mCons (mC (.int 0)) (mCons (mC (.int 1)) (mCons (mC (.int 3)) (mNil)))))) (mFz (mCall 2 [0] F_law_take [] (mCons (mC (.int 4)) (mNil))))) ρ = .ok (rngD 0 nt) (ρ.set 0 (some f3)) := fun ρ h => rng_run (by simp [h, t3, w4]) (by omega)
  have hR2 : ∀ ρ : DL.Env, ρ[0]? = some (some f4) → mRng1 (mOp2 gIxA (mLst (mCons (mC (.int 0)) (mCons (mC (.int 1)) (mCons (mC (.int 1)) (mCons (mC (.int 2)) (mCons (mC (.int 3)) (mCons (mC (.int 4)) (mNil)))))))) (mFz (mCall 2 [0] F_law_take [] (mCons (mC (.int 6)) (mNil))))) ρ = .ok (rngD 0 na) (ρ.set 0 (some f5)) := fun ρ h => rng_run (by simp [h, t5, w5]) (by omega)
  refine ⟨⟨o, ts, as⟩, ⟨ho2, by show ts.length ≤ 3; omega, by show as.length ≤ 4; omega, fun t ht => by show t.ok o.isSome; rw [ho1]; exact ht2 t ht, fun a ha => by show a.ok out o.isSome; rw [ho1]; exact ha2 a ha⟩, m6, f6, by omega, hf6, ?_⟩
  have hg : gEq (.int (k1 : Int)) (.int 0) = some (.bl b) := by rw [g_eqI, hb]
  unfold F_law_rule runF
  simp [-y_rng1, -g_eqI, m_law_rule, rho0, t1, hg, t2, w2, w3, hR1, t4, hR2, t6, Ru.d]
end
end K85
set_option Elab.async false
set_option linter.all false
set_option maxRecDepth 100000
/-! QJ: systems drawn. -/
namespace K85
open PySem L2 DL PySem.Spec PyProof.Rows
noncomputable def bS : MS := sSeq (sSet 5 (mLcR [7, 8, 9, 10] (mItems (mOp2 gIxA (mV 1) (mC (.int 1)))) (tgSeq 4 (tgCons (tgN 7) (tgCons (tgN 8) (tgCons (tgN 9) (tgCons (tgN 10) (tgNil)))))) (mT (mOp2 gEq (mV 8) (mV 4))) (mV 7)))
  (sSeq (sSet 6 (mOp2 gIxA (mLst (mCons (mC (.int 1)) (mCons (mC (.int 2)) (mCons (mC (.int 3)) (mCons (mC (.int 4)) (mCons (mC (.int 8)) (mNil))))))) (mFz (mCall 2 [0] F_law_take [] (mCons (mC (.int 5)) (mNil))))))
  (sDrop (mFz (mMut "list" gAppend (mPs 3) (mOs (mCons (mOp1 gTuple (mLcX [11] (mRng1 (mV 6)) (tgN 11) (mYes) (mFz (mCall 3 [0] F_law_rule [] (mCons (mV 5) (mCons (mV 2) (mNil))))))) (mNil)))))))
section
variable {hs words : List Str} {rs : List Ro}
def progO (ps : List (List Ru)) : List O := ps.map fun p => .d (.tup (p.map Ru.d))
theorem rules_drawn {out : List Str} {n nr : Nat} {f : O} {e1 e3 e4 e6 e7 e8 e9 e10 : Option O} (hf : FD n f) (hn : n ≤ 400000) (hnr : nr ≤ 8) (ho : ∀ y ∈ out, Nm y) (hol : out.length ≤ 900) (hw : ∀ y ∈ words, Nm y) (hw2 : words.length = 2) :
    ∃ rr : List Ru, rr.length = nr ∧ (∀ r ∈ rr, r.ok out) ∧ ∃ m f', m ≤ n + 480 ∧ FD m f' ∧
    endX D.lst [11] (tgN 11) mYes (mFz (mCall 3 [0] F_law_rule [] (mCons (mV 5) (mCons (mV 2) (mNil))))) (rngD 0 nr) [some f, e1, some (.d (.lst (words.map .str))), e3, e4, some (.d (.lst (out.map .str))), e6, e7, e8, e9, e10, none] = .ok (.lst (rr.map Ru.d)) [some f', e1, some (.d (.lst (words.map .str))), e3, e4, some (.d (.lst (out.map .str))), e6, e7, e8, e9, e10, none] := by
  have hlr : (rngD 0 nr).length = nr := by rw [rng_eq, List.length_map, List.length_range]
  obtain ⟨ts, h1, h2, m, f', v, h3, h4, h5⟩ := lcX_feed (α := Ru) (P := fun r => r.ok out) (g := Ru.d) (E := fun f v => [some f, e1, some (.d (.lst (words.map .str))), e3, e4, some (.d (.lst (out.map .str))), e6, e7, e8, e9, e10, v]) (i := 11) (K := 60) (B := n + 480)
    (me := mFz (mCall 3 [0] F_law_rule [] (mCons (mV 5) (mCons (mV 2) (mNil))))) (fun f v x => by simp) (fun n' f' x hf' hn' => by
      obtain ⟨t, ht, m1, g1, hm1, hg1, eg⟩ := law_rule (out := out) (words := words) hf' (by omega) ho hol hw hw2
      exact ⟨t, ht, m1, g1, hm1, hg1, by simp [eg]⟩) (rngD 0 nr) n f none hf (by rw [hlr]; omega)
  rw [hlr] at h1 h3
  refine ⟨ts, h1, h2, m, f', by omega, h4, ?_⟩
  unfold endX
  have h6 : lcX [11] (tgN 11) mYes (mFz (mCall 3 [0] F_law_rule [] (mCons (mV 5) (mCons (mV 2) (mNil))))) (rngD 0 nr) [some f, e1, some (.d (.lst (words.map .str))), e3, e4, some (.d (.lst (out.map .str))), e6, e7, e8, e9, e10, none] = _ := h5
  rw [h6]
  dsimp only
  rw [if_pos (by rw [List.length_map]; omega)]
  have r : ∀ o : Option O, (match some o with | some o => o | none => none) = o := fun o => rfl
  simp [restE, List.range_succ]
theorem ou_nm {h : Str} (ho : ∀ r ∈ rs, r.ok hs) : ∀ y ∈ ou rs h, Nm y := fun y hy => by
  unfold ou at hy
  obtain ⟨r, hr, rfl⟩ := List.mem_map.mp hy
  exact (ho r (List.mem_filter.mp hr).1).nm
theorem prog_turn {n : Nat} {f : O} {h : Str} {done : List (List Ru)} {e5 e6 : Option O} (hf : FD n f) (hn : n ≤ 300000) (hall : ∀ y ∈ hs, Nm y) (ho : ∀ r ∈ rs, r.ok hs) (h8 : rs.length ≤ 8) (hh : Nm h) (hw : ∀ y ∈ words, Nm y) (hw2 : words.length = 2) (hd : done.length ≤ 100) :
    ∃ p : List Ru, p.length ≤ 8 ∧ (∀ r ∈ p, r.ok (ou rs h)) ∧ ∃ m f' a b, m ≤ n + 481 ∧ FD m f' ∧ bS [some f, some (.d (netD hs rs)), some (.d (.lst (words.map .str))), some (.ls (progO done)), some (.d (.str h)), e5, e6, none, none, none, none, none] =
      .nx [some f', some (.d (netD hs rs)), some (.d (.lst (words.map .str))), some (.ls (progO (done ++ [p]))), some (.d (.str h)), a, b, none, none, none, none, none] := by
  obtain ⟨k, hk, f1, hf1, t1⟩ := take (m := 5) hf (by omega) (by omega) (by omega)
  have w1 : ∃ nr : Nat, nr ≤ 8 ∧ gIxA (.lst [.int 1, .int 2, .int 3, .int 4, .int 8]) (.int k) = some (.int nr) := by
    rw [ix_l (by simp; omega)]
    match k, hk with
    | 0, _ => exact ⟨1, by omega, rfl⟩
    | 1, _ => exact ⟨2, by omega, rfl⟩
    | 2, _ => exact ⟨3, by omega, rfl⟩
    | 3, _ => exact ⟨4, by omega, rfl⟩
    | 4, _ => exact ⟨8, by omega, rfl⟩
    | k + 5, h => omega
  obtain ⟨nr, hnr, w1⟩ := w1
  have hol : (ou rs h).length ≤ 900 := by
    unfold ou
    rw [List.length_map]
    have := List.length_filter_le (fun r : Ro => decide (r.one = h)) rs
    omega
  obtain ⟨p, hp1, hp2, m, f', hm, hf', t2⟩ := rules_drawn (out := ou rs h) (e1 := some (.d (netD hs rs))) (e3 := some (.ls (progO done))) (e4 := some (.d (.str h))) (e6 := some (.d (.int nr))) (e7 := none) (e8 := none) (e9 := none) (e10 := none) hf1 (by omega) hnr (ou_nm ho) hol hw hw2
  have g0 : gIxA (netD hs rs) (.int 1) = some (.tup (rs.map Ro.d)) := by unfold netD; simp
  have hE : ∀ ρ : DL.Env, ρ.length = 12 → ρ[4]? = some (some (.d (.str h))) → endR D.lst [7, 8, 9, 10] (tgSeq 4 (tgCons (tgN 7) (tgCons (tgN 8) (tgCons (tgN 9) (tgCons (tgN 10) (tgNil)))))) (mT (mOp2 gEq (mV 8) (mV 4))) (mV 7) (rs.map Ro.d) ρ = .ok (.lst ((ou rs h).map .str)) ρ := fun ρ e1 e2 => by
    unfold ou
    rw [List.map_map]
    match ρ, e1, e2 with
    | [a, b, c, d, _, e5, e6, e7, e8, e9, e10, e11], _, rfl =>
      exact endR_filter (by omega) fun r hr => ⟨[a, b, c, d, some (.d (.str h)), e5, e6, some (.d (.str r.road)), some (.d (.str r.one)), some (.d (.str r.other)), some (.d (.str (wayW r.way))), e11], [a, b, c, d, some (.d (.str h)), e5, e6, some (.d (.str r.road)), some (.d (.str r.one)), some (.d (.str r.other)), some (.d (.str (wayW r.way))), e11], by simp [Ro.d], by simp [(hall _ (ho r hr).one).asc, hh.asc], fun _ => ⟨[a, b, c, d, some (.d (.str h)), e5, e6, some (.d (.str r.road)), some (.d (.str r.one)), some (.d (.str r.other)), some (.d (.str (wayW r.way))), e11], by simp⟩⟩
  have hR : ∀ ρ : DL.Env, ρ[6]? = some (some (.d (.int nr))) → mRng1 (mV 6) ρ = .ok (rngD 0 nr) ρ := fun ρ h => rng_run (by simp [h]) (by omega)
  have hpl : (progO done).length = done.length := by unfold progO; rw [List.length_map]
  refine ⟨p, by omega, hp2, m, f', some (.d (.lst ((ou rs h).map .str))), some (.d (.int nr)), by omega, hf', ?_⟩
  have hcat : progO (done ++ [p]) = progO done ++ [.d (.tup (p.map Ru.d))] := by unfold progO; simp
  rw [hcat]
  unfold bS
  simp [-y_rng1, g0, hE, t1, w1, hR, t2, hpl, show done.length < 16777216 by omega]
theorem progs_turns (hall : ∀ y ∈ hs, Nm y) (ho : ∀ r ∈ rs, r.ok hs) (h8 : rs.length ≤ 8) (hw : ∀ y ∈ words, Nm y) (hw2 : words.length = 2) : ∀ (todo : List Str) (done : List (List Ru)) (n : Nat) (f : O) (e4 e5 e6 : Option O), FD n f → n + 481 * todo.length ≤ 300000 → (∀ y ∈ todo, Nm y) → done.length + todo.length ≤ 100 →
    ∃ ps : List (List Ru), ps.length = todo.length ∧ (∀ p ∈ ps, p.length ≤ 8) ∧ (∀ q ∈ todo.zip ps, ∀ r ∈ q.2, r.ok (ou rs q.1)) ∧ ∃ m f' a b c, m ≤ n + 481 * todo.length ∧ FD m f' ∧ forX (tgN 4) bS (todo.map D.str) [some f, some (.d (netD hs rs)), some (.d (.lst (words.map .str))), some (.ls (progO done)), e4, e5, e6, none, none, none, none, none] =
      .nx [some f', some (.d (netD hs rs)), some (.d (.lst (words.map .str))), some (.ls (progO (done ++ ps))), a, b, c, none, none, none, none, none]
  | [], done, n, f, e4, e5, e6, hf, _, _, _ => ⟨[], rfl, fun _ h => (nomatch h), fun _ h => (nomatch h), n, f, e4, e5, e6, Nat.le_refl _, hf, by simp [forX]⟩
  | h :: todo, done, n, f, e4, e5, e6, hf, hn, hall2, hl => by
    rw [List.length_cons] at hn hl
    obtain ⟨p, hp1, hp2, m1, f1, a1, b1, hm1, hf1, t1⟩ := prog_turn (done := done) (e5 := e5) (e6 := e6) hf (by omega) hall ho h8 (hall2 h List.mem_cons_self) hw hw2 (by omega)
    obtain ⟨ps, g1, g2, g3, m2, f2, a2, b2, c2, hm2, hf2, t2⟩ := progs_turns hall ho h8 hw hw2 todo (done ++ [p]) m1 f1 (some (.d (.str h))) a1 b1 hf1 (by omega) (fun y hy => hall2 y (List.mem_cons_of_mem _ hy)) (by rw [List.length_append, List.length_singleton]; omega)
    refine ⟨p :: ps, by simp [g1], fun x hx => ?_, fun q hq => ?_, m2, f2, a2, b2, c2, by rw [List.length_cons]; omega, hf2, ?_⟩
    · rcases List.mem_cons.mp hx with rfl | hx
      · exact hp1
      · exact g2 x hx
    · rw [List.zip_cons_cons] at hq
      rcases List.mem_cons.mp hq with rfl | hq
      · exact hp2
      · exact g3 q hq
    · rw [List.map_cons, forX]
      have e0 : tgN 4 (.str h) [some f, some (.d (netD hs rs)), some (.d (.lst (words.map .str))), some (.ls (progO done)), e4, e5, e6, none, none, none, none, none] = some [some f, some (.d (netD hs rs)), some (.d (.lst (words.map .str))), some (.ls (progO done)), some (.d (.str h)), e5, e6, none, none, none, none, none] := rfl
      rw [e0]
      dsimp only
      rw [t1]
      dsimp only
      rw [t2, List.append_assoc]
      rfl
theorem law_system {n : Nat} {f : O} (hf : FD n f) (hn : n ≤ 200000) (hall : ∀ y ∈ hs, Nm y) (ho : ∀ r ∈ rs, r.ok hs) (h8 : rs.length ≤ 8) (h5 : hs.length ≤ 5) :
    ∃ ps : List (List Ru), ps.length = hs.length ∧ (∀ p ∈ ps, p.length ≤ 8) ∧ (∀ q ∈ hs.zip ps, ∀ r ∈ q.2, r.ok (ou rs q.1)) ∧ ∃ m f', m ≤ n + 2600 ∧ FD m f' ∧ F_law_system [f, .d (netD hs rs)] = .ok (.d (.tup [netD hs rs, .tup (ps.map fun p => .tup (p.map Ru.d))])) [f'] := by
  obtain ⟨words, hwn, j1, f1, hj1, hf1, g1⟩ := law_names (m := 2) hf (by omega) (by omega)
  obtain ⟨o1, eo1, ee1⟩ := g1
  have ee1 : F_law_names [f, .d (.int 2)] = .ok o1 [f1] := ee1
  obtain ⟨ps, a1, a2, a3, m, f', a, b, c, hm, hf', t⟩ := progs_turns hall ho h8 hwn.nm hwn.len hs [] j1 f1 none none none hf1 (by omega) hall (by simp; omega)
  refine ⟨ps, a1, a2, a3, m, f', by omega, hf', ?_⟩
  have e0 : progO [] = [] := rfl
  rw [e0, List.nil_append] at t
  unfold bS at t
  have g0 : gIxA (netD hs rs) (.int 0) = some (.tup (hs.map .str)) := by unfold netD; simp
  have hpk : peek (.ls (progO ps)) = some (.lst (ps.map fun p => .tup (p.map Ru.d))) := by
    unfold progO
    exact y_peekLC (f := fun p : List Ru => D.tup (p.map Ru.d))
  unfold F_law_system runF
  simp [-y_peekL, m_law_system, rho0, ee1, eo1, g0, t, hpk]
end
end K85
set_option Elab.async false
set_option linter.all false
set_option maxRecDepth 100000
/-! QK: the law. -/
namespace K85
open PySem L2 DL PySem.Spec PyProof.Rows
section
variable {s : Sy}
theorem text_asc (k : s.ok) : Asc s.t := by
  refine join_asc (fun c hc => by cases hc) fun x hx => ?_
  obtain ⟨y, hy, rfl⟩ := List.mem_map.mp hx
  refine Asc.app ?_ (lit_asc rfl)
  rw [lines_eq, List.mem_append, List.mem_append] at hy
  rcases hy with hy | hy | hy
  · obtain ⟨h, hh, rfl⟩ := List.mem_map.mp hy
    exact (lit_asc rfl).app (k.nm h hh).asc
  · obtain ⟨r, hr, rfl⟩ := List.mem_map.mp hy
    exact Ro.t_asc k.nm (k.ro r hr)
  · unfold rlines at hy
    obtain ⟨l, hl, hy⟩ := List.mem_flatten.mp hy
    obtain ⟨q, hq, rfl⟩ := List.mem_map.mp hl
    obtain ⟨r, hr, rfl⟩ := List.mem_map.mp hy
    exact Ru.t_asc (zip_mem k hq).1 ((zip_mem k hq).2.2 r hr)
noncomputable def bI : MS := sSeq (sSet 6 (mOp1 gRepr (mV 5)))
  (sSeq (sSet 7 (mFz (mCall 1 [] F_law_ended [] (mCons (mFz (mCall 1 [] F_law_system_lines [] (mCons (mV 5) (mNil)))) (mNil)))))
  (sIf (mOr (mT (mOp2 gNe (mFz (mCall 1 [] F_system_text [] (mCons (mV 5) (mNil)))) (mV 7))) (mOr (mT (mOp2 gNe (mOp1 gRepr (mFz (mCall 1 [] F_read_system [] (mCons (mV 7) (mNil))))) (mV 6))) (mT (mOp2 gNe (mOp1 gRepr (mV 5)) (mV 6))))) (sRet 0 (mC (.bl false))) (sNil)))
theorem look {a b c d e f g : Option O} (k : s.ok) : ∃ f' g', bI [a, b, c, d, e, some (.d s.d), f, g] = .nx [a, b, c, d, e, some (.d s.d), f', g'] := by
  obtain ⟨z, hz, er⟩ := repr_tup (Sy.py k).2.2 (by omega) (by omega)
  have er : gRepr s.d = some (.str z) := er
  have e1 := law_lines k
  have e2 := (ends k).2
  have e3 := system_text k
  have e4 := read_system k
  have n1 : gNe (.str s.t) (.str s.t) = some (.bl false) := by rw [sNe (text_asc k) (text_asc k), decide_eq_true rfl]; rfl
  have n2 : gNe (.str z) (.str z) = some (.bl false) := by rw [sNe hz hz, decide_eq_true rfl]; rfl
  rw [List.map_map] at e1
  refine ⟨some (.d (.str z)), some (.d (.str s.t)), ?_⟩
  unfold bI
  simp [er, e1, e2, e3, e4, n1, n2]
theorem looks {a b c d e : Option O} : ∀ (l : List Sy) (f g h : Option O), (∀ s ∈ l, s.ok) → ∃ f' g' h', forX (tgN 5) bI (l.map Sy.d) [a, b, c, d, e, f, g, h] = .nx [a, b, c, d, e, f', g', h']
  | [], f, g, h, _ => ⟨f, g, h, rfl⟩
  | s :: l, f, g, h, hk => by
    obtain ⟨g1, h1, e1⟩ := look (a := a) (b := b) (c := c) (d := d) (e := e) (f := g) (g := h) (hk s List.mem_cons_self)
    obtain ⟨f2, g2, h2, e2⟩ := looks (a := a) (b := b) (c := c) (d := d) (e := e) l (some (.d s.d)) g1 h1 fun x hx => hk x (List.mem_cons_of_mem _ hx)
    refine ⟨f2, g2, h2, ?_⟩
    rw [List.map_cons, forX]
    have e0 : tgN 5 s.d [a, b, c, d, e, f, g, h] = some [a, b, c, d, e, some (.d s.d), g, h] := rfl
    rw [e0]
    dsimp only
    rw [e1]
    dsimp only
    rw [e2]
/-! a program left out -/
theorem zip_last {α β : Type} {hs : List α} {ps : List β} {x : β} (hl : ps.length = hs.length) (h1 : 1 ≤ hs.length) {q : α × β} (hq : q ∈ hs.zip (ps.take (ps.length - 1) ++ [x])) : q ∈ hs.zip ps ∨ q.2 = x := by
  obtain ⟨i, hi⟩ := List.mem_iff_getElem?.mp hq
  rw [List.getElem?_zip_eq_some] at hi
  obtain ⟨e1, e2⟩ := hi
  by_cases h : i < ps.length - 1
  · rw [List.getElem?_append_left (by rw [List.length_take]; omega), List.getElem?_take_of_lt h] at e2
    exact .inl (List.mem_iff_getElem?.mpr ⟨i, by rw [List.getElem?_zip_eq_some]; exact ⟨e1, e2⟩⟩)
  · rw [List.getElem?_append_right (by rw [List.length_take]; omega)] at e2
    have hm := List.mem_of_getElem? e2
    exact .inr (by simpa using hm)
def cutSy (s : Sy) : Sy := ⟨s.houses, s.roads, s.progs.take (s.progs.length - 1) ++ [[]]⟩
theorem cut_ok (k : s.ok) : (cutSy s).ok := by
  refine ⟨k.nm, k.h1, k.h5, k.hs, k.r8, k.ro, k.rs, ?_, ?_, ?_⟩
  · show (s.progs.take (s.progs.length - 1) ++ [[]]).length = s.houses.length
    have := k.pl
    have := k.h1
    rw [List.length_append, List.length_take, List.length_singleton]
    omega
  · intro p hp
    have hp : p ∈ s.progs.take (s.progs.length - 1) ++ [[]] := hp
    rcases List.mem_append.mp hp with hp | hp
    · exact k.p8 p (List.mem_of_mem_take hp)
    · simp at hp
      subst hp
      exact Nat.zero_le _
  · intro q hq r hr
    rcases zip_last k.pl k.h1 hq with h | h
    · exact k.pr q h r hr
    · rw [h] at hr
      cases hr
theorem cutL_last {α : Type} {xs : List α} (h : 1 ≤ xs.length) : cutL xs none (some (-1)) = xs.take (xs.length - 1) := by
  have e1 : HT.sIx xs.length 0 none = 0 := rfl
  have e2 : HT.sIx xs.length xs.length (some (-1)) = xs.length - 1 := by
    show (if (-1 : Int) < 0 then ((-1 : Int) + (xs.length : Int)).toNat else min (-1 : Int).toNat xs.length) = _
    rw [if_pos (by omega)]
    omega
  unfold cutL
  rw [e1, e2, List.drop_zero, Nat.sub_zero]
theorem cut_run (k : s.ok) : gSl (.tup (s.progs.map fun p => .tup (p.map Ru.d))) none (some (-1)) = some (.tup ((s.progs.take (s.progs.length - 1)).map fun p => .tup (p.map Ru.d))) := by
  show some (D.tup (cutL _ none (some (-1)))) = _
  rw [cutL_last (by rw [List.length_map, k.pl]; exact k.h1), List.length_map, List.map_take]
theorem cut_d : (cutSy s).d = .tup [s.net, .tup ((s.progs.take (s.progs.length - 1)).map (fun p => .tup (p.map Ru.d)) ++ [.tup []])] := by
  unfold Sy.d cutSy
  rw [List.map_append]
  rfl
end
/-! the turn -/
noncomputable def bL : MS := sSeq (sSetO 3 (mCall 2 [] F_law_feed [] (mCons (mV 0) (mCons (mV 2) (mNil)))))
  (sSeq (sSet 4 (mFz (mCall 2 [3] F_law_system [] (mCons (mFz (mCall 4 [3] F_law_net [] (mCons (mC (.int 5)) (mCons (mC (.int 8)) (mCons (mTup (mCons (mC (.str "row")) (mCons (mC (.str "loose")) (mNil)))) (mNil)))))) (mNil)))))
  (sSeq (sIf (mT (mOp2 gEq (mFz (mCall 2 [3] F_law_take [] (mCons (mC (.int 4)) (mNil)))) (mC (.int 0)))) (sSet 4 (mTup (mCons (mOp2 gIxA (mV 4) (mC (.int 0))) (mCons (mOp2 gAdd (mSl (mOp2 gIxA (mV 4) (mC (.int 1))) mNoPart (mPart (mOp1 gNeg (mC (.int 1))))) (mTup (mCons (mTup (mNil)) (mNil)))) (mNil))))) (sNil))
  (sSeq (sFor (mItems (mTup (mCons (mV 4) (mCons (mV 1) (mCons (mV 4) (mNil)))))) (tgN 5) (sSeq (sSet 6 (mOp1 gRepr (mV 5)))
  (sSeq (sSet 7 (mFz (mCall 1 [] F_law_ended [] (mCons (mFz (mCall 1 [] F_law_system_lines [] (mCons (mV 5) (mNil)))) (mNil)))))
  (sIf (mOr (mT (mOp2 gNe (mFz (mCall 1 [] F_system_text [] (mCons (mV 5) (mNil)))) (mV 7))) (mOr (mT (mOp2 gNe (mOp1 gRepr (mFz (mCall 1 [] F_read_system [] (mCons (mV 7) (mNil))))) (mV 6))) (mT (mOp2 gNe (mOp1 gRepr (mV 5)) (mV 6))))) (sRet 0 (mC (.bl false))) (sNil)))))
  (sSet 1 (mV 4)))))
theorem turn {ns : List Int} {k : Nat} {s0 : Sy} {e3 e4 e5 e6 e7 : Option O} (hk : k < 4) (h0 : s0.ok) : ∃ s : Sy, s.ok ∧ ∃ a3 a4 a5 a6 a7, bL [some (.d (.scr ns)), some (.d s0.d), some (.d (.int k)), e3, e4, e5, e6, e7] = .nx [some (.d (.scr ns)), some (.d s.d), some (.d (.int k)), a3, a4, a5, a6, a7] := by
  obtain ⟨f, hf, t1⟩ := feed (ns := ns) hk
  obtain ⟨hs, rs, g1, g2, g3, g4, g5, g6, g7, m1, f1, hm1, hf1, t2⟩ := law_net hf (by omega)
  obtain ⟨ps, p1, p2, p3, m2, f2, hm2, hf2, t3⟩ := law_system (hs := hs) (rs := rs) hf1 (by omega) g1 g6 g5 g3
  obtain ⟨kk, hkk, f3, hf3, t4⟩ := take (m := 4) hf2 (by omega) (by omega) (by omega)
  have hok : (⟨hs, rs, ps⟩ : Sy).ok := ⟨g1, g2, g3, g4, g5, g6, g7, p1, p2, p3⟩
  generalize hS : (⟨hs, rs, ps⟩ : Sy) = S at hok
  have ed : D.tup [netD hs rs, .tup (ps.map fun p => .tup (p.map Ru.d))] = S.d := by rw [← hS]; rfl
  rw [ed] at t3
  have hL := fun (S' : Sy) (hS' : S'.ok) (a b c d e f g h : Option O) => looks (a := a) (b := b) (c := c) (d := d) (e := e) [S', s0, S'] f g h (by
    intro x hx
    simp only [List.mem_cons, List.not_mem_nil, or_false] at hx
    rcases hx with rfl | rfl | rfl
    · exact hS'
    · exact h0
    · exact hS')
  simp only [List.map_cons, List.map_nil] at hL
  unfold bI at hL
  by_cases hz : kk = 0
  · subst hz
    have t4 : F_law_take [f2, .d (.int 4)] = .ok (.d (.int 0)) [f3] := t4
    have i0 : gIxA S.d (.int 0) = some S.net := by unfold Sy.d; simp
    have i1 : gIxA S.d (.int 1) = some (.tup (S.progs.map fun p => .tup (p.map Ru.d))) := by unfold Sy.d; simp
    have i2 := cut_run hok
    have i3 : gAdd (.tup ((S.progs.take (S.progs.length - 1)).map fun p => .tup (p.map Ru.d))) (.tup [.tup []]) = some (.tup ((S.progs.take (S.progs.length - 1)).map (fun p => .tup (p.map Ru.d)) ++ [.tup []])) := by
      rw [g_addT, if_pos (by
        have := hok.pl
        have := hok.h5
        rw [List.length_map, List.length_take, List.length_singleton]
        omega)]
    have ec := cut_d (s := S)
    obtain ⟨a5, a6, a7, eL⟩ := hL (cutSy S) (cut_ok hok) (some (.d (.scr ns))) (some (.d s0.d)) (some (.d (.int k))) (some f3) (some (.d (cutSy S).d)) e5 e6 e7
    refine ⟨cutSy S, cut_ok hok, some f3, some (.d (cutSy S).d), a5, a6, a7, ?_⟩
    generalize (S.progs.take (S.progs.length - 1)).map (fun p => D.tup (p.map Ru.d)) = T at i2 i3 ec
    unfold bL
    simp [-g_addT, t1, t2, t3, t4, i0, i1, i2, i3, ← ec, eL]
  · obtain ⟨a5, a6, a7, eL⟩ := hL S hok (some (.d (.scr ns))) (some (.d s0.d)) (some (.d (.int k))) (some f3) (some (.d S.d)) e5 e6 e7
    have hzi : ¬ (kk : Int) = 0 := by omega
    refine ⟨S, hok, some f3, some (.d S.d), a5, a6, a7, ?_⟩
    unfold bL
    simp [t1, t2, t3, t4, hz, hzi, eL]
theorem turns {ns : List Int} : ∀ (l : List Nat) (s0 : Sy) (e2 e3 e4 e5 e6 e7 : Option O), (∀ k ∈ l, k < 4) → s0.ok → ∃ s : Sy, s.ok ∧ ∃ a2 a3 a4 a5 a6 a7, forX (tgN 2) bL (l.map fun k : Nat => .int k) [some (.d (.scr ns)), some (.d s0.d), e2, e3, e4, e5, e6, e7] = .nx [some (.d (.scr ns)), some (.d s.d), a2, a3, a4, a5, a6, a7]
  | [], s0, e2, e3, e4, e5, e6, e7, _, h0 => ⟨s0, h0, e2, e3, e4, e5, e6, e7, rfl⟩
  | k :: l, s0, e2, e3, e4, e5, e6, e7, hk, h0 => by
    obtain ⟨s1, h1, b3, b4, b5, b6, b7, t1⟩ := turn (ns := ns) (e3 := e3) (e4 := e4) (e5 := e5) (e6 := e6) (e7 := e7) (hk k List.mem_cons_self) h0
    obtain ⟨s2, h2, c2, c3, c4, c5, c6, c7, t2⟩ := turns l s1 (some (.d (.int k))) b3 b4 b5 b6 b7 (fun x hx => hk x (List.mem_cons_of_mem _ hx)) h1
    refine ⟨s2, h2, c2, c3, c4, c5, c6, c7, ?_⟩
    rw [List.map_cons, forX]
    have e0 : tgN 2 (.int k) [some (.d (.scr ns)), some (.d s0.d), e2, e3, e4, e5, e6, e7] = some [some (.d (.scr ns)), some (.d s0.d), some (.d (.int k)), e3, e4, e5, e6, e7] := rfl
    rw [e0]
    dsimp only
    rw [t1]
    dsimp only
    rw [t2]
def sy0 : Sy := ⟨["a"], [], [[]]⟩
theorem sy0_ok : sy0.ok := by
  refine ⟨fun h hh => ?_, Nat.le_refl 1, show 1 ≤ 5 by omega, List.pairwise_singleton _ _, show 0 ≤ 8 by omega, fun r hr => (nomatch hr), .nil, rfl, fun p hp => ?_, fun q hq r hr => ?_⟩
  · have hh : h ∈ [("a" : Str)] := hh
    simp at hh
    subst hh
    exact let_nm 0
  · have hp : p ∈ [([] : List Ru)] := hp
    simp at hp
    subst hp
    exact Nat.zero_le _
  · have hq : q ∈ [(("a" : Str), ([] : List Ru))] := hq
    simp at hq
    subst hq
    cases hr
theorem plain_law (ns : List Int) (h : ns.length ≤ 63) : F_law [.d (.scr ns)] = .ok (.d (.bl true)) [] := by
  obtain ⟨s, _, a2, a3, a4, a5, a6, a7, t⟩ := turns (ns := ns) (List.range 4) sy0 none none none none none none (fun k hk => List.mem_range.mp hk) sy0_ok
  have hR : ∀ ρ : DL.Env, mRng1 (mC (.int 4)) ρ = .ok ((List.range 4).map fun k : Nat => .int k) ρ := fun ρ => by
    rw [rng_run (m := 4) (ρ1 := ρ) (ma := mC (.int 4)) rfl (by omega), rng_eq]
  have e0 : sy0.d = .tup [.tup [.tup [.str "a"], .tup []], .tup [.tup []]] := rfl
  rw [e0] at t
  unfold bL at t
  unfold F_law runF
  generalize ((List.range 4).map fun k : Nat => D.int k) = four at *
  simp [-y_rng1, m_law, rho0, hR, t]
end K85
set_option maxRecDepth 100000 in
set_option maxHeartbeats 0 in
theorem PySem.Challenge.cw_passedstands_k85_systems_written_and_rea_holds : PySem.Challenge.rw_passedstands_k85_systems_written_and_rea.Holds := by
  exact k85_of K85.plain_law
