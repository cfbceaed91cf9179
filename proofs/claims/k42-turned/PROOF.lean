import PyProof.Rows.All
import Wide.All
import OpenK.AllK
import Wide.FinOn
import HandS.ForMost
import HandS.Evl
import HandS.Deep
import HandS.Wide
import HandS.TupAny
import HandS.TupMul
import HandS.Defaults
import HandS.Walk
import PyProof.ReprReads
import PyProof.ReprRoads
import HandS.Zip
import KE.GoesEnum
import KE.GoesMore
import HandS.Rev
import HandS.RevTup
import PyProof.ReprLen
import PySem.Challenge.RW_foralldeciders_k42_whole_turned
set_option Elab.async false
set_option linter.all false
set_option maxRecDepth 100000
set_option maxHeartbeats 4000000
/-! Ev: a run of a def as a plain function of data: values are frozen data, or objects that a name owns. -/
namespace Ev
open PySem L2 Evl

/-! numbers that are not reckoned out -/
noncomputable def sizeL : Nat := Classical.choose (p := fun n => n = sizeLine) ⟨_, rfl⟩
theorem sizeL_eq : sizeL = sizeLine := Classical.choose_spec (p := fun n => n = sizeLine) ⟨_, rfl⟩
noncomputable def pow62 : Int := Classical.choose (p := fun n => n = (2 : Int) ^ 62) ⟨_, rfl⟩
theorem pow62_eq : pow62 = 2 ^ 62 := Classical.choose_spec (p := fun n => n = (2 : Int) ^ 62) ⟨_, rfl⟩
noncomputable def pow63 : Int := Classical.choose (p := fun n => n = (2 : Int) ^ 63) ⟨_, rfl⟩
theorem pow63_eq : pow63 = 2 ^ 63 := Classical.choose_spec (p := fun n => n = (2 : Int) ^ 63) ⟨_, rfl⟩
noncomputable def pow64 : Int := Classical.choose (p := fun n => n = (2 : Int) ^ 64) ⟨_, rfl⟩
theorem pow64_eq : pow64 = 2 ^ 64 := Classical.choose_spec (p := fun n => n = (2 : Int) ^ 64) ⟨_, rfl⟩
noncomputable def big : Int := Classical.choose (p := fun n => n = (2 : Int) ^ 8000) ⟨_, rfl⟩
theorem big_eq : big = 2 ^ 8000 := Classical.choose_spec (p := fun n => n = (2 : Int) ^ 8000) ⟨_, rfl⟩

/-- what a name holds: data that nobody changes, or an object that this name alone holds -/
inductive O where
  | leaf (d : PyData)
  | lst (os : List O)
  | dct (ks : List Key) (os : List O)
  | dt (kvs : List (List Key × PyData))
  | scr (ns : List Int)

/-! data in the frozen heap -/
mutual
inductive Dp (K : PySem.W.Frag) (F : Hp) : V → PyData → Prop
  | non : Dp K F .non .none
  | bl (b : Bool) : Dp K F (.bl b) (.bool b)
  | int (i : Int) : Dp K F (.int i) (.int i)
  | str (x : Str) : Dp K F (.str x) (.str x)
  | lst {a : Addr} {xs : List V} {ds : List PyData} : F a = some (.lst xs) → DpAll K F xs ds → Dp K F (.ref a) (.list ds)
  | tup {a : Addr} {xs : List V} {ds : List PyData} : SqT K F a xs → DpAll K F xs ds → Dp K F (.ref a) (.tuple ds)
inductive DpAll (K : PySem.W.Frag) (F : Hp) : List V → List PyData → Prop
  | nil : DpAll K F [] []
  | cons {v : V} {vs : List V} {d : PyData} {ds : List PyData} : Dp K F v d → DpAll K F vs ds → DpAll K F (v :: vs) (d :: ds)
end
mutual
theorem Dp.out {K : PySem.W.Frag} {F : Hp} : ∀ (d : PyData) (v : V), Dp K F v d → L2.Dp K F v d
  | .none, _, h => by cases h; exact .non
  | .bool b, _, h => by cases h; exact .bl b
  | .int i, _, h => by cases h; exact .int i
  | .str x, _, h => by cases h; exact .str x
  | .list ds, _, h => by
    cases h with
    | lst hs ha => exact .lst (sq_of hs) (DpAll.out ds _ ha)
  | .tuple ds, _, h => by
    cases h with
    | tup hs ha => exact .tup hs (DpAll.out ds _ ha)
  | .dict _, _, h => by cases h
theorem DpAll.out {K : PySem.W.Frag} {F : Hp} : ∀ (ds : List PyData) (vs : List V), DpAll K F vs ds → L2.DpAll K F vs ds
  | [], _, h => by cases h; exact .nil
  | d :: ds, _, h => by
    cases h with
    | cons h1 h2 => exact .cons (Dp.out d _ h1) (DpAll.out ds _ h2)
end

inductive R (α : Type) where
  | bad
  | exc (d : PyData)
  | ok (a : α)

def R.bind {α β : Type} (r : R α) (f : α → R β) : R β := match r with
  | .bad => .bad
  | .exc d => .exc d
  | .ok a => f a
instance : Monad R where
  pure := R.ok
  bind := R.bind

mutual
inductive RO (K : PySem.W.Frag) (F H : Hp) : O → V → List Addr → Prop
  | leaf {d : PyData} {v : V} : Dp K F v d → RO K F H (.leaf d) v []
  | lst {a : Addr} {os : List O} {xs : List V} {S : List Addr} : H a = some (.lst xs) → ROs K F H os xs S → RO K F H (.lst os) (.ref a) (a :: S)
  | dct {a : Addr} {ks : List Key} {os : List O} {xs : List V} {S : List Addr} : H a = some (.dK (ks.zip xs)) → ks.length = xs.length → ROs K F H os xs S → RO K F H (.dct ks os) (.ref a) (a :: S)
  | dt {a : Addr} {kvs : List (List Key × PyData)} {xs : List (List Key × V)} : H a = some (.dT xs) → xs.map (·.1) = kvs.map (·.1) → DpAll K F (xs.map (·.2)) (kvs.map (·.2)) → RO K F H (.dt kvs) (.ref a) [a]
  | scr {a : Addr} {ns : List Int} : SqL K F a (ns.map V.int) → RO K F H (.scr ns) (.ref a) []
inductive ROs (K : PySem.W.Frag) (F H : Hp) : List O → List V → List Addr → Prop
  | nil : ROs K F H [] [] []
  | cons {o : O} {os : List O} {v : V} {vs : List V} {S T : List Addr} : RO K F H o v S → ROs K F H os vs T → ROs K F H (o :: os) (v :: vs) (S ++ T)
end

abbrev En := List (Option O)

inductive EO (K : PySem.W.Frag) (F H : Hp) : St → En → List Addr → Prop
  | nil : EO K F H [] [] []
  | non {x : Option V} {σ : St} {e : En} {S : List Addr} : EO K F H σ e S → EO K F H (x :: σ) (none :: e) S
  | som {v : V} {o : O} {σ : St} {e : En} {S T : List Addr} : RO K F H o v S → EO K F H σ e T → EO K F H (some v :: σ) (some o :: e) (S ++ T)

/-! ### data that stands -/
theorem sq_mono {K : PySem.W.Frag} {F F' : Hp} {a : Addr} {xs : List V} (e : Ex F F') (h : SqL K F a xs) : SqL K F' a xs := ex_l e h
mutual
theorem Dp.mono {K : PySem.W.Frag} {F F' : Hp} (e : Ex F F') : ∀ (d : PyData) (v : V), Dp K F v d → Dp K F' v d
  | .none, _, h => by cases h; exact .non
  | .bool b, _, h => by cases h; exact .bl b
  | .int i, _, h => by cases h; exact .int i
  | .str x, _, h => by cases h; exact .str x
  | .list ds, _, h => by
    cases h with
    | lst hs ha => exact .lst (e _ _ hs) (DpAll.mono e ds _ ha)
  | .tuple ds, _, h => by
    cases h with
    | tup hs ha => exact .tup (ex_t e hs) (DpAll.mono e ds _ ha)
  | .dict _, _, h => by cases h
theorem DpAll.mono {K : PySem.W.Frag} {F F' : Hp} (e : Ex F F') : ∀ (ds : List PyData) (vs : List V), DpAll K F vs ds → DpAll K F' vs ds
  | [], _, h => by cases h; exact .nil
  | d :: ds, _, h => by
    cases h with
    | cons h1 h2 => exact .cons (Dp.mono e d _ h1) (DpAll.mono e ds _ h2)
end
theorem DpAll.length {K : PySem.W.Frag} {F : Hp} : ∀ {vs : List V} {ds : List PyData}, DpAll K F vs ds → vs.length = ds.length
  | _, _, .nil => rfl
  | _, _, .cons _ t => congrArg (· + 1) (DpAll.length t)
theorem DpAll.get {K : PySem.W.Frag} {F : Hp} : ∀ {vs : List V} {ds : List PyData} {i : Nat} {d : PyData}, DpAll K F vs ds → ds[i]? = some d → ∃ v, vs[i]? = some v ∧ Dp K F v d
  | _, _, _, _, .nil, e => by simp at e
  | _, _, 0, _, .cons r _, e => by simp at e; subst e; exact ⟨_, rfl, r⟩
  | _, _, i + 1, d, .cons _ t, e => by
    obtain ⟨v, h1, h2⟩ := DpAll.get (i := i) (d := d) t (by simpa using e)
    exact ⟨v, by simpa using h1, h2⟩
theorem DpAll.append {K : PySem.W.Frag} {F : Hp} : ∀ {vs ws : List V} {ds es : List PyData}, DpAll K F vs ds → DpAll K F ws es → DpAll K F (vs ++ ws) (ds ++ es)
  | _, _, _, _, .nil, s => s
  | _, _, _, _, .cons r t, s => .cons r (DpAll.append t s)
theorem DpAll.take {K : PySem.W.Frag} {F : Hp} : ∀ {vs : List V} {ds : List PyData} (n : Nat), DpAll K F vs ds → DpAll K F (vs.take n) (ds.take n)
  | _, _, 0, _ => .nil
  | _, _, _ + 1, .nil => .nil
  | _, _, n + 1, .cons r t => .cons r (DpAll.take n t)
theorem DpAll.drop {K : PySem.W.Frag} {F : Hp} : ∀ {vs : List V} {ds : List PyData} (n : Nat), DpAll K F vs ds → DpAll K F (vs.drop n) (ds.drop n)
  | _, _, 0, r => r
  | _, _, _ + 1, .nil => .nil
  | _, _, n + 1, .cons _ t => DpAll.drop n t
theorem DpAll.reverse {K : PySem.W.Frag} {F : Hp} : ∀ {vs : List V} {ds : List PyData}, DpAll K F vs ds → DpAll K F vs.reverse ds.reverse
  | _, _, .nil => .nil
  | _, _, .cons r t => by
    rw [List.reverse_cons, List.reverse_cons]
    exact DpAll.append (DpAll.reverse t) (.cons r .nil)

mutual
theorem RO.mono {K : PySem.W.Frag} {F F' H H' : Hp} (e : Ex F F') : ∀ {o : O} {v : V} {S : List Addr}, RO K F H o v S → (∀ a ∈ S, H' a = H a) → RO K F' H' o v S
  | _, _, _, .leaf d, _ => .leaf (Dp.mono e _ _ d)
  | _, _, _, .lst h r, k => .lst ((k _ (List.mem_cons_self ..)).trans h) (ROs.mono e r fun a ha => k a (List.mem_cons_of_mem _ ha))
  | _, _, _, .dct h l r, k => .dct ((k _ (List.mem_cons_self ..)).trans h) l (ROs.mono e r fun a ha => k a (List.mem_cons_of_mem _ ha))
  | _, _, _, .dt h l r, k => .dt ((k _ (List.mem_cons_self ..)).trans h) l (DpAll.mono e _ _ r)
  | _, _, _, .scr h, _ => .scr (ex_l e h)
theorem ROs.mono {K : PySem.W.Frag} {F F' H H' : Hp} (e : Ex F F') : ∀ {os : List O} {vs : List V} {S : List Addr}, ROs K F H os vs S → (∀ a ∈ S, H' a = H a) → ROs K F' H' os vs S
  | _, _, _, .nil, _ => .nil
  | _, _, _, .cons r t, k => .cons (RO.mono e r fun a ha => k a (List.mem_append_left _ ha)) (ROs.mono e t fun a ha => k a (List.mem_append_right _ ha))
end
mutual
theorem RO.there {K : PySem.W.Frag} {F H : Hp} : ∀ {o : O} {v : V} {S : List Addr}, RO K F H o v S → ∀ a ∈ S, H a ≠ none
  | _, _, _, .leaf _, a, ha => by cases ha
  | _, _, _, .lst h r, a, ha => by
    rcases List.mem_cons.mp ha with e | ha
    · rw [e, h]; exact fun z => nomatch z
    · exact ROs.there r a ha
  | _, _, _, .dct h _ r, a, ha => by
    rcases List.mem_cons.mp ha with e | ha
    · rw [e, h]; exact fun z => nomatch z
    · exact ROs.there r a ha
  | _, _, _, .dt h _ _, a, ha => by
    rcases List.mem_cons.mp ha with e | ha
    · rw [e, h]; exact fun z => nomatch z
    · cases ha
  | _, _, _, .scr _, a, ha => by cases ha
theorem ROs.there {K : PySem.W.Frag} {F H : Hp} : ∀ {os : List O} {vs : List V} {S : List Addr}, ROs K F H os vs S → ∀ a ∈ S, H a ≠ none
  | _, _, _, .nil, a, ha => by cases ha
  | _, _, _, .cons r t, a, ha => by
    rcases List.mem_append.mp ha with ha | ha
    · exact RO.there r a ha
    · exact ROs.there t a ha
end
theorem EO.mono {K : PySem.W.Frag} {F F' H H' : Hp} (e : Ex F F') : ∀ {σ : St} {en : En} {S : List Addr}, EO K F H σ en S → (∀ a ∈ S, H' a = H a) → EO K F' H' σ en S
  | _, _, _, .nil, _ => .nil
  | _, _, _, .non t, k => .non (EO.mono e t k)
  | _, _, _, .som r t, k => .som (RO.mono e r fun a ha => k a (List.mem_append_left _ ha)) (EO.mono e t fun a ha => k a (List.mem_append_right _ ha))
theorem EO.there {K : PySem.W.Frag} {F H : Hp} : ∀ {σ : St} {en : En} {S : List Addr}, EO K F H σ en S → ∀ a ∈ S, H a ≠ none
  | _, _, _, .nil, a, ha => by cases ha
  | _, _, _, .non t, a, ha => EO.there t a ha
  | _, _, _, .som r t, a, ha => by
    rcases List.mem_append.mp ha with ha | ha
    · exact RO.there r a ha
    · exact EO.there t a ha
theorem EO.length {K : PySem.W.Frag} {F H : Hp} : ∀ {σ : St} {en : En} {S : List Addr}, EO K F H σ en S → σ.length = en.length
  | _, _, _, .nil => rfl
  | _, _, _, .non t => congrArg (· + 1) (EO.length t)
  | _, _, _, .som _ t => congrArg (· + 1) (EO.length t)
/-- one slot, and how to put another thing there -/
theorem EO.at {K : PySem.W.Frag} {F H : Hp} : ∀ {σ : St} {en : En} {S : List Addr} {i : Nat} {o : O}, EO K F H σ en S → en[i]? = some (some o) →
    ∃ (v : V) (A S1 B : List Addr), σ[i]? = some (some v) ∧ S = A ++ S1 ++ B ∧ RO K F H o v S1 ∧
      ∀ (F' H' : Hp) (v' : V) (o' : O) (S1' : List Addr), Ex F F' → (∀ a ∈ A ++ B, H' a = H a) → RO K F' H' o' v' S1' → EO K F' H' (σ.set i (some v')) (en.set i (some o')) (A ++ S1' ++ B)
  | _, _, _, _, _, .nil, e => by simp at e
  | _, _, _, 0, _, .non t, e => by simp at e
  | _, _, _, 0, _, .som (S := S1) (T := B) r t, e => by
    simp at e
    subst e
    refine ⟨_, [], S1, B, rfl, by simp, r, fun F' H' v' o' S1' ex k r' => ?_⟩
    exact .som r' (t.mono ex fun a ha => k a (by simpa using ha))
  | _, _, _, i + 1, o, .non t, e => by
    obtain ⟨v, A, S1, B, e1, e2, r, f⟩ := EO.at (i := i) (o := o) t (by simpa using e)
    exact ⟨v, A, S1, B, by simpa using e1, e2, r, fun F' H' v' o' S1' ex k r' => .non (f F' H' v' o' S1' ex k r')⟩
  | _, _, _, i + 1, o, .som (S := S0) r0 t, e => by
    obtain ⟨v, A, S1, B, e1, e2, r, f⟩ := EO.at (i := i) (o := o) t (by simpa using e)
    refine ⟨v, S0 ++ A, S1, B, by simpa using e1, by rw [e2]; simp only [List.append_assoc], r, fun F' H' v' o' S1' ex k r' => ?_⟩
    have q : EO K F' H' (some _ :: _) (some _ :: _) (S0 ++ (A ++ S1' ++ B)) := .som (r0.mono ex fun a ha => k a (by simp [ha])) (f F' H' v' o' S1' ex (fun a ha => k a (by
      rcases List.mem_append.mp ha with z | z <;> simp [z])) r')
    simpa only [List.append_assoc, List.set_cons_succ] using q
/-- a slot is set, whatever stood there -/
theorem EO.put {K : PySem.W.Frag} {F H : Hp} : ∀ {σ : St} {en : En} {S : List Addr} (i : Nat) (v : V) (o : O) {S1 : List Addr}, EO K F H σ en S → i < σ.length → RO K F H o v S1 →
    ∃ A B : List Addr, (∀ a, a ∈ A ++ B → a ∈ S) ∧ (A ++ B).Sublist S ∧ EO K F H (σ.set i (some v)) (en.set i (some o)) (A ++ S1 ++ B)
  | _, _, _, _, _, _, _, .nil, h, _ => by simp at h
  | _, _, _, 0, v, o, _, .non (S := S) t, _, r => ⟨[], S, fun a h => by simpa using h, by simp, .som r t⟩
  | _, _, _, 0, v, o, _, .som (S := S0) (T := S) r0 t, _, r => ⟨[], S, fun a h => by simp at h; simp [h], by simp, .som r t⟩
  | _, _, _, i + 1, v, o, _, .non t, h, r => by
    obtain ⟨A, B, k1, k2, q⟩ := EO.put i v o t (by simpa using h) r
    exact ⟨A, B, k1, k2, .non q⟩
  | _, _, _, i + 1, v, o, S1, .som (S := S0) r0 t, h, r => by
    obtain ⟨A, B, k1, k2, q⟩ := EO.put i v o t (by simpa using h) r
    refine ⟨S0 ++ A, B, fun a ha => ?_, ?_, ?_⟩
    · simp only [List.append_assoc, List.mem_append] at ha ⊢
      rcases ha with z | z | z
      · exact .inl z
      · exact .inr (k1 a (by simp [z]))
      · exact .inr (k1 a (by simp [z]))
    · rw [List.append_assoc]
      exact List.Sublist.append_left k2 S0
    · have q' : EO K F H (some _ :: _) (some _ :: _) (S0 ++ (A ++ S1 ++ B)) := .som r0 q
      simpa only [List.append_assoc, List.set_cons_succ] using q'
/-- a slot is forgotten -/
theorem EO.drop {K : PySem.W.Frag} {F H : Hp} : ∀ {σ : St} {en : En} {S : List Addr} (i : Nat) (x : Option V), EO K F H σ en S →
    ∃ T : List Addr, T.Sublist S ∧ EO K F H (σ.set i x) (en.set i none) T
  | _, _, _, _, _, .nil => ⟨[], List.Sublist.refl _, .nil⟩
  | _, _, _, 0, x, .non (S := S) t => ⟨S, List.Sublist.refl _, .non t⟩
  | _, _, _, 0, x, .som (S := S0) (T := S) r0 t => ⟨S, by simp, .non t⟩
  | _, _, _, i + 1, x, .non t => by
    obtain ⟨T, k, q⟩ := EO.drop i x t
    exact ⟨T, k, .non q⟩
  | _, _, _, i + 1, x, .som (S := S0) r0 t => by
    obtain ⟨T, k, q⟩ := EO.drop i x t
    exact ⟨S0 ++ T, List.Sublist.append_left k S0, .som r0 q⟩

/-! ### a state, and what a step leaves -/
structure WF (K : PySem.W.Frag) (F H : Hp) (σ : St) (en : En) (S : List Addr) : Prop where
  fh : Ex F H
  off : ∀ a ∈ S, F a = none
  nd : S.Nodup
  eo : EO K F H σ en S
structure Step (F H : Hp) (S : List Addr) (F' H' : Hp) (S' : List Addr) : Prop where
  ff : Ex F F'
  hh : ∀ a o, H a = some o → a ∉ S → H' a = some o
  s : ∀ a ∈ S', a ∈ S ∨ H a = none
  f : ∀ a, F' a ≠ none → a ∈ S ∨ F a ≠ none ∨ H a = none
theorem Step.refl {F H : Hp} {S : List Addr} : Step F H S F H S := ⟨Ex.refl _, fun _ _ h _ => h, fun _ h => .inl h, fun _ h => .inr (.inl h)⟩
theorem Step.trans {F H F1 H1 F2 H2 : Hp} {S S1 S2 : List Addr} (a : Step F H S F1 H1 S1) (b : Step F1 H1 S1 F2 H2 S2) : Step F H S F2 H2 S2 where
  ff := a.ff.trans b.ff
  hh := fun x o h n => b.hh x o (a.hh x o h n) fun z => (a.s x z).elim n fun q => by rw [h] at q; cases q
  s := fun x h => by
    rcases b.s x h with h | h
    · exact a.s x h
    · by_cases n : x ∈ S
      · exact .inl n
      · cases q : H x with
        | none => exact .inr rfl
        | some o => rw [a.hh x o q n] at h; cases h
  f := fun x h => by
    rcases b.f x h with h | h | h
    · rcases a.s x h with z | z
      · exact .inl z
      · exact .inr (.inr z)
    · exact a.f x h
    · by_cases n : x ∈ S
      · exact .inl n
      · cases q : H x with
        | none => exact .inr (.inr rfl)
        | some o => rw [a.hh x o q n] at h; cases h
/-- fewer owned things -/
theorem Step.sub {F H F1 H1 : Hp} {S S1 S2 : List Addr} (a : Step F H S F1 H1 S1) (h : ∀ x ∈ S2, x ∈ S1) : Step F H S F1 H1 S2 := ⟨a.ff, a.hh, fun x q => a.s x (h x q), a.f⟩
/-- what stood apart of the step stands behind it -/
theorem Step.held {F H F1 H1 : Hp} {S S1 : List Addr} (a : Step F H S F1 H1 S1) {x : Addr} (hx : x ∉ S) (hH : H x ≠ none) (hF : F x = none) : H1 x = H x ∧ F1 x = none ∧ x ∉ S1 := by
  refine ⟨?_, ?_, fun z => (a.s x z).elim hx hH⟩
  · cases q : H x with
    | none => exact absurd q hH
    | some o => exact a.hh x o q hx
  · cases q : F1 x with
    | none => rfl
    | some o =>
      rcases a.f x (by rw [q]; exact fun z => nomatch z) with z | z | z
      · exact absurd z hx
      · exact absurd hF z
      · exact absurd z hH
end Ev
namespace Ev
noncomputable section
open PySem L2 Evl

mutual
def snap : O → Option PyData
  | .leaf d => some d
  | .lst os => (snaps os).map .list
  | .dct _ _ => none
  | .dt _ => none
  | .scr _ => none
def snaps : List O → Option (List PyData)
  | [] => some []
  | o :: os => match snap o with
    | some d => match snaps os with
      | some ds => some (d :: ds)
      | none => none
    | none => none
end
def leaves : List O → Option (List PyData)
  | [] => some []
  | .leaf d :: os => match leaves os with
    | some ds => some (d :: ds)
    | none => none
  | _ :: _ => none
@[simp] theorem leaves_map (ds : List PyData) : leaves (ds.map O.leaf) = some ds := by
  induction ds with
  | nil => rfl
  | cons d ds ih => simp [leaves, ih]
@[simp] theorem snaps_map (ds : List PyData) : snaps (ds.map O.leaf) = some ds := by
  induction ds with
  | nil => rfl
  | cons d ds ih => simp [snaps, snap, ih]
@[simp] theorem snap_leaf (d : PyData) : snap (.leaf d) = some d := by simp [snap]
@[simp] theorem snap_flat (ds : List PyData) : snap (.lst (ds.map O.leaf)) = some (.list ds) := by simp [snap]
mutual
theorem RO.thaw {K : PySem.W.Frag} {F F' H : Hp} (e : Ex F F') : ∀ {o : O} {v : V} {S : List Addr} {d : PyData}, RO K F H o v S → snap o = some d → (∀ a ∈ S, F' a = H a) → Dp K F' v d
  | _, _, _, _, .leaf q, h, _ => by
    simp [snap] at h
    subst h
    exact Dp.mono e _ _ q
  | _, _, _, _, .lst (a := a) h r, hs, k => by
    simp [snap] at hs
    obtain ⟨ds, hd, rfl⟩ := hs
    exact .lst ((k a (List.mem_cons_self ..)).trans h) (ROs.thaw e r hd fun b hb => k b (List.mem_cons_of_mem _ hb))
  | _, _, _, _, .dct _ _ _, hs, _ => by simp [snap] at hs
  | _, _, _, _, .dt _ _ _, hs, _ => by simp [snap] at hs
  | _, _, _, _, .scr _, hs, _ => by simp [snap] at hs
theorem ROs.thaw {K : PySem.W.Frag} {F F' H : Hp} (e : Ex F F') : ∀ {os : List O} {vs : List V} {S : List Addr} {ds : List PyData}, ROs K F H os vs S → snaps os = some ds → (∀ a ∈ S, F' a = H a) → DpAll K F' vs ds
  | _, _, _, _, .nil, h, _ => by
    simp [snaps] at h
    subst h
    exact .nil
  | _, _, _, _, .cons (o := o) (os := os) r t, hs, k => by
    cases q : snap o with
    | none => simp [snaps, q] at hs
    | some d =>
      cases q2 : snaps os with
      | none => simp [snaps, q, q2] at hs
      | some ds =>
        simp [snaps, q, q2] at hs
        subst hs
        exact .cons (RO.thaw e r q fun b hb => k b (List.mem_append_left _ hb)) (ROs.thaw e t q2 fun b hb => k b (List.mem_append_right _ hb))
end
theorem ROs.flat {K : PySem.W.Frag} {F H : Hp} : ∀ {os : List O} {vs : List V} {S : List Addr} {ds : List PyData}, ROs K F H os vs S → leaves os = some ds → DpAll K F vs ds ∧ S = []
  | _, _, _, _, .nil, h => by
    simp [leaves] at h
    subst h
    exact ⟨.nil, rfl⟩
  | _, _, _, _, .cons (o := o) (os := os) r t, hs => by
    cases r with
    | leaf q =>
      cases q2 : leaves os with
      | none => simp [leaves, q2] at hs
      | some ds =>
        simp [leaves, q2] at hs
        subst hs
        obtain ⟨h1, h2⟩ := ROs.flat t q2
        exact ⟨.cons q h1, by simp [h2]⟩
    | lst _ _ => simp [leaves] at hs
    | dct _ _ _ => simp [leaves] at hs
    | dt _ _ _ => simp [leaves] at hs
    | scr _ => simp [leaves] at hs
theorem ROs.ofAll {K : PySem.W.Frag} {F H : Hp} : ∀ {vs : List V} {ds : List PyData}, DpAll K F vs ds → ROs K F H (ds.map O.leaf) vs []
  | _, _, .nil => .nil
  | _, _, .cons r t => .cons (S := []) (T := []) (.leaf r) (ROs.ofAll t)

/-- the frozen heap with what stands at S -/
def fz (F H : Hp) (S : List Addr) : Hp := fun b => if b ∈ S then H b else F b
theorem fz_in {F H : Hp} {S : List Addr} {b : Addr} (h : b ∈ S) : fz F H S b = H b := by unfold fz; rw [if_pos h]
theorem fz_out {F H : Hp} {S : List Addr} {b : Addr} (h : b ∉ S) : fz F H S b = F b := by unfold fz; rw [if_neg h]
theorem fz_ex {F H : Hp} {S : List Addr} (k : ∀ a ∈ S, F a = none) : Ex F (fz F H S) := fun b o e => by
  rw [fz_out (fun z => by rw [k b z] at e; cases e)]
  exact e

section
variable {K : PySem.W.Frag} {F H F' H' : Hp} {σ : St} {en : En} {S : List Addr} {i : Nat} {o : O} {d : PyData} {v : V}
theorem nd_mid {A S1 B : List Addr} (h : (A ++ S1 ++ B).Nodup) : (A ++ B).Nodup ∧ S1.Nodup ∧ (∀ a ∈ S1, a ∉ A ++ B) := by
  rw [List.nodup_append, List.nodup_append] at h
  obtain ⟨⟨h1, h2, h3⟩, h4, h5⟩ := h
  refine ⟨?_, h2, fun a ha z => ?_⟩
  · rw [List.nodup_append]
    exact ⟨h1, h4, fun a ha b hb => h5 a (List.mem_append_left _ ha) b hb⟩
  · rcases List.mem_append.mp z with z | z
    · exact h3 a z a ha rfl
    · exact h5 a (List.mem_append_right _ ha) a z rfl
theorem mem_mid {A S1 B : List Addr} {a : Addr} : a ∈ A ++ S1 ++ B ↔ a ∈ S1 ∨ a ∈ A ++ B := by
  simp only [List.mem_append]
  constructor
  · rintro ((h | h) | h)
    · exact .inr (.inl h)
    · exact .inl h
    · exact .inr (.inr h)
  · rintro (h | h | h)
    · exact .inl (.inr h)
    · exact .inl (.inl h)
    · exact .inr h
theorem set_same {α : Type} : ∀ {l : List α} {i : Nat} {x : α}, l[i]? = some x → l.set i x = l
  | [], _, _, h => by simp at h
  | y :: l, 0, x, h => by simp at h; subst h; rfl
  | y :: l, i + 1, x, h => by
    have q : l.set i x = l := set_same (by simpa using h)
    rw [List.set_cons_succ, q]
/-- a name's object is frozen -/
theorem WF.freeze (W : WF K F H σ en S) (h : en[i]? = some (some o)) (hs : snap o = some d) :
    ∃ F' S' v, σ[i]? = some (some v) ∧ Step F H S F' H S' ∧ WF K F' H σ (en.set i (some (.leaf d))) S' ∧ Dp K F' v d := by
  obtain ⟨v, A, S1, B, e1, e2, r, f⟩ := W.eo.at h
  subst e2
  obtain ⟨n1, n2, n3⟩ := nd_mid W.nd
  have off1 : ∀ a ∈ S1, F a = none := fun a ha => W.off a (mem_mid.mpr (.inl ha))
  have ex := fz_ex (H := H) off1
  have dp := RO.thaw ex r hs fun a ha => fz_in ha
  have q := f (fz F H S1) H v (.leaf d) [] ex (fun _ _ => rfl) (.leaf dp)
  rw [set_same e1] at q
  refine ⟨fz F H S1, A ++ [] ++ B, v, e1, ⟨ex, fun _ _ h _ => h, fun a ha => .inl (mem_mid.mpr (.inr (by simpa using ha))), fun a ha => ?_⟩, ⟨fun a u z => ?_, fun a ha => ?_, by simpa using n1, q⟩, dp⟩
  · by_cases z : a ∈ S1
    · exact .inl (mem_mid.mpr (.inl z))
    · rw [fz_out z] at ha
      exact .inr (.inl ha)
  · by_cases y : a ∈ S1
    · rw [fz_in y] at z
      exact z
    · rw [fz_out y] at z
      exact W.fh a u z
  · have ha' : a ∈ A ++ B := by simpa using ha
    rw [fz_out (fun z => n3 a z ha')]
    exact W.off a (mem_mid.mpr (.inr ha'))
theorem WF.tail {x : Option V} {y : Option O} (W : WF K F H (x :: σ) (y :: en) S) : ∃ S', (∀ a ∈ S', a ∈ S) ∧ WF K F H σ en S' := by
  cases h : W.eo with
  | non t => exact ⟨S, fun _ h => h, W.fh, W.off, W.nd, t⟩
  | som r t =>
    rename_i S0 T
    exact ⟨T, fun _ h => List.mem_append_right _ h, W.fh, fun a ha => W.off a (List.mem_append_right _ ha), (List.nodup_append.mp W.nd).2.1, t⟩
theorem WF.slot (W : WF K F H σ en S) (h : en[i]? = some (some (.leaf d))) : ∃ v, σ[i]? = some (some v) ∧ Dp K F v d := by
  obtain ⟨v, A, S1, B, e1, _, r, _⟩ := W.eo.at h
  cases r with
  | leaf q => exact ⟨v, e1, q⟩
theorem WF.leaf (W : WF K F H σ en S) (h : Dp K F v d) : WF K F H (some v :: σ) (some (.leaf d) :: en) S :=
  ⟨W.fh, W.off, W.nd, .som (S := []) (.leaf h) W.eo⟩
theorem WF.head (W : WF K F H (some v :: σ) (some (.leaf d) :: en) S) : Dp K F v d ∧ WF K F H σ en S := by
  obtain ⟨fh, off, nd, eo⟩ := W
  cases eo with
  | som r t =>
    cases r with
    | leaf q => exact ⟨q, fh, by simpa using off, by simpa using nd, t⟩
/-- a new list of data -/
theorem WF.newLst {p : Addr} {xs : List V} {ds : List PyData} (W : WF K F H σ en S) (hp : H p = none) (h : DpAll K F xs ds) :
    Step F H S F (upd H p (.lst xs)) (p :: S) ∧ WF K F (upd H p (.lst xs)) (some (.ref p) :: σ) (some (.lst (ds.map O.leaf)) :: en) (p :: S) := by
  have nS : p ∉ S := fun z => W.eo.there p z hp
  have nF : F p = none := by
    cases q : F p with
    | none => rfl
    | some u => rw [W.fh p u q] at hp; cases hp
  refine ⟨⟨Ex.refl _, fun a u e _ => ?_, fun a ha => ?_, fun a ha => .inr (.inl ha)⟩, ⟨W.fh.trans (Ex.new hp), fun a ha => ?_, ?_, ?_⟩⟩
  · rw [upd_ne (ne_of_none e hp)]
    exact e
  · rcases List.mem_cons.mp ha with e | ha
    · exact .inr (by rw [e]; exact hp)
    · exact .inl ha
  · rcases List.mem_cons.mp ha with e | ha
    · rw [e]; exact nF
    · exact W.off a ha
  · exact List.nodup_cons.mpr ⟨nS, W.nd⟩
  · have t := W.eo.mono (H' := upd H p (.lst xs)) (Ex.refl F) fun a ha => upd_ne fun z => nS (by rw [← z]; exact ha)
    exact .som (S := [p]) (.lst (S := []) upd_same (ROs.ofAll h)) t
/-- a new tuple of data -/
theorem WF.newTup {p : Addr} {xs : List V} {ds : List PyData} (W : WF K F H σ en S) (hp : H p = none) (h : DpAll K F xs ds) :
    Step F H S (upd F p (.tup xs)) (upd H p (.tup xs)) S ∧ WF K (upd F p (.tup xs)) (upd H p (.tup xs)) (some (.ref p) :: σ) (some (.leaf (.tuple ds)) :: en) S := by
  have nS : p ∉ S := fun z => W.eo.there p z hp
  have nF : F p = none := by
    cases q : F p with
    | none => rfl
    | some u => rw [W.fh p u q] at hp; cases hp
  have ex : Ex F (upd F p (.tup xs)) := Ex.new nF
  refine ⟨⟨ex, fun a u e _ => ?_, fun a ha => .inl ha, fun a ha => ?_⟩, ⟨fun a u e => ?_, fun a ha => ?_, W.nd, ?_⟩⟩
  · rw [upd_ne (ne_of_none e hp)]
    exact e
  · by_cases e : a = p
    · exact .inr (.inr (by rw [e]; exact hp))
    · rw [upd_ne e] at ha
      exact .inr (.inl ha)
  · by_cases z : a = p
    · subst z
      rw [upd_same] at e ⊢
      exact e
    · rw [upd_ne z] at e ⊢
      exact W.fh a u e
  · rw [upd_ne fun z => nS (by rw [← z]; exact ha)]
    exact W.off a ha
  · have t := W.eo.mono (H' := upd H p (.tup xs)) ex fun a ha => upd_ne fun z => nS (by rw [← z]; exact ha)
    exact .som (S := []) (.leaf (.tup (st_of upd_same) (DpAll.mono ex _ _ h))) t
end

/-! ### readings -/
/-- what is wanted of a result -/
def Fin (K : PySem.W.Frag) (F H : Hp) (S : List Addr) (σ : St) (en : En) (o : O) (Q : VK) : Prop :=
  ∀ v F' H' S', Step F H S F' H' S' → WF K F' H' (some v :: σ) (some o :: en) S' → Q v H'
section
variable {K : PySem.W.Frag} {F H : Hp} {σ : St} {en : En} {S : List Addr} {d : PyData} {v : V} {Q : VK}
theorem Fin.leaf (q : Fin K F H S σ en (.leaf d) Q) (W : WF K F H σ en S) (h : Dp K F v d) : Q v H := q v F H S Step.refl (W.leaf h)
theorem Fin.lst {p : Addr} {xs : List V} {ds : List PyData} (q : Fin K F H S σ en (.lst (ds.map O.leaf)) Q) (W : WF K F H σ en S) (h : DpAll K F xs ds) (hp : H p = none) : Q (.ref p) (upd H p (.lst xs)) :=
  q _ _ _ _ (W.newLst hp h).1 (W.newLst hp h).2
theorem Fin.tup {p : Addr} {xs : List V} {ds : List PyData} (q : Fin K F H S σ en (.leaf (.tuple ds)) Q) (W : WF K F H σ en S) (h : DpAll K F xs ds) (hp : H p = none) : Q (.ref p) (upd H p (.tup xs)) :=
  q _ _ _ _ (W.newTup hp h).1 (W.newTup hp h).2
end
abbrev Xm := En → R (O × En)
def tE (K : PySem.W.Frag) (m : Xm) : TE := fun σ H Q => ∃ F S en o en', WF K F H σ en S ∧ m en = .ok (o, en') ∧ Fin K F H S σ en' o Q
def CE (X : Cx) (e : Expr) (m : Xm) : Prop := PE X e (tE X.K m)
theorem PE.imp {X : Cx} {e : Expr} {t t' : TE} (h : PE X e t) (k : ∀ σ H Q, t' σ H Q → t σ H Q) : PE X e t' := ⟨fun pins s σ H Q I q => h.run pins s σ H Q I (k σ H Q q)⟩
theorem PT.imp {X : Cx} {e : Expr} {t t' : TT} (h : PT X e t) (k : ∀ σ H Q, t' σ H Q → t σ H Q) : PT X e t' := ⟨fun pins s σ H Q I q => h.run pins s σ H Q I (k σ H Q q)⟩
theorem PA.imp {X : Cx} {e : List Expr} {t t' : TA} (h : PA X e t) (k : ∀ σ H Q, t' σ H Q → t σ H Q) : PA X e t' := ⟨fun pos pins s σ H Q I q => h.run pos pins s σ H Q I (k σ H Q q)⟩
theorem PS.imp {X : Cx} {e : Stmt} {t t' : TS} (h : PS X e t) (k : ∀ D σ H, t' D σ H → t D σ H) : PS X e t' := ⟨fun pins s σ H D I q => h.run pins s σ H D I (k D σ H q)⟩
theorem PSs.imp {X : Cx} {e : List Stmt} {t t' : TS} (h : PSs X e t) (k : ∀ D σ H, t' D σ H → t D σ H) : PSs X e t' := ⟨fun pins s σ H D I q => h.run pins s σ H D I (k D σ H q)⟩

/-! ### operands: data that is looked up when the operation comes -/
/-- data, the topmost list perhaps an object that a name owns -/
inductive DpT (K : PySem.W.Frag) (F H : Hp) : V → PyData → Prop
  | dp {v : V} {d : PyData} : Dp K F v d → DpT K F H v d
  | own {a : Addr} {xs : List V} {ds : List PyData} : H a = some (.lst xs) → DpAll K F xs ds → DpT K F H (.ref a) (.list ds)
theorem DpT.all {K : PySem.W.Frag} {F H : Hp} (e : Ex F H) {v : V} {d : PyData} : DpT K F H v d → Dp K H v d
  | .dp h => Dp.mono e _ _ h
  | .own h r => .lst h (DpAll.mono e _ _ r)
theorem DpT.list {K : PySem.W.Frag} {F H : Hp} (e : Ex F H) {v : V} {ds : List PyData} (h : DpT K F H v (.list ds)) : ∃ a xs, v = .ref a ∧ H a = some (.lst xs) ∧ DpAll K F xs ds := by
  cases h with
  | dp h =>
    cases h with
    | lst h r => exact ⟨_, _, rfl, e _ _ h, r⟩
  | own h r => exact ⟨_, _, rfl, h, r⟩
theorem DpT.tuple {K : PySem.W.Frag} {F H : Hp} (e : Ex F H) {v : V} {ds : List PyData} (h : DpT K F H v (.tuple ds)) : ∃ a xs, v = .ref a ∧ SqT K H a xs ∧ DpAll K F xs ds := by
  cases h with
  | dp h =>
    cases h with
    | tup h r => exact ⟨_, _, rfl, ex_t e h, r⟩
theorem DpT.int {K : PySem.W.Frag} {F H : Hp} {v : V} {i : Int} (h : DpT K F H v (.int i)) : v = .int i := by
  cases h with
  | dp h => cases h; rfl
theorem DpT.bool {K : PySem.W.Frag} {F H : Hp} {v : V} {i : Bool} (h : DpT K F H v (.bool i)) : v = .bl i := by
  cases h with
  | dp h => cases h; rfl
theorem DpT.str {K : PySem.W.Frag} {F H : Hp} {v : V} {i : Str} (h : DpT K F H v (.str i)) : v = .str i := by
  cases h with
  | dp h => cases h; rfl
theorem DpT.none {K : PySem.W.Frag} {F H : Hp} {v : V} (h : DpT K F H v .none) : v = .non := by
  cases h with
  | dp h => cases h; rfl
inductive DpTs (K : PySem.W.Frag) (F H : Hp) : List V → List PyData → Prop
  | nil : DpTs K F H [] []
  | cons {v : V} {d : PyData} {vs : List V} {ds : List PyData} : DpT K F H v d → DpTs K F H vs ds → DpTs K F H (v :: vs) (d :: ds)
theorem DpTs.one {K : PySem.W.Frag} {F H : Hp} {vs : List V} {d : PyData} (h : DpTs K F H vs [d]) : ∃ v, vs = [v] ∧ DpT K F H v d := by
  cases h with
  | cons a t => cases t; exact ⟨_, rfl, a⟩
theorem DpTs.two {K : PySem.W.Frag} {F H : Hp} {vs : List V} {d e : PyData} (h : DpTs K F H vs [d, e]) : ∃ v w, vs = [v, w] ∧ DpT K F H v d ∧ DpT K F H w e := by
  cases h with
  | cons a t =>
    cases t with
    | cons b t => cases t; exact ⟨_, _, rfl, a, b⟩

abbrev Rs := En → Option PyData
abbrev Om := En → R (Rs × En)
def OR (K : PySem.W.Frag) (σ : St) (F' : Hp) (r : Rs) (v : V) : Prop := ∀ F H S en d, Ex F' F → WF K F H σ en S → r en = some d → DpT K F H v d
theorem OR.mono {K : PySem.W.Frag} {σ : St} {F F' : Hp} {r : Rs} {v : V} (e : Ex F F') (h : OR K σ F r v) : OR K σ F' r v := fun F2 H S en d e2 W q => h F2 H S en d (e.trans e2) W q
def tO (K : PySem.W.Frag) (m : Om) : TE := fun σ H Q => ∃ F S en r en', WF K F H σ en S ∧ m en = .ok (r, en') ∧ ∀ v F' H' S', Step F H S F' H' S' → WF K F' H' σ en' S' → OR K σ F' r v → Q v H'
def CO (X : Cx) (e : Expr) (m : Om) : Prop := PE X e (tO X.K m)
/-- any expression: its value frozen at once -/
def oE (m : Xm) : Om := fun en => (m en).bind fun p => match snap p.1 with
  | some d => .ok (fun _ => some d, p.2)
  | none => .bad
/-- a name: looked up when the operation comes -/
def look : Option (Option O) → Option PyData
  | some (some (.leaf d)) => some d
  | some (some (.lst os)) => (leaves os).map .list
  | _ => none
def oPk (i : Nat) : Om := fun en => .ok (fun en => look en[i]?, en)
theorem R.ok_of_bind {α β : Type} {r : R α} {f : α → R β} {b : β} (h : r.bind f = .ok b) : ∃ a, r = .ok a ∧ f a = .ok b := by
  cases r with
  | bad => cases h
  | exc _ => cases h
  | ok a => exact ⟨a, rfl, h⟩
section
variable {X : Cx} {e : Expr}
theorem co_e {m : Xm} (h : CE X e m) : CO X e (oE m) := PE.imp h fun σ H Q q => by
  obtain ⟨F, S, en, r, en', W, hm, k⟩ := q
  obtain ⟨⟨o, e1⟩, h1, h2⟩ := R.ok_of_bind hm
  refine ⟨F, S, en, o, e1, W, h1, fun v F' H' S' st W' => ?_⟩
  dsimp only at h2
  cases hs : snap o with
  | none => rw [hs] at h2; cases h2
  | some d =>
    rw [hs] at h2
    cases h2
    obtain ⟨F2, S2, v2, e2, st2, W2, dp⟩ := W'.freeze (i := 0) rfl hs
    cases e2
    obtain ⟨dp, W3⟩ := W2.head
    exact k v F2 H' S2 (st.trans st2) W3 fun F3 H3 S3 en3 d3 ex _ q => by
      cases q
      exact .dp (Dp.mono ex _ _ dp)
theorem look_ok {K : PySem.W.Frag} {F H : Hp} {σ : St} {en : En} {S : List Addr} {i : Nat} {d : PyData} {v : V} (W : WF K F H σ en S) (hv : σ[i]? = some (some v)) (h : look en[i]? = some d) : DpT K F H v d := by
  cases q : en[i]? with
  | none => rw [q] at h; cases h
  | some y =>
    cases y with
    | none => rw [q] at h; cases h
    | some o =>
      rw [q] at h
      obtain ⟨v', A, S1, B, e1, _, r, _⟩ := W.eo.at q
      rw [hv] at e1
      cases e1
      cases o with
      | leaf d' =>
        cases h
        cases r with
        | leaf z => exact .dp z
      | lst os =>
        simp only [look] at h
        cases hl : leaves os with
        | none => rw [hl] at h; cases h
        | some ds =>
          rw [hl] at h
          cases h
          cases r with
          | lst z rs => exact .own z (ROs.flat rs hl).1
      | dct _ _ => cases h
      | dt _ => cases h
      | scr _ => cases h
/-- a name that holds something -/
theorem WF.has {K : PySem.W.Frag} {F H : Hp} {σ : St} {en : En} {S : List Addr} {i : Nat} {o : O} (W : WF K F H σ en S) (h : en[i]? = some (some o)) : ∃ v, σ[i]? = some (some v) := by
  obtain ⟨v, _, _, _, e1, _⟩ := W.eo.at h
  exact ⟨v, e1⟩
/-- looked up later, so it must hold something now -/
def oPk' (i : Nat) : Om := fun en => match en[i]? with
  | some (some _) => .ok (fun en => look en[i]?, en)
  | _ => .bad
theorem co_pk {i : Nat} {x : Str} {pos : Pos} (h : PE X (.Name x pos) (tVar i)) : CO X (.Name x pos) (oPk' i) := PE.imp h fun σ H Q q => by
  obtain ⟨F, S, en, r, en', W, hm, k⟩ := q
  unfold oPk' at hm
  cases z : en[i]? with
  | none => rw [z] at hm; cases hm
  | some y =>
    cases y with
    | none => rw [z] at hm; cases hm
    | some o =>
      rw [z] at hm
      cases hm
      obtain ⟨v, hv⟩ := W.has z
      exact ⟨v, hv, k v F H S Step.refl W fun F2 H2 S2 en2 d _ W2 q => look_ok W2 hv q⟩
end
end
end Ev
namespace Ev
noncomputable section
open PySem L2 Evl
section
variable {X : Cx} {a b c e : Expr} {es : List Expr} {pos : Pos} {K : PySem.W.Frag}

/-! ### two operands -/
def mOp2 (f : PyData → PyData → Option O) (a b : Om) : Xm := fun en => (a en).bind fun p => (b p.2).bind fun q => match p.1 q.2, q.1 q.2 with
  | some x, some y => match f x y with
    | some o => .ok (o, q.2)
    | none => .bad
  | _, _ => .bad
def OSnd (K : PySem.W.Frag) (r : R2) (f : PyData → PyData → Option O) : Prop :=
  ∀ F H S σ en x y dx dy o Q, WF K F H σ en S → DpT K F H x dx → DpT K F H y dy → f dx dy = some o → Fin K F H S σ en o Q → r x y H Q
theorem Fin.pre {K : PySem.W.Frag} {F H F1 H1 : Hp} {S S1 : List Addr} {σ : St} {en : En} {o : O} {Q : VK} (st : Step F H S F1 H1 S1) (q : Fin K F H S σ en o Q) : Fin K F1 H1 S1 σ en o Q :=
  fun v F' H' S' st' W' => q v F' H' S' (st.trans st') W'
theorem op2_read {r : R2} {f : PyData → PyData → Option O} {oa ob : Om} (h : OSnd K r f) (σ : St) (H : Hp) (Q : VK) (q : tE K (mOp2 f oa ob) σ H Q) :
    tOp r (tO K oa) (tO K ob) σ H Q := by
  obtain ⟨F, S, en, o, en', W, hm, k⟩ := q
  obtain ⟨⟨ra, e1⟩, h1, hm⟩ := R.ok_of_bind hm
  obtain ⟨⟨rb, e2⟩, h2, hm⟩ := R.ok_of_bind hm
  dsimp only at h2 hm
  refine ⟨F, S, en, ra, e1, W, h1, fun x F1 H1 S1 st1 W1 o1 => ?_⟩
  refine ⟨F1, S1, e1, rb, e2, W1, h2, fun y F2 H2 S2 st2 W2 o2 => ?_⟩
  cases ha : ra e2 with
  | none => rw [ha] at hm; cases hm
  | some dx =>
    cases hb : rb e2 with
    | none => rw [ha, hb] at hm; cases hm
    | some dy =>
      rw [ha, hb] at hm
      dsimp only at hm
      cases hf : f dx dy with
      | none => rw [hf] at hm; cases hm
      | some o' =>
        rw [hf] at hm
        cases hm
        exact h F2 H2 S2 σ en' x y dx dy o Q W2 (o1 F2 H2 S2 en' dx st2.ff W2 ha) (o2 F2 H2 S2 en' dy (Ex.refl _) W2 hb) hf (k.pre (st1.trans st2))
theorem ce_op {op : Operator} {r : R2} {f : PyData → PyData → Option O} {oa ob : Om} (ho : OpR X (binaryOp op) r) (h : OSnd X.K r f) (ha : CO X a oa) (hb : CO X b ob) : CE X (.BinOp a op b pos) (mOp2 f oa ob) :=
  PE.imp (pe_op ho ha hb) (op2_read h)
theorem ce_cmp {op : CmpOp} {r : R2} {f : PyData → PyData → Option O} {oa ob : Om} (ho : OpR X (compareOp op) r) (h : OSnd X.K r f) (ha : CO X a oa) (hb : CO X b ob) (hm : behindInMarks op b = false) : CE X (.Compare a [op] [b] pos) (mOp2 f oa ob) :=
  PE.imp (pe_cmpR ho ha hb hm) (op2_read h)
theorem ce_ix {r : R2} {f : PyData → PyData → Option O} {oa ob : Om} (ho : IxR X r) (h : OSnd X.K r f) (ha : CO X a oa) (hb : CO X b ob) (hs : PlainIx b) : CE X (.Subscript a b pos) (mOp2 f oa ob) :=
  PE.imp (pe_ix ho ha hb hs) (op2_read h)

/-! ### tests -/
def tT (K : PySem.W.Frag) (m : Xm) : TT := fun σ H Q => ∃ F S en b en', WF K F H σ en S ∧ m en = .ok (.leaf (.bool b), en') ∧ ∀ F' H' S', Step F H S F' H' S' → WF K F' H' σ en' S' → Q b H'
def CT (X : Cx) (e : Expr) (m : Xm) : Prop := PT X e (tT X.K m)
theorem tE_bl {m : Xm} {σ : St} {H : Hp} {Q : Bool → Hp → Prop} (q : tT K m σ H Q) : tE K m σ H fun x H' => ∃ k, x = .bl k ∧ Q k H' := by
  obtain ⟨F, S, en, b, en', W, hm, k⟩ := q
  refine ⟨F, S, en, _, en', W, hm, fun v F' H' S' st W' => ?_⟩
  obtain ⟨dp, W2⟩ := W'.head
  cases dp
  exact ⟨b, rfl, k F' H' S' st W2⟩
theorem ct_val {m : Xm} (h : CE X e m) (he : ∀ whole, isTrue e X.env whole = (do let v ← whole; standAt e.pos; holding [v] (truthy v)) := by intro _; rfl) : CT X e m :=
  PT.imp (pt_val h he) fun σ H Q q => tE_bl q
theorem ct_cmp {op : CmpOp} {r : R2} {f : PyData → PyData → Option O} {oa ob : Om} (ho : OpR X (compareOp op) r) (h : OSnd X.K r f) (ha : CO X a oa) (hb : CO X b ob) (hm : behindInMarks op b = false) : CT X (.Compare a [op] [b] pos) (mOp2 f oa ob) :=
  PT.imp (pt_cmpR ho ha hb hm) fun σ H Q q => op2_read h σ H _ (tE_bl q)
def mNot (a : Xm) : Xm := fun en => (a en).bind fun p => match p.1 with
  | .leaf (.bool b) => .ok (.leaf (.bool (!b)), p.2)
  | _ => .bad
def mAnd (a b : Xm) : Xm := fun en => (a en).bind fun p => match p.1 with
  | .leaf (.bool true) => b p.2
  | .leaf (.bool false) => .ok (.leaf (.bool false), p.2)
  | _ => .bad
def mOr (a b : Xm) : Xm := fun en => (a en).bind fun p => match p.1 with
  | .leaf (.bool false) => b p.2
  | .leaf (.bool true) => .ok (.leaf (.bool true), p.2)
  | _ => .bad
def mIf (c a b : Xm) : Xm := fun en => (c en).bind fun p => match p.1 with
  | .leaf (.bool true) => a p.2
  | .leaf (.bool false) => b p.2
  | _ => .bad
/-- what a test's answer may be -/
theorem bool_or (o : O) : (∃ b, o = .leaf (.bool b)) ∨ ∀ b, o ≠ .leaf (.bool b) := by
  cases o with
  | leaf d =>
    cases d with
    | bool b => exact .inl ⟨b, rfl⟩
    | _ => exact .inr fun _ z => by cases z
  | _ => exact .inr fun _ z => by cases z
theorem mNot_ok {m : Xm} {en en' : En} {o : O} (h : mNot m en = .ok (o, en')) : ∃ b, m en = .ok (.leaf (.bool b), en') ∧ o = .leaf (.bool (!b)) := by
  obtain ⟨⟨o1, e1⟩, h1, h2⟩ := R.ok_of_bind h
  rcases bool_or o1 with ⟨b, rfl⟩ | n
  · cases h2
    exact ⟨b, h1, rfl⟩
  · dsimp only at h2
    split at h2
    · exact absurd rfl (n _)
    · cases h2
theorem mAnd_ok {m n : Xm} {en en' : En} {o : O} (h : mAnd m n en = .ok (o, en')) : ∃ b e1, m en = .ok (.leaf (.bool b), e1) ∧ (if b = true then n e1 = .ok (o, en') else (o, en') = (.leaf (.bool false), e1)) := by
  obtain ⟨⟨o1, e1⟩, h1, h2⟩ := R.ok_of_bind h
  rcases bool_or o1 with ⟨b, rfl⟩ | no
  · refine ⟨b, e1, h1, ?_⟩
    cases b with
    | true => exact h2
    | false => cases h2; rfl
  · dsimp only at h2
    split at h2
    · exact absurd rfl (no _)
    · exact absurd rfl (no _)
    · cases h2
theorem mOr_ok {m n : Xm} {en en' : En} {o : O} (h : mOr m n en = .ok (o, en')) : ∃ b e1, m en = .ok (.leaf (.bool b), e1) ∧ (if b = true then (o, en') = (.leaf (.bool true), e1) else n e1 = .ok (o, en')) := by
  obtain ⟨⟨o1, e1⟩, h1, h2⟩ := R.ok_of_bind h
  rcases bool_or o1 with ⟨b, rfl⟩ | no
  · refine ⟨b, e1, h1, ?_⟩
    cases b with
    | true => cases h2; rfl
    | false => exact h2
  · dsimp only at h2
    split at h2
    · exact absurd rfl (no _)
    · exact absurd rfl (no _)
    · cases h2
theorem mIf_ok {c m n : Xm} {en en' : En} {o : O} (h : mIf c m n en = .ok (o, en')) : ∃ b e1, c en = .ok (.leaf (.bool b), e1) ∧ (if b = true then m e1 = .ok (o, en') else n e1 = .ok (o, en')) := by
  obtain ⟨⟨o1, e1⟩, h1, h2⟩ := R.ok_of_bind h
  rcases bool_or o1 with ⟨b, rfl⟩ | no
  · refine ⟨b, e1, h1, ?_⟩
    cases b with
    | true => exact h2
    | false => exact h2
  · dsimp only at h2
    split at h2
    · exact absurd rfl (no _)
    · exact absurd rfl (no _)
    · cases h2
theorem ct_not {m : Xm} (h : CT X a m) : CT X (.UnaryOp .Not a pos) (mNot m) := PT.imp (pt_not h) fun σ H Q q => by
  obtain ⟨F, S, en, b, en', W, hm, k⟩ := q
  obtain ⟨c, h1, h2⟩ := mNot_ok hm
  cases h2
  exact ⟨F, S, en, c, en', W, h1, k⟩
theorem ce_not {m : Xm} (h : CE X a m) : CE X (.UnaryOp .Not a pos) (mNot m) := PE.imp (pe_not h) fun σ H Q q => by
  obtain ⟨F, S, en, o, en', W, hm, k⟩ := q
  obtain ⟨c, h1, rfl⟩ := mNot_ok hm
  refine tE_bl (Q := fun c H' => Q (.bl (!c)) H') ⟨F, S, en, c, en', W, h1, fun F' H' S' st W' => ?_⟩
  exact k _ F' H' S' st (W'.leaf (.bl _))
def CW (X : Cx) (e : Expr) (m : Xm) : Prop := PW X e (tT X.K m)
theorem PW.imp {X : Cx} {e : Expr} {t t' : TT} (h : PW X e t) (k : ∀ σ H Q, t' σ H Q → t σ H Q) : PW X e t' := ⟨fun wh pins s σ H Q I q => h.run wh pins s σ H Q I (k σ H Q q)⟩
theorem cw_and1 {m : Xm} (h : CT X a m) : CW X (.BoolOp .And [a] pos) m := pw_and1 h
theorem cw_or1 {m : Xm} (h : CT X a m) : CW X (.BoolOp .Or [a] pos) m := pw_or1 h
theorem cw_and {m n : Xm} (h : CT X a m) (h2 : CW X (.BoolOp .And (b :: es) pos) n) : CW X (.BoolOp .And (a :: b :: es) pos) (mAnd m n) := PW.imp (pw_and h h2) fun σ H Q q => by
  obtain ⟨F, S, en, r, en', W, hm, k⟩ := q
  obtain ⟨c, e1, h1, h2⟩ := mAnd_ok hm
  refine ⟨F, S, en, c, e1, W, h1, fun F' H' S' st W' => ?_⟩
  cases c with
  | true => exact ⟨F', S', e1, r, en', W', h2, fun F2 H2 S2 st2 W2 => k F2 H2 S2 (st.trans st2) W2⟩
  | false => cases h2; exact k F' H' S' st W'
theorem cw_or {m n : Xm} (h : CT X a m) (h2 : CW X (.BoolOp .Or (b :: es) pos) n) : CW X (.BoolOp .Or (a :: b :: es) pos) (mOr m n) := PW.imp (pw_or h h2) fun σ H Q q => by
  obtain ⟨F, S, en, r, en', W, hm, k⟩ := q
  obtain ⟨c, e1, h1, h2⟩ := mOr_ok hm
  refine ⟨F, S, en, c, e1, W, h1, fun F' H' S' st W' => ?_⟩
  cases c with
  | true => cases h2; exact k F' H' S' st W'
  | false => exact ⟨F', S', e1, r, en', W', h2, fun F2 H2 S2 st2 W2 => k F2 H2 S2 (st.trans st2) W2⟩
theorem CW.ct {m : Xm} (h : CW X e m) : CT X e m := PW.pt h
theorem ce_one {op : BoolOp} {m : Xm} (h : CE X a m) : CE X (.BoolOp op [a] pos) m := pe_one h
theorem ce_and {m n : Xm} (h : CE X a m) (h2 : CE X (.BoolOp .And (b :: es) pos) n) : CE X (.BoolOp .And (a :: b :: es) pos) (mAnd m n) := PE.imp (pe_and h h2) fun σ H Q q => by
  obtain ⟨F, S, en, r, en', W, hm, k⟩ := q
  obtain ⟨c, e1, h1, h2⟩ := mAnd_ok hm
  refine tE_bl (Q := fun c H' => if c = true then tE X.K n σ H' Q else Q (.bl false) H') ⟨F, S, en, c, e1, W, h1, fun F' H' S' st W' => ?_⟩
  cases c with
  | true => exact ⟨F', S', e1, r, en', W', h2, k.pre st⟩
  | false => cases h2; exact k _ F' H' S' st (W'.leaf (.bl _))
theorem ce_or {m n : Xm} (h : CE X a m) (h2 : CE X (.BoolOp .Or (b :: es) pos) n) : CE X (.BoolOp .Or (a :: b :: es) pos) (mOr m n) := PE.imp (pe_or h h2) fun σ H Q q => by
  obtain ⟨F, S, en, r, en', W, hm, k⟩ := q
  obtain ⟨c, e1, h1, h2⟩ := mOr_ok hm
  refine tE_bl (Q := fun c H' => if c = true then Q (.bl true) H' else tE X.K n σ H' Q) ⟨F, S, en, c, e1, W, h1, fun F' H' S' st W' => ?_⟩
  cases c with
  | true => cases h2; exact k _ F' H' S' st (W'.leaf (.bl _))
  | false => exact ⟨F', S', e1, r, en', W', h2, k.pre st⟩
theorem ce_if {mc ma mb : Xm} (hc : CT X c mc) (ha : CE X a ma) (hb : CE X b mb) : CE X (.IfExp c a b pos) (mIf mc ma mb) := PE.imp (pe_ifExp hc ha hb) fun σ H Q q => by
  obtain ⟨F, S, en, r, en', W, hm, k⟩ := q
  obtain ⟨d, e1, h1, h2⟩ := mIf_ok hm
  refine ⟨F, S, en, d, e1, W, h1, fun F' H' S' st W' => ?_⟩
  cases d with
  | true => exact ⟨F', S', e1, r, en', W', h2, k.pre st⟩
  | false => exact ⟨F', S', e1, r, en', W', h2, k.pre st⟩

/-! ### constants and names -/
def mC (d : PyData) : Xm := fun en => .ok (.leaf d, en)
theorem tC_read {d : PyData} {v : V} (hd : ∀ F, Dp K F v d) (σ : St) (H : Hp) (Q : VK) (q : tE K (mC d) σ H Q) : tC v σ H Q := by
  obtain ⟨F, S, en, r, en', W, hm, k⟩ := q
  cases hm
  exact k.leaf W (hd F)
theorem ce_int {i : Int} {j : Nat} : CE X (.Constant (.int i) j pos) (mC (.int i)) := PE.imp pe_int (tC_read fun _ => .int i)
theorem ce_bl {i : Bool} {j : Nat} : CE X (.Constant (.bool i) j pos) (mC (.bool i)) := PE.imp pe_bl (tC_read fun _ => .bl i)
theorem ce_non {j : Nat} : CE X (.Constant .none j pos) (mC .none) := PE.imp pe_non (tC_read fun _ => .non)
theorem ce_str {x : Str} {j : Nat} : CE X (.Constant (.str x) j pos) (mC (.str x)) := PE.imp pe_str (tC_read fun _ => .str x)
/-- a module's constant -/
theorem ce_glob {e : Expr} {d : PyData} {v : V} (h : PE X e (tC v)) (hd : ∀ F, Dp X.K F v d) : CE X e (mC d) := PE.imp h (tC_read hd)
/-- a name's value, frozen if the name owns it -/
def mFz (i : Nat) : Xm := fun en => match en[i]? with
  | some (some (.leaf d)) => .ok (.leaf d, en)
  | some (some o) => match snap o with
    | some d => .ok (.leaf d, en.set i (some (.leaf d)))
    | none => .bad
  | _ => .bad
theorem mFz_ok {i : Nat} {en en' : En} {o : O} (h : mFz i en = .ok (o, en')) : ∃ o0 d, en[i]? = some (some o0) ∧ snap o0 = some d ∧ o = .leaf d ∧ en' = en.set i (some (.leaf d)) := by
  unfold mFz at h
  cases q : en[i]? with
  | none => rw [q] at h; cases h
  | some y =>
    cases y with
    | none => rw [q] at h; cases h
    | some o0 =>
      rw [q] at h
      cases o0 with
      | leaf d =>
        cases h
        exact ⟨_, d, rfl, by simp [snap], rfl, (set_same q).symm⟩
      | lst os =>
        dsimp only at h
        cases hs : snap (.lst os) with
        | none => rw [hs] at h; cases h
        | some d =>
          rw [hs] at h
          cases h
          exact ⟨_, d, rfl, hs, rfl, rfl⟩
      | dct ks os => simp [snap] at h
      | dt kvs => simp [snap] at h
      | scr ns => simp [snap] at h
theorem ce_nm {i : Nat} {x : Str} (h : PE X (.Name x pos) (tVar i)) : CE X (.Name x pos) (mFz i) := PE.imp h fun σ H Q q => by
  obtain ⟨F, S, en, r, en', W, hm, k⟩ := q
  obtain ⟨o0, d, e1, e2, rfl, rfl⟩ := mFz_ok hm
  obtain ⟨F', S', v, e3, st, W', dp⟩ := W.freeze e1 e2
  exact ⟨v, e3, k v F' H S' st (W'.leaf dp)⟩
/-- a name's object handed on: the name holds nothing from here on -/
def mMv (i : Nat) : Xm := fun en => match en[i]? with
  | some (some o) => .ok (o, en.set i none)
  | _ => .bad
theorem EO.take {F H : Hp} : ∀ {σ : St} {en : En} {S : List Addr} {i : Nat} {o : O}, EO K F H σ en S → en[i]? = some (some o) →
    ∃ (v : V) (A S1 B : List Addr), σ[i]? = some (some v) ∧ S = A ++ S1 ++ B ∧ RO K F H o v S1 ∧ EO K F H σ (en.set i none) (A ++ B)
  | _, _, _, _, _, .nil, e => by simp at e
  | _, _, _, 0, _, .non t, e => by simp at e
  | _, _, _, 0, _, .som (S := S1) (T := B) r t, e => by
    simp at e
    subst e
    exact ⟨_, [], S1, B, rfl, by simp, r, .non t⟩
  | _, _, _, i + 1, o, .non t, e => by
    obtain ⟨v, A, S1, B, e1, e2, r, f⟩ := EO.take (i := i) (o := o) t (by simpa using e)
    exact ⟨v, A, S1, B, by simpa using e1, e2, r, .non f⟩
  | _, _, _, i + 1, o, .som (S := S0) r0 t, e => by
    obtain ⟨v, A, S1, B, e1, e2, r, f⟩ := EO.take (i := i) (o := o) t (by simpa using e)
    refine ⟨v, S0 ++ A, S1, B, by simpa using e1, by rw [e2]; simp only [List.append_assoc], r, ?_⟩
    have q : EO K F H (some _ :: _) (some _ :: _) (S0 ++ (A ++ B)) := .som r0 f
    simpa only [List.append_assoc, List.set_cons_succ] using q
theorem WF.move {F H : Hp} {σ : St} {en : En} {S : List Addr} {i : Nat} {o : O} (W : WF K F H σ en S) (h : en[i]? = some (some o)) :
    ∃ v S', σ[i]? = some (some v) ∧ (∀ a ∈ S', a ∈ S) ∧ WF K F H (some v :: σ) (some o :: en.set i none) S' := by
  obtain ⟨v, A, S1, B, e1, e2, r, t⟩ := W.eo.take h
  subst e2
  obtain ⟨n1, n2, n3⟩ := nd_mid W.nd
  have mem : ∀ a, a ∈ S1 ++ (A ++ B) → a ∈ A ++ S1 ++ B := fun a ha => mem_mid.mpr (List.mem_append.mp ha)
  refine ⟨v, S1 ++ (A ++ B), e1, mem, ⟨W.fh, fun a ha => W.off a (mem a ha), ?_, .som r t⟩⟩
  rw [List.nodup_append]
  exact ⟨n2, n1, fun a ha b hb z => n3 a ha (by rw [z]; exact hb)⟩
theorem ce_mv {i : Nat} {x : Str} (h : PE X (.Name x pos) (tVar i)) : CE X (.Name x pos) (mMv i) := PE.imp h fun σ H Q q => by
  obtain ⟨F, S, en, r, en', W, hm, k⟩ := q
  unfold mMv at hm
  cases z : en[i]? with
  | none => rw [z] at hm; cases hm
  | some y =>
    cases y with
    | none => rw [z] at hm; cases hm
    | some o =>
      rw [z] at hm
      cases hm
      obtain ⟨v, S', e1, sub, W'⟩ := W.move z
      exact ⟨v, e1, k v F H S' (Step.refl.sub sub) W'⟩

/-! ### argument lists, displays, built-in functions -/
abbrev As := En → R (List Rs × En)
def tAs (K : PySem.W.Frag) (m : As) : TA := fun σ H Q => ∃ F S en rs en', WF K F H σ en S ∧ m en = .ok (rs, en') ∧ ∀ vs F' H' S', Step F H S F' H' S' → WF K F' H' σ en' S' → Paired (OR K σ F') rs vs → Q vs H'
def CA (X : Cx) (es : List Expr) (m : As) : Prop := PA X es (tAs X.K m)
def aNil : As := fun en => .ok ([], en)
def aCons (a : Om) (r : As) : As := fun en => (a en).bind fun p => (r p.2).bind fun q => .ok (p.1 :: q.1, q.2)
theorem ca_nil : CA X [] aNil := PA.imp pa_nil fun σ H Q q => by
  obtain ⟨F, S, en, rs, en', W, hm, k⟩ := q
  cases hm
  exact k [] F H S Step.refl W .nil
theorem cons_read {ma : Om} {mr : As} (σ : St) (H : Hp) (Q : List V → Hp → Prop) (q : tAs K (aCons ma mr) σ H Q) : tCons (tO K ma) (tAs K mr) σ H Q := by
  obtain ⟨F, S, en, rs, en', W, hm, k⟩ := q
  obtain ⟨⟨ra, e1⟩, h1, hm⟩ := R.ok_of_bind hm
  obtain ⟨⟨rr, e2⟩, h2, hm⟩ := R.ok_of_bind hm
  cases hm
  refine ⟨F, S, en, ra, e1, W, h1, fun x F1 H1 S1 st1 W1 o1 => ?_⟩
  exact ⟨F1, S1, e1, rr, e2, W1, h2, fun vs F2 H2 S2 st2 W2 os => k _ F2 H2 S2 (st1.trans st2) W2 (.cons (o1.mono st2.ff) os)⟩
theorem ca_cons {ma : Om} {mr : As} (ha : CO X e ma) (hr : CA X es mr) (hs : starEach (e :: es) X.env = (false, eval e X.env) :: starEach es X.env := by rfl) : CA X (e :: es) (aCons ma mr) :=
  PA.imp (pa_cons ha hr hs) cons_read
def resA : List Rs → En → Option (List PyData)
  | [], _ => some []
  | r :: rs, en => match r en with
    | some d => match resA rs en with
      | some ds => some (d :: ds)
      | none => none
    | none => none
theorem resA_ok {F H : Hp} {σ : St} {en : En} {S : List Addr} (W : WF K F H σ en S) : ∀ {rs : List Rs} {vs : List V} {ds : List PyData}, Paired (OR K σ F) rs vs → resA rs en = some ds → DpTs K F H vs ds
  | _, _, _, .nil, h => by cases h; exact .nil
  | r :: rs, _, _, .cons o t, h => by
    simp only [resA] at h
    cases q : r en with
    | none => rw [q] at h; cases h
    | some d =>
      cases q2 : resA rs en with
      | none => rw [q, q2] at h; cases h
      | some ds =>
        rw [q, q2] at h
        cases h
        exact .cons (o F H S en d (Ex.refl _) W q) (resA_ok W t q2)
def mAs (f : List PyData → Option O) (m : As) : Xm := fun en => (m en).bind fun p => match resA p.1 p.2 with
  | some ds => match f ds with
    | some o => .ok (o, p.2)
    | none => .bad
  | none => .bad
theorem mAs_ok {f : List PyData → Option O} {m : As} {en en' : En} {o : O} (h : mAs f m en = .ok (o, en')) : ∃ rs ds, m en = .ok (rs, en') ∧ resA rs en' = some ds ∧ f ds = some o := by
  obtain ⟨⟨rs, e1⟩, h1, h2⟩ := R.ok_of_bind h
  dsimp only at h2
  cases q : resA rs e1 with
  | none => rw [q] at h2; cases h2
  | some ds =>
    rw [q] at h2
    dsimp only at h2
    cases q2 : f ds with
    | none => rw [q2] at h2; cases h2
    | some o' =>
      rw [q2] at h2
      cases h2
      exact ⟨rs, ds, h1, q, q2⟩
def CSnd (K : PySem.W.Frag) (r : List V → Hp → VK → Prop) (f : List PyData → Option O) : Prop :=
  ∀ F H S σ en vs ds o Q, WF K F H σ en S → DpTs K F H vs ds → f ds = some o → Fin K F H S σ en o Q → r vs H Q
theorem cb_read {r : List V → Hp → VK → Prop} {f : List PyData → Option O} {m : As} (h : CSnd K r f) (σ : St) (H : Hp) (Q : VK) (q : tE K (mAs f m) σ H Q) : tCB r (tAs K m) σ H Q := by
  obtain ⟨F, S, en, o, en', W, hm, k⟩ := q
  obtain ⟨rs, ds, h1, h2, h3⟩ := mAs_ok hm
  exact ⟨F, S, en, rs, en', W, h1, fun vs F1 H1 S1 st1 W1 os => h F1 H1 S1 σ en' vs ds o Q W1 (resA_ok W1 os h2) h3 (k.pre st1)⟩
/-- frozen arguments alone -/
def alls : List PyData → Option O := fun ds => some (.leaf (.tuple ds))
theorem DpTs.frozen {F H : Hp} : ∀ {vs : List V} {ds : List PyData}, DpTs K F H vs ds → (∀ v ∈ vs, ∀ d, DpT K F H v d → Dp K F v d) → DpAll K F vs ds
  | _, _, .nil, _ => .nil
  | _, _, .cons a t, k => .cons (k _ (List.mem_cons_self ..) _ a) (DpTs.frozen t fun v hv => k v (List.mem_cons_of_mem _ hv))
end
end
end Ev
namespace Ev
noncomputable section
open PySem L2 Evl
inductive Out where
  | nx (en : En)
  | rt (o : O) (en : En)
  | bk (en : En)
  | ct (en : En)
abbrev Sm := En → R Out
/-- the slot that is handed in and out is not stored to -/
def Pin (pin : List Nat) (σ σ' : St) : Prop := ∀ i ∈ pin, σ'[i]? = σ[i]?
theorem Pin.refl {pin : List Nat} {σ : St} : Pin pin σ σ := fun _ _ => rfl
theorem Pin.trans {pin : List Nat} {σ σ1 σ2 : St} (a : Pin pin σ σ1) (b : Pin pin σ1 σ2) : Pin pin σ σ2 := fun i h => (b i h).trans (a i h)
theorem Pin.set {pin : List Nat} {σ : St} {i : Nat} {x : Option V} (h : i ∉ pin) : Pin pin σ (σ.set i x) := fun j e => by
  rw [List.getElem?_set_ne fun z => h (by rw [z]; exact e)]
theorem Pin.sub {pin pin' : List Nat} {σ σ' : St} (a : Pin pin σ σ') (h : ∀ i ∈ pin', i ∈ pin) : Pin pin' σ σ' := fun i e => a i (h i e)
def OutK (K : PySem.W.Frag) (pin : List Nat) (F H : Hp) (S : List Addr) (σ : St) (D : Ends) : Out → Prop
  | .nx en' => ∀ σ' F' H' S', Step F H S F' H' S' → WF K F' H' σ' en' S' → Pin pin σ σ' → D.nx σ' H'
  | .rt o en' => ∀ v σ' F' H' S', Step F H S F' H' S' → WF K F' H' (some v :: σ') (some o :: en') S' → Pin pin σ σ' → D.rt v H'
  | .bk en' => ∀ σ' F' H' S', Step F H S F' H' S' → WF K F' H' σ' en' S' → Pin pin σ σ' → D.bk σ' H'
  | .ct en' => ∀ σ' F' H' S', Step F H S F' H' S' → WF K F' H' σ' en' S' → Pin pin σ σ' → D.ct σ' H'
theorem OutK.pre {K : PySem.W.Frag} {pin : List Nat} {F H F1 H1 : Hp} {S S1 : List Addr} {σ σ1 : St} {D : Ends} {out : Out} (st : Step F H S F1 H1 S1) (p : Pin pin σ σ1) (k : OutK K pin F H S σ D out) : OutK K pin F1 H1 S1 σ1 D out := by
  cases out with
  | nx en' => exact fun σ' F' H' S' st' W q => k σ' F' H' S' (st.trans st') W (p.trans q)
  | rt o en' => exact fun v σ' F' H' S' st' W q => k v σ' F' H' S' (st.trans st') W (p.trans q)
  | bk en' => exact fun σ' F' H' S' st' W q => k σ' F' H' S' (st.trans st') W (p.trans q)
  | ct en' => exact fun σ' F' H' S' st' W q => k σ' F' H' S' (st.trans st') W (p.trans q)
def tS (K : PySem.W.Frag) (pin : List Nat) (m : Sm) : TS := fun D σ H => ∃ F S en out, WF K F H σ en S ∧ m en = .ok out ∧ OutK K pin F H S σ D out
def CS (X : Cx) (pin : List Nat) (s : Stmt) (m : Sm) : Prop := PS X s (tS X.K pin m)
def CSs (X : Cx) (pin : List Nat) (s : List Stmt) (m : Sm) : Prop := PSs X s (tS X.K pin m)
section
variable {X : Cx} {pin : List Nat} {a b c e : Expr} {es : List Expr} {pos : Pos} {st : Stmt} {sts : List Stmt} {K : PySem.W.Frag}
def sSkip : Sm := fun en => .ok (.nx en)
def sSeq (m n : Sm) : Sm := fun en => (m en).bind fun o => match o with
  | .nx e1 => n e1
  | .rt o e1 => .ok (.rt o e1)
  | .bk e1 => .ok (.bk e1)
  | .ct e1 => .ok (.ct e1)
theorem css_nil : CSs X pin [] sSkip := PSs.imp pss_nil fun D σ H q => by
  obtain ⟨F, S, en, out, W, hm, k⟩ := q
  cases hm
  exact k σ F H S Step.refl W Pin.refl
theorem css_cons {m n : Sm} (h1 : CS X pin st m) (h2 : CSs X pin sts n) : CSs X pin (st :: sts) (sSeq m n) := PSs.imp (pss_cons h1 h2) fun D σ H q => by
  obtain ⟨F, S, en, out, W, hm, k⟩ := q
  obtain ⟨o, h1, h2⟩ := R.ok_of_bind hm
  refine ⟨F, S, en, o, W, h1, ?_⟩
  cases o with
  | nx e1 => exact fun σ' F' H' S' st W' p => ⟨F', S', e1, out, W', h2, k.pre st p⟩
  | rt r e1 => cases h2; exact k
  | bk e1 => cases h2; exact k
  | ct e1 => cases h2; exact k
theorem css_one {m : Sm} (h : CS X pin st m) : CSs X pin [st] m := pss_one h
def sRet (m : Xm) : Sm := fun en => (m en).bind fun p => .ok (.rt p.1 p.2)
theorem cs_ret {m : Xm} (h : CE X e m) : CS X pin (.Return (some e) pos) (sRet m) := PS.imp (ps_ret h) fun D σ H q => by
  obtain ⟨F, S, en, out, W, hm, k⟩ := q
  obtain ⟨⟨o, e1⟩, h1, h2⟩ := R.ok_of_bind hm
  cases h2
  exact ⟨F, S, en, o, e1, W, h1, fun v F' H' S' st W' => k v σ F' H' S' st W' Pin.refl⟩
def sRetN : Sm := fun en => .ok (.rt (.leaf .none) en)
theorem cs_retN : CS X pin (.Return none pos) sRetN := PS.imp ps_retN fun D σ H q => by
  obtain ⟨F, S, en, out, W, hm, k⟩ := q
  cases hm
  exact k .non σ F H S Step.refl (W.leaf .non) Pin.refl
def sDrop (m : Xm) : Sm := fun en => (m en).bind fun p => .ok (.nx p.2)
theorem cs_expr {m : Xm} (h : CE X e m) (hs : swapsWith e none pos.line X.env = pure false := by rfl) : CS X pin (.Expr e pos) (sDrop m) := PS.imp (ps_expr h hs) fun D σ H q => by
  obtain ⟨F, S, en, out, W, hm, k⟩ := q
  obtain ⟨⟨o, e1⟩, h1, h2⟩ := R.ok_of_bind hm
  cases h2
  refine ⟨F, S, en, o, e1, W, h1, fun v F' H' S' st W' => ?_⟩
  obtain ⟨S2, sub, W2⟩ := W'.tail
  exact k σ F' H' S2 (st.sub sub) W2 Pin.refl
def sIf (c : Xm) (a b : Sm) : Sm := fun en => (c en).bind fun p => match p.1 with
  | .leaf (.bool true) => a p.2
  | .leaf (.bool false) => b p.2
  | _ => .bad
theorem sIf_ok {c : Xm} {m n : Sm} {en : En} {o : Out} (h : sIf c m n en = .ok o) : ∃ b e1, c en = .ok (.leaf (.bool b), e1) ∧ (if b = true then m e1 = .ok o else n e1 = .ok o) := by
  obtain ⟨⟨o1, e1⟩, h1, h2⟩ := R.ok_of_bind h
  rcases bool_or o1 with ⟨b, rfl⟩ | no
  · refine ⟨b, e1, h1, ?_⟩
    cases b with
    | true => exact h2
    | false => exact h2
  · dsimp only at h2
    split at h2
    · exact absurd rfl (no _)
    · exact absurd rfl (no _)
    · cases h2
theorem cs_if {bs cs : List Stmt} {mc : Xm} {mb mo : Sm} (hc : CT X c mc) (hb : CSs X pin bs mb) (ho : CSs X pin cs mo) : CS X pin (.If c bs cs pos) (sIf mc mb mo) := PS.imp (ps_if hc hb ho) fun D σ H q => by
  obtain ⟨F, S, en, out, W, hm, k⟩ := q
  obtain ⟨d, e1, h1, h2⟩ := sIf_ok hm
  refine ⟨F, S, en, d, e1, W, h1, fun F' H' S' st W' => ?_⟩
  cases d with
  | true => exact ⟨F', S', e1, out, W', h2, k.pre st Pin.refl⟩
  | false => exact ⟨F', S', e1, out, W', h2, k.pre st Pin.refl⟩
def sPass : Sm := sSkip
theorem cs_pass : CS X pin (.Pass pos) sSkip := PS.imp ps_pass fun D σ H q => by
  obtain ⟨F, S, en, out, W, hm, k⟩ := q
  cases hm
  exact k σ F H S Step.refl W Pin.refl
def sBrk : Sm := fun en => .ok (.bk en)
theorem cs_brk : CS X pin (.Break pos) sBrk := PS.imp ps_break fun D σ H q => by
  obtain ⟨F, S, en, out, W, hm, k⟩ := q
  cases hm
  exact k σ F H S Step.refl W Pin.refl
def sCnt : Sm := fun en => .ok (.ct en)
theorem cs_cnt : CS X pin (.Continue pos) sCnt := PS.imp ps_continue fun D σ H q => by
  obtain ⟨F, S, en, out, W, hm, k⟩ := q
  cases hm
  exact k σ F H S Step.refl W Pin.refl

/-! ### stores to names -/
theorem WF.store {F H : Hp} {σ : St} {en : En} {S : List Addr} {v : V} {o : O} (W : WF K F H (some v :: σ) (some o :: en) S) (i : Nat) : ∃ S', (∀ a ∈ S', a ∈ S) ∧ WF K F H (σ.set i (some v)) (en.set i (some o)) S' := by
  by_cases hi : i < σ.length
  · obtain ⟨fh, off, nd, eo⟩ := W
    cases eo with
    | som r t =>
      rename_i S0 T
      obtain ⟨A, B, k1, k2, q⟩ := t.put i v o hi r
      obtain ⟨n0, nT, nx⟩ := List.nodup_append.mp nd
      have mem : ∀ a, a ∈ A ++ S0 ++ B → a ∈ S0 ++ T := fun a ha => by
        rcases mem_mid.mp ha with z | z
        · exact List.mem_append_left _ z
        · exact List.mem_append_right _ (k1 a z)
      refine ⟨A ++ S0 ++ B, mem, fh, fun a ha => off a (mem a ha), ?_, q⟩
      have nAB : (A ++ B).Nodup := k2.nodup nT
      obtain ⟨nA, nB, nab⟩ := List.nodup_append.mp nAB
      rw [List.nodup_append, List.nodup_append]
      refine ⟨⟨nA, n0, fun a ha b hb z => ?_⟩, nB, fun a ha b hb z => ?_⟩
      · exact nx b hb a (k1 a (List.mem_append_left _ ha)) z.symm
      · rcases List.mem_append.mp ha with ha | ha
        · exact nab a ha b hb z
        · exact nx a ha b (k1 b (List.mem_append_right _ hb)) z
  · obtain ⟨S2, sub, W2⟩ := W.tail
    have l := W2.eo.length
    rw [List.set_eq_of_length_le (by omega), List.set_eq_of_length_le (by omega)]
    exact ⟨S2, sub, W2⟩
def sSet (i : Nat) (m : Xm) : Sm := fun en => (m en).bind fun p => .ok (.nx (p.2.set i (some p.1)))
theorem set_read {m : Xm} {i : Nat} (hp : i ∉ pin) (D : Ends) (σ : St) (H : Hp) (q : tS K pin (sSet i m) D σ H) : tAsg (tE K m) (gName i) D σ H := by
  obtain ⟨F, S, en, out, W, hm, k⟩ := q
  obtain ⟨⟨o, e1⟩, h1, h2⟩ := R.ok_of_bind hm
  cases h2
  refine ⟨F, S, en, o, e1, W, h1, fun v F' H' S' st W' => ?_⟩
  obtain ⟨S2, sub, W2⟩ := W'.store i
  exact k _ F' H' S2 (st.sub sub) W2 (Pin.set hp)
theorem cs_set {i : Nat} {x : Str} {pos' : Pos} {m : Xm} (hN : X.N.Nodup) (hi : X.N[i]? = some x) (hx : Loc X.env.scope x) (h : CE X e m) (hp : i ∉ pin := by decide) (hs : swapsWith e (some (.Name x pos')) pos.line X.env = pure false := by rfl)
    (hf : X.fn x = true ∨ X.env.scope.names.lookup x = some .local := by first | exact .inl rfl | exact .inr rfl | assumption) : CS X pin (.Assign [.Name x pos'] e pos) (sSet i m) :=
  PS.imp (ps_set hN hi hx h hs hf) (set_read hp)

/-! ### targets of data -/
abbrev Gm := PyData → En → R En
/-- the slots ws alone are stored to -/
def Just (ws : List Nat) (σ σ' : St) : Prop := σ'.length = σ.length ∧ ∀ i, i ∉ ws → σ'[i]? = σ[i]?
theorem Just.refl {ws : List Nat} {σ : St} : Just ws σ σ := ⟨rfl, fun _ _ => rfl⟩
theorem Just.set {i : Nat} {σ : St} {x : Option V} : Just [i] σ (σ.set i x) := ⟨by simp, fun j h => by
  rw [List.getElem?_set_ne fun z => h (by simp [z])]⟩
theorem Just.trans {ws vs : List Nat} {σ σ1 σ2 : St} (a : Just ws σ σ1) (b : Just vs σ1 σ2) : Just (ws ++ vs) σ σ2 :=
  ⟨b.1.trans a.1, fun i h => (b.2 i fun z => h (List.mem_append_right _ z)).trans (a.2 i fun z => h (List.mem_append_left _ z))⟩
theorem just_pin {ws : List Nat} {σ σ' : St} (a : Just ws σ σ') (h : ∀ i ∈ ws, i ∉ pin) : Pin pin σ σ' := fun i e => a.2 i fun z => h i z e
def tG (K : PySem.W.Frag) (ws : List Nat) (g : Gm) : TG := fun v σ H Q => ∃ F S en d en', WF K F H σ en S ∧ Dp K F v d ∧ g d en = .ok en' ∧ ∀ σ' S', (∀ x ∈ S', x ∈ S) → WF K F H σ' en' S' → Just ws σ σ' → Q σ' H
def CG (X : Cx) (ws : List Nat) (e : Expr) (g : Gm) : Prop := PG X e (tG X.K ws g)
theorem PG.imp {X : Cx} {e : Expr} {t t' : TG} (h : PG X e t) (k : ∀ v σ H Q, t' v σ H Q → t v σ H Q) : PG X e t' := ⟨fun pins s σ H v u Q I r q => h.run pins s σ H v u Q I r (k v σ H Q q)⟩
def gNm (i : Nat) : Gm := fun d en => .ok (en.set i (some (.leaf d)))
theorem cg_nm {i : Nat} {x : Str} (hN : X.N.Nodup) (hi : X.N[i]? = some x) (hx : Loc X.env.scope x) (hf : X.fn x = true ∨ X.env.scope.names.lookup x = some .local := by first | exact .inl rfl | exact .inr rfl | assumption) :
    CG X [i] (.Name x pos) (gNm i) := PG.imp (pg_name hN hi hx hf) fun v σ H Q q => by
  obtain ⟨F, S, en, d, en', W, dp, hg, k⟩ := q
  cases hg
  obtain ⟨S2, sub, W2⟩ := (W.leaf dp).store i
  exact k _ S2 sub W2 Just.set
abbrev GsM := List PyData → En → R En
def tGs (K : PySem.W.Frag) (ws : List Nat) (g : GsM) : TGs := fun vs σ H Q => ∃ F S en ds en', WF K F H σ en S ∧ DpAll K F vs ds ∧ g ds en = .ok en' ∧ ∀ σ' S', (∀ x ∈ S', x ∈ S) → WF K F H σ' en' S' → Just ws σ σ' → Q σ' H
def CGs (X : Cx) (ws : List Nat) (e : List Expr) (g : GsM) : Prop := PGs X e (tGs X.K ws g)
def gNil : GsM := fun ds en => match ds with
  | [] => .ok en
  | _ => .bad
def gCons (g : Gm) (r : GsM) : GsM := fun ds en => match ds with
  | d :: ds => (g d en).bind fun e1 => r ds e1
  | [] => .bad
theorem PGs.imp {X : Cx} {e : List Expr} {t t' : TGs} (h : PGs X e t) (k : ∀ v σ H Q, t' v σ H Q → t v σ H Q) : PGs X e t' := ⟨fun pins s σ H v u Q I r q => h.run pins s σ H v u Q I r (k v σ H Q q)⟩
theorem cgs_nil : CGs X [] [] gNil := PGs.imp pgs_nil fun vs σ H Q q => by
  obtain ⟨F, S, en, ds, en', W, dp, hg, k⟩ := q
  cases dp with
  | nil =>
    cases hg
    exact ⟨rfl, k σ S (fun _ h => h) W Just.refl⟩
  | cons _ _ => cases hg
theorem cgs_cons {g : Gm} {r : GsM} {ws vs : List Nat} (h1 : CG X ws e g) (h2 : CGs X vs es r) (hs : (assignEach (e :: es) X.env).map (·.2) = assign e X.env :: (assignEach es X.env).map (·.2) := by rfl) : CGs X (ws ++ vs) (e :: es) (gCons g r) :=
  PGs.imp (pgs_cons h1 h2 hs) fun vs σ H Q q => by
  obtain ⟨F, S, en, ds, en', W, dp, hg, k⟩ := q
  cases dp with
  | nil => cases hg
  | cons d1 d2 =>
    obtain ⟨e1, g1, g2⟩ := R.ok_of_bind hg
    refine ⟨_, _, rfl, F, S, en, _, e1, W, d1, g1, fun σ' S' sub W' p => ?_⟩
    exact ⟨F, S', e1, _, en', W', d2, g2, fun σ2 S2 sub2 W2 p2 => k σ2 S2 (fun x h => sub x (sub2 x h)) W2 (p.trans p2)⟩
def gTup (n : Nat) (r : GsM) : Gm := fun d en => match d with
  | .tuple ds => if ds.length = n then r ds en else .bad
  | _ => .bad
theorem cg_tup {k : Nat} {r : GsM} {n : Nat} {ws : List Nat} (hc : X.calm = true) (h : CGs X ws es r) (hn : (assignEach es X.env).length = n := by rfl) (hst : (assignEach es X.env).findIdx? (·.1) = none := by rfl) :
    CG X ws (.Tuple es k pos) (gTup n r) := PG.imp (pg_tup hc h hn hst) fun v σ H Q q => by
  obtain ⟨F, S, en, d, en', W, dp, hg, k⟩ := q
  cases d with
  | tuple ds =>
    cases dp with
    | tup hs ha =>
      dsimp only [gTup] at hg
      by_cases hl : ds.length = n
      · rw [if_pos hl] at hg
        exact ⟨_, _, rfl, ex_t W.fh hs, (DpAll.length ha).trans hl, F, S, en, ds, en', W, ha, hg, k⟩
      · rw [if_neg hl] at hg
        cases hg
  | _ => cases hg
/-- target = data -/
def sAsg (m : Xm) (g : Gm) : Sm := fun en => (m en).bind fun p => match snap p.1 with
  | some d => (g d p.2).bind fun e1 => .ok (.nx e1)
  | none => .bad
theorem cs_asg {tg : Expr} {m : Xm} {g : Gm} {ws : List Nat} (h : CE X e m) (hg : CG X ws tg g) (hp : ∀ i ∈ ws, i ∉ pin := by decide) (hs : swapsWithSole [tg] e pos.line X.env = pure false := by rfl) (hw : swappedStores [tg] e X.env = pure none := by rfl)
    (h1 : (assignEach [tg] X.env).map (·.2) = [assign tg X.env] := by rfl) : CS X pin (.Assign [tg] e pos) (sAsg m g) := PS.imp (ps_asg h hg hs hw h1) fun D σ H q => by
  obtain ⟨F, S, en, out, W, hm, k⟩ := q
  obtain ⟨⟨o, e1⟩, h1, h2⟩ := R.ok_of_bind hm
  dsimp only at h2
  refine ⟨F, S, en, o, e1, W, h1, fun v F' H' S' st W' => ?_⟩
  cases hsn : snap o with
  | none => rw [hsn] at h2; cases h2
  | some d =>
    rw [hsn] at h2
    obtain ⟨e2, g1, g2⟩ := R.ok_of_bind h2
    cases g2
    obtain ⟨F2, S2, v2, ev, st2, W2, dp⟩ := W'.freeze (i := 0) rfl hsn
    cases ev
    obtain ⟨dp, W3⟩ := W2.head
    exact ⟨F2, S2, e1, d, e2, W3, dp, g1, fun σ' S3 sub W4 p => k σ' F2 H' S3 ((st.trans st2).sub sub) W4 (just_pin p hp)⟩

/-! ### things held while more is reckoned -/
theorem WF.hold {F H F' H' : Hp} {σ τ : St} {en en' : En} {S1 T T' : List Addr} {v : V} {o : O} (r : RO K F H o v S1) (W : WF K F H (some v :: σ) (some o :: en) (S1 ++ T)) (st : Step F H T F' H' T') (W' : WF K F' H' τ en' T') :
    WF K F' H' (some v :: τ) (some o :: en') (S1 ++ T') ∧ Step F H (S1 ++ T) F' H' (S1 ++ T') := by
  obtain ⟨n1, n2, n3⟩ := List.nodup_append.mp W.nd
  have hd : ∀ a ∈ S1, H' a = H a ∧ F' a = none ∧ a ∉ T' := fun a ha => st.held (fun z => n3 a ha a z rfl) (r.there a ha) (W.off a (List.mem_append_left _ ha))
  refine ⟨⟨W'.fh, fun a ha => ?_, ?_, .som (r.mono st.ff fun a ha => (hd a ha).1) W'.eo⟩, ⟨st.ff, fun a u e n => st.hh a u e fun z => n (List.mem_append_right _ z), fun a ha => ?_, fun a ha => ?_⟩⟩
  · rcases List.mem_append.mp ha with ha | ha
    · exact (hd a ha).2.1
    · exact W'.off a ha
  · rw [List.nodup_append]
    exact ⟨n1, W'.nd, fun a ha b hb z => (hd a ha).2.2 (by rw [z]; exact hb)⟩
  · rcases List.mem_append.mp ha with ha | ha
    · exact .inl (List.mem_append_left _ ha)
    · rcases st.s a ha with z | z
      · exact .inl (List.mem_append_right _ z)
      · exact .inr z
  · rcases st.f a ha with z | z | z
    · exact .inl (List.mem_append_right _ z)
    · exact .inr (.inl z)
    · exact .inr (.inr z)
theorem WF.split {F H : Hp} {σ : St} {en : En} {S : List Addr} {v : V} {o : O} (W : WF K F H (some v :: σ) (some o :: en) S) : ∃ S1 T, S = S1 ++ T ∧ RO K F H o v S1 ∧ WF K F H σ en T := by
  obtain ⟨fh, off, nd, eo⟩ := W
  cases eo with
  | som r t => exact ⟨_, _, rfl, r, fh, fun a ha => off a (List.mem_append_right _ ha), (List.nodup_append.mp nd).2.1, t⟩
/-- a, b = x, y by names: the values are stored as they are -/
def sPar (i j : Nat) (m n : Xm) : Sm := fun en => (m en).bind fun p => (n p.2).bind fun q => .ok (.nx ((q.2.set i (some p.1)).set j (some q.1)))
theorem par_core {m n : Xm} {i j : Nat} {D : Ends} {σ : St} {H : Hp} (hp : i ∉ pin ∧ j ∉ pin) (hij : i ≠ j) (q : tS K pin (sPar i j m n) D σ H) :
    tCons (tE K m) (tCons (tE K n) tNil) σ H fun vs H1 => ∃ v w, vs = [v, w] ∧ ∃ F S out, OutK K pin F H1 S σ D out ∧ ∃ en', out = .nx en' ∧ ∃ S', (∀ a ∈ S', a ∈ S) ∧ WF K F H1 ((σ.set i (some v)).set j (some w)) en' S' := by
  obtain ⟨F, S, en, out, W, hm, k⟩ := q
  obtain ⟨⟨o, e1⟩, h1, hm⟩ := R.ok_of_bind hm
  obtain ⟨⟨o2, e2⟩, h2, hm⟩ := R.ok_of_bind hm
  cases hm
  refine ⟨F, S, en, o, e1, W, h1, fun v F1 H1 S1 st1 W1 => ?_⟩
  obtain ⟨A, T, rfl, r, WT⟩ := W1.split
  refine ⟨F1, T, e1, o2, e2, WT, h2, fun w F2 H2 S2 st2 W2 => ?_⟩
  obtain ⟨W3, st3⟩ := WF.hold r W1 st2 W2
  refine ⟨v, w, rfl, F2, A ++ S2, _, k.pre (st1.trans st3) Pin.refl, _, rfl, ?_⟩
  -- store w beside v held, then v
  obtain ⟨A', T', eT, r', WT'⟩ := W3.split
  have W4 := WT'
  obtain ⟨S4, sub4, W4⟩ := WT'.store j
  have nj : ∀ a, a ∈ T' → a ∈ A ++ S2 := fun a ha => by rw [eT]; exact List.mem_append_right _ ha
  have nA : ∀ a, a ∈ A' → a ∈ A ++ S2 := fun a ha => by rw [eT]; exact List.mem_append_left _ ha
  have nd := W3.nd
  rw [eT] at nd
  obtain ⟨n1, n2, n3⟩ := List.nodup_append.mp nd
  have W5 : WF K F2 H2 (some v :: σ.set j (some w)) (some o :: e2.set j (some o2)) (A' ++ S4) := ⟨W4.fh, fun a ha => by
    rcases List.mem_append.mp ha with ha | ha
    · exact W3.off a (nA a ha)
    · exact W4.off a ha, by
    rw [List.nodup_append]
    exact ⟨n1, W4.nd, fun a ha b hb z => n3 a ha b (sub4 b hb) z⟩, .som r' W4.eo⟩
  obtain ⟨S6, sub6, W6⟩ := W5.store i
  refine ⟨S6, fun a ha => ?_, ?_⟩
  · rcases List.mem_append.mp (sub6 a ha) with z | z
    · exact nA a z
    · exact nj a (sub4 a z)
  · rw [List.set_comm _ _ hij, List.set_comm (α := Option O) _ _ hij]
    exact W6
theorem pin2 {i j : Nat} {σ : St} {x y : Option V} (hp : i ∉ pin ∧ j ∉ pin) : Pin pin σ ((σ.set i x).set j y) := (Pin.set hp.1).trans (Pin.set hp.2)
/-- plain local names -/
theorem cs_par {i j : Nat} {x y : Str} {m n : Xm} {px py pt : Pos} {kt k2 pt2} (hc : X.calm = true) (hN : X.N.Nodup) (hi : X.N[i]? = some x) (hj : X.N[j]? = some y) (hij : i ≠ j)
    (hx : X.env.scope.names.lookup x = some .local) (hy : X.env.scope.names.lookup y = some .local) (ha : CE X a m) (hb : CE X b n) (hp : i ∉ pin ∧ j ∉ pin := by decide)
    (hsA : starEach [a, b] X.env = (false, eval a X.env) :: starEach [b] X.env := by rfl) (hsB : starEach [b] X.env = (false, eval b X.env) :: starEach [] X.env := by rfl)
    (hw : swappedStores [.Tuple [.Name x px, .Name y py] kt pt] (.Tuple [a, b] k2 pt2) X.env = pure (some [x, y]) := by rfl)
    (hs : swapsWithSole [.Tuple [.Name x px, .Name y py] kt pt] (.Tuple [a, b] k2 pt2) pos.line X.env = pure false := by rfl) :
    CS X pin (.Assign [.Tuple [.Name x px, .Name y py] kt pt] (.Tuple [a, b] k2 pt2) pos) (sPar i j m n) :=
  PS.imp (ps_par hc hN hi hj hij hx hy (pa_cons ha (pa_cons hb pa_nil hsB) hsA) hw hs) fun D σ H q => by
  obtain ⟨F, S, en, o, e1, W, h1, f⟩ := par_core hp hij q
  refine ⟨F, S, en, o, e1, W, h1, fun v F1 H1 S1 st1 W1 => ?_⟩
  obtain ⟨F', S', en2, o2, e2, W', h2, f2⟩ := f v F1 H1 S1 st1 W1
  refine ⟨F', S', en2, o2, e2, W', h2, fun w F2 H2 S2 st2 W2 => ?_⟩
  obtain ⟨v', w', ev, F3, S3, out, k, en', rfl, S4, sub, W4⟩ := f2 w F2 H2 S2 st2 W2
  cases ev
  exact ⟨v, w, rfl, k _ F3 H2 S4 (Step.refl.sub sub) W4 (pin2 hp)⟩
/-- names of which one is captured: a pair is made and taken apart -/
theorem cs_par' {i j : Nat} {x y : Str} {m n : Xm} {px py pt : Pos} {kt k2 pt2} (hc : X.calm = true) (hN : X.N.Nodup) (hi : X.N[i]? = some x) (hj : X.N[j]? = some y) (hij : i ≠ j)
    (hx : Loc X.env.scope x) (hy : Loc X.env.scope y) (ha : CE X a m) (hb : CE X b n) (hp : i ∉ pin ∧ j ∉ pin := by decide)
    (hsA : starEach [a, b] X.env = (false, eval a X.env) :: starEach [b] X.env := by rfl) (hsB : starEach [b] X.env = (false, eval b X.env) :: starEach [] X.env := by rfl)
    
    (hs : swapsWithSole [.Tuple [.Name x px, .Name y py] kt pt] (.Tuple [a, b] k2 pt2) pos.line X.env = pure false := by rfl) (hw : swappedStores [.Tuple [.Name x px, .Name y py] kt pt] (.Tuple [a, b] k2 pt2) X.env = pure none := by rfl)
    (hf : X.fn x = true ∨ X.env.scope.names.lookup x = some .local := by first | exact .inl rfl | exact .inr rfl | assumption) (hf2 : X.fn y = true ∨ X.env.scope.names.lookup y = some .local := by first | exact .inl rfl | exact .inr rfl | assumption) :
    CS X pin (.Assign [.Tuple [.Name x px, .Name y py] kt pt] (.Tuple [a, b] k2 pt2) pos) (sPar i j m n) :=
  PS.imp (ps_asg (pe_tup (pa_cons ha (pa_cons hb pa_nil hsB) hsA)) (pg_tup hc (pgs_cons (pg_name hN hi hx hf) (pgs_cons (pg_name hN hj hy hf2) pgs_nil))) hs hw) fun D σ H q => by
  obtain ⟨F, S, en, o, e1, W, h1, f⟩ := par_core hp hij q
  refine ⟨F, S, en, o, e1, W, h1, fun v F1 H1 S1 st1 W1 => ?_⟩
  obtain ⟨F', S', en2, o2, e2, W', h2, f2⟩ := f v F1 H1 S1 st1 W1
  refine ⟨F', S', en2, o2, e2, W', h2, fun w F2 H2 S2 st2 W2 => ?_⟩
  obtain ⟨v', w', ev, F3, S3, out, k, en', rfl, S4, sub, W4⟩ := f2 w F2 H2 S2 st2 W2
  cases ev
  refine ⟨by show 2 ≤ sizeLine; decide, fun p hp2 => ⟨p, [v, w], rfl, st_of upd_same, rfl, v, [w], rfl, w, [], rfl, rfl, ?_⟩⟩
  have np : p ∉ S4 := fun z => W4.eo.there p z hp2
  refine k _ F3 (upd H2 p (.tup [v, w])) S4 ⟨Ex.refl _, fun a u e _ => ?_, fun a ha => .inl (sub a ha), fun a ha => .inr (.inl ha)⟩ ⟨W4.fh.trans (Ex.new hp2), W4.off, W4.nd, W4.eo.mono (Ex.refl _) fun a ha => upd_ne fun z => np (by rw [← z]; exact ha)⟩ (pin2 hp)
  rw [upd_ne (ne_of_none e hp2)]
  exact e
end
end
end Ev
namespace Ev
noncomputable section
open PySem L2 Evl
/-! ### frozen argument lists, displays -/
abbrev Fs := En → R (List PyData × En)
def tFs (K : PySem.W.Frag) (m : Fs) : TA := fun σ H Q => ∃ F S en ds en', WF K F H σ en S ∧ m en = .ok (ds, en') ∧ ∀ vs F' H' S', Step F H S F' H' S' → WF K F' H' σ en' S' → DpAll K F' vs ds → Q vs H'
def fNil : Fs := fun en => .ok ([], en)
def fCons (a : Xm) (r : Fs) : Fs := fun en => (a en).bind fun p => match snap p.1 with
  | some d => (r p.2).bind fun q => .ok (d :: q.1, q.2)
  | none => .bad
def CF (X : Cx) (es : List Expr) (m : Fs) : Prop := PA X es (tFs X.K m)
section
variable {X : Cx} {pin : Bool} {a b c e : Expr} {es : List Expr} {pos : Pos} {K : PySem.W.Frag} {F H F' H' : Hp} {σ : St} {en en' : En} {S : List Addr}
theorem tFs_nil {σ : St} {H : Hp} {Q : List V → Hp → Prop} (q : tFs K fNil σ H Q) : tNil σ H Q := by
  obtain ⟨F, S, en, ds, en', W, hm, k⟩ := q
  cases hm
  exact k [] F H S Step.refl W .nil
theorem tFs_cons {ma : Xm} {mr : Fs} {σ : St} {H : Hp} {Q : List V → Hp → Prop} (q : tFs K (fCons ma mr) σ H Q) : tCons (tE K ma) (tFs K mr) σ H Q := by
  obtain ⟨F, S, en, rs, en', W, hm, k⟩ := q
  obtain ⟨⟨o, e1⟩, h1, hm⟩ := R.ok_of_bind hm
  dsimp only at hm
  cases hs : snap o with
  | none => rw [hs] at hm; cases hm
  | some d =>
    rw [hs] at hm
    obtain ⟨⟨ds, e2⟩, h2, hm⟩ := R.ok_of_bind hm
    cases hm
    refine ⟨F, S, en, o, e1, W, h1, fun x F1 H1 S1 st1 W1 => ?_⟩
    obtain ⟨F2, S2, v2, ev, st2, W2, dp⟩ := W1.freeze (i := 0) rfl hs
    cases ev
    obtain ⟨dp, W3⟩ := W2.head
    exact ⟨F2, S2, e1, ds, e2, W3, h2, fun vs F3 H3 S3 st3 W4 os => k _ F3 H3 S3 ((st1.trans st2).trans st3) W4 (.cons (Dp.mono st3.ff _ _ dp) os)⟩
theorem cf_nil : CF X [] fNil := PA.imp pa_nil fun σ H Q q => tFs_nil q
theorem cf_cons {ma : Xm} {mr : Fs} (ha : CE X e ma) (hr : CF X es mr) (hs : starEach (e :: es) X.env = (false, eval e X.env) :: starEach es X.env := by rfl) : CF X (e :: es) (fCons ma mr) :=
  PA.imp (pa_cons ha hr hs) fun σ H Q q => tFs_cons q
/-- (a, b, ..) -/
def mTup (m : Fs) : Xm := fun en => (m en).bind fun p => if p.1.length ≤ sizeLine then .ok (.leaf (.tuple p.1), p.2) else .bad
def mLst (m : Fs) : Xm := fun en => (m en).bind fun p => if p.1.length ≤ sizeLine then .ok (.lst (p.1.map O.leaf), p.2) else .bad
theorem ce_tup {k : Nat} {m : Fs} (h : CF X es m) : CE X (.Tuple es k pos) (mTup m) := PE.imp (pe_tup h) fun σ H Q q => by
  obtain ⟨F, S, en, o, en', W, hm, k⟩ := q
  obtain ⟨⟨ds, e1⟩, h1, hm⟩ := R.ok_of_bind hm
  dsimp only at hm
  by_cases hl : ds.length ≤ sizeLine
  · rw [if_pos hl] at hm
    cases hm
    refine ⟨F, S, en, ds, _, W, h1, fun vs F1 H1 S1 st1 W1 os => ⟨(DpAll.length os) ▸ hl, fun p hp => ?_⟩⟩
    exact (k.pre st1).tup W1 os hp
  · rw [if_neg hl] at hm
    cases hm
theorem ce_lst {m : Fs} (h : CF X es m) : CE X (.List es pos) (mLst m) := PE.imp (pe_lst h) fun σ H Q q => by
  obtain ⟨F, S, en, o, en', W, hm, k⟩ := q
  obtain ⟨⟨ds, e1⟩, h1, hm⟩ := R.ok_of_bind hm
  dsimp only at hm
  by_cases hl : ds.length ≤ sizeLine
  · rw [if_pos hl] at hm
    cases hm
    refine ⟨F, S, en, ds, _, W, h1, fun vs F1 H1 S1 st1 W1 os => ⟨(DpAll.length os) ▸ hl, fun p hp => ?_⟩⟩
    exact (k.pre st1).lst W1 os hp
  · rw [if_neg hl] at hm
    cases hm

/-! ### what a def promises -/
abbrev Fn := List O → R (O × List O)
def spM (K : PySem.W.Frag) (f : Fn) : Sp := fun vs H Q _ => ∃ F S os r os', WF K F H (vs.map some) (os.map some) S ∧ f os = .ok (r, os') ∧
  ∀ v F' H' S', Step F H S F' H' S' → WF K F' H' (some v :: vs.map some) (some r :: os'.map some) S' → Q v H'
/-- a def's promise, where nothing is being shown (repr) -/
structure FnG (P : Program) (w : World) (K : PySem.W.Frag) (mg : Str → Option Value) (base : Heap) (k : Nat) (f : Addr) (fd : FuncData) (ps : List Str) (sp : Sp) : Prop where
  len : ∀ vs H Q E, sp vs H Q E → vs.length = ps.length
  run : ∀ (A : Around) (outer : List Env) (s : Shared) (H : Hp) (args : Args) (us : List Value) (vs : List V) (Q : VK) (E : XK),
    Room k A → A.guards = some [] → Env0 P w K mg base A outer s H → BindsTo s fd args (ps.zip us) → Vals vs us → sp vs H Q E →
      codeAny (model P w) A (.call (.ref f) args) (CR CX0 outer P w H s Q E) s
theorem FnG.mono {P : Program} {w : World} {mg : Str → Option Value} {base : Heap} {j k : Nat} {f : Addr} {fd : FuncData} {ps : List Str} {sp : Sp} (G : FnG P w K mg base j f fd ps sp) (h : j ≤ k) : FnG P w K mg base k f fd ps sp :=
  ⟨G.len, fun A outer s H args us vs Q E hr => G.run A outer s H args us vs Q E (hr.mono h)⟩
section
variable {k n : Nat} {f : Addr} {fd : FuncData} {ps ks : List Str} {sp : Sp} {x : Str} {p : Pos} {kws : List Keyword} {t tk : TA}
theorem back {pins : List (Addr × Obj)} {s : Shared} {Q : VK} {E : XK} (I : Inv X pins σ H s) {r : Result} {s' : Shared} (hq : CR CX0 X.stack X.prog X.w H s Q E r s') :
    (match (generalizing := false) r with
      | .ok (.ret u) => EP X pins σ Q u s'
      | _ => False) := by
  cases r with
  | error e => exact hq
  | ok fl =>
    cases fl with
    | ret u => exact I.after hq
    | next => exact hq
    | brk => exact hq
    | cont => exact hq
theorem runG {pins : List (Addr × Obj)} {s : Shared} {Q : VK} {args : Args} {us : List Value} {vs : List V} (G : FnG X.prog X.w X.K X.mg X.base k f fd ps sp) (hr : Room k X.A) (hgd : X.A.guards = some []) (I : Inv X pins σ H s)
    (hb : BindsTo s fd args (ps.zip us)) (r : Vals vs us) (h : sp vs H Q E0) : wpAny (model X.prog X.w) X.A (call (.ref f) args.pos args.kw) (EP X pins σ Q) X.xe s := by
  refine wpAny_call (codeAny_mono (G.run X.A X.stack s H args us vs Q E0 hr hgd I.env0 hb r h) fun r s' hq => ?_)
  have z := back I hq
  cases r with
  | error e => exact False.elim z
  | ok fl =>
    cases fl with
    | ret u => exact z
    | next => exact False.elim z
    | brk => exact False.elim z
    | cont => exact False.elim z
theorem pe_callG (G : FnG X.prog X.w X.K X.mg X.base k f fd ps sp) (hr : Room k X.A) (hgd : X.A.guards = some []) (hg : Gl X x) (hm : X.mg x = some (.ref f)) (hk : PySem.W.keepIn X.K (.ref f) = true) (hb : Binds X.K fd ps [])
    (ha : PA X (e :: es) t) (hdb : (x == ("__debug__" : Str)) = false := by decide) (he : starEach (e :: es) X.env = (false, eval e X.env) :: starEach es X.env := by rfl) (hpl : (backTo pos (starEach es X.env)).any (·.1) = false := by rfl) :
    PE X (.Call (.Name x p) (e :: es) [] pos) (fun σ H Q => t σ H fun vs H1 => sp vs H1 Q E0) := by
  refine ⟨fun pins s σ H Q I h => wpAny_Call_Name_kw (ld_glob I hg hm ?_ hdb)⟩
  refine PySem.W.callWith_K (h₀ := X.base) I.ok.mod.kin hk (thn (ha.run pos pins s σ H _ I h) fun us s1 ⟨vs, H1, I1, r, q⟩ => ⟨I1.kIn, ?_⟩) he hpl
  have b := hb s1 us I1.kIn (by rw [List.append_nil, ← r.length]; exact G.len _ _ _ _ q)
  rw [List.append_nil] at b
  exact runG (args := ⟨us, []⟩) G hr hgd I1 b r q
/-- names of arguments alone -/
theorem pe_callG0 {g : List Value → List Value → List Value} {gV : List V → List V → List V} (G : FnG X.prog X.w X.K X.mg X.base k f fd ps sp) (hr : Room k X.A) (hgd : X.A.guards = some []) (hg : Gl X x) (hm : X.mg x = some (.ref f)) (hk : PySem.W.keepIn X.K (.ref f) = true)
    (hb : KBn X.K fd ps 0 ks g gV) (hkw : PK X kws tk) (hall : (backToKw pos (keywordEach kws X.env)).all (·.1.isSome) = true := by rfl) (hks : (backToKw pos (keywordEach kws X.env)).filterMap (·.1) = ks := by rfl)
    (hdb : (x == ("__debug__" : Str)) = false := by decide) (hpl : ((backTo pos (starEach [] X.env)).any (·.1) || (backToKw pos (keywordEach kws X.env)).any (·.1.isNone)) = false := by rfl) :
    PE X (.Call (.Name x p) [] kws pos) (fun σ H Q => tk σ H fun zs H1 => zs.length = ks.length ∧ sp (gV [] zs) H1 Q E0) := by
  refine ⟨fun pins s σ H Q I h => wpAny_Call_Name_kw (ld_glob I hg hm ?_ hdb)⟩
  refine PySem.W.callWith_KW0 (h₀ := X.base) I.ok.mod.kin hk hall (thn (hkw.run pos pins s σ H _ I h) fun ws s2 ⟨zs, H2, I2, rz, l2, q2⟩ => ⟨I2.kIn, ?_⟩) hpl
  rw [hks]
  exact runG (args := ⟨[], ks.zip ws⟩) G hr hgd I2 (hb.to s2 [] ws I2.kIn rfl (rz.length.symm.trans l2)) (hb.rel .nil rz) q2
theorem pe_callGK {g : List Value → List Value → List Value} {gV : List V → List V → List V} (G : FnG X.prog X.w X.K X.mg X.base k f fd ps sp) (hr : Room k X.A) (hgd : X.A.guards = some []) (hg : Gl X x) (hm : X.mg x = some (.ref f)) (hk : PySem.W.keepIn X.K (.ref f) = true)
    (hb : KBn X.K fd ps n ks g gV) (ha : PA X (e :: es) t) (hkw : PK X kws tk) (hall : (backToKw pos (keywordEach kws X.env)).all (·.1.isSome) = true := by rfl) (hks : (backToKw pos (keywordEach kws X.env)).filterMap (·.1) = ks := by rfl)
    (hdb : (x == ("__debug__" : Str)) = false := by decide) (he : starEach (e :: es) X.env = (false, eval e X.env) :: starEach es X.env := by rfl)
    (hpl : ((backTo pos (starEach (e :: es) X.env)).any (·.1) || (backToKw pos (keywordEach kws X.env)).any (·.1.isNone)) = false := by rfl) :
    PE X (.Call (.Name x p) (e :: es) kws pos) (fun σ H Q => t σ H fun vs H1 => tk σ H1 fun zs H2 => vs.length = n ∧ zs.length = ks.length ∧ sp (gV vs zs) H2 Q E0) := by
  refine ⟨fun pins s σ H Q I h => wpAny_Call_Name_kw (ld_glob I hg hm ?_ hdb)⟩
  refine PySem.W.callWith_KW (h₀ := X.base) I.ok.mod.kin hk hall (thn (ha.run pos pins s σ H _ I h) fun us s1 ⟨vs, H1, I1, r, q⟩ => ?_) hpl he
  refine thn (hkw.run pos pins s1 σ H1 _ I1 q) fun ws s2 ⟨zs, H2, I2, rz, l1, l2, q2⟩ => ⟨I2.kIn, ?_⟩
  rw [hks]
  exact runG (args := ⟨us, ks.zip ws⟩) G hr hgd I2 (hb.to s2 us ws I2.kIn (r.length.symm.trans l1) (rz.length.symm.trans l2)) (hb.rel r rz) q2
end
/-! ### a call of a def that takes data -/
/-- what a step of others leaves of a state that stood apart -/
theorem WF.beside {τ : St} {en2 : En} {T T' : List Addr} (W : WF K F H σ en S) (st : Step F H T F' H' T') (hT : ∀ a ∈ S, a ∉ T) :
    EO K F' H' σ en S ∧ (∀ a ∈ S, F' a = none ∧ a ∉ T') := by
  have hd : ∀ a ∈ S, H' a = H a ∧ F' a = none ∧ a ∉ T' := fun a ha => st.held (hT a ha) (W.eo.there a ha) (W.off a ha)
  exact ⟨W.eo.mono st.ff fun a ha => (hd a ha).1, fun a ha => (hd a ha).2⟩
theorem eo_data : ∀ {vs : List V} {ds : List PyData}, DpAll K F vs ds → EO K F H (vs.map some) ((ds.map O.leaf).map some) []
  | _, _, .nil => .nil
  | _, _, .cons r t => .som (S := []) (T := []) (.leaf r) (eo_data t)
theorem wf_data {vs : List V} {ds : List PyData} (e : Ex F H) (h : DpAll K F vs ds) : WF K F H (vs.map some) ((ds.map O.leaf).map some) [] := ⟨e, fun _ z => absurd z List.not_mem_nil, List.nodup_nil, eo_data h⟩
def mCall (f : Fn) (m : Fs) : Xm := fun en => (m en).bind fun p => (f (p.1.map O.leaf)).bind fun q => .ok (q.1, p.2)
theorem call_core {f : Fn} {vs : List V} {ds : List PyData} {r : O} {os' : List O} {Q : VK} (W : WF K F H σ en S) (h : DpAll K F vs ds) (hf : f (ds.map O.leaf) = .ok (r, os')) (k : Fin K F H S σ en r Q) {E : XK} : spM K f vs H Q E := by
  refine ⟨F, [], ds.map O.leaf, r, os', wf_data W.fh h, hf, fun v F' H' S' st W' => ?_⟩
  obtain ⟨A, T, rfl, rr, WT⟩ := W'.split
  obtain ⟨eo, hS⟩ := W.beside (τ := σ) (en2 := en) st fun _ _ h => by cases h
  refine k v F' H' (A ++ S) ⟨st.ff, fun a o e _ => st.hh a o e (fun h => by cases h), fun a ha => ?_, fun a ha => ?_⟩ ⟨WT.fh, fun a ha => ?_, ?_, .som rr eo⟩
  · rcases List.mem_append.mp ha with ha | ha
    · rcases st.s a (List.mem_append_left _ ha) with z | z
      · cases z
      · exact .inr z
    · exact .inl ha
  · rcases st.f a ha with z | z
    · cases z
    · exact .inr z
  · rcases List.mem_append.mp ha with ha | ha
    · exact W'.off a (List.mem_append_left _ ha)
    · exact (hS a ha).1
  · rw [List.nodup_append]
    exact ⟨(List.nodup_append.mp W'.nd).1, W.nd, fun a ha b hb z => (hS b hb).2 (by rw [← z]; exact List.mem_append_left _ ha)⟩
theorem ce_call {k : Nat} {fa : Addr} {fd : FuncData} {ps : List Str} {x : Str} {p : Pos} {f : Fn} {m : Fs} (G : FnG X.prog X.w X.K X.mg X.base k fa fd ps (spM X.K f)) (hr : Room k X.A) (hgd : X.A.guards = some []) (hg : Gl X x) (hm : X.mg x = some (.ref fa)) (hk : PySem.W.keepIn X.K (.ref fa) = true) (hb : Binds X.K fd ps [])
    (ha : CF X (e :: es) m) (hdb : (x == ("__debug__" : Str)) = false := by decide) (he : starEach (e :: es) X.env = (false, eval e X.env) :: starEach es X.env := by rfl) (hpl : (backTo pos (starEach es X.env)).any (·.1) = false := by rfl) :
    CE X (.Call (.Name x p) (e :: es) [] pos) (mCall f m) := PE.imp (pe_callG G hr hgd hg hm hk hb ha hdb he hpl) fun σ H Q q => by
  obtain ⟨F, S, en, o, en', W, hm, k⟩ := q
  obtain ⟨⟨ds, e1⟩, h1, hm⟩ := R.ok_of_bind hm
  obtain ⟨⟨r, os'⟩, h2, hm⟩ := R.ok_of_bind hm
  cases hm
  exact ⟨F, S, en, ds, e1, W, h1, fun vs F1 H1 S1 st1 W1 os => call_core W1 os h2 (k.pre st1)⟩
/-- arguments in another order -/
def permL {α : Type} (pm : List Nat) (xs : List α) : List α := pm.filterMap fun i => xs[i]?
theorem permL_vals {pm : List Nat} {vs : List V} {us : List Value} (h : Vals vs us) : Vals (permL pm vs) (permL pm us) := by
  induction pm with
  | nil => exact .nil
  | cons i pm ih =>
    unfold permL
    rw [List.filterMap_cons, List.filterMap_cons]
    cases q : vs[i]? with
    | none => rw [Vals.none_of h q]; exact ih
    | some v =>
      obtain ⟨u, e1, r⟩ := Vals.get h q
      rw [e1]
      exact .cons r ih
theorem permL_dp {pm : List Nat} {vs : List V} {ds : List PyData} (h : DpAll K F vs ds) : DpAll K F (permL pm vs) (permL pm ds) := by
  induction pm with
  | nil => exact .nil
  | cons i pm ih =>
    unfold permL
    rw [List.filterMap_cons, List.filterMap_cons]
    cases q : ds[i]? with
    | none =>
      have q' : vs[i]? = none := List.getElem?_eq_none (by rw [DpAll.length h]; exact List.getElem?_eq_none_iff.mp q)
      rw [q']; exact ih
    | some d =>
      obtain ⟨v, e1, r⟩ := DpAll.get h q
      rw [e1]
      exact .cons r ih
def CK (X : Cx) (kws : List Keyword) (m : Fs) : Prop := PK X kws (tFs X.K m)
theorem PK.imp {X : Cx} {e : List Keyword} {t t' : TA} (h : PK X e t) (k : ∀ σ H Q, t' σ H Q → t σ H Q) : PK X e t' := ⟨fun pos pins s σ H Q I q => h.run pos pins s σ H Q I (k σ H Q q)⟩
theorem ck_nil : CK X [] fNil := PK.imp pk_nil fun σ H Q q => tFs_nil q
theorem ck_cons {kws : List Keyword} {nm : Option Str} {kpos : Pos} {ma : Xm} {mr : Fs} (ha : CE X e ma) (hr : CK X kws mr) : CK X (⟨nm, e, kpos⟩ :: kws) (fCons ma mr) := PK.imp (pk_cons ha hr) fun σ H Q q => tFs_cons q
def mCallK (f : Fn) (pm : List Nat) (m mk : Fs) : Xm := fun en => (m en).bind fun p => (mk p.2).bind fun z => (f ((permL pm (p.1 ++ z.1)).map O.leaf)).bind fun q => .ok (q.1, z.2)
theorem ce_callK0 {k : Nat} {fa : Addr} {fd : FuncData} {ps ks : List Str} {x : Str} {p : Pos} {f : Fn} {mk : Fs} {kws : List Keyword} {pm : List Nat} (G : FnG X.prog X.w X.K X.mg X.base k fa fd ps (spM X.K f)) (hr : Room k X.A) (hgd : X.A.guards = some []) (hg : Gl X x) (hm : X.mg x = some (.ref fa)) (hk : PySem.W.keepIn X.K (.ref fa) = true)
    (hb : KBn X.K fd ps 0 ks (fun us ws => permL pm (us ++ ws)) (fun vs zs => permL pm (vs ++ zs))) (hkw : CK X kws mk) (hl : ∀ en ds en', mk en = .ok (ds, en') → ds.length = ks.length)
    (hall : (backToKw pos (keywordEach kws X.env)).all (·.1.isSome) = true := by rfl) (hks : (backToKw pos (keywordEach kws X.env)).filterMap (·.1) = ks := by rfl)
    (hdb : (x == ("__debug__" : Str)) = false := by decide) (hpl : ((backTo pos (starEach [] X.env)).any (·.1) || (backToKw pos (keywordEach kws X.env)).any (·.1.isNone)) = false := by rfl) :
    CE X (.Call (.Name x p) [] kws pos) (mCallK f pm fNil mk) := PE.imp (pe_callG0 G hr hgd hg hm hk hb hkw hall hks hdb hpl) fun σ H Q q => by
  obtain ⟨F, S, en, o, en', W, hm, k⟩ := q
  obtain ⟨⟨ds, e1⟩, h1, hm⟩ := R.ok_of_bind hm
  cases h1
  obtain ⟨⟨zs, e2⟩, h2, hm⟩ := R.ok_of_bind hm
  obtain ⟨⟨r, os'⟩, h3, hm⟩ := R.ok_of_bind hm
  cases hm
  refine ⟨F, S, en, zs, e2, W, h2, fun vs F1 H1 S1 st1 W1 os => ⟨(DpAll.length os).trans (hl _ _ _ h2), ?_⟩⟩
  exact call_core W1 (permL_dp (by simpa using os)) h3 (k.pre st1)
theorem ce_callK {k n : Nat} {fa : Addr} {fd : FuncData} {ps ks : List Str} {x : Str} {p : Pos} {f : Fn} {m mk : Fs} {kws : List Keyword} {pm : List Nat} (G : FnG X.prog X.w X.K X.mg X.base k fa fd ps (spM X.K f)) (hr : Room k X.A) (hgd : X.A.guards = some []) (hg : Gl X x) (hm : X.mg x = some (.ref fa)) (hk : PySem.W.keepIn X.K (.ref fa) = true)
    (hb : KBn X.K fd ps n ks (fun us ws => permL pm (us ++ ws)) (fun vs zs => permL pm (vs ++ zs))) (ha : CF X (e :: es) m) (hkw : CK X kws mk) (hl1 : ∀ en ds en', m en = .ok (ds, en') → ds.length = n) (hl : ∀ en ds en', mk en = .ok (ds, en') → ds.length = ks.length)
    (hall : (backToKw pos (keywordEach kws X.env)).all (·.1.isSome) = true := by rfl) (hks : (backToKw pos (keywordEach kws X.env)).filterMap (·.1) = ks := by rfl)
    (hdb : (x == ("__debug__" : Str)) = false := by decide) (he : starEach (e :: es) X.env = (false, eval e X.env) :: starEach es X.env := by rfl)
    (hpl : ((backTo pos (starEach (e :: es) X.env)).any (·.1) || (backToKw pos (keywordEach kws X.env)).any (·.1.isNone)) = false := by rfl) :
    CE X (.Call (.Name x p) (e :: es) kws pos) (mCallK f pm m mk) := PE.imp (pe_callGK G hr hgd hg hm hk hb ha hkw hall hks hdb he hpl) fun σ H Q q => by
  obtain ⟨F, S, en, o, en', W, hm, k⟩ := q
  obtain ⟨⟨ds, e1⟩, h1, hm⟩ := R.ok_of_bind hm
  obtain ⟨⟨zs, e2⟩, h2, hm⟩ := R.ok_of_bind hm
  obtain ⟨⟨r, os'⟩, h3, hm⟩ := R.ok_of_bind hm
  cases hm
  refine ⟨F, S, en, ds, e1, W, h1, fun vs F1 H1 S1 st1 W1 os => ?_⟩
  refine ⟨F1, S1, e1, zs, e2, W1, h2, fun ws F2 H2 S2 st2 W2 os2 => ⟨(DpAll.length os).trans (hl1 _ _ _ h1), (DpAll.length os2).trans (hl _ _ _ h2), ?_⟩⟩
  exact call_core W2 (permL_dp (DpAll.append (DpAll.mono st2.ff _ _ os) os2)) h3 (k.pre (st1.trans st2))
theorem fCons_len {a : Xm} {r : Fs} {n : Nat} (h : ∀ en ds en', r en = .ok (ds, en') → ds.length = n) : ∀ en ds en', fCons a r en = .ok (ds, en') → ds.length = n + 1 := fun en ds en' hm => by
  obtain ⟨⟨o, e1⟩, h1, hm⟩ := R.ok_of_bind hm
  dsimp only at hm
  cases hs : snap o with
  | none => rw [hs] at hm; cases hm
  | some d =>
    rw [hs] at hm
    obtain ⟨⟨ds', e2⟩, h2, hm⟩ := R.ok_of_bind hm
    cases hm
    rw [List.length_cons, h _ _ _ h2]
theorem fNil_len : ∀ en ds en', fNil en = .ok (ds, en') → ds.length = 0 := fun en ds en' hm => by cases hm; rfl

/-! ### a call that hands a name's object in and out -/
def mCallP (f : Fn) (i : Nat) (m : Fs) : Xm := fun en => match en[i]? with
  | some (some _) => (m en).bind fun p => match p.2[i]? with
    | some (some o) => (f (o :: p.1.map O.leaf)).bind fun q => match q.2 with
      | o' :: _ => .ok (q.1, p.2.set i (some o'))
      | [] => .bad
    | _ => .bad
  | _ => .bad
theorem callP_core {f : Fn} {i : Nat} {v0 : V} {o o' : O} {vs : List V} {ds : List PyData} {r : O} {os' : List O} {Q : VK} (W : WF K F H σ en S) (hv : σ[i]? = some (some v0)) (ho : en[i]? = some (some o)) (h : DpAll K F vs ds) (hf : f (o :: ds.map O.leaf) = .ok (r, o' :: os'))
    (k : Fin K F H S σ (en.set i (some o')) r Q) {E : XK} : spM K f (v0 :: vs) H Q E := by
  obtain ⟨v, A, S1, B, e1, rfl, ro, up⟩ := W.eo.at ho
  rw [hv] at e1
  cases e1
  obtain ⟨n1, n2, n3⟩ := nd_mid W.nd
  have Wc : WF K F H ((v0 :: vs).map some) ((o :: ds.map O.leaf).map some) (S1 ++ []) := ⟨W.fh, fun a ha => W.off a (mem_mid.mpr (.inl (by simpa using ha))), by simpa using n2, .som ro (eo_data h)⟩
  rw [List.append_nil] at Wc
  refine ⟨F, S1, o :: ds.map O.leaf, r, o' :: os', Wc, hf, fun v F' H' S' st W' => ?_⟩
  obtain ⟨Ar, T, rfl, rr, WT⟩ := W'.split
  obtain ⟨B1, T2, rfl, ro', WT2⟩ := WT.split
  have hAB : ∀ a ∈ A ++ B, a ∉ S1 := fun a ha z => n3 a z ha
  have hd : ∀ a ∈ A ++ B, H' a = H a ∧ F' a = none ∧ a ∉ Ar ++ (B1 ++ T2) := fun a ha =>
    st.held (hAB a ha) (W.eo.there a (mem_mid.mpr (.inr ha))) (W.off a (mem_mid.mpr (.inr ha)))
  have eo2 := up F' H' v0 o' B1 st.ff (fun a ha => (hd a ha).1) ro'
  rw [set_same hv] at eo2
  have nd' := W'.nd
  rw [List.nodup_append, List.nodup_append] at nd'
  obtain ⟨ndr, ⟨ndb, _, _⟩, ndx⟩ := nd'
  obtain ⟨nA, nB, nab⟩ := List.nodup_append.mp n1
  refine k v F' H' (Ar ++ (A ++ B1 ++ B)) ⟨st.ff, fun a u e n => st.hh a u e fun z => n (mem_mid.mpr (.inl z)), fun a ha => ?_, fun a ha => ?_⟩ ⟨W'.fh, fun a ha => ?_, ?_, .som rr eo2⟩
  · rcases List.mem_append.mp ha with ha | ha
    · rcases st.s a (List.mem_append_left _ ha) with z | z
      · exact .inl (mem_mid.mpr (.inl z))
      · exact .inr z
    · rcases mem_mid.mp ha with ha | ha
      · rcases st.s a (List.mem_append_right _ (List.mem_append_left _ ha)) with z | z
        · exact .inl (mem_mid.mpr (.inl z))
        · exact .inr z
      · exact .inl (mem_mid.mpr (.inr ha))
  · rcases st.f a ha with z | z
    · exact .inl (mem_mid.mpr (.inl z))
    · exact .inr z
  · rcases List.mem_append.mp ha with ha | ha
    · exact W'.off a (List.mem_append_left _ ha)
    · rcases mem_mid.mp ha with ha | ha
      · exact W'.off a (List.mem_append_right _ (List.mem_append_left _ ha))
      · exact (hd a ha).2.1
  · rw [List.nodup_append, List.nodup_append, List.nodup_append]
    refine ⟨ndr, ⟨⟨nA, ndb, fun a ha b hb z => (hd a (List.mem_append_left _ ha)).2.2 (by rw [z]; exact List.mem_append_right _ (List.mem_append_left _ hb))⟩, nB, fun a ha b hb z => ?_⟩, fun a ha b hb z => ?_⟩
    · rcases List.mem_append.mp ha with ha | ha
      · exact nab a ha b hb z
      · exact (hd b (List.mem_append_right _ hb)).2.2 (by rw [← z]; exact List.mem_append_right _ (List.mem_append_left _ ha))
    · rcases mem_mid.mp hb with hb | hb
      · exact ndx a ha b (List.mem_append_left _ hb) z
      · exact (hd b hb).2.2 (by rw [← z]; exact List.mem_append_left _ ha)
theorem ce_callP {k i : Nat} {fa : Addr} {fd : FuncData} {ps : List Str} {x y : Str} {p py : Pos} {f : Fn} {m : Fs} (G : FnG X.prog X.w X.K X.mg X.base k fa fd ps (spM X.K f)) (hr : Room k X.A) (hgd : X.A.guards = some []) (hg : Gl X x) (hm : X.mg x = some (.ref fa)) (hk : PySem.W.keepIn X.K (.ref fa) = true) (hb : Binds X.K fd ps [])
    (hy : PE X (.Name y py) (tVar i)) (ha : CF X es m) (hsy : starEach (.Name y py :: es) X.env = (false, eval (.Name y py) X.env) :: starEach es X.env := by rfl) (hdb : (x == ("__debug__" : Str)) = false := by decide) (hpl : (backTo pos (starEach es X.env)).any (·.1) = false := by rfl) :
    CE X (.Call (.Name x p) (.Name y py :: es) [] pos) (mCallP f i m) := PE.imp (pe_callG G hr hgd hg hm hk hb (pa_cons hy ha hsy) hdb hsy hpl) fun σ H Q q => by
  obtain ⟨F, S, en, o, en', W, hm, k⟩ := q
  unfold mCallP at hm
  cases z0 : en[i]? with
  | none => rw [z0] at hm; cases hm
  | some y0 =>
    cases y0 with
    | none => rw [z0] at hm; cases hm
    | some o00 =>
      rw [z0] at hm
      obtain ⟨⟨ds, e1⟩, h1, hm⟩ := R.ok_of_bind hm
      obtain ⟨v0, hv⟩ := W.has z0
      dsimp only at hm
      cases z : e1[i]? with
      | none => rw [z] at hm; cases hm
      | some y =>
        cases y with
        | none => rw [z] at hm; cases hm
        | some o0 =>
          rw [z] at hm
          obtain ⟨⟨r, os'⟩, h2, hm⟩ := R.ok_of_bind hm
          cases os' with
          | nil => cases hm
          | cons o' os' =>
            cases hm
            exact ⟨v0, hv, F, S, en, ds, e1, W, h1, fun vs F1 H1 S1 st1 W1 os => callP_core W1 hv z os h2 (k.pre st1)⟩
end
end
end Ev
namespace Ev
noncomputable section
open PySem PySem.Spec PyProof.Rows L2 Evl
section
variable {P : Program} {w : World} {K : PySem.W.Frag} {mg : Str → Option Value} {base : Heap}
/-- a def's body, run where nothing is being shown -/
theorem fnG_of {k : Nat} {f : Addr} {name qual : Str} {params : Arguments} {body : List Stmt} {scope : Scope} {dV kV doc pm cdv ct oc : Value} {an od : Option Addr} {osl : Array (Option Value)} {N ps : List Str} {sp : Sp}
    (lk : K.lookup f = some ⟨oc, od, .func (PySem.W.fnOf name qual params body scope dV kV doc pm an cdv ct), osl⟩) (hcd : PySem.W.codeIn K cdv qual = true) (S : FnScope N ps scope) (len : ∀ vs H Q E, sp vs H Q E → vs.length = ps.length)
    (hbody : ∀ (A : Around) (outer : List Env) (s : Shared) (H : Hp) (vs : List V) (Q : VK) (E : XK),
      Room k (A.deeper (envOfC qual scope s.heap.objs.size f cdv)) → (A.deeper (envOfC qual scope s.heap.objs.size f cdv)).guards = some [] → sp vs H Q E →
        ∃ t, PSs (cxOf CX0 P w K mg base N qual scope f cdv A outer s H E).nox body t ∧ t { nx := fun _ H' => Q .non H', rt := Q } (L2.start N vs) H) :
    FnG P w K mg base (k + 1) f (PySem.W.fnOf name qual params body scope dV kV doc pm an cdv ct) ps sp := by
  refine ⟨len, fun A outer s H args us vs Q E hr hgd e0 hb r hsp => ?_⟩
  have hl := len vs H Q E hsp
  have KX : K.In s.heap := e0.mod.kin.keeps fun b o z => (e0.bs b o z).1
  have lim : s.heap.NoLimit := e0.mod.nolimit.keeps fun b o z => (e0.bs b o z).1
  have knd : ∀ y ∈ ps.zip us, scope.names.lookup y.1 = some .local ∨ (scope.names.lookup y.1 = some .cell ∧ ((cellsFrom (s.heap.objs.size + 1) scope.names []).lookup y.1).isSome = true) := by
    rintro ⟨n, v⟩ hy
    have hn := (List.of_mem_zip hy).1
    exact (S.par n hn).imp id fun q => ⟨q, PySem.W.cellsFrom_some _ _ _ (.inl q)⟩
  refine codeAny_call_function hr.depth (KX _ _ lk) rfl S.co S.gen rfl (PySem.W.codeRec_of KX hcd) (hb _ _ _ _ ?_)
  refine wpAny_newFunctionEnv_cells S.kind knd fun env he s1 x => ?_
  subst he
  refine ⟨lim.keeps x.toInCall.keep, codeAny_func ?_⟩
  obtain ⟨t, ht, hq⟩ := hbody A outer s H vs Q E (hr.deeper _) hgd hsp
  have I := inv_start (CX := CX0) (P := P) (w := w) (E := E) S hr.hd e0 hl r x
  refine wpAny_mono (ht.nox.run [] s1 (L2.start N vs) H _ I hq) (fun fl s' hs => ?_) fun _ _ hs => hs
  cases fl with
  | ret u =>
    obtain ⟨v, σ', H', J, rv, q⟩ := hs
    exact ⟨v, H', J.os, J.bare, J.base, J.hok, rv, q⟩
  | next =>
    obtain ⟨σ', H', J, q⟩ := hs
    exact ⟨V.non, H', J.os, J.bare, J.base, J.hok, rfl, q⟩
  | brk =>
    obtain ⟨_, _, _, q⟩ := hs
    exact q.elim
  | cont =>
    obtain ⟨_, _, _, q⟩ := hs
    exact q.elim
/-- how a def's run gives its function -/
def isLeaf : O → Bool
  | .leaf _ => true
  | _ => false
def runDef (pin : Bool) (np n : Nat) (body : Sm) : Fn := fun os =>
  if os.length = np ∧ (if pin then !os.isEmpty && os.tail.all isLeaf else os.all isLeaf) = true then
    (body (os.map some ++ List.replicate n none)).bind fun o => match o with
      | .rt r en => if pin then (match en with | some o0 :: _ => .ok (r, o0 :: os.tail) | _ => .bad) else .ok (r, os)
      | .nx en => if pin then (match en with | some o0 :: _ => .ok (.leaf .none, o0 :: os.tail) | _ => .bad) else .ok (.leaf .none, os)
      | _ => .bad
  else .bad
theorem EO.append_none {F H : Hp} : ∀ {σ : L2.St} {en : En} {S : List Addr} (n : Nat), EO K F H σ en S → EO K F H (σ ++ List.replicate n none) (en ++ List.replicate n none) S
  | _, _, _, 0, .nil => .nil
  | _, _, _, n + 1, .nil => .non (EO.append_none n .nil)
  | _, _, _, n, .non t => .non (EO.append_none n t)
  | _, _, _, n, .som r t => .som r (EO.append_none n t)
theorem leaf_eo {F H F' H' : Hp} (e : Ex F F') : ∀ {vs : List V} {os : List O} {S : List Addr}, EO K F H (vs.map some) (os.map some) S → os.all isLeaf = true → EO K F' H' (vs.map some) (os.map some) []
  | [], [], _, _, _ => .nil
  | [], _ :: _, _, h, _ => by cases h
  | _ :: _, [], _, h, _ => by cases h
  | v :: vs, o :: os, _, h, hl => by
    cases h with
    | som r t =>
      rw [List.all_cons, Bool.and_eq_true] at hl
      cases r with
      | leaf d => exact .som (S := []) (T := []) (.leaf (Dp.mono e _ _ d)) (leaf_eo e t hl.2)
      | lst _ _ => cases hl.1
      | dct _ _ _ => cases hl.1
      | dt _ _ _ => cases hl.1
      | scr _ => cases hl.1
theorem fun_ok {k : Nat} {x qual : Str} {st : Stmt} {f : Addr} {fd : FuncData} {N ps : List Str} {pin : Bool} {body : Sm} (G : Fun K x qual st f fd) (S : FnScope N ps (defScope st))
    (hN : N.length = ps.length + n)
    (hbody : ∀ (cdv : Value) (A : Around) (outer : List Env) (s : Shared) (H : Hp) (E : XK), Room k (A.deeper (envOfC qual (defScope st) s.heap.objs.size f cdv)) →
      (A.deeper (envOfC qual (defScope st) s.heap.objs.size f cdv)).guards = some [] →
        CSs (cxOf CX0 P w K mg base N qual (defScope st) f cdv A outer s H E).nox (if pin then [0] else []) (defBody st) body) :
    FnG P w K mg base (k + 1) f fd ps (spM K (runDef pin ps.length n body)) := by
  obtain ⟨oc, od, kV, doc, pm, an, cdv, ct, osl, rfl, lk, hcd⟩ := G.ex
  have len : ∀ vs H Q E, spM K (runDef pin ps.length n body) vs H Q E → vs.length = ps.length := fun vs H Q E h => by
    obtain ⟨F, T, os, r, os', W, hf, _⟩ := h
    unfold runDef at hf
    by_cases hc : os.length = ps.length ∧ (if pin then !os.isEmpty && os.tail.all isLeaf else os.all isLeaf) = true
    · have l := W.eo.length
      rw [List.length_map, List.length_map] at l
      exact l.trans hc.1
    · rw [if_neg hc] at hf
      cases hf
  refine fnG_of lk hcd S len fun A outer s H vs Q E hr hgd h => ?_
  refine ⟨_, hbody cdv A outer s H E hr hgd, ?_⟩
  have lv := len vs H Q E h
  obtain ⟨F, T, os, r, os', W, hf, k⟩ := h
  unfold runDef at hf
  by_cases hc : os.length = ps.length ∧ (if pin then !os.isEmpty && os.tail.all isLeaf else os.all isLeaf) = true
  · rw [if_pos hc] at hf
    obtain ⟨out, h1, h2⟩ := R.ok_of_bind hf
    have W0 : WF K F H (L2.start N vs) (os.map some ++ List.replicate n none) T := by
      refine ⟨W.fh, W.off, W.nd, ?_⟩
      have e : L2.start N vs = vs.map some ++ List.replicate n none := by
        unfold L2.start
        rw [hN, lv, Nat.add_sub_cancel_left]
      rw [e]
      exact W.eo.append_none n
    refine ⟨F, T, _, out, W0, h1, ?_⟩
    -- the end: what is left of the arguments
    have fin : ∀ {v : V} {r' : O} {σ' : L2.St} {en' : En} {F' H' : Hp} {S' : List Addr}, Step F H T F' H' S' → WF K F' H' (some v :: σ') (some r' :: en') S' → Pin (if pin then [0] else []) (L2.start N vs) σ' →
        (if pin then (match en' with | some o0 :: _ => R.ok (r', o0 :: os.tail) | _ => .bad) else .ok (r', os)) = R.ok (r, os') → Q v H' := by
      intro v r' σ' en' F' H' S' st W' pn he
      obtain ⟨A1, T1, rfl, rr, WT⟩ := W'.split
      cases hpin : pin with
      | false =>
        rw [hpin] at he hc
        cases he
        have eo := leaf_eo (H' := H') st.ff W.eo hc.2
        refine k v F' H' (A1 ++ []) (st.sub fun x hx => List.mem_append_left _ (by simpa using hx)) ⟨WT.fh, fun a ha => W'.off a (List.mem_append_left _ (by simpa using ha)), ?_, .som rr eo⟩
        rw [List.append_nil]
        exact (List.nodup_append.mp W'.nd).1
      | true =>
        rw [hpin] at he hc
        cases en' with
        | nil => cases he
        | cons y en' =>
          cases y with
          | none => cases he
          | some o0 =>
            cases he
            cases os with
            | nil => cases hc.2
            | cons p0 os =>
              cases vs with
              | nil =>
                have l := W.eo.length
                cases l
              | cons v0 vs =>
                have hl : os.all isLeaf = true := by simpa using hc.2
                obtain ⟨x0, T0, S0, e0⟩ : ∃ x0 T0 S0, EO K F H (vs.map some) (os.map some) T0 ∧ T = S0 ++ T0 ∧ x0 = v0 := by
                  cases W.eo with
                  | som r0 t0 => exact ⟨_, _, _, t0, rfl, rfl⟩
                obtain ⟨t0, rfl, _⟩ := e0
                have eo := leaf_eo (H' := H') st.ff t0 hl
                obtain ⟨B1, T2, rfl, r0, WT2⟩ : ∃ B1 T2, T1 = B1 ++ T2 ∧ RO K F' H' o0 v0 B1 ∧ True := by
                  have hp := pn 0 (by rw [hpin]; exact List.mem_singleton.mpr rfl)
                  cases WT.eo with
                  | som r0 t2 =>
                    have e1 : (L2.start N (v0 :: vs))[0]? = some (some v0) := rfl
                    rw [e1] at hp
                    cases hp
                    exact ⟨_, _, rfl, r0, trivial⟩
                have mem : ∀ a, a ∈ A1 ++ (B1 ++ []) → a ∈ A1 ++ (B1 ++ T2) := fun a ha => by
                  rcases List.mem_append.mp ha with z | z
                  · exact List.mem_append_left _ z
                  · exact List.mem_append_right _ (List.mem_append_left _ (by simpa using z))
                refine k v F' H' (A1 ++ (B1 ++ [])) (st.sub mem) ⟨WT.fh, fun a ha => W'.off a (mem a ha), ?_, .som rr (.som r0 eo)⟩
                have nd := W'.nd
                rw [List.append_nil]
                rw [List.nodup_append, List.nodup_append] at nd
                rw [List.nodup_append]
                exact ⟨nd.1, nd.2.1.1, fun a ha b hb => nd.2.2 a ha b (List.mem_append_left _ hb)⟩
    cases out with
    | rt r' en' => exact fun v σ' F' H' S' st W' pn => fin st W' pn h2
    | nx en' => exact fun σ' F' H' S' st W' pn => fin st (W'.leaf .non) pn h2
    | bk en' => cases h2
    | ct en' => cases h2
  · rw [if_neg hc] at hf
    cases hf
end
end
end Ev
namespace Ev
noncomputable section
open PySem L2 Evl
/-- what a turn gives: data that stands, or a new pair -/
def Yl (K : PySem.W.Frag) (F H : Hp) (d : PyData) (x : V) (H' : Hp) : Prop :=
  (H' = H ∧ Dp K F x d) ∨ ∃ t x1 x2 d1 d2, x = .ref t ∧ H t = none ∧ H' = upd H t (.tup [x1, x2]) ∧ d = .tuple [d1, d2] ∧ Dp K F x1 d1 ∧ Dp K F x2 d2
/-- an iterator goes through data; T: what must stand beside the frozen heap meanwhile -/
structure Walks (K : PySem.W.Frag) (F : Hp) (T : List Addr) (HT : Hp) (J : It) (ds : List PyData) : Prop where
  ex : ∃ G, Walk J ds.length G (fun i H x H' => ∃ d, ds[i]? = some d ∧ Yl K F H d x H') ∧ ∀ H, Ex F H → (∀ a ∈ T, H a = HT a) → G H
abbrev Im := En → R (List PyData × En)
def tI (K : PySem.W.Frag) (m : Im) : TI := fun σ H Q => ∃ F S en ds en', WF K F H σ en S ∧ m en = .ok (ds, en') ∧ ∀ J F' H' S', Step F H S F' H' S' → WF K F' H' σ en' S' → Walks K F' [] H' J ds → Q J H'
def CI (X : Cx) (tg e : Expr) (m : Im) : Prop := PI X tg e (tI X.K m)
theorem PI.imp {X : Cx} {tg e : Expr} {t t' : TI} (h : PI X tg e t) (k : ∀ σ H Q, t' σ H Q → t σ H Q) : PI X tg e t' := ⟨fun pins s σ H R I q => h.run pins s σ H R I (k σ H R q)⟩
section
variable {X : Cx} {pin : List Nat} {a b c e : Expr} {es : List Expr} {pos : Pos} {K : PySem.W.Frag} {F H F' H' : Hp} {σ : St} {en en' : En} {S : List Addr}
/-- a turn's data, the state behind it -/
theorem Yl.wf {d : PyData} {x : V} (W : WF K F H σ en S) (ex : Ex F' F) (y : Yl K F' H d x H') : ∃ F2, Step F H S F2 H' S ∧ WF K F2 H' σ en S ∧ Dp K F2 x d ∧ (∀ a, H a ≠ none → H' a = H a ∧ (F a = none → F2 a = none)) := by
  rcases y with ⟨rfl, dp⟩ | ⟨t, x1, x2, d1, d2, rfl, nt, rfl, rfl, p1, p2⟩
  · exact ⟨F, Step.refl, W, Dp.mono ex _ _ dp, fun _ _ => ⟨rfl, id⟩⟩
  · have hh := W.newTup nt (.cons (Dp.mono ex _ _ p1) (.cons (Dp.mono ex _ _ p2) .nil))
    obtain ⟨dp, W2⟩ := hh.2.head
    refine ⟨_, hh.1, W2, dp, fun a ha => ?_⟩
    have ne : a ≠ t := fun z => ha (by rw [z]; exact nt)
    exact ⟨upd_ne ne, fun z => by rw [upd_ne ne]; exact z⟩
/-! ### for -/
def forL (g : Gm) (b : Sm) : List PyData → En → R Out
  | [], en => .ok (.nx en)
  | d :: ds, en => (g d en).bind fun e1 => (b e1).bind fun o => match o with
    | .nx e2 => forL g b ds e2
    | .ct e2 => forL g b ds e2
    | .bk e2 => .ok (.nx e2)
    | .rt r e2 => .ok (.rt r e2)
def sFor (it : Im) (g : Gm) (b : Sm) : Sm := fun en => (it en).bind fun p => forL g b p.1 p.2
theorem drop_at {α : Type} {l : List α} {i : Nat} {x : α} (h : l[i]? = some x) : l.drop i = x :: l.drop (i + 1) := by
  obtain ⟨h1, h2⟩ := List.getElem?_eq_some_iff.mp h
  rw [← h2, List.drop_eq_getElem_cons h1]
theorem cs_for {tg iter : Expr} {body : List Stmt} {it : Im} {g : Gm} {bm : Sm} {ws : List Nat} (hp : PassesOwn (model X.prog X.w) X.A X.env X.xe) (hc : X.calm = true) (hi : CI X tg iter it) (hg : CG X ws tg g) (hb : CSs X pin body bm) (hw : ∀ i ∈ ws, i ∉ pin := by decide)
    (hs : ∀ x, foldedSetIterable iter X.env x = pure x := by intro _; rfl) : CS X pin (.For tg iter body [] pos) (sFor it g bm) := PS.imp (ps_for hp hc hi hg hb hs) fun D σ H q => by
  obtain ⟨F, S, en, out, W, hm, k⟩ := q
  obtain ⟨⟨ds, e1⟩, h1, h2⟩ := R.ok_of_bind hm
  refine ⟨F, S, en, ds, e1, W, h1, fun J F1 H1 S1 st1 W1 wk => ?_⟩
  obtain ⟨G, wk, hG⟩ := wk.ex
  refine for_it wk (fun i σ' H' => ∃ F' S' e', Step F1 H1 S1 F' H' S' ∧ WF X.K F' H' σ' e' S' ∧ Pin pin σ σ' ∧ forL g bm (ds.drop i) e' = .ok out)
    ⟨F1, S1, e1, Step.refl, W1, Pin.refl, h2⟩ (fun i σ' H' hi ⟨F', S', e', st, W', _, _⟩ => hG H' (st.ff.trans W'.fh) fun _ z => absurd z List.not_mem_nil) (fun i x σ' H2 H3 hi ⟨F', S', e', st, W', pn, hf⟩ ⟨d, hd, y⟩ => ?_) (fun σ' H' ⟨F', S', e', st, W', pn, hf⟩ => ?_)
  · obtain ⟨F2, st2, W2, dp, _⟩ := y.wf W' st.ff
    rw [drop_at hd] at hf
    obtain ⟨e2, g1, hf⟩ := R.ok_of_bind hf
    obtain ⟨o, b1, hf⟩ := R.ok_of_bind hf
    refine ⟨F2, S', e', d, e2, W2, dp, g1, fun σ2 S2 sub W3 ju => ?_⟩
    have st3 := (st.trans st2).sub sub
    have pn2 := pn.trans (just_pin ju hw)
    refine ⟨F2, S2, e2, o, W3, b1, ?_⟩
    cases o with
    | nx e3 => exact fun σ3 F3 H3 S3 st4 W4 p4 => ⟨F3, S3, e3, st3.trans st4, W4, pn2.trans p4, hf⟩
    | ct e3 => exact fun σ3 F3 H3 S3 st4 W4 p4 => ⟨F3, S3, e3, st3.trans st4, W4, pn2.trans p4, hf⟩
    | bk e3 =>
      cases hf
      exact fun σ3 F3 H3 S3 st4 W4 p4 => k σ3 F3 H3 S3 ((st1.trans st3).trans st4) W4 (pn2.trans p4)
    | rt r e3 =>
      cases hf
      exact fun v σ3 F3 H3 S3 st4 W4 p4 => k v σ3 F3 H3 S3 ((st1.trans st3).trans st4) W4 (pn2.trans p4)
  · rw [List.drop_eq_nil_of_le (Nat.le_refl _)] at hf
    cases hf
    exact k σ' F' H' S' (st1.trans st) W' pn
/-! ### while -/
def whileN (c : Xm) (b : Sm) : Nat → En → R Out
  | 0, _ => .bad
  | n + 1, en => (c en).bind fun p => match p.1 with
    | .leaf (.bool true) => (b p.2).bind fun o => match o with
      | .nx e2 => whileN c b n e2
      | .ct e2 => whileN c b n e2
      | .bk e2 => .ok (.nx e2)
      | .rt r e2 => .ok (.rt r e2)
    | .leaf (.bool false) => .ok (.nx p.2)
    | _ => .bad
def sWhile (n : Nat) (c : Xm) (b : Sm) : Sm := whileN c b n
theorem whileN_ok {c : Xm} {b : Sm} {n : Nat} {en : En} {out : Out} (h : whileN c b (n + 1) en = .ok out) : ∃ k e1, c en = .ok (.leaf (.bool k), e1) ∧
    (if k = true then ∃ o, b e1 = .ok o ∧ (match o with | .nx e2 => whileN c b n e2 = .ok out | .ct e2 => whileN c b n e2 = .ok out | .bk e2 => out = .nx e2 | .rt r e2 => out = .rt r e2) else out = .nx e1) := by
  obtain ⟨⟨o1, e1⟩, h1, h2⟩ := R.ok_of_bind h
  rcases bool_or o1 with ⟨k, rfl⟩ | no
  · refine ⟨k, e1, h1, ?_⟩
    cases k with
    | true =>
      obtain ⟨o, b1, h3⟩ := R.ok_of_bind h2
      refine ⟨o, b1, ?_⟩
      cases o with
      | nx e2 => exact h3
      | ct e2 => exact h3
      | bk e2 => cases h3; rfl
      | rt r e2 => cases h3; rfl
    | false => cases h2; rfl
  · dsimp only at h2
    split at h2
    · exact absurd rfl (no _)
    · exact absurd rfl (no _)
    · cases h2
theorem cs_while {c : Expr} {body : List Stmt} {mc : Xm} {bm : Sm} {n : Nat} (hp : PassesOwn (model X.prog X.w) X.A X.env X.xe) (hc : CT X c mc) (hb : CSs X pin body bm) : CS X pin (.While c body [] pos) (sWhile n mc bm) := PS.imp (ps_while hp hc hb) fun D σ H q => by
  obtain ⟨F, S, en, out, W, hm, k⟩ := q
  refine ⟨fun m σ' H' => ∃ F' S' e', Step F H S F' H' S' ∧ WF X.K F' H' σ' e' S' ∧ Pin pin σ σ' ∧ whileN mc bm m e' = .ok out, ⟨n, F, S, en, Step.refl, W, Pin.refl, hm⟩, fun m σ' H' ⟨F', S', e', st, W', pn, hf⟩ => ?_⟩
  cases m with
  | zero => cases hf
  | succ m =>
    obtain ⟨t, e1, h1, h2⟩ := whileN_ok hf
    refine ⟨F', S', e', t, e1, W', h1, fun F2 H2 S2 st2 W2 => ?_⟩
    cases t with
    | true =>
      obtain ⟨o, b1, h3⟩ := h2
      refine ⟨fun σ3 H3 => ∃ F3 S3 e3, Step F H S F3 H3 S3 ∧ WF X.K F3 H3 σ3 e3 S3 ∧ Pin pin σ σ3 ∧ whileN mc bm m e3 = .ok out, fun σ3 H3 h => ⟨m, Nat.lt_succ_self _, h⟩, F2, S2, e1, o, W2, b1, ?_⟩
      cases o with
      | nx e2 => exact fun σ3 F3 H3 S3 st4 W4 p4 => ⟨F3, S3, e2, (st.trans st2).trans st4, W4, pn.trans p4, h3⟩
      | ct e2 => exact fun σ3 F3 H3 S3 st4 W4 p4 => ⟨F3, S3, e2, (st.trans st2).trans st4, W4, pn.trans p4, h3⟩
      | bk e2 =>
        have h3' : out = .nx e2 := h3
        subst h3'
        exact fun σ3 F3 H3 S3 st4 W4 p4 => k σ3 F3 H3 S3 ((st.trans st2).trans st4) W4 (pn.trans p4)
      | rt r e2 =>
        have h3' : out = .rt r e2 := h3
        subst h3'
        exact fun v σ3 F3 H3 S3 st4 W4 p4 => k v σ3 F3 H3 S3 ((st.trans st2).trans st4) W4 (pn.trans p4)
    | false =>
      have h2' : out = .nx e1 := h2
      subst h2'
      exact k σ' F2 H2 S2 (st.trans st2) W2 pn
/-! ### comprehensions -/
def wipeE (en : En) : List Nat → En
  | [] => en
  | v :: vs => (wipeE en vs).set v none
theorem wf_wipe (W : WF K F H σ en S) : ∀ vs : List Nat, ∃ T, T.Sublist S ∧ WF K F H (wipe σ vs) (wipeE en vs) T
  | [] => ⟨S, List.Sublist.refl _, W⟩
  | v :: vs => by
    obtain ⟨T, h1, W1⟩ := wf_wipe W vs
    obtain ⟨T2, h2, q⟩ := W1.eo.drop v none
    exact ⟨T2, h2.trans h1, W1.fh, fun a ha => W1.off a (h2.subset ha), h2.nodup W1.nd, q⟩
theorem wipe_in {σ : St} {i : Nat} : ∀ {vs : List Nat}, i ∈ vs → (wipe σ vs)[i]? = if i < σ.length then some none else none
  | [], h => absurd h List.not_mem_nil
  | v :: vs, h => by
    unfold wipe
    by_cases hv : v = i
    · subst hv
      rw [List.getElem?_set_self']
      by_cases hl : v < σ.length
      · rw [if_pos hl, List.getElem?_eq_getElem (by rw [wipe_length]; exact hl)]
        rfl
      · rw [if_neg hl, List.getElem?_eq_none (by rw [wipe_length]; omega)]
        rfl
    · rw [List.getElem?_set_ne hv]
      exact wipe_in ((List.mem_cons.mp h).elim (fun z => absurd z.symm hv) id)
theorem wipe_just {ws vs : List Nat} {σ σ' : St} (ju : Just ws (wipe σ vs) σ') (h : ∀ i ∈ ws, i ∈ vs) : wipe σ' vs = wipe σ vs := by
  have l : σ'.length = σ.length := ju.1.trans (wipe_length σ vs)
  refine List.ext_getElem? fun i => ?_
  by_cases hi : i ∈ vs
  · rw [wipe_in hi, wipe_in hi, l]
  · rw [wipe_out hi]
    exact ju.2 i fun z => hi (h i z)
def compL (vs : List Nat) (g : Gm) (c elt : Xm) : List PyData → List PyData → En → R (List PyData × En)
  | [], acc, en => .ok (acc, en)
  | d :: ds, acc, en => (g d en).bind fun e1 => (c e1).bind fun p => match p.1 with
    | .leaf (.bool true) => (elt p.2).bind fun q => match snap q.1 with
      | some y => if acc.length < sizeL then compL vs g c elt ds (acc ++ [y]) (wipeE q.2 vs) else .bad
      | none => .bad
    | .leaf (.bool false) => compL vs g c elt ds acc (wipeE p.2 vs)
    | _ => .bad
theorem compL_ok {vs : List Nat} {g : Gm} {c elt : Xm} {d : PyData} {ds acc : List PyData} {en : En} {r : List PyData × En} (h : compL vs g c elt (d :: ds) acc en = .ok r) : ∃ e1 k e2, g d en = .ok e1 ∧ c e1 = .ok (.leaf (.bool k), e2) ∧
    (if k = true then ∃ o e3 y, elt e2 = .ok (o, e3) ∧ snap o = some y ∧ acc.length < sizeLine ∧ compL vs g c elt ds (acc ++ [y]) (wipeE e3 vs) = .ok r else compL vs g c elt ds acc (wipeE e2 vs) = .ok r) := by
  obtain ⟨e1, h1, h2⟩ := R.ok_of_bind h
  obtain ⟨⟨o1, e2⟩, h3, h4⟩ := R.ok_of_bind h2
  rcases bool_or o1 with ⟨k, rfl⟩ | no
  · refine ⟨e1, k, e2, h1, h3, ?_⟩
    cases k with
    | true =>
      obtain ⟨⟨o, e3⟩, h5, h6⟩ := R.ok_of_bind h4
      dsimp only at h6
      cases hs : snap o with
      | none => rw [hs] at h6; cases h6
      | some y =>
        rw [hs] at h6
        dsimp only at h6
        by_cases hl : acc.length < sizeL
        · rw [if_pos hl] at h6
          exact ⟨o, e3, y, h5, hs, sizeL_eq ▸ hl, h6⟩
        · rw [if_neg hl] at h6
          cases h6
    | false => exact h4
  · dsimp only at h4
    split at h4
    · exact absurd rfl (no _)
    · exact absurd rfl (no _)
    · cases h4
def tTs (K : PySem.W.Frag) (m : Xm) : TT := tT K m
def mYes : Xm := fun en => .ok (.leaf (.bool true), en)
def CTs (X : Cx) (es : List Expr) (m : Xm) : Prop := PTs X es (tT X.K m)
theorem cts_nil : CTs X [] mYes := ⟨fun pins s σ H Q I q => (pts_nil (X := X)).run pins s σ H Q I (by
  obtain ⟨F, S, en, b, en', W, hm, k⟩ := q
  cases hm
  exact k F H S Step.refl W)⟩
theorem cts_one {m : Xm} (h : CT X e m) : CTs X [e] m := pts_one h
/-- the state of a block: what is told of its end. HT: what stands apart -/
theorem comp_core {vs ws : List Nat} {g : Gm} {c elt : Xm} {J : It} {ds acc' : List PyData} {e0 e' : En} {S1 T : List Addr} {D : Addr} {F1 H1 : Hp} {Qd : Hp → Prop} (hw : ∀ i ∈ ws, i ∈ vs) (W : WF K F1 H1 (wipe σ vs) e0 S1) (hT : ∀ x ∈ T, x ∉ S1 ∧ H1 x ≠ none ∧ F1 x = none)
    (wk : Walks K F1 T H1 J ds) (hD : H1 D = none) (hm : compL vs g c elt ds [] e0 = .ok (acc', e'))
    (hq : ∀ F' H' S' avs, Step F1 H1 S1 F' H' S' → WF K F' H' (wipe σ vs) e' S' → H' D = some (.lst avs) → F' D = none → D ∉ S' → DpAll K F' avs acc' → (∀ x ∈ T, H' x = H1 x ∧ F' x = none ∧ x ∉ S') → Qd H') :
    ∃ W : Nat → Nat → Hp → Prop, (∃ m, W 0 m (upd H1 D (.lst []))) ∧ ∀ i m H, W i m H →
      (J.stop i H ∧ Qd H) ∨ (J.go i H ∧ ∃ Nx : Hp → Prop, (∀ H', Nx H' → ∃ m', m' < m ∧ W (i + 1) m' H') ∧ ∀ x H', J.yld i H x H' → tG K ws g x (wipe σ vs) H' fun σ2 H2 => wipe σ2 vs = wipe σ vs ∧ tT K c σ2 H2 fun b H3 =>
        if b = true then tE K elt σ2 H3 fun y H4 => ∃ acc, H4 D = some (.lst acc) ∧ acc.length < sizeLine ∧ Nx (upd H4 D (.lst (acc ++ [y]))) else Nx H3) := by
  obtain ⟨G, wk, hG⟩ := wk.ex
  have nF : F1 D = none := by
    cases q : F1 D with
    | none => rfl
    | some u => rw [W.fh D u q] at hD; cases hD
  have nS : D ∉ S1 := fun z => W.eo.there D z hD
  -- the invariant
  refine lc_it wk (fun i H => ∃ F' S' e2 acc avs, Step F1 H1 S1 F' H S' ∧ WF K F' H (wipe σ vs) e2 S' ∧ H D = some (.lst avs) ∧ F' D = none ∧ D ∉ S' ∧ DpAll K F' avs acc ∧ compL vs g c elt (ds.drop i) acc e2 = .ok (acc', e')) ?_ ?_ ?_ ?_
  · refine ⟨F1, S1, e0, [], [], ⟨Ex.refl _, fun a o z _ => ?_, fun a z => .inl z, fun a z => .inr (.inl z)⟩, ⟨W.fh.trans (Ex.new hD), W.off, W.nd, W.eo.mono (Ex.refl _) fun a ha => upd_ne fun z => nS (by rw [← z]; exact ha)⟩, upd_same, nF, nS, .nil, hm⟩
    rw [upd_ne (ne_of_none z hD)]
    exact z
  · rintro i H _ ⟨F', S', e2, acc, avs, st, W', _⟩
    exact hG H (st.ff.trans W'.fh) fun x hx => (st.held (hT x hx).1 (hT x hx).2.1 (hT x hx).2.2).1
  · rintro i x H2 H3 hi ⟨F', S', e2, acc, avs, st, W', eD, fD, sD, dpa, hf⟩ ⟨d, hd, y⟩
    obtain ⟨F2, st2, W2, dp, keep⟩ := y.wf W' st.ff
    have kD := keep D (by rw [eD]; exact fun z => nomatch z)
    rw [drop_at hd] at hf
    obtain ⟨e3, k, e4, g1, c1, hf⟩ := compL_ok hf
    refine ⟨F2, S', e2, d, e3, W2, dp, g1, fun σ2 S2 sub W3 ju => ⟨wipe_just ju hw, ?_⟩⟩
    have ewp : wipe σ2 vs = wipe σ vs := wipe_just ju hw
    refine ⟨F2, S2, e3, k, e4, W3, c1, fun F4 H4 S4 st4 W4 => ?_⟩
    have st34 := ((st.trans st2).sub sub).trans st4
    have D2 : H3 D = some (.lst avs) := kD.1.trans eD
    have d4 := st4.held (x := D) (fun z => sD (sub D z)) (by rw [D2]; exact fun z => nomatch z) (kD.2 fD)
    -- what a step on behind this must give
    cases k with
    | true =>
      obtain ⟨o, e5, y, l1, l2, l3, hf⟩ := hf
      refine ⟨F4, S4, e4, o, e5, W4, l1, fun v F5 H5 S5 st5 W5 => ?_⟩
      obtain ⟨F6, S6, v6, ev, st6, W6, dp6⟩ := W5.freeze (i := 0) rfl l2
      cases ev
      obtain ⟨dp6, W7⟩ := W6.head
      have d6 := (st5.trans st6).held (x := D) d4.2.2 (by rw [d4.1, D2]; exact fun z => nomatch z) d4.2.1
      have eD6 : H5 D = some (.lst avs) := d6.1.trans (d4.1.trans D2)
      obtain ⟨T7, sub7, W8⟩ := wf_wipe W7 vs
      rw [ewp] at W8
      have st8 := (st34.trans (st5.trans st6)).sub fun a ha => sub7.subset ha
      have nD8 : D ∉ T7 := fun z => d6.2.2 (sub7.subset z)
      have dpa' : DpAll K F6 avs acc := DpAll.mono (st2.ff.trans (st4.ff.trans (st5.trans st6).ff)) _ _ dpa
      have eUp : ∀ a, a ≠ D → upd H5 D (.lst (avs ++ [v])) a = H5 a := fun a h => upd_ne h
      refine ⟨avs, eD6, by rw [DpAll.length dpa]; exact l3, F6, T7, wipeE e5 vs, acc ++ [y], avs ++ [v], ⟨st8.ff, fun a o z n => ?_, st8.s, st8.f⟩, ⟨fun a o z => ?_, W8.off, W8.nd, W8.eo.mono (Ex.refl _) fun a ha => eUp a fun z => nD8 (by rw [← z]; exact ha)⟩, upd_same, d6.2.1, nD8, DpAll.append dpa' (.cons dp6 .nil), hf⟩
      · rw [eUp a (ne_of_none z hD)]
        exact st8.hh a o z n
      · rw [eUp a (fun q => by rw [q, d6.2.1] at z; cases z)]
        exact W8.fh a o z
    | false =>
      obtain ⟨T7, sub7, W8⟩ := wf_wipe W4 vs
      rw [ewp] at W8
      exact ⟨F4, T7, wipeE e4 vs, acc, avs, st34.sub fun a ha => sub7.subset ha, W8, d4.1.trans D2, d4.2.1, fun z => d4.2.2 (sub7.subset z), DpAll.mono (st2.ff.trans st4.ff) _ _ dpa, hf⟩
  · rintro H ⟨F', S', e2, acc, avs, st, W', eD, fD, sD, dpa, hf⟩
    rw [List.drop_eq_nil_of_le (Nat.le_refl _)] at hf
    cases hf
    exact hq F' H S' avs st W' eD fD sD dpa fun x hx => st.held (hT x hx).1 (hT x hx).2.1 (hT x hx).2.2
/-- the slots of a block put back as they were -/
def putBack (en0 : En) : List Nat → En → En
  | [], en => en
  | v :: vs, en => putBack en0 vs (match en0[v]? with
    | some (some (.leaf d)) => en.set v (some (.leaf d))
    | _ => en.set v none)
/-- names of a block that own nothing -/
def leafOnly (en : En) (vs : List Nat) : Bool := vs.all fun v => match en[v]? with
  | some (some (.lst _)) => false
  | some (some (.dct _ _)) => false
  | some (some (.dt _)) => false
  | some (some (.scr _)) => false
  | _ => true
theorem wf_back {σ1 : St} {F0 H0 : Hp} {S0 : List Addr} {en0 : En} (W0 : WF K F0 H0 σ en0 S0) : ∀ (vs : List Nat) {en : En} {S : List Addr}, WF K F H σ1 en S → Ex F0 F → σ1.length = σ.length → (∀ i, i ∉ vs → σ1[i]? = σ[i]?) →
    ∃ T, (∀ x ∈ T, x ∈ S) ∧ WF K F H σ (putBack en0 vs en) T
  | [], en, S, W, _, hl, hs => ⟨S, fun _ h => h, by
    have e : σ1 = σ := List.ext_getElem? fun i => hs i List.not_mem_nil
    rw [← e]
    exact W⟩
  | v :: vs, en, S, W, ex, hl, hs => by
    unfold putBack
    have nxt : ∀ (x : Option V), σ[v]? = some x ∨ σ[v]? = none → ∀ i, i ∉ vs → (σ1.set v x)[i]? = σ[i]? := fun x hx i hi => by
      by_cases hv : v = i
      · subst hv
        by_cases hlt : v < σ1.length
        · rw [List.getElem?_set_self hlt]
          rcases hx with hx | hx
          · exact hx.symm
          · exact absurd (List.getElem?_eq_none_iff.mp hx) (by omega)
        · rw [List.getElem?_eq_none (by rw [List.length_set]; omega), List.getElem?_eq_none (by omega)]
      · rw [List.getElem?_set_ne hv]
        exact hs i fun z => (List.mem_cons.mp z).elim (fun q => hv q.symm) hi
    have other : ∃ T, (∀ x ∈ T, x ∈ S) ∧ WF K F H σ (putBack en0 vs (en.set v none)) T := by
      have hx : ∃ x, σ[v]? = some x ∨ σ[v]? = none := by
        cases q : σ[v]? with
        | none => exact ⟨none, .inr rfl⟩
        | some x => exact ⟨x, .inl rfl⟩
      obtain ⟨x, hx⟩ := hx
      obtain ⟨T, h2, q⟩ := W.eo.drop v x
      obtain ⟨T2, s2, W2⟩ := wf_back W0 vs (σ1 := σ1.set v x) ⟨W.fh, fun a ha => W.off a (h2.subset ha), h2.nodup W.nd, q⟩ ex (by rw [List.length_set]; exact hl) (nxt x hx)
      exact ⟨T2, fun a ha => h2.subset (s2 a ha), W2⟩
    split
    · rename_i d hd
      obtain ⟨u, e1, dp⟩ := W0.slot hd
      obtain ⟨T, sub, W1⟩ := (W.leaf (Dp.mono ex _ _ dp)).store v
      obtain ⟨T2, s2, W2⟩ := wf_back W0 vs (σ1 := σ1.set v (some u)) W1 ex (by rw [List.length_set]; exact hl) (nxt (some u) (.inl e1))
      exact ⟨T2, fun a ha => sub a (s2 a ha), W2⟩
    · exact other
def mComp (vs : List Nat) (it : Im) (g : Gm) (c elt : Xm) : Xm := fun en => (it en).bind fun p => (compL vs g c elt p.1 [] (wipeE p.2 vs)).bind fun q => .ok (.lst (q.1.map O.leaf), putBack p.2 vs q.2)
theorem wipe_len0 {σ : St} {vs : List Nat} : ∀ i, i ∉ vs → (wipe σ vs)[i]? = σ[i]? := fun i h => wipe_out h
theorem comp_read {vs ws : List Nat} {it : Im} {g : Gm} {c elt : Xm} (hw : ∀ i ∈ ws, i ∈ vs) (σ : St) (H : Hp) (Q : VK) (q : tE K (mComp vs it g c elt) σ H Q) : tLc (tI K it) (tG K ws g) (tT K c) (tE K elt) vs σ H Q := by
  obtain ⟨F, S, en, o, en', W, hm, k⟩ := q
  obtain ⟨⟨ds, e1⟩, h1, hm⟩ := R.ok_of_bind hm
  obtain ⟨⟨acc, e2⟩, h2, hm⟩ := R.ok_of_bind hm
  cases hm
  refine ⟨F, S, en, ds, e1, W, h1, fun J F1 H1 S1 st1 W1 wk D hD => ?_⟩
  obtain ⟨S2, sub2, W2⟩ := wf_wipe W1 vs
  refine comp_core (T := []) hw W2 (fun _ z => absurd z List.not_mem_nil) wk hD h2 fun F' H' S' avs st W' eD fD sD dpa _ => ?_
  obtain ⟨S3, sub3, W3⟩ := wf_back W1 vs W' st.ff (wipe_length σ vs) wipe_len0
  have nF : F1 D = none := by
    cases q : F1 D with
    | none => rfl
    | some u => rw [W1.fh D u q] at hD; cases hD
  have sD3 : D ∉ S3 := fun z => sD (sub3 D z)
  refine k (.ref D) F' H' (D :: S3) (st1.trans ⟨st.ff, fun a o e n => st.hh a o e fun z => n (sub2.subset z), fun a ha => ?_, fun a ha => ?_⟩) ⟨W3.fh, fun a ha => ?_, List.nodup_cons.mpr ⟨sD3, W3.nd⟩, .som (S := [D]) (.lst (S := []) eD (ROs.ofAll dpa)) W3.eo⟩
  · rcases List.mem_cons.mp ha with e | ha
    · exact .inr (by rw [e]; exact hD)
    · rcases st.s a (sub3 a ha) with z | z
      · exact .inl (sub2.subset z)
      · exact .inr z
  · rcases st.f a ha with z | z
    · exact .inl (sub2.subset z)
    · exact .inr z
  · rcases List.mem_cons.mp ha with e | ha
    · rw [e]; exact fD
    · exact W3.off a ha
theorem ce_comp {elt tg iter : Expr} {ifs : List Expr} {scope : Scope} {own : List (Str × Nat)} {ws : List Nat} {it : Im} {g : Gm} {mc me : Xm} (hc : X.calm = true) (hN : X.N.Nodup) (hi : CI X tg iter it) (ok : BlkOk X.N X.env.scope scope own) (hw : ∀ i ∈ ws, i ∈ own.map (·.2))
    (hg : ∀ (s : Shared) (H : Hp) (C : Addr) (cl : List (Str × Addr)) (fp : List Addr), CG (X.blk s H scope (compEnvC scope cl C X.env) fp) ws tg g) (ht : ∀ (s : Shared) (H : Hp) (C : Addr) (cl : List (Str × Addr)) (fp : List Addr), CTs (X.blk s H scope (compEnvC scope cl C X.env) fp) ifs mc)
    (he : ∀ (s : Shared) (H : Hp) (C : Addr) (cl : List (Str × Addr)) (fp : List Addr), CE (X.blk s H scope (compEnvC scope cl C X.env) fp) elt me) (hs : ∀ x, foldedSetIterable iter X.env x = pure x := by intro _; rfl) :
    CE X (.ListComp elt [⟨tg, iter, ifs, 0⟩] scope pos) (mComp (own.map (·.2)) it g mc me) := PE.imp (pe_lc (g := tG X.K ws g) (tt := tT X.K mc) (te := tE X.K me) hc hN hi ok hg ht he hs) (comp_read hw)
/-- name = [..] on one line, the name a plain local -/
theorem cs_setComp {elt tg iter : Expr} {ifs : List Expr} {scope : Scope} {own : List (Str × Nat)} {ws : List Nat} {it : Im} {g : Gm} {mc me : Xm} {i : Nat} {y : Str} {py spos : Pos} (hc : X.calm = true) (hN : X.N.Nodup) (hy : X.N[i]? = some y) (hyl : X.env.scope.names.lookup y = some .local)
    (hsw : swapsWith (.ListComp elt [⟨tg, iter, ifs, 0⟩] scope pos) (some (.Name y py)) spos.line X.env = pure true) (hi : CI X tg iter it) (ok : BlkOk X.N X.env.scope scope own) (hw : ∀ i ∈ ws, i ∈ own.map (·.2))
    (hg : ∀ (s : Shared) (H : Hp) (C : Addr) (cl : List (Str × Addr)) (fp : List Addr), CG (X.blk s H scope (compEnvC scope cl C X.env) fp) ws tg g) (ht : ∀ (s : Shared) (H : Hp) (C : Addr) (cl : List (Str × Addr)) (fp : List Addr), CTs (X.blk s H scope (compEnvC scope cl C X.env) fp) ifs mc)
    (he : ∀ (s : Shared) (H : Hp) (C : Addr) (cl : List (Str × Addr)) (fp : List Addr), CE (X.blk s H scope (compEnvC scope cl C X.env) fp) elt me) (hp : i ∉ pin := by decide) (hs : ∀ x, foldedSetIterable iter X.env x = pure x := by intro _; rfl) :
    CS X pin (.Assign [.Name y py] (.ListComp elt [⟨tg, iter, ifs, 0⟩] scope pos) spos) (sSet i (mComp (own.map (·.2)) it g mc me)) :=
  PS.imp (ps_setLc (g := tG X.K ws g) (tt := tT X.K mc) (te := tE X.K me) hc hN hy hyl hsw hi ok hg ht he hs) fun D σ H q => by
  have z := set_read hp D σ H q
  obtain ⟨F, S, en, out, W, hm, k⟩ := q
  exact comp_read (K := X.K) hw σ H (fun x H1 => gName i x σ H1 D.nx) (by
    obtain ⟨F2, S2, en2, o2, e2, W2, h2, f2⟩ := z
    exact ⟨F2, S2, en2, o2, e2, W2, h2, f2⟩)
end
end
end Ev
namespace Ev
noncomputable section
open PySem PySem.Spec L2 Evl
def inBig (i : Int) : Bool := decide (-big < i ∧ i < big)
def small64 (i : Int) : Bool := decide (-pow64 < i ∧ i < pow64)
theorem small64_ok {i : Int} (h : small64 i = true) : -(2 ^ 64) < i ∧ i < 2 ^ 64 := by
  have h' := of_decide_eq_true h
  rw [pow64_eq] at h'
  exact h'
def mulOk (i j : Int) : Bool := small64 i || small64 j || (inBig i && inBig j)
theorem big_log {i : Int} (h : inBig i = true) : i.natAbs.log2 < 8000 := by
  have h' := of_decide_eq_true h
  rw [big_eq] at h'
  refine PySem.Flt.log2_lt_of (by decide) ?_
  have e : ((2 : Int) ^ 8000) = ((2 ^ 8000 : Nat) : Int) := by simp
  rw [e] at h'
  omega
theorem mulOk_ok {i j : Int} (h : mulOk i j = true) : IntMulOk i j := by
  unfold mulOk at h
  rw [Bool.or_eq_true, Bool.or_eq_true, Bool.and_eq_true] at h
  rcases h with (h | h) | ⟨h1, h2⟩
  · exact CMul.ok (.inl (small64_ok h))
  · exact CMul.ok (.inr (small64_ok h))
  · have a := big_log h1
    have b := big_log h2
    exact CMulW.ok (by unfold CMulW; omega)
section
variable {X : Cx} {a b c e : Expr} {es : List Expr} {pos : Pos} {K : PySem.W.Frag}
/-! ### int operators -/
abbrev lf (d : PyData) : Option O := some (.leaf d)
def oAdd : PyData → PyData → Option O
  | .int i, .int j => lf (.int (i + j))
  | .list xs, .list ys => if xs.length + ys.length ≤ sizeL then some (.lst ((xs ++ ys).map O.leaf)) else none
  | .tuple xs, .tuple ys => if xs.length + ys.length ≤ sizeL then lf (.tuple (xs ++ ys)) else none
  | .str x, .str y => if x.length + y.length ≤ sizeL then lf (.str (x ++ y)) else none
  | _, _ => none
def oSub : PyData → PyData → Option O
  | .int i, .int j => lf (.int (i - j))
  | _, _ => none
def oMul : PyData → PyData → Option O
  | .int i, .int j => if mulOk i j = true then lf (.int (i * j)) else none
  | .list xs, .int k => if -pow63 ≤ k ∧ k < pow63 ∧ xs.length * k.toNat ≤ sizeL then some (.lst ((List.replicate k.toNat xs).flatten.map O.leaf)) else none
  | .tuple xs, .int k => if xs ≠ [] ∧ 2 ≤ k ∧ k ≤ 1000 ∧ xs.length ≤ 1000 then lf (.tuple (List.replicate k.toNat xs).flatten) else none
  | _, _ => none
def oDiv : PyData → PyData → Option O
  | .int i, .int j => if j ≠ 0 ∧ inBig j = true then lf (.int (i.fdiv j)) else none
  | _, _ => none
def oMod : PyData → PyData → Option O
  | .int i, .int j => if j ≠ 0 then lf (.int (i.fmod j)) else none
  | _, _ => none
def oPow : PyData → PyData → Option O
  | .int i, .int j => if 0 ≤ j ∧ j ≤ 1000000 ∧ i.natAbs < 2 ^ 64 then lf (.int (i ^ j.toNat)) else none
  | _, _ => none
/-- an answer on ints alone -/
theorem osnd_I {C : Int → Int → Prop} {g : Int → Int → Int} {f : PyData → PyData → Option O} (h : ∀ dx dy o, f dx dy = some o → ∃ i j, dx = .int i ∧ dy = .int j ∧ C i j ∧ o = .leaf (.int (g i j))) : OSnd K (rI C fun i j => .int (g i j)) f := by
  intro F H S σ en x y dx dy o Q W hx hy hf k
  obtain ⟨i, j, rfl, rfl, hc, rfl⟩ := h _ _ _ hf
  exact ⟨i, j, hx.int, hy.int, hc, k.leaf W (.int _)⟩
theorem op_divB : OpR X (binaryOp .FloorDiv) (rI (fun _ j => j ≠ 0 ∧ inBig j = true) fun i j => .int (i.fdiv j)) := opI fun _ _ _ _ _ _ _ hc q => PyProof.Rows.floordiv_int hc.1 q (.inl (PyProof.noPylong_of_log2 (Nat.lt_of_lt_of_le (big_log hc.2) (by decide))))
theorem op_mulB : OpR X (binaryOp .Mult) (rI (fun i j => mulOk i j = true) fun i j => .int (i * j)) := opI fun _ _ _ _ _ _ _ hc q => PyProof.Rows.mul_int q (mulOk_ok hc)
theorem ce_sub {oa ob : Om} (ha : CO X a oa) (hb : CO X b ob) : CE X (.BinOp a .Sub b pos) (mOp2 oSub oa ob) :=
  ce_op (r := rI (fun _ _ => True) fun i j => .int (i - j)) (fun pins s σ H x y v u Q I rx ry ⟨i, j, e1, e2, _, q⟩ => op_sub pins s σ H x y v u Q I rx ry ⟨i, j, e1, e2, q⟩) (osnd_I fun dx dy o h => by
    cases dx <;> cases dy <;> first | (cases h; exact ⟨_, _, rfl, rfl, trivial, rfl⟩) | cases h) ha hb
theorem ite_some {α : Type} {c : Prop} [Decidable c] {x y : α} (h : (if c then some x else none) = some y) : c ∧ y = x := by
  by_cases hc : c
  · rw [if_pos hc] at h; cases h; exact ⟨hc, rfl⟩
  · rw [if_neg hc] at h; cases h
theorem ce_div {oa ob : Om} (ha : CO X a oa) (hb : CO X b ob) : CE X (.BinOp a .FloorDiv b pos) (mOp2 oDiv oa ob) :=
  ce_op op_divB (osnd_I fun dx dy o h => by
    cases dx <;> cases dy <;> first | (obtain ⟨h1, h2⟩ := ite_some h; exact ⟨_, _, rfl, rfl, h1, h2⟩) | cases h) ha hb
theorem ce_mod {oa ob : Om} (ha : CO X a oa) (hb : CO X b ob) : CE X (.BinOp a .Mod b pos) (mOp2 oMod oa ob) :=
  ce_op op_modN (osnd_I fun dx dy o h => by
    cases dx <;> cases dy <;> first | (obtain ⟨h1, h2⟩ := ite_some h; exact ⟨_, _, rfl, rfl, h1, h2⟩) | cases h) ha hb
theorem ce_pow {oa ob : Om} (ha : CO X a oa) (hb : CO X b ob) : CE X (.BinOp a .Pow b pos) (mOp2 oPow oa ob) :=
  ce_op op_pow (osnd_I fun dx dy o h => by
    cases dx <;> cases dy <;> first | (obtain ⟨h1, h2⟩ := ite_some h; exact ⟨_, _, rfl, rfl, h1, h2⟩) | cases h) ha hb
/-! ### operators of several kinds -/
theorem DpAll.nil_iff {F : Hp} {xs : List V} {ds : List PyData} (h : DpAll K F xs ds) : xs = [] ↔ ds = [] := by
  cases h with
  | nil => exact ⟨fun _ => rfl, fun _ => rfl⟩
  | cons _ _ => exact ⟨fun z => (List.cons_ne_nil _ _ z).elim, fun z => (List.cons_ne_nil _ _ z).elim⟩
theorem DpAll.rep {F : Hp} {xs : List V} {ds : List PyData} (h : DpAll K F xs ds) : ∀ k : Nat, DpAll K F (List.replicate k xs).flatten (List.replicate k ds).flatten
  | 0 => .nil
  | k + 1 => by
    rw [List.replicate_succ, List.replicate_succ, List.flatten_cons, List.flatten_cons]
    exact DpAll.append h (DpAll.rep h k)
theorem DpT.frozenT {F H : Hp} {v : V} {ds : List PyData} (h : DpT K F H v (.tuple ds)) : Dp K F v (.tuple ds) := by
  cases h with
  | dp h => exact h
def rAddU (K : PySem.W.Frag) : R2 := fun x y H Q => rI0 (fun i j => .int (i + j)) x y H Q ∨ (rCat x y H Q ∨ (rCatA K x y H Q ∨ ∃ i j, x = .str i ∧ y = .str j ∧ i.length + j.length ≤ sizeLine ∧ Q (.str (i ++ j)) H))
theorem ce_add {oa ob : Om} (ha : CO X a oa) (hb : CO X b ob) : CE X (.BinOp a .Add b pos) (mOp2 oAdd oa ob) :=
  ce_op (r := rAddU X.K) (op_add.or (op_cat.or (op_catA.or op_add_str))) (fun F H S σ en x y dx dy o Q W hx hy hf k => by
    cases dx <;> cases dy <;> first | cases hf; done | skip
    · cases hf
      exact .inl ⟨_, _, hx.int, hy.int, k.leaf W (.int _)⟩
    · obtain ⟨h1, rfl⟩ := ite_some hf
      rw [sizeL_eq] at h1
      cases hx.str
      cases hy.str
      exact .inr (.inr (.inr ⟨_, _, rfl, rfl, h1, k.leaf W (.str _)⟩))
    · obtain ⟨h1, rfl⟩ := ite_some hf
      rw [sizeL_eq] at h1
      obtain ⟨p, xs, rfl, hp, dx⟩ := hx.list W.fh
      obtain ⟨q, ys, rfl, hq, dy⟩ := hy.list W.fh
      exact .inr (.inl ⟨p, q, xs, ys, rfl, rfl, hp, hq, by rw [DpAll.length dx, DpAll.length dy]; exact h1, fun r nr => k.lst W (DpAll.append dx dy) nr⟩)
    · obtain ⟨h1, rfl⟩ := ite_some hf
      rw [sizeL_eq] at h1
      have fx := hx.frozenT
      have fy := hy.frozenT
      obtain ⟨p, xs, rfl, hp, dx⟩ := hx.tuple W.fh
      obtain ⟨q, ys, rfl, hq, dy⟩ := hy.tuple W.fh
      refine .inr (.inr (.inl ⟨p, q, xs, ys, rfl, rfl, hp, hq, by rw [DpAll.length dx, DpAll.length dy]; exact h1, fun z => ?_, fun _ z => ?_, fun _ _ r nr => k.tup W (DpAll.append dx dy) nr⟩))
      · rw [(DpAll.nil_iff dx).mp z, List.nil_append] at k
        exact k.leaf W fy
      · rw [(DpAll.nil_iff dy).mp z, List.append_nil] at k
        exact k.leaf W fx) ha hb
def rMulU (K : PySem.W.Frag) : R2 := fun x y H Q => rI (fun i j => mulOk i j = true) (fun i j => .int (i * j)) x y H Q ∨ (rRep x y H Q ∨ rRepT K x y H Q)
theorem ce_mul {oa ob : Om} (ha : CO X a oa) (hb : CO X b ob) : CE X (.BinOp a .Mult b pos) (mOp2 oMul oa ob) :=
  ce_op (r := rMulU X.K) (op_mulB.or (op_rep.or op_repT)) (fun F H S σ en x y dx dy o Q W hx hy hf k => by
    cases dx <;> cases dy <;> first | cases hf; done | skip
    · obtain ⟨h1, rfl⟩ := ite_some hf
      exact .inl ⟨_, _, hx.int, hy.int, h1, k.leaf W (.int _)⟩
    · obtain ⟨h1, rfl⟩ := ite_some hf
      rw [sizeL_eq, pow63_eq] at h1
      obtain ⟨p, xs, rfl, hp, dx⟩ := hx.list W.fh
      cases hy.int
      exact .inr (.inl ⟨p, _, xs, rfl, rfl, hp, h1.1, h1.2.1, by rw [DpAll.length dx]; exact h1.2.2, fun r nr => k.lst W (DpAll.rep dx _) nr⟩)
    · obtain ⟨h1, rfl⟩ := ite_some hf
      obtain ⟨p, xs, rfl, hp, dx⟩ := hx.tuple W.fh
      cases hy.int
      exact .inr (.inr ⟨p, _, xs, rfl, rfl, hp, fun z => h1.1 ((DpAll.nil_iff dx).mp z), h1.2.1, h1.2.2.1, by rw [DpAll.length dx]; exact h1.2.2.2, fun r nr => k.tup W (DpAll.rep dx _) nr⟩)) ha hb
/-! ### comparisons -/
def oEq : PyData → PyData → Option O
  | .str x, .str y => lf (.bool (x == y))
  | d, e => if SeqAt.shaped d = true ∧ SeqAt.shaped e = true then lf (.bool (PyData.eqv d e)) else none
def oNe : PyData → PyData → Option O
  | .str x, .str y => lf (.bool (!(x == y)))
  | d, e => if SeqAt.shaped d = true ∧ SeqAt.shaped e = true then lf (.bool (!PyData.eqv d e)) else none
def oCmp (p : Int → Int → Bool) : PyData → PyData → Option O
  | .int i, .int j => lf (.bool (p i j))
  | _, _ => none
def rEqU (K : PySem.W.Frag) : R2 := fun x y H Q => rEqD K x y H Q ∨ rEq x y H Q
def rNeU (K : PySem.W.Frag) : R2 := fun x y H Q => rNeD K x y H Q ∨ rNe x y H Q
theorem two_str (d e : PyData) : (∃ x y, d = .str x ∧ e = .str y) ∨ (oEq d e = if SeqAt.shaped d = true ∧ SeqAt.shaped e = true then lf (.bool (PyData.eqv d e)) else none) ∧ (oNe d e = if SeqAt.shaped d = true ∧ SeqAt.shaped e = true then lf (.bool (!PyData.eqv d e)) else none) := by
  cases d <;> cases e <;> first | exact .inl ⟨_, _, rfl, rfl⟩ | exact .inr ⟨rfl, rfl⟩
theorem eq_snd : OSnd K (rEqU K) oEq := fun F H S σ en x y dx dy o Q W hx hy hf k => by
  rcases two_str dx dy with ⟨s, t, rfl, rfl⟩ | ⟨e, _⟩
  · cases hf
    cases hx.str
    cases hy.str
    have q := k.leaf W (.bl _)
    exact .inr ⟨rfl, by rw [dec_str]; exact q⟩
  · rw [e] at hf
    obtain ⟨⟨h1, h2⟩, rfl⟩ := ite_some hf
    exact .inl ⟨dx, dy, Dp.out _ _ (hx.all W.fh), Dp.out _ _ (hy.all W.fh), h1, h2, k.leaf W (.bl _)⟩
theorem ne_snd : OSnd K (rNeU K) oNe := fun F H S σ en x y dx dy o Q W hx hy hf k => by
  rcases two_str dx dy with ⟨s, t, rfl, rfl⟩ | ⟨_, e⟩
  · cases hf
    cases hx.str
    cases hy.str
    have q := k.leaf W (.bl _)
    exact .inr ⟨rfl, by rw [dec_str]; exact q⟩
  · rw [e] at hf
    obtain ⟨⟨h1, h2⟩, rfl⟩ := ite_some hf
    exact .inl ⟨dx, dy, Dp.out _ _ (hx.all W.fh), Dp.out _ _ (hy.all W.fh), h1, h2, k.leaf W (.bl _)⟩
theorem cmp_snd {p : Int → Int → Bool} : OSnd K (rI0 fun i j => .bl (p i j)) (oCmp p) := fun F H S σ en x y dx dy o Q W hx hy hf k => by
  cases dx <;> cases dy <;> first | cases hf; done | skip
  cases hf
  exact ⟨_, _, hx.int, hy.int, k.leaf W (.bl _)⟩
abbrev oLt := oCmp fun i j => decide (i < j)
abbrev oLe := oCmp fun i j => decide (i ≤ j)
abbrev oGt := oCmp fun i j => decide (j < i)
abbrev oGe := oCmp fun i j => decide (j ≤ i)
section
variable {oa ob : Om} (ha : CO X a oa) (hb : CO X b ob)
include ha hb
theorem ce_eq (hu : X.A.units + 64 < cLine) : CE X (.Compare a [.Eq] [b] pos) (mOp2 oEq oa ob) := ce_cmp ((op_eqD hu).or op_eq) eq_snd ha hb (nomark _)
theorem ct_eq (hu : X.A.units + 64 < cLine) : CT X (.Compare a [.Eq] [b] pos) (mOp2 oEq oa ob) := ct_cmp ((op_eqD hu).or op_eq) eq_snd ha hb (nomark _)
theorem ce_ne (hu : X.A.units + 64 < cLine) : CE X (.Compare a [.NotEq] [b] pos) (mOp2 oNe oa ob) := ce_cmp ((op_neD hu).or op_ne) ne_snd ha hb (nomark _)
theorem ct_ne (hu : X.A.units + 64 < cLine) : CT X (.Compare a [.NotEq] [b] pos) (mOp2 oNe oa ob) := ct_cmp ((op_neD hu).or op_ne) ne_snd ha hb (nomark _)
theorem ce_lt : CE X (.Compare a [.Lt] [b] pos) (mOp2 oLt oa ob) := ce_cmp op_lt cmp_snd ha hb (nomark _)
theorem ct_lt : CT X (.Compare a [.Lt] [b] pos) (mOp2 oLt oa ob) := ct_cmp op_lt cmp_snd ha hb (nomark _)
theorem ce_le : CE X (.Compare a [.LtE] [b] pos) (mOp2 oLe oa ob) := ce_cmp op_le cmp_snd ha hb (nomark _)
theorem ct_le : CT X (.Compare a [.LtE] [b] pos) (mOp2 oLe oa ob) := ct_cmp op_le cmp_snd ha hb (nomark _)
theorem ce_gt : CE X (.Compare a [.Gt] [b] pos) (mOp2 oGt oa ob) := ce_cmp op_gt cmp_snd ha hb (nomark _)
theorem ct_gt : CT X (.Compare a [.Gt] [b] pos) (mOp2 oGt oa ob) := ct_cmp op_gt cmp_snd ha hb (nomark _)
theorem ce_ge : CE X (.Compare a [.GtE] [b] pos) (mOp2 oGe oa ob) := ce_cmp op_ge cmp_snd ha hb (nomark _)
theorem ct_ge : CT X (.Compare a [.GtE] [b] pos) (mOp2 oGe oa ob) := ct_cmp op_ge cmp_snd ha hb (nomark _)
end
/-- x in a list of data; in a tuple of flat data -/
def flatD : PyData → Bool
  | .none => true
  | .bool _ => true
  | .int _ => true
  | .str _ => true
  | _ => false
def oIn (neg : Bool) : PyData → PyData → Option O
  | d, .list ds => if SeqAt.shaped d = true ∧ SeqAt.shaped (.list ds) = true then lf (.bool (neg ^^ ds.any fun z => PyData.eqv z d)) else none
  | d, .tuple ds => if flatD d = true ∧ ds.all flatD = true then lf (.bool (neg ^^ ds.any fun z => PyData.eqv z d)) else none
  | _, _ => none
theorem flat_dp {F : Hp} {v : V} {d : PyData} (h : Dp K F v d) (f : flatD d = true) : flatV v = true := by
  cases h <;> first | rfl | cases f
theorem flat_all {F : Hp} : ∀ {vs : List V} {ds : List PyData}, DpAll K F vs ds → ds.all flatD = true → vs.all flatV = true
  | _, _, .nil, _ => rfl
  | _, _, .cons a t, h => by
    rw [List.all_cons, Bool.and_eq_true] at h
    rw [List.all_cons, Bool.and_eq_true]
    exact ⟨flat_dp a h.1, flat_all t h.2⟩
theorem eqV_dp {F : Hp} {v w : V} {d e : PyData} (h1 : Dp K F v d) (h2 : Dp K F w e) (f1 : flatD d = true) (f2 : flatD e = true) : eqV v w = PyData.eqv d e := by
  cases h1 <;> cases h2 <;> first | rfl | cases f1 | cases f2
theorem inV_dp {F : Hp} {v : V} {d : PyData} (h : Dp K F v d) (f : flatD d = true) : ∀ {vs : List V} {ds : List PyData}, DpAll K F vs ds → ds.all flatD = true → inV v vs = ds.any fun z => PyData.eqv z d
  | _, _, .nil, _ => rfl
  | _, _, .cons a t, hh => by
    rw [List.all_cons, Bool.and_eq_true] at hh
    have ih := inV_dp h f t hh.2
    unfold inV at ih ⊢
    rw [List.any_cons, List.any_cons, ih, eqV_dp a h hh.1 f]
def rInU (K : PySem.W.Frag) (neg : Bool) : R2 := fun x y H Q => (if neg then rNotInD K x y H Q else rInD K x y H Q) ∨ rIn K neg x y H Q
theorem in_snd {neg : Bool} : OSnd K (rInU K neg) (oIn neg) := fun F H S σ en x y dx dy o Q W hx hy hf k => by
  cases dy with
  | list ds =>
    obtain ⟨⟨h1, h2⟩, rfl⟩ := ite_some hf
    refine .inl ?_
    cases neg with
    | true => exact ⟨dx, ds, Dp.out _ _ (hx.all W.fh), Dp.out _ _ (hy.all W.fh), h1, h2, by simpa using k.leaf W (.bl _)⟩
    | false => exact ⟨dx, ds, Dp.out _ _ (hx.all W.fh), Dp.out _ _ (hy.all W.fh), h1, h2, by simpa using k.leaf W (.bl _)⟩
  | tuple ds =>
    obtain ⟨⟨h1, h2⟩, rfl⟩ := ite_some hf
    obtain ⟨p, xs, rfl, hp, da⟩ := hy.tuple W.fh
    have da' := DpAll.mono W.fh _ _ da
    have dx' := hx.all W.fh
    refine .inr ⟨p, xs, rfl, .inr hp, flat_dp dx' h1, flat_all da' h2, ?_⟩
    rw [inV_dp dx' h1 da' h2]
    have q := k.leaf W (.bl _)
    cases neg with
    | true => simpa using q
    | false => simpa using q
  | none => cases hf
  | bool _ => cases hf
  | int _ => cases hf
  | str _ => cases hf
  | dict _ => cases hf
theorem op_inU (hu : X.A.units + 65 < cLine) : OpR X (compareOp .In) (rInU X.K false) := (op_inD hu).or op_in_seq
theorem op_notInU (hu : X.A.units + 65 < cLine) : OpR X (compareOp .NotIn) (rInU X.K true) := (op_notInD hu).or op_notIn_seq
section
variable {oa ob : Om} (ha : CO X a oa) (hb : CO X b ob)
include ha hb
theorem ce_in (hu : X.A.units + 65 < cLine) (hm : behindInMarks .In b = false := by rfl) : CE X (.Compare a [.In] [b] pos) (mOp2 (oIn false) oa ob) := ce_cmp (op_inU hu) in_snd ha hb hm
theorem ct_in (hu : X.A.units + 65 < cLine) (hm : behindInMarks .In b = false := by rfl) : CT X (.Compare a [.In] [b] pos) (mOp2 (oIn false) oa ob) := ct_cmp (op_inU hu) in_snd ha hb hm
theorem ce_notIn (hu : X.A.units + 65 < cLine) (hm : behindInMarks .NotIn b = false := by rfl) : CE X (.Compare a [.NotIn] [b] pos) (mOp2 (oIn true) oa ob) := ce_cmp (op_notInU hu) in_snd ha hb hm
theorem ct_notIn (hu : X.A.units + 65 < cLine) (hm : behindInMarks .NotIn b = false := by rfl) : CT X (.Compare a [.NotIn] [b] pos) (mOp2 (oIn true) oa ob) := ct_cmp (op_notInU hu) in_snd ha hb hm
end
/-- x is None -/
def isNoneD : PyData → Bool
  | .none => true
  | _ => false
def oIs (neg : Bool) : PyData → PyData → Option O
  | d, .none => lf (.bool (neg ^^ isNoneD d))
  | _, _ => none
theorem none_dp {F : Hp} {v : V} {d : PyData} (h : Dp K F v d) : decide (v = .non) = isNoneD d := by
  cases h <;> first | rfl | (exact decide_eq_false (fun z => by cases z))
section
variable {oa ob : Om} (ha : CO X a oa) (hb : CO X b ob)
include ha hb
theorem is_snd : OSnd K (fun x y H Q => y = .non ∧ Q (.bl (decide (x = .non))) H) (oIs false) := fun F H S σ en x y dx dy o Q W hx hy hf k => by
  cases dy <;> first | (cases hf; done) | skip
  cases hf
  refine ⟨hy.none, ?_⟩
  rw [none_dp (hx.all W.fh)]
  simpa using k.leaf W (.bl _)
theorem isnt_snd : OSnd K (fun x y H Q => y = .non ∧ Q (.bl (!decide (x = .non))) H) (oIs true) := fun F H S σ en x y dx dy o Q W hx hy hf k => by
  cases dy <;> first | (cases hf; done) | skip
  cases hf
  refine ⟨hy.none, ?_⟩
  rw [none_dp (hx.all W.fh)]
  simpa using k.leaf W (.bl _)
end
theorem ce_is {oa ob : Om} (ha : CO X a oa) (hb : CO X b ob) : CE X (.Compare a [.Is] [b] pos) (mOp2 (oIs false) oa ob) := ce_cmp op_isN (is_snd ha hb) ha hb (nomark _)
theorem ct_is {oa ob : Om} (ha : CO X a oa) (hb : CO X b ob) : CT X (.Compare a [.Is] [b] pos) (mOp2 (oIs false) oa ob) := ct_cmp op_isN (is_snd ha hb) ha hb (nomark _)
theorem ce_isnt {oa ob : Om} (ha : CO X a oa) (hb : CO X b ob) : CE X (.Compare a [.IsNot] [b] pos) (mOp2 (oIs true) oa ob) := ce_cmp op_notN (isnt_snd ha hb) ha hb (nomark _)
theorem ct_isnt {oa ob : Om} (ha : CO X a oa) (hb : CO X b ob) : CT X (.Compare a [.IsNot] [b] pos) (mOp2 (oIs true) oa ob) := ct_cmp op_notN (isnt_snd ha hb) ha hb (nomark _)
/-! ### subscripts, slices -/
def oIx : PyData → PyData → Option O
  | .list ds, .int i => (atI ds i).map O.leaf
  | .tuple ds, .int i => (atI ds i).map O.leaf
  | _, _ => none
theorem atI_dp {F : Hp} {vs : List V} {ds : List PyData} {i : Int} {d : PyData} (h : DpAll K F vs ds) (e : atI ds i = some d) : ∃ v, atI vs i = some v ∧ Dp K F v d := by
  unfold atI at e ⊢
  rw [DpAll.length h]
  cases q : ixN ds.length i with
  | none => rw [q] at e; cases e
  | some j =>
    rw [q] at e
    exact DpAll.get h e
theorem ix_snd : OSnd K (rIx K) oIx := fun F H S σ en x y dx dy o Q W hx hy hf k => by
  cases dx <;> cases dy <;> first | cases hf; done | skip
  · obtain ⟨p, xs, rfl, hp, da⟩ := hx.list W.fh
    obtain ⟨d, h1, rfl⟩ := Option.map_eq_some_iff.mp hf
    obtain ⟨v, h2, dv⟩ := atI_dp da h1
    exact .inl ⟨p, xs, _, v, rfl, hy.int, sq_of hp, h2, k.leaf W dv⟩
  · obtain ⟨p, xs, rfl, hp, da⟩ := hx.tuple W.fh
    obtain ⟨d, h1, rfl⟩ := Option.map_eq_some_iff.mp hf
    obtain ⟨v, h2, dv⟩ := atI_dp da h1
    exact .inr (.inl ⟨p, xs, _, v, rfl, hy.int, hp, h2, k.leaf W dv⟩)
theorem ce_idx {oa ob : Om} (ha : CO X a oa) (hb : CO X b ob) (hs : PlainIx b := by exact fun _ _ => rfl) : CE X (.Subscript a b pos) (mOp2 oIx oa ob) := ce_ix ix_seq ix_snd ha hb hs
/-- xs[lo:hi]: the parts are ints, or left out -/
abbrev Pm := En → R (Option Int × En)
def tP (K : PySem.W.Frag) (m : Pm) : TO := fun σ H Q => ∃ F S en i en', WF K F H σ en S ∧ m en = .ok (i, en') ∧ ∀ F' H' S', Step F H S F' H' S' → WF K F' H' σ en' S' → Q i H'
def CP (X : Cx) (e : Option Expr) (m : Pm) : Prop := PO X e (tP X.K m)
theorem PO.imp {e : Option Expr} {t t' : TO} (h : PO X e t) (k : ∀ σ H Q, t' σ H Q → t σ H Q) : PO X e t' := ⟨fun pins s σ H Q I q => h.run pins s σ H Q I (k σ H Q q)⟩
def pNo : Pm := fun en => .ok (none, en)
def pE (m : Xm) : Pm := fun en => (m en).bind fun p => match p.1 with
  | .leaf (.int i) => .ok (some i, p.2)
  | _ => .bad
theorem cp_no : CP X none pNo := PO.imp po_none fun σ H Q q => by
  obtain ⟨F, S, en, i, en', W, hm, k⟩ := q
  cases hm
  exact k F H S Step.refl W
theorem cp_e {m : Xm} (h : CE X e m) : CP X (some e) (pE m) := PO.imp (po_some h) fun σ H Q q => by
  obtain ⟨F, S, en, i, en', W, hm, k⟩ := q
  obtain ⟨⟨o, e1⟩, h1, h2⟩ := R.ok_of_bind hm
  refine ⟨F, S, en, o, e1, W, h1, fun v F' H' S' st W' => ?_⟩
  dsimp only at h2
  split at h2
  · cases h2
    obtain ⟨dp, W2⟩ := W'.head
    cases dp
    exact ⟨_, rfl, k F' H' S' st W2⟩
  · cases h2
def cutD (ds : List PyData) (lo hi : Option Int) : List PyData := (ds.drop (HT.sIx ds.length 0 lo)).take (HT.sIx ds.length ds.length hi - HT.sIx ds.length 0 lo)
theorem cut_dp {F : Hp} {vs : List V} {ds : List PyData} (h : DpAll K F vs ds) (lo hi : Option Int) : DpAll K F (cutV vs lo hi) (cutD ds lo hi) := by
  unfold cutV cutD
  rw [DpAll.length h]
  exact DpAll.take _ (DpAll.drop _ h)
theorem cut_whole {ds : List PyData} {lo hi : Option Int} (h : HT.sIx ds.length 0 lo = 0 ∧ HT.sIx ds.length ds.length hi = ds.length) : cutD ds lo hi = ds := by
  unfold cutD
  rw [h.1, h.2]
  simp
def oSl (lo hi : Option Int) : PyData → Option O
  | .list ds => some (.lst ((cutD ds lo hi).map O.leaf))
  | .tuple ds => lf (.tuple (cutD ds lo hi))
  | _ => none
def mSl (a : Om) (l h : Pm) : Xm := fun en => (a en).bind fun p => (l p.2).bind fun q => (h q.2).bind fun r => match p.1 r.2 with
  | some d => match oSl q.1 r.1 d with
    | some o => .ok (o, r.2)
    | none => .bad
  | none => .bad
def rSlU (K : PySem.W.Frag) : V → Option Int → Option Int → Hp → VK → Prop := fun x lo hi H Q => rSlL K x lo hi H Q ∨ rSlA K x lo hi H Q
theorem ce_slice {oa : Om} {ml mh : Pm} {lo hi : Option Expr} {p2 : Pos} (ha : CO X a oa) (hl : CP X lo ml) (hh : CP X hi mh) : CE X (.Subscript a (.Slice lo hi none p2) pos) (mSl oa ml mh) :=
  PE.imp (pe_slice (r := rSlU X.K) (sl_list.or sl_tupA) ha hl hh) fun σ H Q q => by
  obtain ⟨F, S, en, o, en', W, hm, k⟩ := q
  obtain ⟨⟨ra, e1⟩, h1, hm⟩ := R.ok_of_bind hm
  obtain ⟨⟨i, e2⟩, h2, hm⟩ := R.ok_of_bind hm
  obtain ⟨⟨j, e3⟩, h3, hm⟩ := R.ok_of_bind hm
  dsimp only at h2 h3 hm
  refine ⟨F, S, en, ra, e1, W, h1, fun x F1 H1 S1 st1 W1 o1 => ?_⟩
  refine ⟨F1, S1, e1, i, e2, W1, h2, fun F2 H2 S2 st2 W2 => ?_⟩
  refine ⟨F2, S2, e2, j, e3, W2, h3, fun F3 H3 S3 st3 W3 => ?_⟩
  cases hr : ra e3 with
  | none => rw [hr] at hm; cases hm
  | some d =>
    rw [hr] at hm
    dsimp only at hm
    have dt := o1 F3 H3 S3 e3 d (st2.ff.trans st3.ff) W3 hr
    have k' := k.pre ((st1.trans st2).trans st3)
    cases d with
    | list ds =>
      cases hm
      obtain ⟨p, xs, rfl, hp, da⟩ := dt.list W3.fh
      exact .inl ⟨p, xs, rfl, sq_of hp, fun r nr => k'.lst W3 (cut_dp da i j) nr⟩
    | tuple ds =>
      cases hm
      have fx := dt.frozenT
      obtain ⟨p, xs, rfl, hp, da⟩ := dt.tuple W3.fh
      refine .inr ⟨p, xs, rfl, hp, fun z => ?_, fun _ r nr => k'.tup W3 (cut_dp da i j) nr⟩
      rw [DpAll.length da] at z
      rw [cut_whole z] at k'
      exact k'.leaf W3 fx
    | none => cases hm
    | bool _ => cases hm
    | int _ => cases hm
    | str _ => cases hm
    | dict _ => cases hm
/-! ### -x -/
def mNeg (m : Xm) : Xm := fun en => (m en).bind fun p => match p.1 with
  | .leaf (.int i) => .ok (.leaf (.int (-i)), p.2)
  | _ => .bad
theorem ce_neg {m : Xm} (h : CE X a m) : CE X (.UnaryOp .USub a pos) (mNeg m) := PE.imp (pe_un un_neg h) fun σ H Q q => by
  obtain ⟨F, S, en, o, en', W, hm, k⟩ := q
  obtain ⟨⟨o1, e1⟩, h1, h2⟩ := R.ok_of_bind hm
  refine ⟨F, S, en, o1, e1, W, h1, fun v F' H' S' st W' => ?_⟩
  dsimp only at h2
  split at h2
  · cases h2
    obtain ⟨dp, W2⟩ := W'.head
    cases dp
    exact ⟨_, rfl, (k.pre st).leaf W2 (.int _)⟩
  · cases h2
end
end
end Ev
namespace Ev
noncomputable section
open PySem PySem.Spec L2 Evl
section
variable {X : Cx} {a b c e : Expr} {es : List Expr} {pos : Pos} {K : PySem.W.Frag}
/-! ### built-in functions by values -/
theorem dpts_nil {F H : Hp} {vs : List V} (h : DpTs K F H vs []) : vs = [] := by cases h; rfl
theorem ce_b {id : String} {x : Str} {p : Pos} {r : List V → Hp → VK → Prop} {f : List PyData → Option O} {m : As} (hc : CallR X (.builtin id) r) (h : CSnd X.K r f) (hg : Gl X x) (hm : X.mg x = none) (hv : bootBuiltins x = some (.builtin id)) (ha : CA X (e :: es) m)
    (hn : x ≠ "__name__" := by decide) (hdb : (x == ("__debug__" : Str)) = false := by decide) (he : starEach (e :: es) X.env = (false, eval e X.env) :: starEach es X.env := by rfl) (hpl : (backTo pos (starEach es X.env)).any (·.1) = false := by rfl) : CE X (.Call (.Name x p) (e :: es) [] pos) (mAs f m) :=
  PE.imp (pe_callB hc hg hm hv ha hn hdb he hpl) (cb_read h)
theorem ce_ty {T : String} {x : Str} {p : Pos} {r : List V → Hp → VK → Prop} {f : List PyData → Option O} {m : As} (hc : CallR X (.type T) r) (h : CSnd X.K r f) (hg : Gl X x) (hm : X.mg x = none) (hv : bootBuiltins x = some (.type T)) (ha : CA X (e :: es) m)
    (hn : x ≠ "__name__" := by decide) (hdb : (x == ("__debug__" : Str)) = false := by decide) (he : starEach (e :: es) X.env = (false, eval e X.env) :: starEach es X.env := by rfl) (hpl : (backTo pos (starEach es X.env)).any (·.1) = false := by rfl) : CE X (.Call (.Name x p) (e :: es) [] pos) (mAs f m) :=
  PE.imp (pe_callTy hc hg hm hv ha hn hdb he hpl) (cb_read h)
/-- one argument -/
theorem csnd1 {r : List V → Hp → VK → Prop} {f : PyData → Option O} (h : ∀ F H S σ en v d o Q, WF K F H σ en S → DpT K F H v d → f d = some o → Fin K F H S σ en o Q → r [v] H Q) : CSnd K r (fun ds => match ds with | [d] => f d | _ => none) := fun F H S σ en vs ds o Q W hd hf k => by
  cases hd with
  | nil => cases hf
  | cons h1 t =>
    cases t with
    | nil => exact h F H S σ en _ _ o Q W h1 hf k
    | cons _ _ => cases hf
abbrev o1 (f : PyData → Option O) : List PyData → Option O := fun ds => match ds with
  | [d] => f d
  | _ => none
def oAbs : PyData → Option O
  | .int i => lf (.int (if i < 0 then -i else i))
  | _ => none
theorem abs_snd : CSnd K (fun xs H Q => ∃ i, xs = [.int i] ∧ Q (.int (if i < 0 then -i else i)) H) (o1 oAbs) := csnd1 fun F H S σ en v d o Q W hd hf k => by
  cases d <;> first | (cases hf; done) | skip
  cases hf
  cases hd.int
  exact ⟨_, rfl, k.leaf W (.int _)⟩
def oInt : PyData → Option O
  | .int i => lf (.int i)
  | .bool b => lf (.int (if b then 1 else 0))
  | _ => none
theorem int_snd : CSnd K (fun xs H Q => (∃ i, xs = [.int i] ∧ Q (.int i) H) ∨ ∃ k, xs = [.bl k] ∧ Q (.int (if k then 1 else 0)) H) (o1 oInt) := csnd1 fun F H S σ en v d o Q W hd hf k => by
  cases d <;> first | (cases hf; done) | skip
  · cases hf
    cases hd.bool
    exact .inr ⟨_, rfl, k.leaf W (.int _)⟩
  · cases hf
    cases hd.int
    exact .inl ⟨_, rfl, k.leaf W (.int _)⟩
def oLen : PyData → Option O
  | .list ds => lf (.int ds.length)
  | .tuple ds => lf (.int ds.length)
  | .str x => if x.length ≤ sizeL then lf (.int x.length) else none
  | _ => none
theorem len_snd : CSnd K (fun xs H Q => ∃ x n, xs = [x] ∧ LenV K x H n ∧ Q (.int n) H) (o1 oLen) := csnd1 fun F H S σ en v d o Q W hd hf k => by
  cases d <;> first | (cases hf; done) | skip
  · obtain ⟨h1, rfl⟩ := ite_some hf
    rw [sizeL_eq] at h1
    cases hd.str
    exact ⟨_, _, rfl, ⟨h1, rfl⟩, k.leaf W (.int _)⟩
  · cases hf
    obtain ⟨p, xs, rfl, hp, da⟩ := hd.list W.fh
    refine ⟨_, _, rfl, .inl ⟨xs, sq_of hp, rfl⟩, ?_⟩
    rw [DpAll.length da]
    exact k.leaf W (.int _)
  · cases hf
    obtain ⟨p, xs, rfl, hp, da⟩ := hd.tuple W.fh
    refine ⟨_, _, rfl, .inr ⟨xs, hp, rfl⟩, ?_⟩
    rw [DpAll.length da]
    exact k.leaf W (.int _)
def oTuple : PyData → Option O
  | .list ds => lf (.tuple ds)
  | .tuple ds => lf (.tuple ds)
  | _ => none
theorem tuple_snd : CSnd K (fun xs H Q => ∃ p ys, xs = [.ref p] ∧ ((SqL K H p ys ∧ ∀ l, H l = none → Q (.ref l) (upd H l (.tup ys))) ∨ (SqT K H p ys ∧ Q (.ref p) H))) (o1 oTuple) := csnd1 fun F H S σ en v d o Q W hd hf k => by
  cases d <;> first | (cases hf; done) | skip
  · cases hf
    obtain ⟨p, xs, rfl, hp, da⟩ := hd.list W.fh
    exact ⟨p, xs, rfl, .inl ⟨sq_of hp, fun l nl => k.tup W da nl⟩⟩
  · cases hf
    have fx := hd.frozenT
    obtain ⟨p, xs, rfl, hp, da⟩ := hd.tuple W.fh
    exact ⟨p, xs, rfl, .inr ⟨hp, k.leaf W fx⟩⟩
def oList : PyData → Option O
  | .list ds => some (.lst (ds.map O.leaf))
  | .tuple ds => some (.lst (ds.map O.leaf))
  | _ => none
theorem list_snd : CSnd K (fun xs H Q => ∃ p ys, xs = [.ref p] ∧ (SqL K H p ys ∨ SqT K H p ys) ∧ ∀ l, H l = none → Q (.ref l) (upd H l (.lst ys))) (o1 oList) := csnd1 fun F H S σ en v d o Q W hd hf k => by
  cases d <;> first | (cases hf; done) | skip
  · cases hf
    obtain ⟨p, xs, rfl, hp, da⟩ := hd.list W.fh
    exact ⟨p, xs, rfl, .inl (sq_of hp), fun l nl => k.lst W da nl⟩
  · cases hf
    obtain ⟨p, xs, rfl, hp, da⟩ := hd.tuple W.fh
    exact ⟨p, xs, rfl, .inr hp, fun l nl => k.lst W da nl⟩
/-! ### repr -/
def oRepr : PyData → Option O := fun d => if SeqAt.shaped d = true ∧ d.showable = true ∧ d.shown.length ≤ sizeL then lf (.str d.shown) else none
theorem call_reprD (hgd : X.A.guards = some []) (hu : X.A.units + 70 < cLine) : CallR X (.builtin "repr") (fun xs H Q => ∃ v d, xs = [v] ∧ Dp X.K H v d ∧ SeqAt.shaped d = true ∧ d.showable = true ∧ d.shown.length ≤ sizeLine ∧ Q (.str d.shown) H) := by
  intro pins s σ H xs us Q I r h
  obtain ⟨v, d, rfl, dp, h1, h2, h3, q⟩ := h
  obtain ⟨u, rfl, ru⟩ := vals1 r
  have fin : ∀ t : Tok, EP X pins σ Q (.str d.shown t) { s with toks := s.toks + 1 } := fun t => ⟨.str _, H, I.tok _, ⟨_, rfl⟩, q⟩
  cases dp with
  | non =>
    cases ru
    simp only [PyData.shown] at fin
    exact PySem.P.repr_of_none (fin _)
  | bl b =>
    cases ru
    simp only [PyData.shown] at fin
    refine PySem.P.repr_of_bool ?_
    cases b <;> exact fin _
  | int i =>
    obtain ⟨t, rfl⟩ := ru
    simp only [PyData.shown] at fin
    simp only [PyData.showable] at h2
    exact PySem.P.repr_of_int (of_decide_eq_true h2) (fin _)
  | str x =>
    obtain ⟨t, rfl⟩ := ru
    simp only [PyData.shown] at fin h3
    exact PySem.P.repr_of_str (fin _) h3
  | lst hs ha =>
    have ru' : u = Value.ref _ := ru
    subst ru'
    obtain ⟨as, rd⟩ := L2.Dp.reads I _ _ _ (Dp.out _ _ (.lst hs ha)) rfl
    have hdp := SeqAt.depth_of_shaped h1
    refine repr_of_reads' rd h2 (fun z => ?_) hgd (by omega) (fun _ _ z => z) (fun h' u tk hk => ?_) h3
    · rw [PyData.hasDict_of_canLay _ (SeqAt.canLay_of_shaped h1)] at z
      cases z
    · exact ⟨.str _, H, I.kept (t' := tk) hk, ⟨_, rfl⟩, q⟩
  | tup hs ha =>
    have ru' : u = Value.ref _ := ru
    subst ru'
    obtain ⟨as, rd⟩ := L2.Dp.reads I _ _ _ (Dp.out _ _ (.tup hs ha)) rfl
    have hdp := SeqAt.depth_of_shaped h1
    refine repr_of_reads' rd h2 (fun z => ?_) hgd (by omega) (fun _ _ z => z) (fun h' u tk hk => ?_) h3
    · rw [PyData.hasDict_of_canLay _ (SeqAt.canLay_of_shaped h1)] at z
      cases z
    · exact ⟨.str _, H, I.kept (t' := tk) hk, ⟨_, rfl⟩, q⟩
theorem repr_snd : CSnd K (fun xs H Q => ∃ v d, xs = [v] ∧ Dp K H v d ∧ SeqAt.shaped d = true ∧ d.showable = true ∧ d.shown.length ≤ sizeLine ∧ Q (.str d.shown) H) (o1 oRepr) := csnd1 fun F H S σ en v d o Q W hd hf k => by
  obtain ⟨h, rfl⟩ := ite_some hf
  rw [sizeL_eq] at h
  exact ⟨v, d, rfl, hd.all W.fh, h.1, h.2.1, h.2.2, k.leaf W (.str _)⟩
/-! ### what loops walk -/
def iSeq (m : Xm) : Im := fun en => (m en).bind fun p => match snap p.1 with
  | some (.list ds) => .ok (ds, p.2)
  | some (.tuple ds) => .ok (ds, p.2)
  | _ => .bad
theorem yl_at {F : Hp} {xs : List V} {ds : List PyData} (h : DpAll K F xs ds) {i : Nat} {H H' : Hp} {x : V} (hi : i < ds.length) (y : YAt xs i H x H') : ∃ d, ds[i]? = some d ∧ Yl K F H d x H' := by
  obtain ⟨d, hd⟩ : ∃ d, ds[i]? = some d := ⟨_, List.getElem?_eq_getElem hi⟩
  obtain ⟨v, hv, dp⟩ := DpAll.get h hd
  rw [y.2] at hv
  cases hv
  exact ⟨d, hd, .inl ⟨y.1, dp⟩⟩
theorem walks_list {F : Hp} {p : Addr} {xs : List V} {ds : List PyData} {HT : Hp} (hp : F p = some (.lst xs)) (h : DpAll K F xs ds) : Walks K F [] HT (Itl K p) ds := ⟨fun H => SqL K H p xs, by
  have w := walk_list (K := K) (a := p) (xs := xs)
  rw [DpAll.length h] at w
  exact w.mono (fun _ z => z) fun i H x H' hi _ y => yl_at h hi y, fun H ex _ => sq_of (ex _ _ hp)⟩
theorem walks_tup {F : Hp} {p : Addr} {xs : List V} {ds : List PyData} {HT : Hp} (hp : SqT K F p xs) (h : DpAll K F xs ds) : Walks K F [] HT (Itt K p) ds := ⟨fun H => SqT K H p xs, by
  have w := walk_tup (K := K) (a := p) (xs := xs)
  rw [DpAll.length h] at w
  exact w.mono (fun _ z => z) fun i H x H' hi _ y => yl_at h hi y, fun H ex _ => ex_t ex hp⟩
/-- a list or a tuple, whichever comes -/
theorem pi_any {tg l : Expr} {tl : TE} (hl : PE X l tl) : PI X tg l (fun σ H R => tl σ H fun x H1 => ∃ p, x = .ref p ∧ ((∃ xs, SqL X.K H1 p xs ∧ R (Itl X.K p) H1) ∨ ∃ xs, SqT X.K H1 p xs ∧ R (Itt X.K p) H1)) := by
  refine ⟨fun pins s σ H R I h => thn (hl.run pins s σ H _ I h) fun v s1 ⟨x, H1, I1, r1, p, ex, q⟩ => ?_⟩
  subst ex
  cases r1
  have fp : ∀ b ∈ [s1.heap.objs.size], FpOk X pins H1 b := fun b hb => by
    rw [List.mem_singleton.mp hb]
    exact I1.fpOk (Nat.le_refl _) (I1.hok.fresh (Nat.le_refl _))
  have kp : ∀ (o : Obj), Inv X pins σ H1 { s1 with heap := s1.heap.push o } := fun o => I1.kept (t' := s1.toks) fun b u z => Heap.get?_push_of_some _ z
  rcases q with ⟨xs, hq, q⟩ | ⟨xs, hq, q⟩
  · obtain ⟨its, rv, pl, hz⟩ := I1.list hq
    exact wpAny_pyIter_list pl.isList ⟨s1.heap.objs.size, [s1.heap.objs.size], _, _, H1, rfl, kp _, turn_list p _, ⟨_, Heap.get?_push_size _ rfl, rfl, rfl⟩, fp, q⟩
  · obtain ⟨its, rv, pl, hz⟩ := I1.tuple hq
    exact wpAny_pyIter_tuple (show s1.heap.IsTuple p its.toArray from pl) ⟨s1.heap.objs.size, [s1.heap.objs.size], _, _, H1, rfl, kp _, turn_tuple p _, ⟨_, Heap.get?_push_size _ rfl, rfl, rfl⟩, fp, q⟩
theorem ci_seq {tg : Expr} {m : Xm} (h : CE X e m) : CI X tg e (iSeq m) := PI.imp (pi_any h) fun σ H Q q => by
  obtain ⟨F, S, en, ds, en', W, hm, k⟩ := q
  obtain ⟨⟨o, e1⟩, h1, h2⟩ := R.ok_of_bind hm
  refine ⟨F, S, en, o, e1, W, h1, fun v F1 H1 S1 st1 W1 => ?_⟩
  dsimp only at h2
  cases hs : snap o with
  | none => rw [hs] at h2; cases h2
  | some d =>
    rw [hs] at h2
    obtain ⟨F2, S2, v2, ev, st2, W2, dp⟩ := W1.freeze (i := 0) rfl hs
    cases ev
    obtain ⟨dp, W3⟩ := W2.head
    cases dp with
    | lst hp ha => cases h2; exact ⟨_, rfl, .inl ⟨_, sq_of (W3.fh _ _ hp), k _ F2 H1 S2 (st1.trans st2) W3 (walks_list hp ha)⟩⟩
    | tup hp ha => cases h2; exact ⟨_, rfl, .inr ⟨_, ex_t W3.fh hp, k _ F2 H1 S2 (st1.trans st2) W3 (walks_tup hp ha)⟩⟩
    | non => cases h2
    | bl _ => cases h2
    | int _ => cases h2
    | str _ => cases h2
/-- range(n), range(a, b) -/
def rangeD (lo hi : Int) : List PyData := (List.range (hi - lo).toNat).map fun i : Nat => .int (lo + (i : Int))
def iRange (m : As) : Im := fun en => (m en).bind fun p => match resA p.1 p.2 with
  | some [.int n] => if -pow62 ≤ n ∧ n < pow62 then .ok (rangeD 0 n, p.2) else .bad
  | some [.int l, .int n] => if -pow62 ≤ l ∧ l < pow62 ∧ -pow62 ≤ n ∧ n < pow62 then .ok (rangeD l n, p.2) else .bad
  | _ => .bad
theorem walks_range {F : Hp} {lo : Int} {n : Nat} {HT : Hp} {ds : List PyData} (h : ds = (List.range n).map fun i : Nat => .int (lo + (i : Int))) : Walks K F [] HT (Itr lo n) ds := ⟨fun _ => True, by
  have w := walk_range (lo := lo) (n := n)
  have e : ds.length = n := by rw [h, List.length_map, List.length_range]
  rw [e]
  refine w.mono (fun _ z => z) fun i H x H' hi _ y => ⟨.int (lo + i), ?_, .inl ⟨y.1, ?_⟩⟩
  · rw [h, List.getElem?_map, List.getElem?_range hi]
    rfl
  · rw [y.2]
    exact .int _, fun _ _ _ => trivial⟩
theorem range_ok {m : As} {en en' : En} {ds : List PyData} (h : iRange m en = .ok (ds, en')) : ∃ rs, m en = .ok (rs, en') ∧ ((∃ n, resA rs en' = some [.int n] ∧ -(2 ^ 62) ≤ n ∧ n < 2 ^ 62 ∧ ds = rangeD 0 n) ∨
    ∃ l n, resA rs en' = some [.int l, .int n] ∧ (-(2 ^ 62) ≤ l ∧ l < 2 ^ 62 ∧ -(2 ^ 62) ≤ n ∧ n < 2 ^ 62) ∧ ds = rangeD l n) := by
  obtain ⟨⟨rs, e1⟩, h1, h2⟩ := R.ok_of_bind h
  dsimp only at h2
  split at h2
  · rename_i n hr
    by_cases hc : -pow62 ≤ n ∧ n < pow62
    · rw [if_pos hc] at h2
      rw [pow62_eq] at hc
      cases h2
      exact ⟨rs, h1, .inl ⟨n, hr, hc.1, hc.2, rfl⟩⟩
    · rw [if_neg hc] at h2
      cases h2
  · rename_i l n hr
    by_cases hc : -pow62 ≤ l ∧ l < pow62 ∧ -pow62 ≤ n ∧ n < pow62
    · rw [if_pos hc] at h2
      rw [pow62_eq] at hc
      cases h2
      exact ⟨rs, h1, .inr ⟨l, n, hr, hc, rfl⟩⟩
    · rw [if_neg hc] at h2
      cases h2
  · cases h2
theorem ci_range1 {tg : Expr} {m : As} {p : Pos} (hg : Gl X "range") (hm : X.mg "range" = none) (ha : CA X [a] m) (hs : starEach [a] X.env = [(false, eval a X.env)] := by rfl) (hone : ∀ en rs en', m en = .ok (rs, en') → rs.length = 1) : CI X tg (.Call (.Name "range" p) [a] [] pos) (iRange m) :=
  PI.imp (pi_range1 hg hm ha hs) fun σ H Q q => by
  obtain ⟨F, S, en, ds, en', W, hh, k⟩ := q
  obtain ⟨rs, h1, h2⟩ := range_ok hh
  refine ⟨F, S, en, rs, en', W, h1, fun vs F1 H1 S1 st1 W1 os => ?_⟩
  rcases h2 with ⟨n, hr, h3, h4, rfl⟩ | ⟨l, n, hr, _⟩
  · obtain ⟨v, rfl, dv⟩ := (resA_ok W1 os hr).one
    cases dv.int
    refine ⟨n, rfl, h3, h4, k _ F1 H1 S1 st1 W1 (walks_range ?_)⟩
    unfold rangeD
    rw [Int.sub_zero]
  · have l1 := hone _ _ _ h1
    cases rs with
    | nil => cases l1
    | cons r rs =>
      cases rs with
      | nil =>
        simp only [resA] at hr
        split at hr <;> cases hr
      | cons _ _ => simp at l1
theorem ci_range2 {tg : Expr} {m : As} {p : Pos} (hg : Gl X "range") (hm : X.mg "range" = none) (ha : CA X [a, b] m) (hs : starEach [a, b] X.env = [(false, eval a X.env), (false, eval b X.env)] := by rfl) (hs2 : starEach [b] X.env = [(false, eval b X.env)] := by rfl) (hone : ∀ en rs en', m en = .ok (rs, en') → rs.length = 2) : CI X tg (.Call (.Name "range" p) [a, b] [] pos) (iRange m) :=
  PI.imp (pi_range2 hg hm ha hs hs2) fun σ H Q q => by
  obtain ⟨F, S, en, ds, en', W, hh, k⟩ := q
  obtain ⟨rs, h1, h2⟩ := range_ok hh
  refine ⟨F, S, en, rs, en', W, h1, fun vs F1 H1 S1 st1 W1 os => ?_⟩
  rcases h2 with ⟨n, hr, _⟩ | ⟨l, n, hr, hc, rfl⟩
  · have l1 := hone _ _ _ h1
    match rs, l1 with
    | [r1, r2], _ =>
      simp only [resA] at hr
      split at hr
      · split at hr <;> (cases hr; try contradiction)
        all_goals (rename_i z; split at z <;> cases z)
      · cases hr
  · obtain ⟨v, w, rfl, dv, dw⟩ := (resA_ok W1 os hr).two
    cases dv.int
    cases dw.int
    exact ⟨l, n, rfl, hc, k _ F1 H1 S1 st1 W1 (walks_range rfl)⟩
theorem aCons_len {o : Om} {r : As} {n : Nat} (h : ∀ en rs en', r en = .ok (rs, en') → rs.length = n) : ∀ en rs en', aCons o r en = .ok (rs, en') → rs.length = n + 1 := fun en rs en' hm => by
  obtain ⟨⟨ra, e1⟩, h1, hm⟩ := R.ok_of_bind hm
  obtain ⟨⟨rr, e2⟩, h2, hm⟩ := R.ok_of_bind hm
  cases hm
  rw [List.length_cons, h _ _ _ h2]
theorem aNil_len : ∀ en rs en', aNil en = .ok (rs, en') → rs.length = 0 := fun en rs en' hm => by cases hm; rfl
end
end
end Ev
namespace Ev
noncomputable section
open PySem PySem.Spec PyProof.Rows L2 Evl
/-! ### zip and enumerate over lists and tuples, mixed -/
def SqX (K : PySem.W.Frag) (H : Hp) : Bool → Addr → List V → Prop
  | true, a, xs => SqL K H a xs
  | false, a, xs => SqT K H a xs
def hSeq (h : Heap) : Bool → Addr → Array Value → Prop
  | true, a, its => h.IsList a its
  | false, a, its => h.IsTuple a its
def hIt (h : Heap) : Bool → Addr → Addr → Nat → Prop
  | true, it, a, i => h.IsListIter it a i
  | false, it, a, i => h.IsTupleIter it a i
def itO : Bool → Addr → Obj
  | true, a => { cls := .type "list_iterator", data := .fields #[.ref a, .int 0 0] }
  | false, a => { cls := .type "tuple_iterator", data := .fields #[.ref a, .int 0 0] }
theorem drawsX {prog : Program} {w : World} {A : Around} (hh : A.handled = none) (k : Bool) (it a : Addr) (hne : a ≠ it) (items : Array Value) :
    Draws prog w A it [it, a] items.size (fun i v => items[i]? = some v) (fun i h => hIt h k it a i ∧ hSeq h k a items) := by
  cases k with
  | true => exact Draws.list hh it a hne items
  | false => exact Draws.tuple hh it a hne items
theorem beginsX (k : Bool) (a : Addr) (items : Array Value) : Begins (.ref a) (itO k a) fun h => hSeq h k a items := by
  cases k with
  | true => exact begins_list a items
  | false => exact begins_tuple a items
theorem hIt.keep {h h' : Heap} {k : Bool} {it a : Addr} {i : Nat} (st : hIt h k it a i) (kp : ∀ o, h.get? it = some o → h'.get? it = some o) : hIt h' k it a i := by
  cases k with
  | true =>
    have st' : h.IsListIter it a i := st
    exact st'.at fun o e => kp o e
  | false =>
    have st' : h.IsTupleIter it a i := st
    exact st'.at fun o e => kp o e
theorem hIt.has {h : Heap} {k : Bool} {it a : Addr} {i : Nat} (st : hIt h k it a i) : ∃ o, h.get? it = some o ∧ ∀ v, o.data ≠ .cell v := by
  cases k with
  | true => obtain ⟨o, e, _, d⟩ := st; exact ⟨o, e, fun v q => by rw [d] at q; cases q⟩
  | false => obtain ⟨o, e, _, d⟩ := st; exact ⟨o, e, fun v q => by rw [d] at q; cases q⟩
theorem hIt.start {h : Heap} {k : Bool} {it a : Addr} (e : h.get? it = some (itO k a)) : hIt h k it a 0 := by
  cases k with
  | true => exact ⟨_, e, rfl, rfl⟩
  | false => exact ⟨_, e, rfl, rfl⟩
section
variable {X : Cx} {pins : List (Addr × Obj)} {σ : L2.St} {H : Hp} {s : Shared}
theorem invX (I : Inv X pins σ H s) {k : Bool} {a : Addr} {xs : List V} (h : SqX X.K H k a xs) : ∃ its : List Value, Vals xs its ∧ hSeq s.heap k a its.toArray := by
  cases k with
  | true => obtain ⟨its, rv, p, _⟩ := I.list h; exact ⟨its, rv, p.isList⟩
  | false => obtain ⟨its, rv, p, _⟩ := I.tuple h; exact ⟨its, rv, p⟩
theorem injX (I : Inv X pins σ H s) {k : Bool} {a : Addr} {xs ys : List V} (h : SqX X.K H k a xs) (h' : SqX X.K H k a ys) : xs = ys := by
  cases k with
  | true => exact I.list_inj h h'
  | false => exact I.tuple_inj h h'
theorem ltX (I : Inv X pins σ H s) {k : Bool} {a : Addr} {xs : List V} (h : SqX X.K H k a xs) : a < s.heap.objs.size := by
  obtain ⟨its, _, p⟩ := invX I h
  cases k with
  | true => obtain ⟨_, q, _⟩ := p; exact Heap.lt_size q
  | false => obtain ⟨_, q, _⟩ := p; exact Heap.lt_size q
end
def Itzx (K : PySem.W.Frag) (k l : Bool) (a b : Addr) : It :=
  ⟨fun i H => ∃ (xs ys : List V) (x y : V), SqX K H k a xs ∧ SqX K H l b ys ∧ xs[i]? = some x ∧ ys[i]? = some y,
    fun i H v H' => ∃ T x y, v = .ref T ∧ H T = none ∧ H' = upd H T (.tup [x, y]) ∧ (∀ xs, SqX K H k a xs → xs[i]? = some x) ∧ ∀ ys, SqX K H l b ys → ys[i]? = some y,
    fun i H => ∃ xs ys : List V, SqX K H k a xs ∧ SqX K H l b ys ∧ i ≤ xs.length ∧ i ≤ ys.length ∧ (i = xs.length ∨ i = ys.length)⟩
def Itex (K : PySem.W.Frag) (k : Bool) (a : Addr) : It :=
  ⟨fun i H => ∃ (xs : List V) (x : V), SqX K H k a xs ∧ xs[i]? = some x,
    fun i H v H' => ∃ T x, v = .ref T ∧ H T = none ∧ H' = upd H T (.tup [.int (i : Nat), x]) ∧ ∀ xs, SqX K H k a xs → xs[i]? = some x,
    fun i H => ∃ xs : List V, SqX K H k a xs ∧ i = xs.length⟩
theorem turn_zipx {P : Program} {w : World} {K : PySem.W.Frag} {elts : List Expr} {kk : Nat} {tpos : Pos} {k l : Bool} {a b z TI TO i1 i2 : Addr} (D : ZipSep2 z TI TO i1 i2 [i1, a] [i2, b]) (n1 : a ≠ i1) (n2 : b ≠ i2) :
    Turn P w K (.Tuple elts kk tpos) (Itzx K k l a b) [z, TI, TO, i1, i2] z (fun i h => IsZip h z TI TO .none ∧ IsTupOf2 h TI (.ref i1) (.ref i2) ∧ (∃ x y, IsTupOf2 h TO x y) ∧ hIt h k i1 a i ∧ hIt h l i2 b i) where
  mem := by simp
  obj := fun i h st c hc => by
    obtain ⟨hz, hTI, ⟨x, y, hTO⟩, h1, h2⟩ := st
    have e' : c = z ∨ c = TI ∨ c = TO ∨ c = i1 ∨ c = i2 := by simpa using hc
    rcases e' with q | q | q | q | q
    · rw [q]; exact ⟨_, hz, fun v q => nomatch q⟩
    · rw [q]; exact ⟨_, hTI, fun v q => nomatch q⟩
    · rw [q]; exact ⟨_, hTO, fun v q => nomatch q⟩
    · rw [q]; exact h1.has
    · rw [q]; exact h2.has
  keep := fun i h h' st kp => by
    obtain ⟨hz, hTI, ⟨x, y, hTO⟩, h1, h2⟩ := st
    exact ⟨kp z (by simp) _ hz, kp TI (by simp) _ hTI, ⟨x, y, kp TO (by simp) _ hTO⟩, h1.keep fun o q => kp i1 (by simp) o q, h2.keep fun o q => kp i2 (by simp) o q⟩
  item := by
    intro X hP hw hK hc i pins s σ H E I hf st hg
    subst hP hw hK
    obtain ⟨hz, hTI, ⟨x0, y0, hTO⟩, h1, h2⟩ := st
    obtain ⟨xs, ys, x, y, hqx, hqy, hx, hy⟩ := hg
    obtain ⟨its, rv, p⟩ := invX I hqx
    obtain ⟨its2, rv2, p2⟩ := invX I hqy
    obtain ⟨u, hu, ru⟩ := rv.get hx
    obtain ⟨u2, hu2, ru2⟩ := rv2.get hy
    have hd : X.A.in1.handled = none := I.ok.hd hc
    have hzl : z < s.heap.objs.size := Heap.lt_size hz
    have l1 : i < its.toArray.size := by
      have := (List.getElem?_eq_some_iff.mp hu).1
      simpa using this
    have l2 : i < its2.toArray.size := by
      have := (List.getElem?_eq_some_iff.mp hu2).1
      simpa using this
    refine wpAny_pyNext_zipD2_item D (drawsX hd k i1 a n1 its.toArray) (drawsX hd l i2 b n2 its2.toArray) hz hTI hTO ⟨h1, p⟩ ⟨h2, p2⟩ l1 l2 fun x1 x2 h' tk y1 y2 z' TO' d1 d2 hT hsz hk => ?_
    have e1 : x1 = u := by
      have : some x1 = some u := by rw [← y1, ← hu]; simp
      cases this; rfl
    have e2 : x2 = u2 := by
      have : some x2 = some u2 := by rw [← y2, ← hu2]; simp
      cases this; rfl
    subst e1 e2
    refine ⟨_, rfl, wpAny_letOwnedTupleGo_zip (s := { s with heap := h', toks := tk }) z' fun h'' z'' sb => ?_⟩
    have hT2 : h''.get? s.heap.objs.size = some { cls := .type "tuple", data := .seq #[x1, x2] } := (sb.2 _ (Nat.ne_of_gt hzl)).trans hT
    have new : ObjOk X.prog X.w (upd H s.heap.objs.size (.tup [x, y])) h'' s.heap.objs.size (.tup [x, y]) :=
      ⟨by show 2 ≤ sizeLine; decide, [x1, x2], .cons ru (.cons ru2 .nil), ⟨_, hT2, rfl, _, rfl⟩⟩
    have I1 : Inv X pins σ (upd H s.heap.objs.size (.tup [x, y])) { s with heap := h'', toks := tk } :=
      I.turnedNew (t' := tk) (ch := [z, TI, TO, i1, i2]) (fun c o hb q => (sb.2 c (fun q' => hb (by simp [q']))).trans (hk c o (fun q' => hb (by simp [q'])) (fun q' => hb (by simp [q'])) (fun q' => hb (by simp [q'])) (fun q' => hb (by simp [q'])) q)) hf (Nat.le_refl _) new
    refine ⟨.ref s.heap.objs.size, _, I1, rfl, ⟨_, x, y, rfl, I.hok.fresh (Nat.le_refl _), rfl, fun l' hl => by rw [injX I hl hqx]; exact hx, fun l' hl => by rw [injX I hl hqy]; exact hy⟩, ⟨z'', ?_, ⟨x1, x2, ?_⟩, ?_, ?_⟩, fun c hcm => ?_⟩
    · exact (sb.2 _ D.TIz).trans (hk _ _ D.TIz D.TITO D.TIi1 D.TIi2 hTI)
    · exact (sb.2 _ D.TOz).trans TO'
    · exact d1.1.keep fun o q => (sb.2 _ (Ne.symm D.zi1)).trans q
    · exact d2.1.keep fun o q => (sb.2 _ (Ne.symm D.zi2)).trans q
    · have hlt : c < s.heap.objs.size := by
        have e' : c = z ∨ c = TI ∨ c = TO ∨ c = i1 ∨ c = i2 := by simpa using hcm
        rcases e' with q | q | q | q | q
        · rw [q]; exact hzl
        · rw [q]; exact Heap.lt_size hTI
        · rw [q]; exact Heap.lt_size hTO
        · rw [q]; obtain ⟨_, e1, _⟩ := h1.has; exact Heap.lt_size e1
        · rw [q]; obtain ⟨_, e2, _⟩ := h2.has; exact Heap.lt_size e2
      rw [upd_ne (Nat.ne_of_lt hlt)]
      exact (hf c hcm).1
  done := by
    intro X hP hw hK hc i pins s σ H E I hf st hg
    subst hP hw hK
    obtain ⟨hz, hTI, ⟨x0, y0, hTO⟩, h1, h2⟩ := st
    obtain ⟨xs, ys, hqx, hqy, le1, le2, hend⟩ := hg
    obtain ⟨its, rv, p⟩ := invX I hqx
    obtain ⟨its2, rv2, p2⟩ := invX I hqy
    have hd : X.A.in1.handled = none := I.ok.hd hc
    have l1 := rv.length
    have l2 := rv2.length
    exact wpAny_pyNext_zipD2_end D (drawsX hd k i1 a n1 its.toArray) (drawsX hd l i2 b n2 its2.toArray) hz hTI hTO ⟨h1, p⟩ ⟨h2, p2⟩ (by simpa [← l1] using le1) (by simpa [← l2] using le2) (by simpa [← l1, ← l2] using hend) fun h' tk hk => ⟨rfl, I.turnedL (t' := tk) (ch := [z, TI, TO, i1, i2]) (fun c o hb q =>
      hk c o (fun q' => hb (by simp [q'])) (fun q' => hb (by simp [q'])) (fun q' => hb (by simp [q'])) (fun q' => hb (by simp [q'])) q) hf⟩
  self := fun A i s Q E st h => wpAny_pyIter_zip st.1 h
theorem turn_enumx {P : Program} {w : World} {K : PySem.W.Frag} {elts : List Expr} {kk : Nat} {tpos : Pos} {k : Bool} (a e it : Addr) (n1 : a ≠ it) :
    Turn P w K (.Tuple elts kk tpos) (Itex K k a) [e, it] e (fun i h => (∃ old, IsEnum h e it ((i : Nat) : Int) old) ∧ hIt h k it a i ∧ e ≠ it ∧ e ≠ a) where
  mem := by simp
  obj := fun i h st b hb => by
    obtain ⟨⟨old, he⟩, h1, _⟩ := st
    have e' : b = e ∨ b = it := by simpa using hb
    rcases e' with z | z
    · rw [z]; exact ⟨_, he, fun v q => nomatch q⟩
    · rw [z]; exact h1.has
  keep := fun i h h' st kp => let ⟨⟨old, he⟩, hi, hne⟩ := st; ⟨⟨old, kp e (by simp) _ he⟩, hi.keep fun o q => kp it (by simp) o q, hne⟩
  item := by
    intro X hP hw hK hc i pins s σ H E I hf st hg
    subst hP hw hK
    obtain ⟨⟨old, he⟩, hit, hne, hna⟩ := st
    obtain ⟨xs, x, hq, hx⟩ := hg
    obtain ⟨its, rv, p⟩ := invX I hq
    obtain ⟨u, hu, ru⟩ := rv.get hx
    have hd : X.A.in1.handled = none := I.ok.hd hc
    have hel : e < s.heap.objs.size := Heap.lt_size he
    have hil : it < s.heap.objs.size := by obtain ⟨_, q, _⟩ := hit.has; exact Heap.lt_size q
    have l1 : i < its.toArray.size := by
      have := (List.getElem?_eq_some_iff.mp hu).1
      simpa using this
    refine wpAny_pyNext_enum_itemD (drawsX hd k it a n1 its.toArray) he ⟨hit, p⟩ l1 hne (by simp [hne, hna]) fun x1 h' tk y1 ho d1 hT hsz hk => ?_
    have e1 : x1 = u := by
      have : some x1 = some u := by rw [← y1, ← hu]; simp
      cases this; rfl
    subst e1
    refine ⟨_, rfl, wpAny_letOwnedTupleGo_enum (s := { s with heap := h', toks := tk + 1 }) ho fun h'' he' sb => ?_⟩
    have hT2 : h''.get? s.heap.objs.size = some { cls := .type "tuple", data := .seq #[.int i tk, x1] } := (sb.2 _ (Nat.ne_of_gt hel)).trans hT
    have new : ObjOk X.prog X.w (upd H s.heap.objs.size (.tup [.int (i : Nat), x])) h'' s.heap.objs.size (.tup [.int (i : Nat), x]) :=
      ⟨by show 2 ≤ sizeLine; decide, [.int i tk, x1], .cons ⟨_, rfl⟩ (.cons ru .nil), ⟨_, hT2, rfl, _, rfl⟩⟩
    have I1 : Inv X pins σ (upd H s.heap.objs.size (.tup [.int (i : Nat), x])) { s with heap := h'', toks := tk + 1 } :=
      I.turnedNew (ch := [e, it]) (fun b ob hb q => (sb.2 b (fun z => hb (by simp [z]))).trans (hk b ob (fun z => hb (by simp [z])) (fun z => hb (by simp [z])) q)) hf (Nat.le_refl _) new
    refine ⟨.ref s.heap.objs.size, _, I1, rfl, ⟨_, x, rfl, I.hok.fresh (Nat.le_refl _), rfl, fun ys hy => by rw [injX I hy hq]; exact hx⟩, ⟨⟨x1, ?_⟩, d1.1.keep fun o q => (sb.2 it (Ne.symm hne)).trans q, hne, hna⟩, fun b hb => ?_⟩
    · have e1 : ((i + 1 : Nat) : Int) = (i : Int) + 1 := by omega
      rw [e1]; exact he'
    · have hb' : b < s.heap.objs.size := by
        have e' : b = e ∨ b = it := by simpa using hb
        rcases e' with z | z
        · rw [z]; exact hel
        · rw [z]; exact hil
      rw [upd_ne (Nat.ne_of_lt hb')]
      exact (hf b hb).1
  done := by
    intro X hP hw hK hc i pins s σ H E I hf st hg
    subst hP hw hK
    obtain ⟨⟨old, he⟩, hit, hne, hna⟩ := st
    obtain ⟨xs, hq, hx⟩ := hg
    obtain ⟨its, rv, p⟩ := invX I hq
    have hd : X.A.in1.handled = none := I.ok.hd hc
    obtain ⟨f0, f1, f2, f3, f4, f5⟩ := hf it (by simp)
    have hl := rv.length
    have e1 : i = its.toArray.size := by simp; omega
    subst e1
    exact wpAny_pyNext_enum_endD (drawsX hd k it a n1 its.toArray) he ⟨hit, p⟩ fun h' eb => ⟨rfl, I.turned (t' := s.toks) (fun b o hb q => eb b o hb q) f0 f1 f3 f4 f5⟩
  self := fun A i s Q E st h => let ⟨⟨_, he⟩, _⟩ := st; wpAny_pyIter_enum he h
set_option maxHeartbeats 1000000 in
theorem meets_enum1 {v : Value} {o : Obj} {H : Heap → Prop} (B : Begins v o H) :
    Meets (Builtin.«enumerate.__new__» ⟨[.type "enumerate", v], []⟩) (fun _ R s => H s.heap ∧
      R (.ok (.ret (.ref (s.heap.push o).objs.size))) { s with heap := (s.heap.push o).push { cls := .type "enumerate", data := .fields #[.none, .bool false, .ref s.heap.objs.size, rawInt 0, .none, .none] } }) :=
  .of_wp fun prog w A R s h => by
    obtain ⟨hp, g, d, tk, os⟩ := s; obtain ⟨h1, h⟩ := h
    have hsub := sub_enumerate
    have q1 : ∀ {A' : Around} {E : Value → Shared → Prop} {Q : Value → Shared → Prop}, Q (.ref hp.objs.size) ⟨hp.push o, g, d, tk, os⟩ → wpAny (model prog w) A' (pyIter v) Q E ⟨hp, g, d, tk, os⟩ :=
      fun q => B.iter prog w _ _ ⟨hp, g, d, tk, os⟩ _ h1 q
    wp_walk using q1
    refine wpAny_stack_any fun st => wpAny_pure ?_
    split
    · rename_i c _ _ _ _ _
      cases (c == Value.type "enumerate")
      · wp_walk using q1
        exact ⟨_, rfl, h⟩
      · wp_walk using q1
        exact ⟨_, rfl, h⟩
    · wp_walk using q1
      exact ⟨_, rfl, h⟩
/-- enumerate(v) of any kind: its two new cells -/
theorem enum_begins1 {prog : Program} {w : World} {A : Around} {E : Value → Shared → Prop} {s : Shared} {v : Value} {o : Obj} {H : Heap → Prop} {Q : Value → Shared → Prop} (B : Begins v o H) (h1 : H s.heap)
    (h : ∀ h', IsEnum h' (s.heap.objs.size + 1) s.heap.objs.size 0 .none → h'.get? s.heap.objs.size = some o → h'.objs.size = s.heap.objs.size + 2 →
      (∀ b o, s.heap.get? b = some o → h'.get? b = some o) → Q (.ref (s.heap.objs.size + 1)) { s with heap := h' }) :
    wpAny (model prog w) A (call (.type "enumerate") [v]) Q E s := by
  refine callType_new F.called_enumerate (by decide) (F.typeCall_enumerate_1 _) (F.newCall_enumerate_1 _) (fun obj => F.args_object_init_2 obj _) F.entry_enumerate_new (meets_enum1 B) ⟨h1, ?_⟩
  have hz : (s.heap.push o).objs.size = s.heap.objs.size + 1 := Heap.size_push ..
  show _ ∧ _
  rw [hz]
  have he := Heap.get?_push_size (s.heap.push o) (o := { cls := .type "enumerate", data := .fields #[.none, .bool false, .ref s.heap.objs.size, rawInt 0, .none, .none] }) rfl
  rw [hz] at he
  exact ⟨⟨_, he, rfl⟩, h _ he (Heap.get?_push_of_some _ (Heap.get?_push_size _ B.free)) (by rw [Heap.size_push, hz]) fun b u y => Heap.get?_push_of_some _ (Heap.get?_push_of_some _ y)⟩
theorem pi_zipx {X : Cx} {e e2 : Expr} {ta : TA} {p pos tpos : Pos} {elts : List Expr} {kk : Nat} (hg : Gl X "zip") (hm : X.mg "zip" = none) (ha : PA X [e, e2] ta)
    (hs : starEach [e, e2] X.env = (false, eval e X.env) :: starEach [e2] X.env := by rfl) (hpl : (backTo pos (starEach [e2] X.env)).any (·.1) = false := by rfl) :
    PI X (.Tuple elts kk tpos) (.Call (.Name "zip" p) [e, e2] [] pos) (fun σ H R => ta σ H fun vs H1 => ∃ a b k l xs ys, vs = [.ref a, .ref b] ∧ SqX X.K H1 k a xs ∧ SqX X.K H1 l b ys ∧ R (Itzx X.K k l a b) H1) := by
  refine ⟨fun pins s σ H R I h => ?_⟩
  refine Call_ (ld_blt I hg hm PyProof.Rows.boot_zip (PyProof.Rows.callWith_type1 (thn (ha.run pos pins s σ H _ I h) fun us s1 ⟨vs, H1, I1, r1, q1⟩ => ?_) hs hpl))
  obtain ⟨a, b, k, l, xs, ys, ex, hqx, hqy, q⟩ := q1
  subst ex
  cases r1 with
  | cons r rr =>
    cases rr with
    | cons r' rr =>
      cases rr
      cases r
      cases r'
      have fresh5 : ∀ c, c ∈ [s1.heap.objs.size + 4, s1.heap.objs.size + 2, s1.heap.objs.size + 3, s1.heap.objs.size, s1.heap.objs.size + 1] → FpOk X pins H1 c := fun c hcm => by
        have e' : c = s1.heap.objs.size + 4 ∨ c = s1.heap.objs.size + 2 ∨ c = s1.heap.objs.size + 3 ∨ c = s1.heap.objs.size ∨ c = s1.heap.objs.size + 1 := by simpa using hcm
        have hle : s1.heap.objs.size ≤ c := by
          rcases e' with z | z | z | z | z
          · rw [z]; exact Nat.le_add_right _ _
          · rw [z]; exact Nat.le_add_right _ _
          · rw [z]; exact Nat.le_add_right _ _
          · rw [z]; exact Nat.le_refl _
          · rw [z]; exact Nat.le_add_right _ _
        exact I1.fpOk hle (I1.hok.fresh hle)
      obtain ⟨its, rv, p1⟩ := invX I1 hqx
      obtain ⟨its2, rv2, p2⟩ := invX I1 hqy
      have la := ltX I1 hqx
      have lb := ltX I1 hqy
      refine zip_begins2 (beginsX k a its.toArray) (beginsX l b its2.toArray) p1 p2 fun h' hz hTI hTO h1 h2 hsz hk => wpAny_pyIter_zip hz ?_
      have I2 : Inv X pins σ H1 { s1 with heap := h' } := I1.kept (t' := s1.toks) hk
      exact ⟨s1.heap.objs.size + 4, [s1.heap.objs.size + 4, s1.heap.objs.size + 2, s1.heap.objs.size + 3, s1.heap.objs.size, s1.heap.objs.size + 1], _, _, H1, rfl, I2, turn_zipx (k := k) (l := l) (a := a) (b := b) (zip_sep2 (fp1 := [a]) (fp2 := [b]) (fun c hc => by rw [List.mem_singleton.mp hc]; exact la) (fun c hc => by rw [List.mem_singleton.mp hc]; exact lb)) (Nat.ne_of_lt la) (Nat.ne_of_lt (Nat.lt_succ_of_lt lb)), ⟨hz, hTI, ⟨_, _, hTO⟩, hIt.start h1, hIt.start h2⟩, fresh5, q⟩
theorem pi_enumx {X : Cx} {e : Expr} {ta : TA} {p pos tpos : Pos} {elts : List Expr} {kk : Nat} (hg : Gl X "enumerate") (hm : X.mg "enumerate" = none) (ha : PA X [e] ta) (hs : starEach [e] X.env = [(false, eval e X.env)] := by rfl) :
    PI X (.Tuple elts kk tpos) (.Call (.Name "enumerate" p) [e] [] pos) (fun σ H R => ta σ H fun vs H1 => ∃ a k xs, vs = [.ref a] ∧ SqX X.K H1 k a xs ∧ R (Itex X.K k a) H1) := by
  refine ⟨fun pins s σ H R I h => ?_⟩
  refine Call_ (ld_blt I hg hm PyProof.Rows.boot_enumerate (PyProof.Rows.callWith_type1 (thn (ha.run pos pins s σ H _ I h) fun us s1 ⟨vs, H1, I1, r1, q1⟩ => ?_) hs rfl))
  obtain ⟨a, k, xs, ex, hq, q⟩ := q1
  subst ex
  cases r1 with
  | cons r rr =>
    cases rr
    cases r
    obtain ⟨its, rv, p'⟩ := invX I1 hq
    have la := ltX I1 hq
    refine enum_begins1 (beginsX k a its.toArray) p' fun h' he hit hsz hk => wpAny_pyIter_enum he ?_
    have I2 : Inv X pins σ H1 { s1 with heap := h' } := I1.kept (t' := s1.toks) hk
    refine ⟨s1.heap.objs.size + 1, [s1.heap.objs.size + 1, s1.heap.objs.size], _, _, H1, rfl, I2, turn_enumx (k := k) a (s1.heap.objs.size + 1) s1.heap.objs.size (Nat.ne_of_lt la), ⟨⟨.none, he⟩, hIt.start hit, Nat.succ_ne_self _, Nat.ne_of_gt (Nat.lt_succ_of_lt la)⟩, fun b hb => ?_, q⟩
    have e' : b = s1.heap.objs.size + 1 ∨ b = s1.heap.objs.size := by simpa using hb
    have hle : s1.heap.objs.size ≤ b := by
      rcases e' with z | z
      · rw [z]; exact Nat.le_add_right _ _
      · rw [z]; exact Nat.le_refl _
    exact I1.fpOk hle (I1.hok.fresh hle)
/-! ### the readings -/
def seqD : PyData → Option (List PyData)
  | .list ds => some ds
  | .tuple ds => some ds
  | _ => none
section
variable {X : Cx} {a b c e : Expr} {es : List Expr} {pos : Pos} {K : PySem.W.Frag}
theorem dp_seq {F : Hp} {v : V} {d : PyData} {ds : List PyData} (h : Dp K F v d) (hs : seqD d = some ds) : ∃ k p xs, v = .ref p ∧ DpAll K F xs ds ∧ ∀ H, Ex F H → SqX K H k p xs := by
  cases h with
  | lst hp ha => cases hs; exact ⟨true, _, _, rfl, ha, fun H ex => sq_of (ex _ _ hp)⟩
  | tup hp ha => cases hs; exact ⟨false, _, _, rfl, ha, fun H ex => ex_t ex hp⟩
  | non => cases hs
  | bl _ => cases hs
  | int _ => cases hs
  | str _ => cases hs
def zipD : List PyData → List PyData → List PyData
  | x :: xs, y :: ys => .tuple [x, y] :: zipD xs ys
  | _, _ => []
theorem zipD_len : ∀ xs ys, (zipD xs ys).length = min xs.length ys.length
  | [], ys => by simp [zipD]
  | x :: xs, [] => by simp [zipD]
  | x :: xs, y :: ys => by simp only [zipD, List.length_cons, zipD_len xs ys]; omega
theorem zipD_get : ∀ {xs ys : List PyData} {i : Nat} {x y : PyData}, xs[i]? = some x → ys[i]? = some y → (zipD xs ys)[i]? = some (.tuple [x, y])
  | [], _, _, _, _, h, _ => by simp at h
  | _ :: _, [], _, _, _, _, h => by simp at h
  | _ :: xs, _ :: ys, 0, _, _, h, h' => by simp at h h'; subst h h'; rfl
  | _ :: xs, _ :: ys, i + 1, _, _, h, h' => by
    have := zipD_get (xs := xs) (ys := ys) (i := i) (by simpa using h) (by simpa using h')
    simpa [zipD] using this
def enumD : Nat → List PyData → List PyData
  | _, [] => []
  | n, x :: xs => .tuple [.int n, x] :: enumD (n + 1) xs
theorem enumD_len : ∀ n xs, (enumD n xs).length = xs.length
  | _, [] => rfl
  | n, x :: xs => by simp only [enumD, List.length_cons, enumD_len (n + 1) xs]
theorem enumD_get : ∀ {n : Nat} {xs : List PyData} {i : Nat} {x : PyData}, xs[i]? = some x → (enumD n xs)[i]? = some (.tuple [.int (n + i : Nat), x])
  | _, [], _, _, h => by simp at h
  | _, _ :: xs, 0, _, h => by simp at h; subst h; rfl
  | n, _ :: xs, i + 1, _, h => by
    have := enumD_get (n := n + 1) (xs := xs) (i := i) (by simpa using h)
    simp only [enumD, List.getElem?_cons_succ]
    rw [this, show n + 1 + i = n + (i + 1) by omega]
theorem walks_zipx {F : Hp} {k l : Bool} {p q : Addr} {xs ys : List V} {ds es : List PyData} {HT : Hp} (hp : ∀ H, Ex F H → SqX K H k p xs) (hq : ∀ H, Ex F H → SqX K H l q ys) (h : DpAll K F xs ds) (h' : DpAll K F ys es) : Walks K F [] HT (Itzx K k l p q) (zipD ds es) := by
  have l1 := DpAll.length h
  have l2 := DpAll.length h'
  refine ⟨fun H => SqX K H k p xs ∧ SqX K H l q ys, ⟨fun i H hi g => ?_, fun H g => ?_, fun i H v H' hi g y => ?_⟩, fun H ex _ => ⟨hp H ex, hq H ex⟩⟩
  · rw [zipD_len] at hi
    have a1 : i < xs.length := by omega
    have a2 : i < ys.length := by omega
    exact ⟨xs, ys, xs[i], ys[i], g.1, g.2, by simp [a1], by simp [a2]⟩
  · rw [zipD_len]
    exact ⟨xs, ys, g.1, g.2, by omega, by omega, by omega⟩
  · rw [zipD_len] at hi
    obtain ⟨d, hd⟩ : ∃ d, ds[i]? = some d := ⟨_, List.getElem?_eq_getElem (by omega)⟩
    obtain ⟨d', hd'⟩ : ∃ d, es[i]? = some d := ⟨_, List.getElem?_eq_getElem (by omega)⟩
    obtain ⟨T, x, y, rfl, hT, rfl, f1, f2⟩ := y
    obtain ⟨x', e1, dx⟩ := DpAll.get h hd
    obtain ⟨y', e2, dy⟩ := DpAll.get h' hd'
    rw [f1 xs g.1] at e1
    rw [f2 ys g.2] at e2
    cases e1
    cases e2
    exact ⟨_, zipD_get hd hd', .inr ⟨T, x, y, d, d', rfl, hT, rfl, rfl, dx, dy⟩⟩
theorem walks_enumx {F : Hp} {k : Bool} {p : Addr} {xs : List V} {ds : List PyData} {HT : Hp} (hp : ∀ H, Ex F H → SqX K H k p xs) (h : DpAll K F xs ds) : Walks K F [] HT (Itex K k p) (enumD 0 ds) := by
  have l1 := DpAll.length h
  refine ⟨fun H => SqX K H k p xs, ⟨fun i H hi g => ?_, fun H g => ?_, fun i H v H' hi g y => ?_⟩, fun H ex _ => hp H ex⟩
  · rw [enumD_len] at hi
    have a1 : i < xs.length := by omega
    exact ⟨xs, xs[i], g, by simp [a1]⟩
  · rw [enumD_len]
    exact ⟨xs, g, by omega⟩
  · rw [enumD_len] at hi
    obtain ⟨d, hd⟩ : ∃ d, ds[i]? = some d := ⟨_, List.getElem?_eq_getElem (by omega)⟩
    obtain ⟨T, x, rfl, hT, rfl, f1⟩ := y
    obtain ⟨x', e1, dx⟩ := DpAll.get h hd
    rw [f1 xs g] at e1
    cases e1
    exact ⟨_, enumD_get hd, .inr ⟨T, .int i, x, .int (0 + i : Nat), d, rfl, hT, rfl, rfl, by rw [Nat.zero_add]; exact .int _, dx⟩⟩
def iZip (m : Fs) : Im := fun en => (m en).bind fun p => match p.1 with
  | [d, e] => match seqD d, seqD e with
    | some xs, some ys => .ok (zipD xs ys, p.2)
    | _, _ => .bad
  | _ => .bad
def iEnum (m : Fs) : Im := fun en => (m en).bind fun p => match p.1 with
  | [d] => match seqD d with
    | some xs => .ok (enumD 0 xs, p.2)
    | _ => .bad
  | _ => .bad
theorem ci_zip {elts : List Expr} {kk : Nat} {tpos : Pos} {m : Fs} {p : Pos} (hg : Gl X "zip") (hm : X.mg "zip" = none) (ha : CF X [a, b] m)
    (hs : starEach [a, b] X.env = (false, eval a X.env) :: starEach [b] X.env := by rfl) (hpl : (backTo pos (starEach [b] X.env)).any (·.1) = false := by rfl) :
    CI X (.Tuple elts kk tpos) (.Call (.Name "zip" p) [a, b] [] pos) (iZip m) := PI.imp (pi_zipx hg hm ha hs hpl) fun σ H Q q => by
  obtain ⟨F, S, en, ds, en', W, hh, k⟩ := q
  obtain ⟨⟨rs, e1⟩, h1, h2⟩ := R.ok_of_bind hh
  dsimp only at h2
  split at h2
  · split at h2
    · rename_i xs ys s1 s2
      cases h2
      refine ⟨F, S, en, _, _, W, h1, fun vs F1 H1 S1 st1 W1 os => ?_⟩
      cases os with
      | cons o1 os =>
        cases os with
        | cons o2 os =>
          cases os
          obtain ⟨k1, p1, vs1, rfl, da1, sq1⟩ := dp_seq o1 s1
          obtain ⟨k2, p2, vs2, rfl, da2, sq2⟩ := dp_seq o2 s2
          exact ⟨p1, p2, k1, k2, vs1, vs2, rfl, sq1 _ W1.fh, sq2 _ W1.fh, k _ F1 H1 S1 st1 W1 (walks_zipx sq1 sq2 da1 da2)⟩
    · cases h2
  · cases h2
theorem ci_enum {elts : List Expr} {kk : Nat} {tpos : Pos} {m : Fs} {p : Pos} (hg : Gl X "enumerate") (hm : X.mg "enumerate" = none) (ha : CF X [a] m)
    (hs : starEach [a] X.env = [(false, eval a X.env)] := by rfl) :
    CI X (.Tuple elts kk tpos) (.Call (.Name "enumerate" p) [a] [] pos) (iEnum m) := PI.imp (pi_enumx hg hm ha hs) fun σ H Q q => by
  obtain ⟨F, S, en, ds, en', W, hh, k⟩ := q
  obtain ⟨⟨rs, e1⟩, h1, h2⟩ := R.ok_of_bind hh
  dsimp only at h2
  split at h2
  · split at h2
    · rename_i xs s1
      cases h2
      refine ⟨F, S, en, _, _, W, h1, fun vs F1 H1 S1 st1 W1 os => ?_⟩
      cases os with
      | cons o1 os =>
        cases os
        obtain ⟨k1, p1, vs1, rfl, da1, sq1⟩ := dp_seq o1 s1
        exact ⟨p1, k1, vs1, rfl, sq1 _ W1.fh, k _ F1 H1 S1 st1 W1 (walks_enumx sq1 da1)⟩
    · cases h2
  · cases h2
end
end
end Ev
namespace Ev
noncomputable section
open PySem PySem.Spec L2 Evl
section
variable {X : Cx} {pin : List Nat} {a b c e : Expr} {es : List Expr} {pos : Pos} {K : PySem.W.Frag} {F H F' H' : Hp} {σ : St} {en en' : En} {S : List Addr}
/-! ### lists that names own -/
theorem ROs.append : ∀ {os os' : List O} {vs vs' : List V} {S S' : List Addr}, ROs K F H os vs S → ROs K F H os' vs' S' → ROs K F H (os ++ os') (vs ++ vs') (S ++ S')
  | _, _, _, _, _, _, .nil, s => s
  | _, _, _, _, _, _, .cons r t, s => by
    have q := ROs.cons r (ROs.append t s)
    rw [← List.append_assoc] at q
    exact q
theorem ROs.snoc {os : List O} {vs : List V} {d : PyData} {v : V} (h : ROs K F H os vs S) (r : Dp K F v d) : ROs K F H (os ++ [.leaf d]) (vs ++ [v]) S := by
  have q := ROs.append h (.cons (S := []) (T := []) (.leaf r) .nil)
  rw [List.append_nil, List.append_nil] at q
  exact q
theorem ROs.length : ∀ {os : List O} {vs : List V} {S : List Addr}, ROs K F H os vs S → os.length = vs.length
  | _, _, _, .nil => rfl
  | _, _, _, .cons _ t => congrArg (· + 1) (ROs.length t)
theorem ROs.at : ∀ {os : List O} {vs : List V} {S : List Addr} {j : Nat} {o : O}, ROs K F H os vs S → os[j]? = some o →
    ∃ (v : V) (A S1 B : List Addr), vs[j]? = some v ∧ S = A ++ S1 ++ B ∧ RO K F H o v S1 ∧
      ∀ (F' H' : Hp) (v' : V) (o' : O) (S1' : List Addr), Ex F F' → (∀ a ∈ A ++ B, H' a = H a) → RO K F' H' o' v' S1' → ROs K F' H' (os.set j o') (vs.set j v') (A ++ S1' ++ B)
  | _, _, _, _, _, .nil, e => by simp at e
  | _, _, _, 0, _, .cons (S := S1) (T := B) r t, e => by
    simp at e
    subst e
    exact ⟨_, [], S1, B, rfl, by simp, r, fun F' H' v' o' S1' ex k r' => .cons r' (t.mono ex fun a ha => k a (by simpa using ha))⟩
  | _, _, _, i + 1, o, .cons (S := S0) r0 t, e => by
    obtain ⟨v, A, S1, B, e1, e2, r, f⟩ := ROs.at (j := i) (o := o) t (by simpa using e)
    refine ⟨v, S0 ++ A, S1, B, by simpa using e1, by rw [e2]; simp only [List.append_assoc], r, fun F' H' v' o' S1' ex k r' => ?_⟩
    have q : ROs K F' H' (_ :: _) (_ :: _) (S0 ++ (A ++ S1' ++ B)) := .cons (r0.mono ex fun a ha => k a (by simp [ha])) (f F' H' v' o' S1' ex (fun a ha => k a (by
      rcases List.mem_append.mp ha with z | z <;> simp [z])) r')
    simpa only [List.append_assoc, List.set_cons_succ] using q
/-- a list that a name owns: how it is written -/
theorem WF.own {i : Nat} {os : List O} (W : WF K F H σ en S) (h : en[i]? = some (some (.lst os))) :
    ∃ p xs T, σ[i]? = some (some (.ref p)) ∧ H p = some (.lst xs) ∧ ROs K F H os xs T ∧ (p :: T).Nodup ∧ (∀ a ∈ p :: T, a ∈ S) ∧
      ∀ H' xs' os', (∀ a ∈ S, a ∉ p :: T → H' a = H a) → (∀ a u, H a = some u → a ∉ p :: T → H' a = some u) → H' p = some (.lst xs') → ROs K F H' os' xs' T → Step F H S F H' S ∧ WF K F H' σ (en.set i (some (.lst os'))) S := by
  obtain ⟨v, A, S1, B, e1, e2, r, f⟩ := W.eo.at h
  cases r with
  | lst hp r =>
    rename_i p xs T
    subst e2
    obtain ⟨n1, n2, n3⟩ := nd_mid W.nd
    refine ⟨p, xs, T, e1, hp, r, n2, fun a ha => mem_mid.mpr (.inl ha), fun H' xs' os' k0 k hp' r' => ?_⟩
    have q := f F H' (.ref p) (.lst os') (p :: T) (Ex.refl _) (fun a ha => k0 a (mem_mid.mpr (.inr ha)) fun z => n3 a z ha) (.lst hp' r')
    rw [set_same e1] at q
    refine ⟨⟨Ex.refl _, fun a u e n => k a u e fun z => n (mem_mid.mpr (.inl z)), fun a ha => .inl ha, fun a ha => .inr (.inl ha)⟩, ⟨fun a u z => k a u (W.fh a u z) fun y => ?_, W.off, W.nd, q⟩⟩
    rw [W.off a (mem_mid.mpr (.inl y))] at z
    cases z
theorem WF.own1 {i : Nat} {os : List O} (W : WF K F H σ en S) (h : en[i]? = some (some (.lst os))) :
    ∃ p xs T, σ[i]? = some (some (.ref p)) ∧ H p = some (.lst xs) ∧ ROs K F H os xs T ∧ (∀ xs', ROs K F (upd H p (.lst xs')) os xs T) ∧
      ∀ xs' os', ROs K F (upd H p (.lst xs')) os' xs' T → Step F H S F (upd H p (.lst xs')) S ∧ WF K F (upd H p (.lst xs')) σ (en.set i (some (.lst os'))) S := by
  obtain ⟨p, xs, T, e1, hp, r, nd, sub, f⟩ := W.own h
  have np := (List.nodup_cons.mp nd).1
  have ne : ∀ {a : Addr} {w : HO}, a ∉ p :: T → upd H p w a = H a := fun n => upd_ne fun z => n (by rw [z]; exact List.mem_cons_self ..)
  refine ⟨p, xs, T, e1, hp, r, fun xs' => r.mono (Ex.refl _) fun a ha => upd_ne fun z => np (by rw [← z]; exact ha), fun xs' os' r' => f _ xs' os' (fun a _ n => ne n) (fun a u e n => (ne n).trans e) upd_same r'⟩
/-- x.append(e) -/
def mApp (i : Nat) (m : Xm) : Xm := fun en => match en[i]? with
  | some (some (.lst _)) => (m en).bind fun p => match snap p.1, p.2[i]? with
    | some d, some (some (.lst os)) => if os.length < sizeL then .ok (.leaf .none, p.2.set i (some (.lst (os ++ [.leaf d])))) else .bad
    | _, _ => .bad
  | _ => .bad
theorem lst_or (y : Option (Option O)) : (∃ os, y = some (some (.lst os))) ∨ ∀ os, y ≠ some (some (.lst os)) := by
  rcases y with _ | _ | o
  · exact .inr fun _ z => by cases z
  · exact .inr fun _ z => by cases z
  · cases o with
    | lst os => exact .inl ⟨os, rfl⟩
    | leaf _ => exact .inr fun _ z => by cases z
    | dct _ _ => exact .inr fun _ z => by cases z
    | dt _ => exact .inr fun _ z => by cases z
    | scr _ => exact .inr fun _ z => by cases z
theorem mApp_ok {i : Nat} {m : Xm} {o : O} (h : mApp i m en = .ok (o, en')) : ∃ os0 o1 e1 d os, en[i]? = some (some (.lst os0)) ∧ m en = .ok (o1, e1) ∧ snap o1 = some d ∧ e1[i]? = some (some (.lst os)) ∧ os.length < sizeLine ∧
    o = .leaf .none ∧ en' = e1.set i (some (.lst (os ++ [.leaf d]))) := by
  unfold mApp at h
  rcases lst_or en[i]? with ⟨os0, z⟩ | z
  · rw [z] at h
    obtain ⟨⟨o1, e1⟩, h1, h2⟩ := R.ok_of_bind h
    dsimp only at h2
    cases hs : snap o1 with
    | none => rw [hs] at h2; cases h2
    | some d =>
      rcases lst_or e1[i]? with ⟨os, y⟩ | y
      · rw [hs, y] at h2
        dsimp only at h2
        by_cases hl : os.length < sizeL
        · rw [if_pos hl] at h2
          cases h2
          exact ⟨os0, o1, e1, d, os, z, h1, hs, y, sizeL_eq ▸ hl, rfl, rfl⟩
        · rw [if_neg hl] at h2
          cases h2
      · rw [hs] at h2
        split at h2
        · exact absurd (by assumption) (y _)
        · cases h2
  · split at h
    · exact absurd (by assumption) (z _)
    · cases h
theorem ce_app {i : Nat} {x : Str} {px apos cpos : Pos} {m : Xm} (hv : PE X (.Name x px) (tVar i)) (he : CE X e m)
    (hbase : attributeBase (.Name x px) "append" X.env (eval (.Name x px) X.env) = eval (.Name x px) X.env := by rfl)
    (hfew : ((backTo cpos (starEach [e] X.env)).all (fun x => !x.1) && (backToKw cpos (keywordEach [] X.env)).all (fun x => x.1.isSome)
      && decide ([e].length + ([] : List Keyword).length + (if ([] : List Keyword).isEmpty then 0 else 1) < 30)) = true := by rfl)
    (hline : (apos.endLine == cpos.line) = true := by rfl) (hs : starEach [e] X.env = (false, eval e X.env) :: starEach [] X.env := by rfl) (hplain : (backTo cpos (starEach [] X.env)).any (·.1) = false := by rfl) :
    CE X (.Call (.Attribute (.Name x px) "append" apos) [e] [] cpos) (mApp i m) :=
  PE.imp (pe_bm PySem.F.plainAttrs_list PySem.F.slot_list_append PySem.F.type_list_append mt_append hv (pa_cons he pa_nil hs) hbase hfew hline hs hplain) fun σ H Q q => by
  obtain ⟨F, S, en, o, en', W, hm, k⟩ := q
  obtain ⟨os0, o1, e1, d, os, z0, h1, hs, y, hl, rfl, rfl⟩ := mApp_ok hm
  obtain ⟨p, xs0, T0, hp, hx0, _, _⟩ := W.own1 z0
  refine ⟨.ref p, hp, .inl ⟨rfl, xs0, sq_of hx0⟩, F, S, en, o1, e1, W, h1, fun v F1 H1 S1 st1 W1 => ?_⟩
  obtain ⟨F2, S2, v2, ev, st2, W2, dp⟩ := W1.freeze (i := 0) rfl hs
  cases ev
  obtain ⟨dp, W3⟩ := W2.head
  obtain ⟨p', xs, T, hp', hx, r, r', f⟩ := W3.own1 y
  rw [hp] at hp'
  cases hp'
  obtain ⟨st4, W4⟩ := f (xs ++ [v]) (os ++ [.leaf d]) ((r' _).snoc dp)
  exact ⟨p, xs, v, rfl, rfl, hx, by rw [← ROs.length r]; exact hl, k .non F2 _ S2 ((st1.trans st2).trans st4) (W4.leaf .non)⟩
/-- x[k] = e, the k-th being data -/
def sSetIx (i : Nat) (mi m : Xm) : Sm := fun en => (m en).bind fun p => match snap p.1 with
  | some d => match p.2[i]? with
    | some (some _) => (mi p.2).bind fun q => match q.1, q.2[i]? with
      | .leaf (.int k), some (some (.lst os)) => match ixN os.length k with
        | some j => match os[j]? with
          | some (.leaf _) => .ok (.nx (q.2.set i (some (.lst (os.set j (.leaf d))))))
          | _ => .bad
        | none => .bad
      | _, _ => .bad
    | _ => .bad
  | none => .bad
theorem sSetIx_ok {i : Nat} {mi m : Xm} {out : Out} (h : sSetIx i mi m en = .ok out) : ∃ o1 e1 d o0 k e2 os j d0, m en = .ok (o1, e1) ∧ snap o1 = some d ∧ e1[i]? = some (some o0) ∧ mi e1 = .ok (.leaf (.int k), e2) ∧ e2[i]? = some (some (.lst os)) ∧
    ixN os.length k = some j ∧ os[j]? = some (.leaf d0) ∧ out = .nx (e2.set i (some (.lst (os.set j (.leaf d))))) := by
  obtain ⟨⟨o1, e1⟩, h1, h2⟩ := R.ok_of_bind h
  dsimp only at h2
  split at h2
  · rename_i d hs
    split at h2
    · rename_i o0 h0
      obtain ⟨⟨o2, e2⟩, h3, h4⟩ := R.ok_of_bind h2
      dsimp only at h4
      split at h4
      · rename_i k os z
        split at h4
        · rename_i j hj
          split at h4
          · rename_i d0 hd
            cases h4
            exact ⟨o1, e1, d, o0, k, e2, os, j, d0, h1, hs, h0, h3, z, hj, hd, rfl⟩
          · cases h4
        · cases h4
      · cases h4
    · cases h2
  · cases h2
theorem cs_setIx {i : Nat} {x : Str} {px ps : Pos} {m mi : Xm} (hv : PE X (.Name x px) (tVar i)) (hi : CE X b mi) (he : CE X e m)
    (hs : swapsWithSole [.Subscript (.Name x px) b ps] e pos.line X.env = pure false := by rfl) (hw : swappedStores [.Subscript (.Name x px) b ps] e X.env = pure none := by rfl)
    (h1 : (assignEach [.Subscript (.Name x px) b ps] X.env).map (·.2) = [assign (.Subscript (.Name x px) b ps) X.env] := by rfl)
    (ha : ∀ v, assign (.Subscript (.Name x px) b ps) X.env v = (do
      let ov ← holding [v] (eval (.Name x px) X.env)
      let iv ← holding [v, ov] (eval b X.env)
      standAt ps
      holding [v, ov, iv] (setItem ov iv v)
      release [v, ov, iv] []) := by intro _; rfl) : CS X pin (.Assign [.Subscript (.Name x px) b ps] e pos) (sSetIx i mi m) :=
  PS.imp (ps_asg he (pg_sub hv hi set_list ha) hs hw h1) fun D σ H q => by
  obtain ⟨F, S, en, out, W, hm, k⟩ := q
  obtain ⟨o1, e1, d, o0, kk, e2, os, j, d0, h1, hs, h0, h3, z, hj, hd, rfl⟩ := sSetIx_ok hm
  refine ⟨F, S, en, o1, e1, W, h1, fun v F1 H1 S1 st1 W1 => ?_⟩
  obtain ⟨F2, S2, v2, ev, st2, W2, dp⟩ := W1.freeze (i := 0) rfl hs
  cases ev
  obtain ⟨dp, W3⟩ := W2.head
  obtain ⟨w, hw⟩ := W3.has h0
  refine ⟨w, hw, F2, S2, e1, _, e2, W3, h3, fun vi F4 H4 S4 st4 W4 => ?_⟩
  obtain ⟨di, W5⟩ := W4.head
  cases di
  obtain ⟨p, xs, T, hp, hx, r, r', f⟩ := W5.own1 z
  rw [hw] at hp
  cases hp
  have dp4 := Dp.mono st4.ff _ _ dp
  obtain ⟨v0, A, S5, B, e5, e6, r5, g⟩ := (r' (xs.set j v)).at hd
  cases r5 with
  | leaf q0 =>
    have rr := g F4 (upd H4 p (.lst (xs.set j v))) v (.leaf d) [] (Ex.refl _) (fun _ _ => rfl) (.leaf dp4)
    rw [← e6] at rr
    obtain ⟨st6, W6⟩ := f _ _ rr
    exact ⟨p, xs, kk, j, rfl, rfl, hx, by rw [← ROs.length r]; exact hj, k σ F4 _ S4 (((st1.trans st2).trans st4).trans st6) W6 Pin.refl⟩
end
end
end Ev
namespace Ev
noncomputable section
open PySem PySem.Spec L2 Evl
/-! ### list(reversed(x)) -/
section
open PyProof.Rows
variable {prog : Program} {w : World} {A : Around} {E : Value → Shared → Prop} {s : Shared}
theorem extend_rev {R : Result → Shared → Prop} {S it l : Addr} {items : Array Value} {c0 : Nat} (res : Value) (hh : A.handled = none) (hit : s.heap.IsRevIter it l ((items.size : Int) - 1)) (hl : s.heap.IsList l items) (hne : l ≠ it) (hn : items.size ≤ sizeLine)
    (hSi : S ≠ it) (hSl : S ≠ l) (hS : s.heap.get? S = some { cls := .type "list", data := .seq #[] c0 })
    (hR : ∀ (h' : Heap) (tk : Nat) (acc : Array Value) (c' : Nat), (∀ b o, b ≠ S → b ≠ it → s.heap.get? b = some o → h'.get? b = some o) → h'.get? S = some { cls := .type "list", dict := none, data := .seq acc c', slots := #[] } →
      ItemsOf (fun i v => items[items.size - 1 - i]? = some v) acc items.size → R (.ok (.ret res)) { s with heap := h', toks := tk }) :
    wpAny (model prog w) A.in1 (Builtin.List.listExtendWith (.ref S) (.ref it) res)
      (fun fin s' => match fin with | .done f => R (.ok f) s' | .again c' => c'.quiet = true ∧ codeAny (model prog w) A c' R s') (fun e s' => R (.error e) s') s := by
  have W := (Walks.listRev (prog := prog) (w := w) (A := A.in1) hh it l hne items).toS
  have hSf : S ∉ [it, l] := by simp only [List.mem_cons, List.not_mem_nil, or_false, not_or]; exact ⟨hSi, hSl⟩
  have hT : s.TypeIs (.ref it) "list_reverseiterator" := Heap.IsRevIter.typeIs hit
  have h1 : Builtin.List.listSameRef (.ref S) (.ref it) = false := by simp [Builtin.List.listSameRef, hSi]
  unfold Builtin.List.listExtendWith
  refine wpAny_bind (wpAny_typeOf hT ?_)
  rw [if_neg (by rw [h1]; decide)]
  refine wpAny_bind (wpAny_pyIter_revIter hit ?_)
  refine wpAny_bind (wpAny_holding ?_)
  unfold Builtin.List.listLengthHint
  refine wpAny_bind (wpAny_specialOf hT RT.nolen_lri ?_)
  show wpAny _ A.in1 (specialOf (Value.ref it) (Str.ofString "__length_hint__") >>= _) _ _ _
  refine wpAny_bind (wpAny_specialOf hT RT.hint_lri ?_)
  generalize hid : ("list_reverseiterator.__length_hint__" : String) = id0
  wp_delta
  rw [show splitId id0 = some ("list_reverseiterator", "__length_hint__") from by subst hid; decide +kernel]
  subst hid
  refine wpAny_bind (wpAny_isInstance (b := true) hT (by rw [isSubtype_type]; kernel_rfl) ?_)
  refine wpAny_pure ?_
  rw [if_neg (by decide)]
  have e0 : ((items.size : Nat) : Int) - 1 - ((0 : Nat) : Int) = (items.size : Int) - 1 := by omega
  refine wpAny_pure ⟨plainId_quiet F.plain_extend_loop _, codeAny_extend_loopS W hn _ hSf _ items.size 0 _ _ _ rfl (Nat.zero_le _) ⟨Nat.zero_le _, by rw [e0]; exact hit, hl⟩ hS (ItemsOf.nil _) fun s' acc' c' hm hS' hacc => ?_⟩
  rw [Moved.eq_with hm] at hS' ⊢
  refine hR s'.heap s'.toks acc' c' (fun b o hb hb2 e => hm.heap b o (fun hmem => ?_) e) hS' hacc
  rcases List.mem_cons.mp hmem with e' | hmem
  · exact hb e'
  · exact hb2 (List.mem_singleton.mp hmem)
theorem init_rev {R : Result → Shared → Prop} {S it l : Addr} {items : Array Value} (hh : A.handled = none) (hit : s.heap.IsRevIter it l ((items.size : Int) - 1)) (hl : s.heap.IsList l items) (hne : l ≠ it) (hn : items.size ≤ sizeLine)
    (hSi : S ≠ it) (hSl : S ≠ l) (hS : s.heap.get? S = some { cls := .type "list", data := .seq #[] })
    (hR : ∀ (h' : Heap) (tk : Nat) (acc : Array Value) (c' : Nat), (∀ b o, b ≠ S → b ≠ it → s.heap.get? b = some o → h'.get? b = some o) → h'.get? S = some { cls := .type "list", dict := none, data := .seq acc c', slots := #[] } →
      ItemsOf (fun i v => items[items.size - 1 - i]? = some v) acc items.size → R (.ok (.ret .none)) { s with heap := h', toks := tk }) :
    wpAny (model prog w) A.in1 (Builtin.«list.__init__» ⟨[.ref S, .ref it], []⟩)
      (fun fin s' => match fin with | .done f => R (.ok f) s' | .again c' => c'.quiet = true ∧ codeAny (model prog w) A c' R s') (fun e s' => R (.error e) s') s := by
  show wpAny _ A.in1 (do let old ← Builtin.List.listItems (.ref S); Builtin.List.listUpdate (.ref S) (fun _ => #[]); letGo old.toList.reverse; Builtin.List.listExtendWith (.ref S) (.ref it) .none) _ _ s
  refine wpAny_bind ?_
  unfold Builtin.List.listItems
  refine wpAny_bind (wpAny_seqItems hS rfl (wpAny_pure ?_))
  show wpAny _ A.in1 (updateSeq S (fun _ => #[]) >>= fun _ => letGo (#[] : Array Value).toList.reverse >>= fun _ => Builtin.List.listExtendWith (.ref S) (.ref it) .none) _ _ s
  refine wpAny_bind (wpAny_updateSeq hS rfl ?_)
  have hS₂ := Heap.get?_update_self (Obj.mapSeq (fun _ => (#[] : Array Value))) hS rfl
  have oth : ∀ b o, b ≠ S → s.heap.get? b = some o → (s.heap.update S (Obj.mapSeq (fun _ => (#[] : Array Value)))).get? b = some o :=
    fun b o hb e => (Heap.get?_update_other _ _ (Ne.symm hb)).trans e
  refine wpAny_bind (wpAny_letGo ?_)
  exact extend_rev (s := { s with heap := s.heap.update S (Obj.mapSeq (fun _ => (#[] : Array Value))) }) .none hh (hit.at fun o e => oth it o (Ne.symm hSi) e) (hl.at fun o e => oth l o (Ne.symm hSl) e) hne hn hSi hSl hS₂ fun h' tk acc c' k k2 k3 =>
    hR h' tk acc c' (fun b o hb hb2 e => k b o hb hb2 (oth b o hb e)) k2 k3
theorem call_list_rev {it l : Addr} {items : Array Value} {Q : Value → Shared → Prop} (hh : A.handled = none) (hit : s.heap.IsRevIter it l ((items.size : Int) - 1)) (hl : s.heap.IsList l items) (hne : l ≠ it) (hn : items.size ≤ sizeLine)
    (hQ : ∀ (h' : Heap) (tk : Nat) (acc : Array Value) (c' : Nat), (∀ b o, b ≠ it → s.heap.get? b = some o → h'.get? b = some o) → h'.get? s.heap.objs.size = some { cls := .type "list", dict := none, data := .seq acc c', slots := #[] } →
      ItemsOf (fun i v => items[items.size - 1 - i]? = some v) acc items.size → Q (.ref s.heap.objs.size) { s with heap := h', toks := tk }) :
    wpAny (model prog w) A (call (.type "list") [.ref it]) Q E s := by
  refine callType_codes (Q₁ := fun obj s₁ => obj = .ref s.heap.objs.size ∧ s₁ = { s with heap := s.heap.push { cls := .type "list", data := .seq #[] } }) PySem.F.called_list (PySem.F.typeCall_list_1 _) PySem.F.entry_list_init
    (code_list_new _ ⟨rfl, rfl⟩) fun obj s₁ h₁ => ?_
  obtain ⟨rfl, rfl⟩ := h₁
  have hS : (s.heap.push { cls := .type "list", data := .seq #[] }).get? s.heap.objs.size = some { cls := .type "list", data := .seq #[] } := Heap.get?_push_size _ rfl
  obtain ⟨oi, hoi, _⟩ := id hit
  obtain ⟨ol, hol, _⟩ := id hl
  refine ⟨⟨_, hS, rfl⟩, PySem.F.args_list_init_2 _ _, init_rev (A := A.in1) (s := { s with heap := s.heap.push { cls := .type "list", data := .seq #[] } }) hh (hit.at fun o e => Heap.get?_push_of_some _ e) (hl.push _) hne hn (Nat.ne_of_gt (Heap.lt_size hoi)) (Nat.ne_of_gt (Heap.lt_size hol)) hS fun h' tk acc c' k k2 k3 => ?_⟩
  exact ⟨rfl, hQ h' tk acc c' (fun b o hb e => k b o (Nat.ne_of_lt (Heap.lt_size e)) hb (Heap.get?_push_of_some _ e)) k2 k3⟩
end
section
open PyProof.Rows
variable {X : Cx}
theorem pe_listRev {e : Expr} {te : TE} {p p2 pos pos2 : Pos} (hc : X.calm = true) (hg : Gl X "list") (hm : X.mg "list" = none) (hg2 : Gl X "reversed") (hm2 : X.mg "reversed" = none) (he : PE X e te)
    (hs : starEach [e] X.env = (false, eval e X.env) :: starEach [] X.env := by rfl)
    (hs2 : starEach [.Call (.Name "reversed" p2) [e] [] pos2] X.env = (false, eval (.Call (.Name "reversed" p2) [e] [] pos2) X.env) :: starEach [] X.env := by rfl) :
    PE X (.Call (.Name "list" p) [.Call (.Name "reversed" p2) [e] [] pos2] [] pos) (fun σ H Q => te σ H fun v H1 => ∃ (a : Addr) (xs : List V), v = .ref a ∧ SqL X.K H1 a xs ∧ ∀ q, H1 q = none → Q (.ref q) (upd H1 q (.lst xs.reverse))) := by
  refine ⟨fun pins s σ H Q I h => ?_⟩
  refine Call_ (ld_blt I hg hm boot_list (PyProof.Rows.callWith_type1 (args_cons (Call_ (ld_blt I hg2 hm2 PyProof.Rows.boot_reversed (PyProof.Rows.callWith_type1 (args_cons (thn (he.run pins s σ H _ I h) fun u s1 ⟨v, H1, I1, r1, q1⟩ => args_nil ?_) hs) hs rfl))) hs2) hs2 rfl))
  obtain ⟨a, xs, ev, hq, q⟩ := q1
  subst ev
  obtain rfl : u = Value.ref a := r1
  obtain ⟨its, rv, p', hz⟩ := I1.list hq
  refine call_reversed_list p'.isList (args_nil ?_)
  have k0 : ∀ b o, s1.heap.get? b = some o → (s1.heap.push (revObj a ((its.toArray.size : Int) - 1))).get? b = some o := fun b o e => Heap.get?_push_of_some _ e
  have I2 : Inv X pins σ H1 { s1 with heap := s1.heap.push (revObj a ((its.toArray.size : Int) - 1)) } := I1.kept (t' := s1.toks) k0
  obtain ⟨f0, f1, f2, f3, f4, f5⟩ := I1.fpOk (H' := H1) (b := s1.heap.objs.size) (Nat.le_refl _) (I1.hok.fresh (Nat.le_refl _))
  have hl := p'.isList
  obtain ⟨ol, hol, _⟩ := id hl
  have hne : a ≠ s1.heap.objs.size := Nat.ne_of_lt (Heap.lt_size hol)
  have hn : its.toArray.size ≤ sizeLine := by rw [List.size_toArray, ← rv.length]; exact hz
  refine call_list_rev (s := { s1 with heap := s1.heap.push (revObj a ((its.toArray.size : Int) - 1)) }) (I1.ok.hd hc) ⟨_, Heap.get?_push_size _ rfl, rfl, rfl⟩ (hl.push _) hne hn fun h' tk acc c' hk hD hi => ?_
  have new : ObjOk X.prog X.w (upd H1 (s1.heap.push (revObj a ((its.toArray.size : Int) - 1))).objs.size (.lst xs.reverse)) h' (s1.heap.push (revObj a ((its.toArray.size : Int) - 1))).objs.size (.lst xs.reverse) :=
    ⟨by rw [List.length_reverse]; exact hz, acc.toList, c', RT.vals_rev rv hi, by rw [Array.toArray_toList]; exact hD⟩
  have I3 := I2.turnedNew (t' := tk) (ch := [s1.heap.objs.size]) (fun b o hb e => hk b o (fun z => hb (List.mem_singleton.mpr z)) e) (fun b hb => by rw [List.mem_singleton.mp hb]; exact ⟨f0, f1, f2, f3, f4, f5⟩) (Nat.le_refl _) new
  exact ⟨.ref _, _, I3, rfl, q _ (I2.hok.fresh (Nat.le_refl _))⟩
end
/-! ### the readings -/
section
variable {X : Cx} {pin : List Nat} {a b c e : Expr} {es : List Expr} {pos : Pos} {K : PySem.W.Frag} {F H F' H' : Hp} {σ : L2.St} {en en' : En} {S : List Addr}
/-- list(reversed(e)), e a list of data -/
def mRev (m : Om) : Xm := fun en => (m en).bind fun p => match p.1 p.2 with
  | some (.list ds) => .ok (.lst (ds.reverse.map O.leaf), p.2)
  | _ => .bad
theorem ce_listRev {m : Om} {p p2 pos2 : Pos} (hc : X.calm = true) (hg : Gl X "list") (hm : X.mg "list" = none) (hg2 : Gl X "reversed") (hm2 : X.mg "reversed" = none) (he : CO X e m)
    (hs : starEach [e] X.env = (false, eval e X.env) :: starEach [] X.env := by rfl)
    (hs2 : starEach [.Call (.Name "reversed" p2) [e] [] pos2] X.env = (false, eval (.Call (.Name "reversed" p2) [e] [] pos2) X.env) :: starEach [] X.env := by rfl) :
    CE X (.Call (.Name "list" p) [.Call (.Name "reversed" p2) [e] [] pos2] [] pos) (mRev m) := PE.imp (pe_listRev hc hg hm hg2 hm2 he hs hs2) fun σ H Q q => by
  obtain ⟨F, S, en, o, en', W, hm, k⟩ := q
  obtain ⟨⟨r, e1⟩, h1, h2⟩ := R.ok_of_bind hm
  dsimp only at h2
  split at h2
  · rename_i ds hr
    cases h2
    refine ⟨F, S, en, r, _, W, h1, fun v F1 H1 S1 st1 W1 os => ?_⟩
    obtain ⟨p, xs, rfl, hp, da⟩ := (os F1 H1 S1 _ _ (Ex.refl _) W1 hr).list W1.fh
    exact ⟨p, xs, rfl, sq_of hp, fun q nq => (k.pre st1).lst W1 (DpAll.reverse da) nq⟩
  · cases h2
/-- x[k], x a list that a name owns, the k-th data -/
def atO {α : Type} (os : List α) (k : Int) : Option α := atI os k
def oAt (i : Nat) (k : Int) : Om := fun en => match en[i]? with
  | some (some (.lst os)) => match atI os k with
    | some (.leaf d) => .ok (fun _ => some d, en)
    | _ => .bad
  | _ => .bad
theorem ROs.atI {os : List O} {xs : List V} {k : Int} {o : O} (r : ROs K F H os xs S) (h : L2.atI os k = some o) : ∃ j v, ixN os.length k = some j ∧ os[j]? = some o ∧ L2.atI xs k = some v ∧ xs[j]? = some v ∧ ∃ S1, (∀ a ∈ S1, a ∈ S) ∧ RO K F H o v S1 := by
  unfold L2.atI at h ⊢
  rw [← ROs.length r]
  cases q : ixN os.length k with
  | none => rw [q] at h; cases h
  | some j =>
    rw [q] at h
    have h' : os[j]? = some o := h
    obtain ⟨v, A, S1, B, e1, e2, r1, _⟩ := r.at h'
    exact ⟨j, v, rfl, h', e1, e1, S1, fun a ha => by rw [e2]; exact mem_mid.mpr (.inl ha), r1⟩
theorem oAt_ok {i : Nat} {k : Int} {r : Rs} (h : oAt i k en = .ok (r, en')) : ∃ os d, en[i]? = some (some (.lst os)) ∧ L2.atI os k = some (.leaf d) ∧ r = (fun _ => some d) ∧ en' = en := by
  unfold oAt at h
  split at h
  · rename_i os z
    split at h
    · rename_i d y
      cases h
      exact ⟨os, d, z, y, rfl, rfl⟩
    · cases h
  · cases h
theorem at_core {i : Nat} {k : Int} {os : List O} {d : PyData} {Q : VK} (W : WF K F H σ en S) (z : en[i]? = some (some (.lst os))) (y : L2.atI os k = some (.leaf d)) (q : ∀ v, Dp K F v d → Q v H) : tOp (rIx K) (tVar i) (tC (.int k)) σ H Q := by
  obtain ⟨p, xs, T, hp, hx, r, _⟩ := W.own1 z
  obtain ⟨j, v, e1, e2, e3, e4, S1, _, r1⟩ := r.atI y
  cases r1 with
  | leaf dp => exact ⟨.ref p, hp, .inl ⟨p, xs, k, v, rfl, rfl, sq_of hx, e3, q v dp⟩⟩
theorem co_at {i j : Nat} {k : Int} {x : Str} {px pc : Pos} (hv : PE X (.Name x px) (tVar i)) (hs : PlainIx (.Constant (.int k) j pc) := by exact fun _ _ => rfl) : CO X (.Subscript (.Name x px) (.Constant (.int k) j pc) pos) (oAt i k) :=
  PE.imp (pe_ix ix_seq hv pe_int hs) fun σ H Q q => by
  obtain ⟨F, S, en, o, en', W, hm, kk⟩ := q
  obtain ⟨os, d, z, y, rfl, rfl⟩ := oAt_ok hm
  exact at_core W z y fun v dp => kk v F H S Step.refl W fun F2 H2 S2 en2 d2 ex _ q => by cases q; exact .dp (Dp.mono ex _ _ dp)
def mAt (i : Nat) (k : Int) : Xm := fun en => match en[i]? with
  | some (some (.lst os)) => match atI os k with
    | some (.leaf d) => .ok (.leaf d, en)
    | _ => .bad
  | _ => .bad
theorem ce_at {i j : Nat} {k : Int} {x : Str} {px pc : Pos} (hv : PE X (.Name x px) (tVar i)) (hs : PlainIx (.Constant (.int k) j pc) := by exact fun _ _ => rfl) : CE X (.Subscript (.Name x px) (.Constant (.int k) j pc) pos) (mAt i k) :=
  PE.imp (pe_ix ix_seq hv pe_int hs) fun σ H Q q => by
  obtain ⟨F, S, en, o, en', W, hm, kk⟩ := q
  unfold mAt at hm
  split at hm
  · rename_i os z
    split at hm
    · rename_i d y
      cases hm
      exact at_core W z y fun v dp => kk.leaf W dp
    · cases hm
  · cases hm
/-- x[k] != [], x[k] a list of data that x owns -/
def mBagNe (i : Nat) (k : Int) : Xm := fun en => match en[i]? with
  | some (some (.lst os)) => match atI os k with
    | some (.lst qs) => match leaves qs with
      | some ds => if SeqAt.shaped (.list ds) = true then .ok (.leaf (.bool (!PyData.eqv (.list ds) (.list []))), en) else .bad
      | none => .bad
    | _ => .bad
  | _ => .bad
theorem Step.junk {p : Addr} {u : HO} (W : WF K F H σ en S) (hp : H p = none) : Step F H S F (upd H p u) S ∧ WF K F (upd H p u) σ en S := by
  have nS : p ∉ S := fun z => W.eo.there p z hp
  refine ⟨⟨Ex.refl _, fun a o e _ => ?_, fun a ha => .inl ha, fun a ha => .inr (.inl ha)⟩, ⟨W.fh.trans (Ex.new hp), W.off, W.nd, W.eo.mono (Ex.refl _) fun a ha => upd_ne fun z => nS (by rw [← z]; exact ha)⟩⟩
  rw [upd_ne (ne_of_none e hp)]
  exact e
theorem ct_bagNe {i j : Nat} {k : Int} {x : Str} {px pc p2 p3 : Pos} (hv : PE X (.Name x px) (tVar i)) (hu : X.A.units + 64 < cLine) (hs : PlainIx (.Constant (.int k) j pc) := by exact fun _ _ => rfl) :
    CT X (.Compare (.Subscript (.Name x px) (.Constant (.int k) j pc) pos) [.NotEq] [.List [] p2] p3) (mBagNe i k) := PT.imp (pt_cmpR (op_neD hu) (pe_ix ix_seq hv pe_int hs) (pe_lst pa_nil) (nomark _)) fun σ H Q q => by
  obtain ⟨F, S, en, b, en', W, hm, kk⟩ := q
  unfold mBagNe at hm
  split at hm
  · rename_i os z
    split at hm
    · rename_i qs y
      split at hm
      · rename_i ds hl
        by_cases hsh : SeqAt.shaped (.list ds) = true
        · rw [if_pos hsh] at hm
          cases hm
          obtain ⟨p, xs, T, hp, hx, r, _⟩ := W.own1 z
          obtain ⟨j, v, e1, e2, e3, e4, S1, _, r1⟩ := r.atI y
          cases r1 with
          | lst hq rq =>
            obtain ⟨da, _⟩ := ROs.flat rq hl
            refine ⟨.ref p, hp, .inl ⟨p, xs, k, _, rfl, rfl, sq_of hx, e3, ?_⟩⟩
            refine ⟨by show 0 ≤ sizeLine; exact Nat.zero_le _, fun p2 n2 => ?_⟩
            obtain ⟨st, W2⟩ := Step.junk (u := .lst []) W n2
            refine ⟨.list ds, .list [], .lst (sq_of ((Ex.new n2 _ _ hq))) ?_, .lst (sq_of upd_same) .nil, hsh, by decide, ⟨_, rfl, kk F _ S st W2⟩⟩
            exact DpAll.out _ _ (DpAll.mono W2.fh _ _ da)
        · rw [if_neg hsh] at hm
          cases hm
      · cases hm
    · cases hm
  · cases hm
/-- x[k].pop(), x[k] a list of data that x owns -/
def mPopAt (i : Nat) (k : Int) : Xm := fun en => match en[i]? with
  | some (some (.lst os)) => match ixN os.length k with
    | some j => match os[j]? with
      | some (.lst qs) => match leaves qs with
        | some ds => match ds[ds.length - 1]? with
          | some d => .ok (.leaf d, en.set i (some (.lst (os.set j (.lst (ds.dropLast.map O.leaf))))))
          | none => .bad
        | none => .bad
      | _ => .bad
    | none => .bad
  | _ => .bad
theorem DpAll.dropLast {F : Hp} : ∀ {vs : List V} {ds : List PyData}, DpAll K F vs ds → DpAll K F vs.dropLast ds.dropLast
  | _, _, .nil => .nil
  | _, _, .cons _ .nil => .nil
  | _, _, .cons r (.cons r2 t) => .cons r (DpAll.dropLast (.cons r2 t))
theorem ce_popAt {i j : Nat} {k : Int} {x : Str} {px pc ps apos cpos : Pos} (hv : PE X (.Name x px) (tVar i)) (hs : PlainIx (.Constant (.int k) j pc) := by exact fun _ _ => rfl)
    (hbase : attributeBase (.Subscript (.Name x px) (.Constant (.int k) j pc) ps) "pop" X.env (eval (.Subscript (.Name x px) (.Constant (.int k) j pc) ps) X.env) = eval (.Subscript (.Name x px) (.Constant (.int k) j pc) ps) X.env := by rfl)
    (hline : (apos.endLine == cpos.line) = true := by rfl) :
    CE X (.Call (.Attribute (.Subscript (.Name x px) (.Constant (.int k) j pc) ps) "pop" apos) [] [] cpos) (mPopAt i k) :=
  PE.imp (pe_bm0 PySem.F.plainAttrs_list PySem.F.slot_list_pop PySem.F.type_list_pop mt_pop (pe_ix ix_seq hv pe_int hs) hbase hline) fun σ H Q q => by
  obtain ⟨F, S, en, b, en', W, hm, kk⟩ := q
  unfold mPopAt at hm
  split at hm
  · rename_i os z
    split at hm
    · rename_i jj hj
      split at hm
      · rename_i qs y
        split at hm
        · rename_i ds hl
          split at hm
          · rename_i d hd
            cases hm
            obtain ⟨p, xs, T, hp, hx, r, nd, sub, f⟩ := W.own z
            obtain ⟨v, A, S1, B, e1, e2, r1, g⟩ := r.at y
            subst e2
            cases r1 with
            | lst hq rq =>
              rename_i q ys T2
              obtain ⟨da, eT⟩ := ROs.flat rq hl
              subst eT
              obtain ⟨n1, n2⟩ := List.nodup_cons.mp nd
              obtain ⟨m1, m2, m3⟩ := nd_mid n2
              have eat : L2.atI xs k = some (.ref q) := by
                unfold L2.atI
                rw [← ROs.length r, hj]
                exact e1
              have qp : q ≠ p := fun z => n1 (by rw [← z]; exact mem_mid.mpr (.inl (List.mem_cons_self ..)))
              obtain ⟨v, hv1, hv2⟩ := DpAll.get da hd
              have rr := g F (upd H q (.lst ys.dropLast)) (.ref q) (.lst (ds.dropLast.map O.leaf)) [q] (Ex.refl _) (fun a ha => upd_ne fun z => m3 q (List.mem_cons_self ..) (by rw [← z]; exact ha)) (.lst (S := []) upd_same (ROs.ofAll (DpAll.dropLast da)))
              rw [set_same e1] at rr
              obtain ⟨st, W2⟩ := f (upd H q (.lst ys.dropLast)) xs _ (fun a _ ha => upd_ne fun z => ha (by rw [z]; exact List.mem_cons_of_mem _ (mem_mid.mpr (.inl (List.mem_cons_self ..)))))
                (fun a u e ha => (upd_ne fun z => ha (by rw [z]; exact List.mem_cons_of_mem _ (mem_mid.mpr (.inl (List.mem_cons_self ..))))).trans e) ((upd_ne (Ne.symm qp)).trans hx) rr
              refine ⟨.ref p, hp, .inl ⟨p, xs, k, .ref q, rfl, rfl, sq_of hx, eat, ?_⟩⟩
              refine ⟨.inl ⟨rfl, ys, sq_of hq⟩, q, ys, v, rfl, rfl, hq, by rw [DpAll.length da]; exact hv1, kk v F _ S st (W2.leaf hv2)⟩
          · cases hm
        · cases hm
      · cases hm
    · cases hm
  · cases hm
end
end
end Ev
namespace Ev
noncomputable section
open PySem PySem.Spec L2 Evl
section
variable {X : Cx} {pin : List Nat} {a b c e : Expr} {es : List Expr} {pos : Pos} {K : PySem.W.Frag} {F H F' H' : Hp} {σ : St} {en en' : En} {S : List Addr}
/-! ### argument lists of objects; displays of them -/
abbrev Hs := En → R (List O × En)
def tHs (K : PySem.W.Frag) (m : Hs) : TA := fun σ H Q => ∃ F S en os en', WF K F H σ en S ∧ m en = .ok (os, en') ∧ ∀ vs F' H' S', Step F H S F' H' S' → WF K F' H' (vs.map some ++ σ) (os.map some ++ en') S' → vs.length = os.length → Q vs H'
def CH (X : Cx) (es : List Expr) (m : Hs) : Prop := PA X es (tHs X.K m)
def hNil : Hs := fun en => .ok ([], en)
def hCons (a : Xm) (r : Hs) : Hs := fun en => (a en).bind fun p => (r p.2).bind fun q => .ok (p.1 :: q.1, q.2)
theorem ch_nil : CH X [] hNil := PA.imp pa_nil fun σ H Q q => by
  obtain ⟨F, S, en, rs, en', W, hm, k⟩ := q
  cases hm
  exact k [] F H S Step.refl W rfl
theorem ch_cons {ma : Xm} {mr : Hs} (ha : CE X e ma) (hr : CH X es mr) (hs : starEach (e :: es) X.env = (false, eval e X.env) :: starEach es X.env := by rfl) : CH X (e :: es) (hCons ma mr) :=
  PA.imp (pa_cons ha hr hs) fun σ H Q q => by
  obtain ⟨F, S, en, rs, en', W, hm, k⟩ := q
  obtain ⟨⟨o, e1⟩, h1, hm⟩ := R.ok_of_bind hm
  obtain ⟨⟨os, e2⟩, h2, hm⟩ := R.ok_of_bind hm
  cases hm
  refine ⟨F, S, en, o, e1, W, h1, fun x F1 H1 S1 st1 W1 => ?_⟩
  obtain ⟨A, T, rfl, r, WT⟩ := W1.split
  refine ⟨F1, T, e1, os, e2, WT, h2, fun vs F2 H2 S2 st2 W2 hl => ?_⟩
  obtain ⟨W3, st3⟩ := WF.hold r W1 st2 W2
  exact k (x :: vs) F2 H2 (A ++ S2) (st1.trans st3) W3 (congrArg (· + 1) hl)
theorem EO.pre : ∀ {vs : List V} {os : List O} {S : List Addr}, EO K F H (vs.map some ++ σ) (os.map some ++ en) S → vs.length = os.length → ∃ A T, S = A ++ T ∧ ROs K F H os vs A ∧ EO K F H σ en T
  | [], [], S, h, _ => ⟨[], S, rfl, .nil, h⟩
  | [], _ :: _, _, _, l => by cases l
  | _ :: _, [], _, _, l => by cases l
  | v :: vs, o :: os, _, h, l => by
    cases h with
    | som r t =>
      obtain ⟨A, T, rfl, rs, eo⟩ := EO.pre t (Nat.succ.inj l)
      exact ⟨_ ++ A, T, by rw [List.append_assoc], .cons r rs, eo⟩
/-- a new list of objects -/
theorem WF.newLstO {vs : List V} {os : List O} {p : Addr} (W : WF K F H (vs.map some ++ σ) (os.map some ++ en) S) (hl : vs.length = os.length) (hp : H p = none) :
    Step F H S F (upd H p (.lst vs)) (p :: S) ∧ WF K F (upd H p (.lst vs)) (some (.ref p) :: σ) (some (.lst os) :: en) (p :: S) := by
  have nS : p ∉ S := fun z => W.eo.there p z hp
  have nF : F p = none := by
    cases q : F p with
    | none => rfl
    | some u => rw [W.fh p u q] at hp; cases hp
  refine ⟨⟨Ex.refl _, fun a u e _ => ?_, fun a ha => ?_, fun a ha => .inr (.inl ha)⟩, ⟨W.fh.trans (Ex.new hp), fun a ha => ?_, List.nodup_cons.mpr ⟨nS, W.nd⟩, ?_⟩⟩
  · rw [upd_ne (ne_of_none e hp)]
    exact e
  · rcases List.mem_cons.mp ha with e | ha
    · exact .inr (by rw [e]; exact hp)
    · exact .inl ha
  · rcases List.mem_cons.mp ha with e | ha
    · rw [e]; exact nF
    · exact W.off a ha
  · have t := W.eo.mono (H' := upd H p (.lst vs)) (Ex.refl F) fun a ha => upd_ne fun z => nS (by rw [← z]; exact ha)
    obtain ⟨A, T, rfl, rs, eo⟩ := EO.pre t hl
    exact .som (S := p :: A) (.lst upd_same rs) eo
def mLstO (m : Hs) : Xm := fun en => (m en).bind fun p => if p.1.length ≤ sizeLine then .ok (.lst p.1, p.2) else .bad
theorem ce_lstO {m : Hs} (h : CH X es m) : CE X (.List es pos) (mLstO m) := PE.imp (pe_lst h) fun σ H Q q => by
  obtain ⟨F, S, en, o, en', W, hm, k⟩ := q
  obtain ⟨⟨os, e1⟩, h1, hm⟩ := R.ok_of_bind hm
  dsimp only at hm
  by_cases hl : os.length ≤ sizeLine
  · rw [if_pos hl] at hm
    cases hm
    refine ⟨F, S, en, os, _, W, h1, fun vs F1 H1 S1 st1 W1 l => ⟨by rw [l]; exact hl, fun p hp => ?_⟩⟩
    obtain ⟨st2, W2⟩ := W1.newLstO l hp
    exact k (.ref p) F1 _ _ (st1.trans st2) W2
  · rw [if_neg hl] at hm
    cases hm
/-- script[:n] -/
def mScr (i : Nat) (n : Int) : Xm := fun en => match en[i]? with
  | some (some (.scr ns)) => .ok (.lst ((cutD (ns.map PyData.int) none (some n)).map O.leaf), en)
  | _ => .bad
theorem dp_ints {F : Hp} : ∀ ns : List Int, DpAll K F (ns.map V.int) (ns.map PyData.int)
  | [] => .nil
  | n :: ns => .cons (.int n) (dp_ints ns)
theorem ce_scr {i j : Nat} {n : Int} {x : Str} {px pc p2 : Pos} (hv : PE X (.Name x px) (tVar i)) : CE X (.Subscript (.Name x px) (.Slice none (some (.Constant (.int n) j pc)) none p2) pos) (mScr i n) :=
  PE.imp (pe_slice sl_list hv po_none (po_some pe_int)) fun σ H Q q => by
  obtain ⟨F, S, en, o, en', W, hm, k⟩ := q
  unfold mScr at hm
  split at hm
  · rename_i ns z
    cases hm
    obtain ⟨v, A, S1, B, e1, e2, r, _⟩ := W.eo.at z
    cases r with
    | scr hs =>
      refine ⟨_, e1, n, rfl, _, _, rfl, ex_l W.fh hs, fun p np => ?_⟩
      exact k.lst W (cut_dp (dp_ints ns) none (some n)) np
  · cases hm
/-! ### a comprehension over a list that a name owns on -/
def mCompPk (vs : List Nat) (i : Nat) (g : Gm) (c elt : Xm) : Xm := fun en => match en[i]? with
  | some (some (.lst os)) => match leaves os with
    | some ds => (compL vs g c elt ds [] (wipeE (en.set i none) vs)).bind fun q => .ok (.lst (q.1.map O.leaf), (putBack (en.set i none) vs q.2).set i (some (.lst os)))
    | none => .bad
  | _ => .bad
theorem comp_readPk {vs ws : List Nat} {i : Nat} {g : Gm} {c elt : Xm} (hw : ∀ i ∈ ws, i ∈ vs) (σ : St) (H : Hp) (Q : VK) (q : tE K (mCompPk vs i g c elt) σ H Q) :
    tLc (fun σ H R => tVar i σ H fun x H1 => ∃ p, x = .ref p ∧ ((∃ xs, SqL K H1 p xs ∧ R (Itl K p) H1) ∨ ∃ xs, SqT K H1 p xs ∧ R (Itt K p) H1)) (tG K ws g) (tT K c) (tE K elt) vs σ H Q := by
  obtain ⟨F, S, en, o, en', W, hm, k⟩ := q
  unfold mCompPk at hm
  split at hm
  · rename_i os z
    split at hm
    · rename_i ds hl
      obtain ⟨⟨acc, e2⟩, h2, hm⟩ := R.ok_of_bind hm
      cases hm
      obtain ⟨v, A, S1, B, e1, rfl, r, t⟩ := W.eo.take z
      obtain ⟨n1, n2, n3⟩ := nd_mid W.nd
      cases r with
      | lst hp r =>
        rename_i p xs T
        obtain ⟨da, eT⟩ := ROs.flat r hl
        subst eT
        have W0 : WF K F H σ (en.set i none) (A ++ B) := ⟨W.fh, fun a ha => W.off a (mem_mid.mpr (.inr ha)), n1, t⟩
        have np : p ∉ A ++ B := n3 p (List.mem_cons_self ..)
        have pF : F p = none := W.off p (mem_mid.mpr (.inl (List.mem_cons_self ..)))
        obtain ⟨S2, sub2, W2⟩ := wf_wipe W0 vs
        have wk : Walks K F [p] H (Itl K p) ds := ⟨fun H => SqL K H p xs, by
          have w := walk_list (K := K) (a := p) (xs := xs)
          rw [DpAll.length da] at w
          exact w.mono (fun _ z => z) fun i H x H' hi _ y => yl_at da hi y, fun H' _ k => sq_of ((k p (List.mem_cons_self ..)).trans hp)⟩
        refine ⟨.ref p, e1, p, rfl, .inl ⟨xs, sq_of hp, fun D hD => ?_⟩⟩
        refine comp_core (T := [p]) hw W2 (fun x hx => ?_) wk hD h2 fun F' H' S' avs st W' eD fD sD dpa hT => ?_
        · rw [List.mem_singleton.mp hx]
          exact ⟨fun z => np (sub2.subset z), (by rw [hp]; exact Option.some_ne_none _), pF⟩
        · obtain ⟨h1, h2, h3⟩ := hT p (List.mem_singleton.mpr rfl)
          obtain ⟨S3, sub3, W3⟩ := wf_back W0 vs W' st.ff (wipe_length σ vs) wipe_len0
          have hp' : H' p = some (.lst xs) := h1.trans hp
          have ro : RO K F' H' (.lst os) (.ref p) [p] := .lst (S := []) hp' (by
            have q := ROs.mono (H' := H') (H := H) (S := []) st.ff r fun _ h => absurd h List.not_mem_nil
            exact q)
          have hi : i < σ.length := (List.getElem?_eq_some_iff.mp e1).1
          obtain ⟨A4, B4, m1, m2, eo⟩ := W3.eo.put i (.ref p) (.lst os) hi ro
          rw [set_same e1] at eo
          have nF : F D = none := by
            cases q : F D with
            | none => rfl
            | some u => rw [W.fh D u q] at hD; cases hD
          have Dp : D ≠ p := fun z => by rw [z, hp] at hD; cases hD
          have sD3 : D ∉ S3 := fun z => sD (sub3 D z)
          have np3 : p ∉ S3 := fun z => h3 (sub3 p z)
          have mem : ∀ a ∈ A4 ++ [p] ++ B4, a = p ∨ a ∈ S3 := fun a ha => by
            rcases mem_mid.mp ha with z | z
            · exact .inl (List.mem_singleton.mp z)
            · exact .inr (m1 a z)
          have mS : ∀ a, a ∈ S3 → a ∈ A ++ [p] ++ B ∨ H a = none := fun a ha => by
            rcases st.s a (sub3 a ha) with z | z
            · exact .inl (mem_mid.mpr (.inr (sub2.subset z)))
            · exact .inr z
          have nd4 : (A4 ++ [p] ++ B4).Nodup := by
            have x1 : (A4 ++ B4).Nodup := m2.nodup W3.nd
            have x2 : (p :: (A4 ++ B4)).Nodup := List.nodup_cons.mpr ⟨fun z => np3 (m1 p z), x1⟩
            refine (List.Perm.nodup_iff ?_).mp x2
            exact List.perm_iff_count.mpr fun a => by simp only [List.count_append, List.count_cons, List.count_nil]; omega
          refine k (.ref D) F' H' (D :: (A4 ++ [p] ++ B4)) ⟨st.ff, fun a o e n => st.hh a o e fun z => n (mem_mid.mpr (.inr (sub2.subset z))), fun a ha => ?_, fun a ha => ?_⟩ ⟨W3.fh, fun a ha => ?_, List.nodup_cons.mpr ⟨fun z => ?_, nd4⟩, .som (S := [D]) (.lst (S := []) eD (ROs.ofAll dpa)) eo⟩
          · rcases List.mem_cons.mp ha with e | ha
            · exact .inr (by rw [e]; exact hD)
            · rcases mem a ha with e | ha
              · exact .inl (by rw [e]; exact mem_mid.mpr (.inl (List.mem_cons_self ..)))
              · exact mS a ha
          · rcases st.f a ha with z | z
            · exact .inl (mem_mid.mpr (.inr (sub2.subset z)))
            · exact .inr z
          · rcases List.mem_cons.mp ha with e | ha
            · rw [e]; exact fD
            · rcases mem a ha with e | ha
              · rw [e]; exact h2
              · exact W3.off a ha
          · rcases mem D z with e | z
            · exact Dp e
            · exact sD3 z
    · cases hm
  · cases hm
theorem ce_compPk {elt tg : Expr} {ifs : List Expr} {scope : Scope} {own : List (Str × Nat)} {ws : List Nat} {g : Gm} {mc me : Xm} {i : Nat} {x : Str} {px : Pos} (hc : X.calm = true) (hN : X.N.Nodup) (hi : PE X (.Name x px) (tVar i)) (ok : BlkOk X.N X.env.scope scope own) (hw : ∀ i ∈ ws, i ∈ own.map (·.2))
    (hg : ∀ (s : Shared) (H : Hp) (C : Addr) (cl : List (Str × Addr)) (fp : List Addr), CG (X.blk s H scope (compEnvC scope cl C X.env) fp) ws tg g) (ht : ∀ (s : Shared) (H : Hp) (C : Addr) (cl : List (Str × Addr)) (fp : List Addr), CTs (X.blk s H scope (compEnvC scope cl C X.env) fp) ifs mc)
    (he : ∀ (s : Shared) (H : Hp) (C : Addr) (cl : List (Str × Addr)) (fp : List Addr), CE (X.blk s H scope (compEnvC scope cl C X.env) fp) elt me) (hs : ∀ v, foldedSetIterable (.Name x px) X.env v = pure v := by intro _; rfl) :
    CE X (.ListComp elt [⟨tg, .Name x px, ifs, 0⟩] scope pos) (mCompPk (own.map (·.2)) i g mc me) := PE.imp (pe_lc (g := tG X.K ws g) (tt := tT X.K mc) (te := tE X.K me) hc hN (pi_any hi) ok hg ht he hs) (comp_readPk hw)
end
end
end Ev
namespace Ev
noncomputable section
open PySem PySem.Spec L2 Evl
section
variable {X : Cx} {pin : List Nat} {a b c e : Expr} {es : List Expr} {pos : Pos} {K : PySem.W.Frag} {F H F' H' : Hp} {σ : St} {en en' : En} {S : List Addr}
/-! ### for row, own in zip(found, ..): the rows that found owns are lent to the body -/
def rowsL (r : Nat) (g : Gm) (b : Sm) : List PyData → Nat → List O → En → R (List O × En)
  | [], _, os, en => .ok (os, en)
  | y :: ys, i, os, en => match os[i]? with
    | none => .ok (os, en)
    | some o => (g y (en.set r (some o))).bind fun e1 => (b e1).bind fun out => match out with
      | .nx e2 => match e2[r]? with
        | some (some o') => rowsL r g b ys (i + 1) (os.set i o') (e2.set r none)
        | _ => .bad
      | _ => .bad
theorem rowsL_ok {r i : Nat} {g : Gm} {b : Sm} {y : PyData} {ys : List PyData} {os : List O} {en : En} {o : O} {res : List O × En} (h : rowsL r g b (y :: ys) i os en = .ok res) (ho : os[i]? = some o) :
    ∃ e1 e2 o', g y (en.set r (some o)) = .ok e1 ∧ b e1 = .ok (.nx e2) ∧ e2[r]? = some (some o') ∧ rowsL r g b ys (i + 1) (os.set i o') (e2.set r none) = .ok res := by
  unfold rowsL at h
  rw [ho] at h
  obtain ⟨e1, h1, h⟩ := R.ok_of_bind h
  obtain ⟨out, h2, h⟩ := R.ok_of_bind h
  cases out with
  | nx e2 =>
    dsimp only at h
    split at h
    · rename_i o' z
      exact ⟨e1, e2, o', h1, h2, z, h⟩
    · cases h
  | _ => cases h
def sRows (f r : Nat) (m : Xm) (g : Gm) (b : Sm) : Sm := fun en => match en[f]? with
  | some (some (.lst _)) => (m en).bind fun p => match snap p.1 with
    | some d => match seqD d, p.2[f]? with
      | some ys, some (some (.lst os)) => if r < p.2.length then (rowsL r g b ys 0 os ((p.2.set f none).set r none)).bind fun q => .ok (.nx (q.2.set f (some (.lst q.1)))) else .bad
      | _, _ => .bad
    | none => .bad
  | _ => .bad
theorem nd_swap {p : Addr} {A S1 B A4 B4 : List Addr} (h1 : (p :: (A ++ B)).Nodup) (h2 : (A4 ++ S1 ++ B4).Nodup) (h3 : ∀ x ∈ p :: (A ++ B), x ∉ A4 ++ S1 ++ B4) : (p :: (A ++ S1 ++ B) ++ (A4 ++ B4)).Nodup := by
  have x : (p :: (A ++ B) ++ (A4 ++ S1 ++ B4)).Nodup := List.nodup_append.mpr ⟨h1, h2, fun a ha b hb e => h3 a ha (by rw [e]; exact hb)⟩
  refine (List.Perm.nodup_iff ?_).mp x
  exact List.perm_iff_count.mpr fun a => by simp only [List.cons_append, List.count_append, List.count_cons]; omega
/-- one turn: the i-th row goes to a slot, the body runs, the row comes back -/
theorem WF.lend {p : Addr} {os : List O} {xs : List V} {i r : Nat} {o : O} {A0 T : List Addr} (W : WF K F H (some (.ref p) :: σ) (some (.lst os) :: en) S) (hp : H p = some (.lst xs)) (ho : os[i]? = some o) (hr : r < σ.length) :
    ∃ v S2, xs[i]? = some v ∧ (∀ a ∈ S2, a ∈ S) ∧ p ∉ S2 ∧ WF K F H (σ.set r (some v)) (en.set r (some o)) S2 ∧
      ∀ F3 H3 S3 σ3 e3 o', Step F H S2 F3 H3 S3 → WF K F3 H3 σ3 e3 S3 → σ3[r]? = some (some v) → e3[r]? = some (some o') → H3 p = some (.lst xs) ∧
        ∃ S4, Step F H S F3 H3 S4 ∧ WF K F3 H3 (some (.ref p) :: σ3) (some (.lst (os.set i o')) :: e3.set r none) S4 := by
  obtain ⟨A, T, rfl, ro, WT⟩ := W.split
  cases ro with
  | lst hp' rs =>
    rename_i xs' A2
    rw [hp] at hp'
    cases hp'
    obtain ⟨v, A3, Si, B3, ev, rfl, ri, g⟩ := rs.at ho
    have nd := W.nd
    obtain ⟨n1, nT, nx⟩ := List.nodup_append.mp nd
    obtain ⟨np, n2⟩ := List.nodup_cons.mp n1
    obtain ⟨m1, m2, m3⟩ := nd_mid n2
    -- the row beside the slots
    have W1 : WF K F H (some v :: σ) (some o :: en) (Si ++ T) := ⟨W.fh, fun a ha => W.off a (by
      rcases List.mem_append.mp ha with z | z
      · exact List.mem_append_left _ (List.mem_cons_of_mem _ (mem_mid.mpr (.inl z)))
      · exact List.mem_append_right _ z), List.nodup_append.mpr ⟨m2, nT, fun a ha b hb => nx a (List.mem_cons_of_mem _ (mem_mid.mpr (.inl ha))) b hb⟩, .som ri WT.eo⟩
    obtain ⟨S2, sub2, W2⟩ := W1.store r
    have pS2 : ∀ x ∈ p :: (A3 ++ B3), x ∉ S2 := fun x hx z => by
      rcases List.mem_append.mp (sub2 x z) with y | y
      · rcases List.mem_cons.mp hx with e | hx
        · exact np (by rw [← e]; exact mem_mid.mpr (.inl y))
        · exact m3 x y hx
      · refine nx x ?_ x y rfl
        rcases List.mem_cons.mp hx with e | hx
        · rw [e]; exact List.mem_cons_self ..
        · exact List.mem_cons_of_mem _ (mem_mid.mpr (.inr hx))
    refine ⟨v, S2, ev, fun a ha => ?_, pS2 p (List.mem_cons_self ..), W2, fun F3 H3 S3 σ3 e3 o' st W3 hv hO => ?_⟩
    · rcases List.mem_append.mp (sub2 a ha) with y | y
      · exact List.mem_append_left _ (List.mem_cons_of_mem _ (mem_mid.mpr (.inl y)))
      · exact List.mem_append_right _ y
    · have memS : ∀ x ∈ p :: (A3 ++ B3), x ∈ p :: (A3 ++ Si ++ B3) ++ T := fun x hx => by
        rcases List.mem_cons.mp hx with e | hx
        · rw [e]; exact List.mem_append_left _ (List.mem_cons_self ..)
        · exact List.mem_append_left _ (List.mem_cons_of_mem _ (mem_mid.mpr (.inr hx)))
      have hd : ∀ x ∈ p :: (A3 ++ B3), H3 x = H x ∧ F3 x = none ∧ x ∉ S3 := fun x hx => st.held (pS2 x hx) (W.eo.there x (memS x hx)) (W.off x (memS x hx))
      have hp3 : H3 p = some (.lst xs) := (hd p (List.mem_cons_self ..)).1.trans hp
      refine ⟨hp3, ?_⟩
      obtain ⟨v', A4, S1, B4, e1, rfl, r1, t⟩ := W3.eo.take hO
      rw [hv] at e1
      cases e1
      have rs' := g F3 H3 v o' S1 st.ff (fun x hx => (hd x (List.mem_cons_of_mem _ hx)).1) r1
      rw [set_same ev] at rs'
      have nd4 := nd_swap (p := p) (A := A3) (S1 := S1) (B := B3) (A4 := A4) (B4 := B4) (List.nodup_cons.mpr ⟨fun z => np (mem_mid.mpr (.inr z)), m1⟩) W3.nd fun x hx => (hd x hx).2.2
      have mem4 : ∀ x ∈ p :: (A3 ++ S1 ++ B3) ++ (A4 ++ B4), x ∈ p :: (A3 ++ B3) ∨ x ∈ A4 ++ S1 ++ B4 := fun x hx => by
        rcases List.mem_append.mp hx with hx | hx
        · rcases List.mem_cons.mp hx with e | hx
          · exact .inl (by rw [e]; exact List.mem_cons_self ..)
          · rcases mem_mid.mp hx with y | y
            · exact .inr (mem_mid.mpr (.inl y))
            · exact .inl (List.mem_cons_of_mem _ y)
        · exact .inr (mem_mid.mpr (.inr hx))
      have subS : ∀ a ∈ S2, a ∈ p :: (A3 ++ Si ++ B3) ++ T := fun a ha => by
        rcases List.mem_append.mp (sub2 a ha) with y | y
        · exact List.mem_append_left _ (List.mem_cons_of_mem _ (mem_mid.mpr (.inl y)))
        · exact List.mem_append_right _ y
      refine ⟨p :: (A3 ++ S1 ++ B3) ++ (A4 ++ B4), ⟨st.ff, fun a u e n => st.hh a u e fun z => n (subS a z), fun a ha => ?_, fun a ha => ?_⟩, ⟨W3.fh, fun a ha => ?_, nd4, .som (.lst hp3 rs') t⟩⟩
      · rcases mem4 a ha with y | y
        · exact .inl (memS a y)
        · rcases st.s a y with z | z
          · exact .inl (subS a z)
          · exact .inr z
      · rcases st.f a ha with z | z
        · exact .inl (subS a z)
        · exact .inr z
      · rcases mem4 a ha with y | y
        · exact (hd a y).2.1
        · exact W3.off a y
theorem cs_rows {f r kk : Nat} {x y : Str} {px py pp tpos : Pos} {own iter : Expr} {body : List Stmt} {m : Xm} {g : Gm} {bm : Sm} {ws : List Nat} (hp : PassesOwn (model X.prog X.w) X.A X.env X.xe) (hc : X.calm = true)
    (hz : Gl X "zip") (hzm : X.mg "zip" = none) (hf : PE X (.Name x px) (tVar f)) (hm : CE X iter m)
    (hN : X.N.Nodup) (hi : X.N[r]? = some y) (hx : Loc X.env.scope y) (hg : CG X ws own g) (hb : CSs X (r :: f :: pin) body bm) (hwr : r ∉ ws) (hfr : f ≠ r) (hrp : r ∉ pin) (hfw : f ∉ ws) (hw : ∀ i ∈ ws, i ∉ pin)
    (hs1 : starEach [.Name x px, iter] X.env = (false, eval (.Name x px) X.env) :: starEach [iter] X.env := by rfl) (hs2 : starEach [iter] X.env = (false, eval iter X.env) :: starEach [] X.env := by rfl) (hpl : (backTo pos (starEach [iter] X.env)).any (·.1) = false := by rfl)
    (hfn : X.fn y = true ∨ X.env.scope.names.lookup y = some .local := by first | exact .inl rfl | exact .inr rfl | assumption)
    (hn : (assignEach [.Name y py, own] X.env).length = 2 := by rfl) (hst : (assignEach [.Name y py, own] X.env).findIdx? (·.1) = none := by rfl)
    (hsA : (assignEach [.Name y py, own] X.env).map (·.2) = assign (.Name y py) X.env :: (assignEach [own] X.env).map (·.2) := by rfl) (hsB : (assignEach [own] X.env).map (·.2) = assign own X.env :: (assignEach [] X.env).map (·.2) := by rfl)
    (hs : ∀ v, foldedSetIterable (.Call (.Name "zip" pp) [.Name x px, iter] [] pos) X.env v = pure v := by intro _; rfl) {fpos : Pos} :
    CS X pin (.For (.Tuple [.Name y py, own] kk tpos) (.Call (.Name "zip" pp) [.Name x px, iter] [] pos) body [] fpos) (sRows f r m g bm) :=
  PS.imp (ps_for hp hc (pi_zipx hz hzm (pa_cons hf (pa_cons hm pa_nil hs2) hs1) hs1 hpl) (pg_tup hc (pgs_cons (pg_name hN hi hx hfn) (pgs_cons hg pgs_nil hsB) hsA) hn hst) hb hs) fun D σ H q => by
  obtain ⟨F, S, en, out, W, hm, k⟩ := q
  unfold sRows at hm
  split at hm
  · rename_i os0 z0
    obtain ⟨⟨oi, e1⟩, h1, hm⟩ := R.ok_of_bind hm
    dsimp only at hm
    split at hm
    · rename_i d hs'
      split at hm
      · rename_i ys os hys hos
        by_cases hrl : r < e1.length
        · rw [if_pos hrl] at hm
          obtain ⟨⟨os', e9⟩, h3, hm⟩ := R.ok_of_bind hm
          cases hm
          obtain ⟨p, xs0, T0, hpv, _, _, _⟩ := W.own1 z0
          refine ⟨.ref p, hpv, F, S, en, oi, e1, W, h1, fun v F1 H1 S1 st1 W1 => ?_⟩
          obtain ⟨F2, S2, v2, ev, st2, W2, dp⟩ := W1.freeze (i := 0) rfl hs'
          cases ev
          obtain ⟨dp, W3⟩ := W2.head
          obtain ⟨l2, p2, ys', rfl, da, sq2⟩ := dp_seq dp hys
          -- found is held beside
          obtain ⟨v, S3, ev3, sub3, W4⟩ := W3.move hos
          rw [hpv] at ev3
          cases ev3
          obtain ⟨S5, sb3', W5⟩ : ∃ S5, (∀ a ∈ S5, a ∈ S3) ∧ WF X.K F2 H1 (some (.ref p) :: σ) (some (.lst os) :: (e1.set f none).set r none) S5 := by
            obtain ⟨T, hT, t⟩ := W4.eo.drop (r + 1) (σ[r]?.getD none)
            refine ⟨T, fun a ha => hT.subset ha, W4.fh, fun a ha => W4.off a (hT.subset ha), hT.nodup W4.nd, ?_⟩
            simp only [List.set_cons_succ] at t
            have e : σ.set r (σ[r]?.getD none) = σ := by
              cases q : σ[r]? with
              | none => exact List.set_eq_of_length_le (List.getElem?_eq_none_iff.mp q)
              | some w => exact set_same q
            rw [e] at t
            exact t
          obtain ⟨xs, hx1⟩ : ∃ xs, H1 p = some (.lst xs) := by
            obtain ⟨A, T, _, ro, _⟩ := W5.split
            cases ro with
            | lst h _ => exact ⟨_, h⟩
          have hlen : os.length = xs.length := by
            obtain ⟨A, T, _, ro, _⟩ := W5.split
            cases ro with
            | lst h rs => rw [hx1] at h; cases h; exact ROs.length rs
          refine ⟨p, p2, true, l2, xs, ys', rfl, sq_of hx1, sq2 _ W3.fh, ?_⟩
          have hrσ : r < σ.length := by rw [W3.eo.length]; exact hrl
          have walk : Walk (Itzx X.K true l2 p p2) (min os.length ys.length) (fun H => H p = some (.lst xs) ∧ SqX X.K H l2 p2 ys') (fun i H x H' => ∃ (T : Addr) (v y : V) (d : PyData), x = .ref T ∧ H T = none ∧ H' = upd H T (.tup [v, y]) ∧ xs[i]? = some v ∧ ys[i]? = some d ∧ Dp X.K F2 y d) := by
            have l1 := DpAll.length da
            refine ⟨fun i H hi g => ?_, fun H g => ?_, fun i H v H' hi g y => ?_⟩
            · have a1 : i < xs.length := by omega
              have a2 : i < ys'.length := by omega
              exact ⟨xs, ys', xs[i], ys'[i], sq_of g.1, g.2, by simp [a1], by simp [a2]⟩
            · exact ⟨xs, ys', sq_of g.1, g.2, by omega, by omega, by omega⟩
            · obtain ⟨T, x, y, rfl, hT, rfl, f1, f2⟩ := y
              obtain ⟨d, hd⟩ : ∃ d, ys[i]? = some d := ⟨_, List.getElem?_eq_getElem (by omega)⟩
              obtain ⟨y2, e2, dy⟩ := DpAll.get da hd
              have e3 := f2 ys' g.2
              rw [e2] at e3
              have e4 : y2 = y := Option.some.inj e3
              subst e4
              exact ⟨T, x, _, d, rfl, hT, rfl, f1 xs (sq_of g.1), hd, dy⟩
          have st0 : Step F1 H1 S1 F2 H1 S5 := (st2.sub sub3).sub sb3'
          refine for_it walk (fun i σ' H' => ∃ F' S' e' osi, Step F2 H1 S5 F' H' S' ∧ WF X.K F' H' (some (.ref p) :: σ') (some (.lst osi) :: e') S' ∧ Pin pin σ σ' ∧ σ'[f]? = some (some (.ref p)) ∧ H' p = some (.lst xs) ∧ r < σ'.length ∧ osi.length = os.length ∧
            rowsL r g bm (ys.drop i) i osi e' = .ok (os', e9))
            ⟨F2, S5, _, os, Step.refl, W5, Pin.refl, hpv, hx1, hrσ, rfl, h3⟩ (fun i σ' H' hi ⟨F', S', e', osi, st, W', _, _, hp', _⟩ => ⟨hp', sq2 _ (st.ff.trans W'.fh)⟩) (fun i x σ' H2 H3 hi ⟨F', S', e', osi, st, W', pn, hfv, hp', hrl', hol, hL⟩ ⟨T, v, y, d, hxT, nT, hH3, hv, hd, dy⟩ => ?_) (fun σ' H' ⟨F', S', e', osi, st, W', pn, hfv, hp', hrl', hol, hL⟩ => ?_)
          · subst hxT hH3
            obtain ⟨stj, Wj⟩ := Step.junk (u := .tup [v, y]) W' nT
            have ho : ∃ o, osi[i]? = some o := ⟨_, List.getElem?_eq_getElem (by omega)⟩
            obtain ⟨o, ho⟩ := ho
            have pT : p ≠ T := fun z => by rw [z, nT] at hp'; cases hp'
            have hp3 : upd H2 T (.tup [v, y]) p = some (.lst xs) := (upd_ne pT).trans hp'
            obtain ⟨v', S2', ev', sub2', pS2, W6, back⟩ := Wj.lend (A0 := []) (T := []) hp3 ho hrl'
            rw [hv] at ev'
            cases ev'
            rw [drop_at hd] at hL
            obtain ⟨e3, e4, o', g1, b1, z1, hL⟩ := rowsL_ok hL ho
            refine ⟨T, [v, y], rfl, st_of upd_same, rfl, v, [y], rfl, y, [], rfl, F', S2', _, d, e3, W6, Dp.mono st.ff _ _ dy, g1, fun σ4 S4 sub4 W7 ju => ⟨rfl, ?_⟩⟩
            refine ⟨F', S4, e3, .nx e4, W7, b1, fun σ5 F5 H5 S5' st5 W8 pn5 => ?_⟩
            have hr5 : σ5[r]? = some (some v) := by
              rw [pn5 r (List.mem_cons_self ..), ju.2 r hwr, List.getElem?_set_self hrl']
            obtain ⟨hp5, S6, st6, W9⟩ := back F5 H5 S5' σ5 e4 o' ((Step.refl.sub sub4).trans st5) W8 hr5 z1
            refine ⟨F5, S6, _, _, (st.trans stj).trans st6, W9, ?_, ?_, hp5, (List.getElem?_eq_some_iff.mp hr5).1, by rw [List.length_set]; exact hol, hL⟩
            · have p1 : Pin pin σ' (σ'.set r (some v)) := Pin.set hrp
              have p2 : Pin pin (σ'.set r (some v)) σ4 := just_pin ju hw
              have p3 : Pin pin σ4 σ5 := pn5.sub fun i hi => List.mem_cons_of_mem _ (List.mem_cons_of_mem _ hi)
              exact pn.trans (p1.trans (p2.trans p3))
            · rw [pn5 f (List.mem_cons_of_mem _ (List.mem_cons_self ..)), ju.2 f hfw, List.getElem?_set_ne (Ne.symm hfr)]
              exact hfv
          · have hend : os' = osi ∧ e9 = e' := by
              by_cases hy : ys.length ≤ min os.length ys.length
              · rw [List.drop_eq_nil_of_le hy] at hL
                cases hL
                exact ⟨rfl, rfl⟩
              · obtain ⟨d, hd⟩ : ∃ d, ys[min os.length ys.length]? = some d := ⟨_, List.getElem?_eq_getElem (by omega)⟩
                rw [drop_at hd] at hL
                unfold rowsL at hL
                rw [List.getElem?_eq_none (by omega)] at hL
                cases hL
                exact ⟨rfl, rfl⟩
            obtain ⟨rfl, rfl⟩ := hend
            obtain ⟨S6, sub6, W6⟩ := W'.store f
            rw [set_same hfv] at W6
            exact k σ' F' H' S6 ((st1.trans st0).trans (st.sub sub6)) W6 pn
        · rw [if_neg hrl] at hm
          cases hm
      · cases hm
    · cases hm
  · cases hm
end
end
end Ev
namespace Ev
noncomputable section
open PySem PySem.Spec L2 Evl
section
variable {X : Cx} {pin : List Nat} {a b c e : Expr} {es : List Expr} {pos : Pos} {K : PySem.W.Frag} {F H F' H' : Hp} {σ : St} {en en' : En} {S : List Addr}
/-! ### comprehensions of two fors -/
def comp2L (vs : List Nat) (g : Gm) (c : Xm) (it1 : Im) (vs1 : List Nat) (g1 : Gm) (c1 elt : Xm) : List PyData → List PyData → En → R (List PyData × En)
  | [], acc, en => .ok (acc, en)
  | d :: ds, acc, en => (g d en).bind fun e1 => (c e1).bind fun p => match p.1 with
    | .leaf (.bool true) => (it1 p.2).bind fun q => (compL vs1 g1 c1 elt q.1 acc (wipeE q.2 vs1)).bind fun r => comp2L vs g c it1 vs1 g1 c1 elt ds r.1 (wipeE r.2 vs)
    | .leaf (.bool false) => comp2L vs g c it1 vs1 g1 c1 elt ds acc (wipeE p.2 vs)
    | _ => .bad
theorem comp2L_ok {vs vs1 : List Nat} {g g1 : Gm} {c c1 elt : Xm} {it1 : Im} {d : PyData} {ds acc : List PyData} {en : En} {r : List PyData × En} (h : comp2L vs g c it1 vs1 g1 c1 elt (d :: ds) acc en = .ok r) : ∃ e1 k e2, g d en = .ok e1 ∧ c e1 = .ok (.leaf (.bool k), e2) ∧
    (if k = true then ∃ ds1 e3 acc1 e4, it1 e2 = .ok (ds1, e3) ∧ compL vs1 g1 c1 elt ds1 acc (wipeE e3 vs1) = .ok (acc1, e4) ∧ comp2L vs g c it1 vs1 g1 c1 elt ds acc1 (wipeE e4 vs) = .ok r else comp2L vs g c it1 vs1 g1 c1 elt ds acc (wipeE e2 vs) = .ok r) := by
  obtain ⟨e1, h1, h2⟩ := R.ok_of_bind h
  obtain ⟨⟨o1, e2⟩, h3, h4⟩ := R.ok_of_bind h2
  rcases bool_or o1 with ⟨k, rfl⟩ | no
  · refine ⟨e1, k, e2, h1, h3, ?_⟩
    cases k with
    | true =>
      obtain ⟨⟨ds1, e3⟩, h5, h6⟩ := R.ok_of_bind h4
      obtain ⟨⟨acc1, e4⟩, h7, h8⟩ := R.ok_of_bind h6
      exact ⟨ds1, e3, acc1, e4, h5, h7, h8⟩
    | false => exact h4
  · dsimp only at h4
    split at h4
    · exact absurd rfl (no _)
    · exact absurd rfl (no _)
    · cases h4
theorem wipe_wipe {vs vs1 : List Nat} (hv : ∀ i ∈ vs1, i ∈ vs) : wipe (wipe σ vs1) vs = wipe σ vs := by
  refine List.ext_getElem? fun i => ?_
  by_cases hi : i ∈ vs
  · rw [wipe_in hi, wipe_in hi, wipe_length]
  · rw [wipe_out hi, wipe_out hi, wipe_out fun z => hi (hv i z)]
/-- the inner for -/
theorem comp_in {vs ws : List Nat} {g : Gm} {c elt : Xm} {J : It} {ds acc0 acc' : List PyData} {e0 e' : En} {S0 S1 : List Addr} {D : Addr} {F0 H0 F1 H1 : Hp} {avs0 : List V} {Nx : Hp → Prop} (hw : ∀ i ∈ ws, i ∈ vs) (nD : H0 D = none) (st0 : Step F0 H0 S0 F1 H1 S1)
    (W : WF K F1 H1 (wipe σ vs) e0 S1) (wk : Walks K F1 [] H1 J ds) (eD0 : H1 D = some (.lst avs0)) (fD0 : F1 D = none) (sD0 : D ∉ S1) (da0 : DpAll K F1 avs0 acc0) (hm : compL vs g c elt ds acc0 e0 = .ok (acc', e'))
    (hq : ∀ F' H' S' avs, Step F0 H0 S0 F' H' S' → Ex F1 F' → WF K F' H' (wipe σ vs) e' S' → H' D = some (.lst avs) → F' D = none → D ∉ S' → DpAll K F' avs acc' → Nx H') :
    ∃ W : Nat → Nat → Hp → Prop, (∃ m, W 0 m H1) ∧ ∀ i m H, W i m H →
      (J.stop i H ∧ Nx H) ∨ (J.go i H ∧ ∃ N1 : Hp → Prop, (∀ H', N1 H' → ∃ m', m' < m ∧ W (i + 1) m' H') ∧ ∀ x H', J.yld i H x H' → tG K ws g x (wipe σ vs) H' fun σ2 H2 => wipe σ2 vs = wipe σ vs ∧ tT K c σ2 H2 fun b H3 =>
        if b = true then tE K elt σ2 H3 fun y H4 => ∃ acc, H4 D = some (.lst acc) ∧ acc.length < sizeLine ∧ N1 (upd H4 D (.lst (acc ++ [y]))) else N1 H3) := by
  obtain ⟨G, wk, hG⟩ := wk.ex
  let Pv : Nat → Hp → Prop := fun i H => ∃ F' S' e2 acc avs, Step F0 H0 S0 F' H S' ∧ Ex F1 F' ∧ WF K F' H (wipe σ vs) e2 S' ∧ H D = some (.lst avs) ∧ F' D = none ∧ D ∉ S' ∧ DpAll K F' avs acc ∧ compL vs g c elt (ds.drop i) acc e2 = .ok (acc', e')
  refine ⟨fun i m H => m = ds.length - i ∧ i ≤ ds.length ∧ Pv i H, ⟨ds.length, rfl, Nat.zero_le _, F1, S1, e0, acc0, avs0, st0, Ex.refl _, W, eD0, fD0, sD0, da0, hm⟩, ?_⟩
  rintro i m H ⟨rfl, hi, F', S', e2, acc, avs, st, exx, W', eD, fD, sD, dpa, hf⟩
  have gH : G H := hG H (exx.trans W'.fh) fun _ z => absurd z List.not_mem_nil
  by_cases hlt : i < ds.length
  · refine .inr ⟨wk.goes i H hlt gH, Pv (i + 1), fun H' p' => ⟨ds.length - (i + 1), by omega, rfl, hlt, p'⟩, fun x H3 y => ?_⟩
    obtain ⟨d, hd, y⟩ := wk.yields i H x H3 hlt gH y
    obtain ⟨F2, st2, W2, dp, keep⟩ := y.wf W' exx
    have kD := keep D (by rw [eD]; exact Option.some_ne_none _)
    rw [drop_at hd] at hf
    obtain ⟨e3, k, e4, g1, c1, hf⟩ := compL_ok hf
    refine ⟨F2, S', e2, d, e3, W2, dp, g1, fun σ2 S2 sub W3 ju => ⟨wipe_just ju hw, ?_⟩⟩
    have ewp : wipe σ2 vs = wipe σ vs := wipe_just ju hw
    refine ⟨F2, S2, e3, k, e4, W3, c1, fun F4 H4 S4 st4 W4 => ?_⟩
    have st34 := ((st.trans st2).sub sub).trans st4
    have D2 : H3 D = some (.lst avs) := kD.1.trans eD
    have d4 := st4.held (x := D) (fun z => sD (sub D z)) (by rw [D2]; exact Option.some_ne_none _) (kD.2 fD)
    cases k with
    | true =>
      obtain ⟨o, e5, y, l1, l2, l3, hf⟩ := hf
      refine ⟨F4, S4, e4, o, e5, W4, l1, fun v F5 H5 S5 st5 W5 => ?_⟩
      obtain ⟨F6, S6, v6, ev, st6, W6, dp6⟩ := W5.freeze (i := 0) rfl l2
      cases ev
      obtain ⟨dp6, W7⟩ := W6.head
      have d6 := (st5.trans st6).held (x := D) d4.2.2 (by rw [d4.1, D2]; exact Option.some_ne_none _) d4.2.1
      have eD6 : H5 D = some (.lst avs) := d6.1.trans (d4.1.trans D2)
      obtain ⟨T7, sub7, W8⟩ := wf_wipe W7 vs
      rw [ewp] at W8
      have st8 := (st34.trans (st5.trans st6)).sub fun a ha => sub7.subset ha
      have nD8 : D ∉ T7 := fun z => d6.2.2 (sub7.subset z)
      have ex26 : Ex F' F6 := st2.ff.trans (st4.ff.trans (st5.trans st6).ff)
      have dpa' : DpAll K F6 avs acc := DpAll.mono ex26 _ _ dpa
      have eUp : ∀ a, a ≠ D → upd H5 D (.lst (avs ++ [v])) a = H5 a := fun a h => upd_ne h
      refine ⟨avs, eD6, by rw [DpAll.length dpa]; exact l3, F6, T7, wipeE e5 vs, acc ++ [y], avs ++ [v], ⟨st8.ff, fun a o z n => ?_, st8.s, st8.f⟩, exx.trans ex26, ⟨fun a o z => ?_, W8.off, W8.nd, W8.eo.mono (Ex.refl _) fun a ha => eUp a fun z => nD8 (by rw [← z]; exact ha)⟩, upd_same, d6.2.1, nD8, DpAll.append dpa' (.cons dp6 .nil), hf⟩
      · rw [eUp a (ne_of_none z nD)]
        exact st8.hh a o z n
      · rw [eUp a (fun q => by rw [q, d6.2.1] at z; cases z)]
        exact W8.fh a o z
    | false =>
      obtain ⟨T7, sub7, W8⟩ := wf_wipe W4 vs
      rw [ewp] at W8
      exact ⟨F4, T7, wipeE e4 vs, acc, avs, st34.sub fun a ha => sub7.subset ha, exx.trans (st2.ff.trans st4.ff), W8, d4.1.trans D2, d4.2.1, fun z => d4.2.2 (sub7.subset z), DpAll.mono (st2.ff.trans st4.ff) _ _ dpa, hf⟩
  · have ei : i = ds.length := by omega
    subst ei
    rw [List.drop_eq_nil_of_le (Nat.le_refl _)] at hf
    cases hf
    exact .inl ⟨wk.stops H gH, hq F' H S' avs st exx W' eD fD sD dpa⟩
def mComp2 (vs : List Nat) (it : Im) (g : Gm) (c : Xm) (it1 : Im) (vs1 : List Nat) (g1 : Gm) (c1 elt : Xm) : Xm := fun en => (it en).bind fun p => (comp2L vs g c it1 vs1 g1 c1 elt p.1 [] (wipeE p.2 vs)).bind fun q => .ok (.lst (q.1.map O.leaf), putBack p.2 vs q.2)
theorem comp2_read {vs vs1 ws ws1 : List Nat} {it it1 : Im} {g g1 : Gm} {c c1 elt : Xm} (hw : ∀ i ∈ ws, i ∈ vs) (hw1 : ∀ i ∈ ws1, i ∈ vs1) (hv : ∀ i ∈ vs1, i ∈ vs) (σ : St) (H : Hp) (Q : VK) (q : tE K (mComp2 vs it g c it1 vs1 g1 c1 elt) σ H Q) :
    tLc2 (tI K it) (tG K ws g) (tT K c) (tI K it1) (tG K ws1 g1) (tT K c1) (tE K elt) vs vs1 σ H Q := by
  obtain ⟨F, S, en, o, en', W, hm, k⟩ := q
  obtain ⟨⟨ds, e1⟩, h1, hm⟩ := R.ok_of_bind hm
  obtain ⟨⟨acc', e9⟩, h2, hm⟩ := R.ok_of_bind hm
  cases hm
  refine ⟨F, S, en, ds, e1, W, h1, fun J F1 H1 S1 st1 W1 wk D hD => ?_⟩
  obtain ⟨S2, sub2, W2⟩ := wf_wipe W1 vs
  obtain ⟨G, wk, hG⟩ := wk.ex
  have nF : F1 D = none := by
    cases q : F1 D with
    | none => rfl
    | some u => rw [W1.fh D u q] at hD; cases hD
  have nS : D ∉ S2 := fun z => W2.eo.there D z hD
  let Pv : Nat → Hp → Prop := fun i H => ∃ F' S' e2 acc avs, Step F1 H1 S2 F' H S' ∧ WF K F' H (wipe σ vs) e2 S' ∧ H D = some (.lst avs) ∧ F' D = none ∧ D ∉ S' ∧ DpAll K F' avs acc ∧ comp2L vs g c it1 vs1 g1 c1 elt (ds.drop i) acc e2 = .ok (acc', e9)
  refine ⟨fun i m H => m = ds.length - i ∧ i ≤ ds.length ∧ Pv i H, ⟨ds.length, rfl, Nat.zero_le _, ?_⟩, ?_⟩
  · refine ⟨F1, S2, _, [], [], ⟨Ex.refl _, fun a o z _ => ?_, fun a z => .inl z, fun a z => .inr (.inl z)⟩, ⟨W2.fh.trans (Ex.new hD), W2.off, W2.nd, W2.eo.mono (Ex.refl _) fun a ha => upd_ne fun z => nS (by rw [← z]; exact ha)⟩, upd_same, nF, nS, .nil, h2⟩
    rw [upd_ne (ne_of_none z hD)]
    exact z
  · rintro i m H ⟨rfl, hi, F', S', e2, acc, avs, st, W', eD, fD, sD, dpa, hf⟩
    have gH : G H := hG H (st.ff.trans W'.fh) fun _ z => absurd z List.not_mem_nil
    by_cases hlt : i < ds.length
    · refine .inr ⟨wk.goes i H hlt gH, Pv (i + 1), fun H' p' => ⟨ds.length - (i + 1), by omega, rfl, hlt, p'⟩, fun x H3 y => ?_⟩
      obtain ⟨d, hd, y⟩ := wk.yields i H x H3 hlt gH y
      obtain ⟨F2, st2, W2', dp, keep⟩ := y.wf W' st.ff
      have kD := keep D (by rw [eD]; exact Option.some_ne_none _)
      rw [drop_at hd] at hf
      obtain ⟨e3, b, e4, g1', c1', hf⟩ := comp2L_ok hf
      refine ⟨F2, S', e2, d, e3, W2', dp, g1', fun σ2 S2' sub W3 ju => ⟨wipe_just ju hw, ?_⟩⟩
      have ewp : wipe σ2 vs = wipe σ vs := wipe_just ju hw
      refine ⟨F2, S2', e3, b, e4, W3, c1', fun F4 H4 S4 st4 W4 => ?_⟩
      have st34 := ((st.trans st2).sub sub).trans st4
      have D2 : H3 D = some (.lst avs) := kD.1.trans eD
      have d4 := st4.held (x := D) (fun z => sD (sub D z)) (by rw [D2]; exact Option.some_ne_none _) (kD.2 fD)
      cases b with
      | true =>
        obtain ⟨ds1, e5, acc1, e6, i1, i2, hf⟩ := hf
        refine ⟨F4, S4, e4, ds1, e5, W4, i1, fun J1 F5 H5 S5 st5 W5 wk1 => ?_⟩
        have d5 := st5.held (x := D) d4.2.2 (by rw [d4.1, D2]; exact Option.some_ne_none _) d4.2.1
        obtain ⟨S6, sub6, W6⟩ := wf_wipe W5 vs1
        have st56 := (st34.trans st5).sub (S2 := S6) fun a ha => sub6.subset ha
        refine comp_in hw1 hD st56 W6 wk1 (d5.1.trans (d4.1.trans D2)) d5.2.1 (fun z => d5.2.2 (sub6.subset z)) (DpAll.mono (st2.ff.trans (st4.ff.trans st5.ff)) _ _ dpa) i2 fun F7 H7 S7 avs7 st7 ex7 W7 eD7 fD7 sD7 da7 => ?_
        obtain ⟨S8, sub8, W8⟩ := wf_wipe W7 vs
        rw [wipe_wipe hv, ewp] at W8
        exact ⟨F7, S8, _, acc1, avs7, st7.sub fun a ha => sub8.subset ha, W8, eD7, fD7, fun z => sD7 (sub8.subset z), da7, hf⟩
      | false =>
        obtain ⟨T7, sub7, W8⟩ := wf_wipe W4 vs
        rw [ewp] at W8
        exact ⟨F4, T7, wipeE e4 vs, acc, avs, st34.sub fun a ha => sub7.subset ha, W8, d4.1.trans D2, d4.2.1, fun z => d4.2.2 (sub7.subset z), DpAll.mono (st2.ff.trans st4.ff) _ _ dpa, hf⟩
    · have ei : i = ds.length := by omega
      subst ei
      rw [List.drop_eq_nil_of_le (Nat.le_refl _)] at hf
      cases hf
      refine .inl ⟨wk.stops H gH, ?_⟩
      obtain ⟨S3, sub3, W3⟩ := wf_back W1 vs W' st.ff (wipe_length σ vs) wipe_len0
      have sD3 : D ∉ S3 := fun z => sD (sub3 D z)
      refine k (.ref D) F' H (D :: S3) (st1.trans ⟨st.ff, fun a o e n => st.hh a o e fun z => n (sub2.subset z), fun a ha => ?_, fun a ha => ?_⟩) ⟨W3.fh, fun a ha => ?_, List.nodup_cons.mpr ⟨sD3, W3.nd⟩, .som (S := [D]) (.lst (S := []) eD (ROs.ofAll dpa)) W3.eo⟩
      · rcases List.mem_cons.mp ha with e | ha
        · exact .inr (by rw [e]; exact hD)
        · rcases st.s a (sub3 a ha) with z | z
          · exact .inl (sub2.subset z)
          · exact .inr z
      · rcases st.f a ha with z | z
        · exact .inl (sub2.subset z)
        · exact .inr z
      · rcases List.mem_cons.mp ha with e | ha
        · rw [e]; exact fD
        · exact W3.off a ha
theorem ce_comp2 {elt tg iter tg1 iter1 : Expr} {ifs ifs1 : List Expr} {scope : Scope} {own : List (Str × Nat)} {ws ws1 vs1 : List Nat} {it it1 : Im} {g g1 : Gm} {mc mc1 me : Xm} (hc : X.calm = true) (hN : X.N.Nodup) (hi : CI X tg iter it) (ok : BlkOk X.N X.env.scope scope own) (hw : ∀ i ∈ ws, i ∈ own.map (·.2)) (hw1 : ∀ i ∈ ws1, i ∈ vs1) (hv : ∀ i ∈ vs1, i ∈ own.map (·.2))
    (hg : ∀ (s : Shared) (H : Hp) (C : Addr) (cl : List (Str × Addr)) (fp : List Addr), CG (X.blk s H scope (compEnvC scope cl C X.env) fp) ws tg g) (ht : ∀ (s : Shared) (H : Hp) (C : Addr) (cl : List (Str × Addr)) (fp : List Addr), CTs (X.blk s H scope (compEnvC scope cl C X.env) fp) ifs mc)
    (hi1 : ∀ (s : Shared) (H : Hp) (C : Addr) (cl : List (Str × Addr)) (fp : List Addr), CI (X.blk s H scope (compEnvC scope cl C X.env) fp) tg1 iter1 it1)
    (hg1 : ∀ (s : Shared) (H : Hp) (C : Addr) (cl : List (Str × Addr)) (fp : List Addr), CG (X.blk s H scope (compEnvC scope cl C X.env) fp) ws1 tg1 g1) (ht1 : ∀ (s : Shared) (H : Hp) (C : Addr) (cl : List (Str × Addr)) (fp : List Addr), CTs (X.blk s H scope (compEnvC scope cl C X.env) fp) ifs1 mc1)
    (he : ∀ (s : Shared) (H : Hp) (C : Addr) (cl : List (Str × Addr)) (fp : List Addr), CE (X.blk s H scope (compEnvC scope cl C X.env) fp) elt me) (hs : ∀ x, foldedSetIterable iter X.env x = pure x := by intro _; rfl) (hs1 : ∀ env x, foldedSetIterable iter1 env x = pure x := by intro _ _; rfl) :
    CE X (.ListComp elt [⟨tg, iter, ifs, 0⟩, ⟨tg1, iter1, ifs1, 0⟩] scope pos) (mComp2 (own.map (·.2)) it g mc it1 vs1 g1 mc1 me) :=
  PE.imp (pe_lc2 (wi1 := tI X.K it1) (g := tG X.K ws g) (tt := tT X.K mc) (g1 := tG X.K ws1 g1) (tt1 := tT X.K mc1) (te := tE X.K me) hc hN hi ok hv hg ht hi1 hg1 ht1 he hs hs1) (comp2_read hw hw1 hv)
end
end
end Ev
namespace Ev
noncomputable section
open PySem PySem.Spec PyProof.Rows L2 Evl
section
variable {P : Program} {w : World} {K : PySem.W.Frag} {mg mb : Str → Option Value} {k : Nat} {fa a : Addr} {fd : FuncData} {x : Str} {sp : Sp} {s₁ : Shared} {vs : List Value} {ns : List Int}
/-- a law's call from an abstract heap in which the script alone may be told -/
theorem lawG_from (KX : K.In s₁.heap) (gns : s₁.heap.Ns mainGlobals mg) (bns : s₁.heap.Ns builtinsNs mb) (bb : ∀ x : Str, x ≠ "__name__" → mb x = bootBuiltins x) (lim : s₁.heap.NoLimit) (gen : s₁.gens = #[])
    (at_a : s₁.heap.get? a = some { cls := .type "list", data := .seq vs.toArray }) (room : Room k callerA)
    (F : ∀ base : Heap, K.In base → base.Ns mainGlobals mg → FnG P w K mg base k fa fd [x] sp) (bnd : ∀ (s : Shared) (u : Value), BindsTo s fd ⟨[u], []⟩ [(x, u)])
    (hsp : ∀ H : Hp, Only H → SqL K H a (ns.map V.int) → sp [.ref a] H (fun v _ => v = .bl true) fun _ _ _ => False)
    (H : Hp) (hO : Only H) (hS : SqL K H a (ns.map V.int)) (hok : HOk P w H s₁.heap) (hA : ∀ b, H b ≠ none → b = a) (hK : H a ≠ none → K.lookup a = none) :
    codeAny (model P w) callerA (.call (.ref fa) ⟨[.ref a], []⟩) (fun r s' => r = .ok (.ret (.bool true)) ∧ OldK s₁.heap s'.heap ∧ s'.os = s₁.os ∧ AllBare s'.gens) s₁ := by
  -- what stands elsewhere stands in the hidden heap
  have apart : ∀ {b : Addr} {o : Obj}, s₁.heap.get? b = some o → (b = a → H b = none) → (hidT s₁.heap H).get? b = some o := fun {b o} e n => hidT_get e (by
    by_cases z : b = a
    · exact n z
    · cases q : H b with
      | none => rfl
      | some u => exact absurd (hA b (by rw [q]; exact Option.some_ne_none _)) z)
  have spaces : ∀ {b : Addr} {m : Str → Option Value}, s₁.heap.Ns b m → (hidT s₁.heap H).Ns b m := by
    rintro b m ⟨o, es, ep, e, d, r⟩
    refine ⟨o, es, ep, apart e fun z => ?_, d, r⟩
    subst z
    rw [at_a] at e
    cases e
    have d' : Data.seq vs.toArray _ = Data.dict es ep := d
    cases d'
  have kin : K.In (hidT s₁.heap H) := fun b o e => apart (KX b o e) fun z => by
    subst z
    cases q : H b with
    | none => rfl
    | some u =>
      have n := hK (by rw [q]; exact Option.some_ne_none _)
      rw [n] at e
      cases e
  obtain ⟨mc, l1, l2⟩ := lim
  have e0 : Env0 P w K mg (hidT s₁.heap H) callerA [] s₁ H :=
    ⟨rfl, ⟨kin, spaces gns, ⟨mb, spaces bns, bb⟩, ⟨mc, spaces l1, l2⟩⟩, fun b o e => of_hidT e, Nat.le_of_eq (hidT_size _ _), trivial, fun b hb => absurd hb (by exact List.not_mem_nil), hok, .of_eq gen⟩
  have main := (F _ kin (spaces gns)).run callerA [] s₁ H ⟨[.ref a], []⟩ [.ref a] [.ref a] (fun v _ => v = .bl true) (fun _ _ _ => False) room rfl e0 (bnd s₁ (.ref a)) (.cons rfl .nil) (hsp H hO hS)
  refine codeAny_mono main fun r s' h => ?_
  rcases r with e | fl
  · exact False.elim h
  · rcases fl with _ | _ | _ | u
    all_goals first | exact False.elim h | skip
    obtain ⟨v, H', os, bare, un, hok', r', q⟩ := h
    have q' : v = .bl true := q
    subst q'
    have r2 : u = Value.bool true := r'
    subst r2
    refine ⟨rfl, OldK.of_keep fun b o e => ?_, os, bare⟩
    rcases hO b with z | ⟨ob, xs, z⟩
    · exact un.keep b o e z (fun y => absurd y (by exact List.not_mem_nil)) (by simp)
    · obtain ⟨e1, _⟩ := hok b _ z
      obtain ⟨e2, _⟩ := hok' b _ (un.frzs b ob _ z)
      rw [e] at e1
      cases e1
      exact e2
theorem lawG_call (KX : K.In s₁.heap) (gns : s₁.heap.Ns mainGlobals mg) (bns : s₁.heap.Ns builtinsNs mb) (bb : ∀ x : Str, x ≠ "__name__" → mb x = bootBuiltins x) (lim : s₁.heap.NoLimit) (gen : s₁.gens = #[])
    (at_a : s₁.heap.get? a = some { cls := .type "list", data := .seq vs.toArray }) (hints : IntsAre vs ns) (fits : ns.length ≤ sizeLine) (room : Room k callerA)
    (F : ∀ base : Heap, K.In base → base.Ns mainGlobals mg → FnG P w K mg base k fa fd [x] sp) (bnd : ∀ (s : Shared) (u : Value), BindsTo s fd ⟨[u], []⟩ [(x, u)])
    (hsp : ∀ H : Hp, Only H → SqL K H a (ns.map V.int) → sp [.ref a] H (fun v _ => v = .bl true) fun _ _ _ => False) :
    codeAny (model P w) callerA (.call (.ref fa) ⟨[.ref a], []⟩) (fun r s' => r = .ok (.ret (.bool true)) ∧ OldK s₁.heap s'.heap ∧ s'.os = s₁.os ∧ AllBare s'.gens) s₁ := by
  have rv := vals_ints hints
  have from' := lawG_from (k := k) (fa := fa) (x := x) KX gns bns bb lim gen at_a room F bnd hsp
  cases hk : K.lookup a with
  | some o =>
    have e := KX a o hk
    rw [at_a] at e
    cases e
    refine from' (fun _ => none) (fun _ => .inl rfl) (.inr ⟨_, vs.toArray, _, hk, rfl, rfl, rfl, ?_, by simpa using rv⟩) (fun b u z => nomatch (show (none : Option HO) = some u from z)) (fun b z => absurd rfl z) (fun z => absurd rfl z)
    rw [List.size_toArray, hints.length]
    exact fits
  | none =>
    have here : ∀ {b : Addr}, b = a → (if b = a then some (HO.frz { cls := .type "list", data := .seq vs.toArray } (.lst (ns.map V.int))) else none) = some (HO.frz { cls := .type "list", data := .seq vs.toArray } (.lst (ns.map V.int))) := fun h => if_pos h
    have away : ∀ {b : Addr}, b ≠ a → (if b = a then some (HO.frz { cls := .type "list", data := .seq vs.toArray } (.lst (ns.map V.int))) else none) = none := fun h => if_neg h
    refine from' (fun b => if b = a then some (.frz { cls := .type "list", data := .seq vs.toArray } (.lst (ns.map V.int))) else none) (fun b => ?_) (.inl (.inr ⟨_, here rfl⟩)) (fun b u z => ?_) (fun b z => ?_) (fun _ => hk)
    · by_cases hb : b = a
      · exact .inr ⟨_, _, here hb⟩
      · exact .inl (away hb)
    · by_cases hb : b = a
      · have z2 := (here hb).symm.trans z
        cases z2
        rw [hb]
        refine ⟨at_a, ?_, vs, _, rv, at_a⟩
        rw [List.length_map]
        exact fits
      · have z2 := (away hb).symm.trans z
        cases z2
    · by_cases hb : b = a
      · exact hb
      · exact absurd (away hb) z
end
/-- the goal that k_head leaves, from a promise of the law -/
theorem walkG_of {l : PySem.W.OpenLaw} {n k : Nat} {q : Program} {loose : List Str} {XP : (Str → Option Value) → Heap → Prop} {YP : World → Heap → Prop} {d : DefRec} {K : Params → PySem.W.Frag} {f : Fn} {x : Str}
    (hn : l.most = some n) (hn2 : n ≤ sizeLine) (hdf : d.params.defaults = []) (room : Room k callerA)
    (hY : ∀ (w : World) (h : Heap), YP w h → (K w.params).In h)
    (F : ∀ (w : World) (mg : Str → Option Value) (fa : Addr) (h : Heap), (K w.params).In h → h.Ns mainGlobals mg → mg d.name = some (.ref fa) →
      ∃ fd : FuncData, (∀ (s : Shared) (u : Value), BindsTo s fd ⟨[u], []⟩ [(x, u)]) ∧
        ∀ base : Heap, (K w.params).In base → base.Ns mainGlobals mg → FnG l.prog w (K w.params) mg base k fa fd [x] (spM (K w.params) f))
    (hf : ∀ ns : List Int, ns.length ≤ n → ∃ os, f [.scr ns] = .ok (.leaf (.bool true), os)) :
    PySem.W.WalkO q loose XP YP l.row.toRowW d [] (fun f vs => PySem.call f vs) := by
  refine Att.attach_call hn hdf fun w s₀ s₁ mg mb fa o pm cd doc a vs ns G Y ho hd hcd hmg hobj hints hlen hg => ?_
  have KX := hY w _ Y
  obtain ⟨fd, hb, hF⟩ := F w mg fa _ KX G.T.g hmg
  refine lawG_call KX G.T.g G.T.b G.T.builtins G.T.nolimit hg hobj hints (Nat.le_trans hlen hn2) room hF hb fun H hO hS => ?_
  obtain ⟨os, hr⟩ := hf ns hlen
  -- a frozen heap that tells the script alone
  refine ⟨H, [], [.scr ns], _, os, ⟨Ex.refl _, fun _ h => absurd h List.not_mem_nil, List.nodup_nil, .som (S := []) (T := []) (.scr hS) .nil⟩, hr, fun v F' H' S' st W' => ?_⟩
  obtain ⟨dp, _⟩ := W'.head
  cases dp
  rfl
end
end Ev
namespace Ev
noncomputable section
open PySem PySem.Spec L2 Evl
/-! ### while, as many turns as it takes -/
theorem whileN_more {c : Xm} {b : Sm} : ∀ {n m : Nat} {en : En} {out : Out}, whileN c b n en = .ok out → n ≤ m → whileN c b m en = .ok out
  | 0, _, _, _, h, _ => by cases h
  | n + 1, 0, _, _, _, h => by omega
  | n + 1, m + 1, en, out, h, hl => by
    obtain ⟨k, e1, h1, h2⟩ := whileN_ok h
    unfold whileN
    rw [h1]
    cases k with
    | false =>
      have e : out = .nx e1 := h2
      subst e
      rfl
    | true =>
      obtain ⟨o, b1, h3⟩ := h2
      show (b e1).bind _ = _
      rw [b1]
      cases o with
      | nx e2 => exact whileN_more (n := n) h3 (by omega)
      | ct e2 => exact whileN_more (n := n) h3 (by omega)
      | bk e2 => have e : out = .nx e2 := h3; subst e; rfl
      | rt r e2 => have e : out = .rt r e2 := h3; subst e; rfl
open Classical in
noncomputable def sWh (c : Xm) (b : Sm) : Sm := fun en => if h : ∃ n out, whileN c b n en = .ok out then whileN c b h.choose en else .bad
theorem sWh_of {c : Xm} {b : Sm} {n : Nat} {en : En} {out : Out} (h : whileN c b n en = .ok out) : sWh c b en = .ok out := by
  have hx : ∃ n out, whileN c b n en = .ok out := ⟨n, out, h⟩
  unfold sWh
  rw [dif_pos hx]
  obtain ⟨out', h'⟩ := hx.choose_spec
  rw [h']
  have a := whileN_more h (Nat.le_max_left n hx.choose)
  have b := whileN_more h' (Nat.le_max_right n hx.choose)
  rw [a] at b
  cases b
  rfl
section
variable {X : Cx} {pin : List Nat} {a b c e : Expr} {es : List Expr} {pos : Pos} {K : PySem.W.Frag}
theorem cs_wh {c : Expr} {body : List Stmt} {mc : Xm} {bm : Sm} (hp : PassesOwn (model X.prog X.w) X.A X.env X.xe) (hc : CT X c mc) (hb : CSs X pin body bm) : CS X pin (.While c body [] pos) (sWh mc bm) := by
  have key : ∀ n, CS X pin (.While c body [] pos) (sWhile n mc bm) := fun n => cs_while hp hc hb
  refine ⟨fun pins s σ H D I q => ?_⟩
  obtain ⟨F, S, en, out, W, hm, k⟩ := q
  unfold sWh at hm
  by_cases hx : ∃ n out, whileN mc bm n en = .ok out
  · rw [dif_pos hx] at hm
    exact (key hx.choose).run pins s σ H D I ⟨F, S, en, out, W, hm, k⟩
  · rw [dif_neg hx] at hm
    cases hm
theorem lt64 {k : Nat} {A : Around} (hr : Room k A) : A.units + 64 < cLine := by have := hr.un; omega
theorem lt65 {k : Nat} {A : Around} (hr : Room k A) : A.units + 65 < cLine := by have := hr.un; omega
theorem lt70 {k : Nat} {A : Around} (hr : Room k A) : A.units + 70 < cLine := by have := hr.un; omega
end
/-! ### a def that keeps the promise of its function -/
structure Def (P : Program) (w : World) (K : PySem.W.Frag) (mg : Str → Option Value) (base : Heap) (k : Nat) (x : Str) (st : Stmt) (ps : List Str) (f : Fn) : Prop where
  ex : ∃ fa fd, Fun K x x st fa fd ∧ FnG P w K mg base k fa fd ps (spM K f) ∧ mg x = some (.ref fa) ∧ Binds K fd ps []
theorem Def.mk' {P : Program} {w : World} {K : PySem.W.Frag} {mg : Str → Option Value} {base : Heap} {k : Nat} {x : Str} {st : Stmt} {ps : List Str} {f : Fn} {fa : Addr} {fd : FuncData} (F : Fun K x x st fa fd) (G : FnG P w K mg base k fa fd ps (spM K f)) (hm : mg x = some (.ref fa)) (hb : Binds K fd ps []) :
    Def P w K mg base k x st ps f := ⟨fa, fd, F, G, hm, hb⟩
theorem Def.run {P : Program} {w : World} {K : PySem.W.Frag} {mg : Str → Option Value} {base : Heap} {k : Nat} {x : Str} {st : Stmt} {ps : List Str} {f : Fn} {fa : Addr} {fd : FuncData} (D : Def P w K mg base k x st ps f) (hm : mg x = some (.ref fa)) (hl : ∃ oc od osl, K.lookup fa = some ⟨oc, od, .func fd, osl⟩) :
    FnG P w K mg base k fa fd ps (spM K f) := by
  obtain ⟨fa', fd', F, G, hm', hb⟩ := D.ex
  rw [hm] at hm'
  cases hm'
  obtain ⟨oc, od, osl, l⟩ := hl
  obtain ⟨oc', od', kV, doc, pm, an, cdv, ct, osl', rfl, l', _⟩ := F.ex
  rw [l] at l'
  cases l'
  exact G
section
variable {X : Cx} {a b c e : Expr} {es : List Expr} {pos : Pos}
theorem ce_callD {k : Nat} {x : Str} {st : Stmt} {ps : List Str} {p : Pos} {f : Fn} {m : Fs} (D : Def X.prog X.w X.K X.mg X.base k x st ps f) (hr : Room k X.A) (hgd : X.A.guards = some []) (hg : Gl X x) (ha : CF X (e :: es) m)
    (hdb : (x == ("__debug__" : Str)) = false := by decide) (he : starEach (e :: es) X.env = (false, eval e X.env) :: starEach es X.env := by rfl) (hpl : (backTo pos (starEach es X.env)).any (·.1) = false := by rfl) :
    CE X (.Call (.Name x p) (e :: es) [] pos) (mCall f m) := by
  obtain ⟨fa, fd, F, G, hm, hb⟩ := D.ex
  exact ce_call G hr hgd hg hm F.kp hb ha hdb he hpl
theorem ce_callPD {k i : Nat} {x y : Str} {st : Stmt} {ps : List Str} {p py : Pos} {f : Fn} {m : Fs} (D : Def X.prog X.w X.K X.mg X.base k x st ps f) (hr : Room k X.A) (hgd : X.A.guards = some []) (hg : Gl X x)
    (hy : PE X (.Name y py) (tVar i)) (ha : CF X es m) (hsy : starEach (.Name y py :: es) X.env = (false, eval (.Name y py) X.env) :: starEach es X.env := by rfl) (hdb : (x == ("__debug__" : Str)) = false := by decide) (hpl : (backTo pos (starEach es X.env)).any (·.1) = false := by rfl) :
    CE X (.Call (.Name x p) (.Name y py :: es) [] pos) (mCallP f i m) := by
  obtain ⟨fa, fd, F, G, hm, hb⟩ := D.ex
  exact ce_callP G hr hgd hg hm F.kp hb hy ha hsy hdb hpl
theorem ce_callK0D {k : Nat} {ps ks : List Str} {x : Str} {st : Stmt} {p : Pos} {f : Fn} {mk : Fs} {kws : List Keyword} {pm : List Nat} (D : Def X.prog X.w X.K X.mg X.base k x st ps f) (hr : Room k X.A) (hgd : X.A.guards = some []) (hg : Gl X x)
    (h : ∀ (kV doc pm' : Value) (an : Option Addr) (cdv ct : Value) (us ws : List Value), us.length = 0 → ws.length = ks.length → bindArgs (PySem.W.fnOf x x (defArgs st) (defBody st) (defScope st) .none kV doc pm' an cdv ct) ⟨us, ks.zip ws⟩ = pure (ps.zip (permL pm (us ++ ws))))
    (hkw : CK X kws mk) (hl : ∀ en ds en', mk en = .ok (ds, en') → ds.length = ks.length)
    (hall : (backToKw pos (keywordEach kws X.env)).all (·.1.isSome) = true := by rfl) (hks : (backToKw pos (keywordEach kws X.env)).filterMap (·.1) = ks := by rfl)
    (hdb : (x == ("__debug__" : Str)) = false := by decide) (hpl : ((backTo pos (starEach [] X.env)).any (·.1) || (backToKw pos (keywordEach kws X.env)).any (·.1.isNone)) = false := by rfl) :
    CE X (.Call (.Name x p) [] kws pos) (mCallK f pm fNil mk) := by
  obtain ⟨fa, fd, F, G, hm, hb⟩ := D.ex
  have kb : KBn X.K fd ps 0 ks (fun us ws => permL pm (us ++ ws)) (fun vs zs => permL pm (vs ++ zs)) := by
    obtain ⟨oc, od, kV, doc, pm', an, cdv, ct, osl, rfl, lk, hcd⟩ := F.ex
    exact ⟨fun s us ws _ h1 h2 => .of_eq (h kV doc pm' an cdv ct us ws h1 h2), fun r1 r2 => permL_vals (Vals.append r1 r2)⟩
  exact ce_callK0 G hr hgd hg hm F.kp kb hkw hl hall hks hdb hpl
end
end
end Ev
namespace Ev
noncomputable section
open PySem PySem.Spec L2 Evl
/-! ### reckoning with the functions -/
@[simp] theorem R.bind_ok {α β : Type} (a : α) (f : α → R β) : (R.ok a).bind f = f a := rfl
@[simp] theorem R.bind_bad {α β : Type} (f : α → R β) : (R.bad : R α).bind f = .bad := rfl
/-- a for, by what stands at each turn -/
theorem forL_inv {g : Gm} {b : Sm} {ds : List PyData} {en : En} (I : Nat → En → Prop) (h0 : I 0 en) (hs : ∀ i d en, ds[i]? = some d → I i en → ∃ e1 e2, g d en = .ok e1 ∧ b e1 = .ok (.nx e2) ∧ I (i + 1) e2) :
    ∃ en', forL g b ds en = .ok (.nx en') ∧ I ds.length en' := by
  have key : ∀ (n : Nat) (rs : List PyData) (k : Nat) (en : En), rs.length = n → rs = ds.drop k → I k en → ∃ en', forL g b rs en = .ok (.nx en') ∧ I (k + rs.length) en' := by
    intro n
    induction n with
    | zero =>
      intro rs k en hl e hI
      have : rs = [] := List.length_eq_zero_iff.mp hl
      subst this
      exact ⟨en, rfl, hI⟩
    | succ n ih =>
      intro rs k en hl e hI
      cases rs with
      | nil => simp at hl
      | cons d rs =>
        have hd : ds[k]? = some d := by
          have q : (ds.drop k)[0]? = some d := by rw [← e]; rfl
          simpa using q
        have er : rs = ds.drop (k + 1) := by
          have q : (ds.drop k).tail = rs := by rw [← e]; rfl
          rw [← q]; simp
        obtain ⟨e1, e2, h1, h2, h3⟩ := hs k d en hd hI
        obtain ⟨en', h4, h5⟩ := ih rs (k + 1) e2 (by simpa using hl) er h3
        refine ⟨en', ?_, ?_⟩
        · show (g d en).bind _ = _
          rw [h1]
          show (b e1).bind _ = _
          rw [h2]
          exact h4
        · rw [List.length_cons, show k + (rs.length + 1) = k + 1 + rs.length by omega]
          exact h5
  obtain ⟨en', h1, h2⟩ := key ds.length ds 0 en rfl rfl h0
  rw [Nat.zero_add] at h2
  exact ⟨en', h1, h2⟩
/-- a for, as a fold -/
theorem forL_fold {g : Gm} {b : Sm} {σ : Type} (E : σ → En) (step : σ → PyData → σ) : ∀ {ds : List PyData} {s : σ}, (∀ s d, d ∈ ds → ∃ e1, g d (E s) = .ok e1 ∧ b e1 = .ok (.nx (E (step s d)))) →
    forL g b ds (E s) = .ok (.nx (E (ds.foldl step s)))
  | [], s, _ => rfl
  | d :: ds, s, h => by
    obtain ⟨e1, h1, h2⟩ := h s d (List.mem_cons_self ..)
    show (g d (E s)).bind _ = _
    rw [h1]
    show (b e1).bind _ = _
    rw [h2]
    exact forL_fold E step fun s d hd => h s d (List.mem_cons_of_mem _ hd)
/-- a comprehension without a state -/
theorem compL_map {vs : List Nat} {g : Gm} {c elt : Xm} {en : En} (y : PyData → PyData) : ∀ {ds acc : List PyData}, acc.length + ds.length ≤ sizeLine → (∀ d ∈ ds, ∃ e1 e2 o e3, g d en = .ok e1 ∧ c e1 = .ok (.leaf (.bool true), e2) ∧ elt e2 = .ok (o, e3) ∧ snap o = some (y d) ∧ wipeE e3 vs = en) →
    compL vs g c elt ds acc en = .ok (acc ++ ds.map y, en)
  | [], acc, _, _ => by simp [compL]
  | d :: ds, acc, hl, h => by
    obtain ⟨e1, e2, o, e3, h1, h2, h3, h4, h5⟩ := h d (List.mem_cons_self ..)
    rw [List.length_cons] at hl
    have ih := compL_map (vs := vs) (g := g) (c := c) (elt := elt) (en := en) y (ds := ds) (acc := acc ++ [y d]) (by rw [List.length_append, List.length_singleton]; omega) fun d hd => h d (List.mem_cons_of_mem _ hd)
    unfold compL
    rw [h1, R.bind_ok, h2, R.bind_ok]
    dsimp only
    rw [h3, R.bind_ok]
    dsimp only
    rw [h4]
    dsimp only
    rw [if_pos (by rw [sizeL_eq]; omega), h5, ih, List.append_assoc]
    rfl
/-- a comprehension with a state -/
theorem compL_inv {vs : List Nat} {g : Gm} {c elt : Xm} {en : En} {ds : List PyData} (hl : ds.length ≤ sizeLine) (I : Nat → List PyData → En → Prop) (h0 : I 0 [] en)
    (hs : ∀ i d acc en, ds[i]? = some d → acc.length = i → I i acc en → ∃ e1 e2 o e3 y, g d en = .ok e1 ∧ c e1 = .ok (.leaf (.bool true), e2) ∧ elt e2 = .ok (o, e3) ∧ snap o = some y ∧ I (i + 1) (acc ++ [y]) (wipeE e3 vs)) :
    ∃ acc en', compL vs g c elt ds [] en = .ok (acc, en') ∧ acc.length = ds.length ∧ I ds.length acc en' := by
  have key : ∀ (n : Nat) (rs : List PyData) (k : Nat) (acc : List PyData) (en : En), rs.length = n → rs = ds.drop k → acc.length = k → k ≤ ds.length → I k acc en → ∃ acc' en', compL vs g c elt rs acc en = .ok (acc', en') ∧ acc'.length = ds.length ∧ I ds.length acc' en' := by
    intro n
    induction n with
    | zero =>
      intro rs k acc en hn e ha hk hI
      have : rs = [] := List.length_eq_zero_iff.mp hn
      subst this
      have : ds.length ≤ k := by
        have q : (ds.drop k).length = 0 := by rw [← e]; rfl
        rw [List.length_drop] at q
        omega
      have : k = ds.length := by omega
      subst this
      exact ⟨acc, en, rfl, ha, hI⟩
    | succ n ih =>
      intro rs k acc en hn e ha hk hI
      cases rs with
      | nil => simp at hn
      | cons d rs =>
        have hd : ds[k]? = some d := by
          have q : (ds.drop k)[0]? = some d := by rw [← e]; rfl
          simpa using q
        have er : rs = ds.drop (k + 1) := by
          have q : (ds.drop k).tail = rs := by rw [← e]; rfl
          rw [← q]; simp
        have hlt := (List.getElem?_eq_some_iff.mp hd).1
        obtain ⟨e1, e2, o, e3, y, h1, h2, h3, h4, h5⟩ := hs k d acc en hd ha hI
        obtain ⟨acc', en', h6, h7⟩ := ih rs (k + 1) (acc ++ [y]) _ (by simpa using hn) er (by rw [List.length_append, ha]; rfl) (by omega) h5
        refine ⟨acc', en', ?_, h7⟩
        unfold compL
        rw [h1, R.bind_ok, h2, R.bind_ok]
        dsimp only
        rw [h3, R.bind_ok]
        dsimp only
        rw [h4]
        dsimp only
        rw [if_pos (by rw [sizeL_eq]; omega)]
        exact h6
  exact key ds.length ds 0 [] en rfl rfl rfl (Nat.zero_le _) h0
/-- a comprehension without a state, by one equation -/
theorem compL_eq {vs : List Nat} {g : Gm} {elt : Xm} {en : En} (y : PyData → PyData) {ds acc : List PyData} (hl : acc.length + ds.length ≤ sizeLine)
    (h : ∀ d ∈ ds, ((g d en).bind fun e1 => (elt e1).bind fun p => R.ok (snap p.1, wipeE p.2 vs)) = .ok (some (y d), en)) :
    compL vs g mYes elt ds acc en = .ok (acc ++ ds.map y, en) := compL_map y hl fun d hd => by
  obtain ⟨e1, h1, h2⟩ := R.ok_of_bind (h d hd)
  obtain ⟨⟨o, e3⟩, h3, h4⟩ := R.ok_of_bind h2
  have h5 : (snap o, wipeE e3 vs) = (some (y d), en) := by injection h4
  exact ⟨e1, e1, o, e3, h1, rfl, h3, congrArg Prod.fst h5, congrArg Prod.snd h5⟩
theorem comp2L_eq {vs vs1 : List Nat} {g g1 : Gm} {it1 : Im} {elt : Xm} {en : En} (out : PyData → List PyData) : ∀ {ds acc : List PyData}, acc.length + (ds.flatMap out).length ≤ sizeLine →
    (∀ d ∈ ds, ∀ acc, acc.length + (out d).length ≤ sizeLine → ((g d en).bind fun e1 => (it1 e1).bind fun q => (compL vs1 g1 mYes elt q.1 acc (wipeE q.2 vs1)).bind fun r => R.ok (r.1, wipeE r.2 vs)) = .ok (acc ++ out d, en)) →
    comp2L vs g mYes it1 vs1 g1 mYes elt ds acc en = .ok (acc ++ ds.flatMap out, en)
  | [], acc, _, _ => by simp [comp2L]
  | d :: ds, acc, hl, h => by
    rw [List.flatMap_cons, List.length_append] at hl
    obtain ⟨e1, h1, h5⟩ := R.ok_of_bind (h d (List.mem_cons_self ..) acc (by omega))
    obtain ⟨⟨ins, e2⟩, h2, h6⟩ := R.ok_of_bind h5
    obtain ⟨⟨acc', e3⟩, h3, h7⟩ := R.ok_of_bind h6
    have h8 : (acc', wipeE e3 vs) = (acc ++ out d, en) := by injection h7
    obtain ⟨h9, h4⟩ := Prod.mk.inj h8
    subst h9
    have ih := comp2L_eq (vs := vs) (vs1 := vs1) (g := g) (g1 := g1) (it1 := it1) (elt := elt) (en := en) out (ds := ds) (acc := acc ++ out d) (by rw [List.length_append]; omega) fun d hd => h d (List.mem_cons_of_mem _ hd)
    unfold comp2L
    rw [h1, R.bind_ok]
    show (R.ok (O.leaf (.bool true), e1)).bind _ = _
    rw [R.bind_ok]
    dsimp only
    rw [h2, R.bind_ok]
    dsimp only
    dsimp only at h3
    rw [h3, R.bind_ok]
    dsimp only
    rw [h4, ih, List.flatMap_cons, List.append_assoc]
theorem big_pos : (2 : Int) ^ 64 < big := by
  rw [big_eq]
  exact Int.pow_lt_pow_of_lt (by decide) (by decide)
theorem inBig_of {i : Int} (h : i.natAbs < 2 ^ 64) : inBig i = true := by
  have := big_pos
  unfold inBig
  refine decide_eq_true ?_
  omega
theorem mulOk_l {i j : Int} (h : i.natAbs < 2 ^ 64) : mulOk i j = true := by
  unfold mulOk small64
  rw [Bool.or_eq_true, Bool.or_eq_true]
  exact .inl (.inl (decide_eq_true (by rw [pow64_eq]; omega)))
theorem mulOk_r {i j : Int} (h : j.natAbs < 2 ^ 64) : mulOk i j = true := by
  unfold mulOk small64
  rw [Bool.or_eq_true, Bool.or_eq_true]
  exact .inl (.inr (decide_eq_true (by rw [pow64_eq]; omega)))
/-! ### rules for simp -/
/-- a list of data -/
def LL (ds : List PyData) : O := .lst (ds.map O.leaf)
@[simp] theorem snap_LL (ds : List PyData) : snap (LL ds) = some (.list ds) := snap_flat ds
@[simp] theorem look_LL (ds : List PyData) : look (some (some (LL ds))) = some (.list ds) := by unfold LL; simp [look]
section
variable (en : En) (m n : Sm) (a b c : Xm) (oa ob : Om) (i j : Nat) (k : Int) (d : PyData) (f : Fn) (fs fk : Fs) (as : As) (g : Gm) (gs : GsM) (it it1 : Im)
@[simp] theorem ev_sSkip : sSkip en = .ok (.nx en) := (rfl)
@[simp] theorem ev_sSeq : sSeq m n en = (m en).bind fun o => match o with
  | .nx e1 => n e1
  | .rt o e1 => .ok (.rt o e1)
  | .bk e1 => .ok (.bk e1)
  | .ct e1 => .ok (.ct e1) := (rfl)
@[simp] theorem ev_sRet : sRet a en = (a en).bind fun p => .ok (.rt p.1 p.2) := (rfl)
@[simp] theorem ev_sRetN : sRetN en = .ok (.rt (.leaf .none) en) := (rfl)
@[simp] theorem ev_sDrop : sDrop a en = (a en).bind fun p => .ok (.nx p.2) := (rfl)
@[simp] theorem ev_sIf : sIf c m n en = (c en).bind fun p => match p.1 with
  | .leaf (.bool true) => m p.2
  | .leaf (.bool false) => n p.2
  | _ => .bad := (rfl)
@[simp] theorem ev_sBrk : sBrk en = .ok (.bk en) := (rfl)
@[simp] theorem ev_sCnt : sCnt en = .ok (.ct en) := (rfl)
@[simp] theorem ev_sSet : sSet i a en = (a en).bind fun p => .ok (.nx (p.2.set i (some p.1))) := (rfl)
@[simp] theorem ev_sPar : sPar i j a b en = (a en).bind fun p => (b p.2).bind fun q => .ok (.nx ((q.2.set i (some p.1)).set j (some q.1))) := (rfl)
@[simp] theorem ev_sAsg : sAsg a g en = (a en).bind fun p => match snap p.1 with
  | some d => (g d p.2).bind fun e1 => .ok (.nx e1)
  | none => .bad := (rfl)
@[simp] theorem ev_gNm : gNm i d en = .ok (en.set i (some (.leaf d))) := (rfl)
@[simp] theorem ev_gNil : gNil [] en = .ok en := (rfl)
@[simp] theorem ev_gCons (ds : List PyData) : gCons g gs (d :: ds) en = (g d en).bind fun e1 => gs ds e1 := (rfl)
@[simp] theorem ev_gTup (n : Nat) (ds : List PyData) : gTup n gs (.tuple ds) en = if ds.length = n then gs ds en else .bad := (rfl)
@[simp] theorem ev_sFor : sFor it g m en = (it en).bind fun p => forL g m p.1 p.2 := (rfl)
@[simp] theorem ev_mC : mC d en = .ok (.leaf d, en) := (rfl)
@[simp] theorem ev_mOp2 (f : PyData → PyData → Option O) : mOp2 f oa ob en = (oa en).bind fun p => (ob p.2).bind fun q => match p.1 q.2, q.1 q.2 with
  | some x, some y => match f x y with
    | some o => .ok (o, q.2)
    | none => .bad
  | _, _ => .bad := (rfl)
@[simp] theorem ev_oE : oE a en = (a en).bind fun p => match snap p.1 with
  | some d => .ok ((fun _ => some d : Rs), p.2)
  | none => .bad := (rfl)
@[simp] theorem ev_oPk (o : O) (h : en[i]? = some (some o)) : oPk' i en = .ok (fun en => look en[i]?, en) := by unfold oPk'; rw [h]
@[simp] theorem look_leaf : look (some (some (.leaf d))) = some d := (rfl)
@[simp] theorem ev_mFz (h : en[i]? = some (some (.leaf d))) : mFz i en = .ok (.leaf d, en) := by unfold mFz; rw [h]
@[simp] theorem ev_mFzL (ds : List PyData) (h : en[i]? = some (some (LL ds))) : mFz i en = .ok (.leaf (.list ds), en.set i (some (.leaf (.list ds)))) := by unfold mFz; rw [h]; simp [LL]
@[simp] theorem ev_mMv (o : O) (h : en[i]? = some (some o)) : mMv i en = .ok (o, en.set i none) := by unfold mMv; rw [h]
@[simp] theorem ev_mNot : mNot a en = (a en).bind fun p => match p.1 with
  | .leaf (.bool b) => .ok (.leaf (.bool (!b)), p.2)
  | _ => .bad := (rfl)
@[simp] theorem ev_mAnd : mAnd a b en = (a en).bind fun p => match p.1 with
  | .leaf (.bool true) => b p.2
  | .leaf (.bool false) => .ok (.leaf (.bool false), p.2)
  | _ => .bad := (rfl)
@[simp] theorem ev_mOr : mOr a b en = (a en).bind fun p => match p.1 with
  | .leaf (.bool false) => b p.2
  | .leaf (.bool true) => .ok (.leaf (.bool true), p.2)
  | _ => .bad := (rfl)
@[simp] theorem ev_mIf : mIf c a b en = (c en).bind fun p => match p.1 with
  | .leaf (.bool true) => a p.2
  | .leaf (.bool false) => b p.2
  | _ => .bad := (rfl)
@[simp] theorem ev_fNil : fNil en = .ok ([], en) := (rfl)
@[simp] theorem ev_fCons : fCons a fs en = (a en).bind fun p => match snap p.1 with
  | some d => (fs p.2).bind fun q => .ok (d :: q.1, q.2)
  | none => .bad := (rfl)
@[simp] theorem ev_aNil : aNil en = .ok ([], en) := (rfl)
@[simp] theorem ev_aCons : aCons oa as en = (oa en).bind fun p => (as p.2).bind fun q => .ok (p.1 :: q.1, q.2) := (rfl)
@[simp] theorem ev_mTup : mTup fs en = (fs en).bind fun p => if p.1.length ≤ sizeLine then .ok (.leaf (.tuple p.1), p.2) else .bad := (rfl)
@[simp] theorem ev_mLst : mLst fs en = (fs en).bind fun p => if p.1.length ≤ sizeLine then .ok (LL p.1, p.2) else .bad := (rfl)
@[simp] theorem ev_mAs (f : List PyData → Option O) : mAs f as en = (as en).bind fun p => match resA p.1 p.2 with
  | some ds => match f ds with
    | some o => .ok (o, p.2)
    | none => .bad
  | none => .bad := (rfl)
@[simp] theorem ev_resN : resA [] en = some [] := (rfl)
@[simp] theorem ev_resC (r : Rs) (rs : List Rs) : resA (r :: rs) en = match r en with
  | some d => match resA rs en with
    | some ds => some (d :: ds)
    | none => none
  | none => none := (rfl)
@[simp] theorem ev_o1 (f : PyData → Option O) : o1 f [d] = f d := (rfl)
@[simp] theorem ev_mCall : mCall f fs en = (fs en).bind fun p => (f (p.1.map O.leaf)).bind fun q => .ok (q.1, p.2) := (rfl)
@[simp] theorem ev_mCallK (pm : List Nat) : mCallK f pm fs fk en = (fs en).bind fun p => (fk p.2).bind fun z => (f ((permL pm (p.1 ++ z.1)).map O.leaf)).bind fun q => .ok (q.1, z.2) := (rfl)
theorem ev_mCallP (o : O) (h : en[i]? = some (some o)) : mCallP f i fs en = (fs en).bind fun p => match p.2[i]? with
    | some (some o) => (f (o :: p.1.map O.leaf)).bind fun q => match q.2 with
      | o' :: _ => .ok (q.1, p.2.set i (some o'))
      | [] => .bad
    | _ => .bad := by unfold mCallP; rw [h] <;> rfl
@[simp] theorem ev_iSeq : iSeq a en = (a en).bind fun p => match snap p.1 with
  | some (.list ds) => .ok (ds, p.2)
  | some (.tuple ds) => .ok (ds, p.2)
  | _ => .bad := (rfl)
@[simp] theorem ev_mYes : mYes en = .ok (.leaf (.bool true), en) := (rfl)
@[simp] theorem ev_mComp (vs : List Nat) : mComp vs it g c a en = (it en).bind fun p => (compL vs g c a p.1 [] (wipeE p.2 vs)).bind fun q => .ok (LL q.1, putBack p.2 vs q.2) := (rfl)
@[simp] theorem ev_mComp2 (vs vs1 : List Nat) (g1 : Gm) (c1 : Xm) : mComp2 vs it g c it1 vs1 g1 c1 a en = (it en).bind fun p => (comp2L vs g c it1 vs1 g1 c1 a p.1 [] (wipeE p.2 vs)).bind fun q => .ok (LL q.1, putBack p.2 vs q.2) := (rfl)
@[simp] theorem ev_iZip : iZip fs en = (fs en).bind fun p => match p.1 with
  | [d, e] => match seqD d, seqD e with
    | some xs, some ys => .ok (zipD xs ys, p.2)
    | _, _ => .bad
  | _ => .bad := (rfl)
@[simp] theorem ev_iEnum : iEnum fs en = (fs en).bind fun p => match p.1 with
  | [d] => match seqD d with
    | some xs => .ok (enumD 0 xs, p.2)
    | _ => .bad
  | _ => .bad := (rfl)
@[simp] theorem ev_iRange1 (r : Rs) (e1 : En) (nn : Int) (h1 : as en = .ok ([r], e1)) (h2 : r e1 = some (.int nn)) (h3 : -(2 ^ 62) ≤ nn ∧ nn < 2 ^ 62) : iRange as en = .ok (rangeD 0 nn, e1) := by
  rw [← pow62_eq] at h3
  unfold iRange
  rw [h1]
  simp only [R.bind_ok, ev_resC, ev_resN, h2]
  rw [if_pos h3]
@[simp] theorem seqD_list (ds : List PyData) : seqD (.list ds) = some ds := (rfl)
@[simp] theorem seqD_tuple (ds : List PyData) : seqD (.tuple ds) = some ds := (rfl)
@[simp] theorem leaf_isLeaf : isLeaf (.leaf d) = true := (rfl)
@[simp] theorem wipeE_nil : wipeE en [] = en := (rfl)
@[simp] theorem wipeE_cons (v : Nat) (vs : List Nat) : wipeE en (v :: vs) = (wipeE en vs).set v none := (rfl)
@[simp] theorem putBack_nil (e0 : En) : putBack e0 [] en = en := (rfl)
@[simp] theorem putBack_non (e0 : En) (v : Nat) (vs : List Nat) (h : e0[v]? = some none) : putBack e0 (v :: vs) en = putBack e0 vs (en.set v none) := by
  conv => lhs; unfold putBack
  rw [h]
@[simp] theorem putBack_leaf (e0 : En) (v : Nat) (vs : List Nat) (h : e0[v]? = some (some (.leaf d))) : putBack e0 (v :: vs) en = putBack e0 vs (en.set v (some (.leaf d))) := by
  conv => lhs; unfold putBack
  rw [h]
/-- a slot of a block's name: empty, or data -/
def Jk (y : Option O) : Prop := y = none ∨ ∃ d, y = some (.leaf d)
theorem Jk.non : Jk none := .inl rfl
theorem Jk.lf {d : PyData} : Jk (some (.leaf d)) := .inr ⟨d, rfl⟩
theorem putBack_jk (e0 : En) (v : Nat) (vs : List Nat) (y : Option O) (h : e0[v]? = some y) (hj : Jk y) : putBack e0 (v :: vs) en = putBack e0 vs (en.set v y) := by
  rcases hj with rfl | ⟨d, rfl⟩
  · exact putBack_non en e0 v vs h
  · exact putBack_leaf en d e0 v vs h
/-! operators on ints and lists -/
variable (x y : Int) (xs ys : List PyData)
@[simp] theorem oAdd_int : oAdd (.int x) (.int y) = some (.leaf (.int (x + y))) := (rfl)
@[simp] theorem oAdd_lst (h : xs.length + ys.length ≤ sizeLine) : oAdd (.list xs) (.list ys) = some (LL (xs ++ ys)) := if_pos (by rw [sizeL_eq]; exact h)
@[simp] theorem oSub_int : oSub (.int x) (.int y) = some (.leaf (.int (x - y))) := (rfl)
@[simp] theorem oMul_int (h : mulOk x y = true) : oMul (.int x) (.int y) = some (.leaf (.int (x * y))) := if_pos h
@[simp] theorem oDiv_int (h : y ≠ 0) (h2 : inBig y = true) : oDiv (.int x) (.int y) = some (.leaf (.int (x.fdiv y))) := if_pos ⟨h, h2⟩
@[simp] theorem oMod_int (h : y ≠ 0) : oMod (.int x) (.int y) = some (.leaf (.int (x.fmod y))) := if_pos h
@[simp] theorem oLt_int : oLt (.int x) (.int y) = some (.leaf (.bool (decide (x < y)))) := (rfl)
@[simp] theorem oLe_int : oLe (.int x) (.int y) = some (.leaf (.bool (decide (x ≤ y)))) := (rfl)
@[simp] theorem oGt_int : oGt (.int x) (.int y) = some (.leaf (.bool (decide (y < x)))) := (rfl)
@[simp] theorem oGe_int : oGe (.int x) (.int y) = some (.leaf (.bool (decide (y ≤ x)))) := (rfl)
@[simp] theorem shaped_int : SeqAt.shaped (.int x) = true := by simp [SeqAt.shaped, PyData.canLay0, PyData.depth]
@[simp] theorem oEq_int : oEq (.int x) (.int y) = some (.leaf (.bool (decide (x = y)))) := by
  have e : PyData.eqv (.int x) (.int y) = decide (x = y) := by simp [PyData.eqv, BEq.beq]
  show (if SeqAt.shaped (.int x) = true ∧ SeqAt.shaped (.int y) = true then lf (.bool (PyData.eqv (.int x) (.int y))) else none) = _
  rw [if_pos ⟨shaped_int x, shaped_int y⟩, e]
@[simp] theorem oNe_int : oNe (.int x) (.int y) = some (.leaf (.bool (!decide (x = y)))) := by
  have e : PyData.eqv (.int x) (.int y) = decide (x = y) := by simp [PyData.eqv, BEq.beq]
  show (if SeqAt.shaped (.int x) = true ∧ SeqAt.shaped (.int y) = true then lf (.bool (!PyData.eqv (.int x) (.int y))) else none) = _
  rw [if_pos ⟨shaped_int x, shaped_int y⟩, e]
@[simp] theorem oEq_str (s t : Str) : oEq (.str s) (.str t) = some (.leaf (.bool (s == t))) := (rfl)
@[simp] theorem oAbs_int : oAbs (.int x) = some (.leaf (.int (if x < 0 then -x else x))) := (rfl)
@[simp] theorem oInt_int : oInt (.int x) = some (.leaf (.int x)) := (rfl)
@[simp] theorem oLen_lst : oLen (.list xs) = some (.leaf (.int xs.length)) := (rfl)
@[simp] theorem oLen_tup : oLen (.tuple xs) = some (.leaf (.int xs.length)) := (rfl)
@[simp] theorem oTuple_lst : oTuple (.list xs) = some (.leaf (.tuple xs)) := (rfl)
@[simp] theorem oTuple_tup : oTuple (.tuple xs) = some (.leaf (.tuple xs)) := (rfl)
@[simp] theorem oMul_lst (h : -(2 ^ 63) ≤ y ∧ y < 2 ^ 63 ∧ xs.length * y.toNat ≤ sizeLine) : oMul (.list xs) (.int y) = some (LL (List.replicate y.toNat xs).flatten) := if_pos (by rw [sizeL_eq, pow63_eq]; exact h)
theorem atI_nat' {α : Type} {l : List α} {i : Nat} {z : α} (h : l[i]? = some z) : L2.atI l (i : Int) = some z := L2.atI_nat h
@[simp] theorem oIx_t (p : Nat) (h : xs[p]? = some d) : oIx (.tuple xs) (.int (p : Nat)) = some (.leaf d) := by
  show (L2.atI xs (p : Int)).map O.leaf = _
  rw [atI_nat' h]
  rfl
@[simp] theorem oIx_l (p : Nat) (h : xs[p]? = some d) : oIx (.list xs) (.int (p : Nat)) = some (.leaf d) := by
  show (L2.atI xs (p : Int)).map O.leaf = _
  rw [atI_nat' h]
  rfl
@[simp] theorem oIx_t0 : oIx (.tuple (d :: xs)) (.int 0) = some (.leaf d) := oIx_t d (d :: xs) 0 rfl
@[simp] theorem oIx_l0 : oIx (.list (d :: xs)) (.int 0) = some (.leaf d) := oIx_l d (d :: xs) 0 rfl
@[simp] theorem oIx_t1 (d0 : PyData) : oIx (.tuple (d0 :: d :: xs)) (.int 1) = some (.leaf d) := oIx_t d (d0 :: d :: xs) 1 rfl
@[simp] theorem oIx_l1 (d0 : PyData) : oIx (.list (d0 :: d :: xs)) (.int 1) = some (.leaf d) := oIx_l d (d0 :: d :: xs) 1 rfl
theorem ev_mApp (os : List O) (o1 : O) (e1 : En) (h : ∃ os0, en[i]? = some (some (.lst os0))) (h1 : a en = .ok (o1, e1)) (h2 : snap o1 = some d) (h3 : e1[i]? = some (some (.lst os))) (h4 : os.length < sizeLine) : mApp i a en = .ok (.leaf .none, e1.set i (some (.lst (os ++ [.leaf d])))) := by
  obtain ⟨os0, h⟩ := h
  unfold mApp
  rw [h]
  dsimp only
  rw [h1, R.bind_ok]
  dsimp only
  rw [h2, h3]
  dsimp only
  rw [if_pos (by rw [sizeL_eq]; exact h4)]
theorem ev_sSetIx (mi : Xm) (os : List O) (o1 : O) (e1 e2 : En) (j : Nat) (d0 : PyData) (h1 : a en = .ok (o1, e1)) (h2 : snap o1 = some d) (h3 : ∃ o0, e1[i]? = some (some o0)) (h4 : mi e1 = .ok (.leaf (.int (j : Nat)), e2)) (h5 : e2[i]? = some (some (.lst os))) (h6 : os[j]? = some (.leaf d0)) :
    sSetIx i mi a en = .ok (.nx (e2.set i (some (.lst (os.set j (.leaf d)))))) := by
  obtain ⟨o0, h3⟩ := h3
  have hj : L2.ixN os.length (j : Int) = some j := by
    have hl := (List.getElem?_eq_some_iff.mp h6).1
    have q := atI_nat' (l := List.range os.length) (i := j) (z := j) (by rw [List.getElem?_range hl])
    unfold L2.atI at q
    rw [List.length_range] at q
    cases z : L2.ixN os.length (j : Int) with
    | none => rw [z] at q; cases q
    | some j' =>
      rw [z] at q
      have q' : (List.range os.length)[j']? = some j := q
      have hl2 := (List.getElem?_eq_some_iff.mp q').1
      rw [List.length_range] at hl2
      rw [List.getElem?_range hl2] at q'
      rw [Option.some.inj q']
  unfold sSetIx
  rw [h1, R.bind_ok]
  dsimp only
  rw [h2]
  dsimp only
  rw [h3]
  dsimp only
  rw [h4, R.bind_ok]
  dsimp only
  rw [h5]
  dsimp only
  rw [hj]
  dsimp only
  rw [h6]
@[simp] theorem ev_mAppL (ds0 : List PyData) (h : en[i]? = some (some (LL ds0))) : mApp i a en = (a en).bind fun p => match snap p.1, p.2[i]? with
    | some d, some (some (.lst os)) => if os.length < sizeL then .ok (.leaf .none, p.2.set i (some (.lst (os ++ [.leaf d])))) else .bad
    | _, _ => .bad := by unfold mApp; rw [h]; rfl
theorem app_LL (ds : List PyData) : O.lst (ds.map O.leaf ++ [.leaf d]) = LL (ds ++ [d]) := by unfold LL; rw [List.map_append]; rfl
theorem set_LL (ds : List PyData) : O.lst ((ds.map O.leaf).set j (.leaf d)) = LL (ds.set j d) := by unfold LL; rw [List.map_set]
/-- x.append(e), x a list of data -/
theorem app_ok (ds : List PyData) (o1 : O) (e1 : En) (h : ∃ os0, en[i]? = some (some (.lst os0))) (h1 : a en = .ok (o1, e1)) (h2 : snap o1 = some d) (h3 : e1[i]? = some (some (LL ds))) (h4 : ds.length < sizeLine) : mApp i a en = .ok (.leaf .none, e1.set i (some (LL (ds ++ [d])))) := by
  rw [← app_LL]
  exact ev_mApp en a i d (ds.map O.leaf) o1 e1 h h1 h2 h3 (by rw [List.length_map]; exact h4)
/-- x[j] = e, x a list of data -/
theorem setIx_ok (mi : Xm) (ds : List PyData) (o1 : O) (e1 e2 : En) (h1 : a en = .ok (o1, e1)) (h2 : snap o1 = some d) (h3 : ∃ o0, e1[i]? = some (some o0)) (h4 : mi e1 = .ok (.leaf (.int (j : Nat)), e2)) (h5 : e2[i]? = some (some (LL ds))) (h6 : j < ds.length) :
    sSetIx i mi a en = .ok (.nx (e2.set i (some (LL (ds.set j d))))) := by
  rw [← set_LL]
  exact ev_sSetIx en a i d mi (ds.map O.leaf) o1 e1 e2 j ds[j] h1 h2 h3 h4 h5 (by rw [List.getElem?_map, List.getElem?_eq_getElem h6]; rfl)
end
theorem seq_nx {m n : Sm} {en e1 : En} {r : R Out} (h : m en = .ok (.nx e1)) (h2 : n e1 = r) : sSeq m n en = r := by
  show (m en).bind _ = r
  rw [h]
  exact h2
theorem seq_rt {m n : Sm} {en e1 : En} {o : O} (h : m en = .ok (.rt o e1)) : sSeq m n en = .ok (.rt o e1) := by
  show (m en).bind _ = _
  rw [h]
  rfl
theorem for_of {it : Im} {g : Gm} {b : Sm} {en e1 : En} {ds : List PyData} {r : R Out} (h : it en = .ok (ds, e1)) (h2 : forL g b ds e1 = r) : sFor it g b en = r := by
  show (it en).bind _ = r
  rw [h]
  exact h2
theorem forL_cons {g : Gm} {b : Sm} {en e1 e2 : En} {d : PyData} {ds : List PyData} {r : R Out} (h : g d en = .ok e1) (h2 : b e1 = .ok (.nx e2)) (h3 : forL g b ds e2 = r) : forL g b (d :: ds) en = r := by
  show (g d en).bind _ = r
  rw [h]
  show (b e1).bind _ = r
  rw [h2]
  exact h3
theorem drop_of {a : Xm} {en e1 : En} {o : O} (h : a en = .ok (o, e1)) : sDrop a en = .ok (.nx e1) := by
  show (a en).bind _ = _
  rw [h]
  rfl
theorem set_of {a : Xm} {i : Nat} {en e1 : En} {o : O} (h : a en = .ok (o, e1)) : sSet i a en = .ok (.nx (e1.set i (some o))) := by
  show (a en).bind _ = _
  rw [h]
  rfl
theorem ret_of {a : Xm} {en e1 : En} {o : O} (h : a en = .ok (o, e1)) : sRet a en = .ok (.rt o e1) := by
  show (a en).bind _ = _
  rw [h]
  rfl
theorem while_step {c : Xm} {b : Sm} {n : Nat} {en e1 e2 : En} {r : R Out} (h : c en = .ok (.leaf (.bool true), e1)) (h2 : b e1 = .ok (.nx e2)) (h3 : whileN c b n e2 = r) : whileN c b (n + 1) en = r := by
  unfold whileN
  rw [h]
  show (b e1).bind _ = r
  rw [h2]
  exact h3
@[simp] theorem oNe_str (s t : Str) : oNe (.str s) (.str t) = some (.leaf (.bool (!(s == t)))) := rfl
/-- what a def gives, its body told -/
theorem runDef_rt {np n : Nat} {body : Sm} {os : List O} {r : O} {en : En} (h1 : os.length = np) (h2 : os.all isLeaf = true) (h : body (os.map some ++ List.replicate n none) = .ok (.rt r en)) : runDef false np n body os = .ok (r, os) := by
  unfold runDef
  rw [if_pos ⟨h1, h2⟩, h]
  rfl
theorem runDef_pin {np n : Nat} {body : Sm} {os : List O} {r o0 : O} {en : En} (h1 : os.length = np) (h0 : os ≠ []) (h2 : os.tail.all isLeaf = true) (h : body (os.map some ++ List.replicate n none) = .ok (.rt r (some o0 :: en))) : runDef true np n body os = .ok (r, o0 :: os.tail) := by
  unfold runDef
  have : (!os.isEmpty && os.tail.all isLeaf) = true := by
    cases os with
    | nil => exact absurd rfl h0
    | cons _ _ => simpa using h2
  rw [if_pos ⟨h1, this⟩, h]
  rfl
end
end Ev
namespace Ev
noncomputable section
open PySem PySem.Spec L2 Evl
section
variable {X : Cx} {pin : List Nat} {a b c e : Expr} {es : List Expr} {pos : Pos} {K : PySem.W.Frag} {F H F' H' : Hp} {σ : St} {en en' : En} {S : List Addr}
/-! ### comprehensions of objects: the new list owns what it holds -/
def compLO (vs : List Nat) (g : Gm) (c elt : Xm) : List PyData → List O → En → R (List O × En)
  | [], acc, en => .ok (acc, en)
  | d :: ds, acc, en => (g d en).bind fun e1 => (c e1).bind fun p => match p.1 with
    | .leaf (.bool true) => (elt p.2).bind fun q => if acc.length < sizeL then compLO vs g c elt ds (acc ++ [q.1]) (wipeE q.2 vs) else .bad
    | .leaf (.bool false) => compLO vs g c elt ds acc (wipeE p.2 vs)
    | _ => .bad
theorem compLO_ok {vs : List Nat} {g : Gm} {c elt : Xm} {d : PyData} {ds : List PyData} {acc : List O} {en : En} {r : List O × En} (h : compLO vs g c elt (d :: ds) acc en = .ok r) : ∃ e1 k e2, g d en = .ok e1 ∧ c e1 = .ok (.leaf (.bool k), e2) ∧
    (if k = true then ∃ o e3, elt e2 = .ok (o, e3) ∧ acc.length < sizeLine ∧ compLO vs g c elt ds (acc ++ [o]) (wipeE e3 vs) = .ok r else compLO vs g c elt ds acc (wipeE e2 vs) = .ok r) := by
  obtain ⟨e1, h1, h2⟩ := R.ok_of_bind h
  obtain ⟨⟨o1, e2⟩, h3, h4⟩ := R.ok_of_bind h2
  rcases bool_or o1 with ⟨k, rfl⟩ | no
  · refine ⟨e1, k, e2, h1, h3, ?_⟩
    cases k with
    | true =>
      obtain ⟨⟨o, e3⟩, h5, h6⟩ := R.ok_of_bind h4
      dsimp only at h6
      by_cases hl : acc.length < sizeL
      · rw [if_pos hl] at h6
        exact ⟨o, e3, h5, sizeL_eq ▸ hl, h6⟩
      · rw [if_neg hl] at h6
        cases h6
    | false => exact h4
  · dsimp only at h4
    split at h4
    · exact absurd rfl (no _)
    · exact absurd rfl (no _)
    · cases h4
theorem WF.join {o : O} {v : V} {A T T' : List Addr} (r : RO K F H o v A) (W : WF K F H σ en T') (sub : ∀ x ∈ T', x ∈ T) (nd : (A ++ T).Nodup) (off : ∀ x ∈ A, F x = none) : WF K F H (some v :: σ) (some o :: en) (A ++ T') := by
  obtain ⟨n1, n2, n3⟩ := List.nodup_append.mp nd
  refine ⟨W.fh, fun x hx => ?_, List.nodup_append.mpr ⟨n1, W.nd, fun x hx y hy => n3 x hx y (sub y hy)⟩, .som r W.eo⟩
  rcases List.mem_append.mp hx with z | z
  · exact off x z
  · exact W.off x z
/-- the top object gets one more element -/
theorem WF.push {D : Addr} {avs : List V} {os : List O} {o : O} {v : V} (W : WF K F H (some (.ref D) :: some v :: σ) (some (.lst os) :: some o :: en) S) (hD : H D = some (.lst avs)) :
    (∀ b, b ≠ D → upd H D (.lst (avs ++ [v])) b = H b) ∧ D ∈ S ∧ F D = none ∧ WF K F (upd H D (.lst (avs ++ [v]))) (some (.ref D) :: σ) (some (.lst (os ++ [o])) :: en) S := by
  have eUp : ∀ b, b ≠ D → upd H D (.lst (avs ++ [v])) b = H b := fun b h => upd_ne h
  obtain ⟨A, T, rfl, r, WT⟩ := W.split
  obtain ⟨B, T2, rfl, rv, WT2⟩ := WT.split
  cases r with
  | lst hD' rs =>
    rename_i avs' TA
    rw [hD] at hD'
    cases hD'
    have nd := W.nd
    obtain ⟨n1, n2, n3⟩ := List.nodup_append.mp nd
    obtain ⟨nDA, nTA⟩ := List.nodup_cons.mp n1
    obtain ⟨nB, nT2, n4⟩ := List.nodup_append.mp n2
    have nDB : D ∉ B ++ T2 := fun z => n3 D (List.mem_cons_self ..) D z rfl
    refine ⟨eUp, List.mem_append_left _ (List.mem_cons_self ..), W.off D (List.mem_append_left _ (List.mem_cons_self ..)), ?_⟩
    have rs' := rs.mono (H' := upd H D (.lst (avs ++ [v]))) (Ex.refl F) fun x hx => eUp x fun z => nDA (by rw [← z]; exact hx)
    have rv' := rv.mono (H' := upd H D (.lst (avs ++ [v]))) (Ex.refl F) fun x hx => eUp x fun z => nDB (by rw [← z]; exact List.mem_append_left _ hx)
    have eo' := WT2.eo.mono (H' := upd H D (.lst (avs ++ [v]))) (Ex.refl F) fun x hx => eUp x fun z => nDB (by rw [← z]; exact List.mem_append_right _ hx)
    have ro : RO K F (upd H D (.lst (avs ++ [v]))) (.lst (os ++ [o])) (.ref D) (D :: (TA ++ B)) := .lst upd_same (by
      have q := rs'.append (.cons rv' .nil)
      rw [List.append_nil] at q
      exact q)
    have eS : D :: TA ++ (B ++ T2) = D :: (TA ++ B) ++ T2 := by simp
    rw [eS]
    refine ⟨fun x u z => ?_, fun x hx => W.off x (by rw [eS]; exact hx), by rw [← eS]; exact nd, .som ro eo'⟩
    rw [eUp x (fun q => by rw [q, W.off D (List.mem_append_left _ (List.mem_cons_self ..))] at z; cases z)]
    exact W.fh x u z
def mCompO (vs : List Nat) (it : Im) (g : Gm) (c elt : Xm) : Xm := fun en => (it en).bind fun p => (compLO vs g c elt p.1 [] (wipeE p.2 vs)).bind fun q => .ok (.lst q.1, putBack p.2 vs q.2)
theorem compO_read {vs ws : List Nat} {it : Im} {g : Gm} {c elt : Xm} (hw : ∀ i ∈ ws, i ∈ vs) (σ : St) (H : Hp) (Q : VK) (q : tE K (mCompO vs it g c elt) σ H Q) : tLc (tI K it) (tG K ws g) (tT K c) (tE K elt) vs σ H Q := by
  obtain ⟨F, S, en, o, en', W, hm, k⟩ := q
  obtain ⟨⟨ds, e1⟩, h1, hm⟩ := R.ok_of_bind hm
  obtain ⟨⟨acc', e9⟩, h2, hm⟩ := R.ok_of_bind hm
  cases hm
  refine ⟨F, S, en, ds, e1, W, h1, fun J F1 H1 S1 st1 W1 wk D hD => ?_⟩
  obtain ⟨S2, sub2, W2⟩ := wf_wipe W1 vs
  obtain ⟨G, wk, hG⟩ := wk.ex
  have st0 := (W2.newLst (xs := []) (ds := []) hD .nil).1
  have W0 := (W2.newLst (xs := []) (ds := []) hD .nil).2
  refine lc_it wk (fun i H => ∃ F' S' e2 acc, Step F1 H1 S2 F' H S' ∧ WF K F' H (some (.ref D) :: wipe σ vs) (some (.lst acc) :: e2) S' ∧ compLO vs g c elt (ds.drop i) acc e2 = .ok (acc', e9)) ?_ ?_ ?_ ?_
  · exact ⟨F1, D :: S2, _, [], st0, W0, h2⟩
  · rintro i H _ ⟨F', S', e2, acc, st, W', _⟩
    exact hG H (st.ff.trans W'.fh) fun _ z => absurd z List.not_mem_nil
  · rintro i x H2 H3 hi ⟨F', S', e2, acc, st, W', hf⟩ ⟨d, hd, y⟩
    obtain ⟨F2, st2, W2', dp, keep⟩ := y.wf W' st.ff
    rw [drop_at hd] at hf
    obtain ⟨e3, b, e4, g1, c1, hf⟩ := compLO_ok hf
    obtain ⟨A, T, rfl, ro, WT⟩ := W2'.split
    refine ⟨F2, T, e2, d, e3, WT, dp, g1, fun σ2 S3 sub W3 ju => ⟨wipe_just ju hw, ?_⟩⟩
    have ewp : wipe σ2 vs = wipe σ vs := wipe_just ju hw
    refine ⟨F2, S3, e3, b, e4, W3, c1, fun F4 H4 S4 st4 W4 => ?_⟩
    have stT : Step F2 H3 T F4 H4 S4 := (Step.refl.sub sub).trans st4
    cases b with
    | true =>
      obtain ⟨o, e5, l1, l3, hf⟩ := hf
      refine ⟨F4, S4, e4, o, e5, W4, l1, fun v F5 H5 S5 st5 W5 => ?_⟩
      obtain ⟨Bv, Tv, rfl, rv, Wv⟩ := W5.split
      obtain ⟨T7, sub7, W8⟩ := wf_wipe Wv vs
      rw [ewp] at W8
      have W9 := WF.join rv W8 (fun x hx => sub7.subset hx) W5.nd fun x hx => W5.off x (List.mem_append_left _ hx)
      have stv : Step F2 H3 T F5 H5 (Bv ++ T7) := (stT.trans st5).sub fun x hx => by
        rcases List.mem_append.mp hx with z | z
        · exact List.mem_append_left _ z
        · exact List.mem_append_right _ (sub7.subset z)
      obtain ⟨W10, st10⟩ := WF.hold ro W2' stv W9
      obtain ⟨avs, hav⟩ : ∃ avs, H5 D = some (.lst avs) := by
        obtain ⟨_, _, _, r, _⟩ := W10.split
        cases r with
        | lst h _ => exact ⟨_, h⟩
      have hal : avs.length = acc.length := by
        obtain ⟨_, _, _, r, _⟩ := W10.split
        cases r with
        | lst h rs => rw [hav] at h; cases h; exact (ROs.length rs).symm
      obtain ⟨eUp, inS, fD, W11⟩ := W10.push hav
      refine ⟨avs, hav, by rw [hal]; exact l3, F5, _, wipeE e5 vs, acc ++ [o], ⟨(st.trans st2).ff.trans st10.ff, fun x u z n => ?_, ((st.trans st2).trans st10).s, ((st.trans st2).trans st10).f⟩, W11, hf⟩
      rw [eUp x (fun q => by rw [q, hD] at z; cases z)]
      exact ((st.trans st2).trans st10).hh x u z n
    | false =>
      obtain ⟨T7, sub7, W8⟩ := wf_wipe W4 vs
      rw [ewp] at W8
      obtain ⟨W10, st10⟩ := WF.hold ro W2' (stT.sub fun x hx => sub7.subset hx) W8
      exact ⟨F4, _, wipeE e4 vs, acc, (st.trans st2).trans st10, W10, hf⟩
  · rintro H ⟨F', S', e2, acc, st, W', hf⟩
    rw [List.drop_eq_nil_of_le (Nat.le_refl _)] at hf
    cases hf
    obtain ⟨A, T, rfl, ro, WT⟩ := W'.split
    obtain ⟨S3, sub3, W3⟩ := wf_back W1 vs WT st.ff (wipe_length σ vs) wipe_len0
    have W4 := WF.join ro W3 sub3 W'.nd fun x hx => W'.off x (List.mem_append_left _ hx)
    refine k (.ref D) F' H _ (st1.trans ⟨st.ff, fun a o e n => st.hh a o e fun z => n (sub2.subset z), fun a ha => ?_, fun a ha => ?_⟩) W4
    · rcases List.mem_append.mp ha with z | z
      · rcases st.s a (List.mem_append_left _ z) with y | y
        · exact .inl (sub2.subset y)
        · exact .inr y
      · rcases st.s a (List.mem_append_right _ (sub3 a z)) with y | y
        · exact .inl (sub2.subset y)
        · exact .inr y
    · rcases st.f a ha with z | z
      · exact .inl (sub2.subset z)
      · exact .inr z
theorem ce_compO {elt tg iter : Expr} {ifs : List Expr} {scope : Scope} {own : List (Str × Nat)} {ws : List Nat} {it : Im} {g : Gm} {mc me : Xm} (hc : X.calm = true) (hN : X.N.Nodup) (hi : CI X tg iter it) (ok : BlkOk X.N X.env.scope scope own) (hw : ∀ i ∈ ws, i ∈ own.map (·.2))
    (hg : ∀ (s : Shared) (H : Hp) (C : Addr) (cl : List (Str × Addr)) (fp : List Addr), CG (X.blk s H scope (compEnvC scope cl C X.env) fp) ws tg g) (ht : ∀ (s : Shared) (H : Hp) (C : Addr) (cl : List (Str × Addr)) (fp : List Addr), CTs (X.blk s H scope (compEnvC scope cl C X.env) fp) ifs mc)
    (he : ∀ (s : Shared) (H : Hp) (C : Addr) (cl : List (Str × Addr)) (fp : List Addr), CE (X.blk s H scope (compEnvC scope cl C X.env) fp) elt me) (hs : ∀ x, foldedSetIterable iter X.env x = pure x := by intro _; rfl) :
    CE X (.ListComp elt [⟨tg, iter, ifs, 0⟩] scope pos) (mCompO (own.map (·.2)) it g mc me) := PE.imp (pe_lc (g := tG X.K ws g) (tt := tT X.K mc) (te := tE X.K me) hc hN hi ok hg ht he hs) (compO_read hw)
/-- a comprehension of objects without a state, by one equation -/
theorem compLO_eq {vs : List Nat} {g : Gm} {elt : Xm} {en : En} (y : PyData → O) : ∀ {ds : List PyData} {acc : List O}, acc.length + ds.length ≤ sizeLine →
    (∀ d ∈ ds, ((g d en).bind fun e1 => (elt e1).bind fun p => R.ok (p.1, wipeE p.2 vs)) = .ok (y d, en)) → compLO vs g mYes elt ds acc en = .ok (acc ++ ds.map y, en)
  | [], acc, _, _ => by simp [compLO]
  | d :: ds, acc, hl, h => by
    obtain ⟨e1, h1, h2⟩ := R.ok_of_bind (h d (List.mem_cons_self ..))
    obtain ⟨⟨o, e3⟩, h3, h4⟩ := R.ok_of_bind h2
    have h5 : (o, wipeE e3 vs) = (y d, en) := by injection h4
    obtain ⟨h6, h7⟩ := Prod.mk.inj h5
    subst h6
    rw [List.length_cons] at hl
    have ih := compLO_eq (vs := vs) (g := g) (elt := elt) (en := en) y (ds := ds) (acc := acc ++ [y d]) (by rw [List.length_append, List.length_singleton]; omega) fun d hd => h d (List.mem_cons_of_mem _ hd)
    unfold compLO
    rw [h1, R.bind_ok]
    show (R.ok (O.leaf (.bool true), e1)).bind _ = _
    rw [R.bind_ok]
    dsimp only
    rw [h3, R.bind_ok]
    dsimp only
    rw [if_pos (by rw [sizeL_eq]; omega), h7, ih, List.append_assoc]
    rfl
end
end
end Ev
namespace Ev
noncomputable section
open PySem PySem.Spec L2 Evl
/-! ### data whose text is short -/
structure Tame (dp n : Nat) (d : PyData) : Prop where
  lay : d.canLay0 = true
  dep : d.depth ≤ dp
  lv : d.leavesShort 80 = true
  sh : d.showable = true
  wt : d.weight ≤ n
theorem Tame.mono {dp n dp' n' : Nat} {d : PyData} (h : Tame dp n d) (h1 : dp ≤ dp') (h2 : n ≤ n') : Tame dp' n' d := ⟨h.lay, Nat.le_trans h.dep h1, h.lv, h.sh, Nat.le_trans h.wt h2⟩
theorem log2_lt {n k : Nat} (h : n < 2 ^ (k + 1)) : n.log2 ≤ k := by
  by_cases h0 : n = 0
  · subst h0; exact Nat.zero_le _
  · have := (Nat.log2_lt h0).mpr h
    omega
theorem Tame.int {i : Int} (h : i.natAbs < 2 ^ 200) : Tame 0 200 (.int i) where
  lay := by simp [PyData.canLay0]
  dep := by simp [PyData.depth]
  lv := by
    have e := int_text_length_le10 (k := 61) (a := i) (by decide) (Nat.lt_of_lt_of_le h (by decide))
    have e2 : (PyData.shown (.int i)).length ≤ 62 := by
      show (Str.ofString (toString i)).length ≤ 62
      rw [ofString_length]
      exact e
    simp only [PyData.leavesShort, decide_eq_true_eq]
    omega
  sh := by
    have := log2_lt (n := i.natAbs) (k := 199) h
    simp only [PyData.showable, decide_eq_true_eq]
    omega
  wt := by
    have := log2_lt (n := i.natAbs) (k := 199) h
    simp only [PyData.weight]
    split <;> omega
theorem tame_all {dp n : Nat} : ∀ {ds : List PyData}, (∀ d ∈ ds, Tame dp n d) → PyData.canLayAll0 ds = true ∧ PyData.depthAll ds ≤ dp ∧ PyData.leavesShortAll 80 ds = true ∧ PyData.showableAll ds = true ∧ PyData.weightAll ds ≤ ds.length * (n + 1)
  | [], _ => by simp [PyData.canLayAll0, PyData.depthAll, PyData.leavesShortAll, PyData.showableAll, PyData.weightAll]
  | d :: ds, h => by
    have h1 := h d (List.mem_cons_self ..)
    obtain ⟨a, b, c, e, f⟩ := tame_all fun d hd => h d (List.mem_cons_of_mem _ hd)
    refine ⟨by simp [PyData.canLayAll0, h1.lay, a], ?_, by simp [PyData.leavesShortAll, h1.lv, c], by simp [PyData.showableAll, h1.sh, e], ?_⟩
    · simp only [PyData.depthAll]
      have := h1.dep
      omega
    · simp only [PyData.weightAll, List.length_cons]
      have := h1.wt
      rw [Nat.add_mul, Nat.one_mul]
      omega
theorem Tame.list {dp n m : Nat} {ds : List PyData} (h : ∀ d ∈ ds, Tame dp n d) (hl : ds.length ≤ m) : Tame (dp + 1) (m * (n + 1)) (.list ds) := by
  obtain ⟨a, b, c, e, f⟩ := tame_all h
  have g : ds.length * (n + 1) ≤ m * (n + 1) := Nat.mul_le_mul_right _ hl
  exact ⟨by simp [PyData.canLay0, a], by simp only [PyData.depth]; omega, by simp [PyData.leavesShort, c], by simp [PyData.showable, e], by simp only [PyData.weight]; omega⟩
theorem Tame.tuple {dp n m : Nat} {ds : List PyData} (h : ∀ d ∈ ds, Tame dp n d) (hl : ds.length ≤ m) : Tame (dp + 1) (m * (n + 1)) (.tuple ds) := by
  obtain ⟨a, b, c, e, f⟩ := tame_all h
  have g : ds.length * (n + 1) ≤ m * (n + 1) := Nat.mul_le_mul_right _ hl
  exact ⟨by simp [PyData.canLay0, a], by simp only [PyData.depth]; omega, by simp [PyData.leavesShort, c], by simp [PyData.showable, e], by simp only [PyData.weight]; omega⟩
theorem Tame.shaped {dp n : Nat} {d : PyData} (h : Tame dp n d) (h1 : dp ≤ 64) : SeqAt.shaped d = true := by
  unfold SeqAt.shaped
  rw [Bool.and_eq_true]
  exact ⟨h.lay, decide_eq_true (Nat.le_trans h.dep h1)⟩
theorem Tame.repr {dp n : Nat} {d : PyData} (h : Tame dp n d) (h1 : dp ≤ 64) (h2 : n ≤ 200000) : oRepr d = some (.leaf (.str d.shown)) := by
  have e := PyData.shown_le 80 (by decide) d h.lv
  have w : (80 + 2) * d.weight ≤ (80 + 2) * 200000 := Nat.mul_le_mul_left _ (Nat.le_trans h.wt h2)
  have sz : 82 * 200000 + 80 ≤ sizeLine := by decide
  exact if_pos ⟨h.shaped h1, h.sh, by rw [sizeL_eq]; omega⟩
end
end Ev
namespace K42
noncomputable section
open PySem PySem.Spec L2 Evl Ev
/-! ### the text (printed by gen.py) -/
def topS (i : Nat) : Stmt := PySem.Challenge.pw_foralldeciders_k42_whole_turned.main.body.getD i (.Pass ⟨0, 0, 0, 0⟩)
section
variable {P : Program} {w : World} {K : PySem.W.Frag} {mg : Str → Option Value} {base : Heap}
abbrev st__law_bag : Stmt := topS 9
theorem sc__law_bag : FnScope ["script", "cells", "stirred", "cell"] ["script"] (defScope st__law_bag) := ⟨rfl, rfl, rfl, by decide +kernel, rfl, by decide +kernel, by decide +kernel⟩
def b__law_bag : Sm := sSeq (sSet 1 (mComp [3] (iSeq (mScr 0 63)) (gNm 3) (mYes) (mAs (o1 oAbs) (aCons (oPk' 3) (aNil))))) (sSeq (sSet 2 (mOp2 oAdd (oE (mC (.int 16246))) (oE (mAs (o1 oLen) (aCons (oPk' 1) (aNil)))))) (sSeq (sFor (iSeq (mFz 1)) (gNm 3) (sSet 2 (mOp2 oMod (oE (mAs (o1 oInt) (aCons (oE (mOp2 oAdd (oE (mOp2 oAdd (oE (mOp2 oMul (oPk' 2) (oE (mC (.int 48271))))) (oE (mOp2 oMod (oE (mAs (o1 oInt) (aCons (oPk' 3) (aNil)))) (oE (mC (.int 2147483629))))))) (oE (mC (.int 13))))) (aNil)))) (oE (mC (.int 2147483647)))))) (sRet (mLstO (hCons (mRev (oPk' 1)) (hCons (mC (.int 0)) (hCons (mFz 2) (hNil))))))))
def f__law_bag : Fn := runDef true 1 3 b__law_bag
theorem ok__law_bag (m_abs : mg "abs" = none) (m_int : mg "int" = none) (m_len : mg "len" = none) (m_list : mg "list" = none) (m_reversed : mg "reversed" = none) {fa : Addr} {fd : FuncData} (F : Fun K "_law_bag" "_law_bag" st__law_bag fa fd) (hm : mg "_law_bag" = some (.ref fa)) : Def P w K mg base 1 "_law_bag" st__law_bag ["script"] f__law_bag :=
  Def.mk' F (fun_ok F sc__law_bag rfl (fun cdv A outer s H E hr hgd => css_cons (cs_setComp (own := [("cell", 3)]) (i := 1) rfl sc__law_bag.nd rfl rfl (by rfl) (ci_seq (ce_scr (pv 0))) (blkOk_by (by rfl)) (by decide) (fun _ _ _ _ _ => cg_nm sc__law_bag.nd rfl (.inl rfl) (.inr rfl)) (fun _ _ _ _ _ => cts_nil) (fun _ _ _ _ _ => ce_b call_abs abs_snd (by rfl) m_abs (by decide +kernel) (ca_cons (co_pk (pv 3)) (ca_nil)))) (css_cons (cs_set sc__law_bag.nd rfl (.inl rfl) (ce_add (co_e (ce_int)) (co_e (ce_b call_len len_snd (by rfl) m_len (by decide +kernel) (ca_cons (co_pk (pv 1)) (ca_nil)))))) (css_cons (cs_for PassesOwn.never rfl (ci_seq (ce_nm (pv 1))) (cg_nm sc__law_bag.nd rfl (.inl rfl) (.inr rfl)) (css_one (cs_set sc__law_bag.nd rfl (.inl rfl) (ce_mod (co_e (ce_ty call_int1 int_snd (by rfl) m_int (by decide +kernel) (ca_cons (co_e (ce_add (co_e (ce_add (co_e (ce_mul (co_pk (pv 2)) (co_e (ce_int)))) (co_e (ce_mod (co_e (ce_ty call_int1 int_snd (by rfl) m_int (by decide +kernel) (ca_cons (co_pk (pv 3)) (ca_nil)))) (co_e (ce_int)))))) (co_e (ce_int)))) (ca_nil)))) (co_e (ce_int)))))) (css_one (cs_ret (ce_lstO (ch_cons (ce_listRev rfl (by rfl) m_list (by rfl) m_reversed (co_pk (pv 1))) (ch_cons (ce_int) (ch_cons (ce_nm (pv 2)) (ch_nil))))))))))) hm (F.binds (fun _ _ _ _ _ _ us hl => match us, hl with | [_], _ => rfl))
abbrev st__law_draw : Stmt := topS 10
theorem sc__law_draw : FnScope ["bag", "below", "cell", "found"] ["bag", "below"] (defScope st__law_draw) := ⟨rfl, rfl, rfl, by decide +kernel, rfl, by decide +kernel, by decide +kernel⟩
def b__law_draw : Sm := sSeq (sWh (mAnd (mOp2 (oEq) (oAt 0 1) (oE (mC (.int 0)))) (mBagNe 0 0)) (sSeq (sSet 2 (mPopAt 0 0)) (sSetIx 0 (mC (.int 1)) (mIf (mOp2 (oGt) (oPk' 2) (oE (mOp2 oPow (oE (mC (.int 10))) (oE (mC (.int 9)))))) (mFz 2) (mC (.int 0)))))) (sSeq (sIf (mOp2 (oGt) (oAt 0 1) (oE (mC (.int 0)))) (sSeq (sSet 3 (mOp2 oMod (oE (mAs (o1 oInt) (aCons (oAt 0 1) (aNil)))) (oPk' 1))) (sSeq (sSetIx 0 (mC (.int 1)) (mOp2 oDiv (oAt 0 1) (oPk' 1))) (sRet (mMv 3)))) (sSkip)) (sSeq (sSetIx 0 (mC (.int 2)) (mOp2 oMod (oE (mAs (o1 oInt) (aCons (oE (mOp2 oAdd (oE (mOp2 oMul (oAt 0 2) (oE (mC (.int 48271))))) (oE (mC (.int 19))))) (aNil)))) (oE (mC (.int 2147483647))))) (sRet (mOp2 oMod (oE (mAs (o1 oInt) (aCons (oE (mOp2 oDiv (oE (mOp2 oMod (oE (mAs (o1 oInt) (aCons (oE (mOp2 oMul (oAt 0 2) (oAt 0 2))) (aNil)))) (oE (mC (.int 2147483629))))) (oE (mC (.int 7))))) (aNil)))) (oPk' 1)))))
def f__law_draw : Fn := runDef true 2 2 b__law_draw
theorem ok__law_draw (m_int : mg "int" = none) {fa : Addr} {fd : FuncData} (F : Fun K "_law_draw" "_law_draw" st__law_draw fa fd) (hm : mg "_law_draw" = some (.ref fa)) : Def P w K mg base 1 "_law_draw" st__law_draw ["bag", "below"] f__law_draw :=
  Def.mk' F (fun_ok F sc__law_draw rfl (fun cdv A outer s H E hr hgd => css_cons (cs_wh PassesOwn.never (CW.ct (cw_and (ct_eq (co_at (pv 0)) (co_e (ce_int)) (lt64 hr)) (cw_and1 (ct_bagNe (pv 0) (lt64 hr))))) (css_cons (cs_set sc__law_draw.nd rfl (.inl rfl) (ce_popAt (pv 0))) (css_one (cs_setIx (pv 0) (ce_int) (ce_if (ct_gt (co_pk (pv 2)) (co_e (ce_pow (co_e (ce_int)) (co_e (ce_int))))) (ce_nm (pv 2)) (ce_int)))))) (css_cons (cs_if (ct_gt (co_at (pv 0)) (co_e (ce_int))) (css_cons (cs_set sc__law_draw.nd rfl (.inl rfl) (ce_mod (co_e (ce_ty call_int1 int_snd (by rfl) m_int (by decide +kernel) (ca_cons (co_at (pv 0)) (ca_nil)))) (co_pk (pv 1)))) (css_cons (cs_setIx (pv 0) (ce_int) (ce_div (co_at (pv 0)) (co_pk (pv 1)))) (css_one (cs_ret (ce_mv (pv 3)))))) (css_nil)) (css_cons (cs_setIx (pv 0) (ce_int) (ce_mod (co_e (ce_ty call_int1 int_snd (by rfl) m_int (by decide +kernel) (ca_cons (co_e (ce_add (co_e (ce_mul (co_at (pv 0)) (co_e (ce_int)))) (co_e (ce_int)))) (ca_nil)))) (co_e (ce_int)))) (css_one (cs_ret (ce_mod (co_e (ce_ty call_int1 int_snd (by rfl) m_int (by decide +kernel) (ca_cons (co_e (ce_div (co_e (ce_mod (co_e (ce_ty call_int1 int_snd (by rfl) m_int (by decide +kernel) (ca_cons (co_e (ce_mul (co_at (pv 0)) (co_at (pv 0)))) (ca_nil)))) (co_e (ce_int)))) (co_e (ce_int)))) (ca_nil)))) (co_pk (pv 1))))))))) hm (F.binds (fun _ _ _ _ _ _ us hl => match us, hl with | [_, _], _ => rfl))
abbrev st__law_row : Stmt := topS 17
theorem sc__law_row : FnScope ["bag", "whole", "many", "found", "turn", "place"] ["bag", "whole", "many"] (defScope st__law_row) := ⟨rfl, rfl, rfl, by decide +kernel, rfl, by decide +kernel, by decide +kernel⟩
def b__law_row : Sm := sSeq (sSet 3 (mOp2 oMul (oE (mLst (fCons (mC (.int 0)) (fNil)))) (oPk' 2))) (sSeq (sFor (iRange (aCons (oPk' 1) (aNil))) (gNm 4) (sSeq (sSet 5 (mCallP f__law_draw 0 (fCons (mFz 2) (fNil)))) (sSetIx 3 (mFz 5) (mOp2 oAdd (oE (mOp2 oIx (oPk' 3) (oPk' 5))) (oE (mC (.int 1))))))) (sRet (mAs (o1 oTuple) (aCons (oPk' 3) (aNil)))))
def f__law_row : Fn := runDef true 3 3 b__law_row
theorem ok__law_row (D__law_draw : Def P w K mg base 1 "_law_draw" st__law_draw ["bag", "below"] f__law_draw) (m_range : mg "range" = none) (m_tuple : mg "tuple" = none) {fa : Addr} {fd : FuncData} (F : Fun K "_law_row" "_law_row" st__law_row fa fd) (hm : mg "_law_row" = some (.ref fa)) : Def P w K mg base 2 "_law_row" st__law_row ["bag", "whole", "many"] f__law_row :=
  Def.mk' F (fun_ok F sc__law_row rfl (fun cdv A outer s H E hr hgd => css_cons (cs_set sc__law_row.nd rfl (.inl rfl) (ce_mul (co_e (ce_lst (cf_cons (ce_int) (cf_nil)))) (co_pk (pv 2)))) (css_cons (cs_for PassesOwn.never rfl (ci_range1 (by rfl) m_range (ca_cons (co_pk (pv 1)) (ca_nil)) (hone := (aCons_len (aNil_len)))) (cg_nm sc__law_row.nd rfl (.inl rfl) (.inr rfl)) (css_cons (cs_set sc__law_row.nd rfl (.inl rfl) (ce_callPD D__law_draw (hr.mono (by decide)) hgd (by rfl) (pv 0) (cf_cons (ce_nm (pv 2)) (cf_nil)))) (css_one (cs_setIx (pv 3) (ce_nm (pv 5)) (ce_add (co_e (ce_idx (co_pk (pv 3)) (co_pk (pv 5)))) (co_e (ce_int))))))) (css_one (cs_ret (ce_ty call_tuple_of tuple_snd (by rfl) m_tuple (by decide +kernel) (ca_cons (co_pk (pv 3)) (ca_nil)))))))) hm (F.binds (fun _ _ _ _ _ _ us hl => match us, hl with | [_, _, _], _ => rfl))
abbrev st__law_channel : Stmt := topS 21
theorem sc__law_channel : FnScope ["bag", "ins", "outs", "most", "whole", "way"] ["bag", "ins", "outs", "most"] (defScope st__law_channel) := ⟨rfl, rfl, rfl, by decide +kernel, rfl, by decide +kernel, by decide +kernel⟩
def b__law_channel : Sm := sSeq (sSet 4 (mOp2 oAdd (oE (mC (.int 1))) (oE (mCallP f__law_draw 0 (fCons (mFz 3) (fNil)))))) (sRet (mTup (fCons (mFz 4) (fCons (mAs (o1 oTuple) (aCons (oE (mComp [5] (iRange (aCons (oPk' 1) (aNil))) (gNm 5) (mYes) (mCallP f__law_row 0 (fCons (mFz 4) (fCons (mFz 2) (fNil)))))) (aNil))) (fNil)))))
def f__law_channel : Fn := runDef true 4 2 b__law_channel
theorem ok__law_channel (D__law_draw : Def P w K mg base 1 "_law_draw" st__law_draw ["bag", "below"] f__law_draw) (D__law_row : Def P w K mg base 2 "_law_row" st__law_row ["bag", "whole", "many"] f__law_row) (m_range : mg "range" = none) (m_tuple : mg "tuple" = none) {fa : Addr} {fd : FuncData} (F : Fun K "_law_channel" "_law_channel" st__law_channel fa fd) (hm : mg "_law_channel" = some (.ref fa)) : Def P w K mg base 3 "_law_channel" st__law_channel ["bag", "ins", "outs", "most"] f__law_channel :=
  Def.mk' F (fun_ok F sc__law_channel rfl (fun cdv A outer s H E hr hgd => css_cons (cs_set sc__law_channel.nd rfl (.inr rfl) (ce_add (co_e (ce_int)) (co_e (ce_callPD D__law_draw (hr.mono (by decide)) hgd (by rfl) (pv 0) (cf_cons (ce_nm (pv 3)) (cf_nil)))))) (css_one (cs_ret (ce_tup (cf_cons (ce_nm (pv 4)) (cf_cons (ce_ty call_tuple_of tuple_snd (by rfl) m_tuple (by decide +kernel) (ca_cons (co_e (ce_comp (own := [("way", 5)]) rfl sc__law_channel.nd (ci_range1 (by rfl) m_range (ca_cons (co_pk (pv 1)) (ca_nil)) (hone := (aCons_len (aNil_len)))) (blkOk_by (by rfl)) (by decide) (fun _ _ _ _ _ => cg_nm sc__law_channel.nd rfl (.inl rfl) (.inr rfl)) (fun _ _ _ _ _ => cts_nil) (fun _ _ _ _ _ => ce_callPD D__law_row (hr.mono (by decide)) hgd (by rfl) (pv 0) (cf_cons (ce_nm (pv 4)) (cf_cons (ce_nm (pv 2)) (cf_nil)))))) (ca_nil))) (cf_nil)))))))) hm (F.binds (fun _ _ _ _ _ _ us hl => match us, hl with | [_, _, _, _], _ => rfl))
abbrev st__law_turning : Stmt := topS 25
theorem sc__law_turning : FnScope ["bag", "ins", "outs", "more", "many", "one", "place"] ["bag", "ins", "outs", "more", "many"] (defScope st__law_turning) := ⟨rfl, rfl, rfl, by decide +kernel, rfl, by decide +kernel, by decide +kernel⟩
def b__law_turning : Sm := sSeq (sSet 5 (mAs (o1 oTuple) (aCons (oE (mComp [6] (iRange (aCons (oPk' 3) (aNil))) (gNm 6) (mYes) (mCallP f__law_draw 0 (fCons (mFz 1) (fNil))))) (aNil)))) (sRet (mTup (fCons (mFz 5) (fCons (mAs (o1 oTuple) (aCons (oE (mComp [6] (iRange (aCons (oPk' 2) (aNil))) (gNm 6) (mYes) (mCallP f__law_draw 0 (fCons (mFz 4) (fNil))))) (aNil))) (fNil)))))
def f__law_turning : Fn := runDef true 5 2 b__law_turning
theorem ok__law_turning (D__law_draw : Def P w K mg base 1 "_law_draw" st__law_draw ["bag", "below"] f__law_draw) (m_range : mg "range" = none) (m_tuple : mg "tuple" = none) {fa : Addr} {fd : FuncData} (F : Fun K "_law_turning" "_law_turning" st__law_turning fa fd) (hm : mg "_law_turning" = some (.ref fa)) : Def P w K mg base 2 "_law_turning" st__law_turning ["bag", "ins", "outs", "more", "many"] f__law_turning :=
  Def.mk' F (fun_ok F sc__law_turning rfl (fun cdv A outer s H E hr hgd => css_cons (cs_set sc__law_turning.nd rfl (.inl rfl) (ce_ty call_tuple_of tuple_snd (by rfl) m_tuple (by decide +kernel) (ca_cons (co_e (ce_comp (own := [("place", 6)]) rfl sc__law_turning.nd (ci_range1 (by rfl) m_range (ca_cons (co_pk (pv 3)) (ca_nil)) (hone := (aCons_len (aNil_len)))) (blkOk_by (by rfl)) (by decide) (fun _ _ _ _ _ => cg_nm sc__law_turning.nd rfl (.inl rfl) (.inr rfl)) (fun _ _ _ _ _ => cts_nil) (fun _ _ _ _ _ => ce_callPD D__law_draw (hr.mono (by decide)) hgd (by rfl) (pv 0) (cf_cons (ce_nm (pv 1)) (cf_nil))))) (ca_nil)))) (css_one (cs_ret (ce_tup (cf_cons (ce_nm (pv 5)) (cf_cons (ce_ty call_tuple_of tuple_snd (by rfl) m_tuple (by decide +kernel) (ca_cons (co_e (ce_comp (own := [("place", 6)]) rfl sc__law_turning.nd (ci_range1 (by rfl) m_range (ca_cons (co_pk (pv 2)) (ca_nil)) (hone := (aCons_len (aNil_len)))) (blkOk_by (by rfl)) (by decide) (fun _ _ _ _ _ => cg_nm sc__law_turning.nd rfl (.inl rfl) (.inr rfl)) (fun _ _ _ _ _ => cts_nil) (fun _ _ _ _ _ => ce_callPD D__law_draw (hr.mono (by decide)) hgd (by rfl) (pv 0) (cf_cons (ce_nm (pv 4)) (cf_nil))))) (ca_nil))) (cf_nil)))))))) hm (F.binds (fun _ _ _ _ _ _ us hl => match us, hl with | [_, _, _, _, _], _ => rfl))
abbrev st_divisor : Stmt := topS 1
theorem sc_divisor : FnScope ["numbers", "found", "number", "rest"] ["numbers"] (defScope st_divisor) := ⟨rfl, rfl, rfl, by decide +kernel, rfl, by decide +kernel, by decide +kernel⟩
def b_divisor : Sm := sSeq (sSet 1 (mC (.int 0))) (sSeq (sFor (iSeq (mFz 0)) (gNm 2) (sSeq (sSet 3 (mAs (o1 oAbs) (aCons (oPk' 2) (aNil)))) (sWh (mOp2 (oGt) (oPk' 3) (oE (mC (.int 0)))) (sPar 1 3 (mFz 3) (mOp2 oMod (oPk' 1) (oPk' 3)))))) (sRet (mMv 1)))
def f_divisor : Fn := runDef false 1 3 b_divisor
theorem ok_divisor (m_abs : mg "abs" = none) {fa : Addr} {fd : FuncData} (F : Fun K "divisor" "divisor" st_divisor fa fd) (hm : mg "divisor" = some (.ref fa)) : Def P w K mg base 1 "divisor" st_divisor ["numbers"] f_divisor :=
  Def.mk' F (fun_ok F sc_divisor rfl (fun cdv A outer s H E hr hgd => css_cons (cs_set sc_divisor.nd rfl (.inl rfl) (ce_int)) (css_cons (cs_for PassesOwn.never rfl (ci_seq (ce_nm (pv 0))) (cg_nm sc_divisor.nd rfl (.inl rfl) (.inr rfl)) (css_cons (cs_set sc_divisor.nd rfl (.inl rfl) (ce_b call_abs abs_snd (by rfl) m_abs (by decide +kernel) (ca_cons (co_pk (pv 2)) (ca_nil)))) (css_one (cs_wh PassesOwn.never (ct_gt (co_pk (pv 3)) (co_e (ce_int))) (css_one (cs_par rfl sc_divisor.nd rfl rfl (by decide) rfl rfl (ce_nm (pv 3)) (ce_mod (co_pk (pv 1)) (co_pk (pv 3))))))))) (css_one (cs_ret (ce_mv (pv 1))))))) hm (F.binds (fun _ _ _ _ _ _ us hl => match us, hl with | [_], _ => rfl))
abbrev st_bare_channel : Stmt := topS 3
theorem sc_bare_channel : FnScope ["whole", "rows", "common", "row", "item"] ["whole", "rows"] (defScope st_bare_channel) := ⟨rfl, rfl, rfl, by decide +kernel, rfl, by decide +kernel, by decide +kernel⟩
def b_bare_channel : Sm := sSeq (sSet 2 (mCall f_divisor (fCons (mOp2 oAdd (oE (mLst (fCons (mFz 0) (fNil)))) (oE (mComp2 [3, 4] (iSeq (mFz 1)) (gNm 3) (mYes) (iSeq (mFz 3)) [4] (gNm 4) (mYes) (mFz 4)))) (fNil)))) (sRet (mTup (fCons (mOp2 oDiv (oPk' 0) (oPk' 2)) (fCons (mAs (o1 oTuple) (aCons (oE (mComp [3] (iSeq (mFz 1)) (gNm 3) (mYes) (mAs (o1 oTuple) (aCons (oE (mComp [4] (iSeq (mFz 3)) (gNm 4) (mYes) (mOp2 oDiv (oPk' 4) (oPk' 2)))) (aNil))))) (aNil))) (fNil)))))
def f_bare_channel : Fn := runDef false 2 3 b_bare_channel
theorem ok_bare_channel (D_divisor : Def P w K mg base 1 "divisor" st_divisor ["numbers"] f_divisor) (m_tuple : mg "tuple" = none) {fa : Addr} {fd : FuncData} (F : Fun K "bare_channel" "bare_channel" st_bare_channel fa fd) (hm : mg "bare_channel" = some (.ref fa)) : Def P w K mg base 2 "bare_channel" st_bare_channel ["whole", "rows"] f_bare_channel :=
  Def.mk' F (fun_ok F sc_bare_channel rfl (fun cdv A outer s H E hr hgd => css_cons (cs_set sc_bare_channel.nd rfl (.inr rfl) (ce_callD D_divisor (hr.mono (by decide)) hgd (by rfl) (cf_cons (ce_add (co_e (ce_lst (cf_cons (ce_nm (pv 0)) (cf_nil)))) (co_e (ce_comp2 (own := [("row", 3), ("item", 4)]) (vs1 := [4]) rfl sc_bare_channel.nd (ci_seq (ce_nm (pv 1))) (blkOk_by (by rfl)) (by decide) (by decide) (by decide) (fun _ _ _ _ _ => cg_nm sc_bare_channel.nd rfl (.inl rfl) (.inr rfl)) (fun _ _ _ _ _ => cts_nil) (fun _ _ _ _ _ => ci_seq (ce_nm (pv 3))) (fun _ _ _ _ _ => cg_nm sc_bare_channel.nd rfl (.inl rfl) (.inr rfl)) (fun _ _ _ _ _ => cts_nil) (fun _ _ _ _ _ => ce_nm (pv 4))))) (cf_nil)))) (css_one (cs_ret (ce_tup (cf_cons (ce_div (co_pk (pv 0)) (co_pk (pv 2))) (cf_cons (ce_ty call_tuple_of tuple_snd (by rfl) m_tuple (by decide +kernel) (ca_cons (co_e (ce_comp (own := [("row", 3)]) rfl sc_bare_channel.nd (ci_seq (ce_nm (pv 1))) (blkOk_by (by rfl)) (by decide) (fun _ _ _ _ _ => cg_nm sc_bare_channel.nd rfl (.inl rfl) (.inr rfl)) (fun _ _ _ _ _ => cts_nil) (fun _ _ _ _ _ => ce_ty call_tuple_of tuple_snd (by rfl) m_tuple (by decide +kernel) (ca_cons (co_e (ce_comp (own := [("item", 4)]) rfl sc_bare_channel.nd (ci_seq (ce_nm (pv 3))) (blkOk_by (by rfl)) (by decide) (fun _ _ _ _ _ => cg_nm sc_bare_channel.nd rfl (.inl rfl) (.inr rfl)) (fun _ _ _ _ _ => cts_nil) (fun _ _ _ _ _ => ce_div (co_pk (pv 4)) (co_pk (pv 2))))) (ca_nil))))) (ca_nil))) (cf_nil)))))))) hm (F.binds (fun _ _ _ _ _ _ us hl => match us, hl with | [_, _], _ => rfl))
abbrev st_turned_rows : Stmt := topS 4
theorem sc_turned_rows : FnScope ["one", "ins", "outs", "many", "found", "place", "row", "item", "out"] ["one", "ins", "outs", "many"] (defScope st_turned_rows) := ⟨rfl, rfl, rfl, by decide +kernel, rfl, by decide +kernel, by decide +kernel⟩
def b_turned_rows : Sm := sSeq (sSet 4 (mLst (fNil))) (sSeq (sFor (iSeq (mFz 1)) (gNm 5) (sSeq (sSet 6 (mOp2 oMul (oE (mLst (fCons (mC (.int 0)) (fNil)))) (oPk' 3))) (sSeq (sFor (iZip (fCons (mOp2 oIx (oE (mOp2 oIx (oPk' 0) (oE (mC (.int 1))))) (oPk' 5)) (fCons (mFz 2) (fNil)))) (gTup 2 (gCons (gNm 7) (gCons (gNm 8) (gNil)))) (sSetIx 6 (mFz 8) (mOp2 oAdd (oE (mOp2 oIx (oPk' 6) (oPk' 8))) (oPk' 7)))) (sDrop (mApp 4 (mFz 6)))))) (sRet (mMv 4)))
def f_turned_rows : Fn := runDef false 4 5 b_turned_rows
theorem ok_turned_rows (m_zip : mg "zip" = none) {fa : Addr} {fd : FuncData} (F : Fun K "turned_rows" "turned_rows" st_turned_rows fa fd) (hm : mg "turned_rows" = some (.ref fa)) : Def P w K mg base 1 "turned_rows" st_turned_rows ["one", "ins", "outs", "many"] f_turned_rows :=
  Def.mk' F (fun_ok F sc_turned_rows rfl (fun cdv A outer s H E hr hgd => css_cons (cs_set sc_turned_rows.nd rfl (.inl rfl) (ce_lst (cf_nil))) (css_cons (cs_for PassesOwn.never rfl (ci_seq (ce_nm (pv 1))) (cg_nm sc_turned_rows.nd rfl (.inl rfl) (.inr rfl)) (css_cons (cs_set sc_turned_rows.nd rfl (.inl rfl) (ce_mul (co_e (ce_lst (cf_cons (ce_int) (cf_nil)))) (co_pk (pv 3)))) (css_cons (cs_for PassesOwn.never rfl (ci_zip (by rfl) m_zip (cf_cons (ce_idx (co_e (ce_idx (co_pk (pv 0)) (co_e (ce_int)))) (co_pk (pv 5))) (cf_cons (ce_nm (pv 2)) (cf_nil)))) (cg_tup rfl (cgs_cons (cg_nm sc_turned_rows.nd rfl (.inl rfl) (.inr rfl)) (cgs_cons (cg_nm sc_turned_rows.nd rfl (.inl rfl) (.inr rfl)) (cgs_nil)))) (css_one (cs_setIx (pv 6) (ce_nm (pv 8)) (ce_add (co_e (ce_idx (co_pk (pv 6)) (co_pk (pv 8)))) (co_pk (pv 7)))))) (css_one (cs_expr (ce_app (pv 4) (ce_nm (pv 6)))))))) (css_one (cs_ret (ce_mv (pv 4))))))) hm (F.binds (fun _ _ _ _ _ _ us hl => match us, hl with | [_, _, _, _], _ => rfl))
abbrev st_turned : Stmt := topS 5
theorem sc_turned : FnScope ["one", "ins", "outs", "many"] ["one", "ins", "outs", "many"] (defScope st_turned) := ⟨rfl, rfl, rfl, by decide +kernel, rfl, by decide +kernel, by decide +kernel⟩
def b_turned : Sm := sRet (mCall f_bare_channel (fCons (mOp2 oIx (oPk' 0) (oE (mC (.int 0)))) (fCons (mCall f_turned_rows (fCons (mFz 0) (fCons (mFz 1) (fCons (mFz 2) (fCons (mFz 3) (fNil)))))) (fNil))))
def f_turned : Fn := runDef false 4 0 b_turned
theorem ok_turned (D_bare_channel : Def P w K mg base 2 "bare_channel" st_bare_channel ["whole", "rows"] f_bare_channel) (D_turned_rows : Def P w K mg base 1 "turned_rows" st_turned_rows ["one", "ins", "outs", "many"] f_turned_rows) {fa : Addr} {fd : FuncData} (F : Fun K "turned" "turned" st_turned fa fd) (hm : mg "turned" = some (.ref fa)) : Def P w K mg base 3 "turned" st_turned ["one", "ins", "outs", "many"] f_turned :=
  Def.mk' F (fun_ok F sc_turned rfl (fun cdv A outer s H E hr hgd => css_one (cs_ret (ce_callD D_bare_channel (hr.mono (by decide)) hgd (by rfl) (cf_cons (ce_idx (co_pk (pv 0)) (co_e (ce_int))) (cf_cons (ce_callD D_turned_rows (hr.mono (by decide)) hgd (by rfl) (cf_cons (ce_nm (pv 0)) (cf_cons (ce_nm (pv 1)) (cf_cons (ce_nm (pv 2)) (cf_cons (ce_nm (pv 3)) (cf_nil)))))) (cf_nil))))))) hm (F.binds (fun _ _ _ _ _ _ us hl => match us, hl with | [_, _, _, _], _ => rfl))
abbrev st__law_pick : Stmt := topS 11
theorem sc__law_pick : FnScope ["bag", "some"] ["bag", "some"] (defScope st__law_pick) := ⟨rfl, rfl, rfl, by decide +kernel, rfl, by decide +kernel, by decide +kernel⟩
def b__law_pick : Sm := sRet (mOp2 oIx (oPk' 1) (oE (mCallP f__law_draw 0 (fCons (mAs (o1 oLen) (aCons (oPk' 1) (aNil))) (fNil)))))
def f__law_pick : Fn := runDef true 2 0 b__law_pick
theorem ok__law_pick (D__law_draw : Def P w K mg base 1 "_law_draw" st__law_draw ["bag", "below"] f__law_draw) (m_len : mg "len" = none) {fa : Addr} {fd : FuncData} (F : Fun K "_law_pick" "_law_pick" st__law_pick fa fd) (hm : mg "_law_pick" = some (.ref fa)) : Def P w K mg base 2 "_law_pick" st__law_pick ["bag", "some"] f__law_pick :=
  Def.mk' F (fun_ok F sc__law_pick rfl (fun cdv A outer s H E hr hgd => css_one (cs_ret (ce_idx (co_pk (pv 1)) (co_e (ce_callPD D__law_draw (hr.mono (by decide)) hgd (by rfl) (pv 0) (cf_cons (ce_b call_len len_snd (by rfl) m_len (by decide +kernel) (ca_cons (co_pk (pv 1)) (ca_nil))) (cf_nil)))))))) hm (F.binds (fun _ _ _ _ _ _ us hl => match us, hl with | [_, _], _ => rfl))
abbrev st__law_turned : Stmt := topS 23
theorem sc__law_turned : FnScope ["rows", "ins", "outs", "many", "found", "place", "row", "item", "out"] ["rows", "ins", "outs", "many"] (defScope st__law_turned) := ⟨rfl, rfl, rfl, by decide +kernel, rfl, by decide +kernel, by decide +kernel⟩
def b__law_turned : Sm := sSeq (sSet 4 (mLst (fNil))) (sSeq (sFor (iSeq (mFz 1)) (gNm 5) (sSeq (sSet 6 (mOp2 oMul (oE (mLst (fCons (mC (.int 0)) (fNil)))) (oPk' 3))) (sSeq (sFor (iZip (fCons (mOp2 oIx (oPk' 0) (oPk' 5)) (fCons (mFz 2) (fNil)))) (gTup 2 (gCons (gNm 7) (gCons (gNm 8) (gNil)))) (sSetIx 6 (mFz 8) (mOp2 oAdd (oE (mOp2 oIx (oPk' 6) (oPk' 8))) (oPk' 7)))) (sDrop (mApp 4 (mAs (o1 oTuple) (aCons (oPk' 6) (aNil)))))))) (sRet (mMv 4)))
def f__law_turned : Fn := runDef false 4 5 b__law_turned
theorem ok__law_turned (m_tuple : mg "tuple" = none) (m_zip : mg "zip" = none) {fa : Addr} {fd : FuncData} (F : Fun K "_law_turned" "_law_turned" st__law_turned fa fd) (hm : mg "_law_turned" = some (.ref fa)) : Def P w K mg base 1 "_law_turned" st__law_turned ["rows", "ins", "outs", "many"] f__law_turned :=
  Def.mk' F (fun_ok F sc__law_turned rfl (fun cdv A outer s H E hr hgd => css_cons (cs_set sc__law_turned.nd rfl (.inl rfl) (ce_lst (cf_nil))) (css_cons (cs_for PassesOwn.never rfl (ci_seq (ce_nm (pv 1))) (cg_nm sc__law_turned.nd rfl (.inl rfl) (.inr rfl)) (css_cons (cs_set sc__law_turned.nd rfl (.inl rfl) (ce_mul (co_e (ce_lst (cf_cons (ce_int) (cf_nil)))) (co_pk (pv 3)))) (css_cons (cs_for PassesOwn.never rfl (ci_zip (by rfl) m_zip (cf_cons (ce_idx (co_pk (pv 0)) (co_pk (pv 5))) (cf_cons (ce_nm (pv 2)) (cf_nil)))) (cg_tup rfl (cgs_cons (cg_nm sc__law_turned.nd rfl (.inl rfl) (.inr rfl)) (cgs_cons (cg_nm sc__law_turned.nd rfl (.inl rfl) (.inr rfl)) (cgs_nil)))) (css_one (cs_setIx (pv 6) (ce_nm (pv 8)) (ce_add (co_e (ce_idx (co_pk (pv 6)) (co_pk (pv 8)))) (co_pk (pv 7)))))) (css_one (cs_expr (ce_app (pv 4) (ce_ty call_tuple_of tuple_snd (by rfl) m_tuple (by decide +kernel) (ca_cons (co_pk (pv 6)) (ca_nil))))))))) (css_one (cs_ret (ce_mv (pv 4))))))) hm (F.binds (fun _ _ _ _ _ _ us hl => match us, hl with | [_, _, _, _], _ => rfl))
abbrev st__law_blended : Stmt := topS 24
theorem sc__law_blended : FnScope ["rows", "mixture", "many", "total", "found", "weight", "ins", "outs", "place", "row", "own", "item"] ["rows", "mixture", "many"] (defScope st__law_blended) := ⟨rfl, rfl, rfl, by decide +kernel, rfl, by decide +kernel, by decide +kernel⟩
def b__law_blended : Sm := sSeq (sPar 3 4 (mC (.int 0)) (mComp [8] (iSeq (mOp2 oIx (oE (mOp2 oIx (oPk' 1) (oE (mC (.int 0))))) (oE (mC (.int 1))))) (gNm 8) (mYes) (mOp2 oMul (oE (mLst (fCons (mC (.int 0)) (fNil)))) (oPk' 2)))) (sSeq (sFor (iSeq (mFz 1)) (gTup 3 (gCons (gNm 5) (gCons (gNm 6) (gCons (gNm 7) (gNil))))) (sSeq (sSet 3 (mOp2 oAdd (oPk' 3) (oPk' 5))) (sFor (iEnum (fCons (mCall f__law_turned (fCons (mFz 0) (fCons (mFz 6) (fCons (mFz 7) (fCons (mFz 2) (fNil)))))) (fNil))) (gTup 2 (gCons (gNm 8) (gCons (gNm 9) (gNil)))) (sSetIx 4 (mFz 8) (mComp [10, 11] (iZip (fCons (mOp2 oIx (oPk' 4) (oPk' 8)) (fCons (mFz 9) (fNil)))) (gTup 2 (gCons (gNm 10) (gCons (gNm 11) (gNil)))) (mYes) (mOp2 oAdd (oPk' 10) (oE (mOp2 oMul (oPk' 5) (oPk' 11))))))))) (sRet (mTup (fCons (mFz 3) (fCons (mComp [9] (iSeq (mFz 4)) (gNm 9) (mYes) (mAs (o1 oTuple) (aCons (oPk' 9) (aNil)))) (fNil))))))
def f__law_blended : Fn := runDef false 3 9 b__law_blended
theorem ok__law_blended (D__law_turned : Def P w K mg base 1 "_law_turned" st__law_turned ["rows", "ins", "outs", "many"] f__law_turned) (m_enumerate : mg "enumerate" = none) (m_tuple : mg "tuple" = none) (m_zip : mg "zip" = none) {fa : Addr} {fd : FuncData} (F : Fun K "_law_blended" "_law_blended" st__law_blended fa fd) (hm : mg "_law_blended" = some (.ref fa)) : Def P w K mg base 2 "_law_blended" st__law_blended ["rows", "mixture", "many"] f__law_blended :=
  Def.mk' F (fun_ok F sc__law_blended rfl (fun cdv A outer s H E hr hgd => css_cons (cs_par rfl sc__law_blended.nd rfl rfl (by decide) rfl rfl (ce_int) (ce_comp (own := [("place", 8)]) rfl sc__law_blended.nd (ci_seq (ce_idx (co_e (ce_idx (co_pk (pv 1)) (co_e (ce_int)))) (co_e (ce_int)))) (blkOk_by (by rfl)) (by decide) (fun _ _ _ _ _ => cg_nm sc__law_blended.nd rfl (.inl rfl) (.inr rfl)) (fun _ _ _ _ _ => cts_nil) (fun _ _ _ _ _ => ce_mul (co_e (ce_lst (cf_cons (ce_int) (cf_nil)))) (co_pk (pv 2))))) (css_cons (cs_for PassesOwn.never rfl (ci_seq (ce_nm (pv 1))) (cg_tup rfl (cgs_cons (cg_nm sc__law_blended.nd rfl (.inr rfl) (.inl rfl)) (cgs_cons (cg_nm sc__law_blended.nd rfl (.inl rfl) (.inr rfl)) (cgs_cons (cg_nm sc__law_blended.nd rfl (.inl rfl) (.inr rfl)) (cgs_nil))))) (css_cons (cs_set sc__law_blended.nd rfl (.inl rfl) (ce_add (co_pk (pv 3)) (co_pk (pv 5)))) (css_one (cs_for PassesOwn.never rfl (ci_enum (by rfl) m_enumerate (cf_cons (ce_callD D__law_turned (hr.mono (by decide)) hgd (by rfl) (cf_cons (ce_nm (pv 0)) (cf_cons (ce_nm (pv 6)) (cf_cons (ce_nm (pv 7)) (cf_cons (ce_nm (pv 2)) (cf_nil)))))) (cf_nil))) (cg_tup rfl (cgs_cons (cg_nm sc__law_blended.nd rfl (.inl rfl) (.inr rfl)) (cgs_cons (cg_nm sc__law_blended.nd rfl (.inl rfl) (.inr rfl)) (cgs_nil)))) (css_one (cs_setIx (pv 4) (ce_nm (pv 8)) (ce_comp (own := [("own", 10), ("item", 11)]) rfl sc__law_blended.nd (ci_zip (by rfl) m_zip (cf_cons (ce_idx (co_pk (pv 4)) (co_pk (pv 8))) (cf_cons (ce_nm (pv 9)) (cf_nil)))) (blkOk_by (by rfl)) (by decide) (fun _ _ _ _ _ => cg_tup rfl (cgs_cons (cg_nm sc__law_blended.nd rfl (.inl rfl) (.inr rfl)) (cgs_cons (cg_nm sc__law_blended.nd rfl (.inl rfl) (.inr rfl)) (cgs_nil)))) (fun _ _ _ _ _ => cts_nil) (fun _ _ _ _ _ => ce_add (co_pk (pv 10)) (co_e (ce_mul (co_pk (pv 5)) (co_pk (pv 11)))))))))))) (css_one (cs_ret (ce_tup (cf_cons (ce_nm (pv 3)) (cf_cons (ce_comp (own := [("row", 9)]) rfl sc__law_blended.nd (ci_seq (ce_nm (pv 4))) (blkOk_by (by rfl)) (by decide) (fun _ _ _ _ _ => cg_nm sc__law_blended.nd rfl (.inl rfl) (.inr rfl)) (fun _ _ _ _ _ => cts_nil) (fun _ _ _ _ _ => ce_ty call_tuple_of tuple_snd (by rfl) m_tuple (by decide +kernel) (ca_cons (co_pk (pv 9)) (ca_nil)))) (cf_nil))))))))) hm (F.binds (fun _ _ _ _ _ _ us hl => match us, hl with | [_, _, _], _ => rfl))
abbrev st__law_gcd : Stmt := topS 13
theorem sc__law_gcd : FnScope ["a", "b"] ["a", "b"] (defScope st__law_gcd) := ⟨rfl, rfl, rfl, by decide +kernel, rfl, by decide +kernel, by decide +kernel⟩
def b__law_gcd : Sm := sSeq (sWh (mOp2 (oNe) (oPk' 1) (oE (mC (.int 0)))) (sPar 0 1 (mFz 1) (mOp2 oMod (oE (mAs (o1 oInt) (aCons (oPk' 0) (aNil)))) (oE (mAs (o1 oInt) (aCons (oPk' 1) (aNil))))))) (sRet (mAs (o1 oAbs) (aCons (oPk' 0) (aNil))))
def f__law_gcd : Fn := runDef false 2 0 b__law_gcd
theorem ok__law_gcd (m_abs : mg "abs" = none) (m_int : mg "int" = none) {fa : Addr} {fd : FuncData} (F : Fun K "_law_gcd" "_law_gcd" st__law_gcd fa fd) (hm : mg "_law_gcd" = some (.ref fa)) : Def P w K mg base 1 "_law_gcd" st__law_gcd ["a", "b"] f__law_gcd :=
  Def.mk' F (fun_ok F sc__law_gcd rfl (fun cdv A outer s H E hr hgd => css_cons (cs_wh PassesOwn.never (ct_ne (co_pk (pv 1)) (co_e (ce_int)) (lt64 hr)) (css_one (cs_par rfl sc__law_gcd.nd rfl rfl (by decide) rfl rfl (ce_nm (pv 1)) (ce_mod (co_e (ce_ty call_int1 int_snd (by rfl) m_int (by decide +kernel) (ca_cons (co_pk (pv 0)) (ca_nil)))) (co_e (ce_ty call_int1 int_snd (by rfl) m_int (by decide +kernel) (ca_cons (co_pk (pv 1)) (ca_nil)))))))) (css_one (cs_ret (ce_b call_abs abs_snd (by rfl) m_abs (by decide +kernel) (ca_cons (co_pk (pv 0)) (ca_nil))))))) hm (F.binds (fun _ _ _ _ _ _ us hl => match us, hl with | [_, _], _ => rfl))
abbrev st__law_lowered : Stmt := topS 19
theorem sc__law_lowered : FnScope ["whole", "rows", "divisor_v", "row", "item"] ["whole", "rows"] (defScope st__law_lowered) := ⟨rfl, rfl, rfl, by decide +kernel, rfl, by decide +kernel, by decide +kernel⟩
def b__law_lowered : Sm := sSeq (sSet 2 (mFz 0)) (sSeq (sFor (iSeq (mFz 1)) (gNm 3) (sFor (iSeq (mFz 3)) (gNm 4) (sSet 2 (mCall f__law_gcd (fCons (mFz 2) (fCons (mFz 4) (fNil))))))) (sRet (mTup (fCons (mOp2 oDiv (oPk' 0) (oPk' 2)) (fCons (mAs (o1 oTuple) (aCons (oE (mComp [3] (iSeq (mFz 1)) (gNm 3) (mYes) (mAs (o1 oTuple) (aCons (oE (mComp [4] (iSeq (mFz 3)) (gNm 4) (mYes) (mOp2 oDiv (oPk' 4) (oPk' 2)))) (aNil))))) (aNil))) (fNil))))))
def f__law_lowered : Fn := runDef false 2 3 b__law_lowered
theorem ok__law_lowered (D__law_gcd : Def P w K mg base 1 "_law_gcd" st__law_gcd ["a", "b"] f__law_gcd) (m_tuple : mg "tuple" = none) {fa : Addr} {fd : FuncData} (F : Fun K "_law_lowered" "_law_lowered" st__law_lowered fa fd) (hm : mg "_law_lowered" = some (.ref fa)) : Def P w K mg base 2 "_law_lowered" st__law_lowered ["whole", "rows"] f__law_lowered :=
  Def.mk' F (fun_ok F sc__law_lowered rfl (fun cdv A outer s H E hr hgd => css_cons (cs_set sc__law_lowered.nd rfl (.inr rfl) (ce_nm (pv 0))) (css_cons (cs_for PassesOwn.never rfl (ci_seq (ce_nm (pv 1))) (cg_nm sc__law_lowered.nd rfl (.inl rfl) (.inr rfl)) (css_one (cs_for PassesOwn.never rfl (ci_seq (ce_nm (pv 3))) (cg_nm sc__law_lowered.nd rfl (.inl rfl) (.inr rfl)) (css_one (cs_set sc__law_lowered.nd rfl (.inr rfl) (ce_callD D__law_gcd (hr.mono (by decide)) hgd (by rfl) (cf_cons (ce_nm (pv 2)) (cf_cons (ce_nm (pv 4)) (cf_nil))))))))) (css_one (cs_ret (ce_tup (cf_cons (ce_div (co_pk (pv 0)) (co_pk (pv 2))) (cf_cons (ce_ty call_tuple_of tuple_snd (by rfl) m_tuple (by decide +kernel) (ca_cons (co_e (ce_comp (own := [("row", 3)]) rfl sc__law_lowered.nd (ci_seq (ce_nm (pv 1))) (blkOk_by (by rfl)) (by decide) (fun _ _ _ _ _ => cg_nm sc__law_lowered.nd rfl (.inl rfl) (.inr rfl)) (fun _ _ _ _ _ => cts_nil) (fun _ _ _ _ _ => ce_ty call_tuple_of tuple_snd (by rfl) m_tuple (by decide +kernel) (ca_cons (co_e (ce_comp (own := [("item", 4)]) rfl sc__law_lowered.nd (ci_seq (ce_nm (pv 3))) (blkOk_by (by rfl)) (by decide) (fun _ _ _ _ _ => cg_nm sc__law_lowered.nd rfl (.inl rfl) (.inr rfl)) (fun _ _ _ _ _ => cts_nil) (fun _ _ _ _ _ => ce_div (co_pk (pv 4)) (co_pk (pv 2))))) (ca_nil))))) (ca_nil))) (cf_nil))))))))) hm (F.binds (fun _ _ _ _ _ _ us hl => match us, hl with | [_, _], _ => rfl))
abbrev st_mixed_rows : Stmt := topS 6
theorem sc_mixed_rows : FnScope ["one", "mixture", "many", "whole", "found", "weight", "ins", "outs", "row", "own", "out", "item", "place"] ["one", "mixture", "many"] (defScope st_mixed_rows) := ⟨rfl, rfl, rfl, by decide +kernel, rfl, by decide +kernel, by decide +kernel⟩
def b_mixed_rows : Sm := sSeq (sPar 3 4 (mC (.int 0)) (mCompO [12] (iSeq (mOp2 oIx (oE (mOp2 oIx (oPk' 1) (oE (mC (.int 0))))) (oE (mC (.int 1))))) (gNm 12) (mYes) (mOp2 oMul (oE (mLst (fCons (mC (.int 0)) (fNil)))) (oPk' 2)))) (sSeq (sFor (iSeq (mFz 1)) (gTup 3 (gCons (gNm 5) (gCons (gNm 6) (gCons (gNm 7) (gNil))))) (sSeq (sSet 3 (mOp2 oAdd (oPk' 3) (oE (mOp2 oMul (oPk' 5) (oE (mOp2 oIx (oPk' 0) (oE (mC (.int 0))))))))) (sRows 4 8 (mCall f_turned_rows (fCons (mFz 0) (fCons (mFz 6) (fCons (mFz 7) (fCons (mFz 2) (fNil)))))) (gNm 9) (sFor (iEnum (fCons (mFz 9) (fNil))) (gTup 2 (gCons (gNm 10) (gCons (gNm 11) (gNil)))) (sSetIx 8 (mFz 10) (mOp2 oAdd (oE (mOp2 oIx (oPk' 8) (oPk' 10))) (oE (mOp2 oMul (oPk' 5) (oPk' 11))))))))) (sRet (mTup (fCons (mFz 3) (fCons (mFz 4) (fNil))))))
def f_mixed_rows : Fn := runDef false 3 10 b_mixed_rows
theorem ok_mixed_rows (D_turned_rows : Def P w K mg base 1 "turned_rows" st_turned_rows ["one", "ins", "outs", "many"] f_turned_rows) (m_enumerate : mg "enumerate" = none) (m_zip : mg "zip" = none) {fa : Addr} {fd : FuncData} (F : Fun K "mixed_rows" "mixed_rows" st_mixed_rows fa fd) (hm : mg "mixed_rows" = some (.ref fa)) : Def P w K mg base 2 "mixed_rows" st_mixed_rows ["one", "mixture", "many"] f_mixed_rows :=
  Def.mk' F (fun_ok F sc_mixed_rows rfl (fun cdv A outer s H E hr hgd => css_cons (cs_par rfl sc_mixed_rows.nd rfl rfl (by decide) rfl rfl (ce_int) (ce_compO (own := [("place", 12)]) rfl sc_mixed_rows.nd (ci_seq (ce_idx (co_e (ce_idx (co_pk (pv 1)) (co_e (ce_int)))) (co_e (ce_int)))) (blkOk_by (by rfl)) (by decide) (fun _ _ _ _ _ => cg_nm sc_mixed_rows.nd rfl (.inl rfl) (.inr rfl)) (fun _ _ _ _ _ => cts_nil) (fun _ _ _ _ _ => ce_mul (co_e (ce_lst (cf_cons (ce_int) (cf_nil)))) (co_pk (pv 2))))) (css_cons (cs_for PassesOwn.never rfl (ci_seq (ce_nm (pv 1))) (cg_tup rfl (cgs_cons (cg_nm sc_mixed_rows.nd rfl (.inl rfl) (.inr rfl)) (cgs_cons (cg_nm sc_mixed_rows.nd rfl (.inl rfl) (.inr rfl)) (cgs_cons (cg_nm sc_mixed_rows.nd rfl (.inl rfl) (.inr rfl)) (cgs_nil))))) (css_cons (cs_set sc_mixed_rows.nd rfl (.inl rfl) (ce_add (co_pk (pv 3)) (co_e (ce_mul (co_pk (pv 5)) (co_e (ce_idx (co_pk (pv 0)) (co_e (ce_int)))))))) (css_one (cs_rows PassesOwn.never rfl (by rfl) m_zip (pv 4) (ce_callD D_turned_rows (hr.mono (by decide)) hgd (by rfl) (cf_cons (ce_nm (pv 0)) (cf_cons (ce_nm (pv 6)) (cf_cons (ce_nm (pv 7)) (cf_cons (ce_nm (pv 2)) (cf_nil)))))) sc_mixed_rows.nd rfl (.inl rfl) (cg_nm sc_mixed_rows.nd rfl (.inl rfl) (.inr rfl)) (css_one (cs_for PassesOwn.never rfl (ci_enum (by rfl) m_enumerate (cf_cons (ce_nm (pv 9)) (cf_nil))) (cg_tup rfl (cgs_cons (cg_nm sc_mixed_rows.nd rfl (.inl rfl) (.inr rfl)) (cgs_cons (cg_nm sc_mixed_rows.nd rfl (.inl rfl) (.inr rfl)) (cgs_nil)))) (css_one (cs_setIx (pv 8) (ce_nm (pv 10)) (ce_add (co_e (ce_idx (co_pk (pv 8)) (co_pk (pv 10)))) (co_e (ce_mul (co_pk (pv 5)) (co_pk (pv 11))))))))) (by decide) (by decide) (by decide) (by decide) (by decide))))) (css_one (cs_ret (ce_tup (cf_cons (ce_nm (pv 3)) (cf_cons (ce_nm (pv 4)) (cf_nil))))))))) hm (F.binds (fun _ _ _ _ _ _ us hl => match us, hl with | [_, _, _], _ => rfl))
abbrev st_blended : Stmt := topS 7
theorem sc_blended : FnScope ["one", "mixture", "many", "whole", "rows"] ["one", "mixture", "many"] (defScope st_blended) := ⟨rfl, rfl, rfl, by decide +kernel, rfl, by decide +kernel, by decide +kernel⟩
def b_blended : Sm := sSeq (sAsg (mCall f_mixed_rows (fCons (mFz 0) (fCons (mFz 1) (fCons (mFz 2) (fNil))))) (gTup 2 (gCons (gNm 3) (gCons (gNm 4) (gNil))))) (sRet (mCall f_bare_channel (fCons (mFz 3) (fCons (mFz 4) (fNil)))))
def f_blended : Fn := runDef false 3 2 b_blended
theorem ok_blended (D_mixed_rows : Def P w K mg base 2 "mixed_rows" st_mixed_rows ["one", "mixture", "many"] f_mixed_rows) (D_bare_channel : Def P w K mg base 2 "bare_channel" st_bare_channel ["whole", "rows"] f_bare_channel) {fa : Addr} {fd : FuncData} (F : Fun K "blended" "blended" st_blended fa fd) (hm : mg "blended" = some (.ref fa)) : Def P w K mg base 3 "blended" st_blended ["one", "mixture", "many"] f_blended :=
  Def.mk' F (fun_ok F sc_blended rfl (fun cdv A outer s H E hr hgd => css_cons (cs_asg (ce_callD D_mixed_rows (hr.mono (by decide)) hgd (by rfl) (cf_cons (ce_nm (pv 0)) (cf_cons (ce_nm (pv 1)) (cf_cons (ce_nm (pv 2)) (cf_nil))))) (cg_tup rfl (cgs_cons (cg_nm sc_blended.nd rfl (.inl rfl) (.inr rfl)) (cgs_cons (cg_nm sc_blended.nd rfl (.inl rfl) (.inr rfl)) (cgs_nil))))) (css_one (cs_ret (ce_callD D_bare_channel (hr.mono (by decide)) hgd (by rfl) (cf_cons (ce_nm (pv 3)) (cf_cons (ce_nm (pv 4)) (cf_nil)))))))) hm (F.binds (fun _ _ _ _ _ _ us hl => match us, hl with | [_, _, _], _ => rfl))
abbrev st__law_is_blended : Stmt := topS 27
theorem sc__law_is_blended : FnScope ["channel", "mixture", "many", "kept", "total", "rows", "due", "more", "told", "weight", "ins", "outs"] ["channel", "mixture", "many"] (defScope st__law_is_blended) := ⟨rfl, rfl, rfl, by decide +kernel, rfl, by decide +kernel, by decide +kernel⟩
def b__law_is_blended : Sm := sSeq (sSet 3 (mAs (o1 oRepr) (aCons (oE (mLst (fCons (mFz 0) (fCons (mFz 1) (fNil))))) (aNil)))) (sSeq (sAsg (mCall f__law_blended (fCons (mOp2 oIx (oPk' 0) (oE (mC (.int 1)))) (fCons (mFz 1) (fCons (mFz 2) (fNil))))) (gTup 2 (gCons (gNm 4) (gCons (gNm 5) (gNil))))) (sSeq (sSet 6 (mCall f__law_lowered (fCons (mOp2 oMul (oE (mOp2 oIx (oPk' 0) (oE (mC (.int 0))))) (oPk' 4)) (fCons (mFz 5) (fNil))))) (sSeq (sSet 7 (mAs (o1 oTuple) (aCons (oE (mComp [9, 10, 11] (iSeq (mFz 1)) (gTup 3 (gCons (gNm 9) (gCons (gNm 10) (gCons (gNm 11) (gNil))))) (mYes) (mTup (fCons (mOp2 oMul (oE (mC (.int 3))) (oPk' 9)) (fCons (mFz 10) (fCons (mFz 11) (fNil))))))) (aNil)))) (sSeq (sSet 8 (mLst (fCons (mCall f_blended (fCons (mFz 0) (fCons (mFz 1) (fCons (mFz 2) (fNil))))) (fCons (mCallK f_blended [2, 1, 0] fNil (fCons (mFz 2) (fCons (mFz 1) (fCons (mFz 0) (fNil))))) (fNil))))) (sSeq (sDrop (mApp 8 (mCall f_blended (fCons (mFz 0) (fCons (mFz 7) (fCons (mFz 2) (fNil))))))) (sRet (mAnd (mOp2 (oEq) (oE (mAs (o1 oRepr) (aCons (oPk' 8) (aNil)))) (oE (mAs (o1 oRepr) (aCons (oE (mOp2 oMul (oE (mLst (fCons (mFz 6) (fNil)))) (oE (mC (.int 3))))) (aNil))))) (mOp2 (oEq) (oE (mAs (o1 oRepr) (aCons (oE (mLst (fCons (mFz 0) (fCons (mFz 1) (fNil))))) (aNil)))) (oPk' 3)))))))))
def f__law_is_blended : Fn := runDef false 3 9 b__law_is_blended
theorem ok__law_is_blended (D__law_blended : Def P w K mg base 2 "_law_blended" st__law_blended ["rows", "mixture", "many"] f__law_blended) (D__law_lowered : Def P w K mg base 2 "_law_lowered" st__law_lowered ["whole", "rows"] f__law_lowered) (D_blended : Def P w K mg base 3 "blended" st_blended ["one", "mixture", "many"] f_blended) (m_repr : mg "repr" = none) (m_tuple : mg "tuple" = none) {fa : Addr} {fd : FuncData} (F : Fun K "_law_is_blended" "_law_is_blended" st__law_is_blended fa fd) (hm : mg "_law_is_blended" = some (.ref fa)) : Def P w K mg base 4 "_law_is_blended" st__law_is_blended ["channel", "mixture", "many"] f__law_is_blended :=
  Def.mk' F (fun_ok F sc__law_is_blended rfl (fun cdv A outer s H E hr hgd => css_cons (cs_set sc__law_is_blended.nd rfl (.inl rfl) (ce_b (call_reprD hgd (lt70 hr)) repr_snd (by rfl) m_repr (by decide +kernel) (ca_cons (co_e (ce_lst (cf_cons (ce_nm (pv 0)) (cf_cons (ce_nm (pv 1)) (cf_nil))))) (ca_nil)))) (css_cons (cs_asg (ce_callD D__law_blended (hr.mono (by decide)) hgd (by rfl) (cf_cons (ce_idx (co_pk (pv 0)) (co_e (ce_int))) (cf_cons (ce_nm (pv 1)) (cf_cons (ce_nm (pv 2)) (cf_nil))))) (cg_tup rfl (cgs_cons (cg_nm sc__law_is_blended.nd rfl (.inl rfl) (.inr rfl)) (cgs_cons (cg_nm sc__law_is_blended.nd rfl (.inl rfl) (.inr rfl)) (cgs_nil))))) (css_cons (cs_set sc__law_is_blended.nd rfl (.inl rfl) (ce_callD D__law_lowered (hr.mono (by decide)) hgd (by rfl) (cf_cons (ce_mul (co_e (ce_idx (co_pk (pv 0)) (co_e (ce_int)))) (co_pk (pv 4))) (cf_cons (ce_nm (pv 5)) (cf_nil))))) (css_cons (cs_set sc__law_is_blended.nd rfl (.inl rfl) (ce_ty call_tuple_of tuple_snd (by rfl) m_tuple (by decide +kernel) (ca_cons (co_e (ce_comp (own := [("weight", 9), ("ins", 10), ("outs", 11)]) rfl sc__law_is_blended.nd (ci_seq (ce_nm (pv 1))) (blkOk_by (by rfl)) (by decide) (fun _ _ _ _ _ => cg_tup rfl (cgs_cons (cg_nm sc__law_is_blended.nd rfl (.inl rfl) (.inr rfl)) (cgs_cons (cg_nm sc__law_is_blended.nd rfl (.inl rfl) (.inr rfl)) (cgs_cons (cg_nm sc__law_is_blended.nd rfl (.inl rfl) (.inr rfl)) (cgs_nil))))) (fun _ _ _ _ _ => cts_nil) (fun _ _ _ _ _ => ce_tup (cf_cons (ce_mul (co_e (ce_int)) (co_pk (pv 9))) (cf_cons (ce_nm (pv 10)) (cf_cons (ce_nm (pv 11)) (cf_nil))))))) (ca_nil)))) (css_cons (cs_set sc__law_is_blended.nd rfl (.inl rfl) (ce_lst (cf_cons (ce_callD D_blended (hr.mono (by decide)) hgd (by rfl) (cf_cons (ce_nm (pv 0)) (cf_cons (ce_nm (pv 1)) (cf_cons (ce_nm (pv 2)) (cf_nil))))) (cf_cons (ce_callK0D (ks := ["many", "mixture", "one"]) (pm := [2, 1, 0]) D_blended (hr.mono (by decide)) hgd (by rfl) (fun _ _ _ _ _ _ us ws h1 h2 => match us, ws, h1, h2 with | [], [_, _, _], _, _ => rfl) (ck_cons (ce_nm (pv 2)) (ck_cons (ce_nm (pv 1)) (ck_cons (ce_nm (pv 0)) (ck_nil)))) (fCons_len (fCons_len (fCons_len (fNil_len))))) (cf_nil))))) (css_cons (cs_expr (ce_app (pv 8) (ce_callD D_blended (hr.mono (by decide)) hgd (by rfl) (cf_cons (ce_nm (pv 0)) (cf_cons (ce_nm (pv 7)) (cf_cons (ce_nm (pv 2)) (cf_nil))))))) (css_one (cs_ret (ce_and (ce_eq (co_e (ce_b (call_reprD hgd (lt70 hr)) repr_snd (by rfl) m_repr (by decide +kernel) (ca_cons (co_pk (pv 8)) (ca_nil)))) (co_e (ce_b (call_reprD hgd (lt70 hr)) repr_snd (by rfl) m_repr (by decide +kernel) (ca_cons (co_e (ce_mul (co_e (ce_lst (cf_cons (ce_nm (pv 6)) (cf_nil)))) (co_e (ce_int)))) (ca_nil)))) (lt64 hr)) (ce_one (ce_eq (co_e (ce_b (call_reprD hgd (lt70 hr)) repr_snd (by rfl) m_repr (by decide +kernel) (ca_cons (co_e (ce_lst (cf_cons (ce_nm (pv 0)) (cf_cons (ce_nm (pv 1)) (cf_nil))))) (ca_nil)))) (co_pk (pv 3)) (lt64 hr))))))))))))) hm (F.binds (fun _ _ _ _ _ _ us hl => match us, hl with | [_, _, _], _ => rfl))
abbrev st__law_is_turned : Stmt := topS 26
theorem sc__law_is_turned : FnScope ["channel", "ins", "outs", "many", "kept", "due", "told"] ["channel", "ins", "outs", "many"] (defScope st__law_is_turned) := ⟨rfl, rfl, rfl, by decide +kernel, rfl, by decide +kernel, by decide +kernel⟩
def b__law_is_turned : Sm := sSeq (sPar 4 5 (mAs (o1 oRepr) (aCons (oE (mLst (fCons (mFz 0) (fCons (mFz 1) (fCons (mFz 2) (fNil)))))) (aNil))) (mCall f__law_lowered (fCons (mOp2 oIx (oPk' 0) (oE (mC (.int 0)))) (fCons (mCall f__law_turned (fCons (mOp2 oIx (oPk' 0) (oE (mC (.int 1)))) (fCons (mFz 1) (fCons (mFz 2) (fCons (mFz 3) (fNil)))))) (fNil))))) (sSeq (sSet 6 (mLst (fCons (mCall f_turned (fCons (mFz 0) (fCons (mFz 1) (fCons (mFz 2) (fCons (mFz 3) (fNil)))))) (fCons (mCallK f_turned [3, 2, 1, 0] fNil (fCons (mFz 3) (fCons (mFz 2) (fCons (mFz 1) (fCons (mFz 0) (fNil)))))) (fNil))))) (sSeq (sDrop (mApp 6 (mCall f_blended (fCons (mFz 0) (fCons (mTup (fCons (mTup (fCons (mC (.int 7)) (fCons (mFz 1) (fCons (mFz 2) (fNil))))) (fNil))) (fCons (mFz 3) (fNil))))))) (sRet (mAnd (mOp2 (oEq) (oE (mAs (o1 oRepr) (aCons (oPk' 6) (aNil)))) (oE (mAs (o1 oRepr) (aCons (oE (mOp2 oMul (oE (mLst (fCons (mFz 5) (fNil)))) (oE (mC (.int 3))))) (aNil))))) (mOp2 (oEq) (oE (mAs (o1 oRepr) (aCons (oE (mLst (fCons (mFz 0) (fCons (mFz 1) (fCons (mFz 2) (fNil)))))) (aNil)))) (oPk' 4))))))
def f__law_is_turned : Fn := runDef false 4 3 b__law_is_turned
theorem ok__law_is_turned (D__law_lowered : Def P w K mg base 2 "_law_lowered" st__law_lowered ["whole", "rows"] f__law_lowered) (D__law_turned : Def P w K mg base 1 "_law_turned" st__law_turned ["rows", "ins", "outs", "many"] f__law_turned) (D_turned : Def P w K mg base 3 "turned" st_turned ["one", "ins", "outs", "many"] f_turned) (D_blended : Def P w K mg base 3 "blended" st_blended ["one", "mixture", "many"] f_blended) (m_repr : mg "repr" = none) {fa : Addr} {fd : FuncData} (F : Fun K "_law_is_turned" "_law_is_turned" st__law_is_turned fa fd) (hm : mg "_law_is_turned" = some (.ref fa)) : Def P w K mg base 4 "_law_is_turned" st__law_is_turned ["channel", "ins", "outs", "many"] f__law_is_turned :=
  Def.mk' F (fun_ok F sc__law_is_turned rfl (fun cdv A outer s H E hr hgd => css_cons (cs_par rfl sc__law_is_turned.nd rfl rfl (by decide) rfl rfl (ce_b (call_reprD hgd (lt70 hr)) repr_snd (by rfl) m_repr (by decide +kernel) (ca_cons (co_e (ce_lst (cf_cons (ce_nm (pv 0)) (cf_cons (ce_nm (pv 1)) (cf_cons (ce_nm (pv 2)) (cf_nil)))))) (ca_nil))) (ce_callD D__law_lowered (hr.mono (by decide)) hgd (by rfl) (cf_cons (ce_idx (co_pk (pv 0)) (co_e (ce_int))) (cf_cons (ce_callD D__law_turned (hr.mono (by decide)) hgd (by rfl) (cf_cons (ce_idx (co_pk (pv 0)) (co_e (ce_int))) (cf_cons (ce_nm (pv 1)) (cf_cons (ce_nm (pv 2)) (cf_cons (ce_nm (pv 3)) (cf_nil)))))) (cf_nil))))) (css_cons (cs_set sc__law_is_turned.nd rfl (.inl rfl) (ce_lst (cf_cons (ce_callD D_turned (hr.mono (by decide)) hgd (by rfl) (cf_cons (ce_nm (pv 0)) (cf_cons (ce_nm (pv 1)) (cf_cons (ce_nm (pv 2)) (cf_cons (ce_nm (pv 3)) (cf_nil)))))) (cf_cons (ce_callK0D (ks := ["many", "outs", "ins", "one"]) (pm := [3, 2, 1, 0]) D_turned (hr.mono (by decide)) hgd (by rfl) (fun _ _ _ _ _ _ us ws h1 h2 => match us, ws, h1, h2 with | [], [_, _, _, _], _, _ => rfl) (ck_cons (ce_nm (pv 3)) (ck_cons (ce_nm (pv 2)) (ck_cons (ce_nm (pv 1)) (ck_cons (ce_nm (pv 0)) (ck_nil))))) (fCons_len (fCons_len (fCons_len (fCons_len (fNil_len)))))) (cf_nil))))) (css_cons (cs_expr (ce_app (pv 6) (ce_callD D_blended (hr.mono (by decide)) hgd (by rfl) (cf_cons (ce_nm (pv 0)) (cf_cons (ce_tup (cf_cons (ce_tup (cf_cons (ce_int) (cf_cons (ce_nm (pv 1)) (cf_cons (ce_nm (pv 2)) (cf_nil))))) (cf_nil))) (cf_cons (ce_nm (pv 3)) (cf_nil))))))) (css_one (cs_ret (ce_and (ce_eq (co_e (ce_b (call_reprD hgd (lt70 hr)) repr_snd (by rfl) m_repr (by decide +kernel) (ca_cons (co_pk (pv 6)) (ca_nil)))) (co_e (ce_b (call_reprD hgd (lt70 hr)) repr_snd (by rfl) m_repr (by decide +kernel) (ca_cons (co_e (ce_mul (co_e (ce_lst (cf_cons (ce_nm (pv 5)) (cf_nil)))) (co_e (ce_int)))) (ca_nil)))) (lt64 hr)) (ce_one (ce_eq (co_e (ce_b (call_reprD hgd (lt70 hr)) repr_snd (by rfl) m_repr (by decide +kernel) (ca_cons (co_e (ce_lst (cf_cons (ce_nm (pv 0)) (cf_cons (ce_nm (pv 1)) (cf_cons (ce_nm (pv 2)) (cf_nil)))))) (ca_nil)))) (co_pk (pv 4)) (lt64 hr)))))))))) hm (F.binds (fun _ _ _ _ _ _ us hl => match us, hl with | [_, _, _, _], _ => rfl))
abbrev st_law : Stmt := topS 28
theorem sc_law : FnScope ["script", "bag", "turn", "ways", "outs", "channel", "more", "many", "mixture", "again", "one", "other", "told", "last", "later", "ends", "due", "item", "place", "out"] ["script"] (defScope st_law) := ⟨rfl, rfl, rfl, by decide +kernel, rfl, by decide +kernel, by decide +kernel⟩
def b_law : Sm := sSeq (sSet 1 (mCallP f__law_bag 0 (fNil))) (sSeq (sFor (iRange (aCons (oE (mC (.int 4))) (aNil))) (gNm 2) (sSeq (sPar 3 4 (mOp2 oAdd (oE (mC (.int 1))) (oE (mCallP f__law_draw 1 (fCons (mC (.int 6)) (fNil))))) (mOp2 oAdd (oE (mC (.int 1))) (oE (mCallP f__law_draw 1 (fCons (mC (.int 6)) (fNil)))))) (sSeq (sSet 5 (mCallP f__law_channel 1 (fCons (mFz 3) (fCons (mFz 4) (fCons (mCallP f__law_pick 1 (fCons (mLst (fCons (mC (.int 1)) (fCons (mC (.int 4)) (fCons (mC (.int 12)) (fCons (mC (.int 60)) (fNil)))))) (fNil))) (fNil)))))) (sSeq (sPar 6 7 (mOp2 oAdd (oE (mC (.int 1))) (oE (mCallP f__law_draw 1 (fCons (mC (.int 6)) (fNil))))) (mOp2 oAdd (oE (mC (.int 1))) (oE (mCallP f__law_draw 1 (fCons (mC (.int 6)) (fNil)))))) (sSeq (sSet 8 (mLst (fNil))) (sSeq (sFor (iRange (aCons (oE (mCallP f__law_pick 1 (fCons (mLst (fCons (mC (.int 1)) (fCons (mC (.int 2)) (fCons (mC (.int 3)) (fCons (mC (.int 12)) (fNil)))))) (fNil)))) (aNil))) (gNm 9) (sSeq (sAsg (mCallP f__law_turning 1 (fCons (mFz 3) (fCons (mFz 4) (fCons (mFz 6) (fCons (mFz 7) (fNil)))))) (gTup 2 (gCons (gNm 10) (gCons (gNm 11) (gNil))))) (sSeq (sIf (mNot (mCall f__law_is_turned (fCons (mFz 5) (fCons (mFz 10) (fCons (mFz 11) (fCons (mFz 7) (fNil))))))) (sRet (mC (.bool false))) (sSkip)) (sIf (mOp2 (oIn true) (oE (mTup (fCons (mFz 10) (fCons (mFz 11) (fNil))))) (oE (mCompPk [17] 8 (gNm 17) (mYes) (mSl (oPk' 17) (pE (mC (.int 1))) (pNo))))) (sDrop (mApp 8 (mTup (fCons (mCallP f__law_pick 1 (fCons (mLst (fCons (mC (.int 1)) (fCons (mC (.int 2)) (fCons (mC (.int 5)) (fCons (mOp2 oPow (oE (mC (.int 10))) (oE (mC (.int 12)))) (fNil)))))) (fNil))) (fCons (mFz 10) (fCons (mFz 11) (fNil))))))) (sSkip))))) (sSeq (sIf (mNot (mCall f__law_is_blended (fCons (mFz 5) (fCons (mAs (o1 oTuple) (aCons (oPk' 8) (aNil))) (fCons (mFz 7) (fNil)))))) (sRet (mC (.bool false))) (sSkip)) (sSeq (sAsg (mSl (oE (mOp2 oIx (oPk' 8) (oE (mC (.int 0))))) (pE (mC (.int 1))) (pNo)) (gTup 2 (gCons (gNm 10) (gCons (gNm 11) (gNil))))) (sSeq (sPar 12 13 (mCall f_turned (fCons (mFz 5) (fCons (mFz 10) (fCons (mFz 11) (fCons (mFz 7) (fNil)))))) (mOp2 oAdd (oE (mC (.int 1))) (oE (mCallP f__law_draw 1 (fCons (mC (.int 6)) (fNil)))))) (sSeq (sAsg (mCallP f__law_turning 1 (fCons (mFz 6) (fCons (mFz 7) (fCons (mOp2 oAdd (oE (mC (.int 1))) (oE (mCallP f__law_draw 1 (fCons (mC (.int 6)) (fNil))))) (fCons (mFz 13) (fNil)))))) (gTup 2 (gCons (gNm 14) (gCons (gNm 15) (gNil))))) (sSeq (sSet 16 (mCall f_turned (fCons (mFz 5) (fCons (mAs (o1 oTuple) (aCons (oE (mComp [18] (iSeq (mFz 14)) (gNm 18) (mYes) (mOp2 oIx (oPk' 10) (oPk' 18)))) (aNil))) (fCons (mAs (o1 oTuple) (aCons (oE (mComp [19] (iSeq (mFz 11)) (gNm 19) (mYes) (mOp2 oIx (oPk' 15) (oPk' 19)))) (aNil))) (fCons (mFz 13) (fNil))))))) (sIf (mOp2 (oNe) (oE (mAs (o1 oRepr) (aCons (oE (mCall f_turned (fCons (mFz 12) (fCons (mFz 14) (fCons (mFz 15) (fCons (mFz 13) (fNil))))))) (aNil)))) (oE (mAs (o1 oRepr) (aCons (oPk' 16) (aNil))))) (sRet (mC (.bool false))) (sSkip))))))))))))) (sRet (mC (.bool true))))
def f_law : Fn := runDef true 1 19 b_law
theorem ok_law (D__law_bag : Def P w K mg base 1 "_law_bag" st__law_bag ["script"] f__law_bag) (D__law_draw : Def P w K mg base 1 "_law_draw" st__law_draw ["bag", "below"] f__law_draw) (D__law_channel : Def P w K mg base 3 "_law_channel" st__law_channel ["bag", "ins", "outs", "most"] f__law_channel) (D__law_pick : Def P w K mg base 2 "_law_pick" st__law_pick ["bag", "some"] f__law_pick) (D__law_turning : Def P w K mg base 2 "_law_turning" st__law_turning ["bag", "ins", "outs", "more", "many"] f__law_turning) (D__law_is_turned : Def P w K mg base 4 "_law_is_turned" st__law_is_turned ["channel", "ins", "outs", "many"] f__law_is_turned) (D__law_is_blended : Def P w K mg base 4 "_law_is_blended" st__law_is_blended ["channel", "mixture", "many"] f__law_is_blended) (D_turned : Def P w K mg base 3 "turned" st_turned ["one", "ins", "outs", "many"] f_turned) (m_range : mg "range" = none) (m_repr : mg "repr" = none) (m_tuple : mg "tuple" = none) {fa : Addr} {fd : FuncData} (F : Fun K "law" "law" st_law fa fd) (hm : mg "law" = some (.ref fa)) : Def P w K mg base 5 "law" st_law ["script"] f_law :=
  Def.mk' F (fun_ok F sc_law rfl (fun cdv A outer s H E hr hgd => css_cons (cs_set sc_law.nd rfl (.inl rfl) (ce_callPD D__law_bag (hr.mono (by decide)) hgd (by rfl) (pv 0) (cf_nil))) (css_cons (cs_for PassesOwn.never rfl (ci_range1 (by rfl) m_range (ca_cons (co_e (ce_int)) (ca_nil)) (hone := (aCons_len (aNil_len)))) (cg_nm sc_law.nd rfl (.inl rfl) (.inr rfl)) (css_cons (cs_par rfl sc_law.nd rfl rfl (by decide) rfl rfl (ce_add (co_e (ce_int)) (co_e (ce_callPD D__law_draw (hr.mono (by decide)) hgd (by rfl) (pv 1) (cf_cons (ce_int) (cf_nil))))) (ce_add (co_e (ce_int)) (co_e (ce_callPD D__law_draw (hr.mono (by decide)) hgd (by rfl) (pv 1) (cf_cons (ce_int) (cf_nil)))))) (css_cons (cs_set sc_law.nd rfl (.inl rfl) (ce_callPD D__law_channel (hr.mono (by decide)) hgd (by rfl) (pv 1) (cf_cons (ce_nm (pv 3)) (cf_cons (ce_nm (pv 4)) (cf_cons (ce_callPD D__law_pick (hr.mono (by decide)) hgd (by rfl) (pv 1) (cf_cons (ce_lst (cf_cons (ce_int) (cf_cons (ce_int) (cf_cons (ce_int) (cf_cons (ce_int) (cf_nil)))))) (cf_nil))) (cf_nil)))))) (css_cons (cs_par rfl sc_law.nd rfl rfl (by decide) rfl rfl (ce_add (co_e (ce_int)) (co_e (ce_callPD D__law_draw (hr.mono (by decide)) hgd (by rfl) (pv 1) (cf_cons (ce_int) (cf_nil))))) (ce_add (co_e (ce_int)) (co_e (ce_callPD D__law_draw (hr.mono (by decide)) hgd (by rfl) (pv 1) (cf_cons (ce_int) (cf_nil)))))) (css_cons (cs_set sc_law.nd rfl (.inl rfl) (ce_lst (cf_nil))) (css_cons (cs_for PassesOwn.never rfl (ci_range1 (by rfl) m_range (ca_cons (co_e (ce_callPD D__law_pick (hr.mono (by decide)) hgd (by rfl) (pv 1) (cf_cons (ce_lst (cf_cons (ce_int) (cf_cons (ce_int) (cf_cons (ce_int) (cf_cons (ce_int) (cf_nil)))))) (cf_nil)))) (ca_nil)) (hone := (aCons_len (aNil_len)))) (cg_nm sc_law.nd rfl (.inl rfl) (.inr rfl)) (css_cons (cs_asg (ce_callPD D__law_turning (hr.mono (by decide)) hgd (by rfl) (pv 1) (cf_cons (ce_nm (pv 3)) (cf_cons (ce_nm (pv 4)) (cf_cons (ce_nm (pv 6)) (cf_cons (ce_nm (pv 7)) (cf_nil)))))) (cg_tup rfl (cgs_cons (cg_nm sc_law.nd rfl (.inr rfl) (.inl rfl)) (cgs_cons (cg_nm sc_law.nd rfl (.inl rfl) (.inr rfl)) (cgs_nil))))) (css_cons (cs_if (ct_not (ct_val (ce_callD D__law_is_turned (hr.mono (by decide)) hgd (by rfl) (cf_cons (ce_nm (pv 5)) (cf_cons (ce_nm (pv 10)) (cf_cons (ce_nm (pv 11)) (cf_cons (ce_nm (pv 7)) (cf_nil)))))))) (css_one (cs_ret (ce_bl))) (css_nil)) (css_one (cs_if (ct_notIn (co_e (ce_tup (cf_cons (ce_nm (pv 10)) (cf_cons (ce_nm (pv 11)) (cf_nil))))) (co_e (ce_compPk (own := [("item", 17)]) rfl sc_law.nd (pv 8) (blkOk_by (by rfl)) (by decide) (fun _ _ _ _ _ => cg_nm sc_law.nd rfl (.inl rfl) (.inr rfl)) (fun _ _ _ _ _ => cts_nil) (fun _ _ _ _ _ => ce_slice (co_pk (pv 17)) (cp_e (ce_int)) (cp_no)))) (lt65 hr)) (css_one (cs_expr (ce_app (pv 8) (ce_tup (cf_cons (ce_callPD D__law_pick (hr.mono (by decide)) hgd (by rfl) (pv 1) (cf_cons (ce_lst (cf_cons (ce_int) (cf_cons (ce_int) (cf_cons (ce_int) (cf_cons (ce_pow (co_e (ce_int)) (co_e (ce_int))) (cf_nil)))))) (cf_nil))) (cf_cons (ce_nm (pv 10)) (cf_cons (ce_nm (pv 11)) (cf_nil)))))))) (css_nil)))))) (css_cons (cs_if (ct_not (ct_val (ce_callD D__law_is_blended (hr.mono (by decide)) hgd (by rfl) (cf_cons (ce_nm (pv 5)) (cf_cons (ce_ty call_tuple_of tuple_snd (by rfl) m_tuple (by decide +kernel) (ca_cons (co_pk (pv 8)) (ca_nil))) (cf_cons (ce_nm (pv 7)) (cf_nil))))))) (css_one (cs_ret (ce_bl))) (css_nil)) (css_cons (cs_asg (ce_slice (co_e (ce_idx (co_pk (pv 8)) (co_e (ce_int)))) (cp_e (ce_int)) (cp_no)) (cg_tup rfl (cgs_cons (cg_nm sc_law.nd rfl (.inr rfl) (.inl rfl)) (cgs_cons (cg_nm sc_law.nd rfl (.inl rfl) (.inr rfl)) (cgs_nil))))) (css_cons (cs_par rfl sc_law.nd rfl rfl (by decide) rfl rfl (ce_callD D_turned (hr.mono (by decide)) hgd (by rfl) (cf_cons (ce_nm (pv 5)) (cf_cons (ce_nm (pv 10)) (cf_cons (ce_nm (pv 11)) (cf_cons (ce_nm (pv 7)) (cf_nil)))))) (ce_add (co_e (ce_int)) (co_e (ce_callPD D__law_draw (hr.mono (by decide)) hgd (by rfl) (pv 1) (cf_cons (ce_int) (cf_nil)))))) (css_cons (cs_asg (ce_callPD D__law_turning (hr.mono (by decide)) hgd (by rfl) (pv 1) (cf_cons (ce_nm (pv 6)) (cf_cons (ce_nm (pv 7)) (cf_cons (ce_add (co_e (ce_int)) (co_e (ce_callPD D__law_draw (hr.mono (by decide)) hgd (by rfl) (pv 1) (cf_cons (ce_int) (cf_nil))))) (cf_cons (ce_nm (pv 13)) (cf_nil)))))) (cg_tup rfl (cgs_cons (cg_nm sc_law.nd rfl (.inl rfl) (.inr rfl)) (cgs_cons (cg_nm sc_law.nd rfl (.inr rfl) (.inl rfl)) (cgs_nil))))) (css_cons (cs_set sc_law.nd rfl (.inl rfl) (ce_callD D_turned (hr.mono (by decide)) hgd (by rfl) (cf_cons (ce_nm (pv 5)) (cf_cons (ce_ty call_tuple_of tuple_snd (by rfl) m_tuple (by decide +kernel) (ca_cons (co_e (ce_comp (own := [("place", 18)]) rfl sc_law.nd (ci_seq (ce_nm (pv 14))) (blkOk_by (by rfl)) (by decide) (fun _ _ _ _ _ => cg_nm sc_law.nd rfl (.inl rfl) (.inr rfl)) (fun _ _ _ _ _ => cts_nil) (fun _ _ _ _ _ => ce_idx (co_pk (pv 10)) (co_pk (pv 18))))) (ca_nil))) (cf_cons (ce_ty call_tuple_of tuple_snd (by rfl) m_tuple (by decide +kernel) (ca_cons (co_e (ce_comp (own := [("out", 19)]) rfl sc_law.nd (ci_seq (ce_nm (pv 11))) (blkOk_by (by rfl)) (by decide) (fun _ _ _ _ _ => cg_nm sc_law.nd rfl (.inl rfl) (.inr rfl)) (fun _ _ _ _ _ => cts_nil) (fun _ _ _ _ _ => ce_idx (co_pk (pv 15)) (co_pk (pv 19))))) (ca_nil))) (cf_cons (ce_nm (pv 13)) (cf_nil))))))) (css_one (cs_if (ct_ne (co_e (ce_b (call_reprD hgd (lt70 hr)) repr_snd (by rfl) m_repr (by decide +kernel) (ca_cons (co_e (ce_callD D_turned (hr.mono (by decide)) hgd (by rfl) (cf_cons (ce_nm (pv 12)) (cf_cons (ce_nm (pv 14)) (cf_cons (ce_nm (pv 15)) (cf_cons (ce_nm (pv 13)) (cf_nil))))))) (ca_nil)))) (co_e (ce_b (call_reprD hgd (lt70 hr)) repr_snd (by rfl) m_repr (by decide +kernel) (ca_cons (co_pk (pv 16)) (ca_nil)))) (lt64 hr)) (css_one (cs_ret (ce_bl))) (css_nil)))))))))))))) (css_one (cs_ret (ce_bl)))))) hm (F.binds (fun _ _ _ _ _ _ us hl => match us, hl with | [_], _ => rfl))
end
end
end K42
namespace K42
open PySem PySem.Spec L2 Evl Ev
/-! ### greatest common divisors -/
theorem fmod_nat (a b : Nat) : (a : Int).fmod (b : Int) = ((a % b : Nat) : Int) := by
  rw [Int.fmod_eq_emod_of_nonneg _ (Int.natCast_nonneg b)]; rfl
theorem div_while (x y : Option O) : ∀ (b a : Nat), ∃ n, whileN (mOp2 oGt (oPk' 3) (oE (mC (.int 0)))) (sPar 1 3 (mFz 3) (mOp2 oMod (oPk' 1) (oPk' 3))) n [x, some (.leaf (.int a)), y, some (.leaf (.int b))] = .ok (.nx [x, some (.leaf (.int (Nat.gcd a b : Nat))), y, some (.leaf (.int 0))]) := by
  intro b
  induction b using Nat.strongRecOn with
  | _ b ih =>
    intro a
    by_cases hb : b = 0
    · subst hb
      refine ⟨1, ?_⟩
      simp [whileN]
    · have hp := Nat.pos_of_ne_zero hb
      obtain ⟨n, hn⟩ := ih (a % b) (Nat.mod_lt _ hp) b
      refine ⟨n + 1, ?_⟩
      unfold whileN
      simp [hb, hp, fmod_nat]
      rw [← Int.natCast_emod, hn, Nat.gcd_comm b, ← Nat.gcd_rec, Nat.gcd_comm]
/-- the greatest common divisor of all -/
def gcdL (ns : List Int) : Nat := ns.foldl (fun g n => Nat.gcd g n.natAbs) 0
theorem abs_ite (n : Int) : (if n < 0 then -n else n) = (n.natAbs : Int) := by omega
theorem divisor_for (X : Option O) : ∀ (ns : List Int) (g : Nat) (y z : Option O), ∃ y' z', forL (gNm 2) (sSeq (sSet 3 (mAs (o1 oAbs) (aCons (oPk' 2) aNil))) (sWh (mOp2 oGt (oPk' 3) (oE (mC (.int 0)))) (sPar 1 3 (mFz 3) (mOp2 oMod (oPk' 1) (oPk' 3))))) (ns.map .int)
    [X, some (.leaf (.int g)), y, z] = .ok (.nx [X, some (.leaf (.int (ns.foldl (fun g n => Nat.gcd g n.natAbs) g : Nat))), y', z'])
  | [], g, y, z => ⟨y, z, rfl⟩
  | n :: ns, g, y, z => by
    obtain ⟨k, hk⟩ := div_while X (some (.leaf (.int n))) n.natAbs g
    obtain ⟨y', z', ih⟩ := divisor_for X ns (Nat.gcd g n.natAbs) (some (.leaf (.int n))) (some (.leaf (.int 0)))
    refine ⟨y', z', ?_⟩
    simp [forL, abs_ite]
    rw [sWh_of hk]
    simpa using ih
theorem divisor_run (ns : List Int) : f_divisor [.leaf (.list (ns.map .int))] = .ok (.leaf (.int (gcdL ns)), [.leaf (.list (ns.map .int))]) := by
  obtain ⟨y, z, h⟩ := divisor_for (some (.leaf (.list (ns.map .int)))) ns 0 none none
  refine runDef_rt rfl rfl (en := [some (.leaf (.list (ns.map .int))), none, y, z]) ?_
  unfold b_divisor
  have h' := h
  simp at h'
  simp [h', gcdL]
theorem gcd_while : ∀ (b a : Nat), ∃ n, whileN (mOp2 (oNe) (oPk' 1) (oE (mC (.int 0)))) (sPar 0 1 (mFz 1) (mOp2 oMod (oE (mAs (o1 oInt) (aCons (oPk' 0) (aNil)))) (oE (mAs (o1 oInt) (aCons (oPk' 1) (aNil)))))) n [some (.leaf (.int a)), some (.leaf (.int b))] = .ok (.nx [some (.leaf (.int (Nat.gcd a b : Nat))), some (.leaf (.int 0))]) := by
  intro b
  induction b using Nat.strongRecOn with
  | _ b ih =>
    intro a
    by_cases hb : b = 0
    · subst hb
      refine ⟨1, ?_⟩
      simp [whileN]
    · obtain ⟨n, hn⟩ := ih (a % b) (Nat.mod_lt _ (Nat.pos_of_ne_zero hb)) b
      refine ⟨n + 1, ?_⟩
      unfold whileN
      simp [hb, fmod_nat]
      rw [← Int.natCast_emod, hn, Nat.gcd_comm b, ← Nat.gcd_rec, Nat.gcd_comm]
theorem gcd_run (a b : Nat) : f__law_gcd [.leaf (.int a), .leaf (.int b)] = .ok (.leaf (.int (Nat.gcd a b : Nat)), [.leaf (.int a), .leaf (.int b)]) := by
  obtain ⟨k, hk⟩ := gcd_while b a
  refine runDef_rt rfl rfl (en := [some (.leaf (.int (Nat.gcd a b : Nat))), some (.leaf (.int 0))]) ?_
  unfold b__law_gcd
  have hk' := sWh_of hk
  simp [hk', abs_ite]
end K42
namespace K42
open PySem PySem.Spec L2 Evl Ev
/-! ### lowest terms -/
def rowL (r : List Int) : PyData := .list (r.map .int)
def rowT (r : List Int) : PyData := .tuple (r.map .int)
def chan (w : Int) (R : List (List Int)) : PyData := .tuple [.int w, .tuple (R.map rowT)]
def lowD (w : Int) (R : List (List Int)) : PyData := chan (w.fdiv (gcdL (w :: R.flatten))) (R.map fun r => r.map fun i => i.fdiv (gcdL (w :: R.flatten)))
/-- lists that are not long -/
def Fit (R : List (List Int)) : Prop := R.length ≤ 1000 ∧ ∀ r ∈ R, r.length ≤ 1000
theorem flat_len {R : List (List Int)} (h : ∀ r ∈ R, r.length ≤ 1000) : R.flatten.length ≤ R.length * 1000 := by
  induction R with
  | nil => simp
  | cons r R ih =>
    have h1 := h r (List.mem_cons_self ..)
    have h2 := ih fun r hr => h r (List.mem_cons_of_mem _ hr)
    rw [List.flatten_cons, List.length_append, List.length_cons]
    omega
theorem sl : (2000000 : Nat) < sizeLine := by decide
theorem foldl_gcd (ns : List Int) : ∀ g : Nat, ns.foldl (fun g n => Nat.gcd g n.natAbs) g = Nat.gcd g (gcdL ns) := by
  unfold gcdL
  induction ns with
  | nil => intro g; simp
  | cons n ns ih =>
    intro g
    rw [List.foldl_cons, List.foldl_cons, ih, ih (Nat.gcd 0 _), Nat.gcd_zero_left, Nat.gcd_assoc]
theorem gcdL_cons (n : Int) (ns : List Int) : gcdL (n :: ns) = Nat.gcd n.natAbs (gcdL ns) := by
  show (n :: ns).foldl _ 0 = _
  rw [List.foldl_cons, foldl_gcd, Nat.gcd_zero_left]
theorem gcdL_pos {w : Int} {ns : List Int} (h : 0 < w) : 0 < gcdL (w :: ns) := by
  rw [gcdL_cons]
  exact Nat.gcd_pos_of_pos_left _ (by omega)
theorem gcdL_le {w : Int} {ns : List Int} (h : 0 < w) : (gcdL (w :: ns) : Int) ≤ w := by
  have : gcdL (w :: ns) ≤ w.natAbs := by
    rw [gcdL_cons]
    exact Nat.le_of_dvd (by omega) (Nat.gcd_dvd_left _ _)
  omega
def lst? : PyData → List PyData
  | .list xs => xs
  | .tuple xs => xs
  | _ => []
theorem flatMap_rows (R : List (List Int)) : (R.map rowL).flatMap lst? = R.flatten.map .int := by
  induction R with
  | nil => rfl
  | cons r R ih =>
    rw [List.map_cons, List.flatMap_cons, ih, List.flatten_cons, List.map_append]
    rfl
def divI (g : Int) : PyData → PyData
  | .int i => .int (i.fdiv g)
  | d => d
def divR (g : Int) : PyData → PyData
  | .list xs => .tuple (xs.map (divI g))
  | .tuple xs => .tuple (xs.map (divI g))
  | d => d
theorem divI_map (g : Int) (r : List Int) : (r.map PyData.int).map (divI g) = (r.map fun i => i.fdiv g).map PyData.int := by
  rw [List.map_map, List.map_map]
  rfl
theorem divR_L (g : Int) (R : List (List Int)) : (R.map rowL).map (divR g) = (R.map fun r => r.map fun i => i.fdiv g).map rowT := by
  rw [List.map_map, List.map_map]
  refine List.map_congr_left fun r _ => ?_
  show PyData.tuple _ = PyData.tuple _
  rw [divI_map]
theorem divR_T (g : Int) (R : List (List Int)) : (R.map rowT).map (divR g) = (R.map fun r => r.map fun i => i.fdiv g).map rowT := by
  rw [List.map_map, List.map_map]
  refine List.map_congr_left fun r _ => ?_
  show PyData.tuple _ = PyData.tuple _
  rw [divI_map]
theorem fit_le {R : List (List Int)} (hR : Fit R) : R.length ≤ sizeLine ∧ R.flatten.length + 1 ≤ sizeLine ∧ ∀ r ∈ R, r.length ≤ sizeLine := by
  have hl := flat_len hR.2
  have hl2 := hR.1
  have hs := sl
  exact ⟨by omega, by omega, fun r hr => by have := hR.2 r hr; omega⟩
theorem bare_run (w : Int) (R : List (List Int)) (hw : 0 < w) (hw2 : w < 2 ^ 64) (hR : Fit R) : f_bare_channel [.leaf (.int w), .leaf (.list (R.map rowL))] = .ok (.leaf (lowD w R), [.leaf (.int w), .leaf (.list (R.map rowL))]) := by
  obtain ⟨f1, f2, f3⟩ := fit_le hR
  have hg := gcdL_pos (ns := R.flatten) hw
  have hgl := gcdL_le (ns := R.flatten) hw
  have dv := divisor_run (w :: R.flatten)
  have lw : lowD w R = chan (w.fdiv (gcdL (w :: R.flatten))) (R.map fun r => r.map fun i => i.fdiv (gcdL (w :: R.flatten))) := rfl
  generalize gcdL (w :: R.flatten) = gg at hg hgl dv lw
  have big1 : inBig (gg : Int) = true := inBig_of (by omega)
  have h0 : gg ≠ 0 := by omega
  have c1 : comp2L [3, 4] (gNm 3) mYes (iSeq (mFz 3)) [4] (gNm 4) mYes (mFz 4) (R.map rowL) [] [some (.leaf (.int w)), some (.leaf (.list (R.map rowL))), none, none, none] = .ok ([] ++ R.flatten.map .int, [some (.leaf (.int w)), some (.leaf (.list (R.map rowL))), none, none, none]) := by
    rw [← flatMap_rows]
    refine comp2L_eq _ ?_ ?_
    · rw [flatMap_rows, List.length_map, List.length_nil]
      omega
    · intro d hd acc ha
      obtain ⟨r, hr, rfl⟩ := List.mem_map.mp hd
      have q := compL_eq (vs := [4]) (g := gNm 4) (elt := mFz 4) (en := [some (.leaf (.int w)), some (.leaf (.list (R.map rowL))), none, some (.leaf (rowL r)), none]) id (ds := r.map .int) (acc := acc) ha (fun d hd => by simp)
      rw [List.map_id] at q
      simp only [rowL] at q
      simp [rowL, q, lst?]
  have c2 : ∀ r ∈ R, compL [4] (gNm 4) mYes (mOp2 oDiv (oPk' 4) (oPk' 2)) (r.map .int) [] [some (.leaf (.int w)), some (.leaf (.list (R.map rowL))), some (.leaf (.int gg)), some (.leaf (rowL r)), none] =
      .ok ([] ++ (r.map .int).map (divI gg), [some (.leaf (.int w)), some (.leaf (.list (R.map rowL))), some (.leaf (.int gg)), some (.leaf (rowL r)), none]) := by
    intro r hr
    refine compL_eq _ (by have := f3 r hr; simpa using this) fun d hd => ?_
    obtain ⟨i, hi, rfl⟩ := List.mem_map.mp hd
    simp [h0, big1, divI]
  have c3 : compL [3] (gNm 3) mYes (mAs (o1 oTuple) (aCons (oE (mComp [4] (iSeq (mFz 3)) (gNm 4) (mYes) (mOp2 oDiv (oPk' 4) (oPk' 2)))) (aNil))) (R.map rowL) [] [some (.leaf (.int w)), some (.leaf (.list (R.map rowL))), some (.leaf (.int gg)), none, none] =
      .ok ([] ++ (R.map rowL).map (divR gg), [some (.leaf (.int w)), some (.leaf (.list (R.map rowL))), some (.leaf (.int gg)), none, none]) := by
    refine compL_eq _ (by simpa using f1) fun d hd => ?_
    obtain ⟨r, hr, rfl⟩ := List.mem_map.mp hd
    have q := c2 r hr
    simp only [rowL] at q
    simp [rowL, q, divR]
  refine runDef_rt rfl rfl (en := [some (.leaf (.int w)), some (.leaf (.list (R.map rowL))), some (.leaf (.int gg)), none, none]) ?_
  unfold b_bare_channel
  rw [divR_L] at c3
  rw [List.map_cons] at dv
  have z1 : (1 : Nat) ≤ sizeLine := by decide
  have z2 : (2 : Nat) ≤ sizeLine := by decide
  have e1 : oAdd (.list [.int w]) (.list (R.flatten.map .int)) = some (LL ((w :: R.flatten).map PyData.int)) := oAdd_lst [.int w] _ (by rw [List.length_map, List.length_singleton, Nat.add_comm]; exact f2)
  simp [-List.map_flatten, -List.map_map, c1, z1, z2, e1, dv, h0, big1, c3, lw, chan]
/-! ### turned -/
def natD (l : List Nat) : List PyData := l.map fun (n : Nat) => PyData.int (n : Int)
def put (acc : List Int) (p : Int × Nat) : List Int := acc.set p.2 (acc.getD p.2 0 + p.1)
def turnRow (outs : List Nat) (many : Nat) (row : List Int) : List Int := (row.zip outs).foldl put (List.replicate many 0)
def turnR (R : List (List Int)) (ins outs : List Nat) (many : Nat) : List (List Int) := ins.map fun p => turnRow outs many (R.getD p [])
def pairD (p : Int × Nat) : PyData := .tuple [.int p.1, .int (p.2 : Int)]
theorem zip_pairs : ∀ (row : List Int) (outs : List Nat), zipD (row.map .int) (natD outs) = (row.zip outs).map pairD
  | [], _ => by simp [zipD]
  | _ :: _, [] => by simp [zipD, natD]
  | x :: row, o :: outs => by
    have ih := zip_pairs row outs
    unfold natD at ih ⊢
    simp only [List.map_cons, zipD, List.zip_cons_cons, pairD] at ih ⊢
    rw [ih]
theorem put_len (acc : List Int) (p : Int × Nat) : (put acc p).length = acc.length := by simp [put]
theorem inner_for (x0 x1 x2 x3 x4 x5 : Option O) : ∀ (ps : List (Int × Nat)) (acc : List Int) (y7 y8 : Option O), (∀ p ∈ ps, p.2 < acc.length) → ∃ y7' y8', forL (gTup 2 (gCons (gNm 7) (gCons (gNm 8) (gNil)))) (sSetIx 6 (mFz 8) (mOp2 oAdd (oE (mOp2 oIx (oPk' 6) (oPk' 8))) (oPk' 7))) (ps.map pairD)
    [x0, x1, x2, x3, x4, x5, some (LL (acc.map .int)), y7, y8] = .ok (.nx [x0, x1, x2, x3, x4, x5, some (LL ((ps.foldl put acc).map .int)), y7', y8'])
  | [], acc, y7, y8, _ => ⟨y7, y8, rfl⟩
  | p :: ps, acc, y7, y8, h => by
    have hp := h p (List.mem_cons_self ..)
    obtain ⟨y7', y8', ih⟩ := inner_for x0 x1 x2 x3 x4 x5 ps (put acc p) (some (.leaf (.int p.1))) (some (.leaf (.int (p.2 : Int)))) (fun q hq => by rw [put_len]; exact h q (List.mem_cons_of_mem _ hq))
    refine ⟨y7', y8', ?_⟩
    have hg : (acc.map PyData.int)[p.2]? = some (.int acc[p.2]) := by rw [List.getElem?_map, List.getElem?_eq_getElem hp]; rfl
    have st := setIx_ok [x0, x1, x2, x3, x4, x5, some (LL (acc.map .int)), some (.leaf (.int p.1)), some (.leaf (.int (p.2 : Int)))] (mOp2 oAdd (oE (mOp2 oIx (oPk' 6) (oPk' 8))) (oPk' 7)) 6 p.2 (.int (acc[p.2] + p.1)) (mFz 8) (acc.map .int) (.leaf (.int (acc[p.2] + p.1))) _ _
      (by simp [hg]; rfl) (by simp) ⟨_, rfl⟩ (by simp; rfl) rfl (by simpa using hp)
    have e : (acc.map PyData.int).set p.2 (.int (acc[p.2] + p.1)) = (put acc p).map .int := by
      unfold put
      rw [List.map_set, List.getD_eq_getElem?_getD, List.getElem?_eq_getElem hp]
      rfl
    rw [e] at st
    simp only [List.map_cons, forL, pairD, ev_gTup, List.length_cons, List.length_nil, if_true, ev_gCons, ev_gNm, R.bind_ok, List.set_cons_succ, List.set_cons_zero, ev_gNil, List.foldl_cons]
    rw [st]
    exact ih
theorem rep_LL (many : Nat) : (List.replicate many [PyData.int 0]).flatten = (List.replicate many (0 : Int)).map .int := by
  induction many with
  | zero => rfl
  | succ n ih => rw [List.replicate_succ, List.replicate_succ, List.flatten_cons, List.map_cons, ih]; rfl
theorem rep_mul {many : Nat} (h : many ≤ 1000) : oMul (.list [.int 0]) (.int (many : Int)) = some (LL ((List.replicate many (0 : Int)).map .int)) := by
  have e := oMul_lst (many : Int) [.int 0] ⟨by omega, by omega, by have := sl; simp; omega⟩
  rw [e, Int.toNat_natCast, rep_LL]
section
variable (w : Int) (R : List (List Int)) (outs : List Nat) (many : Nat) (x1 : Option O)
/-- how the rows of a channel are turned, one after another -/
theorem turn_for (hm : many ≤ 1000) (ho : ∀ o ∈ outs, o < many) : ∀ (ins : List Nat) (found : List PyData) (y5 y6 y7 y8 : Option O), (∀ p ∈ ins, p < R.length) → found.length + ins.length ≤ 1000 → ∃ y5' y6' y7' y8',
    forL (gNm 5) (sSeq (sSet 6 (mOp2 oMul (oE (mLst (fCons (mC (.int 0)) (fNil)))) (oPk' 3))) (sSeq (sFor (iZip (fCons (mOp2 oIx (oE (mOp2 oIx (oPk' 0) (oE (mC (.int 1))))) (oPk' 5)) (fCons (mFz 2) (fNil)))) (gTup 2 (gCons (gNm 7) (gCons (gNm 8) (gNil)))) (sSetIx 6 (mFz 8) (mOp2 oAdd (oE (mOp2 oIx (oPk' 6) (oPk' 8))) (oPk' 7)))) (sDrop (mApp 4 (mFz 6))))) (natD ins)
      [some (.leaf (chan w R)), x1, some (.leaf (.tuple (natD outs))), some (.leaf (.int many)), some (LL found), y5, y6, y7, y8] =
      .ok (.nx [some (.leaf (chan w R)), x1, some (.leaf (.tuple (natD outs))), some (.leaf (.int many)), some (LL (found ++ (turnR R ins outs many).map rowL)), y5', y6', y7', y8'])
  | [], found, y5, y6, y7, y8, _, _ => ⟨y5, y6, y7, y8, by simp [natD, forL, turnR]⟩
  | p :: ins, found, y5, y6, y7, y8, hp, hl => by
    have hp0 := hp p (List.mem_cons_self ..)
    rw [List.length_cons] at hl
    obtain ⟨r, hr⟩ : ∃ r, R[p]? = some r := ⟨_, List.getElem?_eq_getElem hp0⟩
    have hr' : (R.map rowT)[p]? = some (.tuple (r.map .int)) := by rw [List.getElem?_map, hr]; rfl
    have er : R.getD p [] = r := by rw [List.getD_eq_getElem?_getD, hr]; rfl
    have lt : ∀ q ∈ r.zip outs, q.2 < (List.replicate many (0 : Int)).length := fun q hq => by
      rw [List.length_replicate]
      exact ho _ (List.of_mem_zip hq).2
    obtain ⟨y7', y8', inn⟩ := inner_for (some (.leaf (chan w R))) x1 (some (.leaf (.tuple (natD outs)))) (some (.leaf (.int many))) (some (LL found)) (some (.leaf (.int p))) (r.zip outs) (List.replicate many 0) y7 y8 lt
    obtain ⟨z5, z6, z7, z8, ih⟩ := turn_for hm ho ins (found ++ [rowL (turnRow outs many r)]) (some (.leaf (.int p))) (some (.leaf (rowL (turnRow outs many r)))) y7' y8' (fun q hq => hp q (List.mem_cons_of_mem _ hq)) (by rw [List.length_append, List.length_singleton]; omega)
    refine ⟨z5, z6, z7, z8, ?_⟩
    have z1 : (1 : Nat) ≤ sizeLine := by decide
    have app := app_ok [some (.leaf (chan w R)), x1, some (.leaf (.tuple (natD outs))), some (.leaf (.int many)), some (LL found), some (.leaf (.int p)), some (LL ((turnRow outs many r).map .int)), y7', y8'] (mFz 6) 4 (rowL (turnRow outs many r)) found _ _ ⟨_, rfl⟩
      (ev_mFzL _ 6 ((turnRow outs many r).map .int) rfl) rfl rfl (by have := sl; omega)
    rw [← zip_pairs] at inn
    have rm := rep_mul hm
    have s1 : sSet 6 (mOp2 oMul (oE (mLst (fCons (mC (.int 0)) (fNil)))) (oPk' 3)) [some (.leaf (chan w R)), x1, some (.leaf (.tuple (natD outs))), some (.leaf (.int many)), some (LL found), some (.leaf (.int p)), y6, y7, y8] =
      .ok (.nx [some (.leaf (chan w R)), x1, some (.leaf (.tuple (natD outs))), some (.leaf (.int many)), some (LL found), some (.leaf (.int p)), some (LL ((List.replicate many (0 : Int)).map .int)), y7, y8]) := by
      simp [-List.map_replicate, rm, z1]
    have s2 : iZip (fCons (mOp2 oIx (oE (mOp2 oIx (oPk' 0) (oE (mC (.int 1))))) (oPk' 5)) (fCons (mFz 2) (fNil))) [some (.leaf (chan w R)), x1, some (.leaf (.tuple (natD outs))), some (.leaf (.int many)), some (LL found), some (.leaf (.int p)), some (LL ((List.replicate many (0 : Int)).map .int)), y7, y8] =
      .ok (zipD (r.map .int) (natD outs), [some (.leaf (chan w R)), x1, some (.leaf (.tuple (natD outs))), some (.leaf (.int many)), some (LL found), some (.leaf (.int p)), some (LL ((List.replicate many (0 : Int)).map .int)), y7, y8]) := by
      simp [-List.map_replicate, chan, oIx_t _ _ p hr']
    refine forL_cons (d := .int (p : Int)) rfl (seq_nx s1 (seq_nx (for_of s2 inn) (drop_of app))) ?_
    refine ih.trans ?_
    unfold turnR
    rw [List.map_cons, List.map_cons, er, List.append_assoc]
    rfl
theorem turned_rows_run (hm : many ≤ 1000) (ho : ∀ o ∈ outs, o < many) (ins : List Nat) (hp : ∀ p ∈ ins, p < R.length) (hl : ins.length ≤ 1000) :
    f_turned_rows [.leaf (chan w R), .leaf (.tuple (natD ins)), .leaf (.tuple (natD outs)), .leaf (.int many)] = .ok (LL ((turnR R ins outs many).map rowL), [.leaf (chan w R), .leaf (.tuple (natD ins)), .leaf (.tuple (natD outs)), .leaf (.int many)]) := by
  obtain ⟨y5, y6, y7, y8, h⟩ := turn_for w R outs many (some (.leaf (.tuple (natD ins)))) hm ho ins [] none none none none hp (by simpa using hl)
  refine runDef_rt rfl rfl (en := [some (.leaf (chan w R)), some (.leaf (.tuple (natD ins))), some (.leaf (.tuple (natD outs))), some (.leaf (.int many)), none, y5, y6, y7, y8]) ?_
  unfold b_turned_rows
  refine seq_nx (e1 := [some (.leaf (chan w R)), some (.leaf (.tuple (natD ins))), some (.leaf (.tuple (natD outs))), some (.leaf (.int many)), some (LL []), none, none, none, none]) (by simp) (seq_nx (for_of (ds := natD ins) (by simp) h) ?_)
  exact ret_of (ev_mMv _ 4 _ rfl)
end
end K42
namespace K42
open PySem PySem.Spec L2 Evl Ev
section
variable (R : List (List Int)) (outs : List Nat) (many : Nat) (x1 : Option O)
theorem lturn_for (hm : many ≤ 1000) (ho : ∀ o ∈ outs, o < many) : ∀ (ins : List Nat) (found : List PyData) (y5 y6 y7 y8 : Option O), (∀ p ∈ ins, p < R.length) → found.length + ins.length ≤ 1000 → ∃ y5' y6' y7' y8',
    forL (gNm 5) (sSeq (sSet 6 (mOp2 oMul (oE (mLst (fCons (mC (.int 0)) (fNil)))) (oPk' 3))) (sSeq (sFor (iZip (fCons (mOp2 oIx (oPk' 0) (oPk' 5)) (fCons (mFz 2) (fNil)))) (gTup 2 (gCons (gNm 7) (gCons (gNm 8) (gNil)))) (sSetIx 6 (mFz 8) (mOp2 oAdd (oE (mOp2 oIx (oPk' 6) (oPk' 8))) (oPk' 7)))) (sDrop (mApp 4 (mAs (o1 oTuple) (aCons (oPk' 6) (aNil))))))) (natD ins)
      [some (.leaf (.tuple (R.map rowT))), x1, some (.leaf (.tuple (natD outs))), some (.leaf (.int many)), some (LL found), y5, y6, y7, y8] =
      .ok (.nx [some (.leaf (.tuple (R.map rowT))), x1, some (.leaf (.tuple (natD outs))), some (.leaf (.int many)), some (LL (found ++ (turnR R ins outs many).map rowT)), y5', y6', y7', y8'])
  | [], found, y5, y6, y7, y8, _, _ => ⟨y5, y6, y7, y8, by simp [natD, forL, turnR]⟩
  | p :: ins, found, y5, y6, y7, y8, hp, hl => by
    have hp0 := hp p (List.mem_cons_self ..)
    rw [List.length_cons] at hl
    obtain ⟨r, hr⟩ : ∃ r, R[p]? = some r := ⟨_, List.getElem?_eq_getElem hp0⟩
    have hr' : (R.map rowT)[p]? = some (.tuple (r.map .int)) := by rw [List.getElem?_map, hr]; rfl
    have er : R.getD p [] = r := by rw [List.getD_eq_getElem?_getD, hr]; rfl
    have lt : ∀ q ∈ r.zip outs, q.2 < (List.replicate many (0 : Int)).length := fun q hq => by
      rw [List.length_replicate]
      exact ho _ (List.of_mem_zip hq).2
    obtain ⟨y7', y8', inn⟩ := inner_for (some (.leaf (.tuple (R.map rowT)))) x1 (some (.leaf (.tuple (natD outs)))) (some (.leaf (.int many))) (some (LL found)) (some (.leaf (.int p))) (r.zip outs) (List.replicate many 0) y7 y8 lt
    obtain ⟨z5, z6, z7, z8, ih⟩ := lturn_for hm ho ins (found ++ [rowT (turnRow outs many r)]) (some (.leaf (.int p))) (some (LL ((turnRow outs many r).map .int))) y7' y8' (fun q hq => hp q (List.mem_cons_of_mem _ hq)) (by rw [List.length_append, List.length_singleton]; omega)
    refine ⟨z5, z6, z7, z8, ?_⟩
    have z1 : (1 : Nat) ≤ sizeLine := by decide
    have app := app_ok [some (.leaf (.tuple (R.map rowT))), x1, some (.leaf (.tuple (natD outs))), some (.leaf (.int many)), some (LL found), some (.leaf (.int p)), some (LL ((turnRow outs many r).map .int)), y7', y8'] (mAs (o1 oTuple) (aCons (oPk' 6) (aNil))) 4 (rowT (turnRow outs many r)) found (.leaf (rowT (turnRow outs many r))) [some (.leaf (.tuple (R.map rowT))), x1, some (.leaf (.tuple (natD outs))), some (.leaf (.int many)), some (LL found), some (.leaf (.int p)), some (LL ((turnRow outs many r).map .int)), y7', y8'] ⟨_, rfl⟩
      (by simp [rowT]) rfl rfl (by have := sl; omega)
    rw [← zip_pairs] at inn
    have rm := rep_mul hm
    have s1 : sSet 6 (mOp2 oMul (oE (mLst (fCons (mC (.int 0)) (fNil)))) (oPk' 3)) [some (.leaf (.tuple (R.map rowT))), x1, some (.leaf (.tuple (natD outs))), some (.leaf (.int many)), some (LL found), some (.leaf (.int p)), y6, y7, y8] =
      .ok (.nx [some (.leaf (.tuple (R.map rowT))), x1, some (.leaf (.tuple (natD outs))), some (.leaf (.int many)), some (LL found), some (.leaf (.int p)), some (LL ((List.replicate many (0 : Int)).map .int)), y7, y8]) := by
      simp [-List.map_replicate, rm, z1]
    have s2 : iZip (fCons (mOp2 oIx (oPk' 0) (oPk' 5)) (fCons (mFz 2) (fNil))) [some (.leaf (.tuple (R.map rowT))), x1, some (.leaf (.tuple (natD outs))), some (.leaf (.int many)), some (LL found), some (.leaf (.int p)), some (LL ((List.replicate many (0 : Int)).map .int)), y7, y8] =
      .ok (zipD (r.map .int) (natD outs), [some (.leaf (.tuple (R.map rowT))), x1, some (.leaf (.tuple (natD outs))), some (.leaf (.int many)), some (LL found), some (.leaf (.int p)), some (LL ((List.replicate many (0 : Int)).map .int)), y7, y8]) := by
      simp [-List.map_replicate, oIx_t _ _ p hr']
    refine forL_cons (d := .int (p : Int)) rfl (seq_nx s1 (seq_nx (for_of s2 inn) (drop_of app))) ?_
    refine ih.trans ?_
    unfold turnR
    rw [List.map_cons, List.map_cons, er, List.append_assoc]
    rfl
theorem lturned_run (hm : many ≤ 1000) (ho : ∀ o ∈ outs, o < many) (ins : List Nat) (hp : ∀ p ∈ ins, p < R.length) (hl : ins.length ≤ 1000) :
    f__law_turned [.leaf (.tuple (R.map rowT)), .leaf (.tuple (natD ins)), .leaf (.tuple (natD outs)), .leaf (.int many)] = .ok (LL ((turnR R ins outs many).map rowT), [.leaf (.tuple (R.map rowT)), .leaf (.tuple (natD ins)), .leaf (.tuple (natD outs)), .leaf (.int many)]) := by
  obtain ⟨y5, y6, y7, y8, h⟩ := lturn_for R outs many (some (.leaf (.tuple (natD ins)))) hm ho ins [] none none none none hp (by simpa using hl)
  refine runDef_rt rfl rfl (en := [some (.leaf (.tuple (R.map rowT))), some (.leaf (.tuple (natD ins))), some (.leaf (.tuple (natD outs))), some (.leaf (.int many)), none, y5, y6, y7, y8]) ?_
  unfold b__law_turned
  refine seq_nx (e1 := [some (.leaf (.tuple (R.map rowT))), some (.leaf (.tuple (natD ins))), some (.leaf (.tuple (natD outs))), some (.leaf (.int many)), some (LL []), none, none, none, none]) (by simp) (seq_nx (for_of (ds := natD ins) (by simp) h) ?_)
  exact ret_of (ev_mMv _ 4 _ rfl)
end
/-! ### lowered -/
def Nn (R : List (List Int)) : Prop := ∀ r ∈ R, ∀ i ∈ r, 0 ≤ i
theorem low_in (x0 x1 x3 : Option O) : ∀ (ns : List Int) (g : Nat) (y4 : Option O), Jk y4 → (∀ n ∈ ns, 0 ≤ n) → ∃ y4', Jk y4' ∧ forL (gNm 4) (sSet 2 (mCall f__law_gcd (fCons (mFz 2) (fCons (mFz 4) (fNil))))) (ns.map .int) [x0, x1, some (.leaf (.int g)), x3, y4] =
    .ok (.nx [x0, x1, some (.leaf (.int (ns.foldl (fun g n => Nat.gcd g n.natAbs) g : Nat))), x3, y4'])
  | [], g, y4, hj, _ => ⟨y4, hj, rfl⟩
  | n :: ns, g, y4, hj, h => by
    have h0 := h n (List.mem_cons_self ..)
    obtain ⟨y4', hj', ih⟩ := low_in x0 x1 x3 ns (Nat.gcd g n.natAbs) (some (.leaf (.int n))) .lf fun m hm => h m (List.mem_cons_of_mem _ hm)
    refine ⟨y4', hj', ?_⟩
    have gr := gcd_run g n.natAbs
    have en : ((n.natAbs : Nat) : Int) = n := by omega
    rw [en] at gr
    refine forL_cons (d := .int n) rfl (e2 := [x0, x1, some (.leaf (.int (Nat.gcd g n.natAbs : Nat))), x3, some (.leaf (.int n))]) ?_ ih
    simp [gr]
theorem low_out (x0 x1 : Option O) : ∀ (R : List (List Int)) (g : Nat) (y3 y4 : Option O), Jk y3 → Jk y4 → Nn R → ∃ y3' y4', Jk y3' ∧ Jk y4' ∧ forL (gNm 3) (sFor (iSeq (mFz 3)) (gNm 4) (sSet 2 (mCall f__law_gcd (fCons (mFz 2) (fCons (mFz 4) (fNil)))))) (R.map rowT) [x0, x1, some (.leaf (.int g)), y3, y4] =
    .ok (.nx [x0, x1, some (.leaf (.int (R.flatten.foldl (fun g n => Nat.gcd g n.natAbs) g : Nat))), y3', y4'])
  | [], g, y3, y4, h3, h4, _ => ⟨y3, y4, h3, h4, rfl⟩
  | r :: R, g, y3, y4, h3, h4, h => by
    obtain ⟨y4', h4', inn⟩ := low_in x0 x1 (some (.leaf (rowT r))) r g y4 h4 (h r (List.mem_cons_self ..))
    obtain ⟨z3, z4, j3, j4, ih⟩ := low_out x0 x1 R (r.foldl (fun g n => Nat.gcd g n.natAbs) g) (some (.leaf (rowT r))) y4' .lf h4' fun q hq => h q (List.mem_cons_of_mem _ hq)
    refine ⟨z3, z4, j3, j4, forL_cons (d := rowT r) rfl (for_of (ds := r.map .int) (by simp [rowT]) inn) (ih.trans ?_)⟩
    rw [List.flatten_cons, List.foldl_append]
theorem lowered_run (w : Int) (R : List (List Int)) (hw : 0 < w) (hw2 : w < 2 ^ 64) (hR : Fit R) (hn : Nn R) : f__law_lowered [.leaf (.int w), .leaf (.list (R.map rowT))] = .ok (.leaf (lowD w R), [.leaf (.int w), .leaf (.list (R.map rowT))]) := by
  obtain ⟨f1, f2, f3⟩ := fit_le hR
  have hg := gcdL_pos (ns := R.flatten) hw
  have hgl := gcdL_le (ns := R.flatten) hw
  obtain ⟨y3, y4, j3, j4, lp⟩ := low_out (some (.leaf (.int w))) (some (.leaf (.list (R.map rowT)))) R w.natAbs none none .non .non hn
  rw [foldl_gcd, ← gcdL_cons] at lp
  have ew : ((w.natAbs : Nat) : Int) = w := by omega
  rw [ew] at lp
  have lw : lowD w R = chan (w.fdiv (gcdL (w :: R.flatten))) (R.map fun r => r.map fun i => i.fdiv (gcdL (w :: R.flatten))) := rfl
  generalize gcdL (w :: R.flatten) = gg at hg hgl lp lw
  have big1 : inBig (gg : Int) = true := inBig_of (by omega)
  have h0 : gg ≠ 0 := by omega
  have c2 : ∀ r ∈ R, compL [4] (gNm 4) mYes (mOp2 oDiv (oPk' 4) (oPk' 2)) (r.map .int) [] [some (.leaf (.int w)), some (.leaf (.list (R.map rowT))), some (.leaf (.int gg)), some (.leaf (rowT r)), none] =
      .ok ([] ++ (r.map .int).map (divI gg), [some (.leaf (.int w)), some (.leaf (.list (R.map rowT))), some (.leaf (.int gg)), some (.leaf (rowT r)), none]) := by
    intro r hr
    refine compL_eq _ (by have := f3 r hr; simpa using this) fun d hd => ?_
    obtain ⟨i, hi, rfl⟩ := List.mem_map.mp hd
    simp [h0, big1, divI]
  have c3 : compL [3] (gNm 3) mYes (mAs (o1 oTuple) (aCons (oE (mComp [4] (iSeq (mFz 3)) (gNm 4) (mYes) (mOp2 oDiv (oPk' 4) (oPk' 2)))) (aNil))) (R.map rowT) [] [some (.leaf (.int w)), some (.leaf (.list (R.map rowT))), some (.leaf (.int gg)), none, y4] =
      .ok ([] ++ (R.map rowT).map (divR gg), [some (.leaf (.int w)), some (.leaf (.list (R.map rowT))), some (.leaf (.int gg)), none, y4]) := by
    refine compL_eq _ (by simpa using f1) fun d hd => ?_
    obtain ⟨r, hr, rfl⟩ := List.mem_map.mp hd
    have q := c2 r hr
    simp only [rowT] at q
    have pb : putBack [some (O.leaf (.int w)), some (.leaf (.list (R.map rowT))), some (.leaf (.int gg)), some (.leaf (rowT r)), y4] [4] [some (O.leaf (.int w)), some (.leaf (.list (R.map rowT))), some (.leaf (.int gg)), some (.leaf (rowT r)), none] = [some (O.leaf (.int w)), some (.leaf (.list (R.map rowT))), some (.leaf (.int gg)), some (.leaf (rowT r)), y4] := putBack_jk _ _ 4 [] y4 rfl j4
    simp only [rowT] at pb
    simp [rowT, q, divR, pb]
  rw [divR_T] at c3
  refine runDef_rt rfl rfl (en := [some (.leaf (.int w)), some (.leaf (.list (R.map rowT))), some (.leaf (.int gg)), y3, y4]) ?_
  unfold b__law_lowered
  have z2 : (2 : Nat) ≤ sizeLine := by decide
  refine seq_nx (e1 := [some (.leaf (.int w)), some (.leaf (.list (R.map rowT))), some (.leaf (.int w)), none, none]) (by simp) (seq_nx (for_of (ds := R.map rowT) (by simp) lp) ?_)
  have pb : putBack [some (O.leaf (.int w)), some (.leaf (.list (R.map rowT))), some (.leaf (.int gg)), y3, y4] [3] [some (O.leaf (.int w)), some (.leaf (.list (R.map rowT))), some (.leaf (.int gg)), none, y4] = [some (O.leaf (.int w)), some (.leaf (.list (R.map rowT))), some (.leaf (.int gg)), y3, y4] := putBack_jk _ _ 3 [] y3 rfl j3
  refine ret_of ?_
  simp [-List.map_map, z2, h0, big1, c3, lw, chan, pb]
end K42
namespace K42
open PySem PySem.Spec L2 Evl Ev
theorem oIx_chan0 (w : Int) (R : List (List Int)) : oIx (chan w R) (.int 0) = some (.leaf (.int w)) := oIx_t0 _ _
theorem oIx_chan1 (w : Int) (R : List (List Int)) : oIx (chan w R) (.int 1) = some (.leaf (.tuple (R.map rowT))) := oIx_t1 _ _ _
/-! what is asked of the parts -/
structure Good (R : List (List Int)) (outs : List Nat) (many : Nat) (ins : List Nat) : Prop where
  hm : many ≤ 1000
  ho : ∀ o ∈ outs, o < many
  hi : ∀ p ∈ ins, p < R.length
  hl : ins.length ≤ 1000
theorem foldl_put_len (ps : List (Int × Nat)) : ∀ acc : List Int, (ps.foldl put acc).length = acc.length := by
  induction ps with
  | nil => intro acc; rfl
  | cons p ps ih => intro acc; rw [List.foldl_cons, ih, put_len]
theorem turnRow_len (outs : List Nat) (many : Nat) (row : List Int) : (turnRow outs many row).length = many := by
  unfold turnRow
  rw [foldl_put_len, List.length_replicate]
theorem turnR_len (R : List (List Int)) (ins outs : List Nat) (many : Nat) : (turnR R ins outs many).length = ins.length := by simp [turnR]
theorem turnR_rows {R : List (List Int)} {ins outs : List Nat} {many : Nat} {r : List Int} (h : r ∈ turnR R ins outs many) : r.length = many := by
  obtain ⟨p, _, rfl⟩ := List.mem_map.mp h
  exact turnRow_len _ _ _
theorem turnR_fit {R : List (List Int)} {ins outs : List Nat} {many : Nat} (h : Good R outs many ins) : Fit (turnR R ins outs many) :=
  ⟨by rw [turnR_len]; exact h.hl, fun r hr => by rw [turnR_rows hr]; exact h.hm⟩
theorem turned_run (w : Int) (R : List (List Int)) (ins outs : List Nat) (many : Nat) (hw : 0 < w) (hw2 : w < 2 ^ 64) (h : Good R outs many ins) :
    f_turned [.leaf (chan w R), .leaf (.tuple (natD ins)), .leaf (.tuple (natD outs)), .leaf (.int many)] = .ok (.leaf (lowD w (turnR R ins outs many)), [.leaf (chan w R), .leaf (.tuple (natD ins)), .leaf (.tuple (natD outs)), .leaf (.int many)]) := by
  have t := turned_rows_run w R outs many h.hm h.ho ins h.hi h.hl
  have b := bare_run w (turnR R ins outs many) hw hw2 (turnR_fit h)
  refine runDef_rt rfl rfl (en := [some (.leaf (chan w R)), some (.leaf (.tuple (natD ins))), some (.leaf (.tuple (natD outs))), some (.leaf (.int many))]) ?_
  unfold b_turned
  simp [oIx_chan0, t, b]
/-! ### mixtures -/
abbrev Mix := List (Int × List Nat × List Nat)
def mixI (m : Int × List Nat × List Nat) : PyData := .tuple [.int m.1, .tuple (natD m.2.1), .tuple (natD m.2.2)]
def mixD (ms : Mix) : PyData := .tuple (ms.map mixI)
def addRow (wt : Int) (row own : List Int) : List Int := List.zipWith (fun a b => a + wt * b) row own
def rowO (r : List Int) : O := LL (r.map .int)
theorem rows_of {f r : Nat} {m : Xm} {g : Gm} {b : Sm} {en e1 e2 : En} {o : O} {d : PyData} {ys : List PyData} {os os' : List O} (h0 : ∃ os0, en[f]? = some (some (.lst os0))) (h1 : m en = .ok (o, e1)) (h2 : snap o = some d) (h3 : seqD d = some ys) (h4 : e1[f]? = some (some (.lst os)))
    (h5 : r < e1.length) (h6 : rowsL r g b ys 0 os ((e1.set f none).set r none) = .ok (os', e2)) : sRows f r m g b en = .ok (.nx (e2.set f (some (.lst os')))) := by
  obtain ⟨os0, h0⟩ := h0
  unfold sRows
  rw [h0]
  dsimp only
  rw [h1, R.bind_ok]
  dsimp only
  rw [h2]
  dsimp only
  rw [h3, h4]
  dsimp only
  rw [if_pos h5, h6]
  rfl
theorem add_for (x0 x1 x2 x3 x4 x6 x7 x9 x12 : Option O) (wt : Int) (hwt : wt.natAbs < 2 ^ 64) : ∀ (own row pre : List Int) (y10 y11 : Option O), row.length = own.length → ∃ y10' y11',
    forL (gTup 2 (gCons (gNm 10) (gCons (gNm 11) (gNil)))) (sSetIx 8 (mFz 10) (mOp2 oAdd (oE (mOp2 oIx (oPk' 8) (oPk' 10))) (oE (mOp2 oMul (oPk' 5) (oPk' 11))))) (enumD pre.length (own.map .int))
      [x0, x1, x2, x3, x4, some (.leaf (.int wt)), x6, x7, some (rowO (pre ++ row)), x9, y10, y11, x12] =
      .ok (.nx [x0, x1, x2, x3, x4, some (.leaf (.int wt)), x6, x7, some (rowO (pre ++ addRow wt row own)), x9, y10', y11', x12])
  | [], row, pre, y10, y11, h => by
    have : row = [] := List.length_eq_zero_iff.mp h
    subst this
    exact ⟨y10, y11, rfl⟩
  | b :: own, [], pre, y10, y11, h => by cases h
  | b :: own, a :: row, pre, y10, y11, h => by
    obtain ⟨y10', y11', ih⟩ := add_for x0 x1 x2 x3 x4 x6 x7 x9 x12 wt hwt own row (pre ++ [a + wt * b]) (some (.leaf (.int (pre.length : Nat)))) (some (.leaf (.int b))) (Nat.succ.inj h)
    refine ⟨y10', y11', ?_⟩
    have hg : ((pre ++ a :: row).map PyData.int)[pre.length]? = some (.int a) := by simp
    have mk := mulOk_l (j := b) hwt
    have st := setIx_ok [x0, x1, x2, x3, x4, some (.leaf (.int wt)), x6, x7, some (rowO (pre ++ a :: row)), x9, some (.leaf (.int (pre.length : Nat))), some (.leaf (.int b)), x12] (mOp2 oAdd (oE (mOp2 oIx (oPk' 8) (oPk' 10))) (oE (mOp2 oMul (oPk' 5) (oPk' 11)))) 8 pre.length (.int (a + wt * b)) (mFz 10) ((pre ++ a :: row).map .int) (.leaf (.int (a + wt * b)))
      [x0, x1, x2, x3, x4, some (.leaf (.int wt)), x6, x7, some (rowO (pre ++ a :: row)), x9, some (.leaf (.int (pre.length : Nat))), some (.leaf (.int b)), x12] [x0, x1, x2, x3, x4, some (.leaf (.int wt)), x6, x7, some (rowO (pre ++ a :: row)), x9, some (.leaf (.int (pre.length : Nat))), some (.leaf (.int b)), x12]
      (by simp only [List.map_append, List.map_cons] at hg; simp [rowO, hg, mk]) (by simp) ⟨_, rfl⟩ (by simp) rfl (by simp)
    have e : ((pre ++ a :: row).map PyData.int).set pre.length (.int (a + wt * b)) = (pre ++ [a + wt * b] ++ row).map .int := by simp
    rw [e] at st
    have ea : pre ++ [a + wt * b] ++ addRow wt row own = pre ++ addRow wt (a :: row) (b :: own) := by simp [addRow]
    rw [ea, List.length_append, List.length_singleton] at ih
    exact forL_cons (d := .tuple [.int (pre.length : Nat), .int b]) rfl st ih
theorem rows_for (x0 x1 x2 x3 x6 x7 x12 : Option O) (wt : Int) (hwt : wt.natAbs < 2 ^ 64) : ∀ (owns rest : List (List Int)) (done : List O) (y9 y10 y11 : Option O), rest.length = owns.length → (∀ p ∈ rest.zip owns, p.1.length = p.2.length) → ∃ y9' y10' y11',
    rowsL 8 (gNm 9) (sFor (iEnum (fCons (mFz 9) (fNil))) (gTup 2 (gCons (gNm 10) (gCons (gNm 11) (gNil)))) (sSetIx 8 (mFz 10) (mOp2 oAdd (oE (mOp2 oIx (oPk' 8) (oPk' 10))) (oE (mOp2 oMul (oPk' 5) (oPk' 11)))))) (owns.map rowL) done.length (done ++ rest.map rowO)
      [x0, x1, x2, x3, none, some (.leaf (.int wt)), x6, x7, none, y9, y10, y11, x12] =
      .ok (done ++ (List.zipWith (addRow wt) rest owns).map rowO, [x0, x1, x2, x3, none, some (.leaf (.int wt)), x6, x7, none, y9', y10', y11', x12])
  | [], rest, done, y9, y10, y11, h, _ => by
    have : rest = [] := List.length_eq_zero_iff.mp h
    subst this
    exact ⟨y9, y10, y11, rfl⟩
  | own :: owns, [], done, y9, y10, y11, h, _ => by cases h
  | own :: owns, row :: rest, done, y9, y10, y11, h, hl => by
    have hl0 : row.length = own.length := hl (row, own) (by simp)
    obtain ⟨y10', y11', inn⟩ := add_for x0 x1 x2 x3 none x6 x7 (some (.leaf (rowL own))) x12 wt hwt own row [] y10 y11 hl0
    rw [List.nil_append, List.nil_append, List.length_nil] at inn
    obtain ⟨z9, z10, z11, ih⟩ := rows_for x0 x1 x2 x3 x6 x7 x12 wt hwt owns rest (done ++ [rowO (addRow wt row own)]) (some (.leaf (rowL own))) y10' y11' (Nat.succ.inj h) fun p hp => hl p (by simp [hp])
    refine ⟨z9, z10, z11, ?_⟩
    have ho : (done ++ (row :: rest).map rowO)[done.length]? = some (rowO row) := by simp
    have hset : (done ++ (row :: rest).map rowO).set done.length (rowO (addRow wt row own)) = done ++ [rowO (addRow wt row own)] ++ rest.map rowO := by simp
    have hb : sFor (iEnum (fCons (mFz 9) (fNil))) (gTup 2 (gCons (gNm 10) (gCons (gNm 11) (gNil)))) (sSetIx 8 (mFz 10) (mOp2 oAdd (oE (mOp2 oIx (oPk' 8) (oPk' 10))) (oE (mOp2 oMul (oPk' 5) (oPk' 11))))) [x0, x1, x2, x3, none, some (.leaf (.int wt)), x6, x7, some (rowO row), some (.leaf (rowL own)), y10, y11, x12] = _ :=
      for_of (ds := enumD 0 (own.map .int)) (by simp [rowL]) inn
    rw [List.map_cons]
    unfold rowsL
    rw [ho]
    show (R.ok _).bind _ = _
    rw [R.bind_ok]
    dsimp only [List.set_cons_succ, List.set_cons_zero]
    rw [hb, R.bind_ok]
    dsimp only [List.getElem?_cons_succ, List.getElem?_cons_zero]
    rw [hset]
    rw [List.length_append, List.length_singleton] at ih
    refine ih.trans ?_
    simp
end K42
namespace K42
open PySem PySem.Spec L2 Evl Ev
def zeros (n many : Nat) : List (List Int) := List.replicate n (List.replicate many 0)
def mixStep (R : List (List Int)) (many : Nat) (rows : List (List Int)) (m : Int × List Nat × List Nat) : List (List Int) := List.zipWith (addRow m.1) rows (turnR R m.2.1 m.2.2 many)
def mixW (w : Int) (ms : Mix) : Int := ms.foldl (fun W m => W + m.1 * w) 0
def mixR (R : List (List Int)) (many n : Nat) (ms : Mix) : List (List Int) := ms.foldl (mixStep R many) (zeros n many)
structure GoodM (R : List (List Int)) (many n : Nat) (ms : Mix) : Prop where
  good : ∀ m ∈ ms, Good R m.2.2 many m.2.1
  len : ∀ m ∈ ms, m.2.1.length = n
  small : ∀ m ∈ ms, m.1.natAbs < 2 ^ 64
/-- rows of n, each of many -/
def Box (n many : Nat) (rows : List (List Int)) : Prop := rows.length = n ∧ ∀ r ∈ rows, r.length = many
theorem zip_box {n many : Nat} {A B : List (List Int)} (f : List Int → List Int → List Int) (hf : ∀ a b, a.length = many → b.length = many → (f a b).length = many) (hA : Box n many A) (hB : Box n many B) : Box n many (List.zipWith f A B) := by
  refine ⟨by rw [List.length_zipWith, hA.1, hB.1, Nat.min_self], fun r hr => ?_⟩
  obtain ⟨i, hi, rfl⟩ := List.getElem_of_mem hr
  rw [List.getElem_zipWith]
  exact hf _ _ (hA.2 _ (List.getElem_mem _)) (hB.2 _ (List.getElem_mem _))
theorem addRow_len {wt : Int} {many : Nat} (a b : List Int) (ha : a.length = many) (hb : b.length = many) : (addRow wt a b).length = many := by
  unfold addRow
  rw [List.length_zipWith, ha, hb, Nat.min_self]
theorem turnR_box (R : List (List Int)) (many : Nat) (ins outs : List Nat) : Box ins.length many (turnR R ins outs many) := ⟨turnR_len _ _ _ _, fun _ h => turnR_rows h⟩
theorem zeros_box (n many : Nat) : Box n many (zeros n many) := ⟨List.length_replicate, fun r hr => by rw [List.eq_of_mem_replicate hr, List.length_replicate]⟩
theorem step_box {R : List (List Int)} {many n : Nat} {rows : List (List Int)} {m : Int × List Nat × List Nat} (h : Box n many rows) (hl : m.2.1.length = n) : Box n many (mixStep R many rows m) :=
  zip_box _ (fun a b ha hb => addRow_len a b ha hb) h (hl ▸ turnR_box R many m.2.1 m.2.2)
theorem mix_box {R : List (List Int)} {many n : Nat} : ∀ (ms : Mix) (rows : List (List Int)), Box n many rows → (∀ m ∈ ms, m.2.1.length = n) → Box n many (ms.foldl (mixStep R many) rows)
  | [], rows, h, _ => h
  | m :: ms, rows, h, hl => mix_box ms _ (step_box h (hl m (List.mem_cons_self ..))) fun m hm => hl m (List.mem_cons_of_mem _ hm)
theorem snaps_rows (rows : List (List Int)) : snaps (rows.map rowO) = some (rows.map rowL) := by
  induction rows with
  | nil => rfl
  | cons r rows ih =>
    have e : snap (rowO r) = some (rowL r) := snap_LL _
    simp [snaps, ih, e]
theorem snap_rows (rows : List (List Int)) : snap (.lst (rows.map rowO)) = some (.list (rows.map rowL)) := by simp [snap, snaps_rows]
theorem mFz_rows {en : En} {i : Nat} {rows : List (List Int)} (h : en[i]? = some (some (.lst (rows.map rowO)))) : mFz i en = .ok (.leaf (.list (rows.map rowL)), en.set i (some (.leaf (.list (rows.map rowL))))) := by
  unfold mFz
  rw [h]
  dsimp only
  rw [snap_rows]
theorem mix_for (w : Int) (R : List (List Int)) (many n : Nat) (x1 x12 : Option O) : ∀ (ms : Mix) (W : Int) (rows : List (List Int)) (y5 y6 y7 y9 y10 y11 : Option O), GoodM R many n ms → Box n many rows → ∃ y5' y6' y7' y9' y10' y11',
    forL (gTup 3 (gCons (gNm 5) (gCons (gNm 6) (gCons (gNm 7) (gNil))))) (sSeq (sSet 3 (mOp2 oAdd (oPk' 3) (oE (mOp2 oMul (oPk' 5) (oE (mOp2 oIx (oPk' 0) (oE (mC (.int 0))))))))) (sRows 4 8 (mCall f_turned_rows (fCons (mFz 0) (fCons (mFz 6) (fCons (mFz 7) (fCons (mFz 2) (fNil)))))) (gNm 9) (sFor (iEnum (fCons (mFz 9) (fNil))) (gTup 2 (gCons (gNm 10) (gCons (gNm 11) (gNil)))) (sSetIx 8 (mFz 10) (mOp2 oAdd (oE (mOp2 oIx (oPk' 8) (oPk' 10))) (oE (mOp2 oMul (oPk' 5) (oPk' 11)))))))) (ms.map mixI)
      [some (.leaf (chan w R)), x1, some (.leaf (.int many)), some (.leaf (.int W)), some (.lst (rows.map rowO)), y5, y6, y7, none, y9, y10, y11, x12] =
      .ok (.nx [some (.leaf (chan w R)), x1, some (.leaf (.int many)), some (.leaf (.int (ms.foldl (fun W m => W + m.1 * w) W))), some (.lst ((ms.foldl (mixStep R many) rows).map rowO)), y5', y6', y7', none, y9', y10', y11', x12])
  | [], W, rows, y5, y6, y7, y9, y10, y11, _, _ => ⟨y5, y6, y7, y9, y10, y11, rfl⟩
  | m :: ms, W, rows, y5, y6, y7, y9, y10, y11, h, hb => by
    have g := h.good m (List.mem_cons_self ..)
    have hl := h.len m (List.mem_cons_self ..)
    have hs := h.small m (List.mem_cons_self ..)
    have tb : Box n many (turnR R m.2.1 m.2.2 many) := hl ▸ turnR_box R many m.2.1 m.2.2
    have t := turned_rows_run w R m.2.2 many g.hm g.ho m.2.1 g.hi g.hl
    have mk := mulOk_l (j := w) hs
    obtain ⟨y9', y10', y11', rr⟩ := rows_for (some (.leaf (chan w R))) x1 (some (.leaf (.int many))) (some (.leaf (.int (W + m.1 * w)))) (some (.leaf (.tuple (natD m.2.1)))) (some (.leaf (.tuple (natD m.2.2)))) x12 m.1 hs (turnR R m.2.1 m.2.2 many) rows [] y9 y10 y11 (hb.1.trans tb.1.symm)
      fun p hp => (hb.2 _ (List.of_mem_zip hp).1).trans (tb.2 _ (List.of_mem_zip hp).2).symm
    obtain ⟨z5, z6, z7, z9, z10, z11, ih⟩ := mix_for w R many n x1 x12 ms (W + m.1 * w) (mixStep R many rows m) (some (.leaf (.int m.1))) (some (.leaf (.tuple (natD m.2.1)))) (some (.leaf (.tuple (natD m.2.2)))) y9' y10' y11' ⟨fun m hm => h.good m (List.mem_cons_of_mem _ hm), fun m hm => h.len m (List.mem_cons_of_mem _ hm), fun m hm => h.small m (List.mem_cons_of_mem _ hm)⟩ (step_box hb hl)
    refine ⟨z5, z6, z7, z9, z10, z11, ?_⟩
    refine forL_cons (d := mixI m) (e1 := [some (.leaf (chan w R)), x1, some (.leaf (.int many)), some (.leaf (.int W)), some (.lst (rows.map rowO)), some (.leaf (.int m.1)), some (.leaf (.tuple (natD m.2.1))), some (.leaf (.tuple (natD m.2.2))), none, y9, y10, y11, x12]) rfl
      (seq_nx (e1 := [some (.leaf (chan w R)), x1, some (.leaf (.int many)), some (.leaf (.int (W + m.1 * w))), some (.lst (rows.map rowO)), some (.leaf (.int m.1)), some (.leaf (.tuple (natD m.2.1))), some (.leaf (.tuple (natD m.2.2))), none, y9, y10, y11, x12]) (by simp [oIx_chan0, mk]) (rows_of (o := LL ((turnR R m.2.1 m.2.2 many).map rowL)) (e1 := [some (.leaf (chan w R)), x1, some (.leaf (.int many)), some (.leaf (.int (W + m.1 * w))), some (.lst (rows.map rowO)), some (.leaf (.int m.1)), some (.leaf (.tuple (natD m.2.1))), some (.leaf (.tuple (natD m.2.2))), none, y9, y10, y11, x12]) ⟨_, rfl⟩ (by simp [t]) (snap_LL _) rfl rfl (by simp) rr)) ?_
    exact ih
theorem mixed_run (w : Int) (R : List (List Int)) (many n : Nat) (m : Int × List Nat × List Nat) (ms : Mix) (h : GoodM R many n (m :: ms)) :
    f_mixed_rows [.leaf (chan w R), .leaf (mixD (m :: ms)), .leaf (.int many)] = .ok (.leaf (.tuple [.int (mixW w (m :: ms)), .list ((mixR R many n (m :: ms)).map rowL)]), [.leaf (chan w R), .leaf (mixD (m :: ms)), .leaf (.int many)]) := by
  have g := h.good m (List.mem_cons_self ..)
  have hl := h.len m (List.mem_cons_self ..)
  obtain ⟨y5, y6, y7, y9, y10, y11, lp⟩ := mix_for w R many n (some (.leaf (mixD (m :: ms)))) none (m :: ms) 0 (zeros n many) none none none none none none h (zeros_box n many)
  have rm := rep_mul g.hm
  have z1 : (1 : Nat) ≤ sizeLine := by decide
  have z2 : (2 : Nat) ≤ sizeLine := by decide
  have c0 : compLO [12] (gNm 12) (mYes) (mOp2 oMul (oE (mLst (fCons (mC (.int 0)) (fNil)))) (oPk' 2)) (natD m.2.1) [] [some (.leaf (chan w R)), some (.leaf (mixD (m :: ms))), some (.leaf (.int many)), none, none, none, none, none, none, none, none, none, none] =
      .ok ([] ++ (natD m.2.1).map (fun _ => rowO (List.replicate many 0)), [some (.leaf (chan w R)), some (.leaf (mixD (m :: ms))), some (.leaf (.int many)), none, none, none, none, none, none, none, none, none, none]) := by
    refine compLO_eq _ (by have := g.hl; have := sl; simp [natD]; omega) fun d hd => ?_
    simp [-List.map_replicate, rm, z1, rowO]
  have e0 : (natD m.2.1).map (fun _ => rowO (List.replicate many 0)) = (zeros n many).map rowO := by
    unfold natD zeros
    rw [List.map_map, List.map_replicate, ← hl]
    exact List.map_const'
  rw [e0] at c0
  have i0 : oIx (mixD (m :: ms)) (.int 0) = some (.leaf (mixI m)) := oIx_t0 _ _
  have i1 : oIx (mixI m) (.int 1) = some (.leaf (.tuple (natD m.2.1))) := oIx_t1 _ _ _
  refine runDef_rt rfl rfl (en := [some (.leaf (chan w R)), some (.leaf (mixD (m :: ms))), some (.leaf (.int many)), some (.leaf (.int (mixW w (m :: ms)))), some (.leaf (.list ((mixR R many n (m :: ms)).map rowL))), y5, y6, y7, none, y9, y10, y11, none]) ?_
  unfold b_mixed_rows
  refine seq_nx (e1 := [some (.leaf (chan w R)), some (.leaf (mixD (m :: ms))), some (.leaf (.int many)), some (.leaf (.int 0)), some (.lst ((zeros n many).map rowO)), none, none, none, none, none, none, none, none]) ?_ (seq_nx (for_of (ds := (m :: ms).map mixI) (by simp [mixD]) lp) ?_)
  · unfold mCompO
    simp [c0, i0, i1]
  · have q := mFz_rows (en := [some (.leaf (chan w R)), some (.leaf (mixD (m :: ms))), some (.leaf (.int many)), some (.leaf (.int (mixW w (m :: ms)))), some (.lst ((mixR R many n (m :: ms)).map rowO)), y5, y6, y7, none, y9, y10, y11, none]) (i := 4) rfl
    refine ret_of ?_
    show mTup _ [some (.leaf (chan w R)), some (.leaf (mixD (m :: ms))), some (.leaf (.int many)), some (.leaf (.int (mixW w (m :: ms)))), some (.lst ((mixR R many n (m :: ms)).map rowO)), y5, y6, y7, none, y9, y10, y11, none] = _
    simp [q, z2]
/-! ### the law's own mixture -/
def addI (wt : Int) : PyData → PyData
  | .tuple [.int a, .int b] => .int (a + wt * b)
  | d => d
theorem zip_add (wt : Int) : ∀ row own : List Int, (zipD (row.map .int) (own.map .int)).map (addI wt) = (addRow wt row own).map .int
  | [], _ => by simp [zipD, addRow]
  | _ :: _, [] => by simp [zipD, addRow]
  | a :: row, b :: own => by
    have ih := zip_add wt row own
    simp only [List.map_cons, zipD, addRow, List.zipWith_cons_cons] at ih ⊢
    rw [ih]
    rfl
theorem zip_mem : ∀ {row own : List Int} {d : PyData}, d ∈ zipD (row.map .int) (own.map .int) → ∃ a b : Int, d = .tuple [.int a, .int b]
  | [], _, _, h => by simp [zipD] at h
  | _ :: _, [], _, h => by simp [zipD] at h
  | a :: row, b :: own, d, h => by
    simp only [List.map_cons, zipD, List.mem_cons] at h
    rcases h with h | h
    · exact ⟨a, b, h⟩
    · exact zip_mem h
theorem zipD_le (xs ys : List PyData) : (zipD xs ys).length ≤ xs.length := by rw [zipD_len]; exact Nat.min_le_left _ _
theorem ladd_for (x0 x1 x2 x3 x6 x7 : Option O) (wt : Int) (hwt : wt.natAbs < 2 ^ 64) : ∀ (owns rest pre : List (List Int)) (y8 y9 : Option O), Jk y9 → rest.length = owns.length → (∀ r ∈ rest, r.length ≤ 1000) → ∃ y8' y9', Jk y9' ∧
    forL (gTup 2 (gCons (gNm 8) (gCons (gNm 9) (gNil)))) (sSetIx 4 (mFz 8) (mComp [10, 11] (iZip (fCons (mOp2 oIx (oPk' 4) (oPk' 8)) (fCons (mFz 9) (fNil)))) (gTup 2 (gCons (gNm 10) (gCons (gNm 11) (gNil)))) (mYes) (mOp2 oAdd (oPk' 10) (oE (mOp2 oMul (oPk' 5) (oPk' 11)))))) (enumD pre.length (owns.map rowT))
      [x0, x1, x2, x3, some (LL ((pre ++ rest).map rowL)), some (.leaf (.int wt)), x6, x7, y8, y9, none, none] =
      .ok (.nx [x0, x1, x2, x3, some (LL ((pre ++ List.zipWith (addRow wt) rest owns).map rowL)), some (.leaf (.int wt)), x6, x7, y8', y9', none, none])
  | [], rest, pre, y8, y9, hj, h, _ => by
    have : rest = [] := List.length_eq_zero_iff.mp h
    subst this
    exact ⟨y8, y9, hj, rfl⟩
  | own :: owns, [], pre, y8, y9, _, h, _ => by cases h
  | own :: owns, row :: rest, pre, y8, y9, hj, h, hl => by
    have hl0 := hl row (List.mem_cons_self ..)
    obtain ⟨y8', y9', hj', ih⟩ := ladd_for x0 x1 x2 x3 x6 x7 wt hwt owns rest (pre ++ [addRow wt row own]) (some (.leaf (.int (pre.length : Nat)))) (some (.leaf (rowT own))) .lf (Nat.succ.inj h) fun r hr => hl r (List.mem_cons_of_mem _ hr)
    refine ⟨y8', y9', hj', ?_⟩
    have mk := fun b => mulOk_l (j := b) hwt
    have hg : ((pre ++ row :: rest).map rowL)[pre.length]? = some (.list (row.map .int)) := by simp [rowL]
    have cc : compL [10, 11] (gTup 2 (gCons (gNm 10) (gCons (gNm 11) (gNil)))) (mYes) (mOp2 oAdd (oPk' 10) (oE (mOp2 oMul (oPk' 5) (oPk' 11)))) (zipD (row.map .int) (own.map .int)) []
      [x0, x1, x2, x3, some (LL ((pre ++ row :: rest).map rowL)), some (.leaf (.int wt)), x6, x7, some (.leaf (.int (pre.length : Nat))), some (.leaf (rowT own)), none, none] =
      .ok ([] ++ (zipD (row.map .int) (own.map .int)).map (addI wt), [x0, x1, x2, x3, some (LL ((pre ++ row :: rest).map rowL)), some (.leaf (.int wt)), x6, x7, some (.leaf (.int (pre.length : Nat))), some (.leaf (rowT own)), none, none]) := by
      refine compL_eq _ ?_ fun d hd => ?_
      · have := zipD_le (row.map .int) (own.map .int)
        rw [List.length_map] at this
        have := sl
        rw [List.length_nil]
        omega
      · obtain ⟨a, b, rfl⟩ := zip_mem hd
        simp [mk, addI]
    rw [zip_add] at cc
    have evc : ∀ Pp : List PyData, Pp[pre.length]? = some (.list (row.map .int)) → compL [10, 11] (gTup 2 (gCons (gNm 10) (gCons (gNm 11) (gNil)))) (mYes) (mOp2 oAdd (oPk' 10) (oE (mOp2 oMul (oPk' 5) (oPk' 11)))) (zipD (row.map .int) (own.map .int)) []
      [x0, x1, x2, x3, some (LL Pp), some (.leaf (.int wt)), x6, x7, some (.leaf (.int (pre.length : Nat))), some (.leaf (rowT own)), none, none] =
      .ok ([] ++ (addRow wt row own).map .int, [x0, x1, x2, x3, some (LL Pp), some (.leaf (.int wt)), x6, x7, some (.leaf (.int (pre.length : Nat))), some (.leaf (rowT own)), none, none]) →
      mComp [10, 11] (iZip (fCons (mOp2 oIx (oPk' 4) (oPk' 8)) (fCons (mFz 9) (fNil)))) (gTup 2 (gCons (gNm 10) (gCons (gNm 11) (gNil)))) (mYes) (mOp2 oAdd (oPk' 10) (oE (mOp2 oMul (oPk' 5) (oPk' 11)))) [x0, x1, x2, x3, some (LL Pp), some (.leaf (.int wt)), x6, x7, some (.leaf (.int (pre.length : Nat))), some (.leaf (rowT own)), none, none] =
      .ok (LL ((addRow wt row own).map .int), [x0, x1, x2, x3, some (LL Pp), some (.leaf (.int wt)), x6, x7, some (.leaf (.int (pre.length : Nat))), some (.leaf (rowT own)), none, none]) := by
      intro Pp hg cc
      simp only [rowT] at cc ⊢
      simp [oIx_l _ _ _ hg, cc]
    have st := setIx_ok [x0, x1, x2, x3, some (LL ((pre ++ row :: rest).map rowL)), some (.leaf (.int wt)), x6, x7, some (.leaf (.int (pre.length : Nat))), some (.leaf (rowT own)), none, none] (mComp [10, 11] (iZip (fCons (mOp2 oIx (oPk' 4) (oPk' 8)) (fCons (mFz 9) (fNil)))) (gTup 2 (gCons (gNm 10) (gCons (gNm 11) (gNil)))) (mYes) (mOp2 oAdd (oPk' 10) (oE (mOp2 oMul (oPk' 5) (oPk' 11))))) 4 pre.length (rowL (addRow wt row own)) (mFz 8) ((pre ++ row :: rest).map rowL) (LL ((addRow wt row own).map .int))
      [x0, x1, x2, x3, some (LL ((pre ++ row :: rest).map rowL)), some (.leaf (.int wt)), x6, x7, some (.leaf (.int (pre.length : Nat))), some (.leaf (rowT own)), none, none] [x0, x1, x2, x3, some (LL ((pre ++ row :: rest).map rowL)), some (.leaf (.int wt)), x6, x7, some (.leaf (.int (pre.length : Nat))), some (.leaf (rowT own)), none, none]
      (evc _ hg cc) (snap_LL _) ⟨_, rfl⟩ (by simp) rfl (by simp)
    have e : ((pre ++ row :: rest).map rowL).set pre.length (rowL (addRow wt row own)) = (pre ++ [addRow wt row own] ++ rest).map rowL := by simp
    rw [e] at st
    have ea : pre ++ [addRow wt row own] ++ List.zipWith (addRow wt) rest owns = pre ++ List.zipWith (addRow wt) (row :: rest) (own :: owns) := by simp
    rw [ea, List.length_append, List.length_singleton] at ih
    exact forL_cons (d := .tuple [.int (pre.length : Nat), rowT own]) rfl st ih
end K42
namespace K42
open PySem PySem.Spec L2 Evl Ev
def totW (ms : Mix) : Int := ms.foldl (fun W m => W + m.1) 0
theorem lmix_for (R : List (List Int)) (many n : Nat) (x1 : Option O) : ∀ (ms : Mix) (W : Int) (rows : List (List Int)) (y5 y6 y7 y8 y9 : Option O), GoodM R many n ms → Box n many rows → Jk y9 → many ≤ 1000 → ∃ y5' y6' y7' y8' y9', Jk y9' ∧
    forL (gTup 3 (gCons (gNm 5) (gCons (gNm 6) (gCons (gNm 7) (gNil))))) (sSeq (sSet 3 (mOp2 oAdd (oPk' 3) (oPk' 5))) (sFor (iEnum (fCons (mCall f__law_turned (fCons (mFz 0) (fCons (mFz 6) (fCons (mFz 7) (fCons (mFz 2) (fNil)))))) (fNil))) (gTup 2 (gCons (gNm 8) (gCons (gNm 9) (gNil)))) (sSetIx 4 (mFz 8) (mComp [10, 11] (iZip (fCons (mOp2 oIx (oPk' 4) (oPk' 8)) (fCons (mFz 9) (fNil)))) (gTup 2 (gCons (gNm 10) (gCons (gNm 11) (gNil)))) (mYes) (mOp2 oAdd (oPk' 10) (oE (mOp2 oMul (oPk' 5) (oPk' 11)))))))) (ms.map mixI)
      [some (.leaf (.tuple (R.map rowT))), x1, some (.leaf (.int many)), some (.leaf (.int W)), some (LL (rows.map rowL)), y5, y6, y7, y8, y9, none, none] =
      .ok (.nx [some (.leaf (.tuple (R.map rowT))), x1, some (.leaf (.int many)), some (.leaf (.int (ms.foldl (fun W m => W + m.1) W))), some (LL ((ms.foldl (mixStep R many) rows).map rowL)), y5', y6', y7', y8', y9', none, none])
  | [], W, rows, y5, y6, y7, y8, y9, _, _, hj, _ => ⟨y5, y6, y7, y8, y9, hj, rfl⟩
  | m :: ms, W, rows, y5, y6, y7, y8, y9, h, hb, hj, hm => by
    have g := h.good m (List.mem_cons_self ..)
    have hl := h.len m (List.mem_cons_self ..)
    have hs := h.small m (List.mem_cons_self ..)
    have tb : Box n many (turnR R m.2.1 m.2.2 many) := hl ▸ turnR_box R many m.2.1 m.2.2
    have t := lturned_run R m.2.2 many g.hm g.ho m.2.1 g.hi g.hl
    obtain ⟨y8', y9', hj', rr⟩ := ladd_for (some (.leaf (.tuple (R.map rowT)))) x1 (some (.leaf (.int many))) (some (.leaf (.int (W + m.1)))) (some (.leaf (.tuple (natD m.2.1)))) (some (.leaf (.tuple (natD m.2.2)))) m.1 hs (turnR R m.2.1 m.2.2 many) rows [] y8 y9 hj (hb.1.trans tb.1.symm) (fun r hr => by rw [hb.2 r hr]; exact hm)
    obtain ⟨z5, z6, z7, z8, z9, jz, ih⟩ := lmix_for R many n x1 ms (W + m.1) (mixStep R many rows m) (some (.leaf (.int m.1))) (some (.leaf (.tuple (natD m.2.1)))) (some (.leaf (.tuple (natD m.2.2)))) y8' y9' ⟨fun m hm => h.good m (List.mem_cons_of_mem _ hm), fun m hm => h.len m (List.mem_cons_of_mem _ hm), fun m hm => h.small m (List.mem_cons_of_mem _ hm)⟩ (step_box hb hl) hj' hm
    refine ⟨z5, z6, z7, z8, z9, jz, ?_⟩
    refine forL_cons (d := mixI m) (e1 := [some (.leaf (.tuple (R.map rowT))), x1, some (.leaf (.int many)), some (.leaf (.int W)), some (LL (rows.map rowL)), some (.leaf (.int m.1)), some (.leaf (.tuple (natD m.2.1))), some (.leaf (.tuple (natD m.2.2))), y8, y9, none, none]) rfl
      (seq_nx (e1 := [some (.leaf (.tuple (R.map rowT))), x1, some (.leaf (.int many)), some (.leaf (.int (W + m.1))), some (LL (rows.map rowL)), some (.leaf (.int m.1)), some (.leaf (.tuple (natD m.2.1))), some (.leaf (.tuple (natD m.2.2))), y8, y9, none, none]) (by simp) (for_of (ds := enumD 0 ((turnR R m.2.1 m.2.2 many).map rowT)) (by simp [t]) rr)) ?_
    exact ih
theorem lblended_run (R : List (List Int)) (many n : Nat) (m : Int × List Nat × List Nat) (ms : Mix) (h : GoodM R many n (m :: ms)) :
    f__law_blended [.leaf (.tuple (R.map rowT)), .leaf (mixD (m :: ms)), .leaf (.int many)] = .ok (.leaf (.tuple [.int (totW (m :: ms)), .list ((mixR R many n (m :: ms)).map rowT)]), [.leaf (.tuple (R.map rowT)), .leaf (mixD (m :: ms)), .leaf (.int many)]) := by
  have g := h.good m (List.mem_cons_self ..)
  have hl := h.len m (List.mem_cons_self ..)
  obtain ⟨y5, y6, y7, y8, y9, jy, lp⟩ := lmix_for R many n (some (.leaf (mixD (m :: ms)))) (m :: ms) 0 (zeros n many) none none none none none h (zeros_box n many) .non g.hm
  have rm := rep_mul g.hm
  have z1 : (1 : Nat) ≤ sizeLine := by decide
  have z2 : (2 : Nat) ≤ sizeLine := by decide
  have c0 : compL [8] (gNm 8) (mYes) (mOp2 oMul (oE (mLst (fCons (mC (.int 0)) (fNil)))) (oPk' 2)) (natD m.2.1) [] [some (.leaf (.tuple (R.map rowT))), some (.leaf (mixD (m :: ms))), some (.leaf (.int many)), none, none, none, none, none, none, none, none, none] =
      .ok ([] ++ (natD m.2.1).map (fun _ => rowL (List.replicate many 0)), [some (.leaf (.tuple (R.map rowT))), some (.leaf (mixD (m :: ms))), some (.leaf (.int many)), none, none, none, none, none, none, none, none, none]) := by
    refine compL_eq _ (by have := g.hl; have := sl; simp [natD]; omega) fun d hd => ?_
    simp [-List.map_replicate, rm, z1, rowL]
  have e0 : (natD m.2.1).map (fun _ => rowL (List.replicate many 0)) = (zeros n many).map rowL := by
    unfold natD zeros
    rw [List.map_map, List.map_replicate, ← hl]
    exact List.map_const'
  rw [e0] at c0
  have i0 : oIx (mixD (m :: ms)) (.int 0) = some (.leaf (mixI m)) := oIx_t0 _ _
  have i1 : oIx (mixI m) (.int 1) = some (.leaf (.tuple (natD m.2.1))) := oIx_t1 _ _ _
  have bx : Box n many (mixR R many n (m :: ms)) := mix_box _ _ (zeros_box n many) h.len
  have c1 : compL [9] (gNm 9) (mYes) (mAs (o1 oTuple) (aCons (oPk' 9) (aNil))) ((mixR R many n (m :: ms)).map rowL) [] [some (.leaf (.tuple (R.map rowT))), some (.leaf (mixD (m :: ms))), some (.leaf (.int many)), some (.leaf (.int (totW (m :: ms)))), some (.leaf (.list ((mixR R many n (m :: ms)).map rowL))), y5, y6, y7, y8, none, none, none] =
      .ok ([] ++ ((mixR R many n (m :: ms)).map rowL).map (fun d => .tuple (lst? d)), [some (.leaf (.tuple (R.map rowT))), some (.leaf (mixD (m :: ms))), some (.leaf (.int many)), some (.leaf (.int (totW (m :: ms)))), some (.leaf (.list ((mixR R many n (m :: ms)).map rowL))), y5, y6, y7, y8, none, none, none]) := by
    refine compL_eq _ (by have := g.hl; have := sl; rw [List.length_map, bx.1, ← hl, List.length_nil]; omega) fun d hd => ?_
    obtain ⟨r, hr, rfl⟩ := List.mem_map.mp hd
    simp [rowL, lst?]
  have e1 : ((mixR R many n (m :: ms)).map rowL).map (fun d => .tuple (lst? d)) = (mixR R many n (m :: ms)).map rowT := by rw [List.map_map]; rfl
  rw [e1] at c1
  refine runDef_rt rfl rfl (en := [some (.leaf (.tuple (R.map rowT))), some (.leaf (mixD (m :: ms))), some (.leaf (.int many)), some (.leaf (.int (totW (m :: ms)))), some (.leaf (.list ((mixR R many n (m :: ms)).map rowL))), y5, y6, y7, y8, y9, none, none]) ?_
  unfold b__law_blended
  refine seq_nx (e1 := [some (.leaf (.tuple (R.map rowT))), some (.leaf (mixD (m :: ms))), some (.leaf (.int many)), some (.leaf (.int 0)), some (LL ((zeros n many).map rowL)), none, none, none, none, none, none, none]) ?_ (seq_nx (for_of (ds := (m :: ms).map mixI) (by simp [mixD]) lp) ?_)
  · simp [c0, i0, i1]
  · refine ret_of ?_
    show mTup _ [some (.leaf (.tuple (R.map rowT))), some (.leaf (mixD (m :: ms))), some (.leaf (.int many)), some (.leaf (.int (totW (m :: ms)))), some (LL ((mixR R many n (m :: ms)).map rowL)), y5, y6, y7, y8, y9, none, none] = _
    have pb := putBack_jk [some (.leaf (.tuple (R.map rowT))), some (.leaf (mixD (m :: ms))), some (.leaf (.int many)), some (.leaf (.int (totW (m :: ms)))), some (.leaf (.list ((mixR R many n (m :: ms)).map rowL))), y5, y6, y7, y8, none, none, none] [some (.leaf (.tuple (R.map rowT))), some (.leaf (mixD (m :: ms))), some (.leaf (.int many)), some (.leaf (.int (totW (m :: ms)))), some (.leaf (.list ((mixR R many n (m :: ms)).map rowL))), y5, y6, y7, y8, y9, none, none] 9 [] y9 rfl jy
    have q := ev_mFzL [some (.leaf (.tuple (R.map rowT))), some (.leaf (mixD (m :: ms))), some (.leaf (.int many)), some (.leaf (.int (totW (m :: ms)))), some (LL ((mixR R many n (m :: ms)).map rowL)), y5, y6, y7, y8, y9, none, none] 4 ((mixR R many n (m :: ms)).map rowL) rfl
    simp [q, z2, c1, pb]
theorem blended_run (w : Int) (R : List (List Int)) (many n : Nat) (m : Int × List Nat × List Nat) (ms : Mix) (h : GoodM R many n (m :: ms)) (h0 : 0 < mixW w (m :: ms)) (h1 : mixW w (m :: ms) < 2 ^ 64) :
    f_blended [.leaf (chan w R), .leaf (mixD (m :: ms)), .leaf (.int many)] = .ok (.leaf (lowD (mixW w (m :: ms)) (mixR R many n (m :: ms))), [.leaf (chan w R), .leaf (mixD (m :: ms)), .leaf (.int many)]) := by
  have g := h.good m (List.mem_cons_self ..)
  have hl := h.len m (List.mem_cons_self ..)
  have bx : Box n many (mixR R many n (m :: ms)) := mix_box _ _ (zeros_box n many) h.len
  have mr := mixed_run w R many n m ms h
  have br := bare_run (mixW w (m :: ms)) (mixR R many n (m :: ms)) h0 h1 ⟨by rw [bx.1, ← hl]; exact g.hl, fun r hr => by rw [bx.2 r hr]; exact g.hm⟩
  refine runDef_rt rfl rfl (en := [some (.leaf (chan w R)), some (.leaf (mixD (m :: ms))), some (.leaf (.int many)), some (.leaf (.int (mixW w (m :: ms)))), some (.leaf (.list ((mixR R many n (m :: ms)).map rowL)))]) ?_
  unfold b_blended
  simp [mr, br]
end K42
namespace K42
open PySem PySem.Spec L2 Evl Ev
/-! ### scaling -/
def scl (c : Int) (R : List (List Int)) : List (List Int) := R.map fun r => r.map fun i => c * i
theorem gcdL_scl (c : Int) : ∀ ns : List Int, gcdL (ns.map fun i => c * i) = c.natAbs * gcdL ns
  | [] => by simp [gcdL]
  | n :: ns => by rw [List.map_cons, gcdL_cons, gcdL_cons, gcdL_scl c ns, Int.natAbs_mul, Nat.gcd_mul_left]
theorem flatten_scl (c : Int) (R : List (List Int)) : (scl c R).flatten = R.flatten.map fun i => c * i := by
  unfold scl
  rw [List.map_flatten]
theorem lowD_scl (c w : Int) (R : List (List Int)) (hc : 0 < c) : lowD (c * w) (scl c R) = lowD w R := by
  have hg : (gcdL (c * w :: (scl c R).flatten) : Int) = c * (gcdL (w :: R.flatten) : Int) := by
    rw [flatten_scl, ← List.map_cons (f := fun i => c * i), gcdL_scl, Int.natCast_mul]
    rw [Int.natAbs_of_nonneg (Int.le_of_lt hc)]
  unfold lowD
  rw [hg, Int.mul_fdiv_mul_of_pos _ _ hc]
  congr 1
  unfold scl
  rw [List.map_map]
  refine List.map_congr_left fun r _ => ?_
  show (r.map fun i => c * i).map _ = _
  rw [List.map_map]
  refine List.map_congr_left fun i _ => ?_
  show (c * i).fdiv _ = _
  rw [Int.mul_fdiv_mul_of_pos _ _ hc]
theorem put_scl (c : Int) (acc : List Int) (p : Int × Nat) : put (acc.map fun i => c * i) (c * p.1, p.2) = (put acc p).map fun i => c * i := by
  unfold put
  rw [List.map_set]
  congr 1
  rw [List.getD_eq_getElem?_getD, List.getD_eq_getElem?_getD, List.getElem?_map]
  cases acc[p.2]? with
  | none => simp
  | some v => simp [Int.mul_add]
theorem foldl_put_scl (c : Int) : ∀ (ps : List (Int × Nat)) (acc : List Int), (ps.map fun p => (c * p.1, p.2)).foldl put (acc.map fun i => c * i) = (ps.foldl put acc).map fun i => c * i
  | [], acc => rfl
  | p :: ps, acc => by rw [List.map_cons, List.foldl_cons, List.foldl_cons, put_scl, foldl_put_scl c ps]
theorem turnRow_scl (c : Int) (outs : List Nat) (many : Nat) (row : List Int) : turnRow outs many (row.map fun i => c * i) = (turnRow outs many row).map fun i => c * i := by
  unfold turnRow
  rw [← foldl_put_scl, List.map_replicate, Int.mul_zero, List.zip_map_left]
  congr 1
theorem turnR_scl (c : Int) (R : List (List Int)) (ins outs : List Nat) (many : Nat) : turnR (scl c R) ins outs many = scl c (turnR R ins outs many) := by
  unfold turnR scl
  rw [List.map_map]
  refine List.map_congr_left fun p _ => ?_
  show turnRow outs many ((R.map fun r => r.map fun i => c * i).getD p []) = (turnRow outs many (R.getD p [])).map fun i => c * i
  rw [List.getD_eq_getElem?_getD, List.getElem?_map, List.getD_eq_getElem?_getD]
  cases h : R[p]? with
  | none => simpa using turnRow_scl c outs many []
  | some r => exact turnRow_scl c outs many r
/-! ### turned twice -/
theorem put_get (acc : List Int) (p : Int × Nat) (i : Nat) : (put acc p)[i]? = acc[i]?.map fun v => if i = p.2 then v + p.1 else v := by
  unfold put
  by_cases h : i = p.2
  · subst h
    rw [List.getElem?_set_self', List.getD_eq_getElem?_getD]
    cases acc[p.2]? with
    | none => rfl
    | some v => simp
  · rw [List.getElem?_set_ne (Ne.symm h)]
    simp [h]
theorem put_comm (acc : List Int) (p q : Int × Nat) : put (put acc p) q = put (put acc q) p := by
  refine List.ext_getElem? fun i => ?_
  simp only [put_get, Option.map_map]
  congr 1
  funext v
  simp only [Function.comp]
  split <;> split <;> omega
theorem foldl_put_comm : ∀ (ps : List (Int × Nat)) (Z : List Int) (q : Int × Nat), ps.foldl put (put Z q) = put (ps.foldl put Z) q
  | [], Z, q => rfl
  | p :: ps, Z, q => by rw [List.foldl_cons, List.foldl_cons, put_comm, foldl_put_comm ps]
theorem put_zip (x : Int) : ∀ (acc : List Int) (ends : List Nat) (m : Nat) (Z : List Int), m < acc.length → m < ends.length → ((put acc (x, m)).zip ends).foldl put Z = put ((acc.zip ends).foldl put Z) (x, ends.getD m 0)
  | [], _, _, _, h, _ => by simp at h
  | _ :: _, [], _, _, _, h => by simp at h
  | a :: acc, e :: ends, 0, Z, _, _ => by
    have h1 : put (a :: acc) (x, 0) = (a + x) :: acc := by simp [put]
    have h2 : put Z (a + x, e) = put (put Z (a, e)) (x, e) := by
      refine List.ext_getElem? fun i => ?_
      simp only [put_get, Option.map_map]
      congr 1
      funext v
      simp only [Function.comp]
      split <;> omega
    rw [h1, List.zip_cons_cons, List.foldl_cons, h2, foldl_put_comm, List.zip_cons_cons, List.foldl_cons]
    rfl
  | a :: acc, e :: ends, m + 1, Z, h, h' => by
    have h1 : put (a :: acc) (x, m + 1) = a :: put acc (x, m) := by simp [put]
    rw [h1, List.zip_cons_cons, List.foldl_cons, put_zip x acc ends m _ (by simpa using h) (by simpa using h'), List.zip_cons_cons, List.foldl_cons]
    rfl
theorem turn_fold (ends : List Nat) (last : Nat) : ∀ (ps : List (Int × Nat)) (acc Z : List Int), (∀ p ∈ ps, p.2 < acc.length ∧ p.2 < ends.length) → ((ps.foldl put acc).zip ends).foldl put Z = (ps.map fun p => (p.1, ends.getD p.2 0)).foldl put ((acc.zip ends).foldl put Z)
  | [], acc, Z, _ => rfl
  | p :: ps, acc, Z, h => by
    have h0 := h p (List.mem_cons_self ..)
    rw [List.foldl_cons, turn_fold ends last ps (put acc p) Z fun q hq => ⟨by rw [put_len]; exact (h q (List.mem_cons_of_mem _ hq)).1, (h q (List.mem_cons_of_mem _ hq)).2⟩, List.map_cons, List.foldl_cons]
    congr 1
    exact put_zip p.1 acc ends p.2 Z h0.1 h0.2
theorem zero_zip : ∀ (n : Nat) (ends : List Nat) (Z : List Int), ((List.replicate n (0 : Int)).zip ends).foldl put Z = Z
  | 0, _, _ => by simp
  | n + 1, [], _ => by simp
  | n + 1, e :: ends, Z => by
    have h : put Z (0, e) = Z := by
      refine List.ext_getElem? fun i => ?_
      rw [put_get]
      cases Z[i]? with
      | none => rfl
      | some v => simp
    rw [List.replicate_succ, List.zip_cons_cons, List.foldl_cons, h, zero_zip n ends Z]
theorem turnRow_twice (other ends : List Nat) (many last : Nat) (row : List Int) (ho : ∀ o ∈ other, o < many) (he : ends.length = many) : turnRow ends last (turnRow other many row) = turnRow (other.map fun m => ends.getD m 0) last row := by
  unfold turnRow
  rw [turn_fold ends last _ _ _ fun p hp => ⟨by rw [List.length_replicate]; exact ho _ (List.of_mem_zip hp).2, by rw [he]; exact ho _ (List.of_mem_zip hp).2⟩, zero_zip, List.zip_map_right]
  congr 1
theorem turnR_twice (R : List (List Int)) (one other later ends : List Nat) (many last : Nat) (ho : ∀ o ∈ other, o < many) (he : ends.length = many) (hl : ∀ p ∈ later, p < one.length) :
    turnR (turnR R one other many) later ends last = turnR R (later.map fun p => one.getD p 0) (other.map fun m => ends.getD m 0) last := by
  unfold turnR
  rw [List.map_map]
  refine List.map_congr_left fun p hp => ?_
  have h := hl p hp
  show turnRow ends last ((one.map fun p => turnRow other many (R.getD p [])).getD p []) = turnRow (other.map fun m => ends.getD m 0) last (R.getD (one.getD p 0) [])
  have e : (one.map fun p => turnRow other many (R.getD p [])).getD p [] = turnRow other many (R.getD (one.getD p 0) []) := by
    rw [List.getD_eq_getElem?_getD, List.getElem?_map, List.getElem?_eq_getElem h]
    show turnRow other many (R.getD one[p] []) = _
    congr 2
    rw [List.getD_eq_getElem?_getD, List.getElem?_eq_getElem h]
    rfl
  rw [e, turnRow_twice other ends many last _ ho he]
theorem gcdL_dvd : ∀ {ns : List Int} {n : Int}, n ∈ ns → (gcdL ns : Int) ∣ n
  | m :: ns, n, h => by
    rw [gcdL_cons]
    rcases List.mem_cons.mp h with e | h
    · subst e
      exact Int.ofNat_dvd_left.mpr (Nat.gcd_dvd_left _ _)
    · exact Int.dvd_trans (Int.natCast_dvd_natCast.mpr (Nat.gcd_dvd_right _ _)) (gcdL_dvd h)
theorem scl_div {g : Int} {R : List (List Int)} (h : ∀ r ∈ R, ∀ i ∈ r, g ∣ i) : scl g (R.map fun r => r.map fun i => i.fdiv g) = R := by
  unfold scl
  rw [List.map_map]
  refine (List.map_congr_left fun r hr => ?_).trans (List.map_id R)
  show (r.map fun i => i.fdiv g).map _ = r
  rw [List.map_map]
  refine (List.map_congr_left fun i hi => ?_).trans (List.map_id r)
  show g * i.fdiv g = i
  exact Int.mul_fdiv_cancel_of_dvd (h r hr i hi)
end K42
namespace K42
open PySem PySem.Spec L2 Evl Ev
/-! ### how great -/
def Bnd (M : Int) (R : List (List Int)) : Prop := ∀ r ∈ R, ∀ i ∈ r, 0 ≤ i ∧ i ≤ M
theorem Bnd.nn {M : Int} {R : List (List Int)} (h : Bnd M R) : Nn R := fun r hr i hi => (h r hr i hi).1
theorem put_bnd {A M : Int} {acc : List Int} {p : Int × Nat} (h : ∀ v ∈ acc, 0 ≤ v ∧ v ≤ A) (hp : 0 ≤ p.1 ∧ p.1 ≤ M) (hA : 0 ≤ A) : ∀ v ∈ put acc p, 0 ≤ v ∧ v ≤ A + M := by
  intro v hv
  obtain ⟨i, hi⟩ := List.getElem?_of_mem hv
  rw [put_get] at hi
  cases h2 : acc[i]? with
  | none => rw [h2] at hi; cases hi
  | some u =>
    rw [h2] at hi
    have hu := h u (List.mem_of_getElem? h2)
    have e : (if i = p.2 then u + p.1 else u) = v := Option.some.inj hi
    split at e <;> omega
theorem foldl_put_bnd {M : Int} (hM : 0 ≤ M) : ∀ (ps : List (Int × Nat)) (A : Int) (acc : List Int), 0 ≤ A → (∀ v ∈ acc, 0 ≤ v ∧ v ≤ A) → (∀ p ∈ ps, 0 ≤ p.1 ∧ p.1 ≤ M) → ∀ v ∈ ps.foldl put acc, 0 ≤ v ∧ v ≤ A + ps.length * M
  | [], A, acc, _, h, _ => fun v hv => by
    have := h v hv
    simp
    exact this
  | p :: ps, A, acc, hA, h, hp => fun v hv => by
    have := foldl_put_bnd hM ps (A + M) (put acc p) (by omega) (put_bnd h (hp p (List.mem_cons_self ..)) hA) (fun q hq => hp q (List.mem_cons_of_mem _ hq)) v hv
    rw [List.length_cons, Int.natCast_add, Int.add_mul]
    omega
theorem turnR_bnd {M : Int} (hM : 0 ≤ M) {R : List (List Int)} (h : Bnd M R) (ins outs : List Nat) (many : Nat) : Bnd (outs.length * M) (turnR R ins outs many) := by
  intro r hr i hi
  obtain ⟨p, _, rfl⟩ := List.mem_map.mp hr
  have hrow : ∀ v ∈ R.getD p [], 0 ≤ v ∧ v ≤ M := fun v hv => by
    rw [List.getD_eq_getElem?_getD] at hv
    cases q : R[p]? with
    | none => rw [q] at hv; cases hv
    | some r => rw [q] at hv; exact h r (List.mem_of_getElem? q) v hv
  have := foldl_put_bnd hM ((R.getD p []).zip outs) 0 (List.replicate many 0) (Int.le_refl _) (fun v hv => by rw [List.eq_of_mem_replicate hv]; omega) (fun q hq => hrow _ (List.of_mem_zip hq).1) i hi
  refine ⟨this.1, Int.le_trans this.2 ?_⟩
  rw [Int.zero_add]
  refine Int.mul_le_mul_of_nonneg_right ?_ hM
  rw [List.length_zip]
  omega
theorem step_bnd {A B V : Int} {R : List (List Int)} {rows : List (List Int)} {many : Nat} {m : Int × List Nat × List Nat} (h : Bnd A rows) (hB : Bnd B (turnR R m.2.1 m.2.2 many)) (hB0 : 0 ≤ B) (hw : 0 ≤ m.1 ∧ m.1 ≤ V) : Bnd (A + V * B) (mixStep R many rows m) := by
  intro r hr i hi
  obtain ⟨j, hj, rfl⟩ := List.getElem_of_mem hr
  unfold mixStep at hi hj
  rw [List.length_zipWith] at hj
  simp only [mixStep, List.getElem_zipWith, addRow] at hi
  obtain ⟨k, hk, rfl⟩ := List.getElem_of_mem hi
  rw [List.length_zipWith] at hk
  rw [List.getElem_zipWith]
  have h1 := h _ (List.getElem_mem (by omega : j < rows.length)) _ (List.getElem_mem (by omega : k < (rows[j]'(by omega)).length))
  have h2 := hB _ (List.getElem_mem (by omega : j < (turnR R m.2.1 m.2.2 many).length)) _ (List.getElem_mem (by omega : k < ((turnR R m.2.1 m.2.2 many)[j]'(by omega)).length))
  have h3 := Int.mul_nonneg hw.1 h2.1
  have h4 := Int.mul_le_mul hw.2 h2.2 h2.1 (Int.le_trans hw.1 hw.2)
  omega
theorem mix_bnd {B V : Int} {R : List (List Int)} {many : Nat} (hB0 : 0 ≤ B) (hV : 0 ≤ V) : ∀ (ms : Mix) (A : Int) (rows : List (List Int)), Bnd A rows → (∀ m ∈ ms, Bnd B (turnR R m.2.1 m.2.2 many) ∧ 0 ≤ m.1 ∧ m.1 ≤ V) → Bnd (A + ms.length * (V * B)) (ms.foldl (mixStep R many) rows)
  | [], A, rows, h, _ => by simpa using h
  | m :: ms, A, rows, h, hm => by
    obtain ⟨h1, h2, h3⟩ := hm m (List.mem_cons_self ..)
    have := mix_bnd hB0 hV ms (A + V * B) _ (step_bnd h h1 hB0 ⟨h2, h3⟩) fun q hq => hm q (List.mem_cons_of_mem _ hq)
    rw [List.length_cons, Int.natCast_add, Int.add_mul, Int.add_comm (ms.length * (V * B) : Int), ← Int.add_assoc]
    simpa using this
theorem zeros_bnd (n many : Nat) : Bnd 0 (zeros n many) := fun r hr i hi => by
  rw [List.eq_of_mem_replicate hr] at hi
  rw [List.eq_of_mem_replicate hi]
  omega
/-! ### the texts are short -/
theorem tame_row {M : Int} {r : List Int} (h : ∀ i ∈ r, 0 ≤ i ∧ i ≤ M) (hM : M < 2 ^ 199) (hl : r.length ≤ 6) : Tame 1 1206 (rowT r) :=
  Tame.tuple (dp := 0) (n := 200) (m := 6) (fun d hd => by
    obtain ⟨i, hi, rfl⟩ := List.mem_map.mp hd
    have := h i hi
    exact Tame.int (by omega)) (by rw [List.length_map]; exact hl)
theorem tame_chan {w M : Int} {R : List (List Int)} (hw : 0 ≤ w ∧ w ≤ M) (h : Bnd M R) (hM : M < 2 ^ 199) (hn : R.length ≤ 6) (hl : ∀ r ∈ R, r.length ≤ 6) : Tame 3 15000 (chan w R) :=
  (Tame.tuple (dp := 2) (n := 7242) (m := 2) (fun d hd => by
    rcases List.mem_cons.mp hd with rfl | hd
    · exact (Tame.int (by omega)).mono (by omega) (by omega)
    · rw [List.mem_singleton.mp hd]
      exact (Tame.tuple (dp := 1) (n := 1206) (m := 6) (fun d hd => by
        obtain ⟨r, hr, rfl⟩ := List.mem_map.mp hd
        exact tame_row (h r hr) hM (hl r hr)) (by rw [List.length_map]; exact hn)).mono (by omega) (by omega)) (by simp)).mono (by omega) (by omega)
theorem tame_nat {l : List Nat} (h : ∀ n ∈ l, n < 1000) (hl : l.length ≤ 6) : Tame 1 1206 (.tuple (natD l)) :=
  Tame.tuple (dp := 0) (n := 200) (m := 6) (fun d hd => by
    obtain ⟨i, hi, rfl⟩ := List.mem_map.mp hd
    have := h i hi
    exact Tame.int (by omega)) (by unfold natD; rw [List.length_map]; exact hl)
theorem low_bnd {w M : Int} {R : List (List Int)} (hw : 0 < w) (h : Bnd M R) : Bnd M (R.map fun r => r.map fun i => i.fdiv (gcdL (w :: R.flatten))) := by
  have hg := gcdL_pos (ns := R.flatten) hw
  generalize gcdL (w :: R.flatten) = g at hg
  intro r hr i hi
  obtain ⟨r0, hr0, rfl⟩ := List.mem_map.mp hr
  obtain ⟨i0, hi0, rfl⟩ := List.mem_map.mp hi
  have h0 := h r0 hr0 i0 hi0
  have e : i0.fdiv (g : Int) = i0 / (g : Int) := Int.fdiv_eq_ediv_of_nonneg _ (by omega)
  show 0 ≤ i0.fdiv (g : Int) ∧ i0.fdiv (g : Int) ≤ M
  rw [e]
  exact ⟨Int.ediv_nonneg h0.1 (by omega), Int.le_trans (Int.ediv_le_self _ h0.1) h0.2⟩
theorem low_w {w : Int} {ns : List Int} (hw : 0 < w) : 0 < w.fdiv (gcdL (w :: ns)) ∧ w.fdiv (gcdL (w :: ns)) ≤ w := by
  have hg := gcdL_pos (ns := ns) hw
  have hl := gcdL_le (ns := ns) hw
  generalize gcdL (w :: ns) = g at hg hl
  have e : w.fdiv (g : Int) = w / (g : Int) := Int.fdiv_eq_ediv_of_nonneg _ (by omega)
  rw [e]
  exact ⟨Int.le_ediv_of_mul_le (by omega) (by omega), Int.ediv_le_self _ (by omega)⟩
end K42
namespace K42
open PySem PySem.Spec L2 Evl Ev
theorem addRow_scl (c wt : Int) (row own : List Int) : addRow (c * wt) (row.map fun i => c * i) own = (addRow wt row own).map fun i => c * i := by
  unfold addRow
  rw [List.zipWith_map_left, List.map_zipWith]
  congr 1
  funext a b
  rw [Int.mul_add, Int.mul_assoc]
theorem step_scl (c : Int) (R : List (List Int)) (many : Nat) (rows : List (List Int)) (m : Int × List Nat × List Nat) : mixStep R many (scl c rows) (c * m.1, m.2) = scl c (mixStep R many rows m) := by
  unfold mixStep scl
  rw [List.zipWith_map_left, List.map_zipWith]
  congr 1
  funext a b
  exact addRow_scl c m.1 a b
def tri (c : Int) (ms : Mix) : Mix := ms.map fun m => (c * m.1, m.2)
theorem fold_scl (c : Int) (R : List (List Int)) (many : Nat) : ∀ (ms : Mix) (rows : List (List Int)), (tri c ms).foldl (mixStep R many) (scl c rows) = scl c (ms.foldl (mixStep R many) rows)
  | [], rows => rfl
  | m :: ms, rows => by
    show (tri c ms).foldl (mixStep R many) (mixStep R many (scl c rows) (c * m.1, m.2)) = _
    rw [step_scl, fold_scl c R many ms]
    rfl
theorem zeros_scl (c : Int) (n many : Nat) : scl c (zeros n many) = zeros n many := by
  unfold scl zeros
  rw [List.map_replicate, List.map_replicate, Int.mul_zero]
theorem mixR_tri (c : Int) (R : List (List Int)) (many n : Nat) (ms : Mix) : mixR R many n (tri c ms) = scl c (mixR R many n ms) := by
  unfold mixR
  rw [← fold_scl, zeros_scl]
theorem mixW_gen (w : Int) : ∀ (ms : Mix) (A : Int), ms.foldl (fun W m => W + m.1 * w) A = A + mixW w ms
  | [], A => by simp [mixW]
  | m :: ms, A => by
    unfold mixW
    rw [List.foldl_cons, List.foldl_cons, mixW_gen w ms, mixW_gen w ms (0 + m.1 * w)]
    omega
theorem mixW_cons (w : Int) (m : Int × List Nat × List Nat) (ms : Mix) : mixW w (m :: ms) = m.1 * w + mixW w ms := by
  show ms.foldl _ (0 + m.1 * w) = _
  rw [mixW_gen]
  omega
theorem mixW_tri (c w : Int) : ∀ ms : Mix, mixW w (tri c ms) = c * mixW w ms
  | [] => by simp [mixW, tri]
  | m :: ms => by
    show mixW w ((c * m.1, m.2) :: tri c ms) = _
    rw [mixW_cons, mixW_cons, mixW_tri c w ms, Int.mul_add, Int.mul_assoc]
theorem totW_gen : ∀ (ms : Mix) (A : Int), ms.foldl (fun W m => W + m.1) A = A + totW ms
  | [], A => by simp [totW]
  | m :: ms, A => by
    unfold totW
    rw [List.foldl_cons, List.foldl_cons, totW_gen ms, totW_gen ms (0 + m.1)]
    omega
theorem totW_cons (m : Int × List Nat × List Nat) (ms : Mix) : totW (m :: ms) = m.1 + totW ms := by
  show ms.foldl _ (0 + m.1) = _
  rw [totW_gen]
  omega
theorem mixW_tot (w : Int) : ∀ ms : Mix, mixW w ms = w * totW ms
  | [] => by simp [mixW, totW]
  | m :: ms => by rw [mixW_cons, totW_cons, mixW_tot w ms, Int.mul_add, Int.mul_comm m.1 w]
theorem mix_one (c : Int) (T : List (List Int)) (n many : Nat) (h : Box n many T) : List.zipWith (addRow c) (zeros n many) T = scl c T := by
  obtain ⟨h1, h2⟩ := h
  subst h1
  induction T with
  | nil => rfl
  | cons t T ih =>
    have ht := h2 t (List.mem_cons_self ..)
    have e : addRow c (List.replicate many 0) t = t.map fun i => c * i := by
      subst ht
      clear h2 ih
      unfold addRow
      induction t with
      | nil => rfl
      | cons a t ih => rw [List.length_cons, List.replicate_succ, List.zipWith_cons_cons, ih, List.map_cons, Int.zero_add]
    have ih' := ih fun r hr => h2 r (List.mem_cons_of_mem _ hr)
    unfold zeros scl at ih' ⊢
    rw [List.length_cons, List.replicate_succ, List.zipWith_cons_cons, ih', e, List.map_cons]
/-- a small channel, a turning of it -/
structure Fine (w : Int) (R : List (List Int)) (M : Int) : Prop where
  w0 : 0 < w
  wM : w ≤ M
  M0 : M ≤ 1000
  bnd : Bnd M R
  n6 : R.length ≤ 6
  r6 : ∀ r ∈ R, r.length ≤ 6
structure Turn (R : List (List Int)) (ins outs : List Nat) (many : Nat) : Prop where
  hm : many ≤ 6
  ho : ∀ o ∈ outs, o < many
  hi : ∀ p ∈ ins, p < R.length
  hl : ins.length ≤ 6
  hk : outs.length ≤ 6
theorem Turn.good {R : List (List Int)} {ins outs : List Nat} {many : Nat} (t : Turn R ins outs many) : Good R outs many ins := ⟨by have := t.hm; omega, t.ho, t.hi, by have := t.hl; omega⟩
theorem Fine.tame {w M : Int} {R : List (List Int)} (h : Fine w R M) : Tame 3 15000 (chan w R) := tame_chan (M := M) ⟨by have := h.w0; omega, h.wM⟩ h.bnd (by have := h.M0; omega) h.n6 h.r6
theorem Turn.tame {R : List (List Int)} {ins outs : List Nat} {many : Nat} (t : Turn R ins outs many) (h6 : R.length ≤ 6) : Tame 1 1206 (.tuple (natD ins)) ∧ Tame 1 1206 (.tuple (natD outs)) :=
  ⟨tame_nat (fun n hn => by have := t.hi n hn; omega) t.hl, tame_nat (fun n hn => by have := t.ho n hn; have := t.hm; omega) t.hk⟩
theorem Turn.bnd {R : List (List Int)} {ins outs : List Nat} {many : Nat} {M : Int} (t : Turn R ins outs many) (h : Bnd M R) (hM : 0 ≤ M) : Bnd (6 * M) (turnR R ins outs many) := fun r hr i hi => by
  have := turnR_bnd hM h ins outs many r hr i hi
  have h2 := t.hk
  refine ⟨this.1, Int.le_trans this.2 (Int.mul_le_mul_of_nonneg_right (by omega) hM)⟩
theorem low_tame {w M : Int} {R : List (List Int)} (hw : 0 < w ∧ w ≤ M) (h : Bnd M R) (hM : M < 2 ^ 199) (hn : R.length ≤ 6) (hl : ∀ r ∈ R, r.length ≤ 6) : Tame 3 15000 (lowD w R) := by
  have a := low_w (ns := R.flatten) hw.1
  refine tame_chan (M := M) ⟨by omega, by omega⟩ (low_bnd hw.1 h) hM (by rw [List.length_map]; exact hn) fun r hr => ?_
  obtain ⟨r0, h0, rfl⟩ := List.mem_map.mp hr
  rw [List.length_map]
  exact hl r0 h0
theorem is_turned_run {w M : Int} {R : List (List Int)} {ins outs : List Nat} {many : Nat} (h : Fine w R M) (t : Turn R ins outs many) :
    f__law_is_turned [.leaf (chan w R), .leaf (.tuple (natD ins)), .leaf (.tuple (natD outs)), .leaf (.int many)] = .ok (.leaf (.bool true), [.leaf (chan w R), .leaf (.tuple (natD ins)), .leaf (.tuple (natD outs)), .leaf (.int many)]) := by
  have w0 := h.w0
  have wM := h.wM
  have M0 := h.M0
  have g := t.good
  have fT := turnR_fit g
  have bT := t.bnd h.bnd (by omega)
  have w2 : w < 2 ^ 64 := by omega
  have T1 := turned_run w R ins outs many w0 w2 g
  have T2 := lturned_run R outs many g.hm g.ho ins g.hi g.hl
  have T3 := lowered_run w (turnR R ins outs many) w0 w2 fT bT.nn
  have gm : GoodM R many ins.length [(7, ins, outs)] := ⟨fun m hm => by rw [List.mem_singleton.mp hm]; exact g, fun m hm => by rw [List.mem_singleton.mp hm], fun m hm => by rw [List.mem_singleton.mp hm]; show (7 : Int).natAbs < 2 ^ 64; decide⟩
  have eW : mixW w [(7, ins, outs)] = 7 * w := by rw [mixW_cons]; simp [mixW]
  have eR : mixR R many ins.length [(7, ins, outs)] = scl 7 (turnR R ins outs many) := mix_one 7 _ _ _ (turnR_box R many ins outs)
  have T4 := blended_run w R many ins.length (7, ins, outs) [] gm (by rw [eW]; omega) (by rw [eW]; omega)
  rw [eW, eR, lowD_scl 7 w _ (by decide)] at T4
  have tc := h.tame
  obtain ⟨ti, to⟩ := t.tame h.n6
  have tl : Tame 3 15000 (lowD w (turnR R ins outs many)) := low_tame (M := 6 * M) ⟨w0, by omega⟩ bT (by omega) (by rw [turnR_len]; exact t.hl) fun r hr => by rw [turnR_rows hr]; exact t.hm
  have k1 : oRepr (.list [chan w R, .tuple (natD ins), .tuple (natD outs)]) = some (.leaf (.str (PyData.list [chan w R, .tuple (natD ins), .tuple (natD outs)]).shown)) := (Tame.list (dp := 3) (n := 15000) (m := 3) (fun d hd => by
    simp only [List.mem_cons, List.not_mem_nil, or_false] at hd
    rcases hd with rfl | rfl | rfl
    · exact tc
    · exact ti.mono (by omega) (by omega)
    · exact to.mono (by omega) (by omega)) (by simp)).repr (by omega) (by omega)
  generalize lowD w (turnR R ins outs many) = L at T1 T3 T4 tl
  have k2 : oRepr (.list [L, L, L]) = some (.leaf (.str (PyData.list [L, L, L]).shown)) := (Tame.list (dp := 3) (n := 15000) (m := 3) (fun d hd => by
    simp only [List.mem_cons, List.not_mem_nil, or_false, or_self] at hd
    rw [hd]
    exact tl) (by simp)).repr (by omega) (by omega)
  have z1 : (1 : Nat) ≤ sizeLine := by decide
  have z2 : (2 : Nat) ≤ sizeLine := by decide
  have z3 : (3 : Nat) ≤ sizeLine := by decide
  have r3 : oMul (.list [L]) (.int 3) = some (LL [L, L, L]) := oMul_lst 3 [L] ⟨by decide, by decide, by show 1 * 3 ≤ sizeLine; decide⟩
  have T1' : f_turned ((permL [3, 2, 1, 0] [.int many, .tuple (natD outs), .tuple (natD ins), chan w R]).map O.leaf) = .ok (.leaf L, [.leaf (chan w R), .leaf (.tuple (natD ins)), .leaf (.tuple (natD outs)), .leaf (.int many)]) := T1
  refine runDef_rt rfl rfl (en := [some (.leaf (chan w R)), some (.leaf (.tuple (natD ins))), some (.leaf (.tuple (natD outs))), some (.leaf (.int many)), some (.leaf (.str (PyData.list [chan w R, .tuple (natD ins), .tuple (natD outs)]).shown)), some (.leaf L), some (LL [L, L, L])]) ?_
  unfold b__law_is_turned
  refine seq_nx (e1 := [some (.leaf (chan w R)), some (.leaf (.tuple (natD ins))), some (.leaf (.tuple (natD outs))), some (.leaf (.int many)), some (.leaf (.str (PyData.list [chan w R, .tuple (natD ins), .tuple (natD outs)]).shown)), some (.leaf L), none]) ?_ (seq_nx (e1 := [some (.leaf (chan w R)), some (.leaf (.tuple (natD ins))), some (.leaf (.tuple (natD outs))), some (.leaf (.int many)), some (.leaf (.str (PyData.list [chan w R, .tuple (natD ins), .tuple (natD outs)]).shown)), some (.leaf L), some (LL [L, L])]) ?_
    (seq_nx (e1 := [some (.leaf (chan w R)), some (.leaf (.tuple (natD ins))), some (.leaf (.tuple (natD outs))), some (.leaf (.int many)), some (.leaf (.str (PyData.list [chan w R, .tuple (natD ins), .tuple (natD outs)]).shown)), some (.leaf L), some (LL [L, L, L])]) (drop_of (app_ok _ _ _ L [L, L] (.leaf L) [some (.leaf (chan w R)), some (.leaf (.tuple (natD ins))), some (.leaf (.tuple (natD outs))), some (.leaf (.int many)), some (.leaf (.str (PyData.list [chan w R, .tuple (natD ins), .tuple (natD outs)]).shown)), some (.leaf L), some (LL [L, L])] ⟨_, rfl⟩ ?_ rfl rfl (by show 2 < sizeLine; decide))) ?_))
  · simp [z3, k1, oIx_chan0, oIx_chan1, T2, T3]
  · have e : LL [L, L] = .lst [.leaf L, .leaf L] := rfl
    simp [z2, T1, T1', e]
  · have T4' : f_blended [.leaf (chan w R), .leaf (.tuple [.tuple [.int 7, .tuple (natD ins), .tuple (natD outs)]]), .leaf (.int many)] = .ok (.leaf L, [.leaf (chan w R), .leaf (mixD [(7, ins, outs)]), .leaf (.int many)]) := T4
    simp [z1, z3, T4']
  · refine ret_of ?_
    simp [z1, z3, k1, k2, r3]
end K42
namespace K42
open PySem PySem.Spec L2 Evl Ev
structure MixOk (R : List (List Int)) (many n : Nat) (ms : Mix) : Prop where
  turn : ∀ m ∈ ms, Turn R m.2.1 m.2.2 many
  len : ∀ m ∈ ms, m.2.1.length = n
  wt : ∀ m ∈ ms, 0 < m.1 ∧ m.1 ≤ 10 ^ 12
  few : ms.length ≤ 12
theorem MixOk.good {R : List (List Int)} {many n : Nat} {ms : Mix} (h : MixOk R many n ms) : GoodM R many n ms := ⟨fun m hm => (h.turn m hm).good, h.len, fun m hm => by have := h.wt m hm; omega⟩
theorem MixOk.good3 {R : List (List Int)} {many n : Nat} {ms : Mix} (h : MixOk R many n ms) : GoodM R many n (tri 3 ms) :=
  ⟨fun m hm => by obtain ⟨m0, h0, rfl⟩ := List.mem_map.mp hm; exact (h.turn m0 h0).good, fun m hm => by obtain ⟨m0, h0, rfl⟩ := List.mem_map.mp hm; exact h.len m0 h0,
    fun m hm => by obtain ⟨m0, h0, rfl⟩ := List.mem_map.mp hm; have := h.wt m0 h0; show (3 * m0.1).natAbs < 2 ^ 64; omega⟩
theorem tot_bnd : ∀ {ms : Mix}, (∀ m ∈ ms, 0 < m.1 ∧ m.1 ≤ 10 ^ 12) → 0 ≤ totW ms ∧ totW ms ≤ ms.length * 10 ^ 12 ∧ (ms ≠ [] → 0 < totW ms)
  | [], _ => by simp [totW]
  | m :: ms, h => by
    have h0 := h m (List.mem_cons_self ..)
    obtain ⟨a, b, _⟩ := tot_bnd fun m hm => h m (List.mem_cons_of_mem _ hm)
    rw [totW_cons, List.length_cons]
    refine ⟨by omega, ?_, fun _ => by omega⟩
    rw [Int.natCast_add, Int.add_mul]
    omega
def triI : PyData → PyData
  | .tuple [.int w, i, o] => .tuple [.int (3 * w), i, o]
  | d => d
theorem tri_map (ms : Mix) : (ms.map mixI).map triI = (tri 3 ms).map mixI := by
  unfold tri
  rw [List.map_map, List.map_map]
  rfl
theorem is_blended_run {w M : Int} {R : List (List Int)} {many n : Nat} {m : Int × List Nat × List Nat} {ms : Mix} (h : Fine w R M) (k : MixOk R many n (m :: ms)) :
    f__law_is_blended [.leaf (chan w R), .leaf (mixD (m :: ms)), .leaf (.int many)] = .ok (.leaf (.bool true), [.leaf (chan w R), .leaf (mixD (m :: ms)), .leaf (.int many)]) := by
  have w0 := h.w0
  have wM := h.wM
  have M0 := h.M0
  obtain ⟨t1, t2, t3⟩ := tot_bnd k.wt
  have t3 := t3 (by simp)
  have few := k.few
  have t2' : totW (m :: ms) ≤ 12 * 10 ^ 12 := Int.le_trans t2 (Int.mul_le_mul_of_nonneg_right (by omega) (by omega))
  have p1 : 0 < w * totW (m :: ms) := Int.mul_pos w0 t3
  have p2 : w * totW (m :: ms) ≤ 1000 * (12 * 10 ^ 12) := Int.mul_le_mul (by omega) t2' t1 (by omega)
  have bx : Box n many (mixR R many n (m :: ms)) := mix_box _ _ (zeros_box n many) k.len
  have tm := k.turn m (List.mem_cons_self ..)
  have nl := k.len m (List.mem_cons_self ..)
  have n6 : n ≤ 6 := by rw [← nl]; exact tm.hl
  have fT : Fit (mixR R many n (m :: ms)) := ⟨by rw [bx.1]; omega, fun r hr => by rw [bx.2 r hr]; have := tm.hm; omega⟩
  have bT : Bnd (10 ^ 17) (mixR R many n (m :: ms)) := fun r hr i hi => by
    have q := mix_bnd (R := R) (many := many) (B := 6 * M) (V := 10 ^ 12) (by omega) (by omega) (m :: ms) 0 (zeros n many) (zeros_bnd n many) (fun q hq => ⟨(k.turn q hq).bnd h.bnd (by omega), by have := k.wt q hq; omega, (k.wt q hq).2⟩) r hr i hi
    refine ⟨q.1, Int.le_trans q.2 ?_⟩
    have : (((m :: ms).length : Nat) : Int) * (10 ^ 12 * (6 * M)) ≤ 12 * (10 ^ 12 * (6 * M)) := Int.mul_le_mul_of_nonneg_right (by omega) (by omega)
    omega
  have T1 := lblended_run R many n m ms k.good
  have T2 := lowered_run (w * totW (m :: ms)) (mixR R many n (m :: ms)) p1 (by omega) fT bT.nn
  have T3 := blended_run w R many n m ms k.good (by rw [mixW_tot]; exact p1) (by rw [mixW_tot]; omega)
  have T4 := blended_run w R many n (3 * m.1, m.2) (tri 3 ms) k.good3 (by
    show 0 < mixW w (tri 3 (m :: ms))
    rw [mixW_tri, mixW_tot]; omega) (by
    show mixW w (tri 3 (m :: ms)) < _
    rw [mixW_tri, mixW_tot]; omega)
  have T4 : f_blended [.leaf (chan w R), .leaf (mixD (tri 3 (m :: ms))), .leaf (.int many)] = .ok (.leaf (lowD (mixW w (tri 3 (m :: ms))) (mixR R many n (tri 3 (m :: ms)))), [.leaf (chan w R), .leaf (mixD (tri 3 (m :: ms))), .leaf (.int many)]) := T4
  rw [mixW_tri, mixR_tri, lowD_scl 3 _ _ (by decide), mixW_tot] at T4
  rw [mixW_tot] at T3
  have tc := h.tame
  have tmix : Tame 3 45000 (mixD (m :: ms)) := (Tame.tuple (dp := 2) (n := 3621) (m := 12) (fun d hd => by
    obtain ⟨q, hq, rfl⟩ := List.mem_map.mp hd
    obtain ⟨ti, to⟩ := (k.turn q hq).tame h.n6
    exact (Tame.tuple (dp := 1) (n := 1206) (m := 3) (fun d hd => by
      simp only [List.mem_cons, List.not_mem_nil, or_false] at hd
      rcases hd with rfl | rfl | rfl
      · exact (Tame.int (by have := k.wt q hq; omega)).mono (by omega) (by omega)
      · exact ti
      · exact to) (by simp)).mono (by omega) (by omega)) (by rw [List.length_map]; exact few)).mono (by omega) (by omega)
  have tl : Tame 3 15000 (lowD (w * totW (m :: ms)) (mixR R many n (m :: ms))) := low_tame (M := 10 ^ 17) ⟨p1, by omega⟩ bT (by decide) (by rw [bx.1]; exact n6) fun r hr => by rw [bx.2 r hr]; exact tm.hm
  have k1 : oRepr (.list [chan w R, mixD (m :: ms)]) = some (.leaf (.str (PyData.list [chan w R, mixD (m :: ms)]).shown)) := (Tame.list (dp := 3) (n := 45000) (m := 2) (fun d hd => by
    simp only [List.mem_cons, List.not_mem_nil, or_false] at hd
    rcases hd with rfl | rfl
    · exact tc.mono (by omega) (by omega)
    · exact tmix) (by simp)).repr (by omega) (by omega)
  have mk : mulOk w (totW (m :: ms)) = true := mulOk_l (by omega)
  generalize lowD (w * totW (m :: ms)) (mixR R many n (m :: ms)) = L at T2 T3 T4 tl
  have k2 : oRepr (.list [L, L, L]) = some (.leaf (.str (PyData.list [L, L, L]).shown)) := (Tame.list (dp := 3) (n := 15000) (m := 3) (fun d hd => by
    simp only [List.mem_cons, List.not_mem_nil, or_false, or_self] at hd
    rw [hd]
    exact tl) (by simp)).repr (by omega) (by omega)
  have z1 : (1 : Nat) ≤ sizeLine := by decide
  have z2 : (2 : Nat) ≤ sizeLine := by decide
  have z3 : (3 : Nat) ≤ sizeLine := by decide
  have r3 : oMul (.list [L]) (.int 3) = some (LL [L, L, L]) := oMul_lst 3 [L] ⟨by decide, by decide, by show 1 * 3 ≤ sizeLine; decide⟩
  have T3' : f_blended ((permL [2, 1, 0] [.int many, mixD (m :: ms), chan w R]).map O.leaf) = .ok (.leaf L, [.leaf (chan w R), .leaf (mixD (m :: ms)), .leaf (.int many)]) := T3
  generalize totW (m :: ms) = W at T1 T2 mk p1 p2 t1 t2 t3 t2'
  generalize hrw : (mixR R many n (m :: ms)).map rowT = rows at T1 T2
  generalize hs : (PyData.list [chan w R, mixD (m :: ms)]).shown = st at k1
  have c1 : compL [9, 10, 11] (gTup 3 (gCons (gNm 9) (gCons (gNm 10) (gCons (gNm 11) (gNil))))) (mYes) (mTup (fCons (mOp2 oMul (oE (mC (.int 3))) (oPk' 9)) (fCons (mFz 10) (fCons (mFz 11) (fNil))))) ((m :: ms).map mixI) [] [some (.leaf (chan w R)), some (.leaf (mixD (m :: ms))), some (.leaf (.int many)), some (.leaf (.str st)), some (.leaf (.int W)), some (.leaf (.list rows)), some (.leaf L), none, none, none, none, none] =
      .ok ([] ++ ((m :: ms).map mixI).map triI, [some (.leaf (chan w R)), some (.leaf (mixD (m :: ms))), some (.leaf (.int many)), some (.leaf (.str st)), some (.leaf (.int W)), some (.leaf (.list rows)), some (.leaf L), none, none, none, none, none]) := by
    refine compL_eq _ (by have := sl; rw [List.length_map, List.length_nil]; omega) fun d hd => ?_
    obtain ⟨q, hq, rfl⟩ := List.mem_map.mp hd
    have m3 : mulOk 3 q.1 = true := mulOk_l (by decide)
    simp [mixI, z3, m3, triI]
  rw [tri_map] at c1
  refine runDef_rt rfl rfl (en := [some (.leaf (chan w R)), some (.leaf (mixD (m :: ms))), some (.leaf (.int many)), some (.leaf (.str st)), some (.leaf (.int W)), some (.leaf (.list rows)), some (.leaf L), some (.leaf (mixD (tri 3 (m :: ms)))), some (LL [L, L, L]), none, none, none]) ?_
  unfold b__law_is_blended
  refine seq_nx (e1 := [some (.leaf (chan w R)), some (.leaf (mixD (m :: ms))), some (.leaf (.int many)), some (.leaf (.str st)), none, none, none, none, none, none, none, none]) ?_
    (seq_nx (e1 := [some (.leaf (chan w R)), some (.leaf (mixD (m :: ms))), some (.leaf (.int many)), some (.leaf (.str st)), some (.leaf (.int W)), some (.leaf (.list rows)), none, none, none, none, none, none]) ?_
    (seq_nx (e1 := [some (.leaf (chan w R)), some (.leaf (mixD (m :: ms))), some (.leaf (.int many)), some (.leaf (.str st)), some (.leaf (.int W)), some (.leaf (.list rows)), some (.leaf L), none, none, none, none, none]) ?_
    (seq_nx (e1 := [some (.leaf (chan w R)), some (.leaf (mixD (m :: ms))), some (.leaf (.int many)), some (.leaf (.str st)), some (.leaf (.int W)), some (.leaf (.list rows)), some (.leaf L), some (.leaf (mixD (tri 3 (m :: ms)))), none, none, none, none]) ?_
    (seq_nx (e1 := [some (.leaf (chan w R)), some (.leaf (mixD (m :: ms))), some (.leaf (.int many)), some (.leaf (.str st)), some (.leaf (.int W)), some (.leaf (.list rows)), some (.leaf L), some (.leaf (mixD (tri 3 (m :: ms)))), some (LL [L, L]), none, none, none]) ?_
    (seq_nx (e1 := [some (.leaf (chan w R)), some (.leaf (mixD (m :: ms))), some (.leaf (.int many)), some (.leaf (.str st)), some (.leaf (.int W)), some (.leaf (.list rows)), some (.leaf L), some (.leaf (mixD (tri 3 (m :: ms)))), some (LL [L, L, L]), none, none, none])
      (drop_of (app_ok _ _ _ L [L, L] (.leaf L) [some (.leaf (chan w R)), some (.leaf (mixD (m :: ms))), some (.leaf (.int many)), some (.leaf (.str st)), some (.leaf (.int W)), some (.leaf (.list rows)), some (.leaf L), some (.leaf (mixD (tri 3 (m :: ms)))), some (LL [L, L]), none, none, none] ⟨_, rfl⟩ ?_ rfl rfl (by show 2 < sizeLine; decide))) ?_)))))
  · simp [z2, k1]
  · simp [oIx_chan1, T1]
  · simp [oIx_chan0, mk, T2]
  · have e : mixD (m :: ms) = .tuple ((m :: ms).map mixI) := rfl
    have e3 : mixD (tri 3 (m :: ms)) = .tuple ((tri 3 (m :: ms)).map mixI) := rfl
    rw [e] at c1 ⊢
    rw [e3]
    simp only [ev_sSet, ev_mAs, ev_aCons, ev_oE, ev_mComp, ev_iSeq]
    rw [ev_mFz _ 1 (.tuple ((m :: ms).map mixI)) rfl]
    simp only [Ev.R.bind_ok, snap_leaf, wipeE_cons, wipeE_nil, List.set_cons_succ, List.set_cons_zero]
    rw [c1]
    simp
  · have e : LL [L, L] = .lst [.leaf L, .leaf L] := rfl
    simp [z2, T3, T3', e]
  · simp [T4]
  · refine ret_of ?_
    simp [z1, z2, k1, k2, r3]
end K42
namespace K42
open PySem PySem.Spec L2 Evl Ev
/-! ### draws -/
def bagO (cs : List Int) (d st : Int) : O := .lst [LL (cs.map .int), .leaf (.int d), .leaf (.int st)]
structure BagOk (cs : List Int) (d st : Int) : Prop where
  cs : ∀ c ∈ cs, 0 ≤ c
  d : 0 ≤ d
  st : 0 ≤ st ∧ st < 2 ^ 31
theorem at1 (cs : List Int) (d st : Int) (r : En) : oAt 0 1 (some (bagO cs d st) :: r) = .ok (fun _ => some (.int d), some (bagO cs d st) :: r) := rfl
theorem at2 (cs : List Int) (d st : Int) (r : En) : oAt 0 2 (some (bagO cs d st) :: r) = .ok (fun _ => some (.int st), some (bagO cs d st) :: r) := rfl
theorem shaped_ints (cs : List Int) : SeqAt.shaped (.list (cs.map .int)) = true := by
  have h1 : PyData.canLayAll0 (cs.map .int) = true := by
    induction cs with
    | nil => rfl
    | cons c cs ih => simpa [PyData.canLayAll0, PyData.canLay0] using ih
  have h2 : PyData.depthAll (cs.map .int) = 0 := by
    induction cs with
    | nil => rfl
    | cons c cs ih =>
      have : PyData.canLayAll0 (cs.map .int) = true := by simpa [PyData.canLayAll0, PyData.canLay0] using h1
      simp [PyData.depthAll, PyData.depth, ih this]
  simp [SeqAt.shaped, PyData.canLay0, PyData.depth, h1, h2]
theorem ne0 (cs : List Int) (d st : Int) (r : En) : mBagNe 0 0 (some (bagO cs d st) :: r) = .ok (.leaf (.bool (!cs.isEmpty)), some (bagO cs d st) :: r) := by
  have e : PyData.eqv (.list (cs.map .int)) (.list []) = cs.isEmpty := by
    cases cs <;> simp [PyData.eqv, PyData.eqvAll]
  unfold mBagNe
  show (match leaves ((cs.map PyData.int).map O.leaf) with
    | some ds => if SeqAt.shaped (.list ds) = true then Ev.R.ok (O.leaf (.bool (!PyData.eqv (.list ds) (.list []))), some (bagO cs d st) :: r) else .bad
    | none => .bad) = _
  rw [leaves_map]
  dsimp only
  rw [if_pos (shaped_ints cs), e]
theorem pop0 (cs : List Int) (c d st : Int) (r : En) : mPopAt 0 0 (some (bagO (cs ++ [c]) d st) :: r) = .ok (.leaf (.int c), some (bagO cs d st) :: r) := by
  unfold mPopAt
  show (match leaves (((cs ++ [c]).map PyData.int).map O.leaf) with
    | some ds => match ds[ds.length - 1]? with
      | some x => Ev.R.ok (O.leaf x, (some (bagO (cs ++ [c]) d st) :: r).set 0 (some (.lst ([LL ((cs ++ [c]).map .int), .leaf (.int d), .leaf (.int st)].set 0 (.lst (ds.dropLast.map O.leaf))))))
      | none => .bad
    | none => .bad) = _
  rw [leaves_map]
  dsimp only
  have e : ((cs ++ [c]).map PyData.int)[((cs ++ [c]).map PyData.int).length - 1]? = some (.int c) := by simp
  rw [e]
  have e2 : ((cs ++ [c]).map PyData.int).dropLast = cs.map .int := by simp
  dsimp only
  rw [e2]
  rfl
theorem set1 {m : Xm} {en r' : En} {cs' : List Int} {d0 st' v : Int} (h : m en = .ok (.leaf (.int v), some (bagO cs' d0 st') :: r')) : sSetIx 0 (mC (.int 1)) m en = .ok (.nx (some (bagO cs' v st') :: r')) :=
  ev_sSetIx en m 0 (.int v) (mC (.int 1)) [LL (cs'.map .int), .leaf (.int d0), .leaf (.int st')] (.leaf (.int v)) (some (bagO cs' d0 st') :: r') (some (bagO cs' d0 st') :: r') 1 (.int d0) h rfl ⟨_, rfl⟩ rfl rfl rfl
theorem set2 {m : Xm} {en r' : En} {cs' : List Int} {d0 st' v : Int} (h : m en = .ok (.leaf (.int v), some (bagO cs' d0 st') :: r')) : sSetIx 0 (mC (.int 2)) m en = .ok (.nx (some (bagO cs' d0 v) :: r')) :=
  ev_sSetIx en m 0 (.int v) (mC (.int 2)) [LL (cs'.map .int), .leaf (.int d0), .leaf (.int st')] (.leaf (.int v)) (some (bagO cs' d0 st') :: r') (some (bagO cs' d0 st') :: r') 2 (.int st') h rfl ⟨_, rfl⟩ rfl rfl rfl
theorem ten9 : oPow (.int 10) (.int 9) = some (.leaf (.int 1000000000)) := by simp [oPow]
theorem ten12 : oPow (.int 10) (.int 12) = some (.leaf (.int 1000000000000)) := by simp [oPow]
theorem draw_while (x1 x3 : Option O) (st : Int) : ∀ (n : Nat) (cs : List Int) (d : Int) (y2 : Option O), cs.length = n → BagOk cs d st → ∃ k cs' d' y2', whileN (mAnd (mOp2 (oEq) (oAt 0 1) (oE (mC (.int 0)))) (mBagNe 0 0)) (sSeq (sSet 2 (mPopAt 0 0)) (sSetIx 0 (mC (.int 1)) (mIf (mOp2 (oGt) (oPk' 2) (oE (mOp2 oPow (oE (mC (.int 10))) (oE (mC (.int 9)))))) (mFz 2) (mC (.int 0))))) k
    [some (bagO cs d st), x1, y2, x3] = .ok (.nx [some (bagO cs' d' st), x1, y2', x3]) ∧ BagOk cs' d' st := by
  intro n
  induction n with
  | zero =>
    intro cs d y2 hl h
    have : cs = [] := List.length_eq_zero_iff.mp hl
    subst this
    refine ⟨1, [], d, y2, ?_, h⟩
    by_cases hd : d = 0
    · simp [whileN, at1, ne0, hd]
    · simp [whileN, at1, ne0, hd]
  | succ n ih =>
    intro cs d y2 hl h
    by_cases hd : d = 0
    · rcases List.eq_nil_or_concat cs with e | ⟨cs0, c, e⟩
      · subst e; cases hl
      · rw [List.concat_eq_append] at e
        subst e hd
        have hc := h.cs c (by simp)
        have hl0 : cs0.length = n := by simpa using hl
        have hb : BagOk cs0 (if c > 1000000000 then c else 0) st := ⟨fun x hx => h.cs x (by simp [hx]), by split <;> omega, h.st⟩
        obtain ⟨k, cs', d', y2', hk, hb'⟩ := ih cs0 _ (some (.leaf (.int c))) hl0 hb
        refine ⟨k + 1, cs', d', y2', ?_, hb'⟩
        have body : sSeq (sSet 2 (mPopAt 0 0)) (sSetIx 0 (mC (.int 1)) (mIf (mOp2 (oGt) (oPk' 2) (oE (mOp2 oPow (oE (mC (.int 10))) (oE (mC (.int 9)))))) (mFz 2) (mC (.int 0)))) [some (bagO (cs0 ++ [c]) 0 st), x1, y2, x3] =
            .ok (.nx [some (bagO cs0 (if c > 1000000000 then c else 0) st), x1, some (.leaf (.int c)), x3]) := by
          refine seq_nx (set_of (pop0 cs0 c 0 st _)) (set1 (cs' := cs0) (d0 := 0) (st' := st) ?_)
          by_cases h9 : (1000000000 : Int) < c
          · simp [ten9, h9]
          · simp [ten9, h9]
        refine while_step ?_ body hk
        simp [at1, ne0]
    · refine ⟨1, cs, d, y2, ?_, h⟩
      simp [whileN, at1, hd]
theorem fmod_bnd (a : Int) {b : Int} (hb : 0 < b) : 0 ≤ a.fmod b ∧ a.fmod b < b := ⟨Int.fmod_nonneg_of_pos a hb, Int.fmod_lt_of_pos a hb⟩
theorem draw_run {cs : List Int} {d st below : Int} (h : BagOk cs d st) (hb : 0 < below) (hb2 : below < 2 ^ 62) : ∃ r cs' d' st', f__law_draw [bagO cs d st, .leaf (.int below)] = .ok (.leaf (.int r), [bagO cs' d' st', .leaf (.int below)]) ∧ 0 ≤ r ∧ r < below ∧ BagOk cs' d' st' := by
  obtain ⟨k, cs1, d1, y2, hk, h1⟩ := draw_while (some (.leaf (.int below))) none st _ cs d none rfl h
  have hw := sWh_of hk
  have b0 : below ≠ 0 := by omega
  have bb : inBig below = true := inBig_of (by omega)
  by_cases hd : 0 < d1
  · refine ⟨d1.fmod below, cs1, d1.fdiv below, st, ?_, (fmod_bnd d1 hb).1, (fmod_bnd d1 hb).2, ⟨h1.cs, Int.fdiv_nonneg h1.d (by omega), h1.st⟩⟩
    refine runDef_pin rfl (by simp) rfl (en := [some (.leaf (.int below)), y2, none]) ?_
    unfold b__law_draw
    refine seq_nx (e1 := [some (bagO cs1 d1 st), some (.leaf (.int below)), y2, none]) hw ?_
    refine seq_rt ?_
    have s1 : sSet 3 (mOp2 oMod (oE (mAs (o1 oInt) (aCons (oAt 0 1) (aNil)))) (oPk' 1)) [some (bagO cs1 d1 st), some (.leaf (.int below)), y2, none] = .ok (.nx [some (bagO cs1 d1 st), some (.leaf (.int below)), y2, some (.leaf (.int (d1.fmod below)))]) := by
      simp [at1, b0]
    have s2 : sSetIx 0 (mC (.int 1)) (mOp2 oDiv (oAt 0 1) (oPk' 1)) [some (bagO cs1 d1 st), some (.leaf (.int below)), y2, some (.leaf (.int (d1.fmod below)))] = .ok (.nx [some (bagO cs1 (d1.fdiv below) st), some (.leaf (.int below)), y2, some (.leaf (.int (d1.fmod below)))]) :=
      set1 (d0 := d1) (by simp [at1, b0, bb])
    have s3 := seq_nx s1 (seq_nx s2 (ret_of (ev_mMv [some (bagO cs1 (d1.fdiv below) st), some (.leaf (.int below)), y2, some (.leaf (.int (d1.fmod below)))] 3 (.leaf (.int (d1.fmod below))) rfl)))
    simp only [ev_sIf, ev_mOp2, at1, ev_oE, ev_mC, R.bind_ok, snap_leaf, oGt_int, decide_eq_true hd]
    exact s3
  · have st1 := fmod_bnd (st * 48271 + 19) (b := 2147483647) (by decide)
    refine ⟨((((st * 48271 + 19).fmod 2147483647 * (st * 48271 + 19).fmod 2147483647).fmod 2147483629).fdiv 7).fmod below, cs1, d1, (st * 48271 + 19).fmod 2147483647, ?_, (fmod_bnd _ hb).1, (fmod_bnd _ hb).2, ⟨h1.cs, h1.d, by omega⟩⟩
    have mk1 : mulOk st 48271 = true := mulOk_r (by decide)
    have e1 : sSetIx 0 (mC (.int 2)) (mOp2 oMod (oE (mAs (o1 oInt) (aCons (oE (mOp2 oAdd (oE (mOp2 oMul (oAt 0 2) (oE (mC (.int 48271))))) (oE (mC (.int 19))))) (aNil)))) (oE (mC (.int 2147483647)))) [some (bagO cs1 d1 st), some (.leaf (.int below)), y2, none] =
      .ok (.nx [some (bagO cs1 d1 ((st * 48271 + 19).fmod 2147483647)), some (.leaf (.int below)), y2, none]) := set2 (st' := st) (by simp [at2, mk1])
    generalize (st * 48271 + 19).fmod 2147483647 = s9 at st1 e1
    have mk2 : mulOk s9 s9 = true := mulOk_r (by omega)
    have b7 : inBig 7 = true := inBig_of (by decide)
    refine runDef_pin rfl (by simp) rfl (en := [some (.leaf (.int below)), y2, none]) ?_
    unfold b__law_draw
    refine seq_nx (e1 := [some (bagO cs1 d1 st), some (.leaf (.int below)), y2, none]) hw (seq_nx (e1 := [some (bagO cs1 d1 st), some (.leaf (.int below)), y2, none]) ?_ (seq_nx e1 (ret_of ?_)))
    · simp only [ev_sIf, ev_mOp2, at1, ev_oE, ev_mC, R.bind_ok, snap_leaf, oGt_int, decide_eq_false hd, ev_sSkip]
    · simp [at2, mk2, b7, b0]
end K42
namespace K42
open PySem PySem.Spec L2 Evl Ev
theorem callP_ok {f : Fn} {i : Nat} {fs : Fs} {en e1 : En} {o o1 r o' : O} {ds : List PyData} {os' : List O} (h0 : en[i]? = some (some o)) (h1 : fs en = .ok (ds, e1)) (h2 : e1[i]? = some (some o1)) (h3 : f (o1 :: ds.map O.leaf) = .ok (r, o' :: os')) : mCallP f i fs en = .ok (r, e1.set i (some o')) := by
  unfold mCallP
  rw [h0]
  dsimp only
  rw [h1, R.bind_ok]
  dsimp only
  rw [h2]
  dsimp only
  rw [h3]
  rfl
/-! ### the bag -/
def absI : PyData → PyData
  | .int i => .int (if i < 0 then -i else i)
  | d => d
theorem cut_ints (ns : List Int) : ∃ ks : List Int, cutD (ns.map PyData.int) none (some 63) = ks.map .int ∧ ks.length ≤ ns.length := by
  unfold cutD
  rw [← List.map_drop, ← List.map_take]
  refine ⟨_, rfl, ?_⟩
  rw [List.length_take, List.length_drop]
  omega
def stir (st c : Int) : Int := (st * 48271 + c.fmod 2147483629 + 13).fmod 2147483647
theorem stir_bnd (st c : Int) : 0 ≤ stir st c ∧ stir st c < 2 ^ 31 := by
  have := fmod_bnd (st * 48271 + c.fmod 2147483629 + 13) (b := 2147483647) (by decide)
  unfold stir
  omega
theorem bag_for (x0 x1 : Option O) : ∀ (cs : List Int) (st : Int) (y3 : Option O), 0 ≤ st ∧ st < 2 ^ 31 → ∃ st' y3', (0 ≤ st' ∧ st' < 2 ^ 31) ∧ forL (gNm 3) (sSet 2 (mOp2 oMod (oE (mAs (o1 oInt) (aCons (oE (mOp2 oAdd (oE (mOp2 oAdd (oE (mOp2 oMul (oPk' 2) (oE (mC (.int 48271))))) (oE (mOp2 oMod (oE (mAs (o1 oInt) (aCons (oPk' 3) (aNil)))) (oE (mC (.int 2147483629))))))) (oE (mC (.int 13))))) (aNil)))) (oE (mC (.int 2147483647))))) (cs.map .int)
    [x0, x1, some (.leaf (.int st)), y3] = .ok (.nx [x0, x1, some (.leaf (.int st')), y3'])
  | [], st, y3, h => ⟨st, y3, h, rfl⟩
  | c :: cs, st, y3, h => by
    obtain ⟨st', y3', h', ih⟩ := bag_for x0 x1 cs (stir st c) (some (.leaf (.int c))) (stir_bnd st c)
    have mk : mulOk st 48271 = true := mulOk_r (by decide)
    exact ⟨st', y3', h', forL_cons (d := .int c) rfl (e2 := [x0, x1, some (.leaf (.int (stir st c))), some (.leaf (.int c))]) (by simp [mk, stir]) ih⟩
theorem bag_run (ns : List Int) (hn : ns.length ≤ 63) : ∃ cs st, f__law_bag [.scr ns] = .ok (bagO cs 0 st, [.scr ns]) ∧ BagOk cs 0 st := by
  obtain ⟨ks, hk, hl⟩ := cut_ints ns
  have hs := sl
  have cs0 : (ks.map PyData.int).map absI = (ks.map fun i => if i < 0 then -i else i).map .int := by rw [List.map_map, List.map_map]; rfl
  have c1 : compL [3] (gNm 3) (mYes) (mAs (o1 oAbs) (aCons (oPk' 3) (aNil))) (ks.map .int) [] [some (.scr ns), none, none, none] = .ok ([] ++ (ks.map PyData.int).map absI, [some (.scr ns), none, none, none]) := by
    refine compL_eq _ (by rw [List.length_map, List.length_nil]; omega) fun d hd => ?_
    obtain ⟨i, hi, rfl⟩ := List.mem_map.mp hd
    simp [absI]
  rw [cs0] at c1
  generalize hcs : (ks.map fun i => if i < 0 then -i else i) = cs at c1
  have hc0 : ∀ c ∈ cs, 0 ≤ c := fun c hc => by
    rw [← hcs] at hc
    obtain ⟨i, _, rfl⟩ := List.mem_map.mp hc
    split <;> omega
  have hcl : cs.length ≤ 63 := by rw [← hcs, List.length_map]; omega
  obtain ⟨st', y3', h', lp⟩ := bag_for (some (.scr ns)) (some (.leaf (.list (cs.map .int)))) cs (16246 + (cs.length : Int)) none (by omega)
  refine ⟨cs.reverse, st', ?_, ⟨fun c hc => hc0 c (List.mem_reverse.mp hc), by omega, h'⟩⟩
  have sc : mScr 0 63 [some (.scr ns), none, none, none] = .ok (LL (ks.map .int), [some (.scr ns), none, none, none]) := by
    show Ev.R.ok (O.lst ((cutD (ns.map PyData.int) none (some 63)).map O.leaf), _) = _
    rw [hk]
    rfl
  refine runDef_pin rfl (by simp) rfl (en := [some (.leaf (.list (cs.map .int))), some (.leaf (.int st')), y3']) ?_
  unfold b__law_bag
  refine seq_nx (e1 := [some (.scr ns), some (LL (cs.map .int)), none, none]) (by simp [sc, c1]) (seq_nx (e1 := [some (.scr ns), some (LL (cs.map .int)), some (.leaf (.int (16246 + (cs.length : Int)))), none]) (by simp) (seq_nx (for_of (ds := cs.map .int) ?_ lp) (ret_of ?_)))
  · have q := ev_mFzL [some (.scr ns), some (LL (cs.map .int)), some (.leaf (.int (16246 + (cs.length : Int)))), none] 1 (cs.map .int) rfl
    simp [q]
  · have z3 : (3 : Nat) ≤ sizeLine := by decide
    have e : (cs.map PyData.int).reverse = cs.reverse.map .int := by rw [List.map_reverse]
    simp [mLstO, hCons, hNil, mRev, z3, bagO, LL]
theorem pick_run {cs : List Int} {d st : Int} {xs : List PyData} (h : BagOk cs d st) (hx : xs ≠ []) (hl : xs.length ≤ 1000) : ∃ x cs' d' st', f__law_pick [bagO cs d st, .leaf (.list xs)] = .ok (.leaf x, [bagO cs' d' st', .leaf (.list xs)]) ∧ x ∈ xs ∧ BagOk cs' d' st' := by
  have hp : 0 < xs.length := List.length_pos_iff.mpr hx
  obtain ⟨r, cs', d', st', hr, r0, r1, hb⟩ := draw_run h (below := (xs.length : Int)) (by omega) (by omega)
  have rn : ((r.toNat : Nat) : Int) = r := by omega
  have rl : r.toNat < xs.length := by omega
  refine ⟨xs[r.toNat], cs', d', st', ?_, List.getElem_mem rl, hb⟩
  refine runDef_pin rfl (by simp) rfl (en := [some (.leaf (.list xs))]) ?_
  unfold b__law_pick
  refine ret_of ?_
  have cp : mCallP f__law_draw 0 (fCons (mAs (o1 oLen) (aCons (oPk' 1) (aNil))) (fNil)) [some (bagO cs d st), some (.leaf (.list xs))] = .ok (.leaf (.int r), [some (bagO cs' d' st'), some (.leaf (.list xs))]) :=
    callP_ok (o := bagO cs d st) (o1 := bagO cs d st) (ds := [.int xs.length]) (e1 := [some (bagO cs d st), some (.leaf (.list xs))]) rfl (by simp) rfl hr
  have ix : oIx (.list xs) (.int r) = some (.leaf xs[r.toNat]) := by
    have q := oIx_l (xs[r.toNat]) xs r.toNat (List.getElem?_eq_getElem rl)
    rw [rn] at q
    exact q
  simp [cp, ix]
end K42
namespace K42
open PySem PySem.Spec L2 Evl Ev
theorem range_len (n : Int) : (rangeD 0 n).length = n.toNat := by simp [rangeD]
theorem range_get {n : Int} {i : Nat} {d : PyData} (h : (rangeD 0 n)[i]? = some d) : i < n.toNat ∧ d = .int (i : Int) := by
  have hl := (List.getElem?_eq_some_iff.mp h).1
  rw [range_len] at hl
  refine ⟨hl, ?_⟩
  unfold rangeD at h
  rw [List.getElem?_map, List.getElem?_range (by simpa using hl)] at h
  have := Option.some.inj h
  rw [← this]
  show PyData.int (0 + (i : Int)) = _
  rw [Int.zero_add]
theorem iRange_ok {as : As} {en e1 : En} {r : Rs} {n : Int} (h1 : as en = .ok ([r], e1)) (h2 : r e1 = some (.int n)) (h3 : 0 ≤ n ∧ n ≤ 1000) : iRange as en = .ok (rangeD 0 n, e1) := ev_iRange1 en as r e1 n h1 h2 ⟨by omega, by omega⟩
theorem row_run {cs : List Int} {d st whole : Int} {many : Nat} (h : BagOk cs d st) (hw : 0 ≤ whole ∧ whole ≤ 1000) (hm : 1 ≤ many ∧ many ≤ 1000) : ∃ row cs' d' st', f__law_row [bagO cs d st, .leaf (.int whole), .leaf (.int many)] = .ok (.leaf (rowT row), [bagO cs' d' st', .leaf (.int whole), .leaf (.int many)]) ∧
    row.length = many ∧ (∀ v ∈ row, 0 ≤ v ∧ v ≤ whole) ∧ BagOk cs' d' st' := by
  have rm := rep_mul hm.2
  have z1 : (1 : Nat) ≤ sizeLine := by decide
  obtain ⟨en', lp, cs', d', st', row, y4, y5, rfl, hb, hl, hr⟩ := forL_inv (g := gNm 4) (b := sSeq (sSet 5 (mCallP f__law_draw 0 (fCons (mFz 2) (fNil)))) (sSetIx 3 (mFz 5) (mOp2 oAdd (oE (mOp2 oIx (oPk' 3) (oPk' 5))) (oE (mC (.int 1))))))
    (ds := rangeD 0 whole) (en := [some (bagO cs d st), some (.leaf (.int whole)), some (.leaf (.int many)), some (LL ((List.replicate many (0 : Int)).map .int)), none, none])
    (fun i en => ∃ cs d st row y4 y5, en = [some (bagO cs d st), some (.leaf (.int whole)), some (.leaf (.int many)), some (LL (List.map PyData.int row)), y4, y5] ∧ BagOk cs d st ∧ row.length = many ∧ ∀ v ∈ row, 0 ≤ v ∧ v ≤ (i : Int))
    ⟨cs, d, st, List.replicate many 0, none, none, rfl, h, List.length_replicate, fun v hv => by rw [List.eq_of_mem_replicate hv]; omega⟩
    (by
      rintro i x en hx ⟨cs, d, st, row, y4, y5, rfl, hb, hl, hr⟩
      obtain ⟨hi, rfl⟩ := range_get hx
      obtain ⟨p, cs', d', st', hp, p0, p1, hb'⟩ := draw_run hb (below := (many : Int)) (by omega) (by omega)
      have pn : ((p.toNat : Nat) : Int) = p := by omega
      have pl : p.toNat < row.length := by omega
      refine ⟨[some (bagO cs d st), some (.leaf (.int whole)), some (.leaf (.int many)), some (LL (row.map .int)), some (.leaf (.int i)), y5], [some (bagO cs' d' st'), some (.leaf (.int whole)), some (.leaf (.int many)), some (LL ((row.set p.toNat (row[p.toNat] + 1)).map .int)), some (.leaf (.int i)), some (.leaf (.int p))], rfl, ?_, cs', d', st', row.set p.toNat (row[p.toNat] + 1), _, _, rfl, hb', by rw [List.length_set]; exact hl, fun v hv => ?_⟩
      · have cp : mCallP f__law_draw 0 (fCons (mFz 2) (fNil)) [some (bagO cs d st), some (.leaf (.int whole)), some (.leaf (.int many)), some (LL (row.map .int)), some (.leaf (.int i)), y5] = .ok (.leaf (.int p), [some (bagO cs' d' st'), some (.leaf (.int whole)), some (.leaf (.int many)), some (LL (row.map .int)), some (.leaf (.int i)), y5]) :=
          callP_ok (o := bagO cs d st) (o1 := bagO cs d st) (ds := [.int many]) (e1 := [some (bagO cs d st), some (.leaf (.int whole)), some (.leaf (.int many)), some (LL (row.map .int)), some (.leaf (.int i)), y5]) rfl (by simp) rfl hp
        have hg : (row.map PyData.int)[p.toNat]? = some (.int row[p.toNat]) := by rw [List.getElem?_map, List.getElem?_eq_getElem pl]; rfl
        have ix : oIx (.list (row.map .int)) (.int p) = some (.leaf (.int row[p.toNat])) := by
          have q := oIx_l _ _ p.toNat hg
          rw [pn] at q
          exact q
        have st := setIx_ok [some (bagO cs' d' st'), some (.leaf (.int whole)), some (.leaf (.int many)), some (LL (row.map .int)), some (.leaf (.int i)), some (.leaf (.int p))] (mOp2 oAdd (oE (mOp2 oIx (oPk' 3) (oPk' 5))) (oE (mC (.int 1)))) 3 p.toNat (.int (row[p.toNat] + 1)) (mFz 5) (row.map .int) (.leaf (.int (row[p.toNat] + 1)))
          [some (bagO cs' d' st'), some (.leaf (.int whole)), some (.leaf (.int many)), some (LL (row.map .int)), some (.leaf (.int i)), some (.leaf (.int p))] [some (bagO cs' d' st'), some (.leaf (.int whole)), some (.leaf (.int many)), some (LL (row.map .int)), some (.leaf (.int i)), some (.leaf (.int p))]
          (by simp [ix]) (by simp) ⟨_, rfl⟩ (by rw [pn]; simp) rfl (by rw [List.length_map]; exact pl)
        have e : (row.map PyData.int).set p.toNat (.int (row[p.toNat] + 1)) = (row.set p.toNat (row[p.toNat] + 1)).map .int := by rw [List.map_set]
        rw [e] at st
        exact seq_nx (set_of cp) st
      · rw [Int.natCast_add]
        rcases List.mem_or_eq_of_mem_set hv with hv | hv
        · have := hr v hv
          omega
        · have := hr _ (List.getElem_mem pl)
          omega)
  rw [range_len] at hr
  refine ⟨row, cs', d', st', ?_, hl, fun v hv => by have := hr v hv; omega, hb⟩
  refine runDef_pin rfl (by simp) rfl (en := [some (.leaf (.int whole)), some (.leaf (.int many)), some (LL (row.map .int)), y4, y5]) ?_
  unfold b__law_row
  refine seq_nx (e1 := [some (bagO cs d st), some (.leaf (.int whole)), some (.leaf (.int many)), some (LL ((List.replicate many (0 : Int)).map .int)), none, none]) (by simp [-List.map_replicate, rm, z1]) (seq_nx (for_of (ds := rangeD 0 whole) (iRange_ok (r := fun en => look en[1]?) (e1 := [some (bagO cs d st), some (.leaf (.int whole)), some (.leaf (.int many)), some (LL ((List.replicate many (0 : Int)).map .int)), none, none]) (by simp) rfl hw) lp) (ret_of ?_))
  simp [rowT]
theorem channel_run {cs : List Int} {d st most : Int} {ins outs : Nat} (h : BagOk cs d st) (hm : 1 ≤ most ∧ most ≤ 60) (hi : 1 ≤ ins ∧ ins ≤ 6) (ho : 1 ≤ outs ∧ outs ≤ 6) : ∃ w R cs' d' st', f__law_channel [bagO cs d st, .leaf (.int ins), .leaf (.int outs), .leaf (.int most)] = .ok (.leaf (chan w R), [bagO cs' d' st', .leaf (.int ins), .leaf (.int outs), .leaf (.int most)]) ∧
    Fine w R 60 ∧ R.length = ins ∧ (∀ r ∈ R, r.length = outs) ∧ BagOk cs' d' st' := by
  obtain ⟨p, cs1, d1, st1, hp, p0, p1, hb1⟩ := draw_run h (below := most) (by omega) (by omega)
  have z2 : (2 : Nat) ≤ sizeLine := by decide
  have sz := sl
  obtain ⟨acc, en', cp, hal, R, cs', d', st', rfl, rfl, hb', hR⟩ := compL_inv (vs := [5]) (g := gNm 5) (c := mYes) (elt := mCallP f__law_row 0 (fCons (mFz 4) (fCons (mFz 2) (fNil)))) (ds := rangeD 0 ins) (en := [some (bagO cs1 d1 st1), some (.leaf (.int ins)), some (.leaf (.int outs)), some (.leaf (.int most)), some (.leaf (.int (1 + p))), none]) (by rw [range_len]; omega)
    (fun i acc en => ∃ (R : List (List Int)) (cs : List Int) (d st : Int), acc = R.map rowT ∧ en = [some (bagO cs d st), some (.leaf (.int ins)), some (.leaf (.int outs)), some (.leaf (.int most)), some (.leaf (.int (1 + p))), none] ∧ BagOk cs d st ∧ ∀ r ∈ R, r.length = outs ∧ ∀ v ∈ r, 0 ≤ v ∧ v ≤ 1 + p)
    ⟨[], cs1, d1, st1, rfl, rfl, hb1, fun r hr => by cases hr⟩
    (by
      rintro i x acc en hx hal ⟨R, cs, d, st, rfl, rfl, hb, hR⟩
      obtain ⟨hi, rfl⟩ := range_get hx
      obtain ⟨row, cs', d', st', hr, hl, hv, hb'⟩ := row_run hb (whole := 1 + p) (many := outs) (by omega) (by omega)
      refine ⟨[some (bagO cs d st), some (.leaf (.int ins)), some (.leaf (.int outs)), some (.leaf (.int most)), some (.leaf (.int (1 + p))), some (.leaf (.int i))], _, .leaf (rowT row), [some (bagO cs' d' st'), some (.leaf (.int ins)), some (.leaf (.int outs)), some (.leaf (.int most)), some (.leaf (.int (1 + p))), some (.leaf (.int i))], rowT row, rfl, rfl,
        callP_ok (o := bagO cs d st) (o1 := bagO cs d st) (ds := [.int (1 + p), .int outs]) (e1 := [some (bagO cs d st), some (.leaf (.int ins)), some (.leaf (.int outs)), some (.leaf (.int most)), some (.leaf (.int (1 + p))), some (.leaf (.int i))]) rfl (by simp) rfl hr, rfl, R ++ [row], cs', d', st', by simp, rfl, hb', fun r hr => ?_⟩
      rcases List.mem_append.mp hr with hr | hr
      · exact hR r hr
      · rw [List.mem_singleton.mp hr]
        exact ⟨hl, hv⟩)
  rw [List.length_map, range_len, Int.toNat_natCast] at hal
  refine ⟨1 + p, R, cs', d', st', ?_, ⟨by omega, by omega, by omega, fun r hr i hi => ⟨((hR r hr).2 i hi).1, by have := ((hR r hr).2 i hi).2; omega⟩, by omega, fun r hr => by rw [(hR r hr).1]; exact ho.2⟩, hal, fun r hr => (hR r hr).1, hb'⟩
  refine runDef_pin rfl (by simp) rfl (en := [some (.leaf (.int ins)), some (.leaf (.int outs)), some (.leaf (.int most)), some (.leaf (.int (1 + p))), none]) ?_
  unfold b__law_channel
  have dp : mCallP f__law_draw 0 (fCons (mFz 3) (fNil)) [some (bagO cs d st), some (.leaf (.int ins)), some (.leaf (.int outs)), some (.leaf (.int most)), none, none] = .ok (.leaf (.int p), [some (bagO cs1 d1 st1), some (.leaf (.int ins)), some (.leaf (.int outs)), some (.leaf (.int most)), none, none]) :=
    callP_ok (o := bagO cs d st) (o1 := bagO cs d st) (ds := [.int most]) (e1 := [some (bagO cs d st), some (.leaf (.int ins)), some (.leaf (.int outs)), some (.leaf (.int most)), none, none]) rfl (by simp) rfl hp
  have ir : iRange (aCons (oPk' 1) (aNil)) [some (bagO cs1 d1 st1), some (.leaf (.int ins)), some (.leaf (.int outs)), some (.leaf (.int most)), some (.leaf (.int (1 + p))), none] = .ok (rangeD 0 ins, [some (bagO cs1 d1 st1), some (.leaf (.int ins)), some (.leaf (.int outs)), some (.leaf (.int most)), some (.leaf (.int (1 + p))), none]) :=
    iRange_ok (r := fun en => look en[1]?) (by simp) rfl (by omega)
  refine seq_nx (e1 := [some (bagO cs1 d1 st1), some (.leaf (.int ins)), some (.leaf (.int outs)), some (.leaf (.int most)), some (.leaf (.int (1 + p))), none]) (by simp [dp]) (ret_of ?_)
  simp [ir, cp, z2, chan]
/-- many draws below one number -/
theorem draws_comp (rest : En) (k : Nat) (below more : Nat) (hb : 1 ≤ below ∧ below ≤ 1000) (hm : more ≤ 1000) (hk : ∀ b x, (some b :: rest).set 6 x = some b :: (rest.set 5 x)) (h6 : rest[5]? = some none)
    (hf : ∀ b x, fCons (mFz k) fNil (some b :: rest.set 5 x) = .ok ([.int below], some b :: rest.set 5 x)) {cs : List Int} {d st : Int} (h : BagOk cs d st) :
    ∃ (one : List Nat) (cs' : List Int) (d' st' : Int), compL [6] (gNm 6) mYes (mCallP f__law_draw 0 (fCons (mFz k) fNil)) (rangeD 0 more) [] (some (bagO cs d st) :: rest) = .ok (natD one, some (bagO cs' d' st') :: rest) ∧ one.length = more ∧ (∀ p ∈ one, p < below) ∧ BagOk cs' d' st' := by
  have sz := sl
  have back : ∀ x, (rest.set 5 x).set 5 none = rest := fun x => by
    rw [List.set_set]
    exact set_same h6
  obtain ⟨acc, en', cp, hal, one, cs', d', st', rfl, rfl, hb', hR⟩ := compL_inv (vs := [6]) (g := gNm 6) (c := mYes) (elt := mCallP f__law_draw 0 (fCons (mFz k) (fNil))) (ds := rangeD 0 more) (en := some (bagO cs d st) :: rest) (by rw [range_len]; omega)
    (fun i acc en => ∃ (one : List Nat) (cs : List Int) (d st : Int), acc = natD one ∧ en = some (bagO cs d st) :: rest ∧ BagOk cs d st ∧ ∀ p ∈ one, p < below)
    ⟨[], cs, d, st, rfl, rfl, h, fun r hr => by cases hr⟩
    (by
      rintro i x acc en hx hal ⟨one, cs, d, st, rfl, rfl, hbg, hR⟩
      obtain ⟨hi, rfl⟩ := range_get hx
      obtain ⟨p, cs', d', st', hp, p0, p1, hb'⟩ := draw_run hbg (below := (below : Int)) (by omega) (by omega)
      have pn : ((p.toNat : Nat) : Int) = p := by omega
      refine ⟨some (bagO cs d st) :: rest.set 5 (some (.leaf (.int i))), some (bagO cs d st) :: rest.set 5 (some (.leaf (.int i))), .leaf (.int p), some (bagO cs' d' st') :: rest.set 5 (some (.leaf (.int i))), .int p, by rw [ev_gNm, hk], rfl,
        callP_ok (o := bagO cs d st) (o1 := bagO cs d st) (ds := [.int below]) (e1 := some (bagO cs d st) :: rest.set 5 (some (.leaf (.int i)))) rfl (hf _ _) rfl hp, rfl, one ++ [p.toNat], cs', d', st', by simp [natD, pn], ?_, hb', fun q hq => ?_⟩
      · rw [wipeE_cons, wipeE_nil, List.set_cons_succ, back]
      · rcases List.mem_append.mp hq with hq | hq
        · exact hR q hq
        · rw [List.mem_singleton.mp hq]
          omega)
  refine ⟨one, cs', d', st', cp, ?_, hR, hb'⟩
  rw [range_len, Int.toNat_natCast] at hal
  simpa [natD] using hal
theorem turning_run {cs : List Int} {d st : Int} {ins outs more many : Nat} (h : BagOk cs d st) (h1 : 1 ≤ ins ∧ ins ≤ 6) (h2 : 1 ≤ outs ∧ outs ≤ 6) (h3 : 1 ≤ more ∧ more ≤ 6) (h4 : 1 ≤ many ∧ many ≤ 6) :
    ∃ one other cs' d' st', f__law_turning [bagO cs d st, .leaf (.int ins), .leaf (.int outs), .leaf (.int more), .leaf (.int many)] = .ok (.leaf (.tuple [.tuple (natD one), .tuple (natD other)]), [bagO cs' d' st', .leaf (.int ins), .leaf (.int outs), .leaf (.int more), .leaf (.int many)]) ∧
      one.length = more ∧ (∀ p ∈ one, p < ins) ∧ other.length = outs ∧ (∀ p ∈ other, p < many) ∧ BagOk cs' d' st' := by
  have z2 : (2 : Nat) ≤ sizeLine := by decide
  obtain ⟨one, cs1, d1, st1, c1, l1, b1, k1⟩ := draws_comp [some (.leaf (.int ins)), some (.leaf (.int outs)), some (.leaf (.int more)), some (.leaf (.int many)), none, none] 1 ins more (by omega) (by omega) (fun _ _ => rfl) rfl (fun _ _ => by simp) h
  obtain ⟨other, cs2, d2, st2, c2, l2, b2, k2⟩ := draws_comp [some (.leaf (.int ins)), some (.leaf (.int outs)), some (.leaf (.int more)), some (.leaf (.int many)), some (.leaf (.tuple (natD one))), none] 4 many outs (by omega) (by omega) (fun _ _ => rfl) rfl (fun _ _ => by simp) k1
  refine ⟨one, other, cs2, d2, st2, ?_, l1, b1, l2, b2, k2⟩
  refine runDef_pin rfl (by simp) rfl (en := [some (.leaf (.int ins)), some (.leaf (.int outs)), some (.leaf (.int more)), some (.leaf (.int many)), some (.leaf (.tuple (natD one))), none]) ?_
  unfold b__law_turning
  have i1 : iRange (aCons (oPk' 3) (aNil)) [some (bagO cs d st), some (.leaf (.int ins)), some (.leaf (.int outs)), some (.leaf (.int more)), some (.leaf (.int many)), none, none] = .ok (rangeD 0 more, [some (bagO cs d st), some (.leaf (.int ins)), some (.leaf (.int outs)), some (.leaf (.int more)), some (.leaf (.int many)), none, none]) :=
    iRange_ok (r := fun en => look en[3]?) (by simp) rfl (by omega)
  have i2 : iRange (aCons (oPk' 2) (aNil)) [some (bagO cs1 d1 st1), some (.leaf (.int ins)), some (.leaf (.int outs)), some (.leaf (.int more)), some (.leaf (.int many)), some (.leaf (.tuple (natD one))), none] = .ok (rangeD 0 outs, [some (bagO cs1 d1 st1), some (.leaf (.int ins)), some (.leaf (.int outs)), some (.leaf (.int more)), some (.leaf (.int many)), some (.leaf (.tuple (natD one))), none]) :=
    iRange_ok (r := fun en => look en[2]?) (by simp) rfl (by omega)
  refine seq_nx (e1 := [some (bagO cs1 d1 st1), some (.leaf (.int ins)), some (.leaf (.int outs)), some (.leaf (.int more)), some (.leaf (.int many)), some (.leaf (.tuple (natD one))), none]) (by simp [i1, c1]) (ret_of ?_)
  simp [i2, c2, z2]
end K42
namespace K42
open PySem PySem.Spec L2 Evl Ev
theorem draw1 (s0 : Option O) (rest : En) {cs : List Int} {d st : Int} (h : BagOk cs d st) : ∃ (n : Nat) (cs' : List Int) (d' st' : Int), mOp2 oAdd (oE (mC (.int 1))) (oE (mCallP f__law_draw 1 (fCons (mC (.int 6)) (fNil)))) (s0 :: some (bagO cs d st) :: rest) = .ok (.leaf (.int (n : Int)), s0 :: some (bagO cs' d' st') :: rest) ∧ (1 ≤ n ∧ n ≤ 6) ∧ BagOk cs' d' st' := by
  obtain ⟨p, cs', d', st', hp, p0, p1, hb⟩ := draw_run h (below := 6) (by decide) (by decide)
  refine ⟨(1 + p).toNat, cs', d', st', ?_, by omega, hb⟩
  have e : (((1 + p).toNat : Nat) : Int) = 1 + p := by omega
  have cp : mCallP f__law_draw 1 (fCons (mC (.int 6)) (fNil)) (s0 :: some (bagO cs d st) :: rest) = .ok (.leaf (.int p), s0 :: some (bagO cs' d' st') :: rest) :=
    callP_ok (o := bagO cs d st) (o1 := bagO cs d st) (ds := [.int 6]) (e1 := s0 :: some (bagO cs d st) :: rest) rfl (by simp) rfl hp
  rw [e]
  simp [cp]
theorem pick4 (s0 : Option O) (rest : En) (a b c : Int) (m4 : Xm) (e : Int) (h4 : ∀ en, m4 en = .ok (.leaf (.int e), en)) {cs : List Int} {d st : Int} (h : BagOk cs d st) : ∃ (x : Int) (cs' : List Int) (d' st' : Int), mCallP f__law_pick 1 (fCons (mLst (fCons (mC (.int a)) (fCons (mC (.int b)) (fCons (mC (.int c)) (fCons m4 (fNil)))))) (fNil)) (s0 :: some (bagO cs d st) :: rest) = .ok (.leaf (.int x), s0 :: some (bagO cs' d' st') :: rest) ∧
    (x = a ∨ x = b ∨ x = c ∨ x = e) ∧ BagOk cs' d' st' := by
  obtain ⟨x, cs', d', st', hx, hm, hb⟩ := pick_run h (xs := [.int a, .int b, .int c, .int e]) (by simp) (by simp)
  have z4 : (4 : Nat) ≤ sizeLine := by decide
  have key : ∀ v : Int, x = .int v → _ := fun v ev => callP_ok (f := f__law_pick) (i := 1) (fs := fCons (mLst (fCons (mC (.int a)) (fCons (mC (.int b)) (fCons (mC (.int c)) (fCons m4 (fNil)))))) (fNil)) (en := s0 :: some (bagO cs d st) :: rest) (o := bagO cs d st) (o1 := bagO cs d st) (ds := [.list [.int a, .int b, .int c, .int e]]) (e1 := s0 :: some (bagO cs d st) :: rest) (r := .leaf (.int v)) rfl (by simp [h4, z4]) rfl (by rw [← ev]; exact hx)
  simp only [List.mem_cons, List.not_mem_nil, or_false] at hm
  rcases hm with e1 | e1 | e1 | e1
  · exact ⟨a, cs', d', st', key a e1, .inl rfl, hb⟩
  · exact ⟨b, cs', d', st', key b e1, .inr (.inl rfl), hb⟩
  · exact ⟨c, cs', d', st', key c e1, .inr (.inr (.inl rfl)), hb⟩
  · exact ⟨e, cs', d', st', key e e1, .inr (.inr (.inr rfl)), hb⟩
theorem cut2 (w i o : PyData) : cutD [w, i, o] (some 1) none = [i, o] := by
  rfl
theorem slice_mix (m : Int × List Nat × List Nat) : oSl (some 1) none (mixI m) = some (.leaf (.tuple [.tuple (natD m.2.1), .tuple (natD m.2.2)])) := rfl
def tailI : PyData → PyData
  | .tuple (_ :: r) => .tuple r
  | d => d
theorem shaped_nat {l : List Nat} (h : ∀ n ∈ l, n < 1000) (hl : l.length ≤ 6) : Tame 1 1206 (.tuple (natD l)) := tame_nat h hl
/-! ### one mixture's item -/
abbrev Rest := List (Option O)
structure Ctx where
  ns : List Int
  i : Int
  ways : Nat
  outs : Nat
  w : Int
  R : List (List Int)
  more : Nat
  many : Nat
structure CtxOk (c : Ctx) : Prop where
  fine : Fine c.w c.R 60
  len : c.R.length = c.ways
  rows : ∀ r ∈ c.R, r.length = c.outs
  ways : 1 ≤ c.ways ∧ c.ways ≤ 6
  outs : 1 ≤ c.outs ∧ c.outs ≤ 6
  more : 1 ≤ c.more ∧ c.more ≤ 6
  many : 1 ≤ c.many ∧ c.many ≤ 6
def env (c : Ctx) (bag : O) (mix : O) (y9 y10 y11 y12 y13 y14 y15 y16 : Option O) : En :=
  [some (.scr c.ns), some bag, some (.leaf (.int c.i)), some (.leaf (.int c.ways)), some (.leaf (.int c.outs)), some (.leaf (chan c.w c.R)), some (.leaf (.int c.more)), some (.leaf (.int c.many)), some mix, y9, y10, y11, y12, y13, y14, y15, y16, none, none, none]
theorem item_step (c : Ctx) (k : CtxOk c) (y12 y13 y14 y15 y16 : Option O) {cs : List Int} {d st : Int} (h : BagOk cs d st) {ms : Mix} (hm : MixOk c.R c.many c.more ms) (hlen : ms.length < 12) (y9 y10 y11 : Option O) : ∃ (cs' : List Int) (d' st' : Int) (ms' : Mix) (y10' y11' : Option O),
    sSeq (sAsg (mCallP f__law_turning 1 (fCons (mFz 3) (fCons (mFz 4) (fCons (mFz 6) (fCons (mFz 7) (fNil)))))) (gTup 2 (gCons (gNm 10) (gCons (gNm 11) (gNil))))) (sSeq (sIf (mNot (mCall f__law_is_turned (fCons (mFz 5) (fCons (mFz 10) (fCons (mFz 11) (fCons (mFz 7) (fNil))))))) (sRet (mC (.bool false))) (sSkip)) (sIf (mOp2 (oIn true) (oE (mTup (fCons (mFz 10) (fCons (mFz 11) (fNil))))) (oE (mCompPk [17] 8 (gNm 17) (mYes) (mSl (oPk' 17) (pE (mC (.int 1))) (pNo))))) (sDrop (mApp 8 (mTup (fCons (mCallP f__law_pick 1 (fCons (mLst (fCons (mC (.int 1)) (fCons (mC (.int 2)) (fCons (mC (.int 5)) (fCons (mOp2 oPow (oE (mC (.int 10))) (oE (mC (.int 12)))) (fNil)))))) (fNil))) (fCons (mFz 10) (fCons (mFz 11) (fNil))))))) (sSkip)))
      (env c (bagO cs d st) (LL (ms.map mixI)) y9 y10 y11 y12 y13 y14 y15 y16) = .ok (.nx (env c (bagO cs' d' st') (LL (ms'.map mixI)) y9 y10' y11' y12 y13 y14 y15 y16)) ∧
      BagOk cs' d' st' ∧ MixOk c.R c.many c.more ms' ∧ ms'.length ≤ ms.length + 1 ∧ ms' ≠ [] := by
  obtain ⟨one, other, cs1, d1, st1, ht, l1, b1, l2, b2, hb1⟩ := turning_run h k.ways k.outs k.more k.many
  have tn : Turn c.R one other c.many := ⟨k.many.2, b2, fun p hp => by rw [k.len]; exact b1 p hp, by rw [l1]; exact k.more.2, by rw [l2]; exact k.outs.2⟩
  have it := is_turned_run k.fine tn
  obtain ⟨t1, t2⟩ := tn.tame k.fine.n6
  have s1 : sAsg (mCallP f__law_turning 1 (fCons (mFz 3) (fCons (mFz 4) (fCons (mFz 6) (fCons (mFz 7) (fNil)))))) (gTup 2 (gCons (gNm 10) (gCons (gNm 11) (gNil)))) (env c (bagO cs d st) (LL (ms.map mixI)) y9 y10 y11 y12 y13 y14 y15 y16) =
      .ok (.nx (env c (bagO cs1 d1 st1) (LL (ms.map mixI)) y9 (some (.leaf (.tuple (natD one)))) (some (.leaf (.tuple (natD other)))) y12 y13 y14 y15 y16)) := by
    have cp : mCallP f__law_turning 1 (fCons (mFz 3) (fCons (mFz 4) (fCons (mFz 6) (fCons (mFz 7) (fNil))))) (env c (bagO cs d st) (LL (ms.map mixI)) y9 y10 y11 y12 y13 y14 y15 y16) = .ok (.leaf (.tuple [.tuple (natD one), .tuple (natD other)]), env c (bagO cs1 d1 st1) (LL (ms.map mixI)) y9 y10 y11 y12 y13 y14 y15 y16) :=
      callP_ok (o := bagO cs d st) (o1 := bagO cs d st) (ds := [.int c.ways, .int c.outs, .int c.more, .int c.many]) (e1 := env c (bagO cs d st) (LL (ms.map mixI)) y9 y10 y11 y12 y13 y14 y15 y16) rfl (by simp [env]) rfl ht
    simp only [ev_sAsg, cp, R.bind_ok, snap_leaf]
    simp [env]
  have s2 : sIf (mNot (mCall f__law_is_turned (fCons (mFz 5) (fCons (mFz 10) (fCons (mFz 11) (fCons (mFz 7) (fNil))))))) (sRet (mC (.bool false))) (sSkip) (env c (bagO cs1 d1 st1) (LL (ms.map mixI)) y9 (some (.leaf (.tuple (natD one)))) (some (.leaf (.tuple (natD other)))) y12 y13 y14 y15 y16) =
      .ok (.nx (env c (bagO cs1 d1 st1) (LL (ms.map mixI)) y9 (some (.leaf (.tuple (natD one)))) (some (.leaf (.tuple (natD other)))) y12 y13 y14 y15 y16)) := by
    simp [env, it]
  have z2 : (2 : Nat) ≤ sizeLine := by decide
  have z3 : (3 : Nat) ≤ sizeLine := by decide
  have sz := sl
  -- the pairs of the mixture
  have cl : compL [17] (gNm 17) mYes (mSl (oPk' 17) (pE (mC (.int 1))) (pNo)) (ms.map mixI) [] (wipeE ((env c (bagO cs1 d1 st1) (LL (ms.map mixI)) y9 (some (.leaf (.tuple (natD one)))) (some (.leaf (.tuple (natD other)))) y12 y13 y14 y15 y16).set 8 none) [17]) =
      .ok ([] ++ (ms.map mixI).map tailI, wipeE ((env c (bagO cs1 d1 st1) (LL (ms.map mixI)) y9 (some (.leaf (.tuple (natD one)))) (some (.leaf (.tuple (natD other)))) y12 y13 y14 y15 y16).set 8 none) [17]) := by
    refine compL_eq _ (by rw [List.length_map, List.length_nil]; omega) fun x hx => ?_
    obtain ⟨m, hm, rfl⟩ := List.mem_map.mp hx
    have sm := slice_mix m
    simp [env, mSl, pE, pNo, sm]
    rfl
  have cpk : mCompPk [17] 8 (gNm 17) (mYes) (mSl (oPk' 17) (pE (mC (.int 1))) (pNo)) (env c (bagO cs1 d1 st1) (LL (ms.map mixI)) y9 (some (.leaf (.tuple (natD one)))) (some (.leaf (.tuple (natD other)))) y12 y13 y14 y15 y16) =
      .ok (LL ((ms.map mixI).map tailI), env c (bagO cs1 d1 st1) (LL (ms.map mixI)) y9 (some (.leaf (.tuple (natD one)))) (some (.leaf (.tuple (natD other)))) y12 y13 y14 y15 y16) := by
    unfold mCompPk
    have l8 : (env c (bagO cs1 d1 st1) (LL (ms.map mixI)) y9 (some (.leaf (.tuple (natD one)))) (some (.leaf (.tuple (natD other)))) y12 y13 y14 y15 y16)[8]? = some (some (.lst ((ms.map mixI).map O.leaf))) := rfl
    rw [l8]
    dsimp only
    rw [leaves_map]
    dsimp only
    rw [cl]
    rfl
  have tp : Tame 2 2414 (.tuple [.tuple (natD one), .tuple (natD other)]) := (Tame.tuple (dp := 1) (n := 1206) (m := 2) (fun d hd => by
    simp only [List.mem_cons, List.not_mem_nil, or_false] at hd
    rcases hd with rfl | rfl
    · exact t1
    · exact t2) (by simp)).mono (by omega) (by omega)
  have tls : Tame 3 30000 (.list ((ms.map mixI).map tailI)) := (Tame.list (dp := 2) (n := 2414) (m := 12) (fun d hd => by
    obtain ⟨x, hx, rfl⟩ := List.mem_map.mp hd
    obtain ⟨m, hm', rfl⟩ := List.mem_map.mp hx
    obtain ⟨u1, u2⟩ := (hm.turn m hm').tame k.fine.n6
    exact (Tame.tuple (dp := 1) (n := 1206) (m := 2) (fun d hd => by
      simp only [List.mem_cons, List.not_mem_nil, or_false] at hd
      rcases hd with rfl | rfl
      · exact u1
      · exact u2) (by simp)).mono (by omega) (by omega)) (by rw [List.length_map, List.length_map]; omega)).mono (by omega) (by omega)
  have oi : oIn true (.tuple [.tuple (natD one), .tuple (natD other)]) (.list ((ms.map mixI).map tailI)) = some (.leaf (.bool (true ^^ ((ms.map mixI).map tailI).any fun z => PyData.eqv z (.tuple [.tuple (natD one), .tuple (natD other)])))) := if_pos ⟨tp.shaped (by omega), tls.shaped (by omega)⟩
  have cond : mOp2 (oIn true) (oE (mTup (fCons (mFz 10) (fCons (mFz 11) (fNil))))) (oE (mCompPk [17] 8 (gNm 17) (mYes) (mSl (oPk' 17) (pE (mC (.int 1))) (pNo)))) (env c (bagO cs1 d1 st1) (LL (ms.map mixI)) y9 (some (.leaf (.tuple (natD one)))) (some (.leaf (.tuple (natD other)))) y12 y13 y14 y15 y16) =
      .ok (.leaf (.bool (true ^^ ((ms.map mixI).map tailI).any fun z => PyData.eqv z (.tuple [.tuple (natD one), .tuple (natD other)]))), env c (bagO cs1 d1 st1) (LL (ms.map mixI)) y9 (some (.leaf (.tuple (natD one)))) (some (.leaf (.tuple (natD other)))) y12 y13 y14 y15 y16) := by
    have tt : mTup (fCons (mFz 10) (fCons (mFz 11) (fNil))) (env c (bagO cs1 d1 st1) (LL (ms.map mixI)) y9 (some (.leaf (.tuple (natD one)))) (some (.leaf (.tuple (natD other)))) y12 y13 y14 y15 y16) = .ok (.leaf (.tuple [.tuple (natD one), .tuple (natD other)]), env c (bagO cs1 d1 st1) (LL (ms.map mixI)) y9 (some (.leaf (.tuple (natD one)))) (some (.leaf (.tuple (natD other)))) y12 y13 y14 y15 y16) := by
      simp [env, z2]
    simp only [ev_mOp2, ev_oE, tt, R.bind_ok, snap_leaf, cpk, snap_LL, oi]
  cases hbv : (true ^^ ((ms.map mixI).map tailI).any fun z => PyData.eqv z (.tuple [.tuple (natD one), .tuple (natD other)])) with
  | false =>
    rw [hbv] at cond
    refine ⟨cs1, d1, st1, ms, some (.leaf (.tuple (natD one))), some (.leaf (.tuple (natD other))), seq_nx s1 (seq_nx s2 ?_), hb1, hm, by omega, fun e => ?_⟩
    · simp only [ev_sIf, cond, R.bind_ok, ev_sSkip]
    · subst e
      cases hbv
  | true =>
    rw [hbv] at cond
    obtain ⟨x, cs2, d2, st2, hx, hxv, hb2⟩ := pick4 (some (.scr c.ns)) (env c (bagO cs1 d1 st1) (LL (ms.map mixI)) y9 (some (.leaf (.tuple (natD one)))) (some (.leaf (.tuple (natD other)))) y12 y13 y14 y15 y16).tail.tail 1 2 5 (mOp2 oPow (oE (mC (.int 10))) (oE (mC (.int 12)))) 1000000000000 (fun en => by simp [ten12]) hb1
    refine ⟨cs2, d2, st2, ms ++ [(x, one, other)], some (.leaf (.tuple (natD one))), some (.leaf (.tuple (natD other))), seq_nx s1 (seq_nx s2 ?_), hb2, ⟨fun m hm' => ?_, fun m hm' => ?_, fun m hm' => ?_, by rw [List.length_append, List.length_singleton]; omega⟩, by rw [List.length_append, List.length_singleton]; omega, by simp⟩
    · have app := app_ok (env c (bagO cs1 d1 st1) (LL (ms.map mixI)) y9 (some (.leaf (.tuple (natD one)))) (some (.leaf (.tuple (natD other)))) y12 y13 y14 y15 y16) (mTup (fCons (mCallP f__law_pick 1 (fCons (mLst (fCons (mC (.int 1)) (fCons (mC (.int 2)) (fCons (mC (.int 5)) (fCons (mOp2 oPow (oE (mC (.int 10))) (oE (mC (.int 12)))) (fNil)))))) (fNil))) (fCons (mFz 10) (fCons (mFz 11) (fNil))))) 8 (mixI (x, one, other)) (ms.map mixI) (.leaf (mixI (x, one, other)))
        (env c (bagO cs2 d2 st2) (LL (ms.map mixI)) y9 (some (.leaf (.tuple (natD one)))) (some (.leaf (.tuple (natD other)))) y12 y13 y14 y15 y16) ⟨_, rfl⟩ (by
          have hx' : mCallP f__law_pick 1 (fCons (mLst (fCons (mC (.int 1)) (fCons (mC (.int 2)) (fCons (mC (.int 5)) (fCons (mOp2 oPow (oE (mC (.int 10))) (oE (mC (.int 12)))) (fNil)))))) (fNil)) (env c (bagO cs1 d1 st1) (LL (ms.map mixI)) y9 (some (.leaf (.tuple (natD one)))) (some (.leaf (.tuple (natD other)))) y12 y13 y14 y15 y16) = .ok (.leaf (.int x), env c (bagO cs2 d2 st2) (LL (ms.map mixI)) y9 (some (.leaf (.tuple (natD one)))) (some (.leaf (.tuple (natD other)))) y12 y13 y14 y15 y16) := hx
          simp only [ev_mTup, ev_fCons, hx', R.bind_ok, snap_leaf]
          simp [env, z3, mixI]) rfl rfl (by rw [List.length_map]; omega)
      simp only [ev_sIf, cond, R.bind_ok]
      rw [drop_of app]
      have e : ms.map mixI ++ [mixI (x, one, other)] = (ms ++ [(x, one, other)]).map mixI := by simp
      rw [e]
      rfl
    · rcases List.mem_append.mp hm' with q | q
      · exact hm.turn m q
      · rw [List.mem_singleton.mp q]; exact tn
    · rcases List.mem_append.mp hm' with q | q
      · exact hm.len m q
      · rw [List.mem_singleton.mp q]; exact l1
    · rcases List.mem_append.mp hm' with q | q
      · exact hm.wt m q
      · rw [List.mem_singleton.mp q]
        show 0 < x ∧ x ≤ 10 ^ 12
        rcases hxv with rfl | rfl | rfl | rfl <;> omega
end K42
namespace K42
open PySem PySem.Spec L2 Evl Ev
theorem natI (k : PyData → PyData) (one later : List Nat) : True := trivial
/-- a list drawn by places -/
theorem by_places {rest : En} (j k : Nat) (one later : List Nat) (hj : ∀ (p : Nat) (x : PyData), (natD one)[p]? = some x → (mOp2 oIx (oPk' j) (oPk' k)) (rest.set k (some (.leaf (.int (p : Int))))) = .ok (.leaf x, rest.set k (some (.leaf (.int (p : Int)))))) (hk : rest[k]? = some none) (hl : ∀ p ∈ later, p < one.length) (h6 : later.length ≤ 6) :
    compL [k] (gNm k) mYes (mOp2 oIx (oPk' j) (oPk' k)) (natD later) [] rest = .ok (natD (later.map fun p => one.getD p 0), rest) := by
  have back : ∀ x, (rest.set k x).set k none = rest := fun x => by
    rw [List.set_set]
    exact set_same hk
  have q := compL_eq (vs := [k]) (g := gNm k) (elt := mOp2 oIx (oPk' j) (oPk' k)) (en := rest) (fun d => match d with | .int p => .int ((one.getD p.toNat 0 : Nat) : Int) | d => d) (ds := natD later) (acc := []) (by have := sl; simp [natD]; omega) (fun d hd => by
    obtain ⟨p, hp, rfl⟩ := List.mem_map.mp hd
    have hp' := hl p hp
    have e : (natD one)[p]? = some (.int ((one.getD p 0 : Nat) : Int)) := by
      unfold natD
      rw [List.getElem?_map, List.getElem?_eq_getElem hp', List.getD_eq_getElem?_getD, List.getElem?_eq_getElem hp']
      rfl
    simp only [ev_gNm, R.bind_ok]
    rw [hj p _ e]
    simp only [R.bind_ok, snap_leaf, wipeE_cons, wipeE_nil, back, Int.toNat_natCast])
  rw [q]
  congr 2
  rw [List.nil_append]
  unfold natD
  rw [List.map_map, List.map_map]
  rfl
theorem fine_M {w : Int} {R : List (List Int)} (h : Fine w R 60) : w < 2 ^ 64 := by have := h.wM; omega
/-- a turn's last part: turned twice -/
theorem last_step (c : Ctx) (k : CtxOk c) (y9 y10 y11 y12 y13 y14 y15 y16 : Option O) {cs : List Int} {d st : Int} (h : BagOk cs d st) {m : Int × List Nat × List Nat} {ms : Mix} (hm : MixOk c.R c.many c.more (m :: ms)) : ∃ (cs' : List Int) (d' st' : Int) (y10' y11' y12' y13' y14' y15' y16' : Option O),
    (sSeq (sIf (mNot (mCall f__law_is_blended (fCons (mFz 5) (fCons (mAs (o1 oTuple) (aCons (oPk' 8) (aNil))) (fCons (mFz 7) (fNil)))))) (sRet (mC (.bool false))) (sSkip)) (sSeq (sAsg (mSl (oE (mOp2 oIx (oPk' 8) (oE (mC (.int 0))))) (pE (mC (.int 1))) (pNo)) (gTup 2 (gCons (gNm 10) (gCons (gNm 11) (gNil))))) (sSeq (sPar 12 13 (mCall f_turned (fCons (mFz 5) (fCons (mFz 10) (fCons (mFz 11) (fCons (mFz 7) (fNil)))))) (mOp2 oAdd (oE (mC (.int 1))) (oE (mCallP f__law_draw 1 (fCons (mC (.int 6)) (fNil)))))) (sSeq (sAsg (mCallP f__law_turning 1 (fCons (mFz 6) (fCons (mFz 7) (fCons (mOp2 oAdd (oE (mC (.int 1))) (oE (mCallP f__law_draw 1 (fCons (mC (.int 6)) (fNil))))) (fCons (mFz 13) (fNil)))))) (gTup 2 (gCons (gNm 14) (gCons (gNm 15) (gNil))))) (sSeq (sSet 16 (mCall f_turned (fCons (mFz 5) (fCons (mAs (o1 oTuple) (aCons (oE (mComp [18] (iSeq (mFz 14)) (gNm 18) (mYes) (mOp2 oIx (oPk' 10) (oPk' 18)))) (aNil))) (fCons (mAs (o1 oTuple) (aCons (oE (mComp [19] (iSeq (mFz 11)) (gNm 19) (mYes) (mOp2 oIx (oPk' 15) (oPk' 19)))) (aNil))) (fCons (mFz 13) (fNil))))))) (sIf (mOp2 (oNe) (oE (mAs (o1 oRepr) (aCons (oE (mCall f_turned (fCons (mFz 12) (fCons (mFz 14) (fCons (mFz 15) (fCons (mFz 13) (fNil))))))) (aNil)))) (oE (mAs (o1 oRepr) (aCons (oPk' 16) (aNil))))) (sRet (mC (.bool false))) (sSkip)))))))
      (env c (bagO cs d st) (LL ((m :: ms).map mixI)) y9 y10 y11 y12 y13 y14 y15 y16) = .ok (.nx (env c (bagO cs' d' st') (LL ((m :: ms).map mixI)) y9 y10' y11' y12' y13' y14' y15' y16')) ∧ BagOk cs' d' st' := by
  have fi := k.fine
  have w0 := fi.w0
  have tm := hm.turn m (List.mem_cons_self ..)
  have ml := hm.len m (List.mem_cons_self ..)
  have ib := is_blended_run fi hm
  have T1 := turned_run c.w c.R m.2.1 m.2.2 c.many w0 (fine_M fi) tm.good
  obtain ⟨n1, cs1, d1, st1, hd1, b1, hb1⟩ := draw1 (some (.scr c.ns)) (env c (bagO cs d st) (LL ((m :: ms).map mixI)) y9 (some (.leaf (.tuple (natD m.2.1)))) (some (.leaf (.tuple (natD m.2.2)))) y12 y13 y14 y15 y16).tail.tail h
  generalize hG : lowD c.w (turnR c.R m.2.1 m.2.2 c.many) = G at T1
  obtain ⟨n2, cs2, d2, st2, hd2, b2, hb2⟩ := draw1 (some (.scr c.ns)) (env c (bagO cs1 d1 st1) (LL ((m :: ms).map mixI)) y9 (some (.leaf (.tuple (natD m.2.1)))) (some (.leaf (.tuple (natD m.2.2)))) (some (.leaf G)) (some (.leaf (.int (n1 : Int)))) y14 y15 y16).tail.tail hb1
  obtain ⟨later, ends, cs3, d3, st3, ht, l1, p1, l2, p2, hb3⟩ := turning_run hb2 k.more k.many b2 b1
  -- the mathematics
  have tT : Turn c.R m.2.1 m.2.2 c.many := tm
  have bT := tm.bnd fi.bnd (by omega)
  generalize hR' : turnR c.R m.2.1 m.2.2 c.many = T at T1 hG bT
  have lenT : T.length = c.more := by rw [← hR', turnR_len, ml]
  have rowT' : ∀ r ∈ T, r.length = c.many := fun r hr => turnR_rows (R := c.R) (by rw [hR']; exact hr)
  have gp := gcdL_pos (ns := T.flatten) w0
  have gd : ∀ r ∈ T, ∀ i ∈ r, (gcdL (c.w :: T.flatten) : Int) ∣ i := fun r hr i hi => gcdL_dvd (List.mem_cons_of_mem _ (List.mem_flatten.mpr ⟨r, hr, hi⟩))
  have gw : (gcdL (c.w :: T.flatten) : Int) ∣ c.w := gcdL_dvd (List.mem_cons_self ..)
  have lw := low_w (ns := T.flatten) w0
  have eG : G = chan (c.w.fdiv (gcdL (c.w :: T.flatten))) (T.map fun r => r.map fun i => i.fdiv (gcdL (c.w :: T.flatten))) := hG.symm
  have tl2 : Turn (T.map fun r => r.map fun i => i.fdiv (gcdL (c.w :: T.flatten))) later ends n1 := ⟨b1.2, p2, fun p hp => by rw [List.length_map, lenT]; exact p1 p hp, by rw [l1]; exact b2.2, by rw [l2]; exact k.many.2⟩
  have T2 := turned_run (c.w.fdiv (gcdL (c.w :: T.flatten))) (T.map fun r => r.map fun i => i.fdiv (gcdL (c.w :: T.flatten))) later ends n1 lw.1 (by have := fine_M fi; omega) tl2.good
  have eL : lowD (c.w.fdiv (gcdL (c.w :: T.flatten))) (turnR (T.map fun r => r.map fun i => i.fdiv (gcdL (c.w :: T.flatten))) later ends n1) = lowD c.w (turnR c.R (later.map fun p => m.2.1.getD p 0) (m.2.2.map fun o => ends.getD o 0) n1) := by
    rw [← lowD_scl (gcdL (c.w :: T.flatten)) (c.w.fdiv (gcdL (c.w :: T.flatten))) _ (by omega), ← turnR_scl, scl_div gd, Int.mul_fdiv_cancel_of_dvd gw, ← hR', turnR_twice _ _ _ _ _ _ _ tm.ho l2 (fun p hp => by rw [ml]; exact p1 p hp)]
  rw [eL, ← eG] at T2
  have tl3 : Turn c.R (later.map fun p => m.2.1.getD p 0) (m.2.2.map fun o => ends.getD o 0) n1 := ⟨b1.2, fun o ho => by
      obtain ⟨x, hx, rfl⟩ := List.mem_map.mp ho
      have hx' : x < ends.length := by rw [l2]; exact tm.ho x hx
      rw [List.getD_eq_getElem?_getD, List.getElem?_eq_getElem hx']
      exact p2 _ (List.getElem_mem hx'), fun p hp => by
      obtain ⟨x, hx, rfl⟩ := List.mem_map.mp hp
      have hx' : x < m.2.1.length := by rw [ml]; exact p1 x hx
      rw [List.getD_eq_getElem?_getD, List.getElem?_eq_getElem hx']
      exact tm.hi _ (List.getElem_mem hx'), by rw [List.length_map, l1]; exact b2.2, by rw [List.length_map]; exact tm.hk⟩
  have T3 := turned_run c.w c.R _ _ n1 w0 (fine_M fi) tl3.good
  have tam : Tame 3 15000 (lowD c.w (turnR c.R (later.map fun p => m.2.1.getD p 0) (m.2.2.map fun o => ends.getD o 0) n1)) := low_tame (M := 360) ⟨w0, by have := fi.wM; omega⟩ (tl3.bnd fi.bnd (by omega)) (by decide) (by rw [turnR_len]; exact tl3.hl) fun r hr => by rw [turnR_rows hr]; exact tl3.hm
  generalize lowD c.w (turnR c.R (later.map fun p => m.2.1.getD p 0) (m.2.2.map fun o => ends.getD o 0) n1) = D at T2 T3 tam
  have rD := tam.repr (by omega) (by omega)
  have mixE : oTuple (.list ((m :: ms).map mixI)) = some (.leaf (mixD (m :: ms))) := rfl
  have i0 : oIx (.list ((m :: ms).map mixI)) (.int 0) = some (.leaf (mixI m)) := oIx_l0 _ _
  have sm := slice_mix m
  refine ⟨cs3, d3, st3, some (.leaf (.tuple (natD m.2.1))), some (.leaf (.tuple (natD m.2.2))), some (.leaf G), some (.leaf (.int (n1 : Int))), some (.leaf (.tuple (natD later))), some (.leaf (.tuple (natD ends))), some (.leaf D), ?_, hb3⟩
  refine seq_nx (e1 := env c (bagO cs d st) (LL ((m :: ms).map mixI)) y9 y10 y11 y12 y13 y14 y15 y16) ?_ (seq_nx (e1 := env c (bagO cs d st) (LL ((m :: ms).map mixI)) y9 (some (.leaf (.tuple (natD m.2.1)))) (some (.leaf (.tuple (natD m.2.2)))) y12 y13 y14 y15 y16) ?_
    (seq_nx (e1 := env c (bagO cs1 d1 st1) (LL ((m :: ms).map mixI)) y9 (some (.leaf (.tuple (natD m.2.1)))) (some (.leaf (.tuple (natD m.2.2)))) (some (.leaf G)) (some (.leaf (.int (n1 : Int)))) y14 y15 y16) ?_
    (seq_nx (e1 := env c (bagO cs3 d3 st3) (LL ((m :: ms).map mixI)) y9 (some (.leaf (.tuple (natD m.2.1)))) (some (.leaf (.tuple (natD m.2.2)))) (some (.leaf G)) (some (.leaf (.int (n1 : Int)))) (some (.leaf (.tuple (natD later)))) (some (.leaf (.tuple (natD ends)))) y16) ?_
    (seq_nx (e1 := env c (bagO cs3 d3 st3) (LL ((m :: ms).map mixI)) y9 (some (.leaf (.tuple (natD m.2.1)))) (some (.leaf (.tuple (natD m.2.2)))) (some (.leaf G)) (some (.leaf (.int (n1 : Int)))) (some (.leaf (.tuple (natD later)))) (some (.leaf (.tuple (natD ends)))) (some (.leaf D))) ?_ ?_))))
  · have ib' : f__law_is_blended [.leaf (chan c.w c.R), .leaf (.tuple ((m :: ms).map mixI)), .leaf (.int c.many)] = .ok (.leaf (.bool true), [.leaf (chan c.w c.R), .leaf (mixD (m :: ms)), .leaf (.int c.many)]) := ib
    generalize (m :: ms).map mixI = MM at ib' ⊢
    simp [env, ib']
  · simp [-List.map_cons, env, mSl, pE, pNo, i0, sm]
  · have hd1' : mOp2 oAdd (oE (mC (.int 1))) (oE (mCallP f__law_draw 1 (fCons (mC (.int 6)) (fNil)))) (env c (bagO cs d st) (LL ((m :: ms).map mixI)) y9 (some (.leaf (.tuple (natD m.2.1)))) (some (.leaf (.tuple (natD m.2.2)))) y12 y13 y14 y15 y16) = .ok (.leaf (.int (n1 : Int)), env c (bagO cs1 d1 st1) (LL ((m :: ms).map mixI)) y9 (some (.leaf (.tuple (natD m.2.1)))) (some (.leaf (.tuple (natD m.2.2)))) y12 y13 y14 y15 y16) := hd1
    have tt : mCall f_turned (fCons (mFz 5) (fCons (mFz 10) (fCons (mFz 11) (fCons (mFz 7) (fNil))))) (env c (bagO cs d st) (LL ((m :: ms).map mixI)) y9 (some (.leaf (.tuple (natD m.2.1)))) (some (.leaf (.tuple (natD m.2.2)))) y12 y13 y14 y15 y16) = .ok (.leaf G, env c (bagO cs d st) (LL ((m :: ms).map mixI)) y9 (some (.leaf (.tuple (natD m.2.1)))) (some (.leaf (.tuple (natD m.2.2)))) y12 y13 y14 y15 y16) := by
      generalize (m :: ms).map mixI = MM
      simp [env, T1]
    simp only [ev_sPar, tt, R.bind_ok, hd1']
    rfl
  · have hd2' : mOp2 oAdd (oE (mC (.int 1))) (oE (mCallP f__law_draw 1 (fCons (mC (.int 6)) (fNil)))) (env c (bagO cs1 d1 st1) (LL ((m :: ms).map mixI)) y9 (some (.leaf (.tuple (natD m.2.1)))) (some (.leaf (.tuple (natD m.2.2)))) (some (.leaf G)) (some (.leaf (.int (n1 : Int)))) y14 y15 y16) = .ok (.leaf (.int (n2 : Int)), env c (bagO cs2 d2 st2) (LL ((m :: ms).map mixI)) y9 (some (.leaf (.tuple (natD m.2.1)))) (some (.leaf (.tuple (natD m.2.2)))) (some (.leaf G)) (some (.leaf (.int (n1 : Int)))) y14 y15 y16) := hd2
    have args : fCons (mFz 6) (fCons (mFz 7) (fCons (mOp2 oAdd (oE (mC (.int 1))) (oE (mCallP f__law_draw 1 (fCons (mC (.int 6)) (fNil))))) (fCons (mFz 13) (fNil)))) (env c (bagO cs1 d1 st1) (LL ((m :: ms).map mixI)) y9 (some (.leaf (.tuple (natD m.2.1)))) (some (.leaf (.tuple (natD m.2.2)))) (some (.leaf G)) (some (.leaf (.int (n1 : Int)))) y14 y15 y16) =
        .ok ([.int c.more, .int c.many, .int n2, .int n1], env c (bagO cs2 d2 st2) (LL ((m :: ms).map mixI)) y9 (some (.leaf (.tuple (natD m.2.1)))) (some (.leaf (.tuple (natD m.2.2)))) (some (.leaf G)) (some (.leaf (.int (n1 : Int)))) y14 y15 y16) := by
      have f6 : ∀ b, mFz 6 (env c b (LL ((m :: ms).map mixI)) y9 (some (.leaf (.tuple (natD m.2.1)))) (some (.leaf (.tuple (natD m.2.2)))) (some (.leaf G)) (some (.leaf (.int (n1 : Int)))) y14 y15 y16) = .ok (.leaf (.int c.more), env c b (LL ((m :: ms).map mixI)) y9 (some (.leaf (.tuple (natD m.2.1)))) (some (.leaf (.tuple (natD m.2.2)))) (some (.leaf G)) (some (.leaf (.int (n1 : Int)))) y14 y15 y16) := fun b => rfl
      have f7 : ∀ b, mFz 7 (env c b (LL ((m :: ms).map mixI)) y9 (some (.leaf (.tuple (natD m.2.1)))) (some (.leaf (.tuple (natD m.2.2)))) (some (.leaf G)) (some (.leaf (.int (n1 : Int)))) y14 y15 y16) = .ok (.leaf (.int c.many), env c b (LL ((m :: ms).map mixI)) y9 (some (.leaf (.tuple (natD m.2.1)))) (some (.leaf (.tuple (natD m.2.2)))) (some (.leaf G)) (some (.leaf (.int (n1 : Int)))) y14 y15 y16) := fun b => rfl
      have f13 : ∀ b, mFz 13 (env c b (LL ((m :: ms).map mixI)) y9 (some (.leaf (.tuple (natD m.2.1)))) (some (.leaf (.tuple (natD m.2.2)))) (some (.leaf G)) (some (.leaf (.int (n1 : Int)))) y14 y15 y16) = .ok (.leaf (.int n1), env c b (LL ((m :: ms).map mixI)) y9 (some (.leaf (.tuple (natD m.2.1)))) (some (.leaf (.tuple (natD m.2.2)))) (some (.leaf G)) (some (.leaf (.int (n1 : Int)))) y14 y15 y16) := fun b => rfl
      simp only [ev_fCons, f6, f7, f13, hd2', R.bind_ok, snap_leaf, ev_fNil]
    have cp := callP_ok (f := f__law_turning) (i := 1) (o := bagO cs1 d1 st1) (o1 := bagO cs2 d2 st2) rfl args rfl ht
    simp only [ev_sAsg, cp, R.bind_ok, snap_leaf]
    simp [-List.map_cons, env]
  · have c18 := by_places (rest := (env c (bagO cs3 d3 st3) (LL ((m :: ms).map mixI)) y9 (some (.leaf (.tuple (natD m.2.1)))) (some (.leaf (.tuple (natD m.2.2)))) (some (.leaf G)) (some (.leaf (.int (n1 : Int)))) (some (.leaf (.tuple (natD later)))) (some (.leaf (.tuple (natD ends)))) y16)) 10 18 m.2.1 later (fun p x hx => by
      simp [-List.map_cons, env, oIx_t _ _ p hx]) rfl (fun p hp => by rw [ml]; exact p1 p hp) (by rw [l1]; exact b2.2)
    have c19 := by_places (rest := (env c (bagO cs3 d3 st3) (LL ((m :: ms).map mixI)) y9 (some (.leaf (.tuple (natD m.2.1)))) (some (.leaf (.tuple (natD m.2.2)))) (some (.leaf G)) (some (.leaf (.int (n1 : Int)))) (some (.leaf (.tuple (natD later)))) (some (.leaf (.tuple (natD ends)))) y16)) 15 19 ends m.2.2 (fun p x hx => by
      simp [-List.map_cons, env, oIx_t _ _ p hx]) rfl (fun p hp => by rw [l2]; exact tm.ho p hp) tm.hk
    generalize (m :: ms).map mixI = MM at c18 c19 ⊢
    generalize (later.map fun p => m.2.1.getD p 0) = LA at c18 T3
    generalize (m.2.2.map fun o => ends.getD o 0) = LB at c19 T3
    simp only [env] at c18 c19
    simp [env, c18, c19, T3]
  · have T2' := T2
    generalize (m :: ms).map mixI = MM
    simp [env, T2', rD]
end K42
namespace K42
open PySem PySem.Spec L2 Evl Ev
noncomputable def itemS : Sm := sSeq (sAsg (mCallP f__law_turning 1 (fCons (mFz 3) (fCons (mFz 4) (fCons (mFz 6) (fCons (mFz 7) (fNil)))))) (gTup 2 (gCons (gNm 10) (gCons (gNm 11) (gNil))))) (sSeq (sIf (mNot (mCall f__law_is_turned (fCons (mFz 5) (fCons (mFz 10) (fCons (mFz 11) (fCons (mFz 7) (fNil))))))) (sRet (mC (.bool false))) (sSkip)) (sIf (mOp2 (oIn true) (oE (mTup (fCons (mFz 10) (fCons (mFz 11) (fNil))))) (oE (mCompPk [17] 8 (gNm 17) (mYes) (mSl (oPk' 17) (pE (mC (.int 1))) (pNo))))) (sDrop (mApp 8 (mTup (fCons (mCallP f__law_pick 1 (fCons (mLst (fCons (mC (.int 1)) (fCons (mC (.int 2)) (fCons (mC (.int 5)) (fCons (mOp2 oPow (oE (mC (.int 10))) (oE (mC (.int 12)))) (fNil)))))) (fNil))) (fCons (mFz 10) (fCons (mFz 11) (fNil))))))) (sSkip)))
noncomputable def lastS : Sm := sSeq (sIf (mNot (mCall f__law_is_blended (fCons (mFz 5) (fCons (mAs (o1 oTuple) (aCons (oPk' 8) (aNil))) (fCons (mFz 7) (fNil)))))) (sRet (mC (.bool false))) (sSkip)) (sSeq (sAsg (mSl (oE (mOp2 oIx (oPk' 8) (oE (mC (.int 0))))) (pE (mC (.int 1))) (pNo)) (gTup 2 (gCons (gNm 10) (gCons (gNm 11) (gNil))))) (sSeq (sPar 12 13 (mCall f_turned (fCons (mFz 5) (fCons (mFz 10) (fCons (mFz 11) (fCons (mFz 7) (fNil)))))) (mOp2 oAdd (oE (mC (.int 1))) (oE (mCallP f__law_draw 1 (fCons (mC (.int 6)) (fNil)))))) (sSeq (sAsg (mCallP f__law_turning 1 (fCons (mFz 6) (fCons (mFz 7) (fCons (mOp2 oAdd (oE (mC (.int 1))) (oE (mCallP f__law_draw 1 (fCons (mC (.int 6)) (fNil))))) (fCons (mFz 13) (fNil)))))) (gTup 2 (gCons (gNm 14) (gCons (gNm 15) (gNil))))) (sSeq (sSet 16 (mCall f_turned (fCons (mFz 5) (fCons (mAs (o1 oTuple) (aCons (oE (mComp [18] (iSeq (mFz 14)) (gNm 18) (mYes) (mOp2 oIx (oPk' 10) (oPk' 18)))) (aNil))) (fCons (mAs (o1 oTuple) (aCons (oE (mComp [19] (iSeq (mFz 11)) (gNm 19) (mYes) (mOp2 oIx (oPk' 15) (oPk' 19)))) (aNil))) (fCons (mFz 13) (fNil))))))) (sIf (mOp2 (oNe) (oE (mAs (o1 oRepr) (aCons (oE (mCall f_turned (fCons (mFz 12) (fCons (mFz 14) (fCons (mFz 15) (fCons (mFz 13) (fNil))))))) (aNil)))) (oE (mAs (o1 oRepr) (aCons (oPk' 16) (aNil))))) (sRet (mC (.bool false))) (sSkip))))))
theorem R_bind {α β : Type} (a : α) (f : α → Ev.R β) : (Ev.R.ok a).bind f = f a := rfl
theorem two_draws (s0 : Option O) (i j : Nat) (rest : En) {cs : List Int} {d st : Int} (h : BagOk cs d st) : ∃ (n1 n2 : Nat) (cs' : List Int) (d' st' : Int), sPar (i + 2) (j + 2) (mOp2 oAdd (oE (mC (.int 1))) (oE (mCallP f__law_draw 1 (fCons (mC (.int 6)) (fNil))))) (mOp2 oAdd (oE (mC (.int 1))) (oE (mCallP f__law_draw 1 (fCons (mC (.int 6)) (fNil))))) (s0 :: some (bagO cs d st) :: rest) =
    .ok (.nx (s0 :: some (bagO cs' d' st') :: (rest.set i (some (.leaf (.int (n1 : Int))))).set j (some (.leaf (.int (n2 : Int)))))) ∧ (1 ≤ n1 ∧ n1 ≤ 6) ∧ (1 ≤ n2 ∧ n2 ≤ 6) ∧ BagOk cs' d' st' := by
  obtain ⟨n1, cs1, d1, st1, h1, b1, k1⟩ := draw1 s0 rest h
  obtain ⟨n2, cs2, d2, st2, h2, b2, k2⟩ := draw1 s0 rest k1
  refine ⟨n1, n2, cs2, d2, st2, ?_, b1, b2, k2⟩
  simp only [ev_sPar, h1, R.bind_ok, h2]
  rfl
theorem turn_step (ns : List Int) (i : Int) (y3 y4 y5 y6 y7 y8 y9 y10 y11 y12 y13 y14 y15 y16 : Option O) {cs : List Int} {d st : Int} (h : BagOk cs d st) : ∃ (cs' : List Int) (d' st' : Int) (z3 z4 z5 z6 z7 z8 z9 z10 z11 z12 z13 z14 z15 z16 : Option O),
    (sSeq (sPar 3 4 (mOp2 oAdd (oE (mC (.int 1))) (oE (mCallP f__law_draw 1 (fCons (mC (.int 6)) (fNil))))) (mOp2 oAdd (oE (mC (.int 1))) (oE (mCallP f__law_draw 1 (fCons (mC (.int 6)) (fNil)))))) (sSeq (sSet 5 (mCallP f__law_channel 1 (fCons (mFz 3) (fCons (mFz 4) (fCons (mCallP f__law_pick 1 (fCons (mLst (fCons (mC (.int 1)) (fCons (mC (.int 4)) (fCons (mC (.int 12)) (fCons (mC (.int 60)) (fNil)))))) (fNil))) (fNil)))))) (sSeq (sPar 6 7 (mOp2 oAdd (oE (mC (.int 1))) (oE (mCallP f__law_draw 1 (fCons (mC (.int 6)) (fNil))))) (mOp2 oAdd (oE (mC (.int 1))) (oE (mCallP f__law_draw 1 (fCons (mC (.int 6)) (fNil)))))) (sSeq (sSet 8 (mLst (fNil))) (sSeq (sFor (iRange (aCons (oE (mCallP f__law_pick 1 (fCons (mLst (fCons (mC (.int 1)) (fCons (mC (.int 2)) (fCons (mC (.int 3)) (fCons (mC (.int 12)) (fNil)))))) (fNil)))) (aNil))) (gNm 9) (itemS)) (lastS))))))
      [some (.scr ns), some (bagO cs d st), some (.leaf (.int i)), y3, y4, y5, y6, y7, y8, y9, y10, y11, y12, y13, y14, y15, y16, none, none, none] =
      .ok (.nx [some (.scr ns), some (bagO cs' d' st'), some (.leaf (.int i)), z3, z4, z5, z6, z7, z8, z9, z10, z11, z12, z13, z14, z15, z16, none, none, none]) ∧ BagOk cs' d' st' := by
  obtain ⟨ways, outs, cs1, d1, st1, e1, bw, bo, h1⟩ := two_draws (some (.scr ns)) 1 2 [some (.leaf (.int i)), y3, y4, y5, y6, y7, y8, y9, y10, y11, y12, y13, y14, y15, y16, none, none, none] h
  obtain ⟨most, cs2, d2, st2, e2, bm, h2⟩ := pick4 (some (.scr ns)) [some (.leaf (.int i)), some (.leaf (.int (ways : Int))), some (.leaf (.int (outs : Int))), y5, y6, y7, y8, y9, y10, y11, y12, y13, y14, y15, y16, none, none, none] 1 4 12 (mC (.int 60)) 60 (fun _ => rfl) h1
  obtain ⟨w, R, cs3, d3, st3, e3, fi, rl, rr, h3⟩ := channel_run h2 (most := most) (ins := ways) (outs := outs) (by rcases bm with rfl | rfl | rfl | rfl <;> omega) bw bo
  have s5 : sSet 5 (mCallP f__law_channel 1 (fCons (mFz 3) (fCons (mFz 4) (fCons (mCallP f__law_pick 1 (fCons (mLst (fCons (mC (.int 1)) (fCons (mC (.int 4)) (fCons (mC (.int 12)) (fCons (mC (.int 60)) (fNil)))))) (fNil))) (fNil))))) [some (.scr ns), some (bagO cs1 d1 st1), some (.leaf (.int i)), some (.leaf (.int (ways : Int))), some (.leaf (.int (outs : Int))), y5, y6, y7, y8, y9, y10, y11, y12, y13, y14, y15, y16, none, none, none] =
      .ok (.nx [some (.scr ns), some (bagO cs3 d3 st3), some (.leaf (.int i)), some (.leaf (.int (ways : Int))), some (.leaf (.int (outs : Int))), some (.leaf (chan w R)), y6, y7, y8, y9, y10, y11, y12, y13, y14, y15, y16, none, none, none]) :=
    set_of (callP_ok (o := bagO cs1 d1 st1) (o1 := bagO cs2 d2 st2) (ds := [.int ways, .int outs, .int most]) (e1 := [some (.scr ns), some (bagO cs2 d2 st2), some (.leaf (.int i)), some (.leaf (.int (ways : Int))), some (.leaf (.int (outs : Int))), y5, y6, y7, y8, y9, y10, y11, y12, y13, y14, y15, y16, none, none, none]) rfl (by
      have f3 : mFz 3 [some (.scr ns), some (bagO cs1 d1 st1), some (.leaf (.int i)), some (.leaf (.int (ways : Int))), some (.leaf (.int (outs : Int))), y5, y6, y7, y8, y9, y10, y11, y12, y13, y14, y15, y16, none, none, none] = .ok (.leaf (.int (ways : Int)), [some (.scr ns), some (bagO cs1 d1 st1), some (.leaf (.int i)), some (.leaf (.int (ways : Int))), some (.leaf (.int (outs : Int))), y5, y6, y7, y8, y9, y10, y11, y12, y13, y14, y15, y16, none, none, none]) := rfl
      have f4 : mFz 4 [some (.scr ns), some (bagO cs1 d1 st1), some (.leaf (.int i)), some (.leaf (.int (ways : Int))), some (.leaf (.int (outs : Int))), y5, y6, y7, y8, y9, y10, y11, y12, y13, y14, y15, y16, none, none, none] = .ok (.leaf (.int (outs : Int)), [some (.scr ns), some (bagO cs1 d1 st1), some (.leaf (.int i)), some (.leaf (.int (ways : Int))), some (.leaf (.int (outs : Int))), y5, y6, y7, y8, y9, y10, y11, y12, y13, y14, y15, y16, none, none, none]) := rfl
      rw [ev_fCons, f3, R_bind, snap_leaf]
      dsimp only
      rw [ev_fCons, f4, R_bind, snap_leaf]
      dsimp only
      rw [ev_fCons, e2, R_bind, snap_leaf]
      rfl) rfl e3)
  obtain ⟨more, many, cs4, d4, st4, e4, bmo, bma, h4⟩ := two_draws (some (.scr ns)) 4 5 [some (.leaf (.int i)), some (.leaf (.int (ways : Int))), some (.leaf (.int (outs : Int))), some (.leaf (chan w R)), y6, y7, y8, y9, y10, y11, y12, y13, y14, y15, y16, none, none, none] h3
  obtain ⟨kk, cs5, d5, st5, e5, bk, h5⟩ := pick4 (some (.scr ns)) [some (.leaf (.int i)), some (.leaf (.int (ways : Int))), some (.leaf (.int (outs : Int))), some (.leaf (chan w R)), some (.leaf (.int (more : Int))), some (.leaf (.int (many : Int))), some (LL []), y9, y10, y11, y12, y13, y14, y15, y16, none, none, none] 1 2 3 (mC (.int 12)) 12 (fun _ => rfl) h4
  have kb : 1 ≤ kk ∧ kk ≤ 12 := by rcases bk with rfl | rfl | rfl | rfl <;> omega
  have k : CtxOk ⟨ns, i, ways, outs, w, R, more, many⟩ := ⟨fi, rl, rr, bw, bo, bmo, bma⟩
  obtain ⟨en', lp, cs6, d6, st6, ms, y9', y10', y11', rfl, h6, hm, hlen, hne⟩ := forL_inv (g := gNm 9) (b := itemS) (ds := rangeD 0 kk) (en := env ⟨ns, i, ways, outs, w, R, more, many⟩ (bagO cs5 d5 st5) (LL []) y9 y10 y11 y12 y13 y14 y15 y16)
    (fun j en => ∃ cs d st ms y9 y10 y11, en = env ⟨ns, i, ways, outs, w, R, more, many⟩ (bagO cs d st) (LL (List.map mixI ms)) y9 y10 y11 y12 y13 y14 y15 y16 ∧ BagOk cs d st ∧ MixOk R many more ms ∧ ms.length ≤ j ∧ (1 ≤ j → ms ≠ []))
    ⟨cs5, d5, st5, [], y9, y10, y11, rfl, h5, ⟨fun m hm => absurd hm List.not_mem_nil, fun m hm => absurd hm List.not_mem_nil, fun m hm => absurd hm List.not_mem_nil, by simp⟩, by simp, fun h => by omega⟩
    (by
      rintro j x en hx ⟨cs, d, st, ms, y9, y10, y11, rfl, hb, hm, hlen, hne⟩
      obtain ⟨hj, rfl⟩ := range_get hx
      obtain ⟨cs', d', st', ms', y10', y11', st, hb', hm', hl', hn'⟩ := item_step ⟨ns, i, ways, outs, w, R, more, many⟩ k y12 y13 y14 y15 y16 hb hm (by omega) (some (.leaf (.int j))) y10 y11
      exact ⟨env ⟨ns, i, ways, outs, w, R, more, many⟩ (bagO cs d _) (LL (List.map mixI ms)) (some (.leaf (.int j))) y10 y11 y12 y13 y14 y15 y16, _, rfl, st, cs', d', st', ms', _, y10', y11', rfl, hb', hm', by omega, fun _ => hn'⟩)
  rw [range_len] at hne
  obtain ⟨m, ms', rfl⟩ : ∃ m ms', ms = m :: ms' := by
    cases ms with
    | nil => exact absurd rfl (hne (by omega))
    | cons m ms' => exact ⟨m, ms', rfl⟩
  obtain ⟨cs7, d7, st7, z10, z11, z12, z13, z14, z15, z16, lst, h7⟩ := last_step ⟨ns, i, ways, outs, w, R, more, many⟩ k y9' y10' y11' y12 y13 y14 y15 y16 h6 hm
  refine ⟨cs7, d7, st7, _, _, _, _, _, _, _, _, _, _, _, _, _, _, seq_nx e1 (seq_nx s5 (seq_nx e4 (seq_nx (e1 := [some (.scr ns), some (bagO cs4 d4 st4), some (.leaf (.int i)), some (.leaf (.int (ways : Int))), some (.leaf (.int (outs : Int))), some (.leaf (chan w R)), some (.leaf (.int (more : Int))), some (.leaf (.int (many : Int))), some (LL []), y9, y10, y11, y12, y13, y14, y15, y16, none, none, none]) (set_of (e1 := [some (.scr ns), some (bagO cs4 d4 st4), some (.leaf (.int i)), some (.leaf (.int (ways : Int))), some (.leaf (.int (outs : Int))), some (.leaf (chan w R)), some (.leaf (.int (more : Int))), some (.leaf (.int (many : Int))), y8, y9, y10, y11, y12, y13, y14, y15, y16, none, none, none]) (o := LL []) (by simp)) (seq_nx (for_of (iRange_ok (r := fun _ => some (.int kk)) (n := kk) ?_ rfl (by omega)) lp) lst)))), h7⟩
  rw [ev_aCons, ev_oE, e5]
  rfl
theorem law_run (ns : List Int) (hn : ns.length ≤ 63) : ∃ os, f_law [.scr ns] = .ok (.leaf (.bool true), os) := by
  obtain ⟨cs0, st0, hb, h0⟩ := bag_run ns hn
  obtain ⟨en', lp, cs, d, st, y2, y3, y4, y5, y6, y7, y8, y9, y10, y11, y12, y13, y14, y15, y16, rfl, h⟩ := forL_inv (g := gNm 2) (b := (sSeq (sPar 3 4 (mOp2 oAdd (oE (mC (.int 1))) (oE (mCallP f__law_draw 1 (fCons (mC (.int 6)) (fNil))))) (mOp2 oAdd (oE (mC (.int 1))) (oE (mCallP f__law_draw 1 (fCons (mC (.int 6)) (fNil)))))) (sSeq (sSet 5 (mCallP f__law_channel 1 (fCons (mFz 3) (fCons (mFz 4) (fCons (mCallP f__law_pick 1 (fCons (mLst (fCons (mC (.int 1)) (fCons (mC (.int 4)) (fCons (mC (.int 12)) (fCons (mC (.int 60)) (fNil)))))) (fNil))) (fNil)))))) (sSeq (sPar 6 7 (mOp2 oAdd (oE (mC (.int 1))) (oE (mCallP f__law_draw 1 (fCons (mC (.int 6)) (fNil))))) (mOp2 oAdd (oE (mC (.int 1))) (oE (mCallP f__law_draw 1 (fCons (mC (.int 6)) (fNil)))))) (sSeq (sSet 8 (mLst (fNil))) (sSeq (sFor (iRange (aCons (oE (mCallP f__law_pick 1 (fCons (mLst (fCons (mC (.int 1)) (fCons (mC (.int 2)) (fCons (mC (.int 3)) (fCons (mC (.int 12)) (fNil)))))) (fNil)))) (aNil))) (gNm 9) (itemS)) (lastS)))))))
    (ds := rangeD 0 4) (en := [some (.scr ns), some (bagO cs0 0 st0), none, none, none, none, none, none, none, none, none, none, none, none, none, none, none, none, none, none])
    (fun i en => ∃ cs d st y2 y3 y4 y5 y6 y7 y8 y9 y10 y11 y12 y13 y14 y15 y16, en = [some (.scr ns), some (bagO cs d st), y2, y3, y4, y5, y6, y7, y8, y9, y10, y11, y12, y13, y14, y15, y16, none, none, none] ∧ BagOk cs d st)
    ⟨cs0, 0, st0, none, none, none, none, none, none, none, none, none, none, none, none, none, none, none, rfl, h0⟩
    (by
      rintro j x en hx ⟨cs, d, st, y2, y3, y4, y5, y6, y7, y8, y9, y10, y11, y12, y13, y14, y15, y16, rfl, hb⟩
      obtain ⟨hj, rfl⟩ := range_get hx
      obtain ⟨cs', d', st', z3, z4, z5, z6, z7, z8, z9, z10, z11, z12, z13, z14, z15, z16, st, hb'⟩ := turn_step ns (j : Int) y3 y4 y5 y6 y7 y8 y9 y10 y11 y12 y13 y14 y15 y16 hb
      exact ⟨_, _, rfl, st, cs', d', st', _, z3, z4, z5, z6, z7, z8, z9, z10, z11, z12, z13, z14, z15, z16, rfl, hb'⟩)
  refine ⟨[.scr ns], ?_⟩
  refine runDef_pin rfl (by simp) rfl (en := [some (bagO cs d st), y2, y3, y4, y5, y6, y7, y8, y9, y10, y11, y12, y13, y14, y15, y16, none, none, none]) ?_
  unfold b_law
  refine seq_nx (e1 := [some (.scr ns), some (bagO cs0 0 st0), none, none, none, none, none, none, none, none, none, none, none, none, none, none, none, none, none, none]) ?_ (seq_nx (for_of (iRange_ok (r := fun _ => some (.int 4)) (n := 4) rfl rfl (by omega)) lp) (ret_of rfl))
  exact set_of (callP_ok (o := .scr ns) (o1 := .scr ns) (o' := .scr ns) (ds := []) (e1 := [some (.scr ns), none, none, none, none, none, none, none, none, none, none, none, none, none, none, none, none, none, none, none]) rfl rfl rfl hb)
end K42
namespace K42
open PySem PySem.Spec L2 Evl Ev
theorem all_mk {l : PySem.W.OpenLaw} {w : World} {K : PySem.W.Frag} {h : Heap} {mg : Str → Option Value} {fa : Addr} (X : K.In h) (G : h.Ns mainGlobals mg) (hfa : mg "law" = some (.ref fa))
    {ad__law_bag : Addr} {od__law_bag an__law_bag : Option Addr} {sl__law_bag : Array (Option Value)} {oc__law_bag kV__law_bag dc__law_bag pm__law_bag cd__law_bag ct__law_bag : Value}
    (a__law_bag : PySem.W.nsIn K mainGlobals "_law_bag" = some (some (.ref ad__law_bag))) (l__law_bag : K.lookup ad__law_bag = some ⟨oc__law_bag, od__law_bag, .func (PySem.W.fnOf "_law_bag" "_law_bag" (defArgs st__law_bag) (defBody st__law_bag) (defScope st__law_bag) .none kV__law_bag dc__law_bag pm__law_bag an__law_bag cd__law_bag ct__law_bag), sl__law_bag⟩) (c__law_bag : PySem.W.codeIn K cd__law_bag "_law_bag" = true) (k__law_bag : PySem.W.keepIn K (.ref ad__law_bag) = true)
    {ad__law_draw : Addr} {od__law_draw an__law_draw : Option Addr} {sl__law_draw : Array (Option Value)} {oc__law_draw kV__law_draw dc__law_draw pm__law_draw cd__law_draw ct__law_draw : Value}
    (a__law_draw : PySem.W.nsIn K mainGlobals "_law_draw" = some (some (.ref ad__law_draw))) (l__law_draw : K.lookup ad__law_draw = some ⟨oc__law_draw, od__law_draw, .func (PySem.W.fnOf "_law_draw" "_law_draw" (defArgs st__law_draw) (defBody st__law_draw) (defScope st__law_draw) .none kV__law_draw dc__law_draw pm__law_draw an__law_draw cd__law_draw ct__law_draw), sl__law_draw⟩) (c__law_draw : PySem.W.codeIn K cd__law_draw "_law_draw" = true) (k__law_draw : PySem.W.keepIn K (.ref ad__law_draw) = true)
    {ad__law_row : Addr} {od__law_row an__law_row : Option Addr} {sl__law_row : Array (Option Value)} {oc__law_row kV__law_row dc__law_row pm__law_row cd__law_row ct__law_row : Value}
    (a__law_row : PySem.W.nsIn K mainGlobals "_law_row" = some (some (.ref ad__law_row))) (l__law_row : K.lookup ad__law_row = some ⟨oc__law_row, od__law_row, .func (PySem.W.fnOf "_law_row" "_law_row" (defArgs st__law_row) (defBody st__law_row) (defScope st__law_row) .none kV__law_row dc__law_row pm__law_row an__law_row cd__law_row ct__law_row), sl__law_row⟩) (c__law_row : PySem.W.codeIn K cd__law_row "_law_row" = true) (k__law_row : PySem.W.keepIn K (.ref ad__law_row) = true)
    {ad__law_channel : Addr} {od__law_channel an__law_channel : Option Addr} {sl__law_channel : Array (Option Value)} {oc__law_channel kV__law_channel dc__law_channel pm__law_channel cd__law_channel ct__law_channel : Value}
    (a__law_channel : PySem.W.nsIn K mainGlobals "_law_channel" = some (some (.ref ad__law_channel))) (l__law_channel : K.lookup ad__law_channel = some ⟨oc__law_channel, od__law_channel, .func (PySem.W.fnOf "_law_channel" "_law_channel" (defArgs st__law_channel) (defBody st__law_channel) (defScope st__law_channel) .none kV__law_channel dc__law_channel pm__law_channel an__law_channel cd__law_channel ct__law_channel), sl__law_channel⟩) (c__law_channel : PySem.W.codeIn K cd__law_channel "_law_channel" = true) (k__law_channel : PySem.W.keepIn K (.ref ad__law_channel) = true)
    {ad__law_turning : Addr} {od__law_turning an__law_turning : Option Addr} {sl__law_turning : Array (Option Value)} {oc__law_turning kV__law_turning dc__law_turning pm__law_turning cd__law_turning ct__law_turning : Value}
    (a__law_turning : PySem.W.nsIn K mainGlobals "_law_turning" = some (some (.ref ad__law_turning))) (l__law_turning : K.lookup ad__law_turning = some ⟨oc__law_turning, od__law_turning, .func (PySem.W.fnOf "_law_turning" "_law_turning" (defArgs st__law_turning) (defBody st__law_turning) (defScope st__law_turning) .none kV__law_turning dc__law_turning pm__law_turning an__law_turning cd__law_turning ct__law_turning), sl__law_turning⟩) (c__law_turning : PySem.W.codeIn K cd__law_turning "_law_turning" = true) (k__law_turning : PySem.W.keepIn K (.ref ad__law_turning) = true)
    {ad_divisor : Addr} {od_divisor an_divisor : Option Addr} {sl_divisor : Array (Option Value)} {oc_divisor kV_divisor dc_divisor pm_divisor cd_divisor ct_divisor : Value}
    (a_divisor : PySem.W.nsIn K mainGlobals "divisor" = some (some (.ref ad_divisor))) (l_divisor : K.lookup ad_divisor = some ⟨oc_divisor, od_divisor, .func (PySem.W.fnOf "divisor" "divisor" (defArgs st_divisor) (defBody st_divisor) (defScope st_divisor) .none kV_divisor dc_divisor pm_divisor an_divisor cd_divisor ct_divisor), sl_divisor⟩) (c_divisor : PySem.W.codeIn K cd_divisor "divisor" = true) (k_divisor : PySem.W.keepIn K (.ref ad_divisor) = true)
    {ad_bare_channel : Addr} {od_bare_channel an_bare_channel : Option Addr} {sl_bare_channel : Array (Option Value)} {oc_bare_channel kV_bare_channel dc_bare_channel pm_bare_channel cd_bare_channel ct_bare_channel : Value}
    (a_bare_channel : PySem.W.nsIn K mainGlobals "bare_channel" = some (some (.ref ad_bare_channel))) (l_bare_channel : K.lookup ad_bare_channel = some ⟨oc_bare_channel, od_bare_channel, .func (PySem.W.fnOf "bare_channel" "bare_channel" (defArgs st_bare_channel) (defBody st_bare_channel) (defScope st_bare_channel) .none kV_bare_channel dc_bare_channel pm_bare_channel an_bare_channel cd_bare_channel ct_bare_channel), sl_bare_channel⟩) (c_bare_channel : PySem.W.codeIn K cd_bare_channel "bare_channel" = true) (k_bare_channel : PySem.W.keepIn K (.ref ad_bare_channel) = true)
    {ad_turned_rows : Addr} {od_turned_rows an_turned_rows : Option Addr} {sl_turned_rows : Array (Option Value)} {oc_turned_rows kV_turned_rows dc_turned_rows pm_turned_rows cd_turned_rows ct_turned_rows : Value}
    (a_turned_rows : PySem.W.nsIn K mainGlobals "turned_rows" = some (some (.ref ad_turned_rows))) (l_turned_rows : K.lookup ad_turned_rows = some ⟨oc_turned_rows, od_turned_rows, .func (PySem.W.fnOf "turned_rows" "turned_rows" (defArgs st_turned_rows) (defBody st_turned_rows) (defScope st_turned_rows) .none kV_turned_rows dc_turned_rows pm_turned_rows an_turned_rows cd_turned_rows ct_turned_rows), sl_turned_rows⟩) (c_turned_rows : PySem.W.codeIn K cd_turned_rows "turned_rows" = true) (k_turned_rows : PySem.W.keepIn K (.ref ad_turned_rows) = true)
    {ad_turned : Addr} {od_turned an_turned : Option Addr} {sl_turned : Array (Option Value)} {oc_turned kV_turned dc_turned pm_turned cd_turned ct_turned : Value}
    (a_turned : PySem.W.nsIn K mainGlobals "turned" = some (some (.ref ad_turned))) (l_turned : K.lookup ad_turned = some ⟨oc_turned, od_turned, .func (PySem.W.fnOf "turned" "turned" (defArgs st_turned) (defBody st_turned) (defScope st_turned) .none kV_turned dc_turned pm_turned an_turned cd_turned ct_turned), sl_turned⟩) (c_turned : PySem.W.codeIn K cd_turned "turned" = true) (k_turned : PySem.W.keepIn K (.ref ad_turned) = true)
    {ad__law_pick : Addr} {od__law_pick an__law_pick : Option Addr} {sl__law_pick : Array (Option Value)} {oc__law_pick kV__law_pick dc__law_pick pm__law_pick cd__law_pick ct__law_pick : Value}
    (a__law_pick : PySem.W.nsIn K mainGlobals "_law_pick" = some (some (.ref ad__law_pick))) (l__law_pick : K.lookup ad__law_pick = some ⟨oc__law_pick, od__law_pick, .func (PySem.W.fnOf "_law_pick" "_law_pick" (defArgs st__law_pick) (defBody st__law_pick) (defScope st__law_pick) .none kV__law_pick dc__law_pick pm__law_pick an__law_pick cd__law_pick ct__law_pick), sl__law_pick⟩) (c__law_pick : PySem.W.codeIn K cd__law_pick "_law_pick" = true) (k__law_pick : PySem.W.keepIn K (.ref ad__law_pick) = true)
    {ad__law_turned : Addr} {od__law_turned an__law_turned : Option Addr} {sl__law_turned : Array (Option Value)} {oc__law_turned kV__law_turned dc__law_turned pm__law_turned cd__law_turned ct__law_turned : Value}
    (a__law_turned : PySem.W.nsIn K mainGlobals "_law_turned" = some (some (.ref ad__law_turned))) (l__law_turned : K.lookup ad__law_turned = some ⟨oc__law_turned, od__law_turned, .func (PySem.W.fnOf "_law_turned" "_law_turned" (defArgs st__law_turned) (defBody st__law_turned) (defScope st__law_turned) .none kV__law_turned dc__law_turned pm__law_turned an__law_turned cd__law_turned ct__law_turned), sl__law_turned⟩) (c__law_turned : PySem.W.codeIn K cd__law_turned "_law_turned" = true) (k__law_turned : PySem.W.keepIn K (.ref ad__law_turned) = true)
    {ad__law_blended : Addr} {od__law_blended an__law_blended : Option Addr} {sl__law_blended : Array (Option Value)} {oc__law_blended kV__law_blended dc__law_blended pm__law_blended cd__law_blended ct__law_blended : Value}
    (a__law_blended : PySem.W.nsIn K mainGlobals "_law_blended" = some (some (.ref ad__law_blended))) (l__law_blended : K.lookup ad__law_blended = some ⟨oc__law_blended, od__law_blended, .func (PySem.W.fnOf "_law_blended" "_law_blended" (defArgs st__law_blended) (defBody st__law_blended) (defScope st__law_blended) .none kV__law_blended dc__law_blended pm__law_blended an__law_blended cd__law_blended ct__law_blended), sl__law_blended⟩) (c__law_blended : PySem.W.codeIn K cd__law_blended "_law_blended" = true) (k__law_blended : PySem.W.keepIn K (.ref ad__law_blended) = true)
    {ad__law_gcd : Addr} {od__law_gcd an__law_gcd : Option Addr} {sl__law_gcd : Array (Option Value)} {oc__law_gcd kV__law_gcd dc__law_gcd pm__law_gcd cd__law_gcd ct__law_gcd : Value}
    (a__law_gcd : PySem.W.nsIn K mainGlobals "_law_gcd" = some (some (.ref ad__law_gcd))) (l__law_gcd : K.lookup ad__law_gcd = some ⟨oc__law_gcd, od__law_gcd, .func (PySem.W.fnOf "_law_gcd" "_law_gcd" (defArgs st__law_gcd) (defBody st__law_gcd) (defScope st__law_gcd) .none kV__law_gcd dc__law_gcd pm__law_gcd an__law_gcd cd__law_gcd ct__law_gcd), sl__law_gcd⟩) (c__law_gcd : PySem.W.codeIn K cd__law_gcd "_law_gcd" = true) (k__law_gcd : PySem.W.keepIn K (.ref ad__law_gcd) = true)
    {ad__law_lowered : Addr} {od__law_lowered an__law_lowered : Option Addr} {sl__law_lowered : Array (Option Value)} {oc__law_lowered kV__law_lowered dc__law_lowered pm__law_lowered cd__law_lowered ct__law_lowered : Value}
    (a__law_lowered : PySem.W.nsIn K mainGlobals "_law_lowered" = some (some (.ref ad__law_lowered))) (l__law_lowered : K.lookup ad__law_lowered = some ⟨oc__law_lowered, od__law_lowered, .func (PySem.W.fnOf "_law_lowered" "_law_lowered" (defArgs st__law_lowered) (defBody st__law_lowered) (defScope st__law_lowered) .none kV__law_lowered dc__law_lowered pm__law_lowered an__law_lowered cd__law_lowered ct__law_lowered), sl__law_lowered⟩) (c__law_lowered : PySem.W.codeIn K cd__law_lowered "_law_lowered" = true) (k__law_lowered : PySem.W.keepIn K (.ref ad__law_lowered) = true)
    {ad_mixed_rows : Addr} {od_mixed_rows an_mixed_rows : Option Addr} {sl_mixed_rows : Array (Option Value)} {oc_mixed_rows kV_mixed_rows dc_mixed_rows pm_mixed_rows cd_mixed_rows ct_mixed_rows : Value}
    (a_mixed_rows : PySem.W.nsIn K mainGlobals "mixed_rows" = some (some (.ref ad_mixed_rows))) (l_mixed_rows : K.lookup ad_mixed_rows = some ⟨oc_mixed_rows, od_mixed_rows, .func (PySem.W.fnOf "mixed_rows" "mixed_rows" (defArgs st_mixed_rows) (defBody st_mixed_rows) (defScope st_mixed_rows) .none kV_mixed_rows dc_mixed_rows pm_mixed_rows an_mixed_rows cd_mixed_rows ct_mixed_rows), sl_mixed_rows⟩) (c_mixed_rows : PySem.W.codeIn K cd_mixed_rows "mixed_rows" = true) (k_mixed_rows : PySem.W.keepIn K (.ref ad_mixed_rows) = true)
    {ad_blended : Addr} {od_blended an_blended : Option Addr} {sl_blended : Array (Option Value)} {oc_blended kV_blended dc_blended pm_blended cd_blended ct_blended : Value}
    (a_blended : PySem.W.nsIn K mainGlobals "blended" = some (some (.ref ad_blended))) (l_blended : K.lookup ad_blended = some ⟨oc_blended, od_blended, .func (PySem.W.fnOf "blended" "blended" (defArgs st_blended) (defBody st_blended) (defScope st_blended) .none kV_blended dc_blended pm_blended an_blended cd_blended ct_blended), sl_blended⟩) (c_blended : PySem.W.codeIn K cd_blended "blended" = true) (k_blended : PySem.W.keepIn K (.ref ad_blended) = true)
    {ad__law_is_blended : Addr} {od__law_is_blended an__law_is_blended : Option Addr} {sl__law_is_blended : Array (Option Value)} {oc__law_is_blended kV__law_is_blended dc__law_is_blended pm__law_is_blended cd__law_is_blended ct__law_is_blended : Value}
    (a__law_is_blended : PySem.W.nsIn K mainGlobals "_law_is_blended" = some (some (.ref ad__law_is_blended))) (l__law_is_blended : K.lookup ad__law_is_blended = some ⟨oc__law_is_blended, od__law_is_blended, .func (PySem.W.fnOf "_law_is_blended" "_law_is_blended" (defArgs st__law_is_blended) (defBody st__law_is_blended) (defScope st__law_is_blended) .none kV__law_is_blended dc__law_is_blended pm__law_is_blended an__law_is_blended cd__law_is_blended ct__law_is_blended), sl__law_is_blended⟩) (c__law_is_blended : PySem.W.codeIn K cd__law_is_blended "_law_is_blended" = true) (k__law_is_blended : PySem.W.keepIn K (.ref ad__law_is_blended) = true)
    {ad__law_is_turned : Addr} {od__law_is_turned an__law_is_turned : Option Addr} {sl__law_is_turned : Array (Option Value)} {oc__law_is_turned kV__law_is_turned dc__law_is_turned pm__law_is_turned cd__law_is_turned ct__law_is_turned : Value}
    (a__law_is_turned : PySem.W.nsIn K mainGlobals "_law_is_turned" = some (some (.ref ad__law_is_turned))) (l__law_is_turned : K.lookup ad__law_is_turned = some ⟨oc__law_is_turned, od__law_is_turned, .func (PySem.W.fnOf "_law_is_turned" "_law_is_turned" (defArgs st__law_is_turned) (defBody st__law_is_turned) (defScope st__law_is_turned) .none kV__law_is_turned dc__law_is_turned pm__law_is_turned an__law_is_turned cd__law_is_turned ct__law_is_turned), sl__law_is_turned⟩) (c__law_is_turned : PySem.W.codeIn K cd__law_is_turned "_law_is_turned" = true) (k__law_is_turned : PySem.W.keepIn K (.ref ad__law_is_turned) = true)
    {ad_law : Addr} {od_law an_law : Option Addr} {sl_law : Array (Option Value)} {oc_law kV_law dc_law pm_law cd_law ct_law : Value}
    (a_law : PySem.W.nsIn K mainGlobals "law" = some (some (.ref ad_law))) (l_law : K.lookup ad_law = some ⟨oc_law, od_law, .func (PySem.W.fnOf "law" "law" (defArgs st_law) (defBody st_law) (defScope st_law) .none kV_law dc_law pm_law an_law cd_law ct_law), sl_law⟩) (c_law : PySem.W.codeIn K cd_law "law" = true) (k_law : PySem.W.keepIn K (.ref ad_law) = true)
    (z_abs : PySem.W.nsIn K mainGlobals "abs" = some none)
    (z_enumerate : PySem.W.nsIn K mainGlobals "enumerate" = some none)
    (z_int : PySem.W.nsIn K mainGlobals "int" = some none)
    (z_len : PySem.W.nsIn K mainGlobals "len" = some none)
    (z_list : PySem.W.nsIn K mainGlobals "list" = some none)
    (z_range : PySem.W.nsIn K mainGlobals "range" = some none)
    (z_repr : PySem.W.nsIn K mainGlobals "repr" = some none)
    (z_reversed : PySem.W.nsIn K mainGlobals "reversed" = some none)
    (z_tuple : PySem.W.nsIn K mainGlobals "tuple" = some none)
    (z_zip : PySem.W.nsIn K mainGlobals "zip" = some none)
    : ∃ fd : FuncData, (∀ (s : Shared) (v : Value), BindsTo s fd ⟨[v], []⟩ [("script", v)]) ∧ ∀ base : Heap, K.In base → base.Ns mainGlobals mg → FnG l.prog w K mg base 5 fa fd ["script"] (spM K f_law) := by
  have e := hfa.symm.trans (PySem.W.mg_of X G a_law)
  cases e
  refine ⟨PySem.W.fnOf "law" "law" (defArgs st_law) (defBody st_law) (defScope st_law) .none kV_law dc_law pm_law an_law cd_law ct_law, fun s v => .of_eq rfl, fun base _ _ => ?_⟩
  have m_abs := PySem.W.mg_none_of X G z_abs
  have m_enumerate := PySem.W.mg_none_of X G z_enumerate
  have m_int := PySem.W.mg_none_of X G z_int
  have m_len := PySem.W.mg_none_of X G z_len
  have m_list := PySem.W.mg_none_of X G z_list
  have m_range := PySem.W.mg_none_of X G z_range
  have m_repr := PySem.W.mg_none_of X G z_repr
  have m_reversed := PySem.W.mg_none_of X G z_reversed
  have m_tuple := PySem.W.mg_none_of X G z_tuple
  have m_zip := PySem.W.mg_none_of X G z_zip
  have F__law_bag := fun_mk (st := st__law_bag) l__law_bag c__law_bag k__law_bag
  have D__law_bag := ok__law_bag (P := l.prog) (w := w) (base := base) m_abs m_int m_len m_list m_reversed F__law_bag (PySem.W.mg_of X G a__law_bag)
  have F__law_draw := fun_mk (st := st__law_draw) l__law_draw c__law_draw k__law_draw
  have D__law_draw := ok__law_draw (P := l.prog) (w := w) (base := base) m_int F__law_draw (PySem.W.mg_of X G a__law_draw)
  have F__law_row := fun_mk (st := st__law_row) l__law_row c__law_row k__law_row
  have D__law_row := ok__law_row (P := l.prog) (w := w) (base := base) D__law_draw m_range m_tuple F__law_row (PySem.W.mg_of X G a__law_row)
  have F__law_channel := fun_mk (st := st__law_channel) l__law_channel c__law_channel k__law_channel
  have D__law_channel := ok__law_channel (P := l.prog) (w := w) (base := base) D__law_draw D__law_row m_range m_tuple F__law_channel (PySem.W.mg_of X G a__law_channel)
  have F__law_turning := fun_mk (st := st__law_turning) l__law_turning c__law_turning k__law_turning
  have D__law_turning := ok__law_turning (P := l.prog) (w := w) (base := base) D__law_draw m_range m_tuple F__law_turning (PySem.W.mg_of X G a__law_turning)
  have F_divisor := fun_mk (st := st_divisor) l_divisor c_divisor k_divisor
  have D_divisor := ok_divisor (P := l.prog) (w := w) (base := base) m_abs F_divisor (PySem.W.mg_of X G a_divisor)
  have F_bare_channel := fun_mk (st := st_bare_channel) l_bare_channel c_bare_channel k_bare_channel
  have D_bare_channel := ok_bare_channel (P := l.prog) (w := w) (base := base) D_divisor m_tuple F_bare_channel (PySem.W.mg_of X G a_bare_channel)
  have F_turned_rows := fun_mk (st := st_turned_rows) l_turned_rows c_turned_rows k_turned_rows
  have D_turned_rows := ok_turned_rows (P := l.prog) (w := w) (base := base) m_zip F_turned_rows (PySem.W.mg_of X G a_turned_rows)
  have F_turned := fun_mk (st := st_turned) l_turned c_turned k_turned
  have D_turned := ok_turned (P := l.prog) (w := w) (base := base) D_bare_channel D_turned_rows F_turned (PySem.W.mg_of X G a_turned)
  have F__law_pick := fun_mk (st := st__law_pick) l__law_pick c__law_pick k__law_pick
  have D__law_pick := ok__law_pick (P := l.prog) (w := w) (base := base) D__law_draw m_len F__law_pick (PySem.W.mg_of X G a__law_pick)
  have F__law_turned := fun_mk (st := st__law_turned) l__law_turned c__law_turned k__law_turned
  have D__law_turned := ok__law_turned (P := l.prog) (w := w) (base := base) m_tuple m_zip F__law_turned (PySem.W.mg_of X G a__law_turned)
  have F__law_blended := fun_mk (st := st__law_blended) l__law_blended c__law_blended k__law_blended
  have D__law_blended := ok__law_blended (P := l.prog) (w := w) (base := base) D__law_turned m_enumerate m_tuple m_zip F__law_blended (PySem.W.mg_of X G a__law_blended)
  have F__law_gcd := fun_mk (st := st__law_gcd) l__law_gcd c__law_gcd k__law_gcd
  have D__law_gcd := ok__law_gcd (P := l.prog) (w := w) (base := base) m_abs m_int F__law_gcd (PySem.W.mg_of X G a__law_gcd)
  have F__law_lowered := fun_mk (st := st__law_lowered) l__law_lowered c__law_lowered k__law_lowered
  have D__law_lowered := ok__law_lowered (P := l.prog) (w := w) (base := base) D__law_gcd m_tuple F__law_lowered (PySem.W.mg_of X G a__law_lowered)
  have F_mixed_rows := fun_mk (st := st_mixed_rows) l_mixed_rows c_mixed_rows k_mixed_rows
  have D_mixed_rows := ok_mixed_rows (P := l.prog) (w := w) (base := base) D_turned_rows m_enumerate m_zip F_mixed_rows (PySem.W.mg_of X G a_mixed_rows)
  have F_blended := fun_mk (st := st_blended) l_blended c_blended k_blended
  have D_blended := ok_blended (P := l.prog) (w := w) (base := base) D_mixed_rows D_bare_channel F_blended (PySem.W.mg_of X G a_blended)
  have F__law_is_blended := fun_mk (st := st__law_is_blended) l__law_is_blended c__law_is_blended k__law_is_blended
  have D__law_is_blended := ok__law_is_blended (P := l.prog) (w := w) (base := base) D__law_blended D__law_lowered D_blended m_repr m_tuple F__law_is_blended (PySem.W.mg_of X G a__law_is_blended)
  have F__law_is_turned := fun_mk (st := st__law_is_turned) l__law_is_turned c__law_is_turned k__law_is_turned
  have D__law_is_turned := ok__law_is_turned (P := l.prog) (w := w) (base := base) D__law_lowered D__law_turned D_turned D_blended m_repr F__law_is_turned (PySem.W.mg_of X G a__law_is_turned)
  have F_law := fun_mk (st := st_law) l_law c_law k_law
  have D_law := ok_law (P := l.prog) (w := w) (base := base) D__law_bag D__law_draw D__law_channel D__law_pick D__law_turning D__law_is_turned D__law_is_blended D_turned m_range m_repr m_tuple F_law (PySem.W.mg_of X G a_law)
  exact D_law.run (PySem.W.mg_of X G a_law) ⟨_, _, _, l_law⟩
end K42
open PySem PySem.W PyProof.Rows
set_option maxHeartbeats 0 in
theorem PySem.Challenge.cw_foralldeciders_k42_whole_turned_holds : PySem.Challenge.rw_foralldeciders_k42_whole_turned.Holds := by
  w_on; o_law; k_head; (case hw => w_witness2)
  k_fill
  refine Ev.walkG_of (l := PySem.Challenge.rw_foralldeciders_k42_whole_turned) (n := 63) (k := 5) (x := "script") (f := K42.f_law) rfl (by decide) rfl ⟨rfl, by decide, by decide⟩ (fun w h Y => PySem.W.kIn_of Y) ?F (fun ns h => K42.law_run ns h)
  case F =>
    intro w mg fa h KX G hmg
    refine' K42.all_mk KX G hmg ?a__law_bag ?l__law_bag ?c__law_bag ?k__law_bag ?a__law_draw ?l__law_draw ?c__law_draw ?k__law_draw ?a__law_row ?l__law_row ?c__law_row ?k__law_row ?a__law_channel ?l__law_channel ?c__law_channel ?k__law_channel ?a__law_turning ?l__law_turning ?c__law_turning ?k__law_turning ?a_divisor ?l_divisor ?c_divisor ?k_divisor ?a_bare_channel ?l_bare_channel ?c_bare_channel ?k_bare_channel ?a_turned_rows ?l_turned_rows ?c_turned_rows ?k_turned_rows ?a_turned ?l_turned ?c_turned ?k_turned ?a__law_pick ?l__law_pick ?c__law_pick ?k__law_pick ?a__law_turned ?l__law_turned ?c__law_turned ?k__law_turned ?a__law_blended ?l__law_blended ?c__law_blended ?k__law_blended ?a__law_gcd ?l__law_gcd ?c__law_gcd ?k__law_gcd ?a__law_lowered ?l__law_lowered ?c__law_lowered ?k__law_lowered ?a_mixed_rows ?l_mixed_rows ?c_mixed_rows ?k_mixed_rows ?a_blended ?l_blended ?c_blended ?k_blended ?a__law_is_blended ?l__law_is_blended ?c__law_is_blended ?k__law_is_blended ?a__law_is_turned ?l__law_is_turned ?c__law_is_turned ?k__law_is_turned ?a_law ?l_law ?c_law ?k_law ?z_abs ?z_enumerate ?z_int ?z_len ?z_list ?z_range ?z_repr ?z_reversed ?z_tuple ?z_zip
    (case a__law_bag => k_is); (case l__law_bag => k_is); (case c__law_bag => k_is); (case k__law_bag => k_is); (case a__law_draw => k_is); (case l__law_draw => k_is); (case c__law_draw => k_is); (case k__law_draw => k_is); (case a__law_row => k_is); (case l__law_row => k_is); (case c__law_row => k_is); (case k__law_row => k_is); (case a__law_channel => k_is); (case l__law_channel => k_is); (case c__law_channel => k_is); (case k__law_channel => k_is); (case a__law_turning => k_is); (case l__law_turning => k_is); (case c__law_turning => k_is); (case k__law_turning => k_is); (case a_divisor => k_is); (case l_divisor => k_is); (case c_divisor => k_is); (case k_divisor => k_is); (case a_bare_channel => k_is); (case l_bare_channel => k_is); (case c_bare_channel => k_is); (case k_bare_channel => k_is); (case a_turned_rows => k_is); (case l_turned_rows => k_is); (case c_turned_rows => k_is); (case k_turned_rows => k_is); (case a_turned => k_is); (case l_turned => k_is); (case c_turned => k_is); (case k_turned => k_is); (case a__law_pick => k_is); (case l__law_pick => k_is); (case c__law_pick => k_is); (case k__law_pick => k_is); (case a__law_turned => k_is); (case l__law_turned => k_is); (case c__law_turned => k_is); (case k__law_turned => k_is); (case a__law_blended => k_is); (case l__law_blended => k_is); (case c__law_blended => k_is); (case k__law_blended => k_is); (case a__law_gcd => k_is); (case l__law_gcd => k_is); (case c__law_gcd => k_is); (case k__law_gcd => k_is); (case a__law_lowered => k_is); (case l__law_lowered => k_is); (case c__law_lowered => k_is); (case k__law_lowered => k_is); (case a_mixed_rows => k_is); (case l_mixed_rows => k_is); (case c_mixed_rows => k_is); (case k_mixed_rows => k_is); (case a_blended => k_is); (case l_blended => k_is); (case c_blended => k_is); (case k_blended => k_is); (case a__law_is_blended => k_is); (case l__law_is_blended => k_is); (case c__law_is_blended => k_is); (case k__law_is_blended => k_is); (case a__law_is_turned => k_is); (case l__law_is_turned => k_is); (case c__law_is_turned => k_is); (case k__law_is_turned => k_is); (case a_law => k_is); (case l_law => k_is); (case c_law => k_is); (case k_law => k_is); (case z_abs => k_is); (case z_enumerate => k_is); (case z_int => k_is); (case z_len => k_is); (case z_list => k_is); (case z_range => k_is); (case z_repr => k_is); (case z_reversed => k_is); (case z_tuple => k_is); (case z_zip => k_is); skip
