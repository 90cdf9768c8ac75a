import PyProof.Rows.All
import Wide.All
import OpenK.AllK
import Wide.FinOn
import HandS.ForMost
import HandS.Exc
import HandS.OwnEq
import HandS.Sort
import HandS.CallSlots
import HandS.WordsExc
import HandS.Zip
import HandS.DictComp
import HandS.IsInst
import HandS.Wide
import HandS.Deep
import HandS.TupLen
import HandS.Conv
import HandS.More
import KE.SortData
import KE.GoesEnum
import HandS.Text
import HandS.SlotsOwn
import HandS.TupAny
import HandS.Style
import HandS.MakeKw
import HandS.MakeKwOnly
import PyProof.ReprRoads
import HandS.RaiseMore
import PySem.Challenge.RW_crowdsplit_k07_parts_by_own_counting
import PyProof.ReprBulk
/-! text TL1 -/
set_option Elab.async false
set_option linter.all false
set_option maxRecDepth 100000
set_option maxHeartbeats 2000000
namespace L2.TL
open PySem PySem.Spec PyProof.Rows

/-- values as trees -/
inductive D where
  | non | bl (b : Bool) | int (i : Int) | str (x : Str) | obj (a : Addr) | ty (n : String)
  | lst (xs : List D) | tup (xs : List D)
  | dk (kvs : List (Key × D)) | dt (kvs : List (List Key × D))
  | ins (C : Addr) (fs : List (Str × D))

mutual
/-- v, in the abstract heap H, stands for the tree; what it reaches lies in F -/
def Rep (K : PySem.W.Frag) (F : Addr → Prop) (H : Hp) : D → V → Prop
  | .non, v => v = .non
  | .bl b, v => v = .bl b
  | .int i, v => v = .int i
  | .str x, v => v = .str x
  | .obj a, v => v = .ref a
  | .ty n, v => v = .ty n
  | .lst xs, v => ∃ a vs, v = .ref a ∧ F a ∧ Rd H a (.lst vs) ∧ vs.length ≤ sizeLine ∧ RepL K F H xs vs
  | .tup xs, v => ∃ a vs, v = .ref a ∧ H a = some (.tup vs) ∧ vs.length ≤ sizeLine ∧ RepL K F H xs vs
  | .dk kvs, v => ∃ a ks, v = .ref a ∧ F a ∧ Rd H a (.dK ks) ∧ RepK K F H kvs ks
  | .dt kvs, v => ∃ a ks, v = .ref a ∧ F a ∧ Rd H a (.dT ks) ∧ RepT K F H kvs ks
  | .ins C fs, v => ∃ a dx gs, v = .ref a ∧ F a ∧ H a = some (.ins C dx gs) ∧ RepF K F H fs gs
def RepL (K : PySem.W.Frag) (F : Addr → Prop) (H : Hp) : List D → List V → Prop
  | [], vs => vs = []
  | d :: ds, vs => ∃ v ws, vs = v :: ws ∧ Rep K F H d v ∧ RepL K F H ds ws
def RepK (K : PySem.W.Frag) (F : Addr → Prop) (H : Hp) : List (Key × D) → List (Key × V) → Prop
  | [], vs => vs = []
  | (k, d) :: ds, vs => ∃ v ws, vs = (k, v) :: ws ∧ Rep K F H d v ∧ RepK K F H ds ws
def RepT (K : PySem.W.Frag) (F : Addr → Prop) (H : Hp) : List (List Key × D) → List (List Key × V) → Prop
  | [], vs => vs = []
  | (k, d) :: ds, vs => ∃ v ws, vs = (k, v) :: ws ∧ Rep K F H d v ∧ RepT K F H ds ws
def RepF (K : PySem.W.Frag) (F : Addr → Prop) (H : Hp) : List (Str × D) → List (Str × V) → Prop
  | [], vs => vs = []
  | (k, d) :: ds, vs => ∃ v ws, vs = (k, v) :: ws ∧ Rep K F H d v ∧ RepF K F H ds ws
end

/-- what no lock changes -/
def Solid : HO → Prop
  | .lst _ | .tup _ | .ins _ _ _ | .xd _ => True
  | _ => False
/-- F grows, and what stands at it stays -/
structure Mon (F : Addr → Prop) (H : Hp) (F' : Addr → Prop) (H' : Hp) : Prop where
  sub : ∀ a, F a → F' a
  rd : ∀ a u, F a → Rd H a u → Rd H' a u
  at' : ∀ a o, F a → H a = some o → Solid o → H' a = some o
  tp : ∀ a vs, H a = some (.tup vs) → H' a = some (.tup vs)

section
variable {K : PySem.W.Frag} {F F' : Addr → Prop} {H H' : Hp}
mutual
theorem Rep.mono (m : Mon F H F' H') : ∀ (d : D) (v : V), Rep K F H d v → Rep K F' H' d v
  | .non, v, h => by simpa only [Rep] using h
  | .bl b, v, h => by simpa only [Rep] using h
  | .int i, v, h => by simpa only [Rep] using h
  | .str x, v, h => by simpa only [Rep] using h
  | .obj a, v, h => by simpa only [Rep] using h
  | .ty n, v, h => by simpa only [Rep] using h
  | .lst xs, v, h => by
    simp only [Rep] at h ⊢
    obtain ⟨a, vs, e, f, r, z, q⟩ := h
    exact ⟨a, vs, e, m.sub a f, m.rd a _ f r, z, RepL.mono m xs vs q⟩
  | .tup xs, v, h => by
    simp only [Rep] at h ⊢
    obtain ⟨a, vs, e, r, z, q⟩ := h
    exact ⟨a, vs, e, m.tp a vs r, z, RepL.mono m xs vs q⟩
  | .dk kvs, v, h => by
    simp only [Rep] at h ⊢
    obtain ⟨a, vs, e, f, r, q⟩ := h
    exact ⟨a, vs, e, m.sub a f, m.rd a _ f r, RepK.mono m kvs vs q⟩
  | .dt kvs, v, h => by
    simp only [Rep] at h ⊢
    obtain ⟨a, vs, e, f, r, q⟩ := h
    exact ⟨a, vs, e, m.sub a f, m.rd a _ f r, RepT.mono m kvs vs q⟩
  | .ins C fs, v, h => by
    simp only [Rep] at h ⊢
    obtain ⟨a, dx, gs, e, f, r, q⟩ := h
    exact ⟨a, dx, gs, e, m.sub a f, m.at' a _ f r trivial, RepF.mono m fs gs q⟩
theorem RepL.mono (m : Mon F H F' H') : ∀ (ds : List D) (vs : List V), RepL K F H ds vs → RepL K F' H' ds vs
  | [], vs, h => by simpa only [RepL] using h
  | d :: ds, vs, h => by
    simp only [RepL] at h ⊢
    obtain ⟨v, ws, e, r, q⟩ := h
    exact ⟨v, ws, e, Rep.mono m d v r, RepL.mono m ds ws q⟩
theorem RepK.mono (m : Mon F H F' H') : ∀ (ds : List (Key × D)) (vs : List (Key × V)), RepK K F H ds vs → RepK K F' H' ds vs
  | [], vs, h => by simpa only [RepK] using h
  | (k, d) :: ds, vs, h => by
    simp only [RepK] at h ⊢
    obtain ⟨v, ws, e, r, q⟩ := h
    exact ⟨v, ws, e, Rep.mono m d v r, RepK.mono m ds ws q⟩
theorem RepT.mono (m : Mon F H F' H') : ∀ (ds : List (List Key × D)) (vs : List (List Key × V)), RepT K F H ds vs → RepT K F' H' ds vs
  | [], vs, h => by simpa only [RepT] using h
  | (k, d) :: ds, vs, h => by
    simp only [RepT] at h ⊢
    obtain ⟨v, ws, e, r, q⟩ := h
    exact ⟨v, ws, e, Rep.mono m d v r, RepT.mono m ds ws q⟩
theorem RepF.mono (m : Mon F H F' H') : ∀ (ds : List (Str × D)) (vs : List (Str × V)), RepF K F H ds vs → RepF K F' H' ds vs
  | [], vs, h => by simpa only [RepF] using h
  | (k, d) :: ds, vs, h => by
    simp only [RepF] at h ⊢
    obtain ⟨v, ws, e, r, q⟩ := h
    exact ⟨v, ws, e, Rep.mono m d v r, RepF.mono m ds ws q⟩
end
end

/-- an owned object at a: its own content, what it holds lies in F -/
def Own (K : PySem.W.Frag) (F : Addr → Prop) (H : Hp) : D → Addr → Prop
  | .lst xs, a => ∃ vs, H a = some (.lst vs) ∧ vs.length ≤ sizeLine ∧ RepL K F H xs vs
  | .dk kvs, a => ∃ ks, H a = some (.dK ks) ∧ RepK K F H kvs ks
  | .dt kvs, a => ∃ ks, H a = some (.dT ks) ∧ RepT K F H kvs ks
  | .ins C fs, a => ∃ dx gs, H a = some (.ins C dx gs) ∧ RepF K F H fs gs
  | _, _ => False

theorem Own.there {K : PySem.W.Frag} {F : Addr → Prop} {H : Hp} : ∀ {d : D} {a : Addr}, Own K F H d a → ∃ o, H a = some o
  | .lst _, _, h => ⟨_, h.choose_spec.1⟩
  | .dk _, _, h => ⟨_, h.choose_spec.1⟩
  | .dt _, _, h => ⟨_, h.choose_spec.1⟩
  | .ins _ _, _, h => ⟨_, h.choose_spec.choose_spec.1⟩

theorem Own.mono {K : PySem.W.Frag} {F F' : Addr → Prop} {H H' : Hp} (m : Mon F H F' H') : ∀ {d : D} {a : Addr}, (∀ o, H a = some o → H' a = some o) → Own K F H d a → Own K F' H' d a
  | .lst _, _, s, ⟨vs, e, z, r⟩ => ⟨vs, s _ e, z, RepL.mono m _ _ r⟩
  | .dk _, _, s, ⟨vs, e, r⟩ => ⟨vs, s _ e, RepK.mono m _ _ r⟩
  | .dt _, _, s, ⟨vs, e, r⟩ => ⟨vs, s _ e, RepT.mono m _ _ r⟩
  | .ins _ _, _, s, ⟨dx, gs, e, r⟩ => ⟨dx, gs, s _ e, RepF.mono m _ _ r⟩

theorem Own.rep {K : PySem.W.Frag} {F F' : Addr → Prop} {H : Hp} (hs : ∀ a, F a → F' a) : ∀ {d : D} {a : Addr}, F' a → Own K F H d a → Rep K F' H d (.ref a)
  | .lst _, a, f, ⟨vs, e, z, r⟩ => by
    simp only [Rep]
    exact ⟨a, vs, rfl, f, .inl e, z, RepL.mono ⟨hs, fun _ _ _ q => q, fun _ _ _ q _ => q, fun _ _ q => q⟩ _ _ r⟩
  | .dk _, a, f, ⟨vs, e, r⟩ => by
    simp only [Rep]
    exact ⟨a, vs, rfl, f, .inl e, RepK.mono ⟨hs, fun _ _ _ q => q, fun _ _ _ q _ => q, fun _ _ q => q⟩ _ _ r⟩
  | .dt _, a, f, ⟨vs, e, r⟩ => by
    simp only [Rep]
    exact ⟨a, vs, rfl, f, .inl e, RepT.mono ⟨hs, fun _ _ _ q => q, fun _ _ _ q _ => q, fun _ _ q => q⟩ _ _ r⟩
  | .ins _ _, a, f, ⟨dx, gs, e, r⟩ => by
    simp only [Rep]
    exact ⟨a, dx, gs, rfl, f, e, RepF.mono ⟨hs, fun _ _ _ q => q, fun _ _ _ q _ => q, fun _ _ q => q⟩ _ _ r⟩

/-! ### the state -/
/-- what an expression gives: a shared tree, an owned root, a fresh object -/
inductive R where
  | sh (d : D) | ow (k : Nat) | fr (d : D)
abbrev Os := List (Option D)
structure En where
  ρ : List (Option R)
  os : Os

def Live (as : List Addr) (os : Os) (a : Addr) : Prop := ∃ (k : Nat) (d : D), as[k]? = some a ∧ os[k]? = some (some d)

structure HS (K : PySem.W.Frag) (as : List Addr) (os : Os) (F : Addr → Prop) (H : Hp) : Prop where
  own : ∀ (k : Nat) (d : D), os[k]? = some (some d) → ∃ a, as[k]? = some a ∧ Own K F H d a ∧ ¬ F a
  nd : as.Nodup
  dom : ∀ a, F a → H a ≠ none
  asd : ∀ a, a ∈ as → H a ≠ none
  len : os.length = as.length

theorem Live.mem {as : List Addr} {os : Os} {a : Addr} (h : Live as os a) : a ∈ as := let ⟨_, _, e, _⟩ := h; List.mem_of_getElem? e
theorem HS.dis {K : PySem.W.Frag} {as : List Addr} {os : Os} {F : Addr → Prop} {H : Hp} (h : HS K as os F H) {a : Addr} (l : Live as os a) : ¬ F a := by
  obtain ⟨k, d, e1, e2⟩ := l
  obtain ⟨b, e3, _, nf⟩ := h.own k d e2
  rw [e1] at e3; cases e3; exact nf

theorem Own.notup {K : PySem.W.Frag} {F : Addr → Prop} {H : Hp} : ∀ {d : D} {a : Addr}, Own K F H d a → ∀ vs, H a ≠ some (.tup vs)
  | .lst _, _, ⟨_, e, _⟩, _ => by rw [e]; exact fun z => nomatch z
  | .dk _, _, ⟨_, e, _⟩, _ => by rw [e]; exact fun z => nomatch z
  | .dt _, _, ⟨_, e, _⟩, _ => by rw [e]; exact fun z => nomatch z
  | .ins _ _, _, ⟨_, _, e, _⟩, _ => by rw [e]; exact fun z => nomatch z
theorem HS.notup {K : PySem.W.Frag} {as : List Addr} {os : Os} {F : Addr → Prop} {H : Hp} (h : HS K as os F H) {a : Addr} {vs : List V} (e : H a = some (.tup vs)) : ¬ Live as os a := fun ⟨k, d, e1, e2⟩ => by
  obtain ⟨b, e3, own, _⟩ := h.own k d e2
  rw [e1] at e3; cases e3
  exact own.notup vs e

def Dic : HO → Prop
  | .dK _ | .dT _ => True
  | _ => False
/-- o still stands at a; a shared dict may have been locked for good -/
def Lk (F' : Addr → Prop) (H' : Hp) (a : Addr) (o : HO) : Prop := H' a = some o ∨ (F' a ∧ Dic o ∧ ∃ od, H' a = some (.frz od o))
theorem Lk.at {F' : Addr → Prop} {H' : Hp} {a : Addr} {o : HO} (h : Lk F' H' a o) (n : ¬ Dic o) : H' a = some o := h.elim id fun h => absurd h.2.1 n
theorem Lk.out {F' : Addr → Prop} {H' : Hp} {a : Addr} {o : HO} (h : Lk F' H' a o) (n : ¬ F' a) : H' a = some o := h.elim id fun h => absurd h.1 n
theorem Lk.some {F' : Addr → Prop} {H' : Hp} {a : Addr} {o : HO} (h : Lk F' H' a o) : H' a ≠ none := by
  rcases h with h | ⟨_, _, od, h⟩
  · rw [h]; exact fun z => nomatch z
  · rw [h]; exact fun z => nomatch z
theorem Lk.trans {F1 F2 : Addr → Prop} {H1 H2 : Hp} {a : Addr} {o : HO} (h : Lk F1 H1 a o) (hf : F1 a → F2 a) (t : ∀ o, H1 a = .some o → Lk F2 H2 a o) : Lk F2 H2 a o := by
  rcases h with h | ⟨f, d, od, h⟩
  · exact t o h
  · exact .inr ⟨hf f, d, od, (t _ h).at fun z => z⟩
theorem Lk.to {F1 F2 : Addr → Prop} {H1 H2 : Hp} {a : Addr} {o : HO} (h : Lk F1 H1 a o) (hf : F1 a → F2 a) (t : ∀ o, H1 a = .some o → H2 a = .some o) : Lk F2 H2 a o := h.trans hf fun o e => .inl (t o e)

structure Step (as : List Addr) (os : Os) (F : Addr → Prop) (H : Hp) (as' : List Addr) (os' : Os) (F' : Addr → Prop) (H' : Hp) : Prop where
  sub : ∀ a, F a → F' a
  new : ∀ a, F' a → F a ∨ H a = none ∨ Live as os a
  stay : ∀ a o, H a = some o → ¬ Live as os a → Lk F' H' a o
  liv : ∀ a, Live as' os' a → Live as os a ∨ H a = none
  pre : as <+: as'
  ext : ∀ a, a ∈ as' → a ∈ as ∨ H a = none

theorem Step.refl {as : List Addr} {os : Os} {F : Addr → Prop} {H : Hp} : Step as os F H as os F H :=
  ⟨fun _ h => h, fun _ h => .inl h, fun _ _ h _ => .inl h, fun _ h => .inl h, List.prefix_refl _, fun _ h => .inl h⟩

theorem Step.fresh {as as' : List Addr} {os os' : Os} {F F' : Addr → Prop} {H H' : Hp} (s : Step as os F H as' os' F' H') {a : Addr} (h : H' a = none) : H a = none ∨ Live as os a := by
  by_cases l : Live as os a
  · exact .inr l
  · cases e : H a with
    | none => exact .inl rfl
    | some o => exact absurd h (s.stay a o e l).some

theorem Step.trans {as as1 as2 : List Addr} {os os1 os2 : Os} {F F1 F2 : Addr → Prop} {H H1 H2 : Hp} (s : Step as os F H as1 os1 F1 H1) (t : Step as1 os1 F1 H1 as2 os2 F2 H2) : Step as os F H as2 os2 F2 H2 where
  sub := fun a h => t.sub a (s.sub a h)
  new := fun a h => by
    rcases t.new a h with q | q | q
    · exact s.new a q
    · rcases s.fresh q with z | z
      · exact .inr (.inl z)
      · exact .inr (.inr z)
    · rcases s.liv a q with z | z
      · exact .inr (.inr z)
      · exact .inr (.inl z)
  stay := fun a o e l => (s.stay a o e l).trans (t.sub a) fun o2 e2 => t.stay a o2 e2 fun q => by
    rcases s.liv a q with z | z
    · exact l z
    · rw [e] at z; cases z
  liv := fun a h => by
    rcases t.liv a h with q | q
    · exact s.liv a q
    · rcases s.fresh q with z | z
      · exact .inr z
      · exact .inl z
  pre := s.pre.trans t.pre
  ext := fun a h => by
    rcases t.ext a h with q | q
    · exact s.ext a q
    · rcases s.fresh q with z | z
      · exact .inr z
      · obtain ⟨_, _, e, _⟩ := z
        exact .inl (List.mem_of_getElem? e)

theorem Step.mon {K : PySem.W.Frag} {as as' : List Addr} {os os' : Os} {F F' : Addr → Prop} {H H' : Hp} (s : Step as os F H as' os' F' H') (h : HS K as os F H) : Mon F H F' H' where
  sub := s.sub
  rd := fun a u f r => by
    have l : ¬ Live as os a := fun l => h.dis l f
    rcases r with r | ⟨o, r⟩
    · rcases s.stay a _ r l with q | ⟨_, _, od, q⟩
      · exact .inl q
      · exact .inr ⟨od, q⟩
    · exact .inr ⟨o, (s.stay a _ r l).at fun z => z⟩
  at' := fun a o f r so => (s.stay a _ r fun l => h.dis l f).at fun z => by cases o <;> first | exact z | exact so
  tp := fun a vs e => (s.stay a _ e (h.notup e)).at fun z => z

/-- what a value is, for a result: H0 is the heap where its making began -/
def RepR (K : PySem.W.Frag) (as : List Addr) (F : Addr → Prop) (H0 H : Hp) : R → V → Prop
  | .sh d, v => Rep K F H d v
  | .ow k, v => ∃ a, as[k]? = some a ∧ v = .ref a
  | .fr d, v => ∃ a, v = .ref a ∧ H0 a = none ∧ a ∉ as ∧ ¬ F a ∧ Own K F H d a
/-- .. what waits: no fresh one -/
def RepP (K : PySem.W.Frag) (as : List Addr) (F : Addr → Prop) (H : Hp) : R → V → Prop
  | .sh d, v => Rep K F H d v
  | .ow k, v => ∃ a, as[k]? = some a ∧ v = .ref a
  | .fr _, _ => False

theorem prefix_get {α : Type} {l l' : List α} (h : l <+: l') {k : Nat} {a : α} (e : l[k]? = some a) : l'[k]? = some a := by
  obtain ⟨t, rfl⟩ := h
  rw [List.getElem?_append_left (List.getElem?_eq_some_iff.mp e).1]; exact e

theorem RepP.step {K : PySem.W.Frag} {as as' : List Addr} {os os' : Os} {F F' : Addr → Prop} {H H' : Hp} (s : Step as os F H as' os' F' H') (h : HS K as os F H) : ∀ {r : R} {v : V}, RepP K as F H r v → RepP K as' F' H' r v
  | .sh _, _, q => Rep.mono (s.mon h) _ _ q
  | .ow _, _, ⟨a, e, q⟩ => ⟨a, prefix_get s.pre e, q⟩

theorem RepP.r {K : PySem.W.Frag} {as : List Addr} {F : Addr → Prop} {H0 H : Hp} : ∀ {r : R} {v : V}, RepP K as F H r v → RepR K as F H0 H r v
  | .sh _, _, q => q
  | .ow _, _, q => q

/-- a state of a body: slots and roots -/
structure ES (K : PySem.W.Frag) (as : List Addr) (en : En) (F : Addr → Prop) (H : Hp) (σ : St) : Prop where
  hs : HS K as en.os F H
  sl : ∀ (i : Nat) (r : R), en.ρ[i]? = some (some r) → ∃ v, σ[i]? = some (some v) ∧ RepP K as F H r v
  ln : en.ρ.length = σ.length

def R.fz : R → R
  | .fr d => .sh d
  | r => r

/-- what stands in a result -/
def R.val (r : R) (os : Os) : Option D := match r with
  | .sh d => some d
  | .fr d => some d
  | .ow k => os[k]?.join

/-! ### laying new objects -/
theorem HS.upd_new {K : PySem.W.Frag} {as : List Addr} {os : Os} {F : Addr → Prop} {H : Hp} {p : Addr} {o : HO} (h : HS K as os F H) (hp : H p = none) : HS K as os F (upd H p o) where
  own := fun k d e => by
    obtain ⟨a, e1, q, nf⟩ := h.own k d e
    have st : ∀ b u, H b = some u → upd H p o b = some u := fun b u z => by rw [upd_ne (ne_of_none z hp)]; exact z
    refine ⟨a, e1, Own.mono ⟨fun _ z => z, fun b u _ r => r.imp (st b _) fun ⟨w, z⟩ => ⟨w, st b _ z⟩, fun b _ _ z _ => st b _ z, fun b _ z => st b _ z⟩ (st a) q, nf⟩
  nd := h.nd
  dom := fun a f => by
    by_cases e : a = p
    · subst e; rw [upd_same]; exact fun z => by cases z
    · rw [upd_ne e]; exact h.dom a f
  asd := fun a f => by
    by_cases e : a = p
    · subst e; rw [upd_same]; exact fun z => by cases z
    · rw [upd_ne e]; exact h.asd a f
  len := h.len
theorem mon_upd {F : Addr → Prop} {H : Hp} {p : Addr} {o : HO} (hp : H p = none) : Mon F H F (upd H p o) :=
  have st : ∀ b u, H b = some u → upd H p o b = some u := fun b u z => by rw [upd_ne (ne_of_none z hp)]; exact z
  ⟨fun _ z => z, fun b u _ r => r.imp (st b _) fun ⟨w, z⟩ => ⟨w, st b _ z⟩, fun b _ _ z _ => st b _ z, fun b _ z => st b _ z⟩
theorem mon_sub {F F' : Addr → Prop} {H : Hp} (hs : ∀ a, F a → F' a) : Mon F H F' H := ⟨hs, fun _ _ _ q => q, fun _ _ _ q _ => q, fun _ _ q => q⟩
theorem RepP.mono {K : PySem.W.Frag} {as : List Addr} {F F' : Addr → Prop} {H H' : Hp} (m : Mon F H F' H') : ∀ {r : R} {v : V}, RepP K as F H r v → RepP K as F' H' r v
  | .sh _, _, q => Rep.mono m _ _ q
  | .ow _, _, q => q
theorem ES.upd_new {K : PySem.W.Frag} {as : List Addr} {en : En} {F : Addr → Prop} {H : Hp} {σ : St} {p : Addr} {o : HO} (h : ES K as en F H σ) (hp : H p = none) : ES K as en F (upd H p o) σ :=
  ⟨h.hs.upd_new hp, fun i r e => let ⟨v, e1, q⟩ := h.sl i r e; ⟨v, e1, q.mono (mon_upd hp)⟩, h.ln⟩
theorem Step.upd_new {as : List Addr} {os : Os} {F : Addr → Prop} {H : Hp} {p : Addr} {o : HO} (hp : H p = none) : Step as os F H as os F (upd H p o) :=
  ⟨fun _ h => h, fun _ h => .inl h, fun a u e _ => .inl (by rw [upd_ne (ne_of_none e hp)]; exact e), fun _ h => .inl h, List.prefix_refl _, fun _ h => .inl h⟩
/-- an object that stands, owned by nobody, is frozen -/
def plus (F : Addr → Prop) (p : Addr) : Addr → Prop := fun a => F a ∨ a = p
theorem HS.plus {K : PySem.W.Frag} {as : List Addr} {os : Os} {F : Addr → Prop} {H : Hp} {p : Addr} (h : HS K as os F H) (hp : H p ≠ none) (hn : p ∉ as) : HS K as os (plus F p) H where
  own := fun k d e => by
    obtain ⟨a, e1, q, nf⟩ := h.own k d e
    exact ⟨a, e1, Own.mono (mon_sub fun _ => .inl) (fun _ z => z) q, fun z => z.elim nf fun z => hn (z ▸ List.mem_of_getElem? e1)⟩
  nd := h.nd
  dom := fun a f => f.elim (h.dom a) fun e => e ▸ hp
  asd := h.asd
  len := h.len
theorem ES.plus {K : PySem.W.Frag} {as : List Addr} {en : En} {F : Addr → Prop} {H : Hp} {σ : St} {p : Addr} (h : ES K as en F H σ) (hp : H p ≠ none) (hn : p ∉ as) : ES K as en (plus F p) H σ :=
  ⟨h.hs.plus hp hn, fun i r e => let ⟨v, e1, q⟩ := h.sl i r e; ⟨v, e1, q.mono (mon_sub fun _ => .inl)⟩, h.ln⟩
theorem Step.plus {as as' : List Addr} {os os' : Os} {F F' : Addr → Prop} {H H' : Hp} {p : Addr} (s : Step as os F H as' os' F' H') (hp : H p = none) : Step as os F H as' os' (plus F' p) H' :=
  ⟨fun a h => .inl (s.sub a h), fun a h => h.elim (s.new a) fun e => .inr (.inl (e ▸ hp)), fun a o e l => (s.stay a o e l).to .inl fun _ z => z, s.liv, s.pre, s.ext⟩
theorem ES.notin {K : PySem.W.Frag} {as : List Addr} {en : En} {F : Addr → Prop} {H : Hp} {σ : St} {p : Addr} (h : ES K as en F H σ) (hp : H p = none) : p ∉ as := fun z => h.hs.asd p z hp
theorem ES.notF {K : PySem.W.Frag} {as : List Addr} {en : En} {F : Addr → Prop} {H : Hp} {σ : St} {p : Addr} (h : ES K as en F H σ) (hp : H p = none) : ¬ F p := fun z => h.hs.dom p z hp
end L2.TL

/-! text TL2 -/
set_option Elab.async false
set_option linter.all false
set_option maxRecDepth 100000
set_option maxHeartbeats 2000000
namespace L2.TL
open PySem PySem.Spec PyProof.Rows

/-- an error: its class, its fields -/
structure Er where
  C : Addr
  fs : List (Str × D)
abbrev PEr := Er → En → Prop
abbrev WEx := En → (R → En → Prop) → PEr → Prop
abbrev WBx := En → (Bool → En → Prop) → PEr → Prop
abbrev WAx := En → (List R → En → Prop) → PEr → Prop

def RepE (K : PySem.W.Frag) (F : Addr → Prop) (H : Hp) (er : Er) (cls : Value) (d : Option Addr) : Prop :=
  cls = .ref er.C ∧ ∃ a gs, d = some a ∧ F a ∧ H a = some (.xd gs) ∧ RepF K F H er.fs gs

/-- what is wanted of an error -/
def CEx (K : PySem.W.Frag) (XW : WX) (as : List Addr) (os : Os) (F : Addr → Prop) (H : Hp) (PX : PEr) (σ : St) : Prop :=
  ∀ cls d H' er en' F', ES K as en' F' H' σ → Step as os F H as en'.os F' H' → RepE K F' H' er cls d → PX er en' → XW cls d σ H'

/-- an expression's reading over trees -/
def tW (K : PySem.W.Frag) (XW : WX) (w : WEx) : TE := fun σ H Q => ∃ as en F P PX, ES K as en F H σ ∧ w en P PX ∧
  (∀ v H' r en' F', ES K as en' F' H' σ → Step as en.os F H as en'.os F' H' → RepR K as F' H H' r v → P r en' → Q v H') ∧ CEx K XW as en.os F H PX σ
def tWB (K : PySem.W.Frag) (XW : WX) (w : WBx) : TT := fun σ H Q => ∃ as en F P PX, ES K as en F H σ ∧ w en P PX ∧
  (∀ b H' en' F', ES K as en' F' H' σ → Step as en.os F H as en'.os F' H' → P b en' → Q b H') ∧ CEx K XW as en.os F H PX σ
def tWA (K : PySem.W.Frag) (XW : WX) (w : WAx) : TA := fun σ H Q => ∃ as en F P PX, ES K as en F H σ ∧ w en P PX ∧
  (∀ vs H' rs en' F', ES K as en' F' H' σ → Step as en.os F H as en'.os F' H' → Paired (RepP K as F' H') rs vs → P rs en' → Q vs H') ∧ CEx K XW as en.os F H PX σ
/-- .. behind parts whose values wait -/
def tP (K : PySem.W.Frag) (XW : WX) (vs : List V) (w : List R → WEx) : TE := fun σ H Q => ∃ as os0 F0 H0 en F rs P PX, ES K as en F H σ ∧ Step as os0 F0 H0 as en.os F H ∧ Paired (RepP K as F H) rs vs ∧ w rs en P PX ∧
  (∀ v H' r en' F', ES K as en' F' H' σ → Step as os0 F0 H0 as en'.os F' H' → RepR K as F' H0 H' r v → P r en' → Q v H') ∧ CEx K XW as os0 F0 H0 PX σ
def tPB (K : PySem.W.Frag) (XW : WX) (vs : List V) (w : List R → WBx) : TT := fun σ H Q => ∃ as os0 F0 H0 en F rs P PX, ES K as en F H σ ∧ Step as os0 F0 H0 as en.os F H ∧ Paired (RepP K as F H) rs vs ∧ w rs en P PX ∧
  (∀ b H' en' F', ES K as en' F' H' σ → Step as os0 F0 H0 as en'.os F' H' → P b en' → Q b H') ∧ CEx K XW as os0 F0 H0 PX σ

section
variable {K : PySem.W.Frag} {XW : WX} {σ : St} {H : Hp}

theorem CEx.from {as : List Addr} {os os1 : Os} {F F1 : Addr → Prop} {H H1 : Hp} {PX : PEr} (c : CEx K XW as os F H PX σ) (s : Step as os F H as os1 F1 H1) : CEx K XW as os1 F1 H1 PX σ :=
  fun cls d H' er en' F' e st r p => c cls d H' er en' F' e (s.trans st) r p

theorem Paired.imp {α β : Type} {P Q : α → β → Prop} (f : ∀ a b, P a b → Q a b) : ∀ {xs : List α} {ys : List β}, Paired P xs ys → Paired Q xs ys
  | _, _, .nil => .nil
  | _, _, .cons r t => .cons (f _ _ r) (Paired.imp f t)

/-- a result is made to wait: a fresh object is frozen -/
theorem wait {as : List Addr} {os0 : Os} {F0 : Addr → Prop} {H0 : Hp} {en en1 : En} {F F1 : Addr → Prop} {H1 : Hp} {r : R} {v : V} (es : ES K as en F H σ) (e1 : ES K as en1 F1 H1 σ) (s0 : Step as os0 F0 H0 as en.os F H)
    (s1 : Step as en.os F H as en1.os F1 H1) (rr : RepR K as F1 H H1 r v) : ∃ F2, ES K as en1 F2 H1 σ ∧ Step as os0 F0 H0 as en1.os F2 H1 ∧ RepP K as F2 H1 r.fz v ∧ Mon F1 H1 F2 H1 := by
  have s := s0.trans s1
  cases r with
  | sh d => exact ⟨F1, e1, s, rr, mon_sub fun _ z => z⟩
  | ow k => exact ⟨F1, e1, s, rr, mon_sub fun _ z => z⟩
  | fr d =>
    obtain ⟨a, rfl, hn, ha, hf, own⟩ := rr
    have h0 : H0 a = none := by
      rcases s0.fresh hn with z | z
      · exact z
      · exact absurd z.mem ha
    obtain ⟨o, ho⟩ := own.there
    exact ⟨plus F1 a, e1.plus (by rw [ho]; exact fun z => by cases z) ha, s.plus h0, own.rep (fun _ => .inl) (.inr rfl), mon_sub fun _ => .inl⟩

theorem tP_of {w : WEx} {Q : VK} (h : tW K XW w σ H Q) : tP K XW [] (fun _ => w) σ H Q := by
  obtain ⟨as, en, F, P, PX, es, hw, hq, hx⟩ := h
  exact ⟨as, en.os, F, H, en, F, [], P, PX, es, Step.refl, .nil, hw, hq, hx⟩
theorem tPB_of {w : WBx} {Q : Bool → Hp → Prop} (h : tWB K XW w σ H Q) : tPB K XW [] (fun _ => w) σ H Q := by
  obtain ⟨as, en, F, P, PX, es, hw, hq, hx⟩ := h
  exact ⟨as, en.os, F, H, en, F, [], P, PX, es, Step.refl, .nil, hw, hq, hx⟩

theorem tP_step {vs : List V} {wa : WEx} {w : List R → WEx} {Q : VK} (h : tP K XW vs (fun rs en P PX => wa en (fun r en1 => w (r.fz :: rs) en1 P PX) PX) σ H Q) :
    tW K XW wa σ H fun x H1 => tP K XW (x :: vs) w σ H1 Q := by
  obtain ⟨as, os0, F0, H0, en, F, rs, P, PX, es, s0, pr, hw, hq, hx⟩ := h
  refine ⟨as, en, F, _, PX, es, hw, fun v H1 r en1 F1 e1 s1 rr hp => ?_, hx.from s0⟩
  obtain ⟨F2, e2, s2, r2, m2⟩ := wait es e1 s0 s1 rr
  exact ⟨as, os0, F0, H0, en1, F2, r.fz :: rs, P, PX, e2, s2, .cons r2 (Paired.imp (fun _ _ q => (q.step s1 es.hs).mono m2) pr), hp, hq, hx⟩
theorem tPB_step {vs : List V} {wa : WEx} {w : List R → WBx} {Q : Bool → Hp → Prop} (h : tPB K XW vs (fun rs en P PX => wa en (fun r en1 => w (r.fz :: rs) en1 P PX) PX) σ H Q) :
    tW K XW wa σ H fun x H1 => tPB K XW (x :: vs) w σ H1 Q := by
  obtain ⟨as, os0, F0, H0, en, F, rs, P, PX, es, s0, pr, hw, hq, hx⟩ := h
  refine ⟨as, en, F, _, PX, es, hw, fun v H1 r en1 F1 e1 s1 rr hp => ?_, hx.from s0⟩
  obtain ⟨F2, e2, s2, r2, m2⟩ := wait es e1 s0 s1 rr
  exact ⟨as, os0, F0, H0, en1, F2, r.fz :: rs, P, PX, e2, s2, .cons r2 (Paired.imp (fun _ _ q => (q.step s1 es.hs).mono m2) pr), hp, hq, hx⟩
/-- a test as a part of an expression -/
theorem tP_test {vs : List V} {wc : WBx} {w : Bool → List R → WEx} {Q : VK} (h : tP K XW vs (fun rs en P PX => wc en (fun b en1 => w b rs en1 P PX) PX) σ H Q) :
    tWB K XW wc σ H fun b H1 => tP K XW vs (w b) σ H1 Q := by
  obtain ⟨as, os0, F0, H0, en, F, rs, P, PX, es, s0, pr, hw, hq, hx⟩ := h
  refine ⟨as, en, F, _, PX, es, hw, fun b H1 en1 F1 e1 s1 hp => ?_, hx.from s0⟩
  exact ⟨as, os0, F0, H0, en1, F1, rs, P, PX, e1, s0.trans s1, Paired.imp (fun _ _ q => q.step s1 es.hs) pr, hp, hq, hx⟩
theorem tPB_test {vs : List V} {wc : WBx} {w : Bool → List R → WBx} {Q : Bool → Hp → Prop} (h : tPB K XW vs (fun rs en P PX => wc en (fun b en1 => w b rs en1 P PX) PX) σ H Q) :
    tWB K XW wc σ H fun b H1 => tPB K XW vs (w b) σ H1 Q := by
  obtain ⟨as, os0, F0, H0, en, F, rs, P, PX, es, s0, pr, hw, hq, hx⟩ := h
  refine ⟨as, en, F, _, PX, es, hw, fun b H1 en1 F1 e1 s1 hp => ?_, hx.from s0⟩
  exact ⟨as, os0, F0, H0, en1, F1, rs, P, PX, e1, s0.trans s1, Paired.imp (fun _ _ q => q.step s1 es.hs) pr, hp, hq, hx⟩
/-- the last part: its result is the whole's -/
theorem tP_last {w : WEx} {Q : VK} (h : tP K XW [] (fun _ => w) σ H Q) : tW K XW w σ H Q := by
  obtain ⟨as, os0, F0, H0, en, F, rs, P, PX, es, s0, pr, hw, hq, hx⟩ := h
  refine ⟨as, en, F, P, PX, es, hw, fun v H1 r en1 F1 e1 s1 rr hp => hq v H1 r en1 F1 e1 (s0.trans s1) ?_ hp, hx.from s0⟩
  cases r with
  | sh d => exact rr
  | ow k => exact rr
  | fr d =>
    obtain ⟨a, e, hn, ha, hf, own⟩ := rr
    refine ⟨a, e, ?_, ha, hf, own⟩
    rcases s0.fresh hn with z | z
    · exact z
    · exact absurd z.mem ha
theorem tPB_last {w : WBx} {Q : Bool → Hp → Prop} (h : tPB K XW [] (fun _ => w) σ H Q) : tWB K XW w σ H Q := by
  obtain ⟨as, os0, F0, H0, en, F, rs, P, PX, es, s0, pr, hw, hq, hx⟩ := h
  exact ⟨as, en, F, P, PX, es, hw, fun b H1 en1 F1 e1 s1 hp => hq b H1 en1 F1 e1 (s0.trans s1) hp, hx.from s0⟩
end

theorem _root_.L2.PE.weak {X : Cx} {e : Expr} {t t' : TE} (h : PE X e t) (f : ∀ σ H Q, t' σ H Q → t σ H Q) : PE X e t' := ⟨fun pins s σ H Q I q => h.run pins s σ H Q I (f σ H Q q)⟩
theorem _root_.L2.PT.weak {X : Cx} {e : Expr} {t t' : TT} (h : PT X e t) (f : ∀ σ H Q, t' σ H Q → t σ H Q) : PT X e t' := ⟨fun pins s σ H Q I q => h.run pins s σ H Q I (f σ H Q q)⟩
theorem _root_.L2.PW.weak {X : Cx} {e : Expr} {t t' : TT} (h : PW X e t) (f : ∀ σ H Q, t' σ H Q → t σ H Q) : PW X e t' := ⟨fun wh pins s σ H Q I q => h.run wh pins s σ H Q I (f σ H Q q)⟩
theorem _root_.L2.PA.weak {X : Cx} {e : List Expr} {t t' : TA} (h : PA X e t) (f : ∀ σ H Q, t' σ H Q → t σ H Q) : PA X e t' := ⟨fun pos pins s σ H Q I q => h.run pos pins s σ H Q I (f σ H Q q)⟩
theorem _root_.L2.PS.weak {X : Cx} {e : Stmt} {t t' : TS} (h : PS X e t) (f : ∀ D σ H, t' D σ H → t D σ H) : PS X e t' := ⟨fun pins s σ H D I q => h.run pins s σ H D I (f D σ H q)⟩
theorem _root_.L2.PSs.weak {X : Cx} {e : List Stmt} {t t' : TS} (h : PSs X e t) (f : ∀ D σ H, t' D σ H → t D σ H) : PSs X e t' := ⟨fun pins s σ H D I q => h.run pins s σ H D I (f D σ H q)⟩

section
variable {X : Cx} {XW : WX} {pos : Pos} {a b c : Expr} {es : List Expr} {wa wb wc : WEx} {ua ub : WBx} {ws : WAx}

/-! ### constants, names -/
def wC (d : D) : WEx := fun en P _ => P (.sh d) en
theorem tC_of {K : PySem.W.Frag} {d : D} {v : V} (r : ∀ F H, Rep K F H d v) {σ : St} {H : Hp} {Q : VK} (h : tW K XW (wC d) σ H Q) : tC v σ H Q := by
  obtain ⟨as, en, F, P, PX, es, hw, hq, hx⟩ := h
  exact hq v H (.sh d) en F es Step.refl (r F H) hw
theorem te_int {i j} : PE X (.Constant (.int i) j pos) (tW X.K XW (wC (.int i))) := pe_int.weak fun σ H Q h => tC_of (fun _ _ => by simp only [Rep]) h
theorem te_bl {b j} : PE X (.Constant (.bool b) j pos) (tW X.K XW (wC (.bl b))) := pe_bl.weak fun σ H Q h => tC_of (fun _ _ => by simp only [Rep]) h
theorem te_non {j} : PE X (.Constant .none j pos) (tW X.K XW (wC .non)) := pe_non.weak fun σ H Q h => tC_of (fun _ _ => by simp only [Rep]) h
theorem te_str {x j} : PE X (.Constant (.str x) j pos) (tW X.K XW (wC (.str x))) := pe_str.weak fun σ H Q h => tC_of (fun _ _ => by simp only [Rep]) h
/-- a module's constant -/
theorem te_glob {x : Str} {d : D} {u : Value} (v : V) (hg : Gl X x) (hm : X.mg x = some u) (r : RelV v u) (rd : ∀ F H, Rep X.K F H d v) (hd : (x == ("__debug__" : Str)) = false := by decide) : PE X (.Name x pos) (tW X.K XW (wC d)) :=
  (pe_glob hg hm r hd).weak fun σ H Q h => tC_of rd h
/-- a local name -/
def wV (i : Nat) : WEx := fun en P _ => ∃ r, en.ρ[i]? = some (some r) ∧ P r en
theorem tVar_of {K : PySem.W.Frag} {i : Nat} {σ : St} {H : Hp} {Q : VK} (h : tW K XW (wV i) σ H Q) : tVar i σ H Q := by
  obtain ⟨as, en, F, P, PX, es, ⟨r, e, hp⟩, hq, hx⟩ := h
  obtain ⟨v, e1, rp⟩ := es.sl i r e
  exact ⟨v, e1, hq v H r en F es Step.refl rp.r hp⟩
theorem te_v (i : Nat) {x : Str} (hN : X.N[i]? = some x := by rfl) (hv : Vis X.env.scope x := by first | exact Or.inl rfl | exact Or.inr (Or.inl rfl) | exact Or.inr (Or.inr rfl)) (hd : (x == ("__debug__" : Str)) = false := by decide)
    (hcd : (x == ("__classdict__" : Str)) = false := by decide) : PE X (.Name x pos) (tW X.K XW (wV i)) := (pe_var hN hv hd hcd).weak fun σ H Q h => tVar_of h

/-! ### two operands -/
def w2 (op : R → R → WEx) (wa wb : WEx) : WEx := fun en P PX => wa en (fun ra en1 => wb en1 (fun rb en2 => op ra.fz rb.fz en2 P PX) PX) PX
def l2 (op : R → R → WEx) : List R → WEx := fun rs => match rs with
  | [rb, ra] => op ra rb
  | _ => fun _ _ _ => False
theorem tOp_of {K : PySem.W.Frag} {op : R → R → WEx} {r : R2} {σ : St} {H : Hp} {Q : VK} (fin : ∀ x y H2, tP K XW [y, x] (l2 op) σ H2 Q → r x y H2 Q) (h : tW K XW (w2 op wa wb) σ H Q) :
    tOp r (tW K XW wa) (tW K XW wb) σ H Q := by
  have h1 : tP K XW [] (fun rs en P PX => wa en (fun ra en1 => (fun rs en1 P PX => wb en1 (fun rb en2 => (l2 op) (rb.fz :: rs) en2 P PX) PX) (ra.fz :: rs) en1 P PX) PX) σ H Q := by
    obtain ⟨as, en, F, P, PX, es, hw, hq, hx⟩ := h
    exact ⟨as, en.os, F, H, en, F, [], P, PX, es, Step.refl, .nil, hw, hq, hx⟩
  have h2 := tP_step (wa := wa) (w := fun rs en1 P PX => wb en1 (fun rb en2 => l2 op (rb.fz :: rs) en2 P PX) PX) h1
  obtain ⟨as, en, F, P, PX, es, hw, hq, hx⟩ := h2
  exact ⟨as, en, F, P, PX, es, hw, fun v H' r' en' F' e s rr hp => by
    have h3 := tP_step (wa := wb) (w := l2 op) (hq v H' r' en' F' e s rr hp)
    obtain ⟨as, en, F, P, PX, es, hw, hq, hx⟩ := h3
    exact ⟨as, en, F, P, PX, es, hw, fun v H' r' en' F' e s rr hp => fin _ _ _ (hq v H' r' en' F' e s rr hp), hx⟩, hx⟩
end
end L2.TL

/-! text TL3 -/
set_option Elab.async false
set_option linter.all false
set_option maxRecDepth 100000
set_option maxHeartbeats 2000000
namespace L2.TL
open PySem PySem.Spec PyProof.Rows

/-! ### what is seen of a value that is only read -/
def Sees (K : PySem.W.Frag) (F : Addr → Prop) (H : Hp) (d : D) (v : V) : Prop := Rep K F H d v ∨ ∃ a, v = .ref a ∧ Own K F H d a
section
variable {K : PySem.W.Frag} {as : List Addr} {os : Os} {F : Addr → Prop} {H : Hp} {v : V}
theorem RepP.sees (h : HS K as os F H) : ∀ {r : R} {d : D}, RepP K as F H r v → r.val os = some d → Sees K F H d v
  | .sh d', d, q, e => by cases e; exact .inl q
  | .ow k, d, ⟨a, e1, e2⟩, e => by
    have e' : os[k]? = some (some d) := by
      simp only [R.val] at e
      cases z : os[k]? with
      | none => rw [z] at e; cases e
      | some o => rw [z] at e; cases o with
        | none => cases e
        | some d' => simp only [Option.join] at e; cases e; rfl
    obtain ⟨b, e3, own, _⟩ := h.own k d e'
    rw [e1] at e3; cases e3
    exact .inr ⟨a, e2, own⟩
  | .fr _, _, q, _ => q.elim
theorem Sees.lst {ds : List D} (h : Sees K F H (.lst ds) v) : ∃ a vs, v = .ref a ∧ Rd H a (.lst vs) ∧ vs.length ≤ sizeLine ∧ RepL K F H ds vs := by
  rcases h with h | ⟨a, e, vs, q⟩
  · simp only [Rep] at h
    obtain ⟨a, vs, e, f, r⟩ := h
    exact ⟨a, vs, e, r⟩
  · exact ⟨a, vs, e, .inl q.1, q.2⟩
theorem Sees.tup {ds : List D} (h : Sees K F H (.tup ds) v) : ∃ a vs, v = .ref a ∧ H a = some (.tup vs) ∧ vs.length ≤ sizeLine ∧ RepL K F H ds vs := by
  rcases h with h | ⟨a, e, q⟩
  · simp only [Rep] at h
    obtain ⟨a, vs, e, r, z⟩ := h
    exact ⟨a, vs, e, r, z⟩
  · exact q.elim
theorem Sees.dk {kvs : List (Key × D)} (h : Sees K F H (.dk kvs) v) : ∃ a ks, v = .ref a ∧ Rd H a (.dK ks) ∧ RepK K F H kvs ks := by
  rcases h with h | ⟨a, e, ks, q, r⟩
  · simp only [Rep] at h
    obtain ⟨a, ks, e, f, r⟩ := h
    exact ⟨a, ks, e, r⟩
  · exact ⟨a, ks, e, .inl q, r⟩
theorem Sees.dt {kvs : List (List Key × D)} (h : Sees K F H (.dt kvs) v) : ∃ a ks, v = .ref a ∧ Rd H a (.dT ks) ∧ RepT K F H kvs ks := by
  rcases h with h | ⟨a, e, ks, q, r⟩
  · simp only [Rep] at h
    obtain ⟨a, ks, e, f, r⟩ := h
    exact ⟨a, ks, e, r⟩
  · exact ⟨a, ks, e, .inl q, r⟩
theorem Sees.ins {C : Addr} {fs : List (Str × D)} (h : Sees K F H (.ins C fs) v) : ∃ a dx gs, v = .ref a ∧ H a = some (.ins C dx gs) ∧ RepF K F H fs gs := by
  rcases h with h | ⟨a, e, dx, gs, q, r⟩
  · simp only [Rep] at h
    obtain ⟨a, dx, gs, e, f, r⟩ := h
    exact ⟨a, dx, gs, e, r⟩
  · exact ⟨a, dx, gs, e, q, r⟩
theorem Sees.int {i : Int} (h : Sees K F H (.int i) v) : v = .int i := h.elim (fun h => by simpa only [Rep] using h) fun ⟨_, _, q⟩ => q.elim
theorem Sees.str {i : Str} (h : Sees K F H (.str i) v) : v = .str i := h.elim (fun h => by simpa only [Rep] using h) fun ⟨_, _, q⟩ => q.elim
theorem Sees.bl {i : Bool} (h : Sees K F H (.bl i) v) : v = .bl i := h.elim (fun h => by simpa only [Rep] using h) fun ⟨_, _, q⟩ => q.elim
theorem Sees.non (h : Sees K F H .non v) : v = .non := h.elim (fun h => by simpa only [Rep] using h) fun ⟨_, _, q⟩ => q.elim
theorem Sees.obj {i : Addr} (h : Sees K F H (.obj i) v) : v = .ref i := h.elim (fun h => by simpa only [Rep] using h) fun ⟨_, _, q⟩ => q.elim
theorem Sees.ty {i : String} (h : Sees K F H (.ty i) v) : v = .ty i := h.elim (fun h => by simpa only [Rep] using h) fun ⟨_, _, q⟩ => q.elim

theorem RepL.length : ∀ {ds : List D} {vs : List V}, RepL K F H ds vs → vs.length = ds.length
  | [], vs, h => by simp only [RepL] at h; subst h; rfl
  | d :: ds, vs, h => by
    simp only [RepL] at h
    obtain ⟨w, ws, rfl, _, q⟩ := h
    simp only [List.length_cons, RepL.length q]
theorem RepL.get : ∀ {ds : List D} {vs : List V} {i : Nat} {d : D}, RepL K F H ds vs → ds[i]? = some d → ∃ w, vs[i]? = some w ∧ Rep K F H d w
  | [], _, _, _, _, e => by simp at e
  | d :: ds, vs, 0, _, h, e => by
    simp only [RepL] at h
    obtain ⟨w, ws, rfl, r, q⟩ := h
    simp at e; subst e
    exact ⟨w, rfl, r⟩
  | d :: ds, vs, i + 1, x, h, e => by
    simp only [RepL] at h
    obtain ⟨w, ws, rfl, r, q⟩ := h
    exact RepL.get (i := i) q (by simpa using e)
theorem RepL.get' : ∀ {ds : List D} {vs : List V} {i : Nat} {w : V}, RepL K F H ds vs → vs[i]? = some w → ∃ d, ds[i]? = some d ∧ Rep K F H d w
  | [], vs, _, _, h, e => by simp only [RepL] at h; subst h; simp at e
  | d :: ds, vs, 0, _, h, e => by
    simp only [RepL] at h
    obtain ⟨w, ws, rfl, r, q⟩ := h
    simp at e; subst e
    exact ⟨d, rfl, r⟩
  | d :: ds, vs, i + 1, x, h, e => by
    simp only [RepL] at h
    obtain ⟨w, ws, rfl, r, q⟩ := h
    exact RepL.get' (i := i) q (by simpa using e)
theorem RepL.append : ∀ {ds es : List D} {vs ws : List V}, RepL K F H ds vs → RepL K F H es ws → RepL K F H (ds ++ es) (vs ++ ws)
  | [], _, vs, _, h, q => by simp only [RepL] at h; subst h; exact q
  | d :: ds, _, vs, _, h, q => by
    simp only [RepL] at h
    obtain ⟨w, us, rfl, r, z⟩ := h
    show RepL K F H (d :: (ds ++ _)) _
    simp only [RepL]
    exact ⟨w, _, rfl, r, RepL.append z q⟩
theorem RepL.drop : ∀ {ds : List D} {vs : List V} (n : Nat), RepL K F H ds vs → RepL K F H (ds.drop n) (vs.drop n)
  | _, _, 0, h => by simpa using h
  | [], vs, n + 1, h => by simp only [RepL] at h; subst h; simp [RepL]
  | d :: ds, vs, n + 1, h => by
    simp only [RepL] at h
    obtain ⟨w, us, rfl, r, z⟩ := h
    simpa using RepL.drop n z
theorem RepL.take : ∀ {ds : List D} {vs : List V} (n : Nat), RepL K F H ds vs → RepL K F H (ds.take n) (vs.take n)
  | _, _, 0, h => by simp [RepL]
  | [], vs, n + 1, h => by simp only [RepL] at h; subst h; simp [RepL]
  | d :: ds, vs, n + 1, h => by
    simp only [RepL] at h
    obtain ⟨w, us, rfl, r, z⟩ := h
    simp only [List.take_succ_cons, RepL]
    exact ⟨w, _, rfl, r, RepL.take n z⟩
theorem RepL.cons {d : D} {ds : List D} {v : V} {vs : List V} (h : Rep K F H d v) (q : RepL K F H ds vs) : RepL K F H (d :: ds) (v :: vs) := by
  simp only [RepL]; exact ⟨v, vs, rfl, h, q⟩
theorem RepL.nil : RepL K F H [] [] := by simp [RepL]
theorem RepF.lookup : ∀ {fs : List (Str × D)} {gs : List (Str × V)} {f : Str} {d : D}, RepF K F H fs gs → fs.lookup f = some d → ∃ w, gs.lookup f = some w ∧ Rep K F H d w
  | [], _, _, _, _, e => by simp at e
  | (k, d) :: fs, gs, f, x, h, e => by
    simp only [RepF] at h
    obtain ⟨w, ws, rfl, r, q⟩ := h
    rw [List.lookup_cons] at e ⊢
    split at e
    · cases e; exact ⟨w, rfl, r⟩
    · exact RepF.lookup q e
theorem RepF.lookupN : ∀ {fs : List (Str × D)} {gs : List (Str × V)} {f : Str}, RepF K F H fs gs → fs.lookup f = none → gs.lookup f = none
  | [], gs, _, h, _ => by simp only [RepF] at h; subst h; rfl
  | (k, d) :: fs, gs, f, h, e => by
    simp only [RepF] at h
    obtain ⟨w, ws, rfl, r, q⟩ := h
    rw [List.lookup_cons] at e ⊢
    split at e
    · cases e
    · exact RepF.lookupN q e
end

/-! ### finishing -/
section
variable {K : PySem.W.Frag} {XW : WX} {σ : St} {as : List Addr} {os0 : Os} {F0 F : Addr → Prop} {H0 H : Hp} {en : En}
theorem new_fr {p : Addr} {o : HO} {d : D} (es : ES K as en F H σ) (s : Step as os0 F0 H0 as en.os F H) (hp : H p = none) (own : Own K F (upd H p o) d p) :
    ES K as en F (upd H p o) σ ∧ Step as os0 F0 H0 as en.os F (upd H p o) ∧ RepR K as F H0 (upd H p o) (.fr d) (.ref p) := by
  refine ⟨es.upd_new hp, s.trans (Step.upd_new hp), p, rfl, ?_, es.notin hp, es.notF hp, own⟩
  rcases s.fresh hp with z | z
  · exact z
  · exact absurd z.mem (es.notin hp)
theorem new_sh {p : Addr} {o : HO} {d : D} (es : ES K as en F H σ) (s : Step as os0 F0 H0 as en.os F H) (hp : H p = none) (r : Rep K (plus F p) (upd H p o) d (.ref p)) :
    ES K as en (plus F p) (upd H p o) σ ∧ Step as os0 F0 H0 as en.os (plus F p) (upd H p o) ∧ RepR K as (plus F p) H0 (upd H p o) (.sh d) (.ref p) := by
  have h0 : H0 p = none := by
    rcases s.fresh hp with z | z
    · exact z
    · exact absurd z.mem (es.notin hp)
  exact ⟨(es.upd_new hp).plus (by rw [upd_same]; exact fun z => by cases z) (es.notin hp), (s.trans (Step.upd_new hp)).plus h0, r⟩
theorem mon_new {p : Addr} {o : HO} (hp : H p = none) : Mon F H (plus F p) (upd H p o) :=
  have m := mon_upd (F := F) (o := o) hp
  ⟨fun _ z => .inl z, m.rd, m.at', m.tp⟩
theorem new_tup {p : Addr} {ds : List D} {vs : List V} (es : ES K as en F H σ) (s : Step as os0 F0 H0 as en.os F H) (hp : H p = none) (hz : vs.length ≤ sizeLine) (r : RepL K F H ds vs) :
    ES K as en (plus F p) (upd H p (.tup vs)) σ ∧ Step as os0 F0 H0 as en.os (plus F p) (upd H p (.tup vs)) ∧ RepR K as (plus F p) H0 (upd H p (.tup vs)) (.sh (.tup ds)) (.ref p) := by
  refine new_sh es s hp ?_
  simp only [Rep]
  exact ⟨p, vs, rfl, upd_same, hz, RepL.mono (mon_new hp) _ _ r⟩
theorem new_lst {p : Addr} {ds : List D} {vs : List V} (es : ES K as en F H σ) (s : Step as os0 F0 H0 as en.os F H) (hp : H p = none) (hz : vs.length ≤ sizeLine) (r : RepL K F H ds vs) :
    ES K as en F (upd H p (.lst vs)) σ ∧ Step as os0 F0 H0 as en.os F (upd H p (.lst vs)) ∧ RepR K as F H0 (upd H p (.lst vs)) (.fr (.lst ds)) (.ref p) :=
  new_fr es s hp ⟨vs, upd_same, hz, RepL.mono (mon_upd hp) _ _ r⟩
end

/-! ### operators -/
section
variable {X : Cx} {XW : WX} {pos : Pos} {a b c : Expr} {es : List Expr} {wa wb wc : WEx} {ua ub : WBx} {ws : WAx}
/-- ints -/
def oI (g : Int → Int → D) : R → R → WEx := fun ra rb en P _ => match ra, rb with
  | .sh (.int i), .sh (.int j) => P (.sh (g i j)) en
  | _, _ => False
def oIc (C : Int → Int → Prop) (g : Int → Int → D) : R → R → WEx := fun ra rb en P _ => match ra, rb with
  | .sh (.int i), .sh (.int j) => C i j ∧ P (.sh (g i j)) en
  | _, _ => False
theorem oI_fin {K : PySem.W.Frag} {g : Int → Int → D} {gV : Int → Int → V} (hg : ∀ i j F H, Rep K F H (g i j) (gV i j)) {σ : St} {H : Hp} {Q : VK} {x y : V} (h : tP K XW [y, x] (l2 (oI g)) σ H Q) : rI0 gV x y H Q := by
  obtain ⟨as, os0, F0, H0, en, F, rs, P, PX, es, st, pr, hw, hq, hx⟩ := h
  cases pr with
  | cons ry pr =>
    cases pr with
    | cons rx pr =>
      cases pr
      rename_i b' a'
      simp only [l2, oI] at hw
      split at hw
      · simp only [RepP, Rep] at rx ry
        exact ⟨_, _, rx, ry, hq _ H (.sh (g _ _)) en F es st (hg _ _ _ _) hw⟩
      · exact hw.elim
theorem oIc_fin {K : PySem.W.Frag} {C : Int → Int → Prop} {g : Int → Int → D} {gV : Int → Int → V} (hg : ∀ i j F H, Rep K F H (g i j) (gV i j)) {σ : St} {H : Hp} {Q : VK} {x y : V} (h : tP K XW [y, x] (l2 (oIc C g)) σ H Q) : rI C gV x y H Q := by
  obtain ⟨as, os0, F0, H0, en, F, rs, P, PX, es, st, pr, hw, hq, hx⟩ := h
  cases pr with
  | cons ry pr =>
    cases pr with
    | cons rx pr =>
      cases pr
      simp only [l2, oIc] at hw
      split at hw
      · simp only [RepP, Rep] at rx ry
        exact ⟨_, _, rx, ry, hw.1, hq _ H (.sh (g _ _)) en F es st (hg _ _ _ _) hw.2⟩
      · exact hw.elim
abbrev oSub : R → R → WEx := oI fun i j => .int (i - j)
abbrev oMul : R → R → WEx := oIc CMul fun i j => .int (i * j)
abbrev oDiv : R → R → WEx := oIc (fun i j => 0 < j ∧ j < 1073741824) fun i j => .int (i / j)
abbrev oMod : R → R → WEx := oIc (fun _ j => 0 < j) fun i j => .int (i % j)
abbrev oPow : R → R → WEx := oIc CPow fun i j => .int (i ^ j.toNat)
abbrev oLt : R → R → WEx := oI fun i j => .bl (decide (i < j))
abbrev oLe : R → R → WEx := oI fun i j => .bl (decide (i ≤ j))
abbrev oGt : R → R → WEx := oI fun i j => .bl (decide (j < i))
abbrev oGe : R → R → WEx := oI fun i j => .bl (decide (j ≤ i))
theorem te_sub (ha : PE X a (tW X.K XW wa)) (hb : PE X b (tW X.K XW wb)) : PE X (.BinOp a .Sub b pos) (tW X.K XW (w2 oSub wa wb)) :=
  (pe_op op_sub ha hb).weak fun σ H Q h => tOp_of (fun x y H2 h => oI_fin (fun _ _ _ _ => by simp only [Rep]) h) h
theorem te_mul (ha : PE X a (tW X.K XW wa)) (hb : PE X b (tW X.K XW wb)) : PE X (.BinOp a .Mult b pos) (tW X.K XW (w2 oMul wa wb)) :=
  (pe_op op_mul ha hb).weak fun σ H Q h => tOp_of (fun x y H2 h => oIc_fin (fun _ _ _ _ => by simp only [Rep]) h) h
theorem te_div (ha : PE X a (tW X.K XW wa)) (hb : PE X b (tW X.K XW wb)) : PE X (.BinOp a .FloorDiv b pos) (tW X.K XW (w2 oDiv wa wb)) :=
  (pe_op op_fdiv ha hb).weak fun σ H Q h => tOp_of (fun x y H2 h => oIc_fin (fun _ _ _ _ => by simp only [Rep]) h) h
theorem te_mod (ha : PE X a (tW X.K XW wa)) (hb : PE X b (tW X.K XW wb)) : PE X (.BinOp a .Mod b pos) (tW X.K XW (w2 oMod wa wb)) :=
  (pe_op op_mod ha hb).weak fun σ H Q h => tOp_of (fun x y H2 h => oIc_fin (fun _ _ _ _ => by simp only [Rep]) h) h
theorem te_pow (ha : PE X a (tW X.K XW wa)) (hb : PE X b (tW X.K XW wb)) : PE X (.BinOp a .Pow b pos) (tW X.K XW (w2 oPow wa wb)) :=
  (pe_op op_pow ha hb).weak fun σ H Q h => tOp_of (fun x y H2 h => oIc_fin (fun _ _ _ _ => by simp only [Rep]) h) h
theorem te_cmpI {op : CmpOp} {p : Int → Int → Bool} (ho : OpR X (compareOp op) (rI0 fun i j => .bl (p i j))) (hm : behindInMarks op b = false) (ha : PE X a (tW X.K XW wa)) (hb : PE X b (tW X.K XW wb)) : PE X (.Compare a [op] [b] pos) (tW X.K XW (w2 (oI fun i j => .bl (p i j)) wa wb)) :=
  (pe_cmpR ho ha hb hm).weak fun σ H Q h => tOp_of (fun x y H2 h => oI_fin (fun _ _ _ _ => by simp only [Rep]) h) h
theorem te_lt (ha : PE X a (tW X.K XW wa)) (hb : PE X b (tW X.K XW wb)) : PE X (.Compare a [.Lt] [b] pos) (tW X.K XW (w2 oLt wa wb)) := te_cmpI op_lt (nomark _) ha hb
theorem te_le (ha : PE X a (tW X.K XW wa)) (hb : PE X b (tW X.K XW wb)) : PE X (.Compare a [.LtE] [b] pos) (tW X.K XW (w2 oLe wa wb)) := te_cmpI op_le (nomark _) ha hb
theorem te_gt (ha : PE X a (tW X.K XW wa)) (hb : PE X b (tW X.K XW wb)) : PE X (.Compare a [.Gt] [b] pos) (tW X.K XW (w2 oGt wa wb)) := te_cmpI op_gt (nomark _) ha hb
theorem te_ge (ha : PE X a (tW X.K XW wa)) (hb : PE X b (tW X.K XW wb)) : PE X (.Compare a [.GtE] [b] pos) (tW X.K XW (w2 oGe wa wb)) := te_cmpI op_ge (nomark _) ha hb

theorem lstR {pins : List (Addr × Obj)} {σ : St} {H : Hp} {s : Shared} {l : Addr} {xs : List V} (I : Inv X pins σ H s) (h : Rd H l (.lst xs)) : xs.length ≤ sizeLine ∧ ∃ (its : List Value) (n : Nat), Vals xs its ∧ xs.length = its.length ∧ s.heap.get? l = some { cls := .type "list", data := .seq its.toArray n } := by
  rcases h with h | ⟨o, h⟩
  · exact I.lstM h
  · obtain ⟨e0, z, its, n, r, e⟩ := I.hok l _ h
    exact ⟨z, its, n, r, r.length, e⟩
def rCatR : R2 := fun x y H Q => ∃ l b xs zs, x = .ref l ∧ y = .ref b ∧ Rd H l (.lst xs) ∧ Rd H b (.lst zs) ∧ xs.length + zs.length ≤ sizeLine ∧ ∀ p, H p = none → Q (.ref p) (upd H p (.lst (xs ++ zs)))
theorem op_catR : OpR X (binaryOp .Add) rCatR := by
  intro pins s σ H x y v u Q I rx ry h
  obtain ⟨l, b, xs, zs, rfl, rfl, hl, hb, hz, q⟩ := h
  cases rx; cases ry
  obtain ⟨_, i1, n1, r1, l1, e1⟩ := lstR I hl
  obtain ⟨_, i2, n2, r2, l2, e2⟩ := lstR I hb
  refine PySem.P.add_list e1 e2 ?_ (by simp only [List.size_toArray]; omega)
  rw [show i1.toArray ++ i2.toArray = (i1 ++ i2).toArray by simp]
  exact ⟨.ref _, _, I.lnew (t' := s.toks) (r1.append r2) (by rw [List.length_append]; omega), rfl, q _ I.fresh⟩
/-- + of ints, texts, lists -/
def oAdd : R → R → WEx := fun ra rb en P _ => match ra.val en.os, rb.val en.os with
  | some (.int i), some (.int j) => P (.sh (.int (i + j))) en
  | some (.str i), some (.str j) => i.length + j.length ≤ sizeLine ∧ P (.sh (.str (i ++ j))) en
  | some (.lst xs), some (.lst ys) => xs.length + ys.length ≤ sizeLine ∧ P (.fr (.lst (xs ++ ys))) en
  | _, _ => False
theorem te_add (ha : PE X a (tW X.K XW wa)) (hb : PE X b (tW X.K XW wb)) : PE X (.BinOp a .Add b pos) (tW X.K XW (w2 oAdd wa wb)) :=
  (pe_op (op_add.or (op_add_str.or op_catR)) ha hb).weak fun σ H Q h => tOp_of (fun x y H h => by
    obtain ⟨as, os0, F0, H0, en, F, rs, P, PX, es, st, pr, hw, hq, hx⟩ := h
    cases pr with
    | cons ry pr =>
      cases pr with
      | cons rx pr =>
        cases pr
        simp only [l2, oAdd] at hw
        split at hw
        · rename_i e1 e2
          exact .inl ⟨_, _, (rx.sees es.hs e1).int, (ry.sees es.hs e2).int, hq _ H _ en F es st (by simp only [RepR, Rep]) hw⟩
        · rename_i e1 e2
          exact .inr (.inl ⟨_, _, (rx.sees es.hs e1).str, (ry.sees es.hs e2).str, hw.1, hq _ H _ en F es st (by simp only [RepR, Rep]) hw.2⟩)
        · rename_i e1 e2
          obtain ⟨l, vs, e3, hl, hz, rl⟩ := (rx.sees es.hs e1).lst
          obtain ⟨m, us, e4, hm, hz', rm⟩ := (ry.sees es.hs e2).lst
          refine .inr (.inr ⟨l, m, vs, us, e3, e4, hl, hm, by rw [rl.length, rm.length]; exact hw.1, fun p hp => ?_⟩)
          obtain ⟨q1, q2, q3⟩ := new_lst es st hp (by rw [List.length_append, rl.length, rm.length]; exact hw.1) (rl.append rm)
          exact hq _ _ _ en F q1 q2 q3 hw.2
        · exact hw.elim) h

/-! ### tests -/
/-- an expression that gives a truth value, as a test -/
def wT (w : WEx) : WBx := fun en P PX => w en (fun r en1 => match r with
  | .sh (.bl k) => P k en1
  | _ => False) PX
theorem tb_val (ha : PE X a (tW X.K XW wa)) (he : ∀ whole, isTrue a X.env whole = (do let v ← whole; standAt a.pos; holding [v] (truthy v)) := by intro _; rfl) : PT X a (tWB X.K XW (wT wa)) :=
  (pt_val ha he).weak fun σ H Q h => by
    obtain ⟨as, en, F, P, PX, es, hw, hq, hx⟩ := h
    refine ⟨as, en, F, _, PX, es, hw, fun v H1 r en1 F1 e1 s1 rr hp => ?_, hx⟩
    split at hp
    · simp only [RepR, Rep] at rr
      exact ⟨_, rr, hq _ H1 en1 F1 e1 s1 hp⟩
    · exact hp.elim
/-- a comparison as a test: te's form -/
theorem tb_cmp {op : CmpOp} {r : R2} {o : R → R → WEx} (ho : OpR X (compareOp op) r) (fin : ∀ σ H Q x y, tP X.K XW [y, x] (l2 o) σ H Q → r x y H Q) (hm : behindInMarks op b = false) (ha : PE X a (tW X.K XW wa)) (hb : PE X b (tW X.K XW wb)) :
    PT X (.Compare a [op] [b] pos) (tWB X.K XW (wT (w2 o wa wb))) :=
  (pt_cmpR ho ha hb hm).weak fun σ H Q h => by
    have h' : tW X.K XW (w2 o wa wb) σ H (fun x H' => ∃ k, x = .bl k ∧ Q k H') := by
      obtain ⟨as, en, F, P, PX, es, hw, hq, hx⟩ := h
      refine ⟨as, en, F, _, PX, es, hw, fun v H1 r en1 F1 e1 s1 rr hp => ?_, hx⟩
      split at hp
      · simp only [RepR, Rep] at rr
        exact ⟨_, rr, hq _ H1 en1 F1 e1 s1 hp⟩
      · exact hp.elim
    exact tOp_of (fun x y H2 h => fin _ _ _ _ _ h) h'
theorem tb_lt (ha : PE X a (tW X.K XW wa)) (hb : PE X b (tW X.K XW wb)) : PT X (.Compare a [.Lt] [b] pos) (tWB X.K XW (wT (w2 oLt wa wb))) := tb_cmp op_lt (fun σ H Q x y h => oI_fin (fun _ _ _ _ => by simp only [Rep]) h) (nomark _) ha hb
theorem tb_le (ha : PE X a (tW X.K XW wa)) (hb : PE X b (tW X.K XW wb)) : PT X (.Compare a [.LtE] [b] pos) (tWB X.K XW (wT (w2 oLe wa wb))) := tb_cmp op_le (fun σ H Q x y h => oI_fin (fun _ _ _ _ => by simp only [Rep]) h) (nomark _) ha hb
theorem tb_gt (ha : PE X a (tW X.K XW wa)) (hb : PE X b (tW X.K XW wb)) : PT X (.Compare a [.Gt] [b] pos) (tWB X.K XW (wT (w2 oGt wa wb))) := tb_cmp op_gt (fun σ H Q x y h => oI_fin (fun _ _ _ _ => by simp only [Rep]) h) (nomark _) ha hb
theorem tb_ge (ha : PE X a (tW X.K XW wa)) (hb : PE X b (tW X.K XW wb)) : PT X (.Compare a [.GtE] [b] pos) (tWB X.K XW (wT (w2 oGe wa wb))) := tb_cmp op_ge (fun σ H Q x y h => oI_fin (fun _ _ _ _ => by simp only [Rep]) h) (nomark _) ha hb
def wAnd (u v : WBx) : WBx := fun en P PX => u en (fun k en1 => match k with
  | true => v en1 P PX
  | false => P false en1) PX
def wOr (u v : WBx) : WBx := fun en P PX => u en (fun k en1 => match k with
  | true => P true en1
  | false => v en1 P PX) PX
def wNot (u : WBx) : WBx := fun en P PX => u en (fun k en1 => P (!k) en1) PX
variable {rest : List Expr}
theorem tw_and1 (ha : PT X a (tWB X.K XW ua)) : PW X (.BoolOp .And [a] pos) (tWB X.K XW ua) := pw_and1 ha
theorem tw_or1 (ha : PT X a (tWB X.K XW ua)) : PW X (.BoolOp .Or [a] pos) (tWB X.K XW ua) := pw_or1 ha
theorem tw_and (ha : PT X a (tWB X.K XW ua)) (hb : PW X (.BoolOp .And (b :: rest) pos) (tWB X.K XW ub)) : PW X (.BoolOp .And (a :: b :: rest) pos) (tWB X.K XW (wAnd ua ub)) :=
  (pw_and ha hb).weak fun σ H Q h => by
    obtain ⟨as, en, F, P, PX, es, hw, hq, hx⟩ := h
    refine ⟨as, en, F, _, PX, es, hw, fun k H1 en1 F1 e1 s1 hp => ?_, hx⟩
    cases k with
    | false => exact iteF (hq false H1 en1 F1 e1 s1 hp)
    | true => exact iteT ⟨as, en1, F1, P, PX, e1, hp, fun k H2 en2 F2 e2 s2 hp => hq k H2 en2 F2 e2 (s1.trans s2) hp, hx.from s1⟩
theorem tw_or (ha : PT X a (tWB X.K XW ua)) (hb : PW X (.BoolOp .Or (b :: rest) pos) (tWB X.K XW ub)) : PW X (.BoolOp .Or (a :: b :: rest) pos) (tWB X.K XW (wOr ua ub)) :=
  (pw_or ha hb).weak fun σ H Q h => by
    obtain ⟨as, en, F, P, PX, es, hw, hq, hx⟩ := h
    refine ⟨as, en, F, _, PX, es, hw, fun k H1 en1 F1 e1 s1 hp => ?_, hx⟩
    cases k with
    | true => exact iteT (hq true H1 en1 F1 e1 s1 hp)
    | false => exact iteF ⟨as, en1, F1, P, PX, e1, hp, fun k H2 en2 F2 e2 s2 hp => hq k H2 en2 F2 e2 (s1.trans s2) hp, hx.from s1⟩
theorem tb_not (ha : PT X a (tWB X.K XW ua)) : PT X (.UnaryOp .Not a pos) (tWB X.K XW (wNot ua)) :=
  (pt_not ha).weak fun σ H Q h => by
    obtain ⟨as, en, F, P, PX, es, hw, hq, hx⟩ := h
    exact ⟨as, en, F, _, PX, es, hw, fun k H1 en1 F1 e1 s1 hp => hq _ H1 en1 F1 e1 s1 hp, hx⟩
/-- and, or, not as values of truth -/
def wAndV (w v : WEx) : WEx := fun en P PX => w en (fun r en1 => match r with
  | .sh (.bl true) => v en1 P PX
  | .sh (.bl false) => P (.sh (.bl false)) en1
  | _ => False) PX
def wOrV (w v : WEx) : WEx := fun en P PX => w en (fun r en1 => match r with
  | .sh (.bl true) => P (.sh (.bl true)) en1
  | .sh (.bl false) => v en1 P PX
  | _ => False) PX
def wNotV (w : WEx) : WEx := fun en P PX => w en (fun r en1 => match r with
  | .sh (.bl k) => P (.sh (.bl (!k))) en1
  | _ => False) PX
theorem RepR.lift {K : PySem.W.Frag} {as : List Addr} {os : Os} {F F1 : Addr → Prop} {H H1 H2 : Hp} {os1 : Os} {G : Addr → Prop} (s : Step as os F H as os1 F1 H1) : ∀ {r : R} {v : V}, RepR K as G H1 H2 r v → RepR K as G H H2 r v
  | .sh _, _, q => q
  | .ow _, _, q => q
  | .fr _, _, ⟨a, e, hn, ha, hf, own⟩ => ⟨a, e, by
    rcases s.fresh hn with z | z
    · exact z
    · exact absurd z.mem ha, ha, hf, own⟩
theorem te_one {op} {w : WEx} (h : PE X a (tW X.K XW w)) : PE X (.BoolOp op [a] pos) (tW X.K XW w) := pe_one h
theorem te_and (ha : PE X a (tW X.K XW wa)) (hb : PE X (.BoolOp .And (b :: rest) pos) (tW X.K XW wb)) : PE X (.BoolOp .And (a :: b :: rest) pos) (tW X.K XW (wAndV wa wb)) :=
  (pe_and ha hb).weak fun σ H Q h => by
    obtain ⟨as, en, F, P, PX, es, hw, hq, hx⟩ := h
    refine ⟨as, en, F, _, PX, es, hw, fun v H1 r en1 F1 e1 s1 rr hp => ?_, hx⟩
    split at hp
    · simp only [RepR, Rep] at rr
      exact ⟨true, rr, iteT ⟨as, en1, F1, P, PX, e1, hp, fun v H2 r en2 F2 e2 s2 rr hp => hq v H2 r en2 F2 e2 (s1.trans s2) (rr.lift s1) hp, hx.from s1⟩⟩
    · simp only [RepR, Rep] at rr
      exact ⟨false, rr, iteF (hq _ H1 _ en1 F1 e1 s1 (by simp only [RepR, Rep]) hp)⟩
    · exact hp.elim
theorem te_or (ha : PE X a (tW X.K XW wa)) (hb : PE X (.BoolOp .Or (b :: rest) pos) (tW X.K XW wb)) : PE X (.BoolOp .Or (a :: b :: rest) pos) (tW X.K XW (wOrV wa wb)) :=
  (pe_or ha hb).weak fun σ H Q h => by
    obtain ⟨as, en, F, P, PX, es, hw, hq, hx⟩ := h
    refine ⟨as, en, F, _, PX, es, hw, fun v H1 r en1 F1 e1 s1 rr hp => ?_, hx⟩
    split at hp
    · simp only [RepR, Rep] at rr
      exact ⟨true, rr, iteT (hq _ H1 _ en1 F1 e1 s1 (by simp only [RepR, Rep]) hp)⟩
    · simp only [RepR, Rep] at rr
      exact ⟨false, rr, iteF ⟨as, en1, F1, P, PX, e1, hp, fun v H2 r en2 F2 e2 s2 rr hp => hq v H2 r en2 F2 e2 (s1.trans s2) (rr.lift s1) hp, hx.from s1⟩⟩
    · exact hp.elim
theorem te_not (ha : PE X a (tW X.K XW wa)) : PE X (.UnaryOp .Not a pos) (tW X.K XW (wNotV wa)) :=
  (pe_not ha).weak fun σ H Q h => by
    obtain ⟨as, en, F, P, PX, es, hw, hq, hx⟩ := h
    refine ⟨as, en, F, _, PX, es, hw, fun v H1 r en1 F1 e1 s1 rr hp => ?_, hx⟩
    split at hp
    · simp only [RepR, Rep] at rr
      exact ⟨_, rr, hq _ H1 _ en1 F1 e1 s1 (by simp only [RepR, Rep]) hp⟩
    · exact hp.elim
def wIf (u : WBx) (v w : WEx) : WEx := fun en P PX => u en (fun k en1 => match k with
  | true => v en1 P PX
  | false => w en1 P PX) PX
theorem te_if {c : Expr} (hc : PT X c (tWB X.K XW ua)) (ha : PE X a (tW X.K XW wa)) (hb : PE X b (tW X.K XW wb)) : PE X (.IfExp c a b pos) (tW X.K XW (wIf ua wa wb)) :=
  (pe_ifExp hc ha hb).weak fun σ H Q h => by
    obtain ⟨as, en, F, P, PX, es, hw, hq, hx⟩ := h
    refine ⟨as, en, F, _, PX, es, hw, fun k H1 en1 F1 e1 s1 hp => ?_, hx⟩
    cases k with
    | true => exact iteT ⟨as, en1, F1, P, PX, e1, hp, fun v H2 r en2 F2 e2 s2 rr hp => hq v H2 r en2 F2 e2 (s1.trans s2) (rr.lift s1) hp, hx.from s1⟩
    | false => exact iteF ⟨as, en1, F1, P, PX, e1, hp, fun v H2 r en2 F2 e2 s2 rr hp => hq v H2 r en2 F2 e2 (s1.trans s2) (rr.lift s1) hp, hx.from s1⟩
end
end L2.TL

/-! text TL4 -/
set_option Elab.async false
set_option linter.all false
set_option maxRecDepth 100000
set_option maxHeartbeats 2000000
namespace L2.TL
open PySem PySem.Spec PyProof.Rows

/-! ### == of data -/
mutual
def toPy : D → PyData
  | .non => .none
  | .bl b => .bool b
  | .int i => .int i
  | .str x => .str x
  | .lst xs => .list (toPyL xs)
  | .tup xs => .tuple (toPyL xs)
  | .obj _ => .dict []
  | .ty _ => .dict []
  | .dk _ => .dict []
  | .dt _ => .dict []
  | .ins _ _ => .dict []
def toPyL : List D → List PyData
  | [] => []
  | d :: ds => toPy d :: toPyL ds
end
mutual
theorem Rep.dp {K : PySem.W.Frag} {F : Addr → Prop} {H : Hp} : ∀ (d : D) (v : V), Rep K F H d v → (toPy d).canLay0 = true → Dp K H v (toPy d)
  | .non, v, h, _ => by simp only [Rep] at h; subst h; simp only [toPy]; exact .non
  | .bl b, v, h, _ => by simp only [Rep] at h; subst h; simp only [toPy]; exact .bl _
  | .int i, v, h, _ => by simp only [Rep] at h; subst h; simp only [toPy]; exact .int _
  | .str x, v, h, _ => by simp only [Rep] at h; subst h; simp only [toPy]; exact .str _
  | .lst xs, v, h, c => by
    simp only [Rep] at h
    obtain ⟨a, vs, rfl, f, e, z, r⟩ := h
    simp only [toPy, PyData.canLay0] at c ⊢
    exact .lst (.inl e) (RepL.dp xs vs r c)
  | .tup xs, v, h, c => by
    simp only [Rep] at h
    obtain ⟨a, vs, rfl, e, z, r⟩ := h
    simp only [toPy, PyData.canLay0] at c ⊢
    exact .tup (.of e) (RepL.dp xs vs r c)
  | .obj _, _, _, c => by simp only [toPy, PyData.canLay0] at c; cases c
  | .ty _, _, _, c => by simp only [toPy, PyData.canLay0] at c; cases c
  | .dk _, _, _, c => by simp only [toPy, PyData.canLay0] at c; cases c
  | .dt _, _, _, c => by simp only [toPy, PyData.canLay0] at c; cases c
  | .ins _ _, _, _, c => by simp only [toPy, PyData.canLay0] at c; cases c
theorem RepL.dp {K : PySem.W.Frag} {F : Addr → Prop} {H : Hp} : ∀ (ds : List D) (vs : List V), RepL K F H ds vs → PyData.canLayAll0 (toPyL ds) = true → DpAll K H vs (toPyL ds)
  | [], vs, h, _ => by simp only [RepL] at h; subst h; simp only [toPyL]; exact .nil
  | d :: ds, vs, h, c => by
    simp only [RepL] at h
    obtain ⟨w, ws, rfl, r, q⟩ := h
    simp only [toPyL, PyData.canLayAll0, Bool.and_eq_true] at c ⊢
    exact .cons (Rep.dp d w r c.1) (RepL.dp ds ws q c.2)
end
theorem Sees.dp {K : PySem.W.Frag} {F : Addr → Prop} {H : Hp} {d : D} {v : V} (h : Sees K F H d v) (c : (toPy d).canLay0 = true) : Dp K H v (toPy d) := by
  rcases h with h | ⟨a, rfl, h⟩
  · exact Rep.dp d v h c
  · cases d with
    | lst xs =>
      obtain ⟨vs, e, z, r⟩ := h
      simp only [toPy, PyData.canLay0] at c ⊢
      exact .lst (.of e) (RepL.dp xs vs r c)
    | dk _ => simp only [toPy, PyData.canLay0] at c; cases c
    | dt _ => simp only [toPy, PyData.canLay0] at c; cases c
    | ins _ _ => simp only [toPy, PyData.canLay0] at c; cases c
    | _ => exact h.elim
def eqD (x y : D) : Bool := PyData.eqv (toPy x) (toPy y)
def shD (x : D) : Bool := SeqAt.shaped (toPy x)

section
variable {X : Cx} {XW : WX} {pos p apos : Pos} {a b c e o : Expr} {es : List Expr} {wa wb wc wo : WEx} {ua ub : WBx} {ws : WAx}
def oEq (neg : Bool) : R → R → WEx := fun ra rb en P _ => match ra.val en.os, rb.val en.os with
  | some x, some y => shD x = true ∧ shD y = true ∧ P (.sh (.bl (if neg then !eqD x y else eqD x y))) en
  | _, _ => False
theorem oEq_fin {K : PySem.W.Frag} {σ : St} {H : Hp} {Q : VK} {x y : V} (h : tP K XW [y, x] (l2 (oEq false)) σ H Q) : rEqD K x y H Q := by
  obtain ⟨as, os0, F0, H0, en, F, rs, P, PX, es, st, pr, hw, hq, hx⟩ := h
  cases pr with
  | cons ry pr =>
    cases pr with
    | cons rx pr =>
      cases pr
      simp only [l2, oEq] at hw
      split at hw
      · rename_i e1 e2
        exact ⟨_, _, (rx.sees es.hs e1).dp (SeqAt.canLay_of_shaped hw.1), (ry.sees es.hs e2).dp (SeqAt.canLay_of_shaped hw.2.1), hw.1, hw.2.1, hq _ H (.sh (.bl (eqD _ _))) en F es st (by simp only [RepR, Rep, eqD]) hw.2.2⟩
      · exact hw.elim
theorem oNe_fin {K : PySem.W.Frag} {σ : St} {H : Hp} {Q : VK} {x y : V} (h : tP K XW [y, x] (l2 (oEq true)) σ H Q) : rNeD K x y H Q := by
  obtain ⟨as, os0, F0, H0, en, F, rs, P, PX, es, st, pr, hw, hq, hx⟩ := h
  cases pr with
  | cons ry pr =>
    cases pr with
    | cons rx pr =>
      cases pr
      simp only [l2, oEq] at hw
      split at hw
      · rename_i e1 e2
        exact ⟨_, _, (rx.sees es.hs e1).dp (SeqAt.canLay_of_shaped hw.1), (ry.sees es.hs e2).dp (SeqAt.canLay_of_shaped hw.2.1), hw.1, hw.2.1, hq _ H (.sh (.bl (!eqD _ _))) en F es st (by simp only [RepR, Rep, eqD]) hw.2.2⟩
      · exact hw.elim
theorem te_eq {k : Nat} (hr : Room k X.A) (ha : PE X a (tW X.K XW wa)) (hb : PE X b (tW X.K XW wb)) : PE X (.Compare a [.Eq] [b] pos) (tW X.K XW (w2 (oEq false) wa wb)) :=
  (pe_cmpR (op_eqD hr.units) ha hb (nomark _)).weak fun σ H Q h => tOp_of (fun x y H2 h => oEq_fin h) h
theorem te_ne {k : Nat} (hr : Room k X.A) (ha : PE X a (tW X.K XW wa)) (hb : PE X b (tW X.K XW wb)) : PE X (.Compare a [.NotEq] [b] pos) (tW X.K XW (w2 (oEq true) wa wb)) :=
  (pe_cmpR (op_neD hr.units) ha hb (nomark _)).weak fun σ H Q h => tOp_of (fun x y H2 h => oNe_fin h) h
theorem tb_eq {k : Nat} (hr : Room k X.A) (ha : PE X a (tW X.K XW wa)) (hb : PE X b (tW X.K XW wb)) : PT X (.Compare a [.Eq] [b] pos) (tWB X.K XW (wT (w2 (oEq false) wa wb))) := tb_cmp (op_eqD hr.units) (fun σ H Q x y h => oEq_fin h) (nomark _) ha hb
theorem tb_ne {k : Nat} (hr : Room k X.A) (ha : PE X a (tW X.K XW wa)) (hb : PE X b (tW X.K XW wb)) : PT X (.Compare a [.NotEq] [b] pos) (tWB X.K XW (wT (w2 (oEq true) wa wb))) := tb_cmp (op_neD hr.units) (fun σ H Q x y h => oNe_fin h) (nomark _) ha hb

/-! ### is None -/
def D.isNon : D → Bool
  | .non => true
  | _ => false
def wIsN (neg : Bool) (w : WEx) : WEx := fun en P PX => w en (fun r en1 => match r.val en1.os with
  | some d => P (.sh (.bl (if neg then !d.isNon else d.isNon))) en1
  | none => False) PX
theorem Sees.isNon {K : PySem.W.Frag} {F : Addr → Prop} {H : Hp} : ∀ {d : D} {v : V}, Sees K F H d v → d.isNon = decide (v = .non)
  | .non, v, h => by rw [h.non]; rfl
  | .bl _, v, h => by rw [h.bl]; rfl
  | .int _, v, h => by rw [h.int]; rfl
  | .str _, v, h => by rw [h.str]; rfl
  | .obj _, v, h => by rw [h.obj]; rfl
  | .ty _, v, h => by rw [h.ty]; rfl
  | .lst _, v, h => by obtain ⟨_, _, e, _⟩ := h.lst; rw [e]; rfl
  | .tup _, v, h => by obtain ⟨_, _, e, _⟩ := h.tup; rw [e]; rfl
  | .dk _, v, h => by obtain ⟨_, _, e, _⟩ := h.dk; rw [e]; rfl
  | .dt _, v, h => by obtain ⟨_, _, e, _⟩ := h.dt; rw [e]; rfl
  | .ins _ _, v, h => by obtain ⟨_, _, _, e, _⟩ := h.ins; rw [e]; rfl
theorem RepR.sees {K : PySem.W.Frag} {as : List Addr} {os : Os} {F : Addr → Prop} {H0 H : Hp} (h : HS K as os F H) {v : V} : ∀ {r : R} {d : D}, RepR K as F H0 H r v → r.val os = some d → Sees K F H d v
  | .sh d', d, q, e => RepP.sees (r := .sh d') h q e
  | .ow k, d, q, e => RepP.sees (r := .ow k) h q e
  | .fr d', d, ⟨a, e1, _, _, _, own⟩, e => by cases e; exact .inr ⟨a, e1, own⟩
theorem isN_of {neg : Bool} {K : PySem.W.Frag} {σ : St} {H : Hp} {Q : VK} (h : tW K XW (wIsN neg wa) σ H Q) : tW K XW wa σ H fun x H1 => Q (.bl (if neg then !decide (x = .non) else decide (x = .non))) H1 := by
  obtain ⟨as, en, F, P, PX, es, hw, hq, hx⟩ := h
  refine ⟨as, en, F, _, PX, es, hw, fun v H1 r en1 F1 e1 s1 rr hp => ?_, hx⟩
  split at hp
  · rename_i e2
    rw [(rr.sees e1.hs e2).isNon] at hp
    exact hq _ H1 (.sh (.bl _)) en1 F1 e1 s1 (by simp only [RepR, Rep]) hp
  · exact hp.elim
theorem te_isN {j pos'} (ha : PE X a (tW X.K XW wa)) : PE X (.Compare a [.Is] [.Constant .none j pos'] pos) (tW X.K XW (wIsN false wa)) :=
  (pe_cmp (pc_isN ha) rfl).weak fun σ H Q h => isN_of h
theorem te_notN {j pos'} (ha : PE X a (tW X.K XW wa)) : PE X (.Compare a [.IsNot] [.Constant .none j pos'] pos) (tW X.K XW (wIsN true wa)) :=
  (pe_cmp (pc_notN ha) rfl).weak fun σ H Q h => isN_of h
theorem wT_of {K : PySem.W.Frag} {w : WEx} {σ : St} {H : Hp} {Q : Bool → Hp → Prop} (h : tWB K XW (wT w) σ H Q) : tW K XW w σ H (fun x H' => ∃ k, x = .bl k ∧ Q k H') := by
  obtain ⟨as, en, F, P, PX, es, hw, hq, hx⟩ := h
  refine ⟨as, en, F, _, PX, es, hw, fun v H1 r en1 F1 e1 s1 rr hp => ?_, hx⟩
  split at hp
  · simp only [RepR, Rep] at rr
    exact ⟨_, rr, hq _ H1 en1 F1 e1 s1 hp⟩
  · exact hp.elim
theorem tb_isN {j pos'} (ha : PE X a (tW X.K XW wa)) : PT X (.Compare a [.Is] [.Constant .none j pos'] pos) (tWB X.K XW (wT (wIsN false wa))) :=
  (pt_cmp (pc_isN ha) rfl).weak fun σ H Q h => isN_of (neg := false) (wT_of h)
theorem tb_notN {j pos'} (ha : PE X a (tW X.K XW wa)) : PT X (.Compare a [.IsNot] [.Constant .none j pos'] pos) (tWB X.K XW (wT (wIsN true wa))) :=
  (pt_cmp (pc_notN ha) rfl).weak fun σ H Q h => isN_of (neg := true) (wT_of h)

/-! ### a chain of ints -/
def wChain (p q : Int → Int → Bool) (wa wb wc : WEx) : WEx := fun en P PX => wa en (fun ra en1 => wb en1 (fun rb en2 => match ra.fz, rb.fz with
  | .sh (.int i), .sh (.int j) => (match p i j with
    | true => wc en2 (fun rc en3 => match rc.fz with
      | .sh (.int k) => P (.sh (.bl (q j k))) en3
      | _ => False) PX
    | false => P (.sh (.bl false)) en2)
  | _, _ => False) PX) PX
theorem te_chain {op op' : CmpOp} {p q : Int → Int → Bool} (ho : OpR X (compareOp op) (rI0 fun i j => .bl (p i j))) (ho' : OpR X (compareOp op') (rI0 fun i j => .bl (q i j)))
    (ha : PE X a (tW X.K XW wa)) (hb : PE X b (tW X.K XW wb)) (hc : PE X c (tW X.K XW wc)) (hm : lastMarks [op, op'] [b, c] = false := by rfl) :
    PE X (.Compare a [op, op'] [b, c] pos) (tW X.K XW (wChain p q wa wb wc)) :=
  (pe_chain ho ho' ha hb hc hm).weak fun σ H Q h => by
    obtain ⟨as, en, F, P, PX, es, hw, hq, hx⟩ := h
    refine ⟨as, en, F, _, PX, es, hw, fun x H1 ra en1 F1 e1 s1 rra hp => ?_, hx⟩
    obtain ⟨G1, g1, t1, pa, _⟩ := wait es e1 Step.refl s1 rra
    refine ⟨as, en1, G1, _, PX, g1, hp, fun y H2 rb en2 F2 e2 s2 rrb hp2 => ?_, hx.from t1⟩
    obtain ⟨G2, g2, t2, pb, _⟩ := wait g1 e2 t1 s2 rrb
    split at hp2
    · rename_i i j ei ej
      rw [ei] at pa; rw [ej] at pb
      simp only [RepP, Rep] at pa pb
      refine ⟨i, j, pa, pb, p i j, rfl, ?_⟩
      split at hp2
      · rename_i ep
        rw [ep]
        refine iteT ⟨as, en2, G2, _, PX, g2, hp2, fun z H3 rc en3 F3 e3 s3 rrc hp3 => ?_, hx.from t2⟩
        split at hp3
        · rename_i k ek
          obtain ⟨G3, g3, t3, pc, _⟩ := wait g2 e3 t2 s3 rrc
          rw [ek] at pc
          simp only [RepP, Rep] at pc
          exact ⟨j, k, pb, pc, hq _ H3 (.sh (.bl _)) en3 G3 g3 t3 (by simp only [RepR, Rep]) hp3⟩
        · exact hp3.elim
      · rename_i ep
        rw [ep]
        exact iteF (hq _ H2 (.sh (.bl _)) en2 G2 g2 t2 (by simp only [RepR, Rep]) hp2)
    · exact hp2.elim

/-! ### arguments, displays -/
def wNil : WAx := fun en P _ => P [] en
def wCons (w : WEx) (ws : WAx) : WAx := fun en P PX => w en (fun r en1 => ws en1 (fun rs en2 => P (r.fz :: rs) en2) PX) PX
theorem ta_nil : PA X [] (tWA X.K XW wNil) := pa_nil.weak fun σ H Q h => by
  obtain ⟨as, en, F, P, PX, es, hw, hq, hx⟩ := h
  exact hq [] H [] en F es Step.refl .nil hw
theorem ta_cons (ha : PE X e (tW X.K XW wa)) (hr : PA X es (tWA X.K XW ws)) (hs : starEach (e :: es) X.env = (false, eval e X.env) :: starEach es X.env := by rfl) : PA X (e :: es) (tWA X.K XW (wCons wa ws)) :=
  (pa_cons ha hr hs).weak fun σ H Q h => by
    obtain ⟨as, en, F, P, PX, es, hw, hq, hx⟩ := h
    refine ⟨as, en, F, _, PX, es, hw, fun x H1 r en1 F1 e1 s1 rr hp => ?_, hx⟩
    obtain ⟨G1, g1, t1, pa, _⟩ := wait es e1 Step.refl s1 rr
    exact ⟨as, en1, G1, _, PX, g1, hp, fun vs H2 rs en2 F2 e2 s2 pr hp2 => hq _ H2 _ en2 F2 e2 (t1.trans s2) (.cons (pa.step s2 g1.hs) pr) hp2, hx.from t1⟩
/-- a root is given away: it is frozen -/
def En.give (en : En) (k : Nat) (d : D) : En := ⟨en.ρ.map fun s => match s with
  | some (.ow j) => if j = k then some (.sh d) else s
  | s => s, en.os.set k none⟩
theorem ES.give {K : PySem.W.Frag} {as : List Addr} {en : En} {F : Addr → Prop} {H : Hp} {σ : St} (es : ES K as en F H σ) {k : Nat} {d : D} (hk : en.os[k]? = some (some d)) :
    ∃ a F', as[k]? = some a ∧ ES K as (en.give k d) F' H σ ∧ Step as en.os F H as (en.give k d).os F' H ∧ Rep K F' H d (.ref a) ∧ Mon F H F' H := by
  obtain ⟨a, ha, own, nf⟩ := es.hs.own k d hk
  have hlt : k < en.os.length := (List.getElem?_eq_some_iff.mp hk).1
  obtain ⟨o, ho⟩ := own.there
  have rd : Rep K (TL.plus F a) H d (.ref a) := own.rep (fun _ => .inl) (.inr rfl)
  have ne : ∀ j b, j ≠ k → as[j]? = some b → b ≠ a := fun j b hj hb e => by
    subst e
    obtain ⟨h1, e1⟩ := List.getElem?_eq_some_iff.mp hb
    obtain ⟨h2, e2⟩ := List.getElem?_eq_some_iff.mp ha
    exact hj ((List.getElem_inj es.hs.nd).mp (e1.trans e2.symm))
  refine ⟨a, TL.plus F a, ha, ⟨⟨fun j d' e => ?_, es.hs.nd, fun b f => f.elim (es.hs.dom b) (fun e => (by rw [e, ho]; exact fun z => nomatch z)), es.hs.asd, ?_⟩, fun i r e => ?_, by simp only [En.give, List.length_map]; exact es.ln⟩, ⟨fun _ => .inl, fun b f => f.elim .inl fun e => .inr (.inr ⟨k, d, e ▸ ha, hk⟩), fun _ _ e _ => .inl e, fun b l => ?_, List.prefix_refl _, fun _ h => .inl h⟩, rd, mon_sub fun _ => .inl⟩
  · by_cases hj : j = k
    · subst hj
      simp only [En.give] at e
      rw [List.getElem?_set_self hlt] at e
      cases e
    · simp only [En.give] at e
      rw [List.getElem?_set_ne (Ne.symm hj)] at e
      obtain ⟨b, hb, ow, nb⟩ := es.hs.own j d' e
      exact ⟨b, hb, Own.mono (mon_sub fun _ => .inl) (fun _ z => z) ow, fun z => z.elim nb (ne j b hj hb)⟩
  · simp only [En.give, List.length_set]; exact es.hs.len
  · simp only [En.give, List.getElem?_map] at e
    cases hs : en.ρ[i]? with
    | none => rw [hs] at e; cases e
    | some s =>
      rw [hs] at e
      cases s with
      | none => simp at e
      | some r0 =>
        obtain ⟨v, e1, rp⟩ := es.sl i r0 hs
        refine ⟨v, e1, ?_⟩
        cases r0 with
        | sh d0 => simp at e; subst e; exact Rep.mono (mon_sub fun _ => .inl) _ _ rp
        | fr d0 => exact rp.elim
        | ow j =>
          simp only [Option.map_some, Option.some.injEq] at e
          obtain ⟨b, hb, rfl⟩ := rp
          by_cases hj : j = k
          · subst hj
            simp at e; subst e
            rw [ha] at hb; cases hb
            exact rd
          · simp [hj] at e; subst e
            exact ⟨b, hb, rfl⟩
  · obtain ⟨j, d', hj, hd⟩ := l
    by_cases hjk : j = k
    · subst hjk
      simp only [En.give] at hd
      rw [List.getElem?_set_self hlt] at hd
      cases hd
    · simp only [En.give] at hd
      rw [List.getElem?_set_ne (Ne.symm hjk)] at hd
      exact .inl ⟨j, d', hj, hd⟩
def wGive (w : WEx) : WEx := fun en P PX => w en (fun r en1 => match r with
  | .ow k => (match en1.os[k]? with
    | some (some d) => P (.sh d) (en1.give k d)
    | _ => False)
  | r => P r en1) PX
theorem te_give (ha : PE X a (tW X.K XW wa)) : PE X a (tW X.K XW (wGive wa)) := ha.weak fun σ H Q h => by
  obtain ⟨as, en, F, P, PX, es, hw, hq, hx⟩ := h
  refine ⟨as, en, F, _, PX, es, hw, fun x H1 r en1 F1 e1 s1 rr hp => ?_, hx⟩
  cases r with
  | sh d => exact hq x H1 _ en1 F1 e1 s1 rr hp
  | fr d => exact hq x H1 _ en1 F1 e1 s1 rr hp
  | ow k =>
    simp only at hp
    split at hp
    · rename_i d hd
      obtain ⟨b, hb, rfl⟩ := rr
      obtain ⟨a', F2, ha', e2, s2, r2, _⟩ := e1.give hd
      rw [hb] at ha'; cases ha'
      exact hq _ H1 (.sh d) _ F2 e2 (s1.trans s2) r2 hp
    · exact hp.elim

def shs : List R → Option (List D)
  | [] => some []
  | .sh d :: rs => (shs rs).map (d :: ·)
  | _ :: _ => none
theorem shs_rep {K : PySem.W.Frag} {as : List Addr} {F : Addr → Prop} {H : Hp} : ∀ {rs : List R} {vs : List V} {ds : List D}, Paired (RepP K as F H) rs vs → shs rs = some ds → RepL K F H ds vs
  | [], _, ds, .nil, e => by simp only [shs] at e; cases e; exact RepL.nil
  | r :: rs, _, ds, .cons q t, e => by
    cases r with
    | ow k => simp only [shs] at e; cases e
    | fr d => simp only [shs] at e; cases e
    | sh d =>
      simp only [shs] at e
      cases z : shs rs with
      | none => rw [z] at e; cases e
      | some es => rw [z] at e; cases e; exact RepL.cons q (shs_rep t z)
def wTup (ws : WAx) : WEx := fun en P PX => ws en (fun rs en1 => match shs rs with
  | some ds => ds.length ≤ sizeLine ∧ P (.sh (.tup ds)) en1
  | none => False) PX
def wLst (ws : WAx) : WEx := fun en P PX => ws en (fun rs en1 => match shs rs with
  | some ds => ds.length ≤ sizeLine ∧ P (.fr (.lst ds)) en1
  | none => False) PX
theorem te_tup {x1} (h : PA X es (tWA X.K XW ws)) : PE X (.Tuple es x1 pos) (tW X.K XW (wTup ws)) := (pe_tup h).weak fun σ H Q h => by
  obtain ⟨as, en, F, P, PX, es, hw, hq, hx⟩ := h
  refine ⟨as, en, F, _, PX, es, hw, fun vs H1 rs en1 F1 e1 s1 pr hp => ?_, hx⟩
  split at hp
  · rename_i ds e
    have rl := shs_rep pr e
    refine ⟨by rw [rl.length]; exact hp.1, fun p h0 => ?_⟩
    obtain ⟨q1, q2, q3⟩ := new_tup e1 s1 h0 (by rw [rl.length]; exact hp.1) rl
    exact hq _ _ _ en1 _ q1 q2 q3 hp.2
  · exact hp.elim
theorem te_lst (h : PA X es (tWA X.K XW ws)) : PE X (.List es pos) (tW X.K XW (wLst ws)) := (pe_lst h).weak fun σ H Q h => by
  obtain ⟨as, en, F, P, PX, es, hw, hq, hx⟩ := h
  refine ⟨as, en, F, _, PX, es, hw, fun vs H1 rs en1 F1 e1 s1 pr hp => ?_, hx⟩
  split at hp
  · rename_i ds e
    have rl := shs_rep pr e
    refine ⟨by rw [rl.length]; exact hp.1, fun p h0 => ?_⟩
    obtain ⟨q1, q2, q3⟩ := new_lst e1 s1 h0 (by rw [rl.length]; exact hp.1) rl
    exact hq _ _ _ en1 _ q1 q2 q3 hp.2
  · exact hp.elim

/-! ### subscripts, fields, built-in functions -/
def oIx : R → R → WEx := fun ra rb en P _ => match ra.val en.os, rb with
  | some (.lst xs), .sh (.int i) => (match atI xs i with
    | some d => P (.sh d) en
    | none => False)
  | some (.tup xs), .sh (.int i) => (match atI xs i with
    | some d => P (.sh d) en
    | none => False)
  | some (.str z), .sh (.int i) => z.length ≤ sizeLine ∧ (match atI z.cps.toList i with
    | some c => P (.sh (.str ⟨#[c]⟩)) en
    | none => False)
  | _, _ => False
theorem RepL.atI {K : PySem.W.Frag} {F : Addr → Prop} {H : Hp} {ds : List D} {vs : List V} {i : Int} {d : D} (h : RepL K F H ds vs) (e : atI ds i = some d) : ∃ v, L2.atI vs i = some v ∧ Rep K F H d v := by
  unfold L2.atI at e ⊢
  rw [h.length]
  cases z : ixN ds.length i with
  | none => rw [z] at e; cases e
  | some j =>
    rw [z] at e
    obtain ⟨w, e1, r⟩ := h.get (i := j) e
    exact ⟨w, e1, r⟩
theorem ix_fin {K : PySem.W.Frag} {σ : St} {H : Hp} {Q : VK} {x y : V} (h : tP K XW [y, x] (l2 oIx) σ H Q) : rIxL K x y H Q ∨ rIxT K x y H Q ∨ rIxS x y H Q := by
  obtain ⟨as, os0, F0, H0, en, F, rs, P, PX, es, st, pr, hw, hq, hx⟩ := h
  cases pr with
  | cons ry pr =>
    cases pr with
    | cons rx pr =>
      cases pr
      simp only [l2, oIx] at hw
      split at hw
      · rename_i e1
        split at hw
        · rename_i d e3
          obtain ⟨l, vs, e2, hl, hz, rl⟩ := (rx.sees es.hs e1).lst
          obtain ⟨w, e4, r4⟩ := rl.atI e3
          simp only [RepP, Rep] at ry
          exact .inl ⟨l, vs, _, w, e2, ry, .inl hl, e4, hq _ H (.sh d) en F es st r4 hw⟩
        · exact hw.elim
      · rename_i e1
        split at hw
        · rename_i d e3
          obtain ⟨l, vs, e2, hl, hz, rl⟩ := (rx.sees es.hs e1).tup
          obtain ⟨w, e4, r4⟩ := rl.atI e3
          simp only [RepP, Rep] at ry
          exact .inr (.inl ⟨l, vs, _, w, e2, ry, .of hl, e4, hq _ H (.sh d) en F es st r4 hw⟩)
        · exact hw.elim
      · rename_i e1
        obtain ⟨hz, hw⟩ := hw
        split at hw
        · rename_i c e3
          simp only [RepP, Rep] at ry
          exact .inr (.inr ⟨_, _, c, (rx.sees es.hs e1).str, ry, hz, e3, hq _ H (.sh (.str ⟨#[c]⟩)) en F es st (by simp only [RepR, Rep]) hw⟩)
        · exact hw.elim
      · exact hw.elim
theorem te_ix (ha : PE X a (tW X.K XW wa)) (hb : PE X b (tW X.K XW wb)) (hs : PlainIx b := by exact fun _ _ => rfl) : PE X (.Subscript a b pos) (tW X.K XW (w2 oIx wa wb)) :=
  (pe_ix ix_seq ha hb hs).weak fun σ H Q h => tOp_of (fun x y H h => ix_fin h) h
def wFld (K : PySem.W.Frag) (f : Str) (w : WEx) : WEx := fun en P PX => w en (fun r en1 => match r.val en1.os with
  | some (.ins C fs) => Cls K C ∧ NoAttr K C f ∧ (match fs.lookup f with
    | some d => P (.sh d) en1
    | none => False)
  | _ => False) PX
/-- a result that is read at once: what it holds is frozen already -/
theorem RepR.inner {K : PySem.W.Frag} {as : List Addr} {os : Os} {F : Addr → Prop} {H0 H : Hp} {r : R} {v : V} {d : D} (h : HS K as os F H) (q : RepR K as F H0 H r v) (e : r.val os = some d) : Sees K F H d v := q.sees h e
theorem te_fld {f : Str} (ha : PE X e (tW X.K XW wa)) (hb : attributeBase e f X.env (eval e X.env) = eval e X.env := by rfl) : PE X (.Attribute e f pos) (tW X.K XW (wFld X.K f wa)) :=
  (pe_fld ha hb).weak fun σ H Q h => by
    obtain ⟨as, en, F, P, PX, es, hw, hq, hx⟩ := h
    refine ⟨as, en, F, _, PX, es, hw, fun v H1 r en1 F1 e1 s1 rr hp => ?_, hx⟩
    split at hp
    · rename_i C fs ev
      obtain ⟨c, n, hp⟩ := hp
      split at hp
      · rename_i d ed
        obtain ⟨l, dx, gs, e2, hl, rf⟩ := (rr.sees e1.hs ev).ins
        obtain ⟨w, e3, r3⟩ := rf.lookup ed
        exact ⟨l, C, dx, gs, w, e2, hl, c, n, e3, hq _ H1 (.sh d) en1 F1 e1 s1 r3 hp⟩
      · exact hp.elim
    · exact hp.elim
/-- built-in functions by values -/
def wF (op : List R → WEx) (ws : WAx) : WEx := fun en P PX => ws en (fun rs en1 => op rs en1 P PX) PX
theorem tF_of {K : PySem.W.Frag} {op : List R → WEx} {σ : St} {H : Hp} {Q : VK} (h : tW K XW (wF op ws) σ H Q) : tWA K XW ws σ H fun vs H1 => tP K XW vs op σ H1 Q := by
  obtain ⟨as, en, F, P, PX, es, hw, hq, hx⟩ := h
  exact ⟨as, en, F, _, PX, es, hw, fun vs H1 rs en1 F1 e1 s1 pr hp => ⟨as, en.os, F, H, en1, F1, rs, P, PX, e1, s1, pr, hp, hq, hx⟩, hx⟩
theorem te_fn {x : Str} {id : String} {r : List V → Hp → VK → Prop} {op : List R → WEx} (hc : CallR X (.builtin id) r) (fin : ∀ σ H Q vs, tP X.K XW vs op σ H Q → r vs H Q) (hg : Gl X x) (hm : X.mg x = none) (hv : bootBuiltins x = some (.builtin id))
    (ha : PA X (e :: es) (tWA X.K XW ws)) (hn : x ≠ "__name__" := by decide) (hdb : (x == ("__debug__" : Str)) = false := by decide) (he : starEach (e :: es) X.env = (false, eval e X.env) :: starEach es X.env := by rfl) (hpl : (backTo pos (starEach es X.env)).any (·.1) = false := by rfl) :
    PE X (.Call (.Name x p) (e :: es) [] pos) (tW X.K XW (wF op ws)) :=
  (pe_callB hc hg hm hv ha hn hdb he hpl).weak fun σ H Q h => by
    obtain ⟨as, en, F, P, PX, es, hw, hq, hx⟩ := tF_of h
    exact ⟨as, en, F, P, PX, es, hw, fun vs H1 rs en1 F1 e1 s1 pr hp => fin _ _ _ _ (hq vs H1 rs en1 F1 e1 s1 pr hp), hx⟩
theorem te_fnT {x : Str} {T : String} {r : List V → Hp → VK → Prop} {op : List R → WEx} (hc : CallR X (.type T) r) (fin : ∀ σ H Q vs, tP X.K XW vs op σ H Q → r vs H Q) (hg : Gl X x) (hm : X.mg x = none) (hv : bootBuiltins x = some (.type T))
    (ha : PA X (e :: es) (tWA X.K XW ws)) (hn : x ≠ "__name__" := by decide) (hdb : (x == ("__debug__" : Str)) = false := by decide) (he : starEach (e :: es) X.env = (false, eval e X.env) :: starEach es X.env := by rfl) (hpl : (backTo pos (starEach es X.env)).any (·.1) = false := by rfl) :
    PE X (.Call (.Name x p) (e :: es) [] pos) (tW X.K XW (wF op ws)) :=
  (pe_callTy hc hg hm hv ha hn hdb he hpl).weak fun σ H Q h => by
    obtain ⟨as, en, F, P, PX, es, hw, hq, hx⟩ := tF_of h
    exact ⟨as, en, F, P, PX, es, hw, fun vs H1 rs en1 F1 e1 s1 pr hp => fin _ _ _ _ (hq vs H1 rs en1 F1 e1 s1 pr hp), hx⟩
end
end L2.TL

/-! text TL5 -/
set_option Elab.async false
set_option linter.all false
set_option maxRecDepth 100000
set_option maxHeartbeats 2000000
namespace L2.TL
open PySem PySem.Spec PyProof.Rows

/-! ### statements -/
structure Post where
  nx : En → Prop
  rt : R → En → Prop
  bk : En → Prop
  ct : En → Prop
  ex : Er → En → Prop
abbrev WSx := En → Post → Prop

def CExS (K : PySem.W.Frag) (XW : WX) (as : List Addr) (os : Os) (F : Addr → Prop) (H : Hp) (PX : PEr) : Prop :=
  ∀ cls d σ' H' as' er en' F', ES K as' en' F' H' σ' → Step as os F H as' en'.os F' H' → RepE K F' H' er cls d → PX er en' → XW cls d σ' H'
/-- a state behind -/
def Bh (K : PySem.W.Frag) (as : List Addr) (os : Os) (F : Addr → Prop) (H : Hp) (P : En → Prop) (D : St → Hp → Prop) : Prop :=
  ∀ σ' H' as' en' F', ES K as' en' F' H' σ' → Step as os F H as' en'.os F' H' → P en' → D σ' H'
def BhR (K : PySem.W.Frag) (as : List Addr) (os : Os) (F : Addr → Prop) (H : Hp) (P : R → En → Prop) (D : VK) : Prop :=
  ∀ v σ' H' as' r en' F', ES K as' en' F' H' σ' → Step as os F H as' en'.os F' H' → RepR K as' F' H H' r v → P r en' → D v H'
def tS (K : PySem.W.Frag) (XW : WX) (w : WSx) : TS := fun D σ H => ∃ as en F P, ES K as en F H σ ∧ w en P ∧
  Bh K as en.os F H P.nx D.nx ∧ Bh K as en.os F H P.bk D.bk ∧ Bh K as en.os F H P.ct D.ct ∧ BhR K as en.os F H P.rt D.rt ∧ CExS K XW as en.os F H P.ex

theorem RepR.liftS {K : PySem.W.Frag} {as as1 as2 : List Addr} {os os1 : Os} {F F1 : Addr → Prop} {H H1 H2 : Hp} {G : Addr → Prop} (s : Step as os F H as1 os1 F1 H1) (p : as1 <+: as2) : ∀ {r : R} {v : V}, RepR K as2 G H1 H2 r v → RepR K as2 G H H2 r v
  | .sh _, _, q => q
  | .ow _, _, q => q
  | .fr _, _, ⟨a, e, hn, ha, hf, own⟩ => ⟨a, e, by
    rcases s.fresh hn with z | z
    · exact z
    · have m := z.mem
      have : a ∈ as2 := by
        obtain ⟨t, rfl⟩ := s.pre.trans p
        exact List.mem_append_left _ m
      exact absurd this ha, ha, hf, own⟩

section
variable {K : PySem.W.Frag} {XW : WX} {as as1 : List Addr} {os os1 : Os} {F F1 : Addr → Prop} {H H1 : Hp} {σ : St}
theorem Bh.from {P : En → Prop} {D : St → Hp → Prop} (b : Bh K as os F H P D) (s : Step as os F H as1 os1 F1 H1) : Bh K as1 os1 F1 H1 P D := fun σ' H' as' en' F' e t p => b σ' H' as' en' F' e (s.trans t) p
theorem BhR.from {P : R → En → Prop} {D : VK} (b : BhR K as os F H P D) (s : Step as os F H as1 os1 F1 H1) : BhR K as1 os1 F1 H1 P D := fun v σ' H' as' r en' F' e t rr p => b v σ' H' as' r en' F' e (s.trans t) (rr.liftS s t.pre) p
theorem CExS.from {PX : PEr} (c : CExS K XW as os F H PX) (s : Step as os F H as1 os1 F1 H1) : CExS K XW as1 os1 F1 H1 PX := fun cls d σ' H' as' er en' F' e t r p => c cls d σ' H' as' er en' F' e (s.trans t) r p
theorem CExS.at {PX : PEr} (c : CExS K XW as os F H PX) (σ : St) : CEx K XW as os F H PX σ := fun cls d H' er en' F' e t r p => c cls d σ H' as er en' F' e t r p
end

section
variable {X : Cx} {XW : WX} {pos p apos : Pos} {a b c e o : Expr} {es : List Expr} {wa wb wc wo : WEx} {ua ub : WBx} {ws : WAx} {st : Stmt} {sts : List Stmt} {w v : WSx}

def wNext : WSx := fun en P => P.nx en
def wSeq (w v : WSx) : WSx := fun en P => w en { P with nx := fun en1 => v en1 P }
theorem ts_nil : PSs X [] (tS X.K XW wNext) := pss_nil.weak fun D σ H h => by
  obtain ⟨as, en, F, P, es, hw, h1, h2, h3, h4, h5⟩ := h
  exact h1 σ H as en F es Step.refl hw
theorem ts_one (h : PS X st (tS X.K XW w)) : PSs X [st] (tS X.K XW w) := pss_one h
theorem ts_cons (h : PS X st (tS X.K XW w)) (h2 : PSs X sts (tS X.K XW v)) : PSs X (st :: sts) (tS X.K XW (wSeq w v)) := (pss_cons h h2).weak fun D σ H h => by
  obtain ⟨as, en, F, P, es, hw, h1, h2, h3, h4, h5⟩ := h
  exact ⟨as, en, F, _, es, hw, fun σ' H' as' en' F' e s p => ⟨as', en', F', P, e, p, h1.from s, h2.from s, h3.from s, h4.from s, h5.from s⟩, h2, h3, h4, h5⟩
theorem ts_never : PS X st (tS X.K XW fun _ _ => False) := ps_never.weak fun D σ H h => by
  obtain ⟨as, en, F, P, es, hw, _⟩ := h
  exact hw.elim
theorem tss_never : PSs X sts (tS X.K XW fun _ _ => False) := pss_never.weak fun D σ H h => by
  obtain ⟨as, en, F, P, es, hw, _⟩ := h
  exact hw.elim
def wBreak : WSx := fun en P => P.bk en
def wCont : WSx := fun en P => P.ct en
theorem ts_break : PS X (.Break pos) (tS X.K XW wBreak) := ps_break.weak fun D σ H h => by
  obtain ⟨as, en, F, P, es, hw, h1, h2, h3, h4, h5⟩ := h
  exact h2 σ H as en F es Step.refl hw
theorem ts_continue : PS X (.Continue pos) (tS X.K XW wCont) := ps_continue.weak fun D σ H h => by
  obtain ⟨as, en, F, P, es, hw, h1, h2, h3, h4, h5⟩ := h
  exact h3 σ H as en F es Step.refl hw
theorem ts_pass : PS X (.Pass pos) (tS X.K XW wNext) := ps_pass.weak fun D σ H h => by
  obtain ⟨as, en, F, P, es, hw, h1, h2, h3, h4, h5⟩ := h
  exact h1 σ H as en F es Step.refl hw
def wRet (w : WEx) : WSx := fun en P => w en P.rt P.ex
theorem ts_ret (he : PE X e (tW X.K XW wa)) : PS X (.Return (some e) pos) (tS X.K XW (wRet wa)) := (ps_ret he).weak fun D σ H h => by
  obtain ⟨as, en, F, P, es, hw, h1, h2, h3, h4, h5⟩ := h
  exact ⟨as, en, F, _, _, es, hw, fun v H' r en' F' e s rr hp => h4 v σ H' as r en' F' e s rr hp, h5.at σ⟩
def wRetN : WSx := fun en P => P.rt (.sh .non) en
theorem ts_retN : PS X (.Return none pos) (tS X.K XW wRetN) := ps_retN.weak fun D σ H h => by
  obtain ⟨as, en, F, P, es, hw, h1, h2, h3, h4, h5⟩ := h
  exact h4 .non σ H as (.sh .non) en F es Step.refl (by simp only [RepR, Rep]) hw
def wExpr (w : WEx) : WSx := fun en P => w en (fun _ en1 => P.nx en1) P.ex
theorem ts_expr (he : PE X e (tW X.K XW wa)) (hs : swapsWith e none pos.line X.env = pure false := by rfl) : PS X (.Expr e pos) (tS X.K XW (wExpr wa)) := (ps_expr he hs).weak fun D σ H h => by
  obtain ⟨as, en, F, P, es, hw, h1, h2, h3, h4, h5⟩ := h
  exact ⟨as, en, F, _, _, es, hw, fun v H' r en' F' e s rr hp => h1 σ H' as en' F' e s hp, h5.at σ⟩
def wIfS (u : WBx) (w v : WSx) : WSx := fun en P => u en (fun k en1 => match k with
  | true => w en1 P
  | false => v en1 P) P.ex
theorem ts_if {c : Expr} {s1 s2 : List Stmt} (hc : PT X c (tWB X.K XW ua)) (ha : PSs X s1 (tS X.K XW w)) (hb : PSs X s2 (tS X.K XW v)) : PS X (.If c s1 s2 pos) (tS X.K XW (wIfS ua w v)) := (ps_if hc ha hb).weak fun D σ H h => by
  obtain ⟨as, en, F, P, es, hw, h1, h2, h3, h4, h5⟩ := h
  refine ⟨as, en, F, _, _, es, hw, fun k H' en' F' e s hp => ?_, h5.at σ⟩
  cases k with
  | true => exact iteT ⟨as, en', F', P, e, hp, h1.from s, h2.from s, h3.from s, h4.from s, h5.from s⟩
  | false => exact iteF ⟨as, en', F', P, e, hp, h1.from s, h2.from s, h3.from s, h4.from s, h5.from s⟩

/-! ### stores to names -/
theorem ES.set {K : PySem.W.Frag} {as : List Addr} {en : En} {F : Addr → Prop} {H : Hp} {σ : St} (es : ES K as en F H σ) (i : Nat) {r : R} {v : V} (h : RepP K as F H r v) : ES K as ⟨en.ρ.set i (some r), en.os⟩ F H (σ.set i (some v)) := by
  refine ⟨es.hs, fun j r' e => ?_, by simp only [List.length_set]; exact es.ln⟩
  by_cases hj : i = j
  · subst hj
    by_cases hl : i < en.ρ.length
    · rw [List.getElem?_set_self hl] at e
      cases e
      exact ⟨v, by rw [List.getElem?_set_self (es.ln ▸ hl)], h⟩
    · rw [List.getElem?_eq_none (by simp only [List.length_set]; omega)] at e
      cases e
  · rw [List.getElem?_set_ne hj] at e
    obtain ⟨v', e1, q⟩ := es.sl j r' e
    exact ⟨v', by rw [List.getElem?_set_ne hj]; exact e1, q⟩
theorem ES.unset {K : PySem.W.Frag} {as : List Addr} {en : En} {F : Addr → Prop} {H : Hp} {σ : St} (es : ES K as en F H σ) (i : Nat) (v : Option V) : ES K as ⟨en.ρ.set i none, en.os⟩ F H (σ.set i v) := by
  refine ⟨es.hs, fun j r' e => ?_, by simp only [List.length_set]; exact es.ln⟩
  by_cases hj : i = j
  · subst hj
    by_cases hl : i < en.ρ.length
    · rw [List.getElem?_set_self hl] at e; cases e
    · rw [List.getElem?_eq_none (by simp only [List.length_set]; omega)] at e
      cases e
  · rw [List.getElem?_set_ne hj] at e
    obtain ⟨v', e1, q⟩ := es.sl j r' e
    exact ⟨v', by rw [List.getElem?_set_ne hj]; exact e1, q⟩
/-- a fresh object becomes a root -/
theorem ES.root {K : PySem.W.Frag} {as : List Addr} {en : En} {F : Addr → Prop} {H : Hp} {σ : St} (es : ES K as en F H σ) {a : Addr} {d : D} (ha : a ∉ as) (nf : ¬ F a) (own : Own K F H d a) : ES K (as ++ [a]) ⟨en.ρ, en.os ++ [some d]⟩ F H σ := by
  refine ⟨⟨fun k d' e => ?_, ?_, es.hs.dom, fun b hb => ?_, ?_⟩, fun i r e => ?_, es.ln⟩
  · by_cases hk : k < en.os.length
    · rw [List.getElem?_append_left hk] at e
      obtain ⟨b, hb, q⟩ := es.hs.own k d' e
      exact ⟨b, prefix_get ⟨[a], rfl⟩ hb, q⟩
    · rw [List.getElem?_append_right (by omega)] at e
      have : k - en.os.length = 0 := by
        have := (List.getElem?_eq_some_iff.mp e).1
        simp at this; omega
      rw [this] at e
      simp at e; subst e
      refine ⟨a, ?_, own, nf⟩
      rw [List.getElem?_append_right (by rw [← es.hs.len]; omega), ← es.hs.len, this]; rfl
  · exact List.nodup_append.mpr ⟨es.hs.nd, by simp, fun x hx y hy => by simp at hy; subst hy; exact fun z => ha (z ▸ hx)⟩
  · rcases List.mem_append.mp hb with q | q
    · exact es.hs.asd b q
    · simp at q; subst q
      obtain ⟨o, ho⟩ := own.there
      rw [ho]; exact fun z => by cases z
  · simp only [List.length_append, List.length_cons, List.length_nil]; have := es.hs.len; omega
  · obtain ⟨v', e1, q⟩ := es.sl i r e
    refine ⟨v', e1, ?_⟩
    cases r with
    | sh d0 => exact q
    | fr d0 => exact q.elim
    | ow k => obtain ⟨b, hb, z⟩ := q; exact ⟨b, prefix_get ⟨[a], rfl⟩ hb, z⟩
theorem Step.root {as as1 : List Addr} {os os1 : Os} {F F1 : Addr → Prop} {H H1 : Hp} (s : Step as os F H as1 os1 F1 H1) {a : Addr} {d : D} (hn : H a = none) (ln : os1.length = as1.length) : Step as os F H (as1 ++ [a]) (os1 ++ [some d]) F1 H1 where
  sub := s.sub
  new := s.new
  stay := s.stay
  liv := fun b ⟨k, d', e1, e2⟩ => by
    by_cases hk : k < os1.length
    · rw [List.getElem?_append_left hk] at e2
      rw [List.getElem?_append_left (by omega)] at e1
      exact s.liv b ⟨k, d', e1, e2⟩
    · rw [List.getElem?_append_right (by omega)] at e1
      have : k - as1.length = 0 := by
        have := (List.getElem?_eq_some_iff.mp e1).1
        simp at this; omega
      rw [this] at e1
      simp at e1; subst e1
      exact .inr hn
  pre := s.pre.trans ⟨[a], rfl⟩
  ext := fun b hb => by
    rcases List.mem_append.mp hb with q | q
    · exact s.ext b q
    · simp at q; subst q; exact .inr hn
def wSet (i : Nat) (w : WEx) : WSx := fun en P => w en (fun r en1 => P.nx ⟨en1.ρ.set i (some r.fz), en1.os⟩) P.ex
def wOwn (i : Nat) (w : WEx) : WSx := fun en P => w en (fun r en1 => match r with
  | .fr d => P.nx ⟨en1.ρ.set i (some (.ow en1.os.length)), en1.os ++ [some d]⟩
  | _ => False) P.ex
theorem tSet_of {K : PySem.W.Frag} {i : Nat} {D : Ends} {σ : St} {H : Hp} (h : tS K XW (wSet i wa) D σ H) : tAsg (tW K XW wa) (gName i) D σ H := by
  obtain ⟨as, en, F, P, es, hw, h1, h2, h3, h4, h5⟩ := h
  refine ⟨as, en, F, _, _, es, hw, fun v H' r en' F' e s rr hp => ?_, h5.at σ⟩
  obtain ⟨G, g1, t1, rp, _⟩ := wait es e Step.refl s rr
  exact h1 _ H' as _ G (g1.set i rp) t1 hp
theorem tOwn_of {K : PySem.W.Frag} {i : Nat} {D : Ends} {σ : St} {H : Hp} (h : tS K XW (wOwn i wa) D σ H) : tAsg (tW K XW wa) (gName i) D σ H := by
  obtain ⟨as, en, F, P, es, hw, h1, h2, h3, h4, h5⟩ := h
  refine ⟨as, en, F, _, _, es, hw, fun v H' r en' F' e s rr hp => ?_, h5.at σ⟩
  split at hp
  · rename_i d
    obtain ⟨a, rfl, hn, ha, nf, own⟩ := rr
    refine h1 _ H' (as ++ [a]) _ F' ((e.root ha nf own).set i (r := .ow en'.os.length) (v := .ref a) ⟨a, ?_, rfl⟩) (s.root hn e.hs.len) hp
    rw [List.getElem?_append_right (by rw [← e.hs.len]; omega), ← e.hs.len]; simp
  · exact hp.elim
theorem ts_set (i : Nat) {x : Str} {pos' : Pos} (hN : X.N.Nodup) (hi : X.N[i]? = some x) (hx : Loc X.env.scope x) (he : PE X e (tW X.K XW wa)) (hs : swapsWith e (some (.Name x pos')) pos.line X.env = pure false := by rfl) (hf : X.fn x = true ∨ X.env.scope.names.lookup x = some .local := by first | exact .inl rfl | exact .inr rfl | assumption) :
    PS X (.Assign [.Name x pos'] e pos) (tS X.K XW (wSet i wa)) := (ps_set hN hi hx he hs hf).weak fun D σ H h => tSet_of h
theorem ts_own (i : Nat) {x : Str} {pos' : Pos} (hN : X.N.Nodup) (hi : X.N[i]? = some x) (hx : Loc X.env.scope x) (he : PE X e (tW X.K XW wa)) (hs : swapsWith e (some (.Name x pos')) pos.line X.env = pure false := by rfl) (hf : X.fn x = true ∨ X.env.scope.names.lookup x = some .local := by first | exact .inl rfl | exact .inr rfl | assumption) :
    PS X (.Assign [.Name x pos'] e pos) (tS X.K XW (wOwn i wa)) := (ps_set hN hi hx he hs hf).weak fun D σ H h => tOwn_of h
end

/-! ### what a def promises -/
abbrev Sw := List R → Os → (R → Os → Prop) → (Er → Os → Prop) → Prop
def spT (K : PySem.W.Frag) (Φ : Sw) : Sp := fun vs H Q E => ∃ as os F rs P PX, HS K as os F H ∧ Paired (RepP K as F H) rs vs ∧ Φ rs os P PX ∧
  (∀ v H' r os' F', HS K as os' F' H' → Step as os F H as os' F' H' → RepR K as F' H H' r v → P r os' → Q v H') ∧
  ∀ cls d H' er os' F', HS K as os' F' H' → Step as os F H as os' F' H' → RepE K F' H' er cls d → PX er os' → E cls d H'
/-- a def of the module that keeps the promise Φ -/
structure Fn (P : Program) (w : World) (K : PySem.W.Frag) (mg : Str → Option Value) (base : Heap) (k : Nat) (x : Str) (Φ : Sw) : Prop where
  ex : ∃ f fd ps, FnOk P w K mg base (CX P w) k f fd ps (spT K Φ) ∧ mg x = some (.ref f) ∧ PySem.W.keepIn K (.ref f) = true ∧ Binds K fd ps []
section
variable {X : Cx} {XW : WX} {pos p apos : Pos} {a b c e o : Expr} {es : List Expr} {wa wb wc wo : WEx} {ws : WAx}
theorem ES.call {K : PySem.W.Frag} {as : List Addr} {en : En} {F F' : Addr → Prop} {H H' : Hp} {σ : St} {os' : Os} (es : ES K as en F H σ) (h : HS K as os' F' H') (s : Step as en.os F H as os' F' H') : ES K as ⟨en.ρ, os'⟩ F' H' σ :=
  ⟨h, fun i r e => let ⟨v, e1, q⟩ := es.sl i r e; ⟨v, e1, q.step s es.hs⟩, es.ln⟩
def wCall (Φ : Sw) (ws : WAx) : WEx := fun en P PX => ws en (fun rs en1 => Φ rs en1.os (fun r os' => P r ⟨en1.ρ, os'⟩) (fun er os' => PX er ⟨en1.ρ, os'⟩)) PX
theorem spT_of {K : PySem.W.Frag} {Φ : Sw} {σ : St} {H : Hp} {Q : VK} (h : tW K XW (wCall Φ ws) σ H Q) : tWA K XW ws σ H fun vs H1 => spT K Φ vs H1 Q (L2.WE XW σ) := by
  obtain ⟨as, en, F, P, PX, es, hw, hq, hx⟩ := h
  refine ⟨as, en, F, _, PX, es, hw, fun vs H1 rs en1 F1 e1 s1 pr hp => ?_, hx⟩
  refine ⟨as, en1.os, F1, rs, _, _, e1.hs, pr, hp, fun v H2 r os2 F2 h2 s2 rr hp2 => ?_, fun cls d H2 er os2 F2 h2 s2 re hp2 => ?_⟩
  · exact hq v H2 r _ F2 (e1.call h2 s2) (s1.trans s2) (rr.lift s1) hp2
  · exact hx cls d H2 er _ F2 (e1.call h2 s2) (s1.trans s2) re hp2
theorem te_call {k j : Nat} {x : Str} {Φ : Sw} (G : Fn X.prog X.w X.K X.mg X.base k x Φ) (hr : Room j X.A) (tk : Takes X XW) (ha : PA X (e :: es) (tWA X.K XW ws)) (hkj : k ≤ j := by decide) (hg : Gl X x := by rfl)
    (hdb : (x == ("__debug__" : Str)) = false := by decide) (he : starEach (e :: es) X.env = (false, eval e X.env) :: starEach es X.env := by rfl) (hpl : (backTo pos (starEach es X.env)).any (·.1) = false := by rfl) :
    PE X (.Call (.Name x p) (e :: es) [] pos) (tW X.K XW (wCall Φ ws)) := by
  obtain ⟨f, fd, ps, F, hm, hk, hb⟩ := G.ex
  refine (pe_callSD F (hr.mono hkj) hg hm hk hb .nil (fun σ => passAt tk σ) ha hdb he hpl).weak fun σ H Q h => ?_
  obtain ⟨as, en, F, P, PX, es, hw, hq, hx⟩ := spT_of h
  exact ⟨as, en, F, P, PX, es, hw, fun vs H1 rs en1 F1 e1 s1 pr hp => by show spT _ _ (vs ++ []) _ _ _; rw [List.append_nil]; exact hq vs H1 rs en1 F1 e1 s1 pr hp, hx⟩
end

/-! ### a def by its body -/
/-- what goes out: a root of the def's own goes out as a fresh object -/
def bodyPost (n : Nat) (P : R → Os → Prop) (PX : Er → Os → Prop) : Post where
  nx := fun en => P (.sh .non) (en.os.take n)
  rt := fun r en => match r with
    | .ow k => if k < n then P (.ow k) (en.os.take n) else match en.os[k]? with
      | some (some d) => P (.fr d) (en.os.take n)
      | _ => False
    | r => P r (en.os.take n)
  bk := fun _ => False
  ct := fun _ => False
  ex := fun er en => PX er (en.os.take n)
theorem HS.take {K : PySem.W.Frag} {as as' : List Addr} {os' : Os} {F : Addr → Prop} {H : Hp} (h : HS K as' os' F H) (p : as <+: as') : HS K as (os'.take as.length) F H := by
  obtain ⟨t, rfl⟩ := p
  refine ⟨fun k d e => ?_, (List.nodup_append.mp h.nd).1, h.dom, fun a ha => h.asd a (List.mem_append_left _ ha), ?_⟩
  · rw [List.getElem?_take] at e
    split at e
    · rename_i hk
      obtain ⟨a, ha, q⟩ := h.own k d e
      exact ⟨a, by rw [List.getElem?_append_left hk] at ha; exact ha, q⟩
    · cases e
  · have := h.len
    simp only [List.length_append] at this
    rw [List.length_take]; omega
theorem Step.take {as as' : List Addr} {os os' : Os} {F F' : Addr → Prop} {H H' : Hp} (s : Step as os F H as' os' F' H') : Step as os F H as (os'.take as.length) F' H' where
  sub := s.sub
  new := s.new
  stay := s.stay
  liv := fun a ⟨k, d, e1, e2⟩ => by
    rw [List.getElem?_take] at e2
    split at e2
    · exact s.liv a ⟨k, d, prefix_get s.pre e1, e2⟩
    · cases e2
  pre := List.prefix_refl _
  ext := fun a h => .inl h
theorem RepR.out {K : PySem.W.Frag} {as as' : List Addr} {os : Os} {en' : En} {F F' : Addr → Prop} {H H' : Hp} {r : R} {v : V} {P : R → Os → Prop} {PX : Er → Os → Prop} (h : HS K as' en'.os F' H') (s : Step as os F H as' en'.os F' H') (rr : RepR K as' F' H H' r v) (hp : (bodyPost as.length P PX).rt r en') :
    ∃ r', RepR K as F' H H' r' v ∧ P r' (en'.os.take as.length) := by
  cases r with
  | sh d => exact ⟨.sh d, rr, hp⟩
  | fr d =>
    obtain ⟨a, e, hn, ha, hf, own⟩ := rr
    refine ⟨.fr d, ⟨a, e, hn, fun z => ha ?_, hf, own⟩, hp⟩
    obtain ⟨t, rfl⟩ := s.pre
    exact List.mem_append_left _ z
  | ow k =>
    obtain ⟨a, ha, rfl⟩ := rr
    simp only [bodyPost] at hp
    split at hp
    · rename_i hk
      refine ⟨.ow k, ⟨a, ?_, rfl⟩, hp⟩
      obtain ⟨t, rfl⟩ := s.pre
      rw [List.getElem?_append_left hk] at ha
      exact ha
    · rename_i hk
      split at hp
      · rename_i d z
        obtain ⟨b, hb, own, nf⟩ := h.own k d z
        rw [ha] at hb; cases hb
        have nin : a ∉ as := fun q => by
          obtain ⟨t, rfl⟩ := s.pre
          obtain ⟨j, hj, e⟩ := List.getElem_of_mem q
          have e1 : (as ++ t)[j]? = some a := by rw [List.getElem?_append_left hj, List.getElem?_eq_getElem hj, e]
          obtain ⟨h1, e1⟩ := List.getElem?_eq_some_iff.mp e1
          obtain ⟨h2, e2⟩ := List.getElem?_eq_some_iff.mp ha
          have := (List.getElem_inj h.nd).mp (e1.trans e2.symm)
          omega
        refine ⟨.fr d, ⟨a, rfl, ?_, nin, nf, own⟩, hp⟩
        rcases s.ext a (List.mem_of_getElem? ha) with q | q
        · exact absurd q nin
        · exact q
      · exact hp.elim

def startR (N : List Str) (rs : List R) : List (Option R) := rs.map some ++ List.replicate (N.length - rs.length) none
theorem Paired.getL {α β : Type} {P : α → β → Prop} : ∀ {xs : List α} {ys : List β} {i : Nat} {x : α}, Paired P xs ys → xs[i]? = some x → ∃ y, ys[i]? = some y ∧ P x y
  | _, _, _, _, .nil, e => by simp at e
  | _, _, 0, _, .cons r _, e => by simp at e; subst e; exact ⟨_, rfl, r⟩
  | _, _, i + 1, x, .cons _ t, e => by
    obtain ⟨u, h1, h2⟩ := Paired.getL (i := i) (x := x) t (by simpa using e)
    exact ⟨u, by simpa using h1, h2⟩
theorem ES.start {K : PySem.W.Frag} {as : List Addr} {os : Os} {F : Addr → Prop} {H : Hp} {N : List Str} {rs : List R} {vs : List V} (h : HS K as os F H) (pr : Paired (RepP K as F H) rs vs) : ES K as ⟨startR N rs, os⟩ F H (L2.start N vs) := by
  have hl := pr.length
  refine ⟨h, fun i r e => ?_, ?_⟩
  · unfold startR at e
    unfold L2.start
    by_cases hi : i < rs.length
    · rw [List.getElem?_append_left (by simpa using hi), List.getElem?_map] at e
      rw [List.getElem?_append_left (by simpa [← hl] using hi), List.getElem?_map]
      cases z : rs[i]? with
      | none => rw [z] at e; cases e
      | some r' =>
        rw [z] at e; cases e
        obtain ⟨v, e1, q⟩ := Paired.getL pr z
        exact ⟨v, by rw [e1]; rfl, q⟩
    · rw [List.getElem?_append_right (by simpa using hi), List.getElem?_replicate] at e
      split at e <;> cases e
  · unfold startR L2.start
    simp only [List.length_append, List.length_map, List.length_replicate, hl]
section
variable {P : Program} {wd : World} {K : PySem.W.Frag} {mg : Str → Option Value} {base : Heap}
theorem fn_ok {x qual : Str} {st : Stmt} {f : Addr} {fd : FuncData} {N ps : List Str} {k : Nat} {Φ : Sw} {w : WSx} (Fu : Fun K x qual st f fd) (S : FnScope N ps (defScope st)) (ln : ∀ rs os P PX, Φ rs os P PX → rs.length = ps.length)
    (hb : ∀ (cdv : Value) (A : Around) (outer : List Env) (s : Shared) (H : Hp) (E : XK), Room k (A.deeper (envOfC qual (defScope st) s.heap.objs.size f cdv)) → PSs (cxOf (L2.CX P wd) P wd K mg base N qual (defScope st) f cdv A outer s H E) (defBody st) (tS K (fun cls d _ H => E cls d H) w))
    (law : ∀ rs os P PX, Φ rs os P PX → w ⟨startR N rs, os⟩ (bodyPost os.length P PX)) : FnOk P wd K mg base (L2.CX P wd) (k + 1) f fd ps (spT K Φ) := by
  refine Fu.okX S (fun vs H Q E h => ?_) fun cdv A outer s H vs Q E hr h => ⟨_, hb cdv A outer s H E hr, ?_⟩
  · obtain ⟨as, os, F, rs, P, PX, hs, pr, hp, _⟩ := h
    rw [← pr.length]; exact ln _ _ _ _ hp
  · obtain ⟨as, os, F, rs, P, PX, hs, pr, hp, hq, hx⟩ := h
    refine ⟨as, ⟨startR N rs, os⟩, F, _, ES.start hs pr, law rs os P PX hp, fun σ' H' as' en' F' e s1 p => ?_, fun σ' H' as' en' F' e s1 p => p.elim, fun σ' H' as' en' F' e s1 p => p.elim, fun v σ' H' as' r en' F' e s1 rr p => ?_, fun cls d σ' H' as' er en' F' e s1 re p => ?_⟩
    · rw [show os.length = as.length from hs.len] at p
      exact hq .non H' (.sh .non) _ F' (e.hs.take s1.pre) s1.take (by simp only [RepR, Rep]) p
    · rw [show os.length = as.length from hs.len] at p
      obtain ⟨r', rr', hp'⟩ := RepR.out e.hs s1 rr p
      exact hq v H' r' _ F' (e.hs.take s1.pre) s1.take rr' hp'
    · rw [show os.length = as.length from hs.len] at p
      exact hx cls d H' er _ F' (e.hs.take s1.pre) s1.take re p
end
end L2.TL

/-! text TL6 -/
set_option Elab.async false
set_option linter.all false
set_option maxRecDepth 100000
set_option maxHeartbeats 2000000
namespace L2.TL
open PySem PySem.Spec PyProof.Rows

/-! ### targets that take a tree apart -/
abbrev Ro := List (Option R)
abbrev TGx := D → Ro → Option Ro
abbrev TGsx := List D → Ro → Option Ro
/-- σ' is σ but for the slots T -/
def Agr (T : List Nat) (σ σ' : St) : Prop := σ'.length = σ.length ∧ ∀ i, i ∉ T → σ'[i]? = σ[i]?
theorem Agr.refl {T : List Nat} {σ : St} : Agr T σ σ := ⟨rfl, fun _ _ => rfl⟩
theorem Agr.set {T : List Nat} {σ σ1 : St} {i : Nat} {v : Option V} (h : Agr T σ σ1) (hi : i ∈ T) : Agr T σ (σ1.set i v) := ⟨by rw [List.length_set]; exact h.1, fun j hj => by
  have hne : i ≠ j := fun e => hj (by rw [← e]; exact hi)
  rw [List.getElem?_set_ne hne]; exact h.2 j hj⟩
theorem Agr.mono {T U : List Nat} {σ σ1 : St} (h : Agr T σ σ1) (hs : ∀ i ∈ T, i ∈ U) : Agr U σ σ1 := ⟨h.1, fun j hj => h.2 j fun z => hj (hs j z)⟩
theorem Agr.trans {T : List Nat} {σ σ1 σ2 : St} (a : Agr T σ σ1) (b : Agr T σ1 σ2) : Agr T σ σ2 := ⟨b.1.trans a.1, fun j hj => (b.2 j hj).trans (a.2 j hj)⟩
theorem wipe_get (σ : St) (j : Nat) : ∀ vs : List Nat, (wipe σ vs)[j]? = if j ∈ vs then (if j < σ.length then some none else none) else σ[j]?
  | [] => by simp [wipe]
  | v :: vs => by
    unfold wipe
    by_cases hv : v = j
    · subst hv
      by_cases hl : v < σ.length
      · rw [List.getElem?_set_self (by rw [wipe_length]; exact hl)]; simp [hl]
      · rw [List.getElem?_eq_none (by rw [List.length_set, wipe_length]; omega)]; simp [hl]
    · rw [List.getElem?_set_ne hv, wipe_get σ j vs]
      have : (j ∈ v :: vs) = (j ∈ vs) := by simp [Ne.symm hv]
      simp only [this]
theorem Agr.wipe {T vs : List Nat} {σ σ1 : St} (h : Agr T (L2.wipe σ vs) σ1) (hs : ∀ i ∈ T, i ∈ vs) : L2.wipe σ1 vs = L2.wipe σ vs := by
  have hl : σ1.length = σ.length := by rw [h.1, wipe_length]
  apply List.ext_getElem?
  intro j
  rw [wipe_get, wipe_get, hl]
  by_cases hj : j ∈ vs
  · simp [hj]
  · simp only [hj, if_false]
    have := h.2 j fun z => hj (hs j z)
    rw [this, wipe_get]; simp [hj]
def gS (K : PySem.W.Frag) (T : List Nat) (t : TGx) : TG := fun v σ H Q => ∃ as en F d ρ', ES K as en F H σ ∧ Rep K F H d v ∧ t d en.ρ = some ρ' ∧ ∀ σ', Agr T σ σ' → ES K as ⟨ρ', en.os⟩ F H σ' → Q σ' H
def gSs (K : PySem.W.Frag) (T : List Nat) (t : TGsx) : TGs := fun vs σ H Q => ∃ as en F ds ρ', ES K as en F H σ ∧ RepL K F H ds vs ∧ t ds en.ρ = some ρ' ∧ ∀ σ', Agr T σ σ' → ES K as ⟨ρ', en.os⟩ F H σ' → Q σ' H
theorem _root_.L2.PG.weak {X : Cx} {e : Expr} {t t' : TG} (h : PG X e t) (f : ∀ v σ H Q, t' v σ H Q → t v σ H Q) : PG X e t' := ⟨fun pins s σ H v u Q I r q => h.run pins s σ H v u Q I r (f v σ H Q q)⟩
theorem _root_.L2.PGs.weak {X : Cx} {e : List Expr} {t t' : TGs} (h : PGs X e t) (f : ∀ v σ H Q, t' v σ H Q → t v σ H Q) : PGs X e t' := ⟨fun pins s σ H v u Q I r q => h.run pins s σ H v u Q I r (f v σ H Q q)⟩
section
variable {X : Cx} {pos : Pos} {e : Expr} {es : List Expr} {t : TGx} {u : TGsx}
def gN (i : Nat) : TGx := fun d ρ => some (ρ.set i (some (.sh d)))
def gsNil : TGsx := fun ds en => match ds with
  | [] => some en
  | _ => none
def gsCons (t : TGx) (u : TGsx) : TGsx := fun ds en => match ds with
  | d :: ds => (t d en).bind (u ds)
  | [] => none
def gT (u : TGsx) : TGx := fun d en => match d with
  | .tup ds => u ds en
  | _ => none
theorem tg_name (i : Nat) {x : Str} (hN : X.N.Nodup) (hi : X.N[i]? = some x) (hx : Loc X.env.scope x) (hf : X.fn x = true ∨ X.env.scope.names.lookup x = some .local := by first | exact .inl rfl | exact .inr rfl | assumption) : PG X (.Name x pos) (gS X.K [i] (gN i)) :=
  (pg_name hN hi hx hf).weak fun v σ H Q h => by
    obtain ⟨as, en, F, d, en', es, r, e, hq⟩ := h
    cases e
    exact hq _ (Agr.refl.set (by simp)) (es.set i (r := .sh d) r)
theorem tgs_nil : PGs X [] (gSs X.K [] gsNil) := pgs_nil.weak fun vs σ H Q h => by
  obtain ⟨as, en, F, ds, en', es, r, e, hq⟩ := h
  cases ds with
  | nil => cases e; simp only [RepL] at r; exact ⟨r, hq _ Agr.refl es⟩
  | cons _ _ => cases e
theorem tgs_cons {T U : List Nat} (h1 : PG X e (gS X.K T t)) (h2 : PGs X es (gSs X.K U u)) (hs : (assignEach (e :: es) X.env).map (·.2) = assign e X.env :: (assignEach es X.env).map (·.2) := by rfl) : PGs X (e :: es) (gSs X.K (T ++ U) (gsCons t u)) :=
  (pgs_cons h1 h2 hs).weak fun vs σ H Q h => by
    obtain ⟨as, en, F, ds, en', es, r, e, hq⟩ := h
    cases ds with
    | nil => cases e
    | cons d ds =>
      simp only [RepL] at r
      obtain ⟨v, ws, rfl, r1, r2⟩ := r
      simp only [gsCons] at e
      cases e1 : t d en.ρ with
      | none => rw [e1] at e; cases e
      | some ρ1 =>
        rw [e1] at e
        exact ⟨v, ws, rfl, as, en, F, d, ρ1, es, r1, e1, fun σ1 ag1 es1 => ⟨as, ⟨ρ1, en.os⟩, F, ds, en', es1, r2, e, fun σ2 ag2 => hq σ2 ((ag1.mono fun _ h => List.mem_append_left _ h).trans (ag2.mono fun _ h => List.mem_append_right _ h))⟩⟩
theorem tg_tup {k : Nat} {T : List Nat} (n : Nat) (hc : X.calm = true) (h : PGs X es (gSs X.K T u)) (hl : ∀ ds (en en' : Ro), u ds en = some en' → ds.length = n) (hn : (assignEach es X.env).length = n := by rfl) (hst : (assignEach es X.env).findIdx? (·.1) = none := by rfl) :
    PG X (.Tuple es k pos) (gS X.K T (gT u)) := (pg_tup hc h hn hst).weak fun v σ H Q h => by
  obtain ⟨as, en, F, d, en', es, r, e, hq⟩ := h
  unfold gT at e
  split at e
  · rename_i ds
    obtain ⟨a, vs, ea, q, z, rl⟩ := Sees.tup (.inl r)
    exact ⟨a, vs, ea, .of q, by rw [rl.length]; exact hl _ _ _ e, as, en, F, ds, en', es, rl, e, hq⟩
  · cases e
theorem gsCons_inv {t : TGx} {u : TGsx} {ds : List D} {en en' : Ro} (e : gsCons t u ds en = some en') : ∃ d ds' en1, ds = d :: ds' ∧ u ds' en1 = some en' := by
  cases ds with
  | nil => cases e
  | cons d ds =>
    simp only [gsCons] at e
    cases h : t d en with
    | none => rw [h] at e; cases e
    | some en1 => rw [h] at e; exact ⟨d, ds, en1, rfl, e⟩
theorem gsNil_inv {ds : List D} {en en' : Ro} (e : gsNil ds en = some en') : ds = [] := by
  cases ds with
  | nil => rfl
  | cons _ _ => cases e
theorem gs2 {t1 t2 : TGx} (ds : List D) (en en' : Ro) (e : gsCons t1 (gsCons t2 gsNil) ds en = some en') : ds.length = 2 := by
  obtain ⟨_, _, _, rfl, e1⟩ := gsCons_inv e
  obtain ⟨_, _, _, rfl, e2⟩ := gsCons_inv e1
  rw [gsNil_inv e2]; rfl
theorem gs3 {t1 t2 t3 : TGx} (ds : List D) (en en' : Ro) (e : gsCons t1 (gsCons t2 (gsCons t3 gsNil)) ds en = some en') : ds.length = 3 := by
  obtain ⟨_, _, _, rfl, e1⟩ := gsCons_inv e
  have := gs2 _ _ _ e1
  simp [this]
theorem gs4 {t1 t2 t3 t4 : TGx} (ds : List D) (en en' : Ro) (e : gsCons t1 (gsCons t2 (gsCons t3 (gsCons t4 gsNil))) ds en = some en') : ds.length = 4 := by
  obtain ⟨_, _, _, rfl, e1⟩ := gsCons_inv e
  have := gs3 _ _ _ e1
  simp [this]
end

/-! ### what is walked -/
/-- J yields the trees ds, whatever happens after the start (as0, os0, F0, H0) -/
structure Yl (K : PySem.W.Frag) (J : It) (ds : List D) (as0 : List Addr) (os0 : Os) (F0 : Addr → Prop) (H0 : Hp) : Prop where
  len : ds.length ≤ sizeLine
  go : ∀ i as os F H, HS K as os F H → Step as0 os0 F0 H0 as os F H → i < ds.length → J.go i H
  stop : ∀ i as os F H, HS K as os F H → Step as0 os0 F0 H0 as os F H → ds.length ≤ i → J.stop i H
  yld : ∀ i as en F H σ d x H', ES K as en F H σ → Step as0 os0 F0 H0 as en.os F H → ds[i]? = some d → J.yld i H x H' → ∃ F', ES K as en F' H' σ ∧ Step as en.os F H as en.os F' H' ∧ Rep K F' H' d x
abbrev WIx := En → (List D → En → Prop) → PEr → Prop
def tI (K : PySem.W.Frag) (XW : WX) (wi : WIx) : TI := fun σ H R => ∃ as en F P PX, ES K as en F H σ ∧ wi en P PX ∧
  (∀ J H' ds en' F', ES K as en' F' H' σ → Step as en.os F H as en'.os F' H' → Yl K J ds as en'.os F' H' → P ds en' → R J H') ∧ CEx K XW as en.os F H PX σ
theorem _root_.L2.PI.weak {X : Cx} {tg e : Expr} {t t' : TI} (h : PI X tg e t) (f : ∀ σ H Q, t' σ H Q → t σ H Q) : PI X tg e t' := ⟨fun pins s σ H R I q => h.run pins s σ H R I (f σ H R q)⟩

theorem yl_list {K : PySem.W.Frag} {as : List Addr} {os : Os} {F : Addr → Prop} {H : Hp} {a : Addr} {vs : List V} {ds : List D} (h : HS K as os F H) (f : F a) (e : Rd H a (.lst vs)) (z : vs.length ≤ sizeLine) (r : RepL K F H ds vs) : Yl K (Itl K a) ds as os F H := by
  have at' : ∀ {as' os' F' H'}, Step as os F H as' os' F' H' → Rd H' a (.lst vs) := fun s => (s.mon h).rd a _ f e
  refine ⟨by rw [← r.length]; exact z, fun i as' os' F' H' _ s hi => ?_, fun i as' os' F' H' _ s hi => ⟨vs, .inl (at' s), by rw [r.length]; exact hi⟩, fun i as' en F' H' σ d x H2 es s hd y => ?_⟩
  · obtain ⟨w, hw, _⟩ := r.get (List.getElem?_eq_getElem hi)
    exact ⟨vs, w, .inl (at' s), hw⟩
  · obtain ⟨rfl, y⟩ := y
    obtain ⟨w, hw, rw'⟩ := (RepL.mono (s.mon h) _ _ r).get hd
    have e := y vs (.inl (at' s))
    rw [hw] at e; cases e
    exact ⟨F', es, Step.refl, rw'⟩
theorem yl_tup {K : PySem.W.Frag} {as : List Addr} {os : Os} {F : Addr → Prop} {H : Hp} {a : Addr} {vs : List V} {ds : List D} (h : HS K as os F H) (e : H a = some (.tup vs)) (z : vs.length ≤ sizeLine) (r : RepL K F H ds vs) : Yl K (Itt K a) ds as os F H := by
  have at' : ∀ {as' os' F' H'}, Step as os F H as' os' F' H' → SqT K H' a vs := fun s => .of ((s.stay a _ e (h.notup e)).at fun z => z)
  refine ⟨by rw [← r.length]; exact z, fun i as' os' F' H' _ s hi => ?_, fun i as' os' F' H' _ s hi => ⟨vs, at' s, by rw [r.length]; exact hi⟩, fun i as' en F' H' σ d x H2 es s hd y => ?_⟩
  · obtain ⟨w, hw, _⟩ := r.get (List.getElem?_eq_getElem hi)
    exact ⟨vs, w, at' s, hw⟩
  · obtain ⟨rfl, y⟩ := y
    obtain ⟨w, hw, rw'⟩ := (RepL.mono (s.mon h) _ _ r).get hd
    have e := y vs (at' s)
    rw [hw] at e; cases e
    exact ⟨F', es, Step.refl, rw'⟩
theorem yl_range {K : PySem.W.Frag} {as : List Addr} {os : Os} {F : Addr → Prop} {H : Hp} (lo : Int) (n : Nat) (hn : n ≤ sizeLine) : Yl K (Itr lo n) ((List.range n).map fun (i : Nat) => .int (lo + (i : Int))) as os F H := by
  refine ⟨by rw [List.length_map, List.length_range]; exact hn, fun i as' os' F' H' _ s hi => (by rw [List.length_map, List.length_range] at hi; exact hi), fun i as' os' F' H' _ s hi => (by rw [List.length_map, List.length_range] at hi; exact hi), fun i as' en F' H' σ d x H2 es s hd y => ?_⟩
  obtain ⟨rfl, rfl⟩ := y
  refine ⟨F', es, Step.refl, ?_⟩
  rw [List.getElem?_map] at hd
  cases z : (List.range n)[i]? with
  | none => rw [z] at hd; cases hd
  | some j =>
    rw [z] at hd
    simp only [Option.map_some, Option.some.injEq] at hd
    obtain ⟨h1, e1⟩ := List.getElem?_eq_some_iff.mp z
    rw [List.getElem_range] at e1
    subst e1
    subst hd
    simp only [Rep]
theorem yl_new2 {K : PySem.W.Frag} {as : List Addr} {en : En} {F : Addr → Prop} {H : Hp} {σ : St} {T : Addr} {d1 d2 : D} {x y : V} (es : ES K as en F H σ) (hT : H T = none) (r1 : Rep K F H d1 x) (r2 : Rep K F H d2 y) :
    ∃ F', ES K as en F' (upd H T (.tup [x, y])) σ ∧ Step as en.os F H as en.os F' (upd H T (.tup [x, y])) ∧ Rep K F' (upd H T (.tup [x, y])) (.tup [d1, d2]) (.ref T) := by
  obtain ⟨q1, q2, q3⟩ := new_tup es Step.refl hT (by show 2 ≤ sizeLine; decide) (RepL.cons r1 (RepL.cons r2 RepL.nil))
  exact ⟨_, q1, q2, q3⟩
/-- zip, of lists or of tuples -/
theorem yl_zip {K : PySem.W.Frag} {as : List Addr} {os : Os} {F : Addr → Prop} {H : Hp} {a b : Addr} {vs us : List V} {ds es : List D} (h : HS K as os F H) (fa : F a) (e : Rd H a (.lst vs)) (z : vs.length ≤ sizeLine) (r : RepL K F H ds vs) (fb : F b) (e2 : Rd H b (.lst us)) (r2 : RepL K F H es us) :
    Yl K (Itz K a b) ((ds.zip es).map fun p => .tup [p.1, p.2]) as os F H := by
  have at' : ∀ {as' os' F' H'}, Step as os F H as' os' F' H' → SqL K H' a vs := fun s => .inl ((s.mon h).rd a _ fa e)
  have bt' : ∀ {as' os' F' H'}, Step as os F H as' os' F' H' → SqL K H' b us := fun s => .inl ((s.mon h).rd b _ fb e2)
  refine ⟨by rw [List.length_map, List.length_zip, ← r.length]; omega, fun i as' os' F' H' _ s hi => ?_, fun i as' os' F' H' _ s hi => ⟨vs, us, at' s, bt' s, ?_⟩, fun i as' en F' H' σ d x H2 es' s hd y => ?_⟩
  · simp only [List.length_map, List.length_zip] at hi
    obtain ⟨w, hw, _⟩ := r.get (List.getElem?_eq_getElem (show i < ds.length by omega))
    obtain ⟨w2, hw2, _⟩ := r2.get (List.getElem?_eq_getElem (show i < es.length by omega))
    exact ⟨vs, us, w, w2, at' s, bt' s, hw, hw2⟩
  · simp only [List.length_map, List.length_zip] at hi
    rw [r.length, r2.length]; omega
  · obtain ⟨T, x1, x2, rfl, hT, rfl, y1, y2⟩ := y
    rw [List.getElem?_map] at hd
    cases z : (ds.zip es)[i]? with
    | none => rw [z] at hd; cases hd
    | some p =>
      rw [z] at hd; cases hd
      obtain ⟨z1, z2⟩ := List.getElem?_zip_eq_some.mp z
      obtain ⟨w, hw, q1⟩ := (RepL.mono (s.mon h) _ _ r).get z1
      obtain ⟨w2, hw2, q2⟩ := (RepL.mono (s.mon h) _ _ r2).get z2
      have e1 := y1 vs (at' s); rw [hw] at e1; cases e1
      have e2 := y2 us (bt' s); rw [hw2] at e2; cases e2
      exact yl_new2 es' hT q1 q2

section
variable {X : Cx} {XW : WX} {pos p apos tpos : Pos} {a b c e o tg iter : Expr} {es : List Expr} {wa wb wc wo : WEx} {ua ub : WBx} {ws : WAx} {body : List Stmt} {w v : WSx} {wi : WIx} {t : TGx}
/-- a list or a tuple -/
theorem pi_seq {l : Expr} {tl : TE} (hl : PE X l tl) : PI X tg l (fun σ H R => tl σ H fun x H1 => ∃ a, x = .ref a ∧ (((∃ xs, SqL X.K H1 a xs) ∧ R (Itl X.K a) H1) ∨ ((∃ xs, SqT X.K H1 a xs) ∧ R (Itt X.K a) H1))) := by
  refine ⟨fun pins s σ H R I h => ?_⟩
  refine thn (hl.run pins s σ H _ I h) fun v s1 ⟨x, H1, I1, r1, q1⟩ => ?_
  obtain ⟨a, e, q⟩ := q1
  subst e
  cases r1
  rcases q with ⟨⟨xs, hq⟩, q⟩ | ⟨⟨xs, hq⟩, q⟩
  · obtain ⟨its, rv, p, hz⟩ := I1.list hq
    refine wpAny_pyIter_list p.isList ?_
    refine ⟨s1.heap.objs.size, [s1.heap.objs.size], _, _, H1, rfl, I1.kept (t' := s1.toks) fun b o e => Heap.get?_push_of_some _ e, turn_list a _, ⟨_, Heap.get?_push_size _ rfl, rfl, rfl⟩, fun b hb => ?_, q⟩
    have e : b = s1.heap.objs.size := by simpa using hb
    subst e
    exact I1.fpOk (Nat.le_refl _) (I1.hok.fresh (Nat.le_refl _))
  · obtain ⟨its, rv, p, hz⟩ := I1.tuple hq
    refine wpAny_pyIter_tuple (show s1.heap.IsTuple a its.toArray from p) ?_
    refine ⟨s1.heap.objs.size, [s1.heap.objs.size], _, _, H1, rfl, I1.kept (t' := s1.toks) fun b o e => Heap.get?_push_of_some _ e, turn_tuple a _, ⟨_, Heap.get?_push_size _ rfl, rfl, rfl⟩, fun b hb => ?_, q⟩
    have e : b = s1.heap.objs.size := by simpa using hb
    subst e
    exact I1.fpOk (Nat.le_refl _) (I1.hok.fresh (Nat.le_refl _))
def iSeq (w : WEx) : WIx := fun en P PX => w en (fun r en1 => match r.fz with
  | .sh (.lst ds) => P ds en1
  | .sh (.tup ds) => P ds en1
  | _ => False) PX
theorem ti_seq (h : PE X iter (tW X.K XW wa)) : PI X tg iter (tI X.K XW (iSeq wa)) := (pi_seq h).weak fun σ H R0 h => by
  obtain ⟨as, en, F, P, PX, es, hw, hq, hx⟩ := h
  refine ⟨as, en, F, _, PX, es, hw, fun v H1 r en1 F1 e1 s1 rr hp => ?_, hx⟩
  obtain ⟨G, g1, t1, rp, _⟩ := wait es e1 Step.refl s1 rr
  split at hp
  · rename_i ds ef
    rw [ef] at rp
    simp only [RepP, Rep] at rp
    obtain ⟨l, vs, e, f, hl, z, rl⟩ := rp
    exact ⟨l, e, .inl ⟨⟨vs, .inl hl⟩, hq _ H1 ds en1 G g1 t1 (yl_list g1.hs f hl z rl) hp⟩⟩
  · rename_i ds ef
    rw [ef] at rp
    simp only [RepP, Rep] at rp
    obtain ⟨l, vs, e, f, z, rl⟩ := rp
    exact ⟨l, e, .inr ⟨⟨vs, (.of f)⟩, hq _ H1 ds en1 G g1 t1 (yl_tup g1.hs f z rl) hp⟩⟩
  · exact hp.elim
def iRng (w : WEx) : WIx := fun en P PX => w en (fun r en1 => match r.fz with
  | .sh (.int n) => n.toNat ≤ sizeLine ∧ -(2 ^ 62) ≤ n ∧ P ((List.range n.toNat).map fun (i : Nat) => .int (0 + (i : Int))) en1
  | _ => False) PX
theorem ti_range (hg : Gl X "range") (hm : X.mg "range" = none) (ha : PE X a (tW X.K XW wa)) (hs : starEach [a] X.env = [(false, eval a X.env)] := by rfl) : PI X tg (.Call (.Name "range" p) [a] [] pos) (tI X.K XW (iRng wa)) :=
  (pi_range1 hg hm (ta_cons ha ta_nil hs) hs).weak fun σ H R0 h => by
    obtain ⟨as, en, F, P, PX, es, hw, hq, hx⟩ := h
    refine ⟨as, en, F, fun rs en1 => match rs with
      | [r] => (match r with
        | .sh (.int n) => n.toNat ≤ sizeLine ∧ -(2 ^ 62) ≤ n ∧ P ((List.range n.toNat).map fun (i : Nat) => .int (0 + (i : Int))) en1
        | _ => False)
      | _ => False, PX, es, hw, fun vs H1 rs en1 F1 e1 s1 pr hp => ?_, hx⟩
    dsimp only at hp
    split at hp
    · cases pr with
      | cons q pr =>
        cases pr
        split at hp
        · rename_i n
          simp only [RepP, Rep] at q
          subst q
          have h0 := hp.1
          rw [sizeLine_eq] at h0
          exact ⟨n, rfl, hp.2.1, by omega, hq _ H1 _ en1 F1 e1 s1 (yl_range 0 n.toNat hp.1) hp.2.2⟩
        · exact hp.elim
    · exact hp.elim

/-! ### for -/
def wLoop (t : TGx) (body : WSx) : List D → WSx
  | [] => fun en P => P.nx en
  | d :: ds => fun en P => match t d en.ρ with
    | some ρ1 => body ⟨ρ1, en.os⟩ { P with nx := fun en2 => wLoop t body ds en2 P, ct := fun en2 => wLoop t body ds en2 P, bk := P.nx }
    | none => False
def wFor (wi : WIx) (t : TGx) (body : WSx) : WSx := fun en P => wi en (fun ds en1 => wLoop t body ds en1 P) P.ex
theorem ts_for {T : List Nat} (hp : PassesOwn (model X.prog X.w) X.A X.env X.xe) (hc : X.calm = true) (hi : PI X tg iter (tI X.K XW wi)) (hg : PG X tg (gS X.K T t)) (hb : PSs X body (tS X.K XW w))
    (hs : ∀ x, foldedSetIterable iter X.env x = pure x := by intro _; rfl) : PS X (.For tg iter body [] pos) (tS X.K XW (wFor wi t w)) := (ps_for hp hc hi hg hb hs).weak fun D σ H h => by
  obtain ⟨as, en, F, P, es, hw, h1, h2, h3, h4, h5⟩ := h
  refine ⟨as, en, F, _, _, es, hw, fun J H1 ds en1 F1 e1 s1 yl hp => ?_, h5.at σ⟩
  refine ⟨fun i m σ' H' => m = ds.length - i ∧ i ≤ ds.length ∧ ∃ as' en' F', ES X.K as' en' F' H' σ' ∧ Step as en1.os F1 H1 as' en'.os F' H' ∧ wLoop t w (ds.drop i) en' P, ⟨_, rfl, Nat.zero_le _, as, en1, F1, e1, Step.refl, hp⟩, ?_⟩
  rintro i m σ2 H2 ⟨rfl, hi', as2, en2, F2, e2, s2, hl⟩
  by_cases hlt : i < ds.length
  · refine .inr ⟨yl.go i as2 en2.os F2 H2 e2.hs s2 hlt, fun σ' H' => i + 1 ≤ ds.length ∧ ∃ as' en' F', ES X.K as' en' F' H' σ' ∧ Step as en1.os F1 H1 as' en'.os F' H' ∧ wLoop t w (ds.drop (i + 1)) en' P, fun σ' H' n => ⟨ds.length - (i + 1), by omega, rfl, n⟩, fun x H3 y => ?_⟩
    obtain ⟨F3, e3, s3, r3⟩ := yl.yld i as2 en2 F2 H2 σ2 _ x H3 e2 s2 (List.getElem?_eq_getElem hlt) y
    rw [List.drop_eq_getElem_cons hlt] at hl
    simp only [wLoop] at hl
    split at hl
    · rename_i ρ1 ht
      have s4 := s2.trans s3
      have s5 := s1.trans s4
      refine ⟨as2, en2, F3, _, ρ1, e3, r3, ht, fun σ' _ es' => ⟨as2, ⟨ρ1, en2.os⟩, F3, _, es', hl, ?_, ?_, ?_, h4.from s5, h5.from s5⟩⟩
      · exact fun σ6 H6 as6 en6 F6 e6 s6 p => ⟨hlt, as6, en6, F6, e6, s4.trans s6, p⟩
      · exact fun σ6 H6 as6 en6 F6 e6 s6 p => h1.from s5 σ6 H6 as6 en6 F6 e6 s6 p
      · exact fun σ6 H6 as6 en6 F6 e6 s6 p => ⟨hlt, as6, en6, F6, e6, s4.trans s6, p⟩
    · exact hl.elim
  · refine .inl ⟨yl.stop i as2 en2.os F2 H2 e2.hs s2 (by omega), ?_⟩
    rw [List.drop_of_length_le (by omega)] at hl
    exact h1 σ2 H2 as2 en2 F2 e2 (s1.trans s2) hl

/-! ### while -/
def wWh (u : WBx) (body : WSx) : Nat → WSx
  | 0 => fun _ _ => False
  | n + 1 => fun en P => u en (fun k en1 => match k with
    | true => body en1 { P with nx := fun en2 => wWh u body n en2 P, ct := fun en2 => wWh u body n en2 P, bk := P.nx }
    | false => P.nx en1) P.ex
def wWhile (u : WBx) (body : WSx) : WSx := fun en P => ∃ n, wWh u body n en P
theorem ts_while {c : Expr} (hp : PassesOwn (model X.prog X.w) X.A X.env X.xe) (hc : PT X c (tWB X.K XW ua)) (hb : PSs X body (tS X.K XW w)) : PS X (.While c body [] pos) (tS X.K XW (wWhile ua w)) := (ps_while hp hc hb).weak fun D σ H h => by
  obtain ⟨as, en, F, P, es, ⟨n, hw⟩, h1, h2, h3, h4, h5⟩ := h
  refine ⟨fun m σ' H' => ∃ as' en' F', ES X.K as' en' F' H' σ' ∧ Step as en.os F H as' en'.os F' H' ∧ wWh ua w m en' P, ⟨n, as, en, F, es, Step.refl, hw⟩, ?_⟩
  rintro m σ1 H1 ⟨as1, en1, F1, e1, s1, hl⟩
  cases m with
  | zero => exact hl.elim
  | succ m =>
    refine ⟨as1, en1, F1, _, _, e1, hl, fun k H2 en2 F2 e2 s2 hp => ?_, (h5.from s1).at σ1⟩
    have s3 := s1.trans s2
    cases k with
    | true =>
      refine iteT ⟨fun σ' H' => ∃ as' en' F', ES X.K as' en' F' H' σ' ∧ Step as en.os F H as' en'.os F' H' ∧ wWh ua w m en' P, fun σ' H' n => ⟨m, by omega, n⟩, as1, en2, F2, _, e2, hp, ?_, ?_, ?_, h4.from s3, h5.from s3⟩
      · exact fun σ6 H6 as6 en6 F6 e6 s6 p => ⟨as6, en6, F6, e6, s3.trans s6, p⟩
      · exact fun σ6 H6 as6 en6 F6 e6 s6 p => h1.from s3 σ6 H6 as6 en6 F6 e6 s6 p
      · exact fun σ6 H6 as6 en6 F6 e6 s6 p => ⟨as6, en6, F6, e6, s3.trans s6, p⟩
    | false => exact iteF (h1 σ1 H2 as1 en2 F2 e2 s3 hp)
end
end L2.TL

/-! text TL7 -/
set_option Elab.async false
set_option linter.all false
set_option maxRecDepth 100000
set_option maxHeartbeats 2000000
namespace L2.TL
open PySem PySem.Spec PyProof.Rows

/-! ### an object that nobody else knows yet -/
section
variable {K : PySem.W.Frag} {as : List Addr} {en : En} {os : Os} {F : Addr → Prop} {H : Hp} {σ : St} {p : Addr} {o : HO}
theorem mon_priv (hf : ¬ F p) (ht : ∀ vs, H p ≠ some (.tup vs)) : Mon F H F (upd H p o) :=
  have ne : ∀ a, F a → a ≠ p := fun a f e => hf (by rw [← e]; exact f)
  ⟨fun _ z => z, fun a u f r => r.imp (fun z => by rw [upd_ne (ne a f)]; exact z) fun ⟨w, z⟩ => ⟨w, by rw [upd_ne (ne a f)]; exact z⟩, fun a u f e _ => by rw [upd_ne (ne a f)]; exact e, fun a vs e => by
    have n : a ≠ p := fun z => ht vs (by rw [← z]; exact e)
    rw [upd_ne n]; exact e⟩
theorem HS.priv (h : HS K as os F H) (hf : ¬ F p) (ht : ∀ vs, H p ≠ some (.tup vs)) (hn : p ∉ as) : HS K as os F (upd H p o) := by
  refine ⟨fun k d e => ?_, h.nd, fun a f => ?_, fun a ha => ?_, h.len⟩
  · obtain ⟨a, ha, own, nf⟩ := h.own k d e
    exact ⟨a, ha, Own.mono (mon_priv hf ht) (fun o' z => by rw [upd_ne (fun e => hn (by rw [← e]; exact List.mem_of_getElem? ha))]; exact z) own, nf⟩
  · by_cases e : a = p
    · rw [e, upd_same]; exact fun z => nomatch z
    · rw [upd_ne e]; exact h.dom a f
  · by_cases e : a = p
    · rw [e, upd_same]; exact fun z => nomatch z
    · rw [upd_ne e]; exact h.asd a ha
theorem ES.priv (es : ES K as en F H σ) (hf : ¬ F p) (ht : ∀ vs, H p ≠ some (.tup vs)) (hn : p ∉ as) : ES K as en F (upd H p o) σ :=
  ⟨es.hs.priv hf ht hn, fun i r e => let ⟨v, e1, q⟩ := es.sl i r e; ⟨v, e1, q.mono (mon_priv hf ht)⟩, es.ln⟩
theorem Step.priv {as' : List Addr} {os' : Os} {F' : Addr → Prop} {H' : Hp} (s : Step as os F H as' os' F' H') (hp : H p = none) : Step as os F H as' os' F' (upd H' p o) :=
  ⟨s.sub, s.new, fun a u e l => (s.stay a u e l).to id fun o' z => by rw [upd_ne (ne_of_none e hp)]; exact z, s.liv, s.pre, s.ext⟩
/-- it stays unknown -/
theorem Step.keep {as' : List Addr} {os' : Os} {F' : Addr → Prop} {H' : Hp} {u : HO} (s : Step as os F H as' os' F' H') (e : H p = some u) (hf : ¬ F p) (hn : p ∉ as) : H' p = some u ∧ ¬ F' p := by
  have nl : ¬ Live as os p := fun l => hn l.mem
  have nF : ¬ F' p := fun f => by
    rcases s.new p f with z | z | z
    · exact hf z
    · rw [e] at z; cases z
    · exact nl z
  exact ⟨(s.stay p u e nl).out nF, nF⟩
end

/-! ### slots of a block's own names -/
def wipeR (ρ : Ro) : List Nat → Ro
  | [] => ρ
  | v :: vs => (wipeR ρ vs).set v none
def restR (ρ0 ρ : Ro) : List Nat → Ro
  | [] => ρ
  | v :: vs => (restR ρ0 ρ vs).set v (ρ0[v]?.join)
section
variable {K : PySem.W.Frag} {as : List Addr} {en : En} {os : Os} {F : Addr → Prop} {H : Hp} {σ : St}
theorem ES.wipe (es : ES K as en F H σ) : ∀ vs : List Nat, ES K as ⟨wipeR en.ρ vs, en.os⟩ F H (L2.wipe σ vs)
  | [] => es
  | v :: vs => (ES.wipe es vs).unset v none
theorem restR_len (ρ0 ρ : Ro) : ∀ vs : List Nat, (restR ρ0 ρ vs).length = ρ.length
  | [] => rfl
  | v :: vs => by unfold restR; rw [List.length_set, restR_len ρ0 ρ vs]
theorem restR_get (ρ0 ρ : Ro) (j : Nat) : ∀ vs : List Nat, (restR ρ0 ρ vs)[j]? = if j ∈ vs then (if j < ρ.length then some (ρ0[j]?.join) else none) else ρ[j]?
  | [] => by simp [restR]
  | v :: vs => by
    unfold restR
    by_cases hv : v = j
    · subst hv
      by_cases hl : v < ρ.length
      · rw [List.getElem?_set_self (by rw [restR_len]; exact hl)]; simp [hl]
      · rw [List.getElem?_eq_none (by rw [List.length_set, restR_len]; omega)]; simp [hl]
    · rw [List.getElem?_set_ne hv, restR_get ρ0 ρ j vs]
      have : (j ∈ v :: vs) = (j ∈ vs) := by simp [Ne.symm hv]
      simp only [this]
theorem ES.rest {en' : En} {F' : Addr → Prop} {H' : Hp} {vs : List Nat} (es : ES K as en F H σ) (s : Step as en.os F H as en'.os F' H') (e' : ES K as en' F' H' (L2.wipe σ vs)) : ES K as ⟨restR en.ρ en'.ρ vs, en'.os⟩ F' H' σ := by
  have hl : en'.ρ.length = en.ρ.length := by rw [e'.ln, wipe_length, es.ln]
  refine ⟨e'.hs, fun i r e => ?_, by simp only [restR_len]; rw [hl, es.ln]⟩
  simp only [restR_get] at e
  by_cases hi : i ∈ vs
  · simp only [hi, if_true] at e
    split at e
    · simp only [Option.some.injEq] at e
      cases z : en.ρ[i]? with
      | none => rw [z] at e; cases e
      | some x =>
        rw [z] at e
        simp only [Option.join] at e
        subst e
        obtain ⟨v, e1, q⟩ := es.sl i r z
        exact ⟨v, e1, q.step s es.hs⟩
    · cases e
  · simp only [hi, if_false] at e
    obtain ⟨v, e1, q⟩ := e'.sl i r e
    exact ⟨v, (wipe_some e1).1, q⟩
end

def noX : PEr := fun _ _ => False
def wYes : WBx := fun en P _ => P true en
def XW0 : WX := fun _ _ _ _ => False
section
variable {X : Cx} {XW : WX} {pos p apos tpos : Pos} {a b c e o tg iter elt kx vx : Expr} {es ifs : List Expr} {wa wb wc wo : WEx} {ua ub : WBx} {ws : WAx} {body : List Stmt} {w v : WSx} {wi : WIx} {t : TGx}
theorem _root_.L2.PTs.weak {X : Cx} {e : List Expr} {t t' : TT} (h : PTs X e t) (f : ∀ σ H Q, t' σ H Q → t σ H Q) : PTs X e t' := ⟨fun pins s σ H Q I q => h.run pins s σ H Q I (f σ H Q q)⟩
theorem tts_nil : PTs X [] (tWB X.K XW wYes) := pts_nil.weak fun σ H Q h => by
  obtain ⟨as, en, F, P, PX, es, hw, hq, hx⟩ := h
  exact hq true H en F es Step.refl hw
theorem tts_one (h : PT X c (tWB X.K XW ua)) : PTs X [c] (tWB X.K XW ua) := pts_one h

def wLcL (t : TGx) (test : WBx) (elt : WEx) (own : List Nat) (Pend : List D → En → Prop) : List D → List D → En → Prop
  | [], acc, en => Pend acc en
  | d :: ds, acc, en => match t d en.ρ with
    | some ρ1 => test ⟨ρ1, en.os⟩ (fun k en2 => match k with
      | true => elt en2 (fun r en3 => match r.fz with
        | .sh y => wLcL t test elt own Pend ds (acc ++ [y]) ⟨wipeR en3.ρ own, en3.os⟩
        | _ => False) noX
      | false => wLcL t test elt own Pend ds acc ⟨wipeR en2.ρ own, en2.os⟩) noX
    | none => False
def wLc (wi : WIx) (t : TGx) (test : WBx) (elt : WEx) (own : List Nat) : WEx := fun en P PX => wi en (fun ds en1 => wLcL t test elt own (fun acc en2 => P (.fr (.lst acc)) ⟨restR en1.ρ en2.ρ own, en2.os⟩) ds [] ⟨wipeR en1.ρ own, en1.os⟩) PX
theorem CEx.none {K : PySem.W.Frag} {as : List Addr} {os : Os} {F : Addr → Prop} {H : Hp} {σ : St} : CEx K XW0 as os F H noX σ := fun _ _ _ _ _ _ _ _ _ h => h.elim
theorem lc_fin {K : PySem.W.Frag} {T own : List Nat} (hT : ∀ i ∈ T, i ∈ own) {σ : St} {H : Hp} {Q : VK} (h : tW K XW (wLc wi t ua wa own) σ H Q) :
    tLc (tI K XW wi) (gS K T t) (tWB K XW0 ua) (tW K XW0 wa) own σ H Q := by
  obtain ⟨as, en, F, P, PX, es, hw, hq, hx⟩ := h
  refine ⟨as, en, F, _, _, es, hw, fun J H1 ds en1 F1 e1 s1 yl hp D hD => ?_, hx⟩
  have nas : D ∉ as := e1.notin hD
  have nF1 : ¬ F1 D := e1.notF hD
  have hD0 : H D = none := by
    rcases s1.fresh hD with z | z
    · exact z
    · exact absurd z.mem nas
  refine ⟨fun i m H' => m = ds.length - i ∧ i ≤ ds.length ∧ ∃ en' F' acc vacc, ES K as en' F' H' (wipe σ own) ∧ Step as en1.os F1 H1 as en'.os F' H' ∧ H' D = some (.lst vacc) ∧ RepL K F' H' acc vacc ∧ acc.length ≤ i ∧ ¬ F' D ∧
    wLcL t ua wa own (fun acc en2 => P (.fr (.lst acc)) ⟨restR en1.ρ en2.ρ own, en2.os⟩) (ds.drop i) acc en', ⟨_, rfl, Nat.zero_le _, ⟨wipeR en1.ρ own, en1.os⟩, F1, [], [], (e1.upd_new hD).wipe own, Step.upd_new hD, upd_same, RepL.nil, Nat.le_refl _, nF1, hp⟩, ?_⟩
  rintro i m H2 ⟨rfl, hi', en2, F2, acc, vacc, e2, s2, hD2, racc, hlen, nF2, hl⟩
  by_cases hlt : i < ds.length
  · refine .inr ⟨yl.go i as en2.os F2 H2 e2.hs s2 hlt, fun H' => i + 1 ≤ ds.length ∧ ∃ en' F' acc vacc, ES K as en' F' H' (wipe σ own) ∧ Step as en1.os F1 H1 as en'.os F' H' ∧ H' D = some (.lst vacc) ∧ RepL K F' H' acc vacc ∧ acc.length ≤ i + 1 ∧ ¬ F' D ∧
      wLcL t ua wa own (fun acc en2 => P (.fr (.lst acc)) ⟨restR en1.ρ en2.ρ own, en2.os⟩) (ds.drop (i + 1)) acc en', fun H' n => ⟨ds.length - (i + 1), by omega, rfl, n⟩, fun x H3 y => ?_⟩
    obtain ⟨F3, e3, s3, r3⟩ := yl.yld i as en2 F2 H2 _ _ x H3 e2 s2 (List.getElem?_eq_getElem hlt) y
    obtain ⟨hD3, nF3⟩ := s3.keep hD2 nF2 nas
    have racc3 := RepL.mono (s3.mon e2.hs) _ _ racc
    rw [List.drop_eq_getElem_cons hlt] at hl
    simp only [wLcL] at hl
    split at hl
    · rename_i ρ1 ht
      have s4 := s2.trans s3
      refine ⟨as, en2, F3, _, ρ1, e3, r3, ht, fun σ' ag es' => ⟨ag.wipe hT, as, ⟨ρ1, en2.os⟩, F3, _, _, es', hl, fun k H5 en5 F5 e5 s5 hp5 => ?_, CEx.none⟩⟩
      obtain ⟨hD5, nF5⟩ := s5.keep hD3 nF3 nas
      have racc5 := RepL.mono (s5.mon es'.hs) _ _ racc3
      cases k with
      | false =>
        refine iteF ⟨hlt, ⟨wipeR en5.ρ own, en5.os⟩, F5, acc, vacc, ?_, s4.trans s5, hD5, racc5, by omega, nF5, hp5⟩
        have := e5.wipe own
        rw [ag.wipe hT] at this
        exact this
      | true =>
        refine iteT ⟨as, en5, F5, _, _, e5, hp5, fun v H6 r en6 F6 e6 s6 rr hp6 => ?_, CEx.none⟩
        obtain ⟨G6, g6, t6, pr6, m6⟩ := wait e5 e6 Step.refl s6 rr
        split at hp6
        · rename_i y0 ey
          rw [ey] at pr6
          obtain ⟨hD6, nG6⟩ := t6.keep hD5 nF5 nas
          have racc6 := RepL.mono (t6.mon e5.hs) _ _ racc5
          have hl6 := racc6.length
          have hds := yl.len
          refine ⟨vacc, hD6, by omega, hlt, ⟨wipeR en6.ρ own, en6.os⟩, G6, acc ++ [y0], vacc ++ [v], ?_, ((s4.trans s5).trans t6).priv hD, upd_same, ?_, by rw [List.length_append]; simp; omega, nG6, hp6⟩
          · have := (g6.priv (o := .lst (vacc ++ [v])) nG6 (fun vs => by rw [hD6]; exact fun z => nomatch z) nas).wipe own
            rw [ag.wipe hT] at this
            exact this
          · exact RepL.mono (mon_priv nG6 (fun vs => by rw [hD6]; exact fun z => nomatch z)) _ _ (racc6.append (RepL.cons pr6 RepL.nil))
        · exact hp6.elim
    · exact hl.elim
  · refine .inl ⟨yl.stop i as en2.os F2 H2 e2.hs s2 (by omega), ?_⟩
    rw [List.drop_of_length_le (by omega)] at hl
    have hds := yl.len
    have hla := racc.length
    refine hq (.ref D) H2 (.fr (.lst acc)) _ F2 (e1.rest s2 e2) (s1.trans s2) ⟨D, rfl, hD0, nas, nF2, vacc, hD2, by omega, racc⟩ hl
theorem te_lc {T : List Nat} {scope : Scope} {own : List (Str × Nat)} (hc : X.calm = true) (hN : X.N.Nodup) (hi : PI X tg iter (tI X.K XW wi)) (ok : BlkOk X.N X.env.scope scope own)
    (hg : ∀ (s : Shared) (H : Hp) (C : Addr) (cl : List (Str × Addr)) (fp : List Addr), PG (X.blk s H scope (compEnvC scope cl C X.env) fp) tg (gS X.K T t))
    (ht : ∀ (s : Shared) (H : Hp) (C : Addr) (cl : List (Str × Addr)) (fp : List Addr), PTs (X.blk s H scope (compEnvC scope cl C X.env) fp) ifs (tWB X.K XW0 ua))
    (he : ∀ (s : Shared) (H : Hp) (C : Addr) (cl : List (Str × Addr)) (fp : List Addr), PE (X.blk s H scope (compEnvC scope cl C X.env) fp) elt (tW X.K XW0 wa))
    (hT : ∀ i ∈ T, i ∈ own.map (·.2) := by decide) (hs : ∀ x, foldedSetIterable iter X.env x = pure x := by intro _; rfl) :
    PE X (.ListComp elt [⟨tg, iter, ifs, 0⟩] scope pos) (tW X.K XW (wLc wi t ua wa (own.map (·.2)))) :=
  (pe_lc hc hN hi ok hg ht he hs).weak fun σ H Q h => lc_fin hT h
/-- name = [..] on one line -/
theorem ts_setLc (i : Nat) {T : List Nat} {y : Str} {py spos : Pos} {scope : Scope} {own : List (Str × Nat)} (hc : X.calm = true) (hN : X.N.Nodup) (hy : X.N[i]? = some y) (hyl : X.env.scope.names.lookup y = some .local)
    (hsw : swapsWith (.ListComp elt [⟨tg, iter, ifs, 0⟩] scope pos) (some (.Name y py)) spos.line X.env = pure true) (hi : PI X tg iter (tI X.K XW wi)) (ok : BlkOk X.N X.env.scope scope own)
    (hg : ∀ (s : Shared) (H : Hp) (C : Addr) (cl : List (Str × Addr)) (fp : List Addr), PG (X.blk s H scope (compEnvC scope cl C X.env) fp) tg (gS X.K T t))
    (ht : ∀ (s : Shared) (H : Hp) (C : Addr) (cl : List (Str × Addr)) (fp : List Addr), PTs (X.blk s H scope (compEnvC scope cl C X.env) fp) ifs (tWB X.K XW0 ua))
    (he : ∀ (s : Shared) (H : Hp) (C : Addr) (cl : List (Str × Addr)) (fp : List Addr), PE (X.blk s H scope (compEnvC scope cl C X.env) fp) elt (tW X.K XW0 wa))
    (hT : ∀ i ∈ T, i ∈ own.map (·.2) := by decide) (hs : ∀ x, foldedSetIterable iter X.env x = pure x := by intro _; rfl) :
    PS X (.Assign [.Name y py] (.ListComp elt [⟨tg, iter, ifs, 0⟩] scope pos) spos) (tS X.K XW (wSet i (wLc wi t ua wa (own.map (·.2))))) :=
  (ps_setLc hc hN hy hyl hsw hi ok hg ht he hs).weak fun D σ H h => by
    have h' := tSet_of h
    exact lc_fin (Q := fun x H1 => gName i x σ H1 D.nx) hT h'
theorem ts_ownLc (i : Nat) {T : List Nat} {y : Str} {py spos : Pos} {scope : Scope} {own : List (Str × Nat)} (hc : X.calm = true) (hN : X.N.Nodup) (hy : X.N[i]? = some y) (hyl : X.env.scope.names.lookup y = some .local)
    (hsw : swapsWith (.ListComp elt [⟨tg, iter, ifs, 0⟩] scope pos) (some (.Name y py)) spos.line X.env = pure true) (hi : PI X tg iter (tI X.K XW wi)) (ok : BlkOk X.N X.env.scope scope own)
    (hg : ∀ (s : Shared) (H : Hp) (C : Addr) (cl : List (Str × Addr)) (fp : List Addr), PG (X.blk s H scope (compEnvC scope cl C X.env) fp) tg (gS X.K T t))
    (ht : ∀ (s : Shared) (H : Hp) (C : Addr) (cl : List (Str × Addr)) (fp : List Addr), PTs (X.blk s H scope (compEnvC scope cl C X.env) fp) ifs (tWB X.K XW0 ua))
    (he : ∀ (s : Shared) (H : Hp) (C : Addr) (cl : List (Str × Addr)) (fp : List Addr), PE (X.blk s H scope (compEnvC scope cl C X.env) fp) elt (tW X.K XW0 wa))
    (hT : ∀ i ∈ T, i ∈ own.map (·.2) := by decide) (hs : ∀ x, foldedSetIterable iter X.env x = pure x := by intro _; rfl) :
    PS X (.Assign [.Name y py] (.ListComp elt [⟨tg, iter, ifs, 0⟩] scope pos) spos) (tS X.K XW (wOwn i (wLc wi t ua wa (own.map (·.2))))) :=
  (ps_setLc hc hN hy hyl hsw hi ok hg ht he hs).weak fun D σ H h => by
    have h' := tOwn_of h
    exact lc_fin (Q := fun x H1 => gName i x σ H1 D.nx) hT h'
end

/-! ### roots changed -/
section
variable {K : PySem.W.Frag} {as : List Addr} {en : En} {os : Os} {F : Addr → Prop} {H : Hp} {σ : St} {a : Addr} {o : HO} {k : Nat} {d d' : D}
theorem HS.put (h : HS K as os F H) (hk : os[k]? = some (some d)) (ha : as[k]? = some a) (own : Own K F (upd H a o) d' a) : HS K as (os.set k (some d')) F (upd H a o) := by
  have hlt : k < os.length := (List.getElem?_eq_some_iff.mp hk).1
  obtain ⟨a0, ha0, ow0, nf⟩ := h.own k d hk
  rw [ha] at ha0; cases ha0
  refine ⟨fun j d2 e => ?_, h.nd, fun b f => ?_, fun b hb => ?_, by rw [List.length_set]; exact h.len⟩
  · by_cases hj : j = k
    · subst hj
      rw [List.getElem?_set_self hlt] at e; cases e
      exact ⟨a, ha, own, nf⟩
    · rw [List.getElem?_set_ne (Ne.symm hj)] at e
      obtain ⟨b, hb, ow, nb⟩ := h.own j d2 e
      have ne : b ≠ a := fun e => by
        subst e
        obtain ⟨h1, e1⟩ := List.getElem?_eq_some_iff.mp hb
        obtain ⟨h2, e2⟩ := List.getElem?_eq_some_iff.mp ha
        exact hj ((List.getElem_inj h.nd).mp (e1.trans e2.symm))
      exact ⟨b, hb, Own.mono (mon_priv nf ow0.notup) (fun o' z => by rw [upd_ne ne]; exact z) ow, nb⟩
  · by_cases e : b = a
    · rw [e, upd_same]; exact fun z => nomatch z
    · rw [upd_ne e]; exact h.dom b f
  · by_cases e : b = a
    · rw [e, upd_same]; exact fun z => nomatch z
    · rw [upd_ne e]; exact h.asd b hb
theorem ES.put (es : ES K as en F H σ) (hk : en.os[k]? = some (some d)) (ha : as[k]? = some a) (own : Own K F (upd H a o) d' a) : ES K as ⟨en.ρ, en.os.set k (some d')⟩ F (upd H a o) σ := by
  obtain ⟨a0, ha0, ow0, nf⟩ := es.hs.own k d hk
  rw [ha] at ha0; cases ha0
  exact ⟨es.hs.put hk ha own, fun i r e => let ⟨v, e1, q⟩ := es.sl i r e; ⟨v, e1, q.mono (mon_priv nf ow0.notup)⟩, es.ln⟩
theorem Step.put {as0 : List Addr} {os0 : Os} {F0 : Addr → Prop} {H0 : Hp} (s : Step as0 os0 F0 H0 as os F H) (hk : os[k]? = some (some d)) (ha : as[k]? = some a) : Step as0 os0 F0 H0 as (os.set k (some d')) F (upd H a o) := by
  have lv : Live as os a := ⟨k, d, ha, hk⟩
  refine ⟨s.sub, s.new, fun b u e l => ?_, fun b ⟨j, d2, e1, e2⟩ => ?_, s.pre, s.ext⟩
  · by_cases e' : b = a
    · subst e'
      rcases s.liv b lv with z | z
      · exact absurd z l
      · rw [e] at z; cases z
    · exact (s.stay b u e l).to id fun o' z => by rw [upd_ne e']; exact z
  · have hlt : k < os.length := (List.getElem?_eq_some_iff.mp hk).1
    by_cases hj : j = k
    · subst hj
      rw [ha] at e1; cases e1
      exact s.liv a lv
    · rw [List.getElem?_set_ne (Ne.symm hj)] at e2
      exact s.liv b ⟨j, d2, e1, e2⟩
end
end L2.TL

/-! text TL8 -/
set_option Elab.async false
set_option linter.all false
set_option maxRecDepth 100000
set_option maxHeartbeats 2000000
namespace L2.TL
open PySem PySem.Spec PyProof.Rows

/-! ### attributes stored -/
def gFld (K : PySem.W.Frag) (f : Str) (to : TE) : TG := fun v σ H Q => to σ H fun x H1 => ∃ a C dx fs, x = .ref a ∧ H1 a = some (.ins C dx fs) ∧ Cls K C ∧ NoAttr K C f ∧ fs.length < 1000 ∧ Q σ (upd H1 a (.ins C dx (putF f v fs)))
theorem pg_fld {X : Cx} {o : Expr} {to : TE} {f : Str} {pos : Pos} (ho : PE X o to) : PG X (.Attribute o f pos) (gFld X.K f to) := by
  refine ⟨fun pins s σ H v u Q I r h => ?_⟩
  rw [assign_Attribute]
  refine wpAny_bind (wpAny_holding (thn (ho.run pins s σ H _ I h) fun ov s1 ⟨x, H1, I1, r1, a, C, dx, fs, ex, ea, c, n, l, q⟩ => ?_))
  subst ex
  obtain rfl : ov = Value.ref a := r1
  refine wpAny_bind (wpAny_standAt (wpAny_bind (wpAny_holding (setattr_ok I1 ea c n l r fun s3 I3 => ?_))))
  exact wpAny_release ⟨σ, _, I3, q⟩
abbrev TGe := D → En → Option En
abbrev TGes := List D → En → Option En
def gE (K : PySem.W.Frag) (t : TGe) : TG := fun v σ H Q => ∃ as en F d en', ES K as en F H σ ∧ Rep K F H d v ∧ t d en = some en' ∧ ∀ σ' H', ES K as en' F H' σ' → Step as en.os F H as en'.os F H' → Q σ' H'
def gEs (K : PySem.W.Frag) (t : TGes) : TGs := fun vs σ H Q => ∃ as en F ds en', ES K as en F H σ ∧ RepL K F H ds vs ∧ t ds en = some en' ∧ ∀ σ' H', ES K as en' F H' σ' → Step as en.os F H as en'.os F H' → Q σ' H'
def geNil : TGes := fun ds en => match ds with
  | [] => some en
  | _ => none
def geCons (t : TGe) (u : TGes) : TGes := fun ds en => match ds with
  | d :: ds => (t d en).bind (u ds)
  | [] => none
def geT (u : TGes) : TGe := fun d en => match d with
  | .tup ds => u ds en
  | _ => none
def putD (f : Str) (d : D) : List (Str × D) → List (Str × D)
  | [] => [(f, d)]
  | (g, e) :: r => if g = f then (g, d) :: r else (g, e) :: putD f d r
/-- self.f = .., self a root at slot i -/
def geF (i : Nat) (C : Addr) (f : Str) : TGe := fun d en => match en.ρ[i]? with
  | some (some (.ow k)) => (match en.os[k]? with
    | some (some (.ins C' fs)) => if C' = C ∧ fs.length < 1000 then some ⟨en.ρ, en.os.set k (some (.ins C (putD f d fs)))⟩ else none
    | _ => none)
  | _ => none
theorem RepF.length {K : PySem.W.Frag} {F : Addr → Prop} {H : Hp} : ∀ {fs : List (Str × D)} {gs : List (Str × V)}, RepF K F H fs gs → gs.length = fs.length
  | [], gs, h => by simp only [RepF] at h; subst h; rfl
  | (k, d) :: fs, gs, h => by
    simp only [RepF] at h
    obtain ⟨w, ws, rfl, _, q⟩ := h
    simp [RepF.length q]
theorem RepF.put {K : PySem.W.Frag} {F : Addr → Prop} {H : Hp} {f : Str} {d : D} {v : V} (r : Rep K F H d v) : ∀ {fs : List (Str × D)} {gs : List (Str × V)}, RepF K F H fs gs → RepF K F H (putD f d fs) (putF f v gs)
  | [], gs, h => by
    simp only [RepF] at h; subst h
    simp only [putD, putF, RepF]
    exact ⟨v, [], rfl, r, rfl⟩
  | (k, e) :: fs, gs, h => by
    simp only [RepF] at h
    obtain ⟨w, ws, rfl, q, t⟩ := h
    by_cases hk : k = f
    · subst hk
      simp only [putD, putF, if_true, RepF]
      exact ⟨v, ws, rfl, r, t⟩
    · simp only [putD, putF, hk, if_false, RepF]
      exact ⟨w, _, rfl, q, RepF.put r t⟩
section
variable {X : Cx} {XW : WX} {pos p apos : Pos} {a b c e o : Expr} {es : List Expr} {wa wb wc wo : WEx} {ua ub : WBx} {ws : WAx} {t : TGe} {u : TGes}
theorem tge_fld (i : Nat) {C : Addr} {f x : Str} {p1 : Pos} (cl : Cls X.K C) (n : NoAttr X.K C f) (hN : X.N[i]? = some x := by rfl) (hv : Vis X.env.scope x := by first | exact Or.inl rfl | exact Or.inr (Or.inl rfl) | exact Or.inr (Or.inr rfl)) (hd : (x == ("__debug__" : Str)) = false := by decide)
    (hcd : (x == ("__classdict__" : Str)) = false := by decide) : PG X (.Attribute (.Name x p1) f pos) (gE X.K (geF i C f)) := (pg_fld (pe_var hN hv hd hcd)).weak fun v σ H Q h => by
  obtain ⟨as, en, F, d, en', es, r, e, hq⟩ := h
  unfold geF at e
  split at e
  · rename_i k hk
    obtain ⟨w, hw, a, ha, rfl⟩ := es.sl i _ hk
    split at e
    · rename_i C' fs ho
      split at e
      · rename_i hc
        obtain ⟨rfl, hl⟩ := hc
        cases e
        obtain ⟨a', ha', ⟨dx, gs, hH, rf⟩, nf⟩ := es.hs.own k _ ho
        rw [ha] at ha'; cases ha'
        refine ⟨_, hw, a, C', dx, gs, rfl, hH, cl, n, by rw [rf.length]; exact hl, hq _ _ (es.put ho ha ⟨dx, _, upd_same, RepF.mono (mon_priv nf (fun vs => by rw [hH]; exact fun z => nomatch z)) _ _ (RepF.put r rf)⟩) (Step.refl.put ho ha)⟩
      · cases e
    · cases e
  · cases e
theorem tges_nil : PGs X [] (gEs X.K geNil) := pgs_nil.weak fun vs σ H Q h => by
  obtain ⟨as, en, F, ds, en', es, r, e, hq⟩ := h
  cases ds with
  | nil => cases e; simp only [RepL] at r; exact ⟨r, hq _ _ es Step.refl⟩
  | cons _ _ => cases e
theorem tges_cons (h1 : PG X e (gE X.K t)) (h2 : PGs X es (gEs X.K u)) (hs : (assignEach (e :: es) X.env).map (·.2) = assign e X.env :: (assignEach es X.env).map (·.2) := by rfl) : PGs X (e :: es) (gEs X.K (geCons t u)) :=
  (pgs_cons h1 h2 hs).weak fun vs σ H Q h => by
    obtain ⟨as, en, F, ds, en', es, r, e, hq⟩ := h
    cases ds with
    | nil => cases e
    | cons d ds =>
      simp only [RepL] at r
      obtain ⟨v, ws, rfl, r1, r2⟩ := r
      simp only [geCons] at e
      cases e1 : t d en with
      | none => rw [e1] at e; cases e
      | some en1 =>
        rw [e1] at e
        exact ⟨v, ws, rfl, as, en, F, d, en1, es, r1, e1, fun σ1 H1 es1 s1 => ⟨as, en1, F, ds, en', es1, RepL.mono (s1.mon es.hs) _ _ r2, e, fun σ2 H2 es2 s2 => hq σ2 H2 es2 (s1.trans s2)⟩⟩
theorem tge_tup {k : Nat} (n : Nat) (hc : X.calm = true) (h : PGs X es (gEs X.K u)) (hl : ∀ ds (en en' : En), u ds en = some en' → ds.length = n) (hn : (assignEach es X.env).length = n := by rfl) (hst : (assignEach es X.env).findIdx? (·.1) = none := by rfl) :
    PG X (.Tuple es k pos) (gE X.K (geT u)) := (pg_tup hc h hn hst).weak fun v σ H Q h => by
  obtain ⟨as, en, F, d, en', es, r, e, hq⟩ := h
  unfold geT at e
  split at e
  · rename_i ds
    obtain ⟨a, vs, ea, q, z, rl⟩ := Sees.tup (.inl r)
    exact ⟨a, vs, ea, .of q, by rw [rl.length]; exact hl _ _ _ e, as, en, F, ds, en', es, rl, e, hq⟩
  · cases e
theorem geCons_inv {t : TGe} {u : TGes} {ds : List D} {en en' : En} (e : geCons t u ds en = some en') : ∃ d ds' en1, ds = d :: ds' ∧ u ds' en1 = some en' := by
  cases ds with
  | nil => cases e
  | cons d ds =>
    simp only [geCons] at e
    cases h : t d en with
    | none => rw [h] at e; cases e
    | some en1 => rw [h] at e; exact ⟨d, ds, en1, rfl, e⟩
theorem ge2 {t1 t2 : TGe} (ds : List D) (en en' : En) (e : geCons t1 (geCons t2 geNil) ds en = some en') : ds.length = 2 := by
  obtain ⟨_, _, _, rfl, e1⟩ := geCons_inv e
  obtain ⟨_, ds', _, rfl, e2⟩ := geCons_inv e1
  cases ds' with
  | nil => rfl
  | cons _ _ => cases e2
theorem ge3 {t1 t2 t3 : TGe} (ds : List D) (en en' : En) (e : geCons t1 (geCons t2 (geCons t3 geNil)) ds en = some en') : ds.length = 3 := by
  obtain ⟨_, _, _, rfl, e1⟩ := geCons_inv e
  have := ge2 _ _ _ e1
  simp [this]
/-- target = e -/
def wAsgE (t : TGe) (w : WEx) : WSx := fun en P => w en (fun r en1 => match r.fz with
  | .sh d => (match t d en1 with
    | some en2 => P.nx en2
    | none => False)
  | _ => False) P.ex
theorem ts_asgE {tg : Expr} (he : PE X e (tW X.K XW wa)) (hg : PG X tg (gE X.K t)) (hs : swapsWithSole [tg] e pos.line X.env = pure false := by rfl) (hw : swappedStores [tg] e X.env = pure none := by rfl)
    (h1 : (assignEach [tg] X.env).map (·.2) = [assign tg X.env] := by rfl) : PS X (.Assign [tg] e pos) (tS X.K XW (wAsgE t wa)) := (ps_asg he hg hs hw h1).weak fun D σ H h => by
  obtain ⟨as, en, F, P, es, hw, h1, h2, h3, h4, h5⟩ := h
  refine ⟨as, en, F, _, _, es, hw, fun v H' r en' F' e s rr hp => ?_, h5.at σ⟩
  obtain ⟨G, g1, t1, rp, _⟩ := wait es e Step.refl s rr
  split at hp
  · rename_i d ed
    rw [ed] at rp
    split at hp
    · rename_i en2 ht
      exact ⟨as, en', G, d, en2, g1, rp, ht, fun σ' H2 e2 s2 => h1 σ' H2 as en2 G e2 (t1.trans s2) hp⟩
    · exact hp.elim
  · exact hp.elim
/-- a, b = e, taken apart into names -/
def wAsgT (t : TGx) (w : WEx) : WSx := fun en P => w en (fun r en1 => match r.fz with
  | .sh d => (match t d en1.ρ with
    | some ρ2 => P.nx ⟨ρ2, en1.os⟩
    | none => False)
  | _ => False) P.ex
theorem ts_asgT {tg : Expr} {T : List Nat} {t : TGx} (he : PE X e (tW X.K XW wa)) (hg : PG X tg (gS X.K T t)) (hs : swapsWithSole [tg] e pos.line X.env = pure false := by rfl) (hw : swappedStores [tg] e X.env = pure none := by rfl)
    (h1 : (assignEach [tg] X.env).map (·.2) = [assign tg X.env] := by rfl) : PS X (.Assign [tg] e pos) (tS X.K XW (wAsgT t wa)) := (ps_asg he hg hs hw h1).weak fun D σ H h => by
  obtain ⟨as, en, F, P, es, hw, h1, h2, h3, h4, h5⟩ := h
  refine ⟨as, en, F, _, _, es, hw, fun v H' r en' F' e s rr hp => ?_, h5.at σ⟩
  obtain ⟨G, g1, t1, rp, _⟩ := wait es e Step.refl s rr
  split at hp
  · rename_i d ed
    rw [ed] at rp
    split at hp
    · rename_i ρ2 ht
      exact ⟨as, en', G, d, ρ2, g1, rp, ht, fun σ' _ e2 => h1 σ' H' as _ G e2 t1 hp⟩
    · exact hp.elim
  · exact hp.elim
/-- a, b = x, y of plain local names -/
def wPar (i j : Nat) (wa wb : WEx) : WSx := fun en P => wa en (fun ra en1 => wb en1 (fun rb en2 => P.nx ⟨(en2.ρ.set i (some ra.fz)).set j (some rb.fz), en2.os⟩) P.ex) P.ex
theorem ts_par (i j : Nat) {x y : Str} {px py pt : Pos} {kt k2 pt2} (hc : X.calm = true) (hN : X.N.Nodup) (hi : X.N[i]? = some x) (hj : X.N[j]? = some y) (hij : i ≠ j)
    (hx : X.env.scope.names.lookup x = some .local) (hy : X.env.scope.names.lookup y = some .local) (ha : PE X a (tW X.K XW wa)) (hb : PE X b (tW X.K XW wb))
    (hw : swappedStores [.Tuple [.Name x px, .Name y py] kt pt] (.Tuple [a, b] k2 pt2) X.env = pure (some [x, y]) := by rfl)
    (hs : swapsWithSole [.Tuple [.Name x px, .Name y py] kt pt] (.Tuple [a, b] k2 pt2) pos.line X.env = pure false := by rfl)
    (hs1 : starEach [a, b] X.env = (false, eval a X.env) :: starEach [b] X.env := by rfl) (hs2 : starEach [b] X.env = (false, eval b X.env) :: starEach [] X.env := by rfl) :
    PS X (.Assign [.Tuple [.Name x px, .Name y py] kt pt] (.Tuple [a, b] k2 pt2) pos) (tS X.K XW (wPar i j wa wb)) :=
  (ps_par hc hN hi hj hij hx hy (ta_cons ha (ta_cons hb ta_nil hs2) hs1) hw hs).weak fun D σ H h => by
    obtain ⟨as, en, F, P, es, hw, h1, h2, h3, h4, h5⟩ := h
    refine ⟨as, en, F, fun rs en2 => match rs with
      | [ra, rb] => P.nx ⟨(en2.ρ.set i (some ra)).set j (some rb), en2.os⟩
      | _ => False, _, es, hw, fun vs H1 rs en1 F1 e1 s1 pr hp => ?_, h5.at σ⟩
    cases pr with
    | nil => exact hp.elim
    | cons q1 pr =>
      cases pr with
      | nil => exact hp.elim
      | cons q2 pr =>
        cases pr with
        | nil => exact ⟨_, _, rfl, h1 _ H1 as _ F1 ((e1.set i q1).set j q2) s1 hp⟩
        | cons _ _ => exact hp.elim
end

/-! ### own classes -/
def EW (E : XK) : WX := fun cls d _ H => E cls d H
/-- a class of the module, made by an __init__ that keeps Φ -/
structure Kl (P : Program) (w : World) (K : PySem.W.Frag) (mg : Str → Option Value) (base : Heap) (k : Nat) (x : Str) (C : Addr) (Φ : Sw) : Prop where
  ex : ∃ f fd ps, FnOk P w K mg base (CX P w) k f fd ps (spT K Φ) ∧ Mk K C f ∧ mg x = some (.ref C) ∧ Binds K fd ps []
/-- a method -/
structure Mt (P : Program) (w : World) (K : PySem.W.Frag) (mg : Str → Option Value) (base : Heap) (k : Nat) (C : Addr) (m : Str) (Φ : Sw) : Prop where
  ex : ∃ f fd ps, FnOk P w K mg base (CX P w) k f fd ps (spT K Φ) ∧ Meth K C m f ∧ Cls K C ∧ Binds K fd ps []
section
variable {X : Cx} {XW : WX} {pos p apos : Pos} {a b c e o : Expr} {es : List Expr} {wa wb wc wo : WEx} {ua ub : WBx} {ws : WAx} {E : XK}
theorem passE {E : XK} (tk : Takes X (EW E)) : Passes (L2.CX X.prog X.w) X E := fun pins σ H s e s' I c => passes_call tk (fun _ _ _ _ h => h) pins σ H s e s' I c
def wMake (C : Addr) (Φ : Sw) (ws : WAx) : WEx := fun en P PX => ws en (fun rs en1 => Φ (.ow en1.os.length :: rs) (en1.os ++ [some (.ins C [])])
  (fun r os' => r = .sh .non ∧ match os'[en1.os.length]? with
    | some (some d) => P (.fr d) ⟨en1.ρ, os'.take en1.os.length⟩
    | _ => False) (fun er os' => PX er ⟨en1.ρ, os'.take en1.os.length⟩)) PX
theorem make_of {K : PySem.W.Frag} {C : Addr} {Φ : Sw} {σ : St} {H : Hp} {Q : VK} (h : tW K (EW E) (wMake C Φ ws) σ H Q) : tMake C (spT K Φ) [] E (tWA K (EW E) ws) σ H Q := by
  obtain ⟨as, en, F, P, PX, es, hw, hq, hx⟩ := h
  refine ⟨as, en, F, _, PX, es, hw, fun vs H1 rs en1 F1 e1 s1 pr hp => ?_, hx⟩
  intro x dx hxn hdn hne
  have hx1 : upd H1 dx (.own x) x = none := by rw [upd_ne (Ne.symm hne)]; exact hxn
  have g1 := (e1.upd_new (o := .own x) hdn).upd_new (o := .ins C dx []) hx1
  have nas := e1.notin hxn
  have nf := e1.notF hxn
  have hl : en1.os.length = as.length := e1.hs.len
  have own : Own K F1 (upd (upd H1 dx (.own x)) x (.ins C dx [])) (.ins C []) x := ⟨dx, [], upd_same, by simp [RepF]⟩
  have g2 := g1.root nas nf own
  have hH : H x = none := by
    rcases s1.fresh hxn with z | z
    · exact z
    · exact absurd z.mem nas
  have st : Step as en1.os F1 H1 as en1.os F1 (upd (upd H1 dx (.own x)) x (.ins C dx [])) := (Step.upd_new hdn).trans (Step.upd_new hx1)
  have st2 := st.root (d := .ins C []) hxn hl
  have pr2 : Paired (RepP K (as ++ [x]) F1 (upd (upd H1 dx (.own x)) x (.ins C dx []))) (.ow en1.os.length :: rs) (.ref x :: (vs ++ [])) := by
    rw [List.append_nil]
    refine .cons ⟨x, ?_, rfl⟩ (Paired.imp (fun r v q => q.step st2 e1.hs) pr)
    rw [List.getElem?_append_right (by omega), hl]; simp
  refine ⟨as ++ [x], _, F1, _, _, _, g2.hs, pr2, hp, fun v H' r os' F' h' s' rr hp' => ?_, fun cls d H' er os' F' h' s' re hp' => ?_⟩
  · obtain ⟨rfl, hp'⟩ := hp'
    refine ⟨by simpa only [RepR, Rep] using rr, ?_⟩
    split at hp'
    · rename_i d hd
      have s3 := st2.trans s'
      obtain ⟨x', hx', own', nf'⟩ := h'.own _ d hd
      rw [List.getElem?_append_right (by omega), hl] at hx'
      simp at hx'; subst hx'
      have pre : as <+: as ++ [x] := ⟨[x], rfl⟩
      have hh := h'.take pre
      have s4 := s3.take
      rw [← hl] at hh s4
      refine hq (.ref x) H' (.fr d) ⟨en1.ρ, os'.take en1.os.length⟩ F' (e1.call hh s4) (s1.trans s4) ⟨x, rfl, hH, nas, nf', own'⟩ hp'
    · exact hp'.elim
  · have s3 := st2.trans s'
    have pre : as <+: as ++ [x] := ⟨[x], rfl⟩
    have hh := h'.take pre
    have s4 := s3.take
    rw [← hl] at hh s4
    exact hx cls d H' er ⟨en1.ρ, os'.take en1.os.length⟩ F' (e1.call hh s4) (s1.trans s4) re hp'
theorem te_make {k j : Nat} {x : Str} {C : Addr} {Φ : Sw} (G : Kl X.prog X.w X.K X.mg X.base k x C Φ) (hr : Room j X.A) (tk : Takes X (EW E)) (ha : PA X (e :: es) (tWA X.K (EW E) ws)) (hkj : k + 1 ≤ j := by decide) (hg : Gl X x := by rfl)
    (hdb : (x == ("__debug__" : Str)) = false := by decide) (he : starEach (e :: es) X.env = (false, eval e X.env) :: starEach es X.env := by rfl) (hpl : (backTo pos (starEach es X.env)).any (·.1) = false := by rfl) :
    PE X (.Call (.Name x p) (e :: es) [] pos) (tW X.K (EW E) (wMake C Φ ws)) := by
  obtain ⟨f, fd, ps, F, M, hm, hb⟩ := G.ex
  exact (pe_make M F (hr.mono hkj) hg hm hb .nil (passE tk) ha hdb he hpl).weak fun σ H Q h => make_of h
def wMeth (C : Addr) (m : Str) (Φ : Sw) (wo : WEx) (ws : WAx) : WEx := fun en P PX => wo en (fun ro en1 => (match ro.fz.val en1.os with
  | some (.ins C' fs) => C' = C ∧ fs.lookup m = none
  | _ => False) ∧ ws en1 (fun rs en2 => Φ (ro.fz :: rs) en2.os (fun r os' => P r ⟨en2.ρ, os'⟩) (fun er os' => PX er ⟨en2.ρ, os'⟩)) PX) PX
theorem meth_of {K : PySem.W.Frag} {C : Addr} {m : Str} {Φ : Sw} {σ : St} {H : Hp} {Q : VK} (h : tW K (EW E) (wMeth C m Φ wo ws) σ H Q) : tMeth C m (spT K Φ) [] E (tW K (EW E) wo) (tWA K (EW E) ws) σ H Q := by
  obtain ⟨as, en, F, P, PX, es, hw, hq, hx⟩ := h
  refine ⟨as, en, F, _, PX, es, hw, fun v H1 r en1 F1 e1 s1 rr hp => ?_, hx⟩
  obtain ⟨G, g1, t1, rp, _⟩ := wait es e1 Step.refl s1 rr
  obtain ⟨hp1, hp⟩ := hp
  split at hp1
  · rename_i C' fs ev
    obtain ⟨rfl, hl⟩ := hp1
    obtain ⟨a, dx, gs, e2, hH, rf⟩ := (rp.sees g1.hs ev).ins
    refine ⟨a, dx, gs, e2, hH, rf.lookupN hl, as, en1, G, _, PX, g1, hp, fun vs H2 rs en2 F2 e3 s2 pr hp2 => ?_, hx.from t1⟩
    show spT K Φ (v :: (vs ++ [])) H2 Q E
    rw [List.append_nil]
    refine ⟨as, en2.os, F2, _, _, _, e3.hs, .cons (rp.step s2 g1.hs) pr, hp2, fun w H3 r3 os3 F3 h3 s3 rr3 hp3 => ?_, fun cls d H3 er os3 F3 h3 s3 re hp3 => ?_⟩
    · exact hq w H3 r3 _ F3 (e3.call h3 s3) ((t1.trans s2).trans s3) (rr3.lift (t1.trans s2)) hp3
    · exact hx cls d H3 er _ F3 (e3.call h3 s3) ((t1.trans s2).trans s3) re hp3
  · exact hp1.elim
theorem te_meth {k j : Nat} {C : Addr} {m : Str} {Φ : Sw} {pl : Sem Bool} (G : Mt X.prog X.w X.K X.mg X.base k C m Φ) (hr : Room j X.A) (tk : Takes X (EW E)) (ho : PE X o (tW X.K (EW E) wo)) (ha : PA X (e :: es) (tWA X.K (EW E) ws)) (hkj : k ≤ j := by decide)
    (hst : starEach (e :: es) X.env = (false, eval e X.env) :: starEach es X.env := by rfl) (hpl : (backTo pos (starEach es X.env)).any (·.1) = false := by rfl)
    (ht : eval (.Call (.Attribute o m apos) (e :: es) [] pos) X.env = (do
      let ov ← eval o X.env
      standAt apos.atName
      let (f, first) ← holding [ov] (getMethod ov m pl)
      callWith pos f first (backTo pos (starEach (e :: es) X.env)) (backToKw pos (keywordEach [] X.env))) := by rfl) :
    PE X (.Call (.Attribute o m apos) (e :: es) [] pos) (tW X.K (EW E) (wMeth C m Φ wo ws)) := by
  obtain ⟨f, fd, ps, F, hm, c, hb⟩ := G.ex
  exact (pe_meth ho c hm F (hr.mono hkj) hb .nil (passE tk) ha hst hpl ht).weak fun σ H Q h => meth_of h
end
end L2.TL

/-! text TL9 -/
set_option Elab.async false
set_option linter.all false
set_option maxRecDepth 100000
set_option maxHeartbeats 2000000
namespace L2.TL
open PySem PySem.Spec PyProof.Rows

/-! ### {k: v for ..} with tuples as keys -/
/-- a pair is put into a dict with tuple keys -/
theorem dictSet_tup {X : Cx} {pins : List (Addr × Obj)} {σ : St} {H : Hp} {s : Shared} {E : Value → Shared → Prop} {D b : Addr} {kvs : List (List Key × V)} {k : List Key} {v : V} {u r : Value} {Q : Unit → Shared → Prop} (hu : X.A.units + 1 < cLine)
    (I : Inv X pins σ H s) (hD : H D = some (.dT kvs)) (hz : kvs.length < sizeLine) (hb : H b = some (.tup (k.map kV))) (ry : RelV (.ref b) u) (rv : RelV v r) (h : ∀ s', Inv X pins σ (upd H D (.dT (putK kvs k v))) s' → Q () s') :
    wpAny (model X.prog X.w) X.A (dictSet D u r) Q E s := by
  obtain rfl : u = Value.ref b := ry
  obtain ⟨_, hsys, xs, rel, dd⟩ := dt_of I.hok hD
  have hxs : xs.length ≤ sizeLine := Nat.le_trans (Nat.le_of_eq (Paired.length rel).symm) (Nat.le_of_lt hz)
  have hnew : (putK kvs k v).length ≤ sizeLine := Nat.le_trans (length_putK kvs k v) hz
  refine wpAny_dictSet_heap (hsz := hxs) (knd := tupleKind (mixKind X.prog X.w)) (show X.A.units < cLine by omega) (key_of I.hok hb) dd fun h' dd' same => h _ ?_
  obtain ⟨ob, es, ep, hob, x1, x2, x3, _, x4⟩ := dd'
  have hkt := (rel.put k hb rv).keeps (H' := upd H D (.dT (putK kvs k v))) fun c ys ec => by
    rw [upd_ne (ne_of ec hD (fun z => nomatch z))]; exact ec
  exact d_write I (by rw [hD]; exact True.intro) same ⟨ob, hob⟩ ⟨hnew, hsys, _, hkt, ob, es, ep, hob, x1, x2, x3, x4⟩

def tDcT (wi : TI) (g : TG) (tt : TT) (tk tv : TE) (vs : List Nat) : TE := fun σ H Q => wi σ H fun J H1 => ∀ D, H1 D = none → ∃ W : Nat → Nat → Hp → Prop, (∃ m, W 0 m (upd H1 D (.dT []))) ∧ ∀ i m Hi, W i m Hi →
  (J.stop i Hi ∧ Q (.ref D) Hi) ∨ (J.go i Hi ∧ ∃ Nx : Hp → Prop, (∀ Hn, Nx Hn → ∃ m', m' < m ∧ W (i + 1) m' Hn) ∧ ∀ x Hx, J.yld i Hi x Hx → g x (wipe σ vs) Hx fun σ2 H2 => wipe σ2 vs = wipe σ vs ∧ tt σ2 H2 fun b H3 =>
    if b = true then tk σ2 H3 fun y H4 => tv σ2 H4 fun z H5 => ∃ kvs k c, y = .ref c ∧ H5 c = some (.tup (k.map kV)) ∧ H5 D = some (.dT kvs) ∧ kvs.length < sizeLine ∧ Nx (upd H5 D (.dT (putK kvs k z))) else Nx H3)
section
variable {X : Cx}
theorem pe_dcT {kx vx tg iter : Expr} {ifs : List Expr} {scope : Scope} {own : List (Str × Nat)} {pos : Pos} {wi : TI} {g : TG} {tt : TT} {tk tv : TE} (hu : X.A.units + 1 < cLine) (hc : X.calm = true) (hN : X.N.Nodup) (hi : PI X tg iter wi) (ok : BlkOk X.N X.env.scope scope own)
    (hg : ∀ (s : Shared) (H : Hp) (C : Addr) (cl : List (Str × Addr)) (fp : List Addr), PG (X.blk s H scope (compEnvC scope cl C X.env) fp) tg g)
    (ht : ∀ (s : Shared) (H : Hp) (C : Addr) (cl : List (Str × Addr)) (fp : List Addr), PTs (X.blk s H scope (compEnvC scope cl C X.env) fp) ifs tt)
    (hk : ∀ (s : Shared) (H : Hp) (C : Addr) (cl : List (Str × Addr)) (fp : List Addr), PE (X.blk s H scope (compEnvC scope cl C X.env) fp) kx tk)
    (hv : ∀ (s : Shared) (H : Hp) (C : Addr) (cl : List (Str × Addr)) (fp : List Addr), PE (X.blk s H scope (compEnvC scope cl C X.env) fp) vx tv)
    (hs : ∀ x, foldedSetIterable iter X.env x = pure x := by intro _; rfl) : PE X (.DictComp kx vx [⟨tg, iter, ifs, 0⟩] scope pos) (tDcT wi g tt tk tv (own.map (·.2))) := by
  refine ⟨fun pins s σ H Q I hq => ?_⟩
  rw [arm_eval_DictComp]
  have cells : ∀ y ∈ scope.names, y.2 = .free → ∃ c, X.env.cells.lookup y.1 = some c := fun y hy e => (ok.free y hy e).elim (fun z => I.ok.has _ (.inl z)) fun z => I.ok.has _ (.inr z)
  refine wpAny_comprehension_free (use := none) rfl hs (closure_ok cells) ok.kind (fun y hy e => by rw [ok.uniq y hy, e]) (thn (hi.run pins s σ H _ I hq) fun _ sa ha => thn ha fun _ sb hb => ?_)
  obtain ⟨it, fp, tn, J, Ha, rfl, Ia, T, sta, fpa, q⟩ := hb
  refine wpAny_newObj_type (newEnv_comp ?_)
  generalize eD : sb.heap.objs.size = D
  have nD : Ha D = none := Ia.hok.fresh (Nat.le_of_eq eD)
  obtain ⟨W, ⟨m0, w0⟩, turn⟩ := q D nD
  generalize esc : ({ sb with heap := sb.heap.push { cls := .type "dict", data := .dict #[] } } : Shared) = sc
  have hpsc : sc.heap = sb.heap.push { cls := .type "dict", data := .dict #[] } := by rw [← esc]
  have Ic : Inv X pins σ (upd Ha D (.dT [])) sc := by
    rw [← esc]
    refine Ia.laid (t' := sb.toks) (fun _ _ e => Heap.get?_push_of_some _ e) (Nat.le_of_eq eD) ?_
    rw [← eD]
    exact dt_empty sb.heap Ia.big
  have old : ∀ b ∈ fp, b < sb.heap.objs.size := fun b hb => let ⟨_, e, _⟩ := T.obj _ _ sta b hb; Heap.lt_size e
  have fpc : ∀ b ∈ fp, FpOk X pins (upd Ha D (.dT [])) b ∧ b < sc.heap.objs.size := fun b hb => by
    have lt := old b hb
    refine ⟨⟨by rw [upd_ne (by rw [← eD]; exact Nat.ne_of_lt lt)]; exact (fpa b hb).1, (fpa b hb).2⟩, ?_⟩
    rw [hpsc, Heap.size_push]; exact Nat.lt_succ_of_lt lt
  have stc : tn 0 sc.heap := T.keep _ _ _ sta fun b _ o e => by rw [hpsc]; exact Heap.get?_push_of_some _ e
  have Id := block_start Ic ok hN fpc
  have Pg := hg sc (upd Ha D (.dT [])) sc.heap.objs.size (cellsFrom (sc.heap.objs.size + 1) scope.names (cloFrom X.env.cells scope.names [])) fp
  have Pt := ht sc (upd Ha D (.dT [])) sc.heap.objs.size (cellsFrom (sc.heap.objs.size + 1) scope.names (cloFrom X.env.cells scope.names [])) fp
  have Pk := hk sc (upd Ha D (.dT [])) sc.heap.objs.size (cellsFrom (sc.heap.objs.size + 1) scope.names (cloFrom X.env.cells scope.names [])) fp
  have Pv := hv sc (upd Ha D (.dT [])) sc.heap.objs.size (cellsFrom (sc.heap.objs.size + 1) scope.names (cloFrom X.env.cells scope.names [])) fp
  have nfp : ∀ b ∈ fp, upd Ha D (.dT []) b = none := fun b hb => (fpc b hb).1.1
  show codeAny _ _ (.compStart (.DictComp kx vx [⟨tg, iter, ifs, 0⟩] scope pos) 0 (.ref it) (.ref D) (compEnvC scope (cellsFrom (sc.heap.objs.size + 1) scope.names (cloFrom X.env.cells scope.names [])) sc.heap.objs.size X.env)) (compPost (model X.prog X.w) X.A X.xe none (EP X pins σ Q) (.ref D) sc.heap.objs.size) { sc with heap := pushCells (sc.heap.push { cls := .type "dict", data := .dict #[] }) scope.names }
  generalize eB : compEnvC scope (cellsFrom (sc.heap.objs.size + 1) scope.names (cloFrom X.env.cells scope.names [])) sc.heap.objs.size X.env = B at Id Pg Pt Pk Pv ⊢
  have Bl : B.locals = sc.heap.objs.size := by subst eB; rfl
  generalize eG : upd Ha D (.dT []) = G at Ic Id Pg Pt Pk Pv w0 nfp fpc
  generalize eS : ({ sc with heap := pushCells (sc.heap.push { cls := .type "dict", data := .dict #[] }) scope.names } : Shared) = sd at Id ⊢
  have std : tn 0 sd.heap := T.keep _ _ _ stc fun b _ o e => by rw [← eS]; exact pushCells_keeps _ _ _ _ (Heap.get?_push_of_some _ e)
  have still : ∀ {τ : St} {Hn : Hp} {sn : Shared}, Inv (X.blk sc G scope B fp) [] τ Hn sn → (∀ b ∈ fp, Hn b = none) → ∀ b ∈ fp, FpOk (X.blk sc G scope B fp) [] Hn b := fun {τ Hn sn} In hn b hb =>
    ⟨hn b hb, (In.ok.exf b hb).1, In.ok.exfs b hb, .inl hb, fun x c e => (In.ok.exf b hb).2 x c e, fun p hp => absurd (show p ∈ ([] : List (Addr × Obj)) ++ [] from hp) (by simp)⟩
  have loop : codeAny (model X.prog X.w) X.A (.compLoop (.DictComp kx vx [⟨tg, iter, ifs, 0⟩] scope pos) 0 (.ref it) (.ref D) B) (compPost (model X.prog X.w) X.A X.xe none (EP X pins σ Q) (.ref D) sc.heap.objs.size) sd := by
    refine compLoop_anyD (fun n sn => ∃ i Hn, Inv (X.blk sc G scope B fp) [] (wipe σ (own.map (·.2))) Hn sn ∧ tn i sn.heap ∧ (∀ b ∈ fp, Hn b = none) ∧ W i n Hn) ?_ m0 ⟨0, G, Id, std, nfp, w0⟩
    rintro n s1 ⟨i, H1, I1, st1, n1, w1⟩
    rcases turn i n H1 w1 with ⟨stop, qq⟩ | ⟨go, Nx, hNx, step⟩
    · refine thnF (T.done (X.blk sc G scope B fp) rfl rfl rfl hc i [] s1 _ H1 (fun _ _ => False) I1 (still I1 n1) st1 stop) fun r s2 ⟨hr, I2⟩ => ?_
      subst hr
      have back : Inv X pins σ H1 s2 := Ic.call' (ch := fp) I2.os I2.base I2.hok I2.bare fun b hb => let z := (fpc b hb).1; ⟨z.2.2.2.1, z.2.1, z.2.2.2.2.1, z.2.2.2.2.2⟩
      have free : H1 sc.heap.objs.size = none := by rw [← Bl]; exact I2.free
      obtain ⟨m, hn, _⟩ := I2.loc
      have hn' : s2.heap.Ns sc.heap.objs.size m := by rw [← Bl]; exact hn
      refine ⟨m, hn', fun h'' same => ?_⟩
      obtain ⟨f0, f1, f2, f3, f4, f5⟩ := Ic.fpOk (Nat.le_refl _) free
      exact ⟨.ref D, H1, back.turned (t' := s2.toks) (fun b o hb e => (same.2 b hb).trans e) f0 f1 f3 f4 f5, rfl, qq⟩
    · refine thnF (T.item (X.blk sc G scope B fp) rfl rfl rfl hc i [] s1 _ H1 (fun _ _ => False) I1 (still I1 n1) st1 go) fun r s2 ⟨u, hr, h2⟩ => ?_
      subst hr
      refine thnF h2 fun _ s3 ⟨x, H3, I3, r3, y3, st3, n3⟩ => ?_
      have pinned := I3.pinned (still I3 n3) (T.obj _ _ st3)
      refine thnF (Pg.run _ s3 _ H3 x u _ pinned r3 (step x H3 y3)) fun _ s4 ⟨σ4, H4, I4, hw4, q4⟩ => ?_
      refine thnF (Pt.run _ s4 σ4 H4 _ I4 q4) fun b s5 ⟨H5, I5, q5⟩ => ?_
      have next : ∀ {sn : Shared} {Hn : Hp}, Inv (X.blk sc G scope B fp) ([] ++ pinsAt fp s3.heap) σ4 Hn sn → Nx Hn → ∃ m, m < n ∧ ∃ i Hn, Inv (X.blk sc G scope B fp) [] (wipe σ (own.map (·.2))) Hn sn ∧ tn i sn.heap ∧ (∀ b ∈ fp, Hn b = none) ∧ W i m Hn := fun {sn Hn} In nx => by
        obtain ⟨m', hm, w'⟩ := hNx Hn nx
        have held : ∀ b ∈ fp, ∀ o, s3.heap.get? b = some o → sn.heap.get? b = some o ∧ Hn b = none := fun b hb o e =>
          have z := In.pin (b, o) (List.mem_append_right _ (List.mem_append_right _ (mem_pinsAt hb e)))
          ⟨z.1, z.2.1⟩
        refine ⟨m', hm, i + 1, Hn, (In.unpinned (pins := [])).weak (by rw [← hw4, wipe_length]) (fun j v e => ?_), T.keep _ _ _ st3 fun b hb o e => (held b hb o e).1, fun b hb => ?_, w'⟩
        · rw [← hw4] at e; exact (wipe_some e).1
        · obtain ⟨o, e, _⟩ := T.obj _ _ st3 b hb
          exact (held b hb o e).2
      cases b with
      | false =>
        rw [if_neg Bool.false_ne_true] at q5 ⊢
        exact next I5 q5
      | true =>
        rw [if_pos rfl] at q5 ⊢
        refine thnF (Pk.run _ s5 σ4 H5 _ I5 q5) fun yk s6 ⟨vk, H6, I6, r6, q6⟩ => ?_
        refine thnF (Pv.run _ s6 σ4 H6 _ I6 q6) fun yv s7 ⟨vv, H7, I7, r7, kvs, k, c, ek, ec, hD7, hz7, nx⟩ => ?_
        subst ek
        exact dictSet_tup (X := X.blk sc G scope B fp) hu I7 hD7 hz7 ec r6 r7 fun s8 I8 => next I8 nx
  exact codeAny_compStart_dict loop (T.self X.A 0 _ _ _ std loop)
end
end L2.TL

/-! text TL10 -/
set_option Elab.async false
set_option linter.all false
set_option maxRecDepth 100000
set_option maxHeartbeats 2000000
namespace L2.TL
open PySem PySem.Spec PyProof.Rows

/-! ### dicts as lists of pairs -/
section
variable {κ : Type} [DecidableEq κ]
def getKD (kvs : List (κ × D)) (k : κ) : Option D := (kvs.find? fun kv => decide (kv.1 = k)).map (·.2)
def putKD (kvs : List (κ × D)) (k : κ) (d : D) : List (κ × D) :=
  if (kvs.any fun kv => decide (kv.1 = k)) = true then kvs.map (fun kv => if kv.1 = k then (kv.1, d) else kv) else kvs ++ [(k, d)]
end
def keyD : D → Option Key
  | .int i => some (.inl i)
  | .str x => some (.inr x)
  | _ => none
def keysD : D → Option (List Key)
  | .tup ds => ds.mapM keyD
  | _ => none
section
variable {K : PySem.W.Frag} {F : Addr → Prop} {H : Hp}
theorem keyD_rep {d : D} {k : Key} {v : V} (e : keyD d = some k) (s : Sees K F H d v) : v = kV k := by
  cases d <;> simp only [keyD] at e <;> cases e
  · exact s.int
  · exact s.str
theorem keysD_rep {ds : List D} : ∀ {ks : List Key} {vs : List V}, ds.mapM keyD = some ks → RepL K F H ds vs → vs = ks.map kV := by
  induction ds with
  | nil => intro ks vs e r; simp at e; subst e; simp only [RepL] at r; subst r; rfl
  | cons d ds ih =>
    intro ks vs e r
    simp only [RepL] at r
    obtain ⟨w, ws, rfl, r1, r2⟩ := r
    rw [List.mapM_cons] at e
    cases h1 : keyD d with
    | none => rw [h1] at e; cases e
    | some k =>
      rw [h1] at e
      cases h2 : ds.mapM keyD with
      | none => rw [h2] at e; cases e
      | some ks' =>
        rw [h2] at e
        cases e
        rw [keyD_rep h1 (.inl r1), ih h2 r2]; rfl
theorem repK_any (k : Key) : ∀ {kvs : List (Key × D)} {ks : List (Key × V)}, RepK K F H kvs ks → (ks.any fun kv => decide (kv.1 = k)) = (kvs.any fun kv => decide (kv.1 = k))
  | [], ks, h => by simp only [RepK] at h; subst h; rfl
  | (j, d) :: r, ks, h => by
    simp only [RepK] at h
    obtain ⟨w, ws, rfl, _, q⟩ := h
    simp only [List.any_cons, repK_any k q]
theorem repK_map (k : Key) {d : D} {v : V} (r : Rep K F H d v) : ∀ {kvs : List (Key × D)} {ks : List (Key × V)}, RepK K F H kvs ks → RepK K F H (kvs.map fun kv => if kv.1 = k then (kv.1, d) else kv) (ks.map fun kv => if kv.1 = k then (kv.1, v) else kv)
  | [], ks, h => by simp only [RepK] at h; subst h; simp [RepK]
  | (j, e) :: t, ks, h => by
    simp only [RepK] at h
    obtain ⟨w, ws, rfl, q, z⟩ := h
    by_cases hj : j = k
    · simp only [List.map_cons, hj, if_true, RepK]
      exact ⟨v, _, rfl, r, repK_map k r z⟩
    · simp only [List.map_cons, hj, if_false, RepK]
      exact ⟨w, _, rfl, q, repK_map k r z⟩
theorem repK_snoc {k : Key} {d : D} {v : V} (r : Rep K F H d v) : ∀ {kvs : List (Key × D)} {ks : List (Key × V)}, RepK K F H kvs ks → RepK K F H (kvs ++ [(k, d)]) (ks ++ [(k, v)])
  | [], ks, h => by simp only [RepK] at h; subst h; simp only [List.nil_append, RepK]; exact ⟨v, [], rfl, r, rfl⟩
  | (j, e) :: t, ks, h => by
    simp only [RepK] at h
    obtain ⟨w, ws, rfl, q, z⟩ := h
    simp only [List.cons_append, RepK]
    exact ⟨w, _, rfl, q, repK_snoc r z⟩
theorem RepK.put {k : Key} {d : D} {v : V} (r : Rep K F H d v) {kvs : List (Key × D)} {ks : List (Key × V)} (h : RepK K F H kvs ks) : RepK K F H (putKD kvs k d) (putK ks k v) := by
  unfold putKD putK
  rw [repK_any k h]
  split
  · exact repK_map k r h
  · exact repK_snoc r h
theorem RepK.get {k : Key} : ∀ {kvs : List (Key × D)} {ks : List (Key × V)}, RepK K F H kvs ks → match getKD kvs k with
    | some d => ∃ v, valV ks k = some v ∧ Rep K F H d v
    | none => valV ks k = none
  | [], ks, h => by simp only [RepK] at h; subst h; rfl
  | (j, e) :: t, ks, h => by
    simp only [RepK] at h
    obtain ⟨w, ws, rfl, q, z⟩ := h
    by_cases hj : j = k
    · subst hj
      simp only [getKD, List.find?_cons, decide_true, valV]
      exact ⟨w, rfl, q⟩
    · have e1 : getKD ((j, e) :: t) k = getKD t k := by simp [getKD, List.find?_cons, hj]
      have e2 : valV ((j, w) :: ws) k = valV ws k := by simp [valV, List.find?_cons, hj]
      rw [e1, e2]
      exact RepK.get z
theorem RepK.length : ∀ {kvs : List (Key × D)} {ks : List (Key × V)}, RepK K F H kvs ks → ks.length = kvs.length
  | [], ks, h => by simp only [RepK] at h; subst h; rfl
  | (j, e) :: t, ks, h => by
    simp only [RepK] at h
    obtain ⟨w, ws, rfl, _, z⟩ := h
    simp [RepK.length z]
theorem RepK.nth : ∀ {kvs : List (Key × D)} {ks : List (Key × V)} {i : Nat} {k : Key} {d : D}, RepK K F H kvs ks → kvs[i]? = some (k, d) → ∃ v, ks[i]? = some (k, v) ∧ Rep K F H d v
  | [], _, _, _, _, _, e => by simp at e
  | (j, e) :: t, ks, 0, _, _, h, e1 => by
    simp only [RepK] at h
    obtain ⟨w, ws, rfl, q, _⟩ := h
    simp at e1; obtain ⟨rfl, rfl⟩ := e1
    exact ⟨w, rfl, q⟩
  | (j, e) :: t, ks, i + 1, _, _, h, e1 => by
    simp only [RepK] at h
    obtain ⟨w, ws, rfl, _, z⟩ := h
    exact RepK.nth (i := i) z (by simpa using e1)
theorem repT_any (k : List Key) : ∀ {kvs : List (List Key × D)} {ks : List (List Key × V)}, RepT K F H kvs ks → (ks.any fun kv => decide (kv.1 = k)) = (kvs.any fun kv => decide (kv.1 = k))
  | [], ks, h => by simp only [RepT] at h; subst h; rfl
  | (j, d) :: r, ks, h => by
    simp only [RepT] at h
    obtain ⟨w, ws, rfl, _, q⟩ := h
    simp only [List.any_cons, repT_any k q]
theorem repT_map (k : List Key) {d : D} {v : V} (r : Rep K F H d v) : ∀ {kvs : List (List Key × D)} {ks : List (List Key × V)}, RepT K F H kvs ks → RepT K F H (kvs.map fun kv => if kv.1 = k then (kv.1, d) else kv) (ks.map fun kv => if kv.1 = k then (kv.1, v) else kv)
  | [], ks, h => by simp only [RepT] at h; subst h; simp [RepT]
  | (j, e) :: t, ks, h => by
    simp only [RepT] at h
    obtain ⟨w, ws, rfl, q, z⟩ := h
    by_cases hj : j = k
    · simp only [List.map_cons, hj, if_true, RepT]
      exact ⟨v, _, rfl, r, repT_map k r z⟩
    · simp only [List.map_cons, hj, if_false, RepT]
      exact ⟨w, _, rfl, q, repT_map k r z⟩
theorem repT_snoc {k : List Key} {d : D} {v : V} (r : Rep K F H d v) : ∀ {kvs : List (List Key × D)} {ks : List (List Key × V)}, RepT K F H kvs ks → RepT K F H (kvs ++ [(k, d)]) (ks ++ [(k, v)])
  | [], ks, h => by simp only [RepT] at h; subst h; simp only [List.nil_append, RepT]; exact ⟨v, [], rfl, r, rfl⟩
  | (j, e) :: t, ks, h => by
    simp only [RepT] at h
    obtain ⟨w, ws, rfl, q, z⟩ := h
    simp only [List.cons_append, RepT]
    exact ⟨w, _, rfl, q, repT_snoc r z⟩
theorem RepT.put {k : List Key} {d : D} {v : V} (r : Rep K F H d v) {kvs : List (List Key × D)} {ks : List (List Key × V)} (h : RepT K F H kvs ks) : RepT K F H (putKD kvs k d) (putK ks k v) := by
  unfold putKD putK
  rw [repT_any k h]
  split
  · exact repT_map k r h
  · exact repT_snoc r h
theorem RepT.length : ∀ {kvs : List (List Key × D)} {ks : List (List Key × V)}, RepT K F H kvs ks → ks.length = kvs.length
  | [], ks, h => by simp only [RepT] at h; subst h; rfl
  | (j, e) :: t, ks, h => by
    simp only [RepT] at h
    obtain ⟨w, ws, rfl, _, z⟩ := h
    simp [RepT.length z]
theorem RepT.keys : ∀ {kvs : List (List Key × D)} {ks : List (List Key × V)}, RepT K F H kvs ks → ks.map (·.1) = kvs.map (·.1)
  | [], ks, h => by simp only [RepT] at h; subst h; rfl
  | (j, e) :: t, ks, h => by
    simp only [RepT] at h
    obtain ⟨w, ws, rfl, _, z⟩ := h
    simp [RepT.keys z]
end
theorem putKD_len {κ : Type} [DecidableEq κ] (kvs : List (κ × D)) (k : κ) (d : D) : (putKD kvs k d).length ≤ kvs.length + 1 := by
  unfold putKD
  split
  · rw [List.length_map]; omega
  · rw [List.length_append, List.length_cons, List.length_nil]; omega

/-! ### {k: v for ..} -/
def wDcL {κ : Type} [DecidableEq κ] (keyOf : D → Option κ) (t : TGx) (test : WBx) (kx vx : WEx) (own : List Nat) (Pend : List (κ × D) → En → Prop) : List D → List (κ × D) → En → Prop
  | [], acc, en => Pend acc en
  | d :: ds, acc, en => match t d en.ρ with
    | some ρ1 => test ⟨ρ1, en.os⟩ (fun k en2 => match k with
      | true => kx en2 (fun rk en3 => vx en3 (fun rv en4 => match rk.fz, rv.fz with
        | .sh dk, .sh dv => (match keyOf dk with
          | some kk => wDcL keyOf t test kx vx own Pend ds (putKD acc kk dv) ⟨wipeR en4.ρ own, en4.os⟩
          | none => False)
        | _, _ => False) noX) noX
      | false => wDcL keyOf t test kx vx own Pend ds acc ⟨wipeR en2.ρ own, en2.os⟩) noX
    | none => False
def wDc (wi : WIx) (t : TGx) (test : WBx) (kx vx : WEx) (own : List Nat) : WEx := fun en P PX => wi en (fun ds en1 => wDcL keyD t test kx vx own (fun acc en2 => P (.fr (.dk acc)) ⟨restR en1.ρ en2.ρ own, en2.os⟩) ds [] ⟨wipeR en1.ρ own, en1.os⟩) PX
def wDcT (wi : WIx) (t : TGx) (test : WBx) (kx vx : WEx) (own : List Nat) : WEx := fun en P PX => wi en (fun ds en1 => wDcL keysD t test kx vx own (fun acc en2 => P (.fr (.dt acc)) ⟨restR en1.ρ en2.ρ own, en2.os⟩) ds [] ⟨wipeR en1.ρ own, en1.os⟩) PX
section
variable {X : Cx} {XW : WX} {pos p apos tpos : Pos} {a b c e o tg iter elt kx vx : Expr} {es ifs : List Expr} {wa wb wc wo : WEx} {ua ub : WBx} {ws : WAx} {body : List Stmt} {w v : WSx} {wi : WIx} {t : TGx}
theorem dc_fin {K : PySem.W.Frag} {T own : List Nat} (hT : ∀ i ∈ T, i ∈ own) {σ : St} {H : Hp} {Q : VK} (h : tW K XW (wDc wi t ua wa wb own) σ H Q) :
    tDc (tI K XW wi) (gS K T t) (tWB K XW0 ua) (tW K XW0 wa) (tW K XW0 wb) own σ H Q := by
  obtain ⟨as, en, F, P, PX, es, hw, hq, hx⟩ := h
  refine ⟨as, en, F, _, _, es, hw, fun J H1 ds en1 F1 e1 s1 yl hp D hD => ?_, hx⟩
  have nas : D ∉ as := e1.notin hD
  have nF1 : ¬ F1 D := e1.notF hD
  have hD0 : H D = none := by
    rcases s1.fresh hD with z | z
    · exact z
    · exact absurd z.mem nas
  have nt : ∀ {G : Hp} {u : List (Key × V)}, G D = some (.dK u) → ∀ vs, G D ≠ some (.tup vs) := fun e vs => by rw [e]; exact fun z => nomatch z
  refine ⟨fun i m H' => m = ds.length - i ∧ i ≤ ds.length ∧ ∃ en' F' acc vacc, ES K as en' F' H' (wipe σ own) ∧ Step as en1.os F1 H1 as en'.os F' H' ∧ H' D = some (.dK vacc) ∧ RepK K F' H' acc vacc ∧ acc.length ≤ i ∧ ¬ F' D ∧
    wDcL keyD t ua wa wb own (fun acc en2 => P (.fr (.dk acc)) ⟨restR en1.ρ en2.ρ own, en2.os⟩) (ds.drop i) acc en', ⟨_, rfl, Nat.zero_le _, ⟨wipeR en1.ρ own, en1.os⟩, F1, [], [], (e1.upd_new hD).wipe own, Step.upd_new hD, upd_same, by simp [RepK], Nat.le_refl _, nF1, hp⟩, ?_⟩
  rintro i m H2 ⟨rfl, hi', en2, F2, acc, vacc, e2, s2, hD2, racc, hlen, nF2, hl⟩
  by_cases hlt : i < ds.length
  · refine .inr ⟨yl.go i as en2.os F2 H2 e2.hs s2 hlt, fun H' => i + 1 ≤ ds.length ∧ ∃ en' F' acc vacc, ES K as en' F' H' (wipe σ own) ∧ Step as en1.os F1 H1 as en'.os F' H' ∧ H' D = some (.dK vacc) ∧ RepK K F' H' acc vacc ∧ acc.length ≤ i + 1 ∧ ¬ F' D ∧
      wDcL keyD t ua wa wb own (fun acc en2 => P (.fr (.dk acc)) ⟨restR en1.ρ en2.ρ own, en2.os⟩) (ds.drop (i + 1)) acc en', fun H' n => ⟨ds.length - (i + 1), by omega, rfl, n⟩, fun x H3 y => ?_⟩
    obtain ⟨F3, e3, s3, r3⟩ := yl.yld i as en2 F2 H2 _ _ x H3 e2 s2 (List.getElem?_eq_getElem hlt) y
    obtain ⟨hD3, nF3⟩ := s3.keep hD2 nF2 nas
    have racc3 := RepK.mono (s3.mon e2.hs) _ _ racc
    rw [List.drop_eq_getElem_cons hlt] at hl
    simp only [wDcL] at hl
    split at hl
    · rename_i ρ1 ht
      have s4 := s2.trans s3
      refine ⟨as, en2, F3, _, ρ1, e3, r3, ht, fun σ' ag es' => ⟨ag.wipe hT, as, ⟨ρ1, en2.os⟩, F3, _, _, es', hl, fun k H5 en5 F5 e5 s5 hp5 => ?_, CEx.none⟩⟩
      obtain ⟨hD5, nF5⟩ := s5.keep hD3 nF3 nas
      have racc5 := RepK.mono (s5.mon es'.hs) _ _ racc3
      cases k with
      | false =>
        refine iteF ⟨hlt, ⟨wipeR en5.ρ own, en5.os⟩, F5, acc, vacc, ?_, s4.trans s5, hD5, racc5, by omega, nF5, hp5⟩
        have := e5.wipe own
        rw [ag.wipe hT] at this
        exact this
      | true =>
        refine iteT ⟨as, en5, F5, _, _, e5, hp5, fun vk H6 rk en6 F6 e6 s6 rrk hp6 => ?_, CEx.none⟩
        obtain ⟨G6, g6, t6, prk, _⟩ := wait e5 e6 Step.refl s6 rrk
        obtain ⟨hD6, nG6⟩ := t6.keep hD5 nF5 nas
        have racc6 := RepK.mono (t6.mon e5.hs) _ _ racc5
        refine ⟨as, en6, G6, _, _, g6, hp6, fun vv H7 rv en7 F7 e7 s7 rrv hp7 => ?_, CEx.none⟩
        obtain ⟨G7, g7, t7, prv, _⟩ := wait g6 e7 Step.refl s7 rrv
        obtain ⟨hD7, nG7⟩ := t7.keep hD6 nG6 nas
        have racc7 := RepK.mono (t7.mon g6.hs) _ _ racc6
        have prk7 := prk.step t7 g6.hs
        split at hp7
        · rename_i dk dv edk edv
          rw [edk] at prk7
          rw [edv] at prv
          split at hp7
          · rename_i kk hk
            have hds := yl.len
            have hl7 := racc7.length
            refine ⟨vacc, kk, keyD_rep hk (.inl prk7), hD7, by omega, hlt, ⟨wipeR en7.ρ own, en7.os⟩, G7, putKD acc kk dv, putK vacc kk vv, ?_, (((s4.trans s5).trans t6).trans t7).priv hD, upd_same, ?_, ?_, nG7, hp7⟩
            · have := (g7.priv (o := .dK (putK vacc kk vv)) nG7 (nt hD7) nas).wipe own
              rw [ag.wipe hT] at this
              exact this
            · exact RepK.mono (mon_priv nG7 (nt hD7)) _ _ (racc7.put prv)
            · have := putKD_len acc kk dv; omega
          · exact hp7.elim
        · exact hp7.elim
    · exact hl.elim
  · refine .inl ⟨yl.stop i as en2.os F2 H2 e2.hs s2 (by omega), ?_⟩
    rw [List.drop_of_length_le (by omega)] at hl
    exact hq (.ref D) H2 (.fr (.dk acc)) _ F2 (e1.rest s2 e2) (s1.trans s2) ⟨D, rfl, hD0, nas, nF2, vacc, hD2, racc⟩ hl
theorem dcT_fin {K : PySem.W.Frag} {T own : List Nat} (hT : ∀ i ∈ T, i ∈ own) {σ : St} {H : Hp} {Q : VK} (h : tW K XW (wDcT wi t ua wa wb own) σ H Q) :
    tDcT (tI K XW wi) (gS K T t) (tWB K XW0 ua) (tW K XW0 wa) (tW K XW0 wb) own σ H Q := by
  obtain ⟨as, en, F, P, PX, es, hw, hq, hx⟩ := h
  refine ⟨as, en, F, _, _, es, hw, fun J H1 ds en1 F1 e1 s1 yl hp D hD => ?_, hx⟩
  have nas : D ∉ as := e1.notin hD
  have nF1 : ¬ F1 D := e1.notF hD
  have hD0 : H D = none := by
    rcases s1.fresh hD with z | z
    · exact z
    · exact absurd z.mem nas
  have nt : ∀ {G : Hp} {u : List (List Key × V)}, G D = some (.dT u) → ∀ vs, G D ≠ some (.tup vs) := fun e vs => by rw [e]; exact fun z => nomatch z
  refine ⟨fun i m H' => m = ds.length - i ∧ i ≤ ds.length ∧ ∃ en' F' acc vacc, ES K as en' F' H' (wipe σ own) ∧ Step as en1.os F1 H1 as en'.os F' H' ∧ H' D = some (.dT vacc) ∧ RepT K F' H' acc vacc ∧ acc.length ≤ i ∧ ¬ F' D ∧
    wDcL keysD t ua wa wb own (fun acc en2 => P (.fr (.dt acc)) ⟨restR en1.ρ en2.ρ own, en2.os⟩) (ds.drop i) acc en', ⟨_, rfl, Nat.zero_le _, ⟨wipeR en1.ρ own, en1.os⟩, F1, [], [], (e1.upd_new hD).wipe own, Step.upd_new hD, upd_same, by simp [RepT], Nat.le_refl _, nF1, hp⟩, ?_⟩
  rintro i m H2 ⟨rfl, hi', en2, F2, acc, vacc, e2, s2, hD2, racc, hlen, nF2, hl⟩
  by_cases hlt : i < ds.length
  · refine .inr ⟨yl.go i as en2.os F2 H2 e2.hs s2 hlt, fun H' => i + 1 ≤ ds.length ∧ ∃ en' F' acc vacc, ES K as en' F' H' (wipe σ own) ∧ Step as en1.os F1 H1 as en'.os F' H' ∧ H' D = some (.dT vacc) ∧ RepT K F' H' acc vacc ∧ acc.length ≤ i + 1 ∧ ¬ F' D ∧
      wDcL keysD t ua wa wb own (fun acc en2 => P (.fr (.dt acc)) ⟨restR en1.ρ en2.ρ own, en2.os⟩) (ds.drop (i + 1)) acc en', fun H' n => ⟨ds.length - (i + 1), by omega, rfl, n⟩, fun x H3 y => ?_⟩
    obtain ⟨F3, e3, s3, r3⟩ := yl.yld i as en2 F2 H2 _ _ x H3 e2 s2 (List.getElem?_eq_getElem hlt) y
    obtain ⟨hD3, nF3⟩ := s3.keep hD2 nF2 nas
    have racc3 := RepT.mono (s3.mon e2.hs) _ _ racc
    rw [List.drop_eq_getElem_cons hlt] at hl
    simp only [wDcL] at hl
    split at hl
    · rename_i ρ1 ht
      have s4 := s2.trans s3
      refine ⟨as, en2, F3, _, ρ1, e3, r3, ht, fun σ' ag es' => ⟨ag.wipe hT, as, ⟨ρ1, en2.os⟩, F3, _, _, es', hl, fun k H5 en5 F5 e5 s5 hp5 => ?_, CEx.none⟩⟩
      obtain ⟨hD5, nF5⟩ := s5.keep hD3 nF3 nas
      have racc5 := RepT.mono (s5.mon es'.hs) _ _ racc3
      cases k with
      | false =>
        refine iteF ⟨hlt, ⟨wipeR en5.ρ own, en5.os⟩, F5, acc, vacc, ?_, s4.trans s5, hD5, racc5, by omega, nF5, hp5⟩
        have := e5.wipe own
        rw [ag.wipe hT] at this
        exact this
      | true =>
        refine iteT ⟨as, en5, F5, _, _, e5, hp5, fun vk H6 rk en6 F6 e6 s6 rrk hp6 => ?_, CEx.none⟩
        obtain ⟨G6, g6, t6, prk, _⟩ := wait e5 e6 Step.refl s6 rrk
        obtain ⟨hD6, nG6⟩ := t6.keep hD5 nF5 nas
        have racc6 := RepT.mono (t6.mon e5.hs) _ _ racc5
        refine ⟨as, en6, G6, _, _, g6, hp6, fun vv H7 rv en7 F7 e7 s7 rrv hp7 => ?_, CEx.none⟩
        obtain ⟨G7, g7, t7, prv, _⟩ := wait g6 e7 Step.refl s7 rrv
        obtain ⟨hD7, nG7⟩ := t7.keep hD6 nG6 nas
        have racc7 := RepT.mono (t7.mon g6.hs) _ _ racc6
        have prk7 := prk.step t7 g6.hs
        split at hp7
        · rename_i dk dv edk edv
          rw [edk] at prk7
          rw [edv] at prv
          split at hp7
          · rename_i kk hk
            have hds := yl.len
            have hl7 := racc7.length
            cases dk with
            | tup ds0 =>
              simp only [keysD] at hk
              obtain ⟨c0, vs0, rfl, hc0, _, rl0⟩ := Sees.tup (.inl prk7)
              rw [keysD_rep hk rl0] at hc0
              refine ⟨vacc, kk, c0, rfl, hc0, hD7, by omega, hlt, ⟨wipeR en7.ρ own, en7.os⟩, G7, putKD acc kk dv, putK vacc kk vv, ?_, (((s4.trans s5).trans t6).trans t7).priv hD, upd_same, ?_, ?_, nG7, hp7⟩
              · have := (g7.priv (o := .dT (putK vacc kk vv)) nG7 (nt hD7) nas).wipe own
                rw [ag.wipe hT] at this
                exact this
              · exact RepT.mono (mon_priv nG7 (nt hD7)) _ _ (racc7.put prv)
              · have := putKD_len acc kk dv; omega
            | _ => cases hk
          · exact hp7.elim
        · exact hp7.elim
    · exact hl.elim
  · refine .inl ⟨yl.stop i as en2.os F2 H2 e2.hs s2 (by omega), ?_⟩
    rw [List.drop_of_length_le (by omega)] at hl
    exact hq (.ref D) H2 (.fr (.dt acc)) _ F2 (e1.rest s2 e2) (s1.trans s2) ⟨D, rfl, hD0, nas, nF2, vacc, hD2, racc⟩ hl
theorem te_dc {T : List Nat} {scope : Scope} {own : List (Str × Nat)} (hc : X.calm = true) (hN : X.N.Nodup) (hi : PI X tg iter (tI X.K XW wi)) (ok : BlkOk X.N X.env.scope scope own)
    (hg : ∀ (s : Shared) (H : Hp) (C : Addr) (cl : List (Str × Addr)) (fp : List Addr), PG (X.blk s H scope (compEnvC scope cl C X.env) fp) tg (gS X.K T t))
    (ht : ∀ (s : Shared) (H : Hp) (C : Addr) (cl : List (Str × Addr)) (fp : List Addr), PTs (X.blk s H scope (compEnvC scope cl C X.env) fp) ifs (tWB X.K XW0 ua))
    (hk : ∀ (s : Shared) (H : Hp) (C : Addr) (cl : List (Str × Addr)) (fp : List Addr), PE (X.blk s H scope (compEnvC scope cl C X.env) fp) kx (tW X.K XW0 wa))
    (he : ∀ (s : Shared) (H : Hp) (C : Addr) (cl : List (Str × Addr)) (fp : List Addr), PE (X.blk s H scope (compEnvC scope cl C X.env) fp) vx (tW X.K XW0 wb))
    (hT : ∀ i ∈ T, i ∈ own.map (·.2) := by decide) (hs : ∀ x, foldedSetIterable iter X.env x = pure x := by intro _; rfl) :
    PE X (.DictComp kx vx [⟨tg, iter, ifs, 0⟩] scope pos) (tW X.K XW (wDc wi t ua wa wb (own.map (·.2)))) :=
  (pe_dc hc hN hi ok hg ht hk he hs).weak fun σ H Q h => dc_fin hT h
theorem te_dcT {k : Nat} {T : List Nat} {scope : Scope} {own : List (Str × Nat)} (hr : Room k X.A) (hc : X.calm = true) (hN : X.N.Nodup) (hi : PI X tg iter (tI X.K XW wi)) (ok : BlkOk X.N X.env.scope scope own)
    (hg : ∀ (s : Shared) (H : Hp) (C : Addr) (cl : List (Str × Addr)) (fp : List Addr), PG (X.blk s H scope (compEnvC scope cl C X.env) fp) tg (gS X.K T t))
    (ht : ∀ (s : Shared) (H : Hp) (C : Addr) (cl : List (Str × Addr)) (fp : List Addr), PTs (X.blk s H scope (compEnvC scope cl C X.env) fp) ifs (tWB X.K XW0 ua))
    (hk : ∀ (s : Shared) (H : Hp) (C : Addr) (cl : List (Str × Addr)) (fp : List Addr), PE (X.blk s H scope (compEnvC scope cl C X.env) fp) kx (tW X.K XW0 wa))
    (he : ∀ (s : Shared) (H : Hp) (C : Addr) (cl : List (Str × Addr)) (fp : List Addr), PE (X.blk s H scope (compEnvC scope cl C X.env) fp) vx (tW X.K XW0 wb))
    (hT : ∀ i ∈ T, i ∈ own.map (·.2) := by decide) (hs : ∀ x, foldedSetIterable iter X.env x = pure x := by intro _; rfl) :
    PE X (.DictComp kx vx [⟨tg, iter, ifs, 0⟩] scope pos) (tW X.K XW (wDcT wi t ua wa wb (own.map (·.2)))) :=
  (pe_dcT (hu_of hr) hc hN hi ok hg ht hk he hs).weak fun σ H Q h => dcT_fin hT h
end
end L2.TL

/-! text TL11 -/
set_option Elab.async false
set_option linter.all false
set_option maxRecDepth 100000
set_option maxHeartbeats 2000000
namespace L2.TL
open PySem PySem.Spec PyProof.Rows

theorem callR_inv {X : Cx} {f : Value} {r r' : List V → Hp → VK → Prop} (h : CallR X f r) (g : ∀ pins s σ H xs Q, Inv X pins σ H s → r' xs H Q → r xs H Q) : CallR X f r' :=
  fun pins s σ H xs us Q I rv q => h pins s σ H xs us Q I rv (g pins s σ H xs Q I q)
/-- len of a dict, read or locked -/
theorem call_lenK {X : Cx} : CallR X (.builtin "len") (fun xs H Q => ∃ a kvs, xs = [V.ref a] ∧ Rd H a (.dK kvs) ∧ Q (.int kvs.length) H) := by
  intro pins s σ H xs us Q I r h
  obtain ⟨a, kvs, rfl, ha, q⟩ := h
  obtain ⟨u, rfl, ru⟩ := vals1 r
  obtain rfl : u = Value.ref a := ru
  exact d_len I ha fun t s' I' => ⟨.int kvs.length, H, I', ⟨t, rfl⟩, q⟩
theorem call_lenT {X : Cx} : CallR X (.builtin "len") (fun xs H Q => ∃ a kvs, xs = [V.ref a] ∧ Rd H a (.dT kvs) ∧ Q (.int kvs.length) H) := by
  intro pins s σ H xs us Q I r h
  obtain ⟨a, kvs, rfl, ha, q⟩ := h
  obtain ⟨u, rfl, ru⟩ := vals1 r
  obtain rfl : u = Value.ref a := ru
  obtain ⟨z, hsys, ks, rel, dd⟩ := dt_rd I.hok ha
  have hl : kvs.length = ks.length := Paired.length rel
  refine call_len_dictH hsys dd (by rw [sizeLine_eq] at z; omega) ?_
  rw [← hl]
  exact ⟨.int kvs.length, H, I.tok _, ⟨_, rfl⟩, q⟩

section
variable {X : Cx} {XW : WX} {pos p apos tpos : Pos} {a b c e o tg iter elt kx vx : Expr} {es ifs : List Expr} {wa wb wc wo : WEx} {ua ub : WBx} {ws : WAx} {body : List Stmt} {w v : WSx} {wi : WIx} {t : TGx}

/-- one argument that is read -/
def o1 (f : D → (R → Prop) → Prop) : List R → WEx := fun rs en P _ => match rs with
  | [r] => (match r.val en.os with
    | some d => f d fun r => P r en
    | none => False)
  | _ => False
theorem o1_inv {K : PySem.W.Frag} {f : D → (R → Prop) → Prop} {σ : St} {H : Hp} {Q : VK} {vs : List V} (h : tP K XW vs (o1 f) σ H Q) :
    ∃ (as : List Addr) (os0 : Os) (F0 : Addr → Prop) (H0 : Hp) (en : En) (F : Addr → Prop) (v : V) (d : D) (P : R → Prop), vs = [v] ∧ ES K as en F H σ ∧ Step as os0 F0 H0 as en.os F H ∧ Sees K F H d v ∧ f d P ∧
      ∀ v H' r F', ES K as en F' H' σ → Step as os0 F0 H0 as en.os F' H' → RepR K as F' H0 H' r v → P r → Q v H' := by
  obtain ⟨as, os0, F0, H0, en, F, rs, P, PX, es, st, pr, hw, hq, hx⟩ := h
  cases pr with
  | nil => exact hw.elim
  | @cons r v rs vs rv pr =>
    cases pr with
    | cons _ _ => exact hw.elim
    | nil =>
      simp only [o1] at hw
      split at hw
      · rename_i d e1
        exact ⟨as, os0, F0, H0, en, F, v, d, fun r => P r en, rfl, es, st, rv.sees es.hs e1, hw, fun v H' r F' e' s' rr hp => hq v H' r en F' e' s' rr hp⟩
      · exact hw.elim
def o2 (f : D → D → (R → Prop) → Prop) : List R → WEx := fun rs en P _ => match rs with
  | [r, q] => (match r.val en.os, q.val en.os with
    | some d, some e => f d e fun r => P r en
    | _, _ => False)
  | _ => False
theorem o2_inv {K : PySem.W.Frag} {f : D → D → (R → Prop) → Prop} {σ : St} {H : Hp} {Q : VK} {vs : List V} (h : tP K XW vs (o2 f) σ H Q) :
    ∃ (as : List Addr) (os0 : Os) (F0 : Addr → Prop) (H0 : Hp) (en : En) (F : Addr → Prop) (v w : V) (d e : D) (P : R → Prop), vs = [v, w] ∧ ES K as en F H σ ∧ Step as os0 F0 H0 as en.os F H ∧ Sees K F H d v ∧ Sees K F H e w ∧ f d e P ∧
      ∀ v H' r F', ES K as en F' H' σ → Step as os0 F0 H0 as en.os F' H' → RepR K as F' H0 H' r v → P r → Q v H' := by
  obtain ⟨as, os0, F0, H0, en, F, rs, P, PX, es, st, pr, hw, hq, hx⟩ := h
  cases pr with
  | nil => exact hw.elim
  | @cons r v rs vs rv pr =>
    cases pr with
    | nil => exact hw.elim
    | @cons r2 v2 rs vs rv2 pr =>
      cases pr with
      | cons _ _ => exact hw.elim
      | nil =>
        simp only [o2] at hw
        split at hw
        · rename_i d e e1 e2
          exact ⟨as, os0, F0, H0, en, F, v, v2, d, e, fun r => P r en, rfl, es, st, rv.sees es.hs e1, rv2.sees es.hs e2, hw, fun v H' r F' e' s' rr hp => hq v H' r en F' e' s' rr hp⟩
        · exact hw.elim

/-! ### len -/
def fLen : D → (R → Prop) → Prop := fun d P => match d with
  | .lst xs => P (.sh (.int xs.length))
  | .tup xs => P (.sh (.int xs.length))
  | .str z => z.length ≤ sizeLine ∧ P (.sh (.int z.length))
  | .dk kvs => P (.sh (.int kvs.length))
  | .dt kvs => P (.sh (.int kvs.length))
  | _ => False
theorem te_len {x : Str} (hx : x = "len") (hg : Gl X x) (hm : X.mg x = none) (ha : PA X (e :: es) (tWA X.K XW ws)) (he : starEach (e :: es) X.env = (false, eval e X.env) :: starEach es X.env := by rfl) (hpl : (backTo pos (starEach es X.env)).any (·.1) = false := by rfl) :
    PE X (.Call (.Name x p) (e :: es) [] pos) (tW X.K XW (wF (o1 fLen) ws)) := by
  subst hx
  refine te_fn (call_len.or (call_lenK.or call_lenT)) (fun σ H Q vs h => ?_) hg hm PySem.boot_len ha (by decide) (by decide) he hpl
  obtain ⟨as, os0, F0, H0, en, F, v, d, P, rfl, es, st, sv, hf, hq⟩ := o1_inv h
  cases d with
  | lst xs =>
    obtain ⟨l, vs, rfl, hl, hz, rl⟩ := sv.lst
    refine .inl ⟨_, xs.length, rfl, .inl ⟨vs, .inl hl, rl.length.symm⟩, hq _ H _ F es st ?_ hf⟩
    simp only [RepR, Rep]
  | tup xs =>
    obtain ⟨l, vs, rfl, hl, hz, rl⟩ := sv.tup
    refine .inl ⟨_, xs.length, rfl, .inr ⟨vs, .of hl, rl.length.symm⟩, hq _ H _ F es st ?_ hf⟩
    simp only [RepR, Rep]
  | str z =>
    cases sv.str
    refine .inl ⟨_, z.length, rfl, ⟨hf.1, rfl⟩, hq _ H _ F es st ?_ hf.2⟩
    simp only [RepR, Rep]
  | dk kvs =>
    obtain ⟨l, ks, rfl, hl, rl⟩ := sv.dk
    refine .inr (.inl ⟨_, ks, rfl, hl, hq _ H (.sh (.int kvs.length)) F es st ?_ hf⟩)
    simp only [RepR, Rep, rl.length]
  | dt kvs =>
    obtain ⟨l, ks, rfl, hl, rl⟩ := sv.dt
    refine .inr (.inr ⟨_, ks, rfl, hl, hq _ H (.sh (.int kvs.length)) F es st ?_ hf⟩)
    simp only [RepR, Rep, rl.length]
  | _ => exact hf.elim

/-! ### all, any -/
def blsD : List D → Option (List Bool)
  | [] => some []
  | .bl b :: ds => (blsD ds).map (b :: ·)
  | _ :: _ => none
theorem blsD_rep {K : PySem.W.Frag} {F : Addr → Prop} {H : Hp} : ∀ {ds : List D} {bs : List Bool} {vs : List V}, blsD ds = some bs → RepL K F H ds vs → vs = bs.map V.bl
  | [], bs, vs, e, r => by
    simp only [blsD, Option.some.injEq] at e; subst e
    simp only [RepL] at r; exact r
  | d :: ds, bs, vs, e, r => by
    simp only [RepL] at r
    obtain ⟨w, ws, rfl, rw', q⟩ := r
    cases d with
    | bl b =>
      simp only [blsD] at e
      cases z : blsD ds with
      | none => rw [z] at e; cases e
      | some cs =>
        rw [z] at e; cases e
        simp only [Rep] at rw'
        rw [rw', blsD_rep z q]; rfl
    | _ => simp only [blsD] at e; cases e
def fAll (g : List Bool → Bool) : D → (R → Prop) → Prop := fun d P => match d with
  | .lst xs => (match blsD xs with
    | some bs => P (.sh (.bl (g bs)))
    | none => False)
  | _ => False
theorem all_fin {K : PySem.W.Frag} {g : List Bool → Bool} {σ : St} {H : Hp} {Q : VK} {vs : List V} (h : tP K XW vs (o1 (fAll g)) σ H Q) : ∃ (a : Addr) (bs : List Bool), vs = [V.ref a] ∧ SqL K H a (bs.map V.bl) ∧ Q (.bl (g bs)) H := by
  obtain ⟨as, os0, F0, H0, en, F, v, d, P, rfl, es, st, sv, hf, hq⟩ := o1_inv h
  cases d with
  | lst xs =>
    obtain ⟨l, vs, rfl, hl, hz, rl⟩ := sv.lst
    simp only [fAll] at hf
    split at hf
    · rename_i bs e
      refine ⟨l, bs, rfl, .inl (by rw [← blsD_rep e rl]; exact hl), hq _ H _ F es st ?_ hf⟩
      simp only [RepR, Rep]
    · exact hf.elim
  | _ => exact hf.elim
theorem te_all {x : Str} (hx : x = "all") (hc : X.calm = true) (hg : Gl X x) (hm : X.mg x = none) (ha : PA X (e :: es) (tWA X.K XW ws)) (he : starEach (e :: es) X.env = (false, eval e X.env) :: starEach es X.env := by rfl) (hpl : (backTo pos (starEach es X.env)).any (·.1) = false := by rfl) :
    PE X (.Call (.Name x p) (e :: es) [] pos) (tW X.K XW (wF (o1 (fAll fun bs => bs.all id)) ws)) := by
  subst hx
  exact te_fn (cr_all hc) (fun σ H Q vs h => all_fin h) hg hm PyProof.Rows.boot_all ha (by decide) (by decide) he hpl
theorem te_any {x : Str} (hx : x = "any") (hc : X.calm = true) (hg : Gl X x) (hm : X.mg x = none) (ha : PA X (e :: es) (tWA X.K XW ws)) (he : starEach (e :: es) X.env = (false, eval e X.env) :: starEach es X.env := by rfl) (hpl : (backTo pos (starEach es X.env)).any (·.1) = false := by rfl) :
    PE X (.Call (.Name x p) (e :: es) [] pos) (tW X.K XW (wF (o1 (fAll fun bs => bs.any id)) ws)) := by
  subst hx
  exact te_fn (cr_any hc) (fun σ H Q vs h => all_fin h) hg hm PyProof.Rows.boot_any ha (by decide) (by decide) he hpl

/-! ### int, abs, max, min -/
def fInt : D → (R → Prop) → Prop := fun d P => match d with
  | .int i => P (.sh (.int i))
  | .bl k => P (.sh (.int (if k then 1 else 0)))
  | _ => False
theorem te_toInt {x : Str} (hx : x = "int") (hg : Gl X x) (hm : X.mg x = none) (ha : PA X (e :: es) (tWA X.K XW ws)) (he : starEach (e :: es) X.env = (false, eval e X.env) :: starEach es X.env := by rfl) (hpl : (backTo pos (starEach es X.env)).any (·.1) = false := by rfl) :
    PE X (.Call (.Name x p) (e :: es) [] pos) (tW X.K XW (wF (o1 fInt) ws)) := by
  subst hx
  refine te_fnT call_int1 (fun σ H Q vs h => ?_) hg hm PyProof.Rows.boot_int ha (by decide) (by decide) he hpl
  obtain ⟨as, os0, F0, H0, en, F, v, d, P, rfl, es, st, sv, hf, hq⟩ := o1_inv h
  cases d with
  | int i =>
    cases sv.int
    exact .inl ⟨i, rfl, hq _ H (.sh (.int i)) F es st (by simp only [RepR, Rep]) hf⟩
  | bl k =>
    cases sv.bl
    exact .inr ⟨k, rfl, hq _ H (.sh (.int _)) F es st (by simp only [RepR, Rep]) hf⟩
  | _ => exact hf.elim
def fAbs : D → (R → Prop) → Prop := fun d P => match d with
  | .int i => P (.sh (.int (if i < 0 then -i else i)))
  | _ => False
theorem te_abs {x : Str} (hx : x = "abs") (hg : Gl X x) (hm : X.mg x = none) (ha : PA X (e :: es) (tWA X.K XW ws)) (he : starEach (e :: es) X.env = (false, eval e X.env) :: starEach es X.env := by rfl) (hpl : (backTo pos (starEach es X.env)).any (·.1) = false := by rfl) :
    PE X (.Call (.Name x p) (e :: es) [] pos) (tW X.K XW (wF (o1 fAbs) ws)) := by
  subst hx
  refine te_fn call_abs (fun σ H Q vs h => ?_) hg hm PyProof.Rows.boot_abs ha (by decide) (by decide) he hpl
  obtain ⟨as, os0, F0, H0, en, F, v, d, P, rfl, es, st, sv, hf, hq⟩ := o1_inv h
  cases d with
  | int i =>
    cases sv.int
    exact ⟨i, rfl, hq _ H (.sh (.int _)) F es st (by simp only [RepR, Rep]) hf⟩
  | _ => exact hf.elim
def fII (g : Int → Int → Int) : D → D → (R → Prop) → Prop := fun d e P => match d, e with
  | .int i, .int j => P (.sh (.int (g i j)))
  | _, _ => False
theorem ii_fin {K : PySem.W.Frag} {g : Int → Int → Int} {σ : St} {H : Hp} {Q : VK} {vs : List V} (h : tP K XW vs (o2 (fII g)) σ H Q) : ∃ i j, vs = [V.int i, V.int j] ∧ Q (.int (g i j)) H := by
  obtain ⟨as, os0, F0, H0, en, F, v, w, d, e, P, rfl, es, st, sv, sw, hf, hq⟩ := o2_inv h
  cases d with
  | int i =>
    cases e with
    | int j =>
      cases sv.int; cases sw.int
      exact ⟨i, j, rfl, hq _ H (.sh (.int _)) F es st (by simp only [RepR, Rep]) hf⟩
    | _ => exact hf.elim
  | _ => exact hf.elim
theorem te_max {x : Str} (hx : x = "max") (hc : X.calm = true) (hg : Gl X x) (hm : X.mg x = none) (ha : PA X (e :: es) (tWA X.K XW ws)) (he : starEach (e :: es) X.env = (false, eval e X.env) :: starEach es X.env := by rfl) (hpl : (backTo pos (starEach es X.env)).any (·.1) = false := by rfl) :
    PE X (.Call (.Name x p) (e :: es) [] pos) (tW X.K XW (wF (o2 (fII fun i j => if j > i then j else i)) ws)) := by
  subst hx
  exact te_fn (call_max2 hc) (fun σ H Q vs h => ii_fin h) hg hm PyProof.Rows.boot_max ha (by decide) (by decide) he hpl
theorem te_min {x : Str} (hx : x = "min") (hc : X.calm = true) (hg : Gl X x) (hm : X.mg x = none) (ha : PA X (e :: es) (tWA X.K XW ws)) (he : starEach (e :: es) X.env = (false, eval e X.env) :: starEach es X.env := by rfl) (hpl : (backTo pos (starEach es X.env)).any (·.1) = false := by rfl) :
    PE X (.Call (.Name x p) (e :: es) [] pos) (tW X.K XW (wF (o2 (fII fun i j => if j < i then j else i)) ws)) := by
  subst hx
  exact te_fn (call_min2 hc) (fun σ H Q vs h => ii_fin h) hg hm PyProof.Rows.boot_min ha (by decide) (by decide) he hpl

/-! ### isinstance -/
/-- an own class whose instances have the usual __class__ -/
structure InsF (K : PySem.W.Frag) (C : Addr) : Prop where
  cl : Cls K C
  ha : PySem.W.findIn K (.ref C) "__class__" = some (some (.builtin "object.__class__"))
  hn : PySem.W.specialIn K (.builtin "object.__class__") "__get__" = some (some (.builtin "getset_descriptor.__get__"))
  ht : PySem.W.takesIn K (.builtin "object.__class__") = some true
  hm : PySem.W.mroIn K C (.type "object") = some true
def insOk (K : PySem.W.Frag) : D → Prop
  | .ins C _ => InsF K C
  | .obj _ => False
  | .ty _ => False
  | .dt _ => False
  | _ => True
def tyD : D → Value
  | .non => .type "NoneType"
  | .bl _ => .type "bool"
  | .int _ => .type "int"
  | .str _ => .type "str"
  | .lst _ => .type "list"
  | .tup _ => .type "tuple"
  | .dk _ => .type "dict"
  | .dt _ => .type "dict"
  | .ins C _ => .ref C
  | .obj _ => .none
  | .ty _ => .none
theorem Sees.ty_of {K : PySem.W.Frag} {F : Addr → Prop} {H : Hp} : ∀ {d : D} {v : V}, Sees K F H d v → insOk K d → TyX K H v (tyD d)
  | .non, v, h, _ => by rw [h.non]; exact .base .non
  | .bl _, v, h, _ => by rw [h.bl]; exact .base (.bl _)
  | .int _, v, h, _ => by rw [h.int]; exact .base (.int _)
  | .str _, v, h, _ => by rw [h.str]; exact .base (.str _)
  | .lst _, v, h, _ => by
    obtain ⟨_, _, rfl, e, _⟩ := h.lst
    rcases e with e | ⟨o, e⟩
    · exact .base (.lst e)
    · exact .base (.frz e)
  | .tup _, v, h, _ => by obtain ⟨_, _, rfl, e, _⟩ := h.tup; exact .base (.tup e)
  | .dk _, v, h, _ => by
    obtain ⟨_, _, rfl, e, _⟩ := h.dk
    rcases e with e | ⟨o, e⟩
    · exact .base (.dK e)
    · exact .fDict e
  | .dt _, _, _, f => f.elim
  | .ins C _, v, h, f => by
    obtain ⟨_, _, _, rfl, e, _⟩ := h.ins
    exact .base (.ins e f.cl f.ha f.hn f.ht f.hm)
  | .obj _, _, _, f => f.elim
  | .ty _, _, _, f => f.elim
def clsD : D → Option Value
  | .ty n => some (.type n)
  | .obj C => some (.ref C)
  | _ => none
def clsL : List D → Option (List Value)
  | [] => some []
  | d :: ds => match clsD d, clsL ds with
    | some u, some us => some (u :: us)
    | _, _ => none
def isiD (K : PySem.W.Frag) (d c : D) : Option Bool := match c with
  | .tup cs => (match clsL cs with
    | some us => PySem.W.kitAny K (tyD d) us
    | none => none)
  | c => (match clsD c with
    | some u => PySem.W.kitOne K (tyD d) u
    | none => none)
def fIsi (K : PySem.W.Frag) : D → D → (R → Prop) → Prop := fun d c P => insOk K d ∧ match isiD K d c with
  | some b => P (.sh (.bl b))
  | none => False
theorem clsD_rep {K : PySem.W.Frag} {F : Addr → Prop} {H : Hp} : ∀ {d : D} {u : Value} {v : V}, clsD d = some u → Rep K F H d v → ClsV v u
  | .ty n, u, v, e, r => by
    simp only [clsD, Option.some.injEq] at e
    simp only [Rep] at r
    rw [r, ← e]; exact .ty n
  | .obj C, u, v, e, r => by
    simp only [clsD, Option.some.injEq] at e
    simp only [Rep] at r
    rw [r, ← e]; exact .own C
  | .non, _, _, e, _ => nomatch e
  | .bl _, _, _, e, _ => nomatch e
  | .int _, _, _, e, _ => nomatch e
  | .str _, _, _, e, _ => nomatch e
  | .lst _, _, _, e, _ => nomatch e
  | .tup _, _, _, e, _ => nomatch e
  | .dk _, _, _, e, _ => nomatch e
  | .dt _, _, _, e, _ => nomatch e
  | .ins _ _, _, _, e, _ => nomatch e
theorem clsL_rep {K : PySem.W.Frag} {F : Addr → Prop} {H : Hp} : ∀ {ds : List D} {us : List Value} {vs : List V}, clsL ds = some us → RepL K F H ds vs → Paired ClsV vs us
  | [], us, vs, e, r => by
    simp only [clsL, Option.some.injEq] at e; subst e
    simp only [RepL] at r; subst r; exact .nil
  | d :: ds, us, vs, e, r => by
    simp only [RepL] at r
    obtain ⟨w, ws, rfl, r1, q⟩ := r
    simp only [clsL] at e
    split at e
    · rename_i u us' e1 e2
      cases e
      exact .cons (clsD_rep e1 r1) (clsL_rep e2 q)
    · cases e
theorem isi_fin {K : PySem.W.Frag} {σ : St} {H : Hp} {Q : VK} {vs : List V} (h : tP K XW vs (o2 (fIsi K)) σ H Q) : rIsi K vs H Q ∨ rIsiT K vs H Q := by
  obtain ⟨as, os0, F0, H0, en, F, v, w, d, c, P, rfl, es, st, sv, sw, ⟨ok, hf⟩, hq⟩ := o2_inv h
  split at hf
  · rename_i b e
    have q : Q (.bl b) H := hq _ H (.sh (.bl b)) F es st (by simp only [RepR, Rep]) hf
    cases c with
    | tup cs =>
      obtain ⟨l, ws, rfl, hl, hz, rl⟩ := sw.tup
      simp only [isiD] at e
      split at e
      · rename_i us e2
        exact .inr ⟨v, l, ws, _, us, b, rfl, hl, clsL_rep e2 rl, sv.ty_of ok, e, q⟩
      · cases e
    | ty n =>
      cases sw.ty
      exact .inl ⟨v, _, _, _, b, rfl, .ty n, sv.ty_of ok, e, q⟩
    | obj C =>
      cases sw.obj
      exact .inl ⟨v, _, _, _, b, rfl, .own C, sv.ty_of ok, e, q⟩
    | _ => cases e
  · exact hf.elim
theorem te_isi {x : Str} (hx : x = "isinstance") (hg : Gl X x) (hm : X.mg x = none) (ha : PA X (e :: es) (tWA X.K XW ws)) (he : starEach (e :: es) X.env = (false, eval e X.env) :: starEach es X.env := by rfl) (hpl : (backTo pos (starEach es X.env)).any (·.1) = false := by rfl) :
    PE X (.Call (.Name x p) (e :: es) [] pos) (tW X.K XW (wF (o2 (fIsi X.K)) ws)) := by
  subst hx
  exact te_fn (call_isi.or call_isiT) (fun σ H Q vs h => isi_fin h) hg hm PyProof.Rows.boot_isinstance ha (by decide) (by decide) he hpl
/-- a built-in class by its name -/
theorem te_ty {x : Str} (T : String) (hg : Gl X x) (hm : X.mg x = none) (hv : bootBuiltins x = some (.type T)) (hn : x ≠ "__name__" := by decide) (hd : (x == ("__debug__" : Str)) = false := by decide) : PE X (.Name x pos) (tW X.K XW (wC (.ty T))) :=
  (pe_bltn (v := V.ty T) hg hm hv rfl hn hd).weak fun σ H Q h => tC_of (fun _ _ => by simp only [Rep]) h

/-! ### unary minus, 0 - x -/
def wNeg (w : WEx) : WEx := fun en P PX => w en (fun r en1 => match r with
  | .sh (.int i) => P (.sh (.int (-i))) en1
  | _ => False) PX
theorem te_neg (ha : PE X a (tW X.K XW wa)) : PE X (.UnaryOp .USub a pos) (tW X.K XW (wNeg wa)) := (pe_un un_neg ha).weak fun σ H Q h => by
  obtain ⟨as, en, F, P, PX, es, hw, hq, hx⟩ := h
  refine ⟨as, en, F, _, PX, es, hw, fun x H1 r en1 F1 e1 s1 rr hp => ?_, hx⟩
  split at hp
  · rename_i i
    simp only [RepR, Rep] at rr
    exact ⟨i, rr, hq _ H1 (.sh (.int (-i))) en1 F1 e1 s1 (by simp only [RepR, Rep]) hp⟩
  · exact hp.elim
end
end L2.TL

/-! text TL12 -/
set_option Elab.async false
set_option linter.all false
set_option maxRecDepth 100000
set_option maxHeartbeats 2000000
namespace L2.TL
open PySem PySem.Spec PyProof.Rows
section
variable {X : Cx} {XW : WX} {pos p apos tpos : Pos} {a b c e o tg iter elt kx vx : Expr} {es ifs : List Expr} {wa wb wc wo : WEx} {ua ub : WBx} {ws : WAx} {body : List Stmt} {w v : WSx} {wi : WIx} {t : TGx}
/-! ### wide ints -/
abbrev oMulW : R → R → WEx := oIc IntMulOk fun i j => .int (i * j)
abbrev oDivW : R → R → WEx := oIc CDivW fun i j => .int (i / j)
theorem op_mulA : OpR X (binaryOp .Mult) (rI IntMulOk fun i j => .int (i * j)) := opI fun _ _ _ _ _ _ _ hc q => mul_int q hc
theorem te_mulW (ha : PE X a (tW X.K XW wa)) (hb : PE X b (tW X.K XW wb)) : PE X (.BinOp a .Mult b pos) (tW X.K XW (w2 oMulW wa wb)) :=
  (pe_op op_mulA ha hb).weak fun σ H Q h => tOp_of (fun x y H2 h => oIc_fin (fun _ _ _ _ => by simp only [Rep]) h) h
theorem te_divW (ha : PE X a (tW X.K XW wa)) (hb : PE X b (tW X.K XW wb)) : PE X (.BinOp a .FloorDiv b pos) (tW X.K XW (w2 oDivW wa wb)) :=
  (pe_op op_fdivW ha hb).weak fun σ H Q h => tOp_of (fun x y H2 h => oIc_fin (fun _ _ _ _ => by simp only [Rep]) h) h

/-! ### tuple(x), list(x) -/
def kD : Key → D
  | .inl i => .int i
  | .inr x => .str x
theorem kD_rep {K : PySem.W.Frag} {F : Addr → Prop} {H : Hp} : ∀ k : Key, Rep K F H (kD k) (kV k)
  | .inl i => by simp only [kD, Rep]; rfl
  | .inr x => by simp only [kD, Rep]; rfl
theorem kDs_rep {K : PySem.W.Frag} {F : Addr → Prop} {H : Hp} : ∀ ks : List Key, RepL K F H (ks.map kD) (ks.map kV)
  | [] => by simp only [List.map_nil, RepL]
  | k :: ks => RepL.cons (kD_rep k) (kDs_rep ks)
def fTup : D → (R → Prop) → Prop := fun d P => match d with
  | .lst xs => P (.sh (.tup xs))
  | .tup xs => P (.sh (.tup xs))
  | _ => False
theorem te_toTup {x : Str} (hx : x = "tuple") (hg : Gl X x) (hm : X.mg x = none) (ha : PA X (e :: es) (tWA X.K XW ws)) (he : starEach (e :: es) X.env = (false, eval e X.env) :: starEach es X.env := by rfl) (hpl : (backTo pos (starEach es X.env)).any (·.1) = false := by rfl) :
    PE X (.Call (.Name x p) (e :: es) [] pos) (tW X.K XW (wF (o1 fTup) ws)) := by
  subst hx
  refine te_fnT call_tuple_of (fun σ H Q vs h => ?_) hg hm PyProof.Rows.boot_tuple ha (by decide) (by decide) he hpl
  obtain ⟨as, os0, F0, H0, en, F, v, d, P, rfl, es, st, sv, hf, hq⟩ := o1_inv h
  cases d with
  | lst xs =>
    obtain ⟨l, vs, rfl, hl, hz, rl⟩ := sv.lst
    refine ⟨l, vs, rfl, .inl ⟨.inl hl, fun p hp => ?_⟩⟩
    obtain ⟨q1, q2, q3⟩ := new_tup es st hp hz rl
    exact hq _ _ _ _ q1 q2 q3 hf
  | tup xs =>
    obtain ⟨l, vs, rfl, hl, hz, rl⟩ := sv.tup
    exact ⟨l, vs, rfl, .inr ⟨.of hl, hq _ H (.sh (.tup xs)) F es st (by simp only [RepR, Rep]; exact ⟨l, vs, rfl, hl, hz, rl⟩) hf⟩⟩
  | _ => exact hf.elim

/-- the keys of a dict, as data -/
def keyT (kv : List Key × D) : D := .tup (kv.1.map kD)
theorem isKeys_rep {K : PySem.W.Frag} {F : Addr → Prop} {H : Hp} : ∀ {kvs : List (List Key × D)} {ks : List (List Key × V)} {bs : List Addr}, RepT K F H kvs ks → Paired (fun p b => H b = some (.tup (p.1.map kV)) ∧ p.1.length ≤ sizeLine) ks bs → RepL K F H (kvs.map keyT) (bs.map V.ref)
  | [], ks, bs, h, q => by
    simp only [RepT] at h; subst h
    cases q; exact RepL.nil
  | (k, d) :: kvs, ks, bs, h, q => by
    simp only [RepT] at h
    obtain ⟨v, ws, rfl, r, h⟩ := h
    cases q with
    | cons q1 q2 =>
      refine RepL.cons ?_ (isKeys_rep h q2)
      simp only [keyT, Rep]
      exact ⟨_, _, rfl, q1.1, by rw [List.length_map]; exact q1.2, kDs_rep k⟩
theorem isKeys_len {X : Cx} {pins : List (Addr × Obj)} {σ : St} {H : Hp} {s : Shared} (I : Inv X pins σ H s) : ∀ {ks : List (List Key × V)} {bs : List Addr}, IsKeys H ks bs → Paired (fun p b => H b = some (.tup (p.1.map kV)) ∧ p.1.length ≤ sizeLine) ks bs
  | _, _, .nil => .nil
  | _, _, .cons h t => .cons ⟨h, by
      obtain ⟨_, _, _, z⟩ := I.tuple (.of h : SqT X.K H _ _)
      rw [List.length_map] at z; exact z⟩ (isKeys_len I t)
def fList : D → (R → Prop) → Prop := fun d P => match d with
  | .lst xs => P (.fr (.lst xs))
  | .tup xs => P (.fr (.lst xs))
  | .dk kvs => kvs.length ≤ sizeLine ∧ P (.fr (.lst (kvs.map fun kv => kD kv.1)))
  | .dt kvs => kvs.length ≤ sizeLine ∧ P (.fr (.lst (kvs.map keyT)))
  | _ => False
theorem call_list_dT2 (hc : X.calm = true) : CallR X (.type "list") (fun xs H Q => ∃ d kvs, xs = [V.ref d] ∧ Rd H d (.dT kvs) ∧ ∀ p bs, H p = none → Paired (fun (p : List Key × V) b => H b = some (.tup (p.1.map kV)) ∧ p.1.length ≤ sizeLine) kvs bs → Q (.ref p) (upd H p (.lst (bs.map V.ref)))) :=
  callR_inv (call_list_dT hc) fun pins s σ H xs Q I h => by
    obtain ⟨d, kvs, e, r, q⟩ := h
    exact ⟨d, kvs, e, r, fun p bs hp k => q p bs hp (isKeys_len I k)⟩
theorem RepK.keysV {K : PySem.W.Frag} {F : Addr → Prop} {H : Hp} : ∀ {kvs : List (Key × D)} {ks : List (Key × V)}, RepK K F H kvs ks → RepL K F H (kvs.map fun kv => kD kv.1) (ks.map fun kv => kV kv.1)
  | [], ks, h => by simp only [RepK] at h; subst h; exact RepL.nil
  | (k, d) :: kvs, ks, h => by
    simp only [RepK] at h
    obtain ⟨v, ws, rfl, r, q⟩ := h
    exact RepL.cons (kD_rep k) q.keysV
theorem te_toList {x : Str} (hx : x = "list") (hc : X.calm = true) (hg : Gl X x) (hm : X.mg x = none) (ha : PA X (e :: es) (tWA X.K XW ws)) (he : starEach (e :: es) X.env = (false, eval e X.env) :: starEach es X.env := by rfl) (hpl : (backTo pos (starEach es X.env)).any (·.1) = false := by rfl) :
    PE X (.Call (.Name x p) (e :: es) [] pos) (tW X.K XW (wF (o1 fList) ws)) := by
  subst hx
  refine te_fnT (call_list_of.or ((call_listD hc).or (call_list_dT2 hc))) (fun σ H Q vs h => ?_) hg hm PyProof.Rows.boot_list ha (by decide) (by decide) he hpl
  obtain ⟨as, os0, F0, H0, en, F, v, d, P, rfl, es, st, sv, hf, hq⟩ := o1_inv h
  cases d with
  | lst xs =>
    obtain ⟨l, vs, rfl, hl, hz, rl⟩ := sv.lst
    refine .inl ⟨l, vs, rfl, .inl (.inl hl), fun p hp => ?_⟩
    obtain ⟨q1, q2, q3⟩ := new_lst es st hp hz rl
    exact hq _ _ _ _ q1 q2 q3 hf
  | tup xs =>
    obtain ⟨l, vs, rfl, hl, hz, rl⟩ := sv.tup
    refine .inl ⟨l, vs, rfl, .inr (.of hl), fun p hp => ?_⟩
    obtain ⟨q1, q2, q3⟩ := new_lst es st hp hz rl
    exact hq _ _ _ _ q1 q2 q3 hf
  | dk kvs =>
    obtain ⟨l, ks, rfl, hl, rl⟩ := sv.dk
    refine .inr (.inl ⟨l, ks, rfl, hl, fun p hp => ?_⟩)
    obtain ⟨q1, q2, q3⟩ := new_lst es st hp (by rw [List.length_map, rl.length]; exact hf.1) rl.keysV
    exact hq _ _ _ _ q1 q2 q3 hf.2
  | dt kvs =>
    obtain ⟨l, ks, rfl, hl, rl⟩ := sv.dt
    refine .inr (.inr ⟨l, ks, rfl, hl, fun p bs hp kk => ?_⟩)
    have rr := isKeys_rep rl kk
    obtain ⟨q1, q2, q3⟩ := new_lst es st hp (by rw [rr.length, List.length_map]; exact hf.1) rr
    exact hq _ _ _ _ q1 q2 q3 hf.2
  | _ => exact hf.elim

/-! ### sorted(x): what reads as data of one kind -/
def leD (x y : D) : Bool := PySem.W.dataLe false toPy x y
abbrev sortD (ds : List D) : List D := ds.mergeSort leD
structure SortOk (ds : List D) : Prop where
  lay : ∀ d ∈ ds, (toPy d).canLay0 = true
  al : PySem.W.AllAlike (ds.map toPy)
  so : PySem.W.Sortable (ds.map toPy)
  dp : ∀ d ∈ ds, (toPy d).depth ≤ 60
  sz : ds.length ≤ sizeLine
/-- pairs of a tree and its value -/
def Prs2 (K : PySem.W.Frag) (H : Hp) (bs : List (D × V)) : Prop := ∀ b ∈ bs, Dp K H b.2 (toPy b.1)
theorem each_of {X : Cx} {pins : List (Addr × Obj)} {σ : St} {H : Hp} {s : Shared} (I : Inv X pins σ H s) : ∀ {bs : List (D × V)} {us : List Value}, Prs2 X.K H bs → Vals (bs.map (·.2)) us →
    PySem.W.EachIs (fun u b => RelV b.2 u) us bs ∧ PySem.W.EachIs (fun u b => ∃ as, Reads s.heap u (toPy b.1) as) us bs
  | [], us, _, h => by cases h; exact ⟨.nil, .nil⟩
  | b :: bs, us, d, h => by
    cases h with
    | cons r t =>
      obtain ⟨q1, q2⟩ := each_of I (fun b hb => d b (List.mem_cons_of_mem _ hb)) t
      exact ⟨.cons r q1, .cons (Dp.reads I _ _ _ (d b List.mem_cons_self) r) q2⟩
theorem vals_each {us : List Value} : ∀ {bs : List (D × V)}, PySem.W.EachIs (fun u b => RelV b.2 u) us bs → Vals (bs.map (·.2)) us := by
  intro bs h
  induction h with
  | nil => exact .nil
  | cons r t ih => exact .cons r ih
mutual
theorem reads_lt {h : Heap} : ∀ (d : PyData) (v : Value) (as : List Addr), Reads h v d as → d.canLay0 = true → ∀ a ∈ as, a < h.objs.size
  | .none, _, _, r, _ => by cases r; exact fun _ z => nomatch z
  | .bool _, _, _, r, _ => by cases r; exact fun _ z => nomatch z
  | .int _, _, _, r, _ => by cases r; exact fun _ z => nomatch z
  | .str _, _, _, r, _ => by cases r; exact fun _ z => nomatch z
  | .list xs, _, _, r, c => by
    cases r with
    | list h1 h2 h3 h4 =>
      intro a ha
      rcases List.mem_cons.mp ha with e | ha
      · rw [e]; exact Heap.lt_size h1
      · exact readsAll_lt xs _ _ h4 (by simpa only [PyData.canLay0] using c) a ha
  | .tuple xs, _, _, r, c => by
    cases r with
    | tuple h1 h2 h3 h4 => exact readsAll_lt xs _ _ h4 (by simpa only [PyData.canLay0] using c)
  | .dict _, _, _, _, c => by simp only [PyData.canLay0] at c; cases c
theorem readsAll_lt {h : Heap} : ∀ (ds : List PyData) (vs : List Value) (as : List Addr), ReadsAll h vs ds as → PyData.canLayAll0 ds = true → ∀ a ∈ as, a < h.objs.size
  | [], _, _, r, _ => by cases r; exact fun _ z => nomatch z
  | d :: ds, _, _, r, c => by
    cases r with
    | cons h1 h2 =>
      simp only [PyData.canLayAll0, Bool.and_eq_true] at c
      intro a ha
      rcases List.mem_append.mp ha with ha | ha
      · exact reads_lt d _ _ h1 c.1 a ha
      · exact readsAll_lt ds _ _ h2 c.2 a ha
end
/-- the second half of sorted: a new list of the items is sorted -/
theorem sort_tail {X : Cx} {pins : List (Addr × Obj)} {σ : St} {H : Hp} {s : Shared} (I : Inv X pins σ H s) (hu : X.A.units + 64 < cLine) {bs : List (D × V)} {us : List Value} (ok : SortOk (bs.map (·.1))) (pr : Prs2 X.K H bs) (rv : Vals (bs.map (·.2)) us) {Q : VK}
    (q : ∀ p, H p = none → Q (.ref p) (upd H p (.lst ((bs.mergeSort (PySem.W.dataLe false fun b => toPy b.1)).map (·.2))))) :
    wpAny (model X.prog X.w) X.A.in1 (call (.builtin "list.sort") [.ref s.heap.objs.size]) (fun _ s' => EP X pins σ Q (.ref s.heap.objs.size) s') X.xe { s with heap := s.heap.push { cls := .type "list", data := .seq us.toArray } } := by
  have hl : us.length = bs.length := by rw [← rv.length, List.length_map]
  have hoL : (s.heap.push (seqObj "list" us.toArray 0)).get? s.heap.objs.size = some (seqObj "list" us.toArray 0) := Heap.get?_push_size _ rfl
  obtain ⟨e1, e2⟩ := each_of I pr rv
  have e3 : PySem.W.EachIs (fun u b => ∃ as, Reads (s.heap.push (seqObj "list" us.toArray 0)) u (toPy b.1) as ∧ s.heap.objs.size ∉ as) us bs := by
    have : PySem.W.EachIs (fun u b => (∃ as, Reads s.heap u (toPy b.1) as) ∧ b ∈ bs) us bs := PySem.W.each_mem e2
    refine this.mono fun u b ⟨⟨as, r⟩, hb⟩ => ⟨as, PyProof.Rows.Reads.keeps (fun _ _ e => Heap.get?_push_of_some _ e) r, fun z => ?_⟩
    exact Nat.lt_irrefl _ (reads_lt _ _ _ r (ok.lay _ (List.mem_map.mpr ⟨b, hb, rfl⟩)) _ z)
  have em : (bs.map fun b => toPy b.1) = (bs.map (·.1)).map toPy := by rw [List.map_map]; rfl
  have hz : bs.length ≤ sizeLine := by have := ok.sz; rwa [List.length_map] at this
  refine PySem.W.list_sort_data (n := 0) (enc := fun b : D × V => toPy b.1) hoL e1 e3 (by rw [em]; exact ok.al) (by rw [em]; exact ok.so) hz (fun b hb => ?_) fun out ho eo => ?_
  · have := ok.dp b.1 (List.mem_map.mpr ⟨b, hb, rfl⟩)
    show X.A.units + 1 + 1 + _ < cLine
    omega
  · obtain ⟨ep, he'⟩ := PyProof.Rows.sortedHeap_at (vs := us) (out := out.toArray) hoL
    refine ⟨.ref s.heap.objs.size, _, I.laid (t' := s.toks) (o := .lst ((bs.mergeSort (PySem.W.dataLe false fun b => toPy b.1)).map (·.2))) (fun b u e => ?_) (Nat.le_refl _) ⟨?_, out, ep, vals_each eo, he'⟩, rfl, q _ (I.hok.fresh (Nat.le_refl _))⟩
    · have hb : b < s.heap.objs.size := Heap.lt_size e
      rw [PyProof.Rows.sortedHeap_old (Nat.ne_of_lt hb) (by rw [size_push']; exact Nat.lt_succ_of_lt hb)]
      exact Heap.get?_push_of_some _ e
    · rw [List.length_map, List.length_mergeSort]; exact hz
end
end L2.TL

/-! text TL13 -/
set_option Elab.async false
set_option linter.all false
set_option maxRecDepth 100000
set_option maxHeartbeats 2000000
namespace L2.TL
open PySem PySem.Spec PyProof.Rows
section
variable {X : Cx} {XW : WX} {pos p apos tpos : Pos} {a b c e o tg iter elt kx vx : Expr} {es ifs : List Expr} {wa wb wc wo : WEx} {ua ub : WBx} {ws : WAx} {body : List Stmt} {w v : WSx} {wi : WIx} {t : TGx}
abbrev sortV (bs : List (D × V)) : List V := (bs.mergeSort (PySem.W.dataLe false fun b => toPy b.1)).map (·.2)
theorem call_sortL (hu : X.A.units + 64 < cLine) : CallR X (.builtin "sorted") (fun xs H Q => ∃ (a : Addr) (bs : List (D × V)), xs = [V.ref a] ∧ SqL X.K H a (bs.map (·.2)) ∧ SortOk (bs.map (·.1)) ∧ Prs2 X.K H bs ∧ ∀ p, H p = none → Q (.ref p) (upd H p (.lst (sortV bs)))) := by
  intro pins s σ H xs us Q I r h
  obtain ⟨a, bs, rfl, hs, ok, pr, q⟩ := h
  rw [Vals.ref1 r]
  obtain ⟨its, rv, hl, hz⟩ := I.list hs
  obtain ⟨e1, e2⟩ := each_of I pr rv
  have em : (bs.map fun b => toPy b.1) = (bs.map (·.1)).map toPy := by rw [List.map_map]; rfl
  have hz' : bs.length ≤ sizeLine := by have := ok.sz; rwa [List.length_map] at this
  refine PySem.W.sorted_data (enc := fun b : D × V => toPy b.1) hl.isList e1 e2 (by rw [em]; exact ok.al) (by rw [em]; exact ok.so) hz' (fun b hb => ?_) fun out ho eo => ?_
  · have := ok.dp b.1 (List.mem_map.mpr ⟨b, hb, rfl⟩)
    show X.A.units + 2 + _ < cLine
    omega
  · obtain ⟨ep, he'⟩ := PyProof.Rows.sortedAll_at s.heap its out.toArray
    refine ⟨.ref _, _, I.laid (t' := s.toks) (a := s.heap.objs.size + 1) (o := .lst (sortV bs)) (fun _ _ => PyProof.Rows.sortedAll_old) (Nat.le_succ _) ⟨?_, out, ep, vals_each eo, he'⟩, rfl, q _ (I.hok.fresh (Nat.le_succ _))⟩
    rw [List.length_map, List.length_mergeSort]; exact hz'
theorem call_sortK (hc : X.calm = true) (hu : X.A.units + 64 < cLine) : CallR X (.builtin "sorted") (fun xs H Q => ∃ (a : Addr) (kvs : List (Key × V)), xs = [V.ref a] ∧ Rd H a (.dK kvs) ∧ SortOk (kvs.map fun kv => kD kv.1) ∧
    ∀ p, H p = none → Q (.ref p) (upd H p (.lst (sortV (kvs.map fun kv => (kD kv.1, kV kv.1)))))) := by
  intro pins s σ H xs us Q I r h
  obtain ⟨a, kvs, rfl, hd, ok, q⟩ := h
  rw [Vals.ref1 r]
  obtain ⟨z, lo, vs, rel, dd⟩ := dk_rd I.hok hd
  obtain ⟨ep, hat⟩ := dd.dictAt
  have hl : kvs.length = vs.length := rel.length
  refine Calls.call_function_entry PyProof.Rows.kind_sorted PyProof.Rows.plain_sorted PyProof.Rows.entry_sorted (PyProof.Rows.args_sorted1 _) ?_
  unfold Builtin.«sorted»
  refine wpAny_bind (m := checkCount "sorted" 1 1 _) (wpAny_pure ?_)
  refine wpAny_bind (PySem.W.kdu_collect (A := X.A.in1) (PySem.W.kdl_dict (knd := mixKind X.prog X.w) (kvs := vs) (ep := ep) lo) (I.ok.hd hc) hat (by rw [← hl]; exact z) fun h' tk acc hk hacc => ?_)
  have I1 : Inv X pins σ H { s with heap := h', toks := tk } := I.kept hk
  have hv : Vals (vs.map fun p => kV p.1) acc.toList := keys_at (by rw [Array.length_toList]; exact hacc.1) fun j v e => hacc.2 j v (by rw [← Array.getElem?_toList]; exact e)
  have ek : (kvs.map fun kv => kV kv.1) = vs.map fun p => kV p.1 := by
    have e := congrArg (List.map kV) rel.keys
    rw [List.map_map, List.map_map] at e
    exact e
  have e1 : (kvs.map fun kv => (kD kv.1, kV kv.1)).map (·.1) = kvs.map fun kv => kD kv.1 := by rw [List.map_map]; rfl
  have e2 : (kvs.map fun kv => (kD kv.1, kV kv.1)).map (·.2) = vs.map fun p => kV p.1 := by rw [← ek, List.map_map]; rfl
  have pr : Prs2 X.K H (kvs.map fun kv => (kD kv.1, kV kv.1)) := fun b hb => by
    obtain ⟨kv, _, rfl⟩ := List.mem_map.mp hb
    obtain ⟨k, v⟩ := kv
    cases k with
    | inl i => exact .int i
    | inr x => exact .str x
  refine wpAny_bind (wpAny_newList ?_ (by rw [← hv.length, List.length_map, ← hl]; exact z))
  refine wpAny_bind (wpAny_holding (wpAny_mono (sort_tail I1 hu (by rw [e1]; exact ok) pr (by rw [e2]; exact hv) q) (fun v s' x => ?_) fun _ _ x => x))
  exact wpAny_pure ⟨_, rfl, x⟩
theorem call_sortT (hc : X.calm = true) (hu : X.A.units + 64 < cLine) : CallR X (.builtin "sorted") (fun xs H Q => ∃ (a : Addr) (kvs : List (List Key × V)), xs = [V.ref a] ∧ Rd H a (.dT kvs) ∧ SortOk (kvs.map fun kv => .tup (kv.1.map kD)) ∧
    ∀ p bs, H p = none → bs.map (·.1) = (kvs.map fun kv => D.tup (kv.1.map kD)) → (∀ b ∈ bs, ∃ (k : List Key) (a : Addr), b.1 = .tup (k.map kD) ∧ b.2 = .ref a ∧ H a = some (.tup (k.map kV)) ∧ k.length ≤ sizeLine) → Q (.ref p) (upd H p (.lst (sortV bs)))) := by
  intro pins s σ H xs us Q I r h
  obtain ⟨d, kvs, rfl, hd, ok, q⟩ := h
  rw [Vals.ref1 r]
  obtain ⟨z, hs, ks, pr, o, es, ep, ho, hx, hdt, he, hn⟩ := (show ObjOk X.prog X.w H s.heap d (.dT kvs) from hd.ok I.hok)
  have l1 : es.size = ks.length := size_of_entries he
  have l2 : kvs.length = ks.length := Paired.length pr
  refine Calls.call_function_entry PyProof.Rows.kind_sorted PyProof.Rows.plain_sorted PyProof.Rows.entry_sorted (PyProof.Rows.args_sorted1 _) ?_
  unfold Builtin.«sorted»
  refine wpAny_bind (m := checkCount "sorted" 1 1 _) (wpAny_pure ?_)
  refine wpAny_bind (PySem.W.kdu_collect (A := X.A.in1) (kdl_raw hs hx hdt) (I.ok.hd hc) ho (by omega) fun h' tk acc hk it => ?_)
  have I1 : Inv X pins σ H { s with heap := h', toks := tk } := I.kept hk
  have ea : acc.toList = ks.map fun x => Value.ref x.2.1 := by
    have hl : acc.toList.length = ks.length := by rw [Array.length_toList, it.1]; exact l1
    refine List.ext_getElem? fun j => ?_
    rw [List.getElem?_map]
    cases hj : acc.toList[j]? with
    | none =>
      rw [List.getElem?_eq_none (by rw [← hl]; exact List.getElem?_eq_none_iff.mp hj)]; rfl
    | some v =>
      obtain ⟨en, hen, hv⟩ := it.2 j v (by rw [← Array.getElem?_toList]; exact hj)
      have qe := entry_at he j
      rw [hen] at qe
      cases hb : ks[j]? with
      | none => rw [hb] at qe; cases qe
      | some b =>
        rw [hb] at qe
        rw [hv, (Option.some.inj qe : en = _)]; rfl
  have kk := isKeys_len I (isKeys_of pr)
  have lk := Paired.length kk
  have e1 : ((kvs.map fun kv => D.tup (kv.1.map kD)).zip ((ks.map fun x => x.2.1).map V.ref)).map (·.1) = kvs.map fun kv => D.tup (kv.1.map kD) := by
    rw [List.map_fst_zip]; rw [List.length_map, List.length_map, List.length_map]; omega
  have e2 : ((kvs.map fun kv => D.tup (kv.1.map kD)).zip ((ks.map fun x => x.2.1).map V.ref)).map (·.2) = (ks.map fun x => x.2.1).map V.ref := by
    rw [List.map_snd_zip]; rw [List.length_map, List.length_map, List.length_map]; omega
  have each : ∀ (kvs : List (List Key × V)) (bs : List Addr), Paired (fun (p : List Key × V) b => H b = some (.tup (p.1.map kV)) ∧ p.1.length ≤ sizeLine) kvs bs → ∀ b ∈ (kvs.map fun kv => D.tup (kv.1.map kD)).zip (bs.map V.ref),
      ∃ (k : List Key) (a : Addr), b.1 = .tup (k.map kD) ∧ b.2 = .ref a ∧ H a = some (.tup (k.map kV)) ∧ k.length ≤ sizeLine := by
    intro kvs bs k
    induction k with
    | nil => exact fun _ z => nomatch z
    | cons h t ih =>
      intro b hb
      rcases List.mem_cons.mp hb with rfl | hb
      · exact ⟨_, _, rfl, rfl, h.1, h.2⟩
      · exact ih b hb
  have all := each _ _ kk
  refine wpAny_bind (wpAny_newList ?_ (by rw [ea, List.length_map]; omega))
  refine wpAny_bind (wpAny_holding (wpAny_mono (sort_tail (bs := (kvs.map fun kv => D.tup (kv.1.map kD)).zip ((ks.map fun x => x.2.1).map V.ref)) I1 hu (by rw [e1]; exact ok) (fun b hb => ?_) (by rw [e2, ea]; have := vals_refs (ks.map fun x => x.2.1); rwa [List.map_map (f := fun x : List Key × Addr × Value => x.2.1) (g := Value.ref)] at this) fun p hp => q p _ hp e1 all) (fun v s' x => ?_) fun _ _ x => x))
  · obtain ⟨k, a, e3, e4, e5, e6⟩ := all b hb
    rw [e3, e4]
    have rr : Rep X.K (fun _ => True) H (.tup (k.map kD)) (.ref a) := by
      simp only [Rep]
      exact ⟨a, _, rfl, e5, by rw [List.length_map]; exact e6, kDs_rep k⟩
    exact Rep.dp _ _ rr (by rw [← e3]; exact ok.lay _ (by rw [← e1]; exact List.mem_map.mpr ⟨b, hb, rfl⟩))
  · exact wpAny_pure ⟨_, rfl, x⟩
theorem RepK.keys {K : PySem.W.Frag} {F : Addr → Prop} {H : Hp} : ∀ {kvs : List (Key × D)} {ks : List (Key × V)}, RepK K F H kvs ks → ks.map (·.1) = kvs.map (·.1)
  | [], ks, h => by simp only [RepK] at h; subst h; rfl
  | (k, d) :: kvs, ks, h => by
    simp only [RepK] at h
    obtain ⟨v, ws, rfl, r, q⟩ := h
    rw [List.map_cons, List.map_cons, q.keys]
def fSort : D → (R → Prop) → Prop := fun d P => match d with
  | .lst xs => SortOk xs ∧ P (.fr (.lst (sortD xs)))
  | .dk kvs => SortOk (kvs.map fun kv => kD kv.1) ∧ P (.fr (.lst (sortD (kvs.map fun kv => kD kv.1))))
  | .dt kvs => SortOk (kvs.map keyT) ∧ P (.fr (.lst (sortD (kvs.map keyT))))
  | _ => False
theorem sort_map (bs : List (D × V)) : (bs.mergeSort (PySem.W.dataLe false fun b => toPy b.1)).map (·.1) = sortD (bs.map (·.1)) :=
  List.map_mergeSort fun a _ b _ => rfl
theorem repL_of_mem {K : PySem.W.Frag} {F : Addr → Prop} {H : Hp} : ∀ {bs : List (D × V)}, (∀ b ∈ bs, Rep K F H b.1 b.2) → RepL K F H (bs.map (·.1)) (bs.map (·.2))
  | [], _ => RepL.nil
  | b :: bs, h => RepL.cons (h b List.mem_cons_self) (repL_of_mem fun b hb => h b (List.mem_cons_of_mem _ hb))
theorem mem_of_repL {K : PySem.W.Frag} {F : Addr → Prop} {H : Hp} : ∀ {ds : List D} {vs : List V}, RepL K F H ds vs → ∀ b ∈ ds.zip vs, Rep K F H b.1 b.2
  | [], vs, _, b, hb => nomatch hb
  | d :: ds, vs, h, b, hb => by
    simp only [RepL] at h
    obtain ⟨w, ws, rfl, r, q⟩ := h
    rcases List.mem_cons.mp hb with rfl | hb
    · exact r
    · exact mem_of_repL q b hb
theorem te_sorted {k : Nat} {x : Str} (hx : x = "sorted") (hr : Room k X.A) (hc : X.calm = true) (hg : Gl X x) (hm : X.mg x = none) (ha : PA X (e :: es) (tWA X.K XW ws)) (he : starEach (e :: es) X.env = (false, eval e X.env) :: starEach es X.env := by rfl) (hpl : (backTo pos (starEach es X.env)).any (·.1) = false := by rfl) :
    PE X (.Call (.Name x p) (e :: es) [] pos) (tW X.K XW (wF (o1 fSort) ws)) := by
  subst hx
  refine te_fn ((call_sortL hr.units).or ((call_sortK hc hr.units).or (call_sortT hc hr.units))) (fun σ H Q vs h => ?_) hg hm PyProof.Rows.boot_sorted ha (by decide) (by decide) he hpl
  obtain ⟨as, os0, F0, H0, en, F, v, d, P, rfl, es, st, sv, hf, hq⟩ := o1_inv h
  have fin : ∀ (bs : List (D × V)) (ds : List D), bs.map (·.1) = ds → SortOk ds → (∀ b ∈ bs, Rep X.K F H b.1 b.2) → P (.fr (.lst (sortD ds))) → ∀ p, H p = none → Q (.ref p) (upd H p (.lst (sortV bs))) := fun bs ds e ok hb hp p h0 => by
    subst e
    have r2 := repL_of_mem (bs := bs.mergeSort (PySem.W.dataLe false fun b => toPy b.1)) fun b hm => hb b (List.mem_mergeSort.mp hm)
    rw [sort_map] at r2
    obtain ⟨q1, q2, q3⟩ := new_lst es st h0 (by rw [List.length_map, List.length_mergeSort]; have := ok.sz; rwa [List.length_map] at this) r2
    exact hq _ _ _ _ q1 q2 q3 hp
  cases d with
  | lst xs =>
    obtain ⟨l, vs, rfl, hl, hz, rl⟩ := sv.lst
    have e1 : (xs.zip vs).map (·.1) = xs := List.map_fst_zip (by rw [rl.length]; exact Nat.le_refl _)
    have e2 : (xs.zip vs).map (·.2) = vs := List.map_snd_zip (by rw [rl.length]; exact Nat.le_refl _)
    exact .inl ⟨l, xs.zip vs, rfl, .inl (by rw [e2]; exact hl), by rw [e1]; exact hf.1, fun b hb => Rep.dp _ _ (mem_of_repL rl b hb) (hf.1.lay _ (by rw [← e1]; exact List.mem_map.mpr ⟨b, hb, rfl⟩)), fin _ _ e1 hf.1 (mem_of_repL rl) hf.2⟩
  | dk kvs =>
    obtain ⟨l, ks, rfl, hl, rl⟩ := sv.dk
    have ek : (ks.map fun kv => kD kv.1) = kvs.map fun kv => kD kv.1 := by
      have := congrArg (List.map kD) rl.keys
      rw [List.map_map, List.map_map] at this
      exact this
    refine .inr (.inl ⟨l, ks, rfl, hl, by rw [ek]; exact hf.1, fin _ _ (by rw [← ek, List.map_map]; rfl) hf.1 (fun b hb => ?_) hf.2⟩)
    obtain ⟨kv, _, rfl⟩ := List.mem_map.mp hb
    exact kD_rep kv.1
  | dt kvs =>
    obtain ⟨l, ks, rfl, hl, rl⟩ := sv.dt
    have ek : (ks.map fun kv => D.tup (kv.1.map kD)) = kvs.map keyT := by
      have := congrArg (List.map fun k => D.tup (List.map kD k)) rl.keys
      rw [List.map_map, List.map_map] at this
      exact this
    refine .inr (.inr ⟨l, ks, rfl, hl, by rw [ek]; exact hf.1, fun p bs h0 eb hb => fin bs _ (eb.trans ek) hf.1 (fun b hm => ?_) hf.2 p h0⟩)
    obtain ⟨k, a, e3, e4, e5, e6⟩ := hb b hm
    rw [e3, e4]
    simp only [Rep]
    exact ⟨a, _, rfl, e5, by rw [List.length_map]; exact e6, kDs_rep k⟩
  | _ => exact hf.elim
end
end L2.TL

/-! text TL14 -/
set_option Elab.async false
set_option linter.all false
set_option maxRecDepth 100000
set_option maxHeartbeats 2000000
namespace L2.TL
open PySem PySem.Spec PyProof.Rows

/-! ### enumerate of a tuple -/
set_option maxHeartbeats 2000000 in
theorem meets_enum1 {v : Value} {o : Obj} {G : Heap → Prop} (B : Begins v o G) :
    Meets (Builtin.«enumerate.__new__» ⟨[.type "enumerate", v], []⟩) (fun _ R s => G s.heap ∧
      R (.ok (.ret (.ref (s.heap.push o).objs.size))) { s with heap := (s.heap.push o).push { cls := .type "enumerate", data := .fields #[.none, .bool false, .ref s.heap.objs.size, rawInt 0, .none, .none] } }) :=
  .of_wp fun prog w A R s h => by
    obtain ⟨hp, g, d, tk, os⟩ := s
    obtain ⟨h1, h⟩ := h
    have hsub := sub_enumerate
    have q1 : ∀ {A' : Around} {E : Value → Shared → Prop} {Q : Value → Shared → Prop}, Q (.ref hp.objs.size) ⟨hp.push o, g, d, tk, os⟩ → wpAny (model prog w) A' (pyIter v) Q E ⟨hp, g, d, tk, os⟩ :=
      fun q => B.iter prog w _ _ ⟨hp, g, d, tk, os⟩ _ h1 q
    wp_walk using q1
    refine wpAny_stack_any fun st => wpAny_pure ?_
    split
    · rename_i c _ _ _ _ _
      cases (c == Value.type "enumerate")
      all_goals
        wp_walk using q1
        exact ⟨_, rfl, h⟩
    · wp_walk using q1
      exact ⟨_, rfl, h⟩
theorem enum_begins1 {prog : Program} {w : World} {A : Around} {E : Value → Shared → Prop} {s : Shared} {v : Value} {o : Obj} {G : Heap → Prop} {Q : Value → Shared → Prop} (B : Begins v o G) (h1 : G s.heap)
    (h : ∀ h', IsEnum h' (s.heap.objs.size + 1) s.heap.objs.size 0 .none → h'.get? s.heap.objs.size = some o → (∀ b o, s.heap.get? b = some o → h'.get? b = some o) → Q (.ref (s.heap.objs.size + 1)) { s with heap := h' }) :
    wpAny (model prog w) A (call (.type "enumerate") [v]) Q E s := by
  refine callType_new F.called_enumerate (by decide) (F.typeCall_enumerate_1 _) (F.newCall_enumerate_1 _) (fun obj => F.args_object_init_2 obj _) F.entry_enumerate_new (meets_enum1 B) ⟨h1, ?_⟩
  have hz : (s.heap.push o).objs.size = s.heap.objs.size + 1 := Heap.size_push ..
  show _ ∧ _
  rw [hz]
  have he := Heap.get?_push_size (s.heap.push o) (o := { cls := .type "enumerate", data := .fields #[.none, .bool false, .ref s.heap.objs.size, rawInt 0, .none, .none] }) rfl
  rw [hz] at he
  exact ⟨⟨_, he, rfl⟩, h _ he (Heap.get?_push_of_some _ (Heap.get?_push_size _ B.free)) fun b o x => Heap.get?_push_of_some _ (Heap.get?_push_of_some _ x)⟩

theorem next_enumT_end {prog : Program} {w : World} {A : Around} {E : Value → Shared → Prop} {s : Shared} {e it a : Addr} {i : Nat} {its : Array Value} {c : Int} {old : Value} {Q : Option Value → Shared → Prop} (hh : A.handled = none)
    (he : IsEnum s.heap e it c old) (hit : s.heap.IsTupleIter it a i) (ht : s.heap.IsTuple a its) (hx : its[i]? = none) (hQ : ∀ h', Heap.ExtBut it s.heap h' → Q none { s with heap := h' }) : wpAny (model prog w) A (pyNext (.ref e)) Q E s := by
  have ty : s.TypeIs (.ref e) "enumerate" := ⟨_, he, rfl⟩
  unfold pyNext
  refine wpAny_bind (wpAny_attempt (wpAny_callSpecial?_slot (name := Str.ofString "__next__") ty F.slot_enumerate_next (wpAny_call_entry F.slot_enumerate_next ty F.entry_enumerate_next ?_ (F.args_enumerate_next_1 _))))
  show wpAny _ _ (field (Value.ref e) 2 >>= _) _ _ s
  refine wpAny_bind (wpAny_field he rfl (x := Value.ref it) rfl ?_)
  refine wpAny_bind (wpAny_nextOf_tuple_end hh hit ht hx fun h' x he' ⟨o, ho, hc⟩ => ?_)
  exact wpAny_bind (wpAny_isInstance (T := "StopIteration") (b := true) ⟨o, ho, hc⟩ isSubtype_stop (wpAny_pure (hQ _ he')))
/-- the tuple at a, each item in a new pair with its number -/
def IteT (K : PySem.W.Frag) (a : Addr) : It :=
  ⟨fun i H => ∃ (xs : List V) (x : V), SqT K H a xs ∧ xs[i]? = some x, fun i H v H' => ∃ T x, v = .ref T ∧ H T = none ∧ H' = upd H T (.tup [.int (i : Nat), x]) ∧ ∀ xs, SqT K H a xs → xs[i]? = some x, fun i H => ∃ xs : List V, SqT K H a xs ∧ xs.length ≤ i⟩
theorem turn_enumT {P : Program} {w : World} {K : PySem.W.Frag} {elts : List Expr} {kk : Nat} {tpos : Pos} (a e it : Addr) (hai : a ≠ it) :
    Turn P w K (.Tuple elts kk tpos) (IteT K a) [e, it] e (fun i h => (∃ old, IsEnum h e it ((i : Nat) : Int) old) ∧ h.IsTupleIter it a i ∧ e ≠ it) where
  mem := by simp
  obj := fun i h st b hb => by
    obtain ⟨⟨old, he⟩, ⟨o, ho, hc, hd⟩, _⟩ := st
    have e' : b = e ∨ b = it := by simpa using hb
    rcases e' with z | z
    · rw [z]; exact ⟨_, he, fun v q => nomatch q⟩
    · rw [z]; exact ⟨o, ho, fun v q => by rw [hd] at q; cases q⟩
  keep := fun i h h' st k => let ⟨⟨old, he⟩, hi, hne⟩ := st; ⟨⟨old, k e (by simp) _ he⟩, hi.at fun o q => k it (by simp) o q, hne⟩
  item := by
    intro X hP hw hK hc i pins s σ H E I hf st hg
    subst hP hw hK
    obtain ⟨⟨old, he⟩, hit, hne⟩ := st
    obtain ⟨xs, x, hq, hx⟩ := hg
    obtain ⟨its, rv, p, hz⟩ := I.tuple hq
    obtain ⟨u, hu, ru⟩ := rv.get hx
    have hel : e < s.heap.objs.size := Heap.lt_size he
    have hil : it < s.heap.objs.size := by obtain ⟨_, q, _⟩ := hit; exact Heap.lt_size q
    have hlt : i < its.toArray.size := by rw [List.size_toArray]; exact (List.getElem?_eq_some_iff.mp hu).1
    have hea : e ≠ a := fun z => by
      subst z
      obtain ⟨o2, ho2, hc2, _⟩ := (show s.heap.IsTuple e its.toArray from p)
      rw [show s.heap.get? e = some _ from he] at ho2
      cases ho2
      have hc3 : Value.type "enumerate" = Value.type "tuple" := hc2
      injection hc3 with hc3
      exact absurd hc3 (by decide)
    refine wpAny_pyNext_enum_itemD (Draws.tuple (A := X.A.in1) (I.ok.hd hc) it a hai its.toArray) he ⟨hit, p⟩ hlt hne (by simp [hne, hea]) fun y h' tk hy ho st' hT hsz hk => ?_
    have ey : y = u := by
      have : its.toArray[i]? = some u := by simpa using hu
      rw [this] at hy; exact (Option.some.inj hy).symm
    subst ey
    refine ⟨_, rfl, wpAny_letOwnedTupleGo_enum (s := { s with heap := h', toks := tk + 1 }) ho fun h'' he' sb => ?_⟩
    have hT2 : h''.get? s.heap.objs.size = some { cls := .type "tuple", data := .seq #[.int i tk, y] } := (sb.2 _ (Nat.ne_of_gt hel)).trans hT
    have new : ObjOk X.prog X.w (upd H s.heap.objs.size (.tup [.int (i : Nat), x])) h'' s.heap.objs.size (.tup [.int (i : Nat), x]) :=
      ⟨by show 2 ≤ sizeLine; decide, [.int i tk, y], .cons ⟨_, rfl⟩ (.cons ru .nil), ⟨_, hT2, rfl, _, rfl⟩⟩
    have I1 : Inv X pins σ (upd H s.heap.objs.size (.tup [.int (i : Nat), x])) { s with heap := h'', toks := tk + 1 } :=
      I.turnedNew (ch := [e, it]) (fun b ob hb q => (sb.2 b (fun z => hb (by simp [z]))).trans (hk b ob (fun z => hb (by simp [z])) (fun z => hb (by simp [z])) q)) hf (Nat.le_refl _) new
    refine ⟨.ref s.heap.objs.size, _, I1, rfl, ⟨_, x, rfl, I.hok.fresh (Nat.le_refl _), rfl, fun ys hy => by rw [I.tuple_inj hy hq]; exact hx⟩, ⟨⟨y, ?_⟩, st'.1.at fun o q => (sb.2 it (Ne.symm hne)).trans q, hne⟩, fun b hb => ?_⟩
    · have e1 : ((i + 1 : Nat) : Int) = (i : Int) + 1 := by omega
      rw [e1]; exact he'
    · have hb' : b < s.heap.objs.size := by
        have e' : b = e ∨ b = it := by simpa using hb
        rcases e' with z | z
        · rw [z]; exact hel
        · rw [z]; exact hil
      rw [upd_ne (Nat.ne_of_lt hb')]
      exact (hf b hb).1
  done := by
    intro X hP hw hK hc i pins s σ H E I hf st hg
    subst hP hw hK
    obtain ⟨⟨old, he⟩, hit, hne⟩ := st
    obtain ⟨xs, hq, hx⟩ := hg
    obtain ⟨its, rv, p, hz⟩ := I.tuple hq
    obtain ⟨f0, f1, f2, f3, f4, f5⟩ := hf it (by simp)
    have hl := rv.length
    have hnx : its.toArray[i]? = none := by simp; omega
    exact next_enumT_end (I.ok.hd hc) he hit p hnx fun h' eb => ⟨rfl, I.turned (t' := s.toks) (fun b o hb q => eb b o hb q) f0 f1 f3 f4 f5⟩
  self := fun A i s Q E st h => let ⟨⟨_, he⟩, _⟩ := st; wpAny_pyIter_enum he h
section
variable {X : Cx} {XW : WX} {pos p apos tpos cpos : Pos} {a b c e e2 o tg iter elt kx vx : Expr} {es ifs elts : List Expr} {kk : Nat} {wa wb wc wo : WEx} {ua ub : WBx} {ws : WAx} {body : List Stmt} {w v : WSx} {wi : WIx} {t : TGx}
theorem pi_enumT {ta : TA} (hg : Gl X "enumerate") (hm : X.mg "enumerate" = none) (ha : PA X [e] ta) (hs : starEach [e] X.env = [(false, eval e X.env)] := by rfl) :
    PI X (.Tuple elts kk tpos) (.Call (.Name "enumerate" p) [e] [] pos) (fun σ H R => ta σ H fun vs H1 => ∃ a xs, vs = [.ref a] ∧ ((SqL X.K H1 a xs ∧ R (Ite X.K a) H1) ∨ (SqT X.K H1 a xs ∧ R (IteT X.K a) H1))) := by
  refine ⟨fun pins s σ H R I h => ?_⟩
  refine Call_ (ld_blt I hg hm boot_enumerate (PyProof.Rows.callWith_type1 (thn (ha.run pos pins s σ H _ I h) fun us s1 ⟨vs, H1, I1, r1, q1⟩ => ?_) hs rfl))
  obtain ⟨a, xs, ex, q⟩ := q1
  subst ex
  cases r1 with
  | cons r rr =>
    cases rr
    cases r
    have fresh2 : ∀ b ∈ [s1.heap.objs.size + 1, s1.heap.objs.size], FpOk X pins H1 b := fun b hb => by
      have hle : s1.heap.objs.size ≤ b := by
        rcases List.mem_cons.mp hb with z | z
        · omega
        · have := List.mem_singleton.mp z; omega
      exact I1.fpOk hle (I1.hok.fresh hle)
    rcases q with ⟨hq, q⟩ | ⟨hq, q⟩
    · obtain ⟨its, rv, p', hz⟩ := I1.list hq
      refine call_enumerate_list p'.isList fun h' he hit hsz hk => wpAny_pyIter_enum he ?_
      exact ⟨s1.heap.objs.size + 1, [s1.heap.objs.size + 1, s1.heap.objs.size], _, _, H1, rfl, I1.kept (t' := s1.toks) hk, turn_enum a (s1.heap.objs.size + 1) s1.heap.objs.size, ⟨⟨.none, he⟩, hit, Nat.succ_ne_self _⟩, fresh2, q⟩
    · obtain ⟨its, rv, p', hz⟩ := I1.tuple hq
      have hlt : a < s1.heap.objs.size := by
        obtain ⟨o, ho, _⟩ := id p'
        exact Heap.lt_size ho
      refine enum_begins1 (begins_tuple a its.toArray) p' fun h' he hit hk => wpAny_pyIter_enum he ?_
      exact ⟨s1.heap.objs.size + 1, [s1.heap.objs.size + 1, s1.heap.objs.size], _, _, H1, rfl, I1.kept (t' := s1.toks) hk, turn_enumT a (s1.heap.objs.size + 1) s1.heap.objs.size (Nat.ne_of_lt hlt), ⟨⟨.none, he⟩, ⟨_, hit, rfl, rfl⟩, Nat.succ_ne_self _⟩, fresh2, q⟩
def enumD (i : Nat) : List D → List D
  | [] => []
  | d :: ds => .tup [.int i, d] :: enumD (i + 1) ds
theorem enumD_get : ∀ (ds : List D) (n i : Nat), (enumD n ds)[i]? = (ds[i]?).map fun d => .tup [.int ((n + i : Nat) : Int), d]
  | [], n, i => by simp [enumD]
  | d :: ds, n, 0 => by simp [enumD]
  | d :: ds, n, i + 1 => by
    simp only [enumD, List.getElem?_cons_succ]
    rw [enumD_get ds (n + 1) i]
    congr 1
    funext d
    congr 3
    omega
theorem enumD_len : ∀ (ds : List D) (n : Nat), (enumD n ds).length = ds.length
  | [], _ => rfl
  | d :: ds, n => by simp [enumD, enumD_len ds]
theorem yl_enumL {K : PySem.W.Frag} {as : List Addr} {os : Os} {F : Addr → Prop} {H : Hp} {a : Addr} {vs : List V} {ds : List D} (h : HS K as os F H) (f : F a) (e : Rd H a (.lst vs)) (z : vs.length ≤ sizeLine) (r : RepL K F H ds vs) : Yl K (Ite K a) (enumD 0 ds) as os F H := by
  have at' : ∀ {as' os' F' H'}, Step as os F H as' os' F' H' → SqL K H' a vs := fun s => .inl ((s.mon h).rd a _ f e)
  refine ⟨by rw [enumD_len, ← r.length]; exact z, fun i as' os' F' H' _ s hi => ?_, fun i as' os' F' H' _ s hi => ⟨vs, at' s, by rw [enumD_len] at hi; rw [r.length]; exact hi⟩, fun i as' en F' H' σ d x H2 es s hd y => ?_⟩
  · rw [enumD_len] at hi
    obtain ⟨w, hw, _⟩ := r.get (List.getElem?_eq_getElem hi)
    exact ⟨vs, w, at' s, hw⟩
  · obtain ⟨T, x1, rfl, hT, rfl, y1⟩ := y
    rw [enumD_get] at hd
    cases zz : ds[i]? with
    | none => rw [zz] at hd; cases hd
    | some d1 =>
      rw [zz, Nat.zero_add] at hd; cases hd
      obtain ⟨w, hw, q1⟩ := (RepL.mono (s.mon h) _ _ r).get zz
      have e1 := y1 vs (at' s); rw [hw] at e1; cases e1
      exact yl_new2 es hT (by simp only [Rep]) q1
theorem yl_enumT {K : PySem.W.Frag} {as : List Addr} {os : Os} {F : Addr → Prop} {H : Hp} {a : Addr} {vs : List V} {ds : List D} (h : HS K as os F H) (e : H a = some (.tup vs)) (z : vs.length ≤ sizeLine) (r : RepL K F H ds vs) : Yl K (IteT K a) (enumD 0 ds) as os F H := by
  have at' : ∀ {as' os' F' H'}, Step as os F H as' os' F' H' → SqT K H' a vs := fun s => .of ((s.stay a _ e (h.notup e)).at fun z => z)
  refine ⟨by rw [enumD_len, ← r.length]; exact z, fun i as' os' F' H' _ s hi => ?_, fun i as' os' F' H' _ s hi => ⟨vs, at' s, by rw [enumD_len] at hi; rw [r.length]; exact hi⟩, fun i as' en F' H' σ d x H2 es s hd y => ?_⟩
  · rw [enumD_len] at hi
    obtain ⟨w, hw, _⟩ := r.get (List.getElem?_eq_getElem hi)
    exact ⟨vs, w, at' s, hw⟩
  · obtain ⟨T, x1, rfl, hT, rfl, y1⟩ := y
    rw [enumD_get] at hd
    cases zz : ds[i]? with
    | none => rw [zz] at hd; cases hd
    | some d1 =>
      rw [zz, Nat.zero_add] at hd; cases hd
      obtain ⟨w, hw, q1⟩ := (RepL.mono (s.mon h) _ _ r).get zz
      have e1 := y1 vs (at' s); rw [hw] at e1; cases e1
      exact yl_new2 es hT (by simp only [Rep]) q1
def iOne (f : D → Option (List D)) (w : WEx) : WIx := fun en P PX => w en (fun r en1 => match r.fz with
  | .sh d => (match f d with
    | some ds => P ds en1
    | none => False)
  | _ => False) PX
def seqD : D → Option (List D)
  | .lst ds => some ds
  | .tup ds => some ds
  | _ => none
theorem ti_enum (hg : Gl X "enumerate") (hm : X.mg "enumerate" = none) (ha : PE X e (tW X.K XW wa)) (hs : starEach [e] X.env = [(false, eval e X.env)] := by rfl) :
    PI X (.Tuple elts kk tpos) (.Call (.Name "enumerate" p) [e] [] pos) (tI X.K XW (iOne (fun d => (seqD d).map (enumD 0)) wa)) :=
  (pi_enumT hg hm (ta_cons ha ta_nil hs) hs).weak fun σ H R0 h => by
    obtain ⟨as, en, F, P, PX, es, hw, hq, hx⟩ := h
    refine ⟨as, en, F, fun rs en1 => match rs with
      | [r] => (match r with
        | .sh d => (match (seqD d).map (enumD 0) with
          | some ds => P ds en1
          | none => False)
        | _ => False)
      | _ => False, PX, es, hw, fun vs H1 rs en1 F1 e1 s1 pr hp => ?_, hx⟩
    dsimp only at hp
    split at hp
    · cases pr with
      | cons q pr =>
        cases pr
        split at hp
        · rename_i d
          split at hp
          · rename_i ds ed
            cases d with
            | lst xs =>
              cases ed
              simp only [RepP, Rep] at q
              obtain ⟨l, vs, rfl, f, hl, z, rl⟩ := q
              exact ⟨l, vs, rfl, .inl ⟨.inl hl, hq _ H1 _ en1 F1 e1 s1 (yl_enumL e1.hs f hl z rl) hp⟩⟩
            | tup xs =>
              cases ed
              simp only [RepP, Rep] at q
              obtain ⟨l, vs, rfl, hl, z, rl⟩ := q
              exact ⟨l, vs, rfl, .inr ⟨.of hl, hq _ H1 _ en1 F1 e1 s1 (yl_enumT e1.hs hl z rl) hp⟩⟩
            | _ => cases ed
          · exact hp.elim
        · exact hp.elim
    · exact hp.elim
end
end L2.TL

/-! text TL15 -/
set_option Elab.async false
set_option linter.all false
set_option maxRecDepth 100000
set_option maxHeartbeats 2000000
namespace L2.TL
open PySem PySem.Spec PyProof.Rows

/-! ### a shared dict is locked for good -/
section
variable {K : PySem.W.Frag} {as : List Addr} {en : En} {os : Os} {F : Addr → Prop} {H : Hp} {σ : St} {p : Addr} {u : HO} {od : Obj}
theorem mon_lock (e : H p = some u) (di : Dic u) : Mon F H F (upd H p (.frz od u)) := by
  refine ⟨fun _ z => z, fun a v f r => ?_, fun a o f r so => ?_, fun a vs r => ?_⟩
  · by_cases h : a = p
    · subst h
      rcases r with r | ⟨o, r⟩
      · rw [e] at r; cases r
        exact .inr ⟨od, upd_same⟩
      · rw [e] at r; cases r; exact di.elim
    · exact r.imp (fun z => by rw [upd_ne h]; exact z) fun ⟨w, z⟩ => ⟨w, by rw [upd_ne h]; exact z⟩
  · have h : a ≠ p := fun h => by
      subst h
      rw [e] at r; cases r
      cases u <;> first | exact di | exact so
    rw [upd_ne h]; exact r
  · have h : a ≠ p := fun h => by
      subst h
      rw [e] at r; cases r; exact di
    rw [upd_ne h]; exact r
theorem ES.lock (es : ES K as en F H σ) (f : F p) (e : H p = some u) (di : Dic u) : ES K as en F (upd H p (.frz od u)) σ := by
  have m : Mon F H F (upd H p (.frz od u)) := mon_lock e di
  refine ⟨⟨fun k d hk => ?_, es.hs.nd, fun a fa => ?_, fun a ha => ?_, es.hs.len⟩, fun i r e1 => let ⟨v, e2, q⟩ := es.sl i r e1; ⟨v, e2, q.mono m⟩, es.ln⟩
  · obtain ⟨a, ha, own, nf⟩ := es.hs.own k d hk
    have ne : a ≠ p := fun z => nf (by rw [z]; exact f)
    exact ⟨a, ha, Own.mono m (fun o z => by rw [upd_ne ne]; exact z) own, nf⟩
  · by_cases h : a = p
    · rw [h, upd_same]; exact fun z => nomatch z
    · rw [upd_ne h]; exact es.hs.dom a fa
  · by_cases h : a = p
    · rw [h, upd_same]; exact fun z => nomatch z
    · rw [upd_ne h]; exact es.hs.asd a ha
theorem Step.lock (f : F p) (e : H p = some u) (di : Dic u) : Step as os F H as os F (upd H p (.frz od u)) := by
  refine ⟨fun _ h => h, fun _ h => .inl h, fun a o r _ => ?_, fun _ h => .inl h, List.prefix_refl _, fun _ h => .inl h⟩
  by_cases h : a = p
  · subst h
    rw [e] at r; cases r
    exact .inr ⟨f, di, od, upd_same⟩
  · exact .inl (by rw [upd_ne h]; exact r)
end
def tLk (td : TE) : TE := fun σ H Q => td σ H fun x H1 => ∃ d u, x = .ref d ∧ Dic u ∧ ((∃ o, H1 d = some (.frz o u) ∧ Q x H1) ∨ (H1 d = some u ∧ ∀ o, Q x (upd H1 d (.frz o u))))
theorem pe_lk {X : Cx} {e : Expr} {td : TE} (h : PE X e td) : PE X e (tLk td) := by
  refine ⟨fun pins s σ H Q I hw => ?_⟩
  refine thn (h.run pins s σ H _ I hw) fun v s1 ⟨x, H1, I1, r, d, u, ex, di, q⟩ => ?_
  subst ex
  rcases q with ⟨o, e1, q⟩ | ⟨e1, q⟩
  · exact ⟨_, H1, I1, r, q⟩
  · obtain ⟨od, I2⟩ := I1.lock e1 (by cases u <;> first | exact True.intro | exact di.elim)
    exact ⟨_, _, I2, r, q od⟩
/-- a shared dict's reading, locked -/
def dcD : D → Prop
  | .dk _ | .dt _ => True
  | _ => False
theorem lk_of {K : PySem.W.Frag} {XW : WX} {w : WEx} {σ : St} {H : Hp} {Q : VK} (h : ∃ as en F P PX, ES K as en F H σ ∧ w en P PX ∧
    (∀ v H' d en' F', ES K as en' F' H' σ → Step as en.os F H as en'.os F' H' → P (.sh d) en' → ((∃ a ks o, v = .ref a ∧ F' a ∧ H' a = some (.frz o (.dK ks)) ∧ ∃ kvs, d = .dk kvs ∧ RepK K F' H' kvs ks) ∨ (∃ a ks o, v = .ref a ∧ F' a ∧ H' a = some (.frz o (.dT ks)) ∧ ∃ kvs, d = .dt kvs ∧ RepT K F' H' kvs ks)) → Q v H') ∧
    (∀ r en', P r en' → ∃ d, r.fz = .sh d ∧ dcD d ∧ P (.sh d) en') ∧ CEx K XW as en.os F H PX σ) : tLk (tW K XW w) σ H Q := by
  obtain ⟨as, en, F, P, PX, es, hw, hq, hp0, hx⟩ := h
  refine ⟨as, en, F, P, PX, es, hw, fun v H1 r en1 F1 e1 s1 rr hp => ?_, hx⟩
  obtain ⟨d, ed, di, hp2⟩ := hp0 r en1 hp
  obtain ⟨G1, g1, t1, pa, _⟩ := wait es e1 Step.refl s1 rr
  rw [ed] at pa
  cases d with
  | dk kvs =>
    simp only [RepP, Rep] at pa
    obtain ⟨a, ks, rfl, f, rd, rk⟩ := pa
    refine ⟨a, .dK ks, rfl, trivial, ?_⟩
    rcases rd with rd | ⟨o, rd⟩
    · exact .inr ⟨rd, fun o => hq _ _ _ _ _ (g1.lock f rd trivial) (t1.trans (Step.lock f rd trivial)) hp2 (.inl ⟨a, ks, o, rfl, f, upd_same, kvs, rfl, RepK.mono (mon_lock rd trivial) _ _ rk⟩)⟩
    · exact .inl ⟨o, rd, hq _ _ _ _ _ g1 t1 hp2 (.inl ⟨a, ks, o, rfl, f, rd, kvs, rfl, rk⟩)⟩
  | dt kvs =>
    simp only [RepP, Rep] at pa
    obtain ⟨a, ks, rfl, f, rd, rk⟩ := pa
    refine ⟨a, .dT ks, rfl, trivial, ?_⟩
    rcases rd with rd | ⟨o, rd⟩
    · exact .inr ⟨rd, fun o => hq _ _ _ _ _ (g1.lock f rd trivial) (t1.trans (Step.lock f rd trivial)) hp2 (.inr ⟨a, ks, o, rfl, f, upd_same, kvs, rfl, RepT.mono (mon_lock rd trivial) _ _ rk⟩)⟩
    · exact .inl ⟨o, rd, hq _ _ _ _ _ g1 t1 hp2 (.inr ⟨a, ks, o, rfl, f, rd, kvs, rfl, rk⟩)⟩
  | _ => exact di.elim

section
variable {K : PySem.W.Frag} {as : List Addr} {en : En} {os : Os} {F : Addr → Prop} {H : Hp} {σ : St} {a : Addr} {o : Obj}
theorem stayF {as' : List Addr} {os' : Os} {F' : Addr → Prop} {H' : Hp} {u : HO} (h : HS K as os F H) (f : F a) (e : H a = some (.frz o u)) (s : Step as os F H as' os' F' H') : H' a = some (.frz o u) := (s.stay a _ e fun l => h.dis l f).at fun z => z
def itemD (kv : Key × D) : D := .tup [kD kv.1, kv.2]
theorem yl_items {kvs : List (Key × D)} {ks : List (Key × V)} (h : HS K as os F H) (f : F a) (e : H a = some (.frz o (.dK ks))) (r : RepK K F H kvs ks) (z : kvs.length ≤ sizeLine) : Yl K (Iti a o ks) (kvs.map itemD) as os F H := by
  refine ⟨by rw [List.length_map]; exact z, fun i as' os' F' H' _ s hi => ⟨stayF h f e s, by rw [List.length_map] at hi; rw [r.length]; exact hi⟩, fun i as' os' F' H' _ s hi => ⟨stayF h f e s, by rw [List.length_map] at hi; rw [r.length]; exact hi⟩, fun i as' en F' H' σ d x H2 es s hd y => ?_⟩
  obtain ⟨T, k, v, hk, rfl, hT, rfl⟩ := y
  rw [List.getElem?_map] at hd
  cases zz : kvs[i]? with
  | none => rw [zz] at hd; cases hd
  | some kv =>
    obtain ⟨k2, d2⟩ := kv
    rw [zz] at hd; cases hd
    obtain ⟨w, hw, q⟩ := (RepK.mono (s.mon h) _ _ r).nth zz
    rw [hk] at hw; cases hw
    exact yl_new2 es hT (kD_rep k) q
theorem yl_keys {kvs : List (Key × D)} {ks : List (Key × V)} (h : HS K as os F H) (f : F a) (e : H a = some (.frz o (.dK ks))) (r : RepK K F H kvs ks) (z : kvs.length ≤ sizeLine) : Yl K (Itk a o ks) (kvs.map fun kv => kD kv.1) as os F H := by
  refine ⟨by rw [List.length_map]; exact z, fun i as' os' F' H' _ s hi => ⟨stayF h f e s, by rw [List.length_map] at hi; rw [r.length]; exact hi⟩, fun i as' os' F' H' _ s hi => ⟨stayF h f e s, by rw [List.length_map] at hi; rw [r.length]; exact hi⟩, fun i as' en F' H' σ d x H2 es s hd y => ?_⟩
  obtain ⟨rfl, k, v, hk, rfl⟩ := y
  rw [List.getElem?_map] at hd
  cases zz : kvs[i]? with
  | none => rw [zz] at hd; cases hd
  | some kv =>
    obtain ⟨k2, d2⟩ := kv
    rw [zz] at hd; cases hd
    obtain ⟨w, hw, q⟩ := (RepK.mono (s.mon h) _ _ r).nth zz
    rw [hk] at hw; cases hw
    exact ⟨F', es, Step.refl, kD_rep k⟩
theorem yl_vals {kvs : List (Key × D)} {ks : List (Key × V)} (h : HS K as os F H) (f : F a) (e : H a = some (.frz o (.dK ks))) (r : RepK K F H kvs ks) (z : kvs.length ≤ sizeLine) : Yl K (Itd a o ks) (kvs.map (·.2)) as os F H := by
  refine ⟨by rw [List.length_map]; exact z, fun i as' os' F' H' _ s hi => ⟨stayF h f e s, by rw [List.length_map] at hi; rw [r.length]; exact hi⟩, fun i as' os' F' H' _ s hi => ⟨stayF h f e s, by rw [List.length_map] at hi; rw [r.length]; exact hi⟩, fun i as' en F' H' σ d x H2 es s hd y => ?_⟩
  obtain ⟨rfl, k, hk⟩ := y
  rw [List.getElem?_map] at hd
  cases zz : kvs[i]? with
  | none => rw [zz] at hd; cases hd
  | some kv =>
    obtain ⟨k2, d2⟩ := kv
    rw [zz] at hd; cases hd
    obtain ⟨w, hw, q⟩ := (RepK.mono (s.mon h) _ _ r).nth zz
    rw [hk] at hw; cases hw
    exact ⟨F', es, Step.refl, q⟩
def chD (z : Str) : List D := z.cps.toList.map fun c => .str ⟨#[c]⟩
theorem yl_str (z : Str) (hz : z.length ≤ sizeLine) : Yl K (Its z) (chD z) as os F H := by
  have hl : (chD z).length = z.cps.size := by rw [chD, List.length_map, Array.length_toList]
  refine ⟨by rw [hl]; exact hz, fun i as' os' F' H' _ s hi => (by rw [hl] at hi; exact hi), fun i as' os' F' H' _ s hi => (by rw [hl] at hi; exact hi), fun i as' en F' H' σ d x H2 es s hd y => ?_⟩
  obtain ⟨rfl, c, hc, rfl⟩ := y
  refine ⟨F', es, Step.refl, ?_⟩
  rw [chD, List.getElem?_map] at hd
  have e : z.cps.toList[i]? = some c := by rw [Array.getElem?_toList]; exact hc
  rw [e] at hd; cases hd
  simp only [Rep]
end
section
variable {X : Cx} {XW : WX} {pos p apos tpos cpos : Pos} {a b c e e2 o tg iter elt kx vx : Expr} {es ifs elts : List Expr} {kk : Nat} {wa wb wc wo : WEx} {ua ub : WBx} {ws : WAx} {body : List Stmt} {w v : WSx} {wi : WIx} {t : TGx}
def iStrD : D → Option (List D)
  | .str z => if z.length ≤ sizeLine then some (chD z) else none
  | _ => none
theorem ti_str (h : PE X iter (tW X.K XW wa)) : PI X tg iter (tI X.K XW (iOne iStrD wa)) := (pi_str h).weak fun σ H R0 h => by
  obtain ⟨as, en, F, P, PX, es, hw, hq, hx⟩ := h
  refine ⟨as, en, F, _, PX, es, hw, fun v H1 r en1 F1 e1 s1 rr hp => ?_, hx⟩
  obtain ⟨G, g1, t1, rp, _⟩ := wait es e1 Step.refl s1 rr
  split at hp
  · rename_i d ef
    rw [ef] at rp
    split at hp
    · rename_i ds ed
      cases d with
      | str z =>
        simp only [iStrD] at ed
        split at ed
        · rename_i hz
          cases ed
          simp only [RepP, Rep] at rp
          exact ⟨z, rp, hq _ H1 _ en1 G g1 t1 (yl_str z hz) hp⟩
        · cases ed
      | _ => cases ed
    · exact hp.elim
  · exact hp.elim
def itemsD : D → Option (List D)
  | .dk kvs => if kvs.length ≤ sizeLine then some (kvs.map itemD) else none
  | _ => none
def keysDD : D → Option (List D)
  | .dk kvs => if kvs.length ≤ sizeLine then some (kvs.map fun kv => kD kv.1) else none
  | _ => none
def valsD : D → Option (List D)
  | .dk kvs => if kvs.length ≤ sizeLine then some (kvs.map (·.2)) else none
  | _ => none
theorem one_lk {K : PySem.W.Frag} {f : D → Option (List D)} {σ : St} {H : Hp} {R0 : It → Hp → Prop} {g : Addr → Obj → List (Key × V) → It} (hf : ∀ d ds, f d = some ds → ∃ kvs, d = .dk kvs ∧ ∀ as os F H a o ks, HS K as os F H → F a → H a = some (.frz o (.dK ks)) → RepK K F H kvs ks → Yl K (g a o ks) ds as os F H)
    (h : tI K XW (iOne f wa) σ H R0) : tLk (tW K XW wa) σ H fun x H1 => ∃ d o kvs, x = .ref d ∧ H1 d = some (.frz o (.dK kvs)) ∧ R0 (g d o kvs) H1 := by
  obtain ⟨as, en, F, P, PX, es, hw, hq, hx⟩ := h
  refine lk_of ⟨as, en, F, _, PX, es, hw, fun v H1 d en1 F1 e1 s1 hp hc => ?_, fun r en1 hp => ?_, hx⟩
  · dsimp only [R.fz] at hp
    split at hp
    · rename_i ds ed
      obtain ⟨kvs, rfl, hy⟩ := hf _ _ ed
      rcases hc with ⟨a, ks, o, rfl, f, e, kvs', e', rk⟩ | ⟨a, ks, o, rfl, f, e, kvs', e', rk⟩
      · cases e'
        exact ⟨a, o, ks, rfl, e, hq _ H1 _ en1 F1 e1 s1 (hy _ _ _ _ _ _ _ e1.hs f e rk) hp⟩
      · cases e'
    · exact hp.elim
  · split at hp
    · rename_i d ef
      refine ⟨d, ef, ?_, ?_⟩
      · split at hp
        · rename_i ds ed
          obtain ⟨kvs, rfl, _⟩ := hf _ _ ed
          trivial
        · exact hp.elim
      · exact hp
    · exact hp.elim
theorem ti_items (he : PE X e (tW X.K XW wa)) (hbase : attributeBase e "items" X.env (eval e X.env) = eval e X.env := by rfl) (hline : (apos.endLine == cpos.line) = true := by rfl) : PI X (.Tuple elts kk tpos) (.Call (.Attribute e "items" apos) [] [] cpos) (tI X.K XW (iOne itemsD wa)) :=
  (pi_items (pe_lk he) hbase hline).weak fun σ H R0 h => one_lk (g := Iti) (fun d ds ed => by
    cases d with
    | dk kvs =>
      simp only [itemsD] at ed
      split at ed
      · rename_i hz
        cases ed
        exact ⟨kvs, rfl, fun as os F H a o ks h f e r => yl_items h f e r hz⟩
      · cases ed
    | _ => cases ed) h
theorem ti_vals (he : PE X e (tW X.K XW wa)) (hbase : attributeBase e "values" X.env (eval e X.env) = eval e X.env := by rfl) (hline : (apos.endLine == cpos.line) = true := by rfl) : PI X tg (.Call (.Attribute e "values" apos) [] [] cpos) (tI X.K XW (iOne valsD wa)) :=
  (pi_values (pe_lk he) hbase hline).weak fun σ H R0 h => one_lk (g := Itd) (fun d ds ed => by
    cases d with
    | dk kvs =>
      simp only [valsD] at ed
      split at ed
      · rename_i hz
        cases ed
        exact ⟨kvs, rfl, fun as os F H a o ks h f e r => yl_vals h f e r hz⟩
      · cases ed
    | _ => cases ed) h
end
end L2.TL

/-! text TL16 -/
set_option Elab.async false
set_option linter.all false
set_option maxRecDepth 100000
set_option maxHeartbeats 2000000
namespace L2.TL
open PySem PySem.Spec PyProof.Rows
theorem yl_zipT {K : PySem.W.Frag} {as : List Addr} {os : Os} {F : Addr → Prop} {H : Hp} {a b : Addr} {vs us : List V} {ds es : List D} (h : HS K as os F H) (e : H a = some (.tup vs)) (z : vs.length ≤ sizeLine) (r : RepL K F H ds vs) (e2 : H b = some (.tup us)) (r2 : RepL K F H es us) :
    Yl K (RZ.ItzT K a b) ((ds.zip es).map fun p => .tup [p.1, p.2]) as os F H := by
  have at' : ∀ {as' os' F' H'}, Step as os F H as' os' F' H' → SqT K H' a vs := fun s => .of ((s.stay a _ e (h.notup e)).at fun z => z)
  have bt' : ∀ {as' os' F' H'}, Step as os F H as' os' F' H' → SqT K H' b us := fun s => .of ((s.stay b _ e2 (h.notup e2)).at fun z => z)
  refine ⟨by rw [List.length_map, List.length_zip, ← r.length]; omega, fun i as' os' F' H' _ s hi => ?_, fun i as' os' F' H' _ s hi => ⟨vs, us, at' s, bt' s, ?_⟩, fun i as' en F' H' σ d x H2 es' s hd y => ?_⟩
  · simp only [List.length_map, List.length_zip] at hi
    obtain ⟨w, hw, _⟩ := r.get (List.getElem?_eq_getElem (show i < ds.length by omega))
    obtain ⟨w2, hw2, _⟩ := r2.get (List.getElem?_eq_getElem (show i < es.length by omega))
    exact ⟨vs, us, w, w2, at' s, bt' s, hw, hw2⟩
  · simp only [List.length_map, List.length_zip] at hi
    rw [r.length, r2.length]; omega
  · obtain ⟨T, x1, x2, rfl, hT, rfl, y1, y2⟩ := y
    rw [List.getElem?_map] at hd
    cases z : (ds.zip es)[i]? with
    | none => rw [z] at hd; cases hd
    | some p =>
      rw [z] at hd; cases hd
      obtain ⟨z1, z2⟩ := List.getElem?_zip_eq_some.mp z
      obtain ⟨w, hw, q1⟩ := (RepL.mono (s.mon h) _ _ r).get z1
      obtain ⟨w2, hw2, q2⟩ := (RepL.mono (s.mon h) _ _ r2).get z2
      have e1 := y1 vs (at' s); rw [hw] at e1; cases e1
      have e2 := y2 us (bt' s); rw [hw2] at e2; cases e2
      exact yl_new2 es' hT q1 q2
section
variable {X : Cx} {XW : WX} {pos pos' p apos tpos cpos : Pos} {a b c e e2 o tg iter elt kx vx : Expr} {es ifs elts : List Expr} {kk : Nat} {wa wb wc wo : WEx} {ua ub : WBx} {ws : WAx} {body : List Stmt} {w v : WSx} {wi : WIx} {t : TGx}
def zipD : D → D → Option (List D)
  | .lst xs, .lst ys => some ((xs.zip ys).map fun p => .tup [p.1, p.2])
  | .tup xs, .tup ys => some ((xs.zip ys).map fun p => .tup [p.1, p.2])
  | _, _ => none
def iZip (w v : WEx) : WIx := fun en P PX => w en (fun ra en1 => v en1 (fun rb en2 => match ra.fz, rb.fz with
  | .sh d, .sh e => (match zipD d e with
    | some ds => P ds en2
    | none => False)
  | _, _ => False) PX) PX
theorem ti_zip (hg : Gl X "zip") (hm : X.mg "zip" = none) (ha : PE X e (tW X.K XW wa)) (hb : PE X e2 (tW X.K XW wb)) (hs : starEach [e, e2] X.env = (false, eval e X.env) :: starEach [e2] X.env := by rfl) (hs2 : starEach [e2] X.env = (false, eval e2 X.env) :: starEach [] X.env := by rfl) (hpl : (backTo pos (starEach [e2] X.env)).any (·.1) = false := by rfl) :
    PI X (.Tuple elts kk tpos) (.Call (.Name "zip" p) [e, e2] [] pos) (tI X.K XW (iZip wa wb)) :=
  (RZ.pi_zipA hg hm (ta_cons ha (ta_cons hb ta_nil hs2) hs) hs hpl).weak fun σ H R0 h => by
    obtain ⟨as, en, F, P, PX, es, hw, hq, hx⟩ := h
    refine ⟨as, en, F, fun rs en1 => match rs with
      | [ra, rb] => (match ra, rb with
        | .sh d, .sh e => (match zipD d e with
          | some ds => P ds en1
          | none => False)
        | _, _ => False)
      | _ => False, PX, es, hw, fun vs H1 rs en1 F1 e1 s1 pr hp => ?_, hx⟩
    dsimp only at hp
    split at hp
    · cases pr with
      | cons q pr =>
        cases pr with
        | cons q2 pr =>
          cases pr
          split at hp
          · rename_i d d2
            split at hp
            · rename_i ds ed
              cases d with
              | lst xs =>
                cases d2 with
                | lst ys =>
                  cases ed
                  simp only [RepP, Rep] at q q2
                  obtain ⟨l, vs, rfl, f, hl, z, rl⟩ := q
                  obtain ⟨l2, vs2, rfl, f2, hl2, z2, rl2⟩ := q2
                  exact ⟨l, l2, vs, vs2, rfl, .inl ⟨.inl hl, .inl hl2, hq _ H1 _ en1 F1 e1 s1 (yl_zip e1.hs f hl z rl f2 hl2 rl2) hp⟩⟩
                | _ => cases ed
              | tup xs =>
                cases d2 with
                | tup ys =>
                  cases ed
                  simp only [RepP, Rep] at q q2
                  obtain ⟨l, vs, rfl, hl, z, rl⟩ := q
                  obtain ⟨l2, vs2, rfl, hl2, z2, rl2⟩ := q2
                  exact ⟨l, l2, vs, vs2, rfl, .inr ⟨.of hl, .of hl2, hq _ H1 _ en1 F1 e1 s1 (yl_zipT e1.hs hl z rl hl2 rl2) hp⟩⟩
                | _ => cases ed
              | _ => cases ed
            · exact hp.elim
          · exact hp.elim
    · exact hp.elim

/-! ### dicts read: d[k], k in d, d.get(k, x) -/
theorem RepT.get {K : PySem.W.Frag} {F : Addr → Prop} {H : Hp} {k : List Key} : ∀ {kvs : List (List Key × D)} {ks : List (List Key × V)}, RepT K F H kvs ks → match getKD kvs k with
    | some d => ∃ v, valV ks k = some v ∧ Rep K F H d v
    | none => valV ks k = none
  | [], ks, h => by simp only [RepT] at h; subst h; rfl
  | (j, e) :: t, ks, h => by
    simp only [RepT] at h
    obtain ⟨w, ws, rfl, q, z⟩ := h
    by_cases hj : j = k
    · subst hj
      simp only [getKD, List.find?_cons, decide_true, valV]
      exact ⟨w, rfl, q⟩
    · have e1 : getKD ((j, e) :: t) k = getKD t k := by simp [getKD, List.find?_cons, hj]
      have e2 : valV ((j, w) :: ws) k = valV ws k := by simp [valV, List.find?_cons, hj]
      rw [e1, e2]
      exact RepT.get z
/-- what a dict holds at y: none where this is no question of a dict -/
def getD2 (d y : D) : Option (Option D) := match d with
  | .dk kvs => (match keyD y with
    | some k => some (getKD kvs k)
    | none => none)
  | .dt kvs => (match keysD y with
    | some k => some (getKD kvs k)
    | none => none)
  | _ => none
def ORep (K : PySem.W.Frag) (F : Addr → Prop) (H : Hp) (o : Option D) (v : Option V) : Prop := match o with
  | some d => ∃ w, v = some w ∧ Rep K F H d w
  | none => v = none
theorem getD2_rep {K : PySem.W.Frag} {F : Addr → Prop} {H : Hp} {d y : D} {o : Option D} {v u : V} (e : getD2 d y = some o) (sd : Sees K F H d v) (sy : Sees K F H y u) : ∃ a ov, v = .ref a ∧ DGet H a u ov ∧ ORep K F H o ov := by
  cases d with
  | dk kvs =>
    obtain ⟨a, ks, rfl, rd, rk⟩ := sd.dk
    simp only [getD2] at e
    split at e
    · rename_i k ek
      cases e
      cases keyD_rep ek sy
      have q := rk.get (k := k)
      refine ⟨a, valV ks k, rfl, .inl ⟨ks, k, rd, rfl, rfl⟩, ?_⟩
      cases z : getKD kvs k with
      | none => rw [z] at q; exact q
      | some d => rw [z] at q; exact q
    · cases e
  | dt kvs =>
    obtain ⟨a, ks, rfl, rd, rk⟩ := sd.dt
    simp only [getD2] at e
    split at e
    · rename_i k ek
      cases e
      cases y with
      | tup ds =>
        obtain ⟨b, ws, rfl, hb, _, rl⟩ := sy.tup
        simp only [keysD] at ek
        cases keysD_rep ek rl
        have q := rk.get (k := k)
        refine ⟨a, valV ks k, rfl, .inr ⟨ks, k, b, rd, rfl, hb, rfl⟩, ?_⟩
        cases z : getKD kvs k with
        | none => rw [z] at q; exact q
        | some d => rw [z] at q; exact q
      | _ => cases ek
    · cases e
  | _ => cases e
theorem dget_td {K : PySem.W.Frag} {H : Hp} {a : Addr} {y : V} {o : Option V} (g : DGet H a y o) : IsD H a := by
  rcases g with ⟨kvs, k, e, _, _⟩ | ⟨kvs, k, b, e, _, _, _⟩
  · exact .inl ⟨kvs, e⟩
  · exact .inr ⟨kvs, e⟩
theorem ix_dict (hu : X.A.units + 1 < cLine) : IxR X (fun x y H Q => ∃ a v, x = .ref a ∧ DGet H a y (some v) ∧ Q v H) := by
  intro value slice pins s σ H x y v u Q I rx ry h hs
  obtain ⟨a, z, rfl, g, q⟩ := h
  cases rx
  have ty := dict_typeIs I g
  unfold subscriptTail
  refine wpAny_bind ?_
  rw [getitemInPython_of_ne ty.not_modules]
  refine wpAny_bind (wpAny_specialOf ty PySem.F.slot_dict_getitem.lookup ?_)
  have fin : wpAny (model X.prog X.w) X.A (subscripted slice false (.ref a) u) (fun r s₃ => wpAny (model X.prog X.w) X.A (letTemporaryGo value (.ref a) r >>= fun _ => pure r) (EP X pins σ Q) X.xe s₃) X.xe s := by
    rw [hs]
    exact wpAny_operating (d_getItem hu I g ry fun w' s3 I3 rw' => wpAny_bind (wpAny_letTemporaryGo (wpAny_pure ⟨z, H, I3, rw', q⟩)))
  first
    | exact wpAny_pure (wpAny_bind fin)
    | exact wpAny_bind (wpAny_pure (wpAny_bind fin))
    | exact wpAny_bind fin
/-- a[i]: of a list, a tuple, a text, a dict -/
def oIxA : R → R → WEx := fun ra rb en P PX => match ra.val en.os, rb.val en.os with
  | some (.dk kvs), some y => (match getD2 (.dk kvs) y with
    | some (some d) => P (.sh d) en
    | _ => False)
  | some (.dt kvs), some y => (match getD2 (.dt kvs) y with
    | some (some d) => P (.sh d) en
    | _ => False)
  | _, _ => oIx ra rb en P PX
theorem ixA_fin {K : PySem.W.Frag} {σ : St} {H : Hp} {Q : VK} {x y : V} (h : tP K XW [y, x] (l2 oIxA) σ H Q) : (rIxL K x y H Q ∨ rIxT K x y H Q ∨ rIxS x y H Q) ∨ ∃ a v, x = .ref a ∧ DGet H a y (some v) ∧ Q v H := by
  obtain ⟨as, os0, F0, H0, en, F, rs, P, PX, es, st, pr, hw, hq, hx⟩ := id h
  cases pr with
  | cons ry pr =>
    cases pr with
    | cons rx pr =>
      cases pr
      simp only [l2, oIxA] at hw
      split at hw
      · rename_i kvs y0 e1 e2
        split at hw
        · rename_i d ed
          obtain ⟨a, ov, rfl, g, w, rfl, rw'⟩ := getD2_rep ed (rx.sees es.hs e1) (ry.sees es.hs e2)
          exact .inr ⟨a, w, rfl, g, hq _ H (.sh d) en F es st rw' hw⟩
        · exact hw.elim
      · rename_i kvs y0 e1 e2
        split at hw
        · rename_i d ed
          obtain ⟨a, ov, rfl, g, w, rfl, rw'⟩ := getD2_rep ed (rx.sees es.hs e1) (ry.sees es.hs e2)
          exact .inr ⟨a, w, rfl, g, hq _ H (.sh d) en F es st rw' hw⟩
        · exact hw.elim
      · exact .inl (ix_fin ⟨as, os0, F0, H0, en, F, _, P, PX, es, st, .cons ry (.cons rx .nil), hw, hq, hx⟩)
theorem te_ixA {k : Nat} (hr : Room k X.A) (ha : PE X a (tW X.K XW wa)) (hb : PE X b (tW X.K XW wb)) (hs : PlainIx b := by exact fun _ _ => rfl) : PE X (.Subscript a b pos) (tW X.K XW (w2 oIxA wa wb)) :=
  (pe_ix (ix_seq.or (ix_dict (by have := hr.un; omega))) ha hb hs).weak fun σ H Q h => tOp_of (fun x y H h => ixA_fin h) h
/-- k in d, a sign in a text, a value in a list -/
def inD (x y : D) : Option Bool := match y with
  | .dk kvs => (getD2 (.dk kvs) x).map (·.isSome)
  | .dt kvs => (getD2 (.dt kvs) x).map (·.isSome)
  | .str z => (match x with
    | .str s => (match s.cps.toList with
      | [c] => some (decide (c ∈ z.cps.toList))
      | _ => none)
    | _ => none)
  | .lst ys => if shD x && shD (.lst ys) then some (ys.any fun z => eqD z x) else none
  | _ => none
def oIn (neg : Bool) : R → R → WEx := fun ra rb en P _ => match ra.val en.os, rb.val en.os with
  | some x, some y => (match inD x y with
    | some b => P (.sh (.bl (if neg then !b else b))) en
    | none => False)
  | _, _ => False
end
end L2.TL

/-! text TL17 -/
set_option Elab.async false
set_option linter.all false
set_option maxRecDepth 100000
set_option maxHeartbeats 2000000
namespace L2.TL
open PySem PySem.Spec PyProof.Rows
section
variable {X : Cx} {XW : WX} {pos pos' p apos tpos cpos : Pos} {a b c e e2 f i o tg iter elt kx vx value : Expr} {es ifs elts : List Expr} {kk : Nat} {wa wb wc wo wd wy wx wv : WEx} {ua ub : WBx} {ws : WAx} {body : List Stmt} {w v : WSx} {wi : WIx} {t : TGx}
theorem op_inK (hu : X.A.units + 1 < cLine) : OpR X (compareOp .In) (fun x y H Q => ∃ a ov, y = .ref a ∧ DGet H a x ov ∧ Q (.bl ov.isSome) H) := by
  intro pins s σ H x y v u Q I rx ry h
  obtain ⟨a, ov, rfl, g, q⟩ := h
  cases ry
  exact d_in hu I g rx fun s3 I3 => ⟨.bl ov.isSome, H, I3, rfl, q⟩
theorem op_ninK (hu : X.A.units + 1 < cLine) : OpR X (compareOp .NotIn) (fun x y H Q => ∃ a ov, y = .ref a ∧ DGet H a x ov ∧ Q (.bl (!ov.isSome)) H) := by
  intro pins s σ H x y v u Q I rx ry h
  obtain ⟨a, ov, rfl, g, q⟩ := h
  cases ry
  exact d_notIn hu I g rx fun s3 I3 => ⟨.bl (!ov.isSome), H, I3, rfl, q⟩
def rInA (K : PySem.W.Frag) (neg : Bool) : R2 := fun x y H Q => (∃ a ov, y = .ref a ∧ DGet H a x ov ∧ Q (.bl (if neg then !ov.isSome else ov.isSome)) H) ∨
  (∃ (c : Nat) (z : Str), x = .str ⟨#[c]⟩ ∧ y = .str z ∧ Q (.bl (if neg then !decide (c ∈ z.cps.toList) else decide (c ∈ z.cps.toList))) H) ∨
  ∃ d ds, Dp K H x d ∧ Dp K H y (.list ds) ∧ SeqAt.shaped d = true ∧ SeqAt.shaped (.list ds) = true ∧ Q (.bl (if neg then !(ds.any fun z => PyData.eqv z d) else ds.any fun z => PyData.eqv z d)) H
theorem toPyL_any (x : D) : ∀ ys : List D, ((toPyL ys).any fun z => PyData.eqv z (toPy x)) = (ys.any fun z => eqD z x)
  | [] => rfl
  | y :: ys => by simp only [toPyL, List.any_cons, toPyL_any x ys, eqD]
theorem orep_some {K : PySem.W.Frag} {F : Addr → Prop} {H : Hp} {o : Option D} {v : Option V} (h : ORep K F H o v) : v.isSome = o.isSome := by
  cases o with
  | none => rw [show v = none from h]; rfl
  | some d => obtain ⟨w, rfl, _⟩ := h; rfl
theorem in_fin {K : PySem.W.Frag} {neg : Bool} {σ : St} {H : Hp} {Q : VK} {x y : V} (h : tP K XW [y, x] (l2 (oIn neg)) σ H Q) : rInA K neg x y H Q := by
  obtain ⟨as, os0, F0, H0, en, F, rs, P, PX, es, st, pr, hw, hq, hx⟩ := h
  cases pr with
  | cons ry pr =>
    cases pr with
    | cons rx pr =>
      cases pr
      simp only [l2, oIn] at hw
      split at hw
      · rename_i d y0 e1 e2
        split at hw
        · rename_i b eb
          have sx := rx.sees es.hs e1
          have sy := ry.sees es.hs e2
          have q : Q (.bl (if neg then !b else b)) H := hq _ H (.sh (.bl _)) en F es st (by simp only [RepR, Rep]) hw
          have dict : ∀ dd, getD2 y0 d = some dd → dd.isSome = b → rInA K neg x y H Q := fun dd g e => by
            obtain ⟨a, ov, rfl, g, r⟩ := getD2_rep g sy sx
            refine .inl ⟨a, ov, rfl, g, ?_⟩
            rw [orep_some r, e]; exact q
          cases y0 with
          | dk kvs =>
            simp only [inD] at eb
            cases z : getD2 (.dk kvs) d with
            | none => rw [z] at eb; cases eb
            | some dd => rw [z] at eb; exact dict dd z (Option.some.inj eb)
          | dt kvs =>
            simp only [inD] at eb
            cases z : getD2 (.dt kvs) d with
            | none => rw [z] at eb; cases eb
            | some dd => rw [z] at eb; exact dict dd z (Option.some.inj eb)
          | str z =>
            cases d with
            | str s =>
              simp only [inD] at eb
              split at eb
              · rename_i c ec
                cases eb
                refine .inr (.inl ⟨c, z, ?_, sy.str, q⟩)
                rw [sx.str]
                obtain ⟨arr⟩ := s
                have : arr = #[c] := by apply Array.toList_inj.mp; exact ec
                rw [this]
              · cases eb
            | _ => cases eb
          | lst ys =>
            simp only [inD] at eb
            split at eb
            · rename_i hs
              cases eb
              rw [Bool.and_eq_true] at hs
              refine .inr (.inr ⟨toPy d, toPyL ys, sx.dp (SeqAt.canLay_of_shaped hs.1), ?_, hs.1, hs.2, ?_⟩)
              · exact sy.dp (SeqAt.canLay_of_shaped hs.2)
              · rw [toPyL_any]; exact q
            · cases eb
          | _ => cases eb
        · exact hw.elim
      · exact hw.elim
theorem op_inA {k : Nat} (hr : Room k X.A) : OpR X (compareOp .In) (rInA X.K false) := (op_inK (by have := hr.un; omega)).or (op_in_sign.or (op_inD (by have := hr.un; omega)))
theorem op_ninA {k : Nat} (hr : Room k X.A) : OpR X (compareOp .NotIn) (rInA X.K true) := (op_ninK (by have := hr.un; omega)).or (op_notIn_sign.or (op_notInD (by have := hr.un; omega)))
theorem te_in {k : Nat} (hr : Room k X.A) (ha : PE X a (tW X.K XW wa)) (hb : PE X b (tW X.K XW wb)) (hm : behindInMarks .In b = false := by rfl) : PE X (.Compare a [.In] [b] pos) (tW X.K XW (w2 (oIn false) wa wb)) :=
  (pe_cmpR (op_inA hr) ha hb hm).weak fun σ H Q h => tOp_of (fun x y H2 h => in_fin h) h
theorem te_nin {k : Nat} (hr : Room k X.A) (ha : PE X a (tW X.K XW wa)) (hb : PE X b (tW X.K XW wb)) (hm : behindInMarks .NotIn b = false := by rfl) : PE X (.Compare a [.NotIn] [b] pos) (tW X.K XW (w2 (oIn true) wa wb)) :=
  (pe_cmpR (op_ninA hr) ha hb hm).weak fun σ H Q h => tOp_of (fun x y H2 h => in_fin h) h
theorem tb_in {k : Nat} (hr : Room k X.A) (ha : PE X a (tW X.K XW wa)) (hb : PE X b (tW X.K XW wb)) (hm : behindInMarks .In b = false := by rfl) : PT X (.Compare a [.In] [b] pos) (tWB X.K XW (wT (w2 (oIn false) wa wb))) := tb_cmp (op_inA hr) (fun σ H Q x y h => in_fin h) hm ha hb
theorem tb_nin {k : Nat} (hr : Room k X.A) (ha : PE X a (tW X.K XW wa)) (hb : PE X b (tW X.K XW wb)) (hm : behindInMarks .NotIn b = false := by rfl) : PT X (.Compare a [.NotIn] [b] pos) (tWB X.K XW (wT (w2 (oIn true) wa wb))) := tb_cmp (op_ninA hr) (fun σ H Q x y h => in_fin h) hm ha hb

/-! ### d.get(k, x) -/
def wGet2 (wd wy wx : WEx) : WEx := fun en P PX => wd en (fun rd en1 => (match rd.fz.val en1.os with
  | some d => dcD d
  | none => False) ∧ wy en1 (fun ry en2 => wx en2 (fun rx en3 => match rd.fz.val en3.os, ry.fz.val en3.os with
    | some d, some y => (match getD2 d y with
      | some (some e) => P (.sh e) en3
      | some none => P rx.fz en3
      | none => False)
    | _, _ => False) PX) PX) PX
theorem dcD_is {K : PySem.W.Frag} {F : Addr → Prop} {H : Hp} {d : D} {v : V} (di : dcD d) (s : Sees K F H d v) : ∃ a, v = .ref a ∧ IsD H a := by
  cases d with
  | dk kvs => obtain ⟨a, ks, rfl, rd, _⟩ := s.dk; exact ⟨a, rfl, .inl ⟨ks, rd⟩⟩
  | dt kvs => obtain ⟨a, ks, rfl, rd, _⟩ := s.dt; exact ⟨a, rfl, .inr ⟨ks, rd⟩⟩
  | _ => exact di.elim
theorem te_get2 {k : Nat} (hr : Room k X.A) (ho : PE X o (tW X.K XW wd)) (he : PE X e (tW X.K XW wy)) (hf : PE X f (tW X.K XW wx)) (m : M2 X o "get" apos e f cpos) : PE X (.Call (.Attribute o "get" apos) [e, f] [] cpos) (tW X.K XW (wGet2 wd wy wx)) :=
  (pe_dget2 (by have := hr.un; omega) ho he hf m).weak fun σ H Q h => by
    obtain ⟨as, en, F, P, PX, es, hw, hq, hx⟩ := h
    refine ⟨as, en, F, _, PX, es, hw, fun x H1 ra en1 F1 e1 s1 rra hp => ?_, hx⟩
    obtain ⟨hd, hp⟩ := hp
    obtain ⟨G1, g1, t1, pa, _⟩ := wait es e1 Step.refl s1 rra
    split at hd
    · rename_i d ed
      obtain ⟨a, rfl, isd⟩ := dcD_is hd (pa.sees g1.hs ed)
      refine ⟨a, rfl, isd, as, en1, G1, _, PX, g1, hp, fun y H2 rb en2 F2 e2 s2 rrb hp2 => ?_, hx.from t1⟩
      obtain ⟨G2, g2, u2, pb, _⟩ := wait g1 e2 Step.refl s2 rrb
      refine ⟨as, en2, G2, _, PX, g2, hp2, fun z H3 rc en3 F3 e3 s3 rrc hp3 => ?_, hx.from (t1.trans u2)⟩
      obtain ⟨G3, g3, u3, pc, m3⟩ := wait g2 e3 Step.refl s3 rrc
      have t3 := (t1.trans u2).trans u3
      split at hp3
      · rename_i d2 y2 ed2 ey2
        have pa3 : RepP X.K as G3 H3 ra.fz (.ref a) := (pa.step u2 g1.hs).step u3 g2.hs
        have pb3 : RepP X.K as G3 H3 rb.fz y := pb.step u3 g2.hs
        split at hp3
        · rename_i d3 eg
          obtain ⟨a', ov, ea, g, w, rfl, rw'⟩ := getD2_rep eg (pa3.sees g3.hs ed2) (pb3.sees g3.hs ey2)
          cases ea
          exact ⟨_, g, hq w H3 (.sh d3) en3 G3 g3 t3 rw' hp3⟩
        · rename_i eg
          obtain ⟨a', ov, ea, g, r⟩ := getD2_rep eg (pa3.sees g3.hs ed2) (pb3.sees g3.hs ey2)
          cases ea
          cases (show ov = none from r)
          exact ⟨_, g, hq z H3 rc.fz en3 G3 g3 t3 pc.r hp3⟩
        · exact hp3.elim
      · exact hp3.elim
    · exact hd.elim

/-! ### d[i] = v at an owned root -/
def rPutA : V → V → V → Hp → (Hp → Prop) → Prop := fun o i v H Q => rSetL o i v H Q ∨ ∃ a H4, o = .ref a ∧ DPut H a i v H4 ∧ Q H4
theorem set_any (hu : X.A.units + 1 < cLine) : PSet X rPutA := by
  intro pins s σ H o i v ov iv u Q I ro ri rv h
  rcases h with h | ⟨a, H4, rfl, g, q⟩
  · exact set_list pins s σ H o i v ov iv u Q I ro ri rv h
  · cases ro
    exact d_setItem hu I g ri rv fun s4 I4 => ⟨H4, I4, q⟩
/-- what d is behind d[y] = e -/
def setD (d y e : D) : Option D := match d with
  | .dk kvs => (match keyD y with
    | some k => if kvs.length < sizeLine then some (.dk (putKD kvs k e)) else none
    | none => none)
  | .dt kvs => (match keysD y with
    | some k => if kvs.length < sizeLine then some (.dt (putKD kvs k e)) else none
    | none => none)
  | .lst xs => (match y with
    | .int i => (match ixN xs.length i with
      | some j => some (.lst (xs.set j e))
      | none => none)
    | _ => none)
  | _ => none
def wPut (wd wy wv : WEx) : WSx := fun en P => wv en (fun rv en1 => wd en1 (fun rd en2 => wy en2 (fun ry en3 => match rd, rv.fz with
  | .ow k, .sh e => (match en3.os[k]?, ry.fz.val en3.os with
    | some (some d), some y => (match setD d y e with
      | some d' => P.nx ⟨en3.ρ, en3.os.set k (some d')⟩
      | none => False)
    | _, _ => False)
  | _, _ => False) P.ex) P.ex) P.ex
theorem RepL.set {K : PySem.W.Frag} {F : Addr → Prop} {H : Hp} {d : D} {v : V} (r : Rep K F H d v) : ∀ {ds : List D} {vs : List V} (j : Nat), RepL K F H ds vs → RepL K F H (ds.set j d) (vs.set j v)
  | [], vs, j, h => by simp only [RepL] at h; subst h; simp [RepL]
  | e :: ds, vs, 0, h => by
    simp only [RepL] at h
    obtain ⟨w, ws, rfl, _, q⟩ := h
    exact RepL.cons r q
  | e :: ds, vs, j + 1, h => by
    simp only [RepL] at h
    obtain ⟨w, ws, rfl, r1, q⟩ := h
    exact RepL.cons r1 (RepL.set r j q)
theorem Own.set {K : PySem.W.Frag} {F : Addr → Prop} {H : Hp} {d y e d' : D} {a : Addr} {u v : V} (es : setD d y e = some d') (ow : Own K F H d a) (nF : ¬ F a) (hd : ∀ b, F b → H b ≠ none) (sy : Sees K F H y u) (re : Rep K F H e v) {Q : Hp → Prop} (q : ∀ o, Own K F (upd H a o) d' a → Q (upd H a o)) : rPutA (.ref a) u v H Q := by
  have m : ∀ {o : HO}, Mon F H F (upd H a o) := fun {o} => mon_priv nF ow.notup
  cases d with
  | dk kvs =>
    obtain ⟨ks, ha, rk⟩ := ow
    simp only [setD] at es
    split at es
    · rename_i k ek
      split at es
      · rename_i hl
        cases es
        cases keyD_rep ek sy
        exact .inr ⟨a, _, rfl, .inl ⟨ks, k, ha, rfl, by rw [rk.length]; exact hl, rfl⟩, q _ ⟨_, upd_same, RepK.mono m _ _ (rk.put re)⟩⟩
      · cases es
    · cases es
  | dt kvs =>
    obtain ⟨ks, ha, rk⟩ := ow
    simp only [setD] at es
    split at es
    · rename_i k ek
      split at es
      · rename_i hl
        cases es
        cases y with
        | tup ds =>
          obtain ⟨b, ws, rfl, hb, _, rl⟩ := sy.tup
          simp only [keysD] at ek
          cases keysD_rep ek rl
          exact .inr ⟨a, _, rfl, .inr ⟨ks, k, b, ha, rfl, hb, by rw [rk.length]; exact hl, rfl⟩, q _ ⟨_, upd_same, RepT.mono m _ _ (rk.put re)⟩⟩
        | _ => cases ek
      · cases es
    · cases es
  | lst xs =>
    obtain ⟨vs, ha, z, rl⟩ := ow
    simp only [setD] at es
    split at es
    · rename_i i
      split at es
      · rename_i j ej
        cases es
        cases sy.int
        exact .inl ⟨a, vs, i, j, rfl, rfl, ha, by rw [rl.length]; exact ej, q _ ⟨_, upd_same, by rw [List.length_set]; exact z, RepL.mono m _ _ (rl.set re j)⟩⟩
      · cases es
    · cases es
  | _ => cases es
theorem ps_putA (hu : X.A.units + 1 < cLine) {td ty tv : TE} (ho : PE X o td) (hi : PE X i ty) (hv : PE X value tv) (hs : swapsWith value (some (.Subscript o i pos')) pos.line X.env = pure false := by rfl) :
    PS X (.Assign [.Subscript o i pos'] value pos) (fun D σ H => tv σ H fun v H1 => td σ H1 fun x H2 => ty σ H2 fun y H3 => rPutA x y v H3 fun H4 => D.nx σ H4) := by
  refine ⟨fun pins s σ H D I h => ?_⟩
  refine wpAny_Assign_Subscript (thn (hv.run pins s σ H _ I h) fun r s1 ⟨v, H1, I1, rv, q1⟩ => thn (ho.run pins s1 σ H1 _ I1 q1) fun u s2 ⟨x, H2, I2, rx, q2⟩ => thn (hi.run pins s2 σ H2 _ I2 q2) fun iv s3 ⟨y, H3, I3, ry, q3⟩ => ?_) hs
  exact wpAny_mono (set_any hu pins s3 σ H3 x y v u iv r _ I3 rx ry rv q3) (fun _ s4 ⟨H4, I4, q4⟩ => ⟨σ, H4, I4, q4⟩) fun _ _ x => x
theorem ts_put {k : Nat} (hr : Room k X.A) (ho : PE X o (tW X.K XW wd)) (hi : PE X i (tW X.K XW wy)) (hv : PE X value (tW X.K XW wv)) (hs : swapsWith value (some (.Subscript o i pos')) pos.line X.env = pure false := by rfl) :
    PS X (.Assign [.Subscript o i pos'] value pos) (tS X.K XW (wPut wd wy wv)) :=
  (ps_putA (by have := hr.un; omega) ho hi hv hs).weak fun D σ H h => by
    obtain ⟨as, en, F, P, es, hw, h1, h2, h3, h4, h5⟩ := h
    have hx := h5.at σ
    refine ⟨as, en, F, _, _, es, hw, fun v H1 rv en1 F1 e1 s1 rr1 hp1 => ?_, hx⟩
    obtain ⟨G1, g1, u1, pv, _⟩ := wait es e1 Step.refl s1 rr1
    refine ⟨as, en1, G1, _, _, g1, hp1, fun x H2 rd en2 F2 e2 s2 rr2 hp2 => ?_, hx.from u1⟩
    obtain ⟨G2, g2, u2, pd, _⟩ := wait g1 e2 Step.refl s2 rr2
    refine ⟨as, en2, G2, _, _, g2, hp2, fun y H3 ry en3 F3 e3 s3 rr3 hp3 => ?_, hx.from (u1.trans u2)⟩
    obtain ⟨G3, g3, u3, py, _⟩ := wait g2 e3 Step.refl s3 rr3
    split at hp3
    · rename_i k0 e0 er
      split at hp3
      · rename_i d0 y0 hk ey
        split at hp3
        · rename_i d' ed
          obtain ⟨a, ha, rfl⟩ := pd
          obtain ⟨a2, ha2, ow, nF⟩ := g3.hs.own k0 d0 hk
          rw [ha] at ha2; cases ha2
          rw [er] at pv
          have pv3 := (pv.step u2 g1.hs).step u3 g2.hs
          exact ow.set ed nF g3.hs.dom (py.sees g3.hs ey) pv3 fun o ow' => h1 σ _ as _ G3 (g3.put hk ha ow') (((u1.trans u2).trans u3).put hk ha) hp3
        · exact hp3.elim
      · exact hp3.elim
    · exact hp3.elim
end
end L2.TL

/-! text TL18 -/
set_option Elab.async false
set_option linter.all false
set_option maxRecDepth 100000
set_option maxHeartbeats 2000000
namespace L2.TL
open PySem PySem.Spec PyProof.Rows
/-- a class's own == -/
structure Qe (P : Program) (w : World) (K : PySem.W.Frag) (mg : Str → Option Value) (base : Heap) (k : Nat) (C : Addr) (Φ : Sw) : Prop where
  ex : ∃ f fd ps, FnOk P w K mg base (CX P w) k f fd ps (spT K Φ) ∧ PySem.W.findIn K (.ref C) "__eq__" = some (some (.ref f)) ∧ PySem.W.isFn K (.ref f) = true ∧ Binds K fd ps []
section
variable {X : Cx} {XW : WX} {pos pos' p apos tpos cpos : Pos} {a b c e e2 f i o tg iter elt kx vx value : Expr} {es ifs elts : List Expr} {kk : Nat} {wa wb wc wo wd wy wx wv : WEx} {ua ub : WBx} {ws : WAx} {body : List Stmt} {w v : WSx} {wi : WIx} {t : TGx} {E : XK}
def rOwnT (K : PySem.W.Frag) (C : Addr) (Φ : Sw) (E : XK) : R2 := fun x y H Q => ∃ a dx fs t, x = .ref a ∧ H a = some (.ins C dx fs) ∧ TyX K H y t ∧ PySem.W.notFirst K C t = true ∧ spT K Φ [x, y] H Q E
theorem op_ownT {k j : Nat} {C : Addr} {Φ : Sw} (G : Qe X.prog X.w X.K X.mg X.base k C Φ) (hr : Room j X.A) (hkj : k ≤ j) (tk : Takes X (EW E)) : OpR X (compareOp .Eq) (rOwnT X.K C Φ E) := by
  obtain ⟨g, fd, ps, F, hs, hf, hb⟩ := G.ex
  intro pins s σ H x y v u Q I rx ry h
  obtain ⟨a, dx, fs, t, rfl, ha, ty, hn, q⟩ := h
  cases (show v = Value.ref a from rx)
  obtain ⟨mA, J, _⟩ := ins_get I.hok ha
  obtain ⟨od, J, _⟩ := J.look
  obtain ⟨P, Z, p, _⟩ := kit_of I ry ty
  obtain ⟨m, hF⟩ := I.fr
  show wpAny (model X.prog X.w) X.A (richCompare .Eq (.ref a) u) (EP X pins σ Q) X.xe s
  refine PySem.W.cmp_K (op := .Eq) hr.units0 hF I.ok.mod.kin J (Z.ty _ _ I.kIn p) hn hs hf ?_
  have r2 : Vals [V.ref a, y] [Value.ref a, u] := .cons rfl (.cons ry .nil)
  have FR : FnR X.prog X.w X.K X.mg X.base (L2.CX X.prog X.w) k g (spT X.K Φ) := (F.raw hb .nil).imp fun vs H Q E h => by rw [List.append_nil]; exact h
  refine wpAny_mono (wpAny_call (run_fnR FR (hr.mono hkj) (passE tk) I r2 q)) (fun w s' z => ?_) fun _ _ x => x
  obtain ⟨z', H', I', rz, qz⟩ := z
  exact SlX.cmpback rz ⟨z', H', I', rz, qz⟩
def oOwn (K : PySem.W.Frag) (C : Addr) (Φ : Sw) : R → R → WEx := fun ra rb en P PX => match ra.val en.os, rb.val en.os with
  | some (.ins C' _), some y => C' = C ∧ insOk K y ∧ PySem.W.notFirst K C (tyD y) = true ∧ Φ [ra, rb] en.os (fun r os' => P r ⟨en.ρ, os'⟩) (fun er os' => PX er ⟨en.ρ, os'⟩)
  | some x, some y => shD x = true ∧ shD y = true ∧ P (.sh (.bl (eqD x y))) en
  | _, _ => False
theorem own_fin {K : PySem.W.Frag} {C : Addr} {Φ : Sw} {σ : St} {H : Hp} {Q : VK} {x y : V} (h : tP K (EW E) [y, x] (l2 (oOwn K C Φ)) σ H Q) : rOwnT K C Φ E x y H Q ∨ rEqD K x y H Q := by
  obtain ⟨as, os0, F0, H0, en, F, rs, P, PX, es, st, pr, hw, hq, hx⟩ := h
  cases pr with
  | cons ry pr =>
    cases pr with
    | cons rx pr =>
      cases pr
      simp only [l2, oOwn] at hw
      split at hw
      · rename_i C' fs y0 e1 e2
        obtain ⟨rfl, ok, nf, hp⟩ := hw
        obtain ⟨a, dx, gs, rfl, ha, _⟩ := (rx.sees es.hs e1).ins
        refine .inl ⟨a, dx, gs, _, rfl, ha, (ry.sees es.hs e2).ty_of ok, nf, as, en.os, F, _, _, _, es.hs, .cons rx (.cons ry .nil), hp, fun v H3 r3 os3 F3 h3 s3 rr3 hp3 => ?_, fun cls d H3 er os3 F3 h3 s3 re hp3 => ?_⟩
        · exact hq v H3 r3 _ F3 (es.call h3 s3) (st.trans s3) (rr3.lift st) hp3
        · exact hx cls d H3 er _ F3 (es.call h3 s3) (st.trans s3) re hp3
      · rename_i e1 e2
        exact .inr ⟨_, _, (rx.sees es.hs e1).dp (SeqAt.canLay_of_shaped hw.1), (ry.sees es.hs e2).dp (SeqAt.canLay_of_shaped hw.2.1), hw.1, hw.2.1, hq _ H (.sh (.bl (eqD _ _))) en F es st (by simp only [RepR, Rep, eqD]) hw.2.2⟩
      · exact hw.elim
theorem te_eqO {k j : Nat} {C : Addr} {Φ : Sw} (G : Qe X.prog X.w X.K X.mg X.base k C Φ) (hr : Room j X.A) (tk : Takes X (EW E)) (ha : PE X a (tW X.K (EW E) wa)) (hb : PE X b (tW X.K (EW E) wb)) (hkj : k ≤ j := by decide) : PE X (.Compare a [.Eq] [b] pos) (tW X.K (EW E) (w2 (oOwn X.K C Φ) wa wb)) :=
  (pe_cmpR ((op_ownT G hr hkj tk).or (op_eqD hr.units)) ha hb (nomark _)).weak fun σ H Q h => tOp_of (fun x y H2 h => own_fin h) h
theorem tb_eqO {k j : Nat} {C : Addr} {Φ : Sw} (G : Qe X.prog X.w X.K X.mg X.base k C Φ) (hr : Room j X.A) (tk : Takes X (EW E)) (ha : PE X a (tW X.K (EW E) wa)) (hb : PE X b (tW X.K (EW E) wb)) (hkj : k ≤ j := by decide) : PT X (.Compare a [.Eq] [b] pos) (tWB X.K (EW E) (wT (w2 (oOwn X.K C Φ) wa wb))) :=
  tb_cmp ((op_ownT G hr hkj tk).or (op_eqD hr.units)) (fun σ H Q x y h => own_fin h) (nomark _) ha hb
end
end L2.TL

/-! text TL19 -/
set_option Elab.async false
set_option linter.all false
set_option maxRecDepth 100000
set_option maxHeartbeats 2000000
namespace L2.TL
open PySem PySem.Spec PyProof.Rows
section
variable {X : Cx} {XW : WX} {pos pos' p p2 apos tpos cpos : Pos} {a b c e e2 f i o tg iter elt kx vx value : Expr} {es ifs elts : List Expr} {kk : Nat} {wa wb wc wo wd wy wx wv : WEx} {ua ub : WBx} {ws : WAx} {body : List Stmt} {w v : WSx} {wi : WIx} {t : TGx} {E : XK}
/-! ### slices -/
abbrev WPx := En → (Option Int → En → Prop) → PEr → Prop
def tO (K : PySem.W.Frag) (XW : WX) (w : WPx) : TO := fun σ H Q => ∃ as en F P PX, ES K as en F H σ ∧ w en P PX ∧
  (∀ o H' en' F', ES K as en' F' H' σ → Step as en.os F H as en'.os F' H' → P o en' → Q o H') ∧ CEx K XW as en.os F H PX σ
theorem _root_.L2.PO.weak {X : Cx} {e : Option Expr} {t t' : TO} (h : PO X e t) (f : ∀ σ H Q, t' σ H Q → t σ H Q) : PO X e t' := ⟨fun pins s σ H Q I q => h.run pins s σ H Q I (f σ H Q q)⟩
def pNo : WPx := fun en P _ => P none en
def pAt (w : WEx) : WPx := fun en P PX => w en (fun r en1 => match r with
  | .sh (.int i) => P (some i) en1
  | _ => False) PX
theorem to_no : PO X none (tO X.K XW pNo) := po_none.weak fun σ H Q h => by
  obtain ⟨as, en, F, P, PX, es, hw, hq, hx⟩ := h
  exact hq none H en F es Step.refl hw
theorem to_at (h : PE X e (tW X.K XW wa)) : PO X (some e) (tO X.K XW (pAt wa)) := (po_some h).weak fun σ H Q h => by
  obtain ⟨as, en, F, P, PX, es, hw, hq, hx⟩ := h
  refine ⟨as, en, F, _, PX, es, hw, fun v H1 r en1 F1 e1 s1 rr hp => ?_, hx⟩
  split at hp
  · rename_i i
    simp only [RepR, Rep] at rr
    exact ⟨i, rr, hq _ H1 en1 F1 e1 s1 hp⟩
  · exact hp.elim
/-- a list of the written part -/
def KL (K : PySem.W.Frag) (a : Addr) (vs : List V) : Prop := ∃ (o : Obj) (its : Array Value) (n : Nat), K.lookup a = some o ∧ o.cls = .type "list" ∧ o.dict = none ∧ o.data = .seq its n ∧ its.size ≤ sizeLine ∧ Vals vs its.toList
def cutL {α : Type} (xs : List α) (lo hi : Option Int) : List α := (xs.drop (HT.sIx xs.length 0 lo)).take (HT.sIx xs.length xs.length hi - HT.sIx xs.length 0 lo)
theorem RepL.cut {K : PySem.W.Frag} {F : Addr → Prop} {H : Hp} {ds : List D} {vs : List V} (lo hi : Option Int) (r : RepL K F H ds vs) : RepL K F H (cutL ds lo hi) (cutV vs lo hi) := by
  unfold cutL cutV
  rw [r.length]
  exact (r.drop _).take _
theorem cut_all {α : Type} (xs : List α) (lo hi : Option Int) (h : HT.sIx xs.length 0 lo = 0 ∧ HT.sIx xs.length xs.length hi = xs.length) : cutL xs lo hi = xs := by
  unfold cutL
  rw [h.1, h.2]; simp
theorem repL_ints {K : PySem.W.Frag} {F : Addr → Prop} {H : Hp} : ∀ ns : List Int, RepL K F H (ns.map D.int) (ns.map V.int)
  | [] => RepL.nil
  | n :: ns => RepL.cons (by simp only [Rep]) (repL_ints ns)
def wSlc (K : PySem.W.Frag) (we : WEx) (wl wh : WPx) : WEx := fun en P PX => we en (fun re en1 => wl en1 (fun lo en2 => wh en2 (fun hi en3 => match re.fz.val en3.os with
  | some (.lst xs) => P (.fr (.lst (cutL xs lo hi))) en3
  | some (.tup xs) => P (.sh (.tup (cutL xs lo hi))) en3
  | some (.obj a) => ∃ ns : List Int, KL K a (ns.map V.int) ∧ ns.length ≤ sizeLine ∧ P (.fr (.lst (cutL (ns.map D.int) lo hi))) en3
  | _ => False) PX) PX) PX
theorem te_slice {lo hi : Option Expr} {wl wh : WPx} (he : PE X e (tW X.K XW wa)) (hl : PO X lo (tO X.K XW wl)) (hh : PO X hi (tO X.K XW wh)) : PE X (.Subscript e (.Slice lo hi none p2) pos) (tW X.K XW (wSlc X.K wa wl wh)) :=
  (pe_slice (sl_list.or sl_tupA) he hl hh).weak fun σ H Q h => by
    obtain ⟨as, en, F, P, PX, es, hw, hq, hx⟩ := h
    refine ⟨as, en, F, _, PX, es, hw, fun x H1 ra en1 F1 e1 s1 rra hp => ?_, hx⟩
    obtain ⟨G1, g1, u1, pa, _⟩ := wait es e1 Step.refl s1 rra
    refine ⟨as, en1, G1, _, PX, g1, hp, fun l H2 en2 F2 e2 s2 hp2 => ?_, hx.from u1⟩
    refine ⟨as, en2, F2, _, PX, e2, hp2, fun r H3 en3 F3 e3 s3 hp3 => ?_, hx.from (u1.trans s2)⟩
    have t3 := (u1.trans s2).trans s3
    have pa3 : RepP X.K as F3 H3 ra.fz x := (pa.step s2 g1.hs).step s3 e2.hs
    split at hp3
    · rename_i xs ed
      obtain ⟨a, vs, rfl, ha, hz, rl⟩ := (pa3.sees e3.hs ed).lst
      refine .inl ⟨a, vs, rfl, .inl ha, fun q hq0 => ?_⟩
      obtain ⟨q1, q2, q3⟩ := new_lst e3 t3 hq0 (Nat.le_trans (cutV_length vs l r) hz) (rl.cut l r)
      exact hq _ _ _ en3 _ q1 q2 q3 hp3
    · rename_i xs ed
      obtain ⟨a, vs, rfl, ha, hz, rl⟩ := (pa3.sees e3.hs ed).tup
      refine .inr ⟨a, vs, rfl, .of ha, fun hw => ?_, fun _ q hq0 => ?_⟩
      · rw [rl.length] at hw
        rw [cut_all xs l r hw] at hp3
        exact hq _ H3 (.sh (.tup xs)) en3 F3 e3 t3 (by simp only [RepR, Rep]; exact ⟨a, vs, rfl, ha, hz, rl⟩) hp3
      · obtain ⟨q1, q2, q3⟩ := new_tup e3 t3 hq0 (Nat.le_trans (cutV_length vs l r) hz) (rl.cut l r)
        exact hq _ _ _ en3 _ q1 q2 q3 hp3
    · rename_i a ed
      obtain ⟨ns, kl, hz, hp3⟩ := hp3
      cases (pa3.sees e3.hs ed).obj
      refine .inl ⟨a, ns.map V.int, rfl, .inr kl, fun q hq0 => ?_⟩
      obtain ⟨q1, q2, q3⟩ := new_lst e3 t3 hq0 (Nat.le_trans (cutV_length _ l r) (by rw [List.length_map]; exact hz)) ((repL_ints ns).cut l r)
      exact hq _ _ _ en3 _ q1 q2 q3 hp3
    · exact hp3.elim

/-! ### three names at once -/
def wPar3 (i j l : Nat) (wa wb wc : WEx) : WSx := fun en P => wa en (fun ra en1 => wb en1 (fun rb en2 => wc en2 (fun rc en3 => P.nx ⟨((en3.ρ.set i (some ra.fz)).set j (some rb.fz)).set l (some rc.fz), en3.os⟩) P.ex) P.ex) P.ex
theorem ts_par3 (i j l : Nat) {x y z : Str} {px py pz pt : Pos} {kt k2 pt2} (hc : X.calm = true) (hN : X.N.Nodup) (hi : X.N[i]? = some x) (hj : X.N[j]? = some y) (hl : X.N[l]? = some z) (hij : i ≠ j) (hil : i ≠ l) (hjl : j ≠ l)
    (hx : X.env.scope.names.lookup x = some .local) (hy : X.env.scope.names.lookup y = some .local) (hz : X.env.scope.names.lookup z = some .local) (ha : PE X a (tW X.K XW wa)) (hb : PE X b (tW X.K XW wb)) (hcc : PE X c (tW X.K XW wc))
    (hw : swappedStores [.Tuple [.Name x px, .Name y py, .Name z pz] kt pt] (.Tuple [a, b, c] k2 pt2) X.env = pure (some [x, y, z]) := by rfl)
    (hs : swapsWithSole [.Tuple [.Name x px, .Name y py, .Name z pz] kt pt] (.Tuple [a, b, c] k2 pt2) pos.line X.env = pure false := by rfl)
    (hs1 : starEach [a, b, c] X.env = (false, eval a X.env) :: starEach [b, c] X.env := by rfl) (hs2 : starEach [b, c] X.env = (false, eval b X.env) :: starEach [c] X.env := by rfl) (hs3 : starEach [c] X.env = (false, eval c X.env) :: starEach [] X.env := by rfl) :
    PS X (.Assign [.Tuple [.Name x px, .Name y py, .Name z pz] kt pt] (.Tuple [a, b, c] k2 pt2) pos) (tS X.K XW (wPar3 i j l wa wb wc)) :=
  (ps_par3 hc hN hi hj hl hij hil hjl hx hy hz (ta_cons ha (ta_cons hb (ta_cons hcc ta_nil hs3) hs2) hs1) hw hs).weak fun D σ H h => by
    obtain ⟨as, en, F, P, es, hw, h1, h2, h3, h4, h5⟩ := h
    refine ⟨as, en, F, fun rs en2 => match rs with
      | [ra, rb, rc] => P.nx ⟨((en2.ρ.set i (some ra)).set j (some rb)).set l (some rc), en2.os⟩
      | _ => False, _, es, hw, fun vs H1 rs en1 F1 e1 s1 pr hp => ?_, h5.at σ⟩
    cases pr with
    | nil => exact hp.elim
    | cons q1 pr =>
      cases pr with
      | nil => exact hp.elim
      | cons q2 pr =>
        cases pr with
        | nil => exact hp.elim
        | cons q3 pr =>
          cases pr with
          | nil => exact ⟨_, _, _, rfl, h1 _ H1 as _ F1 (((e1.set i q1).set j q2).set l q3) s1 hp⟩
          | cons _ _ => exact hp.elim

/-! ### freezing a local root -/
/-- e read as a frozen tree -/
def XK0 : XK := fun _ _ _ => False
theorem takes00 {X : Cx} : Takes X (EW XK0) := takes0
end

/-! ### isinstance of built-in kinds -/
section
variable {K : PySem.W.Frag}
theorem kb1 {a b : String} {r : Bool} (h : kitB a b = some r) : PySem.W.kitOne K (.type a) (.type b) = some r := kit_ty h
theorem kb_NoneType_bool : PySem.W.kitOne K (.type "NoneType") (.type "bool") = some false := kb1 (by decide +kernel)
theorem kb_NoneType_int : PySem.W.kitOne K (.type "NoneType") (.type "int") = some false := kb1 (by decide +kernel)
theorem kb_NoneType_str : PySem.W.kitOne K (.type "NoneType") (.type "str") = some false := kb1 (by decide +kernel)
theorem kb_NoneType_list : PySem.W.kitOne K (.type "NoneType") (.type "list") = some false := kb1 (by decide +kernel)
theorem kb_NoneType_tuple : PySem.W.kitOne K (.type "NoneType") (.type "tuple") = some false := kb1 (by decide +kernel)
theorem kb_NoneType_dict : PySem.W.kitOne K (.type "NoneType") (.type "dict") = some false := kb1 (by decide +kernel)
theorem kb_bool_bool : PySem.W.kitOne K (.type "bool") (.type "bool") = some true := kb1 (by decide +kernel)
theorem kb_bool_int : PySem.W.kitOne K (.type "bool") (.type "int") = some true := kb1 (by decide +kernel)
theorem kb_bool_str : PySem.W.kitOne K (.type "bool") (.type "str") = some false := kb1 (by decide +kernel)
theorem kb_bool_list : PySem.W.kitOne K (.type "bool") (.type "list") = some false := kb1 (by decide +kernel)
theorem kb_bool_tuple : PySem.W.kitOne K (.type "bool") (.type "tuple") = some false := kb1 (by decide +kernel)
theorem kb_bool_dict : PySem.W.kitOne K (.type "bool") (.type "dict") = some false := kb1 (by decide +kernel)
theorem kb_int_bool : PySem.W.kitOne K (.type "int") (.type "bool") = some false := kb1 (by decide +kernel)
theorem kb_int_int : PySem.W.kitOne K (.type "int") (.type "int") = some true := kb1 (by decide +kernel)
theorem kb_int_str : PySem.W.kitOne K (.type "int") (.type "str") = some false := kb1 (by decide +kernel)
theorem kb_int_list : PySem.W.kitOne K (.type "int") (.type "list") = some false := kb1 (by decide +kernel)
theorem kb_int_tuple : PySem.W.kitOne K (.type "int") (.type "tuple") = some false := kb1 (by decide +kernel)
theorem kb_int_dict : PySem.W.kitOne K (.type "int") (.type "dict") = some false := kb1 (by decide +kernel)
theorem kb_str_bool : PySem.W.kitOne K (.type "str") (.type "bool") = some false := kb1 (by decide +kernel)
theorem kb_str_int : PySem.W.kitOne K (.type "str") (.type "int") = some false := kb1 (by decide +kernel)
theorem kb_str_str : PySem.W.kitOne K (.type "str") (.type "str") = some true := kb1 (by decide +kernel)
theorem kb_str_list : PySem.W.kitOne K (.type "str") (.type "list") = some false := kb1 (by decide +kernel)
theorem kb_str_tuple : PySem.W.kitOne K (.type "str") (.type "tuple") = some false := kb1 (by decide +kernel)
theorem kb_str_dict : PySem.W.kitOne K (.type "str") (.type "dict") = some false := kb1 (by decide +kernel)
theorem kb_list_bool : PySem.W.kitOne K (.type "list") (.type "bool") = some false := kb1 (by decide +kernel)
theorem kb_list_int : PySem.W.kitOne K (.type "list") (.type "int") = some false := kb1 (by decide +kernel)
theorem kb_list_str : PySem.W.kitOne K (.type "list") (.type "str") = some false := kb1 (by decide +kernel)
theorem kb_list_list : PySem.W.kitOne K (.type "list") (.type "list") = some true := kb1 (by decide +kernel)
theorem kb_list_tuple : PySem.W.kitOne K (.type "list") (.type "tuple") = some false := kb1 (by decide +kernel)
theorem kb_list_dict : PySem.W.kitOne K (.type "list") (.type "dict") = some false := kb1 (by decide +kernel)
theorem kb_tuple_bool : PySem.W.kitOne K (.type "tuple") (.type "bool") = some false := kb1 (by decide +kernel)
theorem kb_tuple_int : PySem.W.kitOne K (.type "tuple") (.type "int") = some false := kb1 (by decide +kernel)
theorem kb_tuple_str : PySem.W.kitOne K (.type "tuple") (.type "str") = some false := kb1 (by decide +kernel)
theorem kb_tuple_list : PySem.W.kitOne K (.type "tuple") (.type "list") = some false := kb1 (by decide +kernel)
theorem kb_tuple_tuple : PySem.W.kitOne K (.type "tuple") (.type "tuple") = some true := kb1 (by decide +kernel)
theorem kb_tuple_dict : PySem.W.kitOne K (.type "tuple") (.type "dict") = some false := kb1 (by decide +kernel)
theorem kb_dict_bool : PySem.W.kitOne K (.type "dict") (.type "bool") = some false := kb1 (by decide +kernel)
theorem kb_dict_int : PySem.W.kitOne K (.type "dict") (.type "int") = some false := kb1 (by decide +kernel)
theorem kb_dict_str : PySem.W.kitOne K (.type "dict") (.type "str") = some false := kb1 (by decide +kernel)
theorem kb_dict_list : PySem.W.kitOne K (.type "dict") (.type "list") = some false := kb1 (by decide +kernel)
theorem kb_dict_tuple : PySem.W.kitOne K (.type "dict") (.type "tuple") = some false := kb1 (by decide +kernel)
theorem kb_dict_dict : PySem.W.kitOne K (.type "dict") (.type "dict") = some true := kb1 (by decide +kernel)
end
end L2.TL

/-! text TL20 -/
set_option Elab.async false
set_option linter.all false
set_option maxRecDepth 100000
set_option maxHeartbeats 2000000
namespace L2.TL
open PySem PySem.Spec PyProof.Rows
section
variable {X : Cx} {XW : WX} {pos : Pos}
/-! ### a module's constants, classes -/
theorem te_gI {x : Str} {i : Int} (h : ∃ t, X.mg x = some (.int i t)) (hg : Gl X x) (hd : (x == ("__debug__" : Str)) = false := by decide) : PE X (.Name x pos) (tW X.K XW (wC (.int i))) :=
  let ⟨t, h⟩ := h; te_glob (.int i) hg h ⟨t, rfl⟩ (fun _ _ => by simp only [Rep]) hd
theorem te_gS {x : Str} {i : Str} (h : ∃ t, X.mg x = some (.str i t)) (hg : Gl X x) (hd : (x == ("__debug__" : Str)) = false := by decide) : PE X (.Name x pos) (tW X.K XW (wC (.str i))) :=
  let ⟨t, h⟩ := h; te_glob (.str i) hg h ⟨t, rfl⟩ (fun _ _ => by simp only [Rep]) hd
theorem te_gC {x : Str} {C : Addr} (h : X.mg x = some (.ref C)) (hg : Gl X x) (hd : (x == ("__debug__" : Str)) = false := by decide) : PE X (.Name x pos) (tW X.K XW (wC (.obj C))) :=
  te_glob (.ref C) hg h rfl (fun _ _ => by simp only [Rep]) hd
def wNewD : WEx := fun en P _ => P (.fr (.dk [])) en
theorem te_newD : PE X (.Dict [] [] pos) (tW X.K XW wNewD) := pe_dnewK.weak fun σ H Q h => by
  obtain ⟨as, en, F, P, PX, es, hw, hq, hx⟩ := h
  intro p hp
  obtain ⟨q1, q2, q3⟩ := new_fr (o := .dK []) (d := .dk []) es Step.refl hp ⟨[], upd_same, by simp [RepK]⟩
  exact hq _ _ _ en _ q1 q2 q3 hw
end
end L2.TL

/-! text TL21 -/
set_option Elab.async false
set_option linter.all false
set_option maxRecDepth 100000
set_option maxHeartbeats 2000000
namespace L2.TL
open PySem PySem.Spec PyProof.Rows
/-! ### comprehensions whose parts are plain -/
theorem lcL_fm {i : Nat} {ρ0 : Ro} {os : Os} {test : WBx} {elt : WEx} {p : D → Bool} {f : D → D} {Pend : List D → En → Prop} (h0 : ρ0.set i none = ρ0) : ∀ (ds acc : List D),
    (∀ d ∈ ds, ∀ (P : Bool → En → Prop) PX, P (p d) ⟨ρ0.set i (some (.sh d)), os⟩ → test ⟨ρ0.set i (some (.sh d)), os⟩ P PX) →
    (∀ d ∈ ds, p d = true → ∀ (P : R → En → Prop) PX, P (.sh (f d)) ⟨ρ0.set i (some (.sh d)), os⟩ → elt ⟨ρ0.set i (some (.sh d)), os⟩ P PX) →
    Pend (acc ++ (ds.filter p).map f) ⟨ρ0, os⟩ → wLcL (gN i) test elt [i] Pend ds acc ⟨ρ0, os⟩
  | [], acc, _, _, hp => by simpa [wLcL] using hp
  | d :: ds, acc, ht, he, hp => by
    have w0 : wipeR (ρ0.set i (some (.sh d))) [i] = ρ0 := by
      simp only [wipeR]
      rw [List.set_set]; exact h0
    simp only [wLcL, gN]
    refine ht d List.mem_cons_self _ _ ?_
    cases hpd : p d with
    | true =>
      refine he d List.mem_cons_self hpd _ _ ?_
      simp only [R.fz, w0]
      refine lcL_fm h0 ds _ (fun d hd => ht d (List.mem_cons_of_mem _ hd)) (fun d hd => he d (List.mem_cons_of_mem _ hd)) ?_
      rw [List.filter_cons, if_pos hpd] at hp
      simpa using hp
    | false =>
      simp only [w0]
      refine lcL_fm h0 ds _ (fun d hd => ht d (List.mem_cons_of_mem _ hd)) (fun d hd => he d (List.mem_cons_of_mem _ hd)) ?_
      rw [List.filter_cons, if_neg (by rw [hpd]; exact Bool.false_ne_true)] at hp
      exact hp
theorem lcL_map {i : Nat} {ρ0 : Ro} {os : Os} {elt : WEx} {f : D → D} {Pend : List D → En → Prop} (h0 : ρ0.set i none = ρ0) {ds acc : List D}
    (he : ∀ d ∈ ds, ∀ (P : R → En → Prop) PX, P (.sh (f d)) ⟨ρ0.set i (some (.sh d)), os⟩ → elt ⟨ρ0.set i (some (.sh d)), os⟩ P PX)
    (hp : Pend (acc ++ ds.map f) ⟨ρ0, os⟩) : wLcL (gN i) wYes elt [i] Pend ds acc ⟨ρ0, os⟩ :=
  lcL_fm (p := fun _ => true) h0 ds acc (fun d _ P PX h => h) (fun d hd _ => he d hd) (by rw [List.filter_eq_self.mpr (fun _ _ => rfl)]; exact hp)
/-- two names -/
theorem lcL_map2 {i j : Nat} {ρ0 : Ro} {os : Os} {elt : WEx} {f : D × D → D} {Pend : List D → En → Prop} (h0 : (ρ0.set j none).set i none = ρ0) (hij : i ≠ j) : ∀ {ds : List (D × D)} {acc : List D},
    (∀ d ∈ ds, ∀ (P : R → En → Prop) PX, P (.sh (f d)) ⟨(ρ0.set i (some (.sh d.1))).set j (some (.sh d.2)), os⟩ → elt ⟨(ρ0.set i (some (.sh d.1))).set j (some (.sh d.2)), os⟩ P PX) →
    Pend (acc ++ ds.map f) ⟨ρ0, os⟩ → wLcL (gT (gsCons (gN i) (gsCons (gN j) gsNil))) wYes elt [i, j] Pend (ds.map fun p => .tup [p.1, p.2]) acc ⟨ρ0, os⟩
  | [], acc, _, hp => by simpa [wLcL] using hp
  | d :: ds, acc, he, hp => by
    have w0 : wipeR ((ρ0.set i (some (.sh d.1))).set j (some (.sh d.2))) [i, j] = ρ0 := by
      simp only [wipeR]
      rw [List.set_set, List.set_comm _ _ hij, List.set_set]
      exact h0
    simp only [List.map_cons, wLcL, gT, gsCons, gsNil, gN, Option.bind_some, wYes]
    refine he d List.mem_cons_self _ _ ?_
    simp only [R.fz, w0]
    exact lcL_map2 h0 hij (fun d hd => he d (List.mem_cons_of_mem _ hd)) (by simpa using hp)
theorem dcL_map {κ : Type} [DecidableEq κ] {keyOf : D → Option κ} {i : Nat} {ρ0 : Ro} {os : Os} {kx vx : WEx} {fk fv : D → D} {kk : D → κ} {Pend : List (κ × D) → En → Prop} (h0 : ρ0.set i none = ρ0) : ∀ {ds : List D} {acc : List (κ × D)},
    (∀ d ∈ ds, keyOf (fk d) = some (kk d)) →
    (∀ d ∈ ds, ∀ (P : R → En → Prop) PX, P (.sh (fk d)) ⟨ρ0.set i (some (.sh d)), os⟩ → kx ⟨ρ0.set i (some (.sh d)), os⟩ P PX) →
    (∀ d ∈ ds, ∀ (P : R → En → Prop) PX, P (.sh (fv d)) ⟨ρ0.set i (some (.sh d)), os⟩ → vx ⟨ρ0.set i (some (.sh d)), os⟩ P PX) →
    Pend (ds.foldl (fun a d => putKD a (kk d) (fv d)) acc) ⟨ρ0, os⟩ → wDcL keyOf (gN i) wYes kx vx [i] Pend ds acc ⟨ρ0, os⟩
  | [], acc, _, _, _, hp => by simpa [wDcL] using hp
  | d :: ds, acc, hk, ek, ev, hp => by
    have w0 : wipeR (ρ0.set i (some (.sh d))) [i] = ρ0 := by
      simp only [wipeR]
      rw [List.set_set]; exact h0
    simp only [wDcL, gN, wYes]
    refine ek d List.mem_cons_self _ _ ?_
    refine ev d List.mem_cons_self _ _ ?_
    simp only [R.fz, hk d List.mem_cons_self, w0]
    exact dcL_map h0 (fun d hd => hk d (List.mem_cons_of_mem _ hd)) (fun d hd => ek d (List.mem_cons_of_mem _ hd)) (fun d hd => ev d (List.mem_cons_of_mem _ hd)) hp
theorem dcL_map2 {κ : Type} [DecidableEq κ] {keyOf : D → Option κ} {i j : Nat} {ρ0 : Ro} {os : Os} {kx vx : WEx} {fk fv : D × D → D} {kk : D × D → κ} {Pend : List (κ × D) → En → Prop} (h0 : (ρ0.set j none).set i none = ρ0) (hij : i ≠ j) : ∀ {ds : List (D × D)} {acc : List (κ × D)},
    (∀ d ∈ ds, keyOf (fk d) = some (kk d)) →
    (∀ d ∈ ds, ∀ (P : R → En → Prop) PX, P (.sh (fk d)) ⟨(ρ0.set i (some (.sh d.1))).set j (some (.sh d.2)), os⟩ → kx ⟨(ρ0.set i (some (.sh d.1))).set j (some (.sh d.2)), os⟩ P PX) →
    (∀ d ∈ ds, ∀ (P : R → En → Prop) PX, P (.sh (fv d)) ⟨(ρ0.set i (some (.sh d.1))).set j (some (.sh d.2)), os⟩ → vx ⟨(ρ0.set i (some (.sh d.1))).set j (some (.sh d.2)), os⟩ P PX) →
    Pend (ds.foldl (fun a d => putKD a (kk d) (fv d)) acc) ⟨ρ0, os⟩ → wDcL keyOf (gT (gsCons (gN i) (gsCons (gN j) gsNil))) wYes kx vx [i, j] Pend (ds.map fun p => .tup [p.1, p.2]) acc ⟨ρ0, os⟩
  | [], acc, _, _, _, hp => by simpa [wDcL] using hp
  | d :: ds, acc, hk, ek, ev, hp => by
    have w0 : wipeR ((ρ0.set i (some (.sh d.1))).set j (some (.sh d.2))) [i, j] = ρ0 := by
      simp only [wipeR]
      rw [List.set_set, List.set_comm _ _ hij, List.set_set]
      exact h0
    simp only [List.map_cons, wDcL, gT, gsCons, gsNil, gN, Option.bind_some, wYes]
    refine ek d List.mem_cons_self _ _ ?_
    refine ev d List.mem_cons_self _ _ ?_
    simp only [R.fz, hk d List.mem_cons_self, w0]
    exact dcL_map2 h0 hij (fun d hd => hk d (List.mem_cons_of_mem _ hd)) (fun d hd => ek d (List.mem_cons_of_mem _ hd)) (fun d hd => ev d (List.mem_cons_of_mem _ hd)) hp
theorem fold_put {κ α : Type} [DecidableEq κ] {kk : α → κ} {fv : α → D} : ∀ (ds : List α) (acc : List (κ × D)), (ds.map kk).Nodup → (∀ d ∈ ds, ∀ a ∈ acc, a.1 ≠ kk d) → ds.foldl (fun a d => putKD a (kk d) (fv d)) acc = acc ++ ds.map fun d => (kk d, fv d)
  | [], acc, _, _ => by simp
  | d :: ds, acc, nd, h => by
    rw [List.map_cons, List.nodup_cons] at nd
    have e : putKD acc (kk d) (fv d) = acc ++ [(kk d, fv d)] := by
      unfold putKD
      rw [if_neg]
      rw [Bool.not_eq_true, List.any_eq_false]
      intro a ha
      simpa using h d List.mem_cons_self a ha
    rw [List.foldl_cons, e, fold_put ds _ nd.2 ?_]
    · simp
    · intro d' hd' a ha
      rcases List.mem_append.mp ha with ha | ha
      · exact h d' (List.mem_cons_of_mem _ hd') a ha
      · rw [List.mem_singleton] at ha
        subst ha
        exact fun q => nd.1 (List.mem_map.mpr ⟨d', hd', (show kk d = kk d' from q).symm⟩)
theorem blsD_map : ∀ bs : List Bool, blsD (bs.map D.bl) = some bs
  | [] => rfl
  | b :: bs => by simp only [List.map_cons, blsD, blsD_map bs]; rfl
/-- a loop whose turns are told -/
theorem loop_inv {t : TGx} {body : WSx} {P : Post} (J : List D → En → Prop) (hend : ∀ en, J [] en → P.nx en)
    (hstep : ∀ d ds en, J (d :: ds) en → ∃ ρ1, t d en.ρ = some ρ1 ∧ ∀ (N : En → Prop), (∀ en2, J ds en2 → N en2) → body ⟨ρ1, en.os⟩ { P with nx := N, ct := N, bk := P.nx }) :
    ∀ (ds : List D) (en : En), J ds en → wLoop t body ds en P
  | [], en, h => hend en h
  | d :: ds, en, h => by
    obtain ⟨ρ1, e, hb⟩ := hstep d ds en h
    simp only [wLoop, e]
    exact hb _ fun en2 h2 => loop_inv J hend hstep ds en2 h2
/-- while, by a measure -/
theorem wh_inv {u : WBx} {body : WSx} {P : Post} (J : Nat → En → Prop)
    (hstep : ∀ m en, J m en → ∀ (W : En → Prop), (∀ m2 en2, m2 < m → J m2 en2 → W en2) → u en (fun k en1 => match k with
      | true => body en1 { P with nx := W, ct := W, bk := P.nx }
      | false => P.nx en1) P.ex) : ∀ n m en, m < n → J m en → wWh u body n en P
  | 0, m, en, h, _ => absurd h (Nat.not_lt_zero m)
  | n + 1, m, en, h, j => hstep m en j (fun en2 => wWh u body n en2 P) fun m2 en2 hm j2 => wh_inv J hstep n m2 en2 (by omega) j2
end L2.TL

/-! text TL22 -/
set_option Elab.async false
set_option linter.all false
set_option maxRecDepth 100000
set_option maxHeartbeats 2000000
namespace L2.TL
open PySem PySem.Spec PyProof.Rows
section
variable {X : Cx} {XW : WX} {pos pos' p apos tpos cpos : Pos} {a b c e e2 f i o tg iter elt kx vx value : Expr} {es ifs elts : List Expr} {kk : Nat} {wa wb wc wo wd wy wx wv : WEx} {ua ub : WBx} {ws : WAx} {body : List Stmt} {w v : WSx} {wi : WIx} {t : TGx}

/-! ### sep.join(texts) -/
theorem strs_rep {K : PySem.W.Frag} {F : Addr → Prop} {H : Hp} : ∀ {ys : List Str} {vs : List V}, RepL K F H (ys.map D.str) vs → vs = ys.map V.str
  | [], vs, h => by simpa only [List.map_nil, RepL] using h
  | y :: ys, vs, h => by
    simp only [List.map_cons, RepL] at h
    obtain ⟨w, us, rfl, r, q⟩ := h
    rw [strs_rep q]
    simp only [Rep] at r
    rw [r]; rfl
def wJoin (wo we : WEx) : WEx := fun en P PX => wo en (fun ro en1 => match ro with
  | .sh (.str a) => we en1 (fun re en2 => match re.val en2.os with
    | some (.lst xs) => ∃ ys : List Str, xs = ys.map D.str ∧ (ys.map (·.length)).sum + ys.length * a.length ≤ 16777216 ∧ P (.sh (.str (Txt.join a ys))) en2
    | some (.tup xs) => ∃ ys : List Str, xs = ys.map D.str ∧ (ys.map (·.length)).sum + ys.length * a.length ≤ 16777216 ∧ P (.sh (.str (Txt.join a ys))) en2
    | _ => False) PX
  | _ => False) PX
theorem te_join (ho : PE X o (tW X.K XW wo)) (he : PE X e (tW X.K XW wa)) (hs : starEach [e] X.env = [(false, eval e X.env)] := by rfl) (hbase : attributeBase o "join" X.env (eval o X.env) = eval o X.env := by rfl) (hline : (apos.endLine == pos.line) = true := by rfl) :
    PE X (.Call (.Attribute o "join" apos) [e] [] pos) (tW X.K XW (wJoin wo wa)) :=
  (pe_join ho he hs hbase hline).weak fun σ H Q h => by
    obtain ⟨as, en, F, P, PX, es, hw, hq, hx⟩ := h
    refine ⟨as, en, F, _, PX, es, hw, fun x H1 ra en1 F1 e1 s1 rra hp => ?_, hx⟩
    split at hp
    · rename_i a
      have ex : x = .str a := by simpa only [RepR, Rep] using rra
      subst ex
      refine ⟨⟨a, rfl⟩, as, en1, F1, _, PX, e1, hp, fun y H2 rb en2 F2 e2 s2 rrb hp2 => ?_, hx.from s1⟩
      split at hp2
      · rename_i xs ev
        obtain ⟨ys, rfl, z, hp2⟩ := hp2
        obtain ⟨l, vs, rfl, hl, hz, rl⟩ := (rrb.sees e2.hs ev).lst
        cases strs_rep rl
        exact ⟨a, l, ys, rfl, rfl, .inl (.inl hl), z, hq _ H2 (.sh (.str _)) en2 F2 e2 (s1.trans s2) (by simp only [RepR, Rep]) hp2⟩
      · rename_i xs ev
        obtain ⟨ys, rfl, z, hp2⟩ := hp2
        obtain ⟨l, vs, rfl, hl, hz, rl⟩ := (rrb.sees e2.hs ev).tup
        cases strs_rep rl
        exact ⟨a, l, ys, rfl, rfl, .inr (.of hl), z, hq _ H2 (.sh (.str _)) en2 F2 e2 (s1.trans s2) (by simp only [RepR, Rep]) hp2⟩
      · exact hp2.elim
    · exact hp.elim

/-! ### xs.append(e), xs.pop(i) at an owned root -/
def wAppend (wo we : WEx) : WEx := fun en P PX => wo en (fun ro en1 => match ro with
  | .ow k => (∃ xs, en1.os[k]? = some (some (.lst xs))) ∧ we en1 (fun re en2 => match re.fz, en2.os[k]? with
    | .sh d, some (some (.lst xs)) => xs.length < sizeLine ∧ P (.sh .non) ⟨en2.ρ, en2.os.set k (some (.lst (xs ++ [d])))⟩
    | _, _ => False) PX
  | _ => False) PX
theorem te_append (ho : PE X o (tW X.K XW wo)) (he : PE X e (tW X.K XW wa)) (hbase : attributeBase o "append" X.env (eval o X.env) = eval o X.env := by rfl)
    (hfew : ((backTo cpos (starEach (e :: []) X.env)).all (fun x => !x.1) && (backToKw cpos (keywordEach [] X.env)).all (fun x => x.1.isSome) && decide ((e :: ([] : List Expr)).length + ([] : List Keyword).length + (if ([] : List Keyword).isEmpty then 0 else 1) < 30)) = true := by rfl)
    (hline : (apos.endLine == cpos.line) = true := by rfl) (hs : starEach (e :: []) X.env = (false, eval e X.env) :: starEach [] X.env := by rfl) (hpl : (backTo cpos (starEach [] X.env)).any (·.1) = false := by rfl) :
    PE X (.Call (.Attribute o "append" apos) [e] [] cpos) (tW X.K XW (wAppend wo wa)) :=
  (pe_bm PySem.F.plainAttrs_list PySem.F.slot_list_append PySem.F.type_list_append mt_append ho (pa_cons he pa_nil hs) hbase hfew hline hs hpl).weak fun σ H Q h => by
    obtain ⟨as, en, F, P, PX, es, hw, hq, hx⟩ := h
    refine ⟨as, en, F, _, PX, es, hw, fun x H1 ra en1 F1 e1 s1 rra hp => ?_, hx⟩
    split at hp
    · rename_i k
      obtain ⟨⟨xs, hk⟩, hp⟩ := hp
      obtain ⟨a, ha, rfl⟩ := rra
      obtain ⟨a', ha', ⟨vs, hH, _, _⟩, _⟩ := e1.hs.own k _ hk
      rw [ha] at ha'; cases ha'
      refine ⟨.inl ⟨rfl, vs, .inl (.inl hH)⟩, as, en1, F1, _, PX, e1, hp, fun y H2 rb en2 F2 e2 s2 rrb hp2 => ?_, hx.from s1⟩
      obtain ⟨G2, g2, u2, pb, _⟩ := wait e1 e2 Step.refl s2 rrb
      split at hp2
      · rename_i d xs2 er hk2
        obtain ⟨hl, hp2⟩ := hp2
        rw [er] at pb
        obtain ⟨a3, ha3, ⟨vs2, hH2, z2, rl2⟩, nF⟩ := g2.hs.own k _ hk2
        rw [ha] at ha3; cases ha3
        refine ⟨a, vs2, y, rfl, rfl, hH2, by rw [rl2.length]; exact hl, ?_⟩
        have m : ∀ {o : HO}, Mon G2 H2 G2 (upd H2 a o) := fun {o} => mon_priv nF (fun vs => by rw [hH2]; exact fun z => nomatch z)
        refine hq .non _ (.sh .non) _ G2 (g2.put (d' := .lst (xs2 ++ [d])) hk2 ha ⟨vs2 ++ [y], upd_same, ?_, RepL.mono m _ _ (rl2.append (RepL.cons pb RepL.nil))⟩) ((s1.trans u2).put hk2 ha) (by simp only [RepR, Rep]) hp2
        rw [List.length_append, rl2.length]
        exact hl
      · exact hp2.elim
    · exact hp.elim
def wPop (wo we : WEx) : WEx := fun en P PX => wo en (fun ro en1 => match ro with
  | .ow k => (∃ xs, en1.os[k]? = some (some (.lst xs))) ∧ we en1 (fun re en2 => match re, en2.os[k]? with
    | .sh (.int i), some (some (.lst xs)) => 0 ≤ i ∧ ∃ d, xs[i.toNat]? = some d ∧ P (.sh d) ⟨en2.ρ, en2.os.set k (some (.lst (xs.eraseIdx i.toNat)))⟩
    | _, _ => False) PX
  | _ => False) PX
theorem RepL.erase {K : PySem.W.Frag} {F : Addr → Prop} {H : Hp} : ∀ {ds : List D} {vs : List V} (j : Nat), RepL K F H ds vs → RepL K F H (ds.eraseIdx j) (vs.eraseIdx j)
  | [], vs, j, h => by simp only [RepL] at h; subst h; simp [RepL]
  | e :: ds, vs, 0, h => by
    simp only [RepL] at h
    obtain ⟨w, ws, rfl, _, q⟩ := h
    exact q
  | e :: ds, vs, j + 1, h => by
    simp only [RepL] at h
    obtain ⟨w, ws, rfl, r1, q⟩ := h
    exact RepL.cons r1 (RepL.erase j q)
theorem seqIndex_nat {i : Int} {n : Nat} (h0 : 0 ≤ i) (h : i.toNat < n) : seqIndex? i n = some i.toNat := by
  unfold seqIndex?
  have h1 : ¬ i < 0 := by omega
  have h2 : i < (n : Int) := by omega
  simp [h1, h0, h2]
theorem te_popAt (ho : PE X o (tW X.K XW wo)) (he : PE X e (tW X.K XW wa)) (hbase : attributeBase o "pop" X.env (eval o X.env) = eval o X.env := by rfl)
    (hfew : ((backTo cpos (starEach (e :: []) X.env)).all (fun x => !x.1) && (backToKw cpos (keywordEach [] X.env)).all (fun x => x.1.isSome) && decide ((e :: ([] : List Expr)).length + ([] : List Keyword).length + (if ([] : List Keyword).isEmpty then 0 else 1) < 30)) = true := by rfl)
    (hline : (apos.endLine == cpos.line) = true := by rfl) (hs : starEach (e :: []) X.env = (false, eval e X.env) :: starEach [] X.env := by rfl) (hpl : (backTo cpos (starEach [] X.env)).any (·.1) = false := by rfl) :
    PE X (.Call (.Attribute o "pop" apos) [e] [] cpos) (tW X.K XW (wPop wo wa)) :=
  (pe_bm PySem.F.plainAttrs_list PySem.F.slot_list_pop PySem.F.type_list_pop mt_popAt ho (pa_cons he pa_nil hs) hbase hfew hline hs hpl).weak fun σ H Q h => by
    obtain ⟨as, en, F, P, PX, es, hw, hq, hx⟩ := h
    refine ⟨as, en, F, _, PX, es, hw, fun x H1 ra en1 F1 e1 s1 rra hp => ?_, hx⟩
    split at hp
    · rename_i k
      obtain ⟨⟨xs, hk⟩, hp⟩ := hp
      obtain ⟨a, ha, rfl⟩ := rra
      obtain ⟨a', ha', ⟨vs, hH, _, _⟩, _⟩ := e1.hs.own k _ hk
      rw [ha] at ha'; cases ha'
      refine ⟨.inl ⟨rfl, vs, .inl (.inl hH)⟩, as, en1, F1, _, PX, e1, hp, fun y H2 rb en2 F2 e2 s2 rrb hp2 => ?_, hx.from s1⟩
      split at hp2
      · rename_i i xs2 hk2
        have ey : y = .int i := by simpa only [RepR, Rep] using rrb
        subst ey
        obtain ⟨h0, d, hd, hp2⟩ := hp2
        obtain ⟨a3, ha3, ⟨vs2, hH2, z2, rl2⟩, nF⟩ := e2.hs.own k _ hk2
        rw [ha] at ha3; cases ha3
        obtain ⟨v, hv, rv⟩ := rl2.get hd
        have hlt : i.toNat < vs2.length := (List.getElem?_eq_some_iff.mp hv).1
        have hbig : vs2.length < 2 ^ 62 := by
          have := z2
          rw [sizeLine_eq] at this
          omega
        refine ⟨a, vs2, i, i.toNat, v, rfl, rfl, hH2, by omega, by omega, seqIndex_nat h0 hlt, hv, ?_⟩
        have m : ∀ {o : HO}, Mon F2 H2 F2 (upd H2 a o) := fun {o} => mon_priv nF (fun vs => by rw [hH2]; exact fun z => nomatch z)
        refine hq v _ (.sh d) _ F2 (e2.put (d' := .lst (xs2.eraseIdx i.toNat)) hk2 ha ⟨vs2.eraseIdx i.toNat, upd_same, ?_, RepL.mono m _ _ (rl2.erase _)⟩) ((s1.trans s2).put hk2 ha) (Rep.mono m _ _ rv) hp2
        rw [List.length_eraseIdx]
        split <;> omega
      · exact hp2.elim
    · exact hp.elim

/-! ### dict(pairs) -/
def pairD (kv : Key × D) : D := .tup [kD kv.1, kv.2]
def mergeD (kvs : List (Key × D)) : List (Key × D) := kvs.foldl (fun acc kv => putKD acc kv.1 kv.2) []
theorem RepK.foldPut {K : PySem.W.Frag} {F : Addr → Prop} {H : Hp} : ∀ {kvs : List (Key × D)} {ks : List (Key × V)} {acc : List (Key × D)} {aks : List (Key × V)}, RepK K F H acc aks → RepK K F H kvs ks → RepK K F H (kvs.foldl (fun acc kv => putKD acc kv.1 kv.2) acc) (mergeK aks ks)
  | [], ks, acc, aks, h, q => by simp only [RepK] at q; subst q; exact h
  | (k, d) :: kvs, ks, acc, aks, h, q => by
    simp only [RepK] at q
    obtain ⟨w, ws, rfl, r, q⟩ := q
    exact RepK.foldPut (acc := putKD acc k d) (aks := putK aks k w) (h.put r) q
theorem kD_val {K : PySem.W.Frag} {F : Addr → Prop} {H : Hp} : ∀ {k : Key} {v : V}, Rep K F H (kD k) v → v = kV k
  | .inl i, v, h => by simp only [kD, Rep] at h; subst h; rfl
  | .inr i, v, h => by simp only [kD, Rep] at h; subst h; rfl
theorem pairs_rep {K : PySem.W.Frag} {F : Addr → Prop} {H : Hp} : ∀ {kvs : List (Key × D)} {vs : List V}, RepL K F H (kvs.map pairD) vs → ∃ (ps : List Addr) (ks : List (Key × V)), vs = ps.map V.ref ∧ RepK K F H kvs ks ∧ Paired (fun p kv => SqT K H p [kV kv.1, kv.2]) ps ks
  | [], vs, h => by
    simp only [List.map_nil, RepL] at h; subst h
    exact ⟨[], [], rfl, by simp only [RepK], .nil⟩
  | (k, d) :: kvs, vs, h => by
    simp only [List.map_cons, RepL] at h
    obtain ⟨v, ws, rfl, r, q⟩ := h
    obtain ⟨ps, ks, rfl, r2, q2⟩ := pairs_rep q
    simp only [pairD, Rep, RepL] at r
    obtain ⟨p, us, rfl, hp, _, v1, us1, rfl, r1, v2, us2, rfl, r3, rfl⟩ := r
    cases kD_val r1
    refine ⟨p :: ps, (k, v2) :: ks, rfl, ?_, .cons (.of hp) q2⟩
    simp only [RepK]
    exact ⟨v2, ks, rfl, r3, r2⟩
def fDictP : D → (R → Prop) → Prop := fun d P => match d with
  | .lst xs => ∃ kvs : List (Key × D), xs = kvs.map pairD ∧ P (.fr (.dk (mergeD kvs)))
  | _ => False
theorem te_dictP {x : Str} (hx : x = "dict") (hc : X.calm = true) (hg : Gl X x) (hm : X.mg x = none) (ha : PA X (e :: es) (tWA X.K XW ws)) (he : starEach (e :: es) X.env = (false, eval e X.env) :: starEach es X.env := by rfl) (hpl : (backTo pos (starEach es X.env)).any (·.1) = false := by rfl) :
    PE X (.Call (.Name x p) (e :: es) [] pos) (tW X.K XW (wF (o1 fDictP) ws)) := by
  subst hx
  refine te_fnT (call_dictP hc) (fun σ H Q vs h => ?_) hg hm PyProof.Rows.boot_dict ha (by decide) (by decide) he hpl
  obtain ⟨as, os0, F0, H0, en, F, v, d, P, rfl, es, st, sv, hf, hq⟩ := o1_inv h
  cases d with
  | lst xs =>
    obtain ⟨kvs, rfl, hf⟩ := hf
    obtain ⟨l, vs, rfl, hl, hz, rl⟩ := sv.lst
    obtain ⟨ps, ks, rfl, rk, pr⟩ := pairs_rep rl
    refine ⟨l, ps, ks, rfl, .inl hl, pr, fun p hp => ?_⟩
    have rm := RepK.foldPut (acc := []) (aks := []) (by simp only [RepK]) rk
    obtain ⟨q1, q2, q3⟩ := new_fr (d := .dk (mergeD kvs)) es st hp ⟨mergeK [] ks, upd_same, RepK.mono (mon_upd hp) _ _ rm⟩
    exact hq _ _ _ _ q1 q2 q3 hf
  | _ => exact hf.elim

/-! ### f(k = v, ..): keywords alone -/
def PA0 (X : Cx) (kws : List Keyword) (t : TA) : Prop := PK X kws t
theorem PK.weak {kws : List Keyword} {t t' : TA} (h : PK X kws t) (f : ∀ σ H Q, t' σ H Q → t σ H Q) : PK X kws t' := ⟨fun pos pins s σ H Q I q => h.run pos pins s σ H Q I (f σ H Q q)⟩
theorem tk_nil : PK X [] (tWA X.K XW wNil) := PK.weak pk_nil fun σ H Q h => by
  obtain ⟨as, en, F, P, PX, es, hw, hq, hx⟩ := h
  exact hq [] H [] en F es Step.refl .nil hw
theorem tCons_of {K : PySem.W.Frag} {σ : St} {H : Hp} {Q : List V → Hp → Prop} (h : tWA K XW (wCons wa ws) σ H Q) : tCons (tW K XW wa) (tWA K XW ws) σ H Q := by
  obtain ⟨as, en, F, P, PX, es, hw, hq, hx⟩ := h
  refine ⟨as, en, F, _, PX, es, hw, fun v H1 r en1 F1 e1 s1 rr hp => ?_, hx⟩
  obtain ⟨F2, e2, s2, r2, m2⟩ := wait es e1 Step.refl s1 rr
  refine ⟨as, en1, F2, _, PX, e2, hp, fun vs H3 rs en3 F3 e3 s3 pr hp3 => ?_, hx.from s2⟩
  exact hq (v :: vs) H3 (r.fz :: rs) en3 F3 e3 (s2.trans s3) (.cons (r2.step s3 e2.hs) pr) hp3
theorem tk_cons {nm : Option Str} {kpos : Pos} {kws : List Keyword} (ha : PE X e (tW X.K XW wa)) (hr : PK X kws (tWA X.K XW ws)) : PK X (⟨nm, e, kpos⟩ :: kws) (tWA X.K XW (wCons wa ws)) :=
  PK.weak (pk_cons ha hr) fun σ H Q h => tCons_of h
end
end L2.TL

/-! text TL23 -/
set_option Elab.async false
set_option linter.all false
set_option maxRecDepth 100000
set_option maxHeartbeats 2000000
namespace L2.TL
open PySem PySem.Spec PyProof.Rows

/-! ### a def that is only called where no repr goes on -/
structure FnG (P : Program) (w : World) (K : PySem.W.Frag) (mg : Str → Option Value) (base : Heap) (k : Nat) (f : Addr) (fd : FuncData) (ps : List Str) (sp : Sp) : Prop where
  go : ∀ (A : Around) (outer : List Env) (s : Shared) (H : Hp) (args : Args) (us : List Value) (vs : List V) (Q : VK) (E : XK), A.guards = some [] → Room k A → Env0 P w K mg base A outer s H → BindsTo s fd args (ps.zip us) → Vals vs us → sp vs H Q E →
    codeAny (model P w) A (.call (.ref f) args) (CR (L2.CX P w) outer P w H s Q E) s
section
variable {P : Program} {wd : World} {K : PySem.W.Frag} {mg : Str → Option Value} {base : Heap}
theorem fn_g {x qual : Str} {st : Stmt} {f : Addr} {fd : FuncData} {N ps : List Str} {k : Nat} {sp : Sp} (Fu : Fun K x qual st f fd) (S : FnScope N ps (defScope st)) (ln : ∀ vs H Q E, sp vs H Q E → vs.length = ps.length)
    (hb : ∀ (cdv : Value) (A : Around) (outer : List Env) (s : Shared) (H : Hp) (vs : List V) (Q : VK) (E : XK), A.guards = some [] → Room k (A.deeper (envOfC qual (defScope st) s.heap.objs.size f cdv)) → sp vs H Q E →
      ∃ t, PSs (cxOf (L2.CX P wd) P wd K mg base N qual (defScope st) f cdv A outer s H E) (defBody st) t ∧ t { nx := fun _ H' => Q .non H', rt := Q } (L2.start N vs) H) : FnG P wd K mg base (k + 1) f fd ps sp := by
  obtain ⟨oc, od, kV, doc, pm, an, cdv, ct, osl, rfl, lk, code⟩ := Fu.ex
  refine ⟨fun A outer s H args us vs Q E hG room env bd rv hsp => ?_⟩
  have held : ∀ b o, base.get? b = some o → s.heap.get? b = some o := fun b o e => (env.bs b o e).1
  have inK := env.mod.kin.keeps held
  have kinds : ∀ z ∈ ps.zip us, (defScope st).names.lookup z.1 = some .local ∨ ((defScope st).names.lookup z.1 = some .cell ∧ ((cellsFrom (s.heap.objs.size + 1) (defScope st).names []).lookup z.1).isSome = true) := by
    intro z hz
    refine (S.par z.1 (List.of_mem_zip hz).1).imp id fun q => ⟨q, ?_⟩
    exact PySem.W.cellsFrom_some _ _ _ (.inl q)
  refine codeAny_call_function room.depth (inK _ _ lk) rfl S.co S.gen rfl (PySem.W.codeRec_of inK code) (bd _ _ _ _ ?_)
  refine wpAny_newFunctionEnv_cells S.kind kinds fun env' ee s1 made => ?_
  subst ee
  refine ⟨(env.mod.nolimit.keeps held).keeps made.toInCall.keep, codeAny_func ?_⟩
  obtain ⟨t, walk, fits⟩ := hb cdv A outer s H vs Q E hG (room.deeper _) hsp
  have I0 := inv_start (CX := L2.CX P wd) S room.hd env (ln _ _ _ _ hsp) rv made (N := N) (E := E)
  refine wpAny_mono (walk.run [] s1 _ H _ I0 fits) (fun fl s2 out => ?_) fun _ _ out => out
  rcases fl with _ | _ | _ | u
  all_goals first
    | exact (out.choose_spec.choose_spec.2).elim
    | skip
  · obtain ⟨σ2, H2, J, q⟩ := out
    exact ⟨.non, H2, J.os, J.bare, J.base, J.hok, rfl, q⟩
  · obtain ⟨v, σ2, H2, J, r2, q⟩ := out
    exact ⟨v, H2, J.os, J.bare, J.base, J.hok, r2, q⟩
end

/-! ### the law's own call -/
/-- the heap in which the script is told: as an object of the written part, or as a list of its own -/
theorem script_heap {P : Program} {w : World} {K : PySem.W.Frag} {h : Heap} {a : Addr} {vs : List Value} {ns : List Int} (KX : K.In h) (ha : h.get? a = some { cls := .type "list", data := .seq vs.toArray }) (hi : IntsAre vs ns) (hl : ns.length ≤ sizeLine) :
    ∃ G : Hp, SqL K G a (ns.map V.int) ∧ HOk P w G h ∧ (∀ b u, G b = some u → b = a ∧ K.lookup a = none ∧ u = .frz { cls := .type "list", data := .seq vs.toArray } (.lst (ns.map V.int))) := by
  by_cases hk : ∃ o, K.lookup a = some o
  · obtain ⟨o, hk⟩ := hk
    have eo := (KX a o hk).symm.trans ha
    cases eo
    refine ⟨fun _ => none, .inr ⟨_, vs.toArray, _, hk, rfl, rfl, rfl, ?_, ?_⟩, fun b u z => (nomatch z), fun b u z => (nomatch z)⟩
    · rw [List.size_toArray, hi.length]; exact hl
    · simpa using vals_ints hi
  · have hn : K.lookup a = none := by
      cases e : K.lookup a with
      | none => rfl
      | some o => exact absurd ⟨o, e⟩ hk
    refine ⟨fun b => if b = a then some (.frz { cls := .type "list", data := .seq vs.toArray } (.lst (ns.map V.int))) else none, .inl (.inr ⟨_, if_pos rfl⟩), fun b u z => ?_, fun b u z => ?_⟩
    all_goals
      by_cases hb : b = a
      · subst hb
        simp only [if_true] at z
        cases z
        first
          | exact ⟨ha, by rw [List.length_map]; exact hl, vs, _, vals_ints hi, ha⟩
          | exact ⟨rfl, hn, rfl⟩
      · simp only [if_neg hb] at z
        cases z
theorem top_call {P : Program} {w : World} {K : PySem.W.Frag} {mg mb : Str → Option Value} {k : Nat} {fa a : Addr} {fd : FuncData} {x : Str} {sp : Sp} {s1 : Shared} {vs : List Value} {ns : List Int}
    (KX : K.In s1.heap) (g1 : s1.heap.Ns mainGlobals mg) (g2 : s1.heap.Ns builtinsNs mb) (g3 : ∀ x : Str, x ≠ "__name__" → mb x = bootBuiltins x) (g4 : s1.heap.NoLimit) (g5 : s1.gens = #[])
    (ha : s1.heap.get? a = some { cls := .type "list", data := .seq vs.toArray }) (hi : IntsAre vs ns) (hl : ns.length ≤ sizeLine) (hr : Room k callerA)
    (F : ∀ base : Heap, K.In base → base.Ns mainGlobals mg → FnG P w K mg base k fa fd [x] sp) (bd : ∀ (s : Shared) (u : Value), BindsTo s fd ⟨[u], []⟩ [(x, u)])
    (hsp : ∀ H : Hp, SqL K H a (ns.map V.int) → (∀ b u, H b = some u → b = a) → sp [.ref a] H (fun v _ => v = .bl true) fun _ _ _ => False) :
    codeAny (model P w) callerA (.call (.ref fa) ⟨[.ref a], []⟩) (fun r s' => r = .ok (.ret (.bool true)) ∧ OldK s1.heap s'.heap ∧ s'.os = s1.os ∧ AllBare s'.gens) s1 := by
  obtain ⟨G, hS, hok, hG⟩ := script_heap (P := P) (w := w) KX ha hi hl
  have hide : ∀ {b : Addr} {o : Obj}, s1.heap.get? b = some o → (b = a → K.lookup a ≠ none) → (hidT s1.heap G).get? b = some o := fun {b o} e n => hidT_get e (by
    cases z : G b with
    | none => rfl
    | some u =>
      obtain ⟨z1, z2, _⟩ := hG b u z
      exact absurd z2 (n z1))
  have nsI : ∀ {b : Addr} {m : Str → Option Value}, s1.heap.Ns b m → (hidT s1.heap G).Ns b m := by
    rintro b m ⟨o, es, ep, e, d, r⟩
    refine ⟨o, es, ep, hide e fun z => ?_, d, r⟩
    subst z
    rw [ha] at e
    cases e
    cases d
  have inK : K.In (hidT s1.heap G) := fun b o e => hide (KX b o e) fun z q => by
    subst z
    rw [e] at q; cases q
  have hM : Mod K mg (hidT s1.heap G) := ⟨inK, nsI g1, ⟨mb, nsI g2, g3⟩, g4.imp fun mc q => ⟨nsI q.1, q.2⟩⟩
  have env : Env0 P w K mg (hidT s1.heap G) callerA [] s1 G :=
    ⟨rfl, hM, (fun b o e => of_hidT e), (Nat.le_of_eq (hidT_size _ _)), trivial, (fun b hb => nomatch hb), hok, (.of_eq g5)⟩
  have run := (F _ inK (nsI g1)).go callerA [] s1 G ⟨[.ref a], []⟩ [.ref a] [.ref a] _ _ rfl hr env (bd s1 (.ref a)) (.cons rfl .nil) (hsp G hS fun b u z => (hG b u z).1)
  refine codeAny_mono run fun r s2 out => ?_
  match r, out with
  | .ok (.ret u), out =>
    obtain ⟨v, H2, os2, bare2, un2, hok2, ru, rfl⟩ := out
    obtain rfl : u = Value.bool true := ru
    refine ⟨rfl, OldK.of_keep fun b o e => ?_, os2, bare2⟩
    cases z : G b with
    | none => exact un2.keep b o e z (fun q => nomatch q) (by simp)
    | some u =>
      obtain ⟨_, _, rfl⟩ := hG b u z
      have e1 := (hok b _ z).1
      have e2 := (hok2 b _ (un2.frzs b _ _ z)).1
      rw [e] at e1
      cases e1
      exact e2
  | .ok .next, out => exact out.elim
  | .ok .brk, out => exact out.elim
  | .ok .cont, out => exact out.elim
  | .error e, out => exact absurd out fun ⟨_, _, _, _, _, _, _, _, _, _, _, _, z⟩ => z
theorem walk_g {l : PySem.W.OpenLaw} {n k : Nat} {q : Program} {loose : List Str} {XP : (Str → Option Value) → Heap → Prop} {YP : World → Heap → Prop} {d : DefRec} {K : Params → PySem.W.Frag} {sp : PySem.W.Frag → Sp} {x : Str}
    (hn : l.most = some n) (hz : n ≤ sizeLine) (hdf : d.params.defaults = []) (hr : Room k callerA) (hY : ∀ (w : World) (h : Heap), YP w h → (K w.params).In h)
    (F : ∀ (w : World) (mg : Str → Option Value) (fa : Addr) (h : Heap), (K w.params).In h → h.Ns mainGlobals mg → mg d.name = some (.ref fa) →
      ∃ fd : FuncData, (∀ (s : Shared) (u : Value), BindsTo s fd ⟨[u], []⟩ [(x, u)]) ∧ ∀ base : Heap, (K w.params).In base → base.Ns mainGlobals mg → FnG l.prog w (K w.params) mg base k fa fd [x] (sp (K w.params)))
    (hsp : ∀ (K : PySem.W.Frag) (H : Hp) (a : Addr) (ns : List Int), ns.length ≤ n → SqL K H a (ns.map V.int) → sp K [.ref a] H (fun v _ => v = .bl true) fun _ _ _ => False) :
    PySem.W.WalkO q loose XP YP l.row.toRowW d [] (fun f vs => PySem.call f vs) :=
  Att.attach_call hn hdf fun w s0 s1 mg mb fa o pm cd doc a vs ns G Y ho hd hcd hmg hobj hints hlen hg => by
    obtain ⟨fd, bd, hF⟩ := F w mg fa _ (hY w _ Y) G.T.g hmg
    exact top_call (hY w _ Y) G.T.g G.T.b G.T.builtins G.T.nolimit hg hobj hints (Nat.le_trans hlen hz) hr hF bd fun H hS _ => hsp _ H a ns hlen hS

/-! ### repr(x) where no repr goes on -/
mutual
theorem noDict : ∀ d : PyData, d.canLay0 = true → d.hasDict = false
  | .none, _ => by simp only [PyData.hasDict]
  | .bool _, _ => by simp only [PyData.hasDict]
  | .int _, _ => by simp only [PyData.hasDict]
  | .str _, _ => by simp only [PyData.hasDict]
  | .list xs, h => by simp only [PyData.canLay0] at h; simp only [PyData.hasDict]; exact noDictAll xs h
  | .tuple xs, h => by simp only [PyData.canLay0] at h; simp only [PyData.hasDict]; exact noDictAll xs h
  | .dict _, h => by simp only [PyData.canLay0] at h; cases h
theorem noDictAll : ∀ ds : List PyData, PyData.canLayAll0 ds = true → PyData.hasDictAll ds = false
  | [], _ => by simp only [PyData.hasDictAll]
  | d :: ds, h => by
    simp only [PyData.canLayAll0, Bool.and_eq_true] at h
    simp only [PyData.hasDictAll, noDict d h.1, noDictAll ds h.2, Bool.or_self]
end
structure ReprOk (d : D) : Prop where
  seq : (∃ xs, d = .lst xs) ∨ ∃ xs, d = .tup xs
  lay : (toPy d).canLay0 = true
  shw : (toPy d).showable = true
  dep : (toPy d).depth ≤ 64
  len : (toPy d).shown.length ≤ sizeLine
def fRepr : D → (R → Prop) → Prop := fun d P => ReprOk d ∧ P (.sh (.str (toPy d).shown))
section
variable {X : Cx} {XW : WX} {pos p apos tpos cpos : Pos} {e : Expr} {es : List Expr} {ws : WAx}
theorem call_reprD (hG : X.A.guards = some []) (hu : X.A.units + 100 < cLine) : CallR X (.builtin "repr") (fun xs H Q => ∃ a d, xs = [V.ref a] ∧ Dp X.K H (.ref a) d ∧ d.canLay0 = true ∧ d.showable = true ∧ d.depth ≤ 64 ∧ d.shown.length ≤ sizeLine ∧ Q (.str d.shown) H) := by
  intro pins s σ H xs us Q I r h
  obtain ⟨a, d, rfl, hd, h1, h2, h3, h4, q⟩ := h
  obtain ⟨u, rfl, ru⟩ := vals1 r
  obtain ⟨as, rd⟩ := Dp.reads I d _ u hd ru
  obtain rfl : u = Value.ref a := ru
  refine repr_of_reads' rd h2 (fun e => ?_) hG (by omega) (fun _ _ e => e) (fun h' u tk keep => ⟨.str d.shown, H, I.kept keep, ⟨_, rfl⟩, q⟩) h4
  rw [noDict d h1] at e; cases e
theorem te_repr {k : Nat} {x : Str} (hx : x = "repr") (hG : X.A.guards = some []) (hr : Room k X.A) (hg : Gl X x) (hm : X.mg x = none) (ha : PA X (e :: es) (tWA X.K XW ws)) (he : starEach (e :: es) X.env = (false, eval e X.env) :: starEach es X.env := by rfl) (hpl : (backTo pos (starEach es X.env)).any (·.1) = false := by rfl) :
    PE X (.Call (.Name x p) (e :: es) [] pos) (tW X.K XW (wF (o1 fRepr) ws)) := by
  subst hx
  refine te_fn (call_reprD hG (by have := hr.un; omega)) (fun σ H Q vs h => ?_) hg hm PyProof.Rows.boot_repr ha (by decide) (by decide) he hpl
  obtain ⟨as, os0, F0, H0, en, F, v, d, P, rfl, es, st, sv, hf, hq⟩ := o1_inv h
  obtain ⟨ok, hf⟩ := hf
  have dp := sv.dp ok.lay
  have hv : ∃ a, v = V.ref a := by
    rcases ok.seq with ⟨xs, rfl⟩ | ⟨xs, rfl⟩
    · obtain ⟨l, _, e, _⟩ := sv.lst; exact ⟨l, e⟩
    · obtain ⟨l, _, e, _⟩ := sv.tup; exact ⟨l, e⟩
  obtain ⟨a, rfl⟩ := hv
  exact ⟨a, _, rfl, dp, ok.lay, ok.shw, ok.dep, ok.len, hq _ H (.sh (.str _)) F es st (by simp only [RepR, Rep]) hf⟩
end
end L2.TL

/-! text TL24 -/
set_option Elab.async false
set_option linter.all false
set_option maxRecDepth 100000
set_option maxHeartbeats 2000000
namespace L2.TL
open PySem PySem.Spec PyProof.Rows
section
variable {X : Cx} {XW : WX} {pos pos' p apos tpos cpos : Pos} {a b c e e2 f i o tg iter elt kx vx value : Expr} {es ifs elts : List Expr} {kk : Nat} {wa wb wc wo wd wy wx wv : WEx} {ua ub : WBx} {ws : WAx} {body : List Stmt} {w v : WSx} {wi : WIx} {t : TGx} {E : XK}

/-! ### sorted of a tuple, too -/
theorem call_sortTup (hu : X.A.units + 64 < cLine) : CallR X (.builtin "sorted") (fun xs H Q => ∃ (a : Addr) (bs : List (D × V)), xs = [V.ref a] ∧ SqT X.K H a (bs.map (·.2)) ∧ SortOk (bs.map (·.1)) ∧ Prs2 X.K H bs ∧ ∀ p, H p = none → Q (.ref p) (upd H p (.lst (sortV bs)))) := by
  intro pins s σ H xs us Q I r h
  obtain ⟨a, bs, rfl, hs, ok, pr, q⟩ := h
  rw [Vals.ref1 r]
  obtain ⟨its, rv, ⟨o, ho, hc, n, hd⟩, hz⟩ := I.tuple hs
  refine Calls.call_function_entry PyProof.Rows.kind_sorted PyProof.Rows.plain_sorted PyProof.Rows.entry_sorted (PyProof.Rows.args_sorted1 _) ?_
  unfold Builtin.«sorted»
  refine wpAny_bind (m := checkCount "sorted" 1 1 _) (wpAny_pure ?_)
  have hz' : its.toArray.size ≤ sizeLine := by
    rw [List.size_toArray, ← rv.length]; exact hz
  refine wpAny_bind (PySem.wpAny_collect_seq (A := X.A.in1) a (.inr rfl) ho hc hd (fun h' hk => ?_) hz')
  have I1 : Inv X pins σ H { s with heap := h' } := I.kept (t' := s.toks) hk
  refine wpAny_bind (wpAny_newList ?_ (by simpa using hz'))
  refine wpAny_bind (wpAny_holding (wpAny_mono (sort_tail I1 hu ok pr (us := its.toArray.toList) (by simpa using rv) q) (fun v s' x => ?_) fun _ _ x => x))
  exact wpAny_pure ⟨_, rfl, x⟩
def fSortA : D → (R → Prop) → Prop := fun d P => match d with
  | .tup xs => SortOk xs ∧ P (.fr (.lst (sortD xs)))
  | d => fSort d P
theorem te_sortedA {k : Nat} {x : Str} (hx : x = "sorted") (hr : Room k X.A) (hc : X.calm = true) (hg : Gl X x) (hm : X.mg x = none) (ha : PA X (e :: es) (tWA X.K XW ws)) (he : starEach (e :: es) X.env = (false, eval e X.env) :: starEach es X.env := by rfl) (hpl : (backTo pos (starEach es X.env)).any (·.1) = false := by rfl) :
    PE X (.Call (.Name x p) (e :: es) [] pos) (tW X.K XW (wF (o1 fSortA) ws)) := by
  subst hx
  refine te_fn ((call_sortL hr.units).or ((call_sortK hc hr.units).or ((call_sortT hc hr.units).or (call_sortTup hr.units)))) (fun σ H Q vs h => ?_) hg hm PyProof.Rows.boot_sorted ha (by decide) (by decide) he hpl
  obtain ⟨as, os0, F0, H0, en, F, v, d, P, rfl, es, st, sv, hf, hq⟩ := o1_inv h
  have fin : ∀ (bs : List (D × V)) (ds : List D), bs.map (·.1) = ds → SortOk ds → (∀ b ∈ bs, Rep X.K F H b.1 b.2) → P (.fr (.lst (sortD ds))) → ∀ p, H p = none → Q (.ref p) (upd H p (.lst (sortV bs))) := fun bs ds e ok hb hp p h0 => by
    subst e
    have r2 := repL_of_mem (bs := bs.mergeSort (PySem.W.dataLe false fun b => toPy b.1)) fun b hm => hb b (List.mem_mergeSort.mp hm)
    rw [sort_map] at r2
    obtain ⟨q1, q2, q3⟩ := new_lst es st h0 (by rw [List.length_map, List.length_mergeSort]; have := ok.sz; rwa [List.length_map] at this) r2
    exact hq _ _ _ _ q1 q2 q3 hp
  cases d with
  | tup xs =>
    obtain ⟨l, vs, rfl, hl, hz, rl⟩ := sv.tup
    have e1 : (xs.zip vs).map (·.1) = xs := List.map_fst_zip (by rw [rl.length]; exact Nat.le_refl _)
    have e2 : (xs.zip vs).map (·.2) = vs := List.map_snd_zip (by rw [rl.length]; exact Nat.le_refl _)
    exact .inr (.inr (.inr ⟨l, xs.zip vs, rfl, by rw [e2]; exact .of hl, by rw [e1]; exact hf.1, fun b hb => Rep.dp _ _ (mem_of_repL rl b hb) (hf.1.lay _ (by rw [← e1]; exact List.mem_map.mpr ⟨b, hb, rfl⟩)), fin _ _ e1 hf.1 (mem_of_repL rl) hf.2⟩))
  | lst xs =>
    obtain ⟨l, vs, rfl, hl, hz, rl⟩ := sv.lst
    have e1 : (xs.zip vs).map (·.1) = xs := List.map_fst_zip (by rw [rl.length]; exact Nat.le_refl _)
    have e2 : (xs.zip vs).map (·.2) = vs := List.map_snd_zip (by rw [rl.length]; exact Nat.le_refl _)
    exact .inl ⟨l, xs.zip vs, rfl, .inl (by rw [e2]; exact hl), by rw [e1]; exact hf.1, fun b hb => Rep.dp _ _ (mem_of_repL rl b hb) (hf.1.lay _ (by rw [← e1]; exact List.mem_map.mpr ⟨b, hb, rfl⟩)), fin _ _ e1 hf.1 (mem_of_repL rl) hf.2⟩
  | dk kvs =>
    obtain ⟨l, ks, rfl, hl, rl⟩ := sv.dk
    have ek : (ks.map fun kv => kD kv.1) = kvs.map fun kv => kD kv.1 := by
      have := congrArg (List.map kD) rl.keys
      rw [List.map_map, List.map_map] at this
      exact this
    refine .inr (.inl ⟨l, ks, rfl, hl, by rw [ek]; exact hf.1, fin _ _ (by rw [← ek, List.map_map]; rfl) hf.1 (fun b hb => ?_) hf.2⟩)
    obtain ⟨kv, _, rfl⟩ := List.mem_map.mp hb
    exact kD_rep kv.1
  | dt kvs =>
    obtain ⟨l, ks, rfl, hl, rl⟩ := sv.dt
    have ek : (ks.map fun kv => D.tup (kv.1.map kD)) = kvs.map keyT := by
      have := congrArg (List.map fun k => D.tup (List.map kD k)) rl.keys
      rw [List.map_map, List.map_map] at this
      exact this
    refine .inr (.inr (.inl ⟨l, ks, rfl, hl, by rw [ek]; exact hf.1, fun p bs h0 eb hb => fin bs _ (eb.trans ek) hf.1 (fun b hm => ?_) hf.2 p h0⟩))
    obtain ⟨k, a, e3, e4, e5, e6⟩ := hb b hm
    rw [e3, e4]
    simp only [Rep]
    exact ⟨a, _, rfl, e5, by rw [List.length_map]; exact e6, kDs_rep k⟩
  | _ => exact hf.elim

/-! ### keyword calls: keywords alone, told in an order of their own -/
def permL {α : Type} (ix : List Nat) (l : List α) : List α := ix.filterMap fun i => l[i]?
theorem Paired.getN {α β : Type} {R : α → β → Prop} : ∀ {xs : List α} {ys : List β} (i : Nat), Paired R xs ys → (xs[i]? = none ∧ ys[i]? = none) ∨ ∃ x y, xs[i]? = some x ∧ ys[i]? = some y ∧ R x y
  | _, _, i, .nil => .inl ⟨rfl, rfl⟩
  | _, _, 0, .cons r _ => .inr ⟨_, _, rfl, rfl, r⟩
  | _, _, i + 1, .cons _ t => by simpa using Paired.getN i t
theorem Paired.permL {α β : Type} {R : α → β → Prop} {xs : List α} {ys : List β} (h : Paired R xs ys) : ∀ ix : List Nat, Paired R (TL.permL ix xs) (TL.permL ix ys)
  | [] => .nil
  | i :: ix => by
    have ih := Paired.permL h ix
    unfold TL.permL at ih ⊢
    rw [List.filterMap_cons, List.filterMap_cons]
    rcases Paired.getN i h with ⟨e1, e2⟩ | ⟨x, y, e1, e2, r⟩
    · rw [e1, e2]; exact ih
    · rw [e1, e2]; exact .cons r ih
/-- a def of the module, called with keywords alone: ks their names, ix where each parameter stands among them -/
structure FnK (P : Program) (w : World) (K : PySem.W.Frag) (mg : Str → Option Value) (base : Heap) (k : Nat) (x : Str) (Φ : Sw) (ks : List Str) (ix : List Nat) : Prop where
  ex : ∃ f fd ps, FnOk P w K mg base (CX P w) k f fd ps (spT K Φ) ∧ mg x = some (.ref f) ∧ PySem.W.keepIn K (.ref f) = true ∧ KBn K fd ps 0 ks (fun _ ws => permL ix ws) (fun _ zs => permL ix zs)
theorem kbn_of {K : PySem.W.Frag} {x qual : Str} {st : Stmt} {f : Addr} {fd : FuncData} {ps ks : List Str} {ix : List Nat} (F : Fun K x qual st f fd)
    (h : ∀ (kV doc pm : Value) (an : Option Addr) (cdv ct : Value) (us : List Value), us.length = ks.length → bindArgs (PySem.W.fnOf x qual (defArgs st) (defBody st) (defScope st) .none kV doc pm an cdv ct) ⟨[], ks.zip us⟩ = pure (ps.zip (permL ix us))) :
    KBn K fd ps 0 ks (fun _ ws => permL ix ws) (fun _ zs => permL ix zs) := by
  obtain ⟨oc, od, kV, doc, pm, an, cdv, ct, osl, rfl, lk, hcd⟩ := F.ex
  refine ⟨fun s us ws _ l1 l2 => ?_, fun _ r => Paired.permL r ix⟩
  obtain rfl := List.length_eq_zero_iff.mp l1
  exact .of_eq (h kV doc pm an cdv ct ws l2)
def wCallK (n : Nat) (ix : List Nat) (Φ : Sw) (ws : WAx) : WEx := fun en P PX => ws en (fun rs en1 => rs.length = n ∧ Φ (permL ix rs) en1.os (fun r os' => P r ⟨en1.ρ, os'⟩) (fun er os' => PX er ⟨en1.ρ, os'⟩)) PX
theorem spK_of {K : PySem.W.Frag} {Φ : Sw} {n : Nat} {ix : List Nat} {σ : St} {H : Hp} {Q : VK} (h : tW K XW (wCallK n ix Φ ws) σ H Q) : tWA K XW ws σ H fun vs H1 => vs.length = n ∧ spT K Φ (permL ix vs) H1 Q (L2.WE XW σ) := by
  obtain ⟨as, en, F, P, PX, es, hw, hq, hx⟩ := h
  refine ⟨as, en, F, _, PX, es, hw, fun vs H1 rs en1 F1 e1 s1 pr hp => ?_, hx⟩
  refine ⟨pr.length.symm.trans hp.1, as, en1.os, F1, permL ix rs, _, _, e1.hs, Paired.permL pr ix, hp.2, fun v H2 r os2 F2 h2 s2 rr hp2 => ?_, fun cls d H2 er os2 F2 h2 s2 re hp2 => ?_⟩
  · exact hq v H2 r _ F2 (e1.call h2 s2) (s1.trans s2) (rr.lift s1) hp2
  · exact hx cls d H2 er _ F2 (e1.call h2 s2) (s1.trans s2) re hp2
theorem te_callK {k j : Nat} {x : Str} {Φ : Sw} {ks : List Str} {ix : List Nat} {kws : List Keyword} (G : FnK X.prog X.w X.K X.mg X.base k x Φ ks ix) (hr : Room j X.A) (tk : Takes X (EW E)) (hkw : PK X kws (tWA X.K (EW E) ws)) (hkj : k ≤ j := by decide) (hg : Gl X x := by rfl)
    (hall : (backToKw pos (keywordEach kws X.env)).all (·.1.isSome) = true := by rfl) (hks : (backToKw pos (keywordEach kws X.env)).filterMap (·.1) = ks := by rfl) (hdb : (x == ("__debug__" : Str)) = false := by decide)
    (hpl : ((backTo pos (starEach [] X.env)).any (·.1) || (backToKw pos (keywordEach kws X.env)).any (·.1.isNone)) = false := by rfl) :
    PE X (.Call (.Name x p) [] kws pos) (tW X.K (EW E) (wCallK ks.length ix Φ ws)) := by
  obtain ⟨f, fd, ps, F, hm, hk, hb⟩ := G.ex
  refine ⟨fun pins s σ H Q I h => ?_⟩
  have h := spK_of h
  refine wpAny_Call_Name_kw (ld_glob I hg hm ?_ hdb)
  refine PySem.W.callWith_KW0 (h₀ := X.base) I.ok.mod.kin hk hall ?_ hpl
  refine thn (hkw.run pos pins s σ H _ I h) fun zs s2 ⟨vs, H2, I2, rz, hz, q2⟩ => ⟨I2.kIn, ?_⟩
  rw [hks]
  exact run_fnN (us := []) (vs := []) F (hr.mono hkj) hb (passE tk) I2 .nil rz rfl hz q2

/-- a class of the module, made with keywords alone -/
structure KlK (P : Program) (w : World) (K : PySem.W.Frag) (mg : Str → Option Value) (base : Heap) (k : Nat) (x : Str) (C : Addr) (Φ : Sw) (ks : List Str) (ix : List Nat) : Prop where
  ex : ∃ f fd ps, FnOk P w K mg base (CX P w) k f fd ps (spT K Φ) ∧ Mk K C f ∧ mg x = some (.ref C) ∧ KBn K fd ps 1 ks (fun us ws => us ++ permL ix ws) (fun vs zs => vs ++ permL ix zs)
theorem kbn1_of {K : PySem.W.Frag} {x qual : Str} {st : Stmt} {f : Addr} {fd : FuncData} {ps ks : List Str} {ix : List Nat} (F : Fun K x qual st f fd)
    (h : ∀ (kV doc pm : Value) (an : Option Addr) (cdv ct u : Value) (us : List Value), us.length = ks.length → bindArgs (PySem.W.fnOf x qual (defArgs st) (defBody st) (defScope st) .none kV doc pm an cdv ct) ⟨[u], ks.zip us⟩ = pure (ps.zip (u :: permL ix us))) :
    KBn K fd ps 1 ks (fun us ws => us ++ permL ix ws) (fun vs zs => vs ++ permL ix zs) := by
  obtain ⟨oc, od, kV, doc, pm, an, cdv, ct, osl, rfl, lk, hcd⟩ := F.ex
  refine ⟨fun s us ws _ l1 l2 => ?_, fun r1 r2 => r1.append (Paired.permL r2 ix)⟩
  match us, l1 with
  | [u], _ => exact .of_eq (h kV doc pm an cdv ct u ws l2)
def wMakeK (n : Nat) (ix : List Nat) (C : Addr) (Φ : Sw) (ws : WAx) : WEx := fun en P PX => ws en (fun rs en1 => rs.length = n ∧ Φ (.ow en1.os.length :: permL ix rs) (en1.os ++ [some (.ins C [])])
  (fun r os' => r = .sh .non ∧ match os'[en1.os.length]? with
    | some (some d) => P (.fr d) ⟨en1.ρ, os'.take en1.os.length⟩
    | _ => False) (fun er os' => PX er ⟨en1.ρ, os'.take en1.os.length⟩)) PX
theorem makeK_of {K : PySem.W.Frag} {C : Addr} {Φ : Sw} {n : Nat} {ix : List Nat} {σ : St} {H : Hp} {Q : VK} (h : tW K (EW E) (wMakeK n ix C Φ ws) σ H Q) : tMakeK C 0 n (spT K Φ) (fun vs zs => vs ++ permL ix zs) E tNil (tWA K (EW E) ws) σ H Q := by
  obtain ⟨as, en, F, P, PX, es, hw, hq, hx⟩ := h
  refine ⟨as, en, F, _, PX, es, hw, fun vs H1 rs en1 F1 e1 s1 pr hp => ?_, hx⟩
  obtain ⟨hn, hp⟩ := hp
  refine ⟨rfl, pr.length.symm.trans hn, ?_⟩
  intro x dx hxn hdn hne
  have hx1 : upd H1 dx (.own x) x = none := by rw [upd_ne (Ne.symm hne)]; exact hxn
  have g1 := (e1.upd_new (o := .own x) hdn).upd_new (o := .ins C dx []) hx1
  have nas := e1.notin hxn
  have nf := e1.notF hxn
  have hl : en1.os.length = as.length := e1.hs.len
  have own : Own K F1 (upd (upd H1 dx (.own x)) x (.ins C dx [])) (.ins C []) x := ⟨dx, [], upd_same, by simp [RepF]⟩
  have g2 := g1.root nas nf own
  have hH : H x = none := by
    rcases s1.fresh hxn with z | z
    · exact z
    · exact absurd z.mem nas
  have st : Step as en1.os F1 H1 as en1.os F1 (upd (upd H1 dx (.own x)) x (.ins C dx [])) := (Step.upd_new hdn).trans (Step.upd_new hx1)
  have st2 := st.root (d := .ins C []) hxn hl
  have pr2 : Paired (RepP K (as ++ [x]) F1 (upd (upd H1 dx (.own x)) x (.ins C dx []))) (.ow en1.os.length :: permL ix rs) ([.ref x] ++ permL ix vs) := by
    refine .cons ⟨x, ?_, rfl⟩ (Paired.imp (fun r v q => q.step st2 e1.hs) (Paired.permL pr ix))
    rw [List.getElem?_append_right (by omega), hl]; simp
  refine ⟨as ++ [x], _, F1, _, _, _, g2.hs, pr2, hp, fun v H' r os' F' h' s' rr hp' => ?_, fun cls d H' er os' F' h' s' re hp' => ?_⟩
  · obtain ⟨rfl, hp'⟩ := hp'
    refine ⟨by simpa only [RepR, Rep] using rr, ?_⟩
    split at hp'
    · rename_i d hd
      have s3 := st2.trans s'
      obtain ⟨x', hx', own', nf'⟩ := h'.own _ d hd
      rw [List.getElem?_append_right (by omega), hl] at hx'
      simp at hx'; subst hx'
      have pre : as <+: as ++ [x] := ⟨[x], rfl⟩
      have hh := h'.take pre
      have s4 := s3.take
      rw [← hl] at hh s4
      refine hq (.ref x) H' (.fr d) ⟨en1.ρ, os'.take en1.os.length⟩ F' (e1.call hh s4) (s1.trans s4) ⟨x, rfl, hH, nas, nf', own'⟩ hp'
    · exact hp'.elim
  · have s3 := st2.trans s'
    have pre : as <+: as ++ [x] := ⟨[x], rfl⟩
    have hh := h'.take pre
    have s4 := s3.take
    rw [← hl] at hh s4
    exact hx cls d H' er ⟨en1.ρ, os'.take en1.os.length⟩ F' (e1.call hh s4) (s1.trans s4) re hp'
theorem te_makeK {k j : Nat} {x : Str} {C : Addr} {Φ : Sw} {ks : List Str} {ix : List Nat} {kws : List Keyword} (G : KlK X.prog X.w X.K X.mg X.base k x C Φ ks ix) (hr : Room j X.A) (tk : Takes X (EW E)) (hkw : PK X kws (tWA X.K (EW E) ws)) (hkj : k + 1 ≤ j := by decide) (hg : Gl X x := by rfl)
    (hall : (backToKw pos (keywordEach kws X.env)).all (·.1.isSome) = true := by rfl) (hks : (backToKw pos (keywordEach kws X.env)).filterMap (·.1) = ks := by rfl) (hdb : (x == ("__debug__" : Str)) = false := by decide)
    (hpl : ((backTo pos (starEach [] X.env)).any (·.1) || (backToKw pos (keywordEach kws X.env)).any (·.1.isNone)) = false := by rfl) :
    PE X (.Call (.Name x p) [] kws pos) (tW X.K (EW E) (wMakeK ks.length ix C Φ ws)) := by
  obtain ⟨f, fd, ps, F, M, hm, hb⟩ := G.ex
  exact (pe_makeK0 M F (hr.mono hkj) hg hm hb (passE tk) hkw hall hks hdb hpl).weak fun σ H Q h => makeK_of h

/-! ### row[i] = .. as a part of a tuple of targets -/
def geS (i : Nat) (ix : En → Option D) : TGe := fun d en => match en.ρ[i]?, ix en with
  | some (some (.ow k)), some y => (match en.os[k]? with
    | some (some d0) => (match setD d0 y d with
      | some d' => some ⟨en.ρ, en.os.set k (some d')⟩
      | none => none)
    | _ => none)
  | _, _ => none
/-- an expression that makes nothing -/
def tU (K : PySem.W.Frag) (f : En → Option D) : TE := fun σ H Q => ∃ as en F d, ES K as en F H σ ∧ f en = some d ∧ ∀ v, Rep K F H d v → Q v H
def ixCf (d : D) : En → Option D := fun _ => some d
def ixVf (i : Nat) : En → Option D := fun en => match en.ρ[i]? with
  | some (some (.sh d)) => some d
  | _ => none
def ixSubf (f g : En → Option D) : En → Option D := fun en => match f en, g en with
  | some (.int a), some (.int b) => some (.int (a - b))
  | _, _ => none
theorem tu_int {i j} : PE X (.Constant (.int i) j pos) (tU X.K (ixCf (.int i))) := pe_int.weak fun σ H Q h => by
  obtain ⟨as, en, F, d, es, e, hq⟩ := h
  cases e
  exact hq _ (by simp only [Rep])
theorem tu_v (i : Nat) {x : Str} (hN : X.N[i]? = some x := by rfl) (hv : Vis X.env.scope x := by first | exact Or.inl rfl | exact Or.inr (Or.inl rfl) | exact Or.inr (Or.inr rfl)) (hd : (x == ("__debug__" : Str)) = false := by decide)
    (hcd : (x == ("__classdict__" : Str)) = false := by decide) : PE X (.Name x pos) (tU X.K (ixVf i)) := (pe_var hN hv hd hcd).weak fun σ H Q h => by
  obtain ⟨as, en, F, d, es, e, hq⟩ := h
  unfold ixVf at e
  split at e
  · rename_i d2 hk
    cases e
    obtain ⟨v, hv, r⟩ := es.sl i _ hk
    exact ⟨v, hv, hq v r⟩
  · cases e
theorem tu_sub {f g : En → Option D} (ha : PE X a (tU X.K f)) (hb : PE X b (tU X.K g)) : PE X (.BinOp a .Sub b pos) (tU X.K (ixSubf f g)) := (pe_op op_sub ha hb).weak fun σ H Q h => by
  obtain ⟨as, en, F, d, es, e, hq⟩ := h
  unfold ixSubf at e
  split at e
  · rename_i i j h1 h2
    cases e
    refine ⟨as, en, F, _, es, h1, fun v rv => ⟨as, en, F, _, es, h2, fun u ru => ?_⟩⟩
    have ev : v = .int i := by simpa only [Rep] using rv
    have eu : u = .int j := by simpa only [Rep] using ru
    subst ev eu
    exact ⟨_, _, rfl, rfl, hq _ (by simp only [Rep])⟩
  · cases e
theorem tge_sub {k : Nat} (i : Nat) {x : Str} {p1 : Pos} {ie : Expr} {ix : En → Option D} (hr : Room k X.A) (hi : PE X ie (tU X.K ix)) (hN : X.N[i]? = some x := by rfl)
    (hv : Vis X.env.scope x := by first | exact Or.inl rfl | exact Or.inr (Or.inl rfl) | exact Or.inr (Or.inr rfl)) (hd : (x == ("__debug__" : Str)) = false := by decide) (hcd : (x == ("__classdict__" : Str)) = false := by decide)
    (ha : ∀ v, assign (.Subscript (.Name x p1) ie pos) X.env v = (do let ov ← holding [v] (eval (.Name x p1) X.env); let iv ← holding [v, ov] (eval ie X.env); standAt pos; holding [v, ov, iv] (setItem ov iv v); release [v, ov, iv] []) := by intro _; rfl) : PG X (.Subscript (.Name x p1) ie pos) (gE X.K (geS i ix)) :=
  (pg_sub (pe_var hN hv hd hcd) hi (set_any (by have := hr.un; omega)) ha).weak fun v σ H Q h => by
    obtain ⟨as, en, F, d, en', es, r, e, hq⟩ := h
    unfold geS at e
    split at e
    · rename_i k y hk hy
      obtain ⟨w, hw, a, ha, rfl⟩ := es.sl i _ hk
      split at e
      · rename_i d0 ho
        split at e
        · rename_i d' ed
          cases e
          refine ⟨_, hw, as, en, F, y, es, hy, fun z rz => ?_⟩
          obtain ⟨a', ha', ow, nF⟩ := es.hs.own k _ ho
          rw [ha] at ha'; cases ha'
          exact ow.set ed nF es.hs.dom (.inl rz) r fun o ow' => hq σ _ (es.put ho ha ow') (Step.refl.put ho ha)
        · cases e
      · cases e
    · cases e
end
end L2.TL

/-! text TL25 -/
set_option Elab.async false
set_option linter.all false
set_option maxRecDepth 100000
set_option maxHeartbeats 2000000
namespace L2.TL
open PySem PySem.Spec PyProof.Rows
/-! ### a, b = x, y: each one frozen, or a root of its own -/
def put1 (own : Bool) (i : Nat) (r : R) (en : En) : Option En := match own, r with
  | true, .fr d => some ⟨en.ρ.set i (some (.ow en.os.length)), en.os ++ [some d]⟩
  | true, _ => none
  | false, r => some ⟨en.ρ.set i (some r.fz), en.os⟩
theorem put1_ok {K : PySem.W.Frag} {as0 as : List Addr} {os0 : Os} {F0 F : Addr → Prop} {H0 H : Hp} {en en' : En} {σ : St} {own : Bool} {i : Nat} {r : R} {v : V} (es : ES K as en F H σ) (s : Step as0 os0 F0 H0 as en.os F H) (rr : RepR K as F H0 H r v) (e : put1 own i r en = some en') :
    ∃ as' F', ES K as' en' F' H (σ.set i (some v)) ∧ Step as0 os0 F0 H0 as' en'.os F' H ∧ ∀ r2 v2, RepR K as F H0 H r2 v2 → (∀ d d2, r = .fr d → r2 = .fr d2 → v2 ≠ v) → RepR K as' F' H0 H r2 v2 := by
  cases own with
  | true =>
    cases r with
    | fr d =>
      cases e
      obtain ⟨a, rfl, hn, ha, nf, ow⟩ := rr
      refine ⟨as ++ [a], F, (es.root ha nf ow).set i (r := .ow en.os.length) (v := .ref a) ⟨a, ?_, rfl⟩, s.root hn es.hs.len, fun r2 v2 q ne => ?_⟩
      · rw [List.getElem?_append_right (by rw [← es.hs.len]; omega), ← es.hs.len]; simp
      · cases r2 with
        | sh d2 => exact q
        | ow k =>
          obtain ⟨b, e1, e2⟩ := q
          exact ⟨b, prefix_get ⟨[a], rfl⟩ e1, e2⟩
        | fr d2 =>
          obtain ⟨b, e1, h1, h2, h3, h4⟩ := q
          refine ⟨b, e1, h1, fun z => ?_, h3, h4⟩
          rcases List.mem_append.mp z with z | z
          · exact h2 z
          · simp at z
            subst z
            exact ne d d2 rfl rfl e1
    | sh d => cases e
    | ow k => cases e
  | false =>
    cases e
    cases r with
    | sh d => exact ⟨as, F, es.set i (r := .sh d) rr, s, fun _ _ q _ => q⟩
    | ow k => exact ⟨as, F, es.set i (r := .ow k) rr, s, fun _ _ q _ => q⟩
    | fr d =>
      obtain ⟨a, rfl, hn, ha, nf, ow⟩ := rr
      obtain ⟨o, ho⟩ := ow.there
      have hne : H a ≠ none := by rw [ho]; exact fun z => nomatch z
      refine ⟨as, plus F a, (es.plus hne ha).set i (r := .sh d) (ow.rep (fun _ => .inl) (.inr rfl)), s.plus hn, fun r2 v2 q ne => ?_⟩
      cases r2 with
      | sh d2 => exact Rep.mono (mon_sub fun _ => .inl) _ _ q
      | ow k => exact q
      | fr d2 =>
        obtain ⟨b, e1, h1, h2, h3, h4⟩ := q
        refine ⟨b, e1, h1, h2, fun z => ?_, Own.mono (mon_sub fun _ => .inl) (fun _ z => z) h4⟩
        rcases z with z | z
        · exact h3 z
        · subst z
          exact ne d d2 rfl rfl e1
theorem RepR.wait {K : PySem.W.Frag} {as : List Addr} {os os2 : Os} {F F2 : Addr → Prop} {H0 H H2 : Hp} (h : HS K as os F H) (s : Step as os F H as os2 F2 H2) : ∀ {r : R} {v : V}, RepR K as F H0 H r v → RepR K as F2 H0 H2 r v
  | .sh d, v, q => Rep.mono (s.mon h) _ _ q
  | .ow k, v, q => q
  | .fr d, v, ⟨a, e, hn, ha, nf, ow⟩ => by
    obtain ⟨o, ho⟩ := ow.there
    have nl : ¬ Live as os a := fun z => ha z.mem
    have nf2 : ¬ F2 a := fun z => by
      rcases s.new a z with q | q | q
      · exact nf q
      · rw [ho] at q; cases q
      · exact nl q
    exact ⟨a, e, hn, ha, nf2, Own.mono (s.mon h) (fun o e1 => (s.stay a o e1 nl).out nf2) ow⟩
theorem RepR.more {K : PySem.W.Frag} {as : List Addr} {F : Addr → Prop} {H0 H : Hp} {p : Addr} {o : HO} (hp : H p = none) : ∀ {r : R} {v : V}, RepR K as F H0 H r v → RepR K as F H0 (upd H p o) r v
  | .sh d, v, q => Rep.mono (mon_upd hp) _ _ q
  | .ow k, v, q => q
  | .fr d, v, ⟨a, e, hn, ha, nf, ow⟩ => ⟨a, e, hn, ha, nf, Own.mono (mon_upd hp) (fun o2 e1 => by rw [upd_ne (ne_of_none e1 hp)]; exact e1) ow⟩
def wParG (o1 o2 : Bool) (i j : Nat) (wa wb : WEx) : WSx := fun en P => wa en (fun ra en1 => wb en1 (fun rb en2 => match put1 o1 i ra en2 with
  | some en3 => (match put1 o2 j rb en3 with
    | some en4 => P.nx en4
    | none => False)
  | none => False) P.ex) P.ex
section
variable {X : Cx} {XW : WX} {pos pos' p apos tpos cpos : Pos} {a b c e : Expr} {wa wb wc : WEx}
/-- both parts made, then what is wanted of the two names -/
theorem parG_of {K : PySem.W.Frag} {o1 o2 : Bool} {i j : Nat} {D : Ends} {σ : St} {H : Hp} (h : tS K XW (wParG o1 o2 i j wa wb) D σ H) :
    tW K XW wa σ H fun v H1 => tW K XW wb σ H1 fun u H2 => D.nx ((σ.set i (some v)).set j (some u)) H2 ∧ ∀ p o, H2 p = none → D.nx ((σ.set i (some v)).set j (some u)) (upd H2 p o) := by
  obtain ⟨as, en, F, P, es, hw, h1, h2, h3, h4, h5⟩ := h
  refine ⟨as, en, F, _, _, es, hw, fun v H1 ra en1 F1 e1 s1 rra hp => ?_, h5.at σ⟩
  refine ⟨as, en1, F1, _, _, e1, hp, fun u H2 rb en2 F2 e2 s2 rrb hp2 => ?_, (h5.at σ).from s1⟩
  have ra2 := RepR.wait e1.hs s2 rra
  have rb2 := rrb.lift s1
  have ne : ∀ d d2, ra = .fr d → rb = .fr d2 → u ≠ v := by
    rintro d d2 rfl rfl rfl
    obtain ⟨x, ex, _, _, _, ow⟩ := rra
    obtain ⟨y, ey, hy, _⟩ := rrb
    cases ex.symm.trans ey
    obtain ⟨o, ho⟩ := ow.there
    rw [ho] at hy; cases hy
  have s12 := s1.trans s2
  have main : ∀ H3, ES K as en2 F2 H3 σ → Step as en.os F H as en2.os F2 H3 → RepR K as F2 H H3 ra v → RepR K as F2 H H3 rb u → D.nx ((σ.set i (some v)).set j (some u)) H3 := fun H3 g t qa qb => by
    split at hp2
    · rename_i en3 he3
      obtain ⟨as3, F3, g3, t3, m3⟩ := put1_ok g t qa he3
      have qb3 := m3 _ _ qb ne
      split at hp2
      · rename_i en4 he4
        obtain ⟨as4, F4, g4, t4, _⟩ := put1_ok g3 t3 qb3 he4
        exact h1 _ H3 as4 _ F4 g4 t4 hp2
      · exact hp2.elim
    · exact hp2.elim
  exact ⟨main H2 e2 s12 ra2 rb2, fun p o hp => main _ (e2.upd_new hp) (s12.trans (Step.upd_new hp)) (ra2.more hp) (rb2.more hp)⟩
theorem ts_parG (o1 o2 : Bool) (i j : Nat) {x y : Str} {px py pt : Pos} {kt k2 pt2} (hc : X.calm = true) (hN : X.N.Nodup) (hi : X.N[i]? = some x) (hj : X.N[j]? = some y) (hij : i ≠ j)
    (hx : X.env.scope.names.lookup x = some .local) (hy : X.env.scope.names.lookup y = some .local) (ha : PE X a (tW X.K XW wa)) (hb : PE X b (tW X.K XW wb))
    (hw : swappedStores [.Tuple [.Name x px, .Name y py] kt pt] (.Tuple [a, b] k2 pt2) X.env = pure (some [x, y]) := by rfl)
    (hs : swapsWithSole [.Tuple [.Name x px, .Name y py] kt pt] (.Tuple [a, b] k2 pt2) pos.line X.env = pure false := by rfl)
    (hs1 : starEach [a, b] X.env = (false, eval a X.env) :: starEach [b] X.env := by rfl) (hs2 : starEach [b] X.env = (false, eval b X.env) :: starEach [] X.env := by rfl) :
    PS X (.Assign [.Tuple [.Name x px, .Name y py] kt pt] (.Tuple [a, b] k2 pt2) pos) (tS X.K XW (wParG o1 o2 i j wa wb)) :=
  (ps_par hc hN hi hj hij hx hy (pa_cons ha (pa_cons hb pa_nil hs2) hs1) hw hs).weak fun D σ H h => by
    obtain ⟨as, en, F, P, PX, es, hw, hq, hx⟩ := parG_of h
    refine ⟨as, en, F, P, PX, es, hw, fun v H1 r en1 F1 e1 s1 rr hp => ?_, hx⟩
    obtain ⟨as, en, F, P, PX, es, hw, hq, hx⟩ := hq v H1 r en1 F1 e1 s1 rr hp
    exact ⟨as, en, F, P, PX, es, hw, fun u H2 r2 en2 F2 e2 s2 rr2 hp2 => ⟨v, u, rfl, (hq u H2 r2 en2 F2 e2 s2 rr2 hp2).1⟩, hx⟩
/-- the same where a name is a cell: by a tuple -/
theorem ts_parT (o1 o2 : Bool) (i j : Nat) {x y : Str} {px py pt : Pos} {kt k2 pt2} (hc : X.calm = true) (hN : X.N.Nodup) (hi : X.N[i]? = some x) (hj : X.N[j]? = some y)
    (hx : Loc X.env.scope x) (hy : Loc X.env.scope y) (ha : PE X a (tW X.K XW wa)) (hb : PE X b (tW X.K XW wb))
    (hs : swapsWithSole [.Tuple [.Name x px, .Name y py] kt pt] (.Tuple [a, b] k2 pt2) pos.line X.env = pure false := by rfl)
    (hw : swappedStores [.Tuple [.Name x px, .Name y py] kt pt] (.Tuple [a, b] k2 pt2) X.env = pure none := by rfl)
    (h1 : (assignEach [.Tuple [.Name x px, .Name y py] kt pt] X.env).map (·.2) = [assign (.Tuple [.Name x px, .Name y py] kt pt) X.env] := by rfl)
    (hs1 : starEach [a, b] X.env = (false, eval a X.env) :: starEach [b] X.env := by rfl) (hs2 : starEach [b] X.env = (false, eval b X.env) :: starEach [] X.env := by rfl)
    (hf : X.fn x = true ∨ X.env.scope.names.lookup x = some .local := by first | exact .inl rfl | exact .inr rfl | assumption) (hf2 : X.fn y = true ∨ X.env.scope.names.lookup y = some .local := by first | exact .inl rfl | exact .inr rfl | assumption)
    (hn : (assignEach [.Name x px, .Name y py] X.env).length = 2 := by rfl) (hst : (assignEach [.Name x px, .Name y py] X.env).findIdx? (·.1) = none := by rfl)
    (q1 : (assignEach [.Name x px, .Name y py] X.env).map (·.2) = assign (.Name x px) X.env :: (assignEach [.Name y py] X.env).map (·.2) := by rfl) (q2 : (assignEach [.Name y py] X.env).map (·.2) = assign (.Name y py) X.env :: (assignEach [] X.env).map (·.2) := by rfl) :
    PS X (.Assign [.Tuple [.Name x px, .Name y py] kt pt] (.Tuple [a, b] k2 pt2) pos) (tS X.K XW (wParG o1 o2 i j wa wb)) :=
  (ps_asg (pe_tup (pa_cons ha (pa_cons hb pa_nil hs2) hs1)) (pg_tup hc (pgs_cons (pg_name (i := i) hN hi hx hf) (pgs_cons (pg_name (i := j) hN hj hy hf2) pgs_nil q2) q1) hn hst) hs hw h1).weak fun D σ H h => by
    obtain ⟨as, en, F, P, PX, es, hw, hq, hx⟩ := parG_of h
    refine ⟨as, en, F, P, PX, es, hw, fun v H1 r en1 F1 e1 s1 rr hp => ?_, hx⟩
    obtain ⟨as, en, F, P, PX, es, hw, hq, hx⟩ := hq v H1 r en1 F1 e1 s1 rr hp
    refine ⟨as, en, F, P, PX, es, hw, fun u H2 r2 en2 F2 e2 s2 rr2 hp2 => ⟨by show 2 ≤ sizeLine; decide, fun p hp => ?_⟩, hx⟩
    exact ⟨p, [v, u], rfl, .of upd_same, rfl, v, [u], rfl, u, [], rfl, rfl, (hq u H2 r2 en2 F2 e2 s2 rr2 hp2).2 p _ hp⟩
end
end L2.TL

/-! text TL26 -/
set_option Elab.async false
set_option linter.all false
set_option maxRecDepth 100000
set_option maxHeartbeats 2000000
namespace L2.TL
open PySem PySem.Spec PyProof.Rows
section
variable {X : Cx} {XW : WX} {pos : Pos} {a b : Expr} {wa wb : WEx}
/-- + of ints, texts, lists, tuples -/
def oAddA : R → R → WEx := fun ra rb en P PX => match ra.val en.os, rb.val en.os with
  | some (.tup xs), some (.tup ys) => xs.length + ys.length ≤ sizeLine ∧ P (.sh (.tup (xs ++ ys))) en
  | _, _ => oAdd ra rb en P PX
theorem te_addA (ha : PE X a (tW X.K XW wa)) (hb : PE X b (tW X.K XW wb)) : PE X (.BinOp a .Add b pos) (tW X.K XW (w2 oAddA wa wb)) :=
  (pe_op (op_add.or (op_add_str.or (op_catR.or op_catA))) ha hb).weak fun σ H Q h => tOp_of (fun x y H h => by
    obtain ⟨as, os0, F0, H0, en, F, rs, P, PX, es, st, pr, hw, hq, hx⟩ := h
    cases pr with
    | cons ry pr =>
      cases pr with
      | cons rx pr =>
        cases pr
        simp only [l2, oAddA] at hw
        split at hw
        · rename_i xs ys e1 e2
          obtain ⟨l, vs, e3, hl, hz, rl⟩ := (rx.sees es.hs e1).tup
          obtain ⟨m, us, e4, hm, hz', rm⟩ := (ry.sees es.hs e2).tup
          refine .inr (.inr (.inr ⟨l, m, vs, us, e3, e4, .of hl, .of hm, by rw [rl.length, rm.length]; exact hw.1, fun hn => ?_, fun _ hn => ?_, fun _ _ p hp => ?_⟩))
          · subst hn
            have : xs = [] := by
              have := rl.length
              simpa [eq_comm] using this
            subst this
            exact hq _ H (.sh (.tup ([] ++ ys))) en F es st (by simp only [RepR, Rep, List.nil_append]; exact ⟨m, us, rfl, hm, hz', rm⟩) hw.2
          · subst hn
            have : ys = [] := by
              have := rm.length
              simpa [eq_comm] using this
            subst this
            exact hq _ H (.sh (.tup (xs ++ []))) en F es st (by simp only [RepR, Rep, List.append_nil]; exact ⟨l, vs, rfl, hl, hz, rl⟩) hw.2
          · obtain ⟨q1, q2, q3⟩ := new_tup es st hp (by rw [List.length_append, rl.length, rm.length]; exact hw.1) (rl.append rm)
            exact hq _ _ _ en _ q1 q2 q3 hw.2
        · simp only [oAdd] at hw
          split at hw
          · rename_i e1 e2
            exact .inl ⟨_, _, (rx.sees es.hs e1).int, (ry.sees es.hs e2).int, hq _ H _ en F es st (by simp only [RepR, Rep]) hw⟩
          · rename_i e1 e2
            exact .inr (.inl ⟨_, _, (rx.sees es.hs e1).str, (ry.sees es.hs e2).str, hw.1, hq _ H _ en F es st (by simp only [RepR, Rep]) hw.2⟩)
          · rename_i e1 e2
            obtain ⟨l, vs, e3, hl, hz, rl⟩ := (rx.sees es.hs e1).lst
            obtain ⟨m, us, e4, hm, hz', rm⟩ := (ry.sees es.hs e2).lst
            refine .inr (.inr (.inl ⟨l, m, vs, us, e3, e4, hl, hm, by rw [rl.length, rm.length]; exact hw.1, fun p hp => ?_⟩))
            obtain ⟨q1, q2, q3⟩ := new_lst es st hp (by rw [List.length_append, rl.length, rm.length]; exact hw.1) (rl.append rm)
            exact hq _ _ _ en F q1 q2 q3 hw.2
          · exact hw.elim) h
def wNewT : WEx := fun en P _ => P (.fr (.dt [])) en
theorem te_newT : PE X (.Dict [] [] pos) (tW X.K XW wNewT) := pe_dnewT.weak fun σ H Q h => by
  obtain ⟨as, en, F, P, PX, es, hw, hq, hx⟩ := h
  intro p hp
  obtain ⟨q1, q2, q3⟩ := new_fr (o := .dT []) (d := .dt []) es Step.refl hp ⟨[], upd_same, by simp [RepT]⟩
  exact hq _ _ _ en _ q1 q2 q3 hw
end
/-! ### a comprehension whose parts change roots -/
theorem lcL_eff {i : Nat} {ρ0 : Ro} {elt : WEx} {Pend : List D → En → Prop} (h0 : ρ0.set i none = ρ0) (J : List D → List D → Os → Prop)
    (hstep : ∀ d ds acc os, J (d :: ds) acc os → ∀ (P : R → En → Prop) PX, (∀ e os', J ds (acc ++ [e]) os' → P (.sh e) ⟨ρ0.set i (some (.sh d)), os'⟩) → elt ⟨ρ0.set i (some (.sh d)), os⟩ P PX)
    (hend : ∀ acc os, J [] acc os → Pend acc ⟨ρ0, os⟩) : ∀ (ds acc : List D) (os : Os), J ds acc os → wLcL (gN i) wYes elt [i] Pend ds acc ⟨ρ0, os⟩
  | [], acc, os, h => hend acc os h
  | d :: ds, acc, os, h => by
    have w0 : wipeR (ρ0.set i (some (.sh d))) [i] = ρ0 := by
      simp only [wipeR]
      rw [List.set_set]; exact h0
    simp only [wLcL, gN, wYes]
    refine hstep d ds acc os h _ _ fun e os' h' => ?_
    simp only [R.fz, w0]
    exact lcL_eff h0 J hstep hend ds _ os' h'
/-- the same for two names -/
theorem lcL_eff2 {i j : Nat} {ρ0 : Ro} {elt : WEx} {Pend : List D → En → Prop} (h0 : (ρ0.set j none).set i none = ρ0) (hij : i ≠ j) (J : List (D × D) → List D → Os → Prop)
    (hstep : ∀ d ds acc os, J (d :: ds) acc os → ∀ (P : R → En → Prop) PX, (∀ e os', J ds (acc ++ [e]) os' → P (.sh e) ⟨(ρ0.set i (some (.sh d.1))).set j (some (.sh d.2)), os'⟩) → elt ⟨(ρ0.set i (some (.sh d.1))).set j (some (.sh d.2)), os⟩ P PX)
    (hend : ∀ acc os, J [] acc os → Pend acc ⟨ρ0, os⟩) : ∀ (ds : List (D × D)) (acc : List D) (os : Os), J ds acc os → wLcL (gT (gsCons (gN i) (gsCons (gN j) gsNil))) wYes elt [i, j] Pend (ds.map fun p => .tup [p.1, p.2]) acc ⟨ρ0, os⟩
  | [], acc, os, h => hend acc os h
  | d :: ds, acc, os, h => by
    have w0 : wipeR ((ρ0.set i (some (.sh d.1))).set j (some (.sh d.2))) [i, j] = ρ0 := by
      simp only [wipeR]
      rw [List.set_set, List.set_comm _ _ hij, List.set_set]
      exact h0
    simp only [List.map_cons, wLcL, gT, gsCons, gsNil, gN, Option.bind_some, wYes]
    refine hstep d ds acc os h _ _ fun e os' h' => ?_
    simp only [R.fz, w0]
    exact lcL_eff2 h0 hij J hstep hend ds _ os' h'
end L2.TL

/-! text CLphi -/
set_option Elab.async false
set_option linter.all false
set_option maxRecDepth 100000
set_option maxHeartbeats 4000000
namespace L2.TL.W
open PySem PySem.Spec PyProof.Rows L2.TL
structure Cs where
  (Table World Split Ask Atom Sheet Program Relations Run Branch Code Work Exactly Paper : Addr)
def c0 : Cs := ⟨0, 0, 0, 0, 0, 0, 0, 0, 0, 0, 0, 0, 0, 0⟩
def letters : Str := "abcdefghijklmnopqrstuvwxyz"
def nameOk (z : Str) : Bool := decide (1 ≤ z.length) && (decide (z.length ≤ 8) && z.cps.toList.all fun c => decide (c ∈ letters.cps.toList))
def tabD (C : Cs) (t : Str × Int) : D := .ins C.Table [("name", .str t.1), ("width", .int t.2)]
def rowT (r : List Int) : D := .tup (r.map .int)
def RowOk (w : Int) (r : List Int) : Prop := (r.length : Int) = w ∧ ∀ v ∈ r, -(10 ^ 30) ≤ v ∧ v ≤ 10 ^ 30
def Srt (rws : List (List Int)) : Prop := (rws.map rowT).Pairwise (fun a b => leD a b = true) ∧ rws.Nodup
structure TabOk (t : Str × Int) : Prop where
  nm : nameOk t.1 = true
  so : PyData.strOk t.1 = true
  wd : t.2 = 1 ∨ t.2 = 2
structure TabsOk (ts : List (Str × Int)) : Prop where
  ok : ∀ t ∈ ts, TabOk t
  nd : (ts.map (·.1)).Nodup
  pos : 1 ≤ ts.length
  few : ts.length ≤ 6
def worldD (C : Cs) (ts : List (Str × Int)) (wr : List (List (List Int))) : D := .ins C.World [("tables", .tup (ts.map (tabD C))), ("rows", .tup (wr.map fun r => .tup (r.map rowT)))]
def splitD (C : Cs) (t : Str × Int) (c : Int) (a b : Nat) : D := .ins C.Split [("table", tabD C t), ("column", .int c), ("threshold", .tup [.int a, .int b])]
/-- rows as they are told -/
def rowIs (d : D) (r : List Int) : Prop := d = .tup (r.map .int) ∨ d = .lst (r.map .int)
def rowsAre (d : D) (rws : List (List Int)) : Prop := ∃ xs, seqD d = some xs ∧ Paired rowIs xs rws
/-- how many rows hold v in column c -/
def cnt (rws : List (List Int)) (c : Nat) (v : Int) : Nat := (rws.filter fun r => decide (r.getD c 0 = v)).length
def lightR (rws : List (List Int)) (c a b base : Nat) (r : List Int) : Bool := decide (cnt rws c (r.getD c 0) ^ b ≤ base ^ a)
section
def Φ_is_integer (K : PySem.W.Frag) (C : Cs) : Sw := fun rs os P _ => ∃ i, rs = [.sh (.int i)] ∧ P (.sh (.bl true)) os
def Φ_is_between (K : PySem.W.Frag) (C : Cs) : Sw := fun rs os P _ => ∃ v lo hi, rs = [.sh (.int v), .sh (.int lo), .sh (.int hi)] ∧ P (.sh (.bl (decide (lo ≤ v) && decide (v ≤ hi)))) os
def Φ_is_name (K : PySem.W.Frag) (C : Cs) : Sw := fun rs os P _ => ∃ z, rs = [.sh (.str z)] ∧ z.length ≤ sizeLine ∧ P (.sh (.bl (nameOk z))) os
def Φ_is_listed (K : PySem.W.Frag) (C : Cs) : Sw := fun rs os P _ => ∃ d xs, rs = [.sh d] ∧ seqD d = some xs ∧ P (.sh (.bl true)) os
def Φ_is_row (K : PySem.W.Frag) (C : Cs) : Sw := fun rs os P _ => ∃ d xs lo hi, rs = [.sh d, .sh (.int lo), .sh (.int hi)] ∧ seqD d = some xs ∧ P (.sh (.bl (decide (lo ≤ (xs.length : Int)) && decide ((xs.length : Int) ≤ hi)))) os
def Φ_common_part (K : PySem.W.Frag) (C : Cs) : Sw := fun rs os P _ => ∃ a b : Nat, rs = [.sh (.int a), .sh (.int b)] ∧ 1 ≤ a ∧ P (.sh (.int (Nat.gcd a b))) os
def Φ_lowest (K : PySem.W.Frag) (C : Cs) : Sw := fun rs os P _ => ∃ a b : Nat, rs = [.sh (.int a), .sh (.int b)] ∧ 1 ≤ a ∧ 1 ≤ b ∧ a ≤ 9999 ∧ b ≤ 9999 ∧ P (.sh (.tup [.int ((a / Nat.gcd a b : Nat)), .int ((b / Nat.gcd a b : Nat))])) os
def Φ_power (K : PySem.W.Frag) (C : Cs) : Sw := fun rs os P _ => ∃ n m : Nat, rs = [.sh (.int n), .sh (.int m)] ∧ n < 2 ^ 20 ∧ m ≤ 9999 ∧ P (.sh (.int ((n ^ m : Nat)))) os
def Φ_is_at_most (K : PySem.W.Frag) (C : Cs) : Sw := fun rs os P _ => ∃ n b t u : Nat, rs = [.sh (.int n), .sh (.int b), .sh (.tup [.int t, .int u])] ∧ n < 2 ^ 20 ∧ b < 2 ^ 20 ∧ t ≤ 9999 ∧ u ≤ 9999 ∧ P (.sh (.bl (decide (n ^ u ≤ b ^ t)))) os
def Φ_Table_init (K : PySem.W.Frag) (C : Cs) : Sw := fun rs os P _ => ∃ k z w, rs = [.ow k, .sh (.str z), .sh (.int w)] ∧ os[k]? = some (some (.ins C.Table [])) ∧ z.length ≤ sizeLine ∧ nameOk z = true ∧ 1 ≤ w ∧ w ≤ 2 ∧ P (.sh .non) (os.set k (some (tabD C (z, w))))
def Φ_Table_eq (K : PySem.W.Frag) (C : Cs) : Sw := fun rs os P _ => ∃ s t, rs = [.sh (tabD C s), .sh (tabD C t)] ∧ PyData.strOk s.1 = true ∧ PyData.strOk t.1 = true ∧ P (.sh (.bl (decide (s = t)))) os
def Φ_are_tables (K : PySem.W.Frag) (C : Cs) : Sw := fun rs os P _ => ∃ d ts, rs = [.sh d, .sh (.int 6)] ∧ seqD d = some (ts.map (tabD C)) ∧ TabsOk ts ∧ P (.sh (.bl true)) os
def namesD (C : Cs) (ts : List (Str × Int)) : List (Key × D) := ts.map fun t => (.inr t.1, tabD C t)
def Φ_by_names (K : PySem.W.Frag) (C : Cs) : Sw := fun rs os P _ => ∃ d ts, rs = [.sh d] ∧ seqD d = some (ts.map (tabD C)) ∧ (ts.map (·.1)).Nodup ∧ P (.fr (.dk (namesD C ts))) os
def Φ_is_row_of (K : PySem.W.Frag) (C : Cs) : Sw := fun rs os P _ => ∃ t d r, rs = [.sh (tabD C t), .sh d] ∧ rowIs d r ∧ RowOk t.2 r ∧ P (.sh (.bl true)) os
def Φ_are_rows_of (K : PySem.W.Frag) (C : Cs) : Sw := fun rs os P _ => ∃ (t : Str × Int) (d : D) (rws : List (List Int)), rs = [.sh (tabD C t), .sh d] ∧ rowsAre d rws ∧ (∀ r ∈ rws, RowOk t.2 r) ∧ rws.length ≤ 20000 ∧ P (.sh (.bl true)) os
/-- rows, each once, as they come -/
def once (rws : List (List Int)) : List (List Int) := rws.foldl (fun acc r => if r ∈ acc then acc else acc ++ [r]) []
def leR (a b : List Int) : Bool := leD (rowT a) (rowT b)
/-- rows, ascending, each once -/
def ordR (rws : List (List Int)) : List (List Int) := (once rws).mergeSort leR
def Φ_World_init (K : PySem.W.Frag) (C : Cs) : Sw := fun rs os P _ => ∃ (k : Nat) (ts : List (Str × Int)) (xs : List D) (wr : List (List (List Int))), rs = [.ow k, .sh (.lst (ts.map (tabD C))), .sh (.lst xs)] ∧ os[k]? = some (some (.ins C.World [])) ∧ TabsOk ts ∧ Paired rowsAre xs wr ∧ wr.length = ts.length ∧
  (∀ p ∈ ts.zip wr, (∀ r ∈ p.2, RowOk p.1.2 r) ∧ p.2.length ≤ 20000) ∧ P (.sh .non) (os.set k (some (worldD C ts (wr.map ordR))))
def Φ_World_index (K : PySem.W.Frag) (C : Cs) : Sw := fun rs os P _ => ∃ (ts : List (Str × Int)) (wr : List (List (List Int))) (i : Nat) (t : Str × Int), rs = [.sh (worldD C ts wr), .sh (.str t.1)] ∧ ts[i]? = some t ∧ (ts.map (·.1)).Nodup ∧ (∀ t ∈ ts, PyData.strOk t.1 = true) ∧ P (.sh (.int i)) os
def Φ_World_need_index (K : PySem.W.Frag) (C : Cs) : Sw := Φ_World_index K C
def Φ_World_rows_of (K : PySem.W.Frag) (C : Cs) : Sw := fun rs os P _ => ∃ (ts : List (Str × Int)) (wr : List (List (List Int))) (i : Nat) (t : Str × Int) (rws : List (List Int)), rs = [.sh (worldD C ts wr), .sh (.str t.1)] ∧ ts[i]? = some t ∧ (ts.map (·.1)).Nodup ∧ (∀ t ∈ ts, PyData.strOk t.1 = true) ∧ wr[i]? = some rws ∧ P (.sh (.tup (rws.map rowT))) os
def Φ_need_world (K : PySem.W.Frag) (C : Cs) : Sw := fun rs os P _ => ∃ ts wr, rs = [.sh (worldD C ts wr)] ∧ P (.sh .non) os
def Φ_need_tables (K : PySem.W.Frag) (C : Cs) : Sw := fun rs os P _ => ∃ (ts : List (Str × Int)) (wr : List (List (List Int))) (us : List (Str × Int)), rs = [.sh (worldD C ts wr), .sh (.tup (us.map (tabD C)))] ∧ (ts.map (·.1)).Nodup ∧ (∀ t ∈ ts, PyData.strOk t.1 = true) ∧ (∀ u ∈ us, u ∈ ts) ∧ P (.sh .non) os
def Φ_is_threshold (K : PySem.W.Frag) (C : Cs) : Sw := fun rs os P _ => ∃ a b : Nat, rs = [.sh (.tup [.int a, .int b])] ∧ 1 ≤ a ∧ 1 ≤ b ∧ a ≤ 9999 ∧ b ≤ 9999 ∧ P (.sh (.bl true)) os
def Φ_Split_init (K : PySem.W.Frag) (C : Cs) : Sw := fun rs os P _ => ∃ (k : Nat) (z : Str) (c a b : Nat), rs = [.ow k, .sh (tabD C (z, 2)), .sh (.int c), .sh (.tup [.int a, .int b])] ∧ os[k]? = some (some (.ins C.Split [])) ∧ c ≤ 1 ∧ 1 ≤ a ∧ 1 ≤ b ∧ a ≤ 9999 ∧ b ≤ 9999 ∧
  P (.sh .non) (os.set k (some (splitD C (z, 2) c (a / Nat.gcd a b) (b / Nat.gcd a b))))
def lookupN (kvs : List (Int × Nat)) (v : Int) : Nat := ((kvs.find? fun kv => decide (kv.1 = v)).map (·.2)).getD 0
/-- what counting each value of a column makes -/
structure Crowds (rws : List (List Int)) (c : Nat) (kvs : List (Int × Nat)) : Prop where
  nd : (kvs.map (·.1)).Nodup
  lk : ∀ v, lookupN kvs v = cnt rws c v
  len : kvs.length ≤ rws.length
  pos : ∀ kv ∈ kvs, 0 < kv.2
def crowdD (kvs : List (Int × Nat)) : D := .dk (kvs.map fun kv => (.inl kv.1, .int kv.2))
def Φ_crowds (K : PySem.W.Frag) (C : Cs) : Sw := fun rs os P _ => ∃ (rws : List (List Int)) (c : Nat), rs = [.sh (.tup (rws.map rowT)), .sh (.int c)] ∧ (∀ r ∈ rws, r.length = 2) ∧ c ≤ 1 ∧ rws.length ≤ 20000 ∧ ∀ kvs, Crowds rws c kvs → P (.fr (crowdD kvs)) os
def Φ_parts_of (K : PySem.W.Frag) (C : Cs) : Sw := fun rs os P _ => ∃ (rws : List (List Int)) (t : Str × Int) (c a b base : Nat), rs = [.sh (.tup (rws.map rowT)), .sh (splitD C t c a b), .sh (.int base)] ∧ (∀ r ∈ rws, r.length = 2) ∧ c ≤ 1 ∧ rws.length ≤ 20000 ∧ a ≤ 9999 ∧ b ≤ 9999 ∧ base ≤ 1000000 ∧
  P (.sh (.tup [.tup ((rws.filter (lightR rws c a b base)).map rowT), .tup ((rws.filter fun r => !lightR rws c a b base r).map rowT)])) os
def Φ_need_split (K : PySem.W.Frag) (C : Cs) : Sw := fun rs os P _ => ∃ t c a b, rs = [.sh (splitD C t c a b)] ∧ P (.sh .non) os
def Φ_need_base (K : PySem.W.Frag) (C : Cs) : Sw := fun rs os P _ => ∃ b : Int, rs = [.sh (.int b)] ∧ 1 ≤ b ∧ b ≤ 1000000 ∧ P (.sh .non) os
def Φ_parted (K : PySem.W.Frag) (C : Cs) : Sw := fun rs os P _ => ∃ (ts : List (Str × Int)) (wr : List (List (List Int))) (i : Nat) (rws : List (List Int)) (t : Str × Int) (c a b base : Nat), rs = [.sh (worldD C ts wr), .sh (splitD C t c a b), .sh (.int base)] ∧ ts[i]? = some t ∧ (ts.map (·.1)).Nodup ∧ (∀ t ∈ ts, PyData.strOk t.1 = true) ∧ wr[i]? = some rws ∧
  (∀ r ∈ rws, r.length = 2) ∧ c ≤ 1 ∧ rws.length ≤ 20000 ∧ a ≤ 9999 ∧ b ≤ 9999 ∧ 1 ≤ base ∧ base ≤ 1000000 ∧
  P (.sh (.tup [.tup ((rws.filter (lightR rws c a b base)).map rowT), .tup ((rws.filter fun r => !lightR rws c a b base r).map rowT)])) os
/-- the script: shared, or of the written part -/
def ScrD (K : PySem.W.Frag) (ns : List Int) (d : D) : Prop := ns.length ≤ 63 ∧ (d = .lst (ns.map .int) ∨ ∃ a, d = .obj a ∧ KL K a (ns.map V.int))
def Φ__law_pen (K : PySem.W.Frag) (C : Cs) : Sw := fun rs os P _ => ∃ ns d, rs = [.sh d] ∧ ScrD K ns d ∧ P (.fr (.lst [.lst (ns.map .int), .int 0, .int 0])) os
def penD (cells : List Int) (at' rest : Nat) : D := .lst [.lst (cells.map .int), .int at', .int rest]
/-- a pen, at most so many draws begun -/
def Pen (n : Nat) (d : D) : Prop := ∃ (cells : List Int) (at' rest : Nat), d = penD cells at' rest ∧ cells.length ≤ 63 ∧ at' ≤ n
def Φ__law_draw (K : PySem.W.Frag) (C : Cs) : Sw := fun rs os P _ => ∃ (k n : Nat) (p : D) (many : Nat), rs = [.ow k, .sh (.int many)] ∧ os[k]? = some (some p) ∧ Pen n p ∧ n ≤ 1000000 ∧ 1 ≤ many ∧ many ≤ 1000000 ∧
  ∀ (v : Nat) (p2 : D), v < many → Pen (n + 1) p2 → P (.sh (.int v)) (os.set k (some p2))
def Φ__law_pick (K : PySem.W.Frag) (C : Cs) : Sw := fun rs os P _ => ∃ (k n : Nat) (p : D) (xs : List D), rs = [.ow k, .sh (.lst xs)] ∧ os[k]? = some (some p) ∧ Pen n p ∧ n ≤ 1000000 ∧ 1 ≤ xs.length ∧ xs.length ≤ 1000000 ∧
  ∀ (x : D) (p2 : D), x ∈ xs → Pen (n + 1) p2 → P (.sh x) (os.set k (some p2))
def Φ__law_name (K : PySem.W.Frag) (C : Cs) : Sw := fun rs os P _ => ∃ (k n : Nat) (p : D), rs = [.ow k] ∧ os[k]? = some (some p) ∧ Pen n p ∧ n ≤ 900000 ∧
  ∀ (z : Str) (p2 : D), nameOk z = true → PyData.strOk z = true → Pen (n + 9) p2 → P (.sh (.str z)) (os.set k (some p2))
/-- drawn rows of two columns: ascending, each once, small -/
structure DrawnRows (w most reach : Nat) (rws : List (List Int)) : Prop where
  srt : Srt rws
  wid : ∀ r ∈ rws, r.length = w
  sml : ∀ r ∈ rws, ∀ v ∈ r, 0 ≤ v ∧ v < 2 * reach
  few : rws.length ≤ most
def Φ__law_rows (K : PySem.W.Frag) (C : Cs) : Sw := fun rs os P _ => ∃ (k n w most reach : Nat) (p : D), rs = [.ow k, .sh (.int w), .sh (.int most), .sh (.int reach)] ∧ os[k]? = some (some p) ∧ Pen n p ∧ n ≤ 900000 ∧ (w = 1 ∨ w = 2) ∧ most ≤ 1000 ∧ 1 ≤ reach ∧ reach ≤ 1000 ∧
  ∀ (rws : List (List Int)) (p2 : D), DrawnRows w most reach rws → Pen (n + 2 + 4 * most) p2 → P (.sh (.tup (rws.map rowT))) (os.set k (some p2))
def Φ__law_power (K : PySem.W.Frag) (C : Cs) : Sw := fun rs os P _ => ∃ n m : Nat, rs = [.sh (.int n), .sh (.int m)] ∧ n < 2 ^ 20 ∧ m ≤ 9999 ∧ P (.sh (.int ((n ^ m : Nat)))) os
def Φ__law_crowds (K : PySem.W.Frag) (C : Cs) : Sw := Φ_crowds K C
def Φ__law_is_light (K : PySem.W.Frag) (C : Cs) : Sw := Φ_is_at_most K C
def Φ__law_parts (K : PySem.W.Frag) (C : Cs) : Sw := fun rs os P _ => ∃ (rws : List (List Int)) (c a b base : Nat), rs = [.sh (.tup (rws.map rowT)), .sh (.int c), .sh (.tup [.int a, .int b]), .sh (.int base)] ∧ Srt rws ∧ (∀ r ∈ rws, RowOk 2 r) ∧ c ≤ 1 ∧ rws.length ≤ 20000 ∧ a ≤ 9999 ∧ b ≤ 9999 ∧ base ≤ 1000000 ∧
  P (.sh (.tup [.tup ((rws.filter (lightR rws c a b base)).map rowT), .tup ((rws.filter fun r => !lightR rws c a b base r).map rowT)])) os
def Φ__law_threshold (K : PySem.W.Frag) (C : Cs) : Sw := fun rs os P _ => ∃ (k n : Nat) (p : D), rs = [.ow k] ∧ os[k]? = some (some p) ∧ Pen n p ∧ n ≤ 900000 ∧
  ∀ (a b : Nat) (p2 : D), 1 ≤ a → a ≤ 12 → 1 ≤ b → b ≤ 12 → Pen (n + 1) p2 → P (.sh (.tup [.int a, .int b])) (os.set k (some p2))
def Φ_law (K : PySem.W.Frag) (C : Cs) : Sw := fun rs os P _ => ∃ ns d, rs = [.sh d] ∧ ScrD K ns d ∧ ∀ os', P (.sh (.bl true)) os'
end
end L2.TL.W

/-! text CLz -/
set_option Elab.async false
set_option linter.all false
set_option maxRecDepth 100000
set_option maxHeartbeats 4000000
namespace L2.TL
open PySem PySem.Spec PyProof.Rows
theorem fn_okG {P : Program} {wd : World} {K : PySem.W.Frag} {mg : Str → Option Value} {base : Heap} {x qual : Str} {st : Stmt} {f : Addr} {fd : FuncData} {N ps : List Str} {k : Nat} {Φ : Sw} {w : WSx} (Fu : Fun K x qual st f fd) (S : FnScope N ps (defScope st)) (ln : ∀ rs os P PX, Φ rs os P PX → rs.length = ps.length)
    (hb : ∀ (cdv : Value) (A : Around) (outer : List Env) (s : Shared) (H : Hp) (E : XK), A.guards = some [] → Room k (A.deeper (envOfC qual (defScope st) s.heap.objs.size f cdv)) → PSs (cxOf (L2.CX P wd) P wd K mg base N qual (defScope st) f cdv A outer s H E) (defBody st) (tS K (fun cls d _ H => E cls d H) w))
    (law : ∀ rs os P PX, Φ rs os P PX → w ⟨startR N rs, os⟩ (bodyPost os.length P PX)) : FnG P wd K mg base (k + 1) f fd ps (spT K Φ) := by
  refine fn_g Fu S (fun vs H Q E h => ?_) fun cdv A outer s H vs Q E hG hr h => ⟨_, hb cdv A outer s H E hG hr, ?_⟩
  · obtain ⟨as, os, F, rs, P, PX, hs, pr, hp, _⟩ := h
    exact pr.length.symm.trans (ln _ _ _ _ hp)
  · obtain ⟨as, os, F, rs, P, PX, hs, pr, hp, hq, hx⟩ := h
    have el : os.length = as.length := hs.len
    refine ⟨as, ⟨startR N rs, os⟩, F, _, ES.start hs pr, law rs os P PX hp, ?_, fun _ _ _ _ _ _ _ p => p.elim, fun _ _ _ _ _ _ _ p => p.elim, ?_, ?_⟩
    all_goals rw [el]
    · exact fun σ' H' as' en' F' e s1 p => hq .non H' (.sh .non) _ F' (e.hs.take s1.pre) s1.take (by simp only [RepR, Rep]) p
    · intro v σ' H' as' r en' F' e s1 rr p
      obtain ⟨r', rr', hp'⟩ := RepR.out e.hs s1 rr p
      exact hq v H' r' _ F' (e.hs.take s1.pre) s1.take rr' hp'
    · exact fun cls d σ' H' as' er en' F' e s1 re p => hx cls d H' er _ F' (e.hs.take s1.pre) s1.take re p
end L2.TL
namespace L2.TL.W
open PySem PySem.Spec PyProof.Rows L2.TL
theorem paired1 {α β : Type} {R : α → β → Prop} {a : α} {b : β} (h : R a b) : Paired R [a] [b] := .cons h .nil
theorem sp_law {K : PySem.W.Frag} {H : Hp} {a : Addr} {ns : List Int} (hl : ns.length ≤ 63) (h : SqL K H a (ns.map V.int)) : spT K (Φ_law K c0) [.ref a] H (fun v _ => v = .bl true) fun _ _ _ => False := by
  have hs : ∀ F : Addr → Prop, (∀ b, F b → H b ≠ none) → HS K [] [] F H := fun F hF =>
    ⟨fun k d e => by simp at e, List.nodup_nil, hF, fun b hb => by simp at hb, rfl⟩
  have out : ∀ (F : Addr → Prop) (d : D), (∀ b, F b → H b ≠ none) → Rep K F H d (.ref a) → ScrD K ns d → spT K (Φ_law K c0) [.ref a] H (fun v _ => v = .bl true) fun _ _ _ => False := fun F d hF hd hk =>
    ⟨[], [], F, [.sh d], fun r _ => r = .sh (.bl true), fun _ _ => False, hs F hF, paired1 hd, ⟨ns, d, rfl, hk, fun _ => rfl⟩,
      fun v H' r os' F' _ _ rr e => by subst e; simpa only [RepR, Rep] using rr, fun _ _ _ _ _ _ _ _ _ e => e⟩
  rcases h with h | h
  · refine out (fun b => b = a) (.lst (ns.map .int)) (fun b hb => ?_) ?_ ⟨hl, .inl rfl⟩
    · subst hb
      rcases h with h | ⟨o, h⟩
      · rw [h]; exact fun z => nomatch z
      · rw [h]; exact fun z => nomatch z
    · simp only [Rep]
      exact ⟨a, ns.map V.int, rfl, rfl, h, by rw [List.length_map]; exact Nat.le_trans hl (by decide), repL_ints ns⟩
  · exact out (fun _ => False) (.obj a) (fun _ hb => hb.elim) (by simp only [Rep]) ⟨hl, .inr ⟨a, rfl, h⟩⟩
end L2.TL.W

/-! text K07w -/
set_option Elab.async false
set_option linter.all false
set_option maxRecDepth 100000
set_option maxHeartbeats 4000000
namespace L2.TL.W
open PySem PySem.Spec PyProof.Rows L2.TL

def top (i : Nat) : Stmt := PySem.Challenge.pw_crowdsplit_k07_parts_by_own_counting.main.body.getD i (.Pass ⟨0, 0, 0, 0⟩)
structure Txt (K : PySem.W.Frag) (mg : Str → Option Value) (C : Cs) : Prop where
  b_abs : mg "abs" = none
  b_all : mg "all" = none
  b_bool : mg "bool" = none
  b_dict : mg "dict" = none
  b_enumerate : mg "enumerate" = none
  b_int : mg "int" = none
  b_isinstance : mg "isinstance" = none
  b_len : mg "len" = none
  b_list : mg "list" = none
  b_max : mg "max" = none
  b_range : mg "range" = none
  b_repr : mg "repr" = none
  b_sorted : mg "sorted" = none
  b_str : mg "str" = none
  b_tuple : mg "tuple" = none
  b_zip : mg "zip" = none
  m_Table : mg "Table" = some (.ref C.Table)
  k_Table : Cls K C.Table
  i_Table : InsF K C.Table
  m_World : mg "World" = some (.ref C.World)
  k_World : Cls K C.World
  i_World : InsF K C.World
  m_Split : mg "Split" = some (.ref C.Split)
  k_Split : Cls K C.Split
  i_Split : InsF K C.Split
  n_Split_column : NoAttr K C.Split "column"
  n_Split_table : NoAttr K C.Split "table"
  n_Split_threshold : NoAttr K C.Split "threshold"
  n_Table_name : NoAttr K C.Table "name"
  n_Table_width : NoAttr K C.Table "width"
  n_World_rows : NoAttr K C.World "rows"
  n_World_tables : NoAttr K C.World "tables"
  c_LETTERS : ∃ t, mg "LETTERS" = some (.str "abcdefghijklmnopqrstuvwxyz" t)
  c_MOST_BASE : ∃ t, mg "MOST_BASE" = some (.int (1000000) t)
  c_MOST_PART : ∃ t, mg "MOST_PART" = some (.int (9999) t)
  c_MOST_ROWS : ∃ t, mg "MOST_ROWS" = some (.int (20000) t)
  c_MOST_SIGNS : ∃ t, mg "MOST_SIGNS" = some (.int (8) t)
  c_MOST_TABLES : ∃ t, mg "MOST_TABLES" = some (.int (6) t)
  c_MOST_VALUE : ∃ t, mg "MOST_VALUE" = some (.int (1000000000000000000000000000000) t)
  c_MOST_WIDTH : ∃ t, mg "MOST_WIDTH" = some (.int (2) t)
section
variable {P : Program} {wd : World} {K : PySem.W.Frag} {mg : Str → Option Value} {base : Heap} {C : Cs}
abbrev s_is_integer : Stmt := top 11
theorem sc_is_integer : FnScope ["value"] ["value"] (defScope s_is_integer) := ⟨rfl, rfl, rfl, by decide +kernel, rfl, by decide +kernel, by decide +kernel⟩
def w_is_integer (K : PySem.W.Frag) (C : Cs) : WSx := (wRet (wAndV (wF (o2 (fIsi K)) (wCons (wV 0) (wCons (wC (.ty "int")) wNil))) (wNotV (wF (o2 (fIsi K)) (wCons (wV 0) (wCons (wC (.ty "bool")) wNil))))))
theorem b_is_integer (T : Txt K mg C) {f : Addr} (cdv : Value) (A : Around) (outer : List Env) (s : Shared) (H : Hp) (E : XK) (hr : Room 0 (A.deeper (envOfC "is_integer" (defScope s_is_integer) s.heap.objs.size f cdv))) :
    PSs (cxOf (L2.CX P wd) P wd K mg base ["value"] "is_integer" (defScope s_is_integer) f cdv A outer s H E) (defBody s_is_integer) (tS K (EW E) (w_is_integer K C)) := by
  have sc := sc_is_integer
  have tk : Takes (cxOf (L2.CX P wd) P wd K mg base ["value"] "is_integer" (defScope s_is_integer) f cdv A outer s H E) (EW E) := takes_of rfl rfl rfl rfl
  have pown : PassesOwn (model P wd) (cxOf (L2.CX P wd) P wd K mg base ["value"] "is_integer" (defScope s_is_integer) f cdv A outer s H E).A (cxOf (L2.CX P wd) P wd K mg base ["value"] "is_integer" (defScope s_is_integer) f cdv A outer s H E).env (cxOf (L2.CX P wd) P wd K mg base ["value"] "is_integer" (defScope s_is_integer) f cdv A outer s H E).xe := PassesOwn.leaving
  exact (ts_one (ts_ret (te_and (te_isi rfl (by rfl) T.b_isinstance (ta_cons (te_v 0) (ta_cons (te_ty "int" (by rfl) T.b_int (by decide +kernel)) ta_nil))) (te_one (te_not (te_isi rfl (by rfl) T.b_isinstance (ta_cons (te_v 0) (ta_cons (te_ty "bool" (by rfl) T.b_bool (by decide +kernel)) ta_nil))))))))
abbrev s_is_between : Stmt := top 12
theorem sc_is_between : FnScope ["value", "least", "most"] ["value", "least", "most"] (defScope s_is_between) := ⟨rfl, rfl, rfl, by decide +kernel, rfl, by decide +kernel, by decide +kernel⟩
def w_is_between (K : PySem.W.Frag) (C : Cs) : WSx := (wRet (wAndV (wCall (Φ_is_integer K C) (wCons (wV 0) wNil)) (wChain (fun i j => decide (i ≤ j)) (fun i j => decide (i ≤ j)) (wV 1) (wV 0) (wV 2))))
theorem b_is_between (T : Txt K mg C) (G_is_integer : Fn P wd K mg base 1 "is_integer" (Φ_is_integer K C)) {f : Addr} (cdv : Value) (A : Around) (outer : List Env) (s : Shared) (H : Hp) (E : XK) (hr : Room 1 (A.deeper (envOfC "is_between" (defScope s_is_between) s.heap.objs.size f cdv))) :
    PSs (cxOf (L2.CX P wd) P wd K mg base ["value", "least", "most"] "is_between" (defScope s_is_between) f cdv A outer s H E) (defBody s_is_between) (tS K (EW E) (w_is_between K C)) := by
  have sc := sc_is_between
  have tk : Takes (cxOf (L2.CX P wd) P wd K mg base ["value", "least", "most"] "is_between" (defScope s_is_between) f cdv A outer s H E) (EW E) := takes_of rfl rfl rfl rfl
  have pown : PassesOwn (model P wd) (cxOf (L2.CX P wd) P wd K mg base ["value", "least", "most"] "is_between" (defScope s_is_between) f cdv A outer s H E).A (cxOf (L2.CX P wd) P wd K mg base ["value", "least", "most"] "is_between" (defScope s_is_between) f cdv A outer s H E).env (cxOf (L2.CX P wd) P wd K mg base ["value", "least", "most"] "is_between" (defScope s_is_between) f cdv A outer s H E).xe := PassesOwn.leaving
  exact (ts_one (ts_ret (te_and (te_call G_is_integer hr tk (ta_cons (te_v 0) ta_nil)) (te_one (te_chain op_le op_le (te_v 1) (te_v 0) (te_v 2))))))
abbrev s_is_name : Stmt := top 13
theorem sc_is_name : FnScope ["value", "sign"] ["value"] (defScope s_is_name) := ⟨rfl, rfl, rfl, by decide +kernel, rfl, by decide +kernel, by decide +kernel⟩
def w_is_name (K : PySem.W.Frag) (C : Cs) : WSx := (wRet (wAndV (wF (o2 (fIsi K)) (wCons (wV 0) (wCons (wC (.ty "str")) wNil))) (wAndV (wChain (fun i j => decide (i ≤ j)) (fun i j => decide (i ≤ j)) (wC (.int 1)) (wF (o1 fLen) (wCons (wV 0) wNil)) (wC (.int (8)))) (wF (o1 (fAll fun bs => bs.all id)) (wCons (wLc (iOne iStrD (wV 0)) (gN 1) wYes (w2 (oIn false) (wV 1) (wC (.str ("abcdefghijklmnopqrstuvwxyz" : Str)))) [1]) wNil)))))
theorem b_is_name (T : Txt K mg C) {f : Addr} (cdv : Value) (A : Around) (outer : List Env) (s : Shared) (H : Hp) (E : XK) (hr : Room 0 (A.deeper (envOfC "is_name" (defScope s_is_name) s.heap.objs.size f cdv))) :
    PSs (cxOf (L2.CX P wd) P wd K mg base ["value", "sign"] "is_name" (defScope s_is_name) f cdv A outer s H E) (defBody s_is_name) (tS K (EW E) (w_is_name K C)) := by
  have sc := sc_is_name
  have tk : Takes (cxOf (L2.CX P wd) P wd K mg base ["value", "sign"] "is_name" (defScope s_is_name) f cdv A outer s H E) (EW E) := takes_of rfl rfl rfl rfl
  have pown : PassesOwn (model P wd) (cxOf (L2.CX P wd) P wd K mg base ["value", "sign"] "is_name" (defScope s_is_name) f cdv A outer s H E).A (cxOf (L2.CX P wd) P wd K mg base ["value", "sign"] "is_name" (defScope s_is_name) f cdv A outer s H E).env (cxOf (L2.CX P wd) P wd K mg base ["value", "sign"] "is_name" (defScope s_is_name) f cdv A outer s H E).xe := PassesOwn.leaving
  exact (ts_one (ts_ret (te_and (te_isi rfl (by rfl) T.b_isinstance (ta_cons (te_v 0) (ta_cons (te_ty "str" (by rfl) T.b_str (by decide +kernel)) ta_nil))) (te_and (te_chain op_le op_le te_int (te_len rfl (by rfl) T.b_len (ta_cons (te_v 0) ta_nil)) (te_gI T.c_MOST_SIGNS (by rfl))) (te_one (te_all rfl rfl (by rfl) T.b_all (ta_cons (te_lc rfl sc.nd (ti_str (te_v 0)) (blkOk_by (own := [("sign", 1)]) (by kernel_rfl)) (fun _ _ _ _ _ => (tg_name 1 sc.nd rfl (by first | exact Or.inl rfl | exact Or.inr rfl))) (fun _ _ _ _ _ => tts_nil) (fun _ _ _ _ _ => (te_in hr (te_v 1) (te_gS T.c_LETTERS (by rfl))))) ta_nil)))))))
abbrev s_is_listed : Stmt := top 14
theorem sc_is_listed : FnScope ["value"] ["value"] (defScope s_is_listed) := ⟨rfl, rfl, rfl, by decide +kernel, rfl, by decide +kernel, by decide +kernel⟩
def w_is_listed (K : PySem.W.Frag) (C : Cs) : WSx := (wRet (wF (o2 (fIsi K)) (wCons (wV 0) (wCons (wTup (wCons (wC (.ty "list")) (wCons (wC (.ty "tuple")) wNil))) wNil))))
theorem b_is_listed (T : Txt K mg C) {f : Addr} (cdv : Value) (A : Around) (outer : List Env) (s : Shared) (H : Hp) (E : XK) (hr : Room 0 (A.deeper (envOfC "is_listed" (defScope s_is_listed) s.heap.objs.size f cdv))) :
    PSs (cxOf (L2.CX P wd) P wd K mg base ["value"] "is_listed" (defScope s_is_listed) f cdv A outer s H E) (defBody s_is_listed) (tS K (EW E) (w_is_listed K C)) := by
  have sc := sc_is_listed
  have tk : Takes (cxOf (L2.CX P wd) P wd K mg base ["value"] "is_listed" (defScope s_is_listed) f cdv A outer s H E) (EW E) := takes_of rfl rfl rfl rfl
  have pown : PassesOwn (model P wd) (cxOf (L2.CX P wd) P wd K mg base ["value"] "is_listed" (defScope s_is_listed) f cdv A outer s H E).A (cxOf (L2.CX P wd) P wd K mg base ["value"] "is_listed" (defScope s_is_listed) f cdv A outer s H E).env (cxOf (L2.CX P wd) P wd K mg base ["value"] "is_listed" (defScope s_is_listed) f cdv A outer s H E).xe := PassesOwn.leaving
  exact (ts_one (ts_ret (te_isi rfl (by rfl) T.b_isinstance (ta_cons (te_v 0) (ta_cons (te_tup (ta_cons (te_ty "list" (by rfl) T.b_list (by decide +kernel)) (ta_cons (te_ty "tuple" (by rfl) T.b_tuple (by decide +kernel)) ta_nil))) ta_nil)))))
abbrev s_is_row : Stmt := top 15
theorem sc_is_row : FnScope ["value", "least", "most"] ["value", "least", "most"] (defScope s_is_row) := ⟨rfl, rfl, rfl, by decide +kernel, rfl, by decide +kernel, by decide +kernel⟩
def w_is_row (K : PySem.W.Frag) (C : Cs) : WSx := (wRet (wAndV (wCall (Φ_is_listed K C) (wCons (wV 0) wNil)) (wChain (fun i j => decide (i ≤ j)) (fun i j => decide (i ≤ j)) (wV 1) (wF (o1 fLen) (wCons (wV 0) wNil)) (wV 2))))
theorem b_is_row (T : Txt K mg C) (G_is_listed : Fn P wd K mg base 1 "is_listed" (Φ_is_listed K C)) {f : Addr} (cdv : Value) (A : Around) (outer : List Env) (s : Shared) (H : Hp) (E : XK) (hr : Room 1 (A.deeper (envOfC "is_row" (defScope s_is_row) s.heap.objs.size f cdv))) :
    PSs (cxOf (L2.CX P wd) P wd K mg base ["value", "least", "most"] "is_row" (defScope s_is_row) f cdv A outer s H E) (defBody s_is_row) (tS K (EW E) (w_is_row K C)) := by
  have sc := sc_is_row
  have tk : Takes (cxOf (L2.CX P wd) P wd K mg base ["value", "least", "most"] "is_row" (defScope s_is_row) f cdv A outer s H E) (EW E) := takes_of rfl rfl rfl rfl
  have pown : PassesOwn (model P wd) (cxOf (L2.CX P wd) P wd K mg base ["value", "least", "most"] "is_row" (defScope s_is_row) f cdv A outer s H E).A (cxOf (L2.CX P wd) P wd K mg base ["value", "least", "most"] "is_row" (defScope s_is_row) f cdv A outer s H E).env (cxOf (L2.CX P wd) P wd K mg base ["value", "least", "most"] "is_row" (defScope s_is_row) f cdv A outer s H E).xe := PassesOwn.leaving
  exact (ts_one (ts_ret (te_and (te_call G_is_listed hr tk (ta_cons (te_v 0) ta_nil)) (te_one (te_chain op_le op_le (te_v 1) (te_len rfl (by rfl) T.b_len (ta_cons (te_v 0) ta_nil)) (te_v 2))))))
abbrev s_common_part : Stmt := top 16
theorem sc_common_part : FnScope ["one", "other"] ["one", "other"] (defScope s_common_part) := ⟨rfl, rfl, rfl, by decide +kernel, rfl, by decide +kernel, by decide +kernel⟩
def w_common_part (K : PySem.W.Frag) (C : Cs) : WSx := (wSeq (wWhile (wT (w2 oGt (wV 1) (wC (.int 0)))) (wParG false false 0 1 (wV 1) (w2 oMod (wV 0) (wV 1)))) (wRet (wF (o2 (fII fun i j => if j > i then j else i)) (wCons (wV 0) (wCons (wC (.int 1)) wNil)))))
theorem b_common_part (T : Txt K mg C) {f : Addr} (cdv : Value) (A : Around) (outer : List Env) (s : Shared) (H : Hp) (E : XK) (hr : Room 0 (A.deeper (envOfC "common_part" (defScope s_common_part) s.heap.objs.size f cdv))) :
    PSs (cxOf (L2.CX P wd) P wd K mg base ["one", "other"] "common_part" (defScope s_common_part) f cdv A outer s H E) (defBody s_common_part) (tS K (EW E) (w_common_part K C)) := by
  have sc := sc_common_part
  have tk : Takes (cxOf (L2.CX P wd) P wd K mg base ["one", "other"] "common_part" (defScope s_common_part) f cdv A outer s H E) (EW E) := takes_of rfl rfl rfl rfl
  have pown : PassesOwn (model P wd) (cxOf (L2.CX P wd) P wd K mg base ["one", "other"] "common_part" (defScope s_common_part) f cdv A outer s H E).A (cxOf (L2.CX P wd) P wd K mg base ["one", "other"] "common_part" (defScope s_common_part) f cdv A outer s H E).env (cxOf (L2.CX P wd) P wd K mg base ["one", "other"] "common_part" (defScope s_common_part) f cdv A outer s H E).xe := PassesOwn.leaving
  exact (ts_cons (ts_while pown (tb_gt (te_v 1) te_int) (ts_one (ts_parG false false 0 1 rfl sc.nd rfl rfl (by decide) rfl rfl (te_v 1) (te_mod (te_v 0) (te_v 1)))))
      (ts_one (ts_ret (te_max rfl rfl (by rfl) T.b_max (ta_cons (te_v 0) (ta_cons te_int ta_nil))))))
abbrev s_lowest : Stmt := top 17
theorem sc_lowest : FnScope ["top", "bottom", "part"] ["top", "bottom"] (defScope s_lowest) := ⟨rfl, rfl, rfl, by decide +kernel, rfl, by decide +kernel, by decide +kernel⟩
def w_lowest (K : PySem.W.Frag) (C : Cs) : WSx := (wSeq (wSet 2 (wCall (Φ_common_part K C) (wCons (wV 0) (wCons (wV 1) wNil)))) (wRet (wTup (wCons (w2 oDivW (wV 0) (wV 2)) (wCons (w2 oDivW (wV 1) (wV 2)) wNil)))))
theorem b_lowest (T : Txt K mg C) (G_common_part : Fn P wd K mg base 1 "common_part" (Φ_common_part K C)) {f : Addr} (cdv : Value) (A : Around) (outer : List Env) (s : Shared) (H : Hp) (E : XK) (hr : Room 1 (A.deeper (envOfC "lowest" (defScope s_lowest) s.heap.objs.size f cdv))) :
    PSs (cxOf (L2.CX P wd) P wd K mg base ["top", "bottom", "part"] "lowest" (defScope s_lowest) f cdv A outer s H E) (defBody s_lowest) (tS K (EW E) (w_lowest K C)) := by
  have sc := sc_lowest
  have tk : Takes (cxOf (L2.CX P wd) P wd K mg base ["top", "bottom", "part"] "lowest" (defScope s_lowest) f cdv A outer s H E) (EW E) := takes_of rfl rfl rfl rfl
  have pown : PassesOwn (model P wd) (cxOf (L2.CX P wd) P wd K mg base ["top", "bottom", "part"] "lowest" (defScope s_lowest) f cdv A outer s H E).A (cxOf (L2.CX P wd) P wd K mg base ["top", "bottom", "part"] "lowest" (defScope s_lowest) f cdv A outer s H E).env (cxOf (L2.CX P wd) P wd K mg base ["top", "bottom", "part"] "lowest" (defScope s_lowest) f cdv A outer s H E).xe := PassesOwn.leaving
  exact (ts_cons (ts_set 2 sc.nd rfl (by first | exact Or.inl rfl | exact Or.inr rfl) (te_call G_common_part hr tk (ta_cons (te_v 0) (ta_cons (te_v 1) ta_nil))))
      (ts_one (ts_ret (te_tup (ta_cons (te_divW (te_v 0) (te_v 2)) (ta_cons (te_divW (te_v 1) (te_v 2)) ta_nil))))))
abbrev s_power : Stmt := top 19
theorem sc_power : FnScope ["number", "many", "found"] ["number", "many"] (defScope s_power) := ⟨rfl, rfl, rfl, by decide +kernel, rfl, by decide +kernel, by decide +kernel⟩
def w_power (K : PySem.W.Frag) (C : Cs) : WSx := (wSeq (wSet 2 (wC (.int 1))) (wSeq (wWhile (wT (w2 oGt (wV 1) (wC (.int 0)))) (wSeq (wIfS (wT (w2 (oEq false) (w2 oMod (wV 1) (wC (.int 2))) (wC (.int 1)))) (wSet 2 (w2 oMulW (wV 2) (wV 0))) wNext) (wSeq (wSet 1 (w2 oDivW (wV 1) (wC (.int 2)))) (wIfS (wT (w2 oGt (wV 1) (wC (.int 0)))) (wSet 0 (w2 oMulW (wV 0) (wV 0))) wNext)))) (wRet (wV 2))))
theorem b_power (T : Txt K mg C) {f : Addr} (cdv : Value) (A : Around) (outer : List Env) (s : Shared) (H : Hp) (E : XK) (hr : Room 0 (A.deeper (envOfC "power" (defScope s_power) s.heap.objs.size f cdv))) :
    PSs (cxOf (L2.CX P wd) P wd K mg base ["number", "many", "found"] "power" (defScope s_power) f cdv A outer s H E) (defBody s_power) (tS K (EW E) (w_power K C)) := by
  have sc := sc_power
  have tk : Takes (cxOf (L2.CX P wd) P wd K mg base ["number", "many", "found"] "power" (defScope s_power) f cdv A outer s H E) (EW E) := takes_of rfl rfl rfl rfl
  have pown : PassesOwn (model P wd) (cxOf (L2.CX P wd) P wd K mg base ["number", "many", "found"] "power" (defScope s_power) f cdv A outer s H E).A (cxOf (L2.CX P wd) P wd K mg base ["number", "many", "found"] "power" (defScope s_power) f cdv A outer s H E).env (cxOf (L2.CX P wd) P wd K mg base ["number", "many", "found"] "power" (defScope s_power) f cdv A outer s H E).xe := PassesOwn.leaving
  exact (ts_cons (ts_set 2 sc.nd rfl (by first | exact Or.inl rfl | exact Or.inr rfl) te_int)
      (ts_cons (ts_while pown (tb_gt (te_v 1) te_int) (ts_cons (ts_if (tb_eq hr (te_mod (te_v 1) te_int) te_int) (ts_one (ts_set 2 sc.nd rfl (by first | exact Or.inl rfl | exact Or.inr rfl) (te_mulW (te_v 2) (te_v 0)))) ts_nil)
      (ts_cons (ts_set 1 sc.nd rfl (by first | exact Or.inl rfl | exact Or.inr rfl) (te_divW (te_v 1) te_int))
      (ts_one (ts_if (tb_gt (te_v 1) te_int) (ts_one (ts_set 0 sc.nd rfl (by first | exact Or.inl rfl | exact Or.inr rfl) (te_mulW (te_v 0) (te_v 0)))) ts_nil)))))
      (ts_one (ts_ret (te_v 2)))))
abbrev s_is_at_most : Stmt := top 20
theorem sc_is_at_most : FnScope ["number", "base", "threshold", "top", "bottom"] ["number", "base", "threshold"] (defScope s_is_at_most) := ⟨rfl, rfl, rfl, by decide +kernel, rfl, by decide +kernel, by decide +kernel⟩
def w_is_at_most (K : PySem.W.Frag) (C : Cs) : WSx := (wSeq (wAsgT (gT (gsCons (gN 3) (gsCons (gN 4) gsNil))) (wV 2)) (wRet (w2 oLe (wCall (Φ_power K C) (wCons (wV 0) (wCons (wV 4) wNil))) (wCall (Φ_power K C) (wCons (wV 1) (wCons (wV 3) wNil))))))
theorem b_is_at_most (T : Txt K mg C) (G_power : Fn P wd K mg base 1 "power" (Φ_power K C)) {f : Addr} (cdv : Value) (A : Around) (outer : List Env) (s : Shared) (H : Hp) (E : XK) (hr : Room 1 (A.deeper (envOfC "is_at_most" (defScope s_is_at_most) s.heap.objs.size f cdv))) :
    PSs (cxOf (L2.CX P wd) P wd K mg base ["number", "base", "threshold", "top", "bottom"] "is_at_most" (defScope s_is_at_most) f cdv A outer s H E) (defBody s_is_at_most) (tS K (EW E) (w_is_at_most K C)) := by
  have sc := sc_is_at_most
  have tk : Takes (cxOf (L2.CX P wd) P wd K mg base ["number", "base", "threshold", "top", "bottom"] "is_at_most" (defScope s_is_at_most) f cdv A outer s H E) (EW E) := takes_of rfl rfl rfl rfl
  have pown : PassesOwn (model P wd) (cxOf (L2.CX P wd) P wd K mg base ["number", "base", "threshold", "top", "bottom"] "is_at_most" (defScope s_is_at_most) f cdv A outer s H E).A (cxOf (L2.CX P wd) P wd K mg base ["number", "base", "threshold", "top", "bottom"] "is_at_most" (defScope s_is_at_most) f cdv A outer s H E).env (cxOf (L2.CX P wd) P wd K mg base ["number", "base", "threshold", "top", "bottom"] "is_at_most" (defScope s_is_at_most) f cdv A outer s H E).xe := PassesOwn.leaving
  exact (ts_cons (ts_asgT (te_v 2) (tg_tup 2 rfl (tgs_cons (tg_name 3 sc.nd rfl (by first | exact Or.inl rfl | exact Or.inr rfl)) (tgs_cons (tg_name 4 sc.nd rfl (by first | exact Or.inl rfl | exact Or.inr rfl)) tgs_nil)) gs2))
      (ts_one (ts_ret (te_le (te_call G_power hr tk (ta_cons (te_v 0) (ta_cons (te_v 4) ta_nil))) (te_call G_power hr tk (ta_cons (te_v 1) (ta_cons (te_v 3) ta_nil)))))))
abbrev s_Table_init : Stmt := inClass (top 23) 0
theorem sc_Table_init : FnScope ["self", "name", "width"] ["self", "name", "width"] (defScope s_Table_init) := ⟨rfl, rfl, rfl, by decide +kernel, rfl, by decide +kernel, by decide +kernel⟩
def w_Table_init (K : PySem.W.Frag) (C : Cs) : WSx := (wSeq (wIfS (wNot (wT (wCall (Φ_is_name K C) (wCons (wV 1) wNil)))) (fun _ _ => False) wNext) (wSeq (wIfS (wNot (wT (wCall (Φ_is_between K C) (wCons (wV 2) (wCons (wC (.int 1)) (wCons (wC (.int (2))) wNil)))))) (fun _ _ => False) wNext) (wAsgE (geT (geCons (geF 0 C.Table "name") (geCons (geF 0 C.Table "width") geNil))) (wTup (wCons (wV 1) (wCons (wV 2) wNil))))))
theorem b_Table_init (T : Txt K mg C) (G_is_between : Fn P wd K mg base 2 "is_between" (Φ_is_between K C)) (G_is_name : Fn P wd K mg base 1 "is_name" (Φ_is_name K C)) {f : Addr} (cdv : Value) (A : Around) (outer : List Env) (s : Shared) (H : Hp) (E : XK) (hr : Room 2 (A.deeper (envOfC "Table.__init__" (defScope s_Table_init) s.heap.objs.size f cdv))) :
    PSs (cxOf (L2.CX P wd) P wd K mg base ["self", "name", "width"] "Table.__init__" (defScope s_Table_init) f cdv A outer s H E) (defBody s_Table_init) (tS K (EW E) (w_Table_init K C)) := by
  have sc := sc_Table_init
  have tk : Takes (cxOf (L2.CX P wd) P wd K mg base ["self", "name", "width"] "Table.__init__" (defScope s_Table_init) f cdv A outer s H E) (EW E) := takes_of rfl rfl rfl rfl
  have pown : PassesOwn (model P wd) (cxOf (L2.CX P wd) P wd K mg base ["self", "name", "width"] "Table.__init__" (defScope s_Table_init) f cdv A outer s H E).A (cxOf (L2.CX P wd) P wd K mg base ["self", "name", "width"] "Table.__init__" (defScope s_Table_init) f cdv A outer s H E).env (cxOf (L2.CX P wd) P wd K mg base ["self", "name", "width"] "Table.__init__" (defScope s_Table_init) f cdv A outer s H E).xe := PassesOwn.leaving
  exact (ts_cons (ts_if (tb_not (tb_val (te_call G_is_name hr tk (ta_cons (te_v 1) ta_nil)))) tss_never ts_nil)
      (ts_cons (ts_if (tb_not (tb_val (te_call G_is_between hr tk (ta_cons (te_v 2) (ta_cons te_int (ta_cons (te_gI T.c_MOST_WIDTH (by rfl)) ta_nil)))))) tss_never ts_nil)
      (ts_one (ts_asgE (te_tup (ta_cons (te_v 1) (ta_cons (te_v 2) ta_nil))) (tge_tup 2 rfl (tges_cons (tge_fld 0 T.k_Table T.n_Table_name) (tges_cons (tge_fld 0 T.k_Table T.n_Table_width) tges_nil)) ge2)))))
abbrev s_Table_eq : Stmt := inClass (top 23) 1
theorem sc_Table_eq : FnScope ["self", "other"] ["self", "other"] (defScope s_Table_eq) := ⟨rfl, rfl, rfl, by decide +kernel, rfl, by decide +kernel, by decide +kernel⟩
def w_Table_eq (K : PySem.W.Frag) (C : Cs) : WSx := (wRet (wAndV (wF (o2 (fIsi K)) (wCons (wV 1) (wCons (wC (.obj C.Table)) wNil))) (w2 (oEq false) (wTup (wCons (wFld K "name" (wV 0)) (wCons (wFld K "width" (wV 0)) wNil))) (wTup (wCons (wFld K "name" (wV 1)) (wCons (wFld K "width" (wV 1)) wNil))))))
theorem b_Table_eq (T : Txt K mg C) {f : Addr} (cdv : Value) (A : Around) (outer : List Env) (s : Shared) (H : Hp) (E : XK) (hr : Room 0 (A.deeper (envOfC "Table.__eq__" (defScope s_Table_eq) s.heap.objs.size f cdv))) :
    PSs (cxOf (L2.CX P wd) P wd K mg base ["self", "other"] "Table.__eq__" (defScope s_Table_eq) f cdv A outer s H E) (defBody s_Table_eq) (tS K (EW E) (w_Table_eq K C)) := by
  have sc := sc_Table_eq
  have tk : Takes (cxOf (L2.CX P wd) P wd K mg base ["self", "other"] "Table.__eq__" (defScope s_Table_eq) f cdv A outer s H E) (EW E) := takes_of rfl rfl rfl rfl
  have pown : PassesOwn (model P wd) (cxOf (L2.CX P wd) P wd K mg base ["self", "other"] "Table.__eq__" (defScope s_Table_eq) f cdv A outer s H E).A (cxOf (L2.CX P wd) P wd K mg base ["self", "other"] "Table.__eq__" (defScope s_Table_eq) f cdv A outer s H E).env (cxOf (L2.CX P wd) P wd K mg base ["self", "other"] "Table.__eq__" (defScope s_Table_eq) f cdv A outer s H E).xe := PassesOwn.leaving
  exact (ts_one (ts_ret (te_and (te_isi rfl (by rfl) T.b_isinstance (ta_cons (te_v 1) (ta_cons (te_gC T.m_Table (by rfl)) ta_nil))) (te_one (te_eq hr (te_tup (ta_cons (te_fld (te_v 0)) (ta_cons (te_fld (te_v 0)) ta_nil))) (te_tup (ta_cons (te_fld (te_v 1)) (ta_cons (te_fld (te_v 1)) ta_nil))))))))
abbrev s_are_tables : Stmt := top 24
theorem sc_are_tables : FnScope ["value", "most", "one"] ["value", "most"] (defScope s_are_tables) := ⟨rfl, rfl, rfl, by decide +kernel, rfl, by decide +kernel, by decide +kernel⟩
def w_are_tables (K : PySem.W.Frag) (C : Cs) : WSx := (wSeq (wIfS (wOr (wNot (wT (wCall (Φ_is_row K C) (wCons (wV 0) (wCons (wC (.int 1)) (wCons (wV 1) wNil)))))) (wNot (wT (wF (o1 (fAll fun bs => bs.all id)) (wCons (wLc (iSeq (wV 0)) (gN 2) wYes (wF (o2 (fIsi K)) (wCons (wV 2) (wCons (wC (.obj C.Table)) wNil))) [2]) wNil))))) (wRet (wC (.bl false))) wNext) (wRet (w2 (oEq false) (wF (o1 fLen) (wCons (wDc (iSeq (wV 0)) (gN 2) wYes (wFld K "name" (wV 2)) (wC (.bl true)) [2]) wNil)) (wF (o1 fLen) (wCons (wV 0) wNil)))))
theorem b_are_tables (T : Txt K mg C) (G_is_row : Fn P wd K mg base 2 "is_row" (Φ_is_row K C)) {f : Addr} (cdv : Value) (A : Around) (outer : List Env) (s : Shared) (H : Hp) (E : XK) (hr : Room 2 (A.deeper (envOfC "are_tables" (defScope s_are_tables) s.heap.objs.size f cdv))) :
    PSs (cxOf (L2.CX P wd) P wd K mg base ["value", "most", "one"] "are_tables" (defScope s_are_tables) f cdv A outer s H E) (defBody s_are_tables) (tS K (EW E) (w_are_tables K C)) := by
  have sc := sc_are_tables
  have tk : Takes (cxOf (L2.CX P wd) P wd K mg base ["value", "most", "one"] "are_tables" (defScope s_are_tables) f cdv A outer s H E) (EW E) := takes_of rfl rfl rfl rfl
  have pown : PassesOwn (model P wd) (cxOf (L2.CX P wd) P wd K mg base ["value", "most", "one"] "are_tables" (defScope s_are_tables) f cdv A outer s H E).A (cxOf (L2.CX P wd) P wd K mg base ["value", "most", "one"] "are_tables" (defScope s_are_tables) f cdv A outer s H E).env (cxOf (L2.CX P wd) P wd K mg base ["value", "most", "one"] "are_tables" (defScope s_are_tables) f cdv A outer s H E).xe := PassesOwn.leaving
  exact (ts_cons (ts_if (PW.pt (tw_or (tb_not (tb_val (te_call G_is_row hr tk (ta_cons (te_v 0) (ta_cons te_int (ta_cons (te_v 1) ta_nil)))))) (tw_or1 (tb_not (tb_val (te_all rfl rfl (by rfl) T.b_all (ta_cons (te_lc rfl sc.nd (ti_seq (te_v 0)) (blkOk_by (own := [("one", 2)]) (by kernel_rfl)) (fun _ _ _ _ _ => (tg_name 2 sc.nd rfl (by first | exact Or.inl rfl | exact Or.inr rfl))) (fun _ _ _ _ _ => tts_nil) (fun _ _ _ _ _ => (te_isi rfl (by rfl) T.b_isinstance (ta_cons (te_v 2) (ta_cons (te_gC T.m_Table (by rfl)) ta_nil))))) ta_nil))))))) (ts_one (ts_ret te_bl)) ts_nil)
      (ts_one (ts_ret (te_eq hr (te_len rfl (by rfl) T.b_len (ta_cons (te_dc rfl sc.nd (ti_seq (te_v 0)) (blkOk_by (own := [("one", 2)]) (by kernel_rfl)) (fun _ _ _ _ _ => (tg_name 2 sc.nd rfl (by first | exact Or.inl rfl | exact Or.inr rfl))) (fun _ _ _ _ _ => tts_nil) (fun _ _ _ _ _ => (te_fld (te_v 2))) (fun _ _ _ _ _ => te_bl)) ta_nil)) (te_len rfl (by rfl) T.b_len (ta_cons (te_v 0) ta_nil))))))
abbrev s_by_names : Stmt := top 25
theorem sc_by_names : FnScope ["tables", "one"] ["tables"] (defScope s_by_names) := ⟨rfl, rfl, rfl, by decide +kernel, rfl, by decide +kernel, by decide +kernel⟩
def w_by_names (K : PySem.W.Frag) (C : Cs) : WSx := (wRet (wDc (iSeq (wV 0)) (gN 1) wYes (wFld K "name" (wV 1)) (wV 1) [1]))
theorem b_by_names (T : Txt K mg C) {f : Addr} (cdv : Value) (A : Around) (outer : List Env) (s : Shared) (H : Hp) (E : XK) (hr : Room 0 (A.deeper (envOfC "by_names" (defScope s_by_names) s.heap.objs.size f cdv))) :
    PSs (cxOf (L2.CX P wd) P wd K mg base ["tables", "one"] "by_names" (defScope s_by_names) f cdv A outer s H E) (defBody s_by_names) (tS K (EW E) (w_by_names K C)) := by
  have sc := sc_by_names
  have tk : Takes (cxOf (L2.CX P wd) P wd K mg base ["tables", "one"] "by_names" (defScope s_by_names) f cdv A outer s H E) (EW E) := takes_of rfl rfl rfl rfl
  have pown : PassesOwn (model P wd) (cxOf (L2.CX P wd) P wd K mg base ["tables", "one"] "by_names" (defScope s_by_names) f cdv A outer s H E).A (cxOf (L2.CX P wd) P wd K mg base ["tables", "one"] "by_names" (defScope s_by_names) f cdv A outer s H E).env (cxOf (L2.CX P wd) P wd K mg base ["tables", "one"] "by_names" (defScope s_by_names) f cdv A outer s H E).xe := PassesOwn.leaving
  exact (ts_one (ts_ret (te_dc rfl sc.nd (ti_seq (te_v 0)) (blkOk_by (own := [("one", 1)]) (by kernel_rfl)) (fun _ _ _ _ _ => (tg_name 1 sc.nd rfl (by first | exact Or.inl rfl | exact Or.inr rfl))) (fun _ _ _ _ _ => tts_nil) (fun _ _ _ _ _ => (te_fld (te_v 1))) (fun _ _ _ _ _ => (te_v 1)))))
abbrev s_is_row_of : Stmt := top 30
theorem sc_is_row_of : FnScope ["table", "value", "one"] ["table", "value"] (defScope s_is_row_of) := ⟨rfl, rfl, rfl, by decide +kernel, rfl, by decide +kernel, by decide +kernel⟩
def w_is_row_of (K : PySem.W.Frag) (C : Cs) : WSx := (wSeq (wIfS (wNot (wT (wCall (Φ_is_row K C) (wCons (wV 1) (wCons (wFld K "width" (wV 0)) (wCons (wFld K "width" (wV 0)) wNil)))))) (wRet (wC (.bl false))) wNext) (wRet (wF (o1 (fAll fun bs => bs.all id)) (wCons (wLc (iSeq (wV 1)) (gN 2) wYes (wCall (Φ_is_between K C) (wCons (wV 2) (wCons (wNeg (wC (.int (1000000000000000000000000000000)))) (wCons (wC (.int (1000000000000000000000000000000))) wNil)))) [2]) wNil))))
theorem b_is_row_of (T : Txt K mg C) (G_is_between : Fn P wd K mg base 2 "is_between" (Φ_is_between K C)) (G_is_row : Fn P wd K mg base 2 "is_row" (Φ_is_row K C)) {f : Addr} (cdv : Value) (A : Around) (outer : List Env) (s : Shared) (H : Hp) (E : XK) (hr : Room 2 (A.deeper (envOfC "is_row_of" (defScope s_is_row_of) s.heap.objs.size f cdv))) :
    PSs (cxOf (L2.CX P wd) P wd K mg base ["table", "value", "one"] "is_row_of" (defScope s_is_row_of) f cdv A outer s H E) (defBody s_is_row_of) (tS K (EW E) (w_is_row_of K C)) := by
  have sc := sc_is_row_of
  have tk : Takes (cxOf (L2.CX P wd) P wd K mg base ["table", "value", "one"] "is_row_of" (defScope s_is_row_of) f cdv A outer s H E) (EW E) := takes_of rfl rfl rfl rfl
  have pown : PassesOwn (model P wd) (cxOf (L2.CX P wd) P wd K mg base ["table", "value", "one"] "is_row_of" (defScope s_is_row_of) f cdv A outer s H E).A (cxOf (L2.CX P wd) P wd K mg base ["table", "value", "one"] "is_row_of" (defScope s_is_row_of) f cdv A outer s H E).env (cxOf (L2.CX P wd) P wd K mg base ["table", "value", "one"] "is_row_of" (defScope s_is_row_of) f cdv A outer s H E).xe := PassesOwn.leaving
  exact (ts_cons (ts_if (tb_not (tb_val (te_call G_is_row hr tk (ta_cons (te_v 1) (ta_cons (te_fld (te_v 0)) (ta_cons (te_fld (te_v 0)) ta_nil)))))) (ts_one (ts_ret te_bl)) ts_nil)
      (ts_one (ts_ret (te_all rfl rfl (by rfl) T.b_all (ta_cons (te_lc rfl sc.nd (ti_seq (te_v 1)) (blkOk_by (own := [("one", 2)]) (by kernel_rfl)) (fun _ _ _ _ _ => (tg_name 2 sc.nd rfl (by first | exact Or.inl rfl | exact Or.inr rfl))) (fun _ _ _ _ _ => tts_nil) (fun _ _ _ _ _ => (te_call G_is_between hr takes00 (ta_cons (te_v 2) (ta_cons (te_neg (te_gI T.c_MOST_VALUE (by rfl))) (ta_cons (te_gI T.c_MOST_VALUE (by rfl)) ta_nil)))))) ta_nil)))))
abbrev s_are_rows_of : Stmt := top 31
theorem sc_are_rows_of : FnScope ["table", "value", "row"] ["table", "value"] (defScope s_are_rows_of) := ⟨rfl, rfl, rfl, by decide +kernel, rfl, by decide +kernel, by decide +kernel⟩
def w_are_rows_of (K : PySem.W.Frag) (C : Cs) : WSx := (wSeq (wIfS (wOr (wNot (wT (wCall (Φ_is_listed K C) (wCons (wV 1) wNil)))) (wNot (wT (wF (o1 (fAll fun bs => bs.all id)) (wCons (wLc (iSeq (wV 1)) (gN 2) wYes (wCall (Φ_is_row_of K C) (wCons (wV 0) (wCons (wV 2) wNil))) [2]) wNil))))) (wRet (wC (.bl false))) wNext) (wRet (w2 oLe (wF (o1 fLen) (wCons (wDcT (iSeq (wV 1)) (gN 2) wYes (wF (o1 fTup) (wCons (wV 2) wNil)) (wC (.bl true)) [2]) wNil)) (wC (.int (20000))))))
theorem b_are_rows_of (T : Txt K mg C) (G_is_listed : Fn P wd K mg base 1 "is_listed" (Φ_is_listed K C)) (G_is_row_of : Fn P wd K mg base 3 "is_row_of" (Φ_is_row_of K C)) {f : Addr} (cdv : Value) (A : Around) (outer : List Env) (s : Shared) (H : Hp) (E : XK) (hr : Room 3 (A.deeper (envOfC "are_rows_of" (defScope s_are_rows_of) s.heap.objs.size f cdv))) :
    PSs (cxOf (L2.CX P wd) P wd K mg base ["table", "value", "row"] "are_rows_of" (defScope s_are_rows_of) f cdv A outer s H E) (defBody s_are_rows_of) (tS K (EW E) (w_are_rows_of K C)) := by
  have sc := sc_are_rows_of
  have tk : Takes (cxOf (L2.CX P wd) P wd K mg base ["table", "value", "row"] "are_rows_of" (defScope s_are_rows_of) f cdv A outer s H E) (EW E) := takes_of rfl rfl rfl rfl
  have pown : PassesOwn (model P wd) (cxOf (L2.CX P wd) P wd K mg base ["table", "value", "row"] "are_rows_of" (defScope s_are_rows_of) f cdv A outer s H E).A (cxOf (L2.CX P wd) P wd K mg base ["table", "value", "row"] "are_rows_of" (defScope s_are_rows_of) f cdv A outer s H E).env (cxOf (L2.CX P wd) P wd K mg base ["table", "value", "row"] "are_rows_of" (defScope s_are_rows_of) f cdv A outer s H E).xe := PassesOwn.leaving
  exact (ts_cons (ts_if (PW.pt (tw_or (tb_not (tb_val (te_call G_is_listed hr tk (ta_cons (te_v 1) ta_nil)))) (tw_or1 (tb_not (tb_val (te_all rfl rfl (by rfl) T.b_all (ta_cons (te_lc rfl sc.nd (ti_seq (te_v 1)) (blkOk_by (own := [("row", 2)]) (by kernel_rfl)) (fun _ _ _ _ _ => (tg_name 2 sc.nd rfl (by first | exact Or.inl rfl | exact Or.inr rfl))) (fun _ _ _ _ _ => tts_nil) (fun _ _ _ _ _ => (te_call G_is_row_of hr takes00 (ta_cons (te_v 0) (ta_cons (te_v 2) ta_nil))))) ta_nil))))))) (ts_one (ts_ret te_bl)) ts_nil)
      (ts_one (ts_ret (te_le (te_len rfl (by rfl) T.b_len (ta_cons (te_dcT hr rfl sc.nd (ti_seq (te_v 1)) (blkOk_by (own := [("row", 2)]) (by kernel_rfl)) (fun _ _ _ _ _ => (tg_name 2 sc.nd rfl (by first | exact Or.inl rfl | exact Or.inr rfl))) (fun _ _ _ _ _ => tts_nil) (fun _ _ _ _ _ => (te_toTup rfl (by rfl) T.b_tuple (ta_cons (te_v 2) ta_nil))) (fun _ _ _ _ _ => te_bl)) ta_nil)) (te_gI T.c_MOST_ROWS (by rfl))))))
abbrev s_World_init : Stmt := inClass (top 32) 0
theorem sc_World_init : FnScope ["self", "tables", "rows", "table", "some", "row"] ["self", "tables", "rows"] (defScope s_World_init) := ⟨rfl, rfl, rfl, by decide +kernel, rfl, by decide +kernel, by decide +kernel⟩
def w_World_init (K : PySem.W.Frag) (C : Cs) : WSx := (wSeq (wIfS (wNot (wT (wCall (Φ_are_tables K C) (wCons (wV 1) (wCons (wC (.int (6))) wNil))))) (fun _ _ => False) wNext) (wSeq (wIfS (wNot (wT (wCall (Φ_is_row K C) (wCons (wV 2) (wCons (wF (o1 fLen) (wCons (wV 1) wNil)) (wCons (wF (o1 fLen) (wCons (wV 1) wNil)) wNil)))))) (fun _ _ => False) wNext) (wSeq (wIfS (wNot (wT (wF (o1 (fAll fun bs => bs.all id)) (wCons (wLc (iZip (wV 1) (wV 2)) (gT (gsCons (gN 3) (gsCons (gN 4) gsNil))) wYes (wCall (Φ_are_rows_of K C) (wCons (wV 3) (wCons (wV 4) wNil))) [3, 4]) wNil)))) (fun _ _ => False) wNext) (wSeq (wAsgE (geF 0 C.World "tables") (wF (o1 fTup) (wCons (wV 1) wNil))) (wAsgE (geF 0 C.World "rows") (wF (o1 fTup) (wCons (wLc (iSeq (wV 2)) (gN 4) wYes (wF (o1 fTup) (wCons (wF (o1 fSortA) (wCons (wDcT (iSeq (wV 4)) (gN 5) wYes (wF (o1 fTup) (wCons (wV 5) wNil)) (wC (.bl true)) [5]) wNil)) wNil)) [4]) wNil)))))))
theorem b_World_init (T : Txt K mg C) (G_are_rows_of : Fn P wd K mg base 4 "are_rows_of" (Φ_are_rows_of K C)) (G_are_tables : Fn P wd K mg base 3 "are_tables" (Φ_are_tables K C)) (G_is_row : Fn P wd K mg base 2 "is_row" (Φ_is_row K C)) {f : Addr} (cdv : Value) (A : Around) (outer : List Env) (s : Shared) (H : Hp) (E : XK) (hr : Room 4 (A.deeper (envOfC "World.__init__" (defScope s_World_init) s.heap.objs.size f cdv))) :
    PSs (cxOf (L2.CX P wd) P wd K mg base ["self", "tables", "rows", "table", "some", "row"] "World.__init__" (defScope s_World_init) f cdv A outer s H E) (defBody s_World_init) (tS K (EW E) (w_World_init K C)) := by
  have sc := sc_World_init
  have tk : Takes (cxOf (L2.CX P wd) P wd K mg base ["self", "tables", "rows", "table", "some", "row"] "World.__init__" (defScope s_World_init) f cdv A outer s H E) (EW E) := takes_of rfl rfl rfl rfl
  have pown : PassesOwn (model P wd) (cxOf (L2.CX P wd) P wd K mg base ["self", "tables", "rows", "table", "some", "row"] "World.__init__" (defScope s_World_init) f cdv A outer s H E).A (cxOf (L2.CX P wd) P wd K mg base ["self", "tables", "rows", "table", "some", "row"] "World.__init__" (defScope s_World_init) f cdv A outer s H E).env (cxOf (L2.CX P wd) P wd K mg base ["self", "tables", "rows", "table", "some", "row"] "World.__init__" (defScope s_World_init) f cdv A outer s H E).xe := PassesOwn.leaving
  exact (ts_cons (ts_if (tb_not (tb_val (te_call G_are_tables hr tk (ta_cons (te_v 1) (ta_cons (te_gI T.c_MOST_TABLES (by rfl)) ta_nil))))) tss_never ts_nil)
      (ts_cons (ts_if (tb_not (tb_val (te_call G_is_row hr tk (ta_cons (te_v 2) (ta_cons (te_len rfl (by rfl) T.b_len (ta_cons (te_v 1) ta_nil)) (ta_cons (te_len rfl (by rfl) T.b_len (ta_cons (te_v 1) ta_nil)) ta_nil)))))) tss_never ts_nil)
      (ts_cons (ts_if (tb_not (tb_val (te_all rfl rfl (by rfl) T.b_all (ta_cons (te_lc rfl sc.nd (ti_zip (by rfl) T.b_zip (te_v 1) (te_v 2)) (blkOk_by (own := [("table", 3), ("some", 4)]) (by kernel_rfl)) (fun _ _ _ _ _ => (tg_tup 2 rfl (tgs_cons (tg_name 3 sc.nd rfl (by first | exact Or.inl rfl | exact Or.inr rfl)) (tgs_cons (tg_name 4 sc.nd rfl (by first | exact Or.inl rfl | exact Or.inr rfl)) tgs_nil)) gs2)) (fun _ _ _ _ _ => tts_nil) (fun _ _ _ _ _ => (te_call G_are_rows_of hr takes00 (ta_cons (te_v 3) (ta_cons (te_v 4) ta_nil))))) ta_nil)))) tss_never ts_nil)
      (ts_cons (ts_asgE (te_toTup rfl (by rfl) T.b_tuple (ta_cons (te_v 1) ta_nil)) (tge_fld 0 T.k_World T.n_World_tables))
      (ts_one (ts_asgE (te_toTup rfl (by rfl) T.b_tuple (ta_cons (te_lc rfl sc.nd (ti_seq (te_v 2)) (blkOk_by (own := [("some", 4)]) (by kernel_rfl)) (fun _ _ _ _ _ => (tg_name 4 sc.nd rfl (by first | exact Or.inl rfl | exact Or.inr rfl))) (fun _ _ _ _ _ => tts_nil) (fun _ _ _ _ _ => (te_toTup rfl (by rfl) T.b_tuple (ta_cons (te_sortedA rfl hr rfl (by rfl) T.b_sorted (ta_cons (te_dcT hr rfl sc.nd (ti_seq (te_v 4)) (blkOk_by (own := [("row", 5)]) (by kernel_rfl)) (fun _ _ _ _ _ => (tg_name 5 sc.nd rfl (by first | exact Or.inl rfl | exact Or.inr rfl))) (fun _ _ _ _ _ => tts_nil) (fun _ _ _ _ _ => (te_toTup rfl (by rfl) T.b_tuple (ta_cons (te_v 5) ta_nil))) (fun _ _ _ _ _ => te_bl)) ta_nil)) ta_nil)))) ta_nil)) (tge_fld 0 T.k_World T.n_World_rows)))))))
abbrev s_World_index : Stmt := inClass (top 32) 2
theorem sc_World_index : FnScope ["self", "name", "at", "table"] ["self", "name"] (defScope s_World_index) := ⟨rfl, rfl, rfl, by decide +kernel, rfl, by decide +kernel, by decide +kernel⟩
def w_World_index (K : PySem.W.Frag) (C : Cs) : WSx := (wSeq (wFor (iOne (fun d => (seqD d).map (enumD 0)) (wFld K "tables" (wV 0))) (gT (gsCons (gN 2) (gsCons (gN 3) gsNil))) (wIfS (wAnd (wT (wF (o2 (fIsi K)) (wCons (wV 1) (wCons (wC (.ty "str")) wNil)))) (wT (w2 (oEq false) (wFld K "name" (wV 3)) (wV 1)))) (wRet (wV 2)) wNext)) (wRet (wC .non)))
theorem b_World_index (T : Txt K mg C) {f : Addr} (cdv : Value) (A : Around) (outer : List Env) (s : Shared) (H : Hp) (E : XK) (hr : Room 0 (A.deeper (envOfC "World.index" (defScope s_World_index) s.heap.objs.size f cdv))) :
    PSs (cxOf (L2.CX P wd) P wd K mg base ["self", "name", "at", "table"] "World.index" (defScope s_World_index) f cdv A outer s H E) (defBody s_World_index) (tS K (EW E) (w_World_index K C)) := by
  have sc := sc_World_index
  have tk : Takes (cxOf (L2.CX P wd) P wd K mg base ["self", "name", "at", "table"] "World.index" (defScope s_World_index) f cdv A outer s H E) (EW E) := takes_of rfl rfl rfl rfl
  have pown : PassesOwn (model P wd) (cxOf (L2.CX P wd) P wd K mg base ["self", "name", "at", "table"] "World.index" (defScope s_World_index) f cdv A outer s H E).A (cxOf (L2.CX P wd) P wd K mg base ["self", "name", "at", "table"] "World.index" (defScope s_World_index) f cdv A outer s H E).env (cxOf (L2.CX P wd) P wd K mg base ["self", "name", "at", "table"] "World.index" (defScope s_World_index) f cdv A outer s H E).xe := PassesOwn.leaving
  exact (ts_cons (ts_for pown rfl (ti_enum (by rfl) T.b_enumerate (te_fld (te_v 0))) (tg_tup 2 rfl (tgs_cons (tg_name 2 sc.nd rfl (by first | exact Or.inl rfl | exact Or.inr rfl)) (tgs_cons (tg_name 3 sc.nd rfl (by first | exact Or.inl rfl | exact Or.inr rfl)) tgs_nil)) gs2) (ts_one (ts_if (PW.pt (tw_and (tb_val (te_isi rfl (by rfl) T.b_isinstance (ta_cons (te_v 1) (ta_cons (te_ty "str" (by rfl) T.b_str (by decide +kernel)) ta_nil)))) (tw_and1 (tb_eq hr (te_fld (te_v 3)) (te_v 1))))) (ts_one (ts_ret (te_v 2))) ts_nil)))
      (ts_one (ts_ret te_non)))
abbrev s_World_need_index : Stmt := inClass (top 32) 3
theorem sc_World_need_index : FnScope ["self", "name", "at"] ["self", "name"] (defScope s_World_need_index) := ⟨rfl, rfl, rfl, by decide +kernel, rfl, by decide +kernel, by decide +kernel⟩
def w_World_need_index (K : PySem.W.Frag) (C : Cs) : WSx := (wSeq (wSet 2 (wMeth C.World "index" (Φ_World_index K C) (wV 0) (wCons (wV 1) wNil))) (wSeq (wIfS (wT (wIsN false (wV 2))) (fun _ _ => False) wNext) (wRet (wV 2))))
theorem b_World_need_index (T : Txt K mg C) (N_World_index : Mt P wd K mg base 1 C.World "index" (Φ_World_index K C)) {f : Addr} (cdv : Value) (A : Around) (outer : List Env) (s : Shared) (H : Hp) (E : XK) (hr : Room 1 (A.deeper (envOfC "World.need_index" (defScope s_World_need_index) s.heap.objs.size f cdv))) :
    PSs (cxOf (L2.CX P wd) P wd K mg base ["self", "name", "at"] "World.need_index" (defScope s_World_need_index) f cdv A outer s H E) (defBody s_World_need_index) (tS K (EW E) (w_World_need_index K C)) := by
  have sc := sc_World_need_index
  have tk : Takes (cxOf (L2.CX P wd) P wd K mg base ["self", "name", "at"] "World.need_index" (defScope s_World_need_index) f cdv A outer s H E) (EW E) := takes_of rfl rfl rfl rfl
  have pown : PassesOwn (model P wd) (cxOf (L2.CX P wd) P wd K mg base ["self", "name", "at"] "World.need_index" (defScope s_World_need_index) f cdv A outer s H E).A (cxOf (L2.CX P wd) P wd K mg base ["self", "name", "at"] "World.need_index" (defScope s_World_need_index) f cdv A outer s H E).env (cxOf (L2.CX P wd) P wd K mg base ["self", "name", "at"] "World.need_index" (defScope s_World_need_index) f cdv A outer s H E).xe := PassesOwn.leaving
  exact (ts_cons (ts_set 2 sc.nd rfl (by first | exact Or.inl rfl | exact Or.inr rfl) (te_meth (E := E) N_World_index hr tk (te_v 0) (ta_cons (te_v 1) ta_nil)))
      (ts_cons (ts_if (tb_isN (te_v 2)) tss_never ts_nil)
      (ts_one (ts_ret (te_v 2)))))
abbrev s_World_rows_of : Stmt := inClass (top 32) 4
theorem sc_World_rows_of : FnScope ["self", "name"] ["self", "name"] (defScope s_World_rows_of) := ⟨rfl, rfl, rfl, by decide +kernel, rfl, by decide +kernel, by decide +kernel⟩
def w_World_rows_of (K : PySem.W.Frag) (C : Cs) : WSx := (wRet (w2 oIxA (wFld K "rows" (wV 0)) (wMeth C.World "need_index" (Φ_World_need_index K C) (wV 0) (wCons (wV 1) wNil))))
theorem b_World_rows_of (T : Txt K mg C) (N_World_need_index : Mt P wd K mg base 2 C.World "need_index" (Φ_World_need_index K C)) {f : Addr} (cdv : Value) (A : Around) (outer : List Env) (s : Shared) (H : Hp) (E : XK) (hr : Room 2 (A.deeper (envOfC "World.rows_of" (defScope s_World_rows_of) s.heap.objs.size f cdv))) :
    PSs (cxOf (L2.CX P wd) P wd K mg base ["self", "name"] "World.rows_of" (defScope s_World_rows_of) f cdv A outer s H E) (defBody s_World_rows_of) (tS K (EW E) (w_World_rows_of K C)) := by
  have sc := sc_World_rows_of
  have tk : Takes (cxOf (L2.CX P wd) P wd K mg base ["self", "name"] "World.rows_of" (defScope s_World_rows_of) f cdv A outer s H E) (EW E) := takes_of rfl rfl rfl rfl
  have pown : PassesOwn (model P wd) (cxOf (L2.CX P wd) P wd K mg base ["self", "name"] "World.rows_of" (defScope s_World_rows_of) f cdv A outer s H E).A (cxOf (L2.CX P wd) P wd K mg base ["self", "name"] "World.rows_of" (defScope s_World_rows_of) f cdv A outer s H E).env (cxOf (L2.CX P wd) P wd K mg base ["self", "name"] "World.rows_of" (defScope s_World_rows_of) f cdv A outer s H E).xe := PassesOwn.leaving
  exact (ts_one (ts_ret (te_ixA hr (te_fld (te_v 0)) (te_meth (E := E) N_World_need_index hr tk (te_v 0) (ta_cons (te_v 1) ta_nil)))))
abbrev s_need_world : Stmt := top 33
theorem sc_need_world : FnScope ["value"] ["value"] (defScope s_need_world) := ⟨rfl, rfl, rfl, by decide +kernel, rfl, by decide +kernel, by decide +kernel⟩
def w_need_world (K : PySem.W.Frag) (C : Cs) : WSx := (wIfS (wNot (wT (wF (o2 (fIsi K)) (wCons (wV 0) (wCons (wC (.obj C.World)) wNil))))) (fun _ _ => False) wNext)
theorem b_need_world (T : Txt K mg C) {f : Addr} (cdv : Value) (A : Around) (outer : List Env) (s : Shared) (H : Hp) (E : XK) (hr : Room 0 (A.deeper (envOfC "need_world" (defScope s_need_world) s.heap.objs.size f cdv))) :
    PSs (cxOf (L2.CX P wd) P wd K mg base ["value"] "need_world" (defScope s_need_world) f cdv A outer s H E) (defBody s_need_world) (tS K (EW E) (w_need_world K C)) := by
  have sc := sc_need_world
  have tk : Takes (cxOf (L2.CX P wd) P wd K mg base ["value"] "need_world" (defScope s_need_world) f cdv A outer s H E) (EW E) := takes_of rfl rfl rfl rfl
  have pown : PassesOwn (model P wd) (cxOf (L2.CX P wd) P wd K mg base ["value"] "need_world" (defScope s_need_world) f cdv A outer s H E).A (cxOf (L2.CX P wd) P wd K mg base ["value"] "need_world" (defScope s_need_world) f cdv A outer s H E).env (cxOf (L2.CX P wd) P wd K mg base ["value"] "need_world" (defScope s_need_world) f cdv A outer s H E).xe := PassesOwn.leaving
  exact (ts_one (ts_if (tb_not (tb_val (te_isi rfl (by rfl) T.b_isinstance (ta_cons (te_v 0) (ta_cons (te_gC T.m_World (by rfl)) ta_nil))))) tss_never ts_nil))
abbrev s_need_tables : Stmt := top 34
theorem sc_need_tables : FnScope ["world", "tables", "there", "one"] ["world", "tables"] (defScope s_need_tables) := ⟨rfl, rfl, rfl, by decide +kernel, rfl, by decide +kernel, by decide +kernel⟩
def w_need_tables (K : PySem.W.Frag) (C : Cs) : WSx := (wSeq (wSet 2 (wCall (Φ_by_names K C) (wCons (wFld K "tables" (wV 0)) wNil))) (wIfS (wNot (wT (wF (o1 (fAll fun bs => bs.all id)) (wCons (wLc (iSeq (wV 1)) (gN 3) wYes (wAndV (w2 (oIn false) (wFld K "name" (wV 3)) (wV 2)) (w2 (oOwn K C.Table (Φ_Table_eq K C)) (w2 oIxA (wV 2) (wFld K "name" (wV 3))) (wV 3))) [3]) wNil)))) (fun _ _ => False) wNext))
theorem b_need_tables (T : Txt K mg C) (G_by_names : Fn P wd K mg base 1 "by_names" (Φ_by_names K C)) (Q_Table : Qe P wd K mg base 1 C.Table (Φ_Table_eq K C)) {f : Addr} (cdv : Value) (A : Around) (outer : List Env) (s : Shared) (H : Hp) (E : XK) (hr : Room 1 (A.deeper (envOfC "need_tables" (defScope s_need_tables) s.heap.objs.size f cdv))) :
    PSs (cxOf (L2.CX P wd) P wd K mg base ["world", "tables", "there", "one"] "need_tables" (defScope s_need_tables) f cdv A outer s H E) (defBody s_need_tables) (tS K (EW E) (w_need_tables K C)) := by
  have sc := sc_need_tables
  have tk : Takes (cxOf (L2.CX P wd) P wd K mg base ["world", "tables", "there", "one"] "need_tables" (defScope s_need_tables) f cdv A outer s H E) (EW E) := takes_of rfl rfl rfl rfl
  have pown : PassesOwn (model P wd) (cxOf (L2.CX P wd) P wd K mg base ["world", "tables", "there", "one"] "need_tables" (defScope s_need_tables) f cdv A outer s H E).A (cxOf (L2.CX P wd) P wd K mg base ["world", "tables", "there", "one"] "need_tables" (defScope s_need_tables) f cdv A outer s H E).env (cxOf (L2.CX P wd) P wd K mg base ["world", "tables", "there", "one"] "need_tables" (defScope s_need_tables) f cdv A outer s H E).xe := PassesOwn.leaving
  exact (ts_cons (ts_set 2 sc.nd rfl (by first | exact Or.inl rfl | exact Or.inr rfl) (te_call G_by_names hr tk (ta_cons (te_fld (te_v 0)) ta_nil)))
      (ts_one (ts_if (tb_not (tb_val (te_all rfl rfl (by rfl) T.b_all (ta_cons (te_lc rfl sc.nd (ti_seq (te_v 1)) (blkOk_by (own := [("one", 3)]) (by kernel_rfl)) (fun _ _ _ _ _ => (tg_name 3 sc.nd rfl (by first | exact Or.inl rfl | exact Or.inr rfl))) (fun _ _ _ _ _ => tts_nil) (fun _ _ _ _ _ => (te_and (te_in hr (te_fld (te_v 3)) (te_v 2)) (te_one (te_eqO (E := XK0) Q_Table hr takes00 (te_ixA hr (te_v 2) (te_fld (te_v 3))) (te_v 3)))))) ta_nil)))) tss_never ts_nil)))
abbrev s_is_threshold : Stmt := top 38
theorem sc_is_threshold : FnScope ["value", "one"] ["value"] (defScope s_is_threshold) := ⟨rfl, rfl, rfl, by decide +kernel, rfl, by decide +kernel, by decide +kernel⟩
def w_is_threshold (K : PySem.W.Frag) (C : Cs) : WSx := (wRet (wAndV (wCall (Φ_is_row K C) (wCons (wV 0) (wCons (wC (.int 2)) (wCons (wC (.int 2)) wNil)))) (wF (o1 (fAll fun bs => bs.all id)) (wCons (wLc (iSeq (wV 0)) (gN 1) wYes (wCall (Φ_is_between K C) (wCons (wV 1) (wCons (wC (.int 1)) (wCons (wC (.int (9999))) wNil)))) [1]) wNil))))
theorem b_is_threshold (T : Txt K mg C) (G_is_between : Fn P wd K mg base 2 "is_between" (Φ_is_between K C)) (G_is_row : Fn P wd K mg base 2 "is_row" (Φ_is_row K C)) {f : Addr} (cdv : Value) (A : Around) (outer : List Env) (s : Shared) (H : Hp) (E : XK) (hr : Room 2 (A.deeper (envOfC "is_threshold" (defScope s_is_threshold) s.heap.objs.size f cdv))) :
    PSs (cxOf (L2.CX P wd) P wd K mg base ["value", "one"] "is_threshold" (defScope s_is_threshold) f cdv A outer s H E) (defBody s_is_threshold) (tS K (EW E) (w_is_threshold K C)) := by
  have sc := sc_is_threshold
  have tk : Takes (cxOf (L2.CX P wd) P wd K mg base ["value", "one"] "is_threshold" (defScope s_is_threshold) f cdv A outer s H E) (EW E) := takes_of rfl rfl rfl rfl
  have pown : PassesOwn (model P wd) (cxOf (L2.CX P wd) P wd K mg base ["value", "one"] "is_threshold" (defScope s_is_threshold) f cdv A outer s H E).A (cxOf (L2.CX P wd) P wd K mg base ["value", "one"] "is_threshold" (defScope s_is_threshold) f cdv A outer s H E).env (cxOf (L2.CX P wd) P wd K mg base ["value", "one"] "is_threshold" (defScope s_is_threshold) f cdv A outer s H E).xe := PassesOwn.leaving
  exact (ts_one (ts_ret (te_and (te_call G_is_row hr tk (ta_cons (te_v 0) (ta_cons te_int (ta_cons te_int ta_nil)))) (te_one (te_all rfl rfl (by rfl) T.b_all (ta_cons (te_lc rfl sc.nd (ti_seq (te_v 0)) (blkOk_by (own := [("one", 1)]) (by kernel_rfl)) (fun _ _ _ _ _ => (tg_name 1 sc.nd rfl (by first | exact Or.inl rfl | exact Or.inr rfl))) (fun _ _ _ _ _ => tts_nil) (fun _ _ _ _ _ => (te_call G_is_between hr takes00 (ta_cons (te_v 1) (ta_cons te_int (ta_cons (te_gI T.c_MOST_PART (by rfl)) ta_nil)))))) ta_nil))))))
abbrev s_Split_init : Stmt := inClass (top 39) 0
theorem sc_Split_init : FnScope ["self", "table", "column", "threshold"] ["self", "table", "column", "threshold"] (defScope s_Split_init) := ⟨rfl, rfl, rfl, by decide +kernel, rfl, by decide +kernel, by decide +kernel⟩
def w_Split_init (K : PySem.W.Frag) (C : Cs) : WSx := (wSeq (wIfS (wOr (wNot (wT (wF (o2 (fIsi K)) (wCons (wV 1) (wCons (wC (.obj C.Table)) wNil))))) (wT (w2 (oEq true) (wFld K "width" (wV 1)) (wC (.int 2))))) (fun _ _ => False) wNext) (wSeq (wIfS (wNot (wT (wCall (Φ_is_between K C) (wCons (wV 2) (wCons (wC (.int 0)) (wCons (wC (.int 1)) wNil)))))) (fun _ _ => False) wNext) (wSeq (wIfS (wNot (wT (wCall (Φ_is_threshold K C) (wCons (wV 3) wNil)))) (fun _ _ => False) wNext) (wAsgE (geT (geCons (geF 0 C.Split "table") (geCons (geF 0 C.Split "column") (geCons (geF 0 C.Split "threshold") geNil)))) (wTup (wCons (wV 1) (wCons (wV 2) (wCons (wCall (Φ_lowest K C) (wCons (w2 oIxA (wV 3) (wC (.int 0))) (wCons (w2 oIxA (wV 3) (wC (.int 1))) wNil))) wNil))))))))
theorem b_Split_init (T : Txt K mg C) (G_is_between : Fn P wd K mg base 2 "is_between" (Φ_is_between K C)) (G_is_threshold : Fn P wd K mg base 3 "is_threshold" (Φ_is_threshold K C)) (G_lowest : Fn P wd K mg base 2 "lowest" (Φ_lowest K C)) {f : Addr} (cdv : Value) (A : Around) (outer : List Env) (s : Shared) (H : Hp) (E : XK) (hr : Room 3 (A.deeper (envOfC "Split.__init__" (defScope s_Split_init) s.heap.objs.size f cdv))) :
    PSs (cxOf (L2.CX P wd) P wd K mg base ["self", "table", "column", "threshold"] "Split.__init__" (defScope s_Split_init) f cdv A outer s H E) (defBody s_Split_init) (tS K (EW E) (w_Split_init K C)) := by
  have sc := sc_Split_init
  have tk : Takes (cxOf (L2.CX P wd) P wd K mg base ["self", "table", "column", "threshold"] "Split.__init__" (defScope s_Split_init) f cdv A outer s H E) (EW E) := takes_of rfl rfl rfl rfl
  have pown : PassesOwn (model P wd) (cxOf (L2.CX P wd) P wd K mg base ["self", "table", "column", "threshold"] "Split.__init__" (defScope s_Split_init) f cdv A outer s H E).A (cxOf (L2.CX P wd) P wd K mg base ["self", "table", "column", "threshold"] "Split.__init__" (defScope s_Split_init) f cdv A outer s H E).env (cxOf (L2.CX P wd) P wd K mg base ["self", "table", "column", "threshold"] "Split.__init__" (defScope s_Split_init) f cdv A outer s H E).xe := PassesOwn.leaving
  exact (ts_cons (ts_if (PW.pt (tw_or (tb_not (tb_val (te_isi rfl (by rfl) T.b_isinstance (ta_cons (te_v 1) (ta_cons (te_gC T.m_Table (by rfl)) ta_nil))))) (tw_or1 (tb_ne hr (te_fld (te_v 1)) te_int)))) tss_never ts_nil)
      (ts_cons (ts_if (tb_not (tb_val (te_call G_is_between hr tk (ta_cons (te_v 2) (ta_cons te_int (ta_cons te_int ta_nil)))))) tss_never ts_nil)
      (ts_cons (ts_if (tb_not (tb_val (te_call G_is_threshold hr tk (ta_cons (te_v 3) ta_nil)))) tss_never ts_nil)
      (ts_one (ts_asgE (te_tup (ta_cons (te_v 1) (ta_cons (te_v 2) (ta_cons (te_call G_lowest hr tk (ta_cons (te_ixA hr (te_v 3) te_int) (ta_cons (te_ixA hr (te_v 3) te_int) ta_nil))) ta_nil)))) (tge_tup 3 rfl (tges_cons (tge_fld 0 T.k_Split T.n_Split_table) (tges_cons (tge_fld 0 T.k_Split T.n_Split_column) (tges_cons (tge_fld 0 T.k_Split T.n_Split_threshold) tges_nil))) ge3))))))
abbrev s_crowds : Stmt := top 40
theorem sc_crowds : FnScope ["rows", "column", "found", "row"] ["rows", "column"] (defScope s_crowds) := ⟨rfl, rfl, rfl, by decide +kernel, rfl, by decide +kernel, by decide +kernel⟩
def w_crowds (K : PySem.W.Frag) (C : Cs) : WSx := (wSeq (wOwn 2 wNewD) (wSeq (wFor (iSeq (wV 0)) (gN 3) (wPut (wV 2) (w2 oIxA (wV 3) (wV 1)) (w2 oAddA (wGet2 (wV 2) (w2 oIxA (wV 3) (wV 1)) (wC (.int 0))) (wC (.int 1))))) (wRet (wV 2))))
theorem b_crowds (T : Txt K mg C) {f : Addr} (cdv : Value) (A : Around) (outer : List Env) (s : Shared) (H : Hp) (E : XK) (hr : Room 0 (A.deeper (envOfC "crowds" (defScope s_crowds) s.heap.objs.size f cdv))) :
    PSs (cxOf (L2.CX P wd) P wd K mg base ["rows", "column", "found", "row"] "crowds" (defScope s_crowds) f cdv A outer s H E) (defBody s_crowds) (tS K (EW E) (w_crowds K C)) := by
  have sc := sc_crowds
  have tk : Takes (cxOf (L2.CX P wd) P wd K mg base ["rows", "column", "found", "row"] "crowds" (defScope s_crowds) f cdv A outer s H E) (EW E) := takes_of rfl rfl rfl rfl
  have pown : PassesOwn (model P wd) (cxOf (L2.CX P wd) P wd K mg base ["rows", "column", "found", "row"] "crowds" (defScope s_crowds) f cdv A outer s H E).A (cxOf (L2.CX P wd) P wd K mg base ["rows", "column", "found", "row"] "crowds" (defScope s_crowds) f cdv A outer s H E).env (cxOf (L2.CX P wd) P wd K mg base ["rows", "column", "found", "row"] "crowds" (defScope s_crowds) f cdv A outer s H E).xe := PassesOwn.leaving
  exact (ts_cons (ts_own 2 sc.nd rfl (by first | exact Or.inl rfl | exact Or.inr rfl) te_newD)
      (ts_cons (ts_for pown rfl (ti_seq (te_v 0)) (tg_name 3 sc.nd rfl (by first | exact Or.inl rfl | exact Or.inr rfl)) (ts_one (ts_put hr (te_v 2) (te_ixA hr (te_v 3) (te_v 1)) (te_addA (te_get2 hr (te_v 2) (te_ixA hr (te_v 3) (te_v 1)) te_int ⟨rfl, rfl, rfl, rfl⟩) te_int))))
      (ts_one (ts_ret (te_v 2)))))
abbrev s_parts_of : Stmt := top 41
theorem sc_parts_of : FnScope ["rows", "split", "base", "many", "light", "value", "some", "few", "row"] ["rows", "split", "base"] (defScope s_parts_of) := ⟨rfl, rfl, rfl, by decide +kernel, rfl, by decide +kernel, by decide +kernel⟩
def w_parts_of (K : PySem.W.Frag) (C : Cs) : WSx := (wSeq (wSet 3 (wCall (Φ_crowds K C) (wCons (wV 0) (wCons (wFld K "column" (wV 1)) wNil)))) (wSeq (wSet 4 (wDc (iOne itemsD (wV 3)) (gT (gsCons (gN 5) (gsCons (gN 6) gsNil))) wYes (wV 5) (wCall (Φ_is_at_most K C) (wCons (wV 6) (wCons (wV 2) (wCons (wFld K "threshold" (wV 1)) wNil)))) [5, 6])) (wSeq (wSet 7 (wF (o1 fTup) (wCons (wLc (iSeq (wV 0)) (gN 8) (wT (w2 oIxA (wV 4) (w2 oIxA (wV 8) (wFld K "column" (wV 1))))) (wV 8) [8]) wNil))) (wRet (wTup (wCons (wV 7) (wCons (wF (o1 fTup) (wCons (wLc (iSeq (wV 0)) (gN 8) (wNot (wT (w2 oIxA (wV 4) (w2 oIxA (wV 8) (wFld K "column" (wV 1)))))) (wV 8) [8]) wNil)) wNil)))))))
theorem b_parts_of (T : Txt K mg C) (G_crowds : Fn P wd K mg base 1 "crowds" (Φ_crowds K C)) (G_is_at_most : Fn P wd K mg base 2 "is_at_most" (Φ_is_at_most K C)) {f : Addr} (cdv : Value) (A : Around) (outer : List Env) (s : Shared) (H : Hp) (E : XK) (hr : Room 2 (A.deeper (envOfC "parts_of" (defScope s_parts_of) s.heap.objs.size f cdv))) :
    PSs (cxOf (L2.CX P wd) P wd K mg base ["rows", "split", "base", "many", "light", "value", "some", "few", "row"] "parts_of" (defScope s_parts_of) f cdv A outer s H E) (defBody s_parts_of) (tS K (EW E) (w_parts_of K C)) := by
  have sc := sc_parts_of
  have tk : Takes (cxOf (L2.CX P wd) P wd K mg base ["rows", "split", "base", "many", "light", "value", "some", "few", "row"] "parts_of" (defScope s_parts_of) f cdv A outer s H E) (EW E) := takes_of rfl rfl rfl rfl
  have pown : PassesOwn (model P wd) (cxOf (L2.CX P wd) P wd K mg base ["rows", "split", "base", "many", "light", "value", "some", "few", "row"] "parts_of" (defScope s_parts_of) f cdv A outer s H E).A (cxOf (L2.CX P wd) P wd K mg base ["rows", "split", "base", "many", "light", "value", "some", "few", "row"] "parts_of" (defScope s_parts_of) f cdv A outer s H E).env (cxOf (L2.CX P wd) P wd K mg base ["rows", "split", "base", "many", "light", "value", "some", "few", "row"] "parts_of" (defScope s_parts_of) f cdv A outer s H E).xe := PassesOwn.leaving
  exact (ts_cons (ts_set 3 sc.nd rfl (by first | exact Or.inl rfl | exact Or.inr rfl) (te_call G_crowds hr tk (ta_cons (te_v 0) (ta_cons (te_fld (te_v 1)) ta_nil))))
      (ts_cons (ts_set 4 sc.nd rfl (by first | exact Or.inl rfl | exact Or.inr rfl) (te_dc rfl sc.nd (ti_items (te_v 3)) (blkOk_by (own := [("value", 5), ("some", 6)]) (by kernel_rfl)) (fun _ _ _ _ _ => (tg_tup 2 rfl (tgs_cons (tg_name 5 sc.nd rfl (by first | exact Or.inl rfl | exact Or.inr rfl)) (tgs_cons (tg_name 6 sc.nd rfl (by first | exact Or.inl rfl | exact Or.inr rfl)) tgs_nil)) gs2)) (fun _ _ _ _ _ => tts_nil) (fun _ _ _ _ _ => (te_v 5)) (fun _ _ _ _ _ => (te_call G_is_at_most hr takes00 (ta_cons (te_v 6) (ta_cons (te_v 2) (ta_cons (te_fld (te_v 1)) ta_nil)))))))
      (ts_cons (ts_set 7 sc.nd rfl (by first | exact Or.inl rfl | exact Or.inr rfl) (te_toTup rfl (by rfl) T.b_tuple (ta_cons (te_lc rfl sc.nd (ti_seq (te_v 0)) (blkOk_by (own := [("row", 8)]) (by kernel_rfl)) (fun _ _ _ _ _ => (tg_name 8 sc.nd rfl (by first | exact Or.inl rfl | exact Or.inr rfl))) (fun _ _ _ _ _ => (tts_one (tb_val (te_ixA hr (te_v 4) (te_ixA hr (te_v 8) (te_fld (te_v 1))))))) (fun _ _ _ _ _ => (te_v 8))) ta_nil)))
      (ts_one (ts_ret (te_tup (ta_cons (te_v 7) (ta_cons (te_toTup rfl (by rfl) T.b_tuple (ta_cons (te_lc rfl sc.nd (ti_seq (te_v 0)) (blkOk_by (own := [("row", 8)]) (by kernel_rfl)) (fun _ _ _ _ _ => (tg_name 8 sc.nd rfl (by first | exact Or.inl rfl | exact Or.inr rfl))) (fun _ _ _ _ _ => (tts_one (tb_not (tb_val (te_ixA hr (te_v 4) (te_ixA hr (te_v 8) (te_fld (te_v 1)))))))) (fun _ _ _ _ _ => (te_v 8))) ta_nil)) ta_nil))))))))
abbrev s_need_split : Stmt := top 42
theorem sc_need_split : FnScope ["value"] ["value"] (defScope s_need_split) := ⟨rfl, rfl, rfl, by decide +kernel, rfl, by decide +kernel, by decide +kernel⟩
def w_need_split (K : PySem.W.Frag) (C : Cs) : WSx := (wIfS (wNot (wT (wF (o2 (fIsi K)) (wCons (wV 0) (wCons (wC (.obj C.Split)) wNil))))) (fun _ _ => False) wNext)
theorem b_need_split (T : Txt K mg C) {f : Addr} (cdv : Value) (A : Around) (outer : List Env) (s : Shared) (H : Hp) (E : XK) (hr : Room 0 (A.deeper (envOfC "need_split" (defScope s_need_split) s.heap.objs.size f cdv))) :
    PSs (cxOf (L2.CX P wd) P wd K mg base ["value"] "need_split" (defScope s_need_split) f cdv A outer s H E) (defBody s_need_split) (tS K (EW E) (w_need_split K C)) := by
  have sc := sc_need_split
  have tk : Takes (cxOf (L2.CX P wd) P wd K mg base ["value"] "need_split" (defScope s_need_split) f cdv A outer s H E) (EW E) := takes_of rfl rfl rfl rfl
  have pown : PassesOwn (model P wd) (cxOf (L2.CX P wd) P wd K mg base ["value"] "need_split" (defScope s_need_split) f cdv A outer s H E).A (cxOf (L2.CX P wd) P wd K mg base ["value"] "need_split" (defScope s_need_split) f cdv A outer s H E).env (cxOf (L2.CX P wd) P wd K mg base ["value"] "need_split" (defScope s_need_split) f cdv A outer s H E).xe := PassesOwn.leaving
  exact (ts_one (ts_if (tb_not (tb_val (te_isi rfl (by rfl) T.b_isinstance (ta_cons (te_v 0) (ta_cons (te_gC T.m_Split (by rfl)) ta_nil))))) tss_never ts_nil))
abbrev s_need_base : Stmt := top 43
theorem sc_need_base : FnScope ["value"] ["value"] (defScope s_need_base) := ⟨rfl, rfl, rfl, by decide +kernel, rfl, by decide +kernel, by decide +kernel⟩
def w_need_base (K : PySem.W.Frag) (C : Cs) : WSx := (wIfS (wNot (wT (wCall (Φ_is_between K C) (wCons (wV 0) (wCons (wC (.int 1)) (wCons (wC (.int (1000000))) wNil)))))) (fun _ _ => False) wNext)
theorem b_need_base (T : Txt K mg C) (G_is_between : Fn P wd K mg base 2 "is_between" (Φ_is_between K C)) {f : Addr} (cdv : Value) (A : Around) (outer : List Env) (s : Shared) (H : Hp) (E : XK) (hr : Room 2 (A.deeper (envOfC "need_base" (defScope s_need_base) s.heap.objs.size f cdv))) :
    PSs (cxOf (L2.CX P wd) P wd K mg base ["value"] "need_base" (defScope s_need_base) f cdv A outer s H E) (defBody s_need_base) (tS K (EW E) (w_need_base K C)) := by
  have sc := sc_need_base
  have tk : Takes (cxOf (L2.CX P wd) P wd K mg base ["value"] "need_base" (defScope s_need_base) f cdv A outer s H E) (EW E) := takes_of rfl rfl rfl rfl
  have pown : PassesOwn (model P wd) (cxOf (L2.CX P wd) P wd K mg base ["value"] "need_base" (defScope s_need_base) f cdv A outer s H E).A (cxOf (L2.CX P wd) P wd K mg base ["value"] "need_base" (defScope s_need_base) f cdv A outer s H E).env (cxOf (L2.CX P wd) P wd K mg base ["value"] "need_base" (defScope s_need_base) f cdv A outer s H E).xe := PassesOwn.leaving
  exact (ts_one (ts_if (tb_not (tb_val (te_call G_is_between hr tk (ta_cons (te_v 0) (ta_cons te_int (ta_cons (te_gI T.c_MOST_BASE (by rfl)) ta_nil)))))) tss_never ts_nil))
abbrev s_parted : Stmt := top 44
theorem sc_parted : FnScope ["world", "split", "base"] ["world", "split", "base"] (defScope s_parted) := ⟨rfl, rfl, rfl, by decide +kernel, rfl, by decide +kernel, by decide +kernel⟩
def w_parted (K : PySem.W.Frag) (C : Cs) : WSx := (wSeq (wExpr (wCall (Φ_need_world K C) (wCons (wV 0) wNil))) (wSeq (wExpr (wCall (Φ_need_split K C) (wCons (wV 1) wNil))) (wSeq (wExpr (wCall (Φ_need_base K C) (wCons (wV 2) wNil))) (wSeq (wExpr (wCall (Φ_need_tables K C) (wCons (wV 0) (wCons (wTup (wCons (wFld K "table" (wV 1)) wNil)) wNil)))) (wRet (wCall (Φ_parts_of K C) (wCons (wMeth C.World "rows_of" (Φ_World_rows_of K C) (wV 0) (wCons (wFld K "name" (wFld K "table" (wV 1))) wNil)) (wCons (wV 1) (wCons (wV 2) wNil)))))))))
theorem b_parted (T : Txt K mg C) (G_need_base : Fn P wd K mg base 3 "need_base" (Φ_need_base K C)) (G_need_split : Fn P wd K mg base 1 "need_split" (Φ_need_split K C)) (G_need_tables : Fn P wd K mg base 2 "need_tables" (Φ_need_tables K C)) (G_need_world : Fn P wd K mg base 1 "need_world" (Φ_need_world K C)) (G_parts_of : Fn P wd K mg base 3 "parts_of" (Φ_parts_of K C)) (N_World_rows_of : Mt P wd K mg base 3 C.World "rows_of" (Φ_World_rows_of K C)) {f : Addr} (cdv : Value) (A : Around) (outer : List Env) (s : Shared) (H : Hp) (E : XK) (hr : Room 3 (A.deeper (envOfC "parted" (defScope s_parted) s.heap.objs.size f cdv))) :
    PSs (cxOf (L2.CX P wd) P wd K mg base ["world", "split", "base"] "parted" (defScope s_parted) f cdv A outer s H E) (defBody s_parted) (tS K (EW E) (w_parted K C)) := by
  have sc := sc_parted
  have tk : Takes (cxOf (L2.CX P wd) P wd K mg base ["world", "split", "base"] "parted" (defScope s_parted) f cdv A outer s H E) (EW E) := takes_of rfl rfl rfl rfl
  have pown : PassesOwn (model P wd) (cxOf (L2.CX P wd) P wd K mg base ["world", "split", "base"] "parted" (defScope s_parted) f cdv A outer s H E).A (cxOf (L2.CX P wd) P wd K mg base ["world", "split", "base"] "parted" (defScope s_parted) f cdv A outer s H E).env (cxOf (L2.CX P wd) P wd K mg base ["world", "split", "base"] "parted" (defScope s_parted) f cdv A outer s H E).xe := PassesOwn.leaving
  exact (ts_cons (ts_expr (te_call G_need_world hr tk (ta_cons (te_v 0) ta_nil)))
      (ts_cons (ts_expr (te_call G_need_split hr tk (ta_cons (te_v 1) ta_nil)))
      (ts_cons (ts_expr (te_call G_need_base hr tk (ta_cons (te_v 2) ta_nil)))
      (ts_cons (ts_expr (te_call G_need_tables hr tk (ta_cons (te_v 0) (ta_cons (te_tup (ta_cons (te_fld (te_v 1)) ta_nil)) ta_nil))))
      (ts_one (ts_ret (te_call G_parts_of hr tk (ta_cons (te_meth (E := E) N_World_rows_of hr tk (te_v 0) (ta_cons (te_fld (te_fld (te_v 1))) ta_nil)) (ta_cons (te_v 1) (ta_cons (te_v 2) ta_nil))))))))))
abbrev s__law_pen : Stmt := top 46
theorem sc__law_pen : FnScope ["script", "cell"] ["script"] (defScope s__law_pen) := ⟨rfl, rfl, rfl, by decide +kernel, rfl, by decide +kernel, by decide +kernel⟩
def w__law_pen (K : PySem.W.Frag) (C : Cs) : WSx := (wRet (wLst (wCons (wLc (iSeq (wSlc K (wV 0) pNo (pAt (wC (.int 63))))) (gN 1) wYes (wF (o1 fInt) (wCons (wV 1) wNil)) [1]) (wCons (wC (.int 0)) (wCons (wC (.int 0)) wNil)))))
theorem b__law_pen (T : Txt K mg C) {f : Addr} (cdv : Value) (A : Around) (outer : List Env) (s : Shared) (H : Hp) (E : XK) (hr : Room 0 (A.deeper (envOfC "_law_pen" (defScope s__law_pen) s.heap.objs.size f cdv))) :
    PSs (cxOf (L2.CX P wd) P wd K mg base ["script", "cell"] "_law_pen" (defScope s__law_pen) f cdv A outer s H E) (defBody s__law_pen) (tS K (EW E) (w__law_pen K C)) := by
  have sc := sc__law_pen
  have tk : Takes (cxOf (L2.CX P wd) P wd K mg base ["script", "cell"] "_law_pen" (defScope s__law_pen) f cdv A outer s H E) (EW E) := takes_of rfl rfl rfl rfl
  have pown : PassesOwn (model P wd) (cxOf (L2.CX P wd) P wd K mg base ["script", "cell"] "_law_pen" (defScope s__law_pen) f cdv A outer s H E).A (cxOf (L2.CX P wd) P wd K mg base ["script", "cell"] "_law_pen" (defScope s__law_pen) f cdv A outer s H E).env (cxOf (L2.CX P wd) P wd K mg base ["script", "cell"] "_law_pen" (defScope s__law_pen) f cdv A outer s H E).xe := PassesOwn.leaving
  exact (ts_one (ts_ret (te_lst (ta_cons (te_lc rfl sc.nd (ti_seq (te_slice (te_v 0) to_no (to_at te_int))) (blkOk_by (own := [("cell", 1)]) (by kernel_rfl)) (fun _ _ _ _ _ => (tg_name 1 sc.nd rfl (by first | exact Or.inl rfl | exact Or.inr rfl))) (fun _ _ _ _ _ => tts_nil) (fun _ _ _ _ _ => (te_toInt rfl (by rfl) T.b_int (ta_cons (te_v 1) ta_nil)))) (ta_cons te_int (ta_cons te_int ta_nil))))))
abbrev s__law_draw : Stmt := top 47
theorem sc__law_draw : FnScope ["pen", "many", "rest", "at", "cell", "mixed"] ["pen", "many"] (defScope s__law_draw) := ⟨rfl, rfl, rfl, by decide +kernel, rfl, by decide +kernel, by decide +kernel⟩
def w__law_draw (K : PySem.W.Frag) (C : Cs) : WSx := (wSeq (wIfS (wT (w2 oGt (w2 oIxA (wV 0) (wC (.int 2))) (wC (.int 0)))) (wSeq (wSet 2 (wF (o1 fInt) (wCons (w2 oIxA (wV 0) (wC (.int 2))) wNil))) (wSeq (wPut (wV 0) (wC (.int 2)) (w2 oDivW (wV 2) (wV 1))) (wRet (w2 oMod (wF (o1 fInt) (wCons (wV 2) wNil)) (wV 1))))) wNext) (wSeq (wSet 3 (w2 oIxA (wV 0) (wC (.int 1)))) (wSeq (wPut (wV 0) (wC (.int 1)) (w2 oAddA (wV 3) (wC (.int 1)))) (wSeq (wSet 4 (w2 oAddA (w2 oMulW (wC (.int 70253)) (wV 3)) (wC (.int 8205)))) (wSeq (wIfS (wT (w2 (oEq true) (w2 oIxA (wV 0) (wC (.int 0))) (wLst wNil))) (wSet 4 (w2 oIxA (w2 oIxA (wV 0) (wC (.int 0))) (w2 oMod (wF (o1 fInt) (wCons (wV 3) wNil)) (wF (o1 fLen) (wCons (w2 oIxA (wV 0) (wC (.int 0))) wNil))))) wNext) (wSeq (wIfS (wAnd (wT (w2 oLt (wV 3) (wF (o1 fLen) (wCons (w2 oIxA (wV 0) (wC (.int 0))) wNil)))) (wT (w2 oGe (wF (o1 fAbs) (wCons (wV 4) wNil)) (w2 oPow (wC (.int 10)) (wC (.int 18)))))) (wSeq (wSet 2 (w2 oAddA (w2 oMulW (wC (.int 2)) (w2 oSub (wF (o1 fAbs) (wCons (wV 4) wNil)) (w2 oPow (wC (.int 10)) (wC (.int 18))))) (wF (o1 fInt) (wCons (w2 oLt (wV 4) (wC (.int 0))) wNil)))) (wSeq (wPut (wV 0) (wC (.int 2)) (w2 oDivW (wF (o1 fInt) (wCons (wV 2) wNil)) (wV 1))) (wRet (w2 oMod (wF (o1 fInt) (wCons (wV 2) wNil)) (wV 1))))) wNext) (wSeq (wSet 5 (w2 oMod (wF (o1 fInt) (wCons (w2 oPow (w2 oAddA (w2 oAddA (w2 oMod (wF (o1 fInt) (wCons (wV 4) wNil)) (wC (.int 2147483563))) (w2 oMulW (wC (.int 31447)) (wV 3))) (wC (.int 5883))) (wC (.int 5))) wNil)) (wC (.int 2147483549)))) (wSeq (wSet 5 (w2 oMod (wF (o1 fInt) (wCons (w2 oPow (w2 oAddA (w2 oAddA (w2 oMulW (wV 5) (w2 oAddA (w2 oMulW (wC (.int 2)) (wV 3)) (wC (.int 5883)))) (w2 oMulW (w2 oMulW (wC (.int 31447)) (wV 3)) (wV 3))) (wC (.int 70253))) (wC (.int 3))) wNil)) (wC (.int 2147483543)))) (wRet (w2 oMod (wF (o1 fInt) (wCons (w2 oDivW (wV 5) (wC (.int 64))) wNil)) (wV 1)))))))))))
theorem b__law_draw (T : Txt K mg C) {f : Addr} (cdv : Value) (A : Around) (outer : List Env) (s : Shared) (H : Hp) (E : XK) (hr : Room 0 (A.deeper (envOfC "_law_draw" (defScope s__law_draw) s.heap.objs.size f cdv))) :
    PSs (cxOf (L2.CX P wd) P wd K mg base ["pen", "many", "rest", "at", "cell", "mixed"] "_law_draw" (defScope s__law_draw) f cdv A outer s H E) (defBody s__law_draw) (tS K (EW E) (w__law_draw K C)) := by
  have sc := sc__law_draw
  have tk : Takes (cxOf (L2.CX P wd) P wd K mg base ["pen", "many", "rest", "at", "cell", "mixed"] "_law_draw" (defScope s__law_draw) f cdv A outer s H E) (EW E) := takes_of rfl rfl rfl rfl
  have pown : PassesOwn (model P wd) (cxOf (L2.CX P wd) P wd K mg base ["pen", "many", "rest", "at", "cell", "mixed"] "_law_draw" (defScope s__law_draw) f cdv A outer s H E).A (cxOf (L2.CX P wd) P wd K mg base ["pen", "many", "rest", "at", "cell", "mixed"] "_law_draw" (defScope s__law_draw) f cdv A outer s H E).env (cxOf (L2.CX P wd) P wd K mg base ["pen", "many", "rest", "at", "cell", "mixed"] "_law_draw" (defScope s__law_draw) f cdv A outer s H E).xe := PassesOwn.leaving
  exact (ts_cons (ts_if (tb_gt (te_ixA hr (te_v 0) te_int) te_int) (ts_cons (ts_set 2 sc.nd rfl (by first | exact Or.inl rfl | exact Or.inr rfl) (te_toInt rfl (by rfl) T.b_int (ta_cons (te_ixA hr (te_v 0) te_int) ta_nil)))
      (ts_cons (ts_put hr (te_v 0) te_int (te_divW (te_v 2) (te_v 1)))
      (ts_one (ts_ret (te_mod (te_toInt rfl (by rfl) T.b_int (ta_cons (te_v 2) ta_nil)) (te_v 1)))))) ts_nil)
      (ts_cons (ts_set 3 sc.nd rfl (by first | exact Or.inl rfl | exact Or.inr rfl) (te_ixA hr (te_v 0) te_int))
      (ts_cons (ts_put hr (te_v 0) te_int (te_addA (te_v 3) te_int))
      (ts_cons (ts_set 4 sc.nd rfl (by first | exact Or.inl rfl | exact Or.inr rfl) (te_addA (te_mulW te_int (te_v 3)) te_int))
      (ts_cons (ts_if (tb_ne hr (te_ixA hr (te_v 0) te_int) (te_lst ta_nil)) (ts_one (ts_set 4 sc.nd rfl (by first | exact Or.inl rfl | exact Or.inr rfl) (te_ixA hr (te_ixA hr (te_v 0) te_int) (te_mod (te_toInt rfl (by rfl) T.b_int (ta_cons (te_v 3) ta_nil)) (te_len rfl (by rfl) T.b_len (ta_cons (te_ixA hr (te_v 0) te_int) ta_nil)))))) ts_nil)
      (ts_cons (ts_if (PW.pt (tw_and (tb_lt (te_v 3) (te_len rfl (by rfl) T.b_len (ta_cons (te_ixA hr (te_v 0) te_int) ta_nil))) (tw_and1 (tb_ge (te_abs rfl (by rfl) T.b_abs (ta_cons (te_v 4) ta_nil)) (te_pow te_int te_int))))) (ts_cons (ts_set 2 sc.nd rfl (by first | exact Or.inl rfl | exact Or.inr rfl) (te_addA (te_mulW te_int (te_sub (te_abs rfl (by rfl) T.b_abs (ta_cons (te_v 4) ta_nil)) (te_pow te_int te_int))) (te_toInt rfl (by rfl) T.b_int (ta_cons (te_lt (te_v 4) te_int) ta_nil))))
      (ts_cons (ts_put hr (te_v 0) te_int (te_divW (te_toInt rfl (by rfl) T.b_int (ta_cons (te_v 2) ta_nil)) (te_v 1)))
      (ts_one (ts_ret (te_mod (te_toInt rfl (by rfl) T.b_int (ta_cons (te_v 2) ta_nil)) (te_v 1)))))) ts_nil)
      (ts_cons (ts_set 5 sc.nd rfl (by first | exact Or.inl rfl | exact Or.inr rfl) (te_mod (te_toInt rfl (by rfl) T.b_int (ta_cons (te_pow (te_addA (te_addA (te_mod (te_toInt rfl (by rfl) T.b_int (ta_cons (te_v 4) ta_nil)) te_int) (te_mulW te_int (te_v 3))) te_int) te_int) ta_nil)) te_int))
      (ts_cons (ts_set 5 sc.nd rfl (by first | exact Or.inl rfl | exact Or.inr rfl) (te_mod (te_toInt rfl (by rfl) T.b_int (ta_cons (te_pow (te_addA (te_addA (te_mulW (te_v 5) (te_addA (te_mulW te_int (te_v 3)) te_int)) (te_mulW (te_mulW te_int (te_v 3)) (te_v 3))) te_int) te_int) ta_nil)) te_int))
      (ts_one (ts_ret (te_mod (te_toInt rfl (by rfl) T.b_int (ta_cons (te_divW (te_v 5) te_int) ta_nil)) (te_v 1))))))))))))
abbrev s__law_pick : Stmt := top 48
theorem sc__law_pick : FnScope ["pen", "some"] ["pen", "some"] (defScope s__law_pick) := ⟨rfl, rfl, rfl, by decide +kernel, rfl, by decide +kernel, by decide +kernel⟩
def w__law_pick (K : PySem.W.Frag) (C : Cs) : WSx := (wRet (w2 oIxA (wV 1) (wCall (Φ__law_draw K C) (wCons (wV 0) (wCons (wF (o1 fLen) (wCons (wV 1) wNil)) wNil)))))
theorem b__law_pick (T : Txt K mg C) (G__law_draw : Fn P wd K mg base 1 "_law_draw" (Φ__law_draw K C)) {f : Addr} (cdv : Value) (A : Around) (outer : List Env) (s : Shared) (H : Hp) (E : XK) (hr : Room 1 (A.deeper (envOfC "_law_pick" (defScope s__law_pick) s.heap.objs.size f cdv))) :
    PSs (cxOf (L2.CX P wd) P wd K mg base ["pen", "some"] "_law_pick" (defScope s__law_pick) f cdv A outer s H E) (defBody s__law_pick) (tS K (EW E) (w__law_pick K C)) := by
  have sc := sc__law_pick
  have tk : Takes (cxOf (L2.CX P wd) P wd K mg base ["pen", "some"] "_law_pick" (defScope s__law_pick) f cdv A outer s H E) (EW E) := takes_of rfl rfl rfl rfl
  have pown : PassesOwn (model P wd) (cxOf (L2.CX P wd) P wd K mg base ["pen", "some"] "_law_pick" (defScope s__law_pick) f cdv A outer s H E).A (cxOf (L2.CX P wd) P wd K mg base ["pen", "some"] "_law_pick" (defScope s__law_pick) f cdv A outer s H E).env (cxOf (L2.CX P wd) P wd K mg base ["pen", "some"] "_law_pick" (defScope s__law_pick) f cdv A outer s H E).xe := PassesOwn.leaving
  exact (ts_one (ts_ret (te_ixA hr (te_v 1) (te_call G__law_draw hr tk (ta_cons (te_v 0) (ta_cons (te_len rfl (by rfl) T.b_len (ta_cons (te_v 1) ta_nil)) ta_nil))))))
abbrev s__law_name : Stmt := top 49
theorem sc__law_name : FnScope ["pen", "lap"] ["pen"] (defScope s__law_name) := ⟨rfl, rfl, rfl, by decide +kernel, rfl, by decide +kernel, by decide +kernel⟩
def w__law_name (K : PySem.W.Frag) (C : Cs) : WSx := (wRet (wJoin (wC (.str ("" : Str))) (wLc (iRng (wCall (Φ__law_pick K C) (wCons (wV 0) (wCons (wLst (wCons (wC (.int 1)) (wCons (wC (.int 1)) (wCons (wC (.int 2)) (wCons (wC (.int 3)) (wCons (wC (.int 8)) wNil)))))) wNil)))) (gN 1) wYes (w2 oIxA (wC (.str ("abcdefghijklmnopqrstuvwxyz" : Str))) (wCall (Φ__law_draw K C) (wCons (wV 0) (wCons (wC (.int 26)) wNil)))) [1])))
theorem b__law_name (T : Txt K mg C) (G__law_draw : Fn P wd K mg base 1 "_law_draw" (Φ__law_draw K C)) (G__law_pick : Fn P wd K mg base 2 "_law_pick" (Φ__law_pick K C)) {f : Addr} (cdv : Value) (A : Around) (outer : List Env) (s : Shared) (H : Hp) (E : XK) (hr : Room 2 (A.deeper (envOfC "_law_name" (defScope s__law_name) s.heap.objs.size f cdv))) :
    PSs (cxOf (L2.CX P wd) P wd K mg base ["pen", "lap"] "_law_name" (defScope s__law_name) f cdv A outer s H E) (defBody s__law_name) (tS K (EW E) (w__law_name K C)) := by
  have sc := sc__law_name
  have tk : Takes (cxOf (L2.CX P wd) P wd K mg base ["pen", "lap"] "_law_name" (defScope s__law_name) f cdv A outer s H E) (EW E) := takes_of rfl rfl rfl rfl
  have pown : PassesOwn (model P wd) (cxOf (L2.CX P wd) P wd K mg base ["pen", "lap"] "_law_name" (defScope s__law_name) f cdv A outer s H E).A (cxOf (L2.CX P wd) P wd K mg base ["pen", "lap"] "_law_name" (defScope s__law_name) f cdv A outer s H E).env (cxOf (L2.CX P wd) P wd K mg base ["pen", "lap"] "_law_name" (defScope s__law_name) f cdv A outer s H E).xe := PassesOwn.leaving
  exact (ts_one (ts_ret (te_join te_str (te_lc rfl sc.nd (ti_range (by rfl) T.b_range (te_call G__law_pick hr tk (ta_cons (te_v 0) (ta_cons (te_lst (ta_cons te_int (ta_cons te_int (ta_cons te_int (ta_cons te_int (ta_cons te_int ta_nil)))))) ta_nil)))) (blkOk_by (own := [("lap", 1)]) (by kernel_rfl)) (fun _ _ _ _ _ => (tg_name 1 sc.nd rfl (by first | exact Or.inl rfl | exact Or.inr rfl))) (fun _ _ _ _ _ => tts_nil) (fun _ _ _ _ _ => (te_ixA hr te_str (te_call G__law_draw hr takes00 (ta_cons (te_v 0) (ta_cons te_int ta_nil)))))))))
abbrev s__law_rows : Stmt := top 50
theorem sc__law_rows : FnScope ["pen", "width", "most", "reach", "found", "star", "lap", "row", "column"] ["pen", "width", "most", "reach"] (defScope s__law_rows) := ⟨rfl, rfl, rfl, by decide +kernel, rfl, by decide +kernel, by decide +kernel⟩
def w__law_rows (K : PySem.W.Frag) (C : Cs) : WSx := (wSeq (wParG true false 4 5 wNewT (wCall (Φ__law_pick K C) (wCons (wV 0) (wCons (wLst (wCons (wC .non) (wCons (wC .non) (wCons (wC (.int 0)) (wCons (wC (.int 1)) wNil))))) wNil)))) (wSeq (wFor (iRng (wCall (Φ__law_draw K C) (wCons (wV 0) (wCons (w2 oAddA (wV 2) (wC (.int 1))) wNil)))) (gN 6) (wSeq (wOwn 7 (wLc (iRng (wV 1)) (gN 8) wYes (wCall (Φ__law_draw K C) (wCons (wV 0) (wCons (wV 3) wNil))) [8])) (wSeq (wIfS (wAnd (wT (wIsN true (wV 5))) (wAnd (wT (w2 (oEq false) (wV 1) (wC (.int 2)))) (wT (w2 (oEq false) (wCall (Φ__law_draw K C) (wCons (wV 0) (wCons (wC (.int 2)) wNil))) (wC (.int 0)))))) (wAsgE (geT (geCons (geS 7 (ixVf 5)) (geCons (geS 7 (ixSubf (ixCf (.int 1)) (ixVf 5))) geNil))) (wTup (wCons (wC (.int 0)) (wCons (wCall (Φ__law_draw K C) (wCons (wV 0) (wCons (w2 oMulW (wC (.int 2)) (wV 3)) wNil))) wNil)))) wNext) (wPut (wV 4) (wF (o1 fTup) (wCons (wV 7) wNil)) (wC (.bl true)))))) (wRet (wF (o1 fTup) (wCons (wF (o1 fSortA) (wCons (wF (o1 fList) (wCons (wV 4) wNil)) wNil)) wNil)))))
theorem b__law_rows (T : Txt K mg C) (G__law_draw : Fn P wd K mg base 1 "_law_draw" (Φ__law_draw K C)) (G__law_pick : Fn P wd K mg base 2 "_law_pick" (Φ__law_pick K C)) {f : Addr} (cdv : Value) (A : Around) (outer : List Env) (s : Shared) (H : Hp) (E : XK) (hr : Room 2 (A.deeper (envOfC "_law_rows" (defScope s__law_rows) s.heap.objs.size f cdv))) :
    PSs (cxOf (L2.CX P wd) P wd K mg base ["pen", "width", "most", "reach", "found", "star", "lap", "row", "column"] "_law_rows" (defScope s__law_rows) f cdv A outer s H E) (defBody s__law_rows) (tS K (EW E) (w__law_rows K C)) := by
  have sc := sc__law_rows
  have tk : Takes (cxOf (L2.CX P wd) P wd K mg base ["pen", "width", "most", "reach", "found", "star", "lap", "row", "column"] "_law_rows" (defScope s__law_rows) f cdv A outer s H E) (EW E) := takes_of rfl rfl rfl rfl
  have pown : PassesOwn (model P wd) (cxOf (L2.CX P wd) P wd K mg base ["pen", "width", "most", "reach", "found", "star", "lap", "row", "column"] "_law_rows" (defScope s__law_rows) f cdv A outer s H E).A (cxOf (L2.CX P wd) P wd K mg base ["pen", "width", "most", "reach", "found", "star", "lap", "row", "column"] "_law_rows" (defScope s__law_rows) f cdv A outer s H E).env (cxOf (L2.CX P wd) P wd K mg base ["pen", "width", "most", "reach", "found", "star", "lap", "row", "column"] "_law_rows" (defScope s__law_rows) f cdv A outer s H E).xe := PassesOwn.leaving
  exact (ts_cons (ts_parG true false 4 5 rfl sc.nd rfl rfl (by decide) rfl rfl te_newT (te_call G__law_pick hr tk (ta_cons (te_v 0) (ta_cons (te_lst (ta_cons te_non (ta_cons te_non (ta_cons te_int (ta_cons te_int ta_nil))))) ta_nil))))
      (ts_cons (ts_for pown rfl (ti_range (by rfl) T.b_range (te_call G__law_draw hr tk (ta_cons (te_v 0) (ta_cons (te_addA (te_v 2) te_int) ta_nil)))) (tg_name 6 sc.nd rfl (by first | exact Or.inl rfl | exact Or.inr rfl)) (ts_cons (ts_ownLc 7 rfl sc.nd rfl rfl rfl (ti_range (by rfl) T.b_range (te_v 1)) (blkOk_by (own := [("column", 8)]) (by kernel_rfl)) (fun _ _ _ _ _ => (tg_name 8 sc.nd rfl (by first | exact Or.inl rfl | exact Or.inr rfl))) (fun _ _ _ _ _ => tts_nil) (fun _ _ _ _ _ => (te_call G__law_draw hr takes00 (ta_cons (te_v 0) (ta_cons (te_v 3) ta_nil)))))
      (ts_cons (ts_if (PW.pt (tw_and (tb_notN (te_v 5)) (tw_and (tb_eq hr (te_v 1) te_int) (tw_and1 (tb_eq hr (te_call G__law_draw hr tk (ta_cons (te_v 0) (ta_cons te_int ta_nil))) te_int))))) (ts_one (ts_asgE (te_tup (ta_cons te_int (ta_cons (te_call G__law_draw hr tk (ta_cons (te_v 0) (ta_cons (te_mulW te_int (te_v 3)) ta_nil))) ta_nil))) (tge_tup 2 rfl (tges_cons (tge_sub 7 hr (tu_v 5)) (tges_cons (tge_sub 7 hr (tu_sub tu_int (tu_v 5))) tges_nil)) ge2))) ts_nil)
      (ts_one (ts_put hr (te_v 4) (te_toTup rfl (by rfl) T.b_tuple (ta_cons (te_v 7) ta_nil)) te_bl)))))
      (ts_one (ts_ret (te_toTup rfl (by rfl) T.b_tuple (ta_cons (te_sortedA rfl hr rfl (by rfl) T.b_sorted (ta_cons (te_toList rfl rfl (by rfl) T.b_list (ta_cons (te_v 4) ta_nil)) ta_nil)) ta_nil))))))
abbrev s__law_crowds : Stmt := top 51
theorem sc__law_crowds : FnScope ["rows", "column", "found", "row"] ["rows", "column"] (defScope s__law_crowds) := ⟨rfl, rfl, rfl, by decide +kernel, rfl, by decide +kernel, by decide +kernel⟩
def w__law_crowds (K : PySem.W.Frag) (C : Cs) : WSx := (wSeq (wOwn 2 wNewD) (wSeq (wFor (iSeq (wV 0)) (gN 3) (wPut (wV 2) (w2 oIxA (wV 3) (wV 1)) (w2 oAddA (wGet2 (wV 2) (w2 oIxA (wV 3) (wV 1)) (wC (.int 0))) (wC (.int 1))))) (wRet (wV 2))))
theorem b__law_crowds (T : Txt K mg C) {f : Addr} (cdv : Value) (A : Around) (outer : List Env) (s : Shared) (H : Hp) (E : XK) (hr : Room 0 (A.deeper (envOfC "_law_crowds" (defScope s__law_crowds) s.heap.objs.size f cdv))) :
    PSs (cxOf (L2.CX P wd) P wd K mg base ["rows", "column", "found", "row"] "_law_crowds" (defScope s__law_crowds) f cdv A outer s H E) (defBody s__law_crowds) (tS K (EW E) (w__law_crowds K C)) := by
  have sc := sc__law_crowds
  have tk : Takes (cxOf (L2.CX P wd) P wd K mg base ["rows", "column", "found", "row"] "_law_crowds" (defScope s__law_crowds) f cdv A outer s H E) (EW E) := takes_of rfl rfl rfl rfl
  have pown : PassesOwn (model P wd) (cxOf (L2.CX P wd) P wd K mg base ["rows", "column", "found", "row"] "_law_crowds" (defScope s__law_crowds) f cdv A outer s H E).A (cxOf (L2.CX P wd) P wd K mg base ["rows", "column", "found", "row"] "_law_crowds" (defScope s__law_crowds) f cdv A outer s H E).env (cxOf (L2.CX P wd) P wd K mg base ["rows", "column", "found", "row"] "_law_crowds" (defScope s__law_crowds) f cdv A outer s H E).xe := PassesOwn.leaving
  exact (ts_cons (ts_own 2 sc.nd rfl (by first | exact Or.inl rfl | exact Or.inr rfl) te_newD)
      (ts_cons (ts_for pown rfl (ti_seq (te_v 0)) (tg_name 3 sc.nd rfl (by first | exact Or.inl rfl | exact Or.inr rfl)) (ts_one (ts_put hr (te_v 2) (te_ixA hr (te_v 3) (te_v 1)) (te_addA (te_get2 hr (te_v 2) (te_ixA hr (te_v 3) (te_v 1)) te_int ⟨rfl, rfl, rfl, rfl⟩) te_int))))
      (ts_one (ts_ret (te_v 2)))))
abbrev s__law_power : Stmt := top 52
theorem sc__law_power : FnScope ["number", "many", "found", "part", "left"] ["number", "many"] (defScope s__law_power) := ⟨rfl, rfl, rfl, by decide +kernel, rfl, by decide +kernel, by decide +kernel⟩
def w__law_power (K : PySem.W.Frag) (C : Cs) : WSx := (wSeq (wPar3 2 3 4 (wC (.int 1)) (wV 0) (wV 1)) (wSeq (wWhile (wT (w2 oGt (wV 4) (wC (.int 0)))) (wSeq (wIfS (wT (w2 (oEq false) (w2 oMod (wF (o1 fInt) (wCons (wV 4) wNil)) (wC (.int 2))) (wC (.int 1)))) (wSet 2 (w2 oMulW (wV 2) (wV 3))) wNext) (wSeq (wSet 4 (w2 oDivW (wF (o1 fInt) (wCons (wV 4) wNil)) (wC (.int 2)))) (wSet 3 (wIf (wT (w2 oGt (wV 4) (wC (.int 0)))) (w2 oMulW (wV 3) (wV 3)) (wV 3)))))) (wRet (wV 2))))
theorem b__law_power (T : Txt K mg C) {f : Addr} (cdv : Value) (A : Around) (outer : List Env) (s : Shared) (H : Hp) (E : XK) (hr : Room 0 (A.deeper (envOfC "_law_power" (defScope s__law_power) s.heap.objs.size f cdv))) :
    PSs (cxOf (L2.CX P wd) P wd K mg base ["number", "many", "found", "part", "left"] "_law_power" (defScope s__law_power) f cdv A outer s H E) (defBody s__law_power) (tS K (EW E) (w__law_power K C)) := by
  have sc := sc__law_power
  have tk : Takes (cxOf (L2.CX P wd) P wd K mg base ["number", "many", "found", "part", "left"] "_law_power" (defScope s__law_power) f cdv A outer s H E) (EW E) := takes_of rfl rfl rfl rfl
  have pown : PassesOwn (model P wd) (cxOf (L2.CX P wd) P wd K mg base ["number", "many", "found", "part", "left"] "_law_power" (defScope s__law_power) f cdv A outer s H E).A (cxOf (L2.CX P wd) P wd K mg base ["number", "many", "found", "part", "left"] "_law_power" (defScope s__law_power) f cdv A outer s H E).env (cxOf (L2.CX P wd) P wd K mg base ["number", "many", "found", "part", "left"] "_law_power" (defScope s__law_power) f cdv A outer s H E).xe := PassesOwn.leaving
  exact (ts_cons (ts_par3 2 3 4 rfl sc.nd rfl rfl rfl (by decide) (by decide) (by decide) rfl rfl rfl te_int (te_v 0) (te_v 1))
      (ts_cons (ts_while pown (tb_gt (te_v 4) te_int) (ts_cons (ts_if (tb_eq hr (te_mod (te_toInt rfl (by rfl) T.b_int (ta_cons (te_v 4) ta_nil)) te_int) te_int) (ts_one (ts_set 2 sc.nd rfl (by first | exact Or.inl rfl | exact Or.inr rfl) (te_mulW (te_v 2) (te_v 3)))) ts_nil)
      (ts_cons (ts_set 4 sc.nd rfl (by first | exact Or.inl rfl | exact Or.inr rfl) (te_divW (te_toInt rfl (by rfl) T.b_int (ta_cons (te_v 4) ta_nil)) te_int))
      (ts_one (ts_set 3 sc.nd rfl (by first | exact Or.inl rfl | exact Or.inr rfl) (te_if (tb_gt (te_v 4) te_int) (te_mulW (te_v 3) (te_v 3)) (te_v 3)))))))
      (ts_one (ts_ret (te_v 2)))))
abbrev s__law_is_light : Stmt := top 53
theorem sc__law_is_light : FnScope ["many", "base", "threshold"] ["many", "base", "threshold"] (defScope s__law_is_light) := ⟨rfl, rfl, rfl, by decide +kernel, rfl, by decide +kernel, by decide +kernel⟩
def w__law_is_light (K : PySem.W.Frag) (C : Cs) : WSx := (wRet (w2 oLe (wCall (Φ__law_power K C) (wCons (wV 0) (wCons (w2 oIxA (wV 2) (wC (.int 1))) wNil))) (wCall (Φ__law_power K C) (wCons (wV 1) (wCons (w2 oIxA (wV 2) (wC (.int 0))) wNil)))))
theorem b__law_is_light (T : Txt K mg C) (G__law_power : Fn P wd K mg base 1 "_law_power" (Φ__law_power K C)) {f : Addr} (cdv : Value) (A : Around) (outer : List Env) (s : Shared) (H : Hp) (E : XK) (hr : Room 1 (A.deeper (envOfC "_law_is_light" (defScope s__law_is_light) s.heap.objs.size f cdv))) :
    PSs (cxOf (L2.CX P wd) P wd K mg base ["many", "base", "threshold"] "_law_is_light" (defScope s__law_is_light) f cdv A outer s H E) (defBody s__law_is_light) (tS K (EW E) (w__law_is_light K C)) := by
  have sc := sc__law_is_light
  have tk : Takes (cxOf (L2.CX P wd) P wd K mg base ["many", "base", "threshold"] "_law_is_light" (defScope s__law_is_light) f cdv A outer s H E) (EW E) := takes_of rfl rfl rfl rfl
  have pown : PassesOwn (model P wd) (cxOf (L2.CX P wd) P wd K mg base ["many", "base", "threshold"] "_law_is_light" (defScope s__law_is_light) f cdv A outer s H E).A (cxOf (L2.CX P wd) P wd K mg base ["many", "base", "threshold"] "_law_is_light" (defScope s__law_is_light) f cdv A outer s H E).env (cxOf (L2.CX P wd) P wd K mg base ["many", "base", "threshold"] "_law_is_light" (defScope s__law_is_light) f cdv A outer s H E).xe := PassesOwn.leaving
  exact (ts_one (ts_ret (te_le (te_call G__law_power hr tk (ta_cons (te_v 0) (ta_cons (te_ixA hr (te_v 2) te_int) ta_nil))) (te_call G__law_power hr tk (ta_cons (te_v 1) (ta_cons (te_ixA hr (te_v 2) te_int) ta_nil))))))
abbrev s__law_parts : Stmt := top 54
theorem sc__law_parts : FnScope ["rows", "column", "threshold", "base", "many", "few", "value", "one", "row"] ["rows", "column", "threshold", "base"] (defScope s__law_parts) := ⟨rfl, rfl, rfl, by decide +kernel, rfl, by decide +kernel, by decide +kernel⟩
def w__law_parts (K : PySem.W.Frag) (C : Cs) : WSx := (wSeq (wSet 4 (wCall (Φ__law_crowds K C) (wCons (wV 0) (wCons (wV 1) wNil)))) (wSeq (wSet 5 (wF (o1 fDictP) (wCons (wLc (iOne itemsD (wV 4)) (gT (gsCons (gN 6) (gsCons (gN 7) gsNil))) wYes (wTup (wCons (wV 6) (wCons (wCall (Φ__law_is_light K C) (wCons (wV 7) (wCons (wV 3) (wCons (wV 2) wNil)))) wNil))) [6, 7]) wNil))) (wRet (wTup (wCons (wF (o1 fTup) (wCons (wF (o1 fSortA) (wCons (wLc (iSeq (wV 0)) (gN 8) (wT (w2 oIxA (wV 5) (w2 oIxA (wV 8) (wV 1)))) (wV 8) [8]) wNil)) wNil)) (wCons (wF (o1 fTup) (wCons (wF (o1 fSortA) (wCons (wLc (iSeq (wV 0)) (gN 8) (wNot (wT (w2 oIxA (wV 5) (w2 oIxA (wV 8) (wV 1))))) (wV 8) [8]) wNil)) wNil)) wNil))))))
theorem b__law_parts (T : Txt K mg C) (G__law_crowds : Fn P wd K mg base 1 "_law_crowds" (Φ__law_crowds K C)) (G__law_is_light : Fn P wd K mg base 2 "_law_is_light" (Φ__law_is_light K C)) {f : Addr} (cdv : Value) (A : Around) (outer : List Env) (s : Shared) (H : Hp) (E : XK) (hr : Room 2 (A.deeper (envOfC "_law_parts" (defScope s__law_parts) s.heap.objs.size f cdv))) :
    PSs (cxOf (L2.CX P wd) P wd K mg base ["rows", "column", "threshold", "base", "many", "few", "value", "one", "row"] "_law_parts" (defScope s__law_parts) f cdv A outer s H E) (defBody s__law_parts) (tS K (EW E) (w__law_parts K C)) := by
  have sc := sc__law_parts
  have tk : Takes (cxOf (L2.CX P wd) P wd K mg base ["rows", "column", "threshold", "base", "many", "few", "value", "one", "row"] "_law_parts" (defScope s__law_parts) f cdv A outer s H E) (EW E) := takes_of rfl rfl rfl rfl
  have pown : PassesOwn (model P wd) (cxOf (L2.CX P wd) P wd K mg base ["rows", "column", "threshold", "base", "many", "few", "value", "one", "row"] "_law_parts" (defScope s__law_parts) f cdv A outer s H E).A (cxOf (L2.CX P wd) P wd K mg base ["rows", "column", "threshold", "base", "many", "few", "value", "one", "row"] "_law_parts" (defScope s__law_parts) f cdv A outer s H E).env (cxOf (L2.CX P wd) P wd K mg base ["rows", "column", "threshold", "base", "many", "few", "value", "one", "row"] "_law_parts" (defScope s__law_parts) f cdv A outer s H E).xe := PassesOwn.leaving
  exact (ts_cons (ts_set 4 sc.nd rfl (by first | exact Or.inl rfl | exact Or.inr rfl) (te_call G__law_crowds hr tk (ta_cons (te_v 0) (ta_cons (te_v 1) ta_nil))))
      (ts_cons (ts_set 5 sc.nd rfl (by first | exact Or.inl rfl | exact Or.inr rfl) (te_dictP rfl rfl (by rfl) T.b_dict (ta_cons (te_lc rfl sc.nd (ti_items (te_v 4)) (blkOk_by (own := [("value", 6), ("one", 7)]) (by kernel_rfl)) (fun _ _ _ _ _ => (tg_tup 2 rfl (tgs_cons (tg_name 6 sc.nd rfl (by first | exact Or.inl rfl | exact Or.inr rfl)) (tgs_cons (tg_name 7 sc.nd rfl (by first | exact Or.inl rfl | exact Or.inr rfl)) tgs_nil)) gs2)) (fun _ _ _ _ _ => tts_nil) (fun _ _ _ _ _ => (te_tup (ta_cons (te_v 6) (ta_cons (te_call G__law_is_light hr takes00 (ta_cons (te_v 7) (ta_cons (te_v 3) (ta_cons (te_v 2) ta_nil)))) ta_nil))))) ta_nil)))
      (ts_one (ts_ret (te_tup (ta_cons (te_toTup rfl (by rfl) T.b_tuple (ta_cons (te_sortedA rfl hr rfl (by rfl) T.b_sorted (ta_cons (te_lc rfl sc.nd (ti_seq (te_v 0)) (blkOk_by (own := [("row", 8)]) (by kernel_rfl)) (fun _ _ _ _ _ => (tg_name 8 sc.nd rfl (by first | exact Or.inl rfl | exact Or.inr rfl))) (fun _ _ _ _ _ => (tts_one (tb_val (te_ixA hr (te_v 5) (te_ixA hr (te_v 8) (te_v 1)))))) (fun _ _ _ _ _ => (te_v 8))) ta_nil)) ta_nil)) (ta_cons (te_toTup rfl (by rfl) T.b_tuple (ta_cons (te_sortedA rfl hr rfl (by rfl) T.b_sorted (ta_cons (te_lc rfl sc.nd (ti_seq (te_v 0)) (blkOk_by (own := [("row", 8)]) (by kernel_rfl)) (fun _ _ _ _ _ => (tg_name 8 sc.nd rfl (by first | exact Or.inl rfl | exact Or.inr rfl))) (fun _ _ _ _ _ => (tts_one (tb_not (tb_val (te_ixA hr (te_v 5) (te_ixA hr (te_v 8) (te_v 1))))))) (fun _ _ _ _ _ => (te_v 8))) ta_nil)) ta_nil)) ta_nil)))))))
abbrev s__law_threshold : Stmt := top 55
theorem sc__law_threshold : FnScope ["pen"] ["pen"] (defScope s__law_threshold) := ⟨rfl, rfl, rfl, by decide +kernel, rfl, by decide +kernel, by decide +kernel⟩
def w__law_threshold (K : PySem.W.Frag) (C : Cs) : WSx := (wRet (wCall (Φ__law_pick K C) (wCons (wV 0) (wCons (wLst (wCons (wTup (wCons (wC (.int 1)) (wCons (wC (.int 2)) wNil))) (wCons (wTup (wCons (wC (.int 1)) (wCons (wC (.int 1)) wNil))) (wCons (wTup (wCons (wC (.int 1)) (wCons (wC (.int 3)) wNil))) (wCons (wTup (wCons (wC (.int 2)) (wCons (wC (.int 3)) wNil))) (wCons (wTup (wCons (wC (.int 3)) (wCons (wC (.int 2)) wNil))) (wCons (wTup (wCons (wC (.int 2)) (wCons (wC (.int 1)) wNil))) (wCons (wTup (wCons (wC (.int 5)) (wCons (wC (.int 7)) wNil))) (wCons (wTup (wCons (wC (.int 1)) (wCons (wC (.int 12)) wNil))) wNil))))))))) wNil))))
theorem b__law_threshold (T : Txt K mg C) (G__law_pick : Fn P wd K mg base 2 "_law_pick" (Φ__law_pick K C)) {f : Addr} (cdv : Value) (A : Around) (outer : List Env) (s : Shared) (H : Hp) (E : XK) (hr : Room 2 (A.deeper (envOfC "_law_threshold" (defScope s__law_threshold) s.heap.objs.size f cdv))) :
    PSs (cxOf (L2.CX P wd) P wd K mg base ["pen"] "_law_threshold" (defScope s__law_threshold) f cdv A outer s H E) (defBody s__law_threshold) (tS K (EW E) (w__law_threshold K C)) := by
  have sc := sc__law_threshold
  have tk : Takes (cxOf (L2.CX P wd) P wd K mg base ["pen"] "_law_threshold" (defScope s__law_threshold) f cdv A outer s H E) (EW E) := takes_of rfl rfl rfl rfl
  have pown : PassesOwn (model P wd) (cxOf (L2.CX P wd) P wd K mg base ["pen"] "_law_threshold" (defScope s__law_threshold) f cdv A outer s H E).A (cxOf (L2.CX P wd) P wd K mg base ["pen"] "_law_threshold" (defScope s__law_threshold) f cdv A outer s H E).env (cxOf (L2.CX P wd) P wd K mg base ["pen"] "_law_threshold" (defScope s__law_threshold) f cdv A outer s H E).xe := PassesOwn.leaving
  exact (ts_one (ts_ret (te_call G__law_pick hr tk (ta_cons (te_v 0) (ta_cons (te_lst (ta_cons (te_tup (ta_cons te_int (ta_cons te_int ta_nil))) (ta_cons (te_tup (ta_cons te_int (ta_cons te_int ta_nil))) (ta_cons (te_tup (ta_cons te_int (ta_cons te_int ta_nil))) (ta_cons (te_tup (ta_cons te_int (ta_cons te_int ta_nil))) (ta_cons (te_tup (ta_cons te_int (ta_cons te_int ta_nil))) (ta_cons (te_tup (ta_cons te_int (ta_cons te_int ta_nil))) (ta_cons (te_tup (ta_cons te_int (ta_cons te_int ta_nil))) (ta_cons (te_tup (ta_cons te_int (ta_cons te_int ta_nil))) ta_nil))))))))) ta_nil)))))
end
end L2.TL.W

/-! text K07a -/
set_option Elab.async false
set_option linter.all false
set_option maxRecDepth 100000
set_option maxHeartbeats 4000000
namespace L2.TL.W
open PySem PySem.Spec PyProof.Rows L2.TL
theorem sz1 : 1 ≤ sizeLine := by decide
theorem sz2 : 2 ≤ sizeLine := by decide
theorem sz3 : 3 ≤ sizeLine := by decide
theorem kit_self {K : PySem.W.Frag} {v : Value} : PySem.W.kitOne K v v = some true := by unfold PySem.W.kitOne; simp
theorem lookup_hd {β : Type} {a : Str} {b : β} {l : List (Str × β)} : List.lookup a ((a, b) :: l) = some b := by rw [List.lookup_cons]; simp
theorem lookup_tl {β : Type} {x y : String} {b : β} {l : List (Str × β)} (h : (Str.ofString x == Str.ofString y) = false) : List.lookup (Str.ofString x) ((Str.ofString y, b) :: l) = List.lookup (Str.ofString x) l := by rw [List.lookup_cons, h]
theorem ne_wn : (Str.ofString "width" == Str.ofString "name") = false := by decide +kernel
theorem ne_rt : (Str.ofString "rows" == Str.ofString "tables") = false := by decide +kernel
theorem ne_ct : (Str.ofString "column" == Str.ofString "table") = false := by decide +kernel
theorem ne_tt : (Str.ofString "threshold" == Str.ofString "table") = false := by decide +kernel
theorem ne_tc : (Str.ofString "threshold" == Str.ofString "column") = false := by decide +kernel
theorem ne_nw : ¬ (Str.ofString "name" = Str.ofString "width") := by decide +kernel
theorem ne_tr : ¬ (Str.ofString "tables" = Str.ofString "rows") := by decide +kernel
theorem ne_tac : ¬ (Str.ofString "table" = Str.ofString "column") := by decide +kernel
theorem ne_tat : ¬ (Str.ofString "table" = Str.ofString "threshold") := by decide +kernel
theorem ne_cot : ¬ (Str.ofString "column" = Str.ofString "threshold") := by decide +kernel
theorem set_at {os : Os} {k : Nat} {o o' : Option D} (h : os[k]? = some o) : (os.set k o')[k]? = some o' := List.getElem?_set_self (List.getElem?_eq_some_iff.mp h).1
theorem cdW {x : Int} {n : Nat} (h0 : 0 < n) (h : n ≤ 1000000) : CDivW x (n : Int) := ⟨by omega, by
  rw [Int.natAbs_natCast]
  have h2 : n.log2 < 20 := (Nat.log2_lt (by omega)).mpr (by omega)
  omega⟩
theorem ne_ixt : ¬ (Str.ofString "index" = Str.ofString "tables") := by decide +kernel
theorem ne_ixr : ¬ (Str.ofString "index" = Str.ofString "rows") := by decide +kernel
theorem ne_nit : ¬ (Str.ofString "need_index" = Str.ofString "tables") := by decide +kernel
theorem ne_nir : ¬ (Str.ofString "need_index" = Str.ofString "rows") := by decide +kernel
theorem ne_rot : ¬ (Str.ofString "rows_of" = Str.ofString "tables") := by decide +kernel
theorem ne_ror : ¬ (Str.ofString "rows_of" = Str.ofString "rows") := by decide +kernel
theorem take_set (os : Os) (k : Nat) (o : Option D) : List.take os.length (os.set k o) = os.set k o := by rw [List.take_of_length_le]; simp
section
variable {K : PySem.W.Frag} {mg : Str → Option Value} {C : Cs} {rs : List R} {os : Os} {P : R → Os → Prop} {PX : Er → Os → Prop}
theorem l_is_integer (h : Φ_is_integer K C rs os P PX) : w_is_integer K C ⟨startR ["value"] rs, os⟩ (bodyPost os.length P PX) := by
  obtain ⟨i, rfl, hp⟩ := h
  simpa [w_is_integer, wRet, wRetN, wAndV, wOrV, wNotV, wF, wCons, wNil, wV, wC, o1, o2, fIsi, fLen, fAll, fInt, fAbs, fII, fTup, fList, fSortA, fSort, wParG, put1, startR, R.fz, R.val, isiD, clsD, clsL, tyD, insOk, bodyPost, wSeq, wNext, wIfS, wT, w2, oAdd, oAddA, wNewT, wCallK, permL, wMakeK, oSub, oI, oIc, oMulW, oDivW, oMod, oPow, oLt, oLe, oGt, oGe, oEq, wIsN, D.isNon, wChain, wIf, wFld, wTup, wLst, shs, wSet, wOwn, wPar, wPar3, wCall, wMake, wMeth, wExpr, wAsgE, geT, geCons, geNil, geF, putD, wAsgT, gT, gsCons, gsNil, gN, iSeq, iOne, iRng, iZip, wNeg, wAnd, wOr, wNot, seqD, shs, oIx, oIxA, oIn, inD, wPut, setD, wGet2, wNewD, wYes, noX, dcD, blsD, eqD, shD, toPy, toPyL, PyData.eqv, PyData.eqvAll, SeqAt.shaped, PyData.canLay0, PyData.canLayAll0, PyData.depth, PyData.depthAll, and_assoc, sz1, sz2, sz3, kit_self, lookup_hd, lookup_tl, Int.natCast_inj, show ((0 : Nat) : Int) = 0 from rfl, kb_NoneType_bool, kb_NoneType_int, kb_NoneType_str, kb_NoneType_list, kb_NoneType_tuple, kb_NoneType_dict, kb_bool_bool, kb_bool_int, kb_bool_str, kb_bool_list, kb_bool_tuple, kb_bool_dict, kb_int_bool, kb_int_int, kb_int_str, kb_int_list, kb_int_tuple, kb_int_dict, kb_str_bool, kb_str_int, kb_str_str, kb_str_list, kb_str_tuple, kb_str_dict, kb_list_bool, kb_list_int, kb_list_str, kb_list_list, kb_list_tuple, kb_list_dict, kb_tuple_bool, kb_tuple_int, kb_tuple_str, kb_tuple_list, kb_tuple_tuple, kb_tuple_dict, kb_dict_bool, kb_dict_int, kb_dict_str, kb_dict_list, kb_dict_tuple, kb_dict_dict] using hp
theorem l_is_between (h : Φ_is_between K C rs os P PX) : w_is_between K C ⟨startR ["value", "least", "most"] rs, os⟩ (bodyPost os.length P PX) := by
  obtain ⟨v, lo, hi, rfl, hp⟩ := h
  simp [w_is_between, Φ_is_integer, wRet, wRetN, wAndV, wOrV, wNotV, wF, wCons, wNil, wV, wC, o1, o2, fIsi, fLen, fAll, fInt, fAbs, fII, fTup, fList, fSortA, fSort, wParG, put1, startR, R.fz, R.val, isiD, clsD, clsL, tyD, insOk, bodyPost, wSeq, wNext, wIfS, wT, w2, oAdd, oAddA, wNewT, wCallK, permL, wMakeK, oSub, oI, oIc, oMulW, oDivW, oMod, oPow, oLt, oLe, oGt, oGe, oEq, wIsN, D.isNon, wChain, wIf, wFld, wTup, wLst, shs, wSet, wOwn, wPar, wPar3, wCall, wMake, wMeth, wExpr, wAsgE, geT, geCons, geNil, geF, putD, wAsgT, gT, gsCons, gsNil, gN, iSeq, iOne, iRng, iZip, wNeg, wAnd, wOr, wNot, seqD, shs, oIx, oIxA, oIn, inD, wPut, setD, wGet2, wNewD, wYes, noX, dcD, blsD, eqD, shD, toPy, toPyL, PyData.eqv, PyData.eqvAll, SeqAt.shaped, PyData.canLay0, PyData.canLayAll0, PyData.depth, PyData.depthAll, and_assoc, sz1, sz2, sz3, kit_self, lookup_hd, lookup_tl, Int.natCast_inj, show ((0 : Nat) : Int) = 0 from rfl, kb_NoneType_bool, kb_NoneType_int, kb_NoneType_str, kb_NoneType_list, kb_NoneType_tuple, kb_NoneType_dict, kb_bool_bool, kb_bool_int, kb_bool_str, kb_bool_list, kb_bool_tuple, kb_bool_dict, kb_int_bool, kb_int_int, kb_int_str, kb_int_list, kb_int_tuple, kb_int_dict, kb_str_bool, kb_str_int, kb_str_str, kb_str_list, kb_str_tuple, kb_str_dict, kb_list_bool, kb_list_int, kb_list_str, kb_list_list, kb_list_tuple, kb_list_dict, kb_tuple_bool, kb_tuple_int, kb_tuple_str, kb_tuple_list, kb_tuple_tuple, kb_tuple_dict, kb_dict_bool, kb_dict_int, kb_dict_str, kb_dict_list, kb_dict_tuple, kb_dict_dict]
  cases e : decide (lo ≤ v)
  · rw [e] at hp; exact hp
  · rw [e] at hp; exact hp
theorem l_is_listed (h : Φ_is_listed K C rs os P PX) : w_is_listed K C ⟨startR ["value"] rs, os⟩ (bodyPost os.length P PX) := by
  obtain ⟨d, xs, rfl, e, hp⟩ := h
  cases d <;> simp [seqD] at e
  all_goals simpa [w_is_listed, PySem.W.kitAny, wRet, wRetN, wAndV, wOrV, wNotV, wF, wCons, wNil, wV, wC, o1, o2, fIsi, fLen, fAll, fInt, fAbs, fII, fTup, fList, fSortA, fSort, wParG, put1, startR, R.fz, R.val, isiD, clsD, clsL, tyD, insOk, bodyPost, wSeq, wNext, wIfS, wT, w2, oAdd, oAddA, wNewT, wCallK, permL, wMakeK, oSub, oI, oIc, oMulW, oDivW, oMod, oPow, oLt, oLe, oGt, oGe, oEq, wIsN, D.isNon, wChain, wIf, wFld, wTup, wLst, shs, wSet, wOwn, wPar, wPar3, wCall, wMake, wMeth, wExpr, wAsgE, geT, geCons, geNil, geF, putD, wAsgT, gT, gsCons, gsNil, gN, iSeq, iOne, iRng, iZip, wNeg, wAnd, wOr, wNot, seqD, shs, oIx, oIxA, oIn, inD, wPut, setD, wGet2, wNewD, wYes, noX, dcD, blsD, eqD, shD, toPy, toPyL, PyData.eqv, PyData.eqvAll, SeqAt.shaped, PyData.canLay0, PyData.canLayAll0, PyData.depth, PyData.depthAll, and_assoc, sz1, sz2, sz3, kit_self, lookup_hd, lookup_tl, Int.natCast_inj, show ((0 : Nat) : Int) = 0 from rfl, kb_NoneType_bool, kb_NoneType_int, kb_NoneType_str, kb_NoneType_list, kb_NoneType_tuple, kb_NoneType_dict, kb_bool_bool, kb_bool_int, kb_bool_str, kb_bool_list, kb_bool_tuple, kb_bool_dict, kb_int_bool, kb_int_int, kb_int_str, kb_int_list, kb_int_tuple, kb_int_dict, kb_str_bool, kb_str_int, kb_str_str, kb_str_list, kb_str_tuple, kb_str_dict, kb_list_bool, kb_list_int, kb_list_str, kb_list_list, kb_list_tuple, kb_list_dict, kb_tuple_bool, kb_tuple_int, kb_tuple_str, kb_tuple_list, kb_tuple_tuple, kb_tuple_dict, kb_dict_bool, kb_dict_int, kb_dict_str, kb_dict_list, kb_dict_tuple, kb_dict_dict] using hp
theorem l_is_row (h : Φ_is_row K C rs os P PX) : w_is_row K C ⟨startR ["value", "least", "most"] rs, os⟩ (bodyPost os.length P PX) := by
  obtain ⟨d, xs, lo, hi, rfl, e, hp⟩ := h
  cases d <;> simp [seqD] at e
  all_goals
    subst e
    simp [w_is_row, Φ_is_listed, wRet, wRetN, wAndV, wOrV, wNotV, wF, wCons, wNil, wV, wC, o1, o2, fIsi, fLen, fAll, fInt, fAbs, fII, fTup, fList, fSortA, fSort, wParG, put1, startR, R.fz, R.val, isiD, clsD, clsL, tyD, insOk, bodyPost, wSeq, wNext, wIfS, wT, w2, oAdd, oAddA, wNewT, wCallK, permL, wMakeK, oSub, oI, oIc, oMulW, oDivW, oMod, oPow, oLt, oLe, oGt, oGe, oEq, wIsN, D.isNon, wChain, wIf, wFld, wTup, wLst, shs, wSet, wOwn, wPar, wPar3, wCall, wMake, wMeth, wExpr, wAsgE, geT, geCons, geNil, geF, putD, wAsgT, gT, gsCons, gsNil, gN, iSeq, iOne, iRng, iZip, wNeg, wAnd, wOr, wNot, seqD, shs, oIx, oIxA, oIn, inD, wPut, setD, wGet2, wNewD, wYes, noX, dcD, blsD, eqD, shD, toPy, toPyL, PyData.eqv, PyData.eqvAll, SeqAt.shaped, PyData.canLay0, PyData.canLayAll0, PyData.depth, PyData.depthAll, and_assoc, sz1, sz2, sz3, kit_self, lookup_hd, lookup_tl, Int.natCast_inj, show ((0 : Nat) : Int) = 0 from rfl, kb_NoneType_bool, kb_NoneType_int, kb_NoneType_str, kb_NoneType_list, kb_NoneType_tuple, kb_NoneType_dict, kb_bool_bool, kb_bool_int, kb_bool_str, kb_bool_list, kb_bool_tuple, kb_bool_dict, kb_int_bool, kb_int_int, kb_int_str, kb_int_list, kb_int_tuple, kb_int_dict, kb_str_bool, kb_str_int, kb_str_str, kb_str_list, kb_str_tuple, kb_str_dict, kb_list_bool, kb_list_int, kb_list_str, kb_list_list, kb_list_tuple, kb_list_dict, kb_tuple_bool, kb_tuple_int, kb_tuple_str, kb_tuple_list, kb_tuple_tuple, kb_tuple_dict, kb_dict_bool, kb_dict_int, kb_dict_str, kb_dict_list, kb_dict_tuple, kb_dict_dict]
    rename_i xs
    cases e : decide (lo ≤ (xs.length : Int))
    · rw [e] at hp; exact hp
    · rw [e] at hp; exact hp
theorem l_need_base (h : Φ_need_base K C rs os P PX) : w_need_base K C ⟨startR ["value"] rs, os⟩ (bodyPost os.length P PX) := by
  obtain ⟨b, rfl, h1, h2, hp⟩ := h
  simpa [w_need_base, Φ_is_between, h1, h2, wRet, wRetN, wAndV, wOrV, wNotV, wF, wCons, wNil, wV, wC, o1, o2, fIsi, fLen, fAll, fInt, fAbs, fII, fTup, fList, fSortA, fSort, wParG, put1, startR, R.fz, R.val, isiD, clsD, clsL, tyD, insOk, bodyPost, wSeq, wNext, wIfS, wT, w2, oAdd, oAddA, wNewT, wCallK, permL, wMakeK, oSub, oI, oIc, oMulW, oDivW, oMod, oPow, oLt, oLe, oGt, oGe, oEq, wIsN, D.isNon, wChain, wIf, wFld, wTup, wLst, shs, wSet, wOwn, wPar, wPar3, wCall, wMake, wMeth, wExpr, wAsgE, geT, geCons, geNil, geF, putD, wAsgT, gT, gsCons, gsNil, gN, iSeq, iOne, iRng, iZip, wNeg, wAnd, wOr, wNot, seqD, shs, oIx, oIxA, oIn, inD, wPut, setD, wGet2, wNewD, wYes, noX, dcD, blsD, eqD, shD, toPy, toPyL, PyData.eqv, PyData.eqvAll, SeqAt.shaped, PyData.canLay0, PyData.canLayAll0, PyData.depth, PyData.depthAll, and_assoc, sz1, sz2, sz3, kit_self, lookup_hd, lookup_tl, Int.natCast_inj, show ((0 : Nat) : Int) = 0 from rfl, kb_NoneType_bool, kb_NoneType_int, kb_NoneType_str, kb_NoneType_list, kb_NoneType_tuple, kb_NoneType_dict, kb_bool_bool, kb_bool_int, kb_bool_str, kb_bool_list, kb_bool_tuple, kb_bool_dict, kb_int_bool, kb_int_int, kb_int_str, kb_int_list, kb_int_tuple, kb_int_dict, kb_str_bool, kb_str_int, kb_str_str, kb_str_list, kb_str_tuple, kb_str_dict, kb_list_bool, kb_list_int, kb_list_str, kb_list_list, kb_list_tuple, kb_list_dict, kb_tuple_bool, kb_tuple_int, kb_tuple_str, kb_tuple_list, kb_tuple_tuple, kb_tuple_dict, kb_dict_bool, kb_dict_int, kb_dict_str, kb_dict_list, kb_dict_tuple, kb_dict_dict] using hp
theorem l_lowest (h : Φ_lowest K C rs os P PX) : w_lowest K C ⟨startR ["top", "bottom", "part"] rs, os⟩ (bodyPost os.length P PX) := by
  obtain ⟨a, b, rfl, h1, h2, h3, h4, hp⟩ := h
  have g0 : 0 < Nat.gcd a b := Nat.gcd_pos_of_pos_left _ h1
  have g1 : Nat.gcd a b ≤ 9999 := Nat.le_trans (Nat.gcd_le_left _ h1) h3
  simp [w_lowest, wRet, wRetN, wAndV, wOrV, wNotV, wF, wCons, wNil, wV, wC, o1, o2, fIsi, fLen, fAll, fInt, fAbs, fII, fTup, fList, fSortA, fSort, wParG, put1, startR, R.fz, R.val, isiD, clsD, clsL, tyD, insOk, bodyPost, wSeq, wNext, wIfS, wT, w2, oAdd, oAddA, wNewT, wCallK, permL, wMakeK, oSub, oI, oIc, oMulW, oDivW, oMod, oPow, oLt, oLe, oGt, oGe, oEq, wIsN, D.isNon, wChain, wIf, wFld, wTup, wLst, shs, wSet, wOwn, wPar, wPar3, wCall, wMake, wMeth, wExpr, wAsgE, geT, geCons, geNil, geF, putD, wAsgT, gT, gsCons, gsNil, gN, iSeq, iOne, iRng, iZip, wNeg, wAnd, wOr, wNot, seqD, shs, oIx, oIxA, oIn, inD, wPut, setD, wGet2, wNewD, wYes, noX, dcD, blsD, eqD, shD, toPy, toPyL, PyData.eqv, PyData.eqvAll, SeqAt.shaped, PyData.canLay0, PyData.canLayAll0, PyData.depth, PyData.depthAll, and_assoc, sz1, sz2, sz3, kit_self, lookup_hd, lookup_tl, Int.natCast_inj, show ((0 : Nat) : Int) = 0 from rfl, kb_NoneType_bool, kb_NoneType_int, kb_NoneType_str, kb_NoneType_list, kb_NoneType_tuple, kb_NoneType_dict, kb_bool_bool, kb_bool_int, kb_bool_str, kb_bool_list, kb_bool_tuple, kb_bool_dict, kb_int_bool, kb_int_int, kb_int_str, kb_int_list, kb_int_tuple, kb_int_dict, kb_str_bool, kb_str_int, kb_str_str, kb_str_list, kb_str_tuple, kb_str_dict, kb_list_bool, kb_list_int, kb_list_str, kb_list_list, kb_list_tuple, kb_list_dict, kb_tuple_bool, kb_tuple_int, kb_tuple_str, kb_tuple_list, kb_tuple_tuple, kb_tuple_dict, kb_dict_bool, kb_dict_int, kb_dict_str, kb_dict_list, kb_dict_tuple, kb_dict_dict]
  refine ⟨a, b, rfl, h1, ?_⟩
  simp [wRet, wRetN, wAndV, wOrV, wNotV, wF, wCons, wNil, wV, wC, o1, o2, fIsi, fLen, fAll, fInt, fAbs, fII, fTup, fList, fSortA, fSort, wParG, put1, startR, R.fz, R.val, isiD, clsD, clsL, tyD, insOk, bodyPost, wSeq, wNext, wIfS, wT, w2, oAdd, oAddA, wNewT, wCallK, permL, wMakeK, oSub, oI, oIc, oMulW, oDivW, oMod, oPow, oLt, oLe, oGt, oGe, oEq, wIsN, D.isNon, wChain, wIf, wFld, wTup, wLst, shs, wSet, wOwn, wPar, wPar3, wCall, wMake, wMeth, wExpr, wAsgE, geT, geCons, geNil, geF, putD, wAsgT, gT, gsCons, gsNil, gN, iSeq, iOne, iRng, iZip, wNeg, wAnd, wOr, wNot, seqD, shs, oIx, oIxA, oIn, inD, wPut, setD, wGet2, wNewD, wYes, noX, dcD, blsD, eqD, shD, toPy, toPyL, PyData.eqv, PyData.eqvAll, SeqAt.shaped, PyData.canLay0, PyData.canLayAll0, PyData.depth, PyData.depthAll, and_assoc, sz1, sz2, sz3, kit_self, lookup_hd, lookup_tl, Int.natCast_inj, show ((0 : Nat) : Int) = 0 from rfl, kb_NoneType_bool, kb_NoneType_int, kb_NoneType_str, kb_NoneType_list, kb_NoneType_tuple, kb_NoneType_dict, kb_bool_bool, kb_bool_int, kb_bool_str, kb_bool_list, kb_bool_tuple, kb_bool_dict, kb_int_bool, kb_int_int, kb_int_str, kb_int_list, kb_int_tuple, kb_int_dict, kb_str_bool, kb_str_int, kb_str_str, kb_str_list, kb_str_tuple, kb_str_dict, kb_list_bool, kb_list_int, kb_list_str, kb_list_list, kb_list_tuple, kb_list_dict, kb_tuple_bool, kb_tuple_int, kb_tuple_str, kb_tuple_list, kb_tuple_tuple, kb_tuple_dict, kb_dict_bool, kb_dict_int, kb_dict_str, kb_dict_list, kb_dict_tuple, kb_dict_dict]
  refine ⟨cdW g0 (by omega), cdW g0 (by omega), ?_⟩
  simpa using hp
theorem l_is_at_most (h : Φ_is_at_most K C rs os P PX) : w_is_at_most K C ⟨startR ["number", "base", "threshold", "top", "bottom"] rs, os⟩ (bodyPost os.length P PX) := by
  obtain ⟨n, b, t, u, rfl, h1, h2, h3, h4, hp⟩ := h
  simp [w_is_at_most, wRet, wRetN, wAndV, wOrV, wNotV, wF, wCons, wNil, wV, wC, o1, o2, fIsi, fLen, fAll, fInt, fAbs, fII, fTup, fList, fSortA, fSort, wParG, put1, startR, R.fz, R.val, isiD, clsD, clsL, tyD, insOk, bodyPost, wSeq, wNext, wIfS, wT, w2, oAdd, oAddA, wNewT, wCallK, permL, wMakeK, oSub, oI, oIc, oMulW, oDivW, oMod, oPow, oLt, oLe, oGt, oGe, oEq, wIsN, D.isNon, wChain, wIf, wFld, wTup, wLst, shs, wSet, wOwn, wPar, wPar3, wCall, wMake, wMeth, wExpr, wAsgE, geT, geCons, geNil, geF, putD, wAsgT, gT, gsCons, gsNil, gN, iSeq, iOne, iRng, iZip, wNeg, wAnd, wOr, wNot, seqD, shs, oIx, oIxA, oIn, inD, wPut, setD, wGet2, wNewD, wYes, noX, dcD, blsD, eqD, shD, toPy, toPyL, PyData.eqv, PyData.eqvAll, SeqAt.shaped, PyData.canLay0, PyData.canLayAll0, PyData.depth, PyData.depthAll, and_assoc, sz1, sz2, sz3, kit_self, lookup_hd, lookup_tl, Int.natCast_inj, show ((0 : Nat) : Int) = 0 from rfl, kb_NoneType_bool, kb_NoneType_int, kb_NoneType_str, kb_NoneType_list, kb_NoneType_tuple, kb_NoneType_dict, kb_bool_bool, kb_bool_int, kb_bool_str, kb_bool_list, kb_bool_tuple, kb_bool_dict, kb_int_bool, kb_int_int, kb_int_str, kb_int_list, kb_int_tuple, kb_int_dict, kb_str_bool, kb_str_int, kb_str_str, kb_str_list, kb_str_tuple, kb_str_dict, kb_list_bool, kb_list_int, kb_list_str, kb_list_list, kb_list_tuple, kb_list_dict, kb_tuple_bool, kb_tuple_int, kb_tuple_str, kb_tuple_list, kb_tuple_tuple, kb_tuple_dict, kb_dict_bool, kb_dict_int, kb_dict_str, kb_dict_list, kb_dict_tuple, kb_dict_dict]
  refine ⟨n, u, rfl, h1, h4, b, t, rfl, h2, h3, ?_⟩
  have e : decide (((n ^ u : Nat) : Int) ≤ ((b ^ t : Nat) : Int)) = decide (n ^ u ≤ b ^ t) := by
    rw [decide_eq_decide]; exact Int.ofNat_le
  simp only [e, List.take_length]
  exact hp
theorem l_Table_init (T : Txt K mg C) (h : Φ_Table_init K C rs os P PX) : w_Table_init K C ⟨startR ["self", "name", "width"] rs, os⟩ (bodyPost os.length P PX) := by
  obtain ⟨k, z, w, rfl, ho, hz, hn, h1, h2, hp⟩ := h
  simp [w_Table_init, wRet, wRetN, wAndV, wOrV, wNotV, wF, wCons, wNil, wV, wC, o1, o2, fIsi, fLen, fAll, fInt, fAbs, fII, fTup, fList, fSortA, fSort, wParG, put1, startR, R.fz, R.val, isiD, clsD, clsL, tyD, insOk, bodyPost, wSeq, wNext, wIfS, wT, w2, oAdd, oAddA, wNewT, wCallK, permL, wMakeK, oSub, oI, oIc, oMulW, oDivW, oMod, oPow, oLt, oLe, oGt, oGe, oEq, wIsN, D.isNon, wChain, wIf, wFld, wTup, wLst, shs, wSet, wOwn, wPar, wPar3, wCall, wMake, wMeth, wExpr, wAsgE, geT, geCons, geNil, geF, putD, wAsgT, gT, gsCons, gsNil, gN, iSeq, iOne, iRng, iZip, wNeg, wAnd, wOr, wNot, seqD, shs, oIx, oIxA, oIn, inD, wPut, setD, wGet2, wNewD, wYes, noX, dcD, blsD, eqD, shD, toPy, toPyL, PyData.eqv, PyData.eqvAll, SeqAt.shaped, PyData.canLay0, PyData.canLayAll0, PyData.depth, PyData.depthAll, and_assoc, sz1, sz2, sz3, kit_self, lookup_hd, lookup_tl, Int.natCast_inj, show ((0 : Nat) : Int) = 0 from rfl, kb_NoneType_bool, kb_NoneType_int, kb_NoneType_str, kb_NoneType_list, kb_NoneType_tuple, kb_NoneType_dict, kb_bool_bool, kb_bool_int, kb_bool_str, kb_bool_list, kb_bool_tuple, kb_bool_dict, kb_int_bool, kb_int_int, kb_int_str, kb_int_list, kb_int_tuple, kb_int_dict, kb_str_bool, kb_str_int, kb_str_str, kb_str_list, kb_str_tuple, kb_str_dict, kb_list_bool, kb_list_int, kb_list_str, kb_list_list, kb_list_tuple, kb_list_dict, kb_tuple_bool, kb_tuple_int, kb_tuple_str, kb_tuple_list, kb_tuple_tuple, kb_tuple_dict, kb_dict_bool, kb_dict_int, kb_dict_str, kb_dict_list, kb_dict_tuple, kb_dict_dict]
  refine ⟨z, rfl, hz, ?_⟩
  simp [hn, wRet, wRetN, wAndV, wOrV, wNotV, wF, wCons, wNil, wV, wC, o1, o2, fIsi, fLen, fAll, fInt, fAbs, fII, fTup, fList, fSortA, fSort, wParG, put1, startR, R.fz, R.val, isiD, clsD, clsL, tyD, insOk, bodyPost, wSeq, wNext, wIfS, wT, w2, oAdd, oAddA, wNewT, wCallK, permL, wMakeK, oSub, oI, oIc, oMulW, oDivW, oMod, oPow, oLt, oLe, oGt, oGe, oEq, wIsN, D.isNon, wChain, wIf, wFld, wTup, wLst, shs, wSet, wOwn, wPar, wPar3, wCall, wMake, wMeth, wExpr, wAsgE, geT, geCons, geNil, geF, putD, wAsgT, gT, gsCons, gsNil, gN, iSeq, iOne, iRng, iZip, wNeg, wAnd, wOr, wNot, seqD, shs, oIx, oIxA, oIn, inD, wPut, setD, wGet2, wNewD, wYes, noX, dcD, blsD, eqD, shD, toPy, toPyL, PyData.eqv, PyData.eqvAll, SeqAt.shaped, PyData.canLay0, PyData.canLayAll0, PyData.depth, PyData.depthAll, and_assoc, sz1, sz2, sz3, kit_self, lookup_hd, lookup_tl, Int.natCast_inj, show ((0 : Nat) : Int) = 0 from rfl, kb_NoneType_bool, kb_NoneType_int, kb_NoneType_str, kb_NoneType_list, kb_NoneType_tuple, kb_NoneType_dict, kb_bool_bool, kb_bool_int, kb_bool_str, kb_bool_list, kb_bool_tuple, kb_bool_dict, kb_int_bool, kb_int_int, kb_int_str, kb_int_list, kb_int_tuple, kb_int_dict, kb_str_bool, kb_str_int, kb_str_str, kb_str_list, kb_str_tuple, kb_str_dict, kb_list_bool, kb_list_int, kb_list_str, kb_list_list, kb_list_tuple, kb_list_dict, kb_tuple_bool, kb_tuple_int, kb_tuple_str, kb_tuple_list, kb_tuple_tuple, kb_tuple_dict, kb_dict_bool, kb_dict_int, kb_dict_str, kb_dict_list, kb_dict_tuple, kb_dict_dict]
  refine ⟨w, 1, 2, rfl, ?_⟩
  simp [h1, h2, ho, set_at ho, ne_nw, take_set, wRet, wRetN, wAndV, wOrV, wNotV, wF, wCons, wNil, wV, wC, o1, o2, fIsi, fLen, fAll, fInt, fAbs, fII, fTup, fList, fSortA, fSort, wParG, put1, startR, R.fz, R.val, isiD, clsD, clsL, tyD, insOk, bodyPost, wSeq, wNext, wIfS, wT, w2, oAdd, oAddA, wNewT, wCallK, permL, wMakeK, oSub, oI, oIc, oMulW, oDivW, oMod, oPow, oLt, oLe, oGt, oGe, oEq, wIsN, D.isNon, wChain, wIf, wFld, wTup, wLst, shs, wSet, wOwn, wPar, wPar3, wCall, wMake, wMeth, wExpr, wAsgE, geT, geCons, geNil, geF, putD, wAsgT, gT, gsCons, gsNil, gN, iSeq, iOne, iRng, iZip, wNeg, wAnd, wOr, wNot, seqD, shs, oIx, oIxA, oIn, inD, wPut, setD, wGet2, wNewD, wYes, noX, dcD, blsD, eqD, shD, toPy, toPyL, PyData.eqv, PyData.eqvAll, SeqAt.shaped, PyData.canLay0, PyData.canLayAll0, PyData.depth, PyData.depthAll, and_assoc, sz1, sz2, sz3, kit_self, lookup_hd, lookup_tl, Int.natCast_inj, show ((0 : Nat) : Int) = 0 from rfl, kb_NoneType_bool, kb_NoneType_int, kb_NoneType_str, kb_NoneType_list, kb_NoneType_tuple, kb_NoneType_dict, kb_bool_bool, kb_bool_int, kb_bool_str, kb_bool_list, kb_bool_tuple, kb_bool_dict, kb_int_bool, kb_int_int, kb_int_str, kb_int_list, kb_int_tuple, kb_int_dict, kb_str_bool, kb_str_int, kb_str_str, kb_str_list, kb_str_tuple, kb_str_dict, kb_list_bool, kb_list_int, kb_list_str, kb_list_list, kb_list_tuple, kb_list_dict, kb_tuple_bool, kb_tuple_int, kb_tuple_str, kb_tuple_list, kb_tuple_tuple, kb_tuple_dict, kb_dict_bool, kb_dict_int, kb_dict_str, kb_dict_list, kb_dict_tuple, kb_dict_dict]
  simpa [tabD] using hp
theorem l_Table_eq (T : Txt K mg C) (h : Φ_Table_eq K C rs os P PX) : w_Table_eq K C ⟨startR ["self", "other"] rs, os⟩ (bodyPost os.length P PX) := by
  obtain ⟨s, t, rfl, k1, k2, hp⟩ := h
  have e1 : ((s.1 == t.1) && (s.2 == t.2)) = decide (s = t) := by
    rw [Bool.eq_iff_iff]; simp [Prod.ext_iff]
  simp [w_Table_eq, tabD, T.i_Table, T.k_Table, T.n_Table_name, T.n_Table_width, lookup_tl ne_wn, k1, k2, wRet, wRetN, wAndV, wOrV, wNotV, wF, wCons, wNil, wV, wC, o1, o2, fIsi, fLen, fAll, fInt, fAbs, fII, fTup, fList, fSortA, fSort, wParG, put1, startR, R.fz, R.val, isiD, clsD, clsL, tyD, insOk, bodyPost, wSeq, wNext, wIfS, wT, w2, oAdd, oAddA, wNewT, wCallK, permL, wMakeK, oSub, oI, oIc, oMulW, oDivW, oMod, oPow, oLt, oLe, oGt, oGe, oEq, wIsN, D.isNon, wChain, wIf, wFld, wTup, wLst, shs, wSet, wOwn, wPar, wPar3, wCall, wMake, wMeth, wExpr, wAsgE, geT, geCons, geNil, geF, putD, wAsgT, gT, gsCons, gsNil, gN, iSeq, iOne, iRng, iZip, wNeg, wAnd, wOr, wNot, seqD, shs, oIx, oIxA, oIn, inD, wPut, setD, wGet2, wNewD, wYes, noX, dcD, blsD, eqD, shD, toPy, toPyL, PyData.eqv, PyData.eqvAll, SeqAt.shaped, PyData.canLay0, PyData.canLayAll0, PyData.depth, PyData.depthAll, and_assoc, sz1, sz2, sz3, kit_self, lookup_hd, lookup_tl, Int.natCast_inj, show ((0 : Nat) : Int) = 0 from rfl, kb_NoneType_bool, kb_NoneType_int, kb_NoneType_str, kb_NoneType_list, kb_NoneType_tuple, kb_NoneType_dict, kb_bool_bool, kb_bool_int, kb_bool_str, kb_bool_list, kb_bool_tuple, kb_bool_dict, kb_int_bool, kb_int_int, kb_int_str, kb_int_list, kb_int_tuple, kb_int_dict, kb_str_bool, kb_str_int, kb_str_str, kb_str_list, kb_str_tuple, kb_str_dict, kb_list_bool, kb_list_int, kb_list_str, kb_list_list, kb_list_tuple, kb_list_dict, kb_tuple_bool, kb_tuple_int, kb_tuple_str, kb_tuple_list, kb_tuple_tuple, kb_tuple_dict, kb_dict_bool, kb_dict_int, kb_dict_str, kb_dict_list, kb_dict_tuple, kb_dict_dict]
  simpa [e1] using hp
theorem l_need_split (T : Txt K mg C) (h : Φ_need_split K C rs os P PX) : w_need_split K C ⟨startR ["value"] rs, os⟩ (bodyPost os.length P PX) := by
  obtain ⟨t, c, a, b, rfl, hp⟩ := h
  simpa [w_need_split, splitD, T.i_Split, wRet, wRetN, wAndV, wOrV, wNotV, wF, wCons, wNil, wV, wC, o1, o2, fIsi, fLen, fAll, fInt, fAbs, fII, fTup, fList, fSortA, fSort, wParG, put1, startR, R.fz, R.val, isiD, clsD, clsL, tyD, insOk, bodyPost, wSeq, wNext, wIfS, wT, w2, oAdd, oAddA, wNewT, wCallK, permL, wMakeK, oSub, oI, oIc, oMulW, oDivW, oMod, oPow, oLt, oLe, oGt, oGe, oEq, wIsN, D.isNon, wChain, wIf, wFld, wTup, wLst, shs, wSet, wOwn, wPar, wPar3, wCall, wMake, wMeth, wExpr, wAsgE, geT, geCons, geNil, geF, putD, wAsgT, gT, gsCons, gsNil, gN, iSeq, iOne, iRng, iZip, wNeg, wAnd, wOr, wNot, seqD, shs, oIx, oIxA, oIn, inD, wPut, setD, wGet2, wNewD, wYes, noX, dcD, blsD, eqD, shD, toPy, toPyL, PyData.eqv, PyData.eqvAll, SeqAt.shaped, PyData.canLay0, PyData.canLayAll0, PyData.depth, PyData.depthAll, and_assoc, sz1, sz2, sz3, kit_self, lookup_hd, lookup_tl, Int.natCast_inj, show ((0 : Nat) : Int) = 0 from rfl, kb_NoneType_bool, kb_NoneType_int, kb_NoneType_str, kb_NoneType_list, kb_NoneType_tuple, kb_NoneType_dict, kb_bool_bool, kb_bool_int, kb_bool_str, kb_bool_list, kb_bool_tuple, kb_bool_dict, kb_int_bool, kb_int_int, kb_int_str, kb_int_list, kb_int_tuple, kb_int_dict, kb_str_bool, kb_str_int, kb_str_str, kb_str_list, kb_str_tuple, kb_str_dict, kb_list_bool, kb_list_int, kb_list_str, kb_list_list, kb_list_tuple, kb_list_dict, kb_tuple_bool, kb_tuple_int, kb_tuple_str, kb_tuple_list, kb_tuple_tuple, kb_tuple_dict, kb_dict_bool, kb_dict_int, kb_dict_str, kb_dict_list, kb_dict_tuple, kb_dict_dict] using hp
theorem l_need_world (T : Txt K mg C) (h : Φ_need_world K C rs os P PX) : w_need_world K C ⟨startR ["value"] rs, os⟩ (bodyPost os.length P PX) := by
  obtain ⟨ts, wr, rfl, hp⟩ := h
  simpa [w_need_world, worldD, T.i_World, wRet, wRetN, wAndV, wOrV, wNotV, wF, wCons, wNil, wV, wC, o1, o2, fIsi, fLen, fAll, fInt, fAbs, fII, fTup, fList, fSortA, fSort, wParG, put1, startR, R.fz, R.val, isiD, clsD, clsL, tyD, insOk, bodyPost, wSeq, wNext, wIfS, wT, w2, oAdd, oAddA, wNewT, wCallK, permL, wMakeK, oSub, oI, oIc, oMulW, oDivW, oMod, oPow, oLt, oLe, oGt, oGe, oEq, wIsN, D.isNon, wChain, wIf, wFld, wTup, wLst, shs, wSet, wOwn, wPar, wPar3, wCall, wMake, wMeth, wExpr, wAsgE, geT, geCons, geNil, geF, putD, wAsgT, gT, gsCons, gsNil, gN, iSeq, iOne, iRng, iZip, wNeg, wAnd, wOr, wNot, seqD, shs, oIx, oIxA, oIn, inD, wPut, setD, wGet2, wNewD, wYes, noX, dcD, blsD, eqD, shD, toPy, toPyL, PyData.eqv, PyData.eqvAll, SeqAt.shaped, PyData.canLay0, PyData.canLayAll0, PyData.depth, PyData.depthAll, and_assoc, sz1, sz2, sz3, kit_self, lookup_hd, lookup_tl, Int.natCast_inj, show ((0 : Nat) : Int) = 0 from rfl, kb_NoneType_bool, kb_NoneType_int, kb_NoneType_str, kb_NoneType_list, kb_NoneType_tuple, kb_NoneType_dict, kb_bool_bool, kb_bool_int, kb_bool_str, kb_bool_list, kb_bool_tuple, kb_bool_dict, kb_int_bool, kb_int_int, kb_int_str, kb_int_list, kb_int_tuple, kb_int_dict, kb_str_bool, kb_str_int, kb_str_str, kb_str_list, kb_str_tuple, kb_str_dict, kb_list_bool, kb_list_int, kb_list_str, kb_list_list, kb_list_tuple, kb_list_dict, kb_tuple_bool, kb_tuple_int, kb_tuple_str, kb_tuple_list, kb_tuple_tuple, kb_tuple_dict, kb_dict_bool, kb_dict_int, kb_dict_str, kb_dict_list, kb_dict_tuple, kb_dict_dict] using hp
theorem l_World_need_index (T : Txt K mg C) (h : Φ_World_need_index K C rs os P PX) : w_World_need_index K C ⟨startR ["self", "name", "at"] rs, os⟩ (bodyPost os.length P PX) := by
  obtain ⟨ts, wr, i, t, rfl, h0, h1, h2, hp⟩ := h
  simp only [worldD]
  simp [w_World_need_index, wRet, wRetN, wAndV, wOrV, wNotV, wF, wCons, wNil, wV, wC, o1, o2, fIsi, fLen, fAll, fInt, fAbs, fII, fTup, fList, fSortA, fSort, wParG, put1, startR, R.fz, R.val, isiD, clsD, clsL, tyD, insOk, bodyPost, wSeq, wNext, wIfS, wT, w2, oAdd, oAddA, wNewT, wCallK, permL, wMakeK, oSub, oI, oIc, oMulW, oDivW, oMod, oPow, oLt, oLe, oGt, oGe, oEq, wIsN, D.isNon, wChain, wIf, wFld, wTup, wLst, shs, wSet, wOwn, wPar, wPar3, wCall, wMake, wMeth, wExpr, wAsgE, geT, geCons, geNil, geF, putD, wAsgT, gT, gsCons, gsNil, gN, iSeq, iOne, iRng, iZip, wNeg, wAnd, wOr, wNot, seqD, shs, oIx, oIxA, oIn, inD, wPut, setD, wGet2, wNewD, wYes, noX, dcD, blsD, eqD, shD, toPy, toPyL, PyData.eqv, PyData.eqvAll, SeqAt.shaped, PyData.canLay0, PyData.canLayAll0, PyData.depth, PyData.depthAll, and_assoc, sz1, sz2, sz3, kit_self, lookup_hd, lookup_tl, Int.natCast_inj, show ((0 : Nat) : Int) = 0 from rfl, kb_NoneType_bool, kb_NoneType_int, kb_NoneType_str, kb_NoneType_list, kb_NoneType_tuple, kb_NoneType_dict, kb_bool_bool, kb_bool_int, kb_bool_str, kb_bool_list, kb_bool_tuple, kb_bool_dict, kb_int_bool, kb_int_int, kb_int_str, kb_int_list, kb_int_tuple, kb_int_dict, kb_str_bool, kb_str_int, kb_str_str, kb_str_list, kb_str_tuple, kb_str_dict, kb_list_bool, kb_list_int, kb_list_str, kb_list_list, kb_list_tuple, kb_list_dict, kb_tuple_bool, kb_tuple_int, kb_tuple_str, kb_tuple_list, kb_tuple_tuple, kb_tuple_dict, kb_dict_bool, kb_dict_int, kb_dict_str, kb_dict_list, kb_dict_tuple, kb_dict_dict]
  refine ⟨by rintro a b (⟨rfl, _⟩ | ⟨rfl, _⟩) <;> first | exact ne_ixt | exact ne_ixr, ts, wr, i, t, rfl, h0, h1, h2, ?_⟩
  simpa [wRet, wRetN, wAndV, wOrV, wNotV, wF, wCons, wNil, wV, wC, o1, o2, fIsi, fLen, fAll, fInt, fAbs, fII, fTup, fList, fSortA, fSort, wParG, put1, startR, R.fz, R.val, isiD, clsD, clsL, tyD, insOk, bodyPost, wSeq, wNext, wIfS, wT, w2, oAdd, oAddA, wNewT, wCallK, permL, wMakeK, oSub, oI, oIc, oMulW, oDivW, oMod, oPow, oLt, oLe, oGt, oGe, oEq, wIsN, D.isNon, wChain, wIf, wFld, wTup, wLst, shs, wSet, wOwn, wPar, wPar3, wCall, wMake, wMeth, wExpr, wAsgE, geT, geCons, geNil, geF, putD, wAsgT, gT, gsCons, gsNil, gN, iSeq, iOne, iRng, iZip, wNeg, wAnd, wOr, wNot, seqD, shs, oIx, oIxA, oIn, inD, wPut, setD, wGet2, wNewD, wYes, noX, dcD, blsD, eqD, shD, toPy, toPyL, PyData.eqv, PyData.eqvAll, SeqAt.shaped, PyData.canLay0, PyData.canLayAll0, PyData.depth, PyData.depthAll, and_assoc, sz1, sz2, sz3, kit_self, lookup_hd, lookup_tl, Int.natCast_inj, show ((0 : Nat) : Int) = 0 from rfl, kb_NoneType_bool, kb_NoneType_int, kb_NoneType_str, kb_NoneType_list, kb_NoneType_tuple, kb_NoneType_dict, kb_bool_bool, kb_bool_int, kb_bool_str, kb_bool_list, kb_bool_tuple, kb_bool_dict, kb_int_bool, kb_int_int, kb_int_str, kb_int_list, kb_int_tuple, kb_int_dict, kb_str_bool, kb_str_int, kb_str_str, kb_str_list, kb_str_tuple, kb_str_dict, kb_list_bool, kb_list_int, kb_list_str, kb_list_list, kb_list_tuple, kb_list_dict, kb_tuple_bool, kb_tuple_int, kb_tuple_str, kb_tuple_list, kb_tuple_tuple, kb_tuple_dict, kb_dict_bool, kb_dict_int, kb_dict_str, kb_dict_list, kb_dict_tuple, kb_dict_dict] using hp
theorem at_i {xs : List D} {i : Nat} {d : D} (h : xs[i]? = some d) : atI xs (i : Int) = some d := by
  obtain ⟨hi, e⟩ := List.getElem?_eq_some_iff.mp h
  simp [atI, ixN, hi, e]
theorem l_World_rows_of (T : Txt K mg C) (h : Φ_World_rows_of K C rs os P PX) : w_World_rows_of K C ⟨startR ["self", "name"] rs, os⟩ (bodyPost os.length P PX) := by
  obtain ⟨ts, wr, i, t, rws, rfl, h0, h1, h2, h3, hp⟩ := h
  have e : atI (wr.map fun r => D.tup (r.map rowT)) (i : Int) = some (.tup (rws.map rowT)) := at_i (by rw [List.getElem?_map, h3]; rfl)
  simp only [worldD]
  simp [w_World_rows_of, T.k_World, T.n_World_rows, lookup_tl ne_rt, wRet, wRetN, wAndV, wOrV, wNotV, wF, wCons, wNil, wV, wC, o1, o2, fIsi, fLen, fAll, fInt, fAbs, fII, fTup, fList, fSortA, fSort, wParG, put1, startR, R.fz, R.val, isiD, clsD, clsL, tyD, insOk, bodyPost, wSeq, wNext, wIfS, wT, w2, oAdd, oAddA, wNewT, wCallK, permL, wMakeK, oSub, oI, oIc, oMulW, oDivW, oMod, oPow, oLt, oLe, oGt, oGe, oEq, wIsN, D.isNon, wChain, wIf, wFld, wTup, wLst, shs, wSet, wOwn, wPar, wPar3, wCall, wMake, wMeth, wExpr, wAsgE, geT, geCons, geNil, geF, putD, wAsgT, gT, gsCons, gsNil, gN, iSeq, iOne, iRng, iZip, wNeg, wAnd, wOr, wNot, seqD, shs, oIx, oIxA, oIn, inD, wPut, setD, wGet2, wNewD, wYes, noX, dcD, blsD, eqD, shD, toPy, toPyL, PyData.eqv, PyData.eqvAll, SeqAt.shaped, PyData.canLay0, PyData.canLayAll0, PyData.depth, PyData.depthAll, and_assoc, sz1, sz2, sz3, kit_self, lookup_hd, lookup_tl, Int.natCast_inj, show ((0 : Nat) : Int) = 0 from rfl, kb_NoneType_bool, kb_NoneType_int, kb_NoneType_str, kb_NoneType_list, kb_NoneType_tuple, kb_NoneType_dict, kb_bool_bool, kb_bool_int, kb_bool_str, kb_bool_list, kb_bool_tuple, kb_bool_dict, kb_int_bool, kb_int_int, kb_int_str, kb_int_list, kb_int_tuple, kb_int_dict, kb_str_bool, kb_str_int, kb_str_str, kb_str_list, kb_str_tuple, kb_str_dict, kb_list_bool, kb_list_int, kb_list_str, kb_list_list, kb_list_tuple, kb_list_dict, kb_tuple_bool, kb_tuple_int, kb_tuple_str, kb_tuple_list, kb_tuple_tuple, kb_tuple_dict, kb_dict_bool, kb_dict_int, kb_dict_str, kb_dict_list, kb_dict_tuple, kb_dict_dict]
  refine ⟨by rintro a b (⟨rfl, _⟩ | ⟨rfl, _⟩) <;> first | exact ne_nit | exact ne_nir, ts, wr, i, t, rfl, h0, h1, h2, ?_⟩
  simpa [e, wRet, wRetN, wAndV, wOrV, wNotV, wF, wCons, wNil, wV, wC, o1, o2, fIsi, fLen, fAll, fInt, fAbs, fII, fTup, fList, fSortA, fSort, wParG, put1, startR, R.fz, R.val, isiD, clsD, clsL, tyD, insOk, bodyPost, wSeq, wNext, wIfS, wT, w2, oAdd, oAddA, wNewT, wCallK, permL, wMakeK, oSub, oI, oIc, oMulW, oDivW, oMod, oPow, oLt, oLe, oGt, oGe, oEq, wIsN, D.isNon, wChain, wIf, wFld, wTup, wLst, shs, wSet, wOwn, wPar, wPar3, wCall, wMake, wMeth, wExpr, wAsgE, geT, geCons, geNil, geF, putD, wAsgT, gT, gsCons, gsNil, gN, iSeq, iOne, iRng, iZip, wNeg, wAnd, wOr, wNot, seqD, shs, oIx, oIxA, oIn, inD, wPut, setD, wGet2, wNewD, wYes, noX, dcD, blsD, eqD, shD, toPy, toPyL, PyData.eqv, PyData.eqvAll, SeqAt.shaped, PyData.canLay0, PyData.canLayAll0, PyData.depth, PyData.depthAll, and_assoc, sz1, sz2, sz3, kit_self, lookup_hd, lookup_tl, Int.natCast_inj, show ((0 : Nat) : Int) = 0 from rfl, kb_NoneType_bool, kb_NoneType_int, kb_NoneType_str, kb_NoneType_list, kb_NoneType_tuple, kb_NoneType_dict, kb_bool_bool, kb_bool_int, kb_bool_str, kb_bool_list, kb_bool_tuple, kb_bool_dict, kb_int_bool, kb_int_int, kb_int_str, kb_int_list, kb_int_tuple, kb_int_dict, kb_str_bool, kb_str_int, kb_str_str, kb_str_list, kb_str_tuple, kb_str_dict, kb_list_bool, kb_list_int, kb_list_str, kb_list_list, kb_list_tuple, kb_list_dict, kb_tuple_bool, kb_tuple_int, kb_tuple_str, kb_tuple_list, kb_tuple_tuple, kb_tuple_dict, kb_dict_bool, kb_dict_int, kb_dict_str, kb_dict_list, kb_dict_tuple, kb_dict_dict] using hp
theorem l_parted (T : Txt K mg C) (h : Φ_parted K C rs os P PX) : w_parted K C ⟨startR ["world", "split", "base"] rs, os⟩ (bodyPost os.length P PX) := by
  obtain ⟨ts, wr, i, rws, t, c, a, b, base, rfl, g0, g1, g2, g3, h1, h2, h3, h4, h5, h6, h7, hp⟩ := h
  simp [w_parted, wRet, wRetN, wAndV, wOrV, wNotV, wF, wCons, wNil, wV, wC, o1, o2, fIsi, fLen, fAll, fInt, fAbs, fII, fTup, fList, fSortA, fSort, wParG, put1, startR, R.fz, R.val, isiD, clsD, clsL, tyD, insOk, bodyPost, wSeq, wNext, wIfS, wT, w2, oAdd, oAddA, wNewT, wCallK, permL, wMakeK, oSub, oI, oIc, oMulW, oDivW, oMod, oPow, oLt, oLe, oGt, oGe, oEq, wIsN, D.isNon, wChain, wIf, wFld, wTup, wLst, shs, wSet, wOwn, wPar, wPar3, wCall, wMake, wMeth, wExpr, wAsgE, geT, geCons, geNil, geF, putD, wAsgT, gT, gsCons, gsNil, gN, iSeq, iOne, iRng, iZip, wNeg, wAnd, wOr, wNot, seqD, shs, oIx, oIxA, oIn, inD, wPut, setD, wGet2, wNewD, wYes, noX, dcD, blsD, eqD, shD, toPy, toPyL, PyData.eqv, PyData.eqvAll, SeqAt.shaped, PyData.canLay0, PyData.canLayAll0, PyData.depth, PyData.depthAll, and_assoc, sz1, sz2, sz3, kit_self, lookup_hd, lookup_tl, Int.natCast_inj, show ((0 : Nat) : Int) = 0 from rfl, kb_NoneType_bool, kb_NoneType_int, kb_NoneType_str, kb_NoneType_list, kb_NoneType_tuple, kb_NoneType_dict, kb_bool_bool, kb_bool_int, kb_bool_str, kb_bool_list, kb_bool_tuple, kb_bool_dict, kb_int_bool, kb_int_int, kb_int_str, kb_int_list, kb_int_tuple, kb_int_dict, kb_str_bool, kb_str_int, kb_str_str, kb_str_list, kb_str_tuple, kb_str_dict, kb_list_bool, kb_list_int, kb_list_str, kb_list_list, kb_list_tuple, kb_list_dict, kb_tuple_bool, kb_tuple_int, kb_tuple_str, kb_tuple_list, kb_tuple_tuple, kb_tuple_dict, kb_dict_bool, kb_dict_int, kb_dict_str, kb_dict_list, kb_dict_tuple, kb_dict_dict]
  refine ⟨ts, wr, rfl, ?_⟩
  simp [wRet, wRetN, wAndV, wOrV, wNotV, wF, wCons, wNil, wV, wC, o1, o2, fIsi, fLen, fAll, fInt, fAbs, fII, fTup, fList, fSortA, fSort, wParG, put1, startR, R.fz, R.val, isiD, clsD, clsL, tyD, insOk, bodyPost, wSeq, wNext, wIfS, wT, w2, oAdd, oAddA, wNewT, wCallK, permL, wMakeK, oSub, oI, oIc, oMulW, oDivW, oMod, oPow, oLt, oLe, oGt, oGe, oEq, wIsN, D.isNon, wChain, wIf, wFld, wTup, wLst, shs, wSet, wOwn, wPar, wPar3, wCall, wMake, wMeth, wExpr, wAsgE, geT, geCons, geNil, geF, putD, wAsgT, gT, gsCons, gsNil, gN, iSeq, iOne, iRng, iZip, wNeg, wAnd, wOr, wNot, seqD, shs, oIx, oIxA, oIn, inD, wPut, setD, wGet2, wNewD, wYes, noX, dcD, blsD, eqD, shD, toPy, toPyL, PyData.eqv, PyData.eqvAll, SeqAt.shaped, PyData.canLay0, PyData.canLayAll0, PyData.depth, PyData.depthAll, and_assoc, sz1, sz2, sz3, kit_self, lookup_hd, lookup_tl, Int.natCast_inj, show ((0 : Nat) : Int) = 0 from rfl, kb_NoneType_bool, kb_NoneType_int, kb_NoneType_str, kb_NoneType_list, kb_NoneType_tuple, kb_NoneType_dict, kb_bool_bool, kb_bool_int, kb_bool_str, kb_bool_list, kb_bool_tuple, kb_bool_dict, kb_int_bool, kb_int_int, kb_int_str, kb_int_list, kb_int_tuple, kb_int_dict, kb_str_bool, kb_str_int, kb_str_str, kb_str_list, kb_str_tuple, kb_str_dict, kb_list_bool, kb_list_int, kb_list_str, kb_list_list, kb_list_tuple, kb_list_dict, kb_tuple_bool, kb_tuple_int, kb_tuple_str, kb_tuple_list, kb_tuple_tuple, kb_tuple_dict, kb_dict_bool, kb_dict_int, kb_dict_str, kb_dict_list, kb_dict_tuple, kb_dict_dict]
  refine ⟨t, c, a, b, rfl, ?_⟩
  simp [wRet, wRetN, wAndV, wOrV, wNotV, wF, wCons, wNil, wV, wC, o1, o2, fIsi, fLen, fAll, fInt, fAbs, fII, fTup, fList, fSortA, fSort, wParG, put1, startR, R.fz, R.val, isiD, clsD, clsL, tyD, insOk, bodyPost, wSeq, wNext, wIfS, wT, w2, oAdd, oAddA, wNewT, wCallK, permL, wMakeK, oSub, oI, oIc, oMulW, oDivW, oMod, oPow, oLt, oLe, oGt, oGe, oEq, wIsN, D.isNon, wChain, wIf, wFld, wTup, wLst, shs, wSet, wOwn, wPar, wPar3, wCall, wMake, wMeth, wExpr, wAsgE, geT, geCons, geNil, geF, putD, wAsgT, gT, gsCons, gsNil, gN, iSeq, iOne, iRng, iZip, wNeg, wAnd, wOr, wNot, seqD, shs, oIx, oIxA, oIn, inD, wPut, setD, wGet2, wNewD, wYes, noX, dcD, blsD, eqD, shD, toPy, toPyL, PyData.eqv, PyData.eqvAll, SeqAt.shaped, PyData.canLay0, PyData.canLayAll0, PyData.depth, PyData.depthAll, and_assoc, sz1, sz2, sz3, kit_self, lookup_hd, lookup_tl, Int.natCast_inj, show ((0 : Nat) : Int) = 0 from rfl, kb_NoneType_bool, kb_NoneType_int, kb_NoneType_str, kb_NoneType_list, kb_NoneType_tuple, kb_NoneType_dict, kb_bool_bool, kb_bool_int, kb_bool_str, kb_bool_list, kb_bool_tuple, kb_bool_dict, kb_int_bool, kb_int_int, kb_int_str, kb_int_list, kb_int_tuple, kb_int_dict, kb_str_bool, kb_str_int, kb_str_str, kb_str_list, kb_str_tuple, kb_str_dict, kb_list_bool, kb_list_int, kb_list_str, kb_list_list, kb_list_tuple, kb_list_dict, kb_tuple_bool, kb_tuple_int, kb_tuple_str, kb_tuple_list, kb_tuple_tuple, kb_tuple_dict, kb_dict_bool, kb_dict_int, kb_dict_str, kb_dict_list, kb_dict_tuple, kb_dict_dict]
  refine ⟨base, rfl, by omega, by omega, ?_⟩
  simp only [splitD, worldD]
  simp [T.k_Split, T.n_Split_table, wRet, wRetN, wAndV, wOrV, wNotV, wF, wCons, wNil, wV, wC, o1, o2, fIsi, fLen, fAll, fInt, fAbs, fII, fTup, fList, fSortA, fSort, wParG, put1, startR, R.fz, R.val, isiD, clsD, clsL, tyD, insOk, bodyPost, wSeq, wNext, wIfS, wT, w2, oAdd, oAddA, wNewT, wCallK, permL, wMakeK, oSub, oI, oIc, oMulW, oDivW, oMod, oPow, oLt, oLe, oGt, oGe, oEq, wIsN, D.isNon, wChain, wIf, wFld, wTup, wLst, shs, wSet, wOwn, wPar, wPar3, wCall, wMake, wMeth, wExpr, wAsgE, geT, geCons, geNil, geF, putD, wAsgT, gT, gsCons, gsNil, gN, iSeq, iOne, iRng, iZip, wNeg, wAnd, wOr, wNot, seqD, shs, oIx, oIxA, oIn, inD, wPut, setD, wGet2, wNewD, wYes, noX, dcD, blsD, eqD, shD, toPy, toPyL, PyData.eqv, PyData.eqvAll, SeqAt.shaped, PyData.canLay0, PyData.canLayAll0, PyData.depth, PyData.depthAll, and_assoc, sz1, sz2, sz3, kit_self, lookup_hd, lookup_tl, Int.natCast_inj, show ((0 : Nat) : Int) = 0 from rfl, kb_NoneType_bool, kb_NoneType_int, kb_NoneType_str, kb_NoneType_list, kb_NoneType_tuple, kb_NoneType_dict, kb_bool_bool, kb_bool_int, kb_bool_str, kb_bool_list, kb_bool_tuple, kb_bool_dict, kb_int_bool, kb_int_int, kb_int_str, kb_int_list, kb_int_tuple, kb_int_dict, kb_str_bool, kb_str_int, kb_str_str, kb_str_list, kb_str_tuple, kb_str_dict, kb_list_bool, kb_list_int, kb_list_str, kb_list_list, kb_list_tuple, kb_list_dict, kb_tuple_bool, kb_tuple_int, kb_tuple_str, kb_tuple_list, kb_tuple_tuple, kb_tuple_dict, kb_dict_bool, kb_dict_int, kb_dict_str, kb_dict_list, kb_dict_tuple, kb_dict_dict]
  refine ⟨ts, wr, [t], rfl, g1, g2, fun u hu => by rw [List.mem_singleton.mp hu]; exact List.mem_of_getElem? g0, ?_⟩
  simp [T.k_Split, T.n_Split_table, T.k_Table, T.n_Table_name, tabD, wRet, wRetN, wAndV, wOrV, wNotV, wF, wCons, wNil, wV, wC, o1, o2, fIsi, fLen, fAll, fInt, fAbs, fII, fTup, fList, fSortA, fSort, wParG, put1, startR, R.fz, R.val, isiD, clsD, clsL, tyD, insOk, bodyPost, wSeq, wNext, wIfS, wT, w2, oAdd, oAddA, wNewT, wCallK, permL, wMakeK, oSub, oI, oIc, oMulW, oDivW, oMod, oPow, oLt, oLe, oGt, oGe, oEq, wIsN, D.isNon, wChain, wIf, wFld, wTup, wLst, shs, wSet, wOwn, wPar, wPar3, wCall, wMake, wMeth, wExpr, wAsgE, geT, geCons, geNil, geF, putD, wAsgT, gT, gsCons, gsNil, gN, iSeq, iOne, iRng, iZip, wNeg, wAnd, wOr, wNot, seqD, shs, oIx, oIxA, oIn, inD, wPut, setD, wGet2, wNewD, wYes, noX, dcD, blsD, eqD, shD, toPy, toPyL, PyData.eqv, PyData.eqvAll, SeqAt.shaped, PyData.canLay0, PyData.canLayAll0, PyData.depth, PyData.depthAll, and_assoc, sz1, sz2, sz3, kit_self, lookup_hd, lookup_tl, Int.natCast_inj, show ((0 : Nat) : Int) = 0 from rfl, kb_NoneType_bool, kb_NoneType_int, kb_NoneType_str, kb_NoneType_list, kb_NoneType_tuple, kb_NoneType_dict, kb_bool_bool, kb_bool_int, kb_bool_str, kb_bool_list, kb_bool_tuple, kb_bool_dict, kb_int_bool, kb_int_int, kb_int_str, kb_int_list, kb_int_tuple, kb_int_dict, kb_str_bool, kb_str_int, kb_str_str, kb_str_list, kb_str_tuple, kb_str_dict, kb_list_bool, kb_list_int, kb_list_str, kb_list_list, kb_list_tuple, kb_list_dict, kb_tuple_bool, kb_tuple_int, kb_tuple_str, kb_tuple_list, kb_tuple_tuple, kb_tuple_dict, kb_dict_bool, kb_dict_int, kb_dict_str, kb_dict_list, kb_dict_tuple, kb_dict_dict]
  refine ⟨by rintro a b (⟨rfl, _⟩ | ⟨rfl, _⟩) <;> first | exact ne_rot | exact ne_ror, ts, wr, i, t, rws, rfl, g0, g1, g2, g3, ?_⟩
  simp [wRet, wRetN, wAndV, wOrV, wNotV, wF, wCons, wNil, wV, wC, o1, o2, fIsi, fLen, fAll, fInt, fAbs, fII, fTup, fList, fSortA, fSort, wParG, put1, startR, R.fz, R.val, isiD, clsD, clsL, tyD, insOk, bodyPost, wSeq, wNext, wIfS, wT, w2, oAdd, oAddA, wNewT, wCallK, permL, wMakeK, oSub, oI, oIc, oMulW, oDivW, oMod, oPow, oLt, oLe, oGt, oGe, oEq, wIsN, D.isNon, wChain, wIf, wFld, wTup, wLst, shs, wSet, wOwn, wPar, wPar3, wCall, wMake, wMeth, wExpr, wAsgE, geT, geCons, geNil, geF, putD, wAsgT, gT, gsCons, gsNil, gN, iSeq, iOne, iRng, iZip, wNeg, wAnd, wOr, wNot, seqD, shs, oIx, oIxA, oIn, inD, wPut, setD, wGet2, wNewD, wYes, noX, dcD, blsD, eqD, shD, toPy, toPyL, PyData.eqv, PyData.eqvAll, SeqAt.shaped, PyData.canLay0, PyData.canLayAll0, PyData.depth, PyData.depthAll, and_assoc, sz1, sz2, sz3, kit_self, lookup_hd, lookup_tl, Int.natCast_inj, show ((0 : Nat) : Int) = 0 from rfl, kb_NoneType_bool, kb_NoneType_int, kb_NoneType_str, kb_NoneType_list, kb_NoneType_tuple, kb_NoneType_dict, kb_bool_bool, kb_bool_int, kb_bool_str, kb_bool_list, kb_bool_tuple, kb_bool_dict, kb_int_bool, kb_int_int, kb_int_str, kb_int_list, kb_int_tuple, kb_int_dict, kb_str_bool, kb_str_int, kb_str_str, kb_str_list, kb_str_tuple, kb_str_dict, kb_list_bool, kb_list_int, kb_list_str, kb_list_list, kb_list_tuple, kb_list_dict, kb_tuple_bool, kb_tuple_int, kb_tuple_str, kb_tuple_list, kb_tuple_tuple, kb_tuple_dict, kb_dict_bool, kb_dict_int, kb_dict_str, kb_dict_list, kb_dict_tuple, kb_dict_dict]
  refine ⟨rws, t, c, a, b, base, rfl, h1, h2, h3, h4, h5, h7, ?_⟩
  simpa [wRet, wRetN, wAndV, wOrV, wNotV, wF, wCons, wNil, wV, wC, o1, o2, fIsi, fLen, fAll, fInt, fAbs, fII, fTup, fList, fSortA, fSort, wParG, put1, startR, R.fz, R.val, isiD, clsD, clsL, tyD, insOk, bodyPost, wSeq, wNext, wIfS, wT, w2, oAdd, oAddA, wNewT, wCallK, permL, wMakeK, oSub, oI, oIc, oMulW, oDivW, oMod, oPow, oLt, oLe, oGt, oGe, oEq, wIsN, D.isNon, wChain, wIf, wFld, wTup, wLst, shs, wSet, wOwn, wPar, wPar3, wCall, wMake, wMeth, wExpr, wAsgE, geT, geCons, geNil, geF, putD, wAsgT, gT, gsCons, gsNil, gN, iSeq, iOne, iRng, iZip, wNeg, wAnd, wOr, wNot, seqD, shs, oIx, oIxA, oIn, inD, wPut, setD, wGet2, wNewD, wYes, noX, dcD, blsD, eqD, shD, toPy, toPyL, PyData.eqv, PyData.eqvAll, SeqAt.shaped, PyData.canLay0, PyData.canLayAll0, PyData.depth, PyData.depthAll, and_assoc, sz1, sz2, sz3, kit_self, lookup_hd, lookup_tl, Int.natCast_inj, show ((0 : Nat) : Int) = 0 from rfl, kb_NoneType_bool, kb_NoneType_int, kb_NoneType_str, kb_NoneType_list, kb_NoneType_tuple, kb_NoneType_dict, kb_bool_bool, kb_bool_int, kb_bool_str, kb_bool_list, kb_bool_tuple, kb_bool_dict, kb_int_bool, kb_int_int, kb_int_str, kb_int_list, kb_int_tuple, kb_int_dict, kb_str_bool, kb_str_int, kb_str_str, kb_str_list, kb_str_tuple, kb_str_dict, kb_list_bool, kb_list_int, kb_list_str, kb_list_list, kb_list_tuple, kb_list_dict, kb_tuple_bool, kb_tuple_int, kb_tuple_str, kb_tuple_list, kb_tuple_tuple, kb_tuple_dict, kb_dict_bool, kb_dict_int, kb_dict_str, kb_dict_list, kb_dict_tuple, kb_dict_dict] using hp
end
end L2.TL.W

/-! text K07b -/
set_option Elab.async false
set_option linter.all false
set_option maxRecDepth 100000
set_option maxHeartbeats 4000000
namespace L2.TL.W
open PySem PySem.Spec PyProof.Rows L2.TL
section
variable {K : PySem.W.Frag} {mg : Str → Option Value} {C : Cs} {rs : List R} {os : Os} {P : R → Os → Prop} {PX : Er → Os → Prop}
theorem l_is_name (h : Φ_is_name K C rs os P PX) : w_is_name K C ⟨startR ["value", "sign"] rs, os⟩ (bodyPost os.length P PX) := by
  obtain ⟨z, rfl, hz, hp⟩ := h
  simp [w_is_name, hz, wLc, iStrD, wipeR, restR, wRet, wRetN, wAndV, wOrV, wNotV, wF, wCons, wNil, wV, wC, o1, o2, fIsi, fLen, fAll, fInt, fAbs, fII, fTup, fList, fSortA, fSort, wParG, put1, startR, R.fz, R.val, isiD, clsD, clsL, tyD, insOk, bodyPost, wSeq, wNext, wIfS, wT, w2, oAdd, oAddA, wNewT, wCallK, permL, wMakeK, oSub, oI, oIc, oMulW, oDivW, oMod, oPow, oLt, oLe, oGt, oGe, oEq, wIsN, D.isNon, wChain, wIf, wFld, wTup, wLst, shs, wSet, wOwn, wPar, wPar3, wCall, wMake, wMeth, wExpr, wAsgE, geT, geCons, geNil, geF, putD, wAsgT, gT, gsCons, gsNil, gN, iSeq, iOne, iRng, iZip, wNeg, wAnd, wOr, wNot, seqD, shs, oIx, oIxA, oIn, inD, wPut, setD, wGet2, wNewD, wYes, noX, dcD, blsD, eqD, shD, toPy, toPyL, PyData.eqv, PyData.eqvAll, SeqAt.shaped, PyData.canLay0, PyData.canLayAll0, PyData.depth, PyData.depthAll, and_assoc, sz1, sz2, sz3, kit_self, lookup_hd, lookup_tl, Int.natCast_inj, show ((0 : Nat) : Int) = 0 from rfl, kb_NoneType_bool, kb_NoneType_int, kb_NoneType_str, kb_NoneType_list, kb_NoneType_tuple, kb_NoneType_dict, kb_bool_bool, kb_bool_int, kb_bool_str, kb_bool_list, kb_bool_tuple, kb_bool_dict, kb_int_bool, kb_int_int, kb_int_str, kb_int_list, kb_int_tuple, kb_int_dict, kb_str_bool, kb_str_int, kb_str_str, kb_str_list, kb_str_tuple, kb_str_dict, kb_list_bool, kb_list_int, kb_list_str, kb_list_list, kb_list_tuple, kb_list_dict, kb_tuple_bool, kb_tuple_int, kb_tuple_str, kb_tuple_list, kb_tuple_tuple, kb_tuple_dict, kb_dict_bool, kb_dict_int, kb_dict_str, kb_dict_list, kb_dict_tuple, kb_dict_dict]
  have c1 : decide ((1 : Int) ≤ (z.length : Int)) = decide (1 ≤ z.length) := by rw [decide_eq_decide]; omega
  have c2 : decide ((z.length : Int) ≤ (8 : Int)) = decide (z.length ≤ 8) := by rw [decide_eq_decide]; omega
  rw [c1]
  simp only [c2]
  cases e1 : decide (1 ≤ z.length) with
  | false => simpa [nameOk, e1] using hp
  | true =>
    cases e2 : decide (z.length ≤ 8) with
    | false => simpa [nameOk, e1, e2] using hp
    | true =>
      refine lcL_map (f := fun d => match d with | .str s => .bl (match s.cps.toList with | [c] => decide (c ∈ letters.cps.toList) | _ => false) | _ => .non) rfl (fun d hd P PX h => ?_) ?_
      · obtain ⟨c, hc, rfl⟩ := List.mem_map.mp hd
        simpa [letters, wRet, wRetN, wAndV, wOrV, wNotV, wF, wCons, wNil, wV, wC, o1, o2, fIsi, fLen, fAll, fInt, fAbs, fII, fTup, fList, fSortA, fSort, wParG, put1, startR, R.fz, R.val, isiD, clsD, clsL, tyD, insOk, bodyPost, wSeq, wNext, wIfS, wT, w2, oAdd, oAddA, wNewT, wCallK, permL, wMakeK, oSub, oI, oIc, oMulW, oDivW, oMod, oPow, oLt, oLe, oGt, oGe, oEq, wIsN, D.isNon, wChain, wIf, wFld, wTup, wLst, shs, wSet, wOwn, wPar, wPar3, wCall, wMake, wMeth, wExpr, wAsgE, geT, geCons, geNil, geF, putD, wAsgT, gT, gsCons, gsNil, gN, iSeq, iOne, iRng, iZip, wNeg, wAnd, wOr, wNot, seqD, shs, oIx, oIxA, oIn, inD, wPut, setD, wGet2, wNewD, wYes, noX, dcD, blsD, eqD, shD, toPy, toPyL, PyData.eqv, PyData.eqvAll, SeqAt.shaped, PyData.canLay0, PyData.canLayAll0, PyData.depth, PyData.depthAll, and_assoc, sz1, sz2, sz3, kit_self, lookup_hd, lookup_tl, Int.natCast_inj, show ((0 : Nat) : Int) = 0 from rfl, kb_NoneType_bool, kb_NoneType_int, kb_NoneType_str, kb_NoneType_list, kb_NoneType_tuple, kb_NoneType_dict, kb_bool_bool, kb_bool_int, kb_bool_str, kb_bool_list, kb_bool_tuple, kb_bool_dict, kb_int_bool, kb_int_int, kb_int_str, kb_int_list, kb_int_tuple, kb_int_dict, kb_str_bool, kb_str_int, kb_str_str, kb_str_list, kb_str_tuple, kb_str_dict, kb_list_bool, kb_list_int, kb_list_str, kb_list_list, kb_list_tuple, kb_list_dict, kb_tuple_bool, kb_tuple_int, kb_tuple_str, kb_tuple_list, kb_tuple_tuple, kb_tuple_dict, kb_dict_bool, kb_dict_int, kb_dict_str, kb_dict_list, kb_dict_tuple, kb_dict_dict] using h
      · have e3 : (chD z).map (fun d => match d with | .str s => D.bl (match s.cps.toList with | [c] => decide (c ∈ letters.cps.toList) | _ => false) | _ => .non) = (z.cps.toList.map fun c => decide (c ∈ letters.cps.toList)).map D.bl := by
          rw [chD, List.map_map, List.map_map]; rfl
        simp only [List.nil_append, e3, blsD_map, wRet, wRetN, wAndV, wOrV, wNotV, wF, wCons, wNil, wV, wC, o1, o2, fIsi, fLen, fAll, fInt, fAbs, fII, fTup, fList, fSortA, fSort, wParG, put1, startR, R.fz, R.val, isiD, clsD, clsL, tyD, insOk, bodyPost, wSeq, wNext, wIfS, wT, w2, oAdd, oAddA, wNewT, wCallK, permL, wMakeK, oSub, oI, oIc, oMulW, oDivW, oMod, oPow, oLt, oLe, oGt, oGe, oEq, wIsN, D.isNon, wChain, wIf, wFld, wTup, wLst, shs, wSet, wOwn, wPar, wPar3, wCall, wMake, wMeth, wExpr, wAsgE, geT, geCons, geNil, geF, putD, wAsgT, gT, gsCons, gsNil, gN, iSeq, iOne, iRng, iZip, wNeg, wAnd, wOr, wNot, seqD, shs, oIx, oIxA, oIn, inD, wPut, setD, wGet2, wNewD, wYes, noX, dcD, blsD, eqD, shD, toPy, toPyL, PyData.eqv, PyData.eqvAll, SeqAt.shaped, PyData.canLay0, PyData.canLayAll0, PyData.depth, PyData.depthAll, and_assoc, sz1, sz2, sz3, kit_self, lookup_hd, lookup_tl, Int.natCast_inj, show ((0 : Nat) : Int) = 0 from rfl, kb_NoneType_bool, kb_NoneType_int, kb_NoneType_str, kb_NoneType_list, kb_NoneType_tuple, kb_NoneType_dict, kb_bool_bool, kb_bool_int, kb_bool_str, kb_bool_list, kb_bool_tuple, kb_bool_dict, kb_int_bool, kb_int_int, kb_int_str, kb_int_list, kb_int_tuple, kb_int_dict, kb_str_bool, kb_str_int, kb_str_str, kb_str_list, kb_str_tuple, kb_str_dict, kb_list_bool, kb_list_int, kb_list_str, kb_list_list, kb_list_tuple, kb_list_dict, kb_tuple_bool, kb_tuple_int, kb_tuple_str, kb_tuple_list, kb_tuple_tuple, kb_tuple_dict, kb_dict_bool, kb_dict_int, kb_dict_str, kb_dict_list, kb_dict_tuple, kb_dict_dict]
        simpa [nameOk, e1, e2, List.all_map, Function.comp_def] using hp
theorem l_is_threshold (h : Φ_is_threshold K C rs os P PX) : w_is_threshold K C ⟨startR ["value", "one"] rs, os⟩ (bodyPost os.length P PX) := by
  obtain ⟨a, b, rfl, h1, h2, h3, h4, hp⟩ := h
  simp [w_is_threshold, wLc, wipeR, restR, wRet, wRetN, wAndV, wOrV, wNotV, wF, wCons, wNil, wV, wC, o1, o2, fIsi, fLen, fAll, fInt, fAbs, fII, fTup, fList, fSortA, fSort, wParG, put1, startR, R.fz, R.val, isiD, clsD, clsL, tyD, insOk, bodyPost, wSeq, wNext, wIfS, wT, w2, oAdd, oAddA, wNewT, wCallK, permL, wMakeK, oSub, oI, oIc, oMulW, oDivW, oMod, oPow, oLt, oLe, oGt, oGe, oEq, wIsN, D.isNon, wChain, wIf, wFld, wTup, wLst, shs, wSet, wOwn, wPar, wPar3, wCall, wMake, wMeth, wExpr, wAsgE, geT, geCons, geNil, geF, putD, wAsgT, gT, gsCons, gsNil, gN, iSeq, iOne, iRng, iZip, wNeg, wAnd, wOr, wNot, seqD, shs, oIx, oIxA, oIn, inD, wPut, setD, wGet2, wNewD, wYes, noX, dcD, blsD, eqD, shD, toPy, toPyL, PyData.eqv, PyData.eqvAll, SeqAt.shaped, PyData.canLay0, PyData.canLayAll0, PyData.depth, PyData.depthAll, and_assoc, sz1, sz2, sz3, kit_self, lookup_hd, lookup_tl, Int.natCast_inj, show ((0 : Nat) : Int) = 0 from rfl, kb_NoneType_bool, kb_NoneType_int, kb_NoneType_str, kb_NoneType_list, kb_NoneType_tuple, kb_NoneType_dict, kb_bool_bool, kb_bool_int, kb_bool_str, kb_bool_list, kb_bool_tuple, kb_bool_dict, kb_int_bool, kb_int_int, kb_int_str, kb_int_list, kb_int_tuple, kb_int_dict, kb_str_bool, kb_str_int, kb_str_str, kb_str_list, kb_str_tuple, kb_str_dict, kb_list_bool, kb_list_int, kb_list_str, kb_list_list, kb_list_tuple, kb_list_dict, kb_tuple_bool, kb_tuple_int, kb_tuple_str, kb_tuple_list, kb_tuple_tuple, kb_tuple_dict, kb_dict_bool, kb_dict_int, kb_dict_str, kb_dict_list, kb_dict_tuple, kb_dict_dict]
  refine ⟨_, _, _, _, rfl, rfl, ?_⟩
  simp [wLcL, wipeR, wRet, wRetN, wAndV, wOrV, wNotV, wF, wCons, wNil, wV, wC, o1, o2, fIsi, fLen, fAll, fInt, fAbs, fII, fTup, fList, fSortA, fSort, wParG, put1, startR, R.fz, R.val, isiD, clsD, clsL, tyD, insOk, bodyPost, wSeq, wNext, wIfS, wT, w2, oAdd, oAddA, wNewT, wCallK, permL, wMakeK, oSub, oI, oIc, oMulW, oDivW, oMod, oPow, oLt, oLe, oGt, oGe, oEq, wIsN, D.isNon, wChain, wIf, wFld, wTup, wLst, shs, wSet, wOwn, wPar, wPar3, wCall, wMake, wMeth, wExpr, wAsgE, geT, geCons, geNil, geF, putD, wAsgT, gT, gsCons, gsNil, gN, iSeq, iOne, iRng, iZip, wNeg, wAnd, wOr, wNot, seqD, shs, oIx, oIxA, oIn, inD, wPut, setD, wGet2, wNewD, wYes, noX, dcD, blsD, eqD, shD, toPy, toPyL, PyData.eqv, PyData.eqvAll, SeqAt.shaped, PyData.canLay0, PyData.canLayAll0, PyData.depth, PyData.depthAll, and_assoc, sz1, sz2, sz3, kit_self, lookup_hd, lookup_tl, Int.natCast_inj, show ((0 : Nat) : Int) = 0 from rfl, kb_NoneType_bool, kb_NoneType_int, kb_NoneType_str, kb_NoneType_list, kb_NoneType_tuple, kb_NoneType_dict, kb_bool_bool, kb_bool_int, kb_bool_str, kb_bool_list, kb_bool_tuple, kb_bool_dict, kb_int_bool, kb_int_int, kb_int_str, kb_int_list, kb_int_tuple, kb_int_dict, kb_str_bool, kb_str_int, kb_str_str, kb_str_list, kb_str_tuple, kb_str_dict, kb_list_bool, kb_list_int, kb_list_str, kb_list_list, kb_list_tuple, kb_list_dict, kb_tuple_bool, kb_tuple_int, kb_tuple_str, kb_tuple_list, kb_tuple_tuple, kb_tuple_dict, kb_dict_bool, kb_dict_int, kb_dict_str, kb_dict_list, kb_dict_tuple, kb_dict_dict]
  refine ⟨_, _, _, rfl, ?_⟩
  simp [wRet, wRetN, wAndV, wOrV, wNotV, wF, wCons, wNil, wV, wC, o1, o2, fIsi, fLen, fAll, fInt, fAbs, fII, fTup, fList, fSortA, fSort, wParG, put1, startR, R.fz, R.val, isiD, clsD, clsL, tyD, insOk, bodyPost, wSeq, wNext, wIfS, wT, w2, oAdd, oAddA, wNewT, wCallK, permL, wMakeK, oSub, oI, oIc, oMulW, oDivW, oMod, oPow, oLt, oLe, oGt, oGe, oEq, wIsN, D.isNon, wChain, wIf, wFld, wTup, wLst, shs, wSet, wOwn, wPar, wPar3, wCall, wMake, wMeth, wExpr, wAsgE, geT, geCons, geNil, geF, putD, wAsgT, gT, gsCons, gsNil, gN, iSeq, iOne, iRng, iZip, wNeg, wAnd, wOr, wNot, seqD, shs, oIx, oIxA, oIn, inD, wPut, setD, wGet2, wNewD, wYes, noX, dcD, blsD, eqD, shD, toPy, toPyL, PyData.eqv, PyData.eqvAll, SeqAt.shaped, PyData.canLay0, PyData.canLayAll0, PyData.depth, PyData.depthAll, and_assoc, sz1, sz2, sz3, kit_self, lookup_hd, lookup_tl, Int.natCast_inj, show ((0 : Nat) : Int) = 0 from rfl, kb_NoneType_bool, kb_NoneType_int, kb_NoneType_str, kb_NoneType_list, kb_NoneType_tuple, kb_NoneType_dict, kb_bool_bool, kb_bool_int, kb_bool_str, kb_bool_list, kb_bool_tuple, kb_bool_dict, kb_int_bool, kb_int_int, kb_int_str, kb_int_list, kb_int_tuple, kb_int_dict, kb_str_bool, kb_str_int, kb_str_str, kb_str_list, kb_str_tuple, kb_str_dict, kb_list_bool, kb_list_int, kb_list_str, kb_list_list, kb_list_tuple, kb_list_dict, kb_tuple_bool, kb_tuple_int, kb_tuple_str, kb_tuple_list, kb_tuple_tuple, kb_tuple_dict, kb_dict_bool, kb_dict_int, kb_dict_str, kb_dict_list, kb_dict_tuple, kb_dict_dict]
  refine ⟨_, _, _, rfl, ?_⟩
  have e1 : (decide ((1 : Int) ≤ (a : Int)) && decide ((a : Int) ≤ 9999)) = true := by simp; omega
  have e2 : (decide ((1 : Int) ≤ (b : Int)) && decide ((b : Int) ≤ 9999)) = true := by simp; omega
  simp only [e1, e2, blsD]
  simpa [wRet, wRetN, wAndV, wOrV, wNotV, wF, wCons, wNil, wV, wC, o1, o2, fIsi, fLen, fAll, fInt, fAbs, fII, fTup, fList, fSortA, fSort, wParG, put1, startR, R.fz, R.val, isiD, clsD, clsL, tyD, insOk, bodyPost, wSeq, wNext, wIfS, wT, w2, oAdd, oAddA, wNewT, wCallK, permL, wMakeK, oSub, oI, oIc, oMulW, oDivW, oMod, oPow, oLt, oLe, oGt, oGe, oEq, wIsN, D.isNon, wChain, wIf, wFld, wTup, wLst, shs, wSet, wOwn, wPar, wPar3, wCall, wMake, wMeth, wExpr, wAsgE, geT, geCons, geNil, geF, putD, wAsgT, gT, gsCons, gsNil, gN, iSeq, iOne, iRng, iZip, wNeg, wAnd, wOr, wNot, seqD, shs, oIx, oIxA, oIn, inD, wPut, setD, wGet2, wNewD, wYes, noX, dcD, blsD, eqD, shD, toPy, toPyL, PyData.eqv, PyData.eqvAll, SeqAt.shaped, PyData.canLay0, PyData.canLayAll0, PyData.depth, PyData.depthAll, and_assoc, sz1, sz2, sz3, kit_self, lookup_hd, lookup_tl, Int.natCast_inj, show ((0 : Nat) : Int) = 0 from rfl, kb_NoneType_bool, kb_NoneType_int, kb_NoneType_str, kb_NoneType_list, kb_NoneType_tuple, kb_NoneType_dict, kb_bool_bool, kb_bool_int, kb_bool_str, kb_bool_list, kb_bool_tuple, kb_bool_dict, kb_int_bool, kb_int_int, kb_int_str, kb_int_list, kb_int_tuple, kb_int_dict, kb_str_bool, kb_str_int, kb_str_str, kb_str_list, kb_str_tuple, kb_str_dict, kb_list_bool, kb_list_int, kb_list_str, kb_list_list, kb_list_tuple, kb_list_dict, kb_tuple_bool, kb_tuple_int, kb_tuple_str, kb_tuple_list, kb_tuple_tuple, kb_tuple_dict, kb_dict_bool, kb_dict_int, kb_dict_str, kb_dict_list, kb_dict_tuple, kb_dict_dict] using hp
theorem l_is_row_of (T : Txt K mg C) (h : Φ_is_row_of K C rs os P PX) : w_is_row_of K C ⟨startR ["table", "value", "one"] rs, os⟩ (bodyPost os.length P PX) := by
  obtain ⟨t, d, r, rfl, hd, ⟨hl, hr⟩, hp⟩ := h
  simp only [tabD]
  rcases hd with rfl | rfl
  all_goals
    simp [w_is_row_of, wLc, wipeR, restR, T.k_Table, T.n_Table_width, lookup_tl ne_wn, wRet, wRetN, wAndV, wOrV, wNotV, wF, wCons, wNil, wV, wC, o1, o2, fIsi, fLen, fAll, fInt, fAbs, fII, fTup, fList, fSortA, fSort, wParG, put1, startR, R.fz, R.val, isiD, clsD, clsL, tyD, insOk, bodyPost, wSeq, wNext, wIfS, wT, w2, oAdd, oAddA, wNewT, wCallK, permL, wMakeK, oSub, oI, oIc, oMulW, oDivW, oMod, oPow, oLt, oLe, oGt, oGe, oEq, wIsN, D.isNon, wChain, wIf, wFld, wTup, wLst, shs, wSet, wOwn, wPar, wPar3, wCall, wMake, wMeth, wExpr, wAsgE, geT, geCons, geNil, geF, putD, wAsgT, gT, gsCons, gsNil, gN, iSeq, iOne, iRng, iZip, wNeg, wAnd, wOr, wNot, seqD, shs, oIx, oIxA, oIn, inD, wPut, setD, wGet2, wNewD, wYes, noX, dcD, blsD, eqD, shD, toPy, toPyL, PyData.eqv, PyData.eqvAll, SeqAt.shaped, PyData.canLay0, PyData.canLayAll0, PyData.depth, PyData.depthAll, and_assoc, sz1, sz2, sz3, kit_self, lookup_hd, lookup_tl, Int.natCast_inj, show ((0 : Nat) : Int) = 0 from rfl, kb_NoneType_bool, kb_NoneType_int, kb_NoneType_str, kb_NoneType_list, kb_NoneType_tuple, kb_NoneType_dict, kb_bool_bool, kb_bool_int, kb_bool_str, kb_bool_list, kb_bool_tuple, kb_bool_dict, kb_int_bool, kb_int_int, kb_int_str, kb_int_list, kb_int_tuple, kb_int_dict, kb_str_bool, kb_str_int, kb_str_str, kb_str_list, kb_str_tuple, kb_str_dict, kb_list_bool, kb_list_int, kb_list_str, kb_list_list, kb_list_tuple, kb_list_dict, kb_tuple_bool, kb_tuple_int, kb_tuple_str, kb_tuple_list, kb_tuple_tuple, kb_tuple_dict, kb_dict_bool, kb_dict_int, kb_dict_str, kb_dict_list, kb_dict_tuple, kb_dict_dict]
    refine ⟨_, _, _, _, rfl, rfl, ?_⟩
    simp [hl, wLc, wipeR, restR, wRet, wRetN, wAndV, wOrV, wNotV, wF, wCons, wNil, wV, wC, o1, o2, fIsi, fLen, fAll, fInt, fAbs, fII, fTup, fList, fSortA, fSort, wParG, put1, startR, R.fz, R.val, isiD, clsD, clsL, tyD, insOk, bodyPost, wSeq, wNext, wIfS, wT, w2, oAdd, oAddA, wNewT, wCallK, permL, wMakeK, oSub, oI, oIc, oMulW, oDivW, oMod, oPow, oLt, oLe, oGt, oGe, oEq, wIsN, D.isNon, wChain, wIf, wFld, wTup, wLst, shs, wSet, wOwn, wPar, wPar3, wCall, wMake, wMeth, wExpr, wAsgE, geT, geCons, geNil, geF, putD, wAsgT, gT, gsCons, gsNil, gN, iSeq, iOne, iRng, iZip, wNeg, wAnd, wOr, wNot, seqD, shs, oIx, oIxA, oIn, inD, wPut, setD, wGet2, wNewD, wYes, noX, dcD, blsD, eqD, shD, toPy, toPyL, PyData.eqv, PyData.eqvAll, SeqAt.shaped, PyData.canLay0, PyData.canLayAll0, PyData.depth, PyData.depthAll, and_assoc, sz1, sz2, sz3, kit_self, lookup_hd, lookup_tl, Int.natCast_inj, show ((0 : Nat) : Int) = 0 from rfl, kb_NoneType_bool, kb_NoneType_int, kb_NoneType_str, kb_NoneType_list, kb_NoneType_tuple, kb_NoneType_dict, kb_bool_bool, kb_bool_int, kb_bool_str, kb_bool_list, kb_bool_tuple, kb_bool_dict, kb_int_bool, kb_int_int, kb_int_str, kb_int_list, kb_int_tuple, kb_int_dict, kb_str_bool, kb_str_int, kb_str_str, kb_str_list, kb_str_tuple, kb_str_dict, kb_list_bool, kb_list_int, kb_list_str, kb_list_list, kb_list_tuple, kb_list_dict, kb_tuple_bool, kb_tuple_int, kb_tuple_str, kb_tuple_list, kb_tuple_tuple, kb_tuple_dict, kb_dict_bool, kb_dict_int, kb_dict_str, kb_dict_list, kb_dict_tuple, kb_dict_dict]
    refine lcL_map (f := fun _ => .bl true) rfl (fun d hd P PX h => ?_) ?_
    · obtain ⟨v, hv, rfl⟩ := List.mem_map.mp hd
      simp [wRet, wRetN, wAndV, wOrV, wNotV, wF, wCons, wNil, wV, wC, o1, o2, fIsi, fLen, fAll, fInt, fAbs, fII, fTup, fList, fSortA, fSort, wParG, put1, startR, R.fz, R.val, isiD, clsD, clsL, tyD, insOk, bodyPost, wSeq, wNext, wIfS, wT, w2, oAdd, oAddA, wNewT, wCallK, permL, wMakeK, oSub, oI, oIc, oMulW, oDivW, oMod, oPow, oLt, oLe, oGt, oGe, oEq, wIsN, D.isNon, wChain, wIf, wFld, wTup, wLst, shs, wSet, wOwn, wPar, wPar3, wCall, wMake, wMeth, wExpr, wAsgE, geT, geCons, geNil, geF, putD, wAsgT, gT, gsCons, gsNil, gN, iSeq, iOne, iRng, iZip, wNeg, wAnd, wOr, wNot, seqD, shs, oIx, oIxA, oIn, inD, wPut, setD, wGet2, wNewD, wYes, noX, dcD, blsD, eqD, shD, toPy, toPyL, PyData.eqv, PyData.eqvAll, SeqAt.shaped, PyData.canLay0, PyData.canLayAll0, PyData.depth, PyData.depthAll, and_assoc, sz1, sz2, sz3, kit_self, lookup_hd, lookup_tl, Int.natCast_inj, show ((0 : Nat) : Int) = 0 from rfl, kb_NoneType_bool, kb_NoneType_int, kb_NoneType_str, kb_NoneType_list, kb_NoneType_tuple, kb_NoneType_dict, kb_bool_bool, kb_bool_int, kb_bool_str, kb_bool_list, kb_bool_tuple, kb_bool_dict, kb_int_bool, kb_int_int, kb_int_str, kb_int_list, kb_int_tuple, kb_int_dict, kb_str_bool, kb_str_int, kb_str_str, kb_str_list, kb_str_tuple, kb_str_dict, kb_list_bool, kb_list_int, kb_list_str, kb_list_list, kb_list_tuple, kb_list_dict, kb_tuple_bool, kb_tuple_int, kb_tuple_str, kb_tuple_list, kb_tuple_tuple, kb_tuple_dict, kb_dict_bool, kb_dict_int, kb_dict_str, kb_dict_list, kb_dict_tuple, kb_dict_dict]
      refine ⟨_, _, _, rfl, ?_⟩
      have := hr v hv
      simpa [this.1, this.2, show -(1000000000000000000000000000000 : Int) ≤ v from this.1, show v ≤ (1000000000000000000000000000000 : Int) from this.2] using h
    · have e3 : (r.map D.int).map (fun _ => D.bl true) = (r.map fun _ => true).map D.bl := by rw [List.map_map, List.map_map]; rfl
      simp only [List.nil_append, e3, blsD_map, wRet, wRetN, wAndV, wOrV, wNotV, wF, wCons, wNil, wV, wC, o1, o2, fIsi, fLen, fAll, fInt, fAbs, fII, fTup, fList, fSortA, fSort, wParG, put1, startR, R.fz, R.val, isiD, clsD, clsL, tyD, insOk, bodyPost, wSeq, wNext, wIfS, wT, w2, oAdd, oAddA, wNewT, wCallK, permL, wMakeK, oSub, oI, oIc, oMulW, oDivW, oMod, oPow, oLt, oLe, oGt, oGe, oEq, wIsN, D.isNon, wChain, wIf, wFld, wTup, wLst, shs, wSet, wOwn, wPar, wPar3, wCall, wMake, wMeth, wExpr, wAsgE, geT, geCons, geNil, geF, putD, wAsgT, gT, gsCons, gsNil, gN, iSeq, iOne, iRng, iZip, wNeg, wAnd, wOr, wNot, seqD, shs, oIx, oIxA, oIn, inD, wPut, setD, wGet2, wNewD, wYes, noX, dcD, blsD, eqD, shD, toPy, toPyL, PyData.eqv, PyData.eqvAll, SeqAt.shaped, PyData.canLay0, PyData.canLayAll0, PyData.depth, PyData.depthAll, and_assoc, sz1, sz2, sz3, kit_self, lookup_hd, lookup_tl, Int.natCast_inj, show ((0 : Nat) : Int) = 0 from rfl, kb_NoneType_bool, kb_NoneType_int, kb_NoneType_str, kb_NoneType_list, kb_NoneType_tuple, kb_NoneType_dict, kb_bool_bool, kb_bool_int, kb_bool_str, kb_bool_list, kb_bool_tuple, kb_bool_dict, kb_int_bool, kb_int_int, kb_int_str, kb_int_list, kb_int_tuple, kb_int_dict, kb_str_bool, kb_str_int, kb_str_str, kb_str_list, kb_str_tuple, kb_str_dict, kb_list_bool, kb_list_int, kb_list_str, kb_list_list, kb_list_tuple, kb_list_dict, kb_tuple_bool, kb_tuple_int, kb_tuple_str, kb_tuple_list, kb_tuple_tuple, kb_tuple_dict, kb_dict_bool, kb_dict_int, kb_dict_str, kb_dict_list, kb_dict_tuple, kb_dict_dict]
      have e4 : (r.all fun _ => true) = true := by simp
      simpa [List.all_map, Function.comp_def, e4] using hp
theorem l_Split_init (T : Txt K mg C) (h : Φ_Split_init K C rs os P PX) : w_Split_init K C ⟨startR ["self", "table", "column", "threshold"] rs, os⟩ (bodyPost os.length P PX) := by
  obtain ⟨k, z, c, a, b, rfl, ho, hc, h1, h2, h3, h4, hp⟩ := h
  simp only [tabD]
  simp [w_Split_init, T.i_Table, T.k_Table, T.n_Table_width, lookup_tl ne_wn, wRet, wRetN, wAndV, wOrV, wNotV, wF, wCons, wNil, wV, wC, o1, o2, fIsi, fLen, fAll, fInt, fAbs, fII, fTup, fList, fSortA, fSort, wParG, put1, startR, R.fz, R.val, isiD, clsD, clsL, tyD, insOk, bodyPost, wSeq, wNext, wIfS, wT, w2, oAdd, oAddA, wNewT, wCallK, permL, wMakeK, oSub, oI, oIc, oMulW, oDivW, oMod, oPow, oLt, oLe, oGt, oGe, oEq, wIsN, D.isNon, wChain, wIf, wFld, wTup, wLst, shs, wSet, wOwn, wPar, wPar3, wCall, wMake, wMeth, wExpr, wAsgE, geT, geCons, geNil, geF, putD, wAsgT, gT, gsCons, gsNil, gN, iSeq, iOne, iRng, iZip, wNeg, wAnd, wOr, wNot, seqD, shs, oIx, oIxA, oIn, inD, wPut, setD, wGet2, wNewD, wYes, noX, dcD, blsD, eqD, shD, toPy, toPyL, PyData.eqv, PyData.eqvAll, SeqAt.shaped, PyData.canLay0, PyData.canLayAll0, PyData.depth, PyData.depthAll, and_assoc, sz1, sz2, sz3, kit_self, lookup_hd, lookup_tl, Int.natCast_inj, show ((0 : Nat) : Int) = 0 from rfl, kb_NoneType_bool, kb_NoneType_int, kb_NoneType_str, kb_NoneType_list, kb_NoneType_tuple, kb_NoneType_dict, kb_bool_bool, kb_bool_int, kb_bool_str, kb_bool_list, kb_bool_tuple, kb_bool_dict, kb_int_bool, kb_int_int, kb_int_str, kb_int_list, kb_int_tuple, kb_int_dict, kb_str_bool, kb_str_int, kb_str_str, kb_str_list, kb_str_tuple, kb_str_dict, kb_list_bool, kb_list_int, kb_list_str, kb_list_list, kb_list_tuple, kb_list_dict, kb_tuple_bool, kb_tuple_int, kb_tuple_str, kb_tuple_list, kb_tuple_tuple, kb_tuple_dict, kb_dict_bool, kb_dict_int, kb_dict_str, kb_dict_list, kb_dict_tuple, kb_dict_dict]
  refine ⟨c, 0, 1, rfl, ?_⟩
  simp [show ((0 : Int) ≤ (c : Int)) by omega, show ((c : Int) ≤ 1) by omega, wRet, wRetN, wAndV, wOrV, wNotV, wF, wCons, wNil, wV, wC, o1, o2, fIsi, fLen, fAll, fInt, fAbs, fII, fTup, fList, fSortA, fSort, wParG, put1, startR, R.fz, R.val, isiD, clsD, clsL, tyD, insOk, bodyPost, wSeq, wNext, wIfS, wT, w2, oAdd, oAddA, wNewT, wCallK, permL, wMakeK, oSub, oI, oIc, oMulW, oDivW, oMod, oPow, oLt, oLe, oGt, oGe, oEq, wIsN, D.isNon, wChain, wIf, wFld, wTup, wLst, shs, wSet, wOwn, wPar, wPar3, wCall, wMake, wMeth, wExpr, wAsgE, geT, geCons, geNil, geF, putD, wAsgT, gT, gsCons, gsNil, gN, iSeq, iOne, iRng, iZip, wNeg, wAnd, wOr, wNot, seqD, shs, oIx, oIxA, oIn, inD, wPut, setD, wGet2, wNewD, wYes, noX, dcD, blsD, eqD, shD, toPy, toPyL, PyData.eqv, PyData.eqvAll, SeqAt.shaped, PyData.canLay0, PyData.canLayAll0, PyData.depth, PyData.depthAll, and_assoc, sz1, sz2, sz3, kit_self, lookup_hd, lookup_tl, Int.natCast_inj, show ((0 : Nat) : Int) = 0 from rfl, kb_NoneType_bool, kb_NoneType_int, kb_NoneType_str, kb_NoneType_list, kb_NoneType_tuple, kb_NoneType_dict, kb_bool_bool, kb_bool_int, kb_bool_str, kb_bool_list, kb_bool_tuple, kb_bool_dict, kb_int_bool, kb_int_int, kb_int_str, kb_int_list, kb_int_tuple, kb_int_dict, kb_str_bool, kb_str_int, kb_str_str, kb_str_list, kb_str_tuple, kb_str_dict, kb_list_bool, kb_list_int, kb_list_str, kb_list_list, kb_list_tuple, kb_list_dict, kb_tuple_bool, kb_tuple_int, kb_tuple_str, kb_tuple_list, kb_tuple_tuple, kb_tuple_dict, kb_dict_bool, kb_dict_int, kb_dict_str, kb_dict_list, kb_dict_tuple, kb_dict_dict]
  refine ⟨a, b, rfl, h1, h2, h3, h4, ?_⟩
  simp [atI, ixN, wRet, wRetN, wAndV, wOrV, wNotV, wF, wCons, wNil, wV, wC, o1, o2, fIsi, fLen, fAll, fInt, fAbs, fII, fTup, fList, fSortA, fSort, wParG, put1, startR, R.fz, R.val, isiD, clsD, clsL, tyD, insOk, bodyPost, wSeq, wNext, wIfS, wT, w2, oAdd, oAddA, wNewT, wCallK, permL, wMakeK, oSub, oI, oIc, oMulW, oDivW, oMod, oPow, oLt, oLe, oGt, oGe, oEq, wIsN, D.isNon, wChain, wIf, wFld, wTup, wLst, shs, wSet, wOwn, wPar, wPar3, wCall, wMake, wMeth, wExpr, wAsgE, geT, geCons, geNil, geF, putD, wAsgT, gT, gsCons, gsNil, gN, iSeq, iOne, iRng, iZip, wNeg, wAnd, wOr, wNot, seqD, shs, oIx, oIxA, oIn, inD, wPut, setD, wGet2, wNewD, wYes, noX, dcD, blsD, eqD, shD, toPy, toPyL, PyData.eqv, PyData.eqvAll, SeqAt.shaped, PyData.canLay0, PyData.canLayAll0, PyData.depth, PyData.depthAll, and_assoc, sz1, sz2, sz3, kit_self, lookup_hd, lookup_tl, Int.natCast_inj, show ((0 : Nat) : Int) = 0 from rfl, kb_NoneType_bool, kb_NoneType_int, kb_NoneType_str, kb_NoneType_list, kb_NoneType_tuple, kb_NoneType_dict, kb_bool_bool, kb_bool_int, kb_bool_str, kb_bool_list, kb_bool_tuple, kb_bool_dict, kb_int_bool, kb_int_int, kb_int_str, kb_int_list, kb_int_tuple, kb_int_dict, kb_str_bool, kb_str_int, kb_str_str, kb_str_list, kb_str_tuple, kb_str_dict, kb_list_bool, kb_list_int, kb_list_str, kb_list_list, kb_list_tuple, kb_list_dict, kb_tuple_bool, kb_tuple_int, kb_tuple_str, kb_tuple_list, kb_tuple_tuple, kb_tuple_dict, kb_dict_bool, kb_dict_int, kb_dict_str, kb_dict_list, kb_dict_tuple, kb_dict_dict]
  refine ⟨a, b, rfl, h1, h2, h3, h4, ?_⟩
  simp [ho, set_at ho, ne_tac, ne_tat, ne_cot, take_set, wRet, wRetN, wAndV, wOrV, wNotV, wF, wCons, wNil, wV, wC, o1, o2, fIsi, fLen, fAll, fInt, fAbs, fII, fTup, fList, fSortA, fSort, wParG, put1, startR, R.fz, R.val, isiD, clsD, clsL, tyD, insOk, bodyPost, wSeq, wNext, wIfS, wT, w2, oAdd, oAddA, wNewT, wCallK, permL, wMakeK, oSub, oI, oIc, oMulW, oDivW, oMod, oPow, oLt, oLe, oGt, oGe, oEq, wIsN, D.isNon, wChain, wIf, wFld, wTup, wLst, shs, wSet, wOwn, wPar, wPar3, wCall, wMake, wMeth, wExpr, wAsgE, geT, geCons, geNil, geF, putD, wAsgT, gT, gsCons, gsNil, gN, iSeq, iOne, iRng, iZip, wNeg, wAnd, wOr, wNot, seqD, shs, oIx, oIxA, oIn, inD, wPut, setD, wGet2, wNewD, wYes, noX, dcD, blsD, eqD, shD, toPy, toPyL, PyData.eqv, PyData.eqvAll, SeqAt.shaped, PyData.canLay0, PyData.canLayAll0, PyData.depth, PyData.depthAll, and_assoc, sz1, sz2, sz3, kit_self, lookup_hd, lookup_tl, Int.natCast_inj, show ((0 : Nat) : Int) = 0 from rfl, kb_NoneType_bool, kb_NoneType_int, kb_NoneType_str, kb_NoneType_list, kb_NoneType_tuple, kb_NoneType_dict, kb_bool_bool, kb_bool_int, kb_bool_str, kb_bool_list, kb_bool_tuple, kb_bool_dict, kb_int_bool, kb_int_int, kb_int_str, kb_int_list, kb_int_tuple, kb_int_dict, kb_str_bool, kb_str_int, kb_str_str, kb_str_list, kb_str_tuple, kb_str_dict, kb_list_bool, kb_list_int, kb_list_str, kb_list_list, kb_list_tuple, kb_list_dict, kb_tuple_bool, kb_tuple_int, kb_tuple_str, kb_tuple_list, kb_tuple_tuple, kb_tuple_dict, kb_dict_bool, kb_dict_int, kb_dict_str, kb_dict_list, kb_dict_tuple, kb_dict_dict]
  simpa [splitD, tabD] using hp
theorem fold_names (C : Cs) (fv : Str × Int → D) {ts : List (Str × Int)} (nd : (ts.map (·.1)).Nodup) : ts.foldl (fun a t => putKD a (.inr t.1 : Key) (fv t)) [] = ts.map fun t => (.inr t.1, fv t) := by
  rw [fold_put (kk := fun t : Str × Int => (.inr t.1 : Key)) (fv := fv) ts [] ?_ (fun d _ a ha => by cases ha)]
  · rfl
  · have q := List.Pairwise.map (S := fun x y : Key => x ≠ y) (fun v : Str => (Sum.inr v : Key)) (fun a b hab e => hab (Sum.inr.inj e)) nd
    rw [List.map_map] at q
    exact q
theorem l_are_tables (T : Txt K mg C) (h : Φ_are_tables K C rs os P PX) : w_are_tables K C ⟨startR ["value", "most", "one"] rs, os⟩ (bodyPost os.length P PX) := by
  obtain ⟨d, ts, rfl, hd, ok, hp⟩ := h
  cases d <;> simp only [seqD, reduceCtorEq] at hd
  all_goals
    cases hd
    simp [w_are_tables, wRet, wRetN, wAndV, wOrV, wNotV, wF, wCons, wNil, wV, wC, o1, o2, fIsi, fLen, fAll, fInt, fAbs, fII, fTup, fList, fSortA, fSort, wParG, put1, startR, R.fz, R.val, isiD, clsD, clsL, tyD, insOk, bodyPost, wSeq, wNext, wIfS, wT, w2, oAdd, oAddA, wNewT, wCallK, permL, wMakeK, oSub, oI, oIc, oMulW, oDivW, oMod, oPow, oLt, oLe, oGt, oGe, oEq, wIsN, D.isNon, wChain, wIf, wFld, wTup, wLst, shs, wSet, wOwn, wPar, wPar3, wCall, wMake, wMeth, wExpr, wAsgE, geT, geCons, geNil, geF, putD, wAsgT, gT, gsCons, gsNil, gN, iSeq, iOne, iRng, iZip, wNeg, wAnd, wOr, wNot, seqD, shs, oIx, oIxA, oIn, inD, wPut, setD, wGet2, wNewD, wYes, noX, dcD, blsD, eqD, shD, toPy, toPyL, PyData.eqv, PyData.eqvAll, SeqAt.shaped, PyData.canLay0, PyData.canLayAll0, PyData.depth, PyData.depthAll, and_assoc, sz1, sz2, sz3, kit_self, lookup_hd, lookup_tl, Int.natCast_inj, show ((0 : Nat) : Int) = 0 from rfl, kb_NoneType_bool, kb_NoneType_int, kb_NoneType_str, kb_NoneType_list, kb_NoneType_tuple, kb_NoneType_dict, kb_bool_bool, kb_bool_int, kb_bool_str, kb_bool_list, kb_bool_tuple, kb_bool_dict, kb_int_bool, kb_int_int, kb_int_str, kb_int_list, kb_int_tuple, kb_int_dict, kb_str_bool, kb_str_int, kb_str_str, kb_str_list, kb_str_tuple, kb_str_dict, kb_list_bool, kb_list_int, kb_list_str, kb_list_list, kb_list_tuple, kb_list_dict, kb_tuple_bool, kb_tuple_int, kb_tuple_str, kb_tuple_list, kb_tuple_tuple, kb_tuple_dict, kb_dict_bool, kb_dict_int, kb_dict_str, kb_dict_list, kb_dict_tuple, kb_dict_dict]
    refine ⟨_, _, _, _, rfl, rfl, ?_⟩
    have l1 : decide ((1 : Int) ≤ ((ts.map (tabD C)).length : Int)) = true := by rw [List.length_map, decide_eq_true_eq]; have := ok.pos; omega
    have l2 : decide (((ts.map (tabD C)).length : Int) ≤ 6) = true := by rw [List.length_map, decide_eq_true_eq]; have := ok.few; omega
    simp only [l1, l2, Bool.and_self]
    simp [wLc, wipeR, restR, wRet, wRetN, wAndV, wOrV, wNotV, wF, wCons, wNil, wV, wC, o1, o2, fIsi, fLen, fAll, fInt, fAbs, fII, fTup, fList, fSortA, fSort, wParG, put1, startR, R.fz, R.val, isiD, clsD, clsL, tyD, insOk, bodyPost, wSeq, wNext, wIfS, wT, w2, oAdd, oAddA, wNewT, wCallK, permL, wMakeK, oSub, oI, oIc, oMulW, oDivW, oMod, oPow, oLt, oLe, oGt, oGe, oEq, wIsN, D.isNon, wChain, wIf, wFld, wTup, wLst, shs, wSet, wOwn, wPar, wPar3, wCall, wMake, wMeth, wExpr, wAsgE, geT, geCons, geNil, geF, putD, wAsgT, gT, gsCons, gsNil, gN, iSeq, iOne, iRng, iZip, wNeg, wAnd, wOr, wNot, seqD, shs, oIx, oIxA, oIn, inD, wPut, setD, wGet2, wNewD, wYes, noX, dcD, blsD, eqD, shD, toPy, toPyL, PyData.eqv, PyData.eqvAll, SeqAt.shaped, PyData.canLay0, PyData.canLayAll0, PyData.depth, PyData.depthAll, and_assoc, sz1, sz2, sz3, kit_self, lookup_hd, lookup_tl, Int.natCast_inj, show ((0 : Nat) : Int) = 0 from rfl, kb_NoneType_bool, kb_NoneType_int, kb_NoneType_str, kb_NoneType_list, kb_NoneType_tuple, kb_NoneType_dict, kb_bool_bool, kb_bool_int, kb_bool_str, kb_bool_list, kb_bool_tuple, kb_bool_dict, kb_int_bool, kb_int_int, kb_int_str, kb_int_list, kb_int_tuple, kb_int_dict, kb_str_bool, kb_str_int, kb_str_str, kb_str_list, kb_str_tuple, kb_str_dict, kb_list_bool, kb_list_int, kb_list_str, kb_list_list, kb_list_tuple, kb_list_dict, kb_tuple_bool, kb_tuple_int, kb_tuple_str, kb_tuple_list, kb_tuple_tuple, kb_tuple_dict, kb_dict_bool, kb_dict_int, kb_dict_str, kb_dict_list, kb_dict_tuple, kb_dict_dict]
    refine lcL_map (f := fun _ => .bl true) rfl (fun d hd P PX h => ?_) ?_
    · obtain ⟨t, ht, rfl⟩ := List.mem_map.mp hd
      simpa [tabD, T.i_Table, wRet, wRetN, wAndV, wOrV, wNotV, wF, wCons, wNil, wV, wC, o1, o2, fIsi, fLen, fAll, fInt, fAbs, fII, fTup, fList, fSortA, fSort, wParG, put1, startR, R.fz, R.val, isiD, clsD, clsL, tyD, insOk, bodyPost, wSeq, wNext, wIfS, wT, w2, oAdd, oAddA, wNewT, wCallK, permL, wMakeK, oSub, oI, oIc, oMulW, oDivW, oMod, oPow, oLt, oLe, oGt, oGe, oEq, wIsN, D.isNon, wChain, wIf, wFld, wTup, wLst, shs, wSet, wOwn, wPar, wPar3, wCall, wMake, wMeth, wExpr, wAsgE, geT, geCons, geNil, geF, putD, wAsgT, gT, gsCons, gsNil, gN, iSeq, iOne, iRng, iZip, wNeg, wAnd, wOr, wNot, seqD, shs, oIx, oIxA, oIn, inD, wPut, setD, wGet2, wNewD, wYes, noX, dcD, blsD, eqD, shD, toPy, toPyL, PyData.eqv, PyData.eqvAll, SeqAt.shaped, PyData.canLay0, PyData.canLayAll0, PyData.depth, PyData.depthAll, and_assoc, sz1, sz2, sz3, kit_self, lookup_hd, lookup_tl, Int.natCast_inj, show ((0 : Nat) : Int) = 0 from rfl, kb_NoneType_bool, kb_NoneType_int, kb_NoneType_str, kb_NoneType_list, kb_NoneType_tuple, kb_NoneType_dict, kb_bool_bool, kb_bool_int, kb_bool_str, kb_bool_list, kb_bool_tuple, kb_bool_dict, kb_int_bool, kb_int_int, kb_int_str, kb_int_list, kb_int_tuple, kb_int_dict, kb_str_bool, kb_str_int, kb_str_str, kb_str_list, kb_str_tuple, kb_str_dict, kb_list_bool, kb_list_int, kb_list_str, kb_list_list, kb_list_tuple, kb_list_dict, kb_tuple_bool, kb_tuple_int, kb_tuple_str, kb_tuple_list, kb_tuple_tuple, kb_tuple_dict, kb_dict_bool, kb_dict_int, kb_dict_str, kb_dict_list, kb_dict_tuple, kb_dict_dict] using h
    · have e3 : (ts.map (tabD C)).map (fun _ => D.bl true) = (ts.map fun _ => true).map D.bl := by rw [List.map_map, List.map_map]; rfl
      have e4 : ((ts.map fun _ => true).all id) = true := by simp
      simp only [List.nil_append, e3, blsD_map, e4]
      simp [wDc, wipeR, restR, wRet, wRetN, wAndV, wOrV, wNotV, wF, wCons, wNil, wV, wC, o1, o2, fIsi, fLen, fAll, fInt, fAbs, fII, fTup, fList, fSortA, fSort, wParG, put1, startR, R.fz, R.val, isiD, clsD, clsL, tyD, insOk, bodyPost, wSeq, wNext, wIfS, wT, w2, oAdd, oAddA, wNewT, wCallK, permL, wMakeK, oSub, oI, oIc, oMulW, oDivW, oMod, oPow, oLt, oLe, oGt, oGe, oEq, wIsN, D.isNon, wChain, wIf, wFld, wTup, wLst, shs, wSet, wOwn, wPar, wPar3, wCall, wMake, wMeth, wExpr, wAsgE, geT, geCons, geNil, geF, putD, wAsgT, gT, gsCons, gsNil, gN, iSeq, iOne, iRng, iZip, wNeg, wAnd, wOr, wNot, seqD, shs, oIx, oIxA, oIn, inD, wPut, setD, wGet2, wNewD, wYes, noX, dcD, blsD, eqD, shD, toPy, toPyL, PyData.eqv, PyData.eqvAll, SeqAt.shaped, PyData.canLay0, PyData.canLayAll0, PyData.depth, PyData.depthAll, and_assoc, sz1, sz2, sz3, kit_self, lookup_hd, lookup_tl, Int.natCast_inj, show ((0 : Nat) : Int) = 0 from rfl, kb_NoneType_bool, kb_NoneType_int, kb_NoneType_str, kb_NoneType_list, kb_NoneType_tuple, kb_NoneType_dict, kb_bool_bool, kb_bool_int, kb_bool_str, kb_bool_list, kb_bool_tuple, kb_bool_dict, kb_int_bool, kb_int_int, kb_int_str, kb_int_list, kb_int_tuple, kb_int_dict, kb_str_bool, kb_str_int, kb_str_str, kb_str_list, kb_str_tuple, kb_str_dict, kb_list_bool, kb_list_int, kb_list_str, kb_list_list, kb_list_tuple, kb_list_dict, kb_tuple_bool, kb_tuple_int, kb_tuple_str, kb_tuple_list, kb_tuple_tuple, kb_tuple_dict, kb_dict_bool, kb_dict_int, kb_dict_str, kb_dict_list, kb_dict_tuple, kb_dict_dict]
      refine dcL_map (fk := fun d => match d with | .ins _ fs => (fs.lookup (Str.ofString "name")).getD .non | _ => .non) (fv := fun _ => .bl true) (kk := fun d => match d with | .ins _ fs => (match fs.lookup (Str.ofString "name") with | some (.str z) => .inr z | _ => .inl 0) | _ => .inl 0) rfl (fun d hd => ?_) (fun d hd P PX h => ?_) (fun d hd P PX h => ?_) ?_
      · obtain ⟨t, ht, rfl⟩ := List.mem_map.mp hd
        simp [tabD, lookup_hd, keyD]
      · obtain ⟨t, ht, rfl⟩ := List.mem_map.mp hd
        simp [tabD, lookup_hd] at h
        simpa [tabD, T.k_Table, T.n_Table_name, wRet, wRetN, wAndV, wOrV, wNotV, wF, wCons, wNil, wV, wC, o1, o2, fIsi, fLen, fAll, fInt, fAbs, fII, fTup, fList, fSortA, fSort, wParG, put1, startR, R.fz, R.val, isiD, clsD, clsL, tyD, insOk, bodyPost, wSeq, wNext, wIfS, wT, w2, oAdd, oAddA, wNewT, wCallK, permL, wMakeK, oSub, oI, oIc, oMulW, oDivW, oMod, oPow, oLt, oLe, oGt, oGe, oEq, wIsN, D.isNon, wChain, wIf, wFld, wTup, wLst, shs, wSet, wOwn, wPar, wPar3, wCall, wMake, wMeth, wExpr, wAsgE, geT, geCons, geNil, geF, putD, wAsgT, gT, gsCons, gsNil, gN, iSeq, iOne, iRng, iZip, wNeg, wAnd, wOr, wNot, seqD, shs, oIx, oIxA, oIn, inD, wPut, setD, wGet2, wNewD, wYes, noX, dcD, blsD, eqD, shD, toPy, toPyL, PyData.eqv, PyData.eqvAll, SeqAt.shaped, PyData.canLay0, PyData.canLayAll0, PyData.depth, PyData.depthAll, and_assoc, sz1, sz2, sz3, kit_self, lookup_hd, lookup_tl, Int.natCast_inj, show ((0 : Nat) : Int) = 0 from rfl, kb_NoneType_bool, kb_NoneType_int, kb_NoneType_str, kb_NoneType_list, kb_NoneType_tuple, kb_NoneType_dict, kb_bool_bool, kb_bool_int, kb_bool_str, kb_bool_list, kb_bool_tuple, kb_bool_dict, kb_int_bool, kb_int_int, kb_int_str, kb_int_list, kb_int_tuple, kb_int_dict, kb_str_bool, kb_str_int, kb_str_str, kb_str_list, kb_str_tuple, kb_str_dict, kb_list_bool, kb_list_int, kb_list_str, kb_list_list, kb_list_tuple, kb_list_dict, kb_tuple_bool, kb_tuple_int, kb_tuple_str, kb_tuple_list, kb_tuple_tuple, kb_tuple_dict, kb_dict_bool, kb_dict_int, kb_dict_str, kb_dict_list, kb_dict_tuple, kb_dict_dict] using h
      · simpa [wRet, wRetN, wAndV, wOrV, wNotV, wF, wCons, wNil, wV, wC, o1, o2, fIsi, fLen, fAll, fInt, fAbs, fII, fTup, fList, fSortA, fSort, wParG, put1, startR, R.fz, R.val, isiD, clsD, clsL, tyD, insOk, bodyPost, wSeq, wNext, wIfS, wT, w2, oAdd, oAddA, wNewT, wCallK, permL, wMakeK, oSub, oI, oIc, oMulW, oDivW, oMod, oPow, oLt, oLe, oGt, oGe, oEq, wIsN, D.isNon, wChain, wIf, wFld, wTup, wLst, shs, wSet, wOwn, wPar, wPar3, wCall, wMake, wMeth, wExpr, wAsgE, geT, geCons, geNil, geF, putD, wAsgT, gT, gsCons, gsNil, gN, iSeq, iOne, iRng, iZip, wNeg, wAnd, wOr, wNot, seqD, shs, oIx, oIxA, oIn, inD, wPut, setD, wGet2, wNewD, wYes, noX, dcD, blsD, eqD, shD, toPy, toPyL, PyData.eqv, PyData.eqvAll, SeqAt.shaped, PyData.canLay0, PyData.canLayAll0, PyData.depth, PyData.depthAll, and_assoc, sz1, sz2, sz3, kit_self, lookup_hd, lookup_tl, Int.natCast_inj, show ((0 : Nat) : Int) = 0 from rfl, kb_NoneType_bool, kb_NoneType_int, kb_NoneType_str, kb_NoneType_list, kb_NoneType_tuple, kb_NoneType_dict, kb_bool_bool, kb_bool_int, kb_bool_str, kb_bool_list, kb_bool_tuple, kb_bool_dict, kb_int_bool, kb_int_int, kb_int_str, kb_int_list, kb_int_tuple, kb_int_dict, kb_str_bool, kb_str_int, kb_str_str, kb_str_list, kb_str_tuple, kb_str_dict, kb_list_bool, kb_list_int, kb_list_str, kb_list_list, kb_list_tuple, kb_list_dict, kb_tuple_bool, kb_tuple_int, kb_tuple_str, kb_tuple_list, kb_tuple_tuple, kb_tuple_dict, kb_dict_bool, kb_dict_int, kb_dict_str, kb_dict_list, kb_dict_tuple, kb_dict_dict] using h
      · have ef : ((ts.map (tabD C)).foldl (fun a d => putKD a ((match d with | .ins _ fs => (match fs.lookup (Str.ofString "name") with | some (.str z) => .inr z | _ => .inl 0) | _ => .inl 0) : Key) (D.bl true)) ([] : List (Key × D))) = ts.map fun t => (.inr t.1, .bl true) := by
          rw [List.foldl_map]
          simp only [tabD, lookup_hd]
          exact fold_names C (fun _ => .bl true) ok.nd
        rw [ef]
        simpa [wRet, wRetN, wAndV, wOrV, wNotV, wF, wCons, wNil, wV, wC, o1, o2, fIsi, fLen, fAll, fInt, fAbs, fII, fTup, fList, fSortA, fSort, wParG, put1, startR, R.fz, R.val, isiD, clsD, clsL, tyD, insOk, bodyPost, wSeq, wNext, wIfS, wT, w2, oAdd, oAddA, wNewT, wCallK, permL, wMakeK, oSub, oI, oIc, oMulW, oDivW, oMod, oPow, oLt, oLe, oGt, oGe, oEq, wIsN, D.isNon, wChain, wIf, wFld, wTup, wLst, shs, wSet, wOwn, wPar, wPar3, wCall, wMake, wMeth, wExpr, wAsgE, geT, geCons, geNil, geF, putD, wAsgT, gT, gsCons, gsNil, gN, iSeq, iOne, iRng, iZip, wNeg, wAnd, wOr, wNot, seqD, shs, oIx, oIxA, oIn, inD, wPut, setD, wGet2, wNewD, wYes, noX, dcD, blsD, eqD, shD, toPy, toPyL, PyData.eqv, PyData.eqvAll, SeqAt.shaped, PyData.canLay0, PyData.canLayAll0, PyData.depth, PyData.depthAll, and_assoc, sz1, sz2, sz3, kit_self, lookup_hd, lookup_tl, Int.natCast_inj, show ((0 : Nat) : Int) = 0 from rfl, kb_NoneType_bool, kb_NoneType_int, kb_NoneType_str, kb_NoneType_list, kb_NoneType_tuple, kb_NoneType_dict, kb_bool_bool, kb_bool_int, kb_bool_str, kb_bool_list, kb_bool_tuple, kb_bool_dict, kb_int_bool, kb_int_int, kb_int_str, kb_int_list, kb_int_tuple, kb_int_dict, kb_str_bool, kb_str_int, kb_str_str, kb_str_list, kb_str_tuple, kb_str_dict, kb_list_bool, kb_list_int, kb_list_str, kb_list_list, kb_list_tuple, kb_list_dict, kb_tuple_bool, kb_tuple_int, kb_tuple_str, kb_tuple_list, kb_tuple_tuple, kb_tuple_dict, kb_dict_bool, kb_dict_int, kb_dict_str, kb_dict_list, kb_dict_tuple, kb_dict_dict] using hp
theorem l_by_names (T : Txt K mg C) (h : Φ_by_names K C rs os P PX) : w_by_names K C ⟨startR ["tables", "one"] rs, os⟩ (bodyPost os.length P PX) := by
  obtain ⟨d, ts, rfl, hd, nd, hp⟩ := h
  cases d <;> simp only [seqD, reduceCtorEq] at hd
  all_goals
    cases hd
    simp [w_by_names, wDc, wipeR, restR, wRet, wRetN, wAndV, wOrV, wNotV, wF, wCons, wNil, wV, wC, o1, o2, fIsi, fLen, fAll, fInt, fAbs, fII, fTup, fList, fSortA, fSort, wParG, put1, startR, R.fz, R.val, isiD, clsD, clsL, tyD, insOk, bodyPost, wSeq, wNext, wIfS, wT, w2, oAdd, oAddA, wNewT, wCallK, permL, wMakeK, oSub, oI, oIc, oMulW, oDivW, oMod, oPow, oLt, oLe, oGt, oGe, oEq, wIsN, D.isNon, wChain, wIf, wFld, wTup, wLst, shs, wSet, wOwn, wPar, wPar3, wCall, wMake, wMeth, wExpr, wAsgE, geT, geCons, geNil, geF, putD, wAsgT, gT, gsCons, gsNil, gN, iSeq, iOne, iRng, iZip, wNeg, wAnd, wOr, wNot, seqD, shs, oIx, oIxA, oIn, inD, wPut, setD, wGet2, wNewD, wYes, noX, dcD, blsD, eqD, shD, toPy, toPyL, PyData.eqv, PyData.eqvAll, SeqAt.shaped, PyData.canLay0, PyData.canLayAll0, PyData.depth, PyData.depthAll, and_assoc, sz1, sz2, sz3, kit_self, lookup_hd, lookup_tl, Int.natCast_inj, show ((0 : Nat) : Int) = 0 from rfl, kb_NoneType_bool, kb_NoneType_int, kb_NoneType_str, kb_NoneType_list, kb_NoneType_tuple, kb_NoneType_dict, kb_bool_bool, kb_bool_int, kb_bool_str, kb_bool_list, kb_bool_tuple, kb_bool_dict, kb_int_bool, kb_int_int, kb_int_str, kb_int_list, kb_int_tuple, kb_int_dict, kb_str_bool, kb_str_int, kb_str_str, kb_str_list, kb_str_tuple, kb_str_dict, kb_list_bool, kb_list_int, kb_list_str, kb_list_list, kb_list_tuple, kb_list_dict, kb_tuple_bool, kb_tuple_int, kb_tuple_str, kb_tuple_list, kb_tuple_tuple, kb_tuple_dict, kb_dict_bool, kb_dict_int, kb_dict_str, kb_dict_list, kb_dict_tuple, kb_dict_dict]
    refine dcL_map (fk := fun d => match d with | .ins _ fs => (fs.lookup (Str.ofString "name")).getD .non | _ => .non) (fv := id) (kk := fun d => match d with | .ins _ fs => (match fs.lookup (Str.ofString "name") with | some (.str z) => .inr z | _ => .inl 0) | _ => .inl 0) rfl (fun d hd => ?_) (fun d hd P PX h => ?_) (fun d hd P PX h => ?_) ?_
    · obtain ⟨t, ht, rfl⟩ := List.mem_map.mp hd
      simp [tabD, lookup_hd, keyD]
    · obtain ⟨t, ht, rfl⟩ := List.mem_map.mp hd
      simp [tabD, lookup_hd] at h
      simpa [tabD, T.k_Table, T.n_Table_name, wRet, wRetN, wAndV, wOrV, wNotV, wF, wCons, wNil, wV, wC, o1, o2, fIsi, fLen, fAll, fInt, fAbs, fII, fTup, fList, fSortA, fSort, wParG, put1, startR, R.fz, R.val, isiD, clsD, clsL, tyD, insOk, bodyPost, wSeq, wNext, wIfS, wT, w2, oAdd, oAddA, wNewT, wCallK, permL, wMakeK, oSub, oI, oIc, oMulW, oDivW, oMod, oPow, oLt, oLe, oGt, oGe, oEq, wIsN, D.isNon, wChain, wIf, wFld, wTup, wLst, shs, wSet, wOwn, wPar, wPar3, wCall, wMake, wMeth, wExpr, wAsgE, geT, geCons, geNil, geF, putD, wAsgT, gT, gsCons, gsNil, gN, iSeq, iOne, iRng, iZip, wNeg, wAnd, wOr, wNot, seqD, shs, oIx, oIxA, oIn, inD, wPut, setD, wGet2, wNewD, wYes, noX, dcD, blsD, eqD, shD, toPy, toPyL, PyData.eqv, PyData.eqvAll, SeqAt.shaped, PyData.canLay0, PyData.canLayAll0, PyData.depth, PyData.depthAll, and_assoc, sz1, sz2, sz3, kit_self, lookup_hd, lookup_tl, Int.natCast_inj, show ((0 : Nat) : Int) = 0 from rfl, kb_NoneType_bool, kb_NoneType_int, kb_NoneType_str, kb_NoneType_list, kb_NoneType_tuple, kb_NoneType_dict, kb_bool_bool, kb_bool_int, kb_bool_str, kb_bool_list, kb_bool_tuple, kb_bool_dict, kb_int_bool, kb_int_int, kb_int_str, kb_int_list, kb_int_tuple, kb_int_dict, kb_str_bool, kb_str_int, kb_str_str, kb_str_list, kb_str_tuple, kb_str_dict, kb_list_bool, kb_list_int, kb_list_str, kb_list_list, kb_list_tuple, kb_list_dict, kb_tuple_bool, kb_tuple_int, kb_tuple_str, kb_tuple_list, kb_tuple_tuple, kb_tuple_dict, kb_dict_bool, kb_dict_int, kb_dict_str, kb_dict_list, kb_dict_tuple, kb_dict_dict] using h
    · simpa [wRet, wRetN, wAndV, wOrV, wNotV, wF, wCons, wNil, wV, wC, o1, o2, fIsi, fLen, fAll, fInt, fAbs, fII, fTup, fList, fSortA, fSort, wParG, put1, startR, R.fz, R.val, isiD, clsD, clsL, tyD, insOk, bodyPost, wSeq, wNext, wIfS, wT, w2, oAdd, oAddA, wNewT, wCallK, permL, wMakeK, oSub, oI, oIc, oMulW, oDivW, oMod, oPow, oLt, oLe, oGt, oGe, oEq, wIsN, D.isNon, wChain, wIf, wFld, wTup, wLst, shs, wSet, wOwn, wPar, wPar3, wCall, wMake, wMeth, wExpr, wAsgE, geT, geCons, geNil, geF, putD, wAsgT, gT, gsCons, gsNil, gN, iSeq, iOne, iRng, iZip, wNeg, wAnd, wOr, wNot, seqD, shs, oIx, oIxA, oIn, inD, wPut, setD, wGet2, wNewD, wYes, noX, dcD, blsD, eqD, shD, toPy, toPyL, PyData.eqv, PyData.eqvAll, SeqAt.shaped, PyData.canLay0, PyData.canLayAll0, PyData.depth, PyData.depthAll, and_assoc, sz1, sz2, sz3, kit_self, lookup_hd, lookup_tl, Int.natCast_inj, show ((0 : Nat) : Int) = 0 from rfl, kb_NoneType_bool, kb_NoneType_int, kb_NoneType_str, kb_NoneType_list, kb_NoneType_tuple, kb_NoneType_dict, kb_bool_bool, kb_bool_int, kb_bool_str, kb_bool_list, kb_bool_tuple, kb_bool_dict, kb_int_bool, kb_int_int, kb_int_str, kb_int_list, kb_int_tuple, kb_int_dict, kb_str_bool, kb_str_int, kb_str_str, kb_str_list, kb_str_tuple, kb_str_dict, kb_list_bool, kb_list_int, kb_list_str, kb_list_list, kb_list_tuple, kb_list_dict, kb_tuple_bool, kb_tuple_int, kb_tuple_str, kb_tuple_list, kb_tuple_tuple, kb_tuple_dict, kb_dict_bool, kb_dict_int, kb_dict_str, kb_dict_list, kb_dict_tuple, kb_dict_dict] using h
    · have ef : ((ts.map (tabD C)).foldl (fun a d => putKD a ((match d with | .ins _ fs => (match fs.lookup (Str.ofString "name") with | some (.str z) => .inr z | _ => .inl 0) | _ => .inl 0) : Key) (id d)) ([] : List (Key × D))) = namesD C ts := by
        rw [List.foldl_map]
        simp only [tabD, lookup_hd, id]
        exact fold_names C (tabD C) nd
      rw [ef]
      simpa [wRet, wRetN, wAndV, wOrV, wNotV, wF, wCons, wNil, wV, wC, o1, o2, fIsi, fLen, fAll, fInt, fAbs, fII, fTup, fList, fSortA, fSort, wParG, put1, startR, R.fz, R.val, isiD, clsD, clsL, tyD, insOk, bodyPost, wSeq, wNext, wIfS, wT, w2, oAdd, oAddA, wNewT, wCallK, permL, wMakeK, oSub, oI, oIc, oMulW, oDivW, oMod, oPow, oLt, oLe, oGt, oGe, oEq, wIsN, D.isNon, wChain, wIf, wFld, wTup, wLst, shs, wSet, wOwn, wPar, wPar3, wCall, wMake, wMeth, wExpr, wAsgE, geT, geCons, geNil, geF, putD, wAsgT, gT, gsCons, gsNil, gN, iSeq, iOne, iRng, iZip, wNeg, wAnd, wOr, wNot, seqD, shs, oIx, oIxA, oIn, inD, wPut, setD, wGet2, wNewD, wYes, noX, dcD, blsD, eqD, shD, toPy, toPyL, PyData.eqv, PyData.eqvAll, SeqAt.shaped, PyData.canLay0, PyData.canLayAll0, PyData.depth, PyData.depthAll, and_assoc, sz1, sz2, sz3, kit_self, lookup_hd, lookup_tl, Int.natCast_inj, show ((0 : Nat) : Int) = 0 from rfl, kb_NoneType_bool, kb_NoneType_int, kb_NoneType_str, kb_NoneType_list, kb_NoneType_tuple, kb_NoneType_dict, kb_bool_bool, kb_bool_int, kb_bool_str, kb_bool_list, kb_bool_tuple, kb_bool_dict, kb_int_bool, kb_int_int, kb_int_str, kb_int_list, kb_int_tuple, kb_int_dict, kb_str_bool, kb_str_int, kb_str_str, kb_str_list, kb_str_tuple, kb_str_dict, kb_list_bool, kb_list_int, kb_list_str, kb_list_list, kb_list_tuple, kb_list_dict, kb_tuple_bool, kb_tuple_int, kb_tuple_str, kb_tuple_list, kb_tuple_tuple, kb_tuple_dict, kb_dict_bool, kb_dict_int, kb_dict_str, kb_dict_list, kb_dict_tuple, kb_dict_dict] using hp
theorem l_World_index (T : Txt K mg C) (h : Φ_World_index K C rs os P PX) : w_World_index K C ⟨startR ["self", "name", "at", "table"] rs, os⟩ (bodyPost os.length P PX) := by
  obtain ⟨ts, wr, i, t, rfl, hi, nd, h0, hp⟩ := h
  have ht := h0 t (List.mem_of_getElem? hi)
  simp only [worldD]
  simp [w_World_index, wFor, T.k_World, T.n_World_tables, wRet, wRetN, wAndV, wOrV, wNotV, wF, wCons, wNil, wV, wC, o1, o2, fIsi, fLen, fAll, fInt, fAbs, fII, fTup, fList, fSortA, fSort, wParG, put1, startR, R.fz, R.val, isiD, clsD, clsL, tyD, insOk, bodyPost, wSeq, wNext, wIfS, wT, w2, oAdd, oAddA, wNewT, wCallK, permL, wMakeK, oSub, oI, oIc, oMulW, oDivW, oMod, oPow, oLt, oLe, oGt, oGe, oEq, wIsN, D.isNon, wChain, wIf, wFld, wTup, wLst, shs, wSet, wOwn, wPar, wPar3, wCall, wMake, wMeth, wExpr, wAsgE, geT, geCons, geNil, geF, putD, wAsgT, gT, gsCons, gsNil, gN, iSeq, iOne, iRng, iZip, wNeg, wAnd, wOr, wNot, seqD, shs, oIx, oIxA, oIn, inD, wPut, setD, wGet2, wNewD, wYes, noX, dcD, blsD, eqD, shD, toPy, toPyL, PyData.eqv, PyData.eqvAll, SeqAt.shaped, PyData.canLay0, PyData.canLayAll0, PyData.depth, PyData.depthAll, and_assoc, sz1, sz2, sz3, kit_self, lookup_hd, lookup_tl, Int.natCast_inj, show ((0 : Nat) : Int) = 0 from rfl, kb_NoneType_bool, kb_NoneType_int, kb_NoneType_str, kb_NoneType_list, kb_NoneType_tuple, kb_NoneType_dict, kb_bool_bool, kb_bool_int, kb_bool_str, kb_bool_list, kb_bool_tuple, kb_bool_dict, kb_int_bool, kb_int_int, kb_int_str, kb_int_list, kb_int_tuple, kb_int_dict, kb_str_bool, kb_str_int, kb_str_str, kb_str_list, kb_str_tuple, kb_str_dict, kb_list_bool, kb_list_int, kb_list_str, kb_list_list, kb_list_tuple, kb_list_dict, kb_tuple_bool, kb_tuple_int, kb_tuple_str, kb_tuple_list, kb_tuple_tuple, kb_tuple_dict, kb_dict_bool, kb_dict_int, kb_dict_str, kb_dict_list, kb_dict_tuple, kb_dict_dict]
  refine loop_inv (fun ds en => ∃ (j : Nat) (q1 q2 : Option R), j ≤ i ∧ ds = enumD j ((ts.map (tabD C)).drop j) ∧ en = ⟨[some (.sh (worldD C ts wr)), some (.sh (.str t.1)), q1, q2], os⟩) ?_ ?_ _ _ ⟨0, none, none, Nat.zero_le _, rfl, rfl⟩
  · rintro en ⟨j, q1, q2, hj, e, rfl⟩
    have hl := (List.getElem?_eq_some_iff.mp hi).1
    have : ((ts.map (tabD C)).drop j).length = 0 := by
      rw [← enumD_len _ j, ← e]; rfl
    rw [List.length_drop, List.length_map] at this
    omega
  · rintro d ds en ⟨j, q1, q2, hj, e, rfl⟩
    have hl := (List.getElem?_eq_some_iff.mp hi).1
    have hjl : j < (ts.map (tabD C)).length := by rw [List.length_map]; omega
    rw [List.drop_eq_getElem_cons hjl] at e
    simp only [enumD, List.cons.injEq] at e
    obtain ⟨rfl, rfl⟩ := e
    refine ⟨_, rfl, fun N hN => ?_⟩
    have hj2 : j < ts.length := by rwa [List.length_map] at hjl
    have hs := h0 ts[j] (List.getElem_mem hj2)
    rw [List.getElem_map]
    simp only [tabD]
    simp [T.k_Table, T.n_Table_name, ht, hs, wRet, wRetN, wAndV, wOrV, wNotV, wF, wCons, wNil, wV, wC, o1, o2, fIsi, fLen, fAll, fInt, fAbs, fII, fTup, fList, fSortA, fSort, wParG, put1, startR, R.fz, R.val, isiD, clsD, clsL, tyD, insOk, bodyPost, wSeq, wNext, wIfS, wT, w2, oAdd, oAddA, wNewT, wCallK, permL, wMakeK, oSub, oI, oIc, oMulW, oDivW, oMod, oPow, oLt, oLe, oGt, oGe, oEq, wIsN, D.isNon, wChain, wIf, wFld, wTup, wLst, shs, wSet, wOwn, wPar, wPar3, wCall, wMake, wMeth, wExpr, wAsgE, geT, geCons, geNil, geF, putD, wAsgT, gT, gsCons, gsNil, gN, iSeq, iOne, iRng, iZip, wNeg, wAnd, wOr, wNot, seqD, shs, oIx, oIxA, oIn, inD, wPut, setD, wGet2, wNewD, wYes, noX, dcD, blsD, eqD, shD, toPy, toPyL, PyData.eqv, PyData.eqvAll, SeqAt.shaped, PyData.canLay0, PyData.canLayAll0, PyData.depth, PyData.depthAll, and_assoc, sz1, sz2, sz3, kit_self, lookup_hd, lookup_tl, Int.natCast_inj, show ((0 : Nat) : Int) = 0 from rfl, kb_NoneType_bool, kb_NoneType_int, kb_NoneType_str, kb_NoneType_list, kb_NoneType_tuple, kb_NoneType_dict, kb_bool_bool, kb_bool_int, kb_bool_str, kb_bool_list, kb_bool_tuple, kb_bool_dict, kb_int_bool, kb_int_int, kb_int_str, kb_int_list, kb_int_tuple, kb_int_dict, kb_str_bool, kb_str_int, kb_str_str, kb_str_list, kb_str_tuple, kb_str_dict, kb_list_bool, kb_list_int, kb_list_str, kb_list_list, kb_list_tuple, kb_list_dict, kb_tuple_bool, kb_tuple_int, kb_tuple_str, kb_tuple_list, kb_tuple_tuple, kb_tuple_dict, kb_dict_bool, kb_dict_int, kb_dict_str, kb_dict_list, kb_dict_tuple, kb_dict_dict]
    by_cases eq : j = i
    · subst eq
      have : ts[j] = t := (List.getElem?_eq_some_iff.mp hi).2
      rw [this]
      simpa using hp
    · have ne : ¬ ts[j].1 = t.1 := fun q => by
        have e1 : (ts.map (·.1))[j]'(by rw [List.length_map]; exact hj2) = (ts.map (·.1))[i]'(by rw [List.length_map]; exact hl) := by
          rw [List.getElem_map, List.getElem_map, q, ← (List.getElem?_eq_some_iff.mp hi).2]
        exact eq ((List.getElem_inj nd).mp e1)
      have := hN _ ⟨j + 1, some (.sh (.int j)), some (.sh (tabD C ts[j])), by omega, rfl, rfl⟩
      have ne2 : (ts[j].1 == t.1) = false := beq_eq_false_iff_ne.mpr ne
      rw [ne2]
      simpa [tabD] using this
theorem get_names (C : Cs) {u : Str × Int} : ∀ {ts : List (Str × Int)}, (ts.map (·.1)).Nodup → u ∈ ts → getKD (namesD C ts) (.inr u.1) = some (tabD C u)
  | t :: ts, nd, h => by
    rw [List.map_cons, List.nodup_cons] at nd
    unfold getKD namesD
    rw [List.map_cons, List.find?_cons]
    rcases List.mem_cons.mp h with rfl | h
    · simp
    · have ne : ¬ t.1 = u.1 := fun e => nd.1 (by rw [e]; exact List.mem_map.mpr ⟨u, h, rfl⟩)
      have := get_names C nd.2 h
      unfold getKD namesD at this
      have e : decide ((Sum.inr t.1 : Key) = Sum.inr u.1) = false := by simp [ne]
      simp only [e]
      exact this
theorem l_need_tables (T : Txt K mg C) (h : Φ_need_tables K C rs os P PX) : w_need_tables K C ⟨startR ["world", "tables", "there", "one"] rs, os⟩ (bodyPost os.length P PX) := by
  obtain ⟨ts, wr, us, rfl, nd, h0, hu, hp⟩ := h
  simp only [worldD]
  simp [w_need_tables, T.k_World, T.n_World_tables, wRet, wRetN, wAndV, wOrV, wNotV, wF, wCons, wNil, wV, wC, o1, o2, fIsi, fLen, fAll, fInt, fAbs, fII, fTup, fList, fSortA, fSort, wParG, put1, startR, R.fz, R.val, isiD, clsD, clsL, tyD, insOk, bodyPost, wSeq, wNext, wIfS, wT, w2, oAdd, oAddA, wNewT, wCallK, permL, wMakeK, oSub, oI, oIc, oMulW, oDivW, oMod, oPow, oLt, oLe, oGt, oGe, oEq, wIsN, D.isNon, wChain, wIf, wFld, wTup, wLst, shs, wSet, wOwn, wPar, wPar3, wCall, wMake, wMeth, wExpr, wAsgE, geT, geCons, geNil, geF, putD, wAsgT, gT, gsCons, gsNil, gN, iSeq, iOne, iRng, iZip, wNeg, wAnd, wOr, wNot, seqD, shs, oIx, oIxA, oIn, inD, wPut, setD, wGet2, wNewD, wYes, noX, dcD, blsD, eqD, shD, toPy, toPyL, PyData.eqv, PyData.eqvAll, SeqAt.shaped, PyData.canLay0, PyData.canLayAll0, PyData.depth, PyData.depthAll, and_assoc, sz1, sz2, sz3, kit_self, lookup_hd, lookup_tl, Int.natCast_inj, show ((0 : Nat) : Int) = 0 from rfl, kb_NoneType_bool, kb_NoneType_int, kb_NoneType_str, kb_NoneType_list, kb_NoneType_tuple, kb_NoneType_dict, kb_bool_bool, kb_bool_int, kb_bool_str, kb_bool_list, kb_bool_tuple, kb_bool_dict, kb_int_bool, kb_int_int, kb_int_str, kb_int_list, kb_int_tuple, kb_int_dict, kb_str_bool, kb_str_int, kb_str_str, kb_str_list, kb_str_tuple, kb_str_dict, kb_list_bool, kb_list_int, kb_list_str, kb_list_list, kb_list_tuple, kb_list_dict, kb_tuple_bool, kb_tuple_int, kb_tuple_str, kb_tuple_list, kb_tuple_tuple, kb_tuple_dict, kb_dict_bool, kb_dict_int, kb_dict_str, kb_dict_list, kb_dict_tuple, kb_dict_dict]
  refine ⟨_, ts, rfl, rfl, nd, ?_⟩
  simp [wLc, wipeR, restR, wRet, wRetN, wAndV, wOrV, wNotV, wF, wCons, wNil, wV, wC, o1, o2, fIsi, fLen, fAll, fInt, fAbs, fII, fTup, fList, fSortA, fSort, wParG, put1, startR, R.fz, R.val, isiD, clsD, clsL, tyD, insOk, bodyPost, wSeq, wNext, wIfS, wT, w2, oAdd, oAddA, wNewT, wCallK, permL, wMakeK, oSub, oI, oIc, oMulW, oDivW, oMod, oPow, oLt, oLe, oGt, oGe, oEq, wIsN, D.isNon, wChain, wIf, wFld, wTup, wLst, shs, wSet, wOwn, wPar, wPar3, wCall, wMake, wMeth, wExpr, wAsgE, geT, geCons, geNil, geF, putD, wAsgT, gT, gsCons, gsNil, gN, iSeq, iOne, iRng, iZip, wNeg, wAnd, wOr, wNot, seqD, shs, oIx, oIxA, oIn, inD, wPut, setD, wGet2, wNewD, wYes, noX, dcD, blsD, eqD, shD, toPy, toPyL, PyData.eqv, PyData.eqvAll, SeqAt.shaped, PyData.canLay0, PyData.canLayAll0, PyData.depth, PyData.depthAll, and_assoc, sz1, sz2, sz3, kit_self, lookup_hd, lookup_tl, Int.natCast_inj, show ((0 : Nat) : Int) = 0 from rfl, kb_NoneType_bool, kb_NoneType_int, kb_NoneType_str, kb_NoneType_list, kb_NoneType_tuple, kb_NoneType_dict, kb_bool_bool, kb_bool_int, kb_bool_str, kb_bool_list, kb_bool_tuple, kb_bool_dict, kb_int_bool, kb_int_int, kb_int_str, kb_int_list, kb_int_tuple, kb_int_dict, kb_str_bool, kb_str_int, kb_str_str, kb_str_list, kb_str_tuple, kb_str_dict, kb_list_bool, kb_list_int, kb_list_str, kb_list_list, kb_list_tuple, kb_list_dict, kb_tuple_bool, kb_tuple_int, kb_tuple_str, kb_tuple_list, kb_tuple_tuple, kb_tuple_dict, kb_dict_bool, kb_dict_int, kb_dict_str, kb_dict_list, kb_dict_tuple, kb_dict_dict]
  refine lcL_map (f := fun _ => .bl true) rfl (fun d hd P PX h => ?_) ?_
  · obtain ⟨u, hm, rfl⟩ := List.mem_map.mp hd
    have g := get_names C nd (hu u hm)
    have hs := h0 u (hu u hm)
    simp only [tabD] at g ⊢
    simp [getD2, keyD, g, T.k_Table, T.n_Table_name, oOwn, T.i_Table, PySem.W.notFirst, wRet, wRetN, wAndV, wOrV, wNotV, wF, wCons, wNil, wV, wC, o1, o2, fIsi, fLen, fAll, fInt, fAbs, fII, fTup, fList, fSortA, fSort, wParG, put1, startR, R.fz, R.val, isiD, clsD, clsL, tyD, insOk, bodyPost, wSeq, wNext, wIfS, wT, w2, oAdd, oAddA, wNewT, wCallK, permL, wMakeK, oSub, oI, oIc, oMulW, oDivW, oMod, oPow, oLt, oLe, oGt, oGe, oEq, wIsN, D.isNon, wChain, wIf, wFld, wTup, wLst, shs, wSet, wOwn, wPar, wPar3, wCall, wMake, wMeth, wExpr, wAsgE, geT, geCons, geNil, geF, putD, wAsgT, gT, gsCons, gsNil, gN, iSeq, iOne, iRng, iZip, wNeg, wAnd, wOr, wNot, seqD, shs, oIx, oIxA, oIn, inD, wPut, setD, wGet2, wNewD, wYes, noX, dcD, blsD, eqD, shD, toPy, toPyL, PyData.eqv, PyData.eqvAll, SeqAt.shaped, PyData.canLay0, PyData.canLayAll0, PyData.depth, PyData.depthAll, and_assoc, sz1, sz2, sz3, kit_self, lookup_hd, lookup_tl, Int.natCast_inj, show ((0 : Nat) : Int) = 0 from rfl, kb_NoneType_bool, kb_NoneType_int, kb_NoneType_str, kb_NoneType_list, kb_NoneType_tuple, kb_NoneType_dict, kb_bool_bool, kb_bool_int, kb_bool_str, kb_bool_list, kb_bool_tuple, kb_bool_dict, kb_int_bool, kb_int_int, kb_int_str, kb_int_list, kb_int_tuple, kb_int_dict, kb_str_bool, kb_str_int, kb_str_str, kb_str_list, kb_str_tuple, kb_str_dict, kb_list_bool, kb_list_int, kb_list_str, kb_list_list, kb_list_tuple, kb_list_dict, kb_tuple_bool, kb_tuple_int, kb_tuple_str, kb_tuple_list, kb_tuple_tuple, kb_tuple_dict, kb_dict_bool, kb_dict_int, kb_dict_str, kb_dict_list, kb_dict_tuple, kb_dict_dict]
    exact ⟨u, u, rfl, hs, hs, by simpa [tabD] using h⟩
  · have e3 : (us.map (tabD C)).map (fun _ => D.bl true) = (us.map fun _ => true).map D.bl := by rw [List.map_map, List.map_map]; rfl
    have e4 : ((us.map fun _ => true).all id) = true := by simp
    simp only [List.nil_append, e3, blsD_map, e4]
    simpa [wRet, wRetN, wAndV, wOrV, wNotV, wF, wCons, wNil, wV, wC, o1, o2, fIsi, fLen, fAll, fInt, fAbs, fII, fTup, fList, fSortA, fSort, wParG, put1, startR, R.fz, R.val, isiD, clsD, clsL, tyD, insOk, bodyPost, wSeq, wNext, wIfS, wT, w2, oAdd, oAddA, wNewT, wCallK, permL, wMakeK, oSub, oI, oIc, oMulW, oDivW, oMod, oPow, oLt, oLe, oGt, oGe, oEq, wIsN, D.isNon, wChain, wIf, wFld, wTup, wLst, shs, wSet, wOwn, wPar, wPar3, wCall, wMake, wMeth, wExpr, wAsgE, geT, geCons, geNil, geF, putD, wAsgT, gT, gsCons, gsNil, gN, iSeq, iOne, iRng, iZip, wNeg, wAnd, wOr, wNot, seqD, shs, oIx, oIxA, oIn, inD, wPut, setD, wGet2, wNewD, wYes, noX, dcD, blsD, eqD, shD, toPy, toPyL, PyData.eqv, PyData.eqvAll, SeqAt.shaped, PyData.canLay0, PyData.canLayAll0, PyData.depth, PyData.depthAll, and_assoc, sz1, sz2, sz3, kit_self, lookup_hd, lookup_tl, Int.natCast_inj, show ((0 : Nat) : Int) = 0 from rfl, kb_NoneType_bool, kb_NoneType_int, kb_NoneType_str, kb_NoneType_list, kb_NoneType_tuple, kb_NoneType_dict, kb_bool_bool, kb_bool_int, kb_bool_str, kb_bool_list, kb_bool_tuple, kb_bool_dict, kb_int_bool, kb_int_int, kb_int_str, kb_int_list, kb_int_tuple, kb_int_dict, kb_str_bool, kb_str_int, kb_str_str, kb_str_list, kb_str_tuple, kb_str_dict, kb_list_bool, kb_list_int, kb_list_str, kb_list_list, kb_list_tuple, kb_list_dict, kb_tuple_bool, kb_tuple_int, kb_tuple_str, kb_tuple_list, kb_tuple_tuple, kb_tuple_dict, kb_dict_bool, kb_dict_int, kb_dict_str, kb_dict_list, kb_dict_tuple, kb_dict_dict] using hp
end
end L2.TL.W

/-! text K07c -/
set_option Elab.async false
set_option linter.all false
set_option maxRecDepth 100000
set_option maxHeartbeats 4000000
namespace L2.TL.W
open PySem PySem.Spec PyProof.Rows L2.TL
section
variable {K : PySem.W.Frag} {mg : Str → Option Value} {C : Cs} {rs : List R} {os : Os} {P : R → Os → Prop} {PX : Er → Os → Prop}
theorem l_common_part (h : Φ_common_part K C rs os P PX) : w_common_part K C ⟨startR ["one", "other"] rs, os⟩ (bodyPost os.length P PX) := by
  obtain ⟨a, b, rfl, h1, hp⟩ := h
  simp [w_common_part, wWhile, wRet, wRetN, wAndV, wOrV, wNotV, wF, wCons, wNil, wV, wC, o1, o2, fIsi, fLen, fAll, fInt, fAbs, fII, fTup, fList, fSortA, fSort, wParG, put1, startR, R.fz, R.val, isiD, clsD, clsL, tyD, insOk, bodyPost, wSeq, wNext, wIfS, wT, w2, oAdd, oAddA, wNewT, wCallK, permL, wMakeK, oSub, oI, oIc, oMulW, oDivW, oMod, oPow, oLt, oLe, oGt, oGe, oEq, wIsN, D.isNon, wChain, wIf, wFld, wTup, wLst, shs, wSet, wOwn, wPar, wPar3, wCall, wMake, wMeth, wExpr, wAsgE, geT, geCons, geNil, geF, putD, wAsgT, gT, gsCons, gsNil, gN, iSeq, iOne, iRng, iZip, wNeg, wAnd, wOr, wNot, seqD, shs, oIx, oIxA, oIn, inD, wPut, setD, wGet2, wNewD, wYes, noX, dcD, blsD, eqD, shD, toPy, toPyL, PyData.eqv, PyData.eqvAll, SeqAt.shaped, PyData.canLay0, PyData.canLayAll0, PyData.depth, PyData.depthAll, and_assoc, sz1, sz2, sz3, kit_self, lookup_hd, lookup_tl, Int.natCast_inj, show ((0 : Nat) : Int) = 0 from rfl, kb_NoneType_bool, kb_NoneType_int, kb_NoneType_str, kb_NoneType_list, kb_NoneType_tuple, kb_NoneType_dict, kb_bool_bool, kb_bool_int, kb_bool_str, kb_bool_list, kb_bool_tuple, kb_bool_dict, kb_int_bool, kb_int_int, kb_int_str, kb_int_list, kb_int_tuple, kb_int_dict, kb_str_bool, kb_str_int, kb_str_str, kb_str_list, kb_str_tuple, kb_str_dict, kb_list_bool, kb_list_int, kb_list_str, kb_list_list, kb_list_tuple, kb_list_dict, kb_tuple_bool, kb_tuple_int, kb_tuple_str, kb_tuple_list, kb_tuple_tuple, kb_tuple_dict, kb_dict_bool, kb_dict_int, kb_dict_str, kb_dict_list, kb_dict_tuple, kb_dict_dict]
  refine ⟨b + 1, wh_inv (fun m en => ∃ x : Nat, en = ⟨[some (.sh (.int x)), some (.sh (.int m))], os⟩ ∧ 1 ≤ x ∧ Nat.gcd x m = Nat.gcd a b) ?_ (b + 1) b _ (by omega) ⟨a, rfl, h1, rfl⟩⟩
  rintro m en ⟨x, rfl, hx, hg⟩ W hW
  simp [wRet, wRetN, wAndV, wOrV, wNotV, wF, wCons, wNil, wV, wC, o1, o2, fIsi, fLen, fAll, fInt, fAbs, fII, fTup, fList, fSortA, fSort, wParG, put1, startR, R.fz, R.val, isiD, clsD, clsL, tyD, insOk, bodyPost, wSeq, wNext, wIfS, wT, w2, oAdd, oAddA, wNewT, wCallK, permL, wMakeK, oSub, oI, oIc, oMulW, oDivW, oMod, oPow, oLt, oLe, oGt, oGe, oEq, wIsN, D.isNon, wChain, wIf, wFld, wTup, wLst, shs, wSet, wOwn, wPar, wPar3, wCall, wMake, wMeth, wExpr, wAsgE, geT, geCons, geNil, geF, putD, wAsgT, gT, gsCons, gsNil, gN, iSeq, iOne, iRng, iZip, wNeg, wAnd, wOr, wNot, seqD, shs, oIx, oIxA, oIn, inD, wPut, setD, wGet2, wNewD, wYes, noX, dcD, blsD, eqD, shD, toPy, toPyL, PyData.eqv, PyData.eqvAll, SeqAt.shaped, PyData.canLay0, PyData.canLayAll0, PyData.depth, PyData.depthAll, and_assoc, sz1, sz2, sz3, kit_self, lookup_hd, lookup_tl, Int.natCast_inj, show ((0 : Nat) : Int) = 0 from rfl, kb_NoneType_bool, kb_NoneType_int, kb_NoneType_str, kb_NoneType_list, kb_NoneType_tuple, kb_NoneType_dict, kb_bool_bool, kb_bool_int, kb_bool_str, kb_bool_list, kb_bool_tuple, kb_bool_dict, kb_int_bool, kb_int_int, kb_int_str, kb_int_list, kb_int_tuple, kb_int_dict, kb_str_bool, kb_str_int, kb_str_str, kb_str_list, kb_str_tuple, kb_str_dict, kb_list_bool, kb_list_int, kb_list_str, kb_list_list, kb_list_tuple, kb_list_dict, kb_tuple_bool, kb_tuple_int, kb_tuple_str, kb_tuple_list, kb_tuple_tuple, kb_tuple_dict, kb_dict_bool, kb_dict_int, kb_dict_str, kb_dict_list, kb_dict_tuple, kb_dict_dict]
  cases m with
  | zero =>
    simp [wRet, wRetN, wAndV, wOrV, wNotV, wF, wCons, wNil, wV, wC, o1, o2, fIsi, fLen, fAll, fInt, fAbs, fII, fTup, fList, fSortA, fSort, wParG, put1, startR, R.fz, R.val, isiD, clsD, clsL, tyD, insOk, bodyPost, wSeq, wNext, wIfS, wT, w2, oAdd, oAddA, wNewT, wCallK, permL, wMakeK, oSub, oI, oIc, oMulW, oDivW, oMod, oPow, oLt, oLe, oGt, oGe, oEq, wIsN, D.isNon, wChain, wIf, wFld, wTup, wLst, shs, wSet, wOwn, wPar, wPar3, wCall, wMake, wMeth, wExpr, wAsgE, geT, geCons, geNil, geF, putD, wAsgT, gT, gsCons, gsNil, gN, iSeq, iOne, iRng, iZip, wNeg, wAnd, wOr, wNot, seqD, shs, oIx, oIxA, oIn, inD, wPut, setD, wGet2, wNewD, wYes, noX, dcD, blsD, eqD, shD, toPy, toPyL, PyData.eqv, PyData.eqvAll, SeqAt.shaped, PyData.canLay0, PyData.canLayAll0, PyData.depth, PyData.depthAll, and_assoc, sz1, sz2, sz3, kit_self, lookup_hd, lookup_tl, Int.natCast_inj, show ((0 : Nat) : Int) = 0 from rfl, kb_NoneType_bool, kb_NoneType_int, kb_NoneType_str, kb_NoneType_list, kb_NoneType_tuple, kb_NoneType_dict, kb_bool_bool, kb_bool_int, kb_bool_str, kb_bool_list, kb_bool_tuple, kb_bool_dict, kb_int_bool, kb_int_int, kb_int_str, kb_int_list, kb_int_tuple, kb_int_dict, kb_str_bool, kb_str_int, kb_str_str, kb_str_list, kb_str_tuple, kb_str_dict, kb_list_bool, kb_list_int, kb_list_str, kb_list_list, kb_list_tuple, kb_list_dict, kb_tuple_bool, kb_tuple_int, kb_tuple_str, kb_tuple_list, kb_tuple_tuple, kb_tuple_dict, kb_dict_bool, kb_dict_int, kb_dict_str, kb_dict_list, kb_dict_tuple, kb_dict_dict]
    have e : x = Nat.gcd a b := by rw [← hg, Nat.gcd_zero_right]
    have e2 : (if (1 : Int) > (x : Int) then (1 : Int) else (x : Int)) = (x : Int) := by rw [if_neg]; omega
    rw [← e] at hp
    first
      | simpa [e2] using hp
      | (rw [if_neg (by omega)]; simpa using hp)
  | succ m =>
    rw [show decide (0 < m + 1) = true from by simp]
    refine ⟨by omega, hW (x % (m + 1)) _ (Nat.mod_lt _ (by omega)) ⟨m + 1, ?_, by omega, ?_⟩⟩
    · simp [Int.natCast_emod]
    · rw [← hg, Nat.gcd_comm (m + 1), ← Nat.gcd_rec, Nat.gcd_comm]
theorem pow_up {x a b : Nat} (h : a ≤ b) (ha : 0 < a) : x ^ a ≤ x ^ b := by
  rcases Nat.eq_zero_or_pos x with e | e
  · subst e; rw [Nat.zero_pow ha]; exact Nat.zero_le _
  · exact Nat.pow_le_pow_right e h
theorem cd2 (k : Nat) : CDivW (k : Int) 2 := cdW (n := 2) (by omega) (by omega)
theorem pow_bits {n m : Nat} (h : n < 2 ^ 20) (hm : m ≤ 9999) : n ^ m < 2 ^ 200000 := by
  by_cases h0 : m = 0
  · subst h0; rw [Nat.pow_zero]; exact Nat.one_lt_two_pow (by omega)
  · calc n ^ m < (2 ^ 20) ^ m := Nat.pow_lt_pow_left h h0
      _ = 2 ^ (20 * m) := by rw [← Nat.pow_mul]
      _ ≤ 2 ^ 200000 := Nat.pow_le_pow_right (by omega) (by omega)
theorem mulOk {x y : Nat} {a b : Nat} (hx : x < 2 ^ a) (hy : y < 2 ^ b) (ha : 0 < a) (hb : 0 < b) (h : a + b ≤ 1000000) : IntMulOk (x : Int) (y : Int) := (wide_mul (by simpa using hx) (by simpa using hy) ha hb h).ok
theorem l_power (h : Φ_power K C rs os P PX) : w_power K C ⟨startR ["number", "many", "found"] rs, os⟩ (bodyPost os.length P PX) := by
  obtain ⟨n, m, rfl, h1, h2, hp⟩ := h
  simp [w_power, wWhile, wRet, wRetN, wAndV, wOrV, wNotV, wF, wCons, wNil, wV, wC, o1, o2, fIsi, fLen, fAll, fInt, fAbs, fII, fTup, fList, fSortA, fSort, wParG, put1, startR, R.fz, R.val, isiD, clsD, clsL, tyD, insOk, bodyPost, wSeq, wNext, wIfS, wT, w2, oAdd, oAddA, wNewT, wCallK, permL, wMakeK, oSub, oI, oIc, oMulW, oDivW, oMod, oPow, oLt, oLe, oGt, oGe, oEq, wIsN, D.isNon, wChain, wIf, wFld, wTup, wLst, shs, wSet, wOwn, wPar, wPar3, wCall, wMake, wMeth, wExpr, wAsgE, geT, geCons, geNil, geF, putD, wAsgT, gT, gsCons, gsNil, gN, iSeq, iOne, iRng, iZip, wNeg, wAnd, wOr, wNot, seqD, shs, oIx, oIxA, oIn, inD, wPut, setD, wGet2, wNewD, wYes, noX, dcD, blsD, eqD, shD, toPy, toPyL, PyData.eqv, PyData.eqvAll, SeqAt.shaped, PyData.canLay0, PyData.canLayAll0, PyData.depth, PyData.depthAll, and_assoc, sz1, sz2, sz3, kit_self, lookup_hd, lookup_tl, Int.natCast_inj, show ((0 : Nat) : Int) = 0 from rfl, kb_NoneType_bool, kb_NoneType_int, kb_NoneType_str, kb_NoneType_list, kb_NoneType_tuple, kb_NoneType_dict, kb_bool_bool, kb_bool_int, kb_bool_str, kb_bool_list, kb_bool_tuple, kb_bool_dict, kb_int_bool, kb_int_int, kb_int_str, kb_int_list, kb_int_tuple, kb_int_dict, kb_str_bool, kb_str_int, kb_str_str, kb_str_list, kb_str_tuple, kb_str_dict, kb_list_bool, kb_list_int, kb_list_str, kb_list_list, kb_list_tuple, kb_list_dict, kb_tuple_bool, kb_tuple_int, kb_tuple_str, kb_tuple_list, kb_tuple_tuple, kb_tuple_dict, kb_dict_bool, kb_dict_int, kb_dict_str, kb_dict_list, kb_dict_tuple, kb_dict_dict]
  refine ⟨m + 1, wh_inv (fun k en => ∃ x f : Nat, en = ⟨[some (.sh (.int x)), some (.sh (.int k)), some (.sh (.int f))], os⟩ ∧ f * x ^ k = n ^ m ∧ f < 2 ^ 200000 ∧ x < 2 ^ 200000 ∧ (0 < k → x ^ k < 2 ^ 200000)) ?_ (m + 1) m _ (by omega)
    ⟨n, 1, rfl, by simp, Nat.one_lt_two_pow (by omega), Nat.lt_of_lt_of_le h1 (Nat.pow_le_pow_right (by omega) (by omega)), fun _ => pow_bits h1 h2⟩⟩
  rintro k en ⟨x, f, rfl, hx, hf, hxx, hk⟩ W hW
  simp [wRet, wRetN, wAndV, wOrV, wNotV, wF, wCons, wNil, wV, wC, o1, o2, fIsi, fLen, fAll, fInt, fAbs, fII, fTup, fList, fSortA, fSort, wParG, put1, startR, R.fz, R.val, isiD, clsD, clsL, tyD, insOk, bodyPost, wSeq, wNext, wIfS, wT, w2, oAdd, oAddA, wNewT, wCallK, permL, wMakeK, oSub, oI, oIc, oMulW, oDivW, oMod, oPow, oLt, oLe, oGt, oGe, oEq, wIsN, D.isNon, wChain, wIf, wFld, wTup, wLst, shs, wSet, wOwn, wPar, wPar3, wCall, wMake, wMeth, wExpr, wAsgE, geT, geCons, geNil, geF, putD, wAsgT, gT, gsCons, gsNil, gN, iSeq, iOne, iRng, iZip, wNeg, wAnd, wOr, wNot, seqD, shs, oIx, oIxA, oIn, inD, wPut, setD, wGet2, wNewD, wYes, noX, dcD, blsD, eqD, shD, toPy, toPyL, PyData.eqv, PyData.eqvAll, SeqAt.shaped, PyData.canLay0, PyData.canLayAll0, PyData.depth, PyData.depthAll, and_assoc, sz1, sz2, sz3, kit_self, lookup_hd, lookup_tl, Int.natCast_inj, show ((0 : Nat) : Int) = 0 from rfl, kb_NoneType_bool, kb_NoneType_int, kb_NoneType_str, kb_NoneType_list, kb_NoneType_tuple, kb_NoneType_dict, kb_bool_bool, kb_bool_int, kb_bool_str, kb_bool_list, kb_bool_tuple, kb_bool_dict, kb_int_bool, kb_int_int, kb_int_str, kb_int_list, kb_int_tuple, kb_int_dict, kb_str_bool, kb_str_int, kb_str_str, kb_str_list, kb_str_tuple, kb_str_dict, kb_list_bool, kb_list_int, kb_list_str, kb_list_list, kb_list_tuple, kb_list_dict, kb_tuple_bool, kb_tuple_int, kb_tuple_str, kb_tuple_list, kb_tuple_tuple, kb_tuple_dict, kb_dict_bool, kb_dict_int, kb_dict_str, kb_dict_list, kb_dict_tuple, kb_dict_dict]
  cases k with
  | zero =>
    simp [wRet, wRetN, wAndV, wOrV, wNotV, wF, wCons, wNil, wV, wC, o1, o2, fIsi, fLen, fAll, fInt, fAbs, fII, fTup, fList, fSortA, fSort, wParG, put1, startR, R.fz, R.val, isiD, clsD, clsL, tyD, insOk, bodyPost, wSeq, wNext, wIfS, wT, w2, oAdd, oAddA, wNewT, wCallK, permL, wMakeK, oSub, oI, oIc, oMulW, oDivW, oMod, oPow, oLt, oLe, oGt, oGe, oEq, wIsN, D.isNon, wChain, wIf, wFld, wTup, wLst, shs, wSet, wOwn, wPar, wPar3, wCall, wMake, wMeth, wExpr, wAsgE, geT, geCons, geNil, geF, putD, wAsgT, gT, gsCons, gsNil, gN, iSeq, iOne, iRng, iZip, wNeg, wAnd, wOr, wNot, seqD, shs, oIx, oIxA, oIn, inD, wPut, setD, wGet2, wNewD, wYes, noX, dcD, blsD, eqD, shD, toPy, toPyL, PyData.eqv, PyData.eqvAll, SeqAt.shaped, PyData.canLay0, PyData.canLayAll0, PyData.depth, PyData.depthAll, and_assoc, sz1, sz2, sz3, kit_self, lookup_hd, lookup_tl, Int.natCast_inj, show ((0 : Nat) : Int) = 0 from rfl, kb_NoneType_bool, kb_NoneType_int, kb_NoneType_str, kb_NoneType_list, kb_NoneType_tuple, kb_NoneType_dict, kb_bool_bool, kb_bool_int, kb_bool_str, kb_bool_list, kb_bool_tuple, kb_bool_dict, kb_int_bool, kb_int_int, kb_int_str, kb_int_list, kb_int_tuple, kb_int_dict, kb_str_bool, kb_str_int, kb_str_str, kb_str_list, kb_str_tuple, kb_str_dict, kb_list_bool, kb_list_int, kb_list_str, kb_list_list, kb_list_tuple, kb_list_dict, kb_tuple_bool, kb_tuple_int, kb_tuple_str, kb_tuple_list, kb_tuple_tuple, kb_tuple_dict, kb_dict_bool, kb_dict_int, kb_dict_str, kb_dict_list, kb_dict_tuple, kb_dict_dict]
    rw [Nat.pow_zero, Nat.mul_one] at hx
    rw [hx]
    simpa using hp
  | succ k =>
    have hdiv : ((k + 1 : Nat) : Int) / 2 = (((k + 1) / 2 : Nat) : Int) := by omega
    have hmul : ∀ u v : Nat, (u : Int) * (v : Int) = ((u * v : Nat) : Int) := fun u v => (Int.natCast_mul u v).symm
    have hr : (k + 1) % 2 = 0 ∨ (k + 1) % 2 = 1 := by omega
    have e2 : x ^ (k + 1) = (x * x) ^ ((k + 1) / 2) * x ^ ((k + 1) % 2) := by
      rw [← Nat.pow_two, ← Nat.pow_mul, ← Nat.pow_add]
      congr 1
      omega
    have hk1 := hk (by omega)
    have hsq : 0 < (k + 1) / 2 → (x * x) ^ ((k + 1) / 2) < 2 ^ 200000 := fun h0 => by
      rw [← Nat.pow_two, ← Nat.pow_mul]
      exact Nat.lt_of_le_of_lt (pow_up (by omega) (by omega)) hk1
    have hxx2 : 0 < (k + 1) / 2 → x * x < 2 ^ 200000 := fun h0 => by
      rw [← Nat.pow_two]
      exact Nat.lt_of_le_of_lt (pow_up (by omega) (by omega)) hk1
    have hfx : f * x < 2 ^ 200000 := by
      refine Nat.lt_of_le_of_lt ?_ (pow_bits h1 h2)
      rw [← hx]
      exact Nat.mul_le_mul_left f (by have := pow_up (x := x) (a := 1) (b := k + 1) (by omega) (by omega); rwa [Nat.pow_one] at this)
    have mo : ∀ u v : Nat, u < 2 ^ 200000 → v < 2 ^ 200000 → IntMulOk (u : Int) (v : Int) := fun u v hu hv => mulOk hu hv (by omega) (by omega) (by omega)
    rw [show decide (0 < k + 1) = true from by simp]
    rcases hr with hr | hr
    · have em : (((k + 1 : Nat) : Int) % 2 == 1) = false := by
        rw [beq_eq_false_iff_ne]; omega
      simp only [em, hdiv, hmul]
      refine ⟨cd2 (k + 1), ?_⟩
      have hq : 0 < (k + 1) / 2 := by omega
      rw [show decide ((0 : Int) < (((k + 1) / 2 : Nat) : Int)) = true from by rw [decide_eq_true_eq]; omega]
      refine ⟨mo x x hxx hxx, hW ((k + 1) / 2) _ (by omega) ⟨x * x, f, rfl, ?_, hf, hxx2 hq, fun _ => hsq hq⟩⟩
      rw [hr, Nat.pow_zero, Nat.mul_one] at e2
      rw [← e2]; exact hx
    · have em : (((k + 1 : Nat) : Int) % 2 == 1) = true := by
        rw [beq_iff_eq]; omega
      simp only [em, hdiv, hmul]
      refine ⟨mo f x hf hxx, cd2 (k + 1), ?_⟩
      by_cases hq : 0 < (k + 1) / 2
      · rw [show decide ((0 : Int) < (((k + 1) / 2 : Nat) : Int)) = true from by rw [decide_eq_true_eq]; omega]
        refine ⟨mo x x hxx hxx, hW ((k + 1) / 2) _ (by omega) ⟨x * x, f * x, rfl, ?_, hfx, hxx2 hq, fun _ => hsq hq⟩⟩
        rw [hr, Nat.pow_one] at e2
        rw [← hx, e2, Nat.mul_assoc, Nat.mul_comm x]
      · rw [show decide ((0 : Int) < (((k + 1) / 2 : Nat) : Int)) = false from by rw [decide_eq_false_iff_not]; omega]
        refine hW ((k + 1) / 2) _ (by omega) ⟨x, f * x, rfl, ?_, hfx, hxx, fun h => absurd h hq⟩
        have k0 : k = 0 := by omega
        subst k0
        rw [show (0 + 1) / 2 = 0 from rfl, Nat.pow_zero, Nat.mul_one, ← hx, show 0 + 1 = 1 from rfl, Nat.pow_one]
theorem l__law_power (h : Φ__law_power K C rs os P PX) : w__law_power K C ⟨startR ["number", "many", "found", "part", "left"] rs, os⟩ (bodyPost os.length P PX) := by
  obtain ⟨n, m, rfl, h1, h2, hp⟩ := h
  simp [w__law_power, wWhile, wRet, wRetN, wAndV, wOrV, wNotV, wF, wCons, wNil, wV, wC, o1, o2, fIsi, fLen, fAll, fInt, fAbs, fII, fTup, fList, fSortA, fSort, wParG, put1, startR, R.fz, R.val, isiD, clsD, clsL, tyD, insOk, bodyPost, wSeq, wNext, wIfS, wT, w2, oAdd, oAddA, wNewT, wCallK, permL, wMakeK, oSub, oI, oIc, oMulW, oDivW, oMod, oPow, oLt, oLe, oGt, oGe, oEq, wIsN, D.isNon, wChain, wIf, wFld, wTup, wLst, shs, wSet, wOwn, wPar, wPar3, wCall, wMake, wMeth, wExpr, wAsgE, geT, geCons, geNil, geF, putD, wAsgT, gT, gsCons, gsNil, gN, iSeq, iOne, iRng, iZip, wNeg, wAnd, wOr, wNot, seqD, shs, oIx, oIxA, oIn, inD, wPut, setD, wGet2, wNewD, wYes, noX, dcD, blsD, eqD, shD, toPy, toPyL, PyData.eqv, PyData.eqvAll, SeqAt.shaped, PyData.canLay0, PyData.canLayAll0, PyData.depth, PyData.depthAll, and_assoc, sz1, sz2, sz3, kit_self, lookup_hd, lookup_tl, Int.natCast_inj, show ((0 : Nat) : Int) = 0 from rfl, kb_NoneType_bool, kb_NoneType_int, kb_NoneType_str, kb_NoneType_list, kb_NoneType_tuple, kb_NoneType_dict, kb_bool_bool, kb_bool_int, kb_bool_str, kb_bool_list, kb_bool_tuple, kb_bool_dict, kb_int_bool, kb_int_int, kb_int_str, kb_int_list, kb_int_tuple, kb_int_dict, kb_str_bool, kb_str_int, kb_str_str, kb_str_list, kb_str_tuple, kb_str_dict, kb_list_bool, kb_list_int, kb_list_str, kb_list_list, kb_list_tuple, kb_list_dict, kb_tuple_bool, kb_tuple_int, kb_tuple_str, kb_tuple_list, kb_tuple_tuple, kb_tuple_dict, kb_dict_bool, kb_dict_int, kb_dict_str, kb_dict_list, kb_dict_tuple, kb_dict_dict]
  refine ⟨m + 1, wh_inv (fun k en => ∃ x f : Nat, en = ⟨[some (.sh (.int n)), some (.sh (.int m)), some (.sh (.int f)), some (.sh (.int x)), some (.sh (.int k))], os⟩ ∧ f * x ^ k = n ^ m ∧ f < 2 ^ 200000 ∧ x < 2 ^ 200000 ∧ (0 < k → x ^ k < 2 ^ 200000)) ?_ (m + 1) m _ (by omega)
    ⟨n, 1, rfl, by simp, Nat.one_lt_two_pow (by omega), Nat.lt_of_lt_of_le h1 (Nat.pow_le_pow_right (by omega) (by omega)), fun _ => pow_bits h1 h2⟩⟩
  rintro k en ⟨x, f, rfl, hx, hf, hxx, hk⟩ W hW
  simp [wRet, wRetN, wAndV, wOrV, wNotV, wF, wCons, wNil, wV, wC, o1, o2, fIsi, fLen, fAll, fInt, fAbs, fII, fTup, fList, fSortA, fSort, wParG, put1, startR, R.fz, R.val, isiD, clsD, clsL, tyD, insOk, bodyPost, wSeq, wNext, wIfS, wT, w2, oAdd, oAddA, wNewT, wCallK, permL, wMakeK, oSub, oI, oIc, oMulW, oDivW, oMod, oPow, oLt, oLe, oGt, oGe, oEq, wIsN, D.isNon, wChain, wIf, wFld, wTup, wLst, shs, wSet, wOwn, wPar, wPar3, wCall, wMake, wMeth, wExpr, wAsgE, geT, geCons, geNil, geF, putD, wAsgT, gT, gsCons, gsNil, gN, iSeq, iOne, iRng, iZip, wNeg, wAnd, wOr, wNot, seqD, shs, oIx, oIxA, oIn, inD, wPut, setD, wGet2, wNewD, wYes, noX, dcD, blsD, eqD, shD, toPy, toPyL, PyData.eqv, PyData.eqvAll, SeqAt.shaped, PyData.canLay0, PyData.canLayAll0, PyData.depth, PyData.depthAll, and_assoc, sz1, sz2, sz3, kit_self, lookup_hd, lookup_tl, Int.natCast_inj, show ((0 : Nat) : Int) = 0 from rfl, kb_NoneType_bool, kb_NoneType_int, kb_NoneType_str, kb_NoneType_list, kb_NoneType_tuple, kb_NoneType_dict, kb_bool_bool, kb_bool_int, kb_bool_str, kb_bool_list, kb_bool_tuple, kb_bool_dict, kb_int_bool, kb_int_int, kb_int_str, kb_int_list, kb_int_tuple, kb_int_dict, kb_str_bool, kb_str_int, kb_str_str, kb_str_list, kb_str_tuple, kb_str_dict, kb_list_bool, kb_list_int, kb_list_str, kb_list_list, kb_list_tuple, kb_list_dict, kb_tuple_bool, kb_tuple_int, kb_tuple_str, kb_tuple_list, kb_tuple_tuple, kb_tuple_dict, kb_dict_bool, kb_dict_int, kb_dict_str, kb_dict_list, kb_dict_tuple, kb_dict_dict]
  cases k with
  | zero =>
    simp [wRet, wRetN, wAndV, wOrV, wNotV, wF, wCons, wNil, wV, wC, o1, o2, fIsi, fLen, fAll, fInt, fAbs, fII, fTup, fList, fSortA, fSort, wParG, put1, startR, R.fz, R.val, isiD, clsD, clsL, tyD, insOk, bodyPost, wSeq, wNext, wIfS, wT, w2, oAdd, oAddA, wNewT, wCallK, permL, wMakeK, oSub, oI, oIc, oMulW, oDivW, oMod, oPow, oLt, oLe, oGt, oGe, oEq, wIsN, D.isNon, wChain, wIf, wFld, wTup, wLst, shs, wSet, wOwn, wPar, wPar3, wCall, wMake, wMeth, wExpr, wAsgE, geT, geCons, geNil, geF, putD, wAsgT, gT, gsCons, gsNil, gN, iSeq, iOne, iRng, iZip, wNeg, wAnd, wOr, wNot, seqD, shs, oIx, oIxA, oIn, inD, wPut, setD, wGet2, wNewD, wYes, noX, dcD, blsD, eqD, shD, toPy, toPyL, PyData.eqv, PyData.eqvAll, SeqAt.shaped, PyData.canLay0, PyData.canLayAll0, PyData.depth, PyData.depthAll, and_assoc, sz1, sz2, sz3, kit_self, lookup_hd, lookup_tl, Int.natCast_inj, show ((0 : Nat) : Int) = 0 from rfl, kb_NoneType_bool, kb_NoneType_int, kb_NoneType_str, kb_NoneType_list, kb_NoneType_tuple, kb_NoneType_dict, kb_bool_bool, kb_bool_int, kb_bool_str, kb_bool_list, kb_bool_tuple, kb_bool_dict, kb_int_bool, kb_int_int, kb_int_str, kb_int_list, kb_int_tuple, kb_int_dict, kb_str_bool, kb_str_int, kb_str_str, kb_str_list, kb_str_tuple, kb_str_dict, kb_list_bool, kb_list_int, kb_list_str, kb_list_list, kb_list_tuple, kb_list_dict, kb_tuple_bool, kb_tuple_int, kb_tuple_str, kb_tuple_list, kb_tuple_tuple, kb_tuple_dict, kb_dict_bool, kb_dict_int, kb_dict_str, kb_dict_list, kb_dict_tuple, kb_dict_dict]
    rw [Nat.pow_zero, Nat.mul_one] at hx
    rw [hx]
    simpa using hp
  | succ k =>
    have hdiv : ((k + 1 : Nat) : Int) / 2 = (((k + 1) / 2 : Nat) : Int) := by omega
    have hmul : ∀ u v : Nat, (u : Int) * (v : Int) = ((u * v : Nat) : Int) := fun u v => (Int.natCast_mul u v).symm
    have hr : (k + 1) % 2 = 0 ∨ (k + 1) % 2 = 1 := by omega
    have e2 : x ^ (k + 1) = (x * x) ^ ((k + 1) / 2) * x ^ ((k + 1) % 2) := by
      rw [← Nat.pow_two, ← Nat.pow_mul, ← Nat.pow_add]
      congr 1
      omega
    have hk1 := hk (by omega)
    have hsq : 0 < (k + 1) / 2 → (x * x) ^ ((k + 1) / 2) < 2 ^ 200000 := fun h0 => by
      rw [← Nat.pow_two, ← Nat.pow_mul]
      exact Nat.lt_of_le_of_lt (pow_up (by omega) (by omega)) hk1
    have hxx2 : 0 < (k + 1) / 2 → x * x < 2 ^ 200000 := fun h0 => by
      rw [← Nat.pow_two]
      exact Nat.lt_of_le_of_lt (pow_up (by omega) (by omega)) hk1
    have hfx : f * x < 2 ^ 200000 := by
      refine Nat.lt_of_le_of_lt ?_ (pow_bits h1 h2)
      rw [← hx]
      exact Nat.mul_le_mul_left f (by have := pow_up (x := x) (a := 1) (b := k + 1) (by omega) (by omega); rwa [Nat.pow_one] at this)
    have mo : ∀ u v : Nat, u < 2 ^ 200000 → v < 2 ^ 200000 → IntMulOk (u : Int) (v : Int) := fun u v hu hv => mulOk hu hv (by omega) (by omega) (by omega)
    rw [show decide (0 < k + 1) = true from by simp]
    rcases hr with hr | hr
    · have em : (((k + 1 : Nat) : Int) % 2 == 1) = false := by
        rw [beq_eq_false_iff_ne]; omega
      simp only [em, hdiv, hmul]
      refine ⟨cd2 (k + 1), ?_⟩
      have hq : 0 < (k + 1) / 2 := by omega
      rw [show decide ((0 : Int) < (((k + 1) / 2 : Nat) : Int)) = true from by rw [decide_eq_true_eq]; omega]
      refine ⟨mo x x hxx hxx, hW ((k + 1) / 2) _ (by omega) ⟨x * x, f, rfl, ?_, hf, hxx2 hq, fun _ => hsq hq⟩⟩
      rw [hr, Nat.pow_zero, Nat.mul_one] at e2
      rw [← e2]; exact hx
    · have em : (((k + 1 : Nat) : Int) % 2 == 1) = true := by
        rw [beq_iff_eq]; omega
      simp only [em, hdiv, hmul]
      refine ⟨mo f x hf hxx, cd2 (k + 1), ?_⟩
      by_cases hq : 0 < (k + 1) / 2
      · rw [show decide ((0 : Int) < (((k + 1) / 2 : Nat) : Int)) = true from by rw [decide_eq_true_eq]; omega]
        refine ⟨mo x x hxx hxx, hW ((k + 1) / 2) _ (by omega) ⟨x * x, f * x, rfl, ?_, hfx, hxx2 hq, fun _ => hsq hq⟩⟩
        rw [hr, Nat.pow_one] at e2
        rw [← hx, e2, Nat.mul_assoc, Nat.mul_comm x]
      · rw [show decide ((0 : Int) < (((k + 1) / 2 : Nat) : Int)) = false from by rw [decide_eq_false_iff_not]; omega]
        refine hW ((k + 1) / 2) _ (by omega) ⟨x, f * x, rfl, ?_, hfx, hxx, fun h => absurd h hq⟩
        have k0 : k = 0 := by omega
        subst k0
        rw [show (0 + 1) / 2 = 0 from rfl, Nat.pow_zero, Nat.mul_one, ← hx, show 0 + 1 = 1 from rfl, Nat.pow_one]
theorem keysD_row (r : List Int) : keysD (rowT r) = some (r.map Sum.inl) := by
  simp only [rowT, keysD]
  induction r with
  | nil => rfl
  | cons v r ih => rw [List.map_cons, List.mapM_cons, ih]; rfl
theorem fold_len {κ α : Type} [DecidableEq κ] {kk : α → κ} {fv : α → D} : ∀ (ds : List α) (acc : List (κ × D)), (ds.foldl (fun a d => putKD a (kk d) (fv d)) acc).length ≤ acc.length + ds.length
  | [], acc => by simp
  | d :: ds, acc => by
    have h1 := fold_len (kk := kk) (fv := fv) ds (putKD acc (kk d) (fv d))
    have h2 := putKD_len acc (kk d) (fv d)
    simp only [List.foldl_cons, List.length_cons]
    omega
theorem seqD_len {d : D} {xs : List D} (h : seqD d = some xs) : d = .lst xs ∨ d = .tup xs := by
  cases d <;> simp only [seqD, reduceCtorEq] at h
  · cases h; exact .inl rfl
  · cases h; exact .inr rfl
theorem Paired.memL {α β : Type} {R : α → β → Prop} : ∀ {xs : List α} {ys : List β}, Paired R xs ys → ∀ x ∈ xs, ∃ y ∈ ys, R x y
  | _, _, .nil, x, h => nomatch h
  | _, _, .cons r t, x, h => by
    rcases List.mem_cons.mp h with rfl | h
    · exact ⟨_, List.mem_cons_self, r⟩
    · obtain ⟨y, hy, q⟩ := Paired.memL t x h
      exact ⟨y, List.mem_cons_of_mem _ hy, q⟩
/-- a row's items -/
def itemsOf : D → List D
  | .tup xs => xs
  | .lst xs => xs
  | _ => []
def keysOf (d : D) : List Key := (keysD (.tup (itemsOf d))).getD []
theorem keysOf_row {d : D} {r : List Int} (h : rowIs d r) : keysOf d = r.map Sum.inl := by
  have : keysD (.tup (r.map D.int)) = some (r.map Sum.inl) := keysD_row r
  rcases h with rfl | rfl <;> simp only [keysOf, itemsOf, this, Option.getD_some]
theorem once_le (rws : List (List Int)) : ∀ acc : List (List Int), (rws.foldl (fun acc r => if r ∈ acc then acc else acc ++ [r]) acc).length ≤ acc.length + rws.length := by
  induction rws with
  | nil => intro acc; simp
  | cons r rws ih =>
    intro acc
    rw [List.foldl_cons, List.length_cons]
    refine Nat.le_trans (ih _) ?_
    split
    · omega
    · rw [List.length_append, List.length_singleton]; omega
theorem map_inl_inj : ∀ {a b : List Int}, a.map (Sum.inl : Int → Key) = b.map Sum.inl → a = b
  | [], [], _ => rfl
  | [], _ :: _, h => by cases h
  | _ :: _, [], h => by cases h
  | x :: a, y :: b, h => by
    simp only [List.map_cons, List.cons.injEq, Sum.inl.injEq] at h
    rw [h.1, map_inl_inj h.2]
def rowK (r : List Int) : List Key × D := (r.map Sum.inl, .bl true)
theorem put_rowK (acc : List (List Int)) (r : List Int) : putKD (acc.map rowK) (r.map Sum.inl) (.bl true) = (if r ∈ acc then acc else acc ++ [r]).map rowK := by
  unfold putKD
  have e : ((acc.map rowK).any fun kv => decide (kv.1 = r.map Sum.inl)) = decide (r ∈ acc) := by
    rw [Bool.eq_iff_iff, List.any_eq_true, decide_eq_true_eq]
    constructor
    · rintro ⟨kv, hk, e⟩
      obtain ⟨q, hq, rfl⟩ := List.mem_map.mp hk
      rw [decide_eq_true_eq] at e
      rw [← map_inl_inj e]; exact hq
    · exact fun h => ⟨rowK r, List.mem_map.mpr ⟨r, h, rfl⟩, by simp [rowK]⟩
  rw [e]
  by_cases h : r ∈ acc
  · simp only [h, decide_true, if_true, List.map_map]
    refine List.map_congr_left fun q _ => ?_
    show (if (rowK q).1 = r.map Sum.inl then ((rowK q).1, D.bl true) else rowK q) = rowK q
    by_cases z : (rowK q).1 = r.map Sum.inl
    · rw [if_pos z]; rfl
    · rw [if_neg z]
  · simp only [h, decide_false, Bool.false_eq_true, if_false, List.map_append]; rfl
theorem fold_rowK : ∀ (rws acc : List (List Int)), rws.foldl (fun a r => putKD a (r.map Sum.inl) (.bl true)) (acc.map rowK) = (rws.foldl (fun acc r => if r ∈ acc then acc else acc ++ [r]) acc).map rowK
  | [], acc => rfl
  | r :: rws, acc => by rw [List.foldl_cons, List.foldl_cons, put_rowK, fold_rowK rws]
theorem fold_told {xs : List D} {rws : List (List Int)} (h : Paired rowIs xs rws) : ∀ acc : List (List Key × D), xs.foldl (fun a d => putKD a (keysOf d) (.bl true)) acc = rws.foldl (fun a r => putKD a (r.map Sum.inl) (.bl true)) acc := by
  induction h with
  | nil => intro acc; rfl
  | cons r _ ih => intro acc; rw [List.foldl_cons, List.foldl_cons, keysOf_row r, ih]
theorem fold_once {xs : List D} {rws : List (List Int)} (h : Paired rowIs xs rws) : xs.foldl (fun a d => putKD a (keysOf d) (.bl true)) [] = (once rws).map rowK := by
  rw [fold_told h]
  exact fold_rowK rws []
theorem l_are_rows_of (T : Txt K mg C) (h : Φ_are_rows_of K C rs os P PX) : w_are_rows_of K C ⟨startR ["table", "value", "row"] rs, os⟩ (bodyPost os.length P PX) := by
  obtain ⟨t, d, rws, rfl, ⟨xs, hd, pr⟩, hr, hl, hp⟩ := h
  rcases seqD_len hd with rfl | rfl
  all_goals
    simp [w_are_rows_of, wLc, wDcT, wipeR, restR, wRet, wRetN, wAndV, wOrV, wNotV, wF, wCons, wNil, wV, wC, o1, o2, fIsi, fLen, fAll, fInt, fAbs, fII, fTup, fList, fSortA, fSort, wParG, put1, startR, R.fz, R.val, isiD, clsD, clsL, tyD, insOk, bodyPost, wSeq, wNext, wIfS, wT, w2, oAdd, oAddA, wNewT, wCallK, permL, wMakeK, oSub, oI, oIc, oMulW, oDivW, oMod, oPow, oLt, oLe, oGt, oGe, oEq, wIsN, D.isNon, wChain, wIf, wFld, wTup, wLst, shs, wSet, wOwn, wPar, wPar3, wCall, wMake, wMeth, wExpr, wAsgE, geT, geCons, geNil, geF, putD, wAsgT, gT, gsCons, gsNil, gN, iSeq, iOne, iRng, iZip, wNeg, wAnd, wOr, wNot, seqD, shs, oIx, oIxA, oIn, inD, wPut, setD, wGet2, wNewD, wYes, noX, dcD, blsD, eqD, shD, toPy, toPyL, PyData.eqv, PyData.eqvAll, SeqAt.shaped, PyData.canLay0, PyData.canLayAll0, PyData.depth, PyData.depthAll, and_assoc, sz1, sz2, sz3, kit_self, lookup_hd, lookup_tl, Int.natCast_inj, show ((0 : Nat) : Int) = 0 from rfl, kb_NoneType_bool, kb_NoneType_int, kb_NoneType_str, kb_NoneType_list, kb_NoneType_tuple, kb_NoneType_dict, kb_bool_bool, kb_bool_int, kb_bool_str, kb_bool_list, kb_bool_tuple, kb_bool_dict, kb_int_bool, kb_int_int, kb_int_str, kb_int_list, kb_int_tuple, kb_int_dict, kb_str_bool, kb_str_int, kb_str_str, kb_str_list, kb_str_tuple, kb_str_dict, kb_list_bool, kb_list_int, kb_list_str, kb_list_list, kb_list_tuple, kb_list_dict, kb_tuple_bool, kb_tuple_int, kb_tuple_str, kb_tuple_list, kb_tuple_tuple, kb_tuple_dict, kb_dict_bool, kb_dict_int, kb_dict_str, kb_dict_list, kb_dict_tuple, kb_dict_dict]
    refine ⟨_, _, rfl, rfl, ?_⟩
    simp [wRet, wRetN, wAndV, wOrV, wNotV, wF, wCons, wNil, wV, wC, o1, o2, fIsi, fLen, fAll, fInt, fAbs, fII, fTup, fList, fSortA, fSort, wParG, put1, startR, R.fz, R.val, isiD, clsD, clsL, tyD, insOk, bodyPost, wSeq, wNext, wIfS, wT, w2, oAdd, oAddA, wNewT, wCallK, permL, wMakeK, oSub, oI, oIc, oMulW, oDivW, oMod, oPow, oLt, oLe, oGt, oGe, oEq, wIsN, D.isNon, wChain, wIf, wFld, wTup, wLst, shs, wSet, wOwn, wPar, wPar3, wCall, wMake, wMeth, wExpr, wAsgE, geT, geCons, geNil, geF, putD, wAsgT, gT, gsCons, gsNil, gN, iSeq, iOne, iRng, iZip, wNeg, wAnd, wOr, wNot, seqD, shs, oIx, oIxA, oIn, inD, wPut, setD, wGet2, wNewD, wYes, noX, dcD, blsD, eqD, shD, toPy, toPyL, PyData.eqv, PyData.eqvAll, SeqAt.shaped, PyData.canLay0, PyData.canLayAll0, PyData.depth, PyData.depthAll, and_assoc, sz1, sz2, sz3, kit_self, lookup_hd, lookup_tl, Int.natCast_inj, show ((0 : Nat) : Int) = 0 from rfl, kb_NoneType_bool, kb_NoneType_int, kb_NoneType_str, kb_NoneType_list, kb_NoneType_tuple, kb_NoneType_dict, kb_bool_bool, kb_bool_int, kb_bool_str, kb_bool_list, kb_bool_tuple, kb_bool_dict, kb_int_bool, kb_int_int, kb_int_str, kb_int_list, kb_int_tuple, kb_int_dict, kb_str_bool, kb_str_int, kb_str_str, kb_str_list, kb_str_tuple, kb_str_dict, kb_list_bool, kb_list_int, kb_list_str, kb_list_list, kb_list_tuple, kb_list_dict, kb_tuple_bool, kb_tuple_int, kb_tuple_str, kb_tuple_list, kb_tuple_tuple, kb_tuple_dict, kb_dict_bool, kb_dict_int, kb_dict_str, kb_dict_list, kb_dict_tuple, kb_dict_dict]
    refine lcL_map (f := fun _ => .bl true) rfl (fun d hd P PX h => ?_) ?_
    · obtain ⟨r, hrm, ri⟩ := Paired.memL pr d hd
      simp [wRet, wRetN, wAndV, wOrV, wNotV, wF, wCons, wNil, wV, wC, o1, o2, fIsi, fLen, fAll, fInt, fAbs, fII, fTup, fList, fSortA, fSort, wParG, put1, startR, R.fz, R.val, isiD, clsD, clsL, tyD, insOk, bodyPost, wSeq, wNext, wIfS, wT, w2, oAdd, oAddA, wNewT, wCallK, permL, wMakeK, oSub, oI, oIc, oMulW, oDivW, oMod, oPow, oLt, oLe, oGt, oGe, oEq, wIsN, D.isNon, wChain, wIf, wFld, wTup, wLst, shs, wSet, wOwn, wPar, wPar3, wCall, wMake, wMeth, wExpr, wAsgE, geT, geCons, geNil, geF, putD, wAsgT, gT, gsCons, gsNil, gN, iSeq, iOne, iRng, iZip, wNeg, wAnd, wOr, wNot, seqD, shs, oIx, oIxA, oIn, inD, wPut, setD, wGet2, wNewD, wYes, noX, dcD, blsD, eqD, shD, toPy, toPyL, PyData.eqv, PyData.eqvAll, SeqAt.shaped, PyData.canLay0, PyData.canLayAll0, PyData.depth, PyData.depthAll, and_assoc, sz1, sz2, sz3, kit_self, lookup_hd, lookup_tl, Int.natCast_inj, show ((0 : Nat) : Int) = 0 from rfl, kb_NoneType_bool, kb_NoneType_int, kb_NoneType_str, kb_NoneType_list, kb_NoneType_tuple, kb_NoneType_dict, kb_bool_bool, kb_bool_int, kb_bool_str, kb_bool_list, kb_bool_tuple, kb_bool_dict, kb_int_bool, kb_int_int, kb_int_str, kb_int_list, kb_int_tuple, kb_int_dict, kb_str_bool, kb_str_int, kb_str_str, kb_str_list, kb_str_tuple, kb_str_dict, kb_list_bool, kb_list_int, kb_list_str, kb_list_list, kb_list_tuple, kb_list_dict, kb_tuple_bool, kb_tuple_int, kb_tuple_str, kb_tuple_list, kb_tuple_tuple, kb_tuple_dict, kb_dict_bool, kb_dict_int, kb_dict_str, kb_dict_list, kb_dict_tuple, kb_dict_dict]
      exact ⟨t, d, r, rfl, ri, hr r hrm, h⟩
    · have e3 : xs.map (fun _ => D.bl true) = (xs.map fun _ => true).map D.bl := by rw [List.map_map]; rfl
      have e4 : ((xs.map fun _ => true).all id) = true := by simp
      simp only [List.nil_append, e3, blsD_map]
      rw [e4]
      simp [wRet, wRetN, wAndV, wOrV, wNotV, wF, wCons, wNil, wV, wC, o1, o2, fIsi, fLen, fAll, fInt, fAbs, fII, fTup, fList, fSortA, fSort, wParG, put1, startR, R.fz, R.val, isiD, clsD, clsL, tyD, insOk, bodyPost, wSeq, wNext, wIfS, wT, w2, oAdd, oAddA, wNewT, wCallK, permL, wMakeK, oSub, oI, oIc, oMulW, oDivW, oMod, oPow, oLt, oLe, oGt, oGe, oEq, wIsN, D.isNon, wChain, wIf, wFld, wTup, wLst, shs, wSet, wOwn, wPar, wPar3, wCall, wMake, wMeth, wExpr, wAsgE, geT, geCons, geNil, geF, putD, wAsgT, gT, gsCons, gsNil, gN, iSeq, iOne, iRng, iZip, wNeg, wAnd, wOr, wNot, seqD, shs, oIx, oIxA, oIn, inD, wPut, setD, wGet2, wNewD, wYes, noX, dcD, blsD, eqD, shD, toPy, toPyL, PyData.eqv, PyData.eqvAll, SeqAt.shaped, PyData.canLay0, PyData.canLayAll0, PyData.depth, PyData.depthAll, and_assoc, sz1, sz2, sz3, kit_self, lookup_hd, lookup_tl, Int.natCast_inj, show ((0 : Nat) : Int) = 0 from rfl, kb_NoneType_bool, kb_NoneType_int, kb_NoneType_str, kb_NoneType_list, kb_NoneType_tuple, kb_NoneType_dict, kb_bool_bool, kb_bool_int, kb_bool_str, kb_bool_list, kb_bool_tuple, kb_bool_dict, kb_int_bool, kb_int_int, kb_int_str, kb_int_list, kb_int_tuple, kb_int_dict, kb_str_bool, kb_str_int, kb_str_str, kb_str_list, kb_str_tuple, kb_str_dict, kb_list_bool, kb_list_int, kb_list_str, kb_list_list, kb_list_tuple, kb_list_dict, kb_tuple_bool, kb_tuple_int, kb_tuple_str, kb_tuple_list, kb_tuple_tuple, kb_tuple_dict, kb_dict_bool, kb_dict_int, kb_dict_str, kb_dict_list, kb_dict_tuple, kb_dict_dict]
      refine dcL_map (fk := fun d => .tup (itemsOf d)) (fv := fun _ => .bl true) (kk := keysOf) rfl (fun d hd => ?_) (fun d hd P PX h => ?_) (fun d hd P PX h => ?_) ?_
      · obtain ⟨r, hrm, ri⟩ := Paired.memL pr d hd
        have e := keysD_row r
        rw [keysOf_row ri]
        rcases ri with rfl | rfl
        all_goals simpa [itemsOf, rowT] using e
      · obtain ⟨r, hrm, ri⟩ := Paired.memL pr d hd
        rcases ri with rfl | rfl
        all_goals simpa [itemsOf, wRet, wRetN, wAndV, wOrV, wNotV, wF, wCons, wNil, wV, wC, o1, o2, fIsi, fLen, fAll, fInt, fAbs, fII, fTup, fList, fSortA, fSort, wParG, put1, startR, R.fz, R.val, isiD, clsD, clsL, tyD, insOk, bodyPost, wSeq, wNext, wIfS, wT, w2, oAdd, oAddA, wNewT, wCallK, permL, wMakeK, oSub, oI, oIc, oMulW, oDivW, oMod, oPow, oLt, oLe, oGt, oGe, oEq, wIsN, D.isNon, wChain, wIf, wFld, wTup, wLst, shs, wSet, wOwn, wPar, wPar3, wCall, wMake, wMeth, wExpr, wAsgE, geT, geCons, geNil, geF, putD, wAsgT, gT, gsCons, gsNil, gN, iSeq, iOne, iRng, iZip, wNeg, wAnd, wOr, wNot, seqD, shs, oIx, oIxA, oIn, inD, wPut, setD, wGet2, wNewD, wYes, noX, dcD, blsD, eqD, shD, toPy, toPyL, PyData.eqv, PyData.eqvAll, SeqAt.shaped, PyData.canLay0, PyData.canLayAll0, PyData.depth, PyData.depthAll, and_assoc, sz1, sz2, sz3, kit_self, lookup_hd, lookup_tl, Int.natCast_inj, show ((0 : Nat) : Int) = 0 from rfl, kb_NoneType_bool, kb_NoneType_int, kb_NoneType_str, kb_NoneType_list, kb_NoneType_tuple, kb_NoneType_dict, kb_bool_bool, kb_bool_int, kb_bool_str, kb_bool_list, kb_bool_tuple, kb_bool_dict, kb_int_bool, kb_int_int, kb_int_str, kb_int_list, kb_int_tuple, kb_int_dict, kb_str_bool, kb_str_int, kb_str_str, kb_str_list, kb_str_tuple, kb_str_dict, kb_list_bool, kb_list_int, kb_list_str, kb_list_list, kb_list_tuple, kb_list_dict, kb_tuple_bool, kb_tuple_int, kb_tuple_str, kb_tuple_list, kb_tuple_tuple, kb_tuple_dict, kb_dict_bool, kb_dict_int, kb_dict_str, kb_dict_list, kb_dict_tuple, kb_dict_dict] using h
      · simpa [wRet, wRetN, wAndV, wOrV, wNotV, wF, wCons, wNil, wV, wC, o1, o2, fIsi, fLen, fAll, fInt, fAbs, fII, fTup, fList, fSortA, fSort, wParG, put1, startR, R.fz, R.val, isiD, clsD, clsL, tyD, insOk, bodyPost, wSeq, wNext, wIfS, wT, w2, oAdd, oAddA, wNewT, wCallK, permL, wMakeK, oSub, oI, oIc, oMulW, oDivW, oMod, oPow, oLt, oLe, oGt, oGe, oEq, wIsN, D.isNon, wChain, wIf, wFld, wTup, wLst, shs, wSet, wOwn, wPar, wPar3, wCall, wMake, wMeth, wExpr, wAsgE, geT, geCons, geNil, geF, putD, wAsgT, gT, gsCons, gsNil, gN, iSeq, iOne, iRng, iZip, wNeg, wAnd, wOr, wNot, seqD, shs, oIx, oIxA, oIn, inD, wPut, setD, wGet2, wNewD, wYes, noX, dcD, blsD, eqD, shD, toPy, toPyL, PyData.eqv, PyData.eqvAll, SeqAt.shaped, PyData.canLay0, PyData.canLayAll0, PyData.depth, PyData.depthAll, and_assoc, sz1, sz2, sz3, kit_self, lookup_hd, lookup_tl, Int.natCast_inj, show ((0 : Nat) : Int) = 0 from rfl, kb_NoneType_bool, kb_NoneType_int, kb_NoneType_str, kb_NoneType_list, kb_NoneType_tuple, kb_NoneType_dict, kb_bool_bool, kb_bool_int, kb_bool_str, kb_bool_list, kb_bool_tuple, kb_bool_dict, kb_int_bool, kb_int_int, kb_int_str, kb_int_list, kb_int_tuple, kb_int_dict, kb_str_bool, kb_str_int, kb_str_str, kb_str_list, kb_str_tuple, kb_str_dict, kb_list_bool, kb_list_int, kb_list_str, kb_list_list, kb_list_tuple, kb_list_dict, kb_tuple_bool, kb_tuple_int, kb_tuple_str, kb_tuple_list, kb_tuple_tuple, kb_tuple_dict, kb_dict_bool, kb_dict_int, kb_dict_str, kb_dict_list, kb_dict_tuple, kb_dict_dict] using h
      · rw [fold_once pr]
        have hlen : (once rws).length ≤ rws.length := by have := once_le rws []; simpa [once] using this
        have e5 : decide ((((((once rws).map rowK).length : Nat)) : Int) ≤ 20000) = true := by
          rw [List.length_map, decide_eq_true_eq]; omega
        simp only [wRet, wRetN, wAndV, wOrV, wNotV, wF, wCons, wNil, wV, wC, o1, o2, fIsi, fLen, fAll, fInt, fAbs, fII, fTup, fList, fSortA, fSort, wParG, put1, startR, R.fz, R.val, isiD, clsD, clsL, tyD, insOk, bodyPost, wSeq, wNext, wIfS, wT, w2, oAdd, oAddA, wNewT, wCallK, permL, wMakeK, oSub, oI, oIc, oMulW, oDivW, oMod, oPow, oLt, oLe, oGt, oGe, oEq, wIsN, D.isNon, wChain, wIf, wFld, wTup, wLst, shs, wSet, wOwn, wPar, wPar3, wCall, wMake, wMeth, wExpr, wAsgE, geT, geCons, geNil, geF, putD, wAsgT, gT, gsCons, gsNil, gN, iSeq, iOne, iRng, iZip, wNeg, wAnd, wOr, wNot, seqD, shs, oIx, oIxA, oIn, inD, wPut, setD, wGet2, wNewD, wYes, noX, dcD, blsD, eqD, shD, toPy, toPyL, PyData.eqv, PyData.eqvAll, SeqAt.shaped, PyData.canLay0, PyData.canLayAll0, PyData.depth, PyData.depthAll, and_assoc, sz1, sz2, sz3, kit_self, lookup_hd, lookup_tl, Int.natCast_inj, show ((0 : Nat) : Int) = 0 from rfl, kb_NoneType_bool, kb_NoneType_int, kb_NoneType_str, kb_NoneType_list, kb_NoneType_tuple, kb_NoneType_dict, kb_bool_bool, kb_bool_int, kb_bool_str, kb_bool_list, kb_bool_tuple, kb_bool_dict, kb_int_bool, kb_int_int, kb_int_str, kb_int_list, kb_int_tuple, kb_int_dict, kb_str_bool, kb_str_int, kb_str_str, kb_str_list, kb_str_tuple, kb_str_dict, kb_list_bool, kb_list_int, kb_list_str, kb_list_list, kb_list_tuple, kb_list_dict, kb_tuple_bool, kb_tuple_int, kb_tuple_str, kb_tuple_list, kb_tuple_tuple, kb_tuple_dict, kb_dict_bool, kb_dict_int, kb_dict_str, kb_dict_list, kb_dict_tuple, kb_dict_dict, e5]
        simpa using hp
/-- what is sorted and told once stays -/
theorem sort_same {rws : List (List Int)} (h : (rws.map rowT).Pairwise (fun a b => leD a b = true)) : sortD (rws.map rowT) = rws.map rowT := List.mergeSort_of_pairwise h
theorem row_back (r : List Int) : D.tup ((r.map (Sum.inl : Int → Key)).map kD) = rowT r := by
  simp only [rowT, List.map_map]; rfl
theorem rowK_back (rws : List (List Int)) : (rws.map rowK).map keyT = rws.map rowT := by
  rw [List.map_map]
  exact List.map_congr_left fun r _ => row_back r
theorem once_mem (rws : List (List Int)) : ∀ acc : List (List Int), ∀ r, r ∈ rws.foldl (fun acc r => if r ∈ acc then acc else acc ++ [r]) acc ↔ r ∈ acc ∨ r ∈ rws := by
  induction rws with
  | nil => intro acc r; simp
  | cons q rws ih =>
    intro acc r
    rw [List.foldl_cons, ih, List.mem_cons]
    by_cases h : q ∈ acc
    · rw [if_pos h]
      constructor
      · rintro (a | a)
        · exact .inl a
        · exact .inr (.inr a)
      · rintro (a | rfl | a)
        · exact .inl a
        · exact .inl h
        · exact .inr a
    · rw [if_neg h, List.mem_append, List.mem_singleton, or_assoc]
theorem mem_once {rws : List (List Int)} {r : List Int} : r ∈ once rws ↔ r ∈ rws := by
  have := once_mem rws [] r
  simpa [once] using this
theorem once_nd (rws : List (List Int)) : ∀ acc : List (List Int), acc.Nodup → (rws.foldl (fun acc r => if r ∈ acc then acc else acc ++ [r]) acc).Nodup := by
  induction rws with
  | nil => intro acc h; exact h
  | cons q rws ih =>
    intro acc h
    rw [List.foldl_cons]
    refine ih _ ?_
    split
    · exact h
    · rename_i hq
      rw [List.nodup_append]
      refine ⟨h, by simp, fun a ha b hb e => ?_⟩
      rw [List.mem_singleton] at hb
      subst hb; subst e
      exact hq ha
theorem nodup_once (rws : List (List Int)) : (once rws).Nodup := once_nd rws [] List.nodup_nil
theorem once_same {rws : List (List Int)} (h : rws.Nodup) : once rws = rws := by
  have : ∀ (rws acc : List (List Int)), (acc ++ rws).Nodup → rws.foldl (fun acc r => if r ∈ acc then acc else acc ++ [r]) acc = acc ++ rws := by
    intro rws
    induction rws with
    | nil => intro acc _; simp
    | cons q rws ih =>
      intro acc h
      have hq : q ∉ acc := fun z => by
        rw [List.nodup_append] at h
        exact h.2.2 q z q List.mem_cons_self rfl
      rw [List.foldl_cons, if_neg hq, ih _ (by simpa using h)]
      simp
  simpa [once] using this rws [] (by simpa using h)
end
end L2.TL.W

/-! text K07d -/
set_option Elab.async false
set_option linter.all false
set_option maxRecDepth 100000
set_option maxHeartbeats 4000000
namespace L2.TL.W
open PySem PySem.Spec PyProof.Rows L2.TL
section
variable {K : PySem.W.Frag} {mg : Str → Option Value} {C : Cs} {rs : List R} {os : Os} {P : R → Os → Prop} {PX : Er → Os → Prop}
theorem l__law_pen (h : Φ__law_pen K C rs os P PX) : w__law_pen K C ⟨startR ["script", "cell"] rs, os⟩ (bodyPost os.length P PX) := by
  obtain ⟨ns, d, rfl, ⟨hl, hd⟩, hp⟩ := h
  have cut : ∀ {α : Type} (xs : List α), xs.length ≤ 63 → cutL xs none (some 63) = xs := fun xs h => by
    unfold cutL
    rw [show HT.sIx xs.length 0 none = 0 from rfl, List.drop_zero]
    refine List.take_of_length_le ?_
    have : HT.sIx xs.length xs.length (some 63) = min 63 xs.length := by
      simp [HT.sIx]
    rw [this]; omega
  have hz : ns.length ≤ sizeLine := Nat.le_trans hl (by decide)
  have hc := cut (ns.map D.int) (by rw [List.length_map]; exact hl)
  have key : wLcL (gN 1) wYes (wF (o1 fInt) (wCons (wV 1) wNil)) [1] (fun acc en2 => P (.fr (.lst [.lst acc, .int 0, .int 0])) (List.take os.length en2.os)) (ns.map D.int) [] ⟨[some (.sh d), none], os⟩ := by
    refine lcL_map (f := id) rfl (fun e he P PX h => ?_) ?_
    · obtain ⟨v, hv, rfl⟩ := List.mem_map.mp he
      simpa [wRet, wRetN, wAndV, wOrV, wNotV, wF, wCons, wNil, wV, wC, o1, o2, fIsi, fLen, fAll, fInt, fAbs, fII, fTup, fList, fSortA, fSort, wParG, put1, startR, R.fz, R.val, isiD, clsD, clsL, tyD, insOk, bodyPost, wSeq, wNext, wIfS, wT, w2, oAdd, oAddA, wNewT, wCallK, permL, wMakeK, oSub, oI, oIc, oMulW, oDivW, oMod, oPow, oLt, oLe, oGt, oGe, oEq, wIsN, D.isNon, wChain, wIf, wFld, wTup, wLst, shs, wSet, wOwn, wPar, wPar3, wCall, wMake, wMeth, wExpr, wAsgE, geT, geCons, geNil, geF, putD, wAsgT, gT, gsCons, gsNil, gN, iSeq, iOne, iRng, iZip, wNeg, wAnd, wOr, wNot, seqD, shs, oIx, oIxA, oIn, inD, wPut, setD, wGet2, wNewD, wYes, noX, dcD, blsD, eqD, shD, toPy, toPyL, PyData.eqv, PyData.eqvAll, SeqAt.shaped, PyData.canLay0, PyData.canLayAll0, PyData.depth, PyData.depthAll, and_assoc, sz1, sz2, sz3, kit_self, lookup_hd, lookup_tl, Int.natCast_inj, show ((0 : Nat) : Int) = 0 from rfl, kb_NoneType_bool, kb_NoneType_int, kb_NoneType_str, kb_NoneType_list, kb_NoneType_tuple, kb_NoneType_dict, kb_bool_bool, kb_bool_int, kb_bool_str, kb_bool_list, kb_bool_tuple, kb_bool_dict, kb_int_bool, kb_int_int, kb_int_str, kb_int_list, kb_int_tuple, kb_int_dict, kb_str_bool, kb_str_int, kb_str_str, kb_str_list, kb_str_tuple, kb_str_dict, kb_list_bool, kb_list_int, kb_list_str, kb_list_list, kb_list_tuple, kb_list_dict, kb_tuple_bool, kb_tuple_int, kb_tuple_str, kb_tuple_list, kb_tuple_tuple, kb_tuple_dict, kb_dict_bool, kb_dict_int, kb_dict_str, kb_dict_list, kb_dict_tuple, kb_dict_dict] using h
    · simpa using hp
  rcases hd with rfl | ⟨a, rfl, kl⟩
  · simp [w__law_pen, wLc, wSlc, pNo, pAt, wipeR, restR, hc, wRet, wRetN, wAndV, wOrV, wNotV, wF, wCons, wNil, wV, wC, o1, o2, fIsi, fLen, fAll, fInt, fAbs, fII, fTup, fList, fSortA, fSort, wParG, put1, startR, R.fz, R.val, isiD, clsD, clsL, tyD, insOk, bodyPost, wSeq, wNext, wIfS, wT, w2, oAdd, oAddA, wNewT, wCallK, permL, wMakeK, oSub, oI, oIc, oMulW, oDivW, oMod, oPow, oLt, oLe, oGt, oGe, oEq, wIsN, D.isNon, wChain, wIf, wFld, wTup, wLst, shs, wSet, wOwn, wPar, wPar3, wCall, wMake, wMeth, wExpr, wAsgE, geT, geCons, geNil, geF, putD, wAsgT, gT, gsCons, gsNil, gN, iSeq, iOne, iRng, iZip, wNeg, wAnd, wOr, wNot, seqD, shs, oIx, oIxA, oIn, inD, wPut, setD, wGet2, wNewD, wYes, noX, dcD, blsD, eqD, shD, toPy, toPyL, PyData.eqv, PyData.eqvAll, SeqAt.shaped, PyData.canLay0, PyData.canLayAll0, PyData.depth, PyData.depthAll, and_assoc, sz1, sz2, sz3, kit_self, lookup_hd, lookup_tl, Int.natCast_inj, show ((0 : Nat) : Int) = 0 from rfl, kb_NoneType_bool, kb_NoneType_int, kb_NoneType_str, kb_NoneType_list, kb_NoneType_tuple, kb_NoneType_dict, kb_bool_bool, kb_bool_int, kb_bool_str, kb_bool_list, kb_bool_tuple, kb_bool_dict, kb_int_bool, kb_int_int, kb_int_str, kb_int_list, kb_int_tuple, kb_int_dict, kb_str_bool, kb_str_int, kb_str_str, kb_str_list, kb_str_tuple, kb_str_dict, kb_list_bool, kb_list_int, kb_list_str, kb_list_list, kb_list_tuple, kb_list_dict, kb_tuple_bool, kb_tuple_int, kb_tuple_str, kb_tuple_list, kb_tuple_tuple, kb_tuple_dict, kb_dict_bool, kb_dict_int, kb_dict_str, kb_dict_list, kb_dict_tuple, kb_dict_dict]
    exact key
  · simp [w__law_pen, wLc, wSlc, pNo, pAt, wipeR, restR, wRet, wRetN, wAndV, wOrV, wNotV, wF, wCons, wNil, wV, wC, o1, o2, fIsi, fLen, fAll, fInt, fAbs, fII, fTup, fList, fSortA, fSort, wParG, put1, startR, R.fz, R.val, isiD, clsD, clsL, tyD, insOk, bodyPost, wSeq, wNext, wIfS, wT, w2, oAdd, oAddA, wNewT, wCallK, permL, wMakeK, oSub, oI, oIc, oMulW, oDivW, oMod, oPow, oLt, oLe, oGt, oGe, oEq, wIsN, D.isNon, wChain, wIf, wFld, wTup, wLst, shs, wSet, wOwn, wPar, wPar3, wCall, wMake, wMeth, wExpr, wAsgE, geT, geCons, geNil, geF, putD, wAsgT, gT, gsCons, gsNil, gN, iSeq, iOne, iRng, iZip, wNeg, wAnd, wOr, wNot, seqD, shs, oIx, oIxA, oIn, inD, wPut, setD, wGet2, wNewD, wYes, noX, dcD, blsD, eqD, shD, toPy, toPyL, PyData.eqv, PyData.eqvAll, SeqAt.shaped, PyData.canLay0, PyData.canLayAll0, PyData.depth, PyData.depthAll, and_assoc, sz1, sz2, sz3, kit_self, lookup_hd, lookup_tl, Int.natCast_inj, show ((0 : Nat) : Int) = 0 from rfl, kb_NoneType_bool, kb_NoneType_int, kb_NoneType_str, kb_NoneType_list, kb_NoneType_tuple, kb_NoneType_dict, kb_bool_bool, kb_bool_int, kb_bool_str, kb_bool_list, kb_bool_tuple, kb_bool_dict, kb_int_bool, kb_int_int, kb_int_str, kb_int_list, kb_int_tuple, kb_int_dict, kb_str_bool, kb_str_int, kb_str_str, kb_str_list, kb_str_tuple, kb_str_dict, kb_list_bool, kb_list_int, kb_list_str, kb_list_list, kb_list_tuple, kb_list_dict, kb_tuple_bool, kb_tuple_int, kb_tuple_str, kb_tuple_list, kb_tuple_tuple, kb_tuple_dict, kb_dict_bool, kb_dict_int, kb_dict_str, kb_dict_list, kb_dict_tuple, kb_dict_dict]
    refine ⟨ns, kl, hz, ?_⟩
    rw [hc]
    exact key
theorem l__law_pick (h : Φ__law_pick K C rs os P PX) : w__law_pick K C ⟨startR ["pen", "some"] rs, os⟩ (bodyPost os.length P PX) := by
  obtain ⟨k, n, p, xs, rfl, ho, hpen, hn, h1, h2, hp⟩ := h
  simp [w__law_pick, wRet, wRetN, wAndV, wOrV, wNotV, wF, wCons, wNil, wV, wC, o1, o2, fIsi, fLen, fAll, fInt, fAbs, fII, fTup, fList, fSortA, fSort, wParG, put1, startR, R.fz, R.val, isiD, clsD, clsL, tyD, insOk, bodyPost, wSeq, wNext, wIfS, wT, w2, oAdd, oAddA, wNewT, wCallK, permL, wMakeK, oSub, oI, oIc, oMulW, oDivW, oMod, oPow, oLt, oLe, oGt, oGe, oEq, wIsN, D.isNon, wChain, wIf, wFld, wTup, wLst, shs, wSet, wOwn, wPar, wPar3, wCall, wMake, wMeth, wExpr, wAsgE, geT, geCons, geNil, geF, putD, wAsgT, gT, gsCons, gsNil, gN, iSeq, iOne, iRng, iZip, wNeg, wAnd, wOr, wNot, seqD, shs, oIx, oIxA, oIn, inD, wPut, setD, wGet2, wNewD, wYes, noX, dcD, blsD, eqD, shD, toPy, toPyL, PyData.eqv, PyData.eqvAll, SeqAt.shaped, PyData.canLay0, PyData.canLayAll0, PyData.depth, PyData.depthAll, and_assoc, sz1, sz2, sz3, kit_self, lookup_hd, lookup_tl, Int.natCast_inj, show ((0 : Nat) : Int) = 0 from rfl, kb_NoneType_bool, kb_NoneType_int, kb_NoneType_str, kb_NoneType_list, kb_NoneType_tuple, kb_NoneType_dict, kb_bool_bool, kb_bool_int, kb_bool_str, kb_bool_list, kb_bool_tuple, kb_bool_dict, kb_int_bool, kb_int_int, kb_int_str, kb_int_list, kb_int_tuple, kb_int_dict, kb_str_bool, kb_str_int, kb_str_str, kb_str_list, kb_str_tuple, kb_str_dict, kb_list_bool, kb_list_int, kb_list_str, kb_list_list, kb_list_tuple, kb_list_dict, kb_tuple_bool, kb_tuple_int, kb_tuple_str, kb_tuple_list, kb_tuple_tuple, kb_tuple_dict, kb_dict_bool, kb_dict_int, kb_dict_str, kb_dict_list, kb_dict_tuple, kb_dict_dict]
  refine ⟨k, n, p, xs.length, rfl, ho, hpen, hn, h1, h2, fun v p2 hv h3 => ?_⟩
  have e : atI xs (v : Int) = some xs[v] := by
    simp [atI, ixN, hv]
  simp [e, take_set, wRet, wRetN, wAndV, wOrV, wNotV, wF, wCons, wNil, wV, wC, o1, o2, fIsi, fLen, fAll, fInt, fAbs, fII, fTup, fList, fSortA, fSort, wParG, put1, startR, R.fz, R.val, isiD, clsD, clsL, tyD, insOk, bodyPost, wSeq, wNext, wIfS, wT, w2, oAdd, oAddA, wNewT, wCallK, permL, wMakeK, oSub, oI, oIc, oMulW, oDivW, oMod, oPow, oLt, oLe, oGt, oGe, oEq, wIsN, D.isNon, wChain, wIf, wFld, wTup, wLst, shs, wSet, wOwn, wPar, wPar3, wCall, wMake, wMeth, wExpr, wAsgE, geT, geCons, geNil, geF, putD, wAsgT, gT, gsCons, gsNil, gN, iSeq, iOne, iRng, iZip, wNeg, wAnd, wOr, wNot, seqD, shs, oIx, oIxA, oIn, inD, wPut, setD, wGet2, wNewD, wYes, noX, dcD, blsD, eqD, shD, toPy, toPyL, PyData.eqv, PyData.eqvAll, SeqAt.shaped, PyData.canLay0, PyData.canLayAll0, PyData.depth, PyData.depthAll, and_assoc, sz1, sz2, sz3, kit_self, lookup_hd, lookup_tl, Int.natCast_inj, show ((0 : Nat) : Int) = 0 from rfl, kb_NoneType_bool, kb_NoneType_int, kb_NoneType_str, kb_NoneType_list, kb_NoneType_tuple, kb_NoneType_dict, kb_bool_bool, kb_bool_int, kb_bool_str, kb_bool_list, kb_bool_tuple, kb_bool_dict, kb_int_bool, kb_int_int, kb_int_str, kb_int_list, kb_int_tuple, kb_int_dict, kb_str_bool, kb_str_int, kb_str_str, kb_str_list, kb_str_tuple, kb_str_dict, kb_list_bool, kb_list_int, kb_list_str, kb_list_list, kb_list_tuple, kb_list_dict, kb_tuple_bool, kb_tuple_int, kb_tuple_str, kb_tuple_list, kb_tuple_tuple, kb_tuple_dict, kb_dict_bool, kb_dict_int, kb_dict_str, kb_dict_list, kb_dict_tuple, kb_dict_dict]
  exact hp _ _ (List.getElem_mem hv) h3
end
end L2.TL.W

/-! text K07e -/
set_option Elab.async false
set_option linter.all false
set_option maxRecDepth 100000
set_option maxHeartbeats 4000000
namespace L2.TL.W
open PySem PySem.Spec PyProof.Rows L2.TL
section
variable {K : PySem.W.Frag} {mg : Str → Option Value} {C : Cs} {rs : List R} {os : Os} {P : R → Os → Prop} {PX : Er → Os → Prop}
theorem toPyL_ints : ∀ r : List Int, toPyL (r.map D.int) = r.map PyData.int
  | [] => rfl
  | v :: r => by simp only [List.map_cons, toPyL, toPy, toPyL_ints r]
theorem lay_ints : ∀ r : List Int, PyData.canLayAll0 (r.map PyData.int) = true
  | [] => rfl
  | v :: r => by simp only [List.map_cons, PyData.canLayAll0, PyData.canLay0, lay_ints r, Bool.and_self]
theorem toPy_row (r : List Int) : toPy (rowT r) = .tuple (r.map PyData.int) := by simp only [rowT, toPy, toPyL_ints]
theorem sortOk_rows {rws : List (List Int)} {w : Int} (hr : ∀ r ∈ rws, RowOk w r) (hw : w = 1 ∨ w = 2) (hl : rws.length ≤ 20000) : SortOk (rws.map rowT) := by
  refine ⟨fun d hd => ?_, fun d hd d' hd' => ?_, .inl fun d hd => ?_, fun d hd => ?_, by rw [List.length_map, sizeLine_eq]; omega⟩
  · obtain ⟨r, hrm, rfl⟩ := List.mem_map.mp hd
    rw [toPy_row, PyData.canLay0]; exact lay_ints r
  · rw [List.map_map] at hd hd'
    obtain ⟨r, hrm, rfl⟩ := List.mem_map.mp hd
    obtain ⟨r', hrm', rfl⟩ := List.mem_map.mp hd'
    show PySem.W.alike (toPy (rowT r)) (toPy (rowT r')) = true
    rw [toPy_row, toPy_row]
    simp [PySem.W.alike, PySem.W.alike_ints]
  · rw [List.map_map] at hd
    obtain ⟨r, hrm, rfl⟩ := List.mem_map.mp hd
    obtain ⟨h1, _⟩ := hr r hrm
    cases r with
    | nil => simp at h1; omega
    | cons v r => exact ⟨.int v, r.map .int, by show toPy (rowT (v :: r)) = _; rw [toPy_row]; rfl⟩
  · obtain ⟨r, hrm, rfl⟩ := List.mem_map.mp hd
    rw [toPy_row, PyData.depth, PySem.W.depth_ints]; omega
theorem sortD_rows (rws : List (List Int)) : sortD (rws.map rowT) = (rws.mergeSort leR).map rowT := (List.map_mergeSort (r := leR) (s := leD) (f := rowT) fun a _ b _ => rfl).symm
/-- (tables, rows) side by side, as zip gives them -/
structure Told (C : Cs) (x : D × D) (p : (Str × Int) × List (List Int)) : Prop where
  tb : x.1 = tabD C p.1
  rw : rowsAre x.2 p.2
theorem told_zip (C : Cs) : ∀ {ts : List (Str × Int)} {xs : List D} {wr : List (List (List Int))}, Paired rowsAre xs wr → wr.length = ts.length → Paired (Told C) ((ts.map (tabD C)).zip xs) (ts.zip wr)
  | [], _, [], .nil, _ => .nil
  | t :: ts, _, _ :: _, .cons r q, h => .cons ⟨rfl, r⟩ (told_zip C q (by simpa using h))
  | [], _, _ :: _, .cons _ _, h => by simp at h
  | _ :: _, _, [], .nil, h => by simp at h
theorem Paired.map {α β γ : Type} {R : α → β → Prop} (f : α → γ) (g : β → γ) (h : ∀ a b, R a b → f a = g b) : ∀ {xs : List α} {ys : List β}, Paired R xs ys → xs.map f = ys.map g
  | _, _, .nil => rfl
  | _, _, .cons r t => by rw [List.map_cons, List.map_cons, h _ _ r, Paired.map f g h t]
/-- the ordered rows of what is told, as a tree -/
def ordD (d : D) : D := .tup (sortD ((((seqD d).getD []).foldl (fun a d => putKD a (keysOf d) (.bl true)) ([] : List (List Key × D))).map keyT))
theorem ordD_is {d : D} {rws : List (List Int)} (h : rowsAre d rws) : ordD d = .tup ((ordR rws).map rowT) := by
  obtain ⟨xs, e, pr⟩ := h
  rw [ordD, e, Option.getD_some, fold_once pr, rowK_back, sortD_rows]; rfl
theorem ordR_same {rws : List (List Int)} (h : Srt rws) : ordR rws = rws := by
  unfold ordR
  rw [once_same h.2]
  have e := sort_same h.1
  rw [sortD_rows] at e
  have inj : ∀ a b : List (List Int), a.map rowT = b.map rowT → a = b := by
    intro a
    induction a with
    | nil => intro b h; cases b with
      | nil => rfl
      | cons _ _ => cases h
    | cons r a ih => intro b h; cases b with
      | nil => cases h
      | cons q b =>
        simp only [List.map_cons, List.cons.injEq] at h
        have e : r.map D.int = q.map D.int := D.tup.inj h.1
        have e2 : r = q := by
          have := congrArg (List.map fun d => match d with | D.int i => i | _ => 0) e
          simpa [List.map_map, Function.comp_def] using this
        rw [e2, ih b h.2]
  exact inj _ _ e
theorem l_World_init (T : Txt K mg C) (h : Φ_World_init K C rs os P PX) : w_World_init K C ⟨startR ["self", "tables", "rows", "table", "some", "row"] rs, os⟩ (bodyPost os.length P PX) := by
  obtain ⟨k, ts, xs, wr, rfl, ho, ok, pr, hlen, hr, hp⟩ := h
  have lx : xs.length = wr.length := pr.length
  have pz := told_zip C pr hlen
  simp [w_World_init, wRet, wRetN, wAndV, wOrV, wNotV, wF, wCons, wNil, wV, wC, o1, o2, fIsi, fLen, fAll, fInt, fAbs, fII, fTup, fList, fSortA, fSort, wParG, put1, startR, R.fz, R.val, isiD, clsD, clsL, tyD, insOk, bodyPost, wSeq, wNext, wIfS, wT, w2, oAdd, oAddA, wNewT, wCallK, permL, wMakeK, oSub, oI, oIc, oMulW, oDivW, oMod, oPow, oLt, oLe, oGt, oGe, oEq, wIsN, D.isNon, wChain, wIf, wFld, wTup, wLst, shs, wSet, wOwn, wPar, wPar3, wCall, wMake, wMeth, wExpr, wAsgE, geT, geCons, geNil, geF, putD, wAsgT, gT, gsCons, gsNil, gN, iSeq, iOne, iRng, iZip, wNeg, wAnd, wOr, wNot, seqD, shs, oIx, oIxA, oIn, inD, wPut, setD, wGet2, wNewD, wYes, noX, dcD, blsD, eqD, shD, toPy, toPyL, PyData.eqv, PyData.eqvAll, SeqAt.shaped, PyData.canLay0, PyData.canLayAll0, PyData.depth, PyData.depthAll, and_assoc, sz1, sz2, sz3, kit_self, lookup_hd, lookup_tl, Int.natCast_inj, show ((0 : Nat) : Int) = 0 from rfl, kb_NoneType_bool, kb_NoneType_int, kb_NoneType_str, kb_NoneType_list, kb_NoneType_tuple, kb_NoneType_dict, kb_bool_bool, kb_bool_int, kb_bool_str, kb_bool_list, kb_bool_tuple, kb_bool_dict, kb_int_bool, kb_int_int, kb_int_str, kb_int_list, kb_int_tuple, kb_int_dict, kb_str_bool, kb_str_int, kb_str_str, kb_str_list, kb_str_tuple, kb_str_dict, kb_list_bool, kb_list_int, kb_list_str, kb_list_list, kb_list_tuple, kb_list_dict, kb_tuple_bool, kb_tuple_int, kb_tuple_str, kb_tuple_list, kb_tuple_tuple, kb_tuple_dict, kb_dict_bool, kb_dict_int, kb_dict_str, kb_dict_list, kb_dict_tuple, kb_dict_dict]
  refine ⟨_, ts, rfl, rfl, ok, ?_⟩
  simp [wRet, wRetN, wAndV, wOrV, wNotV, wF, wCons, wNil, wV, wC, o1, o2, fIsi, fLen, fAll, fInt, fAbs, fII, fTup, fList, fSortA, fSort, wParG, put1, startR, R.fz, R.val, isiD, clsD, clsL, tyD, insOk, bodyPost, wSeq, wNext, wIfS, wT, w2, oAdd, oAddA, wNewT, wCallK, permL, wMakeK, oSub, oI, oIc, oMulW, oDivW, oMod, oPow, oLt, oLe, oGt, oGe, oEq, wIsN, D.isNon, wChain, wIf, wFld, wTup, wLst, shs, wSet, wOwn, wPar, wPar3, wCall, wMake, wMeth, wExpr, wAsgE, geT, geCons, geNil, geF, putD, wAsgT, gT, gsCons, gsNil, gN, iSeq, iOne, iRng, iZip, wNeg, wAnd, wOr, wNot, seqD, shs, oIx, oIxA, oIn, inD, wPut, setD, wGet2, wNewD, wYes, noX, dcD, blsD, eqD, shD, toPy, toPyL, PyData.eqv, PyData.eqvAll, SeqAt.shaped, PyData.canLay0, PyData.canLayAll0, PyData.depth, PyData.depthAll, and_assoc, sz1, sz2, sz3, kit_self, lookup_hd, lookup_tl, Int.natCast_inj, show ((0 : Nat) : Int) = 0 from rfl, kb_NoneType_bool, kb_NoneType_int, kb_NoneType_str, kb_NoneType_list, kb_NoneType_tuple, kb_NoneType_dict, kb_bool_bool, kb_bool_int, kb_bool_str, kb_bool_list, kb_bool_tuple, kb_bool_dict, kb_int_bool, kb_int_int, kb_int_str, kb_int_list, kb_int_tuple, kb_int_dict, kb_str_bool, kb_str_int, kb_str_str, kb_str_list, kb_str_tuple, kb_str_dict, kb_list_bool, kb_list_int, kb_list_str, kb_list_list, kb_list_tuple, kb_list_dict, kb_tuple_bool, kb_tuple_int, kb_tuple_str, kb_tuple_list, kb_tuple_tuple, kb_tuple_dict, kb_dict_bool, kb_dict_int, kb_dict_str, kb_dict_list, kb_dict_tuple, kb_dict_dict]
  refine ⟨_, _, _, _, rfl, rfl, ?_⟩
  simp only [lx, hlen, List.length_map, Int.le_refl, decide_true, Bool.and_self]
  simp [zipD, wLc, wipeR, restR, wRet, wRetN, wAndV, wOrV, wNotV, wF, wCons, wNil, wV, wC, o1, o2, fIsi, fLen, fAll, fInt, fAbs, fII, fTup, fList, fSortA, fSort, wParG, put1, startR, R.fz, R.val, isiD, clsD, clsL, tyD, insOk, bodyPost, wSeq, wNext, wIfS, wT, w2, oAdd, oAddA, wNewT, wCallK, permL, wMakeK, oSub, oI, oIc, oMulW, oDivW, oMod, oPow, oLt, oLe, oGt, oGe, oEq, wIsN, D.isNon, wChain, wIf, wFld, wTup, wLst, shs, wSet, wOwn, wPar, wPar3, wCall, wMake, wMeth, wExpr, wAsgE, geT, geCons, geNil, geF, putD, wAsgT, gT, gsCons, gsNil, gN, iSeq, iOne, iRng, iZip, wNeg, wAnd, wOr, wNot, seqD, shs, oIx, oIxA, oIn, inD, wPut, setD, wGet2, wNewD, wYes, noX, dcD, blsD, eqD, shD, toPy, toPyL, PyData.eqv, PyData.eqvAll, SeqAt.shaped, PyData.canLay0, PyData.canLayAll0, PyData.depth, PyData.depthAll, and_assoc, sz1, sz2, sz3, kit_self, lookup_hd, lookup_tl, Int.natCast_inj, show ((0 : Nat) : Int) = 0 from rfl, kb_NoneType_bool, kb_NoneType_int, kb_NoneType_str, kb_NoneType_list, kb_NoneType_tuple, kb_NoneType_dict, kb_bool_bool, kb_bool_int, kb_bool_str, kb_bool_list, kb_bool_tuple, kb_bool_dict, kb_int_bool, kb_int_int, kb_int_str, kb_int_list, kb_int_tuple, kb_int_dict, kb_str_bool, kb_str_int, kb_str_str, kb_str_list, kb_str_tuple, kb_str_dict, kb_list_bool, kb_list_int, kb_list_str, kb_list_list, kb_list_tuple, kb_list_dict, kb_tuple_bool, kb_tuple_int, kb_tuple_str, kb_tuple_list, kb_tuple_tuple, kb_tuple_dict, kb_dict_bool, kb_dict_int, kb_dict_str, kb_dict_list, kb_dict_tuple, kb_dict_dict]
  refine lcL_map2 (f := fun _ => .bl true) rfl (by decide) (fun d hd P PX h => ?_) ?_
  · obtain ⟨p, hm, tz⟩ := Paired.memL pz d hd
    obtain ⟨q1, q2⟩ := hr p hm
    simp [wRet, wRetN, wAndV, wOrV, wNotV, wF, wCons, wNil, wV, wC, o1, o2, fIsi, fLen, fAll, fInt, fAbs, fII, fTup, fList, fSortA, fSort, wParG, put1, startR, R.fz, R.val, isiD, clsD, clsL, tyD, insOk, bodyPost, wSeq, wNext, wIfS, wT, w2, oAdd, oAddA, wNewT, wCallK, permL, wMakeK, oSub, oI, oIc, oMulW, oDivW, oMod, oPow, oLt, oLe, oGt, oGe, oEq, wIsN, D.isNon, wChain, wIf, wFld, wTup, wLst, shs, wSet, wOwn, wPar, wPar3, wCall, wMake, wMeth, wExpr, wAsgE, geT, geCons, geNil, geF, putD, wAsgT, gT, gsCons, gsNil, gN, iSeq, iOne, iRng, iZip, wNeg, wAnd, wOr, wNot, seqD, shs, oIx, oIxA, oIn, inD, wPut, setD, wGet2, wNewD, wYes, noX, dcD, blsD, eqD, shD, toPy, toPyL, PyData.eqv, PyData.eqvAll, SeqAt.shaped, PyData.canLay0, PyData.canLayAll0, PyData.depth, PyData.depthAll, and_assoc, sz1, sz2, sz3, kit_self, lookup_hd, lookup_tl, Int.natCast_inj, show ((0 : Nat) : Int) = 0 from rfl, kb_NoneType_bool, kb_NoneType_int, kb_NoneType_str, kb_NoneType_list, kb_NoneType_tuple, kb_NoneType_dict, kb_bool_bool, kb_bool_int, kb_bool_str, kb_bool_list, kb_bool_tuple, kb_bool_dict, kb_int_bool, kb_int_int, kb_int_str, kb_int_list, kb_int_tuple, kb_int_dict, kb_str_bool, kb_str_int, kb_str_str, kb_str_list, kb_str_tuple, kb_str_dict, kb_list_bool, kb_list_int, kb_list_str, kb_list_list, kb_list_tuple, kb_list_dict, kb_tuple_bool, kb_tuple_int, kb_tuple_str, kb_tuple_list, kb_tuple_tuple, kb_tuple_dict, kb_dict_bool, kb_dict_int, kb_dict_str, kb_dict_list, kb_dict_tuple, kb_dict_dict]
    exact ⟨p.1, d.2, p.2, by rw [tz.tb], tz.rw, q1, q2, h⟩
  · have e3 : ((ts.map (tabD C)).zip xs).map (fun _ => D.bl true) = (((ts.map (tabD C)).zip xs).map fun _ => true).map D.bl := by rw [List.map_map]; rfl
    have e4 : ((((ts.map (tabD C)).zip xs).map fun _ => true).all id) = true := by simp
    simp only [List.nil_append, e3, blsD_map]
    rw [e4]
    simp [ho, wRet, wRetN, wAndV, wOrV, wNotV, wF, wCons, wNil, wV, wC, o1, o2, fIsi, fLen, fAll, fInt, fAbs, fII, fTup, fList, fSortA, fSort, wParG, put1, startR, R.fz, R.val, isiD, clsD, clsL, tyD, insOk, bodyPost, wSeq, wNext, wIfS, wT, w2, oAdd, oAddA, wNewT, wCallK, permL, wMakeK, oSub, oI, oIc, oMulW, oDivW, oMod, oPow, oLt, oLe, oGt, oGe, oEq, wIsN, D.isNon, wChain, wIf, wFld, wTup, wLst, shs, wSet, wOwn, wPar, wPar3, wCall, wMake, wMeth, wExpr, wAsgE, geT, geCons, geNil, geF, putD, wAsgT, gT, gsCons, gsNil, gN, iSeq, iOne, iRng, iZip, wNeg, wAnd, wOr, wNot, seqD, shs, oIx, oIxA, oIn, inD, wPut, setD, wGet2, wNewD, wYes, noX, dcD, blsD, eqD, shD, toPy, toPyL, PyData.eqv, PyData.eqvAll, SeqAt.shaped, PyData.canLay0, PyData.canLayAll0, PyData.depth, PyData.depthAll, and_assoc, sz1, sz2, sz3, kit_self, lookup_hd, lookup_tl, Int.natCast_inj, show ((0 : Nat) : Int) = 0 from rfl, kb_NoneType_bool, kb_NoneType_int, kb_NoneType_str, kb_NoneType_list, kb_NoneType_tuple, kb_NoneType_dict, kb_bool_bool, kb_bool_int, kb_bool_str, kb_bool_list, kb_bool_tuple, kb_bool_dict, kb_int_bool, kb_int_int, kb_int_str, kb_int_list, kb_int_tuple, kb_int_dict, kb_str_bool, kb_str_int, kb_str_str, kb_str_list, kb_str_tuple, kb_str_dict, kb_list_bool, kb_list_int, kb_list_str, kb_list_list, kb_list_tuple, kb_list_dict, kb_tuple_bool, kb_tuple_int, kb_tuple_str, kb_tuple_list, kb_tuple_tuple, kb_tuple_dict, kb_dict_bool, kb_dict_int, kb_dict_str, kb_dict_list, kb_dict_tuple, kb_dict_dict]
    refine lcL_map (f := ordD) rfl (fun d hd P PX h => ?_) ?_
    · have : ∃ p ∈ ts.zip wr, rowsAre d p.2 := by
        obtain ⟨i, hi, e⟩ := List.getElem_of_mem hd
        have hi2 : i < ts.length := by omega
        have hz : i < ((ts.map (tabD C)).zip xs).length := by rw [List.length_zip, List.length_map]; omega
        obtain ⟨p, hm, tz⟩ := Paired.memL pz (((ts.map (tabD C)).zip xs)[i]) (List.getElem_mem hz)
        refine ⟨p, hm, ?_⟩
        have := tz.rw
        rw [List.getElem_zip] at this
        rw [← e]; exact this
      obtain ⟨p, hm, ra⟩ := this
      obtain ⟨q1, q2⟩ := hr p hm
      have hw := (ok.ok _ (List.of_mem_zip hm).1).wd
      have eo := ordD_is ra
      obtain ⟨ys, ey, py⟩ := ra
      have so : SortOk ((once p.2).map (keyT ∘ rowK)) := by
        rw [← List.map_map, rowK_back]
        refine sortOk_rows (fun r hr => q1 r (mem_once.mp hr)) hw ?_
        have := once_le p.2 []
        have h2 : (once p.2).length ≤ p.2.length := by simpa [once] using this
        omega
      have oe : sortD ((once p.2).map (keyT ∘ rowK)) = (ordR p.2).map rowT := by rw [← List.map_map, rowK_back, sortD_rows]; rfl
      rw [eo] at h
      have key : ∀ (Pend : List (List Key × D) → En → Prop) (a b c d e : Option R) (oo : Os), Pend ((once p.2).map rowK) ⟨[a, b, c, d, e, none], oo⟩ →
          wDcL keysD (gN 5) wYes (wF (o1 fTup) (wCons (wV 5) wNil)) (wC (.bl true)) [5] Pend ys [] ⟨[a, b, c, d, e, none], oo⟩ := fun Pend a b c d e oo hP => by
        refine dcL_map (fk := fun d => .tup (itemsOf d)) (fv := fun _ => .bl true) (kk := keysOf) rfl (fun d hd => ?_) (fun d hd P PX h => ?_) (fun d hd P PX h => ?_) ?_
        · obtain ⟨r, hrm, ri⟩ := Paired.memL py d hd
          have e := keysD_row r
          rw [keysOf_row ri]
          rcases ri with rfl | rfl
          all_goals simpa [itemsOf, rowT] using e
        · obtain ⟨r, hrm, ri⟩ := Paired.memL py d hd
          rcases ri with rfl | rfl
          all_goals simpa [itemsOf, wRet, wRetN, wAndV, wOrV, wNotV, wF, wCons, wNil, wV, wC, o1, o2, fIsi, fLen, fAll, fInt, fAbs, fII, fTup, fList, fSortA, fSort, wParG, put1, startR, R.fz, R.val, isiD, clsD, clsL, tyD, insOk, bodyPost, wSeq, wNext, wIfS, wT, w2, oAdd, oAddA, wNewT, wCallK, permL, wMakeK, oSub, oI, oIc, oMulW, oDivW, oMod, oPow, oLt, oLe, oGt, oGe, oEq, wIsN, D.isNon, wChain, wIf, wFld, wTup, wLst, shs, wSet, wOwn, wPar, wPar3, wCall, wMake, wMeth, wExpr, wAsgE, geT, geCons, geNil, geF, putD, wAsgT, gT, gsCons, gsNil, gN, iSeq, iOne, iRng, iZip, wNeg, wAnd, wOr, wNot, seqD, shs, oIx, oIxA, oIn, inD, wPut, setD, wGet2, wNewD, wYes, noX, dcD, blsD, eqD, shD, toPy, toPyL, PyData.eqv, PyData.eqvAll, SeqAt.shaped, PyData.canLay0, PyData.canLayAll0, PyData.depth, PyData.depthAll, and_assoc, sz1, sz2, sz3, kit_self, lookup_hd, lookup_tl, Int.natCast_inj, show ((0 : Nat) : Int) = 0 from rfl, kb_NoneType_bool, kb_NoneType_int, kb_NoneType_str, kb_NoneType_list, kb_NoneType_tuple, kb_NoneType_dict, kb_bool_bool, kb_bool_int, kb_bool_str, kb_bool_list, kb_bool_tuple, kb_bool_dict, kb_int_bool, kb_int_int, kb_int_str, kb_int_list, kb_int_tuple, kb_int_dict, kb_str_bool, kb_str_int, kb_str_str, kb_str_list, kb_str_tuple, kb_str_dict, kb_list_bool, kb_list_int, kb_list_str, kb_list_list, kb_list_tuple, kb_list_dict, kb_tuple_bool, kb_tuple_int, kb_tuple_str, kb_tuple_list, kb_tuple_tuple, kb_tuple_dict, kb_dict_bool, kb_dict_int, kb_dict_str, kb_dict_list, kb_dict_tuple, kb_dict_dict] using h
        · simpa [wRet, wRetN, wAndV, wOrV, wNotV, wF, wCons, wNil, wV, wC, o1, o2, fIsi, fLen, fAll, fInt, fAbs, fII, fTup, fList, fSortA, fSort, wParG, put1, startR, R.fz, R.val, isiD, clsD, clsL, tyD, insOk, bodyPost, wSeq, wNext, wIfS, wT, w2, oAdd, oAddA, wNewT, wCallK, permL, wMakeK, oSub, oI, oIc, oMulW, oDivW, oMod, oPow, oLt, oLe, oGt, oGe, oEq, wIsN, D.isNon, wChain, wIf, wFld, wTup, wLst, shs, wSet, wOwn, wPar, wPar3, wCall, wMake, wMeth, wExpr, wAsgE, geT, geCons, geNil, geF, putD, wAsgT, gT, gsCons, gsNil, gN, iSeq, iOne, iRng, iZip, wNeg, wAnd, wOr, wNot, seqD, shs, oIx, oIxA, oIn, inD, wPut, setD, wGet2, wNewD, wYes, noX, dcD, blsD, eqD, shD, toPy, toPyL, PyData.eqv, PyData.eqvAll, SeqAt.shaped, PyData.canLay0, PyData.canLayAll0, PyData.depth, PyData.depthAll, and_assoc, sz1, sz2, sz3, kit_self, lookup_hd, lookup_tl, Int.natCast_inj, show ((0 : Nat) : Int) = 0 from rfl, kb_NoneType_bool, kb_NoneType_int, kb_NoneType_str, kb_NoneType_list, kb_NoneType_tuple, kb_NoneType_dict, kb_bool_bool, kb_bool_int, kb_bool_str, kb_bool_list, kb_bool_tuple, kb_bool_dict, kb_int_bool, kb_int_int, kb_int_str, kb_int_list, kb_int_tuple, kb_int_dict, kb_str_bool, kb_str_int, kb_str_str, kb_str_list, kb_str_tuple, kb_str_dict, kb_list_bool, kb_list_int, kb_list_str, kb_list_list, kb_list_tuple, kb_list_dict, kb_tuple_bool, kb_tuple_int, kb_tuple_str, kb_tuple_list, kb_tuple_tuple, kb_tuple_dict, kb_dict_bool, kb_dict_int, kb_dict_str, kb_dict_list, kb_dict_tuple, kb_dict_dict] using h
        · rw [fold_once py]; exact hP
      rcases seqD_len ey with rfl | rfl
      all_goals
        simp [wDcT, wipeR, restR, wRet, wRetN, wAndV, wOrV, wNotV, wF, wCons, wNil, wV, wC, o1, o2, fIsi, fLen, fAll, fInt, fAbs, fII, fTup, fList, fSortA, fSort, wParG, put1, startR, R.fz, R.val, isiD, clsD, clsL, tyD, insOk, bodyPost, wSeq, wNext, wIfS, wT, w2, oAdd, oAddA, wNewT, wCallK, permL, wMakeK, oSub, oI, oIc, oMulW, oDivW, oMod, oPow, oLt, oLe, oGt, oGe, oEq, wIsN, D.isNon, wChain, wIf, wFld, wTup, wLst, shs, wSet, wOwn, wPar, wPar3, wCall, wMake, wMeth, wExpr, wAsgE, geT, geCons, geNil, geF, putD, wAsgT, gT, gsCons, gsNil, gN, iSeq, iOne, iRng, iZip, wNeg, wAnd, wOr, wNot, seqD, shs, oIx, oIxA, oIn, inD, wPut, setD, wGet2, wNewD, wYes, noX, dcD, blsD, eqD, shD, toPy, toPyL, PyData.eqv, PyData.eqvAll, SeqAt.shaped, PyData.canLay0, PyData.canLayAll0, PyData.depth, PyData.depthAll, and_assoc, sz1, sz2, sz3, kit_self, lookup_hd, lookup_tl, Int.natCast_inj, show ((0 : Nat) : Int) = 0 from rfl, kb_NoneType_bool, kb_NoneType_int, kb_NoneType_str, kb_NoneType_list, kb_NoneType_tuple, kb_NoneType_dict, kb_bool_bool, kb_bool_int, kb_bool_str, kb_bool_list, kb_bool_tuple, kb_bool_dict, kb_int_bool, kb_int_int, kb_int_str, kb_int_list, kb_int_tuple, kb_int_dict, kb_str_bool, kb_str_int, kb_str_str, kb_str_list, kb_str_tuple, kb_str_dict, kb_list_bool, kb_list_int, kb_list_str, kb_list_list, kb_list_tuple, kb_list_dict, kb_tuple_bool, kb_tuple_int, kb_tuple_str, kb_tuple_list, kb_tuple_tuple, kb_tuple_dict, kb_dict_bool, kb_dict_int, kb_dict_str, kb_dict_list, kb_dict_tuple, kb_dict_dict]
        refine key _ _ _ _ _ _ _ ?_
        simp [so, oe, wRet, wRetN, wAndV, wOrV, wNotV, wF, wCons, wNil, wV, wC, o1, o2, fIsi, fLen, fAll, fInt, fAbs, fII, fTup, fList, fSortA, fSort, wParG, put1, startR, R.fz, R.val, isiD, clsD, clsL, tyD, insOk, bodyPost, wSeq, wNext, wIfS, wT, w2, oAdd, oAddA, wNewT, wCallK, permL, wMakeK, oSub, oI, oIc, oMulW, oDivW, oMod, oPow, oLt, oLe, oGt, oGe, oEq, wIsN, D.isNon, wChain, wIf, wFld, wTup, wLst, shs, wSet, wOwn, wPar, wPar3, wCall, wMake, wMeth, wExpr, wAsgE, geT, geCons, geNil, geF, putD, wAsgT, gT, gsCons, gsNil, gN, iSeq, iOne, iRng, iZip, wNeg, wAnd, wOr, wNot, seqD, shs, oIx, oIxA, oIn, inD, wPut, setD, wGet2, wNewD, wYes, noX, dcD, blsD, eqD, shD, toPy, toPyL, PyData.eqv, PyData.eqvAll, SeqAt.shaped, PyData.canLay0, PyData.canLayAll0, PyData.depth, PyData.depthAll, and_assoc, sz1, sz2, sz3, kit_self, lookup_hd, lookup_tl, Int.natCast_inj, show ((0 : Nat) : Int) = 0 from rfl, kb_NoneType_bool, kb_NoneType_int, kb_NoneType_str, kb_NoneType_list, kb_NoneType_tuple, kb_NoneType_dict, kb_bool_bool, kb_bool_int, kb_bool_str, kb_bool_list, kb_bool_tuple, kb_bool_dict, kb_int_bool, kb_int_int, kb_int_str, kb_int_list, kb_int_tuple, kb_int_dict, kb_str_bool, kb_str_int, kb_str_str, kb_str_list, kb_str_tuple, kb_str_dict, kb_list_bool, kb_list_int, kb_list_str, kb_list_list, kb_list_tuple, kb_list_dict, kb_tuple_bool, kb_tuple_int, kb_tuple_str, kb_tuple_list, kb_tuple_tuple, kb_tuple_dict, kb_dict_bool, kb_dict_int, kb_dict_str, kb_dict_list, kb_dict_tuple, kb_dict_dict]
        simpa using h
    · have e5 : xs.map ordD = wr.map fun r => D.tup ((ordR r).map rowT) := Paired.map _ _ (fun a b h => ordD_is h) pr
      rw [List.nil_append, e5]
      simp [ho, set_at ho, ne_tr, take_set, wRet, wRetN, wAndV, wOrV, wNotV, wF, wCons, wNil, wV, wC, o1, o2, fIsi, fLen, fAll, fInt, fAbs, fII, fTup, fList, fSortA, fSort, wParG, put1, startR, R.fz, R.val, isiD, clsD, clsL, tyD, insOk, bodyPost, wSeq, wNext, wIfS, wT, w2, oAdd, oAddA, wNewT, wCallK, permL, wMakeK, oSub, oI, oIc, oMulW, oDivW, oMod, oPow, oLt, oLe, oGt, oGe, oEq, wIsN, D.isNon, wChain, wIf, wFld, wTup, wLst, shs, wSet, wOwn, wPar, wPar3, wCall, wMake, wMeth, wExpr, wAsgE, geT, geCons, geNil, geF, putD, wAsgT, gT, gsCons, gsNil, gN, iSeq, iOne, iRng, iZip, wNeg, wAnd, wOr, wNot, seqD, shs, oIx, oIxA, oIn, inD, wPut, setD, wGet2, wNewD, wYes, noX, dcD, blsD, eqD, shD, toPy, toPyL, PyData.eqv, PyData.eqvAll, SeqAt.shaped, PyData.canLay0, PyData.canLayAll0, PyData.depth, PyData.depthAll, and_assoc, sz1, sz2, sz3, kit_self, lookup_hd, lookup_tl, Int.natCast_inj, show ((0 : Nat) : Int) = 0 from rfl, kb_NoneType_bool, kb_NoneType_int, kb_NoneType_str, kb_NoneType_list, kb_NoneType_tuple, kb_NoneType_dict, kb_bool_bool, kb_bool_int, kb_bool_str, kb_bool_list, kb_bool_tuple, kb_bool_dict, kb_int_bool, kb_int_int, kb_int_str, kb_int_list, kb_int_tuple, kb_int_dict, kb_str_bool, kb_str_int, kb_str_str, kb_str_list, kb_str_tuple, kb_str_dict, kb_list_bool, kb_list_int, kb_list_str, kb_list_list, kb_list_tuple, kb_list_dict, kb_tuple_bool, kb_tuple_int, kb_tuple_str, kb_tuple_list, kb_tuple_tuple, kb_tuple_dict, kb_dict_bool, kb_dict_int, kb_dict_str, kb_dict_list, kb_dict_tuple, kb_dict_dict]
      simpa [worldD, List.map_map, Function.comp_def] using hp
end
end L2.TL.W

/-! text K07f -/
set_option Elab.async false
set_option linter.all false
set_option maxRecDepth 100000
set_option maxHeartbeats 4000000
namespace L2.TL.W
open PySem PySem.Spec PyProof.Rows L2.TL
def bump (kvs : List (Int × Nat)) (v : Int) : List (Int × Nat) := if (kvs.any fun kv => decide (kv.1 = v)) = true then kvs.map (fun kv => if kv.1 = v then (kv.1, kv.2 + 1) else kv) else kvs ++ [(v, 1)]
def enc (kv : Int × Nat) : Key × D := (.inl kv.1, .int kv.2)
theorem lookupN_none {kvs : List (Int × Nat)} {v : Int} (h : (kvs.any fun kv => decide (kv.1 = v)) = false) : lookupN kvs v = 0 := by
  unfold lookupN
  rw [List.find?_eq_none.mpr]
  · rfl
  · intro kv hk
    have := List.any_eq_false.mp h kv hk
    simpa using this
theorem lookupN_cons (kv : Int × Nat) (kvs : List (Int × Nat)) (v : Int) : lookupN (kv :: kvs) v = if kv.1 = v then kv.2 else lookupN kvs v := by
  unfold lookupN
  rw [List.find?_cons]
  by_cases h : kv.1 = v
  · simp [h]
  · simp [h]
theorem lookupN_mem : ∀ {kvs : List (Int × Nat)} {kv : Int × Nat}, (kvs.map (·.1)).Nodup → kv ∈ kvs → lookupN kvs kv.1 = kv.2
  | a :: kvs, kv, nd, h => by
    rw [List.map_cons, List.nodup_cons] at nd
    rw [lookupN_cons]
    rcases List.mem_cons.mp h with rfl | h
    · rw [if_pos rfl]
    · rw [if_neg]
      · exact lookupN_mem nd.2 h
      · exact fun e => nd.1 (by rw [e]; exact List.mem_map.mpr ⟨kv, h, rfl⟩)
theorem bump_keys (kvs : List (Int × Nat)) (v : Int) : (bump kvs v).map (·.1) = if (kvs.any fun kv => decide (kv.1 = v)) = true then kvs.map (·.1) else kvs.map (·.1) ++ [v] := by
  unfold bump
  split
  · rw [List.map_map]
    refine List.map_congr_left fun kv _ => ?_
    simp only [Function.comp]
    split <;> rfl
  · rw [List.map_append]; rfl
theorem bump_nodup {kvs : List (Int × Nat)} {v : Int} (nd : (kvs.map (·.1)).Nodup) : ((bump kvs v).map (·.1)).Nodup := by
  rw [bump_keys]
  split
  · exact nd
  · rename_i h
    rw [List.nodup_append]
    refine ⟨nd, by simp, fun x hx y hy e => ?_⟩
    rw [List.mem_singleton] at hy
    subst hy; subst e
    obtain ⟨kv, hk, e⟩ := List.mem_map.mp hx
    exact h (List.any_eq_true.mpr ⟨kv, hk, by simpa using e⟩)
theorem lookupN_map (v u : Int) : ∀ kvs : List (Int × Nat), lookupN (kvs.map (fun kv => if kv.1 = v then (kv.1, kv.2 + 1) else kv)) u = if (kvs.any fun kv => decide (kv.1 = u)) = true then lookupN kvs u + (if u = v then 1 else 0) else 0
  | [] => rfl
  | kv :: kvs => by
    rw [List.map_cons, lookupN_cons, lookupN_cons, lookupN_map v u kvs, List.any_cons]
    by_cases h2 : kv.1 = u
    · rw [show decide (kv.1 = u) = true from decide_eq_true h2, Bool.true_or, if_pos rfl, if_pos h2]
      by_cases h1 : kv.1 = v
      · rw [if_pos h1, if_pos h2, if_pos (h2.symm.trans h1)]
      · rw [if_neg h1, if_pos h2, if_neg (fun e => h1 (h2.trans e)), Nat.add_zero]
    · rw [show decide (kv.1 = u) = false from decide_eq_false h2, Bool.false_or, if_neg h2]
      by_cases h1 : kv.1 = v
      · rw [if_pos h1, if_neg h2]
      · rw [if_neg h1, if_neg h2]
theorem lookupN_append (u v : Int) (n : Nat) : ∀ kvs : List (Int × Nat), lookupN (kvs ++ [(v, n)]) u = if (kvs.any fun kv => decide (kv.1 = u)) = true then lookupN kvs u else if v = u then n else 0
  | [] => by rw [List.nil_append, lookupN_cons]; rfl
  | kv :: kvs => by
    rw [List.cons_append, lookupN_cons, lookupN_cons, lookupN_append u v n kvs, List.any_cons]
    by_cases h2 : kv.1 = u
    · rw [show decide (kv.1 = u) = true from decide_eq_true h2, Bool.true_or, if_pos rfl, if_pos h2, if_pos h2]
    · rw [show decide (kv.1 = u) = false from decide_eq_false h2, Bool.false_or, if_neg h2, if_neg h2]
theorem lookupN_bump (kvs : List (Int × Nat)) (v u : Int) : lookupN (bump kvs v) u = lookupN kvs u + if u = v then 1 else 0 := by
  unfold bump
  by_cases h : (kvs.any fun kv => decide (kv.1 = v)) = true
  · rw [if_pos h, lookupN_map]
    by_cases hu : (kvs.any fun kv => decide (kv.1 = u)) = true
    · rw [if_pos hu]
    · rw [if_neg hu, lookupN_none (Bool.not_eq_true _ ▸ hu)]
      have : ¬ u = v := fun e => hu (by rw [e]; exact h)
      rw [if_neg this]
  · rw [if_neg h, lookupN_append]
    by_cases hu : (kvs.any fun kv => decide (kv.1 = u)) = true
    · rw [if_pos hu]
      have : ¬ u = v := fun e => h (by rw [← e]; exact hu)
      rw [if_neg this]; rfl
    · rw [if_neg hu, lookupN_none (Bool.not_eq_true _ ▸ hu)]
      by_cases e : v = u
      · rw [if_pos e, if_pos e.symm]
      · rw [if_neg e, if_neg (fun q => e q.symm)]
theorem any_enc (kvs : List (Int × Nat)) (v : Int) : ((kvs.map enc).any fun kv => decide (kv.1 = Sum.inl v)) = kvs.any fun kv => decide (kv.1 = v) := by
  rw [List.any_map]
  congr 1
  funext kv
  simp [enc]
theorem get_enc (v : Int) : ∀ kvs : List (Int × Nat), getKD (kvs.map enc) (Sum.inl v) = if (kvs.any fun kv => decide (kv.1 = v)) = true then some (.int (lookupN kvs v)) else none
  | [] => rfl
  | kv :: kvs => by
    have ih := get_enc v kvs
    unfold getKD at ih ⊢
    rw [List.map_cons, List.find?_cons, lookupN_cons, List.any_cons]
    by_cases h : kv.1 = v
    · simp [enc, h]
    · have : decide ((enc kv).1 = Sum.inl v) = false := by simp [enc, h]
      rw [this]
      simp only [h, decide_false, Bool.false_or, if_false]
      exact ih
theorem put_enc {kvs : List (Int × Nat)} {v : Int} (nd : (kvs.map (·.1)).Nodup) : putKD (kvs.map enc) (Sum.inl v) (.int ((lookupN kvs v + 1 : Nat))) = (bump kvs v).map enc := by
  unfold putKD bump
  rw [any_enc]
  split
  · rw [List.map_map, List.map_map]
    refine List.map_congr_left fun kv hk => ?_
    by_cases h : kv.1 = v
    · have := lookupN_mem nd hk
      rw [h] at this
      simp [enc, h, this]
    · simp [enc, h]
  · rename_i h
    rw [List.map_append, lookupN_none (Bool.not_eq_true _ ▸ h)]
    rfl
theorem bump_len (kvs : List (Int × Nat)) (v : Int) : (bump kvs v).length ≤ kvs.length + 1 := by
  unfold bump
  split
  · rw [List.length_map]; omega
  · rw [List.length_append]; simp
theorem cnt_snoc (rws : List (List Int)) (r : List Int) (c : Nat) (v : Int) : cnt (rws ++ [r]) c v = cnt rws c v + if v = r.getD c 0 then 1 else 0 := by
  unfold cnt
  rw [List.filter_append, List.length_append]
  congr 1
  by_cases h : r.getD c 0 = v
  · rw [List.filter_cons, if_pos (by simpa using h), if_pos h.symm]; rfl
  · rw [List.filter_cons, if_neg (by simpa using h), if_neg (fun q => h q.symm)]; rfl
section
variable {K : PySem.W.Frag} {mg : Str → Option Value} {C : Cs} {rs : List R} {os : Os} {P : R → Os → Prop} {PX : Er → Os → Prop}
theorem at_row {r : List Int} {c : Nat} (h : r.length = 2) (hc : c ≤ 1) : atI (r.map D.int) (c : Int) = some (.int (r.getD c 0)) := by
  match r, h with
  | [x, y], _ =>
    have : c = 0 ∨ c = 1 := by omega
    rcases this with rfl | rfl <;> rfl
theorem bump_pos {kvs : List (Int × Nat)} {v : Int} (h : ∀ kv ∈ kvs, 0 < kv.2) : ∀ kv ∈ bump kvs v, 0 < kv.2 := by
  intro kv hk
  unfold bump at hk
  split at hk
  · obtain ⟨q, hq, rfl⟩ := List.mem_map.mp hk
    have := h q hq
    split
    · show 0 < q.2 + 1; omega
    · exact this
  · rcases List.mem_append.mp hk with hk | hk
    · exact h kv hk
    · rw [List.mem_singleton] at hk
      subst hk; exact Nat.one_pos
theorem l_crowds (h : Φ_crowds K C rs os P PX) : w_crowds K C ⟨startR ["rows", "column", "found", "row"] rs, os⟩ (bodyPost os.length P PX) := by
  obtain ⟨rws, c, rfl, h2, hc, hl, hp⟩ := h
  simp [w_crowds, wFor, wRet, wRetN, wAndV, wOrV, wNotV, wF, wCons, wNil, wV, wC, o1, o2, fIsi, fLen, fAll, fInt, fAbs, fII, fTup, fList, fSortA, fSort, wParG, put1, startR, R.fz, R.val, isiD, clsD, clsL, tyD, insOk, bodyPost, wSeq, wNext, wIfS, wT, w2, oAdd, oAddA, wNewT, wCallK, permL, wMakeK, oSub, oI, oIc, oMulW, oDivW, oMod, oPow, oLt, oLe, oGt, oGe, oEq, wIsN, D.isNon, wChain, wIf, wFld, wTup, wLst, shs, wSet, wOwn, wPar, wPar3, wCall, wMake, wMeth, wExpr, wAsgE, geT, geCons, geNil, geF, putD, wAsgT, gT, gsCons, gsNil, gN, iSeq, iOne, iRng, iZip, wNeg, wAnd, wOr, wNot, seqD, shs, oIx, oIxA, oIn, inD, wPut, setD, wGet2, wNewD, wYes, noX, dcD, blsD, eqD, shD, toPy, toPyL, PyData.eqv, PyData.eqvAll, SeqAt.shaped, PyData.canLay0, PyData.canLayAll0, PyData.depth, PyData.depthAll, and_assoc, sz1, sz2, sz3, kit_self, lookup_hd, lookup_tl, Int.natCast_inj, show ((0 : Nat) : Int) = 0 from rfl, kb_NoneType_bool, kb_NoneType_int, kb_NoneType_str, kb_NoneType_list, kb_NoneType_tuple, kb_NoneType_dict, kb_bool_bool, kb_bool_int, kb_bool_str, kb_bool_list, kb_bool_tuple, kb_bool_dict, kb_int_bool, kb_int_int, kb_int_str, kb_int_list, kb_int_tuple, kb_int_dict, kb_str_bool, kb_str_int, kb_str_str, kb_str_list, kb_str_tuple, kb_str_dict, kb_list_bool, kb_list_int, kb_list_str, kb_list_list, kb_list_tuple, kb_list_dict, kb_tuple_bool, kb_tuple_int, kb_tuple_str, kb_tuple_list, kb_tuple_tuple, kb_tuple_dict, kb_dict_bool, kb_dict_int, kb_dict_str, kb_dict_list, kb_dict_tuple, kb_dict_dict]
  refine loop_inv (fun ds en => ∃ (done rest : List (List Int)) (kvs : List (Int × Nat)) (q : Option R), rws = done ++ rest ∧ ds = rest.map rowT ∧ en = ⟨[some (.sh (.tup (rws.map rowT))), some (.sh (.int c)), some (.ow os.length), q], os ++ [some (.dk (kvs.map enc))]⟩ ∧ (kvs.map (·.1)).Nodup ∧ (∀ v, lookupN kvs v = cnt done c v) ∧ kvs.length ≤ done.length ∧ ∀ kv ∈ kvs, 0 < kv.2) ?_ ?_ _ _
    ⟨[], rws, [], none, rfl, rfl, rfl, List.nodup_nil, fun v => rfl, Nat.le_refl _, fun kv h => nomatch h⟩
  · rintro en ⟨done, rest, kvs, q, e1, e2, rfl, nd, hk, hlen, hpos⟩
    have : rest = [] := by cases rest with | nil => rfl | cons _ _ => cases e2
    subst this
    rw [List.append_nil] at e1
    subst e1
    simp [wRet, wRetN, wAndV, wOrV, wNotV, wF, wCons, wNil, wV, wC, o1, o2, fIsi, fLen, fAll, fInt, fAbs, fII, fTup, fList, fSortA, fSort, wParG, put1, startR, R.fz, R.val, isiD, clsD, clsL, tyD, insOk, bodyPost, wSeq, wNext, wIfS, wT, w2, oAdd, oAddA, wNewT, wCallK, permL, wMakeK, oSub, oI, oIc, oMulW, oDivW, oMod, oPow, oLt, oLe, oGt, oGe, oEq, wIsN, D.isNon, wChain, wIf, wFld, wTup, wLst, shs, wSet, wOwn, wPar, wPar3, wCall, wMake, wMeth, wExpr, wAsgE, geT, geCons, geNil, geF, putD, wAsgT, gT, gsCons, gsNil, gN, iSeq, iOne, iRng, iZip, wNeg, wAnd, wOr, wNot, seqD, shs, oIx, oIxA, oIn, inD, wPut, setD, wGet2, wNewD, wYes, noX, dcD, blsD, eqD, shD, toPy, toPyL, PyData.eqv, PyData.eqvAll, SeqAt.shaped, PyData.canLay0, PyData.canLayAll0, PyData.depth, PyData.depthAll, and_assoc, sz1, sz2, sz3, kit_self, lookup_hd, lookup_tl, Int.natCast_inj, show ((0 : Nat) : Int) = 0 from rfl, kb_NoneType_bool, kb_NoneType_int, kb_NoneType_str, kb_NoneType_list, kb_NoneType_tuple, kb_NoneType_dict, kb_bool_bool, kb_bool_int, kb_bool_str, kb_bool_list, kb_bool_tuple, kb_bool_dict, kb_int_bool, kb_int_int, kb_int_str, kb_int_list, kb_int_tuple, kb_int_dict, kb_str_bool, kb_str_int, kb_str_str, kb_str_list, kb_str_tuple, kb_str_dict, kb_list_bool, kb_list_int, kb_list_str, kb_list_list, kb_list_tuple, kb_list_dict, kb_tuple_bool, kb_tuple_int, kb_tuple_str, kb_tuple_list, kb_tuple_tuple, kb_tuple_dict, kb_dict_bool, kb_dict_int, kb_dict_str, kb_dict_list, kb_dict_tuple, kb_dict_dict]
    exact hp kvs ⟨nd, hk, hlen, hpos⟩
  · rintro d ds en ⟨done, rest, kvs, q, e1, e2, rfl, nd, hk, hlen, hpos⟩
    cases rest with
    | nil => cases e2
    | cons r rest =>
      simp only [List.map_cons, List.cons.injEq] at e2
      obtain ⟨rfl, rfl⟩ := e2
      have hr : r.length = 2 := h2 r (by rw [e1]; simp)
      have hl2 : kvs.length < sizeLine := by
        have : done.length ≤ rws.length := by rw [e1, List.length_append]; omega
        rw [sizeLine_eq]; omega
      refine ⟨_, rfl, fun N hN => ?_⟩
      have gk := get_enc (r.getD c 0) kvs
      have step : N ⟨[some (.sh (.tup (rws.map rowT))), some (.sh (.int c)), some (.ow os.length), some (.sh (rowT r))], os ++ [some (.dk ((bump kvs (r.getD c 0)).map enc))]⟩ :=
        hN _ ⟨done ++ [r], rest, bump kvs (r.getD c 0), _, by rw [e1]; simp, rfl, rfl, bump_nodup nd, fun v => by rw [lookupN_bump, hk, cnt_snoc], by
          have := bump_len kvs (r.getD c 0)
          rw [List.length_append, List.length_singleton]; omega, bump_pos hpos⟩
      rw [← put_enc nd] at step
      have hat := at_row hr hc
      generalize r.getD c 0 = v at step gk hat
      cases hany : kvs.any fun kv => decide (kv.1 = v) with
      | true =>
        rw [hany, if_pos rfl] at gk
        simp only [rowT] at step ⊢
        simp [hat, getD2, keyD, gk, hl2, wRet, wRetN, wAndV, wOrV, wNotV, wF, wCons, wNil, wV, wC, o1, o2, fIsi, fLen, fAll, fInt, fAbs, fII, fTup, fList, fSortA, fSort, wParG, put1, startR, R.fz, R.val, isiD, clsD, clsL, tyD, insOk, bodyPost, wSeq, wNext, wIfS, wT, w2, oAdd, oAddA, wNewT, wCallK, permL, wMakeK, oSub, oI, oIc, oMulW, oDivW, oMod, oPow, oLt, oLe, oGt, oGe, oEq, wIsN, D.isNon, wChain, wIf, wFld, wTup, wLst, shs, wSet, wOwn, wPar, wPar3, wCall, wMake, wMeth, wExpr, wAsgE, geT, geCons, geNil, geF, putD, wAsgT, gT, gsCons, gsNil, gN, iSeq, iOne, iRng, iZip, wNeg, wAnd, wOr, wNot, seqD, shs, oIx, oIxA, oIn, inD, wPut, setD, wGet2, wNewD, wYes, noX, dcD, blsD, eqD, shD, toPy, toPyL, PyData.eqv, PyData.eqvAll, SeqAt.shaped, PyData.canLay0, PyData.canLayAll0, PyData.depth, PyData.depthAll, and_assoc, sz1, sz2, sz3, kit_self, lookup_hd, lookup_tl, Int.natCast_inj, show ((0 : Nat) : Int) = 0 from rfl, kb_NoneType_bool, kb_NoneType_int, kb_NoneType_str, kb_NoneType_list, kb_NoneType_tuple, kb_NoneType_dict, kb_bool_bool, kb_bool_int, kb_bool_str, kb_bool_list, kb_bool_tuple, kb_bool_dict, kb_int_bool, kb_int_int, kb_int_str, kb_int_list, kb_int_tuple, kb_int_dict, kb_str_bool, kb_str_int, kb_str_str, kb_str_list, kb_str_tuple, kb_str_dict, kb_list_bool, kb_list_int, kb_list_str, kb_list_list, kb_list_tuple, kb_list_dict, kb_tuple_bool, kb_tuple_int, kb_tuple_str, kb_tuple_list, kb_tuple_tuple, kb_tuple_dict, kb_dict_bool, kb_dict_int, kb_dict_str, kb_dict_list, kb_dict_tuple, kb_dict_dict]
        simpa using step
      | false =>
        rw [hany, if_neg Bool.false_ne_true] at gk
        rw [lookupN_none hany] at step
        simp only [rowT] at step ⊢
        simp [hat, getD2, keyD, gk, hl2, wRet, wRetN, wAndV, wOrV, wNotV, wF, wCons, wNil, wV, wC, o1, o2, fIsi, fLen, fAll, fInt, fAbs, fII, fTup, fList, fSortA, fSort, wParG, put1, startR, R.fz, R.val, isiD, clsD, clsL, tyD, insOk, bodyPost, wSeq, wNext, wIfS, wT, w2, oAdd, oAddA, wNewT, wCallK, permL, wMakeK, oSub, oI, oIc, oMulW, oDivW, oMod, oPow, oLt, oLe, oGt, oGe, oEq, wIsN, D.isNon, wChain, wIf, wFld, wTup, wLst, shs, wSet, wOwn, wPar, wPar3, wCall, wMake, wMeth, wExpr, wAsgE, geT, geCons, geNil, geF, putD, wAsgT, gT, gsCons, gsNil, gN, iSeq, iOne, iRng, iZip, wNeg, wAnd, wOr, wNot, seqD, shs, oIx, oIxA, oIn, inD, wPut, setD, wGet2, wNewD, wYes, noX, dcD, blsD, eqD, shD, toPy, toPyL, PyData.eqv, PyData.eqvAll, SeqAt.shaped, PyData.canLay0, PyData.canLayAll0, PyData.depth, PyData.depthAll, and_assoc, sz1, sz2, sz3, kit_self, lookup_hd, lookup_tl, Int.natCast_inj, show ((0 : Nat) : Int) = 0 from rfl, kb_NoneType_bool, kb_NoneType_int, kb_NoneType_str, kb_NoneType_list, kb_NoneType_tuple, kb_NoneType_dict, kb_bool_bool, kb_bool_int, kb_bool_str, kb_bool_list, kb_bool_tuple, kb_bool_dict, kb_int_bool, kb_int_int, kb_int_str, kb_int_list, kb_int_tuple, kb_int_dict, kb_str_bool, kb_str_int, kb_str_str, kb_str_list, kb_str_tuple, kb_str_dict, kb_list_bool, kb_list_int, kb_list_str, kb_list_list, kb_list_tuple, kb_list_dict, kb_tuple_bool, kb_tuple_int, kb_tuple_str, kb_tuple_list, kb_tuple_tuple, kb_tuple_dict, kb_dict_bool, kb_dict_int, kb_dict_str, kb_dict_list, kb_dict_tuple, kb_dict_dict]
        simpa using step
theorem l__law_crowds (h : Φ__law_crowds K C rs os P PX) : w__law_crowds K C ⟨startR ["rows", "column", "found", "row"] rs, os⟩ (bodyPost os.length P PX) := by
  obtain ⟨rws, c, rfl, h2, hc, hl, hp⟩ := h
  simp [w__law_crowds, wFor, wRet, wRetN, wAndV, wOrV, wNotV, wF, wCons, wNil, wV, wC, o1, o2, fIsi, fLen, fAll, fInt, fAbs, fII, fTup, fList, fSortA, fSort, wParG, put1, startR, R.fz, R.val, isiD, clsD, clsL, tyD, insOk, bodyPost, wSeq, wNext, wIfS, wT, w2, oAdd, oAddA, wNewT, wCallK, permL, wMakeK, oSub, oI, oIc, oMulW, oDivW, oMod, oPow, oLt, oLe, oGt, oGe, oEq, wIsN, D.isNon, wChain, wIf, wFld, wTup, wLst, shs, wSet, wOwn, wPar, wPar3, wCall, wMake, wMeth, wExpr, wAsgE, geT, geCons, geNil, geF, putD, wAsgT, gT, gsCons, gsNil, gN, iSeq, iOne, iRng, iZip, wNeg, wAnd, wOr, wNot, seqD, shs, oIx, oIxA, oIn, inD, wPut, setD, wGet2, wNewD, wYes, noX, dcD, blsD, eqD, shD, toPy, toPyL, PyData.eqv, PyData.eqvAll, SeqAt.shaped, PyData.canLay0, PyData.canLayAll0, PyData.depth, PyData.depthAll, and_assoc, sz1, sz2, sz3, kit_self, lookup_hd, lookup_tl, Int.natCast_inj, show ((0 : Nat) : Int) = 0 from rfl, kb_NoneType_bool, kb_NoneType_int, kb_NoneType_str, kb_NoneType_list, kb_NoneType_tuple, kb_NoneType_dict, kb_bool_bool, kb_bool_int, kb_bool_str, kb_bool_list, kb_bool_tuple, kb_bool_dict, kb_int_bool, kb_int_int, kb_int_str, kb_int_list, kb_int_tuple, kb_int_dict, kb_str_bool, kb_str_int, kb_str_str, kb_str_list, kb_str_tuple, kb_str_dict, kb_list_bool, kb_list_int, kb_list_str, kb_list_list, kb_list_tuple, kb_list_dict, kb_tuple_bool, kb_tuple_int, kb_tuple_str, kb_tuple_list, kb_tuple_tuple, kb_tuple_dict, kb_dict_bool, kb_dict_int, kb_dict_str, kb_dict_list, kb_dict_tuple, kb_dict_dict]
  refine loop_inv (fun ds en => ∃ (done rest : List (List Int)) (kvs : List (Int × Nat)) (q : Option R), rws = done ++ rest ∧ ds = rest.map rowT ∧ en = ⟨[some (.sh (.tup (rws.map rowT))), some (.sh (.int c)), some (.ow os.length), q], os ++ [some (.dk (kvs.map enc))]⟩ ∧ (kvs.map (·.1)).Nodup ∧ (∀ v, lookupN kvs v = cnt done c v) ∧ kvs.length ≤ done.length ∧ ∀ kv ∈ kvs, 0 < kv.2) ?_ ?_ _ _
    ⟨[], rws, [], none, rfl, rfl, rfl, List.nodup_nil, fun v => rfl, Nat.le_refl _, fun kv h => nomatch h⟩
  · rintro en ⟨done, rest, kvs, q, e1, e2, rfl, nd, hk, hlen, hpos⟩
    have : rest = [] := by cases rest with | nil => rfl | cons _ _ => cases e2
    subst this
    rw [List.append_nil] at e1
    subst e1
    simp [wRet, wRetN, wAndV, wOrV, wNotV, wF, wCons, wNil, wV, wC, o1, o2, fIsi, fLen, fAll, fInt, fAbs, fII, fTup, fList, fSortA, fSort, wParG, put1, startR, R.fz, R.val, isiD, clsD, clsL, tyD, insOk, bodyPost, wSeq, wNext, wIfS, wT, w2, oAdd, oAddA, wNewT, wCallK, permL, wMakeK, oSub, oI, oIc, oMulW, oDivW, oMod, oPow, oLt, oLe, oGt, oGe, oEq, wIsN, D.isNon, wChain, wIf, wFld, wTup, wLst, shs, wSet, wOwn, wPar, wPar3, wCall, wMake, wMeth, wExpr, wAsgE, geT, geCons, geNil, geF, putD, wAsgT, gT, gsCons, gsNil, gN, iSeq, iOne, iRng, iZip, wNeg, wAnd, wOr, wNot, seqD, shs, oIx, oIxA, oIn, inD, wPut, setD, wGet2, wNewD, wYes, noX, dcD, blsD, eqD, shD, toPy, toPyL, PyData.eqv, PyData.eqvAll, SeqAt.shaped, PyData.canLay0, PyData.canLayAll0, PyData.depth, PyData.depthAll, and_assoc, sz1, sz2, sz3, kit_self, lookup_hd, lookup_tl, Int.natCast_inj, show ((0 : Nat) : Int) = 0 from rfl, kb_NoneType_bool, kb_NoneType_int, kb_NoneType_str, kb_NoneType_list, kb_NoneType_tuple, kb_NoneType_dict, kb_bool_bool, kb_bool_int, kb_bool_str, kb_bool_list, kb_bool_tuple, kb_bool_dict, kb_int_bool, kb_int_int, kb_int_str, kb_int_list, kb_int_tuple, kb_int_dict, kb_str_bool, kb_str_int, kb_str_str, kb_str_list, kb_str_tuple, kb_str_dict, kb_list_bool, kb_list_int, kb_list_str, kb_list_list, kb_list_tuple, kb_list_dict, kb_tuple_bool, kb_tuple_int, kb_tuple_str, kb_tuple_list, kb_tuple_tuple, kb_tuple_dict, kb_dict_bool, kb_dict_int, kb_dict_str, kb_dict_list, kb_dict_tuple, kb_dict_dict]
    exact hp kvs ⟨nd, hk, hlen, hpos⟩
  · rintro d ds en ⟨done, rest, kvs, q, e1, e2, rfl, nd, hk, hlen, hpos⟩
    cases rest with
    | nil => cases e2
    | cons r rest =>
      simp only [List.map_cons, List.cons.injEq] at e2
      obtain ⟨rfl, rfl⟩ := e2
      have hr : r.length = 2 := h2 r (by rw [e1]; simp)
      have hl2 : kvs.length < sizeLine := by
        have : done.length ≤ rws.length := by rw [e1, List.length_append]; omega
        rw [sizeLine_eq]; omega
      refine ⟨_, rfl, fun N hN => ?_⟩
      have gk := get_enc (r.getD c 0) kvs
      have step : N ⟨[some (.sh (.tup (rws.map rowT))), some (.sh (.int c)), some (.ow os.length), some (.sh (rowT r))], os ++ [some (.dk ((bump kvs (r.getD c 0)).map enc))]⟩ :=
        hN _ ⟨done ++ [r], rest, bump kvs (r.getD c 0), _, by rw [e1]; simp, rfl, rfl, bump_nodup nd, fun v => by rw [lookupN_bump, hk, cnt_snoc], by
          have := bump_len kvs (r.getD c 0)
          rw [List.length_append, List.length_singleton]; omega, bump_pos hpos⟩
      rw [← put_enc nd] at step
      have hat := at_row hr hc
      generalize r.getD c 0 = v at step gk hat
      cases hany : kvs.any fun kv => decide (kv.1 = v) with
      | true =>
        rw [hany, if_pos rfl] at gk
        simp only [rowT] at step ⊢
        simp [hat, getD2, keyD, gk, hl2, wRet, wRetN, wAndV, wOrV, wNotV, wF, wCons, wNil, wV, wC, o1, o2, fIsi, fLen, fAll, fInt, fAbs, fII, fTup, fList, fSortA, fSort, wParG, put1, startR, R.fz, R.val, isiD, clsD, clsL, tyD, insOk, bodyPost, wSeq, wNext, wIfS, wT, w2, oAdd, oAddA, wNewT, wCallK, permL, wMakeK, oSub, oI, oIc, oMulW, oDivW, oMod, oPow, oLt, oLe, oGt, oGe, oEq, wIsN, D.isNon, wChain, wIf, wFld, wTup, wLst, shs, wSet, wOwn, wPar, wPar3, wCall, wMake, wMeth, wExpr, wAsgE, geT, geCons, geNil, geF, putD, wAsgT, gT, gsCons, gsNil, gN, iSeq, iOne, iRng, iZip, wNeg, wAnd, wOr, wNot, seqD, shs, oIx, oIxA, oIn, inD, wPut, setD, wGet2, wNewD, wYes, noX, dcD, blsD, eqD, shD, toPy, toPyL, PyData.eqv, PyData.eqvAll, SeqAt.shaped, PyData.canLay0, PyData.canLayAll0, PyData.depth, PyData.depthAll, and_assoc, sz1, sz2, sz3, kit_self, lookup_hd, lookup_tl, Int.natCast_inj, show ((0 : Nat) : Int) = 0 from rfl, kb_NoneType_bool, kb_NoneType_int, kb_NoneType_str, kb_NoneType_list, kb_NoneType_tuple, kb_NoneType_dict, kb_bool_bool, kb_bool_int, kb_bool_str, kb_bool_list, kb_bool_tuple, kb_bool_dict, kb_int_bool, kb_int_int, kb_int_str, kb_int_list, kb_int_tuple, kb_int_dict, kb_str_bool, kb_str_int, kb_str_str, kb_str_list, kb_str_tuple, kb_str_dict, kb_list_bool, kb_list_int, kb_list_str, kb_list_list, kb_list_tuple, kb_list_dict, kb_tuple_bool, kb_tuple_int, kb_tuple_str, kb_tuple_list, kb_tuple_tuple, kb_tuple_dict, kb_dict_bool, kb_dict_int, kb_dict_str, kb_dict_list, kb_dict_tuple, kb_dict_dict]
        simpa using step
      | false =>
        rw [hany, if_neg Bool.false_ne_true] at gk
        rw [lookupN_none hany] at step
        simp only [rowT] at step ⊢
        simp [hat, getD2, keyD, gk, hl2, wRet, wRetN, wAndV, wOrV, wNotV, wF, wCons, wNil, wV, wC, o1, o2, fIsi, fLen, fAll, fInt, fAbs, fII, fTup, fList, fSortA, fSort, wParG, put1, startR, R.fz, R.val, isiD, clsD, clsL, tyD, insOk, bodyPost, wSeq, wNext, wIfS, wT, w2, oAdd, oAddA, wNewT, wCallK, permL, wMakeK, oSub, oI, oIc, oMulW, oDivW, oMod, oPow, oLt, oLe, oGt, oGe, oEq, wIsN, D.isNon, wChain, wIf, wFld, wTup, wLst, shs, wSet, wOwn, wPar, wPar3, wCall, wMake, wMeth, wExpr, wAsgE, geT, geCons, geNil, geF, putD, wAsgT, gT, gsCons, gsNil, gN, iSeq, iOne, iRng, iZip, wNeg, wAnd, wOr, wNot, seqD, shs, oIx, oIxA, oIn, inD, wPut, setD, wGet2, wNewD, wYes, noX, dcD, blsD, eqD, shD, toPy, toPyL, PyData.eqv, PyData.eqvAll, SeqAt.shaped, PyData.canLay0, PyData.canLayAll0, PyData.depth, PyData.depthAll, and_assoc, sz1, sz2, sz3, kit_self, lookup_hd, lookup_tl, Int.natCast_inj, show ((0 : Nat) : Int) = 0 from rfl, kb_NoneType_bool, kb_NoneType_int, kb_NoneType_str, kb_NoneType_list, kb_NoneType_tuple, kb_NoneType_dict, kb_bool_bool, kb_bool_int, kb_bool_str, kb_bool_list, kb_bool_tuple, kb_bool_dict, kb_int_bool, kb_int_int, kb_int_str, kb_int_list, kb_int_tuple, kb_int_dict, kb_str_bool, kb_str_int, kb_str_str, kb_str_list, kb_str_tuple, kb_str_dict, kb_list_bool, kb_list_int, kb_list_str, kb_list_list, kb_list_tuple, kb_list_dict, kb_tuple_bool, kb_tuple_int, kb_tuple_str, kb_tuple_list, kb_tuple_tuple, kb_tuple_dict, kb_dict_bool, kb_dict_int, kb_dict_str, kb_dict_list, kb_dict_tuple, kb_dict_dict]
        simpa using step
end
end L2.TL.W

/-! text K07g -/
set_option Elab.async false
set_option linter.all false
set_option maxRecDepth 100000
set_option maxHeartbeats 4000000
namespace L2.TL.W
open PySem PySem.Spec PyProof.Rows L2.TL
theorem cnt_le (rws : List (List Int)) (c : Nat) (v : Int) : cnt rws c v ≤ rws.length := List.length_filter_le ..
theorem cnt_pos {rws : List (List Int)} {c : Nat} {r : List Int} (h : r ∈ rws) : 0 < cnt rws c (r.getD c 0) := List.length_pos_of_mem (List.mem_filter.mpr ⟨h, by simp⟩)
theorem any_of_pos {kvs : List (Int × Nat)} {v : Int} (h : 0 < lookupN kvs v) : (kvs.any fun kv => decide (kv.1 = v)) = true := by
  cases e : kvs.any fun kv => decide (kv.1 = v) with
  | true => rfl
  | false => rw [lookupN_none e] at h; exact absurd h (Nat.lt_irrefl 0)
def encB (b base a : Nat) (kv : Int × Nat) : Key × D := (.inl kv.1, .bl (decide (kv.2 ^ b ≤ base ^ a)))
theorem get_encB {b base a : Nat} (v : Int) : ∀ kvs : List (Int × Nat), (kvs.any fun kv => decide (kv.1 = v)) = true → getKD (kvs.map (encB b base a)) (Sum.inl v) = some (.bl (decide (lookupN kvs v ^ b ≤ base ^ a)))
  | [], h => by cases h
  | kv :: kvs, h => by
    have ih := get_encB (b := b) (base := base) (a := a) v kvs
    unfold getKD at ih ⊢
    rw [List.map_cons, List.find?_cons, lookupN_cons]
    by_cases h1 : kv.1 = v
    · simp [encB, h1]
    · have : decide ((encB b base a kv).1 = Sum.inl v) = false := by simp [encB, h1]
      rw [this]
      rw [List.any_cons, decide_eq_false h1, Bool.false_or] at h
      simp only [h1, if_false]
      exact ih h
section
variable {K : PySem.W.Frag} {mg : Str → Option Value} {C : Cs} {rs : List R} {os : Os} {P : R → Os → Prop} {PX : Er → Os → Prop}
theorem l_parts_of (T : Txt K mg C) (h : Φ_parts_of K C rs os P PX) : w_parts_of K C ⟨startR ["rows", "split", "base", "many", "light", "value", "some", "few", "row"] rs, os⟩ (bodyPost os.length P PX) := by
  obtain ⟨rws, t, c, a, b, base, rfl, h2, hc, hl, ha, hb, hbase, hp⟩ := h
  simp only [splitD]
  simp [w_parts_of, T.k_Split, T.n_Split_column, lookup_tl ne_ct, wRet, wRetN, wAndV, wOrV, wNotV, wF, wCons, wNil, wV, wC, o1, o2, fIsi, fLen, fAll, fInt, fAbs, fII, fTup, fList, fSortA, fSort, wParG, put1, startR, R.fz, R.val, isiD, clsD, clsL, tyD, insOk, bodyPost, wSeq, wNext, wIfS, wT, w2, oAdd, oAddA, wNewT, wCallK, permL, wMakeK, oSub, oI, oIc, oMulW, oDivW, oMod, oPow, oLt, oLe, oGt, oGe, oEq, wIsN, D.isNon, wChain, wIf, wFld, wTup, wLst, shs, wSet, wOwn, wPar, wPar3, wCall, wMake, wMeth, wExpr, wAsgE, geT, geCons, geNil, geF, putD, wAsgT, gT, gsCons, gsNil, gN, iSeq, iOne, iRng, iZip, wNeg, wAnd, wOr, wNot, seqD, shs, oIx, oIxA, oIn, inD, wPut, setD, wGet2, wNewD, wYes, noX, dcD, blsD, eqD, shD, toPy, toPyL, PyData.eqv, PyData.eqvAll, SeqAt.shaped, PyData.canLay0, PyData.canLayAll0, PyData.depth, PyData.depthAll, and_assoc, sz1, sz2, sz3, kit_self, lookup_hd, lookup_tl, Int.natCast_inj, show ((0 : Nat) : Int) = 0 from rfl, kb_NoneType_bool, kb_NoneType_int, kb_NoneType_str, kb_NoneType_list, kb_NoneType_tuple, kb_NoneType_dict, kb_bool_bool, kb_bool_int, kb_bool_str, kb_bool_list, kb_bool_tuple, kb_bool_dict, kb_int_bool, kb_int_int, kb_int_str, kb_int_list, kb_int_tuple, kb_int_dict, kb_str_bool, kb_str_int, kb_str_str, kb_str_list, kb_str_tuple, kb_str_dict, kb_list_bool, kb_list_int, kb_list_str, kb_list_list, kb_list_tuple, kb_list_dict, kb_tuple_bool, kb_tuple_int, kb_tuple_str, kb_tuple_list, kb_tuple_tuple, kb_tuple_dict, kb_dict_bool, kb_dict_int, kb_dict_str, kb_dict_list, kb_dict_tuple, kb_dict_dict]
  refine ⟨rws, c, rfl, h2, hc, hl, fun kvs ⟨nd, hk, hlen, _⟩ => ?_⟩
  unfold crowdD
  have hz : (kvs.map fun kv => ((.inl kv.1, .int kv.2) : Key × D)).length ≤ sizeLine := by rw [List.length_map, sizeLine_eq]; omega
  have ei : (kvs.map fun kv => ((.inl kv.1, .int kv.2) : Key × D)).map itemD = (kvs.map fun kv => (D.int kv.1, D.int (kv.2 : Int))).map fun p => .tup [p.1, p.2] := by
    rw [List.map_map, List.map_map]; rfl
  simp only [wSeq, wSet, wDc, iOne, wV, itemsD]
  simp [hz, ei, wipeR, restR, wRet, wRetN, wAndV, wOrV, wNotV, wF, wCons, wNil, wV, wC, o1, o2, fIsi, fLen, fAll, fInt, fAbs, fII, fTup, fList, fSortA, fSort, wParG, put1, startR, R.fz, R.val, isiD, clsD, clsL, tyD, insOk, bodyPost, wSeq, wNext, wIfS, wT, w2, oAdd, oAddA, wNewT, wCallK, permL, wMakeK, oSub, oI, oIc, oMulW, oDivW, oMod, oPow, oLt, oLe, oGt, oGe, oEq, wIsN, D.isNon, wChain, wIf, wFld, wTup, wLst, shs, wSet, wOwn, wPar, wPar3, wCall, wMake, wMeth, wExpr, wAsgE, geT, geCons, geNil, geF, putD, wAsgT, gT, gsCons, gsNil, gN, iSeq, iOne, iRng, iZip, wNeg, wAnd, wOr, wNot, seqD, shs, oIx, oIxA, oIn, inD, wPut, setD, wGet2, wNewD, wYes, noX, dcD, blsD, eqD, shD, toPy, toPyL, PyData.eqv, PyData.eqvAll, SeqAt.shaped, PyData.canLay0, PyData.canLayAll0, PyData.depth, PyData.depthAll, and_assoc, sz1, sz2, sz3, kit_self, lookup_hd, lookup_tl, Int.natCast_inj, show ((0 : Nat) : Int) = 0 from rfl, kb_NoneType_bool, kb_NoneType_int, kb_NoneType_str, kb_NoneType_list, kb_NoneType_tuple, kb_NoneType_dict, kb_bool_bool, kb_bool_int, kb_bool_str, kb_bool_list, kb_bool_tuple, kb_bool_dict, kb_int_bool, kb_int_int, kb_int_str, kb_int_list, kb_int_tuple, kb_int_dict, kb_str_bool, kb_str_int, kb_str_str, kb_str_list, kb_str_tuple, kb_str_dict, kb_list_bool, kb_list_int, kb_list_str, kb_list_list, kb_list_tuple, kb_list_dict, kb_tuple_bool, kb_tuple_int, kb_tuple_str, kb_tuple_list, kb_tuple_tuple, kb_tuple_dict, kb_dict_bool, kb_dict_int, kb_dict_str, kb_dict_list, kb_dict_tuple, kb_dict_dict]
  rw [if_pos (by rw [List.length_map] at hz; exact hz)]
  rw [← List.map_map]
  have hcnt : ∀ kv ∈ kvs, kv.2 ≤ 20000 := fun kv hm => by
    rw [← lookupN_mem nd hm, hk]; exact Nat.le_trans (cnt_le ..) hl
  refine dcL_map2 (fk := fun d => d.1) (fv := fun d => match d.2 with | .int n => .bl (decide (n.toNat ^ b ≤ base ^ a)) | _ => .non) (kk := fun d => match d.1 with | .int v => .inl v | _ => .inl 0) rfl (by decide) (fun d hd => ?_) (fun d hd P PX h => ?_) (fun d hd P PX h => ?_) ?_
  · obtain ⟨kv, hm, rfl⟩ := List.mem_map.mp hd
    rfl
  · simpa [wRet, wRetN, wAndV, wOrV, wNotV, wF, wCons, wNil, wV, wC, o1, o2, fIsi, fLen, fAll, fInt, fAbs, fII, fTup, fList, fSortA, fSort, wParG, put1, startR, R.fz, R.val, isiD, clsD, clsL, tyD, insOk, bodyPost, wSeq, wNext, wIfS, wT, w2, oAdd, oAddA, wNewT, wCallK, permL, wMakeK, oSub, oI, oIc, oMulW, oDivW, oMod, oPow, oLt, oLe, oGt, oGe, oEq, wIsN, D.isNon, wChain, wIf, wFld, wTup, wLst, shs, wSet, wOwn, wPar, wPar3, wCall, wMake, wMeth, wExpr, wAsgE, geT, geCons, geNil, geF, putD, wAsgT, gT, gsCons, gsNil, gN, iSeq, iOne, iRng, iZip, wNeg, wAnd, wOr, wNot, seqD, shs, oIx, oIxA, oIn, inD, wPut, setD, wGet2, wNewD, wYes, noX, dcD, blsD, eqD, shD, toPy, toPyL, PyData.eqv, PyData.eqvAll, SeqAt.shaped, PyData.canLay0, PyData.canLayAll0, PyData.depth, PyData.depthAll, and_assoc, sz1, sz2, sz3, kit_self, lookup_hd, lookup_tl, Int.natCast_inj, show ((0 : Nat) : Int) = 0 from rfl, kb_NoneType_bool, kb_NoneType_int, kb_NoneType_str, kb_NoneType_list, kb_NoneType_tuple, kb_NoneType_dict, kb_bool_bool, kb_bool_int, kb_bool_str, kb_bool_list, kb_bool_tuple, kb_bool_dict, kb_int_bool, kb_int_int, kb_int_str, kb_int_list, kb_int_tuple, kb_int_dict, kb_str_bool, kb_str_int, kb_str_str, kb_str_list, kb_str_tuple, kb_str_dict, kb_list_bool, kb_list_int, kb_list_str, kb_list_list, kb_list_tuple, kb_list_dict, kb_tuple_bool, kb_tuple_int, kb_tuple_str, kb_tuple_list, kb_tuple_tuple, kb_tuple_dict, kb_dict_bool, kb_dict_int, kb_dict_str, kb_dict_list, kb_dict_tuple, kb_dict_dict] using h
  · obtain ⟨kv, hm, rfl⟩ := List.mem_map.mp hd
    simp [T.k_Split, T.n_Split_threshold, lookup_tl ne_tt, lookup_tl ne_tc, wRet, wRetN, wAndV, wOrV, wNotV, wF, wCons, wNil, wV, wC, o1, o2, fIsi, fLen, fAll, fInt, fAbs, fII, fTup, fList, fSortA, fSort, wParG, put1, startR, R.fz, R.val, isiD, clsD, clsL, tyD, insOk, bodyPost, wSeq, wNext, wIfS, wT, w2, oAdd, oAddA, wNewT, wCallK, permL, wMakeK, oSub, oI, oIc, oMulW, oDivW, oMod, oPow, oLt, oLe, oGt, oGe, oEq, wIsN, D.isNon, wChain, wIf, wFld, wTup, wLst, shs, wSet, wOwn, wPar, wPar3, wCall, wMake, wMeth, wExpr, wAsgE, geT, geCons, geNil, geF, putD, wAsgT, gT, gsCons, gsNil, gN, iSeq, iOne, iRng, iZip, wNeg, wAnd, wOr, wNot, seqD, shs, oIx, oIxA, oIn, inD, wPut, setD, wGet2, wNewD, wYes, noX, dcD, blsD, eqD, shD, toPy, toPyL, PyData.eqv, PyData.eqvAll, SeqAt.shaped, PyData.canLay0, PyData.canLayAll0, PyData.depth, PyData.depthAll, and_assoc, sz1, sz2, sz3, kit_self, lookup_hd, lookup_tl, Int.natCast_inj, show ((0 : Nat) : Int) = 0 from rfl, kb_NoneType_bool, kb_NoneType_int, kb_NoneType_str, kb_NoneType_list, kb_NoneType_tuple, kb_NoneType_dict, kb_bool_bool, kb_bool_int, kb_bool_str, kb_bool_list, kb_bool_tuple, kb_bool_dict, kb_int_bool, kb_int_int, kb_int_str, kb_int_list, kb_int_tuple, kb_int_dict, kb_str_bool, kb_str_int, kb_str_str, kb_str_list, kb_str_tuple, kb_str_dict, kb_list_bool, kb_list_int, kb_list_str, kb_list_list, kb_list_tuple, kb_list_dict, kb_tuple_bool, kb_tuple_int, kb_tuple_str, kb_tuple_list, kb_tuple_tuple, kb_tuple_dict, kb_dict_bool, kb_dict_int, kb_dict_str, kb_dict_list, kb_dict_tuple, kb_dict_dict]
    refine ⟨kv.2, base, a, b, rfl, by have := hcnt kv hm; omega, by omega, ha, hb, ?_⟩
    simpa using h
  rw [fold_put]
  · have el : ([] : List (Key × D)) ++ ((kvs.map fun kv => (D.int kv.1, D.int (kv.2 : Int))).map fun d => ((match d.1 with | .int v => (.inl v : Key) | _ => .inl 0), (match d.2 with | .int n => D.bl (decide (n.toNat ^ b ≤ base ^ a)) | _ => .non))) = kvs.map (encB b base a) := by
      rw [List.nil_append, List.map_map]; rfl
    rw [el]
    have pr : ∀ r ∈ rws, getKD (kvs.map (encB b base a)) (Sum.inl (r.getD c 0)) = some (.bl (decide (cnt rws c (r.getD c 0) ^ b ≤ base ^ a))) := fun r hr => by
      rw [get_encB _ _ (any_of_pos (by rw [hk]; exact cnt_pos hr)), hk]
    have pf : ∀ (g : Bool → Bool), ((rws.map rowT).filter fun d => match d with | .tup xs => (match atI xs (c : Int) with | some (.int v) => g (decide (cnt rws c v ^ b ≤ base ^ a)) | _ => false) | _ => false).map id = (rws.filter fun r => g (lightR rws c a b base r)).map rowT := fun g => by
      rw [List.map_id, List.filter_map]
      congr 1
      refine List.filter_congr fun r hr => ?_
      simp only [Function.comp, rowT, at_row (h2 r hr) hc]; rfl
    simp [wLc, wipeR, restR, wRet, wRetN, wAndV, wOrV, wNotV, wF, wCons, wNil, wV, wC, o1, o2, fIsi, fLen, fAll, fInt, fAbs, fII, fTup, fList, fSortA, fSort, wParG, put1, startR, R.fz, R.val, isiD, clsD, clsL, tyD, insOk, bodyPost, wSeq, wNext, wIfS, wT, w2, oAdd, oAddA, wNewT, wCallK, permL, wMakeK, oSub, oI, oIc, oMulW, oDivW, oMod, oPow, oLt, oLe, oGt, oGe, oEq, wIsN, D.isNon, wChain, wIf, wFld, wTup, wLst, shs, wSet, wOwn, wPar, wPar3, wCall, wMake, wMeth, wExpr, wAsgE, geT, geCons, geNil, geF, putD, wAsgT, gT, gsCons, gsNil, gN, iSeq, iOne, iRng, iZip, wNeg, wAnd, wOr, wNot, seqD, shs, oIx, oIxA, oIn, inD, wPut, setD, wGet2, wNewD, wYes, noX, dcD, blsD, eqD, shD, toPy, toPyL, PyData.eqv, PyData.eqvAll, SeqAt.shaped, PyData.canLay0, PyData.canLayAll0, PyData.depth, PyData.depthAll, and_assoc, sz1, sz2, sz3, kit_self, lookup_hd, lookup_tl, Int.natCast_inj, show ((0 : Nat) : Int) = 0 from rfl, kb_NoneType_bool, kb_NoneType_int, kb_NoneType_str, kb_NoneType_list, kb_NoneType_tuple, kb_NoneType_dict, kb_bool_bool, kb_bool_int, kb_bool_str, kb_bool_list, kb_bool_tuple, kb_bool_dict, kb_int_bool, kb_int_int, kb_int_str, kb_int_list, kb_int_tuple, kb_int_dict, kb_str_bool, kb_str_int, kb_str_str, kb_str_list, kb_str_tuple, kb_str_dict, kb_list_bool, kb_list_int, kb_list_str, kb_list_list, kb_list_tuple, kb_list_dict, kb_tuple_bool, kb_tuple_int, kb_tuple_str, kb_tuple_list, kb_tuple_tuple, kb_tuple_dict, kb_dict_bool, kb_dict_int, kb_dict_str, kb_dict_list, kb_dict_tuple, kb_dict_dict]
    refine lcL_fm (p := fun d => match d with | .tup xs => (match atI xs (c : Int) with | some (.int v) => decide (cnt rws c v ^ b ≤ base ^ a) | _ => false) | _ => false) (f := id) rfl _ _ (fun d hd P PX h => ?_) (fun d hd _ P PX h => ?_) ?_
    · obtain ⟨r, hr, rfl⟩ := List.mem_map.mp hd
      have e1 := pr r hr
      have e2 := at_row (h2 r hr) hc
      simp only [rowT] at h ⊢
      generalize r.getD c 0 = v at e1 e2
      simp [e2, getD2, keyD, e1, T.k_Split, T.n_Split_column, lookup_tl ne_ct, wRet, wRetN, wAndV, wOrV, wNotV, wF, wCons, wNil, wV, wC, o1, o2, fIsi, fLen, fAll, fInt, fAbs, fII, fTup, fList, fSortA, fSort, wParG, put1, startR, R.fz, R.val, isiD, clsD, clsL, tyD, insOk, bodyPost, wSeq, wNext, wIfS, wT, w2, oAdd, oAddA, wNewT, wCallK, permL, wMakeK, oSub, oI, oIc, oMulW, oDivW, oMod, oPow, oLt, oLe, oGt, oGe, oEq, wIsN, D.isNon, wChain, wIf, wFld, wTup, wLst, shs, wSet, wOwn, wPar, wPar3, wCall, wMake, wMeth, wExpr, wAsgE, geT, geCons, geNil, geF, putD, wAsgT, gT, gsCons, gsNil, gN, iSeq, iOne, iRng, iZip, wNeg, wAnd, wOr, wNot, seqD, shs, oIx, oIxA, oIn, inD, wPut, setD, wGet2, wNewD, wYes, noX, dcD, blsD, eqD, shD, toPy, toPyL, PyData.eqv, PyData.eqvAll, SeqAt.shaped, PyData.canLay0, PyData.canLayAll0, PyData.depth, PyData.depthAll, and_assoc, sz1, sz2, sz3, kit_self, lookup_hd, lookup_tl, Int.natCast_inj, show ((0 : Nat) : Int) = 0 from rfl, kb_NoneType_bool, kb_NoneType_int, kb_NoneType_str, kb_NoneType_list, kb_NoneType_tuple, kb_NoneType_dict, kb_bool_bool, kb_bool_int, kb_bool_str, kb_bool_list, kb_bool_tuple, kb_bool_dict, kb_int_bool, kb_int_int, kb_int_str, kb_int_list, kb_int_tuple, kb_int_dict, kb_str_bool, kb_str_int, kb_str_str, kb_str_list, kb_str_tuple, kb_str_dict, kb_list_bool, kb_list_int, kb_list_str, kb_list_list, kb_list_tuple, kb_list_dict, kb_tuple_bool, kb_tuple_int, kb_tuple_str, kb_tuple_list, kb_tuple_tuple, kb_tuple_dict, kb_dict_bool, kb_dict_int, kb_dict_str, kb_dict_list, kb_dict_tuple, kb_dict_dict]
      rw [e2] at h
      simpa using h
    · simpa [wRet, wRetN, wAndV, wOrV, wNotV, wF, wCons, wNil, wV, wC, o1, o2, fIsi, fLen, fAll, fInt, fAbs, fII, fTup, fList, fSortA, fSort, wParG, put1, startR, R.fz, R.val, isiD, clsD, clsL, tyD, insOk, bodyPost, wSeq, wNext, wIfS, wT, w2, oAdd, oAddA, wNewT, wCallK, permL, wMakeK, oSub, oI, oIc, oMulW, oDivW, oMod, oPow, oLt, oLe, oGt, oGe, oEq, wIsN, D.isNon, wChain, wIf, wFld, wTup, wLst, shs, wSet, wOwn, wPar, wPar3, wCall, wMake, wMeth, wExpr, wAsgE, geT, geCons, geNil, geF, putD, wAsgT, gT, gsCons, gsNil, gN, iSeq, iOne, iRng, iZip, wNeg, wAnd, wOr, wNot, seqD, shs, oIx, oIxA, oIn, inD, wPut, setD, wGet2, wNewD, wYes, noX, dcD, blsD, eqD, shD, toPy, toPyL, PyData.eqv, PyData.eqvAll, SeqAt.shaped, PyData.canLay0, PyData.canLayAll0, PyData.depth, PyData.depthAll, and_assoc, sz1, sz2, sz3, kit_self, lookup_hd, lookup_tl, Int.natCast_inj, show ((0 : Nat) : Int) = 0 from rfl, kb_NoneType_bool, kb_NoneType_int, kb_NoneType_str, kb_NoneType_list, kb_NoneType_tuple, kb_NoneType_dict, kb_bool_bool, kb_bool_int, kb_bool_str, kb_bool_list, kb_bool_tuple, kb_bool_dict, kb_int_bool, kb_int_int, kb_int_str, kb_int_list, kb_int_tuple, kb_int_dict, kb_str_bool, kb_str_int, kb_str_str, kb_str_list, kb_str_tuple, kb_str_dict, kb_list_bool, kb_list_int, kb_list_str, kb_list_list, kb_list_tuple, kb_list_dict, kb_tuple_bool, kb_tuple_int, kb_tuple_str, kb_tuple_list, kb_tuple_tuple, kb_tuple_dict, kb_dict_bool, kb_dict_int, kb_dict_str, kb_dict_list, kb_dict_tuple, kb_dict_dict] using h
    · have e3 := pf id
      simp only [id] at e3
      rw [List.nil_append]
      simp only [show ∀ l : List D, l.map id = l from List.map_id] at e3 ⊢
      rw [e3]
      simp [wLc, wipeR, restR, wRet, wRetN, wAndV, wOrV, wNotV, wF, wCons, wNil, wV, wC, o1, o2, fIsi, fLen, fAll, fInt, fAbs, fII, fTup, fList, fSortA, fSort, wParG, put1, startR, R.fz, R.val, isiD, clsD, clsL, tyD, insOk, bodyPost, wSeq, wNext, wIfS, wT, w2, oAdd, oAddA, wNewT, wCallK, permL, wMakeK, oSub, oI, oIc, oMulW, oDivW, oMod, oPow, oLt, oLe, oGt, oGe, oEq, wIsN, D.isNon, wChain, wIf, wFld, wTup, wLst, shs, wSet, wOwn, wPar, wPar3, wCall, wMake, wMeth, wExpr, wAsgE, geT, geCons, geNil, geF, putD, wAsgT, gT, gsCons, gsNil, gN, iSeq, iOne, iRng, iZip, wNeg, wAnd, wOr, wNot, seqD, shs, oIx, oIxA, oIn, inD, wPut, setD, wGet2, wNewD, wYes, noX, dcD, blsD, eqD, shD, toPy, toPyL, PyData.eqv, PyData.eqvAll, SeqAt.shaped, PyData.canLay0, PyData.canLayAll0, PyData.depth, PyData.depthAll, and_assoc, sz1, sz2, sz3, kit_self, lookup_hd, lookup_tl, Int.natCast_inj, show ((0 : Nat) : Int) = 0 from rfl, kb_NoneType_bool, kb_NoneType_int, kb_NoneType_str, kb_NoneType_list, kb_NoneType_tuple, kb_NoneType_dict, kb_bool_bool, kb_bool_int, kb_bool_str, kb_bool_list, kb_bool_tuple, kb_bool_dict, kb_int_bool, kb_int_int, kb_int_str, kb_int_list, kb_int_tuple, kb_int_dict, kb_str_bool, kb_str_int, kb_str_str, kb_str_list, kb_str_tuple, kb_str_dict, kb_list_bool, kb_list_int, kb_list_str, kb_list_list, kb_list_tuple, kb_list_dict, kb_tuple_bool, kb_tuple_int, kb_tuple_str, kb_tuple_list, kb_tuple_tuple, kb_tuple_dict, kb_dict_bool, kb_dict_int, kb_dict_str, kb_dict_list, kb_dict_tuple, kb_dict_dict]
      refine lcL_fm (p := fun d => match d with | .tup xs => (match atI xs (c : Int) with | some (.int v) => !decide (cnt rws c v ^ b ≤ base ^ a) | _ => false) | _ => false) (f := id) rfl _ _ (fun d hd P PX h => ?_) (fun d hd _ P PX h => ?_) ?_
      · obtain ⟨r, hr, rfl⟩ := List.mem_map.mp hd
        have e1 := pr r hr
        have e2 := at_row (h2 r hr) hc
        simp only [rowT] at h ⊢
        generalize r.getD c 0 = v at e1 e2
        simp [e2, getD2, keyD, e1, T.k_Split, T.n_Split_column, lookup_tl ne_ct, wRet, wRetN, wAndV, wOrV, wNotV, wF, wCons, wNil, wV, wC, o1, o2, fIsi, fLen, fAll, fInt, fAbs, fII, fTup, fList, fSortA, fSort, wParG, put1, startR, R.fz, R.val, isiD, clsD, clsL, tyD, insOk, bodyPost, wSeq, wNext, wIfS, wT, w2, oAdd, oAddA, wNewT, wCallK, permL, wMakeK, oSub, oI, oIc, oMulW, oDivW, oMod, oPow, oLt, oLe, oGt, oGe, oEq, wIsN, D.isNon, wChain, wIf, wFld, wTup, wLst, shs, wSet, wOwn, wPar, wPar3, wCall, wMake, wMeth, wExpr, wAsgE, geT, geCons, geNil, geF, putD, wAsgT, gT, gsCons, gsNil, gN, iSeq, iOne, iRng, iZip, wNeg, wAnd, wOr, wNot, seqD, shs, oIx, oIxA, oIn, inD, wPut, setD, wGet2, wNewD, wYes, noX, dcD, blsD, eqD, shD, toPy, toPyL, PyData.eqv, PyData.eqvAll, SeqAt.shaped, PyData.canLay0, PyData.canLayAll0, PyData.depth, PyData.depthAll, and_assoc, sz1, sz2, sz3, kit_self, lookup_hd, lookup_tl, Int.natCast_inj, show ((0 : Nat) : Int) = 0 from rfl, kb_NoneType_bool, kb_NoneType_int, kb_NoneType_str, kb_NoneType_list, kb_NoneType_tuple, kb_NoneType_dict, kb_bool_bool, kb_bool_int, kb_bool_str, kb_bool_list, kb_bool_tuple, kb_bool_dict, kb_int_bool, kb_int_int, kb_int_str, kb_int_list, kb_int_tuple, kb_int_dict, kb_str_bool, kb_str_int, kb_str_str, kb_str_list, kb_str_tuple, kb_str_dict, kb_list_bool, kb_list_int, kb_list_str, kb_list_list, kb_list_tuple, kb_list_dict, kb_tuple_bool, kb_tuple_int, kb_tuple_str, kb_tuple_list, kb_tuple_tuple, kb_tuple_dict, kb_dict_bool, kb_dict_int, kb_dict_str, kb_dict_list, kb_dict_tuple, kb_dict_dict]
        rw [e2] at h
        simpa using h
      · simpa [wRet, wRetN, wAndV, wOrV, wNotV, wF, wCons, wNil, wV, wC, o1, o2, fIsi, fLen, fAll, fInt, fAbs, fII, fTup, fList, fSortA, fSort, wParG, put1, startR, R.fz, R.val, isiD, clsD, clsL, tyD, insOk, bodyPost, wSeq, wNext, wIfS, wT, w2, oAdd, oAddA, wNewT, wCallK, permL, wMakeK, oSub, oI, oIc, oMulW, oDivW, oMod, oPow, oLt, oLe, oGt, oGe, oEq, wIsN, D.isNon, wChain, wIf, wFld, wTup, wLst, shs, wSet, wOwn, wPar, wPar3, wCall, wMake, wMeth, wExpr, wAsgE, geT, geCons, geNil, geF, putD, wAsgT, gT, gsCons, gsNil, gN, iSeq, iOne, iRng, iZip, wNeg, wAnd, wOr, wNot, seqD, shs, oIx, oIxA, oIn, inD, wPut, setD, wGet2, wNewD, wYes, noX, dcD, blsD, eqD, shD, toPy, toPyL, PyData.eqv, PyData.eqvAll, SeqAt.shaped, PyData.canLay0, PyData.canLayAll0, PyData.depth, PyData.depthAll, and_assoc, sz1, sz2, sz3, kit_self, lookup_hd, lookup_tl, Int.natCast_inj, show ((0 : Nat) : Int) = 0 from rfl, kb_NoneType_bool, kb_NoneType_int, kb_NoneType_str, kb_NoneType_list, kb_NoneType_tuple, kb_NoneType_dict, kb_bool_bool, kb_bool_int, kb_bool_str, kb_bool_list, kb_bool_tuple, kb_bool_dict, kb_int_bool, kb_int_int, kb_int_str, kb_int_list, kb_int_tuple, kb_int_dict, kb_str_bool, kb_str_int, kb_str_str, kb_str_list, kb_str_tuple, kb_str_dict, kb_list_bool, kb_list_int, kb_list_str, kb_list_list, kb_list_tuple, kb_list_dict, kb_tuple_bool, kb_tuple_int, kb_tuple_str, kb_tuple_list, kb_tuple_tuple, kb_tuple_dict, kb_dict_bool, kb_dict_int, kb_dict_str, kb_dict_list, kb_dict_tuple, kb_dict_dict] using h
      · have e4 := pf (fun x => !x)
        rw [List.nil_append]
        simp only [show ∀ l : List D, l.map id = l from List.map_id] at e4 ⊢
        rw [e4]
        simpa [wRet, wRetN, wAndV, wOrV, wNotV, wF, wCons, wNil, wV, wC, o1, o2, fIsi, fLen, fAll, fInt, fAbs, fII, fTup, fList, fSortA, fSort, wParG, put1, startR, R.fz, R.val, isiD, clsD, clsL, tyD, insOk, bodyPost, wSeq, wNext, wIfS, wT, w2, oAdd, oAddA, wNewT, wCallK, permL, wMakeK, oSub, oI, oIc, oMulW, oDivW, oMod, oPow, oLt, oLe, oGt, oGe, oEq, wIsN, D.isNon, wChain, wIf, wFld, wTup, wLst, shs, wSet, wOwn, wPar, wPar3, wCall, wMake, wMeth, wExpr, wAsgE, geT, geCons, geNil, geF, putD, wAsgT, gT, gsCons, gsNil, gN, iSeq, iOne, iRng, iZip, wNeg, wAnd, wOr, wNot, seqD, shs, oIx, oIxA, oIn, inD, wPut, setD, wGet2, wNewD, wYes, noX, dcD, blsD, eqD, shD, toPy, toPyL, PyData.eqv, PyData.eqvAll, SeqAt.shaped, PyData.canLay0, PyData.canLayAll0, PyData.depth, PyData.depthAll, and_assoc, sz1, sz2, sz3, kit_self, lookup_hd, lookup_tl, Int.natCast_inj, show ((0 : Nat) : Int) = 0 from rfl, kb_NoneType_bool, kb_NoneType_int, kb_NoneType_str, kb_NoneType_list, kb_NoneType_tuple, kb_NoneType_dict, kb_bool_bool, kb_bool_int, kb_bool_str, kb_bool_list, kb_bool_tuple, kb_bool_dict, kb_int_bool, kb_int_int, kb_int_str, kb_int_list, kb_int_tuple, kb_int_dict, kb_str_bool, kb_str_int, kb_str_str, kb_str_list, kb_str_tuple, kb_str_dict, kb_list_bool, kb_list_int, kb_list_str, kb_list_list, kb_list_tuple, kb_list_dict, kb_tuple_bool, kb_tuple_int, kb_tuple_str, kb_tuple_list, kb_tuple_tuple, kb_tuple_dict, kb_dict_bool, kb_dict_int, kb_dict_str, kb_dict_list, kb_dict_tuple, kb_dict_dict] using hp
  · rw [List.map_map]
    have q := List.Pairwise.map (S := fun x y : Key => x ≠ y) (fun v : Int => (Sum.inl v : Key)) (fun a b hab e => hab (Sum.inl.inj e)) nd
    rw [List.map_map] at q
    exact q
  · intro d _ a ha; cases ha
end
end L2.TL.W

/-! text K07h -/
set_option Elab.async false
set_option linter.all false
set_option maxRecDepth 100000
set_option maxHeartbeats 4000000
namespace L2.TL.W
open PySem PySem.Spec PyProof.Rows L2.TL
theorem at0 {α : Type} (x y z : α) : atI [x, y, z] 0 = some x := rfl
theorem at1 {α : Type} (x y z : α) : atI [x, y, z] 1 = some y := rfl
theorem at2 {α : Type} (x y z : α) : atI [x, y, z] 2 = some z := rfl
theorem ix1 : ixN 3 1 = some 1 := rfl
theorem ix2 : ixN 3 2 = some 2 := rfl
theorem ne_nil_int (cells : List Int) : PyData.eqvAll (toPyL (cells.map D.int)) [] = cells.isEmpty := by
  cases cells with
  | nil => rfl
  | cons v r => rfl
theorem at_nat (xs : List D) (j : Nat) (h : j < xs.length) : atI xs (j : Int) = some xs[j] := by simp [atI, ixN, h]
theorem seq_of {w v : WSx} {en : En} {P : Post} (J : En → Prop) (h1 : ∀ N : En → Prop, (∀ en, J en → N en) → w en { P with nx := N }) (h2 : ∀ en, J en → v en P) : wSeq w v en P := h1 _ h2
section
variable {K : PySem.W.Frag} {mg : Str → Option Value} {C : Cs} {rs : List R} {os : Os} {P : R → Os → Prop} {PX : Er → Os → Prop}
theorem l__law_draw (h : Φ__law_draw K C rs os P PX) : w__law_draw K C ⟨startR ["pen", "many", "rest", "at", "cell", "mixed"] rs, os⟩ (bodyPost os.length P PX) := by
  obtain ⟨k, n, p, many, rfl, ho, ⟨cells, at', rest, rfl, hc, han⟩, hn, h1, h2, hp⟩ := h
  have ha : at' ≤ 1000000 := by omega
  have hcd : ∀ x : Int, CDivW x (many : Int) := fun x => cdW (by omega) (by omega)
  have hm0 : (0 : Int) < (many : Int) := by omega
  have hsa : ∀ x, (os.set k (some x))[k]? = some (some x) := fun x => set_at ho
  have fin : ∀ (x : Int) (at2 : Nat) (r2 : Int), 0 ≤ r2 → at2 ≤ at' + 1 → P (.sh (.int (x % (many : Int)))) (os.set k (some (.lst [.lst (cells.map .int), .int at2, .int r2]))) := fun x at2 r2 h0 h3 => by
    have e1 : x % (many : Int) = ((x % (many : Int)).toNat : Int) := by
      have := Int.emod_nonneg x (show (many : Int) ≠ 0 by omega); omega
    have e2 : r2 = (r2.toNat : Int) := by omega
    rw [e1, e2]
    refine hp _ _ ?_ ⟨cells, at2, _, rfl, hc, by omega⟩
    have := Int.emod_lt_of_pos x hm0
    have := Int.emod_nonneg x (show (many : Int) ≠ 0 by omega)
    omega
  simp only [penD] at ho
  have st0 : startR ["pen", "many", "rest", "at", "cell", "mixed"] [R.ow k, .sh (.int many)] = [some (.ow k), some (.sh (.int many)), none, none, none, none] := rfl
  rw [st0]
  unfold w__law_draw
  refine seq_of (fun en => en = ⟨[some (.ow k), some (.sh (.int many)), none, none, none, none], os⟩) (fun N hN => ?_) ?_
  · cases e0 : decide (0 < rest) with
    | true =>
      simp [ho, at2, e0, wRet, wRetN, wAndV, wOrV, wNotV, wF, wCons, wNil, wV, wC, o1, o2, fIsi, fLen, fAll, fInt, fAbs, fII, fTup, fList, fSortA, fSort, wParG, put1, startR, R.fz, R.val, isiD, clsD, clsL, tyD, insOk, bodyPost, wSeq, wNext, wIfS, wT, w2, oAdd, oAddA, wNewT, wCallK, permL, wMakeK, oSub, oI, oIc, oMulW, oDivW, oMod, oPow, oLt, oLe, oGt, oGe, oEq, wIsN, D.isNon, wChain, wIf, wFld, wTup, wLst, shs, wSet, wOwn, wPar, wPar3, wCall, wMake, wMeth, wExpr, wAsgE, geT, geCons, geNil, geF, putD, wAsgT, gT, gsCons, gsNil, gN, iSeq, iOne, iRng, iZip, wNeg, wAnd, wOr, wNot, seqD, shs, oIx, oIxA, oIn, inD, wPut, setD, wGet2, wNewD, wYes, noX, dcD, blsD, eqD, shD, toPy, toPyL, PyData.eqv, PyData.eqvAll, SeqAt.shaped, PyData.canLay0, PyData.canLayAll0, PyData.depth, PyData.depthAll, and_assoc, sz1, sz2, sz3, kit_self, lookup_hd, lookup_tl, Int.natCast_inj, show ((0 : Nat) : Int) = 0 from rfl, kb_NoneType_bool, kb_NoneType_int, kb_NoneType_str, kb_NoneType_list, kb_NoneType_tuple, kb_NoneType_dict, kb_bool_bool, kb_bool_int, kb_bool_str, kb_bool_list, kb_bool_tuple, kb_bool_dict, kb_int_bool, kb_int_int, kb_int_str, kb_int_list, kb_int_tuple, kb_int_dict, kb_str_bool, kb_str_int, kb_str_str, kb_str_list, kb_str_tuple, kb_str_dict, kb_list_bool, kb_list_int, kb_list_str, kb_list_list, kb_list_tuple, kb_list_dict, kb_tuple_bool, kb_tuple_int, kb_tuple_str, kb_tuple_list, kb_tuple_tuple, kb_tuple_dict, kb_dict_bool, kb_dict_int, kb_dict_str, kb_dict_list, kb_dict_tuple, kb_dict_dict]
      simp [ho, hsa, ix2, hcd, hm0, take_set, wRet, wRetN, wAndV, wOrV, wNotV, wF, wCons, wNil, wV, wC, o1, o2, fIsi, fLen, fAll, fInt, fAbs, fII, fTup, fList, fSortA, fSort, wParG, put1, startR, R.fz, R.val, isiD, clsD, clsL, tyD, insOk, bodyPost, wSeq, wNext, wIfS, wT, w2, oAdd, oAddA, wNewT, wCallK, permL, wMakeK, oSub, oI, oIc, oMulW, oDivW, oMod, oPow, oLt, oLe, oGt, oGe, oEq, wIsN, D.isNon, wChain, wIf, wFld, wTup, wLst, shs, wSet, wOwn, wPar, wPar3, wCall, wMake, wMeth, wExpr, wAsgE, geT, geCons, geNil, geF, putD, wAsgT, gT, gsCons, gsNil, gN, iSeq, iOne, iRng, iZip, wNeg, wAnd, wOr, wNot, seqD, shs, oIx, oIxA, oIn, inD, wPut, setD, wGet2, wNewD, wYes, noX, dcD, blsD, eqD, shD, toPy, toPyL, PyData.eqv, PyData.eqvAll, SeqAt.shaped, PyData.canLay0, PyData.canLayAll0, PyData.depth, PyData.depthAll, and_assoc, sz1, sz2, sz3, kit_self, lookup_hd, lookup_tl, Int.natCast_inj, show ((0 : Nat) : Int) = 0 from rfl, kb_NoneType_bool, kb_NoneType_int, kb_NoneType_str, kb_NoneType_list, kb_NoneType_tuple, kb_NoneType_dict, kb_bool_bool, kb_bool_int, kb_bool_str, kb_bool_list, kb_bool_tuple, kb_bool_dict, kb_int_bool, kb_int_int, kb_int_str, kb_int_list, kb_int_tuple, kb_int_dict, kb_str_bool, kb_str_int, kb_str_str, kb_str_list, kb_str_tuple, kb_str_dict, kb_list_bool, kb_list_int, kb_list_str, kb_list_list, kb_list_tuple, kb_list_dict, kb_tuple_bool, kb_tuple_int, kb_tuple_str, kb_tuple_list, kb_tuple_tuple, kb_tuple_dict, kb_dict_bool, kb_dict_int, kb_dict_str, kb_dict_list, kb_dict_tuple, kb_dict_dict]
      have := fin rest at' ((rest : Int) / (many : Int)) (Int.ediv_nonneg (by omega) (by omega)) (by omega)
      refine ⟨by omega, ?_⟩
      simpa using this
    | false =>
      simp [ho, at2, e0, wRet, wRetN, wAndV, wOrV, wNotV, wF, wCons, wNil, wV, wC, o1, o2, fIsi, fLen, fAll, fInt, fAbs, fII, fTup, fList, fSortA, fSort, wParG, put1, startR, R.fz, R.val, isiD, clsD, clsL, tyD, insOk, bodyPost, wSeq, wNext, wIfS, wT, w2, oAdd, oAddA, wNewT, wCallK, permL, wMakeK, oSub, oI, oIc, oMulW, oDivW, oMod, oPow, oLt, oLe, oGt, oGe, oEq, wIsN, D.isNon, wChain, wIf, wFld, wTup, wLst, shs, wSet, wOwn, wPar, wPar3, wCall, wMake, wMeth, wExpr, wAsgE, geT, geCons, geNil, geF, putD, wAsgT, gT, gsCons, gsNil, gN, iSeq, iOne, iRng, iZip, wNeg, wAnd, wOr, wNot, seqD, shs, oIx, oIxA, oIn, inD, wPut, setD, wGet2, wNewD, wYes, noX, dcD, blsD, eqD, shD, toPy, toPyL, PyData.eqv, PyData.eqvAll, SeqAt.shaped, PyData.canLay0, PyData.canLayAll0, PyData.depth, PyData.depthAll, and_assoc, sz1, sz2, sz3, kit_self, lookup_hd, lookup_tl, Int.natCast_inj, show ((0 : Nat) : Int) = 0 from rfl, kb_NoneType_bool, kb_NoneType_int, kb_NoneType_str, kb_NoneType_list, kb_NoneType_tuple, kb_NoneType_dict, kb_bool_bool, kb_bool_int, kb_bool_str, kb_bool_list, kb_bool_tuple, kb_bool_dict, kb_int_bool, kb_int_int, kb_int_str, kb_int_list, kb_int_tuple, kb_int_dict, kb_str_bool, kb_str_int, kb_str_str, kb_str_list, kb_str_tuple, kb_str_dict, kb_list_bool, kb_list_int, kb_list_str, kb_list_list, kb_list_tuple, kb_list_dict, kb_tuple_bool, kb_tuple_int, kb_tuple_str, kb_tuple_list, kb_tuple_tuple, kb_tuple_dict, kb_dict_bool, kb_dict_int, kb_dict_str, kb_dict_list, kb_dict_tuple, kb_dict_dict]
      exact hN _ rfl
  rintro _ rfl
  refine seq_of (fun en => en = ⟨[some (.ow k), some (.sh (.int many)), none, some (.sh (.int at')), none, none], os⟩) (fun N hN => ?_) ?_
  · simp [ho, at1, wRet, wRetN, wAndV, wOrV, wNotV, wF, wCons, wNil, wV, wC, o1, o2, fIsi, fLen, fAll, fInt, fAbs, fII, fTup, fList, fSortA, fSort, wParG, put1, startR, R.fz, R.val, isiD, clsD, clsL, tyD, insOk, bodyPost, wSeq, wNext, wIfS, wT, w2, oAdd, oAddA, wNewT, wCallK, permL, wMakeK, oSub, oI, oIc, oMulW, oDivW, oMod, oPow, oLt, oLe, oGt, oGe, oEq, wIsN, D.isNon, wChain, wIf, wFld, wTup, wLst, shs, wSet, wOwn, wPar, wPar3, wCall, wMake, wMeth, wExpr, wAsgE, geT, geCons, geNil, geF, putD, wAsgT, gT, gsCons, gsNil, gN, iSeq, iOne, iRng, iZip, wNeg, wAnd, wOr, wNot, seqD, shs, oIx, oIxA, oIn, inD, wPut, setD, wGet2, wNewD, wYes, noX, dcD, blsD, eqD, shD, toPy, toPyL, PyData.eqv, PyData.eqvAll, SeqAt.shaped, PyData.canLay0, PyData.canLayAll0, PyData.depth, PyData.depthAll, and_assoc, sz1, sz2, sz3, kit_self, lookup_hd, lookup_tl, Int.natCast_inj, show ((0 : Nat) : Int) = 0 from rfl, kb_NoneType_bool, kb_NoneType_int, kb_NoneType_str, kb_NoneType_list, kb_NoneType_tuple, kb_NoneType_dict, kb_bool_bool, kb_bool_int, kb_bool_str, kb_bool_list, kb_bool_tuple, kb_bool_dict, kb_int_bool, kb_int_int, kb_int_str, kb_int_list, kb_int_tuple, kb_int_dict, kb_str_bool, kb_str_int, kb_str_str, kb_str_list, kb_str_tuple, kb_str_dict, kb_list_bool, kb_list_int, kb_list_str, kb_list_list, kb_list_tuple, kb_list_dict, kb_tuple_bool, kb_tuple_int, kb_tuple_str, kb_tuple_list, kb_tuple_tuple, kb_tuple_dict, kb_dict_bool, kb_dict_int, kb_dict_str, kb_dict_list, kb_dict_tuple, kb_dict_dict]
    exact hN _ rfl
  rintro _ rfl
  refine seq_of (fun en => en = ⟨[some (.ow k), some (.sh (.int many)), none, some (.sh (.int at')), none, none], os.set k (some (.lst [.lst (cells.map .int), .int ((at' + 1 : Nat) : Int), .int rest]))⟩) (fun N hN => ?_) ?_
  · simp [ho, ix1, wRet, wRetN, wAndV, wOrV, wNotV, wF, wCons, wNil, wV, wC, o1, o2, fIsi, fLen, fAll, fInt, fAbs, fII, fTup, fList, fSortA, fSort, wParG, put1, startR, R.fz, R.val, isiD, clsD, clsL, tyD, insOk, bodyPost, wSeq, wNext, wIfS, wT, w2, oAdd, oAddA, wNewT, wCallK, permL, wMakeK, oSub, oI, oIc, oMulW, oDivW, oMod, oPow, oLt, oLe, oGt, oGe, oEq, wIsN, D.isNon, wChain, wIf, wFld, wTup, wLst, shs, wSet, wOwn, wPar, wPar3, wCall, wMake, wMeth, wExpr, wAsgE, geT, geCons, geNil, geF, putD, wAsgT, gT, gsCons, gsNil, gN, iSeq, iOne, iRng, iZip, wNeg, wAnd, wOr, wNot, seqD, shs, oIx, oIxA, oIn, inD, wPut, setD, wGet2, wNewD, wYes, noX, dcD, blsD, eqD, shD, toPy, toPyL, PyData.eqv, PyData.eqvAll, SeqAt.shaped, PyData.canLay0, PyData.canLayAll0, PyData.depth, PyData.depthAll, and_assoc, sz1, sz2, sz3, kit_self, lookup_hd, lookup_tl, Int.natCast_inj, show ((0 : Nat) : Int) = 0 from rfl, kb_NoneType_bool, kb_NoneType_int, kb_NoneType_str, kb_NoneType_list, kb_NoneType_tuple, kb_NoneType_dict, kb_bool_bool, kb_bool_int, kb_bool_str, kb_bool_list, kb_bool_tuple, kb_bool_dict, kb_int_bool, kb_int_int, kb_int_str, kb_int_list, kb_int_tuple, kb_int_dict, kb_str_bool, kb_str_int, kb_str_str, kb_str_list, kb_str_tuple, kb_str_dict, kb_list_bool, kb_list_int, kb_list_str, kb_list_list, kb_list_tuple, kb_list_dict, kb_tuple_bool, kb_tuple_int, kb_tuple_str, kb_tuple_list, kb_tuple_tuple, kb_tuple_dict, kb_dict_bool, kb_dict_int, kb_dict_str, kb_dict_list, kb_dict_tuple, kb_dict_dict]
    exact hN _ rfl
  rintro _ rfl
  refine seq_of (fun en => en = ⟨[some (.ow k), some (.sh (.int many)), none, some (.sh (.int at')), some (.sh (.int (70253 * (at' : Int) + 8205))), none], os.set k (some (.lst [.lst (cells.map .int), .int ((at' + 1 : Nat) : Int), .int rest]))⟩) (fun N hN => ?_) ?_
  · simp [wRet, wRetN, wAndV, wOrV, wNotV, wF, wCons, wNil, wV, wC, o1, o2, fIsi, fLen, fAll, fInt, fAbs, fII, fTup, fList, fSortA, fSort, wParG, put1, startR, R.fz, R.val, isiD, clsD, clsL, tyD, insOk, bodyPost, wSeq, wNext, wIfS, wT, w2, oAdd, oAddA, wNewT, wCallK, permL, wMakeK, oSub, oI, oIc, oMulW, oDivW, oMod, oPow, oLt, oLe, oGt, oGe, oEq, wIsN, D.isNon, wChain, wIf, wFld, wTup, wLst, shs, wSet, wOwn, wPar, wPar3, wCall, wMake, wMeth, wExpr, wAsgE, geT, geCons, geNil, geF, putD, wAsgT, gT, gsCons, gsNil, gN, iSeq, iOne, iRng, iZip, wNeg, wAnd, wOr, wNot, seqD, shs, oIx, oIxA, oIn, inD, wPut, setD, wGet2, wNewD, wYes, noX, dcD, blsD, eqD, shD, toPy, toPyL, PyData.eqv, PyData.eqvAll, SeqAt.shaped, PyData.canLay0, PyData.canLayAll0, PyData.depth, PyData.depthAll, and_assoc, sz1, sz2, sz3, kit_self, lookup_hd, lookup_tl, Int.natCast_inj, show ((0 : Nat) : Int) = 0 from rfl, kb_NoneType_bool, kb_NoneType_int, kb_NoneType_str, kb_NoneType_list, kb_NoneType_tuple, kb_NoneType_dict, kb_bool_bool, kb_bool_int, kb_bool_str, kb_bool_list, kb_bool_tuple, kb_bool_dict, kb_int_bool, kb_int_int, kb_int_str, kb_int_list, kb_int_tuple, kb_int_dict, kb_str_bool, kb_str_int, kb_str_str, kb_str_list, kb_str_tuple, kb_str_dict, kb_list_bool, kb_list_int, kb_list_str, kb_list_list, kb_list_tuple, kb_list_dict, kb_tuple_bool, kb_tuple_int, kb_tuple_str, kb_tuple_list, kb_tuple_tuple, kb_tuple_dict, kb_dict_bool, kb_dict_int, kb_dict_str, kb_dict_list, kb_dict_tuple, kb_dict_dict]
    exact ⟨CMul.ok (.inl ⟨by omega, by omega⟩), hN _ rfl⟩
  rintro _ rfl
  have hlen : (cells.map D.int).length = cells.length := List.length_map ..
  refine seq_of (fun en => ∃ cell : Int, en = ⟨[some (.ow k), some (.sh (.int many)), none, some (.sh (.int at')), some (.sh (.int cell)), none], os.set k (some (.lst [.lst (cells.map .int), .int ((at' + 1 : Nat) : Int), .int rest]))⟩) (fun N hN => ?_) ?_
  · have c0 : PyData.canLayAll0 (toPyL (cells.map D.int)) = true := by rw [toPyL_ints]; exact lay_ints cells
    have c1 : PyData.depthAll (toPyL (cells.map D.int)) = 0 := by rw [toPyL_ints]; exact PySem.W.depth_ints cells
    cases e : cells.isEmpty with
    | true =>
      simp [hsa, at0, ne_nil_int, c0, c1, e, wRet, wRetN, wAndV, wOrV, wNotV, wF, wCons, wNil, wV, wC, o1, o2, fIsi, fLen, fAll, fInt, fAbs, fII, fTup, fList, fSortA, fSort, wParG, put1, startR, R.fz, R.val, isiD, clsD, clsL, tyD, insOk, bodyPost, wSeq, wNext, wIfS, wT, w2, oAdd, oAddA, wNewT, wCallK, permL, wMakeK, oSub, oI, oIc, oMulW, oDivW, oMod, oPow, oLt, oLe, oGt, oGe, oEq, wIsN, D.isNon, wChain, wIf, wFld, wTup, wLst, shs, wSet, wOwn, wPar, wPar3, wCall, wMake, wMeth, wExpr, wAsgE, geT, geCons, geNil, geF, putD, wAsgT, gT, gsCons, gsNil, gN, iSeq, iOne, iRng, iZip, wNeg, wAnd, wOr, wNot, seqD, shs, oIx, oIxA, oIn, inD, wPut, setD, wGet2, wNewD, wYes, noX, dcD, blsD, eqD, shD, toPy, toPyL, PyData.eqv, PyData.eqvAll, SeqAt.shaped, PyData.canLay0, PyData.canLayAll0, PyData.depth, PyData.depthAll, and_assoc, sz1, sz2, sz3, kit_self, lookup_hd, lookup_tl, Int.natCast_inj, show ((0 : Nat) : Int) = 0 from rfl, kb_NoneType_bool, kb_NoneType_int, kb_NoneType_str, kb_NoneType_list, kb_NoneType_tuple, kb_NoneType_dict, kb_bool_bool, kb_bool_int, kb_bool_str, kb_bool_list, kb_bool_tuple, kb_bool_dict, kb_int_bool, kb_int_int, kb_int_str, kb_int_list, kb_int_tuple, kb_int_dict, kb_str_bool, kb_str_int, kb_str_str, kb_str_list, kb_str_tuple, kb_str_dict, kb_list_bool, kb_list_int, kb_list_str, kb_list_list, kb_list_tuple, kb_list_dict, kb_tuple_bool, kb_tuple_int, kb_tuple_str, kb_tuple_list, kb_tuple_tuple, kb_tuple_dict, kb_dict_bool, kb_dict_int, kb_dict_str, kb_dict_list, kb_dict_tuple, kb_dict_dict]
      exact hN _ ⟨_, rfl⟩
    | false =>
      simp [hsa, at0, ne_nil_int, c0, c1, e, wRet, wRetN, wAndV, wOrV, wNotV, wF, wCons, wNil, wV, wC, o1, o2, fIsi, fLen, fAll, fInt, fAbs, fII, fTup, fList, fSortA, fSort, wParG, put1, startR, R.fz, R.val, isiD, clsD, clsL, tyD, insOk, bodyPost, wSeq, wNext, wIfS, wT, w2, oAdd, oAddA, wNewT, wCallK, permL, wMakeK, oSub, oI, oIc, oMulW, oDivW, oMod, oPow, oLt, oLe, oGt, oGe, oEq, wIsN, D.isNon, wChain, wIf, wFld, wTup, wLst, shs, wSet, wOwn, wPar, wPar3, wCall, wMake, wMeth, wExpr, wAsgE, geT, geCons, geNil, geF, putD, wAsgT, gT, gsCons, gsNil, gN, iSeq, iOne, iRng, iZip, wNeg, wAnd, wOr, wNot, seqD, shs, oIx, oIxA, oIn, inD, wPut, setD, wGet2, wNewD, wYes, noX, dcD, blsD, eqD, shD, toPy, toPyL, PyData.eqv, PyData.eqvAll, SeqAt.shaped, PyData.canLay0, PyData.canLayAll0, PyData.depth, PyData.depthAll, and_assoc, sz1, sz2, sz3, kit_self, lookup_hd, lookup_tl, Int.natCast_inj, show ((0 : Nat) : Int) = 0 from rfl, kb_NoneType_bool, kb_NoneType_int, kb_NoneType_str, kb_NoneType_list, kb_NoneType_tuple, kb_NoneType_dict, kb_bool_bool, kb_bool_int, kb_bool_str, kb_bool_list, kb_bool_tuple, kb_bool_dict, kb_int_bool, kb_int_int, kb_int_str, kb_int_list, kb_int_tuple, kb_int_dict, kb_str_bool, kb_str_int, kb_str_str, kb_str_list, kb_str_tuple, kb_str_dict, kb_list_bool, kb_list_int, kb_list_str, kb_list_list, kb_list_tuple, kb_list_dict, kb_tuple_bool, kb_tuple_int, kb_tuple_str, kb_tuple_list, kb_tuple_tuple, kb_tuple_dict, kb_dict_bool, kb_dict_int, kb_dict_str, kb_dict_list, kb_dict_tuple, kb_dict_dict]
      have hp0 : 0 < cells.length := by
        cases cells with
        | nil => cases e
        | cons v r => simp
      have hj : at' % cells.length < cells.length := Nat.mod_lt _ hp0
      have ea : atI (cells.map D.int) ((at' : Int) % (cells.length : Int)) = some (.int cells[at' % cells.length]) := by
        rw [← Int.natCast_emod, at_nat (cells.map D.int) (at' % cells.length) (by rw [List.length_map]; exact hj), List.getElem_map]
      rw [ea]
      exact ⟨hp0, hN _ ⟨_, rfl⟩⟩
  rintro _ ⟨cell, rfl⟩
  refine seq_of (fun en => en = ⟨[some (.ow k), some (.sh (.int many)), none, some (.sh (.int at')), some (.sh (.int cell)), none], os.set k (some (.lst [.lst (cells.map .int), .int ((at' + 1 : Nat) : Int), .int rest]))⟩) (fun N hN => ?_) ?_
  · have lt : (at' < cells.length) ∨ ¬ (at' < cells.length) := Decidable.em _
    simp [hsa, at0, at1, at2, wRet, wRetN, wAndV, wOrV, wNotV, wF, wCons, wNil, wV, wC, o1, o2, fIsi, fLen, fAll, fInt, fAbs, fII, fTup, fList, fSortA, fSort, wParG, put1, startR, R.fz, R.val, isiD, clsD, clsL, tyD, insOk, bodyPost, wSeq, wNext, wIfS, wT, w2, oAdd, oAddA, wNewT, wCallK, permL, wMakeK, oSub, oI, oIc, oMulW, oDivW, oMod, oPow, oLt, oLe, oGt, oGe, oEq, wIsN, D.isNon, wChain, wIf, wFld, wTup, wLst, shs, wSet, wOwn, wPar, wPar3, wCall, wMake, wMeth, wExpr, wAsgE, geT, geCons, geNil, geF, putD, wAsgT, gT, gsCons, gsNil, gN, iSeq, iOne, iRng, iZip, wNeg, wAnd, wOr, wNot, seqD, shs, oIx, oIxA, oIn, inD, wPut, setD, wGet2, wNewD, wYes, noX, dcD, blsD, eqD, shD, toPy, toPyL, PyData.eqv, PyData.eqvAll, SeqAt.shaped, PyData.canLay0, PyData.canLayAll0, PyData.depth, PyData.depthAll, and_assoc, sz1, sz2, sz3, kit_self, lookup_hd, lookup_tl, Int.natCast_inj, show ((0 : Nat) : Int) = 0 from rfl, kb_NoneType_bool, kb_NoneType_int, kb_NoneType_str, kb_NoneType_list, kb_NoneType_tuple, kb_NoneType_dict, kb_bool_bool, kb_bool_int, kb_bool_str, kb_bool_list, kb_bool_tuple, kb_bool_dict, kb_int_bool, kb_int_int, kb_int_str, kb_int_list, kb_int_tuple, kb_int_dict, kb_str_bool, kb_str_int, kb_str_str, kb_str_list, kb_str_tuple, kb_str_dict, kb_list_bool, kb_list_int, kb_list_str, kb_list_list, kb_list_tuple, kb_list_dict, kb_tuple_bool, kb_tuple_int, kb_tuple_str, kb_tuple_list, kb_tuple_tuple, kb_tuple_dict, kb_dict_bool, kb_dict_int, kb_dict_str, kb_dict_list, kb_dict_tuple, kb_dict_dict]
    cases e1 : decide (at' < cells.length) with
    | false => exact hN _ rfl
    | true =>
      simp [wRet, wRetN, wAndV, wOrV, wNotV, wF, wCons, wNil, wV, wC, o1, o2, fIsi, fLen, fAll, fInt, fAbs, fII, fTup, fList, fSortA, fSort, wParG, put1, startR, R.fz, R.val, isiD, clsD, clsL, tyD, insOk, bodyPost, wSeq, wNext, wIfS, wT, w2, oAdd, oAddA, wNewT, wCallK, permL, wMakeK, oSub, oI, oIc, oMulW, oDivW, oMod, oPow, oLt, oLe, oGt, oGe, oEq, wIsN, D.isNon, wChain, wIf, wFld, wTup, wLst, shs, wSet, wOwn, wPar, wPar3, wCall, wMake, wMeth, wExpr, wAsgE, geT, geCons, geNil, geF, putD, wAsgT, gT, gsCons, gsNil, gN, iSeq, iOne, iRng, iZip, wNeg, wAnd, wOr, wNot, seqD, shs, oIx, oIxA, oIn, inD, wPut, setD, wGet2, wNewD, wYes, noX, dcD, blsD, eqD, shD, toPy, toPyL, PyData.eqv, PyData.eqvAll, SeqAt.shaped, PyData.canLay0, PyData.canLayAll0, PyData.depth, PyData.depthAll, and_assoc, sz1, sz2, sz3, kit_self, lookup_hd, lookup_tl, Int.natCast_inj, show ((0 : Nat) : Int) = 0 from rfl, kb_NoneType_bool, kb_NoneType_int, kb_NoneType_str, kb_NoneType_list, kb_NoneType_tuple, kb_NoneType_dict, kb_bool_bool, kb_bool_int, kb_bool_str, kb_bool_list, kb_bool_tuple, kb_bool_dict, kb_int_bool, kb_int_int, kb_int_str, kb_int_list, kb_int_tuple, kb_int_dict, kb_str_bool, kb_str_int, kb_str_str, kb_str_list, kb_str_tuple, kb_str_dict, kb_list_bool, kb_list_int, kb_list_str, kb_list_list, kb_list_tuple, kb_list_dict, kb_tuple_bool, kb_tuple_int, kb_tuple_str, kb_tuple_list, kb_tuple_tuple, kb_tuple_dict, kb_dict_bool, kb_dict_int, kb_dict_str, kb_dict_list, kb_dict_tuple, kb_dict_dict]
      refine ⟨⟨by omega, by omega, by omega⟩, ?_⟩
      have bit : 0 ≤ (if cell < 0 then (1 : Int) else 0) := by split <;> omega
      generalize (if cell < 0 then -cell else cell) = ac
      generalize (if cell < 0 then (1 : Int) else 0) = bt at bit
      cases e2 : decide ((1000000000000000000 : Int) ≤ ac) with
      | false => exact hN _ rfl
      | true =>
        have e3 := of_decide_eq_true e2
        rw [ix2]
        refine ⟨⟨by omega, by omega, by omega⟩, CMul.ok (.inl ⟨by omega, by omega⟩), hcd _, by omega, ?_⟩
        rw [take_set]
        have := fin (2 * (ac - 1000000000000000000) + bt) (at' + 1) ((2 * (ac - 1000000000000000000) + bt) / (many : Int)) (Int.ediv_nonneg (by omega) (by omega)) (by omega)
        simpa using this
  rintro _ rfl
  refine seq_of (fun en => ∃ mixed : Int, 0 ≤ mixed ∧ mixed < 2147483549 ∧ en = ⟨[some (.ow k), some (.sh (.int many)), none, some (.sh (.int at')), some (.sh (.int cell)), some (.sh (.int mixed))], os.set k (some (.lst [.lst (cells.map .int), .int ((at' + 1 : Nat) : Int), .int rest]))⟩) (fun N hN => ?_) ?_
  · simp [wRet, wRetN, wAndV, wOrV, wNotV, wF, wCons, wNil, wV, wC, o1, o2, fIsi, fLen, fAll, fInt, fAbs, fII, fTup, fList, fSortA, fSort, wParG, put1, startR, R.fz, R.val, isiD, clsD, clsL, tyD, insOk, bodyPost, wSeq, wNext, wIfS, wT, w2, oAdd, oAddA, wNewT, wCallK, permL, wMakeK, oSub, oI, oIc, oMulW, oDivW, oMod, oPow, oLt, oLe, oGt, oGe, oEq, wIsN, D.isNon, wChain, wIf, wFld, wTup, wLst, shs, wSet, wOwn, wPar, wPar3, wCall, wMake, wMeth, wExpr, wAsgE, geT, geCons, geNil, geF, putD, wAsgT, gT, gsCons, gsNil, gN, iSeq, iOne, iRng, iZip, wNeg, wAnd, wOr, wNot, seqD, shs, oIx, oIxA, oIn, inD, wPut, setD, wGet2, wNewD, wYes, noX, dcD, blsD, eqD, shD, toPy, toPyL, PyData.eqv, PyData.eqvAll, SeqAt.shaped, PyData.canLay0, PyData.canLayAll0, PyData.depth, PyData.depthAll, and_assoc, sz1, sz2, sz3, kit_self, lookup_hd, lookup_tl, Int.natCast_inj, show ((0 : Nat) : Int) = 0 from rfl, kb_NoneType_bool, kb_NoneType_int, kb_NoneType_str, kb_NoneType_list, kb_NoneType_tuple, kb_NoneType_dict, kb_bool_bool, kb_bool_int, kb_bool_str, kb_bool_list, kb_bool_tuple, kb_bool_dict, kb_int_bool, kb_int_int, kb_int_str, kb_int_list, kb_int_tuple, kb_int_dict, kb_str_bool, kb_str_int, kb_str_str, kb_str_list, kb_str_tuple, kb_str_dict, kb_list_bool, kb_list_int, kb_list_str, kb_list_list, kb_list_tuple, kb_list_dict, kb_tuple_bool, kb_tuple_int, kb_tuple_str, kb_tuple_list, kb_tuple_tuple, kb_tuple_dict, kb_dict_bool, kb_dict_int, kb_dict_str, kb_dict_list, kb_dict_tuple, kb_dict_dict]
    have b0 : 0 ≤ cell % 2147483563 := Int.emod_nonneg _ (by omega)
    have b1 : cell % 2147483563 < 2147483563 := Int.emod_lt_of_pos _ (by omega)
    refine ⟨CMul.ok (.inl ⟨by omega, by omega⟩), ⟨by omega, by omega, by omega⟩, hN _ ⟨_, Int.emod_nonneg _ (by omega), Int.emod_lt_of_pos _ (by omega), rfl⟩⟩
  rintro _ ⟨mixed, m0, m1, rfl⟩
  refine seq_of (fun en => ∃ mixed : Int, en = ⟨[some (.ow k), some (.sh (.int many)), none, some (.sh (.int at')), some (.sh (.int cell)), some (.sh (.int mixed))], os.set k (some (.lst [.lst (cells.map .int), .int ((at' + 1 : Nat) : Int), .int rest]))⟩) (fun N hN => ?_) ?_
  · simp [wRet, wRetN, wAndV, wOrV, wNotV, wF, wCons, wNil, wV, wC, o1, o2, fIsi, fLen, fAll, fInt, fAbs, fII, fTup, fList, fSortA, fSort, wParG, put1, startR, R.fz, R.val, isiD, clsD, clsL, tyD, insOk, bodyPost, wSeq, wNext, wIfS, wT, w2, oAdd, oAddA, wNewT, wCallK, permL, wMakeK, oSub, oI, oIc, oMulW, oDivW, oMod, oPow, oLt, oLe, oGt, oGe, oEq, wIsN, D.isNon, wChain, wIf, wFld, wTup, wLst, shs, wSet, wOwn, wPar, wPar3, wCall, wMake, wMeth, wExpr, wAsgE, geT, geCons, geNil, geF, putD, wAsgT, gT, gsCons, gsNil, gN, iSeq, iOne, iRng, iZip, wNeg, wAnd, wOr, wNot, seqD, shs, oIx, oIxA, oIn, inD, wPut, setD, wGet2, wNewD, wYes, noX, dcD, blsD, eqD, shD, toPy, toPyL, PyData.eqv, PyData.eqvAll, SeqAt.shaped, PyData.canLay0, PyData.canLayAll0, PyData.depth, PyData.depthAll, and_assoc, sz1, sz2, sz3, kit_self, lookup_hd, lookup_tl, Int.natCast_inj, show ((0 : Nat) : Int) = 0 from rfl, kb_NoneType_bool, kb_NoneType_int, kb_NoneType_str, kb_NoneType_list, kb_NoneType_tuple, kb_NoneType_dict, kb_bool_bool, kb_bool_int, kb_bool_str, kb_bool_list, kb_bool_tuple, kb_bool_dict, kb_int_bool, kb_int_int, kb_int_str, kb_int_list, kb_int_tuple, kb_int_dict, kb_str_bool, kb_str_int, kb_str_str, kb_str_list, kb_str_tuple, kb_str_dict, kb_list_bool, kb_list_int, kb_list_str, kb_list_list, kb_list_tuple, kb_list_dict, kb_tuple_bool, kb_tuple_int, kb_tuple_str, kb_tuple_list, kb_tuple_tuple, kb_tuple_dict, kb_dict_bool, kb_dict_int, kb_dict_str, kb_dict_list, kb_dict_tuple, kb_dict_dict]
    have b1 : mixed * (2 * (at' : Int) + 5883) ≤ 2147483549 * (2000000 + 5883) := Int.mul_le_mul (by omega) (by omega) (by omega) (by omega)
    have b0 : 0 ≤ mixed * (2 * (at' : Int) + 5883) := Int.mul_nonneg m0 (by omega)
    have b2 : 31447 * (at' : Int) * (at' : Int) ≤ 31447000000 * 1000000 := Int.mul_le_mul (by omega) (by omega) (by omega) (by omega)
    have b3 : 0 ≤ 31447 * (at' : Int) * (at' : Int) := Int.mul_nonneg (by omega) (by omega)
    exact ⟨CMul.ok (.inl ⟨by omega, by omega⟩), CMul.ok (.inl ⟨by omega, by omega⟩), CMul.ok (.inl ⟨by omega, by omega⟩), CMul.ok (.inl ⟨by omega, by omega⟩), ⟨by omega, by omega, by omega⟩, hN _ ⟨_, rfl⟩⟩
  rintro _ ⟨mixed, rfl⟩
  simp [hm0, take_set, wRet, wRetN, wAndV, wOrV, wNotV, wF, wCons, wNil, wV, wC, o1, o2, fIsi, fLen, fAll, fInt, fAbs, fII, fTup, fList, fSortA, fSort, wParG, put1, startR, R.fz, R.val, isiD, clsD, clsL, tyD, insOk, bodyPost, wSeq, wNext, wIfS, wT, w2, oAdd, oAddA, wNewT, wCallK, permL, wMakeK, oSub, oI, oIc, oMulW, oDivW, oMod, oPow, oLt, oLe, oGt, oGe, oEq, wIsN, D.isNon, wChain, wIf, wFld, wTup, wLst, shs, wSet, wOwn, wPar, wPar3, wCall, wMake, wMeth, wExpr, wAsgE, geT, geCons, geNil, geF, putD, wAsgT, gT, gsCons, gsNil, gN, iSeq, iOne, iRng, iZip, wNeg, wAnd, wOr, wNot, seqD, shs, oIx, oIxA, oIn, inD, wPut, setD, wGet2, wNewD, wYes, noX, dcD, blsD, eqD, shD, toPy, toPyL, PyData.eqv, PyData.eqvAll, SeqAt.shaped, PyData.canLay0, PyData.canLayAll0, PyData.depth, PyData.depthAll, and_assoc, sz1, sz2, sz3, kit_self, lookup_hd, lookup_tl, Int.natCast_inj, show ((0 : Nat) : Int) = 0 from rfl, kb_NoneType_bool, kb_NoneType_int, kb_NoneType_str, kb_NoneType_list, kb_NoneType_tuple, kb_NoneType_dict, kb_bool_bool, kb_bool_int, kb_bool_str, kb_bool_list, kb_bool_tuple, kb_bool_dict, kb_int_bool, kb_int_int, kb_int_str, kb_int_list, kb_int_tuple, kb_int_dict, kb_str_bool, kb_str_int, kb_str_str, kb_str_list, kb_str_tuple, kb_str_dict, kb_list_bool, kb_list_int, kb_list_str, kb_list_list, kb_list_tuple, kb_list_dict, kb_tuple_bool, kb_tuple_int, kb_tuple_str, kb_tuple_list, kb_tuple_tuple, kb_tuple_dict, kb_dict_bool, kb_dict_int, kb_dict_str, kb_dict_list, kb_dict_tuple, kb_dict_dict]
  refine ⟨cdW (n := 64) (by omega) (by omega), by omega, ?_⟩
  have := fin (mixed / 64) (at' + 1) rest (by omega) (by omega)
  simpa using this
end
end L2.TL.W

/-! text K07i -/
set_option Elab.async false
set_option linter.all false
set_option maxRecDepth 100000
set_option maxHeartbeats 4000000
namespace L2.TL.W
open PySem PySem.Spec PyProof.Rows L2.TL
theorem Pen.mono {n m : Nat} {p : D} (h : Pen n p) (hm : n ≤ m) : Pen m p := by
  obtain ⟨cells, a, r, e, h1, h2⟩ := h
  exact ⟨cells, a, r, e, h1, Nat.le_trans h2 hm⟩
theorem join_is (a : Str) (l : List Str) : Txt.join a l = Str.join a l := by
  unfold Txt.join
  rw [StrLaws.glued_eq_join]
theorem join_chars0 : ∀ cs : List Nat, (Str.join ("" : Str) (cs.map fun c => (⟨#[c]⟩ : Str))).cps.toList = cs
  | [] => rfl
  | [c] => rfl
  | c :: d :: cs => by
    have ih := join_chars0 (d :: cs)
    show ((⟨#[c]⟩ : Str) ++ ("" : Str) ++ Str.join ("" : Str) ((d :: cs).map fun c => (⟨#[c]⟩ : Str))).cps.toList = _
    have e : ∀ a b : Str, (a ++ b).cps.toList = a.cps.toList ++ b.cps.toList := fun a b => by
      show (a.cps ++ b.cps).toList = _
      rw [Array.toList_append]
    rw [e, e, ih]; rfl
theorem join_chars (cs : List Nat) : (Txt.join ("" : Str) (cs.map fun c => (⟨#[c]⟩ : Str))).cps.toList = cs := by rw [join_is]; exact join_chars0 cs
theorem letters_len : letters.cps.toList.length = 26 := by decide +kernel
theorem letters_ok : ∀ c ∈ letters.cps.toList, c < 0x110000 := by decide +kernel
theorem letter_at {v : Nat} (h : v < 26) : ∃ c ∈ letters.cps.toList, atI letters.cps.toList (v : Int) = some c := by
  have hv : v < letters.cps.toList.length := by rw [letters_len]; exact h
  refine ⟨letters.cps.toList[v], List.getElem_mem hv, ?_⟩
  simp [atI, ixN, show v < letters.cps.size from by simpa using hv]
theorem name_of {cs : List Nat} (h : ∀ c ∈ cs, c ∈ letters.cps.toList) (h1 : 1 ≤ cs.length) (h8 : cs.length ≤ 8) : nameOk (Txt.join ("" : Str) (cs.map fun c => (⟨#[c]⟩ : Str))) = true ∧ PyData.strOk (Txt.join ("" : Str) (cs.map fun c => (⟨#[c]⟩ : Str))) = true := by
  have e := join_chars cs
  generalize Txt.join ("" : Str) (cs.map fun c => (⟨#[c]⟩ : Str)) = z at e
  have hl : z.length = cs.length := by rw [← e]; rfl
  constructor
  · simp only [nameOk, hl, e, Bool.and_eq_true, decide_eq_true_eq, List.all_eq_true]
    exact ⟨h1, h8, h⟩
  · have : (z.cps.toList.all fun c => decide (c < 0x110000)) = true := by
      rw [e, List.all_eq_true]
      intro c hc
      rw [decide_eq_true_eq]
      exact letters_ok c (h c hc)
    simpa [PyData.strOk] using this
theorem sum_one : ∀ cs : List Nat, (cs.map fun _ => 1).sum = cs.length
  | [] => rfl
  | c :: cs => by rw [List.map_cons, List.sum_cons, sum_one cs, List.length_cons, Nat.add_comm]
theorem range_len (n : Nat) : ((List.range n).map fun (i : Nat) => D.int (0 + (i : Int))).length = n := by simp
section
variable {K : PySem.W.Frag} {mg : Str → Option Value} {C : Cs} {rs : List R} {os : Os} {P : R → Os → Prop} {PX : Er → Os → Prop}
theorem l__law_name (h : Φ__law_name K C rs os P PX) : w__law_name K C ⟨startR ["pen", "lap"] rs, os⟩ (bodyPost os.length P PX) := by
  obtain ⟨k, n, p, rfl, ho, hpen, hn, hp⟩ := h
  simp [w__law_name, wJoin, wLc, wipeR, restR, wRet, wRetN, wAndV, wOrV, wNotV, wF, wCons, wNil, wV, wC, o1, o2, fIsi, fLen, fAll, fInt, fAbs, fII, fTup, fList, fSortA, fSort, wParG, put1, startR, R.fz, R.val, isiD, clsD, clsL, tyD, insOk, bodyPost, wSeq, wNext, wIfS, wT, w2, oAdd, oAddA, wNewT, wCallK, permL, wMakeK, oSub, oI, oIc, oMulW, oDivW, oMod, oPow, oLt, oLe, oGt, oGe, oEq, wIsN, D.isNon, wChain, wIf, wFld, wTup, wLst, shs, wSet, wOwn, wPar, wPar3, wCall, wMake, wMeth, wExpr, wAsgE, geT, geCons, geNil, geF, putD, wAsgT, gT, gsCons, gsNil, gN, iSeq, iOne, iRng, iZip, wNeg, wAnd, wOr, wNot, seqD, shs, oIx, oIxA, oIn, inD, wPut, setD, wGet2, wNewD, wYes, noX, dcD, blsD, eqD, shD, toPy, toPyL, PyData.eqv, PyData.eqvAll, SeqAt.shaped, PyData.canLay0, PyData.canLayAll0, PyData.depth, PyData.depthAll, and_assoc, sz1, sz2, sz3, kit_self, lookup_hd, lookup_tl, Int.natCast_inj, show ((0 : Nat) : Int) = 0 from rfl, kb_NoneType_bool, kb_NoneType_int, kb_NoneType_str, kb_NoneType_list, kb_NoneType_tuple, kb_NoneType_dict, kb_bool_bool, kb_bool_int, kb_bool_str, kb_bool_list, kb_bool_tuple, kb_bool_dict, kb_int_bool, kb_int_int, kb_int_str, kb_int_list, kb_int_tuple, kb_int_dict, kb_str_bool, kb_str_int, kb_str_str, kb_str_list, kb_str_tuple, kb_str_dict, kb_list_bool, kb_list_int, kb_list_str, kb_list_list, kb_list_tuple, kb_list_dict, kb_tuple_bool, kb_tuple_int, kb_tuple_str, kb_tuple_list, kb_tuple_tuple, kb_tuple_dict, kb_dict_bool, kb_dict_int, kb_dict_str, kb_dict_list, kb_dict_tuple, kb_dict_dict]
  refine ⟨by decide, k, n, p, _, rfl, ho, hpen, by omega, by simp, by simp, fun x p2 hx h3 => ?_⟩
  obtain ⟨m, rfl, hm1, hm8⟩ : ∃ m : Nat, x = .int m ∧ 1 ≤ m ∧ m ≤ 8 := by
    simp at hx
    rcases hx with rfl | rfl | rfl | rfl
    · exact ⟨1, rfl, by omega, by omega⟩
    · exact ⟨2, rfl, by omega, by omega⟩
    · exact ⟨3, rfl, by omega, by omega⟩
    · exact ⟨8, rfl, by omega, by omega⟩
  have hz : m ≤ sizeLine := by rw [sizeLine_eq]; omega
  simp [hz, wipeR, restR, wRet, wRetN, wAndV, wOrV, wNotV, wF, wCons, wNil, wV, wC, o1, o2, fIsi, fLen, fAll, fInt, fAbs, fII, fTup, fList, fSortA, fSort, wParG, put1, startR, R.fz, R.val, isiD, clsD, clsL, tyD, insOk, bodyPost, wSeq, wNext, wIfS, wT, w2, oAdd, oAddA, wNewT, wCallK, permL, wMakeK, oSub, oI, oIc, oMulW, oDivW, oMod, oPow, oLt, oLe, oGt, oGe, oEq, wIsN, D.isNon, wChain, wIf, wFld, wTup, wLst, shs, wSet, wOwn, wPar, wPar3, wCall, wMake, wMeth, wExpr, wAsgE, geT, geCons, geNil, geF, putD, wAsgT, gT, gsCons, gsNil, gN, iSeq, iOne, iRng, iZip, wNeg, wAnd, wOr, wNot, seqD, shs, oIx, oIxA, oIn, inD, wPut, setD, wGet2, wNewD, wYes, noX, dcD, blsD, eqD, shD, toPy, toPyL, PyData.eqv, PyData.eqvAll, SeqAt.shaped, PyData.canLay0, PyData.canLayAll0, PyData.depth, PyData.depthAll, and_assoc, sz1, sz2, sz3, kit_self, lookup_hd, lookup_tl, Int.natCast_inj, show ((0 : Nat) : Int) = 0 from rfl, kb_NoneType_bool, kb_NoneType_int, kb_NoneType_str, kb_NoneType_list, kb_NoneType_tuple, kb_NoneType_dict, kb_bool_bool, kb_bool_int, kb_bool_str, kb_bool_list, kb_bool_tuple, kb_bool_dict, kb_int_bool, kb_int_int, kb_int_str, kb_int_list, kb_int_tuple, kb_int_dict, kb_str_bool, kb_str_int, kb_str_str, kb_str_list, kb_str_tuple, kb_str_dict, kb_list_bool, kb_list_int, kb_list_str, kb_list_list, kb_list_tuple, kb_list_dict, kb_tuple_bool, kb_tuple_int, kb_tuple_str, kb_tuple_list, kb_tuple_tuple, kb_tuple_dict, kb_dict_bool, kb_dict_int, kb_dict_str, kb_dict_list, kb_dict_tuple, kb_dict_dict]
  refine lcL_eff rfl (fun ds acc os' => ∃ (p3 : D) (cs : List Nat), os' = os.set k (some p3) ∧ Pen (n + 1 + acc.length) p3 ∧ acc = cs.map (fun c => .str ⟨#[c]⟩) ∧ (∀ c ∈ cs, c ∈ letters.cps.toList) ∧ acc.length + ds.length = m) ?_ ?_ _ _ _ ⟨p2, [], rfl, h3, rfl, (fun c h => nomatch h), by simp⟩
  · rintro d ds acc os' ⟨p3, cs, rfl, pen3, rfl, hcs, hl⟩ P PX hP
    simp [wRet, wRetN, wAndV, wOrV, wNotV, wF, wCons, wNil, wV, wC, o1, o2, fIsi, fLen, fAll, fInt, fAbs, fII, fTup, fList, fSortA, fSort, wParG, put1, startR, R.fz, R.val, isiD, clsD, clsL, tyD, insOk, bodyPost, wSeq, wNext, wIfS, wT, w2, oAdd, oAddA, wNewT, wCallK, permL, wMakeK, oSub, oI, oIc, oMulW, oDivW, oMod, oPow, oLt, oLe, oGt, oGe, oEq, wIsN, D.isNon, wChain, wIf, wFld, wTup, wLst, shs, wSet, wOwn, wPar, wPar3, wCall, wMake, wMeth, wExpr, wAsgE, geT, geCons, geNil, geF, putD, wAsgT, gT, gsCons, gsNil, gN, iSeq, iOne, iRng, iZip, wNeg, wAnd, wOr, wNot, seqD, shs, oIx, oIxA, oIn, inD, wPut, setD, wGet2, wNewD, wYes, noX, dcD, blsD, eqD, shD, toPy, toPyL, PyData.eqv, PyData.eqvAll, SeqAt.shaped, PyData.canLay0, PyData.canLayAll0, PyData.depth, PyData.depthAll, and_assoc, sz1, sz2, sz3, kit_self, lookup_hd, lookup_tl, Int.natCast_inj, show ((0 : Nat) : Int) = 0 from rfl, kb_NoneType_bool, kb_NoneType_int, kb_NoneType_str, kb_NoneType_list, kb_NoneType_tuple, kb_NoneType_dict, kb_bool_bool, kb_bool_int, kb_bool_str, kb_bool_list, kb_bool_tuple, kb_bool_dict, kb_int_bool, kb_int_int, kb_int_str, kb_int_list, kb_int_tuple, kb_int_dict, kb_str_bool, kb_str_int, kb_str_str, kb_str_list, kb_str_tuple, kb_str_dict, kb_list_bool, kb_list_int, kb_list_str, kb_list_list, kb_list_tuple, kb_list_dict, kb_tuple_bool, kb_tuple_int, kb_tuple_str, kb_tuple_list, kb_tuple_tuple, kb_tuple_dict, kb_dict_bool, kb_dict_int, kb_dict_str, kb_dict_list, kb_dict_tuple, kb_dict_dict]
    refine ⟨k, n + 1 + (cs.map fun c => D.str ⟨#[c]⟩).length, p3, 26, rfl, set_at ho, pen3, by simp at hl ⊢; omega, by omega, by omega, fun v p4 hv h4 => ?_⟩
    obtain ⟨c, hc, ec⟩ := letter_at hv
    have ec2 : atI (Str.ofString "abcdefghijklmnopqrstuvwxyz").cps.toList (v : Int) = some c := ec
    have hs : (Str.ofString "abcdefghijklmnopqrstuvwxyz").length ≤ sizeLine := by rw [show (Str.ofString "abcdefghijklmnopqrstuvwxyz").length = 26 from by decide +kernel, sizeLine_eq]; omega
    have := hP (.str ⟨#[c]⟩) (os.set k (some p4)) ⟨p4, cs ++ [c], rfl, h4.mono (by simp; omega), by simp, fun q hq => by
      rcases List.mem_append.mp hq with hq | hq
      · exact hcs q hq
      · rw [List.mem_singleton] at hq; subst hq; exact hc, by simp at hl ⊢; omega⟩
    simp only [ec2, hs]
    simpa using this
  · rintro acc os' ⟨p3, cs, rfl, pen3, rfl, hcs, hl⟩
    have hl2 : cs.length = m := by
      rw [List.length_map] at hl
      simpa using hl
    obtain ⟨q1, q2⟩ := name_of hcs (by omega) (by omega)
    refine ⟨cs.map fun c => ⟨#[c]⟩, by rw [List.map_map]; rfl, ?_, ?_⟩
    · have : ((cs.map fun c => (⟨#[c]⟩ : Str)).map (·.length)).sum = cs.length := by
        rw [List.map_map]
        have : ((fun x : Str => x.length) ∘ fun c => (⟨#[c]⟩ : Str)) = fun _ => 1 := rfl
        rw [this]; exact sum_one cs
      simp only [this, List.length_map, show (Str.ofString "").length = 0 from rfl]
      omega
    · rw [List.length_map] at pen3
      have := hp _ p3 q1 q2 (pen3.mono (by omega))
      simpa [take_set] using this
theorem l__law_is_light (h : Φ__law_is_light K C rs os P PX) : w__law_is_light K C ⟨startR ["many", "base", "threshold"] rs, os⟩ (bodyPost os.length P PX) := by
  obtain ⟨n, b, t, u, rfl, h1, h2, h3, h4, hp⟩ := h
  simp [w__law_is_light, atI, ixN, wRet, wRetN, wAndV, wOrV, wNotV, wF, wCons, wNil, wV, wC, o1, o2, fIsi, fLen, fAll, fInt, fAbs, fII, fTup, fList, fSortA, fSort, wParG, put1, startR, R.fz, R.val, isiD, clsD, clsL, tyD, insOk, bodyPost, wSeq, wNext, wIfS, wT, w2, oAdd, oAddA, wNewT, wCallK, permL, wMakeK, oSub, oI, oIc, oMulW, oDivW, oMod, oPow, oLt, oLe, oGt, oGe, oEq, wIsN, D.isNon, wChain, wIf, wFld, wTup, wLst, shs, wSet, wOwn, wPar, wPar3, wCall, wMake, wMeth, wExpr, wAsgE, geT, geCons, geNil, geF, putD, wAsgT, gT, gsCons, gsNil, gN, iSeq, iOne, iRng, iZip, wNeg, wAnd, wOr, wNot, seqD, shs, oIx, oIxA, oIn, inD, wPut, setD, wGet2, wNewD, wYes, noX, dcD, blsD, eqD, shD, toPy, toPyL, PyData.eqv, PyData.eqvAll, SeqAt.shaped, PyData.canLay0, PyData.canLayAll0, PyData.depth, PyData.depthAll, and_assoc, sz1, sz2, sz3, kit_self, lookup_hd, lookup_tl, Int.natCast_inj, show ((0 : Nat) : Int) = 0 from rfl, kb_NoneType_bool, kb_NoneType_int, kb_NoneType_str, kb_NoneType_list, kb_NoneType_tuple, kb_NoneType_dict, kb_bool_bool, kb_bool_int, kb_bool_str, kb_bool_list, kb_bool_tuple, kb_bool_dict, kb_int_bool, kb_int_int, kb_int_str, kb_int_list, kb_int_tuple, kb_int_dict, kb_str_bool, kb_str_int, kb_str_str, kb_str_list, kb_str_tuple, kb_str_dict, kb_list_bool, kb_list_int, kb_list_str, kb_list_list, kb_list_tuple, kb_list_dict, kb_tuple_bool, kb_tuple_int, kb_tuple_str, kb_tuple_list, kb_tuple_tuple, kb_tuple_dict, kb_dict_bool, kb_dict_int, kb_dict_str, kb_dict_list, kb_dict_tuple, kb_dict_dict]
  refine ⟨n, u, rfl, h1, h4, b, t, rfl, h2, h3, ?_⟩
  have e : decide (((n ^ u : Nat) : Int) ≤ ((b ^ t : Nat) : Int)) = decide (n ^ u ≤ b ^ t) := by
    rw [decide_eq_decide]; exact Int.ofNat_le
  simp only [e, List.take_length]
  exact hp
theorem l__law_threshold (h : Φ__law_threshold K C rs os P PX) : w__law_threshold K C ⟨startR ["pen"] rs, os⟩ (bodyPost os.length P PX) := by
  obtain ⟨k, n, p, rfl, ho, hpen, hn, hp⟩ := h
  simp [w__law_threshold, wRet, wRetN, wAndV, wOrV, wNotV, wF, wCons, wNil, wV, wC, o1, o2, fIsi, fLen, fAll, fInt, fAbs, fII, fTup, fList, fSortA, fSort, wParG, put1, startR, R.fz, R.val, isiD, clsD, clsL, tyD, insOk, bodyPost, wSeq, wNext, wIfS, wT, w2, oAdd, oAddA, wNewT, wCallK, permL, wMakeK, oSub, oI, oIc, oMulW, oDivW, oMod, oPow, oLt, oLe, oGt, oGe, oEq, wIsN, D.isNon, wChain, wIf, wFld, wTup, wLst, shs, wSet, wOwn, wPar, wPar3, wCall, wMake, wMeth, wExpr, wAsgE, geT, geCons, geNil, geF, putD, wAsgT, gT, gsCons, gsNil, gN, iSeq, iOne, iRng, iZip, wNeg, wAnd, wOr, wNot, seqD, shs, oIx, oIxA, oIn, inD, wPut, setD, wGet2, wNewD, wYes, noX, dcD, blsD, eqD, shD, toPy, toPyL, PyData.eqv, PyData.eqvAll, SeqAt.shaped, PyData.canLay0, PyData.canLayAll0, PyData.depth, PyData.depthAll, and_assoc, sz1, sz2, sz3, kit_self, lookup_hd, lookup_tl, Int.natCast_inj, show ((0 : Nat) : Int) = 0 from rfl, kb_NoneType_bool, kb_NoneType_int, kb_NoneType_str, kb_NoneType_list, kb_NoneType_tuple, kb_NoneType_dict, kb_bool_bool, kb_bool_int, kb_bool_str, kb_bool_list, kb_bool_tuple, kb_bool_dict, kb_int_bool, kb_int_int, kb_int_str, kb_int_list, kb_int_tuple, kb_int_dict, kb_str_bool, kb_str_int, kb_str_str, kb_str_list, kb_str_tuple, kb_str_dict, kb_list_bool, kb_list_int, kb_list_str, kb_list_list, kb_list_tuple, kb_list_dict, kb_tuple_bool, kb_tuple_int, kb_tuple_str, kb_tuple_list, kb_tuple_tuple, kb_tuple_dict, kb_dict_bool, kb_dict_int, kb_dict_str, kb_dict_list, kb_dict_tuple, kb_dict_dict]
  refine ⟨by decide, k, n, p, _, rfl, ho, hpen, by omega, by simp, by simp, fun x p2 hx h3 => ?_⟩
  obtain ⟨a, b, rfl, h1, h2, h4, h5⟩ : ∃ a b : Nat, x = .tup [.int a, .int b] ∧ 1 ≤ a ∧ a ≤ 12 ∧ 1 ≤ b ∧ b ≤ 12 := by
    simp at hx
    rcases hx with rfl | rfl | rfl | rfl | rfl | rfl | rfl | rfl
    · exact ⟨1, 2, rfl, by omega, by omega, by omega, by omega⟩
    · exact ⟨1, 1, rfl, by omega, by omega, by omega, by omega⟩
    · exact ⟨1, 3, rfl, by omega, by omega, by omega, by omega⟩
    · exact ⟨2, 3, rfl, by omega, by omega, by omega, by omega⟩
    · exact ⟨3, 2, rfl, by omega, by omega, by omega, by omega⟩
    · exact ⟨2, 1, rfl, by omega, by omega, by omega, by omega⟩
    · exact ⟨5, 7, rfl, by omega, by omega, by omega, by omega⟩
    · exact ⟨1, 12, rfl, by omega, by omega, by omega, by omega⟩
  simpa [take_set] using hp a b p2 h1 h2 h4 h5 h3
end
end L2.TL.W

/-! text K07j -/
set_option Elab.async false
set_option linter.all false
set_option maxRecDepth 100000
set_option maxHeartbeats 4000000
namespace L2.TL.W
open PySem PySem.Spec PyProof.Rows L2.TL
theorem leR_eq (a b : List Int) : leR a b = decide (a ≤ b) := by
  show (!PySem.W.dataLt (toPy (rowT b)) (toPy (rowT a))) = _
  rw [toPy_row, toPy_row, PySem.W.dataLt_tuple]
  show (!PySem.W.rowLt (b.map .int) (a.map .int)) = _
  rw [PySem.W.dataLt_ints]
  by_cases h : b < a
  · simp [h, List.not_le.mpr h]
  · simp [h, List.not_lt.mp h]
theorem srt_sort {l : List (List Int)} (nd : l.Nodup) : Srt (l.mergeSort leR) := by
  have pw : (l.mergeSort leR).Pairwise fun a b => leR a b = true := List.pairwise_mergeSort (fun a b c h1 h2 => by
    rw [leR_eq, decide_eq_true_eq] at *
    exact List.le_trans h1 h2) (fun a b => by
    rw [leR_eq, leR_eq, Bool.or_eq_true, decide_eq_true_eq, decide_eq_true_eq]
    exact List.le_total a b) l
  exact ⟨List.Pairwise.map _ (fun a b h => h) pw, (List.mergeSort_perm l leR).nodup_iff.mpr nd⟩
theorem osF {A : Os} {x : Option D} {Y : Os} {n : Nat} (h : A.length = n) : (A ++ x :: Y)[n]? = some x := by subst h; simp
theorem osF_set {A : Os} {x x' : Option D} {Y : Os} {n : Nat} (h : A.length = n) : (A ++ x :: Y).set n x' = A ++ x' :: Y := by subst h; simp
theorem osR {A : Os} {x r : Option D} {Y : Os} {n : Nat} (h : A.length = n) : (A ++ x :: (Y ++ [r]))[n + 1 + Y.length]? = some r := by
  subst h
  rw [List.getElem?_append_right (by omega), show A.length + 1 + Y.length - A.length = Y.length + 1 by omega, List.getElem?_cons_succ, List.getElem?_append_right (Nat.le_refl _), Nat.sub_self]; rfl
theorem osR_set {A : Os} {x r r' : Option D} {Y : Os} {n : Nat} (h : A.length = n) : (A ++ x :: (Y ++ [r])).set (n + 1 + Y.length) r' = A ++ x :: (Y ++ [r']) := by
  subst h
  rw [List.set_append_right _ _ (by omega), show A.length + 1 + Y.length - A.length = Y.length + 1 by omega, List.set_cons_succ, List.set_append_right _ _ (Nat.le_refl _), Nat.sub_self]; rfl
theorem osP {A Z : Os} {k : Nat} {p : D} (h : A[k]? = some (some p)) : (A ++ Z)[k]? = some (some p) := by
  rw [List.getElem?_append_left (List.getElem?_eq_some_iff.mp h).1]; exact h
theorem osP_set {A Z : Os} {k : Nat} {p : D} {v : Option D} (h : A[k]? = some (some p)) : (A ++ Z).set k v = A.set k v ++ Z := List.set_append_left _ _ (List.getElem?_eq_some_iff.mp h).1
theorem set_id {os : Os} {k : Nat} {p : D} (ho : os[k]? = some (some p)) : os.set k (some p) = os := by
  apply List.ext_getElem?
  intro j
  rw [List.getElem?_set]
  split
  · rename_i e; subst e
    obtain ⟨hk, e⟩ := List.getElem?_eq_some_iff.mp ho
    rw [if_pos hk, ho]
  · rfl
section
variable {K : PySem.W.Frag} {mg : Str → Option Value} {C : Cs} {rs : List R} {os : Os} {P : R → Os → Prop} {PX : Er → Os → Prop}
/-- some drawn numbers -/
theorem draws (K : PySem.W.Frag) (C : Cs) {k i pi ri : Nat} {ρ0 : Ro} {os : Os} {reach w n : Nat} {p : D} {Pend : List D → En → Prop} (h0 : ρ0.set i none = ρ0) (hi : i ≠ pi) (hj : i ≠ ri) (hp : ρ0[pi]? = some (some (.ow k))) (hr : ρ0[ri]? = some (some (.sh (.int reach)))) (ho : os[k]? = some (some p)) (hpen : Pen n p) (hn : n + w ≤ 1000000) (h1 : 1 ≤ reach) (h2 : reach ≤ 1000000)
    (hend : ∀ (vs : List Nat) (p2 : D), vs.length = w → (∀ v ∈ vs, v < reach) → Pen (n + w) p2 → Pend (vs.map fun (v : Nat) => D.int (v : Int)) ⟨ρ0, os.set k (some p2)⟩) :
    wLcL (gN i) wYes (wCall (Φ__law_draw K C) (wCons (wV pi) (wCons (wV ri) wNil))) [i] Pend ((List.range w).map fun (i : Nat) => D.int (i : Int)) [] ⟨ρ0, os⟩ := by
  refine lcL_eff h0 (fun ds acc os' => ∃ (p3 : D) (vs : List Nat), os' = os.set k (some p3) ∧ Pen (n + vs.length) p3 ∧ acc = vs.map (fun (v : Nat) => D.int (v : Int)) ∧ (∀ v ∈ vs, v < reach) ∧ vs.length + ds.length = w) ?_ ?_ _ _ _ ⟨p, [], (set_id ho).symm, hpen, rfl, (fun c h => nomatch h), by simp⟩
  · rintro d ds acc os' ⟨p3, vs, rfl, pen3, rfl, hvs, hl⟩ P PX hP
    have e1 : (ρ0.set i (some (.sh d)))[pi]? = some (some (.ow k)) := by rw [List.getElem?_set_ne hi]; exact hp
    have e2 : (ρ0.set i (some (.sh d)))[ri]? = some (some (.sh (.int reach))) := by rw [List.getElem?_set_ne hj]; exact hr
    simp [e1, e2, wRet, wRetN, wAndV, wOrV, wNotV, wF, wCons, wNil, wV, wC, o1, o2, fIsi, fLen, fAll, fInt, fAbs, fII, fTup, fList, fSortA, fSort, wParG, put1, startR, R.fz, R.val, isiD, clsD, clsL, tyD, insOk, bodyPost, wSeq, wNext, wIfS, wT, w2, oAdd, oAddA, wNewT, wCallK, permL, wMakeK, oSub, oI, oIc, oMulW, oDivW, oMod, oPow, oLt, oLe, oGt, oGe, oEq, wIsN, D.isNon, wChain, wIf, wFld, wTup, wLst, shs, wSet, wOwn, wPar, wPar3, wCall, wMake, wMeth, wExpr, wAsgE, geT, geCons, geNil, geF, putD, wAsgT, gT, gsCons, gsNil, gN, iSeq, iOne, iRng, iZip, wNeg, wAnd, wOr, wNot, seqD, shs, oIx, oIxA, oIn, inD, wPut, setD, wGet2, wNewD, wYes, noX, dcD, blsD, eqD, shD, toPy, toPyL, PyData.eqv, PyData.eqvAll, SeqAt.shaped, PyData.canLay0, PyData.canLayAll0, PyData.depth, PyData.depthAll, and_assoc, sz1, sz2, sz3, kit_self, lookup_hd, lookup_tl, Int.natCast_inj, show ((0 : Nat) : Int) = 0 from rfl, kb_NoneType_bool, kb_NoneType_int, kb_NoneType_str, kb_NoneType_list, kb_NoneType_tuple, kb_NoneType_dict, kb_bool_bool, kb_bool_int, kb_bool_str, kb_bool_list, kb_bool_tuple, kb_bool_dict, kb_int_bool, kb_int_int, kb_int_str, kb_int_list, kb_int_tuple, kb_int_dict, kb_str_bool, kb_str_int, kb_str_str, kb_str_list, kb_str_tuple, kb_str_dict, kb_list_bool, kb_list_int, kb_list_str, kb_list_list, kb_list_tuple, kb_list_dict, kb_tuple_bool, kb_tuple_int, kb_tuple_str, kb_tuple_list, kb_tuple_tuple, kb_tuple_dict, kb_dict_bool, kb_dict_int, kb_dict_str, kb_dict_list, kb_dict_tuple, kb_dict_dict]
    refine ⟨k, n + vs.length, p3, reach, rfl, set_at ho, pen3, by simp at hl; omega, h1, h2, fun v p4 hv h4 => ?_⟩
    have := hP (.int v) (os.set k (some p4)) ⟨p4, vs ++ [v], rfl, h4.mono (by simp; omega), by simp, fun q hq => by
      rcases List.mem_append.mp hq with hq | hq
      · exact hvs q hq
      · rw [List.mem_singleton] at hq; subst hq; exact hv, by simp at hl ⊢; omega⟩
    simpa using this
  · rintro acc os' ⟨p3, vs, rfl, pen3, rfl, hvs, hl⟩
    have hl2 : vs.length = w := by simpa using hl
    rw [hl2] at pen3
    exact hend vs p3 hl2 hvs pen3
theorem l__law_rows (h : Φ__law_rows K C rs os P PX) : w__law_rows K C ⟨startR ["pen", "width", "most", "reach", "found", "star", "lap", "row", "column"] rs, os⟩ (bodyPost os.length P PX) := by
  obtain ⟨k, n, w, most, reach, p, rfl, ho, hpen, hn, hw, hm, h1, h2, hp⟩ := h
  have kl : k < os.length := (List.getElem?_eq_some_iff.mp ho).1
  simp [w__law_rows, wFor, wRet, wRetN, wAndV, wOrV, wNotV, wF, wCons, wNil, wV, wC, o1, o2, fIsi, fLen, fAll, fInt, fAbs, fII, fTup, fList, fSortA, fSort, wParG, put1, startR, R.fz, R.val, isiD, clsD, clsL, tyD, insOk, bodyPost, wSeq, wNext, wIfS, wT, w2, oAdd, oAddA, wNewT, wCallK, permL, wMakeK, oSub, oI, oIc, oMulW, oDivW, oMod, oPow, oLt, oLe, oGt, oGe, oEq, wIsN, D.isNon, wChain, wIf, wFld, wTup, wLst, shs, wSet, wOwn, wPar, wPar3, wCall, wMake, wMeth, wExpr, wAsgE, geT, geCons, geNil, geF, putD, wAsgT, gT, gsCons, gsNil, gN, iSeq, iOne, iRng, iZip, wNeg, wAnd, wOr, wNot, seqD, shs, oIx, oIxA, oIn, inD, setD, wGet2, wNewD, wYes, noX, dcD, blsD, eqD, shD, toPy, toPyL, PyData.eqv, PyData.eqvAll, SeqAt.shaped, PyData.canLay0, PyData.canLayAll0, PyData.depth, PyData.depthAll, and_assoc, sz1, sz2, sz3, kit_self, lookup_hd, lookup_tl, Int.natCast_inj, show ((0 : Nat) : Int) = 0 from rfl, kb_NoneType_bool, kb_NoneType_int, kb_NoneType_str, kb_NoneType_list, kb_NoneType_tuple, kb_NoneType_dict, kb_bool_bool, kb_bool_int, kb_bool_str, kb_bool_list, kb_bool_tuple, kb_bool_dict, kb_int_bool, kb_int_int, kb_int_str, kb_int_list, kb_int_tuple, kb_int_dict, kb_str_bool, kb_str_int, kb_str_str, kb_str_list, kb_str_tuple, kb_str_dict, kb_list_bool, kb_list_int, kb_list_str, kb_list_list, kb_list_tuple, kb_list_dict, kb_tuple_bool, kb_tuple_int, kb_tuple_str, kb_tuple_list, kb_tuple_tuple, kb_tuple_dict, kb_dict_bool, kb_dict_int, kb_dict_str, kb_dict_list, kb_dict_tuple, kb_dict_dict]
  refine ⟨by decide, k, n, p, _, rfl, ho, hpen, by omega, by simp, by simp, fun star p2 hstar pen2 => ?_⟩
  have hst : star = .non ∨ star = .int 0 ∨ star = .int 1 := by simpa using hstar
  have sh2 : (os.set k (some p2))[k]? = some (some p2) := set_at ho
  simp [osP sh2, wRet, wRetN, wAndV, wOrV, wNotV, wF, wCons, wNil, wV, wC, o1, o2, fIsi, fLen, fAll, fInt, fAbs, fII, fTup, fList, fSortA, fSort, wParG, put1, startR, R.fz, R.val, isiD, clsD, clsL, tyD, insOk, bodyPost, wSeq, wNext, wIfS, wT, w2, oAdd, oAddA, wNewT, wCallK, permL, wMakeK, oSub, oI, oIc, oMulW, oDivW, oMod, oPow, oLt, oLe, oGt, oGe, oEq, wIsN, D.isNon, wChain, wIf, wFld, wTup, wLst, shs, wSet, wOwn, wPar, wPar3, wCall, wMake, wMeth, wExpr, wAsgE, geT, geCons, geNil, geF, putD, wAsgT, gT, gsCons, gsNil, gN, iSeq, iOne, iRng, iZip, wNeg, wAnd, wOr, wNot, seqD, shs, oIx, oIxA, oIn, inD, setD, wGet2, wNewD, wYes, noX, dcD, blsD, eqD, shD, toPy, toPyL, PyData.eqv, PyData.eqvAll, SeqAt.shaped, PyData.canLay0, PyData.canLayAll0, PyData.depth, PyData.depthAll, and_assoc, sz1, sz2, sz3, kit_self, lookup_hd, lookup_tl, Int.natCast_inj, show ((0 : Nat) : Int) = 0 from rfl, kb_NoneType_bool, kb_NoneType_int, kb_NoneType_str, kb_NoneType_list, kb_NoneType_tuple, kb_NoneType_dict, kb_bool_bool, kb_bool_int, kb_bool_str, kb_bool_list, kb_bool_tuple, kb_bool_dict, kb_int_bool, kb_int_int, kb_int_str, kb_int_list, kb_int_tuple, kb_int_dict, kb_str_bool, kb_str_int, kb_str_str, kb_str_list, kb_str_tuple, kb_str_dict, kb_list_bool, kb_list_int, kb_list_str, kb_list_list, kb_list_tuple, kb_list_dict, kb_tuple_bool, kb_tuple_int, kb_tuple_str, kb_tuple_list, kb_tuple_tuple, kb_tuple_dict, kb_dict_bool, kb_dict_int, kb_dict_str, kb_dict_list, kb_dict_tuple, kb_dict_dict]
  refine ⟨k, n + 1, p2, most + 1, rfl, osP sh2, pen2, by omega, by omega, by omega, fun tot p3 htot pen3 => ?_⟩
  have hz : tot ≤ sizeLine := by rw [sizeLine_eq]; omega
  simp [hz, wRet, wRetN, wAndV, wOrV, wNotV, wF, wCons, wNil, wV, wC, o1, o2, fIsi, fLen, fAll, fInt, fAbs, fII, fTup, fList, fSortA, fSort, wParG, put1, startR, R.fz, R.val, isiD, clsD, clsL, tyD, insOk, bodyPost, wSeq, wNext, wIfS, wT, w2, oAdd, oAddA, wNewT, wCallK, permL, wMakeK, oSub, oI, oIc, oMulW, oDivW, oMod, oPow, oLt, oLe, oGt, oGe, oEq, wIsN, D.isNon, wChain, wIf, wFld, wTup, wLst, shs, wSet, wOwn, wPar, wPar3, wCall, wMake, wMeth, wExpr, wAsgE, geT, geCons, geNil, geF, putD, wAsgT, gT, gsCons, gsNil, gN, iSeq, iOne, iRng, iZip, wNeg, wAnd, wOr, wNot, seqD, shs, oIx, oIxA, oIn, inD, setD, wGet2, wNewD, wYes, noX, dcD, blsD, eqD, shD, toPy, toPyL, PyData.eqv, PyData.eqvAll, SeqAt.shaped, PyData.canLay0, PyData.canLayAll0, PyData.depth, PyData.depthAll, and_assoc, sz1, sz2, sz3, kit_self, lookup_hd, lookup_tl, Int.natCast_inj, show ((0 : Nat) : Int) = 0 from rfl, kb_NoneType_bool, kb_NoneType_int, kb_NoneType_str, kb_NoneType_list, kb_NoneType_tuple, kb_NoneType_dict, kb_bool_bool, kb_bool_int, kb_bool_str, kb_bool_list, kb_bool_tuple, kb_bool_dict, kb_int_bool, kb_int_int, kb_int_str, kb_int_list, kb_int_tuple, kb_int_dict, kb_str_bool, kb_str_int, kb_str_str, kb_str_list, kb_str_tuple, kb_str_dict, kb_list_bool, kb_list_int, kb_list_str, kb_list_list, kb_list_tuple, kb_list_dict, kb_tuple_bool, kb_tuple_int, kb_tuple_str, kb_tuple_list, kb_tuple_tuple, kb_tuple_dict, kb_dict_bool, kb_dict_int, kb_dict_str, kb_dict_list, kb_dict_tuple, kb_dict_dict]
  refine loop_inv (fun ds en => ∃ (p4 : D) (rws : List (List Int)) (junk : Os) (q6 q7 : Option R) (done : Nat), en = ⟨[some (.ow k), some (.sh (.int w)), some (.sh (.int most)), some (.sh (.int reach)), some (.ow os.length), some (.sh star), q6, q7, none], os.set k (some p4) ++ some (.dt (rws.map rowK)) :: junk⟩ ∧
      Pen (n + 2 + 4 * done) p4 ∧ rws.Nodup ∧ (∀ r ∈ rws, r.length = w) ∧ (∀ r ∈ rws, ∀ v ∈ r, 0 ≤ v ∧ v < 2 * reach) ∧ rws.length ≤ done ∧ done + ds.length = tot) ?_ ?_ _ _ ?_
  · rintro en ⟨p4, rws, junk, q6, q7, done, rfl, pen4, nd, hwid, hsml, hlen, hd⟩
    have hd2 : done = tot := by simpa using hd
    have lA : (os.set k (some p4)).length = os.length := List.length_set ..
    have hz2 : rws.length ≤ sizeLine := by rw [sizeLine_eq]; omega
    have ro : ∀ r ∈ rws, RowOk w r := fun r hr => ⟨by rw [hwid r hr], fun v hv => by have := hsml r hr v hv; omega⟩
    have so := sortOk_rows ro (by omega) (by omega : rws.length ≤ 20000)
    have srt := srt_sort nd
    have mem : ∀ r, r ∈ rws.mergeSort leR ↔ r ∈ rws := fun r => List.mem_mergeSort
    have fin := hp (rws.mergeSort leR) p4 ⟨srt, fun r hr => hwid r ((mem r).mp hr), fun r hr => hsml r ((mem r).mp hr), by rw [List.length_mergeSort]; omega⟩ (pen4.mono (by omega))
    have e1 : (rws.map rowK).map keyT = rws.map rowT := rowK_back rws
    rw [List.map_map] at e1
    simp [osF lA, hz2, e1, so, sortD_rows, List.take_left' lA, wRet, wRetN, wAndV, wOrV, wNotV, wF, wCons, wNil, wV, wC, o1, o2, fIsi, fLen, fAll, fInt, fAbs, fII, fTup, fList, fSortA, fSort, wParG, put1, startR, R.fz, R.val, isiD, clsD, clsL, tyD, insOk, bodyPost, wSeq, wNext, wIfS, wT, w2, oAdd, oAddA, wNewT, wCallK, permL, wMakeK, oSub, oI, oIc, oMulW, oDivW, oMod, oPow, oLt, oLe, oGt, oGe, oEq, wIsN, D.isNon, wChain, wIf, wFld, wTup, wLst, shs, wSet, wOwn, wPar, wPar3, wCall, wMake, wMeth, wExpr, wAsgE, geT, geCons, geNil, geF, putD, wAsgT, gT, gsCons, gsNil, gN, iSeq, iOne, iRng, iZip, wNeg, wAnd, wOr, wNot, seqD, shs, oIx, oIxA, oIn, inD, setD, wGet2, wNewD, wYes, noX, dcD, blsD, eqD, shD, toPy, toPyL, PyData.eqv, PyData.eqvAll, SeqAt.shaped, PyData.canLay0, PyData.canLayAll0, PyData.depth, PyData.depthAll, and_assoc, sz1, sz2, sz3, kit_self, lookup_hd, lookup_tl, Int.natCast_inj, show ((0 : Nat) : Int) = 0 from rfl, kb_NoneType_bool, kb_NoneType_int, kb_NoneType_str, kb_NoneType_list, kb_NoneType_tuple, kb_NoneType_dict, kb_bool_bool, kb_bool_int, kb_bool_str, kb_bool_list, kb_bool_tuple, kb_bool_dict, kb_int_bool, kb_int_int, kb_int_str, kb_int_list, kb_int_tuple, kb_int_dict, kb_str_bool, kb_str_int, kb_str_str, kb_str_list, kb_str_tuple, kb_str_dict, kb_list_bool, kb_list_int, kb_list_str, kb_list_list, kb_list_tuple, kb_list_dict, kb_tuple_bool, kb_tuple_int, kb_tuple_str, kb_tuple_list, kb_tuple_tuple, kb_tuple_dict, kb_dict_bool, kb_dict_int, kb_dict_str, kb_dict_list, kb_dict_tuple, kb_dict_dict]
    exact fin
  · rintro d ds en ⟨p4, rws, junk, q6, q7, done, rfl, pen4, nd, hwid, hsml, hlen, hd⟩
    have hdl : done + 1 + ds.length = tot := by simp at hd; omega
    refine ⟨_, rfl, fun N hN => ?_⟩
    have sh4 : (os.set k (some p4))[k]? = some (some p4) := set_at ho
    have hzw : w ≤ sizeLine := by rw [sizeLine_eq]; omega
    have hw2 : ((w : Nat) : Int).toNat = w := by simp
    simp [wLc, wipeR, restR, hzw, wRet, wRetN, wAndV, wOrV, wNotV, wF, wCons, wNil, wV, wC, o1, o2, fIsi, fLen, fAll, fInt, fAbs, fII, fTup, fList, fSortA, fSort, wParG, put1, startR, R.fz, R.val, isiD, clsD, clsL, tyD, insOk, bodyPost, wSeq, wNext, wIfS, wT, w2, oAdd, oAddA, wNewT, wCallK, permL, wMakeK, oSub, oI, oIc, oMulW, oDivW, oMod, oPow, oLt, oLe, oGt, oGe, oEq, wIsN, D.isNon, wChain, wIf, wFld, wTup, wLst, shs, wSet, wOwn, wPar, wPar3, wCall, wMake, wMeth, wExpr, wAsgE, geT, geCons, geNil, geF, putD, wAsgT, gT, gsCons, gsNil, gN, iSeq, iOne, iRng, iZip, wNeg, wAnd, wOr, wNot, seqD, shs, oIx, oIxA, oIn, inD, setD, wGet2, wNewD, wYes, noX, dcD, blsD, eqD, shD, toPy, toPyL, PyData.eqv, PyData.eqvAll, SeqAt.shaped, PyData.canLay0, PyData.canLayAll0, PyData.depth, PyData.depthAll, and_assoc, sz1, sz2, sz3, kit_self, lookup_hd, lookup_tl, Int.natCast_inj, show ((0 : Nat) : Int) = 0 from rfl, kb_NoneType_bool, kb_NoneType_int, kb_NoneType_str, kb_NoneType_list, kb_NoneType_tuple, kb_NoneType_dict, kb_bool_bool, kb_bool_int, kb_bool_str, kb_bool_list, kb_bool_tuple, kb_bool_dict, kb_int_bool, kb_int_int, kb_int_str, kb_int_list, kb_int_tuple, kb_int_dict, kb_str_bool, kb_str_int, kb_str_str, kb_str_list, kb_str_tuple, kb_str_dict, kb_list_bool, kb_list_int, kb_list_str, kb_list_list, kb_list_tuple, kb_list_dict, kb_tuple_bool, kb_tuple_int, kb_tuple_str, kb_tuple_list, kb_tuple_tuple, kb_tuple_dict, kb_dict_bool, kb_dict_int, kb_dict_str, kb_dict_list, kb_dict_tuple, kb_dict_dict]
    refine draws K C (k := k) (reach := reach) (n := n + 2 + 4 * done) rfl (by decide) (by decide) rfl rfl (osP sh4) pen4 (by omega) h1 (by omega) fun vs p5 hvl hvr pen5 => ?_
    have lA : (os.set k (some p5)).length = os.length := List.length_set ..
    -- behind the row is made: it is put
    have put : ∀ (r : List Int) (p6 : D), r.length = w → (∀ v ∈ r, 0 ≤ v ∧ v < 2 * reach) → Pen (n + 2 + 4 * (done + 1)) p6 →
        N ⟨[some (.ow k), some (.sh (.int w)), some (.sh (.int most)), some (.sh (.int reach)), some (.ow os.length), some (.sh star), some (.sh d), some (.ow (os.length + 1 + junk.length)), none], os.set k (some p6) ++ some (.dt ((if r ∈ rws then rws else rws ++ [r]).map rowK)) :: (junk ++ [some (.lst (r.map .int))])⟩ := fun r p6 hrl hrr pen6 => by
      refine hN _ ⟨p6, _, _, _, _, done + 1, rfl, pen6, ?_, ?_, ?_, ?_, hdl⟩
      · split
        · exact nd
        · rename_i hnot
          rw [List.nodup_append]
          refine ⟨nd, by simp, fun a ha b hb e => ?_⟩
          rw [List.mem_singleton] at hb
          subst hb; subst e
          exact hnot ha
      · intro q hq
        split at hq
        · exact hwid q hq
        · rcases List.mem_append.mp hq with hq | hq
          · exact hwid q hq
          · rw [List.mem_singleton] at hq; subst hq; exact hrl
      · intro q hq
        split at hq
        · exact hsml q hq
        · rcases List.mem_append.mp hq with hq | hq
          · exact hsml q hq
          · rw [List.mem_singleton] at hq; subst hq; exact hrr
      · split
        · omega
        · rw [List.length_append, List.length_singleton]; omega
    have ev : (vs.map fun (v : Nat) => D.int (v : Int)) = (vs.map fun (v : Nat) => (v : Int)).map D.int := by rw [List.map_map]; rfl
    have rl : (vs.map fun (v : Nat) => (v : Int)).length = w := by rw [List.length_map]; exact hvl
    have rr : ∀ v ∈ (vs.map fun (v : Nat) => (v : Int)), 0 ≤ v ∧ v < (reach : Int) := fun v hv => by
      obtain ⟨u, hu, rfl⟩ := List.mem_map.mp hv
      have := hvr u hu
      omega
    rw [ev]
    generalize (vs.map fun (v : Nat) => (v : Int)) = r at rl rr
    have l5 : (os.set k (some p5) ++ some (.dt (rws.map rowK)) :: junk).length = os.length + 1 + junk.length := by simp; omega
    have fin : ∀ (r : List Int) (p6 : D) (Q : Post), r.length = w → (∀ v ∈ r, 0 ≤ v ∧ v < 2 * reach) → Pen (n + 2 + 4 * (done + 1)) p6 → Q.nx = N →
        wPut (wV 4) (wF (o1 fTup) (wCons (wV 7) wNil)) (wC (.bl true)) ⟨[some (.ow k), some (.sh (.int w)), some (.sh (.int most)), some (.sh (.int reach)), some (.ow os.length), some (.sh star), some (.sh d), some (.ow (os.length + 1 + junk.length)), none], os.set k (some p6) ++ some (.dt (rws.map rowK)) :: (junk ++ [some (.lst (r.map .int))])⟩ Q := fun r p6 Q hrl hrr pen6 hQ => by
      have lA6 : (os.set k (some p6)).length = os.length := List.length_set ..
      have kd : keysD (D.tup (r.map D.int)) = some (r.map Sum.inl) := keysD_row r
      have hlt : rws.length < sizeLine := by rw [sizeLine_eq]; omega
      have pt := put r p6 hrl hrr pen6
      rw [← put_rowK] at pt
      simp [osF lA6, osR lA6, osF_set lA6, kd, hlt, hQ, wRet, wRetN, wAndV, wOrV, wNotV, wF, wCons, wNil, wV, wC, o1, o2, fIsi, fLen, fAll, fInt, fAbs, fII, fTup, fList, fSortA, fSort, wParG, put1, startR, R.fz, R.val, isiD, clsD, clsL, tyD, insOk, bodyPost, wSeq, wNext, wIfS, wT, w2, oAdd, oAddA, wNewT, wCallK, permL, wMakeK, oSub, oI, oIc, oMulW, oDivW, oMod, oPow, oLt, oLe, oGt, oGe, oEq, wIsN, D.isNon, wChain, wIf, wFld, wTup, wLst, shs, wSet, wOwn, wPar, wPar3, wCall, wMake, wMeth, wExpr, wAsgE, geT, geCons, geNil, geF, putD, wAsgT, gT, gsCons, gsNil, gN, iSeq, iOne, iRng, iZip, wNeg, wAnd, wOr, wNot, seqD, shs, oIx, oIxA, oIn, inD, wPut, setD, wGet2, wNewD, wYes, noX, dcD, blsD, eqD, shD, toPy, toPyL, PyData.eqv, PyData.eqvAll, SeqAt.shaped, PyData.canLay0, PyData.canLayAll0, PyData.depth, PyData.depthAll, and_assoc, sz1, sz2, sz3, kit_self, lookup_hd, lookup_tl, Int.natCast_inj, show ((0 : Nat) : Int) = 0 from rfl, kb_NoneType_bool, kb_NoneType_int, kb_NoneType_str, kb_NoneType_list, kb_NoneType_tuple, kb_NoneType_dict, kb_bool_bool, kb_bool_int, kb_bool_str, kb_bool_list, kb_bool_tuple, kb_bool_dict, kb_int_bool, kb_int_int, kb_int_str, kb_int_list, kb_int_tuple, kb_int_dict, kb_str_bool, kb_str_int, kb_str_str, kb_str_list, kb_str_tuple, kb_str_dict, kb_list_bool, kb_list_int, kb_list_str, kb_list_list, kb_list_tuple, kb_list_dict, kb_tuple_bool, kb_tuple_int, kb_tuple_str, kb_tuple_list, kb_tuple_tuple, kb_tuple_dict, kb_dict_bool, kb_dict_int, kb_dict_str, kb_dict_list, kb_dict_tuple, kb_dict_dict]
      exact pt
    simp only [osP_set sh4, List.set_set]
    have sh5 : (os.set k (some p5))[k]? = some (some p5) := set_at ho
    have easy : ∀ (r' : List Int), r' = r → ∀ v ∈ r', 0 ≤ v ∧ v < 2 * (reach : Int) := fun r' e v hv => by
      subst e
      have := rr v hv
      omega
    rcases hst with rfl | rfl | rfl
    · simp [l5, restR, wRet, wRetN, wAndV, wOrV, wNotV, wF, wCons, wNil, wV, wC, o1, o2, fIsi, fLen, fAll, fInt, fAbs, fII, fTup, fList, fSortA, fSort, wParG, put1, startR, R.fz, R.val, isiD, clsD, clsL, tyD, insOk, bodyPost, wSeq, wNext, wIfS, wT, w2, oAdd, oAddA, wNewT, wCallK, permL, wMakeK, oSub, oI, oIc, oMulW, oDivW, oMod, oPow, oLt, oLe, oGt, oGe, oEq, wIsN, D.isNon, wChain, wIf, wFld, wTup, wLst, shs, wSet, wOwn, wPar, wPar3, wCall, wMake, wMeth, wExpr, wAsgE, geT, geCons, geNil, geF, putD, wAsgT, gT, gsCons, gsNil, gN, iSeq, iOne, iRng, iZip, wNeg, wAnd, wOr, wNot, seqD, shs, oIx, oIxA, oIn, inD, setD, wGet2, wNewD, wYes, noX, dcD, blsD, eqD, shD, toPy, toPyL, PyData.eqv, PyData.eqvAll, SeqAt.shaped, PyData.canLay0, PyData.canLayAll0, PyData.depth, PyData.depthAll, and_assoc, sz1, sz2, sz3, kit_self, lookup_hd, lookup_tl, Int.natCast_inj, show ((0 : Nat) : Int) = 0 from rfl, kb_NoneType_bool, kb_NoneType_int, kb_NoneType_str, kb_NoneType_list, kb_NoneType_tuple, kb_NoneType_dict, kb_bool_bool, kb_bool_int, kb_bool_str, kb_bool_list, kb_bool_tuple, kb_bool_dict, kb_int_bool, kb_int_int, kb_int_str, kb_int_list, kb_int_tuple, kb_int_dict, kb_str_bool, kb_str_int, kb_str_str, kb_str_list, kb_str_tuple, kb_str_dict, kb_list_bool, kb_list_int, kb_list_str, kb_list_list, kb_list_tuple, kb_list_dict, kb_tuple_bool, kb_tuple_int, kb_tuple_str, kb_tuple_list, kb_tuple_tuple, kb_tuple_dict, kb_dict_bool, kb_dict_int, kb_dict_str, kb_dict_list, kb_dict_tuple, kb_dict_dict]
      exact fin r p5 _ rl (easy r rfl) (pen5.mono (by omega)) (by rfl)
    all_goals
      rcases hw with rfl | rfl
      · simp [l5, restR, wRet, wRetN, wAndV, wOrV, wNotV, wF, wCons, wNil, wV, wC, o1, o2, fIsi, fLen, fAll, fInt, fAbs, fII, fTup, fList, fSortA, fSort, wParG, put1, startR, R.fz, R.val, isiD, clsD, clsL, tyD, insOk, bodyPost, wSeq, wNext, wIfS, wT, w2, oAdd, oAddA, wNewT, wCallK, permL, wMakeK, oSub, oI, oIc, oMulW, oDivW, oMod, oPow, oLt, oLe, oGt, oGe, oEq, wIsN, D.isNon, wChain, wIf, wFld, wTup, wLst, shs, wSet, wOwn, wPar, wPar3, wCall, wMake, wMeth, wExpr, wAsgE, geT, geCons, geNil, geF, putD, wAsgT, gT, gsCons, gsNil, gN, iSeq, iOne, iRng, iZip, wNeg, wAnd, wOr, wNot, seqD, shs, oIx, oIxA, oIn, inD, setD, wGet2, wNewD, wYes, noX, dcD, blsD, eqD, shD, toPy, toPyL, PyData.eqv, PyData.eqvAll, SeqAt.shaped, PyData.canLay0, PyData.canLayAll0, PyData.depth, PyData.depthAll, and_assoc, sz1, sz2, sz3, kit_self, lookup_hd, lookup_tl, Int.natCast_inj, show ((0 : Nat) : Int) = 0 from rfl, kb_NoneType_bool, kb_NoneType_int, kb_NoneType_str, kb_NoneType_list, kb_NoneType_tuple, kb_NoneType_dict, kb_bool_bool, kb_bool_int, kb_bool_str, kb_bool_list, kb_bool_tuple, kb_bool_dict, kb_int_bool, kb_int_int, kb_int_str, kb_int_list, kb_int_tuple, kb_int_dict, kb_str_bool, kb_str_int, kb_str_str, kb_str_list, kb_str_tuple, kb_str_dict, kb_list_bool, kb_list_int, kb_list_str, kb_list_list, kb_list_tuple, kb_list_dict, kb_tuple_bool, kb_tuple_int, kb_tuple_str, kb_tuple_list, kb_tuple_tuple, kb_tuple_dict, kb_dict_bool, kb_dict_int, kb_dict_str, kb_dict_list, kb_dict_tuple, kb_dict_dict]
        exact fin r p5 _ rl (easy r rfl) (pen5.mono (by omega)) (by rfl)
      · simp [l5, restR, wRet, wRetN, wAndV, wOrV, wNotV, wF, wCons, wNil, wV, wC, o1, o2, fIsi, fLen, fAll, fInt, fAbs, fII, fTup, fList, fSortA, fSort, wParG, put1, startR, R.fz, R.val, isiD, clsD, clsL, tyD, insOk, bodyPost, wSeq, wNext, wIfS, wT, w2, oAdd, oAddA, wNewT, wCallK, permL, wMakeK, oSub, oI, oIc, oMulW, oDivW, oMod, oPow, oLt, oLe, oGt, oGe, oEq, wIsN, D.isNon, wChain, wIf, wFld, wTup, wLst, shs, wSet, wOwn, wPar, wPar3, wCall, wMake, wMeth, wExpr, wAsgE, geT, geCons, geNil, geF, putD, wAsgT, gT, gsCons, gsNil, gN, iSeq, iOne, iRng, iZip, wNeg, wAnd, wOr, wNot, seqD, shs, oIx, oIxA, oIn, inD, setD, wGet2, wNewD, wYes, noX, dcD, blsD, eqD, shD, toPy, toPyL, PyData.eqv, PyData.eqvAll, SeqAt.shaped, PyData.canLay0, PyData.canLayAll0, PyData.depth, PyData.depthAll, and_assoc, sz1, sz2, sz3, kit_self, lookup_hd, lookup_tl, Int.natCast_inj, show ((0 : Nat) : Int) = 0 from rfl, kb_NoneType_bool, kb_NoneType_int, kb_NoneType_str, kb_NoneType_list, kb_NoneType_tuple, kb_NoneType_dict, kb_bool_bool, kb_bool_int, kb_bool_str, kb_bool_list, kb_bool_tuple, kb_bool_dict, kb_int_bool, kb_int_int, kb_int_str, kb_int_list, kb_int_tuple, kb_int_dict, kb_str_bool, kb_str_int, kb_str_str, kb_str_list, kb_str_tuple, kb_str_dict, kb_list_bool, kb_list_int, kb_list_str, kb_list_list, kb_list_tuple, kb_list_dict, kb_tuple_bool, kb_tuple_int, kb_tuple_str, kb_tuple_list, kb_tuple_tuple, kb_tuple_dict, kb_dict_bool, kb_dict_int, kb_dict_str, kb_dict_list, kb_dict_tuple, kb_dict_dict]
        refine ⟨k, n + 2 + 4 * done + 2, p5, 2, rfl, osP sh5, pen5, by omega, by omega, by omega, fun v p6 hv pen6 => ?_⟩
        rw [osP_set sh5, List.set_set]
        have sh6 : (os.set k (some p6))[k]? = some (some p6) := set_at ho
        cases ez : ((v : Int) == 0) with
        | false =>
          simp [ez, wRet, wRetN, wAndV, wOrV, wNotV, wF, wCons, wNil, wV, wC, o1, o2, fIsi, fLen, fAll, fInt, fAbs, fII, fTup, fList, fSortA, fSort, wParG, put1, startR, R.fz, R.val, isiD, clsD, clsL, tyD, insOk, bodyPost, wSeq, wNext, wIfS, wT, w2, oAdd, oAddA, wNewT, wCallK, permL, wMakeK, oSub, oI, oIc, oMulW, oDivW, oMod, oPow, oLt, oLe, oGt, oGe, oEq, wIsN, D.isNon, wChain, wIf, wFld, wTup, wLst, shs, wSet, wOwn, wPar, wPar3, wCall, wMake, wMeth, wExpr, wAsgE, geT, geCons, geNil, geF, putD, wAsgT, gT, gsCons, gsNil, gN, iSeq, iOne, iRng, iZip, wNeg, wAnd, wOr, wNot, seqD, shs, oIx, oIxA, oIn, inD, setD, wGet2, wNewD, wYes, noX, dcD, blsD, eqD, shD, toPy, toPyL, PyData.eqv, PyData.eqvAll, SeqAt.shaped, PyData.canLay0, PyData.canLayAll0, PyData.depth, PyData.depthAll, and_assoc, sz1, sz2, sz3, kit_self, lookup_hd, lookup_tl, Int.natCast_inj, show ((0 : Nat) : Int) = 0 from rfl, kb_NoneType_bool, kb_NoneType_int, kb_NoneType_str, kb_NoneType_list, kb_NoneType_tuple, kb_NoneType_dict, kb_bool_bool, kb_bool_int, kb_bool_str, kb_bool_list, kb_bool_tuple, kb_bool_dict, kb_int_bool, kb_int_int, kb_int_str, kb_int_list, kb_int_tuple, kb_int_dict, kb_str_bool, kb_str_int, kb_str_str, kb_str_list, kb_str_tuple, kb_str_dict, kb_list_bool, kb_list_int, kb_list_str, kb_list_list, kb_list_tuple, kb_list_dict, kb_tuple_bool, kb_tuple_int, kb_tuple_str, kb_tuple_list, kb_tuple_tuple, kb_tuple_dict, kb_dict_bool, kb_dict_int, kb_dict_str, kb_dict_list, kb_dict_tuple, kb_dict_dict]
          exact fin r p6 _ rl (easy r rfl) (pen6.mono (by omega)) (by rfl)
        | true =>
          simp [ez, wRet, wRetN, wAndV, wOrV, wNotV, wF, wCons, wNil, wV, wC, o1, o2, fIsi, fLen, fAll, fInt, fAbs, fII, fTup, fList, fSortA, fSort, wParG, put1, startR, R.fz, R.val, isiD, clsD, clsL, tyD, insOk, bodyPost, wSeq, wNext, wIfS, wT, w2, oAdd, oAddA, wNewT, wCallK, permL, wMakeK, oSub, oI, oIc, oMulW, oDivW, oMod, oPow, oLt, oLe, oGt, oGe, oEq, wIsN, D.isNon, wChain, wIf, wFld, wTup, wLst, shs, wSet, wOwn, wPar, wPar3, wCall, wMake, wMeth, wExpr, wAsgE, geT, geCons, geNil, geF, putD, wAsgT, gT, gsCons, gsNil, gN, iSeq, iOne, iRng, iZip, wNeg, wAnd, wOr, wNot, seqD, shs, oIx, oIxA, oIn, inD, setD, wGet2, wNewD, wYes, noX, dcD, blsD, eqD, shD, toPy, toPyL, PyData.eqv, PyData.eqvAll, SeqAt.shaped, PyData.canLay0, PyData.canLayAll0, PyData.depth, PyData.depthAll, and_assoc, sz1, sz2, sz3, kit_self, lookup_hd, lookup_tl, Int.natCast_inj, show ((0 : Nat) : Int) = 0 from rfl, kb_NoneType_bool, kb_NoneType_int, kb_NoneType_str, kb_NoneType_list, kb_NoneType_tuple, kb_NoneType_dict, kb_bool_bool, kb_bool_int, kb_bool_str, kb_bool_list, kb_bool_tuple, kb_bool_dict, kb_int_bool, kb_int_int, kb_int_str, kb_int_list, kb_int_tuple, kb_int_dict, kb_str_bool, kb_str_int, kb_str_str, kb_str_list, kb_str_tuple, kb_str_dict, kb_list_bool, kb_list_int, kb_list_str, kb_list_list, kb_list_tuple, kb_list_dict, kb_tuple_bool, kb_tuple_int, kb_tuple_str, kb_tuple_list, kb_tuple_tuple, kb_tuple_dict, kb_dict_bool, kb_dict_int, kb_dict_str, kb_dict_list, kb_dict_tuple, kb_dict_dict]
          refine ⟨CMul.ok (.inl ⟨by omega, by omega⟩), k, n + 2 + 4 * done + 3, p6, 2 * reach, by rw [Int.natCast_mul]; rfl, osP sh6, pen6, by omega, by omega, by omega, fun u p7 hu pen7 => ?_⟩
          rw [osP_set sh6, List.set_set]
          have lA7 : (os.set k (some p7)).length = os.length := List.length_set ..
          match r, rl, rr with
          | [a, b], _, rr =>
            have ra := rr a (by simp)
            have rb := rr b (by simp)
            simp [geS, ixVf, ixSubf, ixCf, osR lA7, osR_set lA7, ixN, wRet, wRetN, wAndV, wOrV, wNotV, wF, wCons, wNil, wV, wC, o1, o2, fIsi, fLen, fAll, fInt, fAbs, fII, fTup, fList, fSortA, fSort, wParG, put1, startR, R.fz, R.val, isiD, clsD, clsL, tyD, insOk, bodyPost, wSeq, wNext, wIfS, wT, w2, oAdd, oAddA, wNewT, wCallK, permL, wMakeK, oSub, oI, oIc, oMulW, oDivW, oMod, oPow, oLt, oLe, oGt, oGe, oEq, wIsN, D.isNon, wChain, wIf, wFld, wTup, wLst, shs, wSet, wOwn, wPar, wPar3, wCall, wMake, wMeth, wExpr, wAsgE, geT, geCons, geNil, geF, putD, wAsgT, gT, gsCons, gsNil, gN, iSeq, iOne, iRng, iZip, wNeg, wAnd, wOr, wNot, seqD, shs, oIx, oIxA, oIn, inD, setD, wGet2, wNewD, wYes, noX, dcD, blsD, eqD, shD, toPy, toPyL, PyData.eqv, PyData.eqvAll, SeqAt.shaped, PyData.canLay0, PyData.canLayAll0, PyData.depth, PyData.depthAll, and_assoc, sz1, sz2, sz3, kit_self, lookup_hd, lookup_tl, Int.natCast_inj, show ((0 : Nat) : Int) = 0 from rfl, kb_NoneType_bool, kb_NoneType_int, kb_NoneType_str, kb_NoneType_list, kb_NoneType_tuple, kb_NoneType_dict, kb_bool_bool, kb_bool_int, kb_bool_str, kb_bool_list, kb_bool_tuple, kb_bool_dict, kb_int_bool, kb_int_int, kb_int_str, kb_int_list, kb_int_tuple, kb_int_dict, kb_str_bool, kb_str_int, kb_str_str, kb_str_list, kb_str_tuple, kb_str_dict, kb_list_bool, kb_list_int, kb_list_str, kb_list_list, kb_list_tuple, kb_list_dict, kb_tuple_bool, kb_tuple_int, kb_tuple_str, kb_tuple_list, kb_tuple_tuple, kb_tuple_dict, kb_dict_bool, kb_dict_int, kb_dict_str, kb_dict_list, kb_dict_tuple, kb_dict_dict]
            first
              | exact fin [0, (u : Int)] p7 _ rfl (by simp; omega) (pen7.mono (by omega)) (by rfl)
              | exact fin [(u : Int), 0] p7 _ rfl (by simp; omega) (pen7.mono (by omega)) (by rfl)
  · exact ⟨p3, [], [], none, none, 0, by simp [osP_set sh2], pen3, List.nodup_nil, (fun r h => nomatch h), (fun r h => nomatch h), Nat.le_refl _, by simp⟩
end
end L2.TL.W

/-! text K07k -/
set_option Elab.async false
set_option linter.all false
set_option maxRecDepth 100000
set_option maxHeartbeats 4000000
namespace L2.TL.W
open PySem PySem.Spec PyProof.Rows L2.TL
theorem mergeD_same {kvs : List (Key × D)} (nd : (kvs.map (·.1)).Nodup) : mergeD kvs = kvs := by
  unfold mergeD
  rw [fold_put (kk := fun kv : Key × D => kv.1) (fv := fun kv => kv.2) kvs [] nd (fun d _ a ha => by cases ha)]
  simp
theorem srt_filter {rws : List (List Int)} (h : Srt rws) (p : List Int → Bool) : Srt (rws.filter p) := by
  refine ⟨?_, List.Pairwise.filter _ h.2⟩
  have := h.1
  rw [List.pairwise_map] at this ⊢
  exact List.Pairwise.filter _ this
section
variable {K : PySem.W.Frag} {mg : Str → Option Value} {C : Cs} {rs : List R} {os : Os} {P : R → Os → Prop} {PX : Er → Os → Prop}
theorem l__law_parts (h : Φ__law_parts K C rs os P PX) : w__law_parts K C ⟨startR ["rows", "column", "threshold", "base", "many", "few", "value", "one", "row"] rs, os⟩ (bodyPost os.length P PX) := by
  obtain ⟨rws, c, a, b, base, rfl, srt, ro, hc, hl, ha, hb, hbase, hp⟩ := h
  have h2 : ∀ r ∈ rws, r.length = 2 := fun r hr => by have := (ro r hr).1; omega
  simp [w__law_parts, wRet, wRetN, wAndV, wOrV, wNotV, wF, wCons, wNil, wV, wC, o1, o2, fIsi, fLen, fAll, fInt, fAbs, fII, fTup, fList, fSortA, fSort, wParG, put1, startR, R.fz, R.val, isiD, clsD, clsL, tyD, insOk, bodyPost, wSeq, wNext, wIfS, wT, w2, oAdd, oAddA, wNewT, wCallK, permL, wMakeK, oSub, oI, oIc, oMulW, oDivW, oMod, oPow, oLt, oLe, oGt, oGe, oEq, wIsN, D.isNon, wChain, wIf, wFld, wTup, wLst, shs, wSet, wOwn, wPar, wPar3, wCall, wMake, wMeth, wExpr, wAsgE, geT, geCons, geNil, geF, putD, wAsgT, gT, gsCons, gsNil, gN, iSeq, iOne, iRng, iZip, wNeg, wAnd, wOr, wNot, seqD, shs, oIx, oIxA, oIn, inD, wPut, setD, wGet2, wNewD, wYes, noX, dcD, blsD, eqD, shD, toPy, toPyL, PyData.eqv, PyData.eqvAll, SeqAt.shaped, PyData.canLay0, PyData.canLayAll0, PyData.depth, PyData.depthAll, and_assoc, sz1, sz2, sz3, kit_self, lookup_hd, lookup_tl, Int.natCast_inj, show ((0 : Nat) : Int) = 0 from rfl, kb_NoneType_bool, kb_NoneType_int, kb_NoneType_str, kb_NoneType_list, kb_NoneType_tuple, kb_NoneType_dict, kb_bool_bool, kb_bool_int, kb_bool_str, kb_bool_list, kb_bool_tuple, kb_bool_dict, kb_int_bool, kb_int_int, kb_int_str, kb_int_list, kb_int_tuple, kb_int_dict, kb_str_bool, kb_str_int, kb_str_str, kb_str_list, kb_str_tuple, kb_str_dict, kb_list_bool, kb_list_int, kb_list_str, kb_list_list, kb_list_tuple, kb_list_dict, kb_tuple_bool, kb_tuple_int, kb_tuple_str, kb_tuple_list, kb_tuple_tuple, kb_tuple_dict, kb_dict_bool, kb_dict_int, kb_dict_str, kb_dict_list, kb_dict_tuple, kb_dict_dict]
  refine ⟨rws, c, rfl, h2, hc, hl, fun kvs ⟨nd, hk, hlen, _⟩ => ?_⟩
  unfold crowdD
  have hz : (kvs.map fun kv => ((.inl kv.1, .int kv.2) : Key × D)).length ≤ sizeLine := by rw [List.length_map, sizeLine_eq]; omega
  have ei : (kvs.map fun kv => ((.inl kv.1, .int kv.2) : Key × D)).map itemD = (kvs.map fun kv => (D.int kv.1, D.int (kv.2 : Int))).map fun p => .tup [p.1, p.2] := by
    rw [List.map_map, List.map_map]; rfl
  have hcnt : ∀ kv ∈ kvs, kv.2 ≤ 20000 := fun kv hm => by
    rw [← lookupN_mem nd hm, hk]; exact Nat.le_trans (cnt_le ..) hl
  simp only [wSeq, wSet, wLc, iOne, wV, itemsD]
  simp [hz, ei, wipeR, restR, wRet, wRetN, wAndV, wOrV, wNotV, wF, wCons, wNil, wV, wC, o1, o2, fIsi, fLen, fAll, fInt, fAbs, fII, fTup, fList, fSortA, fSort, wParG, put1, startR, R.fz, R.val, isiD, clsD, clsL, tyD, insOk, bodyPost, wSeq, wNext, wIfS, wT, w2, oAdd, oAddA, wNewT, wCallK, permL, wMakeK, oSub, oI, oIc, oMulW, oDivW, oMod, oPow, oLt, oLe, oGt, oGe, oEq, wIsN, D.isNon, wChain, wIf, wFld, wTup, wLst, shs, wSet, wOwn, wPar, wPar3, wCall, wMake, wMeth, wExpr, wAsgE, geT, geCons, geNil, geF, putD, wAsgT, gT, gsCons, gsNil, gN, iSeq, iOne, iRng, iZip, wNeg, wAnd, wOr, wNot, seqD, shs, oIx, oIxA, oIn, inD, wPut, setD, wGet2, wNewD, wYes, noX, dcD, blsD, eqD, shD, toPy, toPyL, PyData.eqv, PyData.eqvAll, SeqAt.shaped, PyData.canLay0, PyData.canLayAll0, PyData.depth, PyData.depthAll, and_assoc, sz1, sz2, sz3, kit_self, lookup_hd, lookup_tl, Int.natCast_inj, show ((0 : Nat) : Int) = 0 from rfl, kb_NoneType_bool, kb_NoneType_int, kb_NoneType_str, kb_NoneType_list, kb_NoneType_tuple, kb_NoneType_dict, kb_bool_bool, kb_bool_int, kb_bool_str, kb_bool_list, kb_bool_tuple, kb_bool_dict, kb_int_bool, kb_int_int, kb_int_str, kb_int_list, kb_int_tuple, kb_int_dict, kb_str_bool, kb_str_int, kb_str_str, kb_str_list, kb_str_tuple, kb_str_dict, kb_list_bool, kb_list_int, kb_list_str, kb_list_list, kb_list_tuple, kb_list_dict, kb_tuple_bool, kb_tuple_int, kb_tuple_str, kb_tuple_list, kb_tuple_tuple, kb_tuple_dict, kb_dict_bool, kb_dict_int, kb_dict_str, kb_dict_list, kb_dict_tuple, kb_dict_dict]
  rw [if_pos (by rw [List.length_map] at hz; exact hz)]
  rw [← List.map_map]
  refine lcL_map2 (f := fun d => .tup [d.1, match d.2 with | .int n => .bl (decide (n.toNat ^ b ≤ base ^ a)) | _ => .non]) rfl (by decide) (fun d hd P PX h => ?_) ?_
  · obtain ⟨kv, hm, rfl⟩ := List.mem_map.mp hd
    simp [wRet, wRetN, wAndV, wOrV, wNotV, wF, wCons, wNil, wV, wC, o1, o2, fIsi, fLen, fAll, fInt, fAbs, fII, fTup, fList, fSortA, fSort, wParG, put1, startR, R.fz, R.val, isiD, clsD, clsL, tyD, insOk, bodyPost, wSeq, wNext, wIfS, wT, w2, oAdd, oAddA, wNewT, wCallK, permL, wMakeK, oSub, oI, oIc, oMulW, oDivW, oMod, oPow, oLt, oLe, oGt, oGe, oEq, wIsN, D.isNon, wChain, wIf, wFld, wTup, wLst, shs, wSet, wOwn, wPar, wPar3, wCall, wMake, wMeth, wExpr, wAsgE, geT, geCons, geNil, geF, putD, wAsgT, gT, gsCons, gsNil, gN, iSeq, iOne, iRng, iZip, wNeg, wAnd, wOr, wNot, seqD, shs, oIx, oIxA, oIn, inD, wPut, setD, wGet2, wNewD, wYes, noX, dcD, blsD, eqD, shD, toPy, toPyL, PyData.eqv, PyData.eqvAll, SeqAt.shaped, PyData.canLay0, PyData.canLayAll0, PyData.depth, PyData.depthAll, and_assoc, sz1, sz2, sz3, kit_self, lookup_hd, lookup_tl, Int.natCast_inj, show ((0 : Nat) : Int) = 0 from rfl, kb_NoneType_bool, kb_NoneType_int, kb_NoneType_str, kb_NoneType_list, kb_NoneType_tuple, kb_NoneType_dict, kb_bool_bool, kb_bool_int, kb_bool_str, kb_bool_list, kb_bool_tuple, kb_bool_dict, kb_int_bool, kb_int_int, kb_int_str, kb_int_list, kb_int_tuple, kb_int_dict, kb_str_bool, kb_str_int, kb_str_str, kb_str_list, kb_str_tuple, kb_str_dict, kb_list_bool, kb_list_int, kb_list_str, kb_list_list, kb_list_tuple, kb_list_dict, kb_tuple_bool, kb_tuple_int, kb_tuple_str, kb_tuple_list, kb_tuple_tuple, kb_tuple_dict, kb_dict_bool, kb_dict_int, kb_dict_str, kb_dict_list, kb_dict_tuple, kb_dict_dict]
    refine ⟨kv.2, base, a, b, rfl, by have := hcnt kv hm; omega, by omega, ha, hb, ?_⟩
    have := sz2
    simpa [wRet, wRetN, wAndV, wOrV, wNotV, wF, wCons, wNil, wV, wC, o1, o2, fIsi, fLen, fAll, fInt, fAbs, fII, fTup, fList, fSortA, fSort, wParG, put1, startR, R.fz, R.val, isiD, clsD, clsL, tyD, insOk, bodyPost, wSeq, wNext, wIfS, wT, w2, oAdd, oAddA, wNewT, wCallK, permL, wMakeK, oSub, oI, oIc, oMulW, oDivW, oMod, oPow, oLt, oLe, oGt, oGe, oEq, wIsN, D.isNon, wChain, wIf, wFld, wTup, wLst, shs, wSet, wOwn, wPar, wPar3, wCall, wMake, wMeth, wExpr, wAsgE, geT, geCons, geNil, geF, putD, wAsgT, gT, gsCons, gsNil, gN, iSeq, iOne, iRng, iZip, wNeg, wAnd, wOr, wNot, seqD, shs, oIx, oIxA, oIn, inD, wPut, setD, wGet2, wNewD, wYes, noX, dcD, blsD, eqD, shD, toPy, toPyL, PyData.eqv, PyData.eqvAll, SeqAt.shaped, PyData.canLay0, PyData.canLayAll0, PyData.depth, PyData.depthAll, and_assoc, sz1, sz2, sz3, kit_self, lookup_hd, lookup_tl, Int.natCast_inj, show ((0 : Nat) : Int) = 0 from rfl, kb_NoneType_bool, kb_NoneType_int, kb_NoneType_str, kb_NoneType_list, kb_NoneType_tuple, kb_NoneType_dict, kb_bool_bool, kb_bool_int, kb_bool_str, kb_bool_list, kb_bool_tuple, kb_bool_dict, kb_int_bool, kb_int_int, kb_int_str, kb_int_list, kb_int_tuple, kb_int_dict, kb_str_bool, kb_str_int, kb_str_str, kb_str_list, kb_str_tuple, kb_str_dict, kb_list_bool, kb_list_int, kb_list_str, kb_list_list, kb_list_tuple, kb_list_dict, kb_tuple_bool, kb_tuple_int, kb_tuple_str, kb_tuple_list, kb_tuple_tuple, kb_tuple_dict, kb_dict_bool, kb_dict_int, kb_dict_str, kb_dict_list, kb_dict_tuple, kb_dict_dict] using h
  · have nd2 : ((kvs.map (encB b base a)).map (·.1)).Nodup := by
      rw [List.map_map]
      have q := List.Pairwise.map (S := fun x y : Key => x ≠ y) (fun v : Int => (Sum.inl v : Key)) (fun a b hab e => hab (Sum.inl.inj e)) nd
      rw [List.map_map] at q
      exact q
    refine ⟨kvs.map (encB b base a), ?_, ?_⟩
    · rw [List.nil_append, List.map_map, List.map_map]
      exact List.map_congr_left fun kv _ => by simp [pairD, encB, kD]
    rw [mergeD_same nd2]
    have pr : ∀ r ∈ rws, getKD (kvs.map (encB b base a)) (Sum.inl (r.getD c 0)) = some (.bl (decide (cnt rws c (r.getD c 0) ^ b ≤ base ^ a))) := fun r hr => by
      rw [get_encB _ _ (any_of_pos (by rw [hk]; exact cnt_pos hr)), hk]
    have pf : ∀ (g : Bool → Bool), ((rws.map rowT).filter fun d => match d with | .tup xs => (match atI xs (c : Int) with | some (.int v) => g (decide (cnt rws c v ^ b ≤ base ^ a)) | _ => false) | _ => false).map id = (rws.filter fun r => g (lightR rws c a b base r)).map rowT := fun g => by
      rw [List.map_id, List.filter_map]
      congr 1
      refine List.filter_congr fun r hr => ?_
      simp only [Function.comp, rowT, at_row (h2 r hr) hc]; rfl
    have so : ∀ q : List Int → Bool, SortOk ((rws.filter q).map rowT) := fun q => sortOk_rows (fun r hr => ro r ((List.mem_filter.mp hr).1)) (by omega) (Nat.le_trans (List.length_filter_le ..) hl)
    have ss : ∀ q : List Int → Bool, sortD ((rws.filter q).map rowT) = (rws.filter q).map rowT := fun q => sort_same (srt_filter srt q).1
    simp [wipeR, restR, wRet, wRetN, wAndV, wOrV, wNotV, wF, wCons, wNil, wV, wC, o1, o2, fIsi, fLen, fAll, fInt, fAbs, fII, fTup, fList, fSortA, fSort, wParG, put1, startR, R.fz, R.val, isiD, clsD, clsL, tyD, insOk, bodyPost, wSeq, wNext, wIfS, wT, w2, oAdd, oAddA, wNewT, wCallK, permL, wMakeK, oSub, oI, oIc, oMulW, oDivW, oMod, oPow, oLt, oLe, oGt, oGe, oEq, wIsN, D.isNon, wChain, wIf, wFld, wTup, wLst, shs, wSet, wOwn, wPar, wPar3, wCall, wMake, wMeth, wExpr, wAsgE, geT, geCons, geNil, geF, putD, wAsgT, gT, gsCons, gsNil, gN, iSeq, iOne, iRng, iZip, wNeg, wAnd, wOr, wNot, seqD, shs, oIx, oIxA, oIn, inD, wPut, setD, wGet2, wNewD, wYes, noX, dcD, blsD, eqD, shD, toPy, toPyL, PyData.eqv, PyData.eqvAll, SeqAt.shaped, PyData.canLay0, PyData.canLayAll0, PyData.depth, PyData.depthAll, and_assoc, sz1, sz2, sz3, kit_self, lookup_hd, lookup_tl, Int.natCast_inj, show ((0 : Nat) : Int) = 0 from rfl, kb_NoneType_bool, kb_NoneType_int, kb_NoneType_str, kb_NoneType_list, kb_NoneType_tuple, kb_NoneType_dict, kb_bool_bool, kb_bool_int, kb_bool_str, kb_bool_list, kb_bool_tuple, kb_bool_dict, kb_int_bool, kb_int_int, kb_int_str, kb_int_list, kb_int_tuple, kb_int_dict, kb_str_bool, kb_str_int, kb_str_str, kb_str_list, kb_str_tuple, kb_str_dict, kb_list_bool, kb_list_int, kb_list_str, kb_list_list, kb_list_tuple, kb_list_dict, kb_tuple_bool, kb_tuple_int, kb_tuple_str, kb_tuple_list, kb_tuple_tuple, kb_tuple_dict, kb_dict_bool, kb_dict_int, kb_dict_str, kb_dict_list, kb_dict_tuple, kb_dict_dict]
    refine lcL_fm (p := fun d => match d with | .tup xs => (match atI xs (c : Int) with | some (.int v) => decide (cnt rws c v ^ b ≤ base ^ a) | _ => false) | _ => false) (f := id) rfl _ _ (fun d hd P PX h => ?_) (fun d hd _ P PX h => ?_) ?_
    · obtain ⟨r, hr, rfl⟩ := List.mem_map.mp hd
      have e1 := pr r hr
      have e2 := at_row (h2 r hr) hc
      simp only [rowT] at h ⊢
      generalize r.getD c 0 = v at e1 e2
      simp [e2, getD2, keyD, e1, wRet, wRetN, wAndV, wOrV, wNotV, wF, wCons, wNil, wV, wC, o1, o2, fIsi, fLen, fAll, fInt, fAbs, fII, fTup, fList, fSortA, fSort, wParG, put1, startR, R.fz, R.val, isiD, clsD, clsL, tyD, insOk, bodyPost, wSeq, wNext, wIfS, wT, w2, oAdd, oAddA, wNewT, wCallK, permL, wMakeK, oSub, oI, oIc, oMulW, oDivW, oMod, oPow, oLt, oLe, oGt, oGe, oEq, wIsN, D.isNon, wChain, wIf, wFld, wTup, wLst, shs, wSet, wOwn, wPar, wPar3, wCall, wMake, wMeth, wExpr, wAsgE, geT, geCons, geNil, geF, putD, wAsgT, gT, gsCons, gsNil, gN, iSeq, iOne, iRng, iZip, wNeg, wAnd, wOr, wNot, seqD, shs, oIx, oIxA, oIn, inD, wPut, setD, wGet2, wNewD, wYes, noX, dcD, blsD, eqD, shD, toPy, toPyL, PyData.eqv, PyData.eqvAll, SeqAt.shaped, PyData.canLay0, PyData.canLayAll0, PyData.depth, PyData.depthAll, and_assoc, sz1, sz2, sz3, kit_self, lookup_hd, lookup_tl, Int.natCast_inj, show ((0 : Nat) : Int) = 0 from rfl, kb_NoneType_bool, kb_NoneType_int, kb_NoneType_str, kb_NoneType_list, kb_NoneType_tuple, kb_NoneType_dict, kb_bool_bool, kb_bool_int, kb_bool_str, kb_bool_list, kb_bool_tuple, kb_bool_dict, kb_int_bool, kb_int_int, kb_int_str, kb_int_list, kb_int_tuple, kb_int_dict, kb_str_bool, kb_str_int, kb_str_str, kb_str_list, kb_str_tuple, kb_str_dict, kb_list_bool, kb_list_int, kb_list_str, kb_list_list, kb_list_tuple, kb_list_dict, kb_tuple_bool, kb_tuple_int, kb_tuple_str, kb_tuple_list, kb_tuple_tuple, kb_tuple_dict, kb_dict_bool, kb_dict_int, kb_dict_str, kb_dict_list, kb_dict_tuple, kb_dict_dict]
      rw [e2] at h
      simpa using h
    · simpa [wRet, wRetN, wAndV, wOrV, wNotV, wF, wCons, wNil, wV, wC, o1, o2, fIsi, fLen, fAll, fInt, fAbs, fII, fTup, fList, fSortA, fSort, wParG, put1, startR, R.fz, R.val, isiD, clsD, clsL, tyD, insOk, bodyPost, wSeq, wNext, wIfS, wT, w2, oAdd, oAddA, wNewT, wCallK, permL, wMakeK, oSub, oI, oIc, oMulW, oDivW, oMod, oPow, oLt, oLe, oGt, oGe, oEq, wIsN, D.isNon, wChain, wIf, wFld, wTup, wLst, shs, wSet, wOwn, wPar, wPar3, wCall, wMake, wMeth, wExpr, wAsgE, geT, geCons, geNil, geF, putD, wAsgT, gT, gsCons, gsNil, gN, iSeq, iOne, iRng, iZip, wNeg, wAnd, wOr, wNot, seqD, shs, oIx, oIxA, oIn, inD, wPut, setD, wGet2, wNewD, wYes, noX, dcD, blsD, eqD, shD, toPy, toPyL, PyData.eqv, PyData.eqvAll, SeqAt.shaped, PyData.canLay0, PyData.canLayAll0, PyData.depth, PyData.depthAll, and_assoc, sz1, sz2, sz3, kit_self, lookup_hd, lookup_tl, Int.natCast_inj, show ((0 : Nat) : Int) = 0 from rfl, kb_NoneType_bool, kb_NoneType_int, kb_NoneType_str, kb_NoneType_list, kb_NoneType_tuple, kb_NoneType_dict, kb_bool_bool, kb_bool_int, kb_bool_str, kb_bool_list, kb_bool_tuple, kb_bool_dict, kb_int_bool, kb_int_int, kb_int_str, kb_int_list, kb_int_tuple, kb_int_dict, kb_str_bool, kb_str_int, kb_str_str, kb_str_list, kb_str_tuple, kb_str_dict, kb_list_bool, kb_list_int, kb_list_str, kb_list_list, kb_list_tuple, kb_list_dict, kb_tuple_bool, kb_tuple_int, kb_tuple_str, kb_tuple_list, kb_tuple_tuple, kb_tuple_dict, kb_dict_bool, kb_dict_int, kb_dict_str, kb_dict_list, kb_dict_tuple, kb_dict_dict] using h
    · have e3 := pf id
      simp only [id] at e3
      rw [List.nil_append]
      simp only [show ∀ l : List D, l.map id = l from List.map_id] at e3 ⊢
      rw [e3]
      simp [so, ss, wLc, wipeR, restR, wRet, wRetN, wAndV, wOrV, wNotV, wF, wCons, wNil, wV, wC, o1, o2, fIsi, fLen, fAll, fInt, fAbs, fII, fTup, fList, fSortA, fSort, wParG, put1, startR, R.fz, R.val, isiD, clsD, clsL, tyD, insOk, bodyPost, wSeq, wNext, wIfS, wT, w2, oAdd, oAddA, wNewT, wCallK, permL, wMakeK, oSub, oI, oIc, oMulW, oDivW, oMod, oPow, oLt, oLe, oGt, oGe, oEq, wIsN, D.isNon, wChain, wIf, wFld, wTup, wLst, shs, wSet, wOwn, wPar, wPar3, wCall, wMake, wMeth, wExpr, wAsgE, geT, geCons, geNil, geF, putD, wAsgT, gT, gsCons, gsNil, gN, iSeq, iOne, iRng, iZip, wNeg, wAnd, wOr, wNot, seqD, shs, oIx, oIxA, oIn, inD, wPut, setD, wGet2, wNewD, wYes, noX, dcD, blsD, eqD, shD, toPy, toPyL, PyData.eqv, PyData.eqvAll, SeqAt.shaped, PyData.canLay0, PyData.canLayAll0, PyData.depth, PyData.depthAll, and_assoc, sz1, sz2, sz3, kit_self, lookup_hd, lookup_tl, Int.natCast_inj, show ((0 : Nat) : Int) = 0 from rfl, kb_NoneType_bool, kb_NoneType_int, kb_NoneType_str, kb_NoneType_list, kb_NoneType_tuple, kb_NoneType_dict, kb_bool_bool, kb_bool_int, kb_bool_str, kb_bool_list, kb_bool_tuple, kb_bool_dict, kb_int_bool, kb_int_int, kb_int_str, kb_int_list, kb_int_tuple, kb_int_dict, kb_str_bool, kb_str_int, kb_str_str, kb_str_list, kb_str_tuple, kb_str_dict, kb_list_bool, kb_list_int, kb_list_str, kb_list_list, kb_list_tuple, kb_list_dict, kb_tuple_bool, kb_tuple_int, kb_tuple_str, kb_tuple_list, kb_tuple_tuple, kb_tuple_dict, kb_dict_bool, kb_dict_int, kb_dict_str, kb_dict_list, kb_dict_tuple, kb_dict_dict]
      refine lcL_fm (p := fun d => match d with | .tup xs => (match atI xs (c : Int) with | some (.int v) => !decide (cnt rws c v ^ b ≤ base ^ a) | _ => false) | _ => false) (f := id) rfl _ _ (fun d hd P PX h => ?_) (fun d hd _ P PX h => ?_) ?_
      · obtain ⟨r, hr, rfl⟩ := List.mem_map.mp hd
        have e1 := pr r hr
        have e2 := at_row (h2 r hr) hc
        simp only [rowT] at h ⊢
        generalize r.getD c 0 = v at e1 e2
        simp [e2, getD2, keyD, e1, wRet, wRetN, wAndV, wOrV, wNotV, wF, wCons, wNil, wV, wC, o1, o2, fIsi, fLen, fAll, fInt, fAbs, fII, fTup, fList, fSortA, fSort, wParG, put1, startR, R.fz, R.val, isiD, clsD, clsL, tyD, insOk, bodyPost, wSeq, wNext, wIfS, wT, w2, oAdd, oAddA, wNewT, wCallK, permL, wMakeK, oSub, oI, oIc, oMulW, oDivW, oMod, oPow, oLt, oLe, oGt, oGe, oEq, wIsN, D.isNon, wChain, wIf, wFld, wTup, wLst, shs, wSet, wOwn, wPar, wPar3, wCall, wMake, wMeth, wExpr, wAsgE, geT, geCons, geNil, geF, putD, wAsgT, gT, gsCons, gsNil, gN, iSeq, iOne, iRng, iZip, wNeg, wAnd, wOr, wNot, seqD, shs, oIx, oIxA, oIn, inD, wPut, setD, wGet2, wNewD, wYes, noX, dcD, blsD, eqD, shD, toPy, toPyL, PyData.eqv, PyData.eqvAll, SeqAt.shaped, PyData.canLay0, PyData.canLayAll0, PyData.depth, PyData.depthAll, and_assoc, sz1, sz2, sz3, kit_self, lookup_hd, lookup_tl, Int.natCast_inj, show ((0 : Nat) : Int) = 0 from rfl, kb_NoneType_bool, kb_NoneType_int, kb_NoneType_str, kb_NoneType_list, kb_NoneType_tuple, kb_NoneType_dict, kb_bool_bool, kb_bool_int, kb_bool_str, kb_bool_list, kb_bool_tuple, kb_bool_dict, kb_int_bool, kb_int_int, kb_int_str, kb_int_list, kb_int_tuple, kb_int_dict, kb_str_bool, kb_str_int, kb_str_str, kb_str_list, kb_str_tuple, kb_str_dict, kb_list_bool, kb_list_int, kb_list_str, kb_list_list, kb_list_tuple, kb_list_dict, kb_tuple_bool, kb_tuple_int, kb_tuple_str, kb_tuple_list, kb_tuple_tuple, kb_tuple_dict, kb_dict_bool, kb_dict_int, kb_dict_str, kb_dict_list, kb_dict_tuple, kb_dict_dict]
        rw [e2] at h
        simpa using h
      · simpa [wRet, wRetN, wAndV, wOrV, wNotV, wF, wCons, wNil, wV, wC, o1, o2, fIsi, fLen, fAll, fInt, fAbs, fII, fTup, fList, fSortA, fSort, wParG, put1, startR, R.fz, R.val, isiD, clsD, clsL, tyD, insOk, bodyPost, wSeq, wNext, wIfS, wT, w2, oAdd, oAddA, wNewT, wCallK, permL, wMakeK, oSub, oI, oIc, oMulW, oDivW, oMod, oPow, oLt, oLe, oGt, oGe, oEq, wIsN, D.isNon, wChain, wIf, wFld, wTup, wLst, shs, wSet, wOwn, wPar, wPar3, wCall, wMake, wMeth, wExpr, wAsgE, geT, geCons, geNil, geF, putD, wAsgT, gT, gsCons, gsNil, gN, iSeq, iOne, iRng, iZip, wNeg, wAnd, wOr, wNot, seqD, shs, oIx, oIxA, oIn, inD, wPut, setD, wGet2, wNewD, wYes, noX, dcD, blsD, eqD, shD, toPy, toPyL, PyData.eqv, PyData.eqvAll, SeqAt.shaped, PyData.canLay0, PyData.canLayAll0, PyData.depth, PyData.depthAll, and_assoc, sz1, sz2, sz3, kit_self, lookup_hd, lookup_tl, Int.natCast_inj, show ((0 : Nat) : Int) = 0 from rfl, kb_NoneType_bool, kb_NoneType_int, kb_NoneType_str, kb_NoneType_list, kb_NoneType_tuple, kb_NoneType_dict, kb_bool_bool, kb_bool_int, kb_bool_str, kb_bool_list, kb_bool_tuple, kb_bool_dict, kb_int_bool, kb_int_int, kb_int_str, kb_int_list, kb_int_tuple, kb_int_dict, kb_str_bool, kb_str_int, kb_str_str, kb_str_list, kb_str_tuple, kb_str_dict, kb_list_bool, kb_list_int, kb_list_str, kb_list_list, kb_list_tuple, kb_list_dict, kb_tuple_bool, kb_tuple_int, kb_tuple_str, kb_tuple_list, kb_tuple_tuple, kb_tuple_dict, kb_dict_bool, kb_dict_int, kb_dict_str, kb_dict_list, kb_dict_tuple, kb_dict_dict] using h
      · have e4 := pf (fun x => !x)
        rw [List.nil_append]
        simp only [show ∀ l : List D, l.map id = l from List.map_id] at e4 ⊢
        rw [e4]
        simpa [so, ss, wRet, wRetN, wAndV, wOrV, wNotV, wF, wCons, wNil, wV, wC, o1, o2, fIsi, fLen, fAll, fInt, fAbs, fII, fTup, fList, fSortA, fSort, wParG, put1, startR, R.fz, R.val, isiD, clsD, clsL, tyD, insOk, bodyPost, wSeq, wNext, wIfS, wT, w2, oAdd, oAddA, wNewT, wCallK, permL, wMakeK, oSub, oI, oIc, oMulW, oDivW, oMod, oPow, oLt, oLe, oGt, oGe, oEq, wIsN, D.isNon, wChain, wIf, wFld, wTup, wLst, shs, wSet, wOwn, wPar, wPar3, wCall, wMake, wMeth, wExpr, wAsgE, geT, geCons, geNil, geF, putD, wAsgT, gT, gsCons, gsNil, gN, iSeq, iOne, iRng, iZip, wNeg, wAnd, wOr, wNot, seqD, shs, oIx, oIxA, oIn, inD, wPut, setD, wGet2, wNewD, wYes, noX, dcD, blsD, eqD, shD, toPy, toPyL, PyData.eqv, PyData.eqvAll, SeqAt.shaped, PyData.canLay0, PyData.canLayAll0, PyData.depth, PyData.depthAll, and_assoc, sz1, sz2, sz3, kit_self, lookup_hd, lookup_tl, Int.natCast_inj, show ((0 : Nat) : Int) = 0 from rfl, kb_NoneType_bool, kb_NoneType_int, kb_NoneType_str, kb_NoneType_list, kb_NoneType_tuple, kb_NoneType_dict, kb_bool_bool, kb_bool_int, kb_bool_str, kb_bool_list, kb_bool_tuple, kb_bool_dict, kb_int_bool, kb_int_int, kb_int_str, kb_int_list, kb_int_tuple, kb_int_dict, kb_str_bool, kb_str_int, kb_str_str, kb_str_list, kb_str_tuple, kb_str_dict, kb_list_bool, kb_list_int, kb_list_str, kb_list_list, kb_list_tuple, kb_list_dict, kb_tuple_bool, kb_tuple_int, kb_tuple_str, kb_tuple_list, kb_tuple_tuple, kb_tuple_dict, kb_dict_bool, kb_dict_int, kb_dict_str, kb_dict_list, kb_dict_tuple, kb_dict_dict] using hp
end
end L2.TL.W

/-! text K07m -/
set_option Elab.async false
set_option linter.all false
set_option maxRecDepth 100000
set_option maxHeartbeats 4000000
namespace L2.TL.W
open PySem PySem.Spec PyProof.Rows L2.TL
theorem get_last (os : Os) (x : Option D) : (os ++ [x])[os.length]? = some x := by simp
theorem set_last (os : Os) (x y : Option D) : (os ++ [x]).set os.length y = os ++ [y] := by simp
theorem take_last (os : Os) (x : Option D) : (os ++ [x]).take os.length = os := by simp
theorem set_top (os : Os) (x y : Option D) {n : Nat} (h : n = os.length) : (os ++ [x]).set n y = os ++ [y] := by subst h; simp
/-- a class made: an instance stands alone behind the roots -/
theorem made {C : Addr} {Φ : Sw} {ws : WAx} {as : List R} {d : D} {en : En} {P : R → En → Prop} {PX : PEr} (hws : ∀ P' : List R → En → Prop, P' as en → ws en P' PX)
    (hΦ : ∀ (P' : R → Os → Prop) (PX' : Er → Os → Prop), P' (.sh .non) (en.os ++ [some d]) → Φ (.ow en.os.length :: as) (en.os ++ [some (.ins C [])]) P' PX') (h : P (.fr d) en) : wMake C Φ ws en P PX := by
  unfold wMake
  refine hws _ (hΦ _ _ ⟨rfl, ?_⟩)
  rw [get_last, take_last]
  exact h
theorem mk_table {K : PySem.W.Frag} {C : Cs} {ws : WAx} {z : Str} {w : Int} {en : En} {P : R → En → Prop} {PX : PEr} (hws : ∀ P' : List R → En → Prop, P' [.sh (.str z), .sh (.int w)] en → ws en P' PX) (hn : nameOk z = true) (hw : w = 1 ∨ w = 2) (h : P (.fr (tabD C (z, w))) en) :
    wMake C.Table (Φ_Table_init K C) ws en P PX := made hws (fun P' PX' h' => by
  have hl : z.length ≤ sizeLine := by
    simp only [nameOk, Bool.and_eq_true, decide_eq_true_eq] at hn
    rw [sizeLine_eq]; omega
  exact ⟨_, z, w, rfl, get_last _ _, hl, hn, by omega, by omega, by rw [set_last]; exact h'⟩) h
theorem mk_split {K : PySem.W.Frag} {C : Cs} {ws : WAx} {z : Str} {c a b : Nat} {en : En} {P : R → En → Prop} {PX : PEr} (hws : ∀ P' : List R → En → Prop, P' [.sh (tabD C (z, 2)), .sh (.int c), .sh (.tup [.int a, .int b])] en → ws en P' PX) (hc : c ≤ 1) (h1 : 1 ≤ a) (h2 : 1 ≤ b) (h3 : a ≤ 9999) (h4 : b ≤ 9999)
    (h : P (.fr (splitD C (z, 2) c (a / Nat.gcd a b) (b / Nat.gcd a b))) en) : wMake C.Split (Φ_Split_init K C) ws en P PX := made hws (fun P' PX' h' =>
  ⟨_, z, c, a, b, rfl, get_last _ _, hc, h1, h2, h3, h4, by rw [set_last]; exact h'⟩) h
theorem mk_world {K : PySem.W.Frag} {C : Cs} {ws : WAx} {ts : List (Str × Int)} {xs : List D} {wr : List (List (List Int))} {en : En} {P : R → En → Prop} {PX : PEr} (hws : ∀ P' : List R → En → Prop, P' [.sh (.lst (ts.map (tabD C))), .sh (.lst xs)] en → ws en P' PX) (ok : TabsOk ts) (pr : Paired rowsAre xs wr) (hl : wr.length = ts.length)
    (hr : ∀ p ∈ ts.zip wr, (∀ r ∈ p.2, RowOk p.1.2 r) ∧ p.2.length ≤ 20000) (h : P (.fr (worldD C ts (wr.map ordR))) en) : wMake C.World (Φ_World_init K C) ws en P PX := made hws (fun P' PX' h' =>
  ⟨_, ts, xs, wr, rfl, get_last _ _, ok, pr, hl, hr, by rw [set_last]; exact h'⟩) h
/-- a threshold in lowest terms tells the same parts -/
theorem low_parts {a b : Nat} (h1 : 1 ≤ a) (h2 : 1 ≤ b) (rws : List (List Int)) (c base : Nat) (r : List Int) : lightR rws c (a / Nat.gcd a b) (b / Nat.gcd a b) base r = lightR rws c a b base r := by
  unfold lightR
  have g0 : 0 < Nat.gcd a b := Nat.gcd_pos_of_pos_left _ h1
  obtain ⟨a', ea⟩ := Nat.gcd_dvd_left a b
  obtain ⟨b', eb⟩ := Nat.gcd_dvd_right a b
  generalize Nat.gcd a b = g at g0 ea eb
  subst ea; subst eb
  rw [Nat.mul_div_cancel_left _ g0, Nat.mul_div_cancel_left _ g0, decide_eq_decide]
  generalize cnt rws c (r.getD c 0) = m
  rw [Nat.mul_comm g a', Nat.mul_comm g b', Nat.pow_mul, Nat.pow_mul]
  exact (Nat.pow_le_pow_iff_left (by omega)).symm
end L2.TL.W

/-! text K07n -/
set_option Elab.async false
set_option linter.all false
set_option maxRecDepth 100000
set_option maxHeartbeats 4000000
namespace L2.TL.W
open PySem PySem.Spec PyProof.Rows L2.TL
/-- rows that are shown shortly -/
def Shown (rws : List (List Int)) : Prop := ∀ r ∈ rws, r.length ≤ 5 ∧ ∀ v ∈ r, -(10 ^ 30) ≤ v ∧ v ≤ 10 ^ 30
theorem int_short {v : Int} (h : -(10 ^ 30) ≤ v ∧ v ≤ 10 ^ 30) : (PyData.int v).leavesShort 40 = true ∧ (PyData.int v).showable = true := by
  have hn : v.natAbs < 10 ^ 31 := by omega
  constructor
  · rw [PyData.leavesShort]
    refine decide_eq_true ?_
    rw [PyData.shown]
    have := int_text_length_le10 (a := v) (k := 31) (by omega) hn
    show (Str.ofString (toString v)).length ≤ 40
    rw [PySem.ofString_length]; omega
  · simp only [PyData.showable, decide_eq_true_eq]
    by_cases h0 : v.natAbs = 0
    · rw [h0]; decide
    · refine (Nat.log2_lt h0).mpr (Nat.lt_of_lt_of_le hn ?_)
      exact Nat.le_trans (by decide : 10 ^ 31 ≤ 2 ^ 110) (Nat.pow_le_pow_right (by omega) (by omega))
theorem ints_short : ∀ {r : List Int}, (∀ v ∈ r, -(10 ^ 30) ≤ v ∧ v ≤ 10 ^ 30) → PyData.leavesShortAll 40 (r.map PyData.int) = true ∧ PyData.showableAll (r.map PyData.int) = true ∧ PyData.bulkAll (r.map PyData.int) = r.length
  | [], _ => ⟨rfl, rfl, rfl⟩
  | v :: r, h => by
    obtain ⟨a, b⟩ := int_short (h v List.mem_cons_self)
    obtain ⟨c, d, e⟩ := ints_short (r := r) fun v hv => h v (List.mem_cons_of_mem _ hv)
    refine ⟨?_, ?_, ?_⟩
    · simp only [List.map_cons, PyData.leavesShortAll, a, c, Bool.and_self]
    · simp only [List.map_cons, PyData.showableAll, b, d, Bool.and_self]
    · simp only [List.map_cons, PyData.bulkAll, PyData.bulk, e, List.length_cons]; omega
def pyRow (r : List Int) : PyData := .tuple (r.map PyData.int)
theorem toPyL_rows : ∀ rws : List (List Int), toPyL (rws.map rowT) = rws.map pyRow
  | [] => rfl
  | r :: rws => by simp only [List.map_cons, toPyL, toPy_row, toPyL_rows rws, pyRow]
theorem rows_short : ∀ {rws : List (List Int)}, Shown rws → PyData.leavesShortAll 40 (rws.map pyRow) = true ∧ PyData.showableAll (rws.map pyRow) = true ∧ PyData.bulkAll (rws.map pyRow) ≤ 6 * rws.length ∧ PyData.canLayAll0 (rws.map pyRow) = true ∧ PyData.depthAll (rws.map pyRow) ≤ 1
  | [], _ => ⟨rfl, rfl, Nat.le_refl _, rfl, Nat.zero_le _⟩
  | r :: rws, h => by
    obtain ⟨hl, hv⟩ := h r List.mem_cons_self
    obtain ⟨a, b, c⟩ := ints_short hv
    obtain ⟨d, e, f, g, i⟩ := rows_short (rws := rws) fun q hq => h q (List.mem_cons_of_mem _ hq)
    refine ⟨?_, ?_, ?_, ?_, ?_⟩
    · simp only [List.map_cons, PyData.leavesShortAll, pyRow, PyData.leavesShort, a, Bool.true_and]; exact d
    · simp only [List.map_cons, PyData.showableAll, pyRow, PyData.showable, b, Bool.true_and]; exact e
    · rw [List.map_cons, PyData.bulkAll, show PyData.bulk (pyRow r) = r.length from by rw [pyRow, PyData.bulk, c], List.length_cons]; omega
    · simp only [List.map_cons, PyData.canLayAll0, pyRow, PyData.canLay0, lay_ints, Bool.true_and]; exact g
    · rw [List.map_cons, PyData.depthAll, show PyData.depth (pyRow r) = 1 from by rw [pyRow, PyData.depth, PySem.W.depth_ints]]; omega
def manyD (ws : List (List (List Int))) : D := .tup (ws.map fun rws => .tup (rws.map rowT))
theorem toPyL_many : ∀ ws : List (List (List Int)), toPyL (ws.map fun rws => D.tup (rws.map rowT)) = ws.map fun rws => PyData.tuple (rws.map pyRow)
  | [] => rfl
  | r :: ws => by simp only [List.map_cons, toPyL, toPy, toPyL_rows, toPyL_many ws]
theorem many_short : ∀ {ws : List (List (List Int))}, (∀ rws ∈ ws, Shown rws) → PyData.leavesShortAll 40 (ws.map fun rws => PyData.tuple (rws.map pyRow)) = true ∧ PyData.showableAll (ws.map fun rws => PyData.tuple (rws.map pyRow)) = true ∧
    PyData.bulkAll (ws.map fun rws => PyData.tuple (rws.map pyRow)) ≤ ws.length + 6 * (ws.map List.length).sum ∧ PyData.canLayAll0 (ws.map fun rws => PyData.tuple (rws.map pyRow)) = true ∧ PyData.depthAll (ws.map fun rws => PyData.tuple (rws.map pyRow)) ≤ 2
  | [], _ => ⟨rfl, rfl, Nat.le_refl _, rfl, Nat.zero_le _⟩
  | r :: ws, h => by
    obtain ⟨a, b, c, a2, b2⟩ := rows_short (h r List.mem_cons_self)
    obtain ⟨d, e, f, g, i⟩ := many_short (ws := ws) fun q hq => h q (List.mem_cons_of_mem _ hq)
    refine ⟨?_, ?_, ?_, ?_, ?_⟩
    · simp only [List.map_cons, PyData.leavesShortAll, PyData.leavesShort, a, d, Bool.and_self]
    · simp only [List.map_cons, PyData.showableAll, PyData.showable, b, e, Bool.and_self]
    · simp only [List.map_cons, PyData.bulkAll, PyData.bulk, List.length_cons, List.sum_cons]; omega
    · simp only [List.map_cons, PyData.canLayAll0, PyData.canLay0, a2, g, Bool.and_self]
    · simp only [List.map_cons, PyData.depthAll, PyData.depth]; omega
theorem reprOk_many {ws : List (List (List Int))} (h : ∀ rws ∈ ws, Shown rws) (hl : (ws.map List.length).sum ≤ 40000) (hn : ws.length ≤ 100) : ReprOk (manyD ws) := by
  obtain ⟨a, b, c, d, e⟩ := many_short h
  have ep : toPy (manyD ws) = .tuple (ws.map fun rws => PyData.tuple (rws.map pyRow)) := by simp only [manyD, toPy, toPyL_many]
  refine ⟨.inr ⟨_, rfl⟩, ?_, ?_, ?_, ?_⟩
  · rw [ep]; simp only [PyData.canLay0]; exact d
  · rw [ep]; simp only [PyData.showable]; exact b
  · rw [ep]; simp only [PyData.depth]; omega
  · have := PyData.shown_le_bulk 40 (by omega) (toPy (manyD ws)) (by rw [ep]; simp only [PyData.leavesShort]; exact a)
    rw [ep] at this ⊢
    simp only [PyData.bulk] at this
    rw [sizeLine_eq]
    omega
/-- the same tree twice -/
theorem same_many {ws : List (List (List Int))} (h : ∀ rws ∈ ws, Shown rws) : (SeqAt.shaped (toPy (manyD ws)) = true) ∧ eqD (manyD ws) (manyD ws) = true := by
  obtain ⟨a, b, c, d, e⟩ := many_short h
  have ep : toPy (manyD ws) = .tuple (ws.map fun rws => PyData.tuple (rws.map pyRow)) := by simp only [manyD, toPy, toPyL_many]
  constructor
  · rw [ep]
    exact Bool.and_eq_true_iff.mpr ⟨by rw [PyData.canLay0]; exact d, decide_eq_true (by rw [PyData.depth]; omega)⟩
  · exact SeqAt.eqv_refl _ (by rw [ep]; simp only [PyData.canLay0]; exact d)
theorem same_rows {rws : List (List Int)} (h : Shown rws) : (SeqAt.shaped (toPy (.tup (rws.map rowT))) = true) ∧ eqD (.tup (rws.map rowT)) (.tup (rws.map rowT)) = true := by
  obtain ⟨a, b, c, d, e⟩ := rows_short h
  have ep : toPy (.tup (rws.map rowT)) = .tuple (rws.map pyRow) := by simp only [toPy, toPyL_rows]
  constructor
  · rw [ep]
    exact Bool.and_eq_true_iff.mpr ⟨by rw [PyData.canLay0]; exact d, decide_eq_true (by rw [PyData.depth]; omega)⟩
  · exact SeqAt.eqv_refl _ (by rw [ep]; simp only [PyData.canLay0]; exact d)
/-- a list in another order, sorted -/
theorem sort_perm {a b : List (List Int)} (h : a.Perm b) (hs : Srt b) : sortD (a.map rowT) = b.map rowT := by
  rw [sortD_rows]
  congr 1
  have trans : ∀ a b c : List Int, leR a b = true → leR b c = true → leR a c = true := fun a b c h1 h2 => by
    rw [leR_eq, decide_eq_true_eq] at *
    exact List.le_trans h1 h2
  have total : ∀ a b : List Int, (leR a b || leR b a) = true := fun a b => by
    rw [leR_eq, leR_eq, Bool.or_eq_true, decide_eq_true_eq, decide_eq_true_eq]
    exact List.le_total a b
  have pw : (a.mergeSort leR).Pairwise fun a b => leR a b = true := List.pairwise_mergeSort trans total a
  have pb : b.Pairwise fun a b => leR a b = true := by
    have := hs.1
    rw [List.pairwise_map] at this
    exact this
  refine List.Perm.eq_of_pairwise (fun x y _ _ h1 h2 => ?_) pw pb ((List.mergeSort_perm a leR).trans h)
  rw [leR_eq, decide_eq_true_eq] at h1 h2
  exact List.le_antisymm h1 h2
/-! ### what is shown is text -/
theorem strOk_lit (s : String) : PyData.strOk (Str.ofString s) = true := by
  unfold PyData.strOk
  rw [Str.ofString_eq_toList, Array.all_eq_true']
  intro x hx
  simp only [List.mem_toArray, List.mem_map] at hx
  obtain ⟨c, _, rfl⟩ := hx
  have := c.valid
  refine decide_eq_true ?_
  rcases this with h | ⟨_, h⟩
  · show c.val.toNat < _
    exact Nat.lt_trans h (by decide)
  · exact h
theorem strOk_app {a b : Str} (h1 : PyData.strOk a = true) (h2 : PyData.strOk b = true) : PyData.strOk (a ++ b) = true := by
  show PyData.strOk (Str.append a b) = true
  unfold PyData.strOk Str.append at *
  rw [Array.all_append, h1, h2]; rfl
theorem strOk_join {sep : Str} (hs : PyData.strOk sep = true) : ∀ ts : List Str, (∀ t ∈ ts, PyData.strOk t = true) → PyData.strOk (Str.join sep ts) = true
  | [], _ => by simp [PyData.strOk, Str.join, Str.empty]
  | [x], h => h x (by simp)
  | x :: y :: r, h => strOk_app (strOk_app (h x (by simp)) hs) (strOk_join hs (y :: r) fun t ht => h t (List.mem_cons_of_mem _ ht))
theorem strOk_tup {ts : List Str} (h : ∀ t ∈ ts, PyData.strOk t = true) : PyData.strOk (tupleText ts) = true := by
  unfold tupleText
  exact strOk_app (strOk_app (strOk_lit _) (strOk_join (strOk_lit _) ts h)) (strOk_lit _)
theorem strOk_ints : ∀ (r : List Int), ∀ t ∈ PyData.shownAll (r.map PyData.int), PyData.strOk t = true
  | [], _, h => nomatch h
  | v :: r, t, h => by
    simp only [List.map_cons, PyData.shownAll, List.mem_cons] at h
    rcases h with rfl | h
    · rw [PyData.shown]; exact strOk_lit _
    · exact strOk_ints r t h
theorem strOk_rows : ∀ (r : List (List Int)), ∀ t ∈ PyData.shownAll (r.map pyRow), PyData.strOk t = true
  | [], _, h => nomatch h
  | v :: r, t, h => by
    simp only [List.map_cons, PyData.shownAll, List.mem_cons] at h
    rcases h with rfl | h
    · rw [pyRow, PyData.shown]; exact strOk_tup (strOk_ints v)
    · exact strOk_rows r t h
theorem strOk_manys : ∀ (r : List (List (List Int))), ∀ t ∈ PyData.shownAll (r.map fun rws => PyData.tuple (rws.map pyRow)), PyData.strOk t = true
  | [], _, h => nomatch h
  | v :: r, t, h => by
    simp only [List.map_cons, PyData.shownAll, List.mem_cons] at h
    rcases h with rfl | h
    · rw [PyData.shown]; exact strOk_tup (strOk_rows v)
    · exact strOk_manys r t h
theorem strOk_many (ws : List (List (List Int))) : PyData.strOk (toPy (manyD ws)).shown = true := by
  have ep : toPy (manyD ws) = .tuple (ws.map fun rws => PyData.tuple (rws.map pyRow)) := by simp only [manyD, toPy, toPyL_many]
  rw [ep, PyData.shown]
  exact strOk_tup (strOk_manys ws)
/-- texts, the same -/
theorem same_str {s : Str} (h : PyData.strOk s = true) : shD (.str s) = true ∧ eqD (.str s) (.str s) = true := by
  constructor
  · exact Bool.and_eq_true_iff.mpr ⟨by simpa [toPy, PyData.canLay0] using h, decide_eq_true (by simp [toPy, PyData.depth])⟩
  · exact SeqAt.eqv_refl _ (by simpa [toPy, PyData.canLay0] using h)
end L2.TL.W

/-! text K07law -/
set_option Elab.async false
set_option linter.all false
set_option maxRecDepth 100000
set_option maxHeartbeats 4000000
namespace L2.TL.W
open PySem PySem.Spec PyProof.Rows L2.TL

section
variable {P : Program} {wd : World} {K : PySem.W.Frag} {mg : Str → Option Value} {base : Heap} {C : Cs}
abbrev s_law : Stmt := top 56
theorem sc_law : FnScope ["script", "pen", "turn", "name", "column", "threshold", "rows", "base", "table", "world", "split", "due", "told", "row", "one", "value", "many"] ["script"] (defScope s_law) := ⟨rfl, rfl, rfl, by decide +kernel, rfl, by decide +kernel, by decide +kernel⟩
def w_law (K : PySem.W.Frag) (C : Cs) : WSx := (wSeq (wOwn 1 (wCall (Φ__law_pen K C) (wCons (wV 0) wNil))) (wSeq (wFor (iRng (wC (.int 12))) (gN 2) (wSeq (wAsgT (gT (gsCons (gN 3) (gsCons (gN 4) (gsCons (gN 5) gsNil)))) (wTup (wCons (wCall (Φ__law_name K C) (wCons (wV 1) wNil)) (wCons (wCall (Φ__law_draw K C) (wCons (wV 1) (wCons (wC (.int 2)) wNil))) (wCons (wCall (Φ__law_threshold K C) (wCons (wV 1) wNil)) wNil))))) (wSeq (wParG false false 6 7 (wCall (Φ__law_rows K C) (wCons (wV 1) (wCons (wC (.int 2)) (wCons (wCall (Φ__law_pick K C) (wCons (wV 1) (wCons (wLst (wCons (wC (.int 3)) (wCons (wC (.int 12)) (wCons (wC (.int 40)) wNil)))) wNil))) (wCons (wCall (Φ__law_pick K C) (wCons (wV 1) (wCons (wLst (wCons (wC (.int 2)) (wCons (wC (.int 4)) (wCons (wC (.int 8)) wNil)))) wNil))) wNil))))) (wCall (Φ__law_pick K C) (wCons (wV 1) (wCons (wLst (wCons (wC (.int 1)) (wCons (wC (.int 2)) (wCons (wC (.int 3)) (wCons (wC (.int 4)) (wCons (wC (.int 5)) (wCons (wC (.int 8)) (wCons (wC (.int 9)) (wCons (wC (.int 16)) (wCons (wC (.int 27)) (wCons (wC (.int 1000000)) (wCons (w2 oAddA (wC (.int 1)) (wCall (Φ__law_draw K C) (wCons (wV 1) (wCons (wC (.int 60)) wNil)))) wNil)))))))))))) wNil)))) (wSeq (wSet 8 (wMake C.Table (Φ_Table_init K C) (wCons (wV 3) (wCons (wC (.int 2)) wNil)))) (wSeq (wParG false false 9 10 (wMake C.World (Φ_World_init K C) (wCons (wLst (wCons (wV 8) (wCons (wMake C.Table (Φ_Table_init K C) (wCons (wIf (wT (w2 (oEq true) (wV 3) (wC (.str ("other" : Str))))) (wC (.str ("other" : Str))) (wC (.str ("its" : Str)))) (wCons (wC (.int 1)) wNil))) wNil))) (wCons (wLst (wCons (wV 6) (wCons (wLst (wCons (wTup (wCons (wC (.int 1)) wNil)) wNil)) wNil))) wNil))) (wMake C.Split (Φ_Split_init K C) (wCons (wV 8) (wCons (wV 4) (wCons (wV 5) wNil))))) (wSeq (wAsgT (gT (gsCons (gN 11) (gsCons (gN 12) gsNil))) (wTup (wCons (wCall (Φ__law_parts K C) (wCons (wV 6) (wCons (wV 4) (wCons (wV 5) (wCons (wV 7) wNil))))) (wCons (wCall (Φ_parted K C) (wCons (wV 9) (wCons (wV 10) (wCons (wV 7) wNil)))) wNil)))) (wSeq (wIfS (wOr (wT (w2 (oEq true) (wF (o1 fRepr) (wCons (wV 12) wNil)) (wF (o1 fRepr) (wCons (wV 11) wNil)))) (wT (w2 (oEq true) (wCallK 3 [2, 1, 0] (Φ_parted K C) (wCons (wV 7) (wCons (wV 10) (wCons (wV 9) wNil)))) (wV 12)))) (wRet (wC (.bl false))) wNext) (wSeq (wIfS (wOr (wT (w2 (oEq true) (wF (o1 fTup) (wCons (wF (o1 fSortA) (wCons (w2 oAddA (w2 oIxA (wV 12) (wC (.int 0))) (w2 oIxA (wV 12) (wC (.int 1)))) wNil)) wNil)) (wV 6))) (wT (w2 (oEq true) (wLc (iSeq (w2 oIxA (wV 12) (wC (.int 0)))) (gN 13) (wT (w2 (oIn false) (w2 oIxA (wV 13) (wV 4)) (wLc (iSeq (w2 oIxA (wV 12) (wC (.int 1)))) (gN 14) wYes (w2 oIxA (wV 14) (wV 4)) [14]))) (wV 13) [13]) (wLst wNil)))) (wRet (wC (.bl false))) wNext) (wFor (iOne itemsD (wCall (Φ__law_crowds K C) (wCons (wV 6) (wCons (wV 4) wNil)))) (gT (gsCons (gN 15) (gsCons (gN 16) gsNil))) (wIfS (wT (w2 (oEq true) (w2 oLe (wCall (Φ__law_power K C) (wCons (wV 16) (wCons (w2 oIxA (wV 5) (wC (.int 1))) wNil))) (wCall (Φ__law_power K C) (wCons (wV 7) (wCons (w2 oIxA (wV 5) (wC (.int 0))) wNil)))) (w2 (oIn false) (wV 15) (wLc (iSeq (w2 oIxA (wV 12) (wC (.int 0)))) (gN 13) wYes (w2 oIxA (wV 13) (wV 4)) [13])))) (wRet (wC (.bl false))) wNext)))))))))) (wRet (wC (.bl true)))))
theorem b_law (T : Txt K mg C) (GK_parted_210 : FnK P wd K mg base 4 "parted" (Φ_parted K C) ["base", "split", "world"] [2, 1, 0]) (G__law_crowds : Fn P wd K mg base 1 "_law_crowds" (Φ__law_crowds K C)) (G__law_draw : Fn P wd K mg base 1 "_law_draw" (Φ__law_draw K C)) (G__law_name : Fn P wd K mg base 3 "_law_name" (Φ__law_name K C)) (G__law_parts : Fn P wd K mg base 3 "_law_parts" (Φ__law_parts K C)) (G__law_pen : Fn P wd K mg base 1 "_law_pen" (Φ__law_pen K C)) (G__law_pick : Fn P wd K mg base 2 "_law_pick" (Φ__law_pick K C)) (G__law_power : Fn P wd K mg base 1 "_law_power" (Φ__law_power K C)) (G__law_rows : Fn P wd K mg base 3 "_law_rows" (Φ__law_rows K C)) (G__law_threshold : Fn P wd K mg base 3 "_law_threshold" (Φ__law_threshold K C)) (G_parted : Fn P wd K mg base 4 "parted" (Φ_parted K C)) (M_Split : Kl P wd K mg base 4 "Split" C.Split (Φ_Split_init K C)) (M_Table : Kl P wd K mg base 3 "Table" C.Table (Φ_Table_init K C)) (M_World : Kl P wd K mg base 5 "World" C.World (Φ_World_init K C)) {f : Addr} (cdv : Value) (A : Around) (outer : List Env) (s : Shared) (H : Hp) (E : XK) (hG : A.guards = some []) (hr : Room 6 (A.deeper (envOfC "law" (defScope s_law) s.heap.objs.size f cdv))) :
    PSs (cxOf (L2.CX P wd) P wd K mg base ["script", "pen", "turn", "name", "column", "threshold", "rows", "base", "table", "world", "split", "due", "told", "row", "one", "value", "many"] "law" (defScope s_law) f cdv A outer s H E) (defBody s_law) (tS K (EW E) (w_law K C)) := by
  have sc := sc_law
  have tk : Takes (cxOf (L2.CX P wd) P wd K mg base ["script", "pen", "turn", "name", "column", "threshold", "rows", "base", "table", "world", "split", "due", "told", "row", "one", "value", "many"] "law" (defScope s_law) f cdv A outer s H E) (EW E) := takes_of rfl rfl rfl rfl
  have pown : PassesOwn (model P wd) (cxOf (L2.CX P wd) P wd K mg base ["script", "pen", "turn", "name", "column", "threshold", "rows", "base", "table", "world", "split", "due", "told", "row", "one", "value", "many"] "law" (defScope s_law) f cdv A outer s H E).A (cxOf (L2.CX P wd) P wd K mg base ["script", "pen", "turn", "name", "column", "threshold", "rows", "base", "table", "world", "split", "due", "told", "row", "one", "value", "many"] "law" (defScope s_law) f cdv A outer s H E).env (cxOf (L2.CX P wd) P wd K mg base ["script", "pen", "turn", "name", "column", "threshold", "rows", "base", "table", "world", "split", "due", "told", "row", "one", "value", "many"] "law" (defScope s_law) f cdv A outer s H E).xe := PassesOwn.leaving
  exact (ts_cons (ts_own 1 sc.nd rfl (by first | exact Or.inl rfl | exact Or.inr rfl) (te_call G__law_pen hr tk (ta_cons (te_v 0) ta_nil)))
      (ts_cons (ts_for pown rfl (ti_range (by rfl) T.b_range te_int) (tg_name 2 sc.nd rfl (by first | exact Or.inl rfl | exact Or.inr rfl)) (ts_cons (ts_asgT (te_tup (ta_cons (te_call G__law_name hr tk (ta_cons (te_v 1) ta_nil)) (ta_cons (te_call G__law_draw hr tk (ta_cons (te_v 1) (ta_cons te_int ta_nil))) (ta_cons (te_call G__law_threshold hr tk (ta_cons (te_v 1) ta_nil)) ta_nil)))) (tg_tup 3 rfl (tgs_cons (tg_name 3 sc.nd rfl (by first | exact Or.inl rfl | exact Or.inr rfl)) (tgs_cons (tg_name 4 sc.nd rfl (by first | exact Or.inl rfl | exact Or.inr rfl)) (tgs_cons (tg_name 5 sc.nd rfl (by first | exact Or.inl rfl | exact Or.inr rfl)) tgs_nil))) gs3))
      (ts_cons (ts_parG false false 6 7 rfl sc.nd rfl rfl (by decide) rfl rfl (te_call G__law_rows hr tk (ta_cons (te_v 1) (ta_cons te_int (ta_cons (te_call G__law_pick hr tk (ta_cons (te_v 1) (ta_cons (te_lst (ta_cons te_int (ta_cons te_int (ta_cons te_int ta_nil)))) ta_nil))) (ta_cons (te_call G__law_pick hr tk (ta_cons (te_v 1) (ta_cons (te_lst (ta_cons te_int (ta_cons te_int (ta_cons te_int ta_nil)))) ta_nil))) ta_nil))))) (te_call G__law_pick hr tk (ta_cons (te_v 1) (ta_cons (te_lst (ta_cons te_int (ta_cons te_int (ta_cons te_int (ta_cons te_int (ta_cons te_int (ta_cons te_int (ta_cons te_int (ta_cons te_int (ta_cons te_int (ta_cons te_int (ta_cons (te_addA te_int (te_call G__law_draw hr tk (ta_cons (te_v 1) (ta_cons te_int ta_nil)))) ta_nil)))))))))))) ta_nil))))
      (ts_cons (ts_set 8 sc.nd rfl (by first | exact Or.inl rfl | exact Or.inr rfl) (te_make (E := E) M_Table hr tk (ta_cons (te_v 3) (ta_cons te_int ta_nil))))
      (ts_cons (ts_parG false false 9 10 rfl sc.nd rfl rfl (by decide) rfl rfl (te_make (E := E) M_World hr tk (ta_cons (te_lst (ta_cons (te_v 8) (ta_cons (te_make (E := E) M_Table hr tk (ta_cons (te_if (tb_ne hr (te_v 3) te_str) te_str te_str) (ta_cons te_int ta_nil))) ta_nil))) (ta_cons (te_lst (ta_cons (te_v 6) (ta_cons (te_lst (ta_cons (te_tup (ta_cons te_int ta_nil)) ta_nil)) ta_nil))) ta_nil))) (te_make (E := E) M_Split hr tk (ta_cons (te_v 8) (ta_cons (te_v 4) (ta_cons (te_v 5) ta_nil)))))
      (ts_cons (ts_asgT (te_tup (ta_cons (te_call G__law_parts hr tk (ta_cons (te_v 6) (ta_cons (te_v 4) (ta_cons (te_v 5) (ta_cons (te_v 7) ta_nil))))) (ta_cons (te_call G_parted hr tk (ta_cons (te_v 9) (ta_cons (te_v 10) (ta_cons (te_v 7) ta_nil)))) ta_nil))) (tg_tup 2 rfl (tgs_cons (tg_name 11 sc.nd rfl (by first | exact Or.inl rfl | exact Or.inr rfl)) (tgs_cons (tg_name 12 sc.nd rfl (by first | exact Or.inl rfl | exact Or.inr rfl)) tgs_nil)) gs2))
      (ts_cons (ts_if (PW.pt (tw_or (tb_ne hr (te_repr rfl hG hr (by rfl) T.b_repr (ta_cons (te_v 12) ta_nil)) (te_repr rfl hG hr (by rfl) T.b_repr (ta_cons (te_v 11) ta_nil))) (tw_or1 (tb_ne hr (te_callK (E := E) GK_parted_210 hr tk (tk_cons (te_v 7) (tk_cons (te_v 10) (tk_cons (te_v 9) tk_nil)))) (te_v 12))))) (ts_one (ts_ret te_bl)) ts_nil)
      (ts_cons (ts_if (PW.pt (tw_or (tb_ne hr (te_toTup rfl (by rfl) T.b_tuple (ta_cons (te_sortedA rfl hr rfl (by rfl) T.b_sorted (ta_cons (te_addA (te_ixA hr (te_v 12) te_int) (te_ixA hr (te_v 12) te_int)) ta_nil)) ta_nil)) (te_v 6)) (tw_or1 (tb_ne hr (te_lc rfl sc.nd (ti_seq (te_ixA hr (te_v 12) te_int)) (blkOk_by (own := [("row", 13)]) (by kernel_rfl)) (fun _ _ _ _ _ => (tg_name 13 sc.nd rfl (by first | exact Or.inl rfl | exact Or.inr rfl))) (fun _ _ _ _ _ => (tts_one (tb_in hr (te_ixA hr (te_v 13) (te_v 4)) (te_lc rfl sc.nd (ti_seq (te_ixA hr (te_v 12) te_int)) (blkOk_by (own := [("one", 14)]) (by kernel_rfl)) (fun _ _ _ _ _ => (tg_name 14 sc.nd rfl (by first | exact Or.inl rfl | exact Or.inr rfl))) (fun _ _ _ _ _ => tts_nil) (fun _ _ _ _ _ => (te_ixA hr (te_v 14) (te_v 4))))))) (fun _ _ _ _ _ => (te_v 13))) (te_lst ta_nil))))) (ts_one (ts_ret te_bl)) ts_nil)
      (ts_one (ts_for pown rfl (ti_items (te_call G__law_crowds hr tk (ta_cons (te_v 6) (ta_cons (te_v 4) ta_nil)))) (tg_tup 2 rfl (tgs_cons (tg_name 15 sc.nd rfl (by first | exact Or.inl rfl | exact Or.inr rfl)) (tgs_cons (tg_name 16 sc.nd rfl (by first | exact Or.inl rfl | exact Or.inr rfl)) tgs_nil)) gs2) (ts_one (ts_if (tb_ne hr (te_le (te_call G__law_power hr tk (ta_cons (te_v 16) (ta_cons (te_ixA hr (te_v 5) te_int) ta_nil))) (te_call G__law_power hr tk (ta_cons (te_v 7) (ta_cons (te_ixA hr (te_v 5) te_int) ta_nil)))) (te_in hr (te_v 15) (te_lc rfl sc.nd (ti_seq (te_ixA hr (te_v 12) te_int)) (blkOk_by (own := [("row", 13)]) (by kernel_rfl)) (fun _ _ _ _ _ => (tg_name 13 sc.nd rfl (by first | exact Or.inl rfl | exact Or.inr rfl))) (fun _ _ _ _ _ => tts_nil) (fun _ _ _ _ _ => (te_ixA hr (te_v 13) (te_v 4)))))) (ts_one (ts_ret te_bl)) ts_nil))))))))))))
      (ts_one (ts_ret te_bl))))
end
end L2.TL.W

/-! text K07s -/
set_option Elab.async false
set_option linter.all false
set_option maxRecDepth 100000
set_option maxHeartbeats 4000000
namespace L2.TL.W
open PySem PySem.Spec PyProof.Rows L2.TL
def w_turn (K : PySem.W.Frag) (C : Cs) : WSx := (wSeq (wAsgT (gT (gsCons (gN 3) (gsCons (gN 4) (gsCons (gN 5) gsNil)))) (wTup (wCons (wCall (Φ__law_name K C) (wCons (wV 1) wNil)) (wCons (wCall (Φ__law_draw K C) (wCons (wV 1) (wCons (wC (.int 2)) wNil))) (wCons (wCall (Φ__law_threshold K C) (wCons (wV 1) wNil)) wNil))))) (wSeq (wParG false false 6 7 (wCall (Φ__law_rows K C) (wCons (wV 1) (wCons (wC (.int 2)) (wCons (wCall (Φ__law_pick K C) (wCons (wV 1) (wCons (wLst (wCons (wC (.int 3)) (wCons (wC (.int 12)) (wCons (wC (.int 40)) wNil)))) wNil))) (wCons (wCall (Φ__law_pick K C) (wCons (wV 1) (wCons (wLst (wCons (wC (.int 2)) (wCons (wC (.int 4)) (wCons (wC (.int 8)) wNil)))) wNil))) wNil))))) (wCall (Φ__law_pick K C) (wCons (wV 1) (wCons (wLst (wCons (wC (.int 1)) (wCons (wC (.int 2)) (wCons (wC (.int 3)) (wCons (wC (.int 4)) (wCons (wC (.int 5)) (wCons (wC (.int 8)) (wCons (wC (.int 9)) (wCons (wC (.int 16)) (wCons (wC (.int 27)) (wCons (wC (.int 1000000)) (wCons (w2 oAddA (wC (.int 1)) (wCall (Φ__law_draw K C) (wCons (wV 1) (wCons (wC (.int 60)) wNil)))) wNil)))))))))))) wNil)))) (wSeq (wSet 8 (wMake C.Table (Φ_Table_init K C) (wCons (wV 3) (wCons (wC (.int 2)) wNil)))) (wSeq (wParG false false 9 10 (wMake C.World (Φ_World_init K C) (wCons (wLst (wCons (wV 8) (wCons (wMake C.Table (Φ_Table_init K C) (wCons (wIf (wT (w2 (oEq true) (wV 3) (wC (.str ("other" : Str))))) (wC (.str ("other" : Str))) (wC (.str ("its" : Str)))) (wCons (wC (.int 1)) wNil))) wNil))) (wCons (wLst (wCons (wV 6) (wCons (wLst (wCons (wTup (wCons (wC (.int 1)) wNil)) wNil)) wNil))) wNil))) (wMake C.Split (Φ_Split_init K C) (wCons (wV 8) (wCons (wV 4) (wCons (wV 5) wNil))))) (wSeq (wAsgT (gT (gsCons (gN 11) (gsCons (gN 12) gsNil))) (wTup (wCons (wCall (Φ__law_parts K C) (wCons (wV 6) (wCons (wV 4) (wCons (wV 5) (wCons (wV 7) wNil))))) (wCons (wCall (Φ_parted K C) (wCons (wV 9) (wCons (wV 10) (wCons (wV 7) wNil)))) wNil)))) (wSeq (wIfS (wOr (wT (w2 (oEq true) (wF (o1 fRepr) (wCons (wV 12) wNil)) (wF (o1 fRepr) (wCons (wV 11) wNil)))) (wT (w2 (oEq true) (wCallK 3 [2, 1, 0] (Φ_parted K C) (wCons (wV 7) (wCons (wV 10) (wCons (wV 9) wNil)))) (wV 12)))) (wRet (wC (.bl false))) wNext) (wSeq (wIfS (wOr (wT (w2 (oEq true) (wF (o1 fTup) (wCons (wF (o1 fSortA) (wCons (w2 oAddA (w2 oIxA (wV 12) (wC (.int 0))) (w2 oIxA (wV 12) (wC (.int 1)))) wNil)) wNil)) (wV 6))) (wT (w2 (oEq true) (wLc (iSeq (w2 oIxA (wV 12) (wC (.int 0)))) (gN 13) (wT (w2 (oIn false) (w2 oIxA (wV 13) (wV 4)) (wLc (iSeq (w2 oIxA (wV 12) (wC (.int 1)))) (gN 14) wYes (w2 oIxA (wV 14) (wV 4)) [14]))) (wV 13) [13]) (wLst wNil)))) (wRet (wC (.bl false))) wNext) (wFor (iOne itemsD (wCall (Φ__law_crowds K C) (wCons (wV 6) (wCons (wV 4) wNil)))) (gT (gsCons (gN 15) (gsCons (gN 16) gsNil))) (wIfS (wT (w2 (oEq true) (w2 oLe (wCall (Φ__law_power K C) (wCons (wV 16) (wCons (w2 oIxA (wV 5) (wC (.int 1))) wNil))) (wCall (Φ__law_power K C) (wCons (wV 7) (wCons (w2 oIxA (wV 5) (wC (.int 0))) wNil)))) (w2 (oIn false) (wV 15) (wLc (iSeq (w2 oIxA (wV 12) (wC (.int 0)))) (gN 13) wYes (w2 oIxA (wV 13) (wV 4)) [13])))) (wRet (wC (.bl false))) wNext)))))))))
theorem other_ok : nameOk "other" = true ∧ PyData.strOk "other" = true := by decide +kernel
theorem its_ok : nameOk "its" = true ∧ PyData.strOk "its" = true := by decide +kernel
theorem other_its : ("other" : Str) ≠ "its" := by decide +kernel
theorem srt1 : Srt [[1]] := ⟨by simp, by simp⟩
theorem drawn_ok {most reach : Nat} {rws : List (List Int)} (h : DrawnRows 2 most reach rws) (h2 : reach ≤ 1000) : (∀ r ∈ rws, RowOk 2 r) ∧ Shown rws := by
  refine ⟨fun r hr => ⟨by rw [h.wid r hr]; rfl, fun v hv => ?_⟩, fun r hr => ⟨by rw [h.wid r hr]; omega, fun v hv => ?_⟩⟩
  all_goals
    have := h.sml r hr v hv
    omega
theorem col_lc {i c : Nat} {ρ0 : Ro} {os : Os} {rws : List (List Int)} {Pend : List D → En → Prop} (h2 : ∀ r ∈ rws, r.length = 2) (hc : c ≤ 1) (h0 : ρ0.set i none = ρ0) (hi : ∀ d, (ρ0.set i (some (.sh d)))[i]? = some (some (.sh d))) (h4 : ∀ d, (ρ0.set i (some (.sh d)))[4]? = some (some (.sh (.int c))))
    (hp : Pend (rws.map fun r => .int (r.getD c 0)) ⟨ρ0, os⟩) : wLcL (gN i) wYes (w2 oIxA (wV i) (wV 4)) [i] Pend (rws.map rowT) [] ⟨ρ0, os⟩ := by
  refine lcL_map (f := fun d => match d with | .tup xs => (match atI xs (c : Int) with | some v => v | _ => .non) | _ => .non) h0 (fun d hd P PX h => ?_) ?_
  · obtain ⟨r, hr, rfl⟩ := List.mem_map.mp hd
    have e1 := at_row (h2 r hr) hc
    simp only [rowT] at h ⊢
    rw [e1] at h
    simp [hi, h4, e1, wRet, wRetN, wAndV, wOrV, wNotV, wF, wCons, wNil, wV, wC, o1, o2, fIsi, fLen, fAll, fInt, fAbs, fII, fTup, fList, fSortA, fSort, wParG, put1, startR, R.fz, R.val, isiD, clsD, clsL, tyD, insOk, bodyPost, wSeq, wNext, wIfS, wT, w2, oAdd, oAddA, wNewT, wCallK, permL, wMakeK, oSub, oI, oIc, oMulW, oDivW, oMod, oPow, oLt, oLe, oGt, oGe, oEq, wIsN, D.isNon, wChain, wIf, wFld, wTup, wLst, shs, wSet, wOwn, wPar, wPar3, wCall, wMeth, wExpr, wAsgE, geT, geCons, geNil, geF, putD, wAsgT, gT, gsCons, gsNil, gN, iSeq, iOne, iRng, iZip, wNeg, wAnd, wOr, wNot, seqD, shs, oIx, oIxA, oIn, inD, wPut, setD, wGet2, wNewD, wYes, noX, dcD, blsD, eqD, shD, toPy, toPyL, PyData.eqv, PyData.eqvAll, SeqAt.shaped, PyData.canLay0, PyData.canLayAll0, PyData.depth, PyData.depthAll, and_assoc, sz1, sz2, sz3, kit_self, lookup_hd, lookup_tl, Int.natCast_inj, show ((0 : Nat) : Int) = 0 from rfl, kb_NoneType_bool, kb_NoneType_int, kb_NoneType_str, kb_NoneType_list, kb_NoneType_tuple, kb_NoneType_dict, kb_bool_bool, kb_bool_int, kb_bool_str, kb_bool_list, kb_bool_tuple, kb_bool_dict, kb_int_bool, kb_int_int, kb_int_str, kb_int_list, kb_int_tuple, kb_int_dict, kb_str_bool, kb_str_int, kb_str_str, kb_str_list, kb_str_tuple, kb_str_dict, kb_list_bool, kb_list_int, kb_list_str, kb_list_list, kb_list_tuple, kb_list_dict, kb_tuple_bool, kb_tuple_int, kb_tuple_str, kb_tuple_list, kb_tuple_tuple, kb_tuple_dict, kb_dict_bool, kb_dict_int, kb_dict_str, kb_dict_list, kb_dict_tuple, kb_dict_dict]
    simpa using h
  · rw [List.nil_append, List.map_map]
    have e : rws.map ((fun d => match d with | .tup xs => (match atI xs (c : Int) with | some v => v | _ => .non) | _ => .non) ∘ rowT) = rws.map fun r => D.int (r.getD c 0) := List.map_congr_left fun r hr => by
      simp only [Function.comp, rowT, at_row (h2 r hr) hc]
    rw [e]; exact hp
theorem in_col (v : Int) (rws : List (List Int)) (c : Nat) : inD (.int v) (.lst (rws.map fun r => .int (r.getD c 0))) = some (decide (∃ r ∈ rws, r.getD c 0 = v)) := by
  have e : (rws.map fun r => D.int (r.getD c 0)) = (rws.map fun r => r.getD c 0).map D.int := by rw [List.map_map]; rfl
  have s1 : shD (.lst (rws.map fun r => .int (r.getD c 0))) = true := by
    rw [e]
    simp only [shD, SeqAt.shaped, toPy, toPyL_ints, PyData.canLay0, lay_ints, PyData.depth, PySem.W.depth_ints]; rfl
  simp only [inD, s1, show shD (.int v) = true from rfl, Bool.and_self, if_true]
  rw [List.any_map]
  congr 1
  rw [Bool.eq_iff_iff]
  simp [eqD, toPy, PyData.eqv]
section
variable {K : PySem.W.Frag} {mg : Str → Option Value} {C : Cs} {os : Os} {P : Post}
theorem l_turn (T : Txt K mg C) {d0 p : D} {n : Nat} {x2 x3 x4 x5 x6 x7 x8 x9 x10 x11 x12 x15 x16 : Option R} (hpen : Pen n p) (hn : n ≤ 800000)
    (hN : ∀ y2 y3 y4 y5 y6 y7 y8 y9 y10 y11 y12 y15 y16, ∀ p2 : D, Pen (n + 250) p2 → P.nx ⟨[some (.sh d0), some (.ow os.length), y2, y3, y4, y5, y6, y7, y8, y9, y10, y11, y12, none, none, y15, y16], os ++ [some p2]⟩) :
    w_turn K C ⟨[some (.sh d0), some (.ow os.length), x2, x3, x4, x5, x6, x7, x8, x9, x10, x11, x12, none, none, x15, x16], os ++ [some p]⟩ P := by
  unfold w_turn
  refine seq_of (fun en => ∃ (z : Str) (c a b : Nat) (p2 : D), nameOk z = true ∧ PyData.strOk z = true ∧ c ≤ 1 ∧ 1 ≤ a ∧ a ≤ 12 ∧ 1 ≤ b ∧ b ≤ 12 ∧ Pen (n + 11) p2 ∧ en = ⟨[some (.sh d0), some (.ow os.length), x2, some (.sh (.str z)), some (.sh (.int c)), some (.sh (.tup [.int a, .int b])), x6, x7, x8, x9, x10, x11, x12, none, none, x15, x16], os ++ [some p2]⟩) (fun N hN => ?_) ?_
  · simp [wRet, wRetN, wAndV, wOrV, wNotV, wF, wCons, wNil, wV, wC, o1, o2, fIsi, fLen, fAll, fInt, fAbs, fII, fTup, fList, fSortA, fSort, wParG, put1, startR, R.fz, R.val, isiD, clsD, clsL, tyD, insOk, bodyPost, wSeq, wNext, wIfS, wT, w2, oAdd, oAddA, wNewT, wCallK, permL, wMakeK, oSub, oI, oIc, oMulW, oDivW, oMod, oPow, oLt, oLe, oGt, oGe, oEq, wIsN, D.isNon, wChain, wIf, wFld, wTup, wLst, shs, wSet, wOwn, wPar, wPar3, wCall, wMake, wMeth, wExpr, wAsgE, geT, geCons, geNil, geF, putD, wAsgT, gT, gsCons, gsNil, gN, iSeq, iOne, iRng, iZip, wNeg, wAnd, wOr, wNot, seqD, shs, oIx, oIxA, oIn, inD, wPut, setD, wGet2, wNewD, wYes, noX, dcD, blsD, eqD, shD, toPy, toPyL, PyData.eqv, PyData.eqvAll, SeqAt.shaped, PyData.canLay0, PyData.canLayAll0, PyData.depth, PyData.depthAll, and_assoc, sz1, sz2, sz3, kit_self, lookup_hd, lookup_tl, Int.natCast_inj, show ((0 : Nat) : Int) = 0 from rfl, kb_NoneType_bool, kb_NoneType_int, kb_NoneType_str, kb_NoneType_list, kb_NoneType_tuple, kb_NoneType_dict, kb_bool_bool, kb_bool_int, kb_bool_str, kb_bool_list, kb_bool_tuple, kb_bool_dict, kb_int_bool, kb_int_int, kb_int_str, kb_int_list, kb_int_tuple, kb_int_dict, kb_str_bool, kb_str_int, kb_str_str, kb_str_list, kb_str_tuple, kb_str_dict, kb_list_bool, kb_list_int, kb_list_str, kb_list_list, kb_list_tuple, kb_list_dict, kb_tuple_bool, kb_tuple_int, kb_tuple_str, kb_tuple_list, kb_tuple_tuple, kb_tuple_dict, kb_dict_bool, kb_dict_int, kb_dict_str, kb_dict_list, kb_dict_tuple, kb_dict_dict]
    refine ⟨os.length, n, p, rfl, get_last _ _, hpen, by omega, fun z p2 hz hso pen2 => ?_⟩
    simp [set_last, wRet, wRetN, wAndV, wOrV, wNotV, wF, wCons, wNil, wV, wC, o1, o2, fIsi, fLen, fAll, fInt, fAbs, fII, fTup, fList, fSortA, fSort, wParG, put1, startR, R.fz, R.val, isiD, clsD, clsL, tyD, insOk, bodyPost, wSeq, wNext, wIfS, wT, w2, oAdd, oAddA, wNewT, wCallK, permL, wMakeK, oSub, oI, oIc, oMulW, oDivW, oMod, oPow, oLt, oLe, oGt, oGe, oEq, wIsN, D.isNon, wChain, wIf, wFld, wTup, wLst, shs, wSet, wOwn, wPar, wPar3, wCall, wMake, wMeth, wExpr, wAsgE, geT, geCons, geNil, geF, putD, wAsgT, gT, gsCons, gsNil, gN, iSeq, iOne, iRng, iZip, wNeg, wAnd, wOr, wNot, seqD, shs, oIx, oIxA, oIn, inD, wPut, setD, wGet2, wNewD, wYes, noX, dcD, blsD, eqD, shD, toPy, toPyL, PyData.eqv, PyData.eqvAll, SeqAt.shaped, PyData.canLay0, PyData.canLayAll0, PyData.depth, PyData.depthAll, and_assoc, sz1, sz2, sz3, kit_self, lookup_hd, lookup_tl, Int.natCast_inj, show ((0 : Nat) : Int) = 0 from rfl, kb_NoneType_bool, kb_NoneType_int, kb_NoneType_str, kb_NoneType_list, kb_NoneType_tuple, kb_NoneType_dict, kb_bool_bool, kb_bool_int, kb_bool_str, kb_bool_list, kb_bool_tuple, kb_bool_dict, kb_int_bool, kb_int_int, kb_int_str, kb_int_list, kb_int_tuple, kb_int_dict, kb_str_bool, kb_str_int, kb_str_str, kb_str_list, kb_str_tuple, kb_str_dict, kb_list_bool, kb_list_int, kb_list_str, kb_list_list, kb_list_tuple, kb_list_dict, kb_tuple_bool, kb_tuple_int, kb_tuple_str, kb_tuple_list, kb_tuple_tuple, kb_tuple_dict, kb_dict_bool, kb_dict_int, kb_dict_str, kb_dict_list, kb_dict_tuple, kb_dict_dict]
    refine ⟨os.length, n + 9, p2, 2, rfl, get_last _ _, pen2, by omega, by omega, by omega, fun c p3 hc pen3 => ?_⟩
    simp [set_last, wRet, wRetN, wAndV, wOrV, wNotV, wF, wCons, wNil, wV, wC, o1, o2, fIsi, fLen, fAll, fInt, fAbs, fII, fTup, fList, fSortA, fSort, wParG, put1, startR, R.fz, R.val, isiD, clsD, clsL, tyD, insOk, bodyPost, wSeq, wNext, wIfS, wT, w2, oAdd, oAddA, wNewT, wCallK, permL, wMakeK, oSub, oI, oIc, oMulW, oDivW, oMod, oPow, oLt, oLe, oGt, oGe, oEq, wIsN, D.isNon, wChain, wIf, wFld, wTup, wLst, shs, wSet, wOwn, wPar, wPar3, wCall, wMake, wMeth, wExpr, wAsgE, geT, geCons, geNil, geF, putD, wAsgT, gT, gsCons, gsNil, gN, iSeq, iOne, iRng, iZip, wNeg, wAnd, wOr, wNot, seqD, shs, oIx, oIxA, oIn, inD, wPut, setD, wGet2, wNewD, wYes, noX, dcD, blsD, eqD, shD, toPy, toPyL, PyData.eqv, PyData.eqvAll, SeqAt.shaped, PyData.canLay0, PyData.canLayAll0, PyData.depth, PyData.depthAll, and_assoc, sz1, sz2, sz3, kit_self, lookup_hd, lookup_tl, Int.natCast_inj, show ((0 : Nat) : Int) = 0 from rfl, kb_NoneType_bool, kb_NoneType_int, kb_NoneType_str, kb_NoneType_list, kb_NoneType_tuple, kb_NoneType_dict, kb_bool_bool, kb_bool_int, kb_bool_str, kb_bool_list, kb_bool_tuple, kb_bool_dict, kb_int_bool, kb_int_int, kb_int_str, kb_int_list, kb_int_tuple, kb_int_dict, kb_str_bool, kb_str_int, kb_str_str, kb_str_list, kb_str_tuple, kb_str_dict, kb_list_bool, kb_list_int, kb_list_str, kb_list_list, kb_list_tuple, kb_list_dict, kb_tuple_bool, kb_tuple_int, kb_tuple_str, kb_tuple_list, kb_tuple_tuple, kb_tuple_dict, kb_dict_bool, kb_dict_int, kb_dict_str, kb_dict_list, kb_dict_tuple, kb_dict_dict]
    refine ⟨os.length, n + 9 + 1, p3, rfl, get_last _ _, pen3, by omega, fun a b p4 h1 h2 h3 h4 pen4 => ?_⟩
    simp [set_last, wRet, wRetN, wAndV, wOrV, wNotV, wF, wCons, wNil, wV, wC, o1, o2, fIsi, fLen, fAll, fInt, fAbs, fII, fTup, fList, fSortA, fSort, wParG, put1, startR, R.fz, R.val, isiD, clsD, clsL, tyD, insOk, bodyPost, wSeq, wNext, wIfS, wT, w2, oAdd, oAddA, wNewT, wCallK, permL, wMakeK, oSub, oI, oIc, oMulW, oDivW, oMod, oPow, oLt, oLe, oGt, oGe, oEq, wIsN, D.isNon, wChain, wIf, wFld, wTup, wLst, shs, wSet, wOwn, wPar, wPar3, wCall, wMake, wMeth, wExpr, wAsgE, geT, geCons, geNil, geF, putD, wAsgT, gT, gsCons, gsNil, gN, iSeq, iOne, iRng, iZip, wNeg, wAnd, wOr, wNot, seqD, shs, oIx, oIxA, oIn, inD, wPut, setD, wGet2, wNewD, wYes, noX, dcD, blsD, eqD, shD, toPy, toPyL, PyData.eqv, PyData.eqvAll, SeqAt.shaped, PyData.canLay0, PyData.canLayAll0, PyData.depth, PyData.depthAll, and_assoc, sz1, sz2, sz3, kit_self, lookup_hd, lookup_tl, Int.natCast_inj, show ((0 : Nat) : Int) = 0 from rfl, kb_NoneType_bool, kb_NoneType_int, kb_NoneType_str, kb_NoneType_list, kb_NoneType_tuple, kb_NoneType_dict, kb_bool_bool, kb_bool_int, kb_bool_str, kb_bool_list, kb_bool_tuple, kb_bool_dict, kb_int_bool, kb_int_int, kb_int_str, kb_int_list, kb_int_tuple, kb_int_dict, kb_str_bool, kb_str_int, kb_str_str, kb_str_list, kb_str_tuple, kb_str_dict, kb_list_bool, kb_list_int, kb_list_str, kb_list_list, kb_list_tuple, kb_list_dict, kb_tuple_bool, kb_tuple_int, kb_tuple_str, kb_tuple_list, kb_tuple_tuple, kb_tuple_dict, kb_dict_bool, kb_dict_int, kb_dict_str, kb_dict_list, kb_dict_tuple, kb_dict_dict]
    exact hN _ ⟨z, c, a, b, p4, hz, hso, by omega, h1, h2, h3, h4, pen4, rfl⟩
  rintro _ ⟨z, c, a, b, p2, hz, hso, hc, ha1, ha2, hb1, hb2, pen2, rfl⟩
  refine seq_of (fun en => ∃ (rws : List (List Int)) (base : Nat) (p3 : D), Srt rws ∧ (∀ r ∈ rws, RowOk 2 r) ∧ Shown rws ∧ rws.length ≤ 40 ∧ 1 ≤ base ∧ base ≤ 1000000 ∧ Pen (n + 250) p3 ∧ en = ⟨[some (.sh d0), some (.ow os.length), x2, some (.sh (.str z)), some (.sh (.int c)), some (.sh (.tup [.int a, .int b])), some (.sh (.tup (rws.map rowT))), some (.sh (.int base)), x8, x9, x10, x11, x12, none, none, x15, x16], os ++ [some p3]⟩) (fun N hN => ?_) ?_
  · simp [wRet, wRetN, wAndV, wOrV, wNotV, wF, wCons, wNil, wV, wC, o1, o2, fIsi, fLen, fAll, fInt, fAbs, fII, fTup, fList, fSortA, fSort, wParG, put1, startR, R.fz, R.val, isiD, clsD, clsL, tyD, insOk, bodyPost, wSeq, wNext, wIfS, wT, w2, oAdd, oAddA, wNewT, wCallK, permL, wMakeK, oSub, oI, oIc, oMulW, oDivW, oMod, oPow, oLt, oLe, oGt, oGe, oEq, wIsN, D.isNon, wChain, wIf, wFld, wTup, wLst, shs, wSet, wOwn, wPar, wPar3, wCall, wMake, wMeth, wExpr, wAsgE, geT, geCons, geNil, geF, putD, wAsgT, gT, gsCons, gsNil, gN, iSeq, iOne, iRng, iZip, wNeg, wAnd, wOr, wNot, seqD, shs, oIx, oIxA, oIn, inD, wPut, setD, wGet2, wNewD, wYes, noX, dcD, blsD, eqD, shD, toPy, toPyL, PyData.eqv, PyData.eqvAll, SeqAt.shaped, PyData.canLay0, PyData.canLayAll0, PyData.depth, PyData.depthAll, and_assoc, sz1, sz2, sz3, kit_self, lookup_hd, lookup_tl, Int.natCast_inj, show ((0 : Nat) : Int) = 0 from rfl, kb_NoneType_bool, kb_NoneType_int, kb_NoneType_str, kb_NoneType_list, kb_NoneType_tuple, kb_NoneType_dict, kb_bool_bool, kb_bool_int, kb_bool_str, kb_bool_list, kb_bool_tuple, kb_bool_dict, kb_int_bool, kb_int_int, kb_int_str, kb_int_list, kb_int_tuple, kb_int_dict, kb_str_bool, kb_str_int, kb_str_str, kb_str_list, kb_str_tuple, kb_str_dict, kb_list_bool, kb_list_int, kb_list_str, kb_list_list, kb_list_tuple, kb_list_dict, kb_tuple_bool, kb_tuple_int, kb_tuple_str, kb_tuple_list, kb_tuple_tuple, kb_tuple_dict, kb_dict_bool, kb_dict_int, kb_dict_str, kb_dict_list, kb_dict_tuple, kb_dict_dict]
    refine ⟨os.length, n + 11, p2, _, rfl, get_last _ _, pen2, by omega, by simp, by simp, fun x p3 hx pen3 => ?_⟩
    obtain ⟨most, rfl, hmost⟩ : ∃ m : Nat, x = .int m ∧ m ≤ 40 := by
      simp at hx
      rcases hx with rfl | rfl | rfl
      · exact ⟨3, rfl, by omega⟩
      · exact ⟨12, rfl, by omega⟩
      · exact ⟨40, rfl, by omega⟩
    simp [set_last, wRet, wRetN, wAndV, wOrV, wNotV, wF, wCons, wNil, wV, wC, o1, o2, fIsi, fLen, fAll, fInt, fAbs, fII, fTup, fList, fSortA, fSort, wParG, put1, startR, R.fz, R.val, isiD, clsD, clsL, tyD, insOk, bodyPost, wSeq, wNext, wIfS, wT, w2, oAdd, oAddA, wNewT, wCallK, permL, wMakeK, oSub, oI, oIc, oMulW, oDivW, oMod, oPow, oLt, oLe, oGt, oGe, oEq, wIsN, D.isNon, wChain, wIf, wFld, wTup, wLst, shs, wSet, wOwn, wPar, wPar3, wCall, wMake, wMeth, wExpr, wAsgE, geT, geCons, geNil, geF, putD, wAsgT, gT, gsCons, gsNil, gN, iSeq, iOne, iRng, iZip, wNeg, wAnd, wOr, wNot, seqD, shs, oIx, oIxA, oIn, inD, wPut, setD, wGet2, wNewD, wYes, noX, dcD, blsD, eqD, shD, toPy, toPyL, PyData.eqv, PyData.eqvAll, SeqAt.shaped, PyData.canLay0, PyData.canLayAll0, PyData.depth, PyData.depthAll, and_assoc, sz1, sz2, sz3, kit_self, lookup_hd, lookup_tl, Int.natCast_inj, show ((0 : Nat) : Int) = 0 from rfl, kb_NoneType_bool, kb_NoneType_int, kb_NoneType_str, kb_NoneType_list, kb_NoneType_tuple, kb_NoneType_dict, kb_bool_bool, kb_bool_int, kb_bool_str, kb_bool_list, kb_bool_tuple, kb_bool_dict, kb_int_bool, kb_int_int, kb_int_str, kb_int_list, kb_int_tuple, kb_int_dict, kb_str_bool, kb_str_int, kb_str_str, kb_str_list, kb_str_tuple, kb_str_dict, kb_list_bool, kb_list_int, kb_list_str, kb_list_list, kb_list_tuple, kb_list_dict, kb_tuple_bool, kb_tuple_int, kb_tuple_str, kb_tuple_list, kb_tuple_tuple, kb_tuple_dict, kb_dict_bool, kb_dict_int, kb_dict_str, kb_dict_list, kb_dict_tuple, kb_dict_dict]
    refine ⟨os.length, n + 11 + 1, p3, _, rfl, get_last _ _, pen3, by omega, by simp, by simp, fun x p4 hx pen4 => ?_⟩
    obtain ⟨reach, rfl, hr1, hr2⟩ : ∃ m : Nat, x = .int m ∧ 1 ≤ m ∧ m ≤ 8 := by
      simp at hx
      rcases hx with rfl | rfl | rfl
      · exact ⟨2, rfl, by omega, by omega⟩
      · exact ⟨4, rfl, by omega, by omega⟩
      · exact ⟨8, rfl, by omega, by omega⟩
    simp [set_last, wRet, wRetN, wAndV, wOrV, wNotV, wF, wCons, wNil, wV, wC, o1, o2, fIsi, fLen, fAll, fInt, fAbs, fII, fTup, fList, fSortA, fSort, wParG, put1, startR, R.fz, R.val, isiD, clsD, clsL, tyD, insOk, bodyPost, wSeq, wNext, wIfS, wT, w2, oAdd, oAddA, wNewT, wCallK, permL, wMakeK, oSub, oI, oIc, oMulW, oDivW, oMod, oPow, oLt, oLe, oGt, oGe, oEq, wIsN, D.isNon, wChain, wIf, wFld, wTup, wLst, shs, wSet, wOwn, wPar, wPar3, wCall, wMake, wMeth, wExpr, wAsgE, geT, geCons, geNil, geF, putD, wAsgT, gT, gsCons, gsNil, gN, iSeq, iOne, iRng, iZip, wNeg, wAnd, wOr, wNot, seqD, shs, oIx, oIxA, oIn, inD, wPut, setD, wGet2, wNewD, wYes, noX, dcD, blsD, eqD, shD, toPy, toPyL, PyData.eqv, PyData.eqvAll, SeqAt.shaped, PyData.canLay0, PyData.canLayAll0, PyData.depth, PyData.depthAll, and_assoc, sz1, sz2, sz3, kit_self, lookup_hd, lookup_tl, Int.natCast_inj, show ((0 : Nat) : Int) = 0 from rfl, kb_NoneType_bool, kb_NoneType_int, kb_NoneType_str, kb_NoneType_list, kb_NoneType_tuple, kb_NoneType_dict, kb_bool_bool, kb_bool_int, kb_bool_str, kb_bool_list, kb_bool_tuple, kb_bool_dict, kb_int_bool, kb_int_int, kb_int_str, kb_int_list, kb_int_tuple, kb_int_dict, kb_str_bool, kb_str_int, kb_str_str, kb_str_list, kb_str_tuple, kb_str_dict, kb_list_bool, kb_list_int, kb_list_str, kb_list_list, kb_list_tuple, kb_list_dict, kb_tuple_bool, kb_tuple_int, kb_tuple_str, kb_tuple_list, kb_tuple_tuple, kb_tuple_dict, kb_dict_bool, kb_dict_int, kb_dict_str, kb_dict_list, kb_dict_tuple, kb_dict_dict]
    refine ⟨os.length, n + 11 + 1 + 1, 2, most, reach, p4, rfl, get_last _ _, pen4, by omega, .inr rfl, by omega, hr1, by omega, fun rws p5 drawn pen5 => ?_⟩
    simp [set_last, wRet, wRetN, wAndV, wOrV, wNotV, wF, wCons, wNil, wV, wC, o1, o2, fIsi, fLen, fAll, fInt, fAbs, fII, fTup, fList, fSortA, fSort, wParG, put1, startR, R.fz, R.val, isiD, clsD, clsL, tyD, insOk, bodyPost, wSeq, wNext, wIfS, wT, w2, oAdd, oAddA, wNewT, wCallK, permL, wMakeK, oSub, oI, oIc, oMulW, oDivW, oMod, oPow, oLt, oLe, oGt, oGe, oEq, wIsN, D.isNon, wChain, wIf, wFld, wTup, wLst, shs, wSet, wOwn, wPar, wPar3, wCall, wMake, wMeth, wExpr, wAsgE, geT, geCons, geNil, geF, putD, wAsgT, gT, gsCons, gsNil, gN, iSeq, iOne, iRng, iZip, wNeg, wAnd, wOr, wNot, seqD, shs, oIx, oIxA, oIn, inD, wPut, setD, wGet2, wNewD, wYes, noX, dcD, blsD, eqD, shD, toPy, toPyL, PyData.eqv, PyData.eqvAll, SeqAt.shaped, PyData.canLay0, PyData.canLayAll0, PyData.depth, PyData.depthAll, and_assoc, sz1, sz2, sz3, kit_self, lookup_hd, lookup_tl, Int.natCast_inj, show ((0 : Nat) : Int) = 0 from rfl, kb_NoneType_bool, kb_NoneType_int, kb_NoneType_str, kb_NoneType_list, kb_NoneType_tuple, kb_NoneType_dict, kb_bool_bool, kb_bool_int, kb_bool_str, kb_bool_list, kb_bool_tuple, kb_bool_dict, kb_int_bool, kb_int_int, kb_int_str, kb_int_list, kb_int_tuple, kb_int_dict, kb_str_bool, kb_str_int, kb_str_str, kb_str_list, kb_str_tuple, kb_str_dict, kb_list_bool, kb_list_int, kb_list_str, kb_list_list, kb_list_tuple, kb_list_dict, kb_tuple_bool, kb_tuple_int, kb_tuple_str, kb_tuple_list, kb_tuple_tuple, kb_tuple_dict, kb_dict_bool, kb_dict_int, kb_dict_str, kb_dict_list, kb_dict_tuple, kb_dict_dict]
    refine ⟨os.length, n + 250 - 2, p5, 60, rfl, get_last _ _, pen5.mono (by omega), by omega, by omega, by omega, fun v p6 hv pen6 => ?_⟩
    simp [set_last, wRet, wRetN, wAndV, wOrV, wNotV, wF, wCons, wNil, wV, wC, o1, o2, fIsi, fLen, fAll, fInt, fAbs, fII, fTup, fList, fSortA, fSort, wParG, put1, startR, R.fz, R.val, isiD, clsD, clsL, tyD, insOk, bodyPost, wSeq, wNext, wIfS, wT, w2, oAdd, oAddA, wNewT, wCallK, permL, wMakeK, oSub, oI, oIc, oMulW, oDivW, oMod, oPow, oLt, oLe, oGt, oGe, oEq, wIsN, D.isNon, wChain, wIf, wFld, wTup, wLst, shs, wSet, wOwn, wPar, wPar3, wCall, wMake, wMeth, wExpr, wAsgE, geT, geCons, geNil, geF, putD, wAsgT, gT, gsCons, gsNil, gN, iSeq, iOne, iRng, iZip, wNeg, wAnd, wOr, wNot, seqD, shs, oIx, oIxA, oIn, inD, wPut, setD, wGet2, wNewD, wYes, noX, dcD, blsD, eqD, shD, toPy, toPyL, PyData.eqv, PyData.eqvAll, SeqAt.shaped, PyData.canLay0, PyData.canLayAll0, PyData.depth, PyData.depthAll, and_assoc, sz1, sz2, sz3, kit_self, lookup_hd, lookup_tl, Int.natCast_inj, show ((0 : Nat) : Int) = 0 from rfl, kb_NoneType_bool, kb_NoneType_int, kb_NoneType_str, kb_NoneType_list, kb_NoneType_tuple, kb_NoneType_dict, kb_bool_bool, kb_bool_int, kb_bool_str, kb_bool_list, kb_bool_tuple, kb_bool_dict, kb_int_bool, kb_int_int, kb_int_str, kb_int_list, kb_int_tuple, kb_int_dict, kb_str_bool, kb_str_int, kb_str_str, kb_str_list, kb_str_tuple, kb_str_dict, kb_list_bool, kb_list_int, kb_list_str, kb_list_list, kb_list_tuple, kb_list_dict, kb_tuple_bool, kb_tuple_int, kb_tuple_str, kb_tuple_list, kb_tuple_tuple, kb_tuple_dict, kb_dict_bool, kb_dict_int, kb_dict_str, kb_dict_list, kb_dict_tuple, kb_dict_dict]
    refine ⟨by decide, os.length, n + 250 - 2 + 1, p6, _, rfl, get_last _ _, pen6, by omega, by simp, by simp, fun x p7 hx pen7 => ?_⟩
    obtain ⟨base, rfl, hb1, hb2⟩ : ∃ m : Nat, x = .int m ∧ 1 ≤ m ∧ m ≤ 1000000 := by
      simp at hx
      rcases hx with rfl | rfl | rfl | rfl | rfl | rfl | rfl | rfl | rfl | rfl | rfl
      · exact ⟨1, rfl, by omega, by omega⟩
      · exact ⟨2, rfl, by omega, by omega⟩
      · exact ⟨3, rfl, by omega, by omega⟩
      · exact ⟨4, rfl, by omega, by omega⟩
      · exact ⟨5, rfl, by omega, by omega⟩
      · exact ⟨8, rfl, by omega, by omega⟩
      · exact ⟨9, rfl, by omega, by omega⟩
      · exact ⟨16, rfl, by omega, by omega⟩
      · exact ⟨27, rfl, by omega, by omega⟩
      · exact ⟨1000000, rfl, by omega, by omega⟩
      · exact ⟨1 + v, by simp, by omega, by omega⟩
    obtain ⟨q1, q2⟩ := drawn_ok drawn (by omega)
    simp [set_last, wRet, wRetN, wAndV, wOrV, wNotV, wF, wCons, wNil, wV, wC, o1, o2, fIsi, fLen, fAll, fInt, fAbs, fII, fTup, fList, fSortA, fSort, wParG, put1, startR, R.fz, R.val, isiD, clsD, clsL, tyD, insOk, bodyPost, wSeq, wNext, wIfS, wT, w2, oAdd, oAddA, wNewT, wCallK, permL, wMakeK, oSub, oI, oIc, oMulW, oDivW, oMod, oPow, oLt, oLe, oGt, oGe, oEq, wIsN, D.isNon, wChain, wIf, wFld, wTup, wLst, shs, wSet, wOwn, wPar, wPar3, wCall, wMake, wMeth, wExpr, wAsgE, geT, geCons, geNil, geF, putD, wAsgT, gT, gsCons, gsNil, gN, iSeq, iOne, iRng, iZip, wNeg, wAnd, wOr, wNot, seqD, shs, oIx, oIxA, oIn, inD, wPut, setD, wGet2, wNewD, wYes, noX, dcD, blsD, eqD, shD, toPy, toPyL, PyData.eqv, PyData.eqvAll, SeqAt.shaped, PyData.canLay0, PyData.canLayAll0, PyData.depth, PyData.depthAll, and_assoc, sz1, sz2, sz3, kit_self, lookup_hd, lookup_tl, Int.natCast_inj, show ((0 : Nat) : Int) = 0 from rfl, kb_NoneType_bool, kb_NoneType_int, kb_NoneType_str, kb_NoneType_list, kb_NoneType_tuple, kb_NoneType_dict, kb_bool_bool, kb_bool_int, kb_bool_str, kb_bool_list, kb_bool_tuple, kb_bool_dict, kb_int_bool, kb_int_int, kb_int_str, kb_int_list, kb_int_tuple, kb_int_dict, kb_str_bool, kb_str_int, kb_str_str, kb_str_list, kb_str_tuple, kb_str_dict, kb_list_bool, kb_list_int, kb_list_str, kb_list_list, kb_list_tuple, kb_list_dict, kb_tuple_bool, kb_tuple_int, kb_tuple_str, kb_tuple_list, kb_tuple_tuple, kb_tuple_dict, kb_dict_bool, kb_dict_int, kb_dict_str, kb_dict_list, kb_dict_tuple, kb_dict_dict]
    exact hN _ ⟨rws, base, p7, drawn.srt, q1, q2, Nat.le_trans drawn.few hmost, hb1, hb2, pen7.mono (by omega), rfl⟩
  rintro _ ⟨rws, base, p3, srt, ro, sho, hlen, hb1', hb2', pen3, rfl⟩
  have h2 : ∀ r ∈ rws, r.length = 2 := fun r hr => by have := (ro r hr).1; omega
  refine seq_of (fun en => en = ⟨[some (.sh d0), some (.ow os.length), x2, some (.sh (.str z)), some (.sh (.int c)), some (.sh (.tup [.int a, .int b])), some (.sh (.tup (rws.map rowT))), some (.sh (.int base)), some (.sh (tabD C (z, 2))), x9, x10, x11, x12, none, none, x15, x16], os ++ [some p3]⟩) (fun N hN => ?_) ?_
  · unfold wSet
    refine mk_table (z := z) (w := 2) (fun P' h => ?_) hz (.inr rfl) ?_
    · simpa [wRet, wRetN, wAndV, wOrV, wNotV, wF, wCons, wNil, wV, wC, o1, o2, fIsi, fLen, fAll, fInt, fAbs, fII, fTup, fList, fSortA, fSort, wParG, put1, startR, R.fz, R.val, isiD, clsD, clsL, tyD, insOk, bodyPost, wSeq, wNext, wIfS, wT, w2, oAdd, oAddA, wNewT, wCallK, permL, wMakeK, oSub, oI, oIc, oMulW, oDivW, oMod, oPow, oLt, oLe, oGt, oGe, oEq, wIsN, D.isNon, wChain, wIf, wFld, wTup, wLst, shs, wSet, wOwn, wPar, wPar3, wCall, wMake, wMeth, wExpr, wAsgE, geT, geCons, geNil, geF, putD, wAsgT, gT, gsCons, gsNil, gN, iSeq, iOne, iRng, iZip, wNeg, wAnd, wOr, wNot, seqD, shs, oIx, oIxA, oIn, inD, wPut, setD, wGet2, wNewD, wYes, noX, dcD, blsD, eqD, shD, toPy, toPyL, PyData.eqv, PyData.eqvAll, SeqAt.shaped, PyData.canLay0, PyData.canLayAll0, PyData.depth, PyData.depthAll, and_assoc, sz1, sz2, sz3, kit_self, lookup_hd, lookup_tl, Int.natCast_inj, show ((0 : Nat) : Int) = 0 from rfl, kb_NoneType_bool, kb_NoneType_int, kb_NoneType_str, kb_NoneType_list, kb_NoneType_tuple, kb_NoneType_dict, kb_bool_bool, kb_bool_int, kb_bool_str, kb_bool_list, kb_bool_tuple, kb_bool_dict, kb_int_bool, kb_int_int, kb_int_str, kb_int_list, kb_int_tuple, kb_int_dict, kb_str_bool, kb_str_int, kb_str_str, kb_str_list, kb_str_tuple, kb_str_dict, kb_list_bool, kb_list_int, kb_list_str, kb_list_list, kb_list_tuple, kb_list_dict, kb_tuple_bool, kb_tuple_int, kb_tuple_str, kb_tuple_list, kb_tuple_tuple, kb_tuple_dict, kb_dict_bool, kb_dict_int, kb_dict_str, kb_dict_list, kb_dict_tuple, kb_dict_dict] using h
    · exact hN _ rfl
  rintro _ rfl
  refine seq_of (fun en => ∃ z2 : Str, z2 ≠ z ∧ nameOk z2 = true ∧ PyData.strOk z2 = true ∧ en = ⟨[some (.sh d0), some (.ow os.length), x2, some (.sh (.str z)), some (.sh (.int c)), some (.sh (.tup [.int a, .int b])), some (.sh (.tup (rws.map rowT))), some (.sh (.int base)), some (.sh (tabD C (z, 2))), some (.sh (worldD C [(z, 2), (z2, 1)] [rws, [[1]]])), some (.sh (splitD C (z, 2) c (a / Nat.gcd a b) (b / Nat.gcd a b))), x11, x12, none, none, x15, x16], os ++ [some p3]⟩) (fun N hN => ?_) ?_
  · unfold wParG
    have main : ∀ (z2 : Str), z2 ≠ z → nameOk z2 = true → PyData.strOk z2 = true → ∀ (ws : WAx) (en : En) (P : R → En → Prop) (PX : PEr), en.os = os ++ [some p3] → (∀ P' : List R → En → Prop, P' [.sh (.lst ([(z, 2), (z2, 1)].map (tabD C))), .sh (.lst [.tup (rws.map rowT), .lst [.tup [.int 1]]])] en → ws en P' PX) →
        P (.fr (worldD C [(z, 2), (z2, 1)] [rws, [[1]]])) en → wMake C.World (Φ_World_init K C) ws en P PX := fun z2 ne ok so ws en P PX eo hws h => by
      refine mk_world (ts := [(z, 2), (z2, 1)]) (wr := [rws, [[1]]]) hws ⟨fun t ht => ?_, ?_, by simp, by simp⟩ ?_ rfl (fun q hq => ?_) ?_
      · simp at ht
        rcases ht with rfl | rfl
        · exact ⟨hz, hso, .inr rfl⟩
        · exact ⟨ok, so, .inl rfl⟩
      · simpa using ne.symm
      · refine .cons ⟨_, rfl, ?_⟩ (.cons ⟨_, rfl, .cons (.inl rfl) .nil⟩ .nil)
        have : ∀ l : List (List Int), Paired rowIs (l.map rowT) l := fun l => by
          induction l with
          | nil => exact .nil
          | cons r l ih => exact .cons (.inl rfl) ih
        exact this rws
      · simp at hq
        rcases hq with rfl | rfl
        · exact ⟨ro, by show rws.length ≤ 20000; omega⟩
        · exact ⟨fun r hr => by simp at hr; subst hr; exact ⟨rfl, fun v hv => by simp at hv; subst hv; omega⟩, by simp⟩
      · have e : [rws, [[1]]].map ordR = [rws, [[1]]] := by simp [ordR_same srt, ordR_same srt1]
        rw [e]; exact h
    have pick : ∃ z2 : Str, z2 ≠ z ∧ nameOk z2 = true ∧ PyData.strOk z2 = true ∧ ∀ (en : En) (P' : R → En → Prop) (PX' : PEr), en.ρ[3]? = some (some (.sh (.str z))) → P' (.sh (.str z2)) en → wIf (wT (w2 (oEq true) (wV 3) (wC (.str ("other" : Str))))) (wC (.str ("other" : Str))) (wC (.str ("its" : Str))) en P' PX' := by
      by_cases ez : z = "other"
      · refine ⟨"its", by rw [ez]; exact other_its.symm, its_ok.1, its_ok.2, fun en P' PX' he h => ?_⟩
        subst ez
        simpa [he, other_ok.2, wRet, wRetN, wAndV, wOrV, wNotV, wF, wCons, wNil, wV, wC, o1, o2, fIsi, fLen, fAll, fInt, fAbs, fII, fTup, fList, fSortA, fSort, wParG, put1, startR, R.fz, R.val, isiD, clsD, clsL, tyD, insOk, bodyPost, wSeq, wNext, wIfS, wT, w2, oAdd, oAddA, wNewT, wCallK, permL, wMakeK, oSub, oI, oIc, oMulW, oDivW, oMod, oPow, oLt, oLe, oGt, oGe, oEq, wIsN, D.isNon, wChain, wIf, wFld, wTup, wLst, shs, wSet, wOwn, wPar, wPar3, wCall, wMake, wMeth, wExpr, wAsgE, geT, geCons, geNil, geF, putD, wAsgT, gT, gsCons, gsNil, gN, iSeq, iOne, iRng, iZip, wNeg, wAnd, wOr, wNot, seqD, shs, oIx, oIxA, oIn, inD, wPut, setD, wGet2, wNewD, wYes, noX, dcD, blsD, eqD, shD, toPy, toPyL, PyData.eqv, PyData.eqvAll, SeqAt.shaped, PyData.canLay0, PyData.canLayAll0, PyData.depth, PyData.depthAll, and_assoc, sz1, sz2, sz3, kit_self, lookup_hd, lookup_tl, Int.natCast_inj, show ((0 : Nat) : Int) = 0 from rfl, kb_NoneType_bool, kb_NoneType_int, kb_NoneType_str, kb_NoneType_list, kb_NoneType_tuple, kb_NoneType_dict, kb_bool_bool, kb_bool_int, kb_bool_str, kb_bool_list, kb_bool_tuple, kb_bool_dict, kb_int_bool, kb_int_int, kb_int_str, kb_int_list, kb_int_tuple, kb_int_dict, kb_str_bool, kb_str_int, kb_str_str, kb_str_list, kb_str_tuple, kb_str_dict, kb_list_bool, kb_list_int, kb_list_str, kb_list_list, kb_list_tuple, kb_list_dict, kb_tuple_bool, kb_tuple_int, kb_tuple_str, kb_tuple_list, kb_tuple_tuple, kb_tuple_dict, kb_dict_bool, kb_dict_int, kb_dict_str, kb_dict_list, kb_dict_tuple, kb_dict_dict] using h
      · refine ⟨"other", fun e => ez e.symm, other_ok.1, other_ok.2, fun en P' PX' he h => ?_⟩
        have e : (z == Str.ofString "other") = false := beq_eq_false_iff_ne.mpr ez
        simpa [he, e, hso, other_ok.2, wRet, wRetN, wAndV, wOrV, wNotV, wF, wCons, wNil, wV, wC, o1, o2, fIsi, fLen, fAll, fInt, fAbs, fII, fTup, fList, fSortA, fSort, wParG, put1, startR, R.fz, R.val, isiD, clsD, clsL, tyD, insOk, bodyPost, wSeq, wNext, wIfS, wT, w2, oAdd, oAddA, wNewT, wCallK, permL, wMakeK, oSub, oI, oIc, oMulW, oDivW, oMod, oPow, oLt, oLe, oGt, oGe, oEq, wIsN, D.isNon, wChain, wIf, wFld, wTup, wLst, shs, wSet, wOwn, wPar, wPar3, wCall, wMake, wMeth, wExpr, wAsgE, geT, geCons, geNil, geF, putD, wAsgT, gT, gsCons, gsNil, gN, iSeq, iOne, iRng, iZip, wNeg, wAnd, wOr, wNot, seqD, shs, oIx, oIxA, oIn, inD, wPut, setD, wGet2, wNewD, wYes, noX, dcD, blsD, eqD, shD, toPy, toPyL, PyData.eqv, PyData.eqvAll, SeqAt.shaped, PyData.canLay0, PyData.canLayAll0, PyData.depth, PyData.depthAll, and_assoc, sz1, sz2, sz3, kit_self, lookup_hd, lookup_tl, Int.natCast_inj, show ((0 : Nat) : Int) = 0 from rfl, kb_NoneType_bool, kb_NoneType_int, kb_NoneType_str, kb_NoneType_list, kb_NoneType_tuple, kb_NoneType_dict, kb_bool_bool, kb_bool_int, kb_bool_str, kb_bool_list, kb_bool_tuple, kb_bool_dict, kb_int_bool, kb_int_int, kb_int_str, kb_int_list, kb_int_tuple, kb_int_dict, kb_str_bool, kb_str_int, kb_str_str, kb_str_list, kb_str_tuple, kb_str_dict, kb_list_bool, kb_list_int, kb_list_str, kb_list_list, kb_list_tuple, kb_list_dict, kb_tuple_bool, kb_tuple_int, kb_tuple_str, kb_tuple_list, kb_tuple_tuple, kb_tuple_dict, kb_dict_bool, kb_dict_int, kb_dict_str, kb_dict_list, kb_dict_tuple, kb_dict_dict] using h
    obtain ⟨z2, hne, ok2, so2, hpick⟩ := pick
    refine main z2 hne ok2 so2 _ _ _ _ rfl (fun P' h => ?_) ?_
    · have hs2 := sz2
      simp [wRet, wRetN, wAndV, wOrV, wNotV, wF, wCons, wNil, wV, wC, o1, o2, fIsi, fLen, fAll, fInt, fAbs, fII, fTup, fList, fSortA, fSort, wParG, put1, startR, R.fz, R.val, isiD, clsD, clsL, tyD, insOk, bodyPost, wSeq, wNext, wIfS, wT, w2, oAdd, oAddA, wNewT, wCallK, permL, wMakeK, oSub, oI, oIc, oMulW, oDivW, oMod, oPow, oLt, oLe, oGt, oGe, oEq, wIsN, D.isNon, wChain, wIf, wFld, wTup, wLst, shs, wSet, wOwn, wPar, wPar3, wCall, wMeth, wExpr, wAsgE, geT, geCons, geNil, geF, putD, wAsgT, gT, gsCons, gsNil, gN, iSeq, iOne, iRng, iZip, wNeg, wAnd, wOr, wNot, seqD, shs, oIx, oIxA, oIn, inD, wPut, setD, wGet2, wNewD, wYes, noX, dcD, blsD, eqD, shD, toPy, toPyL, PyData.eqv, PyData.eqvAll, SeqAt.shaped, PyData.canLay0, PyData.canLayAll0, PyData.depth, PyData.depthAll, and_assoc, sz1, sz2, sz3, kit_self, lookup_hd, lookup_tl, Int.natCast_inj, show ((0 : Nat) : Int) = 0 from rfl, kb_NoneType_bool, kb_NoneType_int, kb_NoneType_str, kb_NoneType_list, kb_NoneType_tuple, kb_NoneType_dict, kb_bool_bool, kb_bool_int, kb_bool_str, kb_bool_list, kb_bool_tuple, kb_bool_dict, kb_int_bool, kb_int_int, kb_int_str, kb_int_list, kb_int_tuple, kb_int_dict, kb_str_bool, kb_str_int, kb_str_str, kb_str_list, kb_str_tuple, kb_str_dict, kb_list_bool, kb_list_int, kb_list_str, kb_list_list, kb_list_tuple, kb_list_dict, kb_tuple_bool, kb_tuple_int, kb_tuple_str, kb_tuple_list, kb_tuple_tuple, kb_tuple_dict, kb_dict_bool, kb_dict_int, kb_dict_str, kb_dict_list, kb_dict_tuple, kb_dict_dict]
      refine mk_table (z := z2) (w := 1) (fun P'' h' => ?_) ok2 (.inl rfl) ?_
      · refine hpick _ _ _ rfl ?_
        simpa [wRet, wRetN, wAndV, wOrV, wNotV, wF, wCons, wNil, wV, wC, o1, o2, fIsi, fLen, fAll, fInt, fAbs, fII, fTup, fList, fSortA, fSort, wParG, put1, startR, R.fz, R.val, isiD, clsD, clsL, tyD, insOk, bodyPost, wSeq, wNext, wIfS, wT, w2, oAdd, oAddA, wNewT, wCallK, permL, wMakeK, oSub, oI, oIc, oMulW, oDivW, oMod, oPow, oLt, oLe, oGt, oGe, oEq, wIsN, D.isNon, wChain, wIf, wFld, wTup, wLst, shs, wSet, wOwn, wPar, wPar3, wCall, wMeth, wExpr, wAsgE, geT, geCons, geNil, geF, putD, wAsgT, gT, gsCons, gsNil, gN, iSeq, iOne, iRng, iZip, wNeg, wAnd, wOr, wNot, seqD, shs, oIx, oIxA, oIn, inD, wPut, setD, wGet2, wNewD, wYes, noX, dcD, blsD, eqD, shD, toPy, toPyL, PyData.eqv, PyData.eqvAll, SeqAt.shaped, PyData.canLay0, PyData.canLayAll0, PyData.depth, PyData.depthAll, and_assoc, sz1, sz2, sz3, kit_self, lookup_hd, lookup_tl, Int.natCast_inj, show ((0 : Nat) : Int) = 0 from rfl, kb_NoneType_bool, kb_NoneType_int, kb_NoneType_str, kb_NoneType_list, kb_NoneType_tuple, kb_NoneType_dict, kb_bool_bool, kb_bool_int, kb_bool_str, kb_bool_list, kb_bool_tuple, kb_bool_dict, kb_int_bool, kb_int_int, kb_int_str, kb_int_list, kb_int_tuple, kb_int_dict, kb_str_bool, kb_str_int, kb_str_str, kb_str_list, kb_str_tuple, kb_str_dict, kb_list_bool, kb_list_int, kb_list_str, kb_list_list, kb_list_tuple, kb_list_dict, kb_tuple_bool, kb_tuple_int, kb_tuple_str, kb_tuple_list, kb_tuple_tuple, kb_tuple_dict, kb_dict_bool, kb_dict_int, kb_dict_str, kb_dict_list, kb_dict_tuple, kb_dict_dict] using h'
      · simpa [wRet, wRetN, wAndV, wOrV, wNotV, wF, wCons, wNil, wV, wC, o1, o2, fIsi, fLen, fAll, fInt, fAbs, fII, fTup, fList, fSortA, fSort, wParG, put1, startR, R.fz, R.val, isiD, clsD, clsL, tyD, insOk, bodyPost, wSeq, wNext, wIfS, wT, w2, oAdd, oAddA, wNewT, wCallK, permL, wMakeK, oSub, oI, oIc, oMulW, oDivW, oMod, oPow, oLt, oLe, oGt, oGe, oEq, wIsN, D.isNon, wChain, wIf, wFld, wTup, wLst, shs, wSet, wOwn, wPar, wPar3, wCall, wMeth, wExpr, wAsgE, geT, geCons, geNil, geF, putD, wAsgT, gT, gsCons, gsNil, gN, iSeq, iOne, iRng, iZip, wNeg, wAnd, wOr, wNot, seqD, shs, oIx, oIxA, oIn, inD, wPut, setD, wGet2, wNewD, wYes, noX, dcD, blsD, eqD, shD, toPy, toPyL, PyData.eqv, PyData.eqvAll, SeqAt.shaped, PyData.canLay0, PyData.canLayAll0, PyData.depth, PyData.depthAll, and_assoc, sz1, sz2, sz3, kit_self, lookup_hd, lookup_tl, Int.natCast_inj, show ((0 : Nat) : Int) = 0 from rfl, kb_NoneType_bool, kb_NoneType_int, kb_NoneType_str, kb_NoneType_list, kb_NoneType_tuple, kb_NoneType_dict, kb_bool_bool, kb_bool_int, kb_bool_str, kb_bool_list, kb_bool_tuple, kb_bool_dict, kb_int_bool, kb_int_int, kb_int_str, kb_int_list, kb_int_tuple, kb_int_dict, kb_str_bool, kb_str_int, kb_str_str, kb_str_list, kb_str_tuple, kb_str_dict, kb_list_bool, kb_list_int, kb_list_str, kb_list_list, kb_list_tuple, kb_list_dict, kb_tuple_bool, kb_tuple_int, kb_tuple_str, kb_tuple_list, kb_tuple_tuple, kb_tuple_dict, kb_dict_bool, kb_dict_int, kb_dict_str, kb_dict_list, kb_dict_tuple, kb_dict_dict] using h
    · simp [wRet, wRetN, wAndV, wOrV, wNotV, wF, wCons, wNil, wV, wC, o1, o2, fIsi, fLen, fAll, fInt, fAbs, fII, fTup, fList, fSortA, fSort, wParG, put1, startR, R.fz, R.val, isiD, clsD, clsL, tyD, insOk, bodyPost, wSeq, wNext, wIfS, wT, w2, oAdd, oAddA, wNewT, wCallK, permL, wMakeK, oSub, oI, oIc, oMulW, oDivW, oMod, oPow, oLt, oLe, oGt, oGe, oEq, wIsN, D.isNon, wChain, wIf, wFld, wTup, wLst, shs, wSet, wOwn, wPar, wPar3, wCall, wMeth, wExpr, wAsgE, geT, geCons, geNil, geF, putD, wAsgT, gT, gsCons, gsNil, gN, iSeq, iOne, iRng, iZip, wNeg, wAnd, wOr, wNot, seqD, shs, oIx, oIxA, oIn, inD, wPut, setD, wGet2, wNewD, wYes, noX, dcD, blsD, eqD, shD, toPy, toPyL, PyData.eqv, PyData.eqvAll, SeqAt.shaped, PyData.canLay0, PyData.canLayAll0, PyData.depth, PyData.depthAll, and_assoc, sz1, sz2, sz3, kit_self, lookup_hd, lookup_tl, Int.natCast_inj, show ((0 : Nat) : Int) = 0 from rfl, kb_NoneType_bool, kb_NoneType_int, kb_NoneType_str, kb_NoneType_list, kb_NoneType_tuple, kb_NoneType_dict, kb_bool_bool, kb_bool_int, kb_bool_str, kb_bool_list, kb_bool_tuple, kb_bool_dict, kb_int_bool, kb_int_int, kb_int_str, kb_int_list, kb_int_tuple, kb_int_dict, kb_str_bool, kb_str_int, kb_str_str, kb_str_list, kb_str_tuple, kb_str_dict, kb_list_bool, kb_list_int, kb_list_str, kb_list_list, kb_list_tuple, kb_list_dict, kb_tuple_bool, kb_tuple_int, kb_tuple_str, kb_tuple_list, kb_tuple_tuple, kb_tuple_dict, kb_dict_bool, kb_dict_int, kb_dict_str, kb_dict_list, kb_dict_tuple, kb_dict_dict]
      refine mk_split (z := z) (c := c) (a := a) (b := b) (fun P' h => ?_) hc ha1 hb1 (by omega) (by omega) ?_
      · simpa [wRet, wRetN, wAndV, wOrV, wNotV, wF, wCons, wNil, wV, wC, o1, o2, fIsi, fLen, fAll, fInt, fAbs, fII, fTup, fList, fSortA, fSort, wParG, put1, startR, R.fz, R.val, isiD, clsD, clsL, tyD, insOk, bodyPost, wSeq, wNext, wIfS, wT, w2, oAdd, oAddA, wNewT, wCallK, permL, wMakeK, oSub, oI, oIc, oMulW, oDivW, oMod, oPow, oLt, oLe, oGt, oGe, oEq, wIsN, D.isNon, wChain, wIf, wFld, wTup, wLst, shs, wSet, wOwn, wPar, wPar3, wCall, wMeth, wExpr, wAsgE, geT, geCons, geNil, geF, putD, wAsgT, gT, gsCons, gsNil, gN, iSeq, iOne, iRng, iZip, wNeg, wAnd, wOr, wNot, seqD, shs, oIx, oIxA, oIn, inD, wPut, setD, wGet2, wNewD, wYes, noX, dcD, blsD, eqD, shD, toPy, toPyL, PyData.eqv, PyData.eqvAll, SeqAt.shaped, PyData.canLay0, PyData.canLayAll0, PyData.depth, PyData.depthAll, and_assoc, sz1, sz2, sz3, kit_self, lookup_hd, lookup_tl, Int.natCast_inj, show ((0 : Nat) : Int) = 0 from rfl, kb_NoneType_bool, kb_NoneType_int, kb_NoneType_str, kb_NoneType_list, kb_NoneType_tuple, kb_NoneType_dict, kb_bool_bool, kb_bool_int, kb_bool_str, kb_bool_list, kb_bool_tuple, kb_bool_dict, kb_int_bool, kb_int_int, kb_int_str, kb_int_list, kb_int_tuple, kb_int_dict, kb_str_bool, kb_str_int, kb_str_str, kb_str_list, kb_str_tuple, kb_str_dict, kb_list_bool, kb_list_int, kb_list_str, kb_list_list, kb_list_tuple, kb_list_dict, kb_tuple_bool, kb_tuple_int, kb_tuple_str, kb_tuple_list, kb_tuple_tuple, kb_tuple_dict, kb_dict_bool, kb_dict_int, kb_dict_str, kb_dict_list, kb_dict_tuple, kb_dict_dict] using h
      · simpa [wRet, wRetN, wAndV, wOrV, wNotV, wF, wCons, wNil, wV, wC, o1, o2, fIsi, fLen, fAll, fInt, fAbs, fII, fTup, fList, fSortA, fSort, wParG, put1, startR, R.fz, R.val, isiD, clsD, clsL, tyD, insOk, bodyPost, wSeq, wNext, wIfS, wT, w2, oAdd, oAddA, wNewT, wCallK, permL, wMakeK, oSub, oI, oIc, oMulW, oDivW, oMod, oPow, oLt, oLe, oGt, oGe, oEq, wIsN, D.isNon, wChain, wIf, wFld, wTup, wLst, shs, wSet, wOwn, wPar, wPar3, wCall, wMeth, wExpr, wAsgE, geT, geCons, geNil, geF, putD, wAsgT, gT, gsCons, gsNil, gN, iSeq, iOne, iRng, iZip, wNeg, wAnd, wOr, wNot, seqD, shs, oIx, oIxA, oIn, inD, wPut, setD, wGet2, wNewD, wYes, noX, dcD, blsD, eqD, shD, toPy, toPyL, PyData.eqv, PyData.eqvAll, SeqAt.shaped, PyData.canLay0, PyData.canLayAll0, PyData.depth, PyData.depthAll, and_assoc, sz1, sz2, sz3, kit_self, lookup_hd, lookup_tl, Int.natCast_inj, show ((0 : Nat) : Int) = 0 from rfl, kb_NoneType_bool, kb_NoneType_int, kb_NoneType_str, kb_NoneType_list, kb_NoneType_tuple, kb_NoneType_dict, kb_bool_bool, kb_bool_int, kb_bool_str, kb_bool_list, kb_bool_tuple, kb_bool_dict, kb_int_bool, kb_int_int, kb_int_str, kb_int_list, kb_int_tuple, kb_int_dict, kb_str_bool, kb_str_int, kb_str_str, kb_str_list, kb_str_tuple, kb_str_dict, kb_list_bool, kb_list_int, kb_list_str, kb_list_list, kb_list_tuple, kb_list_dict, kb_tuple_bool, kb_tuple_int, kb_tuple_str, kb_tuple_list, kb_tuple_tuple, kb_tuple_dict, kb_dict_bool, kb_dict_int, kb_dict_str, kb_dict_list, kb_dict_tuple, kb_dict_dict] using hN _ ⟨z2, hne, ok2, so2, rfl⟩
  rintro _ ⟨z2, hne, ok2, so2, rfl⟩
  have allS : ∀ t ∈ [(z, (2 : Int)), (z2, 1)], PyData.strOk t.1 = true := fun t ht => by
    simp at ht
    rcases ht with rfl | rfl
    · exact hso
    · exact so2
  have nds : ([(z, (2 : Int)), (z2, 1)].map (·.1)).Nodup := by simpa using hne.symm
  have g1 : a / Nat.gcd a b ≤ 9999 := Nat.le_trans (Nat.div_le_self ..) (by omega)
  have g2 : b / Nat.gcd a b ≤ 9999 := Nat.le_trans (Nat.div_le_self ..) (by omega)
  have part : ∀ (os2 : Os) (P2 : R → Os → Prop) (PX2 : Er → Os → Prop), P2 (.sh (manyD [rws.filter (lightR rws c a b base), rws.filter fun r => !lightR rws c a b base r])) os2 →
      Φ_parted K C [.sh (worldD C [(z, 2), (z2, 1)] [rws, [[1]]]), .sh (splitD C (z, 2) c (a / Nat.gcd a b) (b / Nat.gcd a b)), .sh (.int base)] os2 P2 PX2 := fun os2 P2 PX2 h => by
    refine ⟨_, _, 0, rws, (z, 2), c, _, _, base, rfl, rfl, nds, allS, rfl, h2, hc, by omega, g1, g2, hb1', hb2', ?_⟩
    have e : lightR rws c (a / Nat.gcd a b) (b / Nat.gcd a b) base = lightR rws c a b base := funext fun r => low_parts ha1 hb1 rws c base r
    rw [e]
    exact h
  have shL : Shown (rws.filter (lightR rws c a b base)) := fun r hr => sho r (List.mem_filter.mp hr).1
  have shH : Shown (rws.filter fun r => !lightR rws c a b base r) := fun r hr => sho r (List.mem_filter.mp hr).1
  have shB : ∀ q ∈ [rws.filter (lightR rws c a b base), rws.filter fun r => !lightR rws c a b base r], Shown q := fun q hq => by
    simp at hq
    rcases hq with rfl | rfl
    · exact shL
    · exact shH
  have lL : (rws.filter (lightR rws c a b base)).length ≤ 40 := Nat.le_trans (List.length_filter_le ..) hlen
  have lH : (rws.filter fun r => !lightR rws c a b base r).length ≤ 40 := Nat.le_trans (List.length_filter_le ..) hlen
  have rep : ReprOk (manyD [rws.filter (lightR rws c a b base), rws.filter fun r => !lightR rws c a b base r]) := reprOk_many shB (by simp; omega) (by simp)
  have same := same_many shB
  have so := strOk_many [rws.filter (lightR rws c a b base), rws.filter fun r => !lightR rws c a b base r]
  refine seq_of (fun en => en = ⟨[some (.sh d0), some (.ow os.length), x2, some (.sh (.str z)), some (.sh (.int c)), some (.sh (.tup [.int a, .int b])), some (.sh (.tup (rws.map rowT))), some (.sh (.int base)), some (.sh (tabD C (z, 2))), some (.sh (worldD C [(z, 2), (z2, 1)] [rws, [[1]]])), some (.sh (splitD C (z, 2) c (a / Nat.gcd a b) (b / Nat.gcd a b))), some (.sh (manyD [rws.filter (lightR rws c a b base), rws.filter fun r => !lightR rws c a b base r])), some (.sh (manyD [rws.filter (lightR rws c a b base), rws.filter fun r => !lightR rws c a b base r])), none, none, x15, x16], os ++ [some p3]⟩) (fun N hN => ?_) ?_
  · have hs2 := sz2
    simp [wRet, wRetN, wAndV, wOrV, wNotV, wF, wCons, wNil, wV, wC, o1, o2, fIsi, fLen, fAll, fInt, fAbs, fII, fTup, fList, fSortA, fSort, wParG, put1, startR, R.fz, R.val, isiD, clsD, clsL, tyD, insOk, bodyPost, wSeq, wNext, wIfS, wT, w2, oAdd, oAddA, wNewT, wCallK, permL, wMakeK, oSub, oI, oIc, oMulW, oDivW, oMod, oPow, oLt, oLe, oGt, oGe, oEq, wIsN, D.isNon, wChain, wIf, wFld, wTup, wLst, shs, wSet, wOwn, wPar, wPar3, wCall, wMeth, wExpr, wAsgE, geT, geCons, geNil, geF, putD, wAsgT, gT, gsCons, gsNil, gN, iSeq, iOne, iRng, iZip, wNeg, wAnd, wOr, wNot, seqD, shs, oIx, oIxA, oIn, inD, wPut, setD, wGet2, wNewD, wYes, noX, dcD, blsD, eqD, shD, toPy, toPyL, PyData.eqv, PyData.eqvAll, SeqAt.shaped, PyData.canLay0, PyData.canLayAll0, PyData.depth, PyData.depthAll, and_assoc, sz1, sz2, sz3, kit_self, lookup_hd, lookup_tl, Int.natCast_inj, show ((0 : Nat) : Int) = 0 from rfl, kb_NoneType_bool, kb_NoneType_int, kb_NoneType_str, kb_NoneType_list, kb_NoneType_tuple, kb_NoneType_dict, kb_bool_bool, kb_bool_int, kb_bool_str, kb_bool_list, kb_bool_tuple, kb_bool_dict, kb_int_bool, kb_int_int, kb_int_str, kb_int_list, kb_int_tuple, kb_int_dict, kb_str_bool, kb_str_int, kb_str_str, kb_str_list, kb_str_tuple, kb_str_dict, kb_list_bool, kb_list_int, kb_list_str, kb_list_list, kb_list_tuple, kb_list_dict, kb_tuple_bool, kb_tuple_int, kb_tuple_str, kb_tuple_list, kb_tuple_tuple, kb_tuple_dict, kb_dict_bool, kb_dict_int, kb_dict_str, kb_dict_list, kb_dict_tuple, kb_dict_dict]
    refine ⟨rws, c, a, b, base, rfl, srt, ro, hc, by omega, by omega, by omega, hb2', ?_⟩
    simp [wRet, wRetN, wAndV, wOrV, wNotV, wF, wCons, wNil, wV, wC, o1, o2, fIsi, fLen, fAll, fInt, fAbs, fII, fTup, fList, fSortA, fSort, wParG, put1, startR, R.fz, R.val, isiD, clsD, clsL, tyD, insOk, bodyPost, wSeq, wNext, wIfS, wT, w2, oAdd, oAddA, wNewT, wCallK, permL, wMakeK, oSub, oI, oIc, oMulW, oDivW, oMod, oPow, oLt, oLe, oGt, oGe, oEq, wIsN, D.isNon, wChain, wIf, wFld, wTup, wLst, shs, wSet, wOwn, wPar, wPar3, wCall, wMeth, wExpr, wAsgE, geT, geCons, geNil, geF, putD, wAsgT, gT, gsCons, gsNil, gN, iSeq, iOne, iRng, iZip, wNeg, wAnd, wOr, wNot, seqD, shs, oIx, oIxA, oIn, inD, wPut, setD, wGet2, wNewD, wYes, noX, dcD, blsD, eqD, shD, toPy, toPyL, PyData.eqv, PyData.eqvAll, SeqAt.shaped, PyData.canLay0, PyData.canLayAll0, PyData.depth, PyData.depthAll, and_assoc, sz1, sz2, sz3, kit_self, lookup_hd, lookup_tl, Int.natCast_inj, show ((0 : Nat) : Int) = 0 from rfl, kb_NoneType_bool, kb_NoneType_int, kb_NoneType_str, kb_NoneType_list, kb_NoneType_tuple, kb_NoneType_dict, kb_bool_bool, kb_bool_int, kb_bool_str, kb_bool_list, kb_bool_tuple, kb_bool_dict, kb_int_bool, kb_int_int, kb_int_str, kb_int_list, kb_int_tuple, kb_int_dict, kb_str_bool, kb_str_int, kb_str_str, kb_str_list, kb_str_tuple, kb_str_dict, kb_list_bool, kb_list_int, kb_list_str, kb_list_list, kb_list_tuple, kb_list_dict, kb_tuple_bool, kb_tuple_int, kb_tuple_str, kb_tuple_list, kb_tuple_tuple, kb_tuple_dict, kb_dict_bool, kb_dict_int, kb_dict_str, kb_dict_list, kb_dict_tuple, kb_dict_dict]
    refine part _ _ _ ?_
    simpa [manyD, wRet, wRetN, wAndV, wOrV, wNotV, wF, wCons, wNil, wV, wC, o1, o2, fIsi, fLen, fAll, fInt, fAbs, fII, fTup, fList, fSortA, fSort, wParG, put1, startR, R.fz, R.val, isiD, clsD, clsL, tyD, insOk, bodyPost, wSeq, wNext, wIfS, wT, w2, oAdd, oAddA, wNewT, wCallK, permL, wMakeK, oSub, oI, oIc, oMulW, oDivW, oMod, oPow, oLt, oLe, oGt, oGe, oEq, wIsN, D.isNon, wChain, wIf, wFld, wTup, wLst, shs, wSet, wOwn, wPar, wPar3, wCall, wMeth, wExpr, wAsgE, geT, geCons, geNil, geF, putD, wAsgT, gT, gsCons, gsNil, gN, iSeq, iOne, iRng, iZip, wNeg, wAnd, wOr, wNot, seqD, shs, oIx, oIxA, oIn, inD, wPut, setD, wGet2, wNewD, wYes, noX, dcD, blsD, eqD, shD, toPy, toPyL, PyData.eqv, PyData.eqvAll, SeqAt.shaped, PyData.canLay0, PyData.canLayAll0, PyData.depth, PyData.depthAll, and_assoc, sz1, sz2, sz3, kit_self, lookup_hd, lookup_tl, Int.natCast_inj, show ((0 : Nat) : Int) = 0 from rfl, kb_NoneType_bool, kb_NoneType_int, kb_NoneType_str, kb_NoneType_list, kb_NoneType_tuple, kb_NoneType_dict, kb_bool_bool, kb_bool_int, kb_bool_str, kb_bool_list, kb_bool_tuple, kb_bool_dict, kb_int_bool, kb_int_int, kb_int_str, kb_int_list, kb_int_tuple, kb_int_dict, kb_str_bool, kb_str_int, kb_str_str, kb_str_list, kb_str_tuple, kb_str_dict, kb_list_bool, kb_list_int, kb_list_str, kb_list_list, kb_list_tuple, kb_list_dict, kb_tuple_bool, kb_tuple_int, kb_tuple_str, kb_tuple_list, kb_tuple_tuple, kb_tuple_dict, kb_dict_bool, kb_dict_int, kb_dict_str, kb_dict_list, kb_dict_tuple, kb_dict_dict] using hN _ rfl
  rintro _ rfl
  refine seq_of (fun en => en = ⟨[some (.sh d0), some (.ow os.length), x2, some (.sh (.str z)), some (.sh (.int c)), some (.sh (.tup [.int a, .int b])), some (.sh (.tup (rws.map rowT))), some (.sh (.int base)), some (.sh (tabD C (z, 2))), some (.sh (worldD C [(z, 2), (z2, 1)] [rws, [[1]]])), some (.sh (splitD C (z, 2) c (a / Nat.gcd a b) (b / Nat.gcd a b))), some (.sh (manyD [rws.filter (lightR rws c a b base), rws.filter fun r => !lightR rws c a b base r])), some (.sh (manyD [rws.filter (lightR rws c a b base), rws.filter fun r => !lightR rws c a b base r])), none, none, x15, x16], os ++ [some p3]⟩) (fun N hN => ?_) ?_
  · generalize hT : manyD [rws.filter (lightR rws c a b base), rws.filter fun r => !lightR rws c a b base r] = T2 at rep same part hN so ⊢
    obtain ⟨hs1, hs2⟩ := same_str so
    obtain ⟨hs3, hs4⟩ := same
    simp [hs1, hs2, so, rep, fRepr, wRet, wRetN, wAndV, wOrV, wNotV, wF, wCons, wNil, wV, wC, o1, o2, fIsi, fLen, fAll, fInt, fAbs, fII, fTup, fList, fSortA, fSort, wParG, put1, startR, R.fz, R.val, isiD, clsD, clsL, tyD, insOk, bodyPost, wSeq, wNext, wIfS, wT, w2, oAdd, oAddA, wNewT, wCallK, permL, wMakeK, oSub, oI, oIc, oMulW, oDivW, oMod, oPow, oLt, oLe, oGt, oGe, oEq, wIsN, D.isNon, wChain, wIf, wFld, wTup, wLst, shs, wSet, wOwn, wPar, wPar3, wCall, wMeth, wExpr, wAsgE, geT, geCons, geNil, geF, putD, wAsgT, gT, gsCons, gsNil, gN, iSeq, iOne, iRng, iZip, wNeg, wAnd, wOr, wNot, seqD, shs, oIx, oIxA, oIn, inD, wPut, setD, wGet2, wNewD, wYes, noX, dcD, blsD, eqD, shD, toPy, toPyL, PyData.eqv, PyData.eqvAll, SeqAt.shaped, PyData.canLay0, PyData.canLayAll0, PyData.depth, PyData.depthAll, and_assoc, sz1, sz2, sz3, kit_self, lookup_hd, lookup_tl, Int.natCast_inj, show ((0 : Nat) : Int) = 0 from rfl, kb_NoneType_bool, kb_NoneType_int, kb_NoneType_str, kb_NoneType_list, kb_NoneType_tuple, kb_NoneType_dict, kb_bool_bool, kb_bool_int, kb_bool_str, kb_bool_list, kb_bool_tuple, kb_bool_dict, kb_int_bool, kb_int_int, kb_int_str, kb_int_list, kb_int_tuple, kb_int_dict, kb_str_bool, kb_str_int, kb_str_str, kb_str_list, kb_str_tuple, kb_str_dict, kb_list_bool, kb_list_int, kb_list_str, kb_list_list, kb_list_tuple, kb_list_dict, kb_tuple_bool, kb_tuple_int, kb_tuple_str, kb_tuple_list, kb_tuple_tuple, kb_tuple_dict, kb_dict_bool, kb_dict_int, kb_dict_str, kb_dict_list, kb_dict_tuple, kb_dict_dict]
    refine part _ _ _ ?_
    simp only [eqD] at hs4
    simp only [SeqAt.shaped, Bool.and_eq_true, decide_eq_true_eq] at hs3
    simpa [hs4, hs3.1, hs3.2, wRet, wRetN, wAndV, wOrV, wNotV, wF, wCons, wNil, wV, wC, o1, o2, fIsi, fLen, fAll, fInt, fAbs, fII, fTup, fList, fSortA, fSort, wParG, put1, startR, R.fz, R.val, isiD, clsD, clsL, tyD, insOk, bodyPost, wSeq, wNext, wIfS, wT, w2, oAdd, oAddA, wNewT, wCallK, permL, wMakeK, oSub, oI, oIc, oMulW, oDivW, oMod, oPow, oLt, oLe, oGt, oGe, oEq, wIsN, D.isNon, wChain, wIf, wFld, wTup, wLst, shs, wSet, wOwn, wPar, wPar3, wCall, wMeth, wExpr, wAsgE, geT, geCons, geNil, geF, putD, wAsgT, gT, gsCons, gsNil, gN, iSeq, iOne, iRng, iZip, wNeg, wAnd, wOr, wNot, seqD, shs, oIx, oIxA, oIn, inD, wPut, setD, wGet2, wNewD, wYes, noX, dcD, blsD, eqD, shD, toPy, toPyL, PyData.eqv, PyData.eqvAll, SeqAt.shaped, PyData.canLay0, PyData.canLayAll0, PyData.depth, PyData.depthAll, and_assoc, sz1, sz2, sz3, kit_self, lookup_hd, lookup_tl, Int.natCast_inj, show ((0 : Nat) : Int) = 0 from rfl, kb_NoneType_bool, kb_NoneType_int, kb_NoneType_str, kb_NoneType_list, kb_NoneType_tuple, kb_NoneType_dict, kb_bool_bool, kb_bool_int, kb_bool_str, kb_bool_list, kb_bool_tuple, kb_bool_dict, kb_int_bool, kb_int_int, kb_int_str, kb_int_list, kb_int_tuple, kb_int_dict, kb_str_bool, kb_str_int, kb_str_str, kb_str_list, kb_str_tuple, kb_str_dict, kb_list_bool, kb_list_int, kb_list_str, kb_list_list, kb_list_tuple, kb_list_dict, kb_tuple_bool, kb_tuple_int, kb_tuple_str, kb_tuple_list, kb_tuple_tuple, kb_tuple_dict, kb_dict_bool, kb_dict_int, kb_dict_str, kb_dict_list, kb_dict_tuple, kb_dict_dict] using hN _ rfl
  rintro _ rfl
  obtain ⟨hr3, hr4⟩ := same_rows sho
  have perm : (rws.filter (lightR rws c a b base) ++ rws.filter fun r => !lightR rws c a b base r).Perm rws := List.filter_append_perm _ _
  have colL : ∀ r ∈ rws.filter (lightR rws c a b base), cnt rws c (r.getD c 0) ^ b ≤ base ^ a := fun r hr => by
    have := (List.mem_filter.mp hr).2
    simpa [lightR] using this
  have colH : ∀ r ∈ rws.filter fun r => !lightR rws c a b base r, ¬ cnt rws c (r.getD c 0) ^ b ≤ base ^ a := fun r hr => by
    have := (List.mem_filter.mp hr).2
    simpa [lightR] using this
  have colR : ∀ r ∈ rws, cnt rws c (r.getD c 0) ^ b ≤ base ^ a → r ∈ rws.filter (lightR rws c a b base) := fun r hr h => List.mem_filter.mpr ⟨hr, by simpa [lightR] using h⟩
  have mL : ∀ r ∈ rws.filter (lightR rws c a b base), r ∈ rws := fun r hr => (List.mem_filter.mp hr).1
  have mH : ∀ r ∈ (rws.filter fun r => !lightR rws c a b base r), r ∈ rws := fun r hr => (List.mem_filter.mp hr).1
  clear part rep same so shB shL shH
  generalize hL : rws.filter (lightR rws c a b base) = L at *
  generalize hH : (rws.filter fun r => !lightR rws c a b base r) = H at *
  clear hL hH
  refine seq_of (fun en => en = ⟨[some (.sh d0), some (.ow os.length), x2, some (.sh (.str z)), some (.sh (.int c)), some (.sh (.tup [.int a, .int b])), some (.sh (.tup (rws.map rowT))), some (.sh (.int base)), some (.sh (tabD C (z, 2))), some (.sh (worldD C [(z, 2), (z2, 1)] [rws, [[1]]])), some (.sh (splitD C (z, 2) c (a / Nat.gcd a b) (b / Nat.gcd a b))), some (.sh (manyD [L, H])), some (.sh (manyD [L, H])), none, none, x15, x16], os ++ [some p3]⟩) (fun N hN => ?_) ?_
  · have sok : SortOk ((L ++ H).map rowT) := sortOk_rows (fun r hr => ro r (perm.mem_iff.mp hr)) (by omega) (by rw [perm.length_eq]; omega)
    have ss := sort_perm perm srt
    have ll : (L.map rowT).length + (H.map rowT).length ≤ sizeLine := by
      rw [List.length_map, List.length_map, sizeLine_eq]; omega
    have hr3' : PyData.canLayAll0 (toPyL (rws.map rowT)) = true ∧ PyData.depthAll (toPyL (rws.map rowT)) ≤ 63 := by
      simpa [SeqAt.shaped, toPy, PyData.canLay0, PyData.depth] using hr3
    have hr4' : PyData.eqvAll (toPyL (rws.map rowT)) (toPyL (rws.map rowT)) = true := by
      simpa [eqD, toPy, PyData.eqv] using hr4
    rw [List.map_append] at sok ss
    have a0 : ∀ x y : D, atI [x, y] 0 = some x := fun _ _ => rfl
    have a1 : ∀ x y : D, atI [x, y] 1 = some y := fun _ _ => rfl
    simp only [List.length_map] at ll
    simp [manyD, a0, a1, ll, sok, ss, hr3', hr4', wRet, wRetN, wAndV, wOrV, wNotV, wF, wCons, wNil, wV, wC, o1, o2, fIsi, fLen, fAll, fInt, fAbs, fII, fTup, fList, fSortA, fSort, wParG, put1, startR, R.fz, R.val, isiD, clsD, clsL, tyD, insOk, bodyPost, wSeq, wNext, wIfS, wT, w2, oAdd, oAddA, wNewT, wCallK, permL, wMakeK, oSub, oI, oIc, oMulW, oDivW, oMod, oPow, oLt, oLe, oGt, oGe, oEq, wIsN, D.isNon, wChain, wIf, wFld, wTup, wLst, shs, wSet, wOwn, wPar, wPar3, wCall, wMeth, wExpr, wAsgE, geT, geCons, geNil, geF, putD, wAsgT, gT, gsCons, gsNil, gN, iSeq, iOne, iRng, iZip, wNeg, wAnd, wOr, wNot, seqD, shs, oIx, oIxA, oIn, wPut, setD, wGet2, wNewD, wYes, noX, dcD, blsD, eqD, shD, toPy, toPyL, PyData.eqv, PyData.eqvAll, SeqAt.shaped, PyData.canLay0, PyData.canLayAll0, PyData.depth, PyData.depthAll, and_assoc, sz1, sz2, sz3, kit_self, lookup_hd, lookup_tl, Int.natCast_inj, show ((0 : Nat) : Int) = 0 from rfl, kb_NoneType_bool, kb_NoneType_int, kb_NoneType_str, kb_NoneType_list, kb_NoneType_tuple, kb_NoneType_dict, kb_bool_bool, kb_bool_int, kb_bool_str, kb_bool_list, kb_bool_tuple, kb_bool_dict, kb_int_bool, kb_int_int, kb_int_str, kb_int_list, kb_int_tuple, kb_int_dict, kb_str_bool, kb_str_int, kb_str_str, kb_str_list, kb_str_tuple, kb_str_dict, kb_list_bool, kb_list_int, kb_list_str, kb_list_list, kb_list_tuple, kb_list_dict, kb_tuple_bool, kb_tuple_int, kb_tuple_str, kb_tuple_list, kb_tuple_tuple, kb_tuple_dict, kb_dict_bool, kb_dict_int, kb_dict_str, kb_dict_list, kb_dict_tuple, kb_dict_dict]
    simp only [wLc, iSeq, w2, wV, wC]
    simp [a0, wipeR, restR, wRet, wRetN, wAndV, wOrV, wNotV, wF, wCons, wNil, wV, wC, o1, o2, fIsi, fLen, fAll, fInt, fAbs, fII, fTup, fList, fSortA, fSort, wParG, put1, startR, R.fz, R.val, isiD, clsD, clsL, tyD, insOk, bodyPost, wSeq, wNext, wIfS, wT, w2, oAdd, oAddA, wNewT, wCallK, permL, wMakeK, oSub, oI, oIc, oMulW, oDivW, oMod, oPow, oLt, oLe, oGt, oGe, oEq, wIsN, D.isNon, wChain, wIf, wFld, wTup, wLst, shs, wSet, wOwn, wPar, wPar3, wCall, wMeth, wExpr, wAsgE, geT, geCons, geNil, geF, putD, wAsgT, gT, gsCons, gsNil, gN, iSeq, iOne, iRng, iZip, wNeg, wAnd, wOr, wNot, seqD, shs, oIx, oIxA, oIn, wPut, setD, wGet2, wNewD, wYes, noX, dcD, blsD, eqD, shD, toPy, toPyL, PyData.eqv, PyData.eqvAll, SeqAt.shaped, PyData.canLay0, PyData.canLayAll0, PyData.depth, PyData.depthAll, and_assoc, sz1, sz2, sz3, kit_self, lookup_hd, lookup_tl, Int.natCast_inj, show ((0 : Nat) : Int) = 0 from rfl, kb_NoneType_bool, kb_NoneType_int, kb_NoneType_str, kb_NoneType_list, kb_NoneType_tuple, kb_NoneType_dict, kb_bool_bool, kb_bool_int, kb_bool_str, kb_bool_list, kb_bool_tuple, kb_bool_dict, kb_int_bool, kb_int_int, kb_int_str, kb_int_list, kb_int_tuple, kb_int_dict, kb_str_bool, kb_str_int, kb_str_str, kb_str_list, kb_str_tuple, kb_str_dict, kb_list_bool, kb_list_int, kb_list_str, kb_list_list, kb_list_tuple, kb_list_dict, kb_tuple_bool, kb_tuple_int, kb_tuple_str, kb_tuple_list, kb_tuple_tuple, kb_tuple_dict, kb_dict_bool, kb_dict_int, kb_dict_str, kb_dict_list, kb_dict_tuple, kb_dict_dict]
    refine lcL_fm (p := fun _ => false) (f := id) rfl _ _ (fun d hd P PX h => ?_) (fun d hd no => Bool.noConfusion no) ?_
    · obtain ⟨r, hr, rfl⟩ := List.mem_map.mp hd
      have e1 := at_row (h2 r (mL r hr)) hc
      have g := in_col (r.getD c 0) H c
      have g2 : decide (∃ x ∈ H, x.getD c 0 = r.getD c 0) = false := decide_eq_false fun ⟨x, hx, ex⟩ => colH x hx (by rw [ex]; exact colL r hr)
      rw [g2] at g
      simp only [rowT] at h ⊢
      generalize r.getD c 0 = v at e1 g
      simp only [wLc, iSeq, w2, wV, wC, wT]
      simp [e1, a1, wipeR, restR, wRet, wRetN, wAndV, wOrV, wNotV, wF, wCons, wNil, wV, wC, o1, o2, fIsi, fLen, fAll, fInt, fAbs, fII, fTup, fList, fSortA, fSort, wParG, put1, startR, R.fz, R.val, isiD, clsD, clsL, tyD, insOk, bodyPost, wSeq, wNext, wIfS, wT, w2, oAdd, oAddA, wNewT, wCallK, permL, wMakeK, oSub, oI, oIc, oMulW, oDivW, oMod, oPow, oLt, oLe, oGt, oGe, oEq, wIsN, D.isNon, wChain, wIf, wFld, wTup, wLst, shs, wSet, wOwn, wPar, wPar3, wCall, wMeth, wExpr, wAsgE, geT, geCons, geNil, geF, putD, wAsgT, gT, gsCons, gsNil, gN, iSeq, iOne, iRng, iZip, wNeg, wAnd, wOr, wNot, seqD, shs, oIx, oIxA, oIn, wPut, setD, wGet2, wNewD, wYes, noX, dcD, blsD, eqD, shD, toPy, toPyL, PyData.eqv, PyData.eqvAll, SeqAt.shaped, PyData.canLay0, PyData.canLayAll0, PyData.depth, PyData.depthAll, and_assoc, sz1, sz2, sz3, kit_self, lookup_hd, lookup_tl, Int.natCast_inj, show ((0 : Nat) : Int) = 0 from rfl, kb_NoneType_bool, kb_NoneType_int, kb_NoneType_str, kb_NoneType_list, kb_NoneType_tuple, kb_NoneType_dict, kb_bool_bool, kb_bool_int, kb_bool_str, kb_bool_list, kb_bool_tuple, kb_bool_dict, kb_int_bool, kb_int_int, kb_int_str, kb_int_list, kb_int_tuple, kb_int_dict, kb_str_bool, kb_str_int, kb_str_str, kb_str_list, kb_str_tuple, kb_str_dict, kb_list_bool, kb_list_int, kb_list_str, kb_list_list, kb_list_tuple, kb_list_dict, kb_tuple_bool, kb_tuple_int, kb_tuple_str, kb_tuple_list, kb_tuple_tuple, kb_tuple_dict, kb_dict_bool, kb_dict_int, kb_dict_str, kb_dict_list, kb_dict_tuple, kb_dict_dict]
      refine col_lc (c := c) (fun r hr => h2 r (mH r hr)) hc rfl (fun _ => rfl) (fun _ => rfl) ?_
      generalize (H.map fun r => D.int (r.getD c 0)) = q at g ⊢
      simp [g, wRet, wRetN, wAndV, wOrV, wNotV, wF, wCons, wNil, wV, wC, o1, o2, fIsi, fLen, fAll, fInt, fAbs, fII, fTup, fList, fSortA, fSort, wParG, put1, startR, R.fz, R.val, isiD, clsD, clsL, tyD, insOk, bodyPost, wSeq, wNext, wIfS, wT, w2, oAdd, oAddA, wNewT, wCallK, permL, wMakeK, oSub, oI, oIc, oMulW, oDivW, oMod, oPow, oLt, oLe, oGt, oGe, oEq, wIsN, D.isNon, wChain, wIf, wFld, wTup, wLst, shs, wSet, wOwn, wPar, wPar3, wCall, wMeth, wExpr, wAsgE, geT, geCons, geNil, geF, putD, wAsgT, gT, gsCons, gsNil, gN, iSeq, iOne, iRng, iZip, wNeg, wAnd, wOr, wNot, seqD, shs, oIx, oIxA, oIn, wPut, setD, wGet2, wNewD, wYes, noX, dcD, blsD, eqD, shD, toPy, toPyL, PyData.eqv, PyData.eqvAll, SeqAt.shaped, PyData.canLay0, PyData.canLayAll0, PyData.depth, PyData.depthAll, and_assoc, sz1, sz2, sz3, kit_self, lookup_hd, lookup_tl, Int.natCast_inj, show ((0 : Nat) : Int) = 0 from rfl, kb_NoneType_bool, kb_NoneType_int, kb_NoneType_str, kb_NoneType_list, kb_NoneType_tuple, kb_NoneType_dict, kb_bool_bool, kb_bool_int, kb_bool_str, kb_bool_list, kb_bool_tuple, kb_bool_dict, kb_int_bool, kb_int_int, kb_int_str, kb_int_list, kb_int_tuple, kb_int_dict, kb_str_bool, kb_str_int, kb_str_str, kb_str_list, kb_str_tuple, kb_str_dict, kb_list_bool, kb_list_int, kb_list_str, kb_list_list, kb_list_tuple, kb_list_dict, kb_tuple_bool, kb_tuple_int, kb_tuple_str, kb_tuple_list, kb_tuple_tuple, kb_tuple_dict, kb_dict_bool, kb_dict_int, kb_dict_str, kb_dict_list, kb_dict_tuple, kb_dict_dict]
      simpa [rowT, manyD] using h
    · have ef : ∀ l : List D, l.filter (fun _ => false) = [] := fun l => by simp
      simpa [ef, manyD, wRet, wRetN, wAndV, wOrV, wNotV, wF, wCons, wNil, wV, wC, o1, o2, fIsi, fLen, fAll, fInt, fAbs, fII, fTup, fList, fSortA, fSort, wParG, put1, startR, R.fz, R.val, isiD, clsD, clsL, tyD, insOk, bodyPost, wSeq, wNext, wIfS, wT, w2, oAdd, oAddA, wNewT, wCallK, permL, wMakeK, oSub, oI, oIc, oMulW, oDivW, oMod, oPow, oLt, oLe, oGt, oGe, oEq, wIsN, D.isNon, wChain, wIf, wFld, wTup, wLst, shs, wSet, wOwn, wPar, wPar3, wCall, wMeth, wExpr, wAsgE, geT, geCons, geNil, geF, putD, wAsgT, gT, gsCons, gsNil, gN, iSeq, iOne, iRng, iZip, wNeg, wAnd, wOr, wNot, seqD, shs, oIx, oIxA, oIn, inD, wPut, setD, wGet2, wNewD, wYes, noX, dcD, blsD, eqD, shD, toPy, toPyL, PyData.eqv, PyData.eqvAll, SeqAt.shaped, PyData.canLay0, PyData.canLayAll0, PyData.depth, PyData.depthAll, and_assoc, sz1, sz2, sz3, kit_self, lookup_hd, lookup_tl, Int.natCast_inj, show ((0 : Nat) : Int) = 0 from rfl, kb_NoneType_bool, kb_NoneType_int, kb_NoneType_str, kb_NoneType_list, kb_NoneType_tuple, kb_NoneType_dict, kb_bool_bool, kb_bool_int, kb_bool_str, kb_bool_list, kb_bool_tuple, kb_bool_dict, kb_int_bool, kb_int_int, kb_int_str, kb_int_list, kb_int_tuple, kb_int_dict, kb_str_bool, kb_str_int, kb_str_str, kb_str_list, kb_str_tuple, kb_str_dict, kb_list_bool, kb_list_int, kb_list_str, kb_list_list, kb_list_tuple, kb_list_dict, kb_tuple_bool, kb_tuple_int, kb_tuple_str, kb_tuple_list, kb_tuple_tuple, kb_tuple_dict, kb_dict_bool, kb_dict_int, kb_dict_str, kb_dict_list, kb_dict_tuple, kb_dict_dict] using hN _ rfl
  rintro _ rfl
  have cpos : ∀ r ∈ rws, cnt rws c (r.getD c 0) ≤ 40 := fun r _ => Nat.le_trans (cnt_le ..) hlen
  unfold wFor
  simp only [iOne, wCall, wCons, wV, wNil]
  simp
  refine ⟨rws, c, rfl, h2, hc, by omega, fun kvs ⟨nd, hk, hlen2, hpos⟩ => ?_⟩
  unfold crowdD
  have hz2 : (kvs.map fun kv => ((.inl kv.1, .int kv.2) : Key × D)).length ≤ sizeLine := by rw [List.length_map, sizeLine_eq]; omega
  simp only [itemsD, if_pos hz2, R.fz]
  refine loop_inv (fun ds en => (∀ d ∈ ds, ∃ kv ∈ kvs, d = .tup [.int kv.1, .int (kv.2 : Int)]) ∧ ∃ y15 y16, en = ⟨[some (.sh d0), some (.ow os.length), x2, some (.sh (.str z)), some (.sh (.int c)), some (.sh (.tup [.int a, .int b])), some (.sh (.tup (rws.map rowT))), some (.sh (.int base)), some (.sh (tabD C (z, 2))), some (.sh (worldD C [(z, 2), (z2, 1)] [rws, [[1]]])), some (.sh (splitD C (z, 2) c (a / Nat.gcd a b) (b / Nat.gcd a b))), some (.sh (manyD [L, H])), some (.sh (manyD [L, H])), none, none, y15, y16], os ++ [some p3]⟩) ?_ ?_ _ _ ⟨fun d hd => ?_, _, _, rfl⟩
  · rintro _ ⟨_, y15, y16, rfl⟩
    exact hN _ _ _ _ _ _ _ _ _ _ _ _ _ p3 pen3
  · rintro _ ds _ ⟨hd, y15, y16, rfl⟩
    obtain ⟨kv, hkv, rfl⟩ := hd _ List.mem_cons_self
    refine ⟨_, rfl, fun N hN => ?_⟩
    have hv : kv.2 = cnt rws c kv.1 := by rw [← lookupN_mem nd hkv, hk]
    have hle : kv.2 ≤ 40 := by rw [hv]; exact Nat.le_trans (cnt_le ..) hlen
    have a0 : ∀ x y : D, atI [x, y] 0 = some x := fun _ _ => rfl
    have a1 : ∀ x y : D, atI [x, y] 1 = some y := fun _ _ => rfl
    simp [a0, a1, wRet, wRetN, wAndV, wOrV, wNotV, wF, wCons, wNil, wV, wC, o1, o2, fIsi, fLen, fAll, fInt, fAbs, fII, fTup, fList, fSortA, fSort, wParG, put1, startR, R.fz, R.val, isiD, clsD, clsL, tyD, insOk, bodyPost, wSeq, wNext, wIfS, wT, w2, oAdd, oAddA, wNewT, wCallK, permL, wMakeK, oSub, oI, oIc, oMulW, oDivW, oMod, oPow, oLt, oLe, oGt, oGe, oEq, wIsN, D.isNon, wChain, wIf, wFld, wTup, wLst, shs, wSet, wOwn, wPar, wPar3, wCall, wMeth, wExpr, wAsgE, geT, geCons, geNil, geF, putD, wAsgT, gT, gsCons, gsNil, gN, iSeq, iOne, iRng, iZip, wNeg, wAnd, wOr, wNot, seqD, shs, oIx, oIxA, oIn, wPut, setD, wGet2, wNewD, wYes, noX, dcD, blsD, eqD, shD, toPy, toPyL, PyData.eqv, PyData.eqvAll, SeqAt.shaped, PyData.canLay0, PyData.canLayAll0, PyData.depth, PyData.depthAll, and_assoc, sz1, sz2, sz3, kit_self, lookup_hd, lookup_tl, Int.natCast_inj, show ((0 : Nat) : Int) = 0 from rfl, kb_NoneType_bool, kb_NoneType_int, kb_NoneType_str, kb_NoneType_list, kb_NoneType_tuple, kb_NoneType_dict, kb_bool_bool, kb_bool_int, kb_bool_str, kb_bool_list, kb_bool_tuple, kb_bool_dict, kb_int_bool, kb_int_int, kb_int_str, kb_int_list, kb_int_tuple, kb_int_dict, kb_str_bool, kb_str_int, kb_str_str, kb_str_list, kb_str_tuple, kb_str_dict, kb_list_bool, kb_list_int, kb_list_str, kb_list_list, kb_list_tuple, kb_list_dict, kb_tuple_bool, kb_tuple_int, kb_tuple_str, kb_tuple_list, kb_tuple_tuple, kb_tuple_dict, kb_dict_bool, kb_dict_int, kb_dict_str, kb_dict_list, kb_dict_tuple, kb_dict_dict]
    refine ⟨kv.2, b, rfl, by omega, by omega, ?_⟩
    simp [a0, a1, wRet, wRetN, wAndV, wOrV, wNotV, wF, wCons, wNil, wV, wC, o1, o2, fIsi, fLen, fAll, fInt, fAbs, fII, fTup, fList, fSortA, fSort, wParG, put1, startR, R.fz, R.val, isiD, clsD, clsL, tyD, insOk, bodyPost, wSeq, wNext, wIfS, wT, w2, oAdd, oAddA, wNewT, wCallK, permL, wMakeK, oSub, oI, oIc, oMulW, oDivW, oMod, oPow, oLt, oLe, oGt, oGe, oEq, wIsN, D.isNon, wChain, wIf, wFld, wTup, wLst, shs, wSet, wOwn, wPar, wPar3, wCall, wMeth, wExpr, wAsgE, geT, geCons, geNil, geF, putD, wAsgT, gT, gsCons, gsNil, gN, iSeq, iOne, iRng, iZip, wNeg, wAnd, wOr, wNot, seqD, shs, oIx, oIxA, oIn, wPut, setD, wGet2, wNewD, wYes, noX, dcD, blsD, eqD, shD, toPy, toPyL, PyData.eqv, PyData.eqvAll, SeqAt.shaped, PyData.canLay0, PyData.canLayAll0, PyData.depth, PyData.depthAll, and_assoc, sz1, sz2, sz3, kit_self, lookup_hd, lookup_tl, Int.natCast_inj, show ((0 : Nat) : Int) = 0 from rfl, kb_NoneType_bool, kb_NoneType_int, kb_NoneType_str, kb_NoneType_list, kb_NoneType_tuple, kb_NoneType_dict, kb_bool_bool, kb_bool_int, kb_bool_str, kb_bool_list, kb_bool_tuple, kb_bool_dict, kb_int_bool, kb_int_int, kb_int_str, kb_int_list, kb_int_tuple, kb_int_dict, kb_str_bool, kb_str_int, kb_str_str, kb_str_list, kb_str_tuple, kb_str_dict, kb_list_bool, kb_list_int, kb_list_str, kb_list_list, kb_list_tuple, kb_list_dict, kb_tuple_bool, kb_tuple_int, kb_tuple_str, kb_tuple_list, kb_tuple_tuple, kb_tuple_dict, kb_dict_bool, kb_dict_int, kb_dict_str, kb_dict_list, kb_dict_tuple, kb_dict_dict]
    refine ⟨base, a, rfl, by omega, by omega, ?_⟩
    simp only [wLc, iSeq, w2, wV, wC]
    simp [a0, a1, manyD, wipeR, restR, wRet, wRetN, wAndV, wOrV, wNotV, wF, wCons, wNil, wV, wC, o1, o2, fIsi, fLen, fAll, fInt, fAbs, fII, fTup, fList, fSortA, fSort, wParG, put1, startR, R.fz, R.val, isiD, clsD, clsL, tyD, insOk, bodyPost, wSeq, wNext, wIfS, wT, w2, oAdd, oAddA, wNewT, wCallK, permL, wMakeK, oSub, oI, oIc, oMulW, oDivW, oMod, oPow, oLt, oLe, oGt, oGe, oEq, wIsN, D.isNon, wChain, wIf, wFld, wTup, wLst, shs, wSet, wOwn, wPar, wPar3, wCall, wMeth, wExpr, wAsgE, geT, geCons, geNil, geF, putD, wAsgT, gT, gsCons, gsNil, gN, iSeq, iOne, iRng, iZip, wNeg, wAnd, wOr, wNot, seqD, shs, oIx, oIxA, oIn, wPut, setD, wGet2, wNewD, wYes, noX, dcD, blsD, eqD, shD, toPy, toPyL, PyData.eqv, PyData.eqvAll, SeqAt.shaped, PyData.canLay0, PyData.canLayAll0, PyData.depth, PyData.depthAll, and_assoc, sz1, sz2, sz3, kit_self, lookup_hd, lookup_tl, Int.natCast_inj, show ((0 : Nat) : Int) = 0 from rfl, kb_NoneType_bool, kb_NoneType_int, kb_NoneType_str, kb_NoneType_list, kb_NoneType_tuple, kb_NoneType_dict, kb_bool_bool, kb_bool_int, kb_bool_str, kb_bool_list, kb_bool_tuple, kb_bool_dict, kb_int_bool, kb_int_int, kb_int_str, kb_int_list, kb_int_tuple, kb_int_dict, kb_str_bool, kb_str_int, kb_str_str, kb_str_list, kb_str_tuple, kb_str_dict, kb_list_bool, kb_list_int, kb_list_str, kb_list_list, kb_list_tuple, kb_list_dict, kb_tuple_bool, kb_tuple_int, kb_tuple_str, kb_tuple_list, kb_tuple_tuple, kb_tuple_dict, kb_dict_bool, kb_dict_int, kb_dict_str, kb_dict_list, kb_dict_tuple, kb_dict_dict]
    refine col_lc (c := c) (fun r hr => h2 r (mL r hr)) hc rfl (fun _ => rfl) (fun _ => rfl) ?_
    have g := in_col kv.1 L c
    have g2 : decide (∃ x ∈ L, x.getD c 0 = kv.1) = decide (kv.2 ^ b ≤ base ^ a) := by
      rw [decide_eq_decide, hv]
      constructor
      · rintro ⟨x, hx, ex⟩
        rw [← ex]; exact colL x hx
      · intro h
        have : 0 < cnt rws c kv.1 := by rw [← hv]; exact hpos kv hkv
        obtain ⟨r, hr⟩ := List.exists_mem_of_length_pos this
        obtain ⟨hr, er⟩ := List.mem_filter.mp hr
        have er := of_decide_eq_true er
        exact ⟨r, colR r hr (by rw [er]; exact h), er⟩
    rw [g2] at g
    generalize (L.map fun r => D.int (r.getD c 0)) = q at g ⊢
    have ec : decide ((kv.2 : Int) ^ b ≤ (base : Int) ^ a) = decide (kv.2 ^ b ≤ base ^ a) := decide_eq_decide.mpr (by rw [← Int.natCast_pow, ← Int.natCast_pow, Int.ofNat_le])
    have := hN ⟨[some (.sh d0), some (.ow os.length), x2, some (.sh (.str z)), some (.sh (.int c)), some (.sh (.tup [.int a, .int b])), some (.sh (.tup (rws.map rowT))), some (.sh (.int base)), some (.sh (tabD C (z, 2))), some (.sh (worldD C [(z, 2), (z2, 1)] [rws, [[1]]])), some (.sh (splitD C (z, 2) c (a / Nat.gcd a b) (b / Nat.gcd a b))), some (.sh (manyD [L, H])), some (.sh (manyD [L, H])), none, none, some (.sh (.int kv.1)), some (.sh (.int (kv.2 : Int)))], os ++ [some p3]⟩ ⟨fun d hd' => hd d (List.mem_cons_of_mem _ hd'), _, _, rfl⟩
    simpa [g, ec, manyD, wRet, wRetN, wAndV, wOrV, wNotV, wF, wCons, wNil, wV, wC, o1, o2, fIsi, fLen, fAll, fInt, fAbs, fII, fTup, fList, fSortA, fSort, wParG, put1, startR, R.fz, R.val, isiD, clsD, clsL, tyD, insOk, bodyPost, wSeq, wNext, wIfS, wT, w2, oAdd, oAddA, wNewT, wCallK, permL, wMakeK, oSub, oI, oIc, oMulW, oDivW, oMod, oPow, oLt, oLe, oGt, oGe, oEq, wIsN, D.isNon, wChain, wIf, wFld, wTup, wLst, shs, wSet, wOwn, wPar, wPar3, wCall, wMeth, wExpr, wAsgE, geT, geCons, geNil, geF, putD, wAsgT, gT, gsCons, gsNil, gN, iSeq, iOne, iRng, iZip, wNeg, wAnd, wOr, wNot, seqD, shs, oIx, oIxA, oIn, wPut, setD, wGet2, wNewD, wYes, noX, dcD, blsD, eqD, shD, toPy, toPyL, PyData.eqv, PyData.eqvAll, SeqAt.shaped, PyData.canLay0, PyData.canLayAll0, PyData.depth, PyData.depthAll, and_assoc, sz1, sz2, sz3, kit_self, lookup_hd, lookup_tl, Int.natCast_inj, show ((0 : Nat) : Int) = 0 from rfl, kb_NoneType_bool, kb_NoneType_int, kb_NoneType_str, kb_NoneType_list, kb_NoneType_tuple, kb_NoneType_dict, kb_bool_bool, kb_bool_int, kb_bool_str, kb_bool_list, kb_bool_tuple, kb_bool_dict, kb_int_bool, kb_int_int, kb_int_str, kb_int_list, kb_int_tuple, kb_int_dict, kb_str_bool, kb_str_int, kb_str_str, kb_str_list, kb_str_tuple, kb_str_dict, kb_list_bool, kb_list_int, kb_list_str, kb_list_list, kb_list_tuple, kb_list_dict, kb_tuple_bool, kb_tuple_int, kb_tuple_str, kb_tuple_list, kb_tuple_tuple, kb_tuple_dict, kb_dict_bool, kb_dict_int, kb_dict_str, kb_dict_list, kb_dict_tuple, kb_dict_dict] using this
  · simp only [List.map_map, List.mem_map, Function.comp] at hd
    obtain ⟨kv, hm, rfl⟩ := hd
    exact ⟨kv, hm, rfl⟩
variable {rs : List R} {P : R → Os → Prop} {PX : Er → Os → Prop}
theorem l_law (T : Txt K mg C) (h : Φ_law K C rs os P PX) : w_law K C ⟨startR ["script", "pen", "turn", "name", "column", "threshold", "rows", "base", "table", "world", "split", "due", "told", "row", "one", "value", "many"] rs, os⟩ (bodyPost os.length P PX) := by
  obtain ⟨ns, d, rfl, hs, hp⟩ := h
  have st0 : startR ["script", "pen", "turn", "name", "column", "threshold", "rows", "base", "table", "world", "split", "due", "told", "row", "one", "value", "many"] [.sh d] = [some (.sh d), none, none, none, none, none, none, none, none, none, none, none, none, none, none, none, none] := rfl
  rw [st0]
  unfold w_law
  refine seq_of (fun en => en = ⟨[some (.sh d), some (.ow os.length), none, none, none, none, none, none, none, none, none, none, none, none, none, none, none], os ++ [some (penD ns 0 0)]⟩) (fun N hN => ?_) ?_
  · simp [wRet, wRetN, wAndV, wOrV, wNotV, wF, wCons, wNil, wV, wC, o1, o2, fIsi, fLen, fAll, fInt, fAbs, fII, fTup, fList, fSortA, fSort, wParG, put1, startR, R.fz, R.val, isiD, clsD, clsL, tyD, insOk, bodyPost, wSeq, wNext, wIfS, wT, w2, oAdd, oAddA, wNewT, wCallK, permL, wMakeK, oSub, oI, oIc, oMulW, oDivW, oMod, oPow, oLt, oLe, oGt, oGe, oEq, wIsN, D.isNon, wChain, wIf, wFld, wTup, wLst, shs, wSet, wOwn, wPar, wPar3, wCall, wMake, wMeth, wExpr, wAsgE, geT, geCons, geNil, geF, putD, wAsgT, gT, gsCons, gsNil, gN, iSeq, iOne, iRng, iZip, wNeg, wAnd, wOr, wNot, seqD, shs, oIx, oIxA, oIn, inD, wPut, setD, wGet2, wNewD, wYes, noX, dcD, blsD, eqD, shD, toPy, toPyL, PyData.eqv, PyData.eqvAll, SeqAt.shaped, PyData.canLay0, PyData.canLayAll0, PyData.depth, PyData.depthAll, and_assoc, sz1, sz2, sz3, kit_self, lookup_hd, lookup_tl, Int.natCast_inj, show ((0 : Nat) : Int) = 0 from rfl, kb_NoneType_bool, kb_NoneType_int, kb_NoneType_str, kb_NoneType_list, kb_NoneType_tuple, kb_NoneType_dict, kb_bool_bool, kb_bool_int, kb_bool_str, kb_bool_list, kb_bool_tuple, kb_bool_dict, kb_int_bool, kb_int_int, kb_int_str, kb_int_list, kb_int_tuple, kb_int_dict, kb_str_bool, kb_str_int, kb_str_str, kb_str_list, kb_str_tuple, kb_str_dict, kb_list_bool, kb_list_int, kb_list_str, kb_list_list, kb_list_tuple, kb_list_dict, kb_tuple_bool, kb_tuple_int, kb_tuple_str, kb_tuple_list, kb_tuple_tuple, kb_tuple_dict, kb_dict_bool, kb_dict_int, kb_dict_str, kb_dict_list, kb_dict_tuple, kb_dict_dict]
    refine ⟨ns, d, rfl, hs, ?_⟩
    simp [wRet, wRetN, wAndV, wOrV, wNotV, wF, wCons, wNil, wV, wC, o1, o2, fIsi, fLen, fAll, fInt, fAbs, fII, fTup, fList, fSortA, fSort, wParG, put1, startR, R.fz, R.val, isiD, clsD, clsL, tyD, insOk, bodyPost, wSeq, wNext, wIfS, wT, w2, oAdd, oAddA, wNewT, wCallK, permL, wMakeK, oSub, oI, oIc, oMulW, oDivW, oMod, oPow, oLt, oLe, oGt, oGe, oEq, wIsN, D.isNon, wChain, wIf, wFld, wTup, wLst, shs, wSet, wOwn, wPar, wPar3, wCall, wMake, wMeth, wExpr, wAsgE, geT, geCons, geNil, geF, putD, wAsgT, gT, gsCons, gsNil, gN, iSeq, iOne, iRng, iZip, wNeg, wAnd, wOr, wNot, seqD, shs, oIx, oIxA, oIn, inD, wPut, setD, wGet2, wNewD, wYes, noX, dcD, blsD, eqD, shD, toPy, toPyL, PyData.eqv, PyData.eqvAll, SeqAt.shaped, PyData.canLay0, PyData.canLayAll0, PyData.depth, PyData.depthAll, and_assoc, sz1, sz2, sz3, kit_self, lookup_hd, lookup_tl, Int.natCast_inj, show ((0 : Nat) : Int) = 0 from rfl, kb_NoneType_bool, kb_NoneType_int, kb_NoneType_str, kb_NoneType_list, kb_NoneType_tuple, kb_NoneType_dict, kb_bool_bool, kb_bool_int, kb_bool_str, kb_bool_list, kb_bool_tuple, kb_bool_dict, kb_int_bool, kb_int_int, kb_int_str, kb_int_list, kb_int_tuple, kb_int_dict, kb_str_bool, kb_str_int, kb_str_str, kb_str_list, kb_str_tuple, kb_str_dict, kb_list_bool, kb_list_int, kb_list_str, kb_list_list, kb_list_tuple, kb_list_dict, kb_tuple_bool, kb_tuple_int, kb_tuple_str, kb_tuple_list, kb_tuple_tuple, kb_tuple_dict, kb_dict_bool, kb_dict_int, kb_dict_str, kb_dict_list, kb_dict_tuple, kb_dict_dict]
    exact hN _ rfl
  rintro _ rfl
  refine seq_of (fun en => ∃ r os', en.ρ.length = 17 ∧ en = ⟨r, os'⟩) (fun N hN => ?_) ?_
  · simp only [wFor, iRng, wC, R.fz]
    refine ⟨by decide, by decide, ?_⟩
    refine loop_inv (body := w_turn K C) (fun ds en => ∃ p n, Pen n p ∧ n + 250 * ds.length ≤ 3000 ∧ ∃ y2 y3 y4 y5 y6 y7 y8 y9 y10 y11 y12 y15 y16, en = ⟨[some (.sh d), some (.ow os.length), y2, y3, y4, y5, y6, y7, y8, y9, y10, y11, y12, none, none, y15, y16], os ++ [some p]⟩) ?_ ?_ _ _ ⟨penD ns 0 0, 0, ⟨ns, 0, 0, rfl, hs.1, Nat.le_refl _⟩, by decide, _, _, _, _, _, _, _, _, _, _, _, _, _, rfl⟩
    · rintro en ⟨p, n, hpen, h1, y2, y3, y4, y5, y6, y7, y8, y9, y10, y11, y12, y15, y16, rfl⟩
      exact hN _ ⟨_, _, rfl, rfl⟩
    · rintro e ds en ⟨p, n, hpen, h1, y2, y3, y4, y5, y6, y7, y8, y9, y10, y11, y12, y15, y16, rfl⟩
      rw [List.length_cons] at h1
      refine ⟨_, rfl, fun N2 hN2 => ?_⟩
      refine l_turn T hpen (by omega) fun z2 z3 z4 z5 z6 z7 z8 z9 z10 z11 z12 z15 z16 p2 pen2 => ?_
      exact hN2 _ ⟨p2, n + 250, pen2, by omega, _, _, _, _, _, _, _, _, _, _, _, _, _, rfl⟩
  rintro _ ⟨r, os', hr, rfl⟩
  simp [wRet, wRetN, wAndV, wOrV, wNotV, wF, wCons, wNil, wV, wC, o1, o2, fIsi, fLen, fAll, fInt, fAbs, fII, fTup, fList, fSortA, fSort, wParG, put1, startR, R.fz, R.val, isiD, clsD, clsL, tyD, insOk, bodyPost, wSeq, wNext, wIfS, wT, w2, oAdd, oAddA, wNewT, wCallK, permL, wMakeK, oSub, oI, oIc, oMulW, oDivW, oMod, oPow, oLt, oLe, oGt, oGe, oEq, wIsN, D.isNon, wChain, wIf, wFld, wTup, wLst, shs, wSet, wOwn, wPar, wPar3, wCall, wMake, wMeth, wExpr, wAsgE, geT, geCons, geNil, geF, putD, wAsgT, gT, gsCons, gsNil, gN, iSeq, iOne, iRng, iZip, wNeg, wAnd, wOr, wNot, seqD, shs, oIx, oIxA, oIn, inD, wPut, setD, wGet2, wNewD, wYes, noX, dcD, blsD, eqD, shD, toPy, toPyL, PyData.eqv, PyData.eqvAll, SeqAt.shaped, PyData.canLay0, PyData.canLayAll0, PyData.depth, PyData.depthAll, and_assoc, sz1, sz2, sz3, kit_self, lookup_hd, lookup_tl, Int.natCast_inj, show ((0 : Nat) : Int) = 0 from rfl, kb_NoneType_bool, kb_NoneType_int, kb_NoneType_str, kb_NoneType_list, kb_NoneType_tuple, kb_NoneType_dict, kb_bool_bool, kb_bool_int, kb_bool_str, kb_bool_list, kb_bool_tuple, kb_bool_dict, kb_int_bool, kb_int_int, kb_int_str, kb_int_list, kb_int_tuple, kb_int_dict, kb_str_bool, kb_str_int, kb_str_str, kb_str_list, kb_str_tuple, kb_str_dict, kb_list_bool, kb_list_int, kb_list_str, kb_list_list, kb_list_tuple, kb_list_dict, kb_tuple_bool, kb_tuple_int, kb_tuple_str, kb_tuple_list, kb_tuple_tuple, kb_tuple_dict, kb_dict_bool, kb_dict_int, kb_dict_str, kb_dict_list, kb_dict_tuple, kb_dict_dict]
  exact hp _
end
end L2.TL.W

/-! text K07z1 -/
set_option Elab.async false
set_option linter.all false
set_option maxRecDepth 100000
set_option maxHeartbeats 4000000
namespace L2.TL.W
open PySem PySem.Spec PyProof.Rows L2.TL
section
variable {P : Program} {wd : World} {K : PySem.W.Frag} {mg : Str → Option Value} {base : Heap} {C : Cs}

theorem f_is_integer (T : Txt K mg C) {f : Addr} {fd : FuncData} (F : Fun K "is_integer" "is_integer" s_is_integer f fd) : FnOk P wd K mg base (L2.CX P wd) 1 f fd ["value"] (spT K (Φ_is_integer K C)) :=
  fn_ok F sc_is_integer (fun rs os P PX h => by first | (obtain ⟨rfl, _⟩ := h; rfl) | (obtain ⟨_, rfl, _⟩ := h; rfl) | (obtain ⟨_, _, rfl, _⟩ := h; rfl) | (obtain ⟨_, _, _, rfl, _⟩ := h; rfl) | (obtain ⟨_, _, _, _, rfl, _⟩ := h; rfl) | (obtain ⟨_, _, _, _, _, rfl, _⟩ := h; rfl) | (obtain ⟨_, _, _, _, _, _, rfl, _⟩ := h; rfl) | (obtain ⟨_, _, _, _, _, _, _, rfl, _⟩ := h; rfl) | (obtain ⟨_, _, _, _, _, _, _, _, rfl, _⟩ := h; rfl) | (obtain ⟨_, _, _, _, _, _, _, _, _, rfl, _⟩ := h; rfl)) (fun cdv A outer s H E hr => b_is_integer T  cdv A outer s H E hr) (fun rs os P PX h => l_is_integer h)
theorem f_is_between (T : Txt K mg C) (G_is_integer : Fn P wd K mg base 1 "is_integer" (Φ_is_integer K C)) {f : Addr} {fd : FuncData} (F : Fun K "is_between" "is_between" s_is_between f fd) : FnOk P wd K mg base (L2.CX P wd) 2 f fd ["value", "least", "most"] (spT K (Φ_is_between K C)) :=
  fn_ok F sc_is_between (fun rs os P PX h => by first | (obtain ⟨rfl, _⟩ := h; rfl) | (obtain ⟨_, rfl, _⟩ := h; rfl) | (obtain ⟨_, _, rfl, _⟩ := h; rfl) | (obtain ⟨_, _, _, rfl, _⟩ := h; rfl) | (obtain ⟨_, _, _, _, rfl, _⟩ := h; rfl) | (obtain ⟨_, _, _, _, _, rfl, _⟩ := h; rfl) | (obtain ⟨_, _, _, _, _, _, rfl, _⟩ := h; rfl) | (obtain ⟨_, _, _, _, _, _, _, rfl, _⟩ := h; rfl) | (obtain ⟨_, _, _, _, _, _, _, _, rfl, _⟩ := h; rfl) | (obtain ⟨_, _, _, _, _, _, _, _, _, rfl, _⟩ := h; rfl)) (fun cdv A outer s H E hr => b_is_between T G_is_integer cdv A outer s H E hr) (fun rs os P PX h => l_is_between h)
theorem f_is_name (T : Txt K mg C) {f : Addr} {fd : FuncData} (F : Fun K "is_name" "is_name" s_is_name f fd) : FnOk P wd K mg base (L2.CX P wd) 1 f fd ["value"] (spT K (Φ_is_name K C)) :=
  fn_ok F sc_is_name (fun rs os P PX h => by first | (obtain ⟨rfl, _⟩ := h; rfl) | (obtain ⟨_, rfl, _⟩ := h; rfl) | (obtain ⟨_, _, rfl, _⟩ := h; rfl) | (obtain ⟨_, _, _, rfl, _⟩ := h; rfl) | (obtain ⟨_, _, _, _, rfl, _⟩ := h; rfl) | (obtain ⟨_, _, _, _, _, rfl, _⟩ := h; rfl) | (obtain ⟨_, _, _, _, _, _, rfl, _⟩ := h; rfl) | (obtain ⟨_, _, _, _, _, _, _, rfl, _⟩ := h; rfl) | (obtain ⟨_, _, _, _, _, _, _, _, rfl, _⟩ := h; rfl) | (obtain ⟨_, _, _, _, _, _, _, _, _, rfl, _⟩ := h; rfl)) (fun cdv A outer s H E hr => b_is_name T  cdv A outer s H E hr) (fun rs os P PX h => l_is_name h)
theorem f_is_listed (T : Txt K mg C) {f : Addr} {fd : FuncData} (F : Fun K "is_listed" "is_listed" s_is_listed f fd) : FnOk P wd K mg base (L2.CX P wd) 1 f fd ["value"] (spT K (Φ_is_listed K C)) :=
  fn_ok F sc_is_listed (fun rs os P PX h => by first | (obtain ⟨rfl, _⟩ := h; rfl) | (obtain ⟨_, rfl, _⟩ := h; rfl) | (obtain ⟨_, _, rfl, _⟩ := h; rfl) | (obtain ⟨_, _, _, rfl, _⟩ := h; rfl) | (obtain ⟨_, _, _, _, rfl, _⟩ := h; rfl) | (obtain ⟨_, _, _, _, _, rfl, _⟩ := h; rfl) | (obtain ⟨_, _, _, _, _, _, rfl, _⟩ := h; rfl) | (obtain ⟨_, _, _, _, _, _, _, rfl, _⟩ := h; rfl) | (obtain ⟨_, _, _, _, _, _, _, _, rfl, _⟩ := h; rfl) | (obtain ⟨_, _, _, _, _, _, _, _, _, rfl, _⟩ := h; rfl)) (fun cdv A outer s H E hr => b_is_listed T  cdv A outer s H E hr) (fun rs os P PX h => l_is_listed h)
theorem f_is_row (T : Txt K mg C) (G_is_listed : Fn P wd K mg base 1 "is_listed" (Φ_is_listed K C)) {f : Addr} {fd : FuncData} (F : Fun K "is_row" "is_row" s_is_row f fd) : FnOk P wd K mg base (L2.CX P wd) 2 f fd ["value", "least", "most"] (spT K (Φ_is_row K C)) :=
  fn_ok F sc_is_row (fun rs os P PX h => by first | (obtain ⟨rfl, _⟩ := h; rfl) | (obtain ⟨_, rfl, _⟩ := h; rfl) | (obtain ⟨_, _, rfl, _⟩ := h; rfl) | (obtain ⟨_, _, _, rfl, _⟩ := h; rfl) | (obtain ⟨_, _, _, _, rfl, _⟩ := h; rfl) | (obtain ⟨_, _, _, _, _, rfl, _⟩ := h; rfl) | (obtain ⟨_, _, _, _, _, _, rfl, _⟩ := h; rfl) | (obtain ⟨_, _, _, _, _, _, _, rfl, _⟩ := h; rfl) | (obtain ⟨_, _, _, _, _, _, _, _, rfl, _⟩ := h; rfl) | (obtain ⟨_, _, _, _, _, _, _, _, _, rfl, _⟩ := h; rfl)) (fun cdv A outer s H E hr => b_is_row T G_is_listed cdv A outer s H E hr) (fun rs os P PX h => l_is_row h)
theorem f_common_part (T : Txt K mg C) {f : Addr} {fd : FuncData} (F : Fun K "common_part" "common_part" s_common_part f fd) : FnOk P wd K mg base (L2.CX P wd) 1 f fd ["one", "other"] (spT K (Φ_common_part K C)) :=
  fn_ok F sc_common_part (fun rs os P PX h => by first | (obtain ⟨rfl, _⟩ := h; rfl) | (obtain ⟨_, rfl, _⟩ := h; rfl) | (obtain ⟨_, _, rfl, _⟩ := h; rfl) | (obtain ⟨_, _, _, rfl, _⟩ := h; rfl) | (obtain ⟨_, _, _, _, rfl, _⟩ := h; rfl) | (obtain ⟨_, _, _, _, _, rfl, _⟩ := h; rfl) | (obtain ⟨_, _, _, _, _, _, rfl, _⟩ := h; rfl) | (obtain ⟨_, _, _, _, _, _, _, rfl, _⟩ := h; rfl) | (obtain ⟨_, _, _, _, _, _, _, _, rfl, _⟩ := h; rfl) | (obtain ⟨_, _, _, _, _, _, _, _, _, rfl, _⟩ := h; rfl)) (fun cdv A outer s H E hr => b_common_part T  cdv A outer s H E hr) (fun rs os P PX h => l_common_part h)
theorem f_lowest (T : Txt K mg C) (G_common_part : Fn P wd K mg base 1 "common_part" (Φ_common_part K C)) {f : Addr} {fd : FuncData} (F : Fun K "lowest" "lowest" s_lowest f fd) : FnOk P wd K mg base (L2.CX P wd) 2 f fd ["top", "bottom"] (spT K (Φ_lowest K C)) :=
  fn_ok F sc_lowest (fun rs os P PX h => by first | (obtain ⟨rfl, _⟩ := h; rfl) | (obtain ⟨_, rfl, _⟩ := h; rfl) | (obtain ⟨_, _, rfl, _⟩ := h; rfl) | (obtain ⟨_, _, _, rfl, _⟩ := h; rfl) | (obtain ⟨_, _, _, _, rfl, _⟩ := h; rfl) | (obtain ⟨_, _, _, _, _, rfl, _⟩ := h; rfl) | (obtain ⟨_, _, _, _, _, _, rfl, _⟩ := h; rfl) | (obtain ⟨_, _, _, _, _, _, _, rfl, _⟩ := h; rfl) | (obtain ⟨_, _, _, _, _, _, _, _, rfl, _⟩ := h; rfl) | (obtain ⟨_, _, _, _, _, _, _, _, _, rfl, _⟩ := h; rfl)) (fun cdv A outer s H E hr => b_lowest T G_common_part cdv A outer s H E hr) (fun rs os P PX h => l_lowest h)
theorem f_power (T : Txt K mg C) {f : Addr} {fd : FuncData} (F : Fun K "power" "power" s_power f fd) : FnOk P wd K mg base (L2.CX P wd) 1 f fd ["number", "many"] (spT K (Φ_power K C)) :=
  fn_ok F sc_power (fun rs os P PX h => by first | (obtain ⟨rfl, _⟩ := h; rfl) | (obtain ⟨_, rfl, _⟩ := h; rfl) | (obtain ⟨_, _, rfl, _⟩ := h; rfl) | (obtain ⟨_, _, _, rfl, _⟩ := h; rfl) | (obtain ⟨_, _, _, _, rfl, _⟩ := h; rfl) | (obtain ⟨_, _, _, _, _, rfl, _⟩ := h; rfl) | (obtain ⟨_, _, _, _, _, _, rfl, _⟩ := h; rfl) | (obtain ⟨_, _, _, _, _, _, _, rfl, _⟩ := h; rfl) | (obtain ⟨_, _, _, _, _, _, _, _, rfl, _⟩ := h; rfl) | (obtain ⟨_, _, _, _, _, _, _, _, _, rfl, _⟩ := h; rfl)) (fun cdv A outer s H E hr => b_power T  cdv A outer s H E hr) (fun rs os P PX h => l_power h)
theorem f_is_at_most (T : Txt K mg C) (G_power : Fn P wd K mg base 1 "power" (Φ_power K C)) {f : Addr} {fd : FuncData} (F : Fun K "is_at_most" "is_at_most" s_is_at_most f fd) : FnOk P wd K mg base (L2.CX P wd) 2 f fd ["number", "base", "threshold"] (spT K (Φ_is_at_most K C)) :=
  fn_ok F sc_is_at_most (fun rs os P PX h => by first | (obtain ⟨rfl, _⟩ := h; rfl) | (obtain ⟨_, rfl, _⟩ := h; rfl) | (obtain ⟨_, _, rfl, _⟩ := h; rfl) | (obtain ⟨_, _, _, rfl, _⟩ := h; rfl) | (obtain ⟨_, _, _, _, rfl, _⟩ := h; rfl) | (obtain ⟨_, _, _, _, _, rfl, _⟩ := h; rfl) | (obtain ⟨_, _, _, _, _, _, rfl, _⟩ := h; rfl) | (obtain ⟨_, _, _, _, _, _, _, rfl, _⟩ := h; rfl) | (obtain ⟨_, _, _, _, _, _, _, _, rfl, _⟩ := h; rfl) | (obtain ⟨_, _, _, _, _, _, _, _, _, rfl, _⟩ := h; rfl)) (fun cdv A outer s H E hr => b_is_at_most T G_power cdv A outer s H E hr) (fun rs os P PX h => l_is_at_most h)
theorem f_Table_init (T : Txt K mg C) (G_is_between : Fn P wd K mg base 2 "is_between" (Φ_is_between K C)) (G_is_name : Fn P wd K mg base 1 "is_name" (Φ_is_name K C)) {f : Addr} {fd : FuncData} (F : Fun K "__init__" "Table.__init__" s_Table_init f fd) : FnOk P wd K mg base (L2.CX P wd) 3 f fd ["self", "name", "width"] (spT K (Φ_Table_init K C)) :=
  fn_ok F sc_Table_init (fun rs os P PX h => by first | (obtain ⟨rfl, _⟩ := h; rfl) | (obtain ⟨_, rfl, _⟩ := h; rfl) | (obtain ⟨_, _, rfl, _⟩ := h; rfl) | (obtain ⟨_, _, _, rfl, _⟩ := h; rfl) | (obtain ⟨_, _, _, _, rfl, _⟩ := h; rfl) | (obtain ⟨_, _, _, _, _, rfl, _⟩ := h; rfl) | (obtain ⟨_, _, _, _, _, _, rfl, _⟩ := h; rfl) | (obtain ⟨_, _, _, _, _, _, _, rfl, _⟩ := h; rfl) | (obtain ⟨_, _, _, _, _, _, _, _, rfl, _⟩ := h; rfl) | (obtain ⟨_, _, _, _, _, _, _, _, _, rfl, _⟩ := h; rfl)) (fun cdv A outer s H E hr => b_Table_init T G_is_between G_is_name cdv A outer s H E hr) (fun rs os P PX h => l_Table_init T h)
theorem f_Table_eq (T : Txt K mg C) {f : Addr} {fd : FuncData} (F : Fun K "__eq__" "Table.__eq__" s_Table_eq f fd) : FnOk P wd K mg base (L2.CX P wd) 1 f fd ["self", "other"] (spT K (Φ_Table_eq K C)) :=
  fn_ok F sc_Table_eq (fun rs os P PX h => by first | (obtain ⟨rfl, _⟩ := h; rfl) | (obtain ⟨_, rfl, _⟩ := h; rfl) | (obtain ⟨_, _, rfl, _⟩ := h; rfl) | (obtain ⟨_, _, _, rfl, _⟩ := h; rfl) | (obtain ⟨_, _, _, _, rfl, _⟩ := h; rfl) | (obtain ⟨_, _, _, _, _, rfl, _⟩ := h; rfl) | (obtain ⟨_, _, _, _, _, _, rfl, _⟩ := h; rfl) | (obtain ⟨_, _, _, _, _, _, _, rfl, _⟩ := h; rfl) | (obtain ⟨_, _, _, _, _, _, _, _, rfl, _⟩ := h; rfl) | (obtain ⟨_, _, _, _, _, _, _, _, _, rfl, _⟩ := h; rfl)) (fun cdv A outer s H E hr => b_Table_eq T  cdv A outer s H E hr) (fun rs os P PX h => l_Table_eq T h)
theorem f_are_tables (T : Txt K mg C) (G_is_row : Fn P wd K mg base 2 "is_row" (Φ_is_row K C)) {f : Addr} {fd : FuncData} (F : Fun K "are_tables" "are_tables" s_are_tables f fd) : FnOk P wd K mg base (L2.CX P wd) 3 f fd ["value", "most"] (spT K (Φ_are_tables K C)) :=
  fn_ok F sc_are_tables (fun rs os P PX h => by first | (obtain ⟨rfl, _⟩ := h; rfl) | (obtain ⟨_, rfl, _⟩ := h; rfl) | (obtain ⟨_, _, rfl, _⟩ := h; rfl) | (obtain ⟨_, _, _, rfl, _⟩ := h; rfl) | (obtain ⟨_, _, _, _, rfl, _⟩ := h; rfl) | (obtain ⟨_, _, _, _, _, rfl, _⟩ := h; rfl) | (obtain ⟨_, _, _, _, _, _, rfl, _⟩ := h; rfl) | (obtain ⟨_, _, _, _, _, _, _, rfl, _⟩ := h; rfl) | (obtain ⟨_, _, _, _, _, _, _, _, rfl, _⟩ := h; rfl) | (obtain ⟨_, _, _, _, _, _, _, _, _, rfl, _⟩ := h; rfl)) (fun cdv A outer s H E hr => b_are_tables T G_is_row cdv A outer s H E hr) (fun rs os P PX h => l_are_tables T h)
theorem f_by_names (T : Txt K mg C) {f : Addr} {fd : FuncData} (F : Fun K "by_names" "by_names" s_by_names f fd) : FnOk P wd K mg base (L2.CX P wd) 1 f fd ["tables"] (spT K (Φ_by_names K C)) :=
  fn_ok F sc_by_names (fun rs os P PX h => by first | (obtain ⟨rfl, _⟩ := h; rfl) | (obtain ⟨_, rfl, _⟩ := h; rfl) | (obtain ⟨_, _, rfl, _⟩ := h; rfl) | (obtain ⟨_, _, _, rfl, _⟩ := h; rfl) | (obtain ⟨_, _, _, _, rfl, _⟩ := h; rfl) | (obtain ⟨_, _, _, _, _, rfl, _⟩ := h; rfl) | (obtain ⟨_, _, _, _, _, _, rfl, _⟩ := h; rfl) | (obtain ⟨_, _, _, _, _, _, _, rfl, _⟩ := h; rfl) | (obtain ⟨_, _, _, _, _, _, _, _, rfl, _⟩ := h; rfl) | (obtain ⟨_, _, _, _, _, _, _, _, _, rfl, _⟩ := h; rfl)) (fun cdv A outer s H E hr => b_by_names T  cdv A outer s H E hr) (fun rs os P PX h => l_by_names T h)
theorem f_is_row_of (T : Txt K mg C) (G_is_between : Fn P wd K mg base 2 "is_between" (Φ_is_between K C)) (G_is_row : Fn P wd K mg base 2 "is_row" (Φ_is_row K C)) {f : Addr} {fd : FuncData} (F : Fun K "is_row_of" "is_row_of" s_is_row_of f fd) : FnOk P wd K mg base (L2.CX P wd) 3 f fd ["table", "value"] (spT K (Φ_is_row_of K C)) :=
  fn_ok F sc_is_row_of (fun rs os P PX h => by first | (obtain ⟨rfl, _⟩ := h; rfl) | (obtain ⟨_, rfl, _⟩ := h; rfl) | (obtain ⟨_, _, rfl, _⟩ := h; rfl) | (obtain ⟨_, _, _, rfl, _⟩ := h; rfl) | (obtain ⟨_, _, _, _, rfl, _⟩ := h; rfl) | (obtain ⟨_, _, _, _, _, rfl, _⟩ := h; rfl) | (obtain ⟨_, _, _, _, _, _, rfl, _⟩ := h; rfl) | (obtain ⟨_, _, _, _, _, _, _, rfl, _⟩ := h; rfl) | (obtain ⟨_, _, _, _, _, _, _, _, rfl, _⟩ := h; rfl) | (obtain ⟨_, _, _, _, _, _, _, _, _, rfl, _⟩ := h; rfl)) (fun cdv A outer s H E hr => b_is_row_of T G_is_between G_is_row cdv A outer s H E hr) (fun rs os P PX h => l_is_row_of T h)
theorem f_are_rows_of (T : Txt K mg C) (G_is_listed : Fn P wd K mg base 1 "is_listed" (Φ_is_listed K C)) (G_is_row_of : Fn P wd K mg base 3 "is_row_of" (Φ_is_row_of K C)) {f : Addr} {fd : FuncData} (F : Fun K "are_rows_of" "are_rows_of" s_are_rows_of f fd) : FnOk P wd K mg base (L2.CX P wd) 4 f fd ["table", "value"] (spT K (Φ_are_rows_of K C)) :=
  fn_ok F sc_are_rows_of (fun rs os P PX h => by first | (obtain ⟨rfl, _⟩ := h; rfl) | (obtain ⟨_, rfl, _⟩ := h; rfl) | (obtain ⟨_, _, rfl, _⟩ := h; rfl) | (obtain ⟨_, _, _, rfl, _⟩ := h; rfl) | (obtain ⟨_, _, _, _, rfl, _⟩ := h; rfl) | (obtain ⟨_, _, _, _, _, rfl, _⟩ := h; rfl) | (obtain ⟨_, _, _, _, _, _, rfl, _⟩ := h; rfl) | (obtain ⟨_, _, _, _, _, _, _, rfl, _⟩ := h; rfl) | (obtain ⟨_, _, _, _, _, _, _, _, rfl, _⟩ := h; rfl) | (obtain ⟨_, _, _, _, _, _, _, _, _, rfl, _⟩ := h; rfl)) (fun cdv A outer s H E hr => b_are_rows_of T G_is_listed G_is_row_of cdv A outer s H E hr) (fun rs os P PX h => l_are_rows_of T h)
theorem f_World_init (T : Txt K mg C) (G_are_rows_of : Fn P wd K mg base 4 "are_rows_of" (Φ_are_rows_of K C)) (G_are_tables : Fn P wd K mg base 3 "are_tables" (Φ_are_tables K C)) (G_is_row : Fn P wd K mg base 2 "is_row" (Φ_is_row K C)) {f : Addr} {fd : FuncData} (F : Fun K "__init__" "World.__init__" s_World_init f fd) : FnOk P wd K mg base (L2.CX P wd) 5 f fd ["self", "tables", "rows"] (spT K (Φ_World_init K C)) :=
  fn_ok F sc_World_init (fun rs os P PX h => by first | (obtain ⟨rfl, _⟩ := h; rfl) | (obtain ⟨_, rfl, _⟩ := h; rfl) | (obtain ⟨_, _, rfl, _⟩ := h; rfl) | (obtain ⟨_, _, _, rfl, _⟩ := h; rfl) | (obtain ⟨_, _, _, _, rfl, _⟩ := h; rfl) | (obtain ⟨_, _, _, _, _, rfl, _⟩ := h; rfl) | (obtain ⟨_, _, _, _, _, _, rfl, _⟩ := h; rfl) | (obtain ⟨_, _, _, _, _, _, _, rfl, _⟩ := h; rfl) | (obtain ⟨_, _, _, _, _, _, _, _, rfl, _⟩ := h; rfl) | (obtain ⟨_, _, _, _, _, _, _, _, _, rfl, _⟩ := h; rfl)) (fun cdv A outer s H E hr => b_World_init T G_are_rows_of G_are_tables G_is_row cdv A outer s H E hr) (fun rs os P PX h => l_World_init T h)
theorem f_World_index (T : Txt K mg C) {f : Addr} {fd : FuncData} (F : Fun K "index" "World.index" s_World_index f fd) : FnOk P wd K mg base (L2.CX P wd) 1 f fd ["self", "name"] (spT K (Φ_World_index K C)) :=
  fn_ok F sc_World_index (fun rs os P PX h => by first | (obtain ⟨rfl, _⟩ := h; rfl) | (obtain ⟨_, rfl, _⟩ := h; rfl) | (obtain ⟨_, _, rfl, _⟩ := h; rfl) | (obtain ⟨_, _, _, rfl, _⟩ := h; rfl) | (obtain ⟨_, _, _, _, rfl, _⟩ := h; rfl) | (obtain ⟨_, _, _, _, _, rfl, _⟩ := h; rfl) | (obtain ⟨_, _, _, _, _, _, rfl, _⟩ := h; rfl) | (obtain ⟨_, _, _, _, _, _, _, rfl, _⟩ := h; rfl) | (obtain ⟨_, _, _, _, _, _, _, _, rfl, _⟩ := h; rfl) | (obtain ⟨_, _, _, _, _, _, _, _, _, rfl, _⟩ := h; rfl)) (fun cdv A outer s H E hr => b_World_index T  cdv A outer s H E hr) (fun rs os P PX h => l_World_index T h)
theorem f_World_need_index (T : Txt K mg C) (N_World_index : Mt P wd K mg base 1 C.World "index" (Φ_World_index K C)) {f : Addr} {fd : FuncData} (F : Fun K "need_index" "World.need_index" s_World_need_index f fd) : FnOk P wd K mg base (L2.CX P wd) 2 f fd ["self", "name"] (spT K (Φ_World_need_index K C)) :=
  fn_ok F sc_World_need_index (fun rs os P PX h => by first | (obtain ⟨rfl, _⟩ := h; rfl) | (obtain ⟨_, rfl, _⟩ := h; rfl) | (obtain ⟨_, _, rfl, _⟩ := h; rfl) | (obtain ⟨_, _, _, rfl, _⟩ := h; rfl) | (obtain ⟨_, _, _, _, rfl, _⟩ := h; rfl) | (obtain ⟨_, _, _, _, _, rfl, _⟩ := h; rfl) | (obtain ⟨_, _, _, _, _, _, rfl, _⟩ := h; rfl) | (obtain ⟨_, _, _, _, _, _, _, rfl, _⟩ := h; rfl) | (obtain ⟨_, _, _, _, _, _, _, _, rfl, _⟩ := h; rfl) | (obtain ⟨_, _, _, _, _, _, _, _, _, rfl, _⟩ := h; rfl)) (fun cdv A outer s H E hr => b_World_need_index T N_World_index cdv A outer s H E hr) (fun rs os P PX h => l_World_need_index T h)
theorem f_World_rows_of (T : Txt K mg C) (N_World_need_index : Mt P wd K mg base 2 C.World "need_index" (Φ_World_need_index K C)) {f : Addr} {fd : FuncData} (F : Fun K "rows_of" "World.rows_of" s_World_rows_of f fd) : FnOk P wd K mg base (L2.CX P wd) 3 f fd ["self", "name"] (spT K (Φ_World_rows_of K C)) :=
  fn_ok F sc_World_rows_of (fun rs os P PX h => by first | (obtain ⟨rfl, _⟩ := h; rfl) | (obtain ⟨_, rfl, _⟩ := h; rfl) | (obtain ⟨_, _, rfl, _⟩ := h; rfl) | (obtain ⟨_, _, _, rfl, _⟩ := h; rfl) | (obtain ⟨_, _, _, _, rfl, _⟩ := h; rfl) | (obtain ⟨_, _, _, _, _, rfl, _⟩ := h; rfl) | (obtain ⟨_, _, _, _, _, _, rfl, _⟩ := h; rfl) | (obtain ⟨_, _, _, _, _, _, _, rfl, _⟩ := h; rfl) | (obtain ⟨_, _, _, _, _, _, _, _, rfl, _⟩ := h; rfl) | (obtain ⟨_, _, _, _, _, _, _, _, _, rfl, _⟩ := h; rfl)) (fun cdv A outer s H E hr => b_World_rows_of T N_World_need_index cdv A outer s H E hr) (fun rs os P PX h => l_World_rows_of T h)
theorem f_need_world (T : Txt K mg C) {f : Addr} {fd : FuncData} (F : Fun K "need_world" "need_world" s_need_world f fd) : FnOk P wd K mg base (L2.CX P wd) 1 f fd ["value"] (spT K (Φ_need_world K C)) :=
  fn_ok F sc_need_world (fun rs os P PX h => by first | (obtain ⟨rfl, _⟩ := h; rfl) | (obtain ⟨_, rfl, _⟩ := h; rfl) | (obtain ⟨_, _, rfl, _⟩ := h; rfl) | (obtain ⟨_, _, _, rfl, _⟩ := h; rfl) | (obtain ⟨_, _, _, _, rfl, _⟩ := h; rfl) | (obtain ⟨_, _, _, _, _, rfl, _⟩ := h; rfl) | (obtain ⟨_, _, _, _, _, _, rfl, _⟩ := h; rfl) | (obtain ⟨_, _, _, _, _, _, _, rfl, _⟩ := h; rfl) | (obtain ⟨_, _, _, _, _, _, _, _, rfl, _⟩ := h; rfl) | (obtain ⟨_, _, _, _, _, _, _, _, _, rfl, _⟩ := h; rfl)) (fun cdv A outer s H E hr => b_need_world T  cdv A outer s H E hr) (fun rs os P PX h => l_need_world T h)
theorem f_need_tables (T : Txt K mg C) (G_by_names : Fn P wd K mg base 1 "by_names" (Φ_by_names K C)) (Q_Table : Qe P wd K mg base 1 C.Table (Φ_Table_eq K C)) {f : Addr} {fd : FuncData} (F : Fun K "need_tables" "need_tables" s_need_tables f fd) : FnOk P wd K mg base (L2.CX P wd) 2 f fd ["world", "tables"] (spT K (Φ_need_tables K C)) :=
  fn_ok F sc_need_tables (fun rs os P PX h => by first | (obtain ⟨rfl, _⟩ := h; rfl) | (obtain ⟨_, rfl, _⟩ := h; rfl) | (obtain ⟨_, _, rfl, _⟩ := h; rfl) | (obtain ⟨_, _, _, rfl, _⟩ := h; rfl) | (obtain ⟨_, _, _, _, rfl, _⟩ := h; rfl) | (obtain ⟨_, _, _, _, _, rfl, _⟩ := h; rfl) | (obtain ⟨_, _, _, _, _, _, rfl, _⟩ := h; rfl) | (obtain ⟨_, _, _, _, _, _, _, rfl, _⟩ := h; rfl) | (obtain ⟨_, _, _, _, _, _, _, _, rfl, _⟩ := h; rfl) | (obtain ⟨_, _, _, _, _, _, _, _, _, rfl, _⟩ := h; rfl)) (fun cdv A outer s H E hr => b_need_tables T G_by_names Q_Table cdv A outer s H E hr) (fun rs os P PX h => l_need_tables T h)
theorem f_is_threshold (T : Txt K mg C) (G_is_between : Fn P wd K mg base 2 "is_between" (Φ_is_between K C)) (G_is_row : Fn P wd K mg base 2 "is_row" (Φ_is_row K C)) {f : Addr} {fd : FuncData} (F : Fun K "is_threshold" "is_threshold" s_is_threshold f fd) : FnOk P wd K mg base (L2.CX P wd) 3 f fd ["value"] (spT K (Φ_is_threshold K C)) :=
  fn_ok F sc_is_threshold (fun rs os P PX h => by first | (obtain ⟨rfl, _⟩ := h; rfl) | (obtain ⟨_, rfl, _⟩ := h; rfl) | (obtain ⟨_, _, rfl, _⟩ := h; rfl) | (obtain ⟨_, _, _, rfl, _⟩ := h; rfl) | (obtain ⟨_, _, _, _, rfl, _⟩ := h; rfl) | (obtain ⟨_, _, _, _, _, rfl, _⟩ := h; rfl) | (obtain ⟨_, _, _, _, _, _, rfl, _⟩ := h; rfl) | (obtain ⟨_, _, _, _, _, _, _, rfl, _⟩ := h; rfl) | (obtain ⟨_, _, _, _, _, _, _, _, rfl, _⟩ := h; rfl) | (obtain ⟨_, _, _, _, _, _, _, _, _, rfl, _⟩ := h; rfl)) (fun cdv A outer s H E hr => b_is_threshold T G_is_between G_is_row cdv A outer s H E hr) (fun rs os P PX h => l_is_threshold h)
theorem f_Split_init (T : Txt K mg C) (G_is_between : Fn P wd K mg base 2 "is_between" (Φ_is_between K C)) (G_is_threshold : Fn P wd K mg base 3 "is_threshold" (Φ_is_threshold K C)) (G_lowest : Fn P wd K mg base 2 "lowest" (Φ_lowest K C)) {f : Addr} {fd : FuncData} (F : Fun K "__init__" "Split.__init__" s_Split_init f fd) : FnOk P wd K mg base (L2.CX P wd) 4 f fd ["self", "table", "column", "threshold"] (spT K (Φ_Split_init K C)) :=
  fn_ok F sc_Split_init (fun rs os P PX h => by first | (obtain ⟨rfl, _⟩ := h; rfl) | (obtain ⟨_, rfl, _⟩ := h; rfl) | (obtain ⟨_, _, rfl, _⟩ := h; rfl) | (obtain ⟨_, _, _, rfl, _⟩ := h; rfl) | (obtain ⟨_, _, _, _, rfl, _⟩ := h; rfl) | (obtain ⟨_, _, _, _, _, rfl, _⟩ := h; rfl) | (obtain ⟨_, _, _, _, _, _, rfl, _⟩ := h; rfl) | (obtain ⟨_, _, _, _, _, _, _, rfl, _⟩ := h; rfl) | (obtain ⟨_, _, _, _, _, _, _, _, rfl, _⟩ := h; rfl) | (obtain ⟨_, _, _, _, _, _, _, _, _, rfl, _⟩ := h; rfl)) (fun cdv A outer s H E hr => b_Split_init T G_is_between G_is_threshold G_lowest cdv A outer s H E hr) (fun rs os P PX h => l_Split_init T h)
theorem f_crowds (T : Txt K mg C) {f : Addr} {fd : FuncData} (F : Fun K "crowds" "crowds" s_crowds f fd) : FnOk P wd K mg base (L2.CX P wd) 1 f fd ["rows", "column"] (spT K (Φ_crowds K C)) :=
  fn_ok F sc_crowds (fun rs os P PX h => by first | (obtain ⟨rfl, _⟩ := h; rfl) | (obtain ⟨_, rfl, _⟩ := h; rfl) | (obtain ⟨_, _, rfl, _⟩ := h; rfl) | (obtain ⟨_, _, _, rfl, _⟩ := h; rfl) | (obtain ⟨_, _, _, _, rfl, _⟩ := h; rfl) | (obtain ⟨_, _, _, _, _, rfl, _⟩ := h; rfl) | (obtain ⟨_, _, _, _, _, _, rfl, _⟩ := h; rfl) | (obtain ⟨_, _, _, _, _, _, _, rfl, _⟩ := h; rfl) | (obtain ⟨_, _, _, _, _, _, _, _, rfl, _⟩ := h; rfl) | (obtain ⟨_, _, _, _, _, _, _, _, _, rfl, _⟩ := h; rfl)) (fun cdv A outer s H E hr => b_crowds T  cdv A outer s H E hr) (fun rs os P PX h => l_crowds h)
theorem f_parts_of (T : Txt K mg C) (G_crowds : Fn P wd K mg base 1 "crowds" (Φ_crowds K C)) (G_is_at_most : Fn P wd K mg base 2 "is_at_most" (Φ_is_at_most K C)) {f : Addr} {fd : FuncData} (F : Fun K "parts_of" "parts_of" s_parts_of f fd) : FnOk P wd K mg base (L2.CX P wd) 3 f fd ["rows", "split", "base"] (spT K (Φ_parts_of K C)) :=
  fn_ok F sc_parts_of (fun rs os P PX h => by first | (obtain ⟨rfl, _⟩ := h; rfl) | (obtain ⟨_, rfl, _⟩ := h; rfl) | (obtain ⟨_, _, rfl, _⟩ := h; rfl) | (obtain ⟨_, _, _, rfl, _⟩ := h; rfl) | (obtain ⟨_, _, _, _, rfl, _⟩ := h; rfl) | (obtain ⟨_, _, _, _, _, rfl, _⟩ := h; rfl) | (obtain ⟨_, _, _, _, _, _, rfl, _⟩ := h; rfl) | (obtain ⟨_, _, _, _, _, _, _, rfl, _⟩ := h; rfl) | (obtain ⟨_, _, _, _, _, _, _, _, rfl, _⟩ := h; rfl) | (obtain ⟨_, _, _, _, _, _, _, _, _, rfl, _⟩ := h; rfl)) (fun cdv A outer s H E hr => b_parts_of T G_crowds G_is_at_most cdv A outer s H E hr) (fun rs os P PX h => l_parts_of T h)
theorem f_need_split (T : Txt K mg C) {f : Addr} {fd : FuncData} (F : Fun K "need_split" "need_split" s_need_split f fd) : FnOk P wd K mg base (L2.CX P wd) 1 f fd ["value"] (spT K (Φ_need_split K C)) :=
  fn_ok F sc_need_split (fun rs os P PX h => by first | (obtain ⟨rfl, _⟩ := h; rfl) | (obtain ⟨_, rfl, _⟩ := h; rfl) | (obtain ⟨_, _, rfl, _⟩ := h; rfl) | (obtain ⟨_, _, _, rfl, _⟩ := h; rfl) | (obtain ⟨_, _, _, _, rfl, _⟩ := h; rfl) | (obtain ⟨_, _, _, _, _, rfl, _⟩ := h; rfl) | (obtain ⟨_, _, _, _, _, _, rfl, _⟩ := h; rfl) | (obtain ⟨_, _, _, _, _, _, _, rfl, _⟩ := h; rfl) | (obtain ⟨_, _, _, _, _, _, _, _, rfl, _⟩ := h; rfl) | (obtain ⟨_, _, _, _, _, _, _, _, _, rfl, _⟩ := h; rfl)) (fun cdv A outer s H E hr => b_need_split T  cdv A outer s H E hr) (fun rs os P PX h => l_need_split T h)
theorem f_need_base (T : Txt K mg C) (G_is_between : Fn P wd K mg base 2 "is_between" (Φ_is_between K C)) {f : Addr} {fd : FuncData} (F : Fun K "need_base" "need_base" s_need_base f fd) : FnOk P wd K mg base (L2.CX P wd) 3 f fd ["value"] (spT K (Φ_need_base K C)) :=
  fn_ok F sc_need_base (fun rs os P PX h => by first | (obtain ⟨rfl, _⟩ := h; rfl) | (obtain ⟨_, rfl, _⟩ := h; rfl) | (obtain ⟨_, _, rfl, _⟩ := h; rfl) | (obtain ⟨_, _, _, rfl, _⟩ := h; rfl) | (obtain ⟨_, _, _, _, rfl, _⟩ := h; rfl) | (obtain ⟨_, _, _, _, _, rfl, _⟩ := h; rfl) | (obtain ⟨_, _, _, _, _, _, rfl, _⟩ := h; rfl) | (obtain ⟨_, _, _, _, _, _, _, rfl, _⟩ := h; rfl) | (obtain ⟨_, _, _, _, _, _, _, _, rfl, _⟩ := h; rfl) | (obtain ⟨_, _, _, _, _, _, _, _, _, rfl, _⟩ := h; rfl)) (fun cdv A outer s H E hr => b_need_base T G_is_between cdv A outer s H E hr) (fun rs os P PX h => l_need_base h)
theorem f_parted (T : Txt K mg C) (G_need_base : Fn P wd K mg base 3 "need_base" (Φ_need_base K C)) (G_need_split : Fn P wd K mg base 1 "need_split" (Φ_need_split K C)) (G_need_tables : Fn P wd K mg base 2 "need_tables" (Φ_need_tables K C)) (G_need_world : Fn P wd K mg base 1 "need_world" (Φ_need_world K C)) (G_parts_of : Fn P wd K mg base 3 "parts_of" (Φ_parts_of K C)) (N_World_rows_of : Mt P wd K mg base 3 C.World "rows_of" (Φ_World_rows_of K C)) {f : Addr} {fd : FuncData} (F : Fun K "parted" "parted" s_parted f fd) : FnOk P wd K mg base (L2.CX P wd) 4 f fd ["world", "split", "base"] (spT K (Φ_parted K C)) :=
  fn_ok F sc_parted (fun rs os P PX h => by first | (obtain ⟨rfl, _⟩ := h; rfl) | (obtain ⟨_, rfl, _⟩ := h; rfl) | (obtain ⟨_, _, rfl, _⟩ := h; rfl) | (obtain ⟨_, _, _, rfl, _⟩ := h; rfl) | (obtain ⟨_, _, _, _, rfl, _⟩ := h; rfl) | (obtain ⟨_, _, _, _, _, rfl, _⟩ := h; rfl) | (obtain ⟨_, _, _, _, _, _, rfl, _⟩ := h; rfl) | (obtain ⟨_, _, _, _, _, _, _, rfl, _⟩ := h; rfl) | (obtain ⟨_, _, _, _, _, _, _, _, rfl, _⟩ := h; rfl) | (obtain ⟨_, _, _, _, _, _, _, _, _, rfl, _⟩ := h; rfl)) (fun cdv A outer s H E hr => b_parted T G_need_base G_need_split G_need_tables G_need_world G_parts_of N_World_rows_of cdv A outer s H E hr) (fun rs os P PX h => l_parted T h)
theorem f__law_pen (T : Txt K mg C) {f : Addr} {fd : FuncData} (F : Fun K "_law_pen" "_law_pen" s__law_pen f fd) : FnOk P wd K mg base (L2.CX P wd) 1 f fd ["script"] (spT K (Φ__law_pen K C)) :=
  fn_ok F sc__law_pen (fun rs os P PX h => by first | (obtain ⟨rfl, _⟩ := h; rfl) | (obtain ⟨_, rfl, _⟩ := h; rfl) | (obtain ⟨_, _, rfl, _⟩ := h; rfl) | (obtain ⟨_, _, _, rfl, _⟩ := h; rfl) | (obtain ⟨_, _, _, _, rfl, _⟩ := h; rfl) | (obtain ⟨_, _, _, _, _, rfl, _⟩ := h; rfl) | (obtain ⟨_, _, _, _, _, _, rfl, _⟩ := h; rfl) | (obtain ⟨_, _, _, _, _, _, _, rfl, _⟩ := h; rfl) | (obtain ⟨_, _, _, _, _, _, _, _, rfl, _⟩ := h; rfl) | (obtain ⟨_, _, _, _, _, _, _, _, _, rfl, _⟩ := h; rfl)) (fun cdv A outer s H E hr => b__law_pen T  cdv A outer s H E hr) (fun rs os P PX h => l__law_pen h)
theorem f__law_draw (T : Txt K mg C) {f : Addr} {fd : FuncData} (F : Fun K "_law_draw" "_law_draw" s__law_draw f fd) : FnOk P wd K mg base (L2.CX P wd) 1 f fd ["pen", "many"] (spT K (Φ__law_draw K C)) :=
  fn_ok F sc__law_draw (fun rs os P PX h => by first | (obtain ⟨rfl, _⟩ := h; rfl) | (obtain ⟨_, rfl, _⟩ := h; rfl) | (obtain ⟨_, _, rfl, _⟩ := h; rfl) | (obtain ⟨_, _, _, rfl, _⟩ := h; rfl) | (obtain ⟨_, _, _, _, rfl, _⟩ := h; rfl) | (obtain ⟨_, _, _, _, _, rfl, _⟩ := h; rfl) | (obtain ⟨_, _, _, _, _, _, rfl, _⟩ := h; rfl) | (obtain ⟨_, _, _, _, _, _, _, rfl, _⟩ := h; rfl) | (obtain ⟨_, _, _, _, _, _, _, _, rfl, _⟩ := h; rfl) | (obtain ⟨_, _, _, _, _, _, _, _, _, rfl, _⟩ := h; rfl)) (fun cdv A outer s H E hr => b__law_draw T  cdv A outer s H E hr) (fun rs os P PX h => l__law_draw h)
theorem f__law_pick (T : Txt K mg C) (G__law_draw : Fn P wd K mg base 1 "_law_draw" (Φ__law_draw K C)) {f : Addr} {fd : FuncData} (F : Fun K "_law_pick" "_law_pick" s__law_pick f fd) : FnOk P wd K mg base (L2.CX P wd) 2 f fd ["pen", "some"] (spT K (Φ__law_pick K C)) :=
  fn_ok F sc__law_pick (fun rs os P PX h => by first | (obtain ⟨rfl, _⟩ := h; rfl) | (obtain ⟨_, rfl, _⟩ := h; rfl) | (obtain ⟨_, _, rfl, _⟩ := h; rfl) | (obtain ⟨_, _, _, rfl, _⟩ := h; rfl) | (obtain ⟨_, _, _, _, rfl, _⟩ := h; rfl) | (obtain ⟨_, _, _, _, _, rfl, _⟩ := h; rfl) | (obtain ⟨_, _, _, _, _, _, rfl, _⟩ := h; rfl) | (obtain ⟨_, _, _, _, _, _, _, rfl, _⟩ := h; rfl) | (obtain ⟨_, _, _, _, _, _, _, _, rfl, _⟩ := h; rfl) | (obtain ⟨_, _, _, _, _, _, _, _, _, rfl, _⟩ := h; rfl)) (fun cdv A outer s H E hr => b__law_pick T G__law_draw cdv A outer s H E hr) (fun rs os P PX h => l__law_pick h)
theorem f__law_name (T : Txt K mg C) (G__law_draw : Fn P wd K mg base 1 "_law_draw" (Φ__law_draw K C)) (G__law_pick : Fn P wd K mg base 2 "_law_pick" (Φ__law_pick K C)) {f : Addr} {fd : FuncData} (F : Fun K "_law_name" "_law_name" s__law_name f fd) : FnOk P wd K mg base (L2.CX P wd) 3 f fd ["pen"] (spT K (Φ__law_name K C)) :=
  fn_ok F sc__law_name (fun rs os P PX h => by first | (obtain ⟨rfl, _⟩ := h; rfl) | (obtain ⟨_, rfl, _⟩ := h; rfl) | (obtain ⟨_, _, rfl, _⟩ := h; rfl) | (obtain ⟨_, _, _, rfl, _⟩ := h; rfl) | (obtain ⟨_, _, _, _, rfl, _⟩ := h; rfl) | (obtain ⟨_, _, _, _, _, rfl, _⟩ := h; rfl) | (obtain ⟨_, _, _, _, _, _, rfl, _⟩ := h; rfl) | (obtain ⟨_, _, _, _, _, _, _, rfl, _⟩ := h; rfl) | (obtain ⟨_, _, _, _, _, _, _, _, rfl, _⟩ := h; rfl) | (obtain ⟨_, _, _, _, _, _, _, _, _, rfl, _⟩ := h; rfl)) (fun cdv A outer s H E hr => b__law_name T G__law_draw G__law_pick cdv A outer s H E hr) (fun rs os P PX h => l__law_name h)
theorem f__law_rows (T : Txt K mg C) (G__law_draw : Fn P wd K mg base 1 "_law_draw" (Φ__law_draw K C)) (G__law_pick : Fn P wd K mg base 2 "_law_pick" (Φ__law_pick K C)) {f : Addr} {fd : FuncData} (F : Fun K "_law_rows" "_law_rows" s__law_rows f fd) : FnOk P wd K mg base (L2.CX P wd) 3 f fd ["pen", "width", "most", "reach"] (spT K (Φ__law_rows K C)) :=
  fn_ok F sc__law_rows (fun rs os P PX h => by first | (obtain ⟨rfl, _⟩ := h; rfl) | (obtain ⟨_, rfl, _⟩ := h; rfl) | (obtain ⟨_, _, rfl, _⟩ := h; rfl) | (obtain ⟨_, _, _, rfl, _⟩ := h; rfl) | (obtain ⟨_, _, _, _, rfl, _⟩ := h; rfl) | (obtain ⟨_, _, _, _, _, rfl, _⟩ := h; rfl) | (obtain ⟨_, _, _, _, _, _, rfl, _⟩ := h; rfl) | (obtain ⟨_, _, _, _, _, _, _, rfl, _⟩ := h; rfl) | (obtain ⟨_, _, _, _, _, _, _, _, rfl, _⟩ := h; rfl) | (obtain ⟨_, _, _, _, _, _, _, _, _, rfl, _⟩ := h; rfl)) (fun cdv A outer s H E hr => b__law_rows T G__law_draw G__law_pick cdv A outer s H E hr) (fun rs os P PX h => l__law_rows h)
theorem f__law_crowds (T : Txt K mg C) {f : Addr} {fd : FuncData} (F : Fun K "_law_crowds" "_law_crowds" s__law_crowds f fd) : FnOk P wd K mg base (L2.CX P wd) 1 f fd ["rows", "column"] (spT K (Φ__law_crowds K C)) :=
  fn_ok F sc__law_crowds (fun rs os P PX h => by first | (obtain ⟨rfl, _⟩ := h; rfl) | (obtain ⟨_, rfl, _⟩ := h; rfl) | (obtain ⟨_, _, rfl, _⟩ := h; rfl) | (obtain ⟨_, _, _, rfl, _⟩ := h; rfl) | (obtain ⟨_, _, _, _, rfl, _⟩ := h; rfl) | (obtain ⟨_, _, _, _, _, rfl, _⟩ := h; rfl) | (obtain ⟨_, _, _, _, _, _, rfl, _⟩ := h; rfl) | (obtain ⟨_, _, _, _, _, _, _, rfl, _⟩ := h; rfl) | (obtain ⟨_, _, _, _, _, _, _, _, rfl, _⟩ := h; rfl) | (obtain ⟨_, _, _, _, _, _, _, _, _, rfl, _⟩ := h; rfl)) (fun cdv A outer s H E hr => b__law_crowds T  cdv A outer s H E hr) (fun rs os P PX h => l__law_crowds h)
theorem f__law_power (T : Txt K mg C) {f : Addr} {fd : FuncData} (F : Fun K "_law_power" "_law_power" s__law_power f fd) : FnOk P wd K mg base (L2.CX P wd) 1 f fd ["number", "many"] (spT K (Φ__law_power K C)) :=
  fn_ok F sc__law_power (fun rs os P PX h => by first | (obtain ⟨rfl, _⟩ := h; rfl) | (obtain ⟨_, rfl, _⟩ := h; rfl) | (obtain ⟨_, _, rfl, _⟩ := h; rfl) | (obtain ⟨_, _, _, rfl, _⟩ := h; rfl) | (obtain ⟨_, _, _, _, rfl, _⟩ := h; rfl) | (obtain ⟨_, _, _, _, _, rfl, _⟩ := h; rfl) | (obtain ⟨_, _, _, _, _, _, rfl, _⟩ := h; rfl) | (obtain ⟨_, _, _, _, _, _, _, rfl, _⟩ := h; rfl) | (obtain ⟨_, _, _, _, _, _, _, _, rfl, _⟩ := h; rfl) | (obtain ⟨_, _, _, _, _, _, _, _, _, rfl, _⟩ := h; rfl)) (fun cdv A outer s H E hr => b__law_power T  cdv A outer s H E hr) (fun rs os P PX h => l__law_power h)
theorem f__law_is_light (T : Txt K mg C) (G__law_power : Fn P wd K mg base 1 "_law_power" (Φ__law_power K C)) {f : Addr} {fd : FuncData} (F : Fun K "_law_is_light" "_law_is_light" s__law_is_light f fd) : FnOk P wd K mg base (L2.CX P wd) 2 f fd ["many", "base", "threshold"] (spT K (Φ__law_is_light K C)) :=
  fn_ok F sc__law_is_light (fun rs os P PX h => by first | (obtain ⟨rfl, _⟩ := h; rfl) | (obtain ⟨_, rfl, _⟩ := h; rfl) | (obtain ⟨_, _, rfl, _⟩ := h; rfl) | (obtain ⟨_, _, _, rfl, _⟩ := h; rfl) | (obtain ⟨_, _, _, _, rfl, _⟩ := h; rfl) | (obtain ⟨_, _, _, _, _, rfl, _⟩ := h; rfl) | (obtain ⟨_, _, _, _, _, _, rfl, _⟩ := h; rfl) | (obtain ⟨_, _, _, _, _, _, _, rfl, _⟩ := h; rfl) | (obtain ⟨_, _, _, _, _, _, _, _, rfl, _⟩ := h; rfl) | (obtain ⟨_, _, _, _, _, _, _, _, _, rfl, _⟩ := h; rfl)) (fun cdv A outer s H E hr => b__law_is_light T G__law_power cdv A outer s H E hr) (fun rs os P PX h => l__law_is_light h)
theorem f__law_parts (T : Txt K mg C) (G__law_crowds : Fn P wd K mg base 1 "_law_crowds" (Φ__law_crowds K C)) (G__law_is_light : Fn P wd K mg base 2 "_law_is_light" (Φ__law_is_light K C)) {f : Addr} {fd : FuncData} (F : Fun K "_law_parts" "_law_parts" s__law_parts f fd) : FnOk P wd K mg base (L2.CX P wd) 3 f fd ["rows", "column", "threshold", "base"] (spT K (Φ__law_parts K C)) :=
  fn_ok F sc__law_parts (fun rs os P PX h => by first | (obtain ⟨rfl, _⟩ := h; rfl) | (obtain ⟨_, rfl, _⟩ := h; rfl) | (obtain ⟨_, _, rfl, _⟩ := h; rfl) | (obtain ⟨_, _, _, rfl, _⟩ := h; rfl) | (obtain ⟨_, _, _, _, rfl, _⟩ := h; rfl) | (obtain ⟨_, _, _, _, _, rfl, _⟩ := h; rfl) | (obtain ⟨_, _, _, _, _, _, rfl, _⟩ := h; rfl) | (obtain ⟨_, _, _, _, _, _, _, rfl, _⟩ := h; rfl) | (obtain ⟨_, _, _, _, _, _, _, _, rfl, _⟩ := h; rfl) | (obtain ⟨_, _, _, _, _, _, _, _, _, rfl, _⟩ := h; rfl)) (fun cdv A outer s H E hr => b__law_parts T G__law_crowds G__law_is_light cdv A outer s H E hr) (fun rs os P PX h => l__law_parts h)
theorem f__law_threshold (T : Txt K mg C) (G__law_pick : Fn P wd K mg base 2 "_law_pick" (Φ__law_pick K C)) {f : Addr} {fd : FuncData} (F : Fun K "_law_threshold" "_law_threshold" s__law_threshold f fd) : FnOk P wd K mg base (L2.CX P wd) 3 f fd ["pen"] (spT K (Φ__law_threshold K C)) :=
  fn_ok F sc__law_threshold (fun rs os P PX h => by first | (obtain ⟨rfl, _⟩ := h; rfl) | (obtain ⟨_, rfl, _⟩ := h; rfl) | (obtain ⟨_, _, rfl, _⟩ := h; rfl) | (obtain ⟨_, _, _, rfl, _⟩ := h; rfl) | (obtain ⟨_, _, _, _, rfl, _⟩ := h; rfl) | (obtain ⟨_, _, _, _, _, rfl, _⟩ := h; rfl) | (obtain ⟨_, _, _, _, _, _, rfl, _⟩ := h; rfl) | (obtain ⟨_, _, _, _, _, _, _, rfl, _⟩ := h; rfl) | (obtain ⟨_, _, _, _, _, _, _, _, rfl, _⟩ := h; rfl) | (obtain ⟨_, _, _, _, _, _, _, _, _, rfl, _⟩ := h; rfl)) (fun cdv A outer s H E hr => b__law_threshold T G__law_pick cdv A outer s H E hr) (fun rs os P PX h => l__law_threshold h)
theorem f_law (T : Txt K mg C) (GK_parted_210 : FnK P wd K mg base 4 "parted" (Φ_parted K C) ["base", "split", "world"] [2, 1, 0]) (G__law_crowds : Fn P wd K mg base 1 "_law_crowds" (Φ__law_crowds K C)) (G__law_draw : Fn P wd K mg base 1 "_law_draw" (Φ__law_draw K C)) (G__law_name : Fn P wd K mg base 3 "_law_name" (Φ__law_name K C)) (G__law_parts : Fn P wd K mg base 3 "_law_parts" (Φ__law_parts K C)) (G__law_pen : Fn P wd K mg base 1 "_law_pen" (Φ__law_pen K C)) (G__law_pick : Fn P wd K mg base 2 "_law_pick" (Φ__law_pick K C)) (G__law_power : Fn P wd K mg base 1 "_law_power" (Φ__law_power K C)) (G__law_rows : Fn P wd K mg base 3 "_law_rows" (Φ__law_rows K C)) (G__law_threshold : Fn P wd K mg base 3 "_law_threshold" (Φ__law_threshold K C)) (G_parted : Fn P wd K mg base 4 "parted" (Φ_parted K C)) (M_Split : Kl P wd K mg base 4 "Split" C.Split (Φ_Split_init K C)) (M_Table : Kl P wd K mg base 3 "Table" C.Table (Φ_Table_init K C)) (M_World : Kl P wd K mg base 5 "World" C.World (Φ_World_init K C)) {f : Addr} {fd : FuncData} (F : Fun K "law" "law" s_law f fd) : FnG P wd K mg base 7 f fd ["script"] (spT K (Φ_law K C)) :=
  fn_okG F sc_law (fun rs os P PX h => by first | (obtain ⟨rfl, _⟩ := h; rfl) | (obtain ⟨_, rfl, _⟩ := h; rfl) | (obtain ⟨_, _, rfl, _⟩ := h; rfl) | (obtain ⟨_, _, _, rfl, _⟩ := h; rfl) | (obtain ⟨_, _, _, _, rfl, _⟩ := h; rfl) | (obtain ⟨_, _, _, _, _, rfl, _⟩ := h; rfl) | (obtain ⟨_, _, _, _, _, _, rfl, _⟩ := h; rfl) | (obtain ⟨_, _, _, _, _, _, _, rfl, _⟩ := h; rfl) | (obtain ⟨_, _, _, _, _, _, _, _, rfl, _⟩ := h; rfl) | (obtain ⟨_, _, _, _, _, _, _, _, _, rfl, _⟩ := h; rfl)) (fun cdv A outer s H E hG hr => b_law T GK_parted_210 G__law_crowds G__law_draw G__law_name G__law_parts G__law_pen G__law_pick G__law_power G__law_rows G__law_threshold G_parted M_Split M_Table M_World cdv A outer s H E hG hr) (fun rs os P PX h => l_law T h)
end
end L2.TL.W

/-! text K07z2 -/
set_option Elab.async false
set_option linter.all false
set_option maxRecDepth 100000
set_option maxHeartbeats 4000000
namespace L2.TL.W
open PySem PySem.Spec PyProof.Rows L2.TL

theorem all_mk {l : PySem.W.OpenLaw} {w : World} {K : PySem.W.Frag} {h : Heap} {mg : Str → Option Value} {fa : Addr} (X : K.In h) (G : h.Ns mainGlobals mg) (hfa : mg "law" = some (.ref fa))
    {CTable CWorld CSplit f0 f1 f2 f3 f4 f5 f6 f7 f8 f9 f10 f11 f12 f13 f14 f15 f16 f17 f18 f19 f20 f21 f22 f23 f24 f25 f26 f27 f28 f29 f30 f31 f32 f33 f34 f35 f36 f37 f38 : Addr} {od0 an0 od1 an1 od2 an2 od3 an3 od4 an4 od5 an5 od6 an6 od7 an7 od8 an8 od9 an9 od10 an10 od11 an11 od12 an12 od13 an13 od14 an14 od15 an15 od16 an16 od17 an17 od18 an18 od19 an19 od20 an20 od21 an21 od22 an22 od23 an23 od24 an24 od25 an25 od26 an26 od27 an27 od28 an28 od29 an29 od30 an30 od31 an31 od32 an32 od33 an33 od34 an34 od35 an35 od36 an36 od37 an37 od38 an38 : Option Addr} {sl0 sl1 sl2 sl3 sl4 sl5 sl6 sl7 sl8 sl9 sl10 sl11 sl12 sl13 sl14 sl15 sl16 sl17 sl18 sl19 sl20 sl21 sl22 sl23 sl24 sl25 sl26 sl27 sl28 sl29 sl30 sl31 sl32 sl33 sl34 sl35 sl36 sl37 sl38 : Array (Option Value)} {oc0 kV0 dc0 pm0 cd0 ct0 oc1 kV1 dc1 pm1 cd1 ct1 oc2 kV2 dc2 pm2 cd2 ct2 oc3 kV3 dc3 pm3 cd3 ct3 oc4 kV4 dc4 pm4 cd4 ct4 oc5 kV5 dc5 pm5 cd5 ct5 oc6 kV6 dc6 pm6 cd6 ct6 oc7 kV7 dc7 pm7 cd7 ct7 oc8 kV8 dc8 pm8 cd8 ct8 oc9 kV9 dc9 pm9 cd9 ct9 oc10 kV10 dc10 pm10 cd10 ct10 oc11 kV11 dc11 pm11 cd11 ct11 oc12 kV12 dc12 pm12 cd12 ct12 oc13 kV13 dc13 pm13 cd13 ct13 oc14 kV14 dc14 pm14 cd14 ct14 oc15 kV15 dc15 pm15 cd15 ct15 oc16 kV16 dc16 pm16 cd16 ct16 oc17 kV17 dc17 pm17 cd17 ct17 oc18 kV18 dc18 pm18 cd18 ct18 oc19 kV19 dc19 pm19 cd19 ct19 oc20 kV20 dc20 pm20 cd20 ct20 oc21 kV21 dc21 pm21 cd21 ct21 oc22 kV22 dc22 pm22 cd22 ct22 oc23 kV23 dc23 pm23 cd23 ct23 oc24 kV24 dc24 pm24 cd24 ct24 oc25 kV25 dc25 pm25 cd25 ct25 oc26 kV26 dc26 pm26 cd26 ct26 oc27 kV27 dc27 pm27 cd27 ct27 oc28 kV28 dc28 pm28 cd28 ct28 oc29 kV29 dc29 pm29 cd29 ct29 oc30 kV30 dc30 pm30 cd30 ct30 oc31 kV31 dc31 pm31 cd31 ct31 oc32 kV32 dc32 pm32 cd32 ct32 oc33 kV33 dc33 pm33 cd33 ct33 oc34 kV34 dc34 pm34 cd34 ct34 oc35 kV35 dc35 pm35 cd35 ct35 oc36 kV36 dc36 pm36 cd36 ct36 oc37 kV37 dc37 pm37 cd37 ct37 oc38 kV38 dc38 pm38 cd38 ct38 : Value} {tc_LETTERS : _} {tc_MOST_BASE : _} {tc_MOST_PART : _} {tc_MOST_ROWS : _} {tc_MOST_SIGNS : _} {tc_MOST_TABLES : _} {tc_MOST_VALUE : _} {tc_MOST_WIDTH : _}
    (aTable : PySem.W.nsIn K mainGlobals "Table" = some (some (.ref CTable)))
    (aWorld : PySem.W.nsIn K mainGlobals "World" = some (some (.ref CWorld)))
    (aSplit : PySem.W.nsIn K mainGlobals "Split" = some (some (.ref CSplit)))
    (a0 : PySem.W.nsIn K mainGlobals "is_integer" = some (some (.ref f0)))
    (l0 : K.lookup f0 = some ⟨oc0, od0, .func (PySem.W.fnOf "is_integer" "is_integer" (defArgs s_is_integer) (defBody s_is_integer) (defScope s_is_integer) .none kV0 dc0 pm0 an0 cd0 ct0), sl0⟩)
    (c0 : PySem.W.codeIn K cd0 "is_integer" = true)
    (k0 : PySem.W.keepIn K (.ref f0) = true)
    (a1 : PySem.W.nsIn K mainGlobals "is_between" = some (some (.ref f1)))
    (l1 : K.lookup f1 = some ⟨oc1, od1, .func (PySem.W.fnOf "is_between" "is_between" (defArgs s_is_between) (defBody s_is_between) (defScope s_is_between) .none kV1 dc1 pm1 an1 cd1 ct1), sl1⟩)
    (c1 : PySem.W.codeIn K cd1 "is_between" = true)
    (k1 : PySem.W.keepIn K (.ref f1) = true)
    (a2 : PySem.W.nsIn K mainGlobals "is_name" = some (some (.ref f2)))
    (l2 : K.lookup f2 = some ⟨oc2, od2, .func (PySem.W.fnOf "is_name" "is_name" (defArgs s_is_name) (defBody s_is_name) (defScope s_is_name) .none kV2 dc2 pm2 an2 cd2 ct2), sl2⟩)
    (c2 : PySem.W.codeIn K cd2 "is_name" = true)
    (k2 : PySem.W.keepIn K (.ref f2) = true)
    (a3 : PySem.W.nsIn K mainGlobals "is_listed" = some (some (.ref f3)))
    (l3 : K.lookup f3 = some ⟨oc3, od3, .func (PySem.W.fnOf "is_listed" "is_listed" (defArgs s_is_listed) (defBody s_is_listed) (defScope s_is_listed) .none kV3 dc3 pm3 an3 cd3 ct3), sl3⟩)
    (c3 : PySem.W.codeIn K cd3 "is_listed" = true)
    (k3 : PySem.W.keepIn K (.ref f3) = true)
    (a4 : PySem.W.nsIn K mainGlobals "is_row" = some (some (.ref f4)))
    (l4 : K.lookup f4 = some ⟨oc4, od4, .func (PySem.W.fnOf "is_row" "is_row" (defArgs s_is_row) (defBody s_is_row) (defScope s_is_row) .none kV4 dc4 pm4 an4 cd4 ct4), sl4⟩)
    (c4 : PySem.W.codeIn K cd4 "is_row" = true)
    (k4 : PySem.W.keepIn K (.ref f4) = true)
    (a5 : PySem.W.nsIn K mainGlobals "common_part" = some (some (.ref f5)))
    (l5 : K.lookup f5 = some ⟨oc5, od5, .func (PySem.W.fnOf "common_part" "common_part" (defArgs s_common_part) (defBody s_common_part) (defScope s_common_part) .none kV5 dc5 pm5 an5 cd5 ct5), sl5⟩)
    (c5 : PySem.W.codeIn K cd5 "common_part" = true)
    (k5 : PySem.W.keepIn K (.ref f5) = true)
    (a6 : PySem.W.nsIn K mainGlobals "lowest" = some (some (.ref f6)))
    (l6 : K.lookup f6 = some ⟨oc6, od6, .func (PySem.W.fnOf "lowest" "lowest" (defArgs s_lowest) (defBody s_lowest) (defScope s_lowest) .none kV6 dc6 pm6 an6 cd6 ct6), sl6⟩)
    (c6 : PySem.W.codeIn K cd6 "lowest" = true)
    (k6 : PySem.W.keepIn K (.ref f6) = true)
    (a7 : PySem.W.nsIn K mainGlobals "power" = some (some (.ref f7)))
    (l7 : K.lookup f7 = some ⟨oc7, od7, .func (PySem.W.fnOf "power" "power" (defArgs s_power) (defBody s_power) (defScope s_power) .none kV7 dc7 pm7 an7 cd7 ct7), sl7⟩)
    (c7 : PySem.W.codeIn K cd7 "power" = true)
    (k7 : PySem.W.keepIn K (.ref f7) = true)
    (a8 : PySem.W.nsIn K mainGlobals "is_at_most" = some (some (.ref f8)))
    (l8 : K.lookup f8 = some ⟨oc8, od8, .func (PySem.W.fnOf "is_at_most" "is_at_most" (defArgs s_is_at_most) (defBody s_is_at_most) (defScope s_is_at_most) .none kV8 dc8 pm8 an8 cd8 ct8), sl8⟩)
    (c8 : PySem.W.codeIn K cd8 "is_at_most" = true)
    (k8 : PySem.W.keepIn K (.ref f8) = true)
    (a9 : PySem.W.findIn K (.ref CTable) "__init__" = some (some (.ref f9)))
    (i9 : PySem.W.isFn K (.ref f9) = true)
    (l9 : K.lookup f9 = some ⟨oc9, od9, .func (PySem.W.fnOf "__init__" "Table.__init__" (defArgs s_Table_init) (defBody s_Table_init) (defScope s_Table_init) .none kV9 dc9 pm9 an9 cd9 ct9), sl9⟩)
    (c9 : PySem.W.codeIn K cd9 "Table.__init__" = true)
    (k9 : PySem.W.keepIn K (.ref f9) = true)
    (a10 : PySem.W.findIn K (.ref CTable) "__eq__" = some (some (.ref f10)))
    (i10 : PySem.W.isFn K (.ref f10) = true)
    (l10 : K.lookup f10 = some ⟨oc10, od10, .func (PySem.W.fnOf "__eq__" "Table.__eq__" (defArgs s_Table_eq) (defBody s_Table_eq) (defScope s_Table_eq) .none kV10 dc10 pm10 an10 cd10 ct10), sl10⟩)
    (c10 : PySem.W.codeIn K cd10 "Table.__eq__" = true)
    (k10 : PySem.W.keepIn K (.ref f10) = true)
    (a11 : PySem.W.nsIn K mainGlobals "are_tables" = some (some (.ref f11)))
    (l11 : K.lookup f11 = some ⟨oc11, od11, .func (PySem.W.fnOf "are_tables" "are_tables" (defArgs s_are_tables) (defBody s_are_tables) (defScope s_are_tables) .none kV11 dc11 pm11 an11 cd11 ct11), sl11⟩)
    (c11 : PySem.W.codeIn K cd11 "are_tables" = true)
    (k11 : PySem.W.keepIn K (.ref f11) = true)
    (a12 : PySem.W.nsIn K mainGlobals "by_names" = some (some (.ref f12)))
    (l12 : K.lookup f12 = some ⟨oc12, od12, .func (PySem.W.fnOf "by_names" "by_names" (defArgs s_by_names) (defBody s_by_names) (defScope s_by_names) .none kV12 dc12 pm12 an12 cd12 ct12), sl12⟩)
    (c12 : PySem.W.codeIn K cd12 "by_names" = true)
    (k12 : PySem.W.keepIn K (.ref f12) = true)
    (a13 : PySem.W.nsIn K mainGlobals "is_row_of" = some (some (.ref f13)))
    (l13 : K.lookup f13 = some ⟨oc13, od13, .func (PySem.W.fnOf "is_row_of" "is_row_of" (defArgs s_is_row_of) (defBody s_is_row_of) (defScope s_is_row_of) .none kV13 dc13 pm13 an13 cd13 ct13), sl13⟩)
    (c13 : PySem.W.codeIn K cd13 "is_row_of" = true)
    (k13 : PySem.W.keepIn K (.ref f13) = true)
    (a14 : PySem.W.nsIn K mainGlobals "are_rows_of" = some (some (.ref f14)))
    (l14 : K.lookup f14 = some ⟨oc14, od14, .func (PySem.W.fnOf "are_rows_of" "are_rows_of" (defArgs s_are_rows_of) (defBody s_are_rows_of) (defScope s_are_rows_of) .none kV14 dc14 pm14 an14 cd14 ct14), sl14⟩)
    (c14 : PySem.W.codeIn K cd14 "are_rows_of" = true)
    (k14 : PySem.W.keepIn K (.ref f14) = true)
    (a15 : PySem.W.findIn K (.ref CWorld) "__init__" = some (some (.ref f15)))
    (i15 : PySem.W.isFn K (.ref f15) = true)
    (l15 : K.lookup f15 = some ⟨oc15, od15, .func (PySem.W.fnOf "__init__" "World.__init__" (defArgs s_World_init) (defBody s_World_init) (defScope s_World_init) .none kV15 dc15 pm15 an15 cd15 ct15), sl15⟩)
    (c15 : PySem.W.codeIn K cd15 "World.__init__" = true)
    (k15 : PySem.W.keepIn K (.ref f15) = true)
    (a16 : PySem.W.findIn K (.ref CWorld) "index" = some (some (.ref f16)))
    (i16 : PySem.W.isFn K (.ref f16) = true)
    (l16 : K.lookup f16 = some ⟨oc16, od16, .func (PySem.W.fnOf "index" "World.index" (defArgs s_World_index) (defBody s_World_index) (defScope s_World_index) .none kV16 dc16 pm16 an16 cd16 ct16), sl16⟩)
    (c16 : PySem.W.codeIn K cd16 "World.index" = true)
    (k16 : PySem.W.keepIn K (.ref f16) = true)
    (a17 : PySem.W.findIn K (.ref CWorld) "need_index" = some (some (.ref f17)))
    (i17 : PySem.W.isFn K (.ref f17) = true)
    (l17 : K.lookup f17 = some ⟨oc17, od17, .func (PySem.W.fnOf "need_index" "World.need_index" (defArgs s_World_need_index) (defBody s_World_need_index) (defScope s_World_need_index) .none kV17 dc17 pm17 an17 cd17 ct17), sl17⟩)
    (c17 : PySem.W.codeIn K cd17 "World.need_index" = true)
    (k17 : PySem.W.keepIn K (.ref f17) = true)
    (a18 : PySem.W.findIn K (.ref CWorld) "rows_of" = some (some (.ref f18)))
    (i18 : PySem.W.isFn K (.ref f18) = true)
    (l18 : K.lookup f18 = some ⟨oc18, od18, .func (PySem.W.fnOf "rows_of" "World.rows_of" (defArgs s_World_rows_of) (defBody s_World_rows_of) (defScope s_World_rows_of) .none kV18 dc18 pm18 an18 cd18 ct18), sl18⟩)
    (c18 : PySem.W.codeIn K cd18 "World.rows_of" = true)
    (k18 : PySem.W.keepIn K (.ref f18) = true)
    (a19 : PySem.W.nsIn K mainGlobals "need_world" = some (some (.ref f19)))
    (l19 : K.lookup f19 = some ⟨oc19, od19, .func (PySem.W.fnOf "need_world" "need_world" (defArgs s_need_world) (defBody s_need_world) (defScope s_need_world) .none kV19 dc19 pm19 an19 cd19 ct19), sl19⟩)
    (c19 : PySem.W.codeIn K cd19 "need_world" = true)
    (k19 : PySem.W.keepIn K (.ref f19) = true)
    (a20 : PySem.W.nsIn K mainGlobals "need_tables" = some (some (.ref f20)))
    (l20 : K.lookup f20 = some ⟨oc20, od20, .func (PySem.W.fnOf "need_tables" "need_tables" (defArgs s_need_tables) (defBody s_need_tables) (defScope s_need_tables) .none kV20 dc20 pm20 an20 cd20 ct20), sl20⟩)
    (c20 : PySem.W.codeIn K cd20 "need_tables" = true)
    (k20 : PySem.W.keepIn K (.ref f20) = true)
    (a21 : PySem.W.nsIn K mainGlobals "is_threshold" = some (some (.ref f21)))
    (l21 : K.lookup f21 = some ⟨oc21, od21, .func (PySem.W.fnOf "is_threshold" "is_threshold" (defArgs s_is_threshold) (defBody s_is_threshold) (defScope s_is_threshold) .none kV21 dc21 pm21 an21 cd21 ct21), sl21⟩)
    (c21 : PySem.W.codeIn K cd21 "is_threshold" = true)
    (k21 : PySem.W.keepIn K (.ref f21) = true)
    (a22 : PySem.W.findIn K (.ref CSplit) "__init__" = some (some (.ref f22)))
    (i22 : PySem.W.isFn K (.ref f22) = true)
    (l22 : K.lookup f22 = some ⟨oc22, od22, .func (PySem.W.fnOf "__init__" "Split.__init__" (defArgs s_Split_init) (defBody s_Split_init) (defScope s_Split_init) .none kV22 dc22 pm22 an22 cd22 ct22), sl22⟩)
    (c22 : PySem.W.codeIn K cd22 "Split.__init__" = true)
    (k22 : PySem.W.keepIn K (.ref f22) = true)
    (a23 : PySem.W.nsIn K mainGlobals "crowds" = some (some (.ref f23)))
    (l23 : K.lookup f23 = some ⟨oc23, od23, .func (PySem.W.fnOf "crowds" "crowds" (defArgs s_crowds) (defBody s_crowds) (defScope s_crowds) .none kV23 dc23 pm23 an23 cd23 ct23), sl23⟩)
    (c23 : PySem.W.codeIn K cd23 "crowds" = true)
    (k23 : PySem.W.keepIn K (.ref f23) = true)
    (a24 : PySem.W.nsIn K mainGlobals "parts_of" = some (some (.ref f24)))
    (l24 : K.lookup f24 = some ⟨oc24, od24, .func (PySem.W.fnOf "parts_of" "parts_of" (defArgs s_parts_of) (defBody s_parts_of) (defScope s_parts_of) .none kV24 dc24 pm24 an24 cd24 ct24), sl24⟩)
    (c24 : PySem.W.codeIn K cd24 "parts_of" = true)
    (k24 : PySem.W.keepIn K (.ref f24) = true)
    (a25 : PySem.W.nsIn K mainGlobals "need_split" = some (some (.ref f25)))
    (l25 : K.lookup f25 = some ⟨oc25, od25, .func (PySem.W.fnOf "need_split" "need_split" (defArgs s_need_split) (defBody s_need_split) (defScope s_need_split) .none kV25 dc25 pm25 an25 cd25 ct25), sl25⟩)
    (c25 : PySem.W.codeIn K cd25 "need_split" = true)
    (k25 : PySem.W.keepIn K (.ref f25) = true)
    (a26 : PySem.W.nsIn K mainGlobals "need_base" = some (some (.ref f26)))
    (l26 : K.lookup f26 = some ⟨oc26, od26, .func (PySem.W.fnOf "need_base" "need_base" (defArgs s_need_base) (defBody s_need_base) (defScope s_need_base) .none kV26 dc26 pm26 an26 cd26 ct26), sl26⟩)
    (c26 : PySem.W.codeIn K cd26 "need_base" = true)
    (k26 : PySem.W.keepIn K (.ref f26) = true)
    (a27 : PySem.W.nsIn K mainGlobals "parted" = some (some (.ref f27)))
    (l27 : K.lookup f27 = some ⟨oc27, od27, .func (PySem.W.fnOf "parted" "parted" (defArgs s_parted) (defBody s_parted) (defScope s_parted) .none kV27 dc27 pm27 an27 cd27 ct27), sl27⟩)
    (c27 : PySem.W.codeIn K cd27 "parted" = true)
    (k27 : PySem.W.keepIn K (.ref f27) = true)
    (a28 : PySem.W.nsIn K mainGlobals "_law_pen" = some (some (.ref f28)))
    (l28 : K.lookup f28 = some ⟨oc28, od28, .func (PySem.W.fnOf "_law_pen" "_law_pen" (defArgs s__law_pen) (defBody s__law_pen) (defScope s__law_pen) .none kV28 dc28 pm28 an28 cd28 ct28), sl28⟩)
    (c28 : PySem.W.codeIn K cd28 "_law_pen" = true)
    (k28 : PySem.W.keepIn K (.ref f28) = true)
    (a29 : PySem.W.nsIn K mainGlobals "_law_draw" = some (some (.ref f29)))
    (l29 : K.lookup f29 = some ⟨oc29, od29, .func (PySem.W.fnOf "_law_draw" "_law_draw" (defArgs s__law_draw) (defBody s__law_draw) (defScope s__law_draw) .none kV29 dc29 pm29 an29 cd29 ct29), sl29⟩)
    (c29 : PySem.W.codeIn K cd29 "_law_draw" = true)
    (k29 : PySem.W.keepIn K (.ref f29) = true)
    (a30 : PySem.W.nsIn K mainGlobals "_law_pick" = some (some (.ref f30)))
    (l30 : K.lookup f30 = some ⟨oc30, od30, .func (PySem.W.fnOf "_law_pick" "_law_pick" (defArgs s__law_pick) (defBody s__law_pick) (defScope s__law_pick) .none kV30 dc30 pm30 an30 cd30 ct30), sl30⟩)
    (c30 : PySem.W.codeIn K cd30 "_law_pick" = true)
    (k30 : PySem.W.keepIn K (.ref f30) = true)
    (a31 : PySem.W.nsIn K mainGlobals "_law_name" = some (some (.ref f31)))
    (l31 : K.lookup f31 = some ⟨oc31, od31, .func (PySem.W.fnOf "_law_name" "_law_name" (defArgs s__law_name) (defBody s__law_name) (defScope s__law_name) .none kV31 dc31 pm31 an31 cd31 ct31), sl31⟩)
    (c31 : PySem.W.codeIn K cd31 "_law_name" = true)
    (k31 : PySem.W.keepIn K (.ref f31) = true)
    (a32 : PySem.W.nsIn K mainGlobals "_law_rows" = some (some (.ref f32)))
    (l32 : K.lookup f32 = some ⟨oc32, od32, .func (PySem.W.fnOf "_law_rows" "_law_rows" (defArgs s__law_rows) (defBody s__law_rows) (defScope s__law_rows) .none kV32 dc32 pm32 an32 cd32 ct32), sl32⟩)
    (c32 : PySem.W.codeIn K cd32 "_law_rows" = true)
    (k32 : PySem.W.keepIn K (.ref f32) = true)
    (a33 : PySem.W.nsIn K mainGlobals "_law_crowds" = some (some (.ref f33)))
    (l33 : K.lookup f33 = some ⟨oc33, od33, .func (PySem.W.fnOf "_law_crowds" "_law_crowds" (defArgs s__law_crowds) (defBody s__law_crowds) (defScope s__law_crowds) .none kV33 dc33 pm33 an33 cd33 ct33), sl33⟩)
    (c33 : PySem.W.codeIn K cd33 "_law_crowds" = true)
    (k33 : PySem.W.keepIn K (.ref f33) = true)
    (a34 : PySem.W.nsIn K mainGlobals "_law_power" = some (some (.ref f34)))
    (l34 : K.lookup f34 = some ⟨oc34, od34, .func (PySem.W.fnOf "_law_power" "_law_power" (defArgs s__law_power) (defBody s__law_power) (defScope s__law_power) .none kV34 dc34 pm34 an34 cd34 ct34), sl34⟩)
    (c34 : PySem.W.codeIn K cd34 "_law_power" = true)
    (k34 : PySem.W.keepIn K (.ref f34) = true)
    (a35 : PySem.W.nsIn K mainGlobals "_law_is_light" = some (some (.ref f35)))
    (l35 : K.lookup f35 = some ⟨oc35, od35, .func (PySem.W.fnOf "_law_is_light" "_law_is_light" (defArgs s__law_is_light) (defBody s__law_is_light) (defScope s__law_is_light) .none kV35 dc35 pm35 an35 cd35 ct35), sl35⟩)
    (c35 : PySem.W.codeIn K cd35 "_law_is_light" = true)
    (k35 : PySem.W.keepIn K (.ref f35) = true)
    (a36 : PySem.W.nsIn K mainGlobals "_law_parts" = some (some (.ref f36)))
    (l36 : K.lookup f36 = some ⟨oc36, od36, .func (PySem.W.fnOf "_law_parts" "_law_parts" (defArgs s__law_parts) (defBody s__law_parts) (defScope s__law_parts) .none kV36 dc36 pm36 an36 cd36 ct36), sl36⟩)
    (c36 : PySem.W.codeIn K cd36 "_law_parts" = true)
    (k36 : PySem.W.keepIn K (.ref f36) = true)
    (a37 : PySem.W.nsIn K mainGlobals "_law_threshold" = some (some (.ref f37)))
    (l37 : K.lookup f37 = some ⟨oc37, od37, .func (PySem.W.fnOf "_law_threshold" "_law_threshold" (defArgs s__law_threshold) (defBody s__law_threshold) (defScope s__law_threshold) .none kV37 dc37 pm37 an37 cd37 ct37), sl37⟩)
    (c37 : PySem.W.codeIn K cd37 "_law_threshold" = true)
    (k37 : PySem.W.keepIn K (.ref f37) = true)
    (a38 : PySem.W.nsIn K mainGlobals "law" = some (some (.ref f38)))
    (l38 : K.lookup f38 = some ⟨oc38, od38, .func (PySem.W.fnOf "law" "law" (defArgs s_law) (defBody s_law) (defScope s_law) .none kV38 dc38 pm38 an38 cd38 ct38), sl38⟩)
    (c38 : PySem.W.codeIn K cd38 "law" = true)
    (k38 : PySem.W.keepIn K (.ref f38) = true)
    (pgTable : PySem.W.plainGet K CTable Str.empty = true)
    (hdTable : PySem.W.hasDictIn K CTable = true)
    (poTable : PySem.W.plainOver K CTable = true)
    (saTable : PySem.W.findIn K (.ref CTable) "__setattr__" = some (some (.builtin "object.__setattr__")))
    (mkTable : PySem.W.makesIn K CTable = true)
    (kcTable : PySem.W.keepIn K (.ref CTable) = true)
    (haTable : PySem.W.findIn K (.ref CTable) "__class__" = some (some (.builtin "object.__class__")))
    (hmTable : PySem.W.mroIn K CTable (.type "object") = some true)
    (pgWorld : PySem.W.plainGet K CWorld Str.empty = true)
    (hdWorld : PySem.W.hasDictIn K CWorld = true)
    (poWorld : PySem.W.plainOver K CWorld = true)
    (saWorld : PySem.W.findIn K (.ref CWorld) "__setattr__" = some (some (.builtin "object.__setattr__")))
    (mkWorld : PySem.W.makesIn K CWorld = true)
    (kcWorld : PySem.W.keepIn K (.ref CWorld) = true)
    (haWorld : PySem.W.findIn K (.ref CWorld) "__class__" = some (some (.builtin "object.__class__")))
    (hmWorld : PySem.W.mroIn K CWorld (.type "object") = some true)
    (pgSplit : PySem.W.plainGet K CSplit Str.empty = true)
    (hdSplit : PySem.W.hasDictIn K CSplit = true)
    (poSplit : PySem.W.plainOver K CSplit = true)
    (saSplit : PySem.W.findIn K (.ref CSplit) "__setattr__" = some (some (.builtin "object.__setattr__")))
    (mkSplit : PySem.W.makesIn K CSplit = true)
    (kcSplit : PySem.W.keepIn K (.ref CSplit) = true)
    (haSplit : PySem.W.findIn K (.ref CSplit) "__class__" = some (some (.builtin "object.__class__")))
    (hmSplit : PySem.W.mroIn K CSplit (.type "object") = some true)
    (hn : PySem.W.specialIn K (.builtin "object.__class__") "__get__" = some (some (.builtin "getset_descriptor.__get__")))
    (ht : PySem.W.takesIn K (.builtin "object.__class__") = some true)
    (zb_abs : PySem.W.nsIn K mainGlobals "abs" = some none)
    (zb_all : PySem.W.nsIn K mainGlobals "all" = some none)
    (zb_bool : PySem.W.nsIn K mainGlobals "bool" = some none)
    (zb_dict : PySem.W.nsIn K mainGlobals "dict" = some none)
    (zb_enumerate : PySem.W.nsIn K mainGlobals "enumerate" = some none)
    (zb_int : PySem.W.nsIn K mainGlobals "int" = some none)
    (zb_isinstance : PySem.W.nsIn K mainGlobals "isinstance" = some none)
    (zb_len : PySem.W.nsIn K mainGlobals "len" = some none)
    (zb_list : PySem.W.nsIn K mainGlobals "list" = some none)
    (zb_max : PySem.W.nsIn K mainGlobals "max" = some none)
    (zb_range : PySem.W.nsIn K mainGlobals "range" = some none)
    (zb_repr : PySem.W.nsIn K mainGlobals "repr" = some none)
    (zb_sorted : PySem.W.nsIn K mainGlobals "sorted" = some none)
    (zb_str : PySem.W.nsIn K mainGlobals "str" = some none)
    (zb_tuple : PySem.W.nsIn K mainGlobals "tuple" = some none)
    (zb_zip : PySem.W.nsIn K mainGlobals "zip" = some none)
    (zn_Split_column : PySem.W.findIn K (.ref CSplit) "column" = some none)
    (zn_Split_table : PySem.W.findIn K (.ref CSplit) "table" = some none)
    (zn_Split_threshold : PySem.W.findIn K (.ref CSplit) "threshold" = some none)
    (zn_Table_name : PySem.W.findIn K (.ref CTable) "name" = some none)
    (zn_Table_width : PySem.W.findIn K (.ref CTable) "width" = some none)
    (zn_World_rows : PySem.W.findIn K (.ref CWorld) "rows" = some none)
    (zn_World_tables : PySem.W.findIn K (.ref CWorld) "tables" = some none)
    (zc_LETTERS : PySem.W.nsIn K mainGlobals "LETTERS" = some (some (.str "abcdefghijklmnopqrstuvwxyz" tc_LETTERS)))
    (zc_MOST_BASE : PySem.W.nsIn K mainGlobals "MOST_BASE" = some (some (.int (1000000) tc_MOST_BASE)))
    (zc_MOST_PART : PySem.W.nsIn K mainGlobals "MOST_PART" = some (some (.int (9999) tc_MOST_PART)))
    (zc_MOST_ROWS : PySem.W.nsIn K mainGlobals "MOST_ROWS" = some (some (.int (20000) tc_MOST_ROWS)))
    (zc_MOST_SIGNS : PySem.W.nsIn K mainGlobals "MOST_SIGNS" = some (some (.int (8) tc_MOST_SIGNS)))
    (zc_MOST_TABLES : PySem.W.nsIn K mainGlobals "MOST_TABLES" = some (some (.int (6) tc_MOST_TABLES)))
    (zc_MOST_VALUE : PySem.W.nsIn K mainGlobals "MOST_VALUE" = some (some (.int (1000000000000000000000000000000) tc_MOST_VALUE)))
    (zc_MOST_WIDTH : PySem.W.nsIn K mainGlobals "MOST_WIDTH" = some (some (.int (2) tc_MOST_WIDTH)))
    : ∃ fd : FuncData, (∀ (s : Shared) (v : Value), BindsTo s fd ⟨[v], []⟩ [("script", v)]) ∧ ∀ base : Heap, K.In base → base.Ns mainGlobals mg → FnG l.prog w K mg base 7 fa fd ["script"] (spT K (Φ_law K L2.TL.W.c0)) := by
  have e := hfa.symm.trans (PySem.W.mg_of X G a38)
  cases e
  have T : Txt K mg ⟨CTable, CWorld, CSplit, 0, 0, 0, 0, 0, 0, 0, 0, 0, 0, 0⟩ := ⟨PySem.W.mg_none_of X G zb_abs, PySem.W.mg_none_of X G zb_all, PySem.W.mg_none_of X G zb_bool, PySem.W.mg_none_of X G zb_dict, PySem.W.mg_none_of X G zb_enumerate, PySem.W.mg_none_of X G zb_int, PySem.W.mg_none_of X G zb_isinstance, PySem.W.mg_none_of X G zb_len, PySem.W.mg_none_of X G zb_list, PySem.W.mg_none_of X G zb_max, PySem.W.mg_none_of X G zb_range, PySem.W.mg_none_of X G zb_repr, PySem.W.mg_none_of X G zb_sorted, PySem.W.mg_none_of X G zb_str, PySem.W.mg_none_of X G zb_tuple, PySem.W.mg_none_of X G zb_zip, PySem.W.mg_of X G aTable, ⟨pgTable, hdTable, poTable, saTable⟩, ⟨⟨pgTable, hdTable, poTable, saTable⟩, haTable, hn, ht, hmTable⟩, PySem.W.mg_of X G aWorld, ⟨pgWorld, hdWorld, poWorld, saWorld⟩, ⟨⟨pgWorld, hdWorld, poWorld, saWorld⟩, haWorld, hn, ht, hmWorld⟩, PySem.W.mg_of X G aSplit, ⟨pgSplit, hdSplit, poSplit, saSplit⟩, ⟨⟨pgSplit, hdSplit, poSplit, saSplit⟩, haSplit, hn, ht, hmSplit⟩, zn_Split_column, zn_Split_table, zn_Split_threshold, zn_Table_name, zn_Table_width, zn_World_rows, zn_World_tables, ⟨_, PySem.W.mg_of X G zc_LETTERS⟩, ⟨_, PySem.W.mg_of X G zc_MOST_BASE⟩, ⟨_, PySem.W.mg_of X G zc_MOST_PART⟩, ⟨_, PySem.W.mg_of X G zc_MOST_ROWS⟩, ⟨_, PySem.W.mg_of X G zc_MOST_SIGNS⟩, ⟨_, PySem.W.mg_of X G zc_MOST_TABLES⟩, ⟨_, PySem.W.mg_of X G zc_MOST_VALUE⟩, ⟨_, PySem.W.mg_of X G zc_MOST_WIDTH⟩⟩
  have F0 := fun_mk (st := s_is_integer) l0 c0 k0
  have b0 := F0.binds (ps := ["value"]) fun _ _ _ _ _ _ us hl => match us, hl with | [_], _ => rfl
  have F1 := fun_mk (st := s_is_between) l1 c1 k1
  have b1 := F1.binds (ps := ["value", "least", "most"]) fun _ _ _ _ _ _ us hl => match us, hl with | [_, _, _], _ => rfl
  have F2 := fun_mk (st := s_is_name) l2 c2 k2
  have b2 := F2.binds (ps := ["value"]) fun _ _ _ _ _ _ us hl => match us, hl with | [_], _ => rfl
  have F3 := fun_mk (st := s_is_listed) l3 c3 k3
  have b3 := F3.binds (ps := ["value"]) fun _ _ _ _ _ _ us hl => match us, hl with | [_], _ => rfl
  have F4 := fun_mk (st := s_is_row) l4 c4 k4
  have b4 := F4.binds (ps := ["value", "least", "most"]) fun _ _ _ _ _ _ us hl => match us, hl with | [_, _, _], _ => rfl
  have F5 := fun_mk (st := s_common_part) l5 c5 k5
  have b5 := F5.binds (ps := ["one", "other"]) fun _ _ _ _ _ _ us hl => match us, hl with | [_, _], _ => rfl
  have F6 := fun_mk (st := s_lowest) l6 c6 k6
  have b6 := F6.binds (ps := ["top", "bottom"]) fun _ _ _ _ _ _ us hl => match us, hl with | [_, _], _ => rfl
  have F7 := fun_mk (st := s_power) l7 c7 k7
  have b7 := F7.binds (ps := ["number", "many"]) fun _ _ _ _ _ _ us hl => match us, hl with | [_, _], _ => rfl
  have F8 := fun_mk (st := s_is_at_most) l8 c8 k8
  have b8 := F8.binds (ps := ["number", "base", "threshold"]) fun _ _ _ _ _ _ us hl => match us, hl with | [_, _, _], _ => rfl
  have F9 := fun_mk (st := s_Table_init) l9 c9 k9
  have b9 := F9.binds (ps := ["self", "name", "width"]) fun _ _ _ _ _ _ us hl => match us, hl with | [_, _, _], _ => rfl
  have F10 := fun_mk (st := s_Table_eq) l10 c10 k10
  have b10 := F10.binds (ps := ["self", "other"]) fun _ _ _ _ _ _ us hl => match us, hl with | [_, _], _ => rfl
  have F11 := fun_mk (st := s_are_tables) l11 c11 k11
  have b11 := F11.binds (ps := ["value", "most"]) fun _ _ _ _ _ _ us hl => match us, hl with | [_, _], _ => rfl
  have F12 := fun_mk (st := s_by_names) l12 c12 k12
  have b12 := F12.binds (ps := ["tables"]) fun _ _ _ _ _ _ us hl => match us, hl with | [_], _ => rfl
  have F13 := fun_mk (st := s_is_row_of) l13 c13 k13
  have b13 := F13.binds (ps := ["table", "value"]) fun _ _ _ _ _ _ us hl => match us, hl with | [_, _], _ => rfl
  have F14 := fun_mk (st := s_are_rows_of) l14 c14 k14
  have b14 := F14.binds (ps := ["table", "value"]) fun _ _ _ _ _ _ us hl => match us, hl with | [_, _], _ => rfl
  have F15 := fun_mk (st := s_World_init) l15 c15 k15
  have b15 := F15.binds (ps := ["self", "tables", "rows"]) fun _ _ _ _ _ _ us hl => match us, hl with | [_, _, _], _ => rfl
  have F16 := fun_mk (st := s_World_index) l16 c16 k16
  have b16 := F16.binds (ps := ["self", "name"]) fun _ _ _ _ _ _ us hl => match us, hl with | [_, _], _ => rfl
  have F17 := fun_mk (st := s_World_need_index) l17 c17 k17
  have b17 := F17.binds (ps := ["self", "name"]) fun _ _ _ _ _ _ us hl => match us, hl with | [_, _], _ => rfl
  have F18 := fun_mk (st := s_World_rows_of) l18 c18 k18
  have b18 := F18.binds (ps := ["self", "name"]) fun _ _ _ _ _ _ us hl => match us, hl with | [_, _], _ => rfl
  have F19 := fun_mk (st := s_need_world) l19 c19 k19
  have b19 := F19.binds (ps := ["value"]) fun _ _ _ _ _ _ us hl => match us, hl with | [_], _ => rfl
  have F20 := fun_mk (st := s_need_tables) l20 c20 k20
  have b20 := F20.binds (ps := ["world", "tables"]) fun _ _ _ _ _ _ us hl => match us, hl with | [_, _], _ => rfl
  have F21 := fun_mk (st := s_is_threshold) l21 c21 k21
  have b21 := F21.binds (ps := ["value"]) fun _ _ _ _ _ _ us hl => match us, hl with | [_], _ => rfl
  have F22 := fun_mk (st := s_Split_init) l22 c22 k22
  have b22 := F22.binds (ps := ["self", "table", "column", "threshold"]) fun _ _ _ _ _ _ us hl => match us, hl with | [_, _, _, _], _ => rfl
  have F23 := fun_mk (st := s_crowds) l23 c23 k23
  have b23 := F23.binds (ps := ["rows", "column"]) fun _ _ _ _ _ _ us hl => match us, hl with | [_, _], _ => rfl
  have F24 := fun_mk (st := s_parts_of) l24 c24 k24
  have b24 := F24.binds (ps := ["rows", "split", "base"]) fun _ _ _ _ _ _ us hl => match us, hl with | [_, _, _], _ => rfl
  have F25 := fun_mk (st := s_need_split) l25 c25 k25
  have b25 := F25.binds (ps := ["value"]) fun _ _ _ _ _ _ us hl => match us, hl with | [_], _ => rfl
  have F26 := fun_mk (st := s_need_base) l26 c26 k26
  have b26 := F26.binds (ps := ["value"]) fun _ _ _ _ _ _ us hl => match us, hl with | [_], _ => rfl
  have F27 := fun_mk (st := s_parted) l27 c27 k27
  have b27 := F27.binds (ps := ["world", "split", "base"]) fun _ _ _ _ _ _ us hl => match us, hl with | [_, _, _], _ => rfl
  have F28 := fun_mk (st := s__law_pen) l28 c28 k28
  have b28 := F28.binds (ps := ["script"]) fun _ _ _ _ _ _ us hl => match us, hl with | [_], _ => rfl
  have F29 := fun_mk (st := s__law_draw) l29 c29 k29
  have b29 := F29.binds (ps := ["pen", "many"]) fun _ _ _ _ _ _ us hl => match us, hl with | [_, _], _ => rfl
  have F30 := fun_mk (st := s__law_pick) l30 c30 k30
  have b30 := F30.binds (ps := ["pen", "some"]) fun _ _ _ _ _ _ us hl => match us, hl with | [_, _], _ => rfl
  have F31 := fun_mk (st := s__law_name) l31 c31 k31
  have b31 := F31.binds (ps := ["pen"]) fun _ _ _ _ _ _ us hl => match us, hl with | [_], _ => rfl
  have F32 := fun_mk (st := s__law_rows) l32 c32 k32
  have b32 := F32.binds (ps := ["pen", "width", "most", "reach"]) fun _ _ _ _ _ _ us hl => match us, hl with | [_, _, _, _], _ => rfl
  have F33 := fun_mk (st := s__law_crowds) l33 c33 k33
  have b33 := F33.binds (ps := ["rows", "column"]) fun _ _ _ _ _ _ us hl => match us, hl with | [_, _], _ => rfl
  have F34 := fun_mk (st := s__law_power) l34 c34 k34
  have b34 := F34.binds (ps := ["number", "many"]) fun _ _ _ _ _ _ us hl => match us, hl with | [_, _], _ => rfl
  have F35 := fun_mk (st := s__law_is_light) l35 c35 k35
  have b35 := F35.binds (ps := ["many", "base", "threshold"]) fun _ _ _ _ _ _ us hl => match us, hl with | [_, _, _], _ => rfl
  have F36 := fun_mk (st := s__law_parts) l36 c36 k36
  have b36 := F36.binds (ps := ["rows", "column", "threshold", "base"]) fun _ _ _ _ _ _ us hl => match us, hl with | [_, _, _, _], _ => rfl
  have F37 := fun_mk (st := s__law_threshold) l37 c37 k37
  have b37 := F37.binds (ps := ["pen"]) fun _ _ _ _ _ _ us hl => match us, hl with | [_], _ => rfl
  have F38 := fun_mk (st := s_law) l38 c38 k38
  refine ⟨PySem.W.fnOf "law" "law" (defArgs s_law) (defBody s_law) (defScope s_law) .none kV38 dc38 pm38 an38 cd38 ct38, fun s v => .of_eq rfl, fun base _ _ => ?_⟩
  have P0 := f_is_integer (P := l.prog) (wd := w) (base := base) T  F0
  have G_is_integer : Fn l.prog w K mg base 1 "is_integer" (Φ_is_integer K ⟨CTable, CWorld, CSplit, 0, 0, 0, 0, 0, 0, 0, 0, 0, 0, 0⟩) := ⟨_, _, _, P0, PySem.W.mg_of X G a0, k0, b0⟩
  have P1 := f_is_between (P := l.prog) (wd := w) (base := base) T G_is_integer F1
  have G_is_between : Fn l.prog w K mg base 2 "is_between" (Φ_is_between K ⟨CTable, CWorld, CSplit, 0, 0, 0, 0, 0, 0, 0, 0, 0, 0, 0⟩) := ⟨_, _, _, P1, PySem.W.mg_of X G a1, k1, b1⟩
  have P2 := f_is_name (P := l.prog) (wd := w) (base := base) T  F2
  have G_is_name : Fn l.prog w K mg base 1 "is_name" (Φ_is_name K ⟨CTable, CWorld, CSplit, 0, 0, 0, 0, 0, 0, 0, 0, 0, 0, 0⟩) := ⟨_, _, _, P2, PySem.W.mg_of X G a2, k2, b2⟩
  have P3 := f_is_listed (P := l.prog) (wd := w) (base := base) T  F3
  have G_is_listed : Fn l.prog w K mg base 1 "is_listed" (Φ_is_listed K ⟨CTable, CWorld, CSplit, 0, 0, 0, 0, 0, 0, 0, 0, 0, 0, 0⟩) := ⟨_, _, _, P3, PySem.W.mg_of X G a3, k3, b3⟩
  have P4 := f_is_row (P := l.prog) (wd := w) (base := base) T G_is_listed F4
  have G_is_row : Fn l.prog w K mg base 2 "is_row" (Φ_is_row K ⟨CTable, CWorld, CSplit, 0, 0, 0, 0, 0, 0, 0, 0, 0, 0, 0⟩) := ⟨_, _, _, P4, PySem.W.mg_of X G a4, k4, b4⟩
  have P5 := f_common_part (P := l.prog) (wd := w) (base := base) T  F5
  have G_common_part : Fn l.prog w K mg base 1 "common_part" (Φ_common_part K ⟨CTable, CWorld, CSplit, 0, 0, 0, 0, 0, 0, 0, 0, 0, 0, 0⟩) := ⟨_, _, _, P5, PySem.W.mg_of X G a5, k5, b5⟩
  have P6 := f_lowest (P := l.prog) (wd := w) (base := base) T G_common_part F6
  have G_lowest : Fn l.prog w K mg base 2 "lowest" (Φ_lowest K ⟨CTable, CWorld, CSplit, 0, 0, 0, 0, 0, 0, 0, 0, 0, 0, 0⟩) := ⟨_, _, _, P6, PySem.W.mg_of X G a6, k6, b6⟩
  have P7 := f_power (P := l.prog) (wd := w) (base := base) T  F7
  have G_power : Fn l.prog w K mg base 1 "power" (Φ_power K ⟨CTable, CWorld, CSplit, 0, 0, 0, 0, 0, 0, 0, 0, 0, 0, 0⟩) := ⟨_, _, _, P7, PySem.W.mg_of X G a7, k7, b7⟩
  have P8 := f_is_at_most (P := l.prog) (wd := w) (base := base) T G_power F8
  have G_is_at_most : Fn l.prog w K mg base 2 "is_at_most" (Φ_is_at_most K ⟨CTable, CWorld, CSplit, 0, 0, 0, 0, 0, 0, 0, 0, 0, 0, 0⟩) := ⟨_, _, _, P8, PySem.W.mg_of X G a8, k8, b8⟩
  have P9 := f_Table_init (P := l.prog) (wd := w) (base := base) T G_is_between G_is_name F9
  have M_Table : Kl l.prog w K mg base 3 "Table" CTable (Φ_Table_init K ⟨CTable, CWorld, CSplit, 0, 0, 0, 0, 0, 0, 0, 0, 0, 0, 0⟩) := ⟨_, _, _, P9, ⟨mkTable, a9, i9, kcTable⟩, PySem.W.mg_of X G aTable, b9⟩
  have P10 := f_Table_eq (P := l.prog) (wd := w) (base := base) T  F10
  have Q_Table : Qe l.prog w K mg base 1 CTable (Φ_Table_eq K ⟨CTable, CWorld, CSplit, 0, 0, 0, 0, 0, 0, 0, 0, 0, 0, 0⟩) := ⟨_, _, _, P10, a10, i10, b10⟩
  have P11 := f_are_tables (P := l.prog) (wd := w) (base := base) T G_is_row F11
  have G_are_tables : Fn l.prog w K mg base 3 "are_tables" (Φ_are_tables K ⟨CTable, CWorld, CSplit, 0, 0, 0, 0, 0, 0, 0, 0, 0, 0, 0⟩) := ⟨_, _, _, P11, PySem.W.mg_of X G a11, k11, b11⟩
  have P12 := f_by_names (P := l.prog) (wd := w) (base := base) T  F12
  have G_by_names : Fn l.prog w K mg base 1 "by_names" (Φ_by_names K ⟨CTable, CWorld, CSplit, 0, 0, 0, 0, 0, 0, 0, 0, 0, 0, 0⟩) := ⟨_, _, _, P12, PySem.W.mg_of X G a12, k12, b12⟩
  have P13 := f_is_row_of (P := l.prog) (wd := w) (base := base) T G_is_between G_is_row F13
  have G_is_row_of : Fn l.prog w K mg base 3 "is_row_of" (Φ_is_row_of K ⟨CTable, CWorld, CSplit, 0, 0, 0, 0, 0, 0, 0, 0, 0, 0, 0⟩) := ⟨_, _, _, P13, PySem.W.mg_of X G a13, k13, b13⟩
  have P14 := f_are_rows_of (P := l.prog) (wd := w) (base := base) T G_is_listed G_is_row_of F14
  have G_are_rows_of : Fn l.prog w K mg base 4 "are_rows_of" (Φ_are_rows_of K ⟨CTable, CWorld, CSplit, 0, 0, 0, 0, 0, 0, 0, 0, 0, 0, 0⟩) := ⟨_, _, _, P14, PySem.W.mg_of X G a14, k14, b14⟩
  have P15 := f_World_init (P := l.prog) (wd := w) (base := base) T G_are_rows_of G_are_tables G_is_row F15
  have M_World : Kl l.prog w K mg base 5 "World" CWorld (Φ_World_init K ⟨CTable, CWorld, CSplit, 0, 0, 0, 0, 0, 0, 0, 0, 0, 0, 0⟩) := ⟨_, _, _, P15, ⟨mkWorld, a15, i15, kcWorld⟩, PySem.W.mg_of X G aWorld, b15⟩
  have P16 := f_World_index (P := l.prog) (wd := w) (base := base) T  F16
  have N_World_index : Mt l.prog w K mg base 1 CWorld "index" (Φ_World_index K ⟨CTable, CWorld, CSplit, 0, 0, 0, 0, 0, 0, 0, 0, 0, 0, 0⟩) := ⟨_, _, _, P16, ⟨a16, i16, k16⟩, T.k_World, b16⟩
  have P17 := f_World_need_index (P := l.prog) (wd := w) (base := base) T N_World_index F17
  have N_World_need_index : Mt l.prog w K mg base 2 CWorld "need_index" (Φ_World_need_index K ⟨CTable, CWorld, CSplit, 0, 0, 0, 0, 0, 0, 0, 0, 0, 0, 0⟩) := ⟨_, _, _, P17, ⟨a17, i17, k17⟩, T.k_World, b17⟩
  have P18 := f_World_rows_of (P := l.prog) (wd := w) (base := base) T N_World_need_index F18
  have N_World_rows_of : Mt l.prog w K mg base 3 CWorld "rows_of" (Φ_World_rows_of K ⟨CTable, CWorld, CSplit, 0, 0, 0, 0, 0, 0, 0, 0, 0, 0, 0⟩) := ⟨_, _, _, P18, ⟨a18, i18, k18⟩, T.k_World, b18⟩
  have P19 := f_need_world (P := l.prog) (wd := w) (base := base) T  F19
  have G_need_world : Fn l.prog w K mg base 1 "need_world" (Φ_need_world K ⟨CTable, CWorld, CSplit, 0, 0, 0, 0, 0, 0, 0, 0, 0, 0, 0⟩) := ⟨_, _, _, P19, PySem.W.mg_of X G a19, k19, b19⟩
  have P20 := f_need_tables (P := l.prog) (wd := w) (base := base) T G_by_names Q_Table F20
  have G_need_tables : Fn l.prog w K mg base 2 "need_tables" (Φ_need_tables K ⟨CTable, CWorld, CSplit, 0, 0, 0, 0, 0, 0, 0, 0, 0, 0, 0⟩) := ⟨_, _, _, P20, PySem.W.mg_of X G a20, k20, b20⟩
  have P21 := f_is_threshold (P := l.prog) (wd := w) (base := base) T G_is_between G_is_row F21
  have G_is_threshold : Fn l.prog w K mg base 3 "is_threshold" (Φ_is_threshold K ⟨CTable, CWorld, CSplit, 0, 0, 0, 0, 0, 0, 0, 0, 0, 0, 0⟩) := ⟨_, _, _, P21, PySem.W.mg_of X G a21, k21, b21⟩
  have P22 := f_Split_init (P := l.prog) (wd := w) (base := base) T G_is_between G_is_threshold G_lowest F22
  have M_Split : Kl l.prog w K mg base 4 "Split" CSplit (Φ_Split_init K ⟨CTable, CWorld, CSplit, 0, 0, 0, 0, 0, 0, 0, 0, 0, 0, 0⟩) := ⟨_, _, _, P22, ⟨mkSplit, a22, i22, kcSplit⟩, PySem.W.mg_of X G aSplit, b22⟩
  have P23 := f_crowds (P := l.prog) (wd := w) (base := base) T  F23
  have G_crowds : Fn l.prog w K mg base 1 "crowds" (Φ_crowds K ⟨CTable, CWorld, CSplit, 0, 0, 0, 0, 0, 0, 0, 0, 0, 0, 0⟩) := ⟨_, _, _, P23, PySem.W.mg_of X G a23, k23, b23⟩
  have P24 := f_parts_of (P := l.prog) (wd := w) (base := base) T G_crowds G_is_at_most F24
  have G_parts_of : Fn l.prog w K mg base 3 "parts_of" (Φ_parts_of K ⟨CTable, CWorld, CSplit, 0, 0, 0, 0, 0, 0, 0, 0, 0, 0, 0⟩) := ⟨_, _, _, P24, PySem.W.mg_of X G a24, k24, b24⟩
  have P25 := f_need_split (P := l.prog) (wd := w) (base := base) T  F25
  have G_need_split : Fn l.prog w K mg base 1 "need_split" (Φ_need_split K ⟨CTable, CWorld, CSplit, 0, 0, 0, 0, 0, 0, 0, 0, 0, 0, 0⟩) := ⟨_, _, _, P25, PySem.W.mg_of X G a25, k25, b25⟩
  have P26 := f_need_base (P := l.prog) (wd := w) (base := base) T G_is_between F26
  have G_need_base : Fn l.prog w K mg base 3 "need_base" (Φ_need_base K ⟨CTable, CWorld, CSplit, 0, 0, 0, 0, 0, 0, 0, 0, 0, 0, 0⟩) := ⟨_, _, _, P26, PySem.W.mg_of X G a26, k26, b26⟩
  have P27 := f_parted (P := l.prog) (wd := w) (base := base) T G_need_base G_need_split G_need_tables G_need_world G_parts_of N_World_rows_of F27
  have G_parted : Fn l.prog w K mg base 4 "parted" (Φ_parted K ⟨CTable, CWorld, CSplit, 0, 0, 0, 0, 0, 0, 0, 0, 0, 0, 0⟩) := ⟨_, _, _, P27, PySem.W.mg_of X G a27, k27, b27⟩
  have GK_parted_210 : FnK l.prog w K mg base 4 "parted" (Φ_parted K ⟨CTable, CWorld, CSplit, 0, 0, 0, 0, 0, 0, 0, 0, 0, 0, 0⟩) ["base", "split", "world"] [2, 1, 0] := ⟨_, _, _, P27, PySem.W.mg_of X G a27, k27, kbn_of F27 (fun _ _ _ _ _ _ us hl => match us, hl with | [_, _, _], _ => rfl)⟩
  have P28 := f__law_pen (P := l.prog) (wd := w) (base := base) T  F28
  have G__law_pen : Fn l.prog w K mg base 1 "_law_pen" (Φ__law_pen K ⟨CTable, CWorld, CSplit, 0, 0, 0, 0, 0, 0, 0, 0, 0, 0, 0⟩) := ⟨_, _, _, P28, PySem.W.mg_of X G a28, k28, b28⟩
  have P29 := f__law_draw (P := l.prog) (wd := w) (base := base) T  F29
  have G__law_draw : Fn l.prog w K mg base 1 "_law_draw" (Φ__law_draw K ⟨CTable, CWorld, CSplit, 0, 0, 0, 0, 0, 0, 0, 0, 0, 0, 0⟩) := ⟨_, _, _, P29, PySem.W.mg_of X G a29, k29, b29⟩
  have P30 := f__law_pick (P := l.prog) (wd := w) (base := base) T G__law_draw F30
  have G__law_pick : Fn l.prog w K mg base 2 "_law_pick" (Φ__law_pick K ⟨CTable, CWorld, CSplit, 0, 0, 0, 0, 0, 0, 0, 0, 0, 0, 0⟩) := ⟨_, _, _, P30, PySem.W.mg_of X G a30, k30, b30⟩
  have P31 := f__law_name (P := l.prog) (wd := w) (base := base) T G__law_draw G__law_pick F31
  have G__law_name : Fn l.prog w K mg base 3 "_law_name" (Φ__law_name K ⟨CTable, CWorld, CSplit, 0, 0, 0, 0, 0, 0, 0, 0, 0, 0, 0⟩) := ⟨_, _, _, P31, PySem.W.mg_of X G a31, k31, b31⟩
  have P32 := f__law_rows (P := l.prog) (wd := w) (base := base) T G__law_draw G__law_pick F32
  have G__law_rows : Fn l.prog w K mg base 3 "_law_rows" (Φ__law_rows K ⟨CTable, CWorld, CSplit, 0, 0, 0, 0, 0, 0, 0, 0, 0, 0, 0⟩) := ⟨_, _, _, P32, PySem.W.mg_of X G a32, k32, b32⟩
  have P33 := f__law_crowds (P := l.prog) (wd := w) (base := base) T  F33
  have G__law_crowds : Fn l.prog w K mg base 1 "_law_crowds" (Φ__law_crowds K ⟨CTable, CWorld, CSplit, 0, 0, 0, 0, 0, 0, 0, 0, 0, 0, 0⟩) := ⟨_, _, _, P33, PySem.W.mg_of X G a33, k33, b33⟩
  have P34 := f__law_power (P := l.prog) (wd := w) (base := base) T  F34
  have G__law_power : Fn l.prog w K mg base 1 "_law_power" (Φ__law_power K ⟨CTable, CWorld, CSplit, 0, 0, 0, 0, 0, 0, 0, 0, 0, 0, 0⟩) := ⟨_, _, _, P34, PySem.W.mg_of X G a34, k34, b34⟩
  have P35 := f__law_is_light (P := l.prog) (wd := w) (base := base) T G__law_power F35
  have G__law_is_light : Fn l.prog w K mg base 2 "_law_is_light" (Φ__law_is_light K ⟨CTable, CWorld, CSplit, 0, 0, 0, 0, 0, 0, 0, 0, 0, 0, 0⟩) := ⟨_, _, _, P35, PySem.W.mg_of X G a35, k35, b35⟩
  have P36 := f__law_parts (P := l.prog) (wd := w) (base := base) T G__law_crowds G__law_is_light F36
  have G__law_parts : Fn l.prog w K mg base 3 "_law_parts" (Φ__law_parts K ⟨CTable, CWorld, CSplit, 0, 0, 0, 0, 0, 0, 0, 0, 0, 0, 0⟩) := ⟨_, _, _, P36, PySem.W.mg_of X G a36, k36, b36⟩
  have P37 := f__law_threshold (P := l.prog) (wd := w) (base := base) T G__law_pick F37
  have G__law_threshold : Fn l.prog w K mg base 3 "_law_threshold" (Φ__law_threshold K ⟨CTable, CWorld, CSplit, 0, 0, 0, 0, 0, 0, 0, 0, 0, 0, 0⟩) := ⟨_, _, _, P37, PySem.W.mg_of X G a37, k37, b37⟩
  exact f_law (P := l.prog) (wd := w) (base := base) T GK_parted_210 G__law_crowds G__law_draw G__law_name G__law_parts G__law_pen G__law_pick G__law_power G__law_rows G__law_threshold G_parted M_Split M_Table M_World F38
end L2.TL.W
/-! text K07z3 -/
set_option Elab.async false
set_option linter.all false
set_option maxRecDepth 100000
set_option maxHeartbeats 4000000
namespace L2.TL.W
open PySem PySem.Spec PyProof.Rows L2.TL
theorem walk {l : PySem.W.OpenLaw} {q : Program} {loose : List Str} {XP : (Str → Option Value) → Heap → Prop} {YP : World → Heap → Prop} {d : DefRec} {K : Params → PySem.W.Frag} (hn : l.most = some 63) (hdf : d.params.defaults = [])
    (hY : ∀ (w : World) (h : Heap), YP w h → (K w.params).In h)
    (F : ∀ (w : World) (mg : Str → Option Value) (fa : Addr) (h : Heap), (K w.params).In h → h.Ns mainGlobals mg → mg d.name = some (.ref fa) →
      ∃ fd : FuncData, (∀ (s : Shared) (u : Value), BindsTo s fd ⟨[u], []⟩ [("script", u)]) ∧ ∀ base : Heap, (K w.params).In base → base.Ns mainGlobals mg → FnG l.prog w (K w.params) mg base 7 fa fd ["script"] (spT (K w.params) (Φ_law (K w.params) c0))) :
    PySem.W.WalkO q loose XP YP l.row.toRowW d [] (fun f vs => PySem.call f vs) :=
  walk_g (sp := fun K => spT K (Φ_law K L2.TL.W.c0)) hn (by decide) hdf ⟨rfl, by decide, by decide⟩ hY F fun K H a ns hl hS => sp_law hl hS
end L2.TL.W
open PySem PySem.W PyProof.Rows
set_option maxRecDepth 100000 in
set_option maxHeartbeats 0 in
theorem PySem.Challenge.cw_crowdsplit_k07_parts_by_own_counting_holds : PySem.Challenge.rw_crowdsplit_k07_parts_by_own_counting.Holds := by
  w_on; o_law; k_head; (case hw => w_witness2)
  k_fill
  refine L2.TL.W.walk (l := PySem.Challenge.rw_crowdsplit_k07_parts_by_own_counting) rfl rfl (fun w h Y => PySem.W.kIn_of Y) ?F
  case F =>
    intro w mg fa h KX G hmg
    refine' L2.TL.W.all_mk KX G hmg ?aTable ?aWorld ?aSplit ?a0 ?l0 ?c0 ?k0 ?a1 ?l1 ?c1 ?k1 ?a2 ?l2 ?c2 ?k2 ?a3 ?l3 ?c3 ?k3 ?a4 ?l4 ?c4 ?k4 ?a5 ?l5 ?c5 ?k5 ?a6 ?l6 ?c6 ?k6 ?a7 ?l7 ?c7 ?k7 ?a8 ?l8 ?c8 ?k8 ?a9 ?i9 ?l9 ?c9 ?k9 ?a10 ?i10 ?l10 ?c10 ?k10 ?a11 ?l11 ?c11 ?k11 ?a12 ?l12 ?c12 ?k12 ?a13 ?l13 ?c13 ?k13 ?a14 ?l14 ?c14 ?k14 ?a15 ?i15 ?l15 ?c15 ?k15 ?a16 ?i16 ?l16 ?c16 ?k16 ?a17 ?i17 ?l17 ?c17 ?k17 ?a18 ?i18 ?l18 ?c18 ?k18 ?a19 ?l19 ?c19 ?k19 ?a20 ?l20 ?c20 ?k20 ?a21 ?l21 ?c21 ?k21 ?a22 ?i22 ?l22 ?c22 ?k22 ?a23 ?l23 ?c23 ?k23 ?a24 ?l24 ?c24 ?k24 ?a25 ?l25 ?c25 ?k25 ?a26 ?l26 ?c26 ?k26 ?a27 ?l27 ?c27 ?k27 ?a28 ?l28 ?c28 ?k28 ?a29 ?l29 ?c29 ?k29 ?a30 ?l30 ?c30 ?k30 ?a31 ?l31 ?c31 ?k31 ?a32 ?l32 ?c32 ?k32 ?a33 ?l33 ?c33 ?k33 ?a34 ?l34 ?c34 ?k34 ?a35 ?l35 ?c35 ?k35 ?a36 ?l36 ?c36 ?k36 ?a37 ?l37 ?c37 ?k37 ?a38 ?l38 ?c38 ?k38 ?pgTable ?hdTable ?poTable ?saTable ?mkTable ?kcTable ?haTable ?hmTable ?pgWorld ?hdWorld ?poWorld ?saWorld ?mkWorld ?kcWorld ?haWorld ?hmWorld ?pgSplit ?hdSplit ?poSplit ?saSplit ?mkSplit ?kcSplit ?haSplit ?hmSplit ?hn ?ht ?zb_abs ?zb_all ?zb_bool ?zb_dict ?zb_enumerate ?zb_int ?zb_isinstance ?zb_len ?zb_list ?zb_max ?zb_range ?zb_repr ?zb_sorted ?zb_str ?zb_tuple ?zb_zip ?zn_Split_column ?zn_Split_table ?zn_Split_threshold ?zn_Table_name ?zn_Table_width ?zn_World_rows ?zn_World_tables ?zc_LETTERS ?zc_MOST_BASE ?zc_MOST_PART ?zc_MOST_ROWS ?zc_MOST_SIGNS ?zc_MOST_TABLES ?zc_MOST_VALUE ?zc_MOST_WIDTH
    (case aTable => k_is)
    (case aWorld => k_is)
    (case aSplit => k_is)
    (case a0 => k_is)
    (case l0 => k_is)
    (case c0 => k_is)
    (case k0 => k_is)
    (case a1 => k_is)
    (case l1 => k_is)
    (case c1 => k_is)
    (case k1 => k_is)
    (case a2 => k_is)
    (case l2 => k_is)
    (case c2 => k_is)
    (case k2 => k_is)
    (case a3 => k_is)
    (case l3 => k_is)
    (case c3 => k_is)
    (case k3 => k_is)
    (case a4 => k_is)
    (case l4 => k_is)
    (case c4 => k_is)
    (case k4 => k_is)
    (case a5 => k_is)
    (case l5 => k_is)
    (case c5 => k_is)
    (case k5 => k_is)
    (case a6 => k_is)
    (case l6 => k_is)
    (case c6 => k_is)
    (case k6 => k_is)
    (case a7 => k_is)
    (case l7 => k_is)
    (case c7 => k_is)
    (case k7 => k_is)
    (case a8 => k_is)
    (case l8 => k_is)
    (case c8 => k_is)
    (case k8 => k_is)
    (case a9 => k_is)
    (case i9 => k_is)
    (case l9 => k_is)
    (case c9 => k_is)
    (case k9 => k_is)
    (case a10 => k_is)
    (case i10 => k_is)
    (case l10 => k_is)
    (case c10 => k_is)
    (case k10 => k_is)
    (case a11 => k_is)
    (case l11 => k_is)
    (case c11 => k_is)
    (case k11 => k_is)
    (case a12 => k_is)
    (case l12 => k_is)
    (case c12 => k_is)
    (case k12 => k_is)
    (case a13 => k_is)
    (case l13 => k_is)
    (case c13 => k_is)
    (case k13 => k_is)
    (case a14 => k_is)
    (case l14 => k_is)
    (case c14 => k_is)
    (case k14 => k_is)
    (case a15 => k_is)
    (case i15 => k_is)
    (case l15 => k_is)
    (case c15 => k_is)
    (case k15 => k_is)
    (case a16 => k_is)
    (case i16 => k_is)
    (case l16 => k_is)
    (case c16 => k_is)
    (case k16 => k_is)
    (case a17 => k_is)
    (case i17 => k_is)
    (case l17 => k_is)
    (case c17 => k_is)
    (case k17 => k_is)
    (case a18 => k_is)
    (case i18 => k_is)
    (case l18 => k_is)
    (case c18 => k_is)
    (case k18 => k_is)
    (case a19 => k_is)
    (case l19 => k_is)
    (case c19 => k_is)
    (case k19 => k_is)
    (case a20 => k_is)
    (case l20 => k_is)
    (case c20 => k_is)
    (case k20 => k_is)
    (case a21 => k_is)
    (case l21 => k_is)
    (case c21 => k_is)
    (case k21 => k_is)
    (case a22 => k_is)
    (case i22 => k_is)
    (case l22 => k_is)
    (case c22 => k_is)
    (case k22 => k_is)
    (case a23 => k_is)
    (case l23 => k_is)
    (case c23 => k_is)
    (case k23 => k_is)
    (case a24 => k_is)
    (case l24 => k_is)
    (case c24 => k_is)
    (case k24 => k_is)
    (case a25 => k_is)
    (case l25 => k_is)
    (case c25 => k_is)
    (case k25 => k_is)
    (case a26 => k_is)
    (case l26 => k_is)
    (case c26 => k_is)
    (case k26 => k_is)
    (case a27 => k_is)
    (case l27 => k_is)
    (case c27 => k_is)
    (case k27 => k_is)
    (case a28 => k_is)
    (case l28 => k_is)
    (case c28 => k_is)
    (case k28 => k_is)
    (case a29 => k_is)
    (case l29 => k_is)
    (case c29 => k_is)
    (case k29 => k_is)
    (case a30 => k_is)
    (case l30 => k_is)
    (case c30 => k_is)
    (case k30 => k_is)
    (case a31 => k_is)
    (case l31 => k_is)
    (case c31 => k_is)
    (case k31 => k_is)
    (case a32 => k_is)
    (case l32 => k_is)
    (case c32 => k_is)
    (case k32 => k_is)
    (case a33 => k_is)
    (case l33 => k_is)
    (case c33 => k_is)
    (case k33 => k_is)
    (case a34 => k_is)
    (case l34 => k_is)
    (case c34 => k_is)
    (case k34 => k_is)
    (case a35 => k_is)
    (case l35 => k_is)
    (case c35 => k_is)
    (case k35 => k_is)
    (case a36 => k_is)
    (case l36 => k_is)
    (case c36 => k_is)
    (case k36 => k_is)
    (case a37 => k_is)
    (case l37 => k_is)
    (case c37 => k_is)
    (case k37 => k_is)
    (case a38 => k_is)
    (case l38 => k_is)
    (case c38 => k_is)
    (case k38 => k_is)
    (case pgTable => k_is)
    (case hdTable => k_is)
    (case poTable => k_is)
    (case saTable => k_is)
    (case mkTable => k_is)
    (case kcTable => k_is)
    (case haTable => k_is)
    (case hmTable => k_is)
    (case pgWorld => k_is)
    (case hdWorld => k_is)
    (case poWorld => k_is)
    (case saWorld => k_is)
    (case mkWorld => k_is)
    (case kcWorld => k_is)
    (case haWorld => k_is)
    (case hmWorld => k_is)
    (case pgSplit => k_is)
    (case hdSplit => k_is)
    (case poSplit => k_is)
    (case saSplit => k_is)
    (case mkSplit => k_is)
    (case kcSplit => k_is)
    (case haSplit => k_is)
    (case hmSplit => k_is)
    (case hn => k_is)
    (case ht => k_is)
    (case zb_abs => k_is)
    (case zb_all => k_is)
    (case zb_bool => k_is)
    (case zb_dict => k_is)
    (case zb_enumerate => k_is)
    (case zb_int => k_is)
    (case zb_isinstance => k_is)
    (case zb_len => k_is)
    (case zb_list => k_is)
    (case zb_max => k_is)
    (case zb_range => k_is)
    (case zb_repr => k_is)
    (case zb_sorted => k_is)
    (case zb_str => k_is)
    (case zb_tuple => k_is)
    (case zb_zip => k_is)
    (case zn_Split_column => k_is)
    (case zn_Split_table => k_is)
    (case zn_Split_threshold => k_is)
    (case zn_Table_name => k_is)
    (case zn_Table_width => k_is)
    (case zn_World_rows => k_is)
    (case zn_World_tables => k_is)
    (case zc_LETTERS => k_is)
    (case zc_MOST_BASE => k_is)
    (case zc_MOST_PART => k_is)
    (case zc_MOST_ROWS => k_is)
    (case zc_MOST_SIGNS => k_is)
    (case zc_MOST_TABLES => k_is)
    (case zc_MOST_VALUE => k_is)
    (case zc_MOST_WIDTH => k_is)
#print axioms PySem.Challenge.cw_crowdsplit_k07_parts_by_own_counting_holds
