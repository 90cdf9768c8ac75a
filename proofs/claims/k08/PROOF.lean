import PyProof.Rows.All
import Wide.All
import OpenK.AllK
import Wide.FinOn
import HandS.ForMost
import HandS.Exc
import HandS.OwnEq
import HandS.Sort
import HandS.CallSlots
import HandS.WordsExc
import HandS.Zip
import HandS.DictComp
import HandS.IsInst
import HandS.Wide
import HandS.Deep
import HandS.TupLen
import HandS.Conv
import HandS.More
import KE.SortData
import KE.GoesEnum
import HandS.Text
import HandS.SlotsOwn
import HandS.TupAny
import HandS.Style
import PySem.Challenge.RW_crowdsplit_k08_whole_parts_at_their_bord
/-! text TL1 -/
set_option Elab.async false
set_option linter.all false
set_option maxRecDepth 100000
set_option maxHeartbeats 2000000
namespace L2.TL
open PySem PySem.Spec PyProof.Rows

/-- values as trees -/
inductive D where
  | non | bl (b : Bool) | int (i : Int) | str (x : Str) | obj (a : Addr) | ty (n : String)
  | lst (xs : List D) | tup (xs : List D)
  | dk (kvs : List (Key × D)) | dt (kvs : List (List Key × D))
  | ins (C : Addr) (fs : List (Str × D))

mutual
/-- v, in the abstract heap H, stands for the tree; what it reaches lies in F -/
def Rep (K : PySem.W.Frag) (F : Addr → Prop) (H : Hp) : D → V → Prop
  | .non, v => v = .non
  | .bl b, v => v = .bl b
  | .int i, v => v = .int i
  | .str x, v => v = .str x
  | .obj a, v => v = .ref a
  | .ty n, v => v = .ty n
  | .lst xs, v => ∃ a vs, v = .ref a ∧ F a ∧ Rd H a (.lst vs) ∧ vs.length ≤ sizeLine ∧ RepL K F H xs vs
  | .tup xs, v => ∃ a vs, v = .ref a ∧ H a = some (.tup vs) ∧ vs.length ≤ sizeLine ∧ RepL K F H xs vs
  | .dk kvs, v => ∃ a ks, v = .ref a ∧ F a ∧ Rd H a (.dK ks) ∧ RepK K F H kvs ks
  | .dt kvs, v => ∃ a ks, v = .ref a ∧ F a ∧ Rd H a (.dT ks) ∧ RepT K F H kvs ks
  | .ins C fs, v => ∃ a dx gs, v = .ref a ∧ F a ∧ H a = some (.ins C dx gs) ∧ RepF K F H fs gs
def RepL (K : PySem.W.Frag) (F : Addr → Prop) (H : Hp) : List D → List V → Prop
  | [], vs => vs = []
  | d :: ds, vs => ∃ v ws, vs = v :: ws ∧ Rep K F H d v ∧ RepL K F H ds ws
def RepK (K : PySem.W.Frag) (F : Addr → Prop) (H : Hp) : List (Key × D) → List (Key × V) → Prop
  | [], vs => vs = []
  | (k, d) :: ds, vs => ∃ v ws, vs = (k, v) :: ws ∧ Rep K F H d v ∧ RepK K F H ds ws
def RepT (K : PySem.W.Frag) (F : Addr → Prop) (H : Hp) : List (List Key × D) → List (List Key × V) → Prop
  | [], vs => vs = []
  | (k, d) :: ds, vs => ∃ v ws, vs = (k, v) :: ws ∧ Rep K F H d v ∧ RepT K F H ds ws
def RepF (K : PySem.W.Frag) (F : Addr → Prop) (H : Hp) : List (Str × D) → List (Str × V) → Prop
  | [], vs => vs = []
  | (k, d) :: ds, vs => ∃ v ws, vs = (k, v) :: ws ∧ Rep K F H d v ∧ RepF K F H ds ws
end

/-- what no lock changes -/
def Solid : HO → Prop
  | .lst _ | .tup _ | .ins _ _ _ | .xd _ => True
  | _ => False
/-- F grows, and what stands at it stays -/
structure Mon (F : Addr → Prop) (H : Hp) (F' : Addr → Prop) (H' : Hp) : Prop where
  sub : ∀ a, F a → F' a
  rd : ∀ a u, F a → Rd H a u → Rd H' a u
  at' : ∀ a o, F a → H a = some o → Solid o → H' a = some o
  tp : ∀ a vs, H a = some (.tup vs) → H' a = some (.tup vs)

section
variable {K : PySem.W.Frag} {F F' : Addr → Prop} {H H' : Hp}
mutual
theorem Rep.mono (m : Mon F H F' H') : ∀ (d : D) (v : V), Rep K F H d v → Rep K F' H' d v
  | .non, v, h => by simpa only [Rep] using h
  | .bl b, v, h => by simpa only [Rep] using h
  | .int i, v, h => by simpa only [Rep] using h
  | .str x, v, h => by simpa only [Rep] using h
  | .obj a, v, h => by simpa only [Rep] using h
  | .ty n, v, h => by simpa only [Rep] using h
  | .lst xs, v, h => by
    simp only [Rep] at h ⊢
    obtain ⟨a, vs, e, f, r, z, q⟩ := h
    exact ⟨a, vs, e, m.sub a f, m.rd a _ f r, z, RepL.mono m xs vs q⟩
  | .tup xs, v, h => by
    simp only [Rep] at h ⊢
    obtain ⟨a, vs, e, r, z, q⟩ := h
    exact ⟨a, vs, e, m.tp a vs r, z, RepL.mono m xs vs q⟩
  | .dk kvs, v, h => by
    simp only [Rep] at h ⊢
    obtain ⟨a, vs, e, f, r, q⟩ := h
    exact ⟨a, vs, e, m.sub a f, m.rd a _ f r, RepK.mono m kvs vs q⟩
  | .dt kvs, v, h => by
    simp only [Rep] at h ⊢
    obtain ⟨a, vs, e, f, r, q⟩ := h
    exact ⟨a, vs, e, m.sub a f, m.rd a _ f r, RepT.mono m kvs vs q⟩
  | .ins C fs, v, h => by
    simp only [Rep] at h ⊢
    obtain ⟨a, dx, gs, e, f, r, q⟩ := h
    exact ⟨a, dx, gs, e, m.sub a f, m.at' a _ f r trivial, RepF.mono m fs gs q⟩
theorem RepL.mono (m : Mon F H F' H') : ∀ (ds : List D) (vs : List V), RepL K F H ds vs → RepL K F' H' ds vs
  | [], vs, h => by simpa only [RepL] using h
  | d :: ds, vs, h => by
    simp only [RepL] at h ⊢
    obtain ⟨v, ws, e, r, q⟩ := h
    exact ⟨v, ws, e, Rep.mono m d v r, RepL.mono m ds ws q⟩
theorem RepK.mono (m : Mon F H F' H') : ∀ (ds : List (Key × D)) (vs : List (Key × V)), RepK K F H ds vs → RepK K F' H' ds vs
  | [], vs, h => by simpa only [RepK] using h
  | (k, d) :: ds, vs, h => by
    simp only [RepK] at h ⊢
    obtain ⟨v, ws, e, r, q⟩ := h
    exact ⟨v, ws, e, Rep.mono m d v r, RepK.mono m ds ws q⟩
theorem RepT.mono (m : Mon F H F' H') : ∀ (ds : List (List Key × D)) (vs : List (List Key × V)), RepT K F H ds vs → RepT K F' H' ds vs
  | [], vs, h => by simpa only [RepT] using h
  | (k, d) :: ds, vs, h => by
    simp only [RepT] at h ⊢
    obtain ⟨v, ws, e, r, q⟩ := h
    exact ⟨v, ws, e, Rep.mono m d v r, RepT.mono m ds ws q⟩
theorem RepF.mono (m : Mon F H F' H') : ∀ (ds : List (Str × D)) (vs : List (Str × V)), RepF K F H ds vs → RepF K F' H' ds vs
  | [], vs, h => by simpa only [RepF] using h
  | (k, d) :: ds, vs, h => by
    simp only [RepF] at h ⊢
    obtain ⟨v, ws, e, r, q⟩ := h
    exact ⟨v, ws, e, Rep.mono m d v r, RepF.mono m ds ws q⟩
end
end

/-- an owned object at a: its own content, what it holds lies in F -/
def Own (K : PySem.W.Frag) (F : Addr → Prop) (H : Hp) : D → Addr → Prop
  | .lst xs, a => ∃ vs, H a = some (.lst vs) ∧ vs.length ≤ sizeLine ∧ RepL K F H xs vs
  | .dk kvs, a => ∃ ks, H a = some (.dK ks) ∧ RepK K F H kvs ks
  | .dt kvs, a => ∃ ks, H a = some (.dT ks) ∧ RepT K F H kvs ks
  | .ins C fs, a => ∃ dx gs, H a = some (.ins C dx gs) ∧ RepF K F H fs gs
  | _, _ => False

theorem Own.there {K : PySem.W.Frag} {F : Addr → Prop} {H : Hp} : ∀ {d : D} {a : Addr}, Own K F H d a → ∃ o, H a = some o
  | .lst _, _, h => ⟨_, h.choose_spec.1⟩
  | .dk _, _, h => ⟨_, h.choose_spec.1⟩
  | .dt _, _, h => ⟨_, h.choose_spec.1⟩
  | .ins _ _, _, h => ⟨_, h.choose_spec.choose_spec.1⟩

theorem Own.mono {K : PySem.W.Frag} {F F' : Addr → Prop} {H H' : Hp} (m : Mon F H F' H') : ∀ {d : D} {a : Addr}, (∀ o, H a = some o → H' a = some o) → Own K F H d a → Own K F' H' d a
  | .lst _, _, s, ⟨vs, e, z, r⟩ => ⟨vs, s _ e, z, RepL.mono m _ _ r⟩
  | .dk _, _, s, ⟨vs, e, r⟩ => ⟨vs, s _ e, RepK.mono m _ _ r⟩
  | .dt _, _, s, ⟨vs, e, r⟩ => ⟨vs, s _ e, RepT.mono m _ _ r⟩
  | .ins _ _, _, s, ⟨dx, gs, e, r⟩ => ⟨dx, gs, s _ e, RepF.mono m _ _ r⟩

theorem Own.rep {K : PySem.W.Frag} {F F' : Addr → Prop} {H : Hp} (hs : ∀ a, F a → F' a) : ∀ {d : D} {a : Addr}, F' a → Own K F H d a → Rep K F' H d (.ref a)
  | .lst _, a, f, ⟨vs, e, z, r⟩ => by
    simp only [Rep]
    exact ⟨a, vs, rfl, f, .inl e, z, RepL.mono ⟨hs, fun _ _ _ q => q, fun _ _ _ q _ => q, fun _ _ q => q⟩ _ _ r⟩
  | .dk _, a, f, ⟨vs, e, r⟩ => by
    simp only [Rep]
    exact ⟨a, vs, rfl, f, .inl e, RepK.mono ⟨hs, fun _ _ _ q => q, fun _ _ _ q _ => q, fun _ _ q => q⟩ _ _ r⟩
  | .dt _, a, f, ⟨vs, e, r⟩ => by
    simp only [Rep]
    exact ⟨a, vs, rfl, f, .inl e, RepT.mono ⟨hs, fun _ _ _ q => q, fun _ _ _ q _ => q, fun _ _ q => q⟩ _ _ r⟩
  | .ins _ _, a, f, ⟨dx, gs, e, r⟩ => by
    simp only [Rep]
    exact ⟨a, dx, gs, rfl, f, e, RepF.mono ⟨hs, fun _ _ _ q => q, fun _ _ _ q _ => q, fun _ _ q => q⟩ _ _ r⟩

/-! ### the state -/
/-- what an expression gives: a shared tree, an owned root, a fresh object -/
inductive R where
  | sh (d : D) | ow (k : Nat) | fr (d : D)
abbrev Os := List (Option D)
structure En where
  ρ : List (Option R)
  os : Os

def Live (as : List Addr) (os : Os) (a : Addr) : Prop := ∃ (k : Nat) (d : D), as[k]? = some a ∧ os[k]? = some (some d)

structure HS (K : PySem.W.Frag) (as : List Addr) (os : Os) (F : Addr → Prop) (H : Hp) : Prop where
  own : ∀ (k : Nat) (d : D), os[k]? = some (some d) → ∃ a, as[k]? = some a ∧ Own K F H d a ∧ ¬ F a
  nd : as.Nodup
  dom : ∀ a, F a → H a ≠ none
  asd : ∀ a, a ∈ as → H a ≠ none
  len : os.length = as.length

theorem Live.mem {as : List Addr} {os : Os} {a : Addr} (h : Live as os a) : a ∈ as := let ⟨_, _, e, _⟩ := h; List.mem_of_getElem? e
theorem HS.dis {K : PySem.W.Frag} {as : List Addr} {os : Os} {F : Addr → Prop} {H : Hp} (h : HS K as os F H) {a : Addr} (l : Live as os a) : ¬ F a := by
  obtain ⟨k, d, e1, e2⟩ := l
  obtain ⟨b, e3, _, nf⟩ := h.own k d e2
  rw [e1] at e3; cases e3; exact nf

theorem Own.notup {K : PySem.W.Frag} {F : Addr → Prop} {H : Hp} : ∀ {d : D} {a : Addr}, Own K F H d a → ∀ vs, H a ≠ some (.tup vs)
  | .lst _, _, ⟨_, e, _⟩, _ => by rw [e]; exact fun z => nomatch z
  | .dk _, _, ⟨_, e, _⟩, _ => by rw [e]; exact fun z => nomatch z
  | .dt _, _, ⟨_, e, _⟩, _ => by rw [e]; exact fun z => nomatch z
  | .ins _ _, _, ⟨_, _, e, _⟩, _ => by rw [e]; exact fun z => nomatch z
theorem HS.notup {K : PySem.W.Frag} {as : List Addr} {os : Os} {F : Addr → Prop} {H : Hp} (h : HS K as os F H) {a : Addr} {vs : List V} (e : H a = some (.tup vs)) : ¬ Live as os a := fun ⟨k, d, e1, e2⟩ => by
  obtain ⟨b, e3, own, _⟩ := h.own k d e2
  rw [e1] at e3; cases e3
  exact own.notup vs e

def Dic : HO → Prop
  | .dK _ | .dT _ => True
  | _ => False
/-- o still stands at a; a shared dict may have been locked for good -/
def Lk (F' : Addr → Prop) (H' : Hp) (a : Addr) (o : HO) : Prop := H' a = some o ∨ (F' a ∧ Dic o ∧ ∃ od, H' a = some (.frz od o))
theorem Lk.at {F' : Addr → Prop} {H' : Hp} {a : Addr} {o : HO} (h : Lk F' H' a o) (n : ¬ Dic o) : H' a = some o := h.elim id fun h => absurd h.2.1 n
theorem Lk.out {F' : Addr → Prop} {H' : Hp} {a : Addr} {o : HO} (h : Lk F' H' a o) (n : ¬ F' a) : H' a = some o := h.elim id fun h => absurd h.1 n
theorem Lk.some {F' : Addr → Prop} {H' : Hp} {a : Addr} {o : HO} (h : Lk F' H' a o) : H' a ≠ none := by
  rcases h with h | ⟨_, _, od, h⟩
  · rw [h]; exact fun z => nomatch z
  · rw [h]; exact fun z => nomatch z
theorem Lk.trans {F1 F2 : Addr → Prop} {H1 H2 : Hp} {a : Addr} {o : HO} (h : Lk F1 H1 a o) (hf : F1 a → F2 a) (t : ∀ o, H1 a = .some o → Lk F2 H2 a o) : Lk F2 H2 a o := by
  rcases h with h | ⟨f, d, od, h⟩
  · exact t o h
  · exact .inr ⟨hf f, d, od, (t _ h).at fun z => z⟩
theorem Lk.to {F1 F2 : Addr → Prop} {H1 H2 : Hp} {a : Addr} {o : HO} (h : Lk F1 H1 a o) (hf : F1 a → F2 a) (t : ∀ o, H1 a = .some o → H2 a = .some o) : Lk F2 H2 a o := h.trans hf fun o e => .inl (t o e)

structure Step (as : List Addr) (os : Os) (F : Addr → Prop) (H : Hp) (as' : List Addr) (os' : Os) (F' : Addr → Prop) (H' : Hp) : Prop where
  sub : ∀ a, F a → F' a
  new : ∀ a, F' a → F a ∨ H a = none ∨ Live as os a
  stay : ∀ a o, H a = some o → ¬ Live as os a → Lk F' H' a o
  liv : ∀ a, Live as' os' a → Live as os a ∨ H a = none
  pre : as <+: as'
  ext : ∀ a, a ∈ as' → a ∈ as ∨ H a = none

theorem Step.refl {as : List Addr} {os : Os} {F : Addr → Prop} {H : Hp} : Step as os F H as os F H :=
  ⟨fun _ h => h, fun _ h => .inl h, fun _ _ h _ => .inl h, fun _ h => .inl h, List.prefix_refl _, fun _ h => .inl h⟩

theorem Step.fresh {as as' : List Addr} {os os' : Os} {F F' : Addr → Prop} {H H' : Hp} (s : Step as os F H as' os' F' H') {a : Addr} (h : H' a = none) : H a = none ∨ Live as os a := by
  by_cases l : Live as os a
  · exact .inr l
  · cases e : H a with
    | none => exact .inl rfl
    | some o => exact absurd h (s.stay a o e l).some

theorem Step.trans {as as1 as2 : List Addr} {os os1 os2 : Os} {F F1 F2 : Addr → Prop} {H H1 H2 : Hp} (s : Step as os F H as1 os1 F1 H1) (t : Step as1 os1 F1 H1 as2 os2 F2 H2) : Step as os F H as2 os2 F2 H2 where
  sub := fun a h => t.sub a (s.sub a h)
  new := fun a h => by
    rcases t.new a h with q | q | q
    · exact s.new a q
    · rcases s.fresh q with z | z
      · exact .inr (.inl z)
      · exact .inr (.inr z)
    · rcases s.liv a q with z | z
      · exact .inr (.inr z)
      · exact .inr (.inl z)
  stay := fun a o e l => (s.stay a o e l).trans (t.sub a) fun o2 e2 => t.stay a o2 e2 fun q => by
    rcases s.liv a q with z | z
    · exact l z
    · rw [e] at z; cases z
  liv := fun a h => by
    rcases t.liv a h with q | q
    · exact s.liv a q
    · rcases s.fresh q with z | z
      · exact .inr z
      · exact .inl z
  pre := s.pre.trans t.pre
  ext := fun a h => by
    rcases t.ext a h with q | q
    · exact s.ext a q
    · rcases s.fresh q with z | z
      · exact .inr z
      · obtain ⟨_, _, e, _⟩ := z
        exact .inl (List.mem_of_getElem? e)

theorem Step.mon {K : PySem.W.Frag} {as as' : List Addr} {os os' : Os} {F F' : Addr → Prop} {H H' : Hp} (s : Step as os F H as' os' F' H') (h : HS K as os F H) : Mon F H F' H' where
  sub := s.sub
  rd := fun a u f r => by
    have l : ¬ Live as os a := fun l => h.dis l f
    rcases r with r | ⟨o, r⟩
    · rcases s.stay a _ r l with q | ⟨_, _, od, q⟩
      · exact .inl q
      · exact .inr ⟨od, q⟩
    · exact .inr ⟨o, (s.stay a _ r l).at fun z => z⟩
  at' := fun a o f r so => (s.stay a _ r fun l => h.dis l f).at fun z => by cases o <;> first | exact z | exact so
  tp := fun a vs e => (s.stay a _ e (h.notup e)).at fun z => z

/-- what a value is, for a result: H0 is the heap where its making began -/
def RepR (K : PySem.W.Frag) (as : List Addr) (F : Addr → Prop) (H0 H : Hp) : R → V → Prop
  | .sh d, v => Rep K F H d v
  | .ow k, v => ∃ a, as[k]? = some a ∧ v = .ref a
  | .fr d, v => ∃ a, v = .ref a ∧ H0 a = none ∧ a ∉ as ∧ ¬ F a ∧ Own K F H d a
/-- .. what waits: no fresh one -/
def RepP (K : PySem.W.Frag) (as : List Addr) (F : Addr → Prop) (H : Hp) : R → V → Prop
  | .sh d, v => Rep K F H d v
  | .ow k, v => ∃ a, as[k]? = some a ∧ v = .ref a
  | .fr _, _ => False

theorem prefix_get {α : Type} {l l' : List α} (h : l <+: l') {k : Nat} {a : α} (e : l[k]? = some a) : l'[k]? = some a := by
  obtain ⟨t, rfl⟩ := h
  rw [List.getElem?_append_left (List.getElem?_eq_some_iff.mp e).1]; exact e

theorem RepP.step {K : PySem.W.Frag} {as as' : List Addr} {os os' : Os} {F F' : Addr → Prop} {H H' : Hp} (s : Step as os F H as' os' F' H') (h : HS K as os F H) : ∀ {r : R} {v : V}, RepP K as F H r v → RepP K as' F' H' r v
  | .sh _, _, q => Rep.mono (s.mon h) _ _ q
  | .ow _, _, ⟨a, e, q⟩ => ⟨a, prefix_get s.pre e, q⟩

theorem RepP.r {K : PySem.W.Frag} {as : List Addr} {F : Addr → Prop} {H0 H : Hp} : ∀ {r : R} {v : V}, RepP K as F H r v → RepR K as F H0 H r v
  | .sh _, _, q => q
  | .ow _, _, q => q

/-- a state of a body: slots and roots -/
structure ES (K : PySem.W.Frag) (as : List Addr) (en : En) (F : Addr → Prop) (H : Hp) (σ : St) : Prop where
  hs : HS K as en.os F H
  sl : ∀ (i : Nat) (r : R), en.ρ[i]? = some (some r) → ∃ v, σ[i]? = some (some v) ∧ RepP K as F H r v
  ln : en.ρ.length = σ.length

def R.fz : R → R
  | .fr d => .sh d
  | r => r

/-- what stands in a result -/
def R.val (r : R) (os : Os) : Option D := match r with
  | .sh d => some d
  | .fr d => some d
  | .ow k => os[k]?.join

/-! ### laying new objects -/
theorem HS.upd_new {K : PySem.W.Frag} {as : List Addr} {os : Os} {F : Addr → Prop} {H : Hp} {p : Addr} {o : HO} (h : HS K as os F H) (hp : H p = none) : HS K as os F (upd H p o) where
  own := fun k d e => by
    obtain ⟨a, e1, q, nf⟩ := h.own k d e
    have st : ∀ b u, H b = some u → upd H p o b = some u := fun b u z => by rw [upd_ne (ne_of_none z hp)]; exact z
    refine ⟨a, e1, Own.mono ⟨fun _ z => z, fun b u _ r => r.imp (st b _) fun ⟨w, z⟩ => ⟨w, st b _ z⟩, fun b _ _ z _ => st b _ z, fun b _ z => st b _ z⟩ (st a) q, nf⟩
  nd := h.nd
  dom := fun a f => by
    by_cases e : a = p
    · subst e; rw [upd_same]; exact fun z => by cases z
    · rw [upd_ne e]; exact h.dom a f
  asd := fun a f => by
    by_cases e : a = p
    · subst e; rw [upd_same]; exact fun z => by cases z
    · rw [upd_ne e]; exact h.asd a f
  len := h.len
theorem mon_upd {F : Addr → Prop} {H : Hp} {p : Addr} {o : HO} (hp : H p = none) : Mon F H F (upd H p o) :=
  have st : ∀ b u, H b = some u → upd H p o b = some u := fun b u z => by rw [upd_ne (ne_of_none z hp)]; exact z
  ⟨fun _ z => z, fun b u _ r => r.imp (st b _) fun ⟨w, z⟩ => ⟨w, st b _ z⟩, fun b _ _ z _ => st b _ z, fun b _ z => st b _ z⟩
theorem mon_sub {F F' : Addr → Prop} {H : Hp} (hs : ∀ a, F a → F' a) : Mon F H F' H := ⟨hs, fun _ _ _ q => q, fun _ _ _ q _ => q, fun _ _ q => q⟩
theorem RepP.mono {K : PySem.W.Frag} {as : List Addr} {F F' : Addr → Prop} {H H' : Hp} (m : Mon F H F' H') : ∀ {r : R} {v : V}, RepP K as F H r v → RepP K as F' H' r v
  | .sh _, _, q => Rep.mono m _ _ q
  | .ow _, _, q => q
theorem ES.upd_new {K : PySem.W.Frag} {as : List Addr} {en : En} {F : Addr → Prop} {H : Hp} {σ : St} {p : Addr} {o : HO} (h : ES K as en F H σ) (hp : H p = none) : ES K as en F (upd H p o) σ :=
  ⟨h.hs.upd_new hp, fun i r e => let ⟨v, e1, q⟩ := h.sl i r e; ⟨v, e1, q.mono (mon_upd hp)⟩, h.ln⟩
theorem Step.upd_new {as : List Addr} {os : Os} {F : Addr → Prop} {H : Hp} {p : Addr} {o : HO} (hp : H p = none) : Step as os F H as os F (upd H p o) :=
  ⟨fun _ h => h, fun _ h => .inl h, fun a u e _ => .inl (by rw [upd_ne (ne_of_none e hp)]; exact e), fun _ h => .inl h, List.prefix_refl _, fun _ h => .inl h⟩
/-- an object that stands, owned by nobody, is frozen -/
def plus (F : Addr → Prop) (p : Addr) : Addr → Prop := fun a => F a ∨ a = p
theorem HS.plus {K : PySem.W.Frag} {as : List Addr} {os : Os} {F : Addr → Prop} {H : Hp} {p : Addr} (h : HS K as os F H) (hp : H p ≠ none) (hn : p ∉ as) : HS K as os (plus F p) H where
  own := fun k d e => by
    obtain ⟨a, e1, q, nf⟩ := h.own k d e
    exact ⟨a, e1, Own.mono (mon_sub fun _ => .inl) (fun _ z => z) q, fun z => z.elim nf fun z => hn (z ▸ List.mem_of_getElem? e1)⟩
  nd := h.nd
  dom := fun a f => f.elim (h.dom a) fun e => e ▸ hp
  asd := h.asd
  len := h.len
theorem ES.plus {K : PySem.W.Frag} {as : List Addr} {en : En} {F : Addr → Prop} {H : Hp} {σ : St} {p : Addr} (h : ES K as en F H σ) (hp : H p ≠ none) (hn : p ∉ as) : ES K as en (plus F p) H σ :=
  ⟨h.hs.plus hp hn, fun i r e => let ⟨v, e1, q⟩ := h.sl i r e; ⟨v, e1, q.mono (mon_sub fun _ => .inl)⟩, h.ln⟩
theorem Step.plus {as as' : List Addr} {os os' : Os} {F F' : Addr → Prop} {H H' : Hp} {p : Addr} (s : Step as os F H as' os' F' H') (hp : H p = none) : Step as os F H as' os' (plus F' p) H' :=
  ⟨fun a h => .inl (s.sub a h), fun a h => h.elim (s.new a) fun e => .inr (.inl (e ▸ hp)), fun a o e l => (s.stay a o e l).to .inl fun _ z => z, s.liv, s.pre, s.ext⟩
theorem ES.notin {K : PySem.W.Frag} {as : List Addr} {en : En} {F : Addr → Prop} {H : Hp} {σ : St} {p : Addr} (h : ES K as en F H σ) (hp : H p = none) : p ∉ as := fun z => h.hs.asd p z hp
theorem ES.notF {K : PySem.W.Frag} {as : List Addr} {en : En} {F : Addr → Prop} {H : Hp} {σ : St} {p : Addr} (h : ES K as en F H σ) (hp : H p = none) : ¬ F p := fun z => h.hs.dom p z hp
end L2.TL

/-! text TL2 -/
set_option Elab.async false
set_option linter.all false
set_option maxRecDepth 100000
set_option maxHeartbeats 2000000
namespace L2.TL
open PySem PySem.Spec PyProof.Rows

/-- an error: its class, its fields -/
structure Er where
  C : Addr
  fs : List (Str × D)
abbrev PEr := Er → En → Prop
abbrev WEx := En → (R → En → Prop) → PEr → Prop
abbrev WBx := En → (Bool → En → Prop) → PEr → Prop
abbrev WAx := En → (List R → En → Prop) → PEr → Prop

def RepE (K : PySem.W.Frag) (F : Addr → Prop) (H : Hp) (er : Er) (cls : Value) (d : Option Addr) : Prop :=
  cls = .ref er.C ∧ ∃ a gs, d = some a ∧ F a ∧ H a = some (.xd gs) ∧ RepF K F H er.fs gs

/-- what is wanted of an error -/
def CEx (K : PySem.W.Frag) (XW : WX) (as : List Addr) (os : Os) (F : Addr → Prop) (H : Hp) (PX : PEr) (σ : St) : Prop :=
  ∀ cls d H' er en' F', ES K as en' F' H' σ → Step as os F H as en'.os F' H' → RepE K F' H' er cls d → PX er en' → XW cls d σ H'

/-- an expression's reading over trees -/
def tW (K : PySem.W.Frag) (XW : WX) (w : WEx) : TE := fun σ H Q => ∃ as en F P PX, ES K as en F H σ ∧ w en P PX ∧
  (∀ v H' r en' F', ES K as en' F' H' σ → Step as en.os F H as en'.os F' H' → RepR K as F' H H' r v → P r en' → Q v H') ∧ CEx K XW as en.os F H PX σ
def tWB (K : PySem.W.Frag) (XW : WX) (w : WBx) : TT := fun σ H Q => ∃ as en F P PX, ES K as en F H σ ∧ w en P PX ∧
  (∀ b H' en' F', ES K as en' F' H' σ → Step as en.os F H as en'.os F' H' → P b en' → Q b H') ∧ CEx K XW as en.os F H PX σ
def tWA (K : PySem.W.Frag) (XW : WX) (w : WAx) : TA := fun σ H Q => ∃ as en F P PX, ES K as en F H σ ∧ w en P PX ∧
  (∀ vs H' rs en' F', ES K as en' F' H' σ → Step as en.os F H as en'.os F' H' → Paired (RepP K as F' H') rs vs → P rs en' → Q vs H') ∧ CEx K XW as en.os F H PX σ
/-- .. behind parts whose values wait -/
def tP (K : PySem.W.Frag) (XW : WX) (vs : List V) (w : List R → WEx) : TE := fun σ H Q => ∃ as os0 F0 H0 en F rs P PX, ES K as en F H σ ∧ Step as os0 F0 H0 as en.os F H ∧ Paired (RepP K as F H) rs vs ∧ w rs en P PX ∧
  (∀ v H' r en' F', ES K as en' F' H' σ → Step as os0 F0 H0 as en'.os F' H' → RepR K as F' H0 H' r v → P r en' → Q v H') ∧ CEx K XW as os0 F0 H0 PX σ
def tPB (K : PySem.W.Frag) (XW : WX) (vs : List V) (w : List R → WBx) : TT := fun σ H Q => ∃ as os0 F0 H0 en F rs P PX, ES K as en F H σ ∧ Step as os0 F0 H0 as en.os F H ∧ Paired (RepP K as F H) rs vs ∧ w rs en P PX ∧
  (∀ b H' en' F', ES K as en' F' H' σ → Step as os0 F0 H0 as en'.os F' H' → P b en' → Q b H') ∧ CEx K XW as os0 F0 H0 PX σ

section
variable {K : PySem.W.Frag} {XW : WX} {σ : St} {H : Hp}

theorem CEx.from {as : List Addr} {os os1 : Os} {F F1 : Addr → Prop} {H H1 : Hp} {PX : PEr} (c : CEx K XW as os F H PX σ) (s : Step as os F H as os1 F1 H1) : CEx K XW as os1 F1 H1 PX σ :=
  fun cls d H' er en' F' e st r p => c cls d H' er en' F' e (s.trans st) r p

theorem Paired.imp {α β : Type} {P Q : α → β → Prop} (f : ∀ a b, P a b → Q a b) : ∀ {xs : List α} {ys : List β}, Paired P xs ys → Paired Q xs ys
  | _, _, .nil => .nil
  | _, _, .cons r t => .cons (f _ _ r) (Paired.imp f t)

/-- a result is made to wait: a fresh object is frozen -/
theorem wait {as : List Addr} {os0 : Os} {F0 : Addr → Prop} {H0 : Hp} {en en1 : En} {F F1 : Addr → Prop} {H1 : Hp} {r : R} {v : V} (es : ES K as en F H σ) (e1 : ES K as en1 F1 H1 σ) (s0 : Step as os0 F0 H0 as en.os F H)
    (s1 : Step as en.os F H as en1.os F1 H1) (rr : RepR K as F1 H H1 r v) : ∃ F2, ES K as en1 F2 H1 σ ∧ Step as os0 F0 H0 as en1.os F2 H1 ∧ RepP K as F2 H1 r.fz v ∧ Mon F1 H1 F2 H1 := by
  have s := s0.trans s1
  cases r with
  | sh d => exact ⟨F1, e1, s, rr, mon_sub fun _ z => z⟩
  | ow k => exact ⟨F1, e1, s, rr, mon_sub fun _ z => z⟩
  | fr d =>
    obtain ⟨a, rfl, hn, ha, hf, own⟩ := rr
    have h0 : H0 a = none := by
      rcases s0.fresh hn with z | z
      · exact z
      · exact absurd z.mem ha
    obtain ⟨o, ho⟩ := own.there
    exact ⟨plus F1 a, e1.plus (by rw [ho]; exact fun z => by cases z) ha, s.plus h0, own.rep (fun _ => .inl) (.inr rfl), mon_sub fun _ => .inl⟩

theorem tP_of {w : WEx} {Q : VK} (h : tW K XW w σ H Q) : tP K XW [] (fun _ => w) σ H Q := by
  obtain ⟨as, en, F, P, PX, es, hw, hq, hx⟩ := h
  exact ⟨as, en.os, F, H, en, F, [], P, PX, es, Step.refl, .nil, hw, hq, hx⟩
theorem tPB_of {w : WBx} {Q : Bool → Hp → Prop} (h : tWB K XW w σ H Q) : tPB K XW [] (fun _ => w) σ H Q := by
  obtain ⟨as, en, F, P, PX, es, hw, hq, hx⟩ := h
  exact ⟨as, en.os, F, H, en, F, [], P, PX, es, Step.refl, .nil, hw, hq, hx⟩

theorem tP_step {vs : List V} {wa : WEx} {w : List R → WEx} {Q : VK} (h : tP K XW vs (fun rs en P PX => wa en (fun r en1 => w (r.fz :: rs) en1 P PX) PX) σ H Q) :
    tW K XW wa σ H fun x H1 => tP K XW (x :: vs) w σ H1 Q := by
  obtain ⟨as, os0, F0, H0, en, F, rs, P, PX, es, s0, pr, hw, hq, hx⟩ := h
  refine ⟨as, en, F, _, PX, es, hw, fun v H1 r en1 F1 e1 s1 rr hp => ?_, hx.from s0⟩
  obtain ⟨F2, e2, s2, r2, m2⟩ := wait es e1 s0 s1 rr
  exact ⟨as, os0, F0, H0, en1, F2, r.fz :: rs, P, PX, e2, s2, .cons r2 (Paired.imp (fun _ _ q => (q.step s1 es.hs).mono m2) pr), hp, hq, hx⟩
theorem tPB_step {vs : List V} {wa : WEx} {w : List R → WBx} {Q : Bool → Hp → Prop} (h : tPB K XW vs (fun rs en P PX => wa en (fun r en1 => w (r.fz :: rs) en1 P PX) PX) σ H Q) :
    tW K XW wa σ H fun x H1 => tPB K XW (x :: vs) w σ H1 Q := by
  obtain ⟨as, os0, F0, H0, en, F, rs, P, PX, es, s0, pr, hw, hq, hx⟩ := h
  refine ⟨as, en, F, _, PX, es, hw, fun v H1 r en1 F1 e1 s1 rr hp => ?_, hx.from s0⟩
  obtain ⟨F2, e2, s2, r2, m2⟩ := wait es e1 s0 s1 rr
  exact ⟨as, os0, F0, H0, en1, F2, r.fz :: rs, P, PX, e2, s2, .cons r2 (Paired.imp (fun _ _ q => (q.step s1 es.hs).mono m2) pr), hp, hq, hx⟩
/-- a test as a part of an expression -/
theorem tP_test {vs : List V} {wc : WBx} {w : Bool → List R → WEx} {Q : VK} (h : tP K XW vs (fun rs en P PX => wc en (fun b en1 => w b rs en1 P PX) PX) σ H Q) :
    tWB K XW wc σ H fun b H1 => tP K XW vs (w b) σ H1 Q := by
  obtain ⟨as, os0, F0, H0, en, F, rs, P, PX, es, s0, pr, hw, hq, hx⟩ := h
  refine ⟨as, en, F, _, PX, es, hw, fun b H1 en1 F1 e1 s1 hp => ?_, hx.from s0⟩
  exact ⟨as, os0, F0, H0, en1, F1, rs, P, PX, e1, s0.trans s1, Paired.imp (fun _ _ q => q.step s1 es.hs) pr, hp, hq, hx⟩
theorem tPB_test {vs : List V} {wc : WBx} {w : Bool → List R → WBx} {Q : Bool → Hp → Prop} (h : tPB K XW vs (fun rs en P PX => wc en (fun b en1 => w b rs en1 P PX) PX) σ H Q) :
    tWB K XW wc σ H fun b H1 => tPB K XW vs (w b) σ H1 Q := by
  obtain ⟨as, os0, F0, H0, en, F, rs, P, PX, es, s0, pr, hw, hq, hx⟩ := h
  refine ⟨as, en, F, _, PX, es, hw, fun b H1 en1 F1 e1 s1 hp => ?_, hx.from s0⟩
  exact ⟨as, os0, F0, H0, en1, F1, rs, P, PX, e1, s0.trans s1, Paired.imp (fun _ _ q => q.step s1 es.hs) pr, hp, hq, hx⟩
/-- the last part: its result is the whole's -/
theorem tP_last {w : WEx} {Q : VK} (h : tP K XW [] (fun _ => w) σ H Q) : tW K XW w σ H Q := by
  obtain ⟨as, os0, F0, H0, en, F, rs, P, PX, es, s0, pr, hw, hq, hx⟩ := h
  refine ⟨as, en, F, P, PX, es, hw, fun v H1 r en1 F1 e1 s1 rr hp => hq v H1 r en1 F1 e1 (s0.trans s1) ?_ hp, hx.from s0⟩
  cases r with
  | sh d => exact rr
  | ow k => exact rr
  | fr d =>
    obtain ⟨a, e, hn, ha, hf, own⟩ := rr
    refine ⟨a, e, ?_, ha, hf, own⟩
    rcases s0.fresh hn with z | z
    · exact z
    · exact absurd z.mem ha
theorem tPB_last {w : WBx} {Q : Bool → Hp → Prop} (h : tPB K XW [] (fun _ => w) σ H Q) : tWB K XW w σ H Q := by
  obtain ⟨as, os0, F0, H0, en, F, rs, P, PX, es, s0, pr, hw, hq, hx⟩ := h
  exact ⟨as, en, F, P, PX, es, hw, fun b H1 en1 F1 e1 s1 hp => hq b H1 en1 F1 e1 (s0.trans s1) hp, hx.from s0⟩
end

theorem _root_.L2.PE.weak {X : Cx} {e : Expr} {t t' : TE} (h : PE X e t) (f : ∀ σ H Q, t' σ H Q → t σ H Q) : PE X e t' := ⟨fun pins s σ H Q I q => h.run pins s σ H Q I (f σ H Q q)⟩
theorem _root_.L2.PT.weak {X : Cx} {e : Expr} {t t' : TT} (h : PT X e t) (f : ∀ σ H Q, t' σ H Q → t σ H Q) : PT X e t' := ⟨fun pins s σ H Q I q => h.run pins s σ H Q I (f σ H Q q)⟩
theorem _root_.L2.PW.weak {X : Cx} {e : Expr} {t t' : TT} (h : PW X e t) (f : ∀ σ H Q, t' σ H Q → t σ H Q) : PW X e t' := ⟨fun wh pins s σ H Q I q => h.run wh pins s σ H Q I (f σ H Q q)⟩
theorem _root_.L2.PA.weak {X : Cx} {e : List Expr} {t t' : TA} (h : PA X e t) (f : ∀ σ H Q, t' σ H Q → t σ H Q) : PA X e t' := ⟨fun pos pins s σ H Q I q => h.run pos pins s σ H Q I (f σ H Q q)⟩
theorem _root_.L2.PS.weak {X : Cx} {e : Stmt} {t t' : TS} (h : PS X e t) (f : ∀ D σ H, t' D σ H → t D σ H) : PS X e t' := ⟨fun pins s σ H D I q => h.run pins s σ H D I (f D σ H q)⟩
theorem _root_.L2.PSs.weak {X : Cx} {e : List Stmt} {t t' : TS} (h : PSs X e t) (f : ∀ D σ H, t' D σ H → t D σ H) : PSs X e t' := ⟨fun pins s σ H D I q => h.run pins s σ H D I (f D σ H q)⟩

section
variable {X : Cx} {XW : WX} {pos : Pos} {a b c : Expr} {es : List Expr} {wa wb wc : WEx} {ua ub : WBx} {ws : WAx}

/-! ### constants, names -/
def wC (d : D) : WEx := fun en P _ => P (.sh d) en
theorem tC_of {K : PySem.W.Frag} {d : D} {v : V} (r : ∀ F H, Rep K F H d v) {σ : St} {H : Hp} {Q : VK} (h : tW K XW (wC d) σ H Q) : tC v σ H Q := by
  obtain ⟨as, en, F, P, PX, es, hw, hq, hx⟩ := h
  exact hq v H (.sh d) en F es Step.refl (r F H) hw
theorem te_int {i j} : PE X (.Constant (.int i) j pos) (tW X.K XW (wC (.int i))) := pe_int.weak fun σ H Q h => tC_of (fun _ _ => by simp only [Rep]) h
theorem te_bl {b j} : PE X (.Constant (.bool b) j pos) (tW X.K XW (wC (.bl b))) := pe_bl.weak fun σ H Q h => tC_of (fun _ _ => by simp only [Rep]) h
theorem te_non {j} : PE X (.Constant .none j pos) (tW X.K XW (wC .non)) := pe_non.weak fun σ H Q h => tC_of (fun _ _ => by simp only [Rep]) h
theorem te_str {x j} : PE X (.Constant (.str x) j pos) (tW X.K XW (wC (.str x))) := pe_str.weak fun σ H Q h => tC_of (fun _ _ => by simp only [Rep]) h
/-- a module's constant -/
theorem te_glob {x : Str} {d : D} {u : Value} (v : V) (hg : Gl X x) (hm : X.mg x = some u) (r : RelV v u) (rd : ∀ F H, Rep X.K F H d v) (hd : (x == ("__debug__" : Str)) = false := by decide) : PE X (.Name x pos) (tW X.K XW (wC d)) :=
  (pe_glob hg hm r hd).weak fun σ H Q h => tC_of rd h
/-- a local name -/
def wV (i : Nat) : WEx := fun en P _ => ∃ r, en.ρ[i]? = some (some r) ∧ P r en
theorem tVar_of {K : PySem.W.Frag} {i : Nat} {σ : St} {H : Hp} {Q : VK} (h : tW K XW (wV i) σ H Q) : tVar i σ H Q := by
  obtain ⟨as, en, F, P, PX, es, ⟨r, e, hp⟩, hq, hx⟩ := h
  obtain ⟨v, e1, rp⟩ := es.sl i r e
  exact ⟨v, e1, hq v H r en F es Step.refl rp.r hp⟩
theorem te_v (i : Nat) {x : Str} (hN : X.N[i]? = some x := by rfl) (hv : Vis X.env.scope x := by first | exact Or.inl rfl | exact Or.inr (Or.inl rfl) | exact Or.inr (Or.inr rfl)) (hd : (x == ("__debug__" : Str)) = false := by decide)
    (hcd : (x == ("__classdict__" : Str)) = false := by decide) : PE X (.Name x pos) (tW X.K XW (wV i)) := (pe_var hN hv hd hcd).weak fun σ H Q h => tVar_of h

/-! ### two operands -/
def w2 (op : R → R → WEx) (wa wb : WEx) : WEx := fun en P PX => wa en (fun ra en1 => wb en1 (fun rb en2 => op ra.fz rb.fz en2 P PX) PX) PX
def l2 (op : R → R → WEx) : List R → WEx := fun rs => match rs with
  | [rb, ra] => op ra rb
  | _ => fun _ _ _ => False
theorem tOp_of {K : PySem.W.Frag} {op : R → R → WEx} {r : R2} {σ : St} {H : Hp} {Q : VK} (fin : ∀ x y H2, tP K XW [y, x] (l2 op) σ H2 Q → r x y H2 Q) (h : tW K XW (w2 op wa wb) σ H Q) :
    tOp r (tW K XW wa) (tW K XW wb) σ H Q := by
  have h1 : tP K XW [] (fun rs en P PX => wa en (fun ra en1 => (fun rs en1 P PX => wb en1 (fun rb en2 => (l2 op) (rb.fz :: rs) en2 P PX) PX) (ra.fz :: rs) en1 P PX) PX) σ H Q := by
    obtain ⟨as, en, F, P, PX, es, hw, hq, hx⟩ := h
    exact ⟨as, en.os, F, H, en, F, [], P, PX, es, Step.refl, .nil, hw, hq, hx⟩
  have h2 := tP_step (wa := wa) (w := fun rs en1 P PX => wb en1 (fun rb en2 => l2 op (rb.fz :: rs) en2 P PX) PX) h1
  obtain ⟨as, en, F, P, PX, es, hw, hq, hx⟩ := h2
  exact ⟨as, en, F, P, PX, es, hw, fun v H' r' en' F' e s rr hp => by
    have h3 := tP_step (wa := wb) (w := l2 op) (hq v H' r' en' F' e s rr hp)
    obtain ⟨as, en, F, P, PX, es, hw, hq, hx⟩ := h3
    exact ⟨as, en, F, P, PX, es, hw, fun v H' r' en' F' e s rr hp => fin _ _ _ (hq v H' r' en' F' e s rr hp), hx⟩, hx⟩
end
end L2.TL

/-! text TL3 -/
set_option Elab.async false
set_option linter.all false
set_option maxRecDepth 100000
set_option maxHeartbeats 2000000
namespace L2.TL
open PySem PySem.Spec PyProof.Rows

/-! ### what is seen of a value that is only read -/
def Sees (K : PySem.W.Frag) (F : Addr → Prop) (H : Hp) (d : D) (v : V) : Prop := Rep K F H d v ∨ ∃ a, v = .ref a ∧ Own K F H d a
section
variable {K : PySem.W.Frag} {as : List Addr} {os : Os} {F : Addr → Prop} {H : Hp} {v : V}
theorem RepP.sees (h : HS K as os F H) : ∀ {r : R} {d : D}, RepP K as F H r v → r.val os = some d → Sees K F H d v
  | .sh d', d, q, e => by cases e; exact .inl q
  | .ow k, d, ⟨a, e1, e2⟩, e => by
    have e' : os[k]? = some (some d) := by
      simp only [R.val] at e
      cases z : os[k]? with
      | none => rw [z] at e; cases e
      | some o => rw [z] at e; cases o with
        | none => cases e
        | some d' => simp only [Option.join] at e; cases e; rfl
    obtain ⟨b, e3, own, _⟩ := h.own k d e'
    rw [e1] at e3; cases e3
    exact .inr ⟨a, e2, own⟩
  | .fr _, _, q, _ => q.elim
theorem Sees.lst {ds : List D} (h : Sees K F H (.lst ds) v) : ∃ a vs, v = .ref a ∧ Rd H a (.lst vs) ∧ vs.length ≤ sizeLine ∧ RepL K F H ds vs := by
  rcases h with h | ⟨a, e, vs, q⟩
  · simp only [Rep] at h
    obtain ⟨a, vs, e, f, r⟩ := h
    exact ⟨a, vs, e, r⟩
  · exact ⟨a, vs, e, .inl q.1, q.2⟩
theorem Sees.tup {ds : List D} (h : Sees K F H (.tup ds) v) : ∃ a vs, v = .ref a ∧ H a = some (.tup vs) ∧ vs.length ≤ sizeLine ∧ RepL K F H ds vs := by
  rcases h with h | ⟨a, e, q⟩
  · simp only [Rep] at h
    obtain ⟨a, vs, e, r, z⟩ := h
    exact ⟨a, vs, e, r, z⟩
  · exact q.elim
theorem Sees.dk {kvs : List (Key × D)} (h : Sees K F H (.dk kvs) v) : ∃ a ks, v = .ref a ∧ Rd H a (.dK ks) ∧ RepK K F H kvs ks := by
  rcases h with h | ⟨a, e, ks, q, r⟩
  · simp only [Rep] at h
    obtain ⟨a, ks, e, f, r⟩ := h
    exact ⟨a, ks, e, r⟩
  · exact ⟨a, ks, e, .inl q, r⟩
theorem Sees.dt {kvs : List (List Key × D)} (h : Sees K F H (.dt kvs) v) : ∃ a ks, v = .ref a ∧ Rd H a (.dT ks) ∧ RepT K F H kvs ks := by
  rcases h with h | ⟨a, e, ks, q, r⟩
  · simp only [Rep] at h
    obtain ⟨a, ks, e, f, r⟩ := h
    exact ⟨a, ks, e, r⟩
  · exact ⟨a, ks, e, .inl q, r⟩
theorem Sees.ins {C : Addr} {fs : List (Str × D)} (h : Sees K F H (.ins C fs) v) : ∃ a dx gs, v = .ref a ∧ H a = some (.ins C dx gs) ∧ RepF K F H fs gs := by
  rcases h with h | ⟨a, e, dx, gs, q, r⟩
  · simp only [Rep] at h
    obtain ⟨a, dx, gs, e, f, r⟩ := h
    exact ⟨a, dx, gs, e, r⟩
  · exact ⟨a, dx, gs, e, q, r⟩
theorem Sees.int {i : Int} (h : Sees K F H (.int i) v) : v = .int i := h.elim (fun h => by simpa only [Rep] using h) fun ⟨_, _, q⟩ => q.elim
theorem Sees.str {i : Str} (h : Sees K F H (.str i) v) : v = .str i := h.elim (fun h => by simpa only [Rep] using h) fun ⟨_, _, q⟩ => q.elim
theorem Sees.bl {i : Bool} (h : Sees K F H (.bl i) v) : v = .bl i := h.elim (fun h => by simpa only [Rep] using h) fun ⟨_, _, q⟩ => q.elim
theorem Sees.non (h : Sees K F H .non v) : v = .non := h.elim (fun h => by simpa only [Rep] using h) fun ⟨_, _, q⟩ => q.elim
theorem Sees.obj {i : Addr} (h : Sees K F H (.obj i) v) : v = .ref i := h.elim (fun h => by simpa only [Rep] using h) fun ⟨_, _, q⟩ => q.elim
theorem Sees.ty {i : String} (h : Sees K F H (.ty i) v) : v = .ty i := h.elim (fun h => by simpa only [Rep] using h) fun ⟨_, _, q⟩ => q.elim

theorem RepL.length : ∀ {ds : List D} {vs : List V}, RepL K F H ds vs → vs.length = ds.length
  | [], vs, h => by simp only [RepL] at h; subst h; rfl
  | d :: ds, vs, h => by
    simp only [RepL] at h
    obtain ⟨w, ws, rfl, _, q⟩ := h
    simp only [List.length_cons, RepL.length q]
theorem RepL.get : ∀ {ds : List D} {vs : List V} {i : Nat} {d : D}, RepL K F H ds vs → ds[i]? = some d → ∃ w, vs[i]? = some w ∧ Rep K F H d w
  | [], _, _, _, _, e => by simp at e
  | d :: ds, vs, 0, _, h, e => by
    simp only [RepL] at h
    obtain ⟨w, ws, rfl, r, q⟩ := h
    simp at e; subst e
    exact ⟨w, rfl, r⟩
  | d :: ds, vs, i + 1, x, h, e => by
    simp only [RepL] at h
    obtain ⟨w, ws, rfl, r, q⟩ := h
    exact RepL.get (i := i) q (by simpa using e)
theorem RepL.get' : ∀ {ds : List D} {vs : List V} {i : Nat} {w : V}, RepL K F H ds vs → vs[i]? = some w → ∃ d, ds[i]? = some d ∧ Rep K F H d w
  | [], vs, _, _, h, e => by simp only [RepL] at h; subst h; simp at e
  | d :: ds, vs, 0, _, h, e => by
    simp only [RepL] at h
    obtain ⟨w, ws, rfl, r, q⟩ := h
    simp at e; subst e
    exact ⟨d, rfl, r⟩
  | d :: ds, vs, i + 1, x, h, e => by
    simp only [RepL] at h
    obtain ⟨w, ws, rfl, r, q⟩ := h
    exact RepL.get' (i := i) q (by simpa using e)
theorem RepL.append : ∀ {ds es : List D} {vs ws : List V}, RepL K F H ds vs → RepL K F H es ws → RepL K F H (ds ++ es) (vs ++ ws)
  | [], _, vs, _, h, q => by simp only [RepL] at h; subst h; exact q
  | d :: ds, _, vs, _, h, q => by
    simp only [RepL] at h
    obtain ⟨w, us, rfl, r, z⟩ := h
    show RepL K F H (d :: (ds ++ _)) _
    simp only [RepL]
    exact ⟨w, _, rfl, r, RepL.append z q⟩
theorem RepL.drop : ∀ {ds : List D} {vs : List V} (n : Nat), RepL K F H ds vs → RepL K F H (ds.drop n) (vs.drop n)
  | _, _, 0, h => by simpa using h
  | [], vs, n + 1, h => by simp only [RepL] at h; subst h; simp [RepL]
  | d :: ds, vs, n + 1, h => by
    simp only [RepL] at h
    obtain ⟨w, us, rfl, r, z⟩ := h
    simpa using RepL.drop n z
theorem RepL.take : ∀ {ds : List D} {vs : List V} (n : Nat), RepL K F H ds vs → RepL K F H (ds.take n) (vs.take n)
  | _, _, 0, h => by simp [RepL]
  | [], vs, n + 1, h => by simp only [RepL] at h; subst h; simp [RepL]
  | d :: ds, vs, n + 1, h => by
    simp only [RepL] at h
    obtain ⟨w, us, rfl, r, z⟩ := h
    simp only [List.take_succ_cons, RepL]
    exact ⟨w, _, rfl, r, RepL.take n z⟩
theorem RepL.cons {d : D} {ds : List D} {v : V} {vs : List V} (h : Rep K F H d v) (q : RepL K F H ds vs) : RepL K F H (d :: ds) (v :: vs) := by
  simp only [RepL]; exact ⟨v, vs, rfl, h, q⟩
theorem RepL.nil : RepL K F H [] [] := by simp [RepL]
theorem RepF.lookup : ∀ {fs : List (Str × D)} {gs : List (Str × V)} {f : Str} {d : D}, RepF K F H fs gs → fs.lookup f = some d → ∃ w, gs.lookup f = some w ∧ Rep K F H d w
  | [], _, _, _, _, e => by simp at e
  | (k, d) :: fs, gs, f, x, h, e => by
    simp only [RepF] at h
    obtain ⟨w, ws, rfl, r, q⟩ := h
    rw [List.lookup_cons] at e ⊢
    split at e
    · cases e; exact ⟨w, rfl, r⟩
    · exact RepF.lookup q e
theorem RepF.lookupN : ∀ {fs : List (Str × D)} {gs : List (Str × V)} {f : Str}, RepF K F H fs gs → fs.lookup f = none → gs.lookup f = none
  | [], gs, _, h, _ => by simp only [RepF] at h; subst h; rfl
  | (k, d) :: fs, gs, f, h, e => by
    simp only [RepF] at h
    obtain ⟨w, ws, rfl, r, q⟩ := h
    rw [List.lookup_cons] at e ⊢
    split at e
    · cases e
    · exact RepF.lookupN q e
end

/-! ### finishing -/
section
variable {K : PySem.W.Frag} {XW : WX} {σ : St} {as : List Addr} {os0 : Os} {F0 F : Addr → Prop} {H0 H : Hp} {en : En}
theorem new_fr {p : Addr} {o : HO} {d : D} (es : ES K as en F H σ) (s : Step as os0 F0 H0 as en.os F H) (hp : H p = none) (own : Own K F (upd H p o) d p) :
    ES K as en F (upd H p o) σ ∧ Step as os0 F0 H0 as en.os F (upd H p o) ∧ RepR K as F H0 (upd H p o) (.fr d) (.ref p) := by
  refine ⟨es.upd_new hp, s.trans (Step.upd_new hp), p, rfl, ?_, es.notin hp, es.notF hp, own⟩
  rcases s.fresh hp with z | z
  · exact z
  · exact absurd z.mem (es.notin hp)
theorem new_sh {p : Addr} {o : HO} {d : D} (es : ES K as en F H σ) (s : Step as os0 F0 H0 as en.os F H) (hp : H p = none) (r : Rep K (plus F p) (upd H p o) d (.ref p)) :
    ES K as en (plus F p) (upd H p o) σ ∧ Step as os0 F0 H0 as en.os (plus F p) (upd H p o) ∧ RepR K as (plus F p) H0 (upd H p o) (.sh d) (.ref p) := by
  have h0 : H0 p = none := by
    rcases s.fresh hp with z | z
    · exact z
    · exact absurd z.mem (es.notin hp)
  exact ⟨(es.upd_new hp).plus (by rw [upd_same]; exact fun z => by cases z) (es.notin hp), (s.trans (Step.upd_new hp)).plus h0, r⟩
theorem mon_new {p : Addr} {o : HO} (hp : H p = none) : Mon F H (plus F p) (upd H p o) :=
  have m := mon_upd (F := F) (o := o) hp
  ⟨fun _ z => .inl z, m.rd, m.at', m.tp⟩
theorem new_tup {p : Addr} {ds : List D} {vs : List V} (es : ES K as en F H σ) (s : Step as os0 F0 H0 as en.os F H) (hp : H p = none) (hz : vs.length ≤ sizeLine) (r : RepL K F H ds vs) :
    ES K as en (plus F p) (upd H p (.tup vs)) σ ∧ Step as os0 F0 H0 as en.os (plus F p) (upd H p (.tup vs)) ∧ RepR K as (plus F p) H0 (upd H p (.tup vs)) (.sh (.tup ds)) (.ref p) := by
  refine new_sh es s hp ?_
  simp only [Rep]
  exact ⟨p, vs, rfl, upd_same, hz, RepL.mono (mon_new hp) _ _ r⟩
theorem new_lst {p : Addr} {ds : List D} {vs : List V} (es : ES K as en F H σ) (s : Step as os0 F0 H0 as en.os F H) (hp : H p = none) (hz : vs.length ≤ sizeLine) (r : RepL K F H ds vs) :
    ES K as en F (upd H p (.lst vs)) σ ∧ Step as os0 F0 H0 as en.os F (upd H p (.lst vs)) ∧ RepR K as F H0 (upd H p (.lst vs)) (.fr (.lst ds)) (.ref p) :=
  new_fr es s hp ⟨vs, upd_same, hz, RepL.mono (mon_upd hp) _ _ r⟩
end

/-! ### operators -/
section
variable {X : Cx} {XW : WX} {pos : Pos} {a b c : Expr} {es : List Expr} {wa wb wc : WEx} {ua ub : WBx} {ws : WAx}
/-- ints -/
def oI (g : Int → Int → D) : R → R → WEx := fun ra rb en P _ => match ra, rb with
  | .sh (.int i), .sh (.int j) => P (.sh (g i j)) en
  | _, _ => False
def oIc (C : Int → Int → Prop) (g : Int → Int → D) : R → R → WEx := fun ra rb en P _ => match ra, rb with
  | .sh (.int i), .sh (.int j) => C i j ∧ P (.sh (g i j)) en
  | _, _ => False
theorem oI_fin {K : PySem.W.Frag} {g : Int → Int → D} {gV : Int → Int → V} (hg : ∀ i j F H, Rep K F H (g i j) (gV i j)) {σ : St} {H : Hp} {Q : VK} {x y : V} (h : tP K XW [y, x] (l2 (oI g)) σ H Q) : rI0 gV x y H Q := by
  obtain ⟨as, os0, F0, H0, en, F, rs, P, PX, es, st, pr, hw, hq, hx⟩ := h
  cases pr with
  | cons ry pr =>
    cases pr with
    | cons rx pr =>
      cases pr
      rename_i b' a'
      simp only [l2, oI] at hw
      split at hw
      · simp only [RepP, Rep] at rx ry
        exact ⟨_, _, rx, ry, hq _ H (.sh (g _ _)) en F es st (hg _ _ _ _) hw⟩
      · exact hw.elim
theorem oIc_fin {K : PySem.W.Frag} {C : Int → Int → Prop} {g : Int → Int → D} {gV : Int → Int → V} (hg : ∀ i j F H, Rep K F H (g i j) (gV i j)) {σ : St} {H : Hp} {Q : VK} {x y : V} (h : tP K XW [y, x] (l2 (oIc C g)) σ H Q) : rI C gV x y H Q := by
  obtain ⟨as, os0, F0, H0, en, F, rs, P, PX, es, st, pr, hw, hq, hx⟩ := h
  cases pr with
  | cons ry pr =>
    cases pr with
    | cons rx pr =>
      cases pr
      simp only [l2, oIc] at hw
      split at hw
      · simp only [RepP, Rep] at rx ry
        exact ⟨_, _, rx, ry, hw.1, hq _ H (.sh (g _ _)) en F es st (hg _ _ _ _) hw.2⟩
      · exact hw.elim
abbrev oSub : R → R → WEx := oI fun i j => .int (i - j)
abbrev oMul : R → R → WEx := oIc CMul fun i j => .int (i * j)
abbrev oDiv : R → R → WEx := oIc (fun i j => 0 < j ∧ j < 1073741824) fun i j => .int (i / j)
abbrev oMod : R → R → WEx := oIc (fun _ j => 0 < j) fun i j => .int (i % j)
abbrev oPow : R → R → WEx := oIc CPow fun i j => .int (i ^ j.toNat)
abbrev oLt : R → R → WEx := oI fun i j => .bl (decide (i < j))
abbrev oLe : R → R → WEx := oI fun i j => .bl (decide (i ≤ j))
abbrev oGt : R → R → WEx := oI fun i j => .bl (decide (j < i))
abbrev oGe : R → R → WEx := oI fun i j => .bl (decide (j ≤ i))
theorem te_sub (ha : PE X a (tW X.K XW wa)) (hb : PE X b (tW X.K XW wb)) : PE X (.BinOp a .Sub b pos) (tW X.K XW (w2 oSub wa wb)) :=
  (pe_op op_sub ha hb).weak fun σ H Q h => tOp_of (fun x y H2 h => oI_fin (fun _ _ _ _ => by simp only [Rep]) h) h
theorem te_mul (ha : PE X a (tW X.K XW wa)) (hb : PE X b (tW X.K XW wb)) : PE X (.BinOp a .Mult b pos) (tW X.K XW (w2 oMul wa wb)) :=
  (pe_op op_mul ha hb).weak fun σ H Q h => tOp_of (fun x y H2 h => oIc_fin (fun _ _ _ _ => by simp only [Rep]) h) h
theorem te_div (ha : PE X a (tW X.K XW wa)) (hb : PE X b (tW X.K XW wb)) : PE X (.BinOp a .FloorDiv b pos) (tW X.K XW (w2 oDiv wa wb)) :=
  (pe_op op_fdiv ha hb).weak fun σ H Q h => tOp_of (fun x y H2 h => oIc_fin (fun _ _ _ _ => by simp only [Rep]) h) h
theorem te_mod (ha : PE X a (tW X.K XW wa)) (hb : PE X b (tW X.K XW wb)) : PE X (.BinOp a .Mod b pos) (tW X.K XW (w2 oMod wa wb)) :=
  (pe_op op_mod ha hb).weak fun σ H Q h => tOp_of (fun x y H2 h => oIc_fin (fun _ _ _ _ => by simp only [Rep]) h) h
theorem te_pow (ha : PE X a (tW X.K XW wa)) (hb : PE X b (tW X.K XW wb)) : PE X (.BinOp a .Pow b pos) (tW X.K XW (w2 oPow wa wb)) :=
  (pe_op op_pow ha hb).weak fun σ H Q h => tOp_of (fun x y H2 h => oIc_fin (fun _ _ _ _ => by simp only [Rep]) h) h
theorem te_cmpI {op : CmpOp} {p : Int → Int → Bool} (ho : OpR X (compareOp op) (rI0 fun i j => .bl (p i j))) (hm : behindInMarks op b = false) (ha : PE X a (tW X.K XW wa)) (hb : PE X b (tW X.K XW wb)) : PE X (.Compare a [op] [b] pos) (tW X.K XW (w2 (oI fun i j => .bl (p i j)) wa wb)) :=
  (pe_cmpR ho ha hb hm).weak fun σ H Q h => tOp_of (fun x y H2 h => oI_fin (fun _ _ _ _ => by simp only [Rep]) h) h
theorem te_lt (ha : PE X a (tW X.K XW wa)) (hb : PE X b (tW X.K XW wb)) : PE X (.Compare a [.Lt] [b] pos) (tW X.K XW (w2 oLt wa wb)) := te_cmpI op_lt (nomark _) ha hb
theorem te_le (ha : PE X a (tW X.K XW wa)) (hb : PE X b (tW X.K XW wb)) : PE X (.Compare a [.LtE] [b] pos) (tW X.K XW (w2 oLe wa wb)) := te_cmpI op_le (nomark _) ha hb
theorem te_gt (ha : PE X a (tW X.K XW wa)) (hb : PE X b (tW X.K XW wb)) : PE X (.Compare a [.Gt] [b] pos) (tW X.K XW (w2 oGt wa wb)) := te_cmpI op_gt (nomark _) ha hb
theorem te_ge (ha : PE X a (tW X.K XW wa)) (hb : PE X b (tW X.K XW wb)) : PE X (.Compare a [.GtE] [b] pos) (tW X.K XW (w2 oGe wa wb)) := te_cmpI op_ge (nomark _) ha hb

theorem lstR {pins : List (Addr × Obj)} {σ : St} {H : Hp} {s : Shared} {l : Addr} {xs : List V} (I : Inv X pins σ H s) (h : Rd H l (.lst xs)) : xs.length ≤ sizeLine ∧ ∃ (its : List Value) (n : Nat), Vals xs its ∧ xs.length = its.length ∧ s.heap.get? l = some { cls := .type "list", data := .seq its.toArray n } := by
  rcases h with h | ⟨o, h⟩
  · exact I.lstM h
  · obtain ⟨e0, z, its, n, r, e⟩ := I.hok l _ h
    exact ⟨z, its, n, r, r.length, e⟩
def rCatR : R2 := fun x y H Q => ∃ l b xs zs, x = .ref l ∧ y = .ref b ∧ Rd H l (.lst xs) ∧ Rd H b (.lst zs) ∧ xs.length + zs.length ≤ sizeLine ∧ ∀ p, H p = none → Q (.ref p) (upd H p (.lst (xs ++ zs)))
theorem op_catR : OpR X (binaryOp .Add) rCatR := by
  intro pins s σ H x y v u Q I rx ry h
  obtain ⟨l, b, xs, zs, rfl, rfl, hl, hb, hz, q⟩ := h
  cases rx; cases ry
  obtain ⟨_, i1, n1, r1, l1, e1⟩ := lstR I hl
  obtain ⟨_, i2, n2, r2, l2, e2⟩ := lstR I hb
  refine PySem.P.add_list e1 e2 ?_ (by simp only [List.size_toArray]; omega)
  rw [show i1.toArray ++ i2.toArray = (i1 ++ i2).toArray by simp]
  exact ⟨.ref _, _, I.lnew (t' := s.toks) (r1.append r2) (by rw [List.length_append]; omega), rfl, q _ I.fresh⟩
/-- + of ints, texts, lists -/
def oAdd : R → R → WEx := fun ra rb en P _ => match ra.val en.os, rb.val en.os with
  | some (.int i), some (.int j) => P (.sh (.int (i + j))) en
  | some (.str i), some (.str j) => i.length + j.length ≤ sizeLine ∧ P (.sh (.str (i ++ j))) en
  | some (.lst xs), some (.lst ys) => xs.length + ys.length ≤ sizeLine ∧ P (.fr (.lst (xs ++ ys))) en
  | _, _ => False
theorem te_add (ha : PE X a (tW X.K XW wa)) (hb : PE X b (tW X.K XW wb)) : PE X (.BinOp a .Add b pos) (tW X.K XW (w2 oAdd wa wb)) :=
  (pe_op (op_add.or (op_add_str.or op_catR)) ha hb).weak fun σ H Q h => tOp_of (fun x y H h => by
    obtain ⟨as, os0, F0, H0, en, F, rs, P, PX, es, st, pr, hw, hq, hx⟩ := h
    cases pr with
    | cons ry pr =>
      cases pr with
      | cons rx pr =>
        cases pr
        simp only [l2, oAdd] at hw
        split at hw
        · rename_i e1 e2
          exact .inl ⟨_, _, (rx.sees es.hs e1).int, (ry.sees es.hs e2).int, hq _ H _ en F es st (by simp only [RepR, Rep]) hw⟩
        · rename_i e1 e2
          exact .inr (.inl ⟨_, _, (rx.sees es.hs e1).str, (ry.sees es.hs e2).str, hw.1, hq _ H _ en F es st (by simp only [RepR, Rep]) hw.2⟩)
        · rename_i e1 e2
          obtain ⟨l, vs, e3, hl, hz, rl⟩ := (rx.sees es.hs e1).lst
          obtain ⟨m, us, e4, hm, hz', rm⟩ := (ry.sees es.hs e2).lst
          refine .inr (.inr ⟨l, m, vs, us, e3, e4, hl, hm, by rw [rl.length, rm.length]; exact hw.1, fun p hp => ?_⟩)
          obtain ⟨q1, q2, q3⟩ := new_lst es st hp (by rw [List.length_append, rl.length, rm.length]; exact hw.1) (rl.append rm)
          exact hq _ _ _ en F q1 q2 q3 hw.2
        · exact hw.elim) h

/-! ### tests -/
/-- an expression that gives a truth value, as a test -/
def wT (w : WEx) : WBx := fun en P PX => w en (fun r en1 => match r with
  | .sh (.bl k) => P k en1
  | _ => False) PX
theorem tb_val (ha : PE X a (tW X.K XW wa)) (he : ∀ whole, isTrue a X.env whole = (do let v ← whole; standAt a.pos; holding [v] (truthy v)) := by intro _; rfl) : PT X a (tWB X.K XW (wT wa)) :=
  (pt_val ha he).weak fun σ H Q h => by
    obtain ⟨as, en, F, P, PX, es, hw, hq, hx⟩ := h
    refine ⟨as, en, F, _, PX, es, hw, fun v H1 r en1 F1 e1 s1 rr hp => ?_, hx⟩
    split at hp
    · simp only [RepR, Rep] at rr
      exact ⟨_, rr, hq _ H1 en1 F1 e1 s1 hp⟩
    · exact hp.elim
/-- a comparison as a test: te's form -/
theorem tb_cmp {op : CmpOp} {r : R2} {o : R → R → WEx} (ho : OpR X (compareOp op) r) (fin : ∀ σ H Q x y, tP X.K XW [y, x] (l2 o) σ H Q → r x y H Q) (hm : behindInMarks op b = false) (ha : PE X a (tW X.K XW wa)) (hb : PE X b (tW X.K XW wb)) :
    PT X (.Compare a [op] [b] pos) (tWB X.K XW (wT (w2 o wa wb))) :=
  (pt_cmpR ho ha hb hm).weak fun σ H Q h => by
    have h' : tW X.K XW (w2 o wa wb) σ H (fun x H' => ∃ k, x = .bl k ∧ Q k H') := by
      obtain ⟨as, en, F, P, PX, es, hw, hq, hx⟩ := h
      refine ⟨as, en, F, _, PX, es, hw, fun v H1 r en1 F1 e1 s1 rr hp => ?_, hx⟩
      split at hp
      · simp only [RepR, Rep] at rr
        exact ⟨_, rr, hq _ H1 en1 F1 e1 s1 hp⟩
      · exact hp.elim
    exact tOp_of (fun x y H2 h => fin _ _ _ _ _ h) h'
theorem tb_lt (ha : PE X a (tW X.K XW wa)) (hb : PE X b (tW X.K XW wb)) : PT X (.Compare a [.Lt] [b] pos) (tWB X.K XW (wT (w2 oLt wa wb))) := tb_cmp op_lt (fun σ H Q x y h => oI_fin (fun _ _ _ _ => by simp only [Rep]) h) (nomark _) ha hb
theorem tb_le (ha : PE X a (tW X.K XW wa)) (hb : PE X b (tW X.K XW wb)) : PT X (.Compare a [.LtE] [b] pos) (tWB X.K XW (wT (w2 oLe wa wb))) := tb_cmp op_le (fun σ H Q x y h => oI_fin (fun _ _ _ _ => by simp only [Rep]) h) (nomark _) ha hb
theorem tb_gt (ha : PE X a (tW X.K XW wa)) (hb : PE X b (tW X.K XW wb)) : PT X (.Compare a [.Gt] [b] pos) (tWB X.K XW (wT (w2 oGt wa wb))) := tb_cmp op_gt (fun σ H Q x y h => oI_fin (fun _ _ _ _ => by simp only [Rep]) h) (nomark _) ha hb
theorem tb_ge (ha : PE X a (tW X.K XW wa)) (hb : PE X b (tW X.K XW wb)) : PT X (.Compare a [.GtE] [b] pos) (tWB X.K XW (wT (w2 oGe wa wb))) := tb_cmp op_ge (fun σ H Q x y h => oI_fin (fun _ _ _ _ => by simp only [Rep]) h) (nomark _) ha hb
def wAnd (u v : WBx) : WBx := fun en P PX => u en (fun k en1 => match k with
  | true => v en1 P PX
  | false => P false en1) PX
def wOr (u v : WBx) : WBx := fun en P PX => u en (fun k en1 => match k with
  | true => P true en1
  | false => v en1 P PX) PX
def wNot (u : WBx) : WBx := fun en P PX => u en (fun k en1 => P (!k) en1) PX
variable {rest : List Expr}
theorem tw_and1 (ha : PT X a (tWB X.K XW ua)) : PW X (.BoolOp .And [a] pos) (tWB X.K XW ua) := pw_and1 ha
theorem tw_or1 (ha : PT X a (tWB X.K XW ua)) : PW X (.BoolOp .Or [a] pos) (tWB X.K XW ua) := pw_or1 ha
theorem tw_and (ha : PT X a (tWB X.K XW ua)) (hb : PW X (.BoolOp .And (b :: rest) pos) (tWB X.K XW ub)) : PW X (.BoolOp .And (a :: b :: rest) pos) (tWB X.K XW (wAnd ua ub)) :=
  (pw_and ha hb).weak fun σ H Q h => by
    obtain ⟨as, en, F, P, PX, es, hw, hq, hx⟩ := h
    refine ⟨as, en, F, _, PX, es, hw, fun k H1 en1 F1 e1 s1 hp => ?_, hx⟩
    cases k with
    | false => exact iteF (hq false H1 en1 F1 e1 s1 hp)
    | true => exact iteT ⟨as, en1, F1, P, PX, e1, hp, fun k H2 en2 F2 e2 s2 hp => hq k H2 en2 F2 e2 (s1.trans s2) hp, hx.from s1⟩
theorem tw_or (ha : PT X a (tWB X.K XW ua)) (hb : PW X (.BoolOp .Or (b :: rest) pos) (tWB X.K XW ub)) : PW X (.BoolOp .Or (a :: b :: rest) pos) (tWB X.K XW (wOr ua ub)) :=
  (pw_or ha hb).weak fun σ H Q h => by
    obtain ⟨as, en, F, P, PX, es, hw, hq, hx⟩ := h
    refine ⟨as, en, F, _, PX, es, hw, fun k H1 en1 F1 e1 s1 hp => ?_, hx⟩
    cases k with
    | true => exact iteT (hq true H1 en1 F1 e1 s1 hp)
    | false => exact iteF ⟨as, en1, F1, P, PX, e1, hp, fun k H2 en2 F2 e2 s2 hp => hq k H2 en2 F2 e2 (s1.trans s2) hp, hx.from s1⟩
theorem tb_not (ha : PT X a (tWB X.K XW ua)) : PT X (.UnaryOp .Not a pos) (tWB X.K XW (wNot ua)) :=
  (pt_not ha).weak fun σ H Q h => by
    obtain ⟨as, en, F, P, PX, es, hw, hq, hx⟩ := h
    exact ⟨as, en, F, _, PX, es, hw, fun k H1 en1 F1 e1 s1 hp => hq _ H1 en1 F1 e1 s1 hp, hx⟩
/-- and, or, not as values of truth -/
def wAndV (w v : WEx) : WEx := fun en P PX => w en (fun r en1 => match r with
  | .sh (.bl true) => v en1 P PX
  | .sh (.bl false) => P (.sh (.bl false)) en1
  | _ => False) PX
def wOrV (w v : WEx) : WEx := fun en P PX => w en (fun r en1 => match r with
  | .sh (.bl true) => P (.sh (.bl true)) en1
  | .sh (.bl false) => v en1 P PX
  | _ => False) PX
def wNotV (w : WEx) : WEx := fun en P PX => w en (fun r en1 => match r with
  | .sh (.bl k) => P (.sh (.bl (!k))) en1
  | _ => False) PX
theorem RepR.lift {K : PySem.W.Frag} {as : List Addr} {os : Os} {F F1 : Addr → Prop} {H H1 H2 : Hp} {os1 : Os} {G : Addr → Prop} (s : Step as os F H as os1 F1 H1) : ∀ {r : R} {v : V}, RepR K as G H1 H2 r v → RepR K as G H H2 r v
  | .sh _, _, q => q
  | .ow _, _, q => q
  | .fr _, _, ⟨a, e, hn, ha, hf, own⟩ => ⟨a, e, by
    rcases s.fresh hn with z | z
    · exact z
    · exact absurd z.mem ha, ha, hf, own⟩
theorem te_one {op} {w : WEx} (h : PE X a (tW X.K XW w)) : PE X (.BoolOp op [a] pos) (tW X.K XW w) := pe_one h
theorem te_and (ha : PE X a (tW X.K XW wa)) (hb : PE X (.BoolOp .And (b :: rest) pos) (tW X.K XW wb)) : PE X (.BoolOp .And (a :: b :: rest) pos) (tW X.K XW (wAndV wa wb)) :=
  (pe_and ha hb).weak fun σ H Q h => by
    obtain ⟨as, en, F, P, PX, es, hw, hq, hx⟩ := h
    refine ⟨as, en, F, _, PX, es, hw, fun v H1 r en1 F1 e1 s1 rr hp => ?_, hx⟩
    split at hp
    · simp only [RepR, Rep] at rr
      exact ⟨true, rr, iteT ⟨as, en1, F1, P, PX, e1, hp, fun v H2 r en2 F2 e2 s2 rr hp => hq v H2 r en2 F2 e2 (s1.trans s2) (rr.lift s1) hp, hx.from s1⟩⟩
    · simp only [RepR, Rep] at rr
      exact ⟨false, rr, iteF (hq _ H1 _ en1 F1 e1 s1 (by simp only [RepR, Rep]) hp)⟩
    · exact hp.elim
theorem te_or (ha : PE X a (tW X.K XW wa)) (hb : PE X (.BoolOp .Or (b :: rest) pos) (tW X.K XW wb)) : PE X (.BoolOp .Or (a :: b :: rest) pos) (tW X.K XW (wOrV wa wb)) :=
  (pe_or ha hb).weak fun σ H Q h => by
    obtain ⟨as, en, F, P, PX, es, hw, hq, hx⟩ := h
    refine ⟨as, en, F, _, PX, es, hw, fun v H1 r en1 F1 e1 s1 rr hp => ?_, hx⟩
    split at hp
    · simp only [RepR, Rep] at rr
      exact ⟨true, rr, iteT (hq _ H1 _ en1 F1 e1 s1 (by simp only [RepR, Rep]) hp)⟩
    · simp only [RepR, Rep] at rr
      exact ⟨false, rr, iteF ⟨as, en1, F1, P, PX, e1, hp, fun v H2 r en2 F2 e2 s2 rr hp => hq v H2 r en2 F2 e2 (s1.trans s2) (rr.lift s1) hp, hx.from s1⟩⟩
    · exact hp.elim
theorem te_not (ha : PE X a (tW X.K XW wa)) : PE X (.UnaryOp .Not a pos) (tW X.K XW (wNotV wa)) :=
  (pe_not ha).weak fun σ H Q h => by
    obtain ⟨as, en, F, P, PX, es, hw, hq, hx⟩ := h
    refine ⟨as, en, F, _, PX, es, hw, fun v H1 r en1 F1 e1 s1 rr hp => ?_, hx⟩
    split at hp
    · simp only [RepR, Rep] at rr
      exact ⟨_, rr, hq _ H1 _ en1 F1 e1 s1 (by simp only [RepR, Rep]) hp⟩
    · exact hp.elim
def wIf (u : WBx) (v w : WEx) : WEx := fun en P PX => u en (fun k en1 => match k with
  | true => v en1 P PX
  | false => w en1 P PX) PX
theorem te_if {c : Expr} (hc : PT X c (tWB X.K XW ua)) (ha : PE X a (tW X.K XW wa)) (hb : PE X b (tW X.K XW wb)) : PE X (.IfExp c a b pos) (tW X.K XW (wIf ua wa wb)) :=
  (pe_ifExp hc ha hb).weak fun σ H Q h => by
    obtain ⟨as, en, F, P, PX, es, hw, hq, hx⟩ := h
    refine ⟨as, en, F, _, PX, es, hw, fun k H1 en1 F1 e1 s1 hp => ?_, hx⟩
    cases k with
    | true => exact iteT ⟨as, en1, F1, P, PX, e1, hp, fun v H2 r en2 F2 e2 s2 rr hp => hq v H2 r en2 F2 e2 (s1.trans s2) (rr.lift s1) hp, hx.from s1⟩
    | false => exact iteF ⟨as, en1, F1, P, PX, e1, hp, fun v H2 r en2 F2 e2 s2 rr hp => hq v H2 r en2 F2 e2 (s1.trans s2) (rr.lift s1) hp, hx.from s1⟩
end
end L2.TL

/-! text TL4 -/
set_option Elab.async false
set_option linter.all false
set_option maxRecDepth 100000
set_option maxHeartbeats 2000000
namespace L2.TL
open PySem PySem.Spec PyProof.Rows

/-! ### == of data -/
mutual
def toPy : D → PyData
  | .non => .none
  | .bl b => .bool b
  | .int i => .int i
  | .str x => .str x
  | .lst xs => .list (toPyL xs)
  | .tup xs => .tuple (toPyL xs)
  | .obj _ => .dict []
  | .ty _ => .dict []
  | .dk _ => .dict []
  | .dt _ => .dict []
  | .ins _ _ => .dict []
def toPyL : List D → List PyData
  | [] => []
  | d :: ds => toPy d :: toPyL ds
end
mutual
theorem Rep.dp {K : PySem.W.Frag} {F : Addr → Prop} {H : Hp} : ∀ (d : D) (v : V), Rep K F H d v → (toPy d).canLay0 = true → Dp K H v (toPy d)
  | .non, v, h, _ => by simp only [Rep] at h; subst h; simp only [toPy]; exact .non
  | .bl b, v, h, _ => by simp only [Rep] at h; subst h; simp only [toPy]; exact .bl _
  | .int i, v, h, _ => by simp only [Rep] at h; subst h; simp only [toPy]; exact .int _
  | .str x, v, h, _ => by simp only [Rep] at h; subst h; simp only [toPy]; exact .str _
  | .lst xs, v, h, c => by
    simp only [Rep] at h
    obtain ⟨a, vs, rfl, f, e, z, r⟩ := h
    simp only [toPy, PyData.canLay0] at c ⊢
    exact .lst (.inl e) (RepL.dp xs vs r c)
  | .tup xs, v, h, c => by
    simp only [Rep] at h
    obtain ⟨a, vs, rfl, e, z, r⟩ := h
    simp only [toPy, PyData.canLay0] at c ⊢
    exact .tup (.of e) (RepL.dp xs vs r c)
  | .obj _, _, _, c => by simp only [toPy, PyData.canLay0] at c; cases c
  | .ty _, _, _, c => by simp only [toPy, PyData.canLay0] at c; cases c
  | .dk _, _, _, c => by simp only [toPy, PyData.canLay0] at c; cases c
  | .dt _, _, _, c => by simp only [toPy, PyData.canLay0] at c; cases c
  | .ins _ _, _, _, c => by simp only [toPy, PyData.canLay0] at c; cases c
theorem RepL.dp {K : PySem.W.Frag} {F : Addr → Prop} {H : Hp} : ∀ (ds : List D) (vs : List V), RepL K F H ds vs → PyData.canLayAll0 (toPyL ds) = true → DpAll K H vs (toPyL ds)
  | [], vs, h, _ => by simp only [RepL] at h; subst h; simp only [toPyL]; exact .nil
  | d :: ds, vs, h, c => by
    simp only [RepL] at h
    obtain ⟨w, ws, rfl, r, q⟩ := h
    simp only [toPyL, PyData.canLayAll0, Bool.and_eq_true] at c ⊢
    exact .cons (Rep.dp d w r c.1) (RepL.dp ds ws q c.2)
end
theorem Sees.dp {K : PySem.W.Frag} {F : Addr → Prop} {H : Hp} {d : D} {v : V} (h : Sees K F H d v) (c : (toPy d).canLay0 = true) : Dp K H v (toPy d) := by
  rcases h with h | ⟨a, rfl, h⟩
  · exact Rep.dp d v h c
  · cases d with
    | lst xs =>
      obtain ⟨vs, e, z, r⟩ := h
      simp only [toPy, PyData.canLay0] at c ⊢
      exact .lst (.of e) (RepL.dp xs vs r c)
    | dk _ => simp only [toPy, PyData.canLay0] at c; cases c
    | dt _ => simp only [toPy, PyData.canLay0] at c; cases c
    | ins _ _ => simp only [toPy, PyData.canLay0] at c; cases c
    | _ => exact h.elim
def eqD (x y : D) : Bool := PyData.eqv (toPy x) (toPy y)
def shD (x : D) : Bool := SeqAt.shaped (toPy x)

section
variable {X : Cx} {XW : WX} {pos p apos : Pos} {a b c e o : Expr} {es : List Expr} {wa wb wc wo : WEx} {ua ub : WBx} {ws : WAx}
def oEq (neg : Bool) : R → R → WEx := fun ra rb en P _ => match ra.val en.os, rb.val en.os with
  | some x, some y => shD x = true ∧ shD y = true ∧ P (.sh (.bl (if neg then !eqD x y else eqD x y))) en
  | _, _ => False
theorem oEq_fin {K : PySem.W.Frag} {σ : St} {H : Hp} {Q : VK} {x y : V} (h : tP K XW [y, x] (l2 (oEq false)) σ H Q) : rEqD K x y H Q := by
  obtain ⟨as, os0, F0, H0, en, F, rs, P, PX, es, st, pr, hw, hq, hx⟩ := h
  cases pr with
  | cons ry pr =>
    cases pr with
    | cons rx pr =>
      cases pr
      simp only [l2, oEq] at hw
      split at hw
      · rename_i e1 e2
        exact ⟨_, _, (rx.sees es.hs e1).dp (SeqAt.canLay_of_shaped hw.1), (ry.sees es.hs e2).dp (SeqAt.canLay_of_shaped hw.2.1), hw.1, hw.2.1, hq _ H (.sh (.bl (eqD _ _))) en F es st (by simp only [RepR, Rep, eqD]) hw.2.2⟩
      · exact hw.elim
theorem oNe_fin {K : PySem.W.Frag} {σ : St} {H : Hp} {Q : VK} {x y : V} (h : tP K XW [y, x] (l2 (oEq true)) σ H Q) : rNeD K x y H Q := by
  obtain ⟨as, os0, F0, H0, en, F, rs, P, PX, es, st, pr, hw, hq, hx⟩ := h
  cases pr with
  | cons ry pr =>
    cases pr with
    | cons rx pr =>
      cases pr
      simp only [l2, oEq] at hw
      split at hw
      · rename_i e1 e2
        exact ⟨_, _, (rx.sees es.hs e1).dp (SeqAt.canLay_of_shaped hw.1), (ry.sees es.hs e2).dp (SeqAt.canLay_of_shaped hw.2.1), hw.1, hw.2.1, hq _ H (.sh (.bl (!eqD _ _))) en F es st (by simp only [RepR, Rep, eqD]) hw.2.2⟩
      · exact hw.elim
theorem te_eq {k : Nat} (hr : Room k X.A) (ha : PE X a (tW X.K XW wa)) (hb : PE X b (tW X.K XW wb)) : PE X (.Compare a [.Eq] [b] pos) (tW X.K XW (w2 (oEq false) wa wb)) :=
  (pe_cmpR (op_eqD hr.units) ha hb (nomark _)).weak fun σ H Q h => tOp_of (fun x y H2 h => oEq_fin h) h
theorem te_ne {k : Nat} (hr : Room k X.A) (ha : PE X a (tW X.K XW wa)) (hb : PE X b (tW X.K XW wb)) : PE X (.Compare a [.NotEq] [b] pos) (tW X.K XW (w2 (oEq true) wa wb)) :=
  (pe_cmpR (op_neD hr.units) ha hb (nomark _)).weak fun σ H Q h => tOp_of (fun x y H2 h => oNe_fin h) h
theorem tb_eq {k : Nat} (hr : Room k X.A) (ha : PE X a (tW X.K XW wa)) (hb : PE X b (tW X.K XW wb)) : PT X (.Compare a [.Eq] [b] pos) (tWB X.K XW (wT (w2 (oEq false) wa wb))) := tb_cmp (op_eqD hr.units) (fun σ H Q x y h => oEq_fin h) (nomark _) ha hb
theorem tb_ne {k : Nat} (hr : Room k X.A) (ha : PE X a (tW X.K XW wa)) (hb : PE X b (tW X.K XW wb)) : PT X (.Compare a [.NotEq] [b] pos) (tWB X.K XW (wT (w2 (oEq true) wa wb))) := tb_cmp (op_neD hr.units) (fun σ H Q x y h => oNe_fin h) (nomark _) ha hb

/-! ### is None -/
def D.isNon : D → Bool
  | .non => true
  | _ => false
def wIsN (neg : Bool) (w : WEx) : WEx := fun en P PX => w en (fun r en1 => match r.val en1.os with
  | some d => P (.sh (.bl (if neg then !d.isNon else d.isNon))) en1
  | none => False) PX
theorem Sees.isNon {K : PySem.W.Frag} {F : Addr → Prop} {H : Hp} : ∀ {d : D} {v : V}, Sees K F H d v → d.isNon = decide (v = .non)
  | .non, v, h => by rw [h.non]; rfl
  | .bl _, v, h => by rw [h.bl]; rfl
  | .int _, v, h => by rw [h.int]; rfl
  | .str _, v, h => by rw [h.str]; rfl
  | .obj _, v, h => by rw [h.obj]; rfl
  | .ty _, v, h => by rw [h.ty]; rfl
  | .lst _, v, h => by obtain ⟨_, _, e, _⟩ := h.lst; rw [e]; rfl
  | .tup _, v, h => by obtain ⟨_, _, e, _⟩ := h.tup; rw [e]; rfl
  | .dk _, v, h => by obtain ⟨_, _, e, _⟩ := h.dk; rw [e]; rfl
  | .dt _, v, h => by obtain ⟨_, _, e, _⟩ := h.dt; rw [e]; rfl
  | .ins _ _, v, h => by obtain ⟨_, _, _, e, _⟩ := h.ins; rw [e]; rfl
theorem RepR.sees {K : PySem.W.Frag} {as : List Addr} {os : Os} {F : Addr → Prop} {H0 H : Hp} (h : HS K as os F H) {v : V} : ∀ {r : R} {d : D}, RepR K as F H0 H r v → r.val os = some d → Sees K F H d v
  | .sh d', d, q, e => RepP.sees (r := .sh d') h q e
  | .ow k, d, q, e => RepP.sees (r := .ow k) h q e
  | .fr d', d, ⟨a, e1, _, _, _, own⟩, e => by cases e; exact .inr ⟨a, e1, own⟩
theorem isN_of {neg : Bool} {K : PySem.W.Frag} {σ : St} {H : Hp} {Q : VK} (h : tW K XW (wIsN neg wa) σ H Q) : tW K XW wa σ H fun x H1 => Q (.bl (if neg then !decide (x = .non) else decide (x = .non))) H1 := by
  obtain ⟨as, en, F, P, PX, es, hw, hq, hx⟩ := h
  refine ⟨as, en, F, _, PX, es, hw, fun v H1 r en1 F1 e1 s1 rr hp => ?_, hx⟩
  split at hp
  · rename_i e2
    rw [(rr.sees e1.hs e2).isNon] at hp
    exact hq _ H1 (.sh (.bl _)) en1 F1 e1 s1 (by simp only [RepR, Rep]) hp
  · exact hp.elim
theorem te_isN {j pos'} (ha : PE X a (tW X.K XW wa)) : PE X (.Compare a [.Is] [.Constant .none j pos'] pos) (tW X.K XW (wIsN false wa)) :=
  (pe_cmp (pc_isN ha) rfl).weak fun σ H Q h => isN_of h
theorem te_notN {j pos'} (ha : PE X a (tW X.K XW wa)) : PE X (.Compare a [.IsNot] [.Constant .none j pos'] pos) (tW X.K XW (wIsN true wa)) :=
  (pe_cmp (pc_notN ha) rfl).weak fun σ H Q h => isN_of h
theorem wT_of {K : PySem.W.Frag} {w : WEx} {σ : St} {H : Hp} {Q : Bool → Hp → Prop} (h : tWB K XW (wT w) σ H Q) : tW K XW w σ H (fun x H' => ∃ k, x = .bl k ∧ Q k H') := by
  obtain ⟨as, en, F, P, PX, es, hw, hq, hx⟩ := h
  refine ⟨as, en, F, _, PX, es, hw, fun v H1 r en1 F1 e1 s1 rr hp => ?_, hx⟩
  split at hp
  · simp only [RepR, Rep] at rr
    exact ⟨_, rr, hq _ H1 en1 F1 e1 s1 hp⟩
  · exact hp.elim
theorem tb_isN {j pos'} (ha : PE X a (tW X.K XW wa)) : PT X (.Compare a [.Is] [.Constant .none j pos'] pos) (tWB X.K XW (wT (wIsN false wa))) :=
  (pt_cmp (pc_isN ha) rfl).weak fun σ H Q h => isN_of (neg := false) (wT_of h)
theorem tb_notN {j pos'} (ha : PE X a (tW X.K XW wa)) : PT X (.Compare a [.IsNot] [.Constant .none j pos'] pos) (tWB X.K XW (wT (wIsN true wa))) :=
  (pt_cmp (pc_notN ha) rfl).weak fun σ H Q h => isN_of (neg := true) (wT_of h)

/-! ### a chain of ints -/
def wChain (p q : Int → Int → Bool) (wa wb wc : WEx) : WEx := fun en P PX => wa en (fun ra en1 => wb en1 (fun rb en2 => match ra.fz, rb.fz with
  | .sh (.int i), .sh (.int j) => (match p i j with
    | true => wc en2 (fun rc en3 => match rc.fz with
      | .sh (.int k) => P (.sh (.bl (q j k))) en3
      | _ => False) PX
    | false => P (.sh (.bl false)) en2)
  | _, _ => False) PX) PX
theorem te_chain {op op' : CmpOp} {p q : Int → Int → Bool} (ho : OpR X (compareOp op) (rI0 fun i j => .bl (p i j))) (ho' : OpR X (compareOp op') (rI0 fun i j => .bl (q i j)))
    (ha : PE X a (tW X.K XW wa)) (hb : PE X b (tW X.K XW wb)) (hc : PE X c (tW X.K XW wc)) (hm : lastMarks [op, op'] [b, c] = false := by rfl) :
    PE X (.Compare a [op, op'] [b, c] pos) (tW X.K XW (wChain p q wa wb wc)) :=
  (pe_chain ho ho' ha hb hc hm).weak fun σ H Q h => by
    obtain ⟨as, en, F, P, PX, es, hw, hq, hx⟩ := h
    refine ⟨as, en, F, _, PX, es, hw, fun x H1 ra en1 F1 e1 s1 rra hp => ?_, hx⟩
    obtain ⟨G1, g1, t1, pa, _⟩ := wait es e1 Step.refl s1 rra
    refine ⟨as, en1, G1, _, PX, g1, hp, fun y H2 rb en2 F2 e2 s2 rrb hp2 => ?_, hx.from t1⟩
    obtain ⟨G2, g2, t2, pb, _⟩ := wait g1 e2 t1 s2 rrb
    split at hp2
    · rename_i i j ei ej
      rw [ei] at pa; rw [ej] at pb
      simp only [RepP, Rep] at pa pb
      refine ⟨i, j, pa, pb, p i j, rfl, ?_⟩
      split at hp2
      · rename_i ep
        rw [ep]
        refine iteT ⟨as, en2, G2, _, PX, g2, hp2, fun z H3 rc en3 F3 e3 s3 rrc hp3 => ?_, hx.from t2⟩
        split at hp3
        · rename_i k ek
          obtain ⟨G3, g3, t3, pc, _⟩ := wait g2 e3 t2 s3 rrc
          rw [ek] at pc
          simp only [RepP, Rep] at pc
          exact ⟨j, k, pb, pc, hq _ H3 (.sh (.bl _)) en3 G3 g3 t3 (by simp only [RepR, Rep]) hp3⟩
        · exact hp3.elim
      · rename_i ep
        rw [ep]
        exact iteF (hq _ H2 (.sh (.bl _)) en2 G2 g2 t2 (by simp only [RepR, Rep]) hp2)
    · exact hp2.elim

/-! ### arguments, displays -/
def wNil : WAx := fun en P _ => P [] en
def wCons (w : WEx) (ws : WAx) : WAx := fun en P PX => w en (fun r en1 => ws en1 (fun rs en2 => P (r.fz :: rs) en2) PX) PX
theorem ta_nil : PA X [] (tWA X.K XW wNil) := pa_nil.weak fun σ H Q h => by
  obtain ⟨as, en, F, P, PX, es, hw, hq, hx⟩ := h
  exact hq [] H [] en F es Step.refl .nil hw
theorem ta_cons (ha : PE X e (tW X.K XW wa)) (hr : PA X es (tWA X.K XW ws)) (hs : starEach (e :: es) X.env = (false, eval e X.env) :: starEach es X.env := by rfl) : PA X (e :: es) (tWA X.K XW (wCons wa ws)) :=
  (pa_cons ha hr hs).weak fun σ H Q h => by
    obtain ⟨as, en, F, P, PX, es, hw, hq, hx⟩ := h
    refine ⟨as, en, F, _, PX, es, hw, fun x H1 r en1 F1 e1 s1 rr hp => ?_, hx⟩
    obtain ⟨G1, g1, t1, pa, _⟩ := wait es e1 Step.refl s1 rr
    exact ⟨as, en1, G1, _, PX, g1, hp, fun vs H2 rs en2 F2 e2 s2 pr hp2 => hq _ H2 _ en2 F2 e2 (t1.trans s2) (.cons (pa.step s2 g1.hs) pr) hp2, hx.from t1⟩
/-- a root is given away: it is frozen -/
def En.give (en : En) (k : Nat) (d : D) : En := ⟨en.ρ.map fun s => match s with
  | some (.ow j) => if j = k then some (.sh d) else s
  | s => s, en.os.set k none⟩
theorem ES.give {K : PySem.W.Frag} {as : List Addr} {en : En} {F : Addr → Prop} {H : Hp} {σ : St} (es : ES K as en F H σ) {k : Nat} {d : D} (hk : en.os[k]? = some (some d)) :
    ∃ a F', as[k]? = some a ∧ ES K as (en.give k d) F' H σ ∧ Step as en.os F H as (en.give k d).os F' H ∧ Rep K F' H d (.ref a) ∧ Mon F H F' H := by
  obtain ⟨a, ha, own, nf⟩ := es.hs.own k d hk
  have hlt : k < en.os.length := (List.getElem?_eq_some_iff.mp hk).1
  obtain ⟨o, ho⟩ := own.there
  have rd : Rep K (TL.plus F a) H d (.ref a) := own.rep (fun _ => .inl) (.inr rfl)
  have ne : ∀ j b, j ≠ k → as[j]? = some b → b ≠ a := fun j b hj hb e => by
    subst e
    obtain ⟨h1, e1⟩ := List.getElem?_eq_some_iff.mp hb
    obtain ⟨h2, e2⟩ := List.getElem?_eq_some_iff.mp ha
    exact hj ((List.getElem_inj es.hs.nd).mp (e1.trans e2.symm))
  refine ⟨a, TL.plus F a, ha, ⟨⟨fun j d' e => ?_, es.hs.nd, fun b f => f.elim (es.hs.dom b) (fun e => (by rw [e, ho]; exact fun z => nomatch z)), es.hs.asd, ?_⟩, fun i r e => ?_, by simp only [En.give, List.length_map]; exact es.ln⟩, ⟨fun _ => .inl, fun b f => f.elim .inl fun e => .inr (.inr ⟨k, d, e ▸ ha, hk⟩), fun _ _ e _ => .inl e, fun b l => ?_, List.prefix_refl _, fun _ h => .inl h⟩, rd, mon_sub fun _ => .inl⟩
  · by_cases hj : j = k
    · subst hj
      simp only [En.give] at e
      rw [List.getElem?_set_self hlt] at e
      cases e
    · simp only [En.give] at e
      rw [List.getElem?_set_ne (Ne.symm hj)] at e
      obtain ⟨b, hb, ow, nb⟩ := es.hs.own j d' e
      exact ⟨b, hb, Own.mono (mon_sub fun _ => .inl) (fun _ z => z) ow, fun z => z.elim nb (ne j b hj hb)⟩
  · simp only [En.give, List.length_set]; exact es.hs.len
  · simp only [En.give, List.getElem?_map] at e
    cases hs : en.ρ[i]? with
    | none => rw [hs] at e; cases e
    | some s =>
      rw [hs] at e
      cases s with
      | none => simp at e
      | some r0 =>
        obtain ⟨v, e1, rp⟩ := es.sl i r0 hs
        refine ⟨v, e1, ?_⟩
        cases r0 with
        | sh d0 => simp at e; subst e; exact Rep.mono (mon_sub fun _ => .inl) _ _ rp
        | fr d0 => exact rp.elim
        | ow j =>
          simp only [Option.map_some, Option.some.injEq] at e
          obtain ⟨b, hb, rfl⟩ := rp
          by_cases hj : j = k
          · subst hj
            simp at e; subst e
            rw [ha] at hb; cases hb
            exact rd
          · simp [hj] at e; subst e
            exact ⟨b, hb, rfl⟩
  · obtain ⟨j, d', hj, hd⟩ := l
    by_cases hjk : j = k
    · subst hjk
      simp only [En.give] at hd
      rw [List.getElem?_set_self hlt] at hd
      cases hd
    · simp only [En.give] at hd
      rw [List.getElem?_set_ne (Ne.symm hjk)] at hd
      exact .inl ⟨j, d', hj, hd⟩
def wGive (w : WEx) : WEx := fun en P PX => w en (fun r en1 => match r with
  | .ow k => (match en1.os[k]? with
    | some (some d) => P (.sh d) (en1.give k d)
    | _ => False)
  | r => P r en1) PX
theorem te_give (ha : PE X a (tW X.K XW wa)) : PE X a (tW X.K XW (wGive wa)) := ha.weak fun σ H Q h => by
  obtain ⟨as, en, F, P, PX, es, hw, hq, hx⟩ := h
  refine ⟨as, en, F, _, PX, es, hw, fun x H1 r en1 F1 e1 s1 rr hp => ?_, hx⟩
  cases r with
  | sh d => exact hq x H1 _ en1 F1 e1 s1 rr hp
  | fr d => exact hq x H1 _ en1 F1 e1 s1 rr hp
  | ow k =>
    simp only at hp
    split at hp
    · rename_i d hd
      obtain ⟨b, hb, rfl⟩ := rr
      obtain ⟨a', F2, ha', e2, s2, r2, _⟩ := e1.give hd
      rw [hb] at ha'; cases ha'
      exact hq _ H1 (.sh d) _ F2 e2 (s1.trans s2) r2 hp
    · exact hp.elim

def shs : List R → Option (List D)
  | [] => some []
  | .sh d :: rs => (shs rs).map (d :: ·)
  | _ :: _ => none
theorem shs_rep {K : PySem.W.Frag} {as : List Addr} {F : Addr → Prop} {H : Hp} : ∀ {rs : List R} {vs : List V} {ds : List D}, Paired (RepP K as F H) rs vs → shs rs = some ds → RepL K F H ds vs
  | [], _, ds, .nil, e => by simp only [shs] at e; cases e; exact RepL.nil
  | r :: rs, _, ds, .cons q t, e => by
    cases r with
    | ow k => simp only [shs] at e; cases e
    | fr d => simp only [shs] at e; cases e
    | sh d =>
      simp only [shs] at e
      cases z : shs rs with
      | none => rw [z] at e; cases e
      | some es => rw [z] at e; cases e; exact RepL.cons q (shs_rep t z)
def wTup (ws : WAx) : WEx := fun en P PX => ws en (fun rs en1 => match shs rs with
  | some ds => ds.length ≤ sizeLine ∧ P (.sh (.tup ds)) en1
  | none => False) PX
def wLst (ws : WAx) : WEx := fun en P PX => ws en (fun rs en1 => match shs rs with
  | some ds => ds.length ≤ sizeLine ∧ P (.fr (.lst ds)) en1
  | none => False) PX
theorem te_tup {x1} (h : PA X es (tWA X.K XW ws)) : PE X (.Tuple es x1 pos) (tW X.K XW (wTup ws)) := (pe_tup h).weak fun σ H Q h => by
  obtain ⟨as, en, F, P, PX, es, hw, hq, hx⟩ := h
  refine ⟨as, en, F, _, PX, es, hw, fun vs H1 rs en1 F1 e1 s1 pr hp => ?_, hx⟩
  split at hp
  · rename_i ds e
    have rl := shs_rep pr e
    refine ⟨by rw [rl.length]; exact hp.1, fun p h0 => ?_⟩
    obtain ⟨q1, q2, q3⟩ := new_tup e1 s1 h0 (by rw [rl.length]; exact hp.1) rl
    exact hq _ _ _ en1 _ q1 q2 q3 hp.2
  · exact hp.elim
theorem te_lst (h : PA X es (tWA X.K XW ws)) : PE X (.List es pos) (tW X.K XW (wLst ws)) := (pe_lst h).weak fun σ H Q h => by
  obtain ⟨as, en, F, P, PX, es, hw, hq, hx⟩ := h
  refine ⟨as, en, F, _, PX, es, hw, fun vs H1 rs en1 F1 e1 s1 pr hp => ?_, hx⟩
  split at hp
  · rename_i ds e
    have rl := shs_rep pr e
    refine ⟨by rw [rl.length]; exact hp.1, fun p h0 => ?_⟩
    obtain ⟨q1, q2, q3⟩ := new_lst e1 s1 h0 (by rw [rl.length]; exact hp.1) rl
    exact hq _ _ _ en1 _ q1 q2 q3 hp.2
  · exact hp.elim

/-! ### subscripts, fields, built-in functions -/
def oIx : R → R → WEx := fun ra rb en P _ => match ra.val en.os, rb with
  | some (.lst xs), .sh (.int i) => (match atI xs i with
    | some d => P (.sh d) en
    | none => False)
  | some (.tup xs), .sh (.int i) => (match atI xs i with
    | some d => P (.sh d) en
    | none => False)
  | some (.str z), .sh (.int i) => z.length ≤ sizeLine ∧ (match atI z.cps.toList i with
    | some c => P (.sh (.str ⟨#[c]⟩)) en
    | none => False)
  | _, _ => False
theorem RepL.atI {K : PySem.W.Frag} {F : Addr → Prop} {H : Hp} {ds : List D} {vs : List V} {i : Int} {d : D} (h : RepL K F H ds vs) (e : atI ds i = some d) : ∃ v, L2.atI vs i = some v ∧ Rep K F H d v := by
  unfold L2.atI at e ⊢
  rw [h.length]
  cases z : ixN ds.length i with
  | none => rw [z] at e; cases e
  | some j =>
    rw [z] at e
    obtain ⟨w, e1, r⟩ := h.get (i := j) e
    exact ⟨w, e1, r⟩
theorem ix_fin {K : PySem.W.Frag} {σ : St} {H : Hp} {Q : VK} {x y : V} (h : tP K XW [y, x] (l2 oIx) σ H Q) : rIxL K x y H Q ∨ rIxT K x y H Q ∨ rIxS x y H Q := by
  obtain ⟨as, os0, F0, H0, en, F, rs, P, PX, es, st, pr, hw, hq, hx⟩ := h
  cases pr with
  | cons ry pr =>
    cases pr with
    | cons rx pr =>
      cases pr
      simp only [l2, oIx] at hw
      split at hw
      · rename_i e1
        split at hw
        · rename_i d e3
          obtain ⟨l, vs, e2, hl, hz, rl⟩ := (rx.sees es.hs e1).lst
          obtain ⟨w, e4, r4⟩ := rl.atI e3
          simp only [RepP, Rep] at ry
          exact .inl ⟨l, vs, _, w, e2, ry, .inl hl, e4, hq _ H (.sh d) en F es st r4 hw⟩
        · exact hw.elim
      · rename_i e1
        split at hw
        · rename_i d e3
          obtain ⟨l, vs, e2, hl, hz, rl⟩ := (rx.sees es.hs e1).tup
          obtain ⟨w, e4, r4⟩ := rl.atI e3
          simp only [RepP, Rep] at ry
          exact .inr (.inl ⟨l, vs, _, w, e2, ry, .of hl, e4, hq _ H (.sh d) en F es st r4 hw⟩)
        · exact hw.elim
      · rename_i e1
        obtain ⟨hz, hw⟩ := hw
        split at hw
        · rename_i c e3
          simp only [RepP, Rep] at ry
          exact .inr (.inr ⟨_, _, c, (rx.sees es.hs e1).str, ry, hz, e3, hq _ H (.sh (.str ⟨#[c]⟩)) en F es st (by simp only [RepR, Rep]) hw⟩)
        · exact hw.elim
      · exact hw.elim
theorem te_ix (ha : PE X a (tW X.K XW wa)) (hb : PE X b (tW X.K XW wb)) (hs : PlainIx b := by exact fun _ _ => rfl) : PE X (.Subscript a b pos) (tW X.K XW (w2 oIx wa wb)) :=
  (pe_ix ix_seq ha hb hs).weak fun σ H Q h => tOp_of (fun x y H h => ix_fin h) h
def wFld (K : PySem.W.Frag) (f : Str) (w : WEx) : WEx := fun en P PX => w en (fun r en1 => match r.val en1.os with
  | some (.ins C fs) => Cls K C ∧ NoAttr K C f ∧ (match fs.lookup f with
    | some d => P (.sh d) en1
    | none => False)
  | _ => False) PX
/-- a result that is read at once: what it holds is frozen already -/
theorem RepR.inner {K : PySem.W.Frag} {as : List Addr} {os : Os} {F : Addr → Prop} {H0 H : Hp} {r : R} {v : V} {d : D} (h : HS K as os F H) (q : RepR K as F H0 H r v) (e : r.val os = some d) : Sees K F H d v := q.sees h e
theorem te_fld {f : Str} (ha : PE X e (tW X.K XW wa)) (hb : attributeBase e f X.env (eval e X.env) = eval e X.env := by rfl) : PE X (.Attribute e f pos) (tW X.K XW (wFld X.K f wa)) :=
  (pe_fld ha hb).weak fun σ H Q h => by
    obtain ⟨as, en, F, P, PX, es, hw, hq, hx⟩ := h
    refine ⟨as, en, F, _, PX, es, hw, fun v H1 r en1 F1 e1 s1 rr hp => ?_, hx⟩
    split at hp
    · rename_i C fs ev
      obtain ⟨c, n, hp⟩ := hp
      split at hp
      · rename_i d ed
        obtain ⟨l, dx, gs, e2, hl, rf⟩ := (rr.sees e1.hs ev).ins
        obtain ⟨w, e3, r3⟩ := rf.lookup ed
        exact ⟨l, C, dx, gs, w, e2, hl, c, n, e3, hq _ H1 (.sh d) en1 F1 e1 s1 r3 hp⟩
      · exact hp.elim
    · exact hp.elim
/-- built-in functions by values -/
def wF (op : List R → WEx) (ws : WAx) : WEx := fun en P PX => ws en (fun rs en1 => op rs en1 P PX) PX
theorem tF_of {K : PySem.W.Frag} {op : List R → WEx} {σ : St} {H : Hp} {Q : VK} (h : tW K XW (wF op ws) σ H Q) : tWA K XW ws σ H fun vs H1 => tP K XW vs op σ H1 Q := by
  obtain ⟨as, en, F, P, PX, es, hw, hq, hx⟩ := h
  exact ⟨as, en, F, _, PX, es, hw, fun vs H1 rs en1 F1 e1 s1 pr hp => ⟨as, en.os, F, H, en1, F1, rs, P, PX, e1, s1, pr, hp, hq, hx⟩, hx⟩
theorem te_fn {x : Str} {id : String} {r : List V → Hp → VK → Prop} {op : List R → WEx} (hc : CallR X (.builtin id) r) (fin : ∀ σ H Q vs, tP X.K XW vs op σ H Q → r vs H Q) (hg : Gl X x) (hm : X.mg x = none) (hv : bootBuiltins x = some (.builtin id))
    (ha : PA X (e :: es) (tWA X.K XW ws)) (hn : x ≠ "__name__" := by decide) (hdb : (x == ("__debug__" : Str)) = false := by decide) (he : starEach (e :: es) X.env = (false, eval e X.env) :: starEach es X.env := by rfl) (hpl : (backTo pos (starEach es X.env)).any (·.1) = false := by rfl) :
    PE X (.Call (.Name x p) (e :: es) [] pos) (tW X.K XW (wF op ws)) :=
  (pe_callB hc hg hm hv ha hn hdb he hpl).weak fun σ H Q h => by
    obtain ⟨as, en, F, P, PX, es, hw, hq, hx⟩ := tF_of h
    exact ⟨as, en, F, P, PX, es, hw, fun vs H1 rs en1 F1 e1 s1 pr hp => fin _ _ _ _ (hq vs H1 rs en1 F1 e1 s1 pr hp), hx⟩
theorem te_fnT {x : Str} {T : String} {r : List V → Hp → VK → Prop} {op : List R → WEx} (hc : CallR X (.type T) r) (fin : ∀ σ H Q vs, tP X.K XW vs op σ H Q → r vs H Q) (hg : Gl X x) (hm : X.mg x = none) (hv : bootBuiltins x = some (.type T))
    (ha : PA X (e :: es) (tWA X.K XW ws)) (hn : x ≠ "__name__" := by decide) (hdb : (x == ("__debug__" : Str)) = false := by decide) (he : starEach (e :: es) X.env = (false, eval e X.env) :: starEach es X.env := by rfl) (hpl : (backTo pos (starEach es X.env)).any (·.1) = false := by rfl) :
    PE X (.Call (.Name x p) (e :: es) [] pos) (tW X.K XW (wF op ws)) :=
  (pe_callTy hc hg hm hv ha hn hdb he hpl).weak fun σ H Q h => by
    obtain ⟨as, en, F, P, PX, es, hw, hq, hx⟩ := tF_of h
    exact ⟨as, en, F, P, PX, es, hw, fun vs H1 rs en1 F1 e1 s1 pr hp => fin _ _ _ _ (hq vs H1 rs en1 F1 e1 s1 pr hp), hx⟩
end
end L2.TL

/-! text TL5 -/
set_option Elab.async false
set_option linter.all false
set_option maxRecDepth 100000
set_option maxHeartbeats 2000000
namespace L2.TL
open PySem PySem.Spec PyProof.Rows

/-! ### statements -/
structure Post where
  nx : En → Prop
  rt : R → En → Prop
  bk : En → Prop
  ct : En → Prop
  ex : Er → En → Prop
abbrev WSx := En → Post → Prop

def CExS (K : PySem.W.Frag) (XW : WX) (as : List Addr) (os : Os) (F : Addr → Prop) (H : Hp) (PX : PEr) : Prop :=
  ∀ cls d σ' H' as' er en' F', ES K as' en' F' H' σ' → Step as os F H as' en'.os F' H' → RepE K F' H' er cls d → PX er en' → XW cls d σ' H'
/-- a state behind -/
def Bh (K : PySem.W.Frag) (as : List Addr) (os : Os) (F : Addr → Prop) (H : Hp) (P : En → Prop) (D : St → Hp → Prop) : Prop :=
  ∀ σ' H' as' en' F', ES K as' en' F' H' σ' → Step as os F H as' en'.os F' H' → P en' → D σ' H'
def BhR (K : PySem.W.Frag) (as : List Addr) (os : Os) (F : Addr → Prop) (H : Hp) (P : R → En → Prop) (D : VK) : Prop :=
  ∀ v σ' H' as' r en' F', ES K as' en' F' H' σ' → Step as os F H as' en'.os F' H' → RepR K as' F' H H' r v → P r en' → D v H'
def tS (K : PySem.W.Frag) (XW : WX) (w : WSx) : TS := fun D σ H => ∃ as en F P, ES K as en F H σ ∧ w en P ∧
  Bh K as en.os F H P.nx D.nx ∧ Bh K as en.os F H P.bk D.bk ∧ Bh K as en.os F H P.ct D.ct ∧ BhR K as en.os F H P.rt D.rt ∧ CExS K XW as en.os F H P.ex

theorem RepR.liftS {K : PySem.W.Frag} {as as1 as2 : List Addr} {os os1 : Os} {F F1 : Addr → Prop} {H H1 H2 : Hp} {G : Addr → Prop} (s : Step as os F H as1 os1 F1 H1) (p : as1 <+: as2) : ∀ {r : R} {v : V}, RepR K as2 G H1 H2 r v → RepR K as2 G H H2 r v
  | .sh _, _, q => q
  | .ow _, _, q => q
  | .fr _, _, ⟨a, e, hn, ha, hf, own⟩ => ⟨a, e, by
    rcases s.fresh hn with z | z
    · exact z
    · have m := z.mem
      have : a ∈ as2 := by
        obtain ⟨t, rfl⟩ := s.pre.trans p
        exact List.mem_append_left _ m
      exact absurd this ha, ha, hf, own⟩

section
variable {K : PySem.W.Frag} {XW : WX} {as as1 : List Addr} {os os1 : Os} {F F1 : Addr → Prop} {H H1 : Hp} {σ : St}
theorem Bh.from {P : En → Prop} {D : St → Hp → Prop} (b : Bh K as os F H P D) (s : Step as os F H as1 os1 F1 H1) : Bh K as1 os1 F1 H1 P D := fun σ' H' as' en' F' e t p => b σ' H' as' en' F' e (s.trans t) p
theorem BhR.from {P : R → En → Prop} {D : VK} (b : BhR K as os F H P D) (s : Step as os F H as1 os1 F1 H1) : BhR K as1 os1 F1 H1 P D := fun v σ' H' as' r en' F' e t rr p => b v σ' H' as' r en' F' e (s.trans t) (rr.liftS s t.pre) p
theorem CExS.from {PX : PEr} (c : CExS K XW as os F H PX) (s : Step as os F H as1 os1 F1 H1) : CExS K XW as1 os1 F1 H1 PX := fun cls d σ' H' as' er en' F' e t r p => c cls d σ' H' as' er en' F' e (s.trans t) r p
theorem CExS.at {PX : PEr} (c : CExS K XW as os F H PX) (σ : St) : CEx K XW as os F H PX σ := fun cls d H' er en' F' e t r p => c cls d σ H' as er en' F' e t r p
end

section
variable {X : Cx} {XW : WX} {pos p apos : Pos} {a b c e o : Expr} {es : List Expr} {wa wb wc wo : WEx} {ua ub : WBx} {ws : WAx} {st : Stmt} {sts : List Stmt} {w v : WSx}

def wNext : WSx := fun en P => P.nx en
def wSeq (w v : WSx) : WSx := fun en P => w en { P with nx := fun en1 => v en1 P }
theorem ts_nil : PSs X [] (tS X.K XW wNext) := pss_nil.weak fun D σ H h => by
  obtain ⟨as, en, F, P, es, hw, h1, h2, h3, h4, h5⟩ := h
  exact h1 σ H as en F es Step.refl hw
theorem ts_one (h : PS X st (tS X.K XW w)) : PSs X [st] (tS X.K XW w) := pss_one h
theorem ts_cons (h : PS X st (tS X.K XW w)) (h2 : PSs X sts (tS X.K XW v)) : PSs X (st :: sts) (tS X.K XW (wSeq w v)) := (pss_cons h h2).weak fun D σ H h => by
  obtain ⟨as, en, F, P, es, hw, h1, h2, h3, h4, h5⟩ := h
  exact ⟨as, en, F, _, es, hw, fun σ' H' as' en' F' e s p => ⟨as', en', F', P, e, p, h1.from s, h2.from s, h3.from s, h4.from s, h5.from s⟩, h2, h3, h4, h5⟩
theorem ts_never : PS X st (tS X.K XW fun _ _ => False) := ps_never.weak fun D σ H h => by
  obtain ⟨as, en, F, P, es, hw, _⟩ := h
  exact hw.elim
theorem tss_never : PSs X sts (tS X.K XW fun _ _ => False) := pss_never.weak fun D σ H h => by
  obtain ⟨as, en, F, P, es, hw, _⟩ := h
  exact hw.elim
def wBreak : WSx := fun en P => P.bk en
def wCont : WSx := fun en P => P.ct en
theorem ts_break : PS X (.Break pos) (tS X.K XW wBreak) := ps_break.weak fun D σ H h => by
  obtain ⟨as, en, F, P, es, hw, h1, h2, h3, h4, h5⟩ := h
  exact h2 σ H as en F es Step.refl hw
theorem ts_continue : PS X (.Continue pos) (tS X.K XW wCont) := ps_continue.weak fun D σ H h => by
  obtain ⟨as, en, F, P, es, hw, h1, h2, h3, h4, h5⟩ := h
  exact h3 σ H as en F es Step.refl hw
theorem ts_pass : PS X (.Pass pos) (tS X.K XW wNext) := ps_pass.weak fun D σ H h => by
  obtain ⟨as, en, F, P, es, hw, h1, h2, h3, h4, h5⟩ := h
  exact h1 σ H as en F es Step.refl hw
def wRet (w : WEx) : WSx := fun en P => w en P.rt P.ex
theorem ts_ret (he : PE X e (tW X.K XW wa)) : PS X (.Return (some e) pos) (tS X.K XW (wRet wa)) := (ps_ret he).weak fun D σ H h => by
  obtain ⟨as, en, F, P, es, hw, h1, h2, h3, h4, h5⟩ := h
  exact ⟨as, en, F, _, _, es, hw, fun v H' r en' F' e s rr hp => h4 v σ H' as r en' F' e s rr hp, h5.at σ⟩
def wRetN : WSx := fun en P => P.rt (.sh .non) en
theorem ts_retN : PS X (.Return none pos) (tS X.K XW wRetN) := ps_retN.weak fun D σ H h => by
  obtain ⟨as, en, F, P, es, hw, h1, h2, h3, h4, h5⟩ := h
  exact h4 .non σ H as (.sh .non) en F es Step.refl (by simp only [RepR, Rep]) hw
def wExpr (w : WEx) : WSx := fun en P => w en (fun _ en1 => P.nx en1) P.ex
theorem ts_expr (he : PE X e (tW X.K XW wa)) (hs : swapsWith e none pos.line X.env = pure false := by rfl) : PS X (.Expr e pos) (tS X.K XW (wExpr wa)) := (ps_expr he hs).weak fun D σ H h => by
  obtain ⟨as, en, F, P, es, hw, h1, h2, h3, h4, h5⟩ := h
  exact ⟨as, en, F, _, _, es, hw, fun v H' r en' F' e s rr hp => h1 σ H' as en' F' e s hp, h5.at σ⟩
def wIfS (u : WBx) (w v : WSx) : WSx := fun en P => u en (fun k en1 => match k with
  | true => w en1 P
  | false => v en1 P) P.ex
theorem ts_if {c : Expr} {s1 s2 : List Stmt} (hc : PT X c (tWB X.K XW ua)) (ha : PSs X s1 (tS X.K XW w)) (hb : PSs X s2 (tS X.K XW v)) : PS X (.If c s1 s2 pos) (tS X.K XW (wIfS ua w v)) := (ps_if hc ha hb).weak fun D σ H h => by
  obtain ⟨as, en, F, P, es, hw, h1, h2, h3, h4, h5⟩ := h
  refine ⟨as, en, F, _, _, es, hw, fun k H' en' F' e s hp => ?_, h5.at σ⟩
  cases k with
  | true => exact iteT ⟨as, en', F', P, e, hp, h1.from s, h2.from s, h3.from s, h4.from s, h5.from s⟩
  | false => exact iteF ⟨as, en', F', P, e, hp, h1.from s, h2.from s, h3.from s, h4.from s, h5.from s⟩

/-! ### stores to names -/
theorem ES.set {K : PySem.W.Frag} {as : List Addr} {en : En} {F : Addr → Prop} {H : Hp} {σ : St} (es : ES K as en F H σ) (i : Nat) {r : R} {v : V} (h : RepP K as F H r v) : ES K as ⟨en.ρ.set i (some r), en.os⟩ F H (σ.set i (some v)) := by
  refine ⟨es.hs, fun j r' e => ?_, by simp only [List.length_set]; exact es.ln⟩
  by_cases hj : i = j
  · subst hj
    by_cases hl : i < en.ρ.length
    · rw [List.getElem?_set_self hl] at e
      cases e
      exact ⟨v, by rw [List.getElem?_set_self (es.ln ▸ hl)], h⟩
    · rw [List.getElem?_eq_none (by simp only [List.length_set]; omega)] at e
      cases e
  · rw [List.getElem?_set_ne hj] at e
    obtain ⟨v', e1, q⟩ := es.sl j r' e
    exact ⟨v', by rw [List.getElem?_set_ne hj]; exact e1, q⟩
theorem ES.unset {K : PySem.W.Frag} {as : List Addr} {en : En} {F : Addr → Prop} {H : Hp} {σ : St} (es : ES K as en F H σ) (i : Nat) (v : Option V) : ES K as ⟨en.ρ.set i none, en.os⟩ F H (σ.set i v) := by
  refine ⟨es.hs, fun j r' e => ?_, by simp only [List.length_set]; exact es.ln⟩
  by_cases hj : i = j
  · subst hj
    by_cases hl : i < en.ρ.length
    · rw [List.getElem?_set_self hl] at e; cases e
    · rw [List.getElem?_eq_none (by simp only [List.length_set]; omega)] at e
      cases e
  · rw [List.getElem?_set_ne hj] at e
    obtain ⟨v', e1, q⟩ := es.sl j r' e
    exact ⟨v', by rw [List.getElem?_set_ne hj]; exact e1, q⟩
/-- a fresh object becomes a root -/
theorem ES.root {K : PySem.W.Frag} {as : List Addr} {en : En} {F : Addr → Prop} {H : Hp} {σ : St} (es : ES K as en F H σ) {a : Addr} {d : D} (ha : a ∉ as) (nf : ¬ F a) (own : Own K F H d a) : ES K (as ++ [a]) ⟨en.ρ, en.os ++ [some d]⟩ F H σ := by
  refine ⟨⟨fun k d' e => ?_, ?_, es.hs.dom, fun b hb => ?_, ?_⟩, fun i r e => ?_, es.ln⟩
  · by_cases hk : k < en.os.length
    · rw [List.getElem?_append_left hk] at e
      obtain ⟨b, hb, q⟩ := es.hs.own k d' e
      exact ⟨b, prefix_get ⟨[a], rfl⟩ hb, q⟩
    · rw [List.getElem?_append_right (by omega)] at e
      have : k - en.os.length = 0 := by
        have := (List.getElem?_eq_some_iff.mp e).1
        simp at this; omega
      rw [this] at e
      simp at e; subst e
      refine ⟨a, ?_, own, nf⟩
      rw [List.getElem?_append_right (by rw [← es.hs.len]; omega), ← es.hs.len, this]; rfl
  · exact List.nodup_append.mpr ⟨es.hs.nd, by simp, fun x hx y hy => by simp at hy; subst hy; exact fun z => ha (z ▸ hx)⟩
  · rcases List.mem_append.mp hb with q | q
    · exact es.hs.asd b q
    · simp at q; subst q
      obtain ⟨o, ho⟩ := own.there
      rw [ho]; exact fun z => by cases z
  · simp only [List.length_append, List.length_cons, List.length_nil]; have := es.hs.len; omega
  · obtain ⟨v', e1, q⟩ := es.sl i r e
    refine ⟨v', e1, ?_⟩
    cases r with
    | sh d0 => exact q
    | fr d0 => exact q.elim
    | ow k => obtain ⟨b, hb, z⟩ := q; exact ⟨b, prefix_get ⟨[a], rfl⟩ hb, z⟩
theorem Step.root {as as1 : List Addr} {os os1 : Os} {F F1 : Addr → Prop} {H H1 : Hp} (s : Step as os F H as1 os1 F1 H1) {a : Addr} {d : D} (hn : H a = none) (ln : os1.length = as1.length) : Step as os F H (as1 ++ [a]) (os1 ++ [some d]) F1 H1 where
  sub := s.sub
  new := s.new
  stay := s.stay
  liv := fun b ⟨k, d', e1, e2⟩ => by
    by_cases hk : k < os1.length
    · rw [List.getElem?_append_left hk] at e2
      rw [List.getElem?_append_left (by omega)] at e1
      exact s.liv b ⟨k, d', e1, e2⟩
    · rw [List.getElem?_append_right (by omega)] at e1
      have : k - as1.length = 0 := by
        have := (List.getElem?_eq_some_iff.mp e1).1
        simp at this; omega
      rw [this] at e1
      simp at e1; subst e1
      exact .inr hn
  pre := s.pre.trans ⟨[a], rfl⟩
  ext := fun b hb => by
    rcases List.mem_append.mp hb with q | q
    · exact s.ext b q
    · simp at q; subst q; exact .inr hn
def wSet (i : Nat) (w : WEx) : WSx := fun en P => w en (fun r en1 => P.nx ⟨en1.ρ.set i (some r.fz), en1.os⟩) P.ex
def wOwn (i : Nat) (w : WEx) : WSx := fun en P => w en (fun r en1 => match r with
  | .fr d => P.nx ⟨en1.ρ.set i (some (.ow en1.os.length)), en1.os ++ [some d]⟩
  | _ => False) P.ex
theorem tSet_of {K : PySem.W.Frag} {i : Nat} {D : Ends} {σ : St} {H : Hp} (h : tS K XW (wSet i wa) D σ H) : tAsg (tW K XW wa) (gName i) D σ H := by
  obtain ⟨as, en, F, P, es, hw, h1, h2, h3, h4, h5⟩ := h
  refine ⟨as, en, F, _, _, es, hw, fun v H' r en' F' e s rr hp => ?_, h5.at σ⟩
  obtain ⟨G, g1, t1, rp, _⟩ := wait es e Step.refl s rr
  exact h1 _ H' as _ G (g1.set i rp) t1 hp
theorem tOwn_of {K : PySem.W.Frag} {i : Nat} {D : Ends} {σ : St} {H : Hp} (h : tS K XW (wOwn i wa) D σ H) : tAsg (tW K XW wa) (gName i) D σ H := by
  obtain ⟨as, en, F, P, es, hw, h1, h2, h3, h4, h5⟩ := h
  refine ⟨as, en, F, _, _, es, hw, fun v H' r en' F' e s rr hp => ?_, h5.at σ⟩
  split at hp
  · rename_i d
    obtain ⟨a, rfl, hn, ha, nf, own⟩ := rr
    refine h1 _ H' (as ++ [a]) _ F' ((e.root ha nf own).set i (r := .ow en'.os.length) (v := .ref a) ⟨a, ?_, rfl⟩) (s.root hn e.hs.len) hp
    rw [List.getElem?_append_right (by rw [← e.hs.len]; omega), ← e.hs.len]; simp
  · exact hp.elim
theorem ts_set (i : Nat) {x : Str} {pos' : Pos} (hN : X.N.Nodup) (hi : X.N[i]? = some x) (hx : Loc X.env.scope x) (he : PE X e (tW X.K XW wa)) (hs : swapsWith e (some (.Name x pos')) pos.line X.env = pure false := by rfl) (hf : X.fn x = true ∨ X.env.scope.names.lookup x = some .local := by first | exact .inl rfl | exact .inr rfl | assumption) :
    PS X (.Assign [.Name x pos'] e pos) (tS X.K XW (wSet i wa)) := (ps_set hN hi hx he hs hf).weak fun D σ H h => tSet_of h
theorem ts_own (i : Nat) {x : Str} {pos' : Pos} (hN : X.N.Nodup) (hi : X.N[i]? = some x) (hx : Loc X.env.scope x) (he : PE X e (tW X.K XW wa)) (hs : swapsWith e (some (.Name x pos')) pos.line X.env = pure false := by rfl) (hf : X.fn x = true ∨ X.env.scope.names.lookup x = some .local := by first | exact .inl rfl | exact .inr rfl | assumption) :
    PS X (.Assign [.Name x pos'] e pos) (tS X.K XW (wOwn i wa)) := (ps_set hN hi hx he hs hf).weak fun D σ H h => tOwn_of h
end

/-! ### what a def promises -/
abbrev Sw := List R → Os → (R → Os → Prop) → (Er → Os → Prop) → Prop
def spT (K : PySem.W.Frag) (Φ : Sw) : Sp := fun vs H Q E => ∃ as os F rs P PX, HS K as os F H ∧ Paired (RepP K as F H) rs vs ∧ Φ rs os P PX ∧
  (∀ v H' r os' F', HS K as os' F' H' → Step as os F H as os' F' H' → RepR K as F' H H' r v → P r os' → Q v H') ∧
  ∀ cls d H' er os' F', HS K as os' F' H' → Step as os F H as os' F' H' → RepE K F' H' er cls d → PX er os' → E cls d H'
/-- a def of the module that keeps the promise Φ -/
structure Fn (P : Program) (w : World) (K : PySem.W.Frag) (mg : Str → Option Value) (base : Heap) (k : Nat) (x : Str) (Φ : Sw) : Prop where
  ex : ∃ f fd ps, FnOk P w K mg base (CX P w) k f fd ps (spT K Φ) ∧ mg x = some (.ref f) ∧ PySem.W.keepIn K (.ref f) = true ∧ Binds K fd ps []
section
variable {X : Cx} {XW : WX} {pos p apos : Pos} {a b c e o : Expr} {es : List Expr} {wa wb wc wo : WEx} {ws : WAx}
theorem ES.call {K : PySem.W.Frag} {as : List Addr} {en : En} {F F' : Addr → Prop} {H H' : Hp} {σ : St} {os' : Os} (es : ES K as en F H σ) (h : HS K as os' F' H') (s : Step as en.os F H as os' F' H') : ES K as ⟨en.ρ, os'⟩ F' H' σ :=
  ⟨h, fun i r e => let ⟨v, e1, q⟩ := es.sl i r e; ⟨v, e1, q.step s es.hs⟩, es.ln⟩
def wCall (Φ : Sw) (ws : WAx) : WEx := fun en P PX => ws en (fun rs en1 => Φ rs en1.os (fun r os' => P r ⟨en1.ρ, os'⟩) (fun er os' => PX er ⟨en1.ρ, os'⟩)) PX
theorem spT_of {K : PySem.W.Frag} {Φ : Sw} {σ : St} {H : Hp} {Q : VK} (h : tW K XW (wCall Φ ws) σ H Q) : tWA K XW ws σ H fun vs H1 => spT K Φ vs H1 Q (L2.WE XW σ) := by
  obtain ⟨as, en, F, P, PX, es, hw, hq, hx⟩ := h
  refine ⟨as, en, F, _, PX, es, hw, fun vs H1 rs en1 F1 e1 s1 pr hp => ?_, hx⟩
  refine ⟨as, en1.os, F1, rs, _, _, e1.hs, pr, hp, fun v H2 r os2 F2 h2 s2 rr hp2 => ?_, fun cls d H2 er os2 F2 h2 s2 re hp2 => ?_⟩
  · exact hq v H2 r _ F2 (e1.call h2 s2) (s1.trans s2) (rr.lift s1) hp2
  · exact hx cls d H2 er _ F2 (e1.call h2 s2) (s1.trans s2) re hp2
theorem te_call {k j : Nat} {x : Str} {Φ : Sw} (G : Fn X.prog X.w X.K X.mg X.base k x Φ) (hr : Room j X.A) (tk : Takes X XW) (ha : PA X (e :: es) (tWA X.K XW ws)) (hkj : k ≤ j := by decide) (hg : Gl X x := by rfl)
    (hdb : (x == ("__debug__" : Str)) = false := by decide) (he : starEach (e :: es) X.env = (false, eval e X.env) :: starEach es X.env := by rfl) (hpl : (backTo pos (starEach es X.env)).any (·.1) = false := by rfl) :
    PE X (.Call (.Name x p) (e :: es) [] pos) (tW X.K XW (wCall Φ ws)) := by
  obtain ⟨f, fd, ps, F, hm, hk, hb⟩ := G.ex
  refine (pe_callSD F (hr.mono hkj) hg hm hk hb .nil (fun σ => passAt tk σ) ha hdb he hpl).weak fun σ H Q h => ?_
  obtain ⟨as, en, F, P, PX, es, hw, hq, hx⟩ := spT_of h
  exact ⟨as, en, F, P, PX, es, hw, fun vs H1 rs en1 F1 e1 s1 pr hp => by show spT _ _ (vs ++ []) _ _ _; rw [List.append_nil]; exact hq vs H1 rs en1 F1 e1 s1 pr hp, hx⟩
end

/-! ### a def by its body -/
/-- what goes out: a root of the def's own goes out as a fresh object -/
def bodyPost (n : Nat) (P : R → Os → Prop) (PX : Er → Os → Prop) : Post where
  nx := fun en => P (.sh .non) (en.os.take n)
  rt := fun r en => match r with
    | .ow k => if k < n then P (.ow k) (en.os.take n) else match en.os[k]? with
      | some (some d) => P (.fr d) (en.os.take n)
      | _ => False
    | r => P r (en.os.take n)
  bk := fun _ => False
  ct := fun _ => False
  ex := fun er en => PX er (en.os.take n)
theorem HS.take {K : PySem.W.Frag} {as as' : List Addr} {os' : Os} {F : Addr → Prop} {H : Hp} (h : HS K as' os' F H) (p : as <+: as') : HS K as (os'.take as.length) F H := by
  obtain ⟨t, rfl⟩ := p
  refine ⟨fun k d e => ?_, (List.nodup_append.mp h.nd).1, h.dom, fun a ha => h.asd a (List.mem_append_left _ ha), ?_⟩
  · rw [List.getElem?_take] at e
    split at e
    · rename_i hk
      obtain ⟨a, ha, q⟩ := h.own k d e
      exact ⟨a, by rw [List.getElem?_append_left hk] at ha; exact ha, q⟩
    · cases e
  · have := h.len
    simp only [List.length_append] at this
    rw [List.length_take]; omega
theorem Step.take {as as' : List Addr} {os os' : Os} {F F' : Addr → Prop} {H H' : Hp} (s : Step as os F H as' os' F' H') : Step as os F H as (os'.take as.length) F' H' where
  sub := s.sub
  new := s.new
  stay := s.stay
  liv := fun a ⟨k, d, e1, e2⟩ => by
    rw [List.getElem?_take] at e2
    split at e2
    · exact s.liv a ⟨k, d, prefix_get s.pre e1, e2⟩
    · cases e2
  pre := List.prefix_refl _
  ext := fun a h => .inl h
theorem RepR.out {K : PySem.W.Frag} {as as' : List Addr} {os : Os} {en' : En} {F F' : Addr → Prop} {H H' : Hp} {r : R} {v : V} {P : R → Os → Prop} {PX : Er → Os → Prop} (h : HS K as' en'.os F' H') (s : Step as os F H as' en'.os F' H') (rr : RepR K as' F' H H' r v) (hp : (bodyPost as.length P PX).rt r en') :
    ∃ r', RepR K as F' H H' r' v ∧ P r' (en'.os.take as.length) := by
  cases r with
  | sh d => exact ⟨.sh d, rr, hp⟩
  | fr d =>
    obtain ⟨a, e, hn, ha, hf, own⟩ := rr
    refine ⟨.fr d, ⟨a, e, hn, fun z => ha ?_, hf, own⟩, hp⟩
    obtain ⟨t, rfl⟩ := s.pre
    exact List.mem_append_left _ z
  | ow k =>
    obtain ⟨a, ha, rfl⟩ := rr
    simp only [bodyPost] at hp
    split at hp
    · rename_i hk
      refine ⟨.ow k, ⟨a, ?_, rfl⟩, hp⟩
      obtain ⟨t, rfl⟩ := s.pre
      rw [List.getElem?_append_left hk] at ha
      exact ha
    · rename_i hk
      split at hp
      · rename_i d z
        obtain ⟨b, hb, own, nf⟩ := h.own k d z
        rw [ha] at hb; cases hb
        have nin : a ∉ as := fun q => by
          obtain ⟨t, rfl⟩ := s.pre
          obtain ⟨j, hj, e⟩ := List.getElem_of_mem q
          have e1 : (as ++ t)[j]? = some a := by rw [List.getElem?_append_left hj, List.getElem?_eq_getElem hj, e]
          obtain ⟨h1, e1⟩ := List.getElem?_eq_some_iff.mp e1
          obtain ⟨h2, e2⟩ := List.getElem?_eq_some_iff.mp ha
          have := (List.getElem_inj h.nd).mp (e1.trans e2.symm)
          omega
        refine ⟨.fr d, ⟨a, rfl, ?_, nin, nf, own⟩, hp⟩
        rcases s.ext a (List.mem_of_getElem? ha) with q | q
        · exact absurd q nin
        · exact q
      · exact hp.elim

def startR (N : List Str) (rs : List R) : List (Option R) := rs.map some ++ List.replicate (N.length - rs.length) none
theorem Paired.getL {α β : Type} {P : α → β → Prop} : ∀ {xs : List α} {ys : List β} {i : Nat} {x : α}, Paired P xs ys → xs[i]? = some x → ∃ y, ys[i]? = some y ∧ P x y
  | _, _, _, _, .nil, e => by simp at e
  | _, _, 0, _, .cons r _, e => by simp at e; subst e; exact ⟨_, rfl, r⟩
  | _, _, i + 1, x, .cons _ t, e => by
    obtain ⟨u, h1, h2⟩ := Paired.getL (i := i) (x := x) t (by simpa using e)
    exact ⟨u, by simpa using h1, h2⟩
theorem ES.start {K : PySem.W.Frag} {as : List Addr} {os : Os} {F : Addr → Prop} {H : Hp} {N : List Str} {rs : List R} {vs : List V} (h : HS K as os F H) (pr : Paired (RepP K as F H) rs vs) : ES K as ⟨startR N rs, os⟩ F H (L2.start N vs) := by
  have hl := pr.length
  refine ⟨h, fun i r e => ?_, ?_⟩
  · unfold startR at e
    unfold L2.start
    by_cases hi : i < rs.length
    · rw [List.getElem?_append_left (by simpa using hi), List.getElem?_map] at e
      rw [List.getElem?_append_left (by simpa [← hl] using hi), List.getElem?_map]
      cases z : rs[i]? with
      | none => rw [z] at e; cases e
      | some r' =>
        rw [z] at e; cases e
        obtain ⟨v, e1, q⟩ := Paired.getL pr z
        exact ⟨v, by rw [e1]; rfl, q⟩
    · rw [List.getElem?_append_right (by simpa using hi), List.getElem?_replicate] at e
      split at e <;> cases e
  · unfold startR L2.start
    simp only [List.length_append, List.length_map, List.length_replicate, hl]
section
variable {P : Program} {wd : World} {K : PySem.W.Frag} {mg : Str → Option Value} {base : Heap}
theorem fn_ok {x qual : Str} {st : Stmt} {f : Addr} {fd : FuncData} {N ps : List Str} {k : Nat} {Φ : Sw} {w : WSx} (Fu : Fun K x qual st f fd) (S : FnScope N ps (defScope st)) (ln : ∀ rs os P PX, Φ rs os P PX → rs.length = ps.length)
    (hb : ∀ (cdv : Value) (A : Around) (outer : List Env) (s : Shared) (H : Hp) (E : XK), Room k (A.deeper (envOfC qual (defScope st) s.heap.objs.size f cdv)) → PSs (cxOf (L2.CX P wd) P wd K mg base N qual (defScope st) f cdv A outer s H E) (defBody st) (tS K (fun cls d _ H => E cls d H) w))
    (law : ∀ rs os P PX, Φ rs os P PX → w ⟨startR N rs, os⟩ (bodyPost os.length P PX)) : FnOk P wd K mg base (L2.CX P wd) (k + 1) f fd ps (spT K Φ) := by
  refine Fu.okX S (fun vs H Q E h => ?_) fun cdv A outer s H vs Q E hr h => ⟨_, hb cdv A outer s H E hr, ?_⟩
  · obtain ⟨as, os, F, rs, P, PX, hs, pr, hp, _⟩ := h
    rw [← pr.length]; exact ln _ _ _ _ hp
  · obtain ⟨as, os, F, rs, P, PX, hs, pr, hp, hq, hx⟩ := h
    refine ⟨as, ⟨startR N rs, os⟩, F, _, ES.start hs pr, law rs os P PX hp, fun σ' H' as' en' F' e s1 p => ?_, fun σ' H' as' en' F' e s1 p => p.elim, fun σ' H' as' en' F' e s1 p => p.elim, fun v σ' H' as' r en' F' e s1 rr p => ?_, fun cls d σ' H' as' er en' F' e s1 re p => ?_⟩
    · rw [show os.length = as.length from hs.len] at p
      exact hq .non H' (.sh .non) _ F' (e.hs.take s1.pre) s1.take (by simp only [RepR, Rep]) p
    · rw [show os.length = as.length from hs.len] at p
      obtain ⟨r', rr', hp'⟩ := RepR.out e.hs s1 rr p
      exact hq v H' r' _ F' (e.hs.take s1.pre) s1.take rr' hp'
    · rw [show os.length = as.length from hs.len] at p
      exact hx cls d H' er _ F' (e.hs.take s1.pre) s1.take re p
end
end L2.TL

/-! text TL6 -/
set_option Elab.async false
set_option linter.all false
set_option maxRecDepth 100000
set_option maxHeartbeats 2000000
namespace L2.TL
open PySem PySem.Spec PyProof.Rows

/-! ### targets that take a tree apart -/
abbrev Ro := List (Option R)
abbrev TGx := D → Ro → Option Ro
abbrev TGsx := List D → Ro → Option Ro
/-- σ' is σ but for the slots T -/
def Agr (T : List Nat) (σ σ' : St) : Prop := σ'.length = σ.length ∧ ∀ i, i ∉ T → σ'[i]? = σ[i]?
theorem Agr.refl {T : List Nat} {σ : St} : Agr T σ σ := ⟨rfl, fun _ _ => rfl⟩
theorem Agr.set {T : List Nat} {σ σ1 : St} {i : Nat} {v : Option V} (h : Agr T σ σ1) (hi : i ∈ T) : Agr T σ (σ1.set i v) := ⟨by rw [List.length_set]; exact h.1, fun j hj => by
  have hne : i ≠ j := fun e => hj (by rw [← e]; exact hi)
  rw [List.getElem?_set_ne hne]; exact h.2 j hj⟩
theorem Agr.mono {T U : List Nat} {σ σ1 : St} (h : Agr T σ σ1) (hs : ∀ i ∈ T, i ∈ U) : Agr U σ σ1 := ⟨h.1, fun j hj => h.2 j fun z => hj (hs j z)⟩
theorem Agr.trans {T : List Nat} {σ σ1 σ2 : St} (a : Agr T σ σ1) (b : Agr T σ1 σ2) : Agr T σ σ2 := ⟨b.1.trans a.1, fun j hj => (b.2 j hj).trans (a.2 j hj)⟩
theorem wipe_get (σ : St) (j : Nat) : ∀ vs : List Nat, (wipe σ vs)[j]? = if j ∈ vs then (if j < σ.length then some none else none) else σ[j]?
  | [] => by simp [wipe]
  | v :: vs => by
    unfold wipe
    by_cases hv : v = j
    · subst hv
      by_cases hl : v < σ.length
      · rw [List.getElem?_set_self (by rw [wipe_length]; exact hl)]; simp [hl]
      · rw [List.getElem?_eq_none (by rw [List.length_set, wipe_length]; omega)]; simp [hl]
    · rw [List.getElem?_set_ne hv, wipe_get σ j vs]
      have : (j ∈ v :: vs) = (j ∈ vs) := by simp [Ne.symm hv]
      simp only [this]
theorem Agr.wipe {T vs : List Nat} {σ σ1 : St} (h : Agr T (L2.wipe σ vs) σ1) (hs : ∀ i ∈ T, i ∈ vs) : L2.wipe σ1 vs = L2.wipe σ vs := by
  have hl : σ1.length = σ.length := by rw [h.1, wipe_length]
  apply List.ext_getElem?
  intro j
  rw [wipe_get, wipe_get, hl]
  by_cases hj : j ∈ vs
  · simp [hj]
  · simp only [hj, if_false]
    have := h.2 j fun z => hj (hs j z)
    rw [this, wipe_get]; simp [hj]
def gS (K : PySem.W.Frag) (T : List Nat) (t : TGx) : TG := fun v σ H Q => ∃ as en F d ρ', ES K as en F H σ ∧ Rep K F H d v ∧ t d en.ρ = some ρ' ∧ ∀ σ', Agr T σ σ' → ES K as ⟨ρ', en.os⟩ F H σ' → Q σ' H
def gSs (K : PySem.W.Frag) (T : List Nat) (t : TGsx) : TGs := fun vs σ H Q => ∃ as en F ds ρ', ES K as en F H σ ∧ RepL K F H ds vs ∧ t ds en.ρ = some ρ' ∧ ∀ σ', Agr T σ σ' → ES K as ⟨ρ', en.os⟩ F H σ' → Q σ' H
theorem _root_.L2.PG.weak {X : Cx} {e : Expr} {t t' : TG} (h : PG X e t) (f : ∀ v σ H Q, t' v σ H Q → t v σ H Q) : PG X e t' := ⟨fun pins s σ H v u Q I r q => h.run pins s σ H v u Q I r (f v σ H Q q)⟩
theorem _root_.L2.PGs.weak {X : Cx} {e : List Expr} {t t' : TGs} (h : PGs X e t) (f : ∀ v σ H Q, t' v σ H Q → t v σ H Q) : PGs X e t' := ⟨fun pins s σ H v u Q I r q => h.run pins s σ H v u Q I r (f v σ H Q q)⟩
section
variable {X : Cx} {pos : Pos} {e : Expr} {es : List Expr} {t : TGx} {u : TGsx}
def gN (i : Nat) : TGx := fun d ρ => some (ρ.set i (some (.sh d)))
def gsNil : TGsx := fun ds en => match ds with
  | [] => some en
  | _ => none
def gsCons (t : TGx) (u : TGsx) : TGsx := fun ds en => match ds with
  | d :: ds => (t d en).bind (u ds)
  | [] => none
def gT (u : TGsx) : TGx := fun d en => match d with
  | .tup ds => u ds en
  | _ => none
theorem tg_name (i : Nat) {x : Str} (hN : X.N.Nodup) (hi : X.N[i]? = some x) (hx : Loc X.env.scope x) (hf : X.fn x = true ∨ X.env.scope.names.lookup x = some .local := by first | exact .inl rfl | exact .inr rfl | assumption) : PG X (.Name x pos) (gS X.K [i] (gN i)) :=
  (pg_name hN hi hx hf).weak fun v σ H Q h => by
    obtain ⟨as, en, F, d, en', es, r, e, hq⟩ := h
    cases e
    exact hq _ (Agr.refl.set (by simp)) (es.set i (r := .sh d) r)
theorem tgs_nil : PGs X [] (gSs X.K [] gsNil) := pgs_nil.weak fun vs σ H Q h => by
  obtain ⟨as, en, F, ds, en', es, r, e, hq⟩ := h
  cases ds with
  | nil => cases e; simp only [RepL] at r; exact ⟨r, hq _ Agr.refl es⟩
  | cons _ _ => cases e
theorem tgs_cons {T U : List Nat} (h1 : PG X e (gS X.K T t)) (h2 : PGs X es (gSs X.K U u)) (hs : (assignEach (e :: es) X.env).map (·.2) = assign e X.env :: (assignEach es X.env).map (·.2) := by rfl) : PGs X (e :: es) (gSs X.K (T ++ U) (gsCons t u)) :=
  (pgs_cons h1 h2 hs).weak fun vs σ H Q h => by
    obtain ⟨as, en, F, ds, en', es, r, e, hq⟩ := h
    cases ds with
    | nil => cases e
    | cons d ds =>
      simp only [RepL] at r
      obtain ⟨v, ws, rfl, r1, r2⟩ := r
      simp only [gsCons] at e
      cases e1 : t d en.ρ with
      | none => rw [e1] at e; cases e
      | some ρ1 =>
        rw [e1] at e
        exact ⟨v, ws, rfl, as, en, F, d, ρ1, es, r1, e1, fun σ1 ag1 es1 => ⟨as, ⟨ρ1, en.os⟩, F, ds, en', es1, r2, e, fun σ2 ag2 => hq σ2 ((ag1.mono fun _ h => List.mem_append_left _ h).trans (ag2.mono fun _ h => List.mem_append_right _ h))⟩⟩
theorem tg_tup {k : Nat} {T : List Nat} (n : Nat) (hc : X.calm = true) (h : PGs X es (gSs X.K T u)) (hl : ∀ ds (en en' : Ro), u ds en = some en' → ds.length = n) (hn : (assignEach es X.env).length = n := by rfl) (hst : (assignEach es X.env).findIdx? (·.1) = none := by rfl) :
    PG X (.Tuple es k pos) (gS X.K T (gT u)) := (pg_tup hc h hn hst).weak fun v σ H Q h => by
  obtain ⟨as, en, F, d, en', es, r, e, hq⟩ := h
  unfold gT at e
  split at e
  · rename_i ds
    obtain ⟨a, vs, ea, q, z, rl⟩ := Sees.tup (.inl r)
    exact ⟨a, vs, ea, .of q, by rw [rl.length]; exact hl _ _ _ e, as, en, F, ds, en', es, rl, e, hq⟩
  · cases e
theorem gsCons_inv {t : TGx} {u : TGsx} {ds : List D} {en en' : Ro} (e : gsCons t u ds en = some en') : ∃ d ds' en1, ds = d :: ds' ∧ u ds' en1 = some en' := by
  cases ds with
  | nil => cases e
  | cons d ds =>
    simp only [gsCons] at e
    cases h : t d en with
    | none => rw [h] at e; cases e
    | some en1 => rw [h] at e; exact ⟨d, ds, en1, rfl, e⟩
theorem gsNil_inv {ds : List D} {en en' : Ro} (e : gsNil ds en = some en') : ds = [] := by
  cases ds with
  | nil => rfl
  | cons _ _ => cases e
theorem gs2 {t1 t2 : TGx} (ds : List D) (en en' : Ro) (e : gsCons t1 (gsCons t2 gsNil) ds en = some en') : ds.length = 2 := by
  obtain ⟨_, _, _, rfl, e1⟩ := gsCons_inv e
  obtain ⟨_, _, _, rfl, e2⟩ := gsCons_inv e1
  rw [gsNil_inv e2]; rfl
theorem gs3 {t1 t2 t3 : TGx} (ds : List D) (en en' : Ro) (e : gsCons t1 (gsCons t2 (gsCons t3 gsNil)) ds en = some en') : ds.length = 3 := by
  obtain ⟨_, _, _, rfl, e1⟩ := gsCons_inv e
  have := gs2 _ _ _ e1
  simp [this]
theorem gs4 {t1 t2 t3 t4 : TGx} (ds : List D) (en en' : Ro) (e : gsCons t1 (gsCons t2 (gsCons t3 (gsCons t4 gsNil))) ds en = some en') : ds.length = 4 := by
  obtain ⟨_, _, _, rfl, e1⟩ := gsCons_inv e
  have := gs3 _ _ _ e1
  simp [this]
end

/-! ### what is walked -/
/-- J yields the trees ds, whatever happens after the start (as0, os0, F0, H0) -/
structure Yl (K : PySem.W.Frag) (J : It) (ds : List D) (as0 : List Addr) (os0 : Os) (F0 : Addr → Prop) (H0 : Hp) : Prop where
  len : ds.length ≤ sizeLine
  go : ∀ i as os F H, HS K as os F H → Step as0 os0 F0 H0 as os F H → i < ds.length → J.go i H
  stop : ∀ i as os F H, HS K as os F H → Step as0 os0 F0 H0 as os F H → ds.length ≤ i → J.stop i H
  yld : ∀ i as en F H σ d x H', ES K as en F H σ → Step as0 os0 F0 H0 as en.os F H → ds[i]? = some d → J.yld i H x H' → ∃ F', ES K as en F' H' σ ∧ Step as en.os F H as en.os F' H' ∧ Rep K F' H' d x
abbrev WIx := En → (List D → En → Prop) → PEr → Prop
def tI (K : PySem.W.Frag) (XW : WX) (wi : WIx) : TI := fun σ H R => ∃ as en F P PX, ES K as en F H σ ∧ wi en P PX ∧
  (∀ J H' ds en' F', ES K as en' F' H' σ → Step as en.os F H as en'.os F' H' → Yl K J ds as en'.os F' H' → P ds en' → R J H') ∧ CEx K XW as en.os F H PX σ
theorem _root_.L2.PI.weak {X : Cx} {tg e : Expr} {t t' : TI} (h : PI X tg e t) (f : ∀ σ H Q, t' σ H Q → t σ H Q) : PI X tg e t' := ⟨fun pins s σ H R I q => h.run pins s σ H R I (f σ H R q)⟩

theorem yl_list {K : PySem.W.Frag} {as : List Addr} {os : Os} {F : Addr → Prop} {H : Hp} {a : Addr} {vs : List V} {ds : List D} (h : HS K as os F H) (f : F a) (e : Rd H a (.lst vs)) (z : vs.length ≤ sizeLine) (r : RepL K F H ds vs) : Yl K (Itl K a) ds as os F H := by
  have at' : ∀ {as' os' F' H'}, Step as os F H as' os' F' H' → Rd H' a (.lst vs) := fun s => (s.mon h).rd a _ f e
  refine ⟨by rw [← r.length]; exact z, fun i as' os' F' H' _ s hi => ?_, fun i as' os' F' H' _ s hi => ⟨vs, .inl (at' s), by rw [r.length]; exact hi⟩, fun i as' en F' H' σ d x H2 es s hd y => ?_⟩
  · obtain ⟨w, hw, _⟩ := r.get (List.getElem?_eq_getElem hi)
    exact ⟨vs, w, .inl (at' s), hw⟩
  · obtain ⟨rfl, y⟩ := y
    obtain ⟨w, hw, rw'⟩ := (RepL.mono (s.mon h) _ _ r).get hd
    have e := y vs (.inl (at' s))
    rw [hw] at e; cases e
    exact ⟨F', es, Step.refl, rw'⟩
theorem yl_tup {K : PySem.W.Frag} {as : List Addr} {os : Os} {F : Addr → Prop} {H : Hp} {a : Addr} {vs : List V} {ds : List D} (h : HS K as os F H) (e : H a = some (.tup vs)) (z : vs.length ≤ sizeLine) (r : RepL K F H ds vs) : Yl K (Itt K a) ds as os F H := by
  have at' : ∀ {as' os' F' H'}, Step as os F H as' os' F' H' → SqT K H' a vs := fun s => .of ((s.stay a _ e (h.notup e)).at fun z => z)
  refine ⟨by rw [← r.length]; exact z, fun i as' os' F' H' _ s hi => ?_, fun i as' os' F' H' _ s hi => ⟨vs, at' s, by rw [r.length]; exact hi⟩, fun i as' en F' H' σ d x H2 es s hd y => ?_⟩
  · obtain ⟨w, hw, _⟩ := r.get (List.getElem?_eq_getElem hi)
    exact ⟨vs, w, at' s, hw⟩
  · obtain ⟨rfl, y⟩ := y
    obtain ⟨w, hw, rw'⟩ := (RepL.mono (s.mon h) _ _ r).get hd
    have e := y vs (at' s)
    rw [hw] at e; cases e
    exact ⟨F', es, Step.refl, rw'⟩
theorem yl_range {K : PySem.W.Frag} {as : List Addr} {os : Os} {F : Addr → Prop} {H : Hp} (lo : Int) (n : Nat) (hn : n ≤ sizeLine) : Yl K (Itr lo n) ((List.range n).map fun (i : Nat) => .int (lo + (i : Int))) as os F H := by
  refine ⟨by rw [List.length_map, List.length_range]; exact hn, fun i as' os' F' H' _ s hi => (by rw [List.length_map, List.length_range] at hi; exact hi), fun i as' os' F' H' _ s hi => (by rw [List.length_map, List.length_range] at hi; exact hi), fun i as' en F' H' σ d x H2 es s hd y => ?_⟩
  obtain ⟨rfl, rfl⟩ := y
  refine ⟨F', es, Step.refl, ?_⟩
  rw [List.getElem?_map] at hd
  cases z : (List.range n)[i]? with
  | none => rw [z] at hd; cases hd
  | some j =>
    rw [z] at hd
    simp only [Option.map_some, Option.some.injEq] at hd
    obtain ⟨h1, e1⟩ := List.getElem?_eq_some_iff.mp z
    rw [List.getElem_range] at e1
    subst e1
    subst hd
    simp only [Rep]
theorem yl_new2 {K : PySem.W.Frag} {as : List Addr} {en : En} {F : Addr → Prop} {H : Hp} {σ : St} {T : Addr} {d1 d2 : D} {x y : V} (es : ES K as en F H σ) (hT : H T = none) (r1 : Rep K F H d1 x) (r2 : Rep K F H d2 y) :
    ∃ F', ES K as en F' (upd H T (.tup [x, y])) σ ∧ Step as en.os F H as en.os F' (upd H T (.tup [x, y])) ∧ Rep K F' (upd H T (.tup [x, y])) (.tup [d1, d2]) (.ref T) := by
  obtain ⟨q1, q2, q3⟩ := new_tup es Step.refl hT (by show 2 ≤ sizeLine; decide) (RepL.cons r1 (RepL.cons r2 RepL.nil))
  exact ⟨_, q1, q2, q3⟩
/-- zip, of lists or of tuples -/
theorem yl_zip {K : PySem.W.Frag} {as : List Addr} {os : Os} {F : Addr → Prop} {H : Hp} {a b : Addr} {vs us : List V} {ds es : List D} (h : HS K as os F H) (fa : F a) (e : Rd H a (.lst vs)) (z : vs.length ≤ sizeLine) (r : RepL K F H ds vs) (fb : F b) (e2 : Rd H b (.lst us)) (r2 : RepL K F H es us) :
    Yl K (Itz K a b) ((ds.zip es).map fun p => .tup [p.1, p.2]) as os F H := by
  have at' : ∀ {as' os' F' H'}, Step as os F H as' os' F' H' → SqL K H' a vs := fun s => .inl ((s.mon h).rd a _ fa e)
  have bt' : ∀ {as' os' F' H'}, Step as os F H as' os' F' H' → SqL K H' b us := fun s => .inl ((s.mon h).rd b _ fb e2)
  refine ⟨by rw [List.length_map, List.length_zip, ← r.length]; omega, fun i as' os' F' H' _ s hi => ?_, fun i as' os' F' H' _ s hi => ⟨vs, us, at' s, bt' s, ?_⟩, fun i as' en F' H' σ d x H2 es' s hd y => ?_⟩
  · simp only [List.length_map, List.length_zip] at hi
    obtain ⟨w, hw, _⟩ := r.get (List.getElem?_eq_getElem (show i < ds.length by omega))
    obtain ⟨w2, hw2, _⟩ := r2.get (List.getElem?_eq_getElem (show i < es.length by omega))
    exact ⟨vs, us, w, w2, at' s, bt' s, hw, hw2⟩
  · simp only [List.length_map, List.length_zip] at hi
    rw [r.length, r2.length]; omega
  · obtain ⟨T, x1, x2, rfl, hT, rfl, y1, y2⟩ := y
    rw [List.getElem?_map] at hd
    cases z : (ds.zip es)[i]? with
    | none => rw [z] at hd; cases hd
    | some p =>
      rw [z] at hd; cases hd
      obtain ⟨z1, z2⟩ := List.getElem?_zip_eq_some.mp z
      obtain ⟨w, hw, q1⟩ := (RepL.mono (s.mon h) _ _ r).get z1
      obtain ⟨w2, hw2, q2⟩ := (RepL.mono (s.mon h) _ _ r2).get z2
      have e1 := y1 vs (at' s); rw [hw] at e1; cases e1
      have e2 := y2 us (bt' s); rw [hw2] at e2; cases e2
      exact yl_new2 es' hT q1 q2

section
variable {X : Cx} {XW : WX} {pos p apos tpos : Pos} {a b c e o tg iter : Expr} {es : List Expr} {wa wb wc wo : WEx} {ua ub : WBx} {ws : WAx} {body : List Stmt} {w v : WSx} {wi : WIx} {t : TGx}
/-- a list or a tuple -/
theorem pi_seq {l : Expr} {tl : TE} (hl : PE X l tl) : PI X tg l (fun σ H R => tl σ H fun x H1 => ∃ a, x = .ref a ∧ (((∃ xs, SqL X.K H1 a xs) ∧ R (Itl X.K a) H1) ∨ ((∃ xs, SqT X.K H1 a xs) ∧ R (Itt X.K a) H1))) := by
  refine ⟨fun pins s σ H R I h => ?_⟩
  refine thn (hl.run pins s σ H _ I h) fun v s1 ⟨x, H1, I1, r1, q1⟩ => ?_
  obtain ⟨a, e, q⟩ := q1
  subst e
  cases r1
  rcases q with ⟨⟨xs, hq⟩, q⟩ | ⟨⟨xs, hq⟩, q⟩
  · obtain ⟨its, rv, p, hz⟩ := I1.list hq
    refine wpAny_pyIter_list p.isList ?_
    refine ⟨s1.heap.objs.size, [s1.heap.objs.size], _, _, H1, rfl, I1.kept (t' := s1.toks) fun b o e => Heap.get?_push_of_some _ e, turn_list a _, ⟨_, Heap.get?_push_size _ rfl, rfl, rfl⟩, fun b hb => ?_, q⟩
    have e : b = s1.heap.objs.size := by simpa using hb
    subst e
    exact I1.fpOk (Nat.le_refl _) (I1.hok.fresh (Nat.le_refl _))
  · obtain ⟨its, rv, p, hz⟩ := I1.tuple hq
    refine wpAny_pyIter_tuple (show s1.heap.IsTuple a its.toArray from p) ?_
    refine ⟨s1.heap.objs.size, [s1.heap.objs.size], _, _, H1, rfl, I1.kept (t' := s1.toks) fun b o e => Heap.get?_push_of_some _ e, turn_tuple a _, ⟨_, Heap.get?_push_size _ rfl, rfl, rfl⟩, fun b hb => ?_, q⟩
    have e : b = s1.heap.objs.size := by simpa using hb
    subst e
    exact I1.fpOk (Nat.le_refl _) (I1.hok.fresh (Nat.le_refl _))
def iSeq (w : WEx) : WIx := fun en P PX => w en (fun r en1 => match r.fz with
  | .sh (.lst ds) => P ds en1
  | .sh (.tup ds) => P ds en1
  | _ => False) PX
theorem ti_seq (h : PE X iter (tW X.K XW wa)) : PI X tg iter (tI X.K XW (iSeq wa)) := (pi_seq h).weak fun σ H R0 h => by
  obtain ⟨as, en, F, P, PX, es, hw, hq, hx⟩ := h
  refine ⟨as, en, F, _, PX, es, hw, fun v H1 r en1 F1 e1 s1 rr hp => ?_, hx⟩
  obtain ⟨G, g1, t1, rp, _⟩ := wait es e1 Step.refl s1 rr
  split at hp
  · rename_i ds ef
    rw [ef] at rp
    simp only [RepP, Rep] at rp
    obtain ⟨l, vs, e, f, hl, z, rl⟩ := rp
    exact ⟨l, e, .inl ⟨⟨vs, .inl hl⟩, hq _ H1 ds en1 G g1 t1 (yl_list g1.hs f hl z rl) hp⟩⟩
  · rename_i ds ef
    rw [ef] at rp
    simp only [RepP, Rep] at rp
    obtain ⟨l, vs, e, f, z, rl⟩ := rp
    exact ⟨l, e, .inr ⟨⟨vs, (.of f)⟩, hq _ H1 ds en1 G g1 t1 (yl_tup g1.hs f z rl) hp⟩⟩
  · exact hp.elim
def iRng (w : WEx) : WIx := fun en P PX => w en (fun r en1 => match r.fz with
  | .sh (.int n) => n.toNat ≤ sizeLine ∧ -(2 ^ 62) ≤ n ∧ P ((List.range n.toNat).map fun (i : Nat) => .int (0 + (i : Int))) en1
  | _ => False) PX
theorem ti_range (hg : Gl X "range") (hm : X.mg "range" = none) (ha : PE X a (tW X.K XW wa)) (hs : starEach [a] X.env = [(false, eval a X.env)] := by rfl) : PI X tg (.Call (.Name "range" p) [a] [] pos) (tI X.K XW (iRng wa)) :=
  (pi_range1 hg hm (ta_cons ha ta_nil hs) hs).weak fun σ H R0 h => by
    obtain ⟨as, en, F, P, PX, es, hw, hq, hx⟩ := h
    refine ⟨as, en, F, fun rs en1 => match rs with
      | [r] => (match r with
        | .sh (.int n) => n.toNat ≤ sizeLine ∧ -(2 ^ 62) ≤ n ∧ P ((List.range n.toNat).map fun (i : Nat) => .int (0 + (i : Int))) en1
        | _ => False)
      | _ => False, PX, es, hw, fun vs H1 rs en1 F1 e1 s1 pr hp => ?_, hx⟩
    dsimp only at hp
    split at hp
    · cases pr with
      | cons q pr =>
        cases pr
        split at hp
        · rename_i n
          simp only [RepP, Rep] at q
          subst q
          have h0 := hp.1
          rw [sizeLine_eq] at h0
          exact ⟨n, rfl, hp.2.1, by omega, hq _ H1 _ en1 F1 e1 s1 (yl_range 0 n.toNat hp.1) hp.2.2⟩
        · exact hp.elim
    · exact hp.elim

/-! ### for -/
def wLoop (t : TGx) (body : WSx) : List D → WSx
  | [] => fun en P => P.nx en
  | d :: ds => fun en P => match t d en.ρ with
    | some ρ1 => body ⟨ρ1, en.os⟩ { P with nx := fun en2 => wLoop t body ds en2 P, ct := fun en2 => wLoop t body ds en2 P, bk := P.nx }
    | none => False
def wFor (wi : WIx) (t : TGx) (body : WSx) : WSx := fun en P => wi en (fun ds en1 => wLoop t body ds en1 P) P.ex
theorem ts_for {T : List Nat} (hp : PassesOwn (model X.prog X.w) X.A X.env X.xe) (hc : X.calm = true) (hi : PI X tg iter (tI X.K XW wi)) (hg : PG X tg (gS X.K T t)) (hb : PSs X body (tS X.K XW w))
    (hs : ∀ x, foldedSetIterable iter X.env x = pure x := by intro _; rfl) : PS X (.For tg iter body [] pos) (tS X.K XW (wFor wi t w)) := (ps_for hp hc hi hg hb hs).weak fun D σ H h => by
  obtain ⟨as, en, F, P, es, hw, h1, h2, h3, h4, h5⟩ := h
  refine ⟨as, en, F, _, _, es, hw, fun J H1 ds en1 F1 e1 s1 yl hp => ?_, h5.at σ⟩
  refine ⟨fun i m σ' H' => m = ds.length - i ∧ i ≤ ds.length ∧ ∃ as' en' F', ES X.K as' en' F' H' σ' ∧ Step as en1.os F1 H1 as' en'.os F' H' ∧ wLoop t w (ds.drop i) en' P, ⟨_, rfl, Nat.zero_le _, as, en1, F1, e1, Step.refl, hp⟩, ?_⟩
  rintro i m σ2 H2 ⟨rfl, hi', as2, en2, F2, e2, s2, hl⟩
  by_cases hlt : i < ds.length
  · refine .inr ⟨yl.go i as2 en2.os F2 H2 e2.hs s2 hlt, fun σ' H' => i + 1 ≤ ds.length ∧ ∃ as' en' F', ES X.K as' en' F' H' σ' ∧ Step as en1.os F1 H1 as' en'.os F' H' ∧ wLoop t w (ds.drop (i + 1)) en' P, fun σ' H' n => ⟨ds.length - (i + 1), by omega, rfl, n⟩, fun x H3 y => ?_⟩
    obtain ⟨F3, e3, s3, r3⟩ := yl.yld i as2 en2 F2 H2 σ2 _ x H3 e2 s2 (List.getElem?_eq_getElem hlt) y
    rw [List.drop_eq_getElem_cons hlt] at hl
    simp only [wLoop] at hl
    split at hl
    · rename_i ρ1 ht
      have s4 := s2.trans s3
      have s5 := s1.trans s4
      refine ⟨as2, en2, F3, _, ρ1, e3, r3, ht, fun σ' _ es' => ⟨as2, ⟨ρ1, en2.os⟩, F3, _, es', hl, ?_, ?_, ?_, h4.from s5, h5.from s5⟩⟩
      · exact fun σ6 H6 as6 en6 F6 e6 s6 p => ⟨hlt, as6, en6, F6, e6, s4.trans s6, p⟩
      · exact fun σ6 H6 as6 en6 F6 e6 s6 p => h1.from s5 σ6 H6 as6 en6 F6 e6 s6 p
      · exact fun σ6 H6 as6 en6 F6 e6 s6 p => ⟨hlt, as6, en6, F6, e6, s4.trans s6, p⟩
    · exact hl.elim
  · refine .inl ⟨yl.stop i as2 en2.os F2 H2 e2.hs s2 (by omega), ?_⟩
    rw [List.drop_of_length_le (by omega)] at hl
    exact h1 σ2 H2 as2 en2 F2 e2 (s1.trans s2) hl

/-! ### while -/
def wWh (u : WBx) (body : WSx) : Nat → WSx
  | 0 => fun _ _ => False
  | n + 1 => fun en P => u en (fun k en1 => match k with
    | true => body en1 { P with nx := fun en2 => wWh u body n en2 P, ct := fun en2 => wWh u body n en2 P, bk := P.nx }
    | false => P.nx en1) P.ex
def wWhile (u : WBx) (body : WSx) : WSx := fun en P => ∃ n, wWh u body n en P
theorem ts_while {c : Expr} (hp : PassesOwn (model X.prog X.w) X.A X.env X.xe) (hc : PT X c (tWB X.K XW ua)) (hb : PSs X body (tS X.K XW w)) : PS X (.While c body [] pos) (tS X.K XW (wWhile ua w)) := (ps_while hp hc hb).weak fun D σ H h => by
  obtain ⟨as, en, F, P, es, ⟨n, hw⟩, h1, h2, h3, h4, h5⟩ := h
  refine ⟨fun m σ' H' => ∃ as' en' F', ES X.K as' en' F' H' σ' ∧ Step as en.os F H as' en'.os F' H' ∧ wWh ua w m en' P, ⟨n, as, en, F, es, Step.refl, hw⟩, ?_⟩
  rintro m σ1 H1 ⟨as1, en1, F1, e1, s1, hl⟩
  cases m with
  | zero => exact hl.elim
  | succ m =>
    refine ⟨as1, en1, F1, _, _, e1, hl, fun k H2 en2 F2 e2 s2 hp => ?_, (h5.from s1).at σ1⟩
    have s3 := s1.trans s2
    cases k with
    | true =>
      refine iteT ⟨fun σ' H' => ∃ as' en' F', ES X.K as' en' F' H' σ' ∧ Step as en.os F H as' en'.os F' H' ∧ wWh ua w m en' P, fun σ' H' n => ⟨m, by omega, n⟩, as1, en2, F2, _, e2, hp, ?_, ?_, ?_, h4.from s3, h5.from s3⟩
      · exact fun σ6 H6 as6 en6 F6 e6 s6 p => ⟨as6, en6, F6, e6, s3.trans s6, p⟩
      · exact fun σ6 H6 as6 en6 F6 e6 s6 p => h1.from s3 σ6 H6 as6 en6 F6 e6 s6 p
      · exact fun σ6 H6 as6 en6 F6 e6 s6 p => ⟨as6, en6, F6, e6, s3.trans s6, p⟩
    | false => exact iteF (h1 σ1 H2 as1 en2 F2 e2 s3 hp)
end
end L2.TL

/-! text TL7 -/
set_option Elab.async false
set_option linter.all false
set_option maxRecDepth 100000
set_option maxHeartbeats 2000000
namespace L2.TL
open PySem PySem.Spec PyProof.Rows

/-! ### an object that nobody else knows yet -/
section
variable {K : PySem.W.Frag} {as : List Addr} {en : En} {os : Os} {F : Addr → Prop} {H : Hp} {σ : St} {p : Addr} {o : HO}
theorem mon_priv (hf : ¬ F p) (ht : ∀ vs, H p ≠ some (.tup vs)) : Mon F H F (upd H p o) :=
  have ne : ∀ a, F a → a ≠ p := fun a f e => hf (by rw [← e]; exact f)
  ⟨fun _ z => z, fun a u f r => r.imp (fun z => by rw [upd_ne (ne a f)]; exact z) fun ⟨w, z⟩ => ⟨w, by rw [upd_ne (ne a f)]; exact z⟩, fun a u f e _ => by rw [upd_ne (ne a f)]; exact e, fun a vs e => by
    have n : a ≠ p := fun z => ht vs (by rw [← z]; exact e)
    rw [upd_ne n]; exact e⟩
theorem HS.priv (h : HS K as os F H) (hf : ¬ F p) (ht : ∀ vs, H p ≠ some (.tup vs)) (hn : p ∉ as) : HS K as os F (upd H p o) := by
  refine ⟨fun k d e => ?_, h.nd, fun a f => ?_, fun a ha => ?_, h.len⟩
  · obtain ⟨a, ha, own, nf⟩ := h.own k d e
    exact ⟨a, ha, Own.mono (mon_priv hf ht) (fun o' z => by rw [upd_ne (fun e => hn (by rw [← e]; exact List.mem_of_getElem? ha))]; exact z) own, nf⟩
  · by_cases e : a = p
    · rw [e, upd_same]; exact fun z => nomatch z
    · rw [upd_ne e]; exact h.dom a f
  · by_cases e : a = p
    · rw [e, upd_same]; exact fun z => nomatch z
    · rw [upd_ne e]; exact h.asd a ha
theorem ES.priv (es : ES K as en F H σ) (hf : ¬ F p) (ht : ∀ vs, H p ≠ some (.tup vs)) (hn : p ∉ as) : ES K as en F (upd H p o) σ :=
  ⟨es.hs.priv hf ht hn, fun i r e => let ⟨v, e1, q⟩ := es.sl i r e; ⟨v, e1, q.mono (mon_priv hf ht)⟩, es.ln⟩
theorem Step.priv {as' : List Addr} {os' : Os} {F' : Addr → Prop} {H' : Hp} (s : Step as os F H as' os' F' H') (hp : H p = none) : Step as os F H as' os' F' (upd H' p o) :=
  ⟨s.sub, s.new, fun a u e l => (s.stay a u e l).to id fun o' z => by rw [upd_ne (ne_of_none e hp)]; exact z, s.liv, s.pre, s.ext⟩
/-- it stays unknown -/
theorem Step.keep {as' : List Addr} {os' : Os} {F' : Addr → Prop} {H' : Hp} {u : HO} (s : Step as os F H as' os' F' H') (e : H p = some u) (hf : ¬ F p) (hn : p ∉ as) : H' p = some u ∧ ¬ F' p := by
  have nl : ¬ Live as os p := fun l => hn l.mem
  have nF : ¬ F' p := fun f => by
    rcases s.new p f with z | z | z
    · exact hf z
    · rw [e] at z; cases z
    · exact nl z
  exact ⟨(s.stay p u e nl).out nF, nF⟩
end

/-! ### slots of a block's own names -/
def wipeR (ρ : Ro) : List Nat → Ro
  | [] => ρ
  | v :: vs => (wipeR ρ vs).set v none
def restR (ρ0 ρ : Ro) : List Nat → Ro
  | [] => ρ
  | v :: vs => (restR ρ0 ρ vs).set v (ρ0[v]?.join)
section
variable {K : PySem.W.Frag} {as : List Addr} {en : En} {os : Os} {F : Addr → Prop} {H : Hp} {σ : St}
theorem ES.wipe (es : ES K as en F H σ) : ∀ vs : List Nat, ES K as ⟨wipeR en.ρ vs, en.os⟩ F H (L2.wipe σ vs)
  | [] => es
  | v :: vs => (ES.wipe es vs).unset v none
theorem restR_len (ρ0 ρ : Ro) : ∀ vs : List Nat, (restR ρ0 ρ vs).length = ρ.length
  | [] => rfl
  | v :: vs => by unfold restR; rw [List.length_set, restR_len ρ0 ρ vs]
theorem restR_get (ρ0 ρ : Ro) (j : Nat) : ∀ vs : List Nat, (restR ρ0 ρ vs)[j]? = if j ∈ vs then (if j < ρ.length then some (ρ0[j]?.join) else none) else ρ[j]?
  | [] => by simp [restR]
  | v :: vs => by
    unfold restR
    by_cases hv : v = j
    · subst hv
      by_cases hl : v < ρ.length
      · rw [List.getElem?_set_self (by rw [restR_len]; exact hl)]; simp [hl]
      · rw [List.getElem?_eq_none (by rw [List.length_set, restR_len]; omega)]; simp [hl]
    · rw [List.getElem?_set_ne hv, restR_get ρ0 ρ j vs]
      have : (j ∈ v :: vs) = (j ∈ vs) := by simp [Ne.symm hv]
      simp only [this]
theorem ES.rest {en' : En} {F' : Addr → Prop} {H' : Hp} {vs : List Nat} (es : ES K as en F H σ) (s : Step as en.os F H as en'.os F' H') (e' : ES K as en' F' H' (L2.wipe σ vs)) : ES K as ⟨restR en.ρ en'.ρ vs, en'.os⟩ F' H' σ := by
  have hl : en'.ρ.length = en.ρ.length := by rw [e'.ln, wipe_length, es.ln]
  refine ⟨e'.hs, fun i r e => ?_, by simp only [restR_len]; rw [hl, es.ln]⟩
  simp only [restR_get] at e
  by_cases hi : i ∈ vs
  · simp only [hi, if_true] at e
    split at e
    · simp only [Option.some.injEq] at e
      cases z : en.ρ[i]? with
      | none => rw [z] at e; cases e
      | some x =>
        rw [z] at e
        simp only [Option.join] at e
        subst e
        obtain ⟨v, e1, q⟩ := es.sl i r z
        exact ⟨v, e1, q.step s es.hs⟩
    · cases e
  · simp only [hi, if_false] at e
    obtain ⟨v, e1, q⟩ := e'.sl i r e
    exact ⟨v, (wipe_some e1).1, q⟩
end

def noX : PEr := fun _ _ => False
def wYes : WBx := fun en P _ => P true en
def XW0 : WX := fun _ _ _ _ => False
section
variable {X : Cx} {XW : WX} {pos p apos tpos : Pos} {a b c e o tg iter elt kx vx : Expr} {es ifs : List Expr} {wa wb wc wo : WEx} {ua ub : WBx} {ws : WAx} {body : List Stmt} {w v : WSx} {wi : WIx} {t : TGx}
theorem _root_.L2.PTs.weak {X : Cx} {e : List Expr} {t t' : TT} (h : PTs X e t) (f : ∀ σ H Q, t' σ H Q → t σ H Q) : PTs X e t' := ⟨fun pins s σ H Q I q => h.run pins s σ H Q I (f σ H Q q)⟩
theorem tts_nil : PTs X [] (tWB X.K XW wYes) := pts_nil.weak fun σ H Q h => by
  obtain ⟨as, en, F, P, PX, es, hw, hq, hx⟩ := h
  exact hq true H en F es Step.refl hw
theorem tts_one (h : PT X c (tWB X.K XW ua)) : PTs X [c] (tWB X.K XW ua) := pts_one h

def wLcL (t : TGx) (test : WBx) (elt : WEx) (own : List Nat) (Pend : List D → En → Prop) : List D → List D → En → Prop
  | [], acc, en => Pend acc en
  | d :: ds, acc, en => match t d en.ρ with
    | some ρ1 => test ⟨ρ1, en.os⟩ (fun k en2 => match k with
      | true => elt en2 (fun r en3 => match r.fz with
        | .sh y => wLcL t test elt own Pend ds (acc ++ [y]) ⟨wipeR en3.ρ own, en3.os⟩
        | _ => False) noX
      | false => wLcL t test elt own Pend ds acc ⟨wipeR en2.ρ own, en2.os⟩) noX
    | none => False
def wLc (wi : WIx) (t : TGx) (test : WBx) (elt : WEx) (own : List Nat) : WEx := fun en P PX => wi en (fun ds en1 => wLcL t test elt own (fun acc en2 => P (.fr (.lst acc)) ⟨restR en1.ρ en2.ρ own, en2.os⟩) ds [] ⟨wipeR en1.ρ own, en1.os⟩) PX
theorem CEx.none {K : PySem.W.Frag} {as : List Addr} {os : Os} {F : Addr → Prop} {H : Hp} {σ : St} : CEx K XW0 as os F H noX σ := fun _ _ _ _ _ _ _ _ _ h => h.elim
theorem lc_fin {K : PySem.W.Frag} {T own : List Nat} (hT : ∀ i ∈ T, i ∈ own) {σ : St} {H : Hp} {Q : VK} (h : tW K XW (wLc wi t ua wa own) σ H Q) :
    tLc (tI K XW wi) (gS K T t) (tWB K XW0 ua) (tW K XW0 wa) own σ H Q := by
  obtain ⟨as, en, F, P, PX, es, hw, hq, hx⟩ := h
  refine ⟨as, en, F, _, _, es, hw, fun J H1 ds en1 F1 e1 s1 yl hp D hD => ?_, hx⟩
  have nas : D ∉ as := e1.notin hD
  have nF1 : ¬ F1 D := e1.notF hD
  have hD0 : H D = none := by
    rcases s1.fresh hD with z | z
    · exact z
    · exact absurd z.mem nas
  refine ⟨fun i m H' => m = ds.length - i ∧ i ≤ ds.length ∧ ∃ en' F' acc vacc, ES K as en' F' H' (wipe σ own) ∧ Step as en1.os F1 H1 as en'.os F' H' ∧ H' D = some (.lst vacc) ∧ RepL K F' H' acc vacc ∧ acc.length ≤ i ∧ ¬ F' D ∧
    wLcL t ua wa own (fun acc en2 => P (.fr (.lst acc)) ⟨restR en1.ρ en2.ρ own, en2.os⟩) (ds.drop i) acc en', ⟨_, rfl, Nat.zero_le _, ⟨wipeR en1.ρ own, en1.os⟩, F1, [], [], (e1.upd_new hD).wipe own, Step.upd_new hD, upd_same, RepL.nil, Nat.le_refl _, nF1, hp⟩, ?_⟩
  rintro i m H2 ⟨rfl, hi', en2, F2, acc, vacc, e2, s2, hD2, racc, hlen, nF2, hl⟩
  by_cases hlt : i < ds.length
  · refine .inr ⟨yl.go i as en2.os F2 H2 e2.hs s2 hlt, fun H' => i + 1 ≤ ds.length ∧ ∃ en' F' acc vacc, ES K as en' F' H' (wipe σ own) ∧ Step as en1.os F1 H1 as en'.os F' H' ∧ H' D = some (.lst vacc) ∧ RepL K F' H' acc vacc ∧ acc.length ≤ i + 1 ∧ ¬ F' D ∧
      wLcL t ua wa own (fun acc en2 => P (.fr (.lst acc)) ⟨restR en1.ρ en2.ρ own, en2.os⟩) (ds.drop (i + 1)) acc en', fun H' n => ⟨ds.length - (i + 1), by omega, rfl, n⟩, fun x H3 y => ?_⟩
    obtain ⟨F3, e3, s3, r3⟩ := yl.yld i as en2 F2 H2 _ _ x H3 e2 s2 (List.getElem?_eq_getElem hlt) y
    obtain ⟨hD3, nF3⟩ := s3.keep hD2 nF2 nas
    have racc3 := RepL.mono (s3.mon e2.hs) _ _ racc
    rw [List.drop_eq_getElem_cons hlt] at hl
    simp only [wLcL] at hl
    split at hl
    · rename_i ρ1 ht
      have s4 := s2.trans s3
      refine ⟨as, en2, F3, _, ρ1, e3, r3, ht, fun σ' ag es' => ⟨ag.wipe hT, as, ⟨ρ1, en2.os⟩, F3, _, _, es', hl, fun k H5 en5 F5 e5 s5 hp5 => ?_, CEx.none⟩⟩
      obtain ⟨hD5, nF5⟩ := s5.keep hD3 nF3 nas
      have racc5 := RepL.mono (s5.mon es'.hs) _ _ racc3
      cases k with
      | false =>
        refine iteF ⟨hlt, ⟨wipeR en5.ρ own, en5.os⟩, F5, acc, vacc, ?_, s4.trans s5, hD5, racc5, by omega, nF5, hp5⟩
        have := e5.wipe own
        rw [ag.wipe hT] at this
        exact this
      | true =>
        refine iteT ⟨as, en5, F5, _, _, e5, hp5, fun v H6 r en6 F6 e6 s6 rr hp6 => ?_, CEx.none⟩
        obtain ⟨G6, g6, t6, pr6, m6⟩ := wait e5 e6 Step.refl s6 rr
        split at hp6
        · rename_i y0 ey
          rw [ey] at pr6
          obtain ⟨hD6, nG6⟩ := t6.keep hD5 nF5 nas
          have racc6 := RepL.mono (t6.mon e5.hs) _ _ racc5
          have hl6 := racc6.length
          have hds := yl.len
          refine ⟨vacc, hD6, by omega, hlt, ⟨wipeR en6.ρ own, en6.os⟩, G6, acc ++ [y0], vacc ++ [v], ?_, ((s4.trans s5).trans t6).priv hD, upd_same, ?_, by rw [List.length_append]; simp; omega, nG6, hp6⟩
          · have := (g6.priv (o := .lst (vacc ++ [v])) nG6 (fun vs => by rw [hD6]; exact fun z => nomatch z) nas).wipe own
            rw [ag.wipe hT] at this
            exact this
          · exact RepL.mono (mon_priv nG6 (fun vs => by rw [hD6]; exact fun z => nomatch z)) _ _ (racc6.append (RepL.cons pr6 RepL.nil))
        · exact hp6.elim
    · exact hl.elim
  · refine .inl ⟨yl.stop i as en2.os F2 H2 e2.hs s2 (by omega), ?_⟩
    rw [List.drop_of_length_le (by omega)] at hl
    have hds := yl.len
    have hla := racc.length
    refine hq (.ref D) H2 (.fr (.lst acc)) _ F2 (e1.rest s2 e2) (s1.trans s2) ⟨D, rfl, hD0, nas, nF2, vacc, hD2, by omega, racc⟩ hl
theorem te_lc {T : List Nat} {scope : Scope} {own : List (Str × Nat)} (hc : X.calm = true) (hN : X.N.Nodup) (hi : PI X tg iter (tI X.K XW wi)) (ok : BlkOk X.N X.env.scope scope own)
    (hg : ∀ (s : Shared) (H : Hp) (C : Addr) (cl : List (Str × Addr)) (fp : List Addr), PG (X.blk s H scope (compEnvC scope cl C X.env) fp) tg (gS X.K T t))
    (ht : ∀ (s : Shared) (H : Hp) (C : Addr) (cl : List (Str × Addr)) (fp : List Addr), PTs (X.blk s H scope (compEnvC scope cl C X.env) fp) ifs (tWB X.K XW0 ua))
    (he : ∀ (s : Shared) (H : Hp) (C : Addr) (cl : List (Str × Addr)) (fp : List Addr), PE (X.blk s H scope (compEnvC scope cl C X.env) fp) elt (tW X.K XW0 wa))
    (hT : ∀ i ∈ T, i ∈ own.map (·.2) := by decide) (hs : ∀ x, foldedSetIterable iter X.env x = pure x := by intro _; rfl) :
    PE X (.ListComp elt [⟨tg, iter, ifs, 0⟩] scope pos) (tW X.K XW (wLc wi t ua wa (own.map (·.2)))) :=
  (pe_lc hc hN hi ok hg ht he hs).weak fun σ H Q h => lc_fin hT h
/-- name = [..] on one line -/
theorem ts_setLc (i : Nat) {T : List Nat} {y : Str} {py spos : Pos} {scope : Scope} {own : List (Str × Nat)} (hc : X.calm = true) (hN : X.N.Nodup) (hy : X.N[i]? = some y) (hyl : X.env.scope.names.lookup y = some .local)
    (hsw : swapsWith (.ListComp elt [⟨tg, iter, ifs, 0⟩] scope pos) (some (.Name y py)) spos.line X.env = pure true) (hi : PI X tg iter (tI X.K XW wi)) (ok : BlkOk X.N X.env.scope scope own)
    (hg : ∀ (s : Shared) (H : Hp) (C : Addr) (cl : List (Str × Addr)) (fp : List Addr), PG (X.blk s H scope (compEnvC scope cl C X.env) fp) tg (gS X.K T t))
    (ht : ∀ (s : Shared) (H : Hp) (C : Addr) (cl : List (Str × Addr)) (fp : List Addr), PTs (X.blk s H scope (compEnvC scope cl C X.env) fp) ifs (tWB X.K XW0 ua))
    (he : ∀ (s : Shared) (H : Hp) (C : Addr) (cl : List (Str × Addr)) (fp : List Addr), PE (X.blk s H scope (compEnvC scope cl C X.env) fp) elt (tW X.K XW0 wa))
    (hT : ∀ i ∈ T, i ∈ own.map (·.2) := by decide) (hs : ∀ x, foldedSetIterable iter X.env x = pure x := by intro _; rfl) :
    PS X (.Assign [.Name y py] (.ListComp elt [⟨tg, iter, ifs, 0⟩] scope pos) spos) (tS X.K XW (wSet i (wLc wi t ua wa (own.map (·.2))))) :=
  (ps_setLc hc hN hy hyl hsw hi ok hg ht he hs).weak fun D σ H h => by
    have h' := tSet_of h
    exact lc_fin (Q := fun x H1 => gName i x σ H1 D.nx) hT h'
theorem ts_ownLc (i : Nat) {T : List Nat} {y : Str} {py spos : Pos} {scope : Scope} {own : List (Str × Nat)} (hc : X.calm = true) (hN : X.N.Nodup) (hy : X.N[i]? = some y) (hyl : X.env.scope.names.lookup y = some .local)
    (hsw : swapsWith (.ListComp elt [⟨tg, iter, ifs, 0⟩] scope pos) (some (.Name y py)) spos.line X.env = pure true) (hi : PI X tg iter (tI X.K XW wi)) (ok : BlkOk X.N X.env.scope scope own)
    (hg : ∀ (s : Shared) (H : Hp) (C : Addr) (cl : List (Str × Addr)) (fp : List Addr), PG (X.blk s H scope (compEnvC scope cl C X.env) fp) tg (gS X.K T t))
    (ht : ∀ (s : Shared) (H : Hp) (C : Addr) (cl : List (Str × Addr)) (fp : List Addr), PTs (X.blk s H scope (compEnvC scope cl C X.env) fp) ifs (tWB X.K XW0 ua))
    (he : ∀ (s : Shared) (H : Hp) (C : Addr) (cl : List (Str × Addr)) (fp : List Addr), PE (X.blk s H scope (compEnvC scope cl C X.env) fp) elt (tW X.K XW0 wa))
    (hT : ∀ i ∈ T, i ∈ own.map (·.2) := by decide) (hs : ∀ x, foldedSetIterable iter X.env x = pure x := by intro _; rfl) :
    PS X (.Assign [.Name y py] (.ListComp elt [⟨tg, iter, ifs, 0⟩] scope pos) spos) (tS X.K XW (wOwn i (wLc wi t ua wa (own.map (·.2))))) :=
  (ps_setLc hc hN hy hyl hsw hi ok hg ht he hs).weak fun D σ H h => by
    have h' := tOwn_of h
    exact lc_fin (Q := fun x H1 => gName i x σ H1 D.nx) hT h'
end

/-! ### roots changed -/
section
variable {K : PySem.W.Frag} {as : List Addr} {en : En} {os : Os} {F : Addr → Prop} {H : Hp} {σ : St} {a : Addr} {o : HO} {k : Nat} {d d' : D}
theorem HS.put (h : HS K as os F H) (hk : os[k]? = some (some d)) (ha : as[k]? = some a) (own : Own K F (upd H a o) d' a) : HS K as (os.set k (some d')) F (upd H a o) := by
  have hlt : k < os.length := (List.getElem?_eq_some_iff.mp hk).1
  obtain ⟨a0, ha0, ow0, nf⟩ := h.own k d hk
  rw [ha] at ha0; cases ha0
  refine ⟨fun j d2 e => ?_, h.nd, fun b f => ?_, fun b hb => ?_, by rw [List.length_set]; exact h.len⟩
  · by_cases hj : j = k
    · subst hj
      rw [List.getElem?_set_self hlt] at e; cases e
      exact ⟨a, ha, own, nf⟩
    · rw [List.getElem?_set_ne (Ne.symm hj)] at e
      obtain ⟨b, hb, ow, nb⟩ := h.own j d2 e
      have ne : b ≠ a := fun e => by
        subst e
        obtain ⟨h1, e1⟩ := List.getElem?_eq_some_iff.mp hb
        obtain ⟨h2, e2⟩ := List.getElem?_eq_some_iff.mp ha
        exact hj ((List.getElem_inj h.nd).mp (e1.trans e2.symm))
      exact ⟨b, hb, Own.mono (mon_priv nf ow0.notup) (fun o' z => by rw [upd_ne ne]; exact z) ow, nb⟩
  · by_cases e : b = a
    · rw [e, upd_same]; exact fun z => nomatch z
    · rw [upd_ne e]; exact h.dom b f
  · by_cases e : b = a
    · rw [e, upd_same]; exact fun z => nomatch z
    · rw [upd_ne e]; exact h.asd b hb
theorem ES.put (es : ES K as en F H σ) (hk : en.os[k]? = some (some d)) (ha : as[k]? = some a) (own : Own K F (upd H a o) d' a) : ES K as ⟨en.ρ, en.os.set k (some d')⟩ F (upd H a o) σ := by
  obtain ⟨a0, ha0, ow0, nf⟩ := es.hs.own k d hk
  rw [ha] at ha0; cases ha0
  exact ⟨es.hs.put hk ha own, fun i r e => let ⟨v, e1, q⟩ := es.sl i r e; ⟨v, e1, q.mono (mon_priv nf ow0.notup)⟩, es.ln⟩
theorem Step.put {as0 : List Addr} {os0 : Os} {F0 : Addr → Prop} {H0 : Hp} (s : Step as0 os0 F0 H0 as os F H) (hk : os[k]? = some (some d)) (ha : as[k]? = some a) : Step as0 os0 F0 H0 as (os.set k (some d')) F (upd H a o) := by
  have lv : Live as os a := ⟨k, d, ha, hk⟩
  refine ⟨s.sub, s.new, fun b u e l => ?_, fun b ⟨j, d2, e1, e2⟩ => ?_, s.pre, s.ext⟩
  · by_cases e' : b = a
    · subst e'
      rcases s.liv b lv with z | z
      · exact absurd z l
      · rw [e] at z; cases z
    · exact (s.stay b u e l).to id fun o' z => by rw [upd_ne e']; exact z
  · have hlt : k < os.length := (List.getElem?_eq_some_iff.mp hk).1
    by_cases hj : j = k
    · subst hj
      rw [ha] at e1; cases e1
      exact s.liv a lv
    · rw [List.getElem?_set_ne (Ne.symm hj)] at e2
      exact s.liv b ⟨j, d2, e1, e2⟩
end
end L2.TL

/-! text TL8 -/
set_option Elab.async false
set_option linter.all false
set_option maxRecDepth 100000
set_option maxHeartbeats 2000000
namespace L2.TL
open PySem PySem.Spec PyProof.Rows

/-! ### attributes stored -/
def gFld (K : PySem.W.Frag) (f : Str) (to : TE) : TG := fun v σ H Q => to σ H fun x H1 => ∃ a C dx fs, x = .ref a ∧ H1 a = some (.ins C dx fs) ∧ Cls K C ∧ NoAttr K C f ∧ fs.length < 1000 ∧ Q σ (upd H1 a (.ins C dx (putF f v fs)))
theorem pg_fld {X : Cx} {o : Expr} {to : TE} {f : Str} {pos : Pos} (ho : PE X o to) : PG X (.Attribute o f pos) (gFld X.K f to) := by
  refine ⟨fun pins s σ H v u Q I r h => ?_⟩
  rw [assign_Attribute]
  refine wpAny_bind (wpAny_holding (thn (ho.run pins s σ H _ I h) fun ov s1 ⟨x, H1, I1, r1, a, C, dx, fs, ex, ea, c, n, l, q⟩ => ?_))
  subst ex
  obtain rfl : ov = Value.ref a := r1
  refine wpAny_bind (wpAny_standAt (wpAny_bind (wpAny_holding (setattr_ok I1 ea c n l r fun s3 I3 => ?_))))
  exact wpAny_release ⟨σ, _, I3, q⟩
abbrev TGe := D → En → Option En
abbrev TGes := List D → En → Option En
def gE (K : PySem.W.Frag) (t : TGe) : TG := fun v σ H Q => ∃ as en F d en', ES K as en F H σ ∧ Rep K F H d v ∧ t d en = some en' ∧ ∀ σ' H', ES K as en' F H' σ' → Step as en.os F H as en'.os F H' → Q σ' H'
def gEs (K : PySem.W.Frag) (t : TGes) : TGs := fun vs σ H Q => ∃ as en F ds en', ES K as en F H σ ∧ RepL K F H ds vs ∧ t ds en = some en' ∧ ∀ σ' H', ES K as en' F H' σ' → Step as en.os F H as en'.os F H' → Q σ' H'
def geNil : TGes := fun ds en => match ds with
  | [] => some en
  | _ => none
def geCons (t : TGe) (u : TGes) : TGes := fun ds en => match ds with
  | d :: ds => (t d en).bind (u ds)
  | [] => none
def geT (u : TGes) : TGe := fun d en => match d with
  | .tup ds => u ds en
  | _ => none
def putD (f : Str) (d : D) : List (Str × D) → List (Str × D)
  | [] => [(f, d)]
  | (g, e) :: r => if g = f then (g, d) :: r else (g, e) :: putD f d r
/-- self.f = .., self a root at slot i -/
def geF (i : Nat) (C : Addr) (f : Str) : TGe := fun d en => match en.ρ[i]? with
  | some (some (.ow k)) => (match en.os[k]? with
    | some (some (.ins C' fs)) => if C' = C ∧ fs.length < 1000 then some ⟨en.ρ, en.os.set k (some (.ins C (putD f d fs)))⟩ else none
    | _ => none)
  | _ => none
theorem RepF.length {K : PySem.W.Frag} {F : Addr → Prop} {H : Hp} : ∀ {fs : List (Str × D)} {gs : List (Str × V)}, RepF K F H fs gs → gs.length = fs.length
  | [], gs, h => by simp only [RepF] at h; subst h; rfl
  | (k, d) :: fs, gs, h => by
    simp only [RepF] at h
    obtain ⟨w, ws, rfl, _, q⟩ := h
    simp [RepF.length q]
theorem RepF.put {K : PySem.W.Frag} {F : Addr → Prop} {H : Hp} {f : Str} {d : D} {v : V} (r : Rep K F H d v) : ∀ {fs : List (Str × D)} {gs : List (Str × V)}, RepF K F H fs gs → RepF K F H (putD f d fs) (putF f v gs)
  | [], gs, h => by
    simp only [RepF] at h; subst h
    simp only [putD, putF, RepF]
    exact ⟨v, [], rfl, r, rfl⟩
  | (k, e) :: fs, gs, h => by
    simp only [RepF] at h
    obtain ⟨w, ws, rfl, q, t⟩ := h
    by_cases hk : k = f
    · subst hk
      simp only [putD, putF, if_true, RepF]
      exact ⟨v, ws, rfl, r, t⟩
    · simp only [putD, putF, hk, if_false, RepF]
      exact ⟨w, _, rfl, q, RepF.put r t⟩
section
variable {X : Cx} {XW : WX} {pos p apos : Pos} {a b c e o : Expr} {es : List Expr} {wa wb wc wo : WEx} {ua ub : WBx} {ws : WAx} {t : TGe} {u : TGes}
theorem tge_fld (i : Nat) {C : Addr} {f x : Str} {p1 : Pos} (cl : Cls X.K C) (n : NoAttr X.K C f) (hN : X.N[i]? = some x := by rfl) (hv : Vis X.env.scope x := by first | exact Or.inl rfl | exact Or.inr (Or.inl rfl) | exact Or.inr (Or.inr rfl)) (hd : (x == ("__debug__" : Str)) = false := by decide)
    (hcd : (x == ("__classdict__" : Str)) = false := by decide) : PG X (.Attribute (.Name x p1) f pos) (gE X.K (geF i C f)) := (pg_fld (pe_var hN hv hd hcd)).weak fun v σ H Q h => by
  obtain ⟨as, en, F, d, en', es, r, e, hq⟩ := h
  unfold geF at e
  split at e
  · rename_i k hk
    obtain ⟨w, hw, a, ha, rfl⟩ := es.sl i _ hk
    split at e
    · rename_i C' fs ho
      split at e
      · rename_i hc
        obtain ⟨rfl, hl⟩ := hc
        cases e
        obtain ⟨a', ha', ⟨dx, gs, hH, rf⟩, nf⟩ := es.hs.own k _ ho
        rw [ha] at ha'; cases ha'
        refine ⟨_, hw, a, C', dx, gs, rfl, hH, cl, n, by rw [rf.length]; exact hl, hq _ _ (es.put ho ha ⟨dx, _, upd_same, RepF.mono (mon_priv nf (fun vs => by rw [hH]; exact fun z => nomatch z)) _ _ (RepF.put r rf)⟩) (Step.refl.put ho ha)⟩
      · cases e
    · cases e
  · cases e
theorem tges_nil : PGs X [] (gEs X.K geNil) := pgs_nil.weak fun vs σ H Q h => by
  obtain ⟨as, en, F, ds, en', es, r, e, hq⟩ := h
  cases ds with
  | nil => cases e; simp only [RepL] at r; exact ⟨r, hq _ _ es Step.refl⟩
  | cons _ _ => cases e
theorem tges_cons (h1 : PG X e (gE X.K t)) (h2 : PGs X es (gEs X.K u)) (hs : (assignEach (e :: es) X.env).map (·.2) = assign e X.env :: (assignEach es X.env).map (·.2) := by rfl) : PGs X (e :: es) (gEs X.K (geCons t u)) :=
  (pgs_cons h1 h2 hs).weak fun vs σ H Q h => by
    obtain ⟨as, en, F, ds, en', es, r, e, hq⟩ := h
    cases ds with
    | nil => cases e
    | cons d ds =>
      simp only [RepL] at r
      obtain ⟨v, ws, rfl, r1, r2⟩ := r
      simp only [geCons] at e
      cases e1 : t d en with
      | none => rw [e1] at e; cases e
      | some en1 =>
        rw [e1] at e
        exact ⟨v, ws, rfl, as, en, F, d, en1, es, r1, e1, fun σ1 H1 es1 s1 => ⟨as, en1, F, ds, en', es1, RepL.mono (s1.mon es.hs) _ _ r2, e, fun σ2 H2 es2 s2 => hq σ2 H2 es2 (s1.trans s2)⟩⟩
theorem tge_tup {k : Nat} (n : Nat) (hc : X.calm = true) (h : PGs X es (gEs X.K u)) (hl : ∀ ds (en en' : En), u ds en = some en' → ds.length = n) (hn : (assignEach es X.env).length = n := by rfl) (hst : (assignEach es X.env).findIdx? (·.1) = none := by rfl) :
    PG X (.Tuple es k pos) (gE X.K (geT u)) := (pg_tup hc h hn hst).weak fun v σ H Q h => by
  obtain ⟨as, en, F, d, en', es, r, e, hq⟩ := h
  unfold geT at e
  split at e
  · rename_i ds
    obtain ⟨a, vs, ea, q, z, rl⟩ := Sees.tup (.inl r)
    exact ⟨a, vs, ea, .of q, by rw [rl.length]; exact hl _ _ _ e, as, en, F, ds, en', es, rl, e, hq⟩
  · cases e
theorem geCons_inv {t : TGe} {u : TGes} {ds : List D} {en en' : En} (e : geCons t u ds en = some en') : ∃ d ds' en1, ds = d :: ds' ∧ u ds' en1 = some en' := by
  cases ds with
  | nil => cases e
  | cons d ds =>
    simp only [geCons] at e
    cases h : t d en with
    | none => rw [h] at e; cases e
    | some en1 => rw [h] at e; exact ⟨d, ds, en1, rfl, e⟩
theorem ge2 {t1 t2 : TGe} (ds : List D) (en en' : En) (e : geCons t1 (geCons t2 geNil) ds en = some en') : ds.length = 2 := by
  obtain ⟨_, _, _, rfl, e1⟩ := geCons_inv e
  obtain ⟨_, ds', _, rfl, e2⟩ := geCons_inv e1
  cases ds' with
  | nil => rfl
  | cons _ _ => cases e2
theorem ge3 {t1 t2 t3 : TGe} (ds : List D) (en en' : En) (e : geCons t1 (geCons t2 (geCons t3 geNil)) ds en = some en') : ds.length = 3 := by
  obtain ⟨_, _, _, rfl, e1⟩ := geCons_inv e
  have := ge2 _ _ _ e1
  simp [this]
/-- target = e -/
def wAsgE (t : TGe) (w : WEx) : WSx := fun en P => w en (fun r en1 => match r.fz with
  | .sh d => (match t d en1 with
    | some en2 => P.nx en2
    | none => False)
  | _ => False) P.ex
theorem ts_asgE {tg : Expr} (he : PE X e (tW X.K XW wa)) (hg : PG X tg (gE X.K t)) (hs : swapsWithSole [tg] e pos.line X.env = pure false := by rfl) (hw : swappedStores [tg] e X.env = pure none := by rfl)
    (h1 : (assignEach [tg] X.env).map (·.2) = [assign tg X.env] := by rfl) : PS X (.Assign [tg] e pos) (tS X.K XW (wAsgE t wa)) := (ps_asg he hg hs hw h1).weak fun D σ H h => by
  obtain ⟨as, en, F, P, es, hw, h1, h2, h3, h4, h5⟩ := h
  refine ⟨as, en, F, _, _, es, hw, fun v H' r en' F' e s rr hp => ?_, h5.at σ⟩
  obtain ⟨G, g1, t1, rp, _⟩ := wait es e Step.refl s rr
  split at hp
  · rename_i d ed
    rw [ed] at rp
    split at hp
    · rename_i en2 ht
      exact ⟨as, en', G, d, en2, g1, rp, ht, fun σ' H2 e2 s2 => h1 σ' H2 as en2 G e2 (t1.trans s2) hp⟩
    · exact hp.elim
  · exact hp.elim
/-- a, b = e, taken apart into names -/
def wAsgT (t : TGx) (w : WEx) : WSx := fun en P => w en (fun r en1 => match r.fz with
  | .sh d => (match t d en1.ρ with
    | some ρ2 => P.nx ⟨ρ2, en1.os⟩
    | none => False)
  | _ => False) P.ex
theorem ts_asgT {tg : Expr} {T : List Nat} {t : TGx} (he : PE X e (tW X.K XW wa)) (hg : PG X tg (gS X.K T t)) (hs : swapsWithSole [tg] e pos.line X.env = pure false := by rfl) (hw : swappedStores [tg] e X.env = pure none := by rfl)
    (h1 : (assignEach [tg] X.env).map (·.2) = [assign tg X.env] := by rfl) : PS X (.Assign [tg] e pos) (tS X.K XW (wAsgT t wa)) := (ps_asg he hg hs hw h1).weak fun D σ H h => by
  obtain ⟨as, en, F, P, es, hw, h1, h2, h3, h4, h5⟩ := h
  refine ⟨as, en, F, _, _, es, hw, fun v H' r en' F' e s rr hp => ?_, h5.at σ⟩
  obtain ⟨G, g1, t1, rp, _⟩ := wait es e Step.refl s rr
  split at hp
  · rename_i d ed
    rw [ed] at rp
    split at hp
    · rename_i ρ2 ht
      exact ⟨as, en', G, d, ρ2, g1, rp, ht, fun σ' _ e2 => h1 σ' H' as _ G e2 t1 hp⟩
    · exact hp.elim
  · exact hp.elim
/-- a, b = x, y of plain local names -/
def wPar (i j : Nat) (wa wb : WEx) : WSx := fun en P => wa en (fun ra en1 => wb en1 (fun rb en2 => P.nx ⟨(en2.ρ.set i (some ra.fz)).set j (some rb.fz), en2.os⟩) P.ex) P.ex
theorem ts_par (i j : Nat) {x y : Str} {px py pt : Pos} {kt k2 pt2} (hc : X.calm = true) (hN : X.N.Nodup) (hi : X.N[i]? = some x) (hj : X.N[j]? = some y) (hij : i ≠ j)
    (hx : X.env.scope.names.lookup x = some .local) (hy : X.env.scope.names.lookup y = some .local) (ha : PE X a (tW X.K XW wa)) (hb : PE X b (tW X.K XW wb))
    (hw : swappedStores [.Tuple [.Name x px, .Name y py] kt pt] (.Tuple [a, b] k2 pt2) X.env = pure (some [x, y]) := by rfl)
    (hs : swapsWithSole [.Tuple [.Name x px, .Name y py] kt pt] (.Tuple [a, b] k2 pt2) pos.line X.env = pure false := by rfl)
    (hs1 : starEach [a, b] X.env = (false, eval a X.env) :: starEach [b] X.env := by rfl) (hs2 : starEach [b] X.env = (false, eval b X.env) :: starEach [] X.env := by rfl) :
    PS X (.Assign [.Tuple [.Name x px, .Name y py] kt pt] (.Tuple [a, b] k2 pt2) pos) (tS X.K XW (wPar i j wa wb)) :=
  (ps_par hc hN hi hj hij hx hy (ta_cons ha (ta_cons hb ta_nil hs2) hs1) hw hs).weak fun D σ H h => by
    obtain ⟨as, en, F, P, es, hw, h1, h2, h3, h4, h5⟩ := h
    refine ⟨as, en, F, fun rs en2 => match rs with
      | [ra, rb] => P.nx ⟨(en2.ρ.set i (some ra)).set j (some rb), en2.os⟩
      | _ => False, _, es, hw, fun vs H1 rs en1 F1 e1 s1 pr hp => ?_, h5.at σ⟩
    cases pr with
    | nil => exact hp.elim
    | cons q1 pr =>
      cases pr with
      | nil => exact hp.elim
      | cons q2 pr =>
        cases pr with
        | nil => exact ⟨_, _, rfl, h1 _ H1 as _ F1 ((e1.set i q1).set j q2) s1 hp⟩
        | cons _ _ => exact hp.elim
end

/-! ### own classes -/
def EW (E : XK) : WX := fun cls d _ H => E cls d H
/-- a class of the module, made by an __init__ that keeps Φ -/
structure Kl (P : Program) (w : World) (K : PySem.W.Frag) (mg : Str → Option Value) (base : Heap) (k : Nat) (x : Str) (C : Addr) (Φ : Sw) : Prop where
  ex : ∃ f fd ps, FnOk P w K mg base (CX P w) k f fd ps (spT K Φ) ∧ Mk K C f ∧ mg x = some (.ref C) ∧ Binds K fd ps []
/-- a method -/
structure Mt (P : Program) (w : World) (K : PySem.W.Frag) (mg : Str → Option Value) (base : Heap) (k : Nat) (C : Addr) (m : Str) (Φ : Sw) : Prop where
  ex : ∃ f fd ps, FnOk P w K mg base (CX P w) k f fd ps (spT K Φ) ∧ Meth K C m f ∧ Cls K C ∧ Binds K fd ps []
section
variable {X : Cx} {XW : WX} {pos p apos : Pos} {a b c e o : Expr} {es : List Expr} {wa wb wc wo : WEx} {ua ub : WBx} {ws : WAx} {E : XK}
theorem passE {E : XK} (tk : Takes X (EW E)) : Passes (L2.CX X.prog X.w) X E := fun pins σ H s e s' I c => passes_call tk (fun _ _ _ _ h => h) pins σ H s e s' I c
def wMake (C : Addr) (Φ : Sw) (ws : WAx) : WEx := fun en P PX => ws en (fun rs en1 => Φ (.ow en1.os.length :: rs) (en1.os ++ [some (.ins C [])])
  (fun r os' => r = .sh .non ∧ match os'[en1.os.length]? with
    | some (some d) => P (.fr d) ⟨en1.ρ, os'.take en1.os.length⟩
    | _ => False) (fun er os' => PX er ⟨en1.ρ, os'.take en1.os.length⟩)) PX
theorem make_of {K : PySem.W.Frag} {C : Addr} {Φ : Sw} {σ : St} {H : Hp} {Q : VK} (h : tW K (EW E) (wMake C Φ ws) σ H Q) : tMake C (spT K Φ) [] E (tWA K (EW E) ws) σ H Q := by
  obtain ⟨as, en, F, P, PX, es, hw, hq, hx⟩ := h
  refine ⟨as, en, F, _, PX, es, hw, fun vs H1 rs en1 F1 e1 s1 pr hp => ?_, hx⟩
  intro x dx hxn hdn hne
  have hx1 : upd H1 dx (.own x) x = none := by rw [upd_ne (Ne.symm hne)]; exact hxn
  have g1 := (e1.upd_new (o := .own x) hdn).upd_new (o := .ins C dx []) hx1
  have nas := e1.notin hxn
  have nf := e1.notF hxn
  have hl : en1.os.length = as.length := e1.hs.len
  have own : Own K F1 (upd (upd H1 dx (.own x)) x (.ins C dx [])) (.ins C []) x := ⟨dx, [], upd_same, by simp [RepF]⟩
  have g2 := g1.root nas nf own
  have hH : H x = none := by
    rcases s1.fresh hxn with z | z
    · exact z
    · exact absurd z.mem nas
  have st : Step as en1.os F1 H1 as en1.os F1 (upd (upd H1 dx (.own x)) x (.ins C dx [])) := (Step.upd_new hdn).trans (Step.upd_new hx1)
  have st2 := st.root (d := .ins C []) hxn hl
  have pr2 : Paired (RepP K (as ++ [x]) F1 (upd (upd H1 dx (.own x)) x (.ins C dx []))) (.ow en1.os.length :: rs) (.ref x :: (vs ++ [])) := by
    rw [List.append_nil]
    refine .cons ⟨x, ?_, rfl⟩ (Paired.imp (fun r v q => q.step st2 e1.hs) pr)
    rw [List.getElem?_append_right (by omega), hl]; simp
  refine ⟨as ++ [x], _, F1, _, _, _, g2.hs, pr2, hp, fun v H' r os' F' h' s' rr hp' => ?_, fun cls d H' er os' F' h' s' re hp' => ?_⟩
  · obtain ⟨rfl, hp'⟩ := hp'
    refine ⟨by simpa only [RepR, Rep] using rr, ?_⟩
    split at hp'
    · rename_i d hd
      have s3 := st2.trans s'
      obtain ⟨x', hx', own', nf'⟩ := h'.own _ d hd
      rw [List.getElem?_append_right (by omega), hl] at hx'
      simp at hx'; subst hx'
      have pre : as <+: as ++ [x] := ⟨[x], rfl⟩
      have hh := h'.take pre
      have s4 := s3.take
      rw [← hl] at hh s4
      refine hq (.ref x) H' (.fr d) ⟨en1.ρ, os'.take en1.os.length⟩ F' (e1.call hh s4) (s1.trans s4) ⟨x, rfl, hH, nas, nf', own'⟩ hp'
    · exact hp'.elim
  · have s3 := st2.trans s'
    have pre : as <+: as ++ [x] := ⟨[x], rfl⟩
    have hh := h'.take pre
    have s4 := s3.take
    rw [← hl] at hh s4
    exact hx cls d H' er ⟨en1.ρ, os'.take en1.os.length⟩ F' (e1.call hh s4) (s1.trans s4) re hp'
theorem te_make {k j : Nat} {x : Str} {C : Addr} {Φ : Sw} (G : Kl X.prog X.w X.K X.mg X.base k x C Φ) (hr : Room j X.A) (tk : Takes X (EW E)) (ha : PA X (e :: es) (tWA X.K (EW E) ws)) (hkj : k + 1 ≤ j := by decide) (hg : Gl X x := by rfl)
    (hdb : (x == ("__debug__" : Str)) = false := by decide) (he : starEach (e :: es) X.env = (false, eval e X.env) :: starEach es X.env := by rfl) (hpl : (backTo pos (starEach es X.env)).any (·.1) = false := by rfl) :
    PE X (.Call (.Name x p) (e :: es) [] pos) (tW X.K (EW E) (wMake C Φ ws)) := by
  obtain ⟨f, fd, ps, F, M, hm, hb⟩ := G.ex
  exact (pe_make M F (hr.mono hkj) hg hm hb .nil (passE tk) ha hdb he hpl).weak fun σ H Q h => make_of h
def wMeth (C : Addr) (m : Str) (Φ : Sw) (wo : WEx) (ws : WAx) : WEx := fun en P PX => wo en (fun ro en1 => (match ro.fz.val en1.os with
  | some (.ins C' fs) => C' = C ∧ fs.lookup m = none
  | _ => False) ∧ ws en1 (fun rs en2 => Φ (ro.fz :: rs) en2.os (fun r os' => P r ⟨en2.ρ, os'⟩) (fun er os' => PX er ⟨en2.ρ, os'⟩)) PX) PX
theorem meth_of {K : PySem.W.Frag} {C : Addr} {m : Str} {Φ : Sw} {σ : St} {H : Hp} {Q : VK} (h : tW K (EW E) (wMeth C m Φ wo ws) σ H Q) : tMeth C m (spT K Φ) [] E (tW K (EW E) wo) (tWA K (EW E) ws) σ H Q := by
  obtain ⟨as, en, F, P, PX, es, hw, hq, hx⟩ := h
  refine ⟨as, en, F, _, PX, es, hw, fun v H1 r en1 F1 e1 s1 rr hp => ?_, hx⟩
  obtain ⟨G, g1, t1, rp, _⟩ := wait es e1 Step.refl s1 rr
  obtain ⟨hp1, hp⟩ := hp
  split at hp1
  · rename_i C' fs ev
    obtain ⟨rfl, hl⟩ := hp1
    obtain ⟨a, dx, gs, e2, hH, rf⟩ := (rp.sees g1.hs ev).ins
    refine ⟨a, dx, gs, e2, hH, rf.lookupN hl, as, en1, G, _, PX, g1, hp, fun vs H2 rs en2 F2 e3 s2 pr hp2 => ?_, hx.from t1⟩
    show spT K Φ (v :: (vs ++ [])) H2 Q E
    rw [List.append_nil]
    refine ⟨as, en2.os, F2, _, _, _, e3.hs, .cons (rp.step s2 g1.hs) pr, hp2, fun w H3 r3 os3 F3 h3 s3 rr3 hp3 => ?_, fun cls d H3 er os3 F3 h3 s3 re hp3 => ?_⟩
    · exact hq w H3 r3 _ F3 (e3.call h3 s3) ((t1.trans s2).trans s3) (rr3.lift (t1.trans s2)) hp3
    · exact hx cls d H3 er _ F3 (e3.call h3 s3) ((t1.trans s2).trans s3) re hp3
  · exact hp1.elim
theorem te_meth {k j : Nat} {C : Addr} {m : Str} {Φ : Sw} {pl : Sem Bool} (G : Mt X.prog X.w X.K X.mg X.base k C m Φ) (hr : Room j X.A) (tk : Takes X (EW E)) (ho : PE X o (tW X.K (EW E) wo)) (ha : PA X (e :: es) (tWA X.K (EW E) ws)) (hkj : k ≤ j := by decide)
    (hst : starEach (e :: es) X.env = (false, eval e X.env) :: starEach es X.env := by rfl) (hpl : (backTo pos (starEach es X.env)).any (·.1) = false := by rfl)
    (ht : eval (.Call (.Attribute o m apos) (e :: es) [] pos) X.env = (do
      let ov ← eval o X.env
      standAt apos.atName
      let (f, first) ← holding [ov] (getMethod ov m pl)
      callWith pos f first (backTo pos (starEach (e :: es) X.env)) (backToKw pos (keywordEach [] X.env))) := by rfl) :
    PE X (.Call (.Attribute o m apos) (e :: es) [] pos) (tW X.K (EW E) (wMeth C m Φ wo ws)) := by
  obtain ⟨f, fd, ps, F, hm, c, hb⟩ := G.ex
  exact (pe_meth ho c hm F (hr.mono hkj) hb .nil (passE tk) ha hst hpl ht).weak fun σ H Q h => meth_of h
end
end L2.TL

/-! text TL9 -/
set_option Elab.async false
set_option linter.all false
set_option maxRecDepth 100000
set_option maxHeartbeats 2000000
namespace L2.TL
open PySem PySem.Spec PyProof.Rows

/-! ### {k: v for ..} with tuples as keys -/
/-- a pair is put into a dict with tuple keys -/
theorem dictSet_tup {X : Cx} {pins : List (Addr × Obj)} {σ : St} {H : Hp} {s : Shared} {E : Value → Shared → Prop} {D b : Addr} {kvs : List (List Key × V)} {k : List Key} {v : V} {u r : Value} {Q : Unit → Shared → Prop} (hu : X.A.units + 1 < cLine)
    (I : Inv X pins σ H s) (hD : H D = some (.dT kvs)) (hz : kvs.length < sizeLine) (hb : H b = some (.tup (k.map kV))) (ry : RelV (.ref b) u) (rv : RelV v r) (h : ∀ s', Inv X pins σ (upd H D (.dT (putK kvs k v))) s' → Q () s') :
    wpAny (model X.prog X.w) X.A (dictSet D u r) Q E s := by
  obtain rfl : u = Value.ref b := ry
  obtain ⟨_, hsys, xs, rel, dd⟩ := dt_of I.hok hD
  have hxs : xs.length ≤ sizeLine := Nat.le_trans (Nat.le_of_eq (Paired.length rel).symm) (Nat.le_of_lt hz)
  have hnew : (putK kvs k v).length ≤ sizeLine := Nat.le_trans (length_putK kvs k v) hz
  refine wpAny_dictSet_heap (hsz := hxs) (knd := tupleKind (mixKind X.prog X.w)) (show X.A.units < cLine by omega) (key_of I.hok hb) dd fun h' dd' same => h _ ?_
  obtain ⟨ob, es, ep, hob, x1, x2, x3, _, x4⟩ := dd'
  have hkt := (rel.put k hb rv).keeps (H' := upd H D (.dT (putK kvs k v))) fun c ys ec => by
    rw [upd_ne (ne_of ec hD (fun z => nomatch z))]; exact ec
  exact d_write I (by rw [hD]; exact True.intro) same ⟨ob, hob⟩ ⟨hnew, hsys, _, hkt, ob, es, ep, hob, x1, x2, x3, x4⟩

def tDcT (wi : TI) (g : TG) (tt : TT) (tk tv : TE) (vs : List Nat) : TE := fun σ H Q => wi σ H fun J H1 => ∀ D, H1 D = none → ∃ W : Nat → Nat → Hp → Prop, (∃ m, W 0 m (upd H1 D (.dT []))) ∧ ∀ i m Hi, W i m Hi →
  (J.stop i Hi ∧ Q (.ref D) Hi) ∨ (J.go i Hi ∧ ∃ Nx : Hp → Prop, (∀ Hn, Nx Hn → ∃ m', m' < m ∧ W (i + 1) m' Hn) ∧ ∀ x Hx, J.yld i Hi x Hx → g x (wipe σ vs) Hx fun σ2 H2 => wipe σ2 vs = wipe σ vs ∧ tt σ2 H2 fun b H3 =>
    if b = true then tk σ2 H3 fun y H4 => tv σ2 H4 fun z H5 => ∃ kvs k c, y = .ref c ∧ H5 c = some (.tup (k.map kV)) ∧ H5 D = some (.dT kvs) ∧ kvs.length < sizeLine ∧ Nx (upd H5 D (.dT (putK kvs k z))) else Nx H3)
section
variable {X : Cx}
theorem pe_dcT {kx vx tg iter : Expr} {ifs : List Expr} {scope : Scope} {own : List (Str × Nat)} {pos : Pos} {wi : TI} {g : TG} {tt : TT} {tk tv : TE} (hu : X.A.units + 1 < cLine) (hc : X.calm = true) (hN : X.N.Nodup) (hi : PI X tg iter wi) (ok : BlkOk X.N X.env.scope scope own)
    (hg : ∀ (s : Shared) (H : Hp) (C : Addr) (cl : List (Str × Addr)) (fp : List Addr), PG (X.blk s H scope (compEnvC scope cl C X.env) fp) tg g)
    (ht : ∀ (s : Shared) (H : Hp) (C : Addr) (cl : List (Str × Addr)) (fp : List Addr), PTs (X.blk s H scope (compEnvC scope cl C X.env) fp) ifs tt)
    (hk : ∀ (s : Shared) (H : Hp) (C : Addr) (cl : List (Str × Addr)) (fp : List Addr), PE (X.blk s H scope (compEnvC scope cl C X.env) fp) kx tk)
    (hv : ∀ (s : Shared) (H : Hp) (C : Addr) (cl : List (Str × Addr)) (fp : List Addr), PE (X.blk s H scope (compEnvC scope cl C X.env) fp) vx tv)
    (hs : ∀ x, foldedSetIterable iter X.env x = pure x := by intro _; rfl) : PE X (.DictComp kx vx [⟨tg, iter, ifs, 0⟩] scope pos) (tDcT wi g tt tk tv (own.map (·.2))) := by
  refine ⟨fun pins s σ H Q I hq => ?_⟩
  rw [arm_eval_DictComp]
  have cells : ∀ y ∈ scope.names, y.2 = .free → ∃ c, X.env.cells.lookup y.1 = some c := fun y hy e => (ok.free y hy e).elim (fun z => I.ok.has _ (.inl z)) fun z => I.ok.has _ (.inr z)
  refine wpAny_comprehension_free (use := none) rfl hs (closure_ok cells) ok.kind (fun y hy e => by rw [ok.uniq y hy, e]) (thn (hi.run pins s σ H _ I hq) fun _ sa ha => thn ha fun _ sb hb => ?_)
  obtain ⟨it, fp, tn, J, Ha, rfl, Ia, T, sta, fpa, q⟩ := hb
  refine wpAny_newObj_type (newEnv_comp ?_)
  generalize eD : sb.heap.objs.size = D
  have nD : Ha D = none := Ia.hok.fresh (Nat.le_of_eq eD)
  obtain ⟨W, ⟨m0, w0⟩, turn⟩ := q D nD
  generalize esc : ({ sb with heap := sb.heap.push { cls := .type "dict", data := .dict #[] } } : Shared) = sc
  have hpsc : sc.heap = sb.heap.push { cls := .type "dict", data := .dict #[] } := by rw [← esc]
  have Ic : Inv X pins σ (upd Ha D (.dT [])) sc := by
    rw [← esc]
    refine Ia.laid (t' := sb.toks) (fun _ _ e => Heap.get?_push_of_some _ e) (Nat.le_of_eq eD) ?_
    rw [← eD]
    exact dt_empty sb.heap Ia.big
  have old : ∀ b ∈ fp, b < sb.heap.objs.size := fun b hb => let ⟨_, e, _⟩ := T.obj _ _ sta b hb; Heap.lt_size e
  have fpc : ∀ b ∈ fp, FpOk X pins (upd Ha D (.dT [])) b ∧ b < sc.heap.objs.size := fun b hb => by
    have lt := old b hb
    refine ⟨⟨by rw [upd_ne (by rw [← eD]; exact Nat.ne_of_lt lt)]; exact (fpa b hb).1, (fpa b hb).2⟩, ?_⟩
    rw [hpsc, Heap.size_push]; exact Nat.lt_succ_of_lt lt
  have stc : tn 0 sc.heap := T.keep _ _ _ sta fun b _ o e => by rw [hpsc]; exact Heap.get?_push_of_some _ e
  have Id := block_start Ic ok hN fpc
  have Pg := hg sc (upd Ha D (.dT [])) sc.heap.objs.size (cellsFrom (sc.heap.objs.size + 1) scope.names (cloFrom X.env.cells scope.names [])) fp
  have Pt := ht sc (upd Ha D (.dT [])) sc.heap.objs.size (cellsFrom (sc.heap.objs.size + 1) scope.names (cloFrom X.env.cells scope.names [])) fp
  have Pk := hk sc (upd Ha D (.dT [])) sc.heap.objs.size (cellsFrom (sc.heap.objs.size + 1) scope.names (cloFrom X.env.cells scope.names [])) fp
  have Pv := hv sc (upd Ha D (.dT [])) sc.heap.objs.size (cellsFrom (sc.heap.objs.size + 1) scope.names (cloFrom X.env.cells scope.names [])) fp
  have nfp : ∀ b ∈ fp, upd Ha D (.dT []) b = none := fun b hb => (fpc b hb).1.1
  show codeAny _ _ (.compStart (.DictComp kx vx [⟨tg, iter, ifs, 0⟩] scope pos) 0 (.ref it) (.ref D) (compEnvC scope (cellsFrom (sc.heap.objs.size + 1) scope.names (cloFrom X.env.cells scope.names [])) sc.heap.objs.size X.env)) (compPost (model X.prog X.w) X.A X.xe none (EP X pins σ Q) (.ref D) sc.heap.objs.size) { sc with heap := pushCells (sc.heap.push { cls := .type "dict", data := .dict #[] }) scope.names }
  generalize eB : compEnvC scope (cellsFrom (sc.heap.objs.size + 1) scope.names (cloFrom X.env.cells scope.names [])) sc.heap.objs.size X.env = B at Id Pg Pt Pk Pv ⊢
  have Bl : B.locals = sc.heap.objs.size := by subst eB; rfl
  generalize eG : upd Ha D (.dT []) = G at Ic Id Pg Pt Pk Pv w0 nfp fpc
  generalize eS : ({ sc with heap := pushCells (sc.heap.push { cls := .type "dict", data := .dict #[] }) scope.names } : Shared) = sd at Id ⊢
  have std : tn 0 sd.heap := T.keep _ _ _ stc fun b _ o e => by rw [← eS]; exact pushCells_keeps _ _ _ _ (Heap.get?_push_of_some _ e)
  have still : ∀ {τ : St} {Hn : Hp} {sn : Shared}, Inv (X.blk sc G scope B fp) [] τ Hn sn → (∀ b ∈ fp, Hn b = none) → ∀ b ∈ fp, FpOk (X.blk sc G scope B fp) [] Hn b := fun {τ Hn sn} In hn b hb =>
    ⟨hn b hb, (In.ok.exf b hb).1, In.ok.exfs b hb, .inl hb, fun x c e => (In.ok.exf b hb).2 x c e, fun p hp => absurd (show p ∈ ([] : List (Addr × Obj)) ++ [] from hp) (by simp)⟩
  have loop : codeAny (model X.prog X.w) X.A (.compLoop (.DictComp kx vx [⟨tg, iter, ifs, 0⟩] scope pos) 0 (.ref it) (.ref D) B) (compPost (model X.prog X.w) X.A X.xe none (EP X pins σ Q) (.ref D) sc.heap.objs.size) sd := by
    refine compLoop_anyD (fun n sn => ∃ i Hn, Inv (X.blk sc G scope B fp) [] (wipe σ (own.map (·.2))) Hn sn ∧ tn i sn.heap ∧ (∀ b ∈ fp, Hn b = none) ∧ W i n Hn) ?_ m0 ⟨0, G, Id, std, nfp, w0⟩
    rintro n s1 ⟨i, H1, I1, st1, n1, w1⟩
    rcases turn i n H1 w1 with ⟨stop, qq⟩ | ⟨go, Nx, hNx, step⟩
    · refine thnF (T.done (X.blk sc G scope B fp) rfl rfl rfl hc i [] s1 _ H1 (fun _ _ => False) I1 (still I1 n1) st1 stop) fun r s2 ⟨hr, I2⟩ => ?_
      subst hr
      have back : Inv X pins σ H1 s2 := Ic.call' (ch := fp) I2.os I2.base I2.hok I2.bare fun b hb => let z := (fpc b hb).1; ⟨z.2.2.2.1, z.2.1, z.2.2.2.2.1, z.2.2.2.2.2⟩
      have free : H1 sc.heap.objs.size = none := by rw [← Bl]; exact I2.free
      obtain ⟨m, hn, _⟩ := I2.loc
      have hn' : s2.heap.Ns sc.heap.objs.size m := by rw [← Bl]; exact hn
      refine ⟨m, hn', fun h'' same => ?_⟩
      obtain ⟨f0, f1, f2, f3, f4, f5⟩ := Ic.fpOk (Nat.le_refl _) free
      exact ⟨.ref D, H1, back.turned (t' := s2.toks) (fun b o hb e => (same.2 b hb).trans e) f0 f1 f3 f4 f5, rfl, qq⟩
    · refine thnF (T.item (X.blk sc G scope B fp) rfl rfl rfl hc i [] s1 _ H1 (fun _ _ => False) I1 (still I1 n1) st1 go) fun r s2 ⟨u, hr, h2⟩ => ?_
      subst hr
      refine thnF h2 fun _ s3 ⟨x, H3, I3, r3, y3, st3, n3⟩ => ?_
      have pinned := I3.pinned (still I3 n3) (T.obj _ _ st3)
      refine thnF (Pg.run _ s3 _ H3 x u _ pinned r3 (step x H3 y3)) fun _ s4 ⟨σ4, H4, I4, hw4, q4⟩ => ?_
      refine thnF (Pt.run _ s4 σ4 H4 _ I4 q4) fun b s5 ⟨H5, I5, q5⟩ => ?_
      have next : ∀ {sn : Shared} {Hn : Hp}, Inv (X.blk sc G scope B fp) ([] ++ pinsAt fp s3.heap) σ4 Hn sn → Nx Hn → ∃ m, m < n ∧ ∃ i Hn, Inv (X.blk sc G scope B fp) [] (wipe σ (own.map (·.2))) Hn sn ∧ tn i sn.heap ∧ (∀ b ∈ fp, Hn b = none) ∧ W i m Hn := fun {sn Hn} In nx => by
        obtain ⟨m', hm, w'⟩ := hNx Hn nx
        have held : ∀ b ∈ fp, ∀ o, s3.heap.get? b = some o → sn.heap.get? b = some o ∧ Hn b = none := fun b hb o e =>
          have z := In.pin (b, o) (List.mem_append_right _ (List.mem_append_right _ (mem_pinsAt hb e)))
          ⟨z.1, z.2.1⟩
        refine ⟨m', hm, i + 1, Hn, (In.unpinned (pins := [])).weak (by rw [← hw4, wipe_length]) (fun j v e => ?_), T.keep _ _ _ st3 fun b hb o e => (held b hb o e).1, fun b hb => ?_, w'⟩
        · rw [← hw4] at e; exact (wipe_some e).1
        · obtain ⟨o, e, _⟩ := T.obj _ _ st3 b hb
          exact (held b hb o e).2
      cases b with
      | false =>
        rw [if_neg Bool.false_ne_true] at q5 ⊢
        exact next I5 q5
      | true =>
        rw [if_pos rfl] at q5 ⊢
        refine thnF (Pk.run _ s5 σ4 H5 _ I5 q5) fun yk s6 ⟨vk, H6, I6, r6, q6⟩ => ?_
        refine thnF (Pv.run _ s6 σ4 H6 _ I6 q6) fun yv s7 ⟨vv, H7, I7, r7, kvs, k, c, ek, ec, hD7, hz7, nx⟩ => ?_
        subst ek
        exact dictSet_tup (X := X.blk sc G scope B fp) hu I7 hD7 hz7 ec r6 r7 fun s8 I8 => next I8 nx
  exact codeAny_compStart_dict loop (T.self X.A 0 _ _ _ std loop)
end
end L2.TL

/-! text TL10 -/
set_option Elab.async false
set_option linter.all false
set_option maxRecDepth 100000
set_option maxHeartbeats 2000000
namespace L2.TL
open PySem PySem.Spec PyProof.Rows

/-! ### dicts as lists of pairs -/
section
variable {κ : Type} [DecidableEq κ]
def getKD (kvs : List (κ × D)) (k : κ) : Option D := (kvs.find? fun kv => decide (kv.1 = k)).map (·.2)
def putKD (kvs : List (κ × D)) (k : κ) (d : D) : List (κ × D) :=
  if (kvs.any fun kv => decide (kv.1 = k)) = true then kvs.map (fun kv => if kv.1 = k then (kv.1, d) else kv) else kvs ++ [(k, d)]
end
def keyD : D → Option Key
  | .int i => some (.inl i)
  | .str x => some (.inr x)
  | _ => none
def keysD : D → Option (List Key)
  | .tup ds => ds.mapM keyD
  | _ => none
section
variable {K : PySem.W.Frag} {F : Addr → Prop} {H : Hp}
theorem keyD_rep {d : D} {k : Key} {v : V} (e : keyD d = some k) (s : Sees K F H d v) : v = kV k := by
  cases d <;> simp only [keyD] at e <;> cases e
  · exact s.int
  · exact s.str
theorem keysD_rep {ds : List D} : ∀ {ks : List Key} {vs : List V}, ds.mapM keyD = some ks → RepL K F H ds vs → vs = ks.map kV := by
  induction ds with
  | nil => intro ks vs e r; simp at e; subst e; simp only [RepL] at r; subst r; rfl
  | cons d ds ih =>
    intro ks vs e r
    simp only [RepL] at r
    obtain ⟨w, ws, rfl, r1, r2⟩ := r
    rw [List.mapM_cons] at e
    cases h1 : keyD d with
    | none => rw [h1] at e; cases e
    | some k =>
      rw [h1] at e
      cases h2 : ds.mapM keyD with
      | none => rw [h2] at e; cases e
      | some ks' =>
        rw [h2] at e
        cases e
        rw [keyD_rep h1 (.inl r1), ih h2 r2]; rfl
theorem repK_any (k : Key) : ∀ {kvs : List (Key × D)} {ks : List (Key × V)}, RepK K F H kvs ks → (ks.any fun kv => decide (kv.1 = k)) = (kvs.any fun kv => decide (kv.1 = k))
  | [], ks, h => by simp only [RepK] at h; subst h; rfl
  | (j, d) :: r, ks, h => by
    simp only [RepK] at h
    obtain ⟨w, ws, rfl, _, q⟩ := h
    simp only [List.any_cons, repK_any k q]
theorem repK_map (k : Key) {d : D} {v : V} (r : Rep K F H d v) : ∀ {kvs : List (Key × D)} {ks : List (Key × V)}, RepK K F H kvs ks → RepK K F H (kvs.map fun kv => if kv.1 = k then (kv.1, d) else kv) (ks.map fun kv => if kv.1 = k then (kv.1, v) else kv)
  | [], ks, h => by simp only [RepK] at h; subst h; simp [RepK]
  | (j, e) :: t, ks, h => by
    simp only [RepK] at h
    obtain ⟨w, ws, rfl, q, z⟩ := h
    by_cases hj : j = k
    · simp only [List.map_cons, hj, if_true, RepK]
      exact ⟨v, _, rfl, r, repK_map k r z⟩
    · simp only [List.map_cons, hj, if_false, RepK]
      exact ⟨w, _, rfl, q, repK_map k r z⟩
theorem repK_snoc {k : Key} {d : D} {v : V} (r : Rep K F H d v) : ∀ {kvs : List (Key × D)} {ks : List (Key × V)}, RepK K F H kvs ks → RepK K F H (kvs ++ [(k, d)]) (ks ++ [(k, v)])
  | [], ks, h => by simp only [RepK] at h; subst h; simp only [List.nil_append, RepK]; exact ⟨v, [], rfl, r, rfl⟩
  | (j, e) :: t, ks, h => by
    simp only [RepK] at h
    obtain ⟨w, ws, rfl, q, z⟩ := h
    simp only [List.cons_append, RepK]
    exact ⟨w, _, rfl, q, repK_snoc r z⟩
theorem RepK.put {k : Key} {d : D} {v : V} (r : Rep K F H d v) {kvs : List (Key × D)} {ks : List (Key × V)} (h : RepK K F H kvs ks) : RepK K F H (putKD kvs k d) (putK ks k v) := by
  unfold putKD putK
  rw [repK_any k h]
  split
  · exact repK_map k r h
  · exact repK_snoc r h
theorem RepK.get {k : Key} : ∀ {kvs : List (Key × D)} {ks : List (Key × V)}, RepK K F H kvs ks → match getKD kvs k with
    | some d => ∃ v, valV ks k = some v ∧ Rep K F H d v
    | none => valV ks k = none
  | [], ks, h => by simp only [RepK] at h; subst h; rfl
  | (j, e) :: t, ks, h => by
    simp only [RepK] at h
    obtain ⟨w, ws, rfl, q, z⟩ := h
    by_cases hj : j = k
    · subst hj
      simp only [getKD, List.find?_cons, decide_true, valV]
      exact ⟨w, rfl, q⟩
    · have e1 : getKD ((j, e) :: t) k = getKD t k := by simp [getKD, List.find?_cons, hj]
      have e2 : valV ((j, w) :: ws) k = valV ws k := by simp [valV, List.find?_cons, hj]
      rw [e1, e2]
      exact RepK.get z
theorem RepK.length : ∀ {kvs : List (Key × D)} {ks : List (Key × V)}, RepK K F H kvs ks → ks.length = kvs.length
  | [], ks, h => by simp only [RepK] at h; subst h; rfl
  | (j, e) :: t, ks, h => by
    simp only [RepK] at h
    obtain ⟨w, ws, rfl, _, z⟩ := h
    simp [RepK.length z]
theorem RepK.nth : ∀ {kvs : List (Key × D)} {ks : List (Key × V)} {i : Nat} {k : Key} {d : D}, RepK K F H kvs ks → kvs[i]? = some (k, d) → ∃ v, ks[i]? = some (k, v) ∧ Rep K F H d v
  | [], _, _, _, _, _, e => by simp at e
  | (j, e) :: t, ks, 0, _, _, h, e1 => by
    simp only [RepK] at h
    obtain ⟨w, ws, rfl, q, _⟩ := h
    simp at e1; obtain ⟨rfl, rfl⟩ := e1
    exact ⟨w, rfl, q⟩
  | (j, e) :: t, ks, i + 1, _, _, h, e1 => by
    simp only [RepK] at h
    obtain ⟨w, ws, rfl, _, z⟩ := h
    exact RepK.nth (i := i) z (by simpa using e1)
theorem repT_any (k : List Key) : ∀ {kvs : List (List Key × D)} {ks : List (List Key × V)}, RepT K F H kvs ks → (ks.any fun kv => decide (kv.1 = k)) = (kvs.any fun kv => decide (kv.1 = k))
  | [], ks, h => by simp only [RepT] at h; subst h; rfl
  | (j, d) :: r, ks, h => by
    simp only [RepT] at h
    obtain ⟨w, ws, rfl, _, q⟩ := h
    simp only [List.any_cons, repT_any k q]
theorem repT_map (k : List Key) {d : D} {v : V} (r : Rep K F H d v) : ∀ {kvs : List (List Key × D)} {ks : List (List Key × V)}, RepT K F H kvs ks → RepT K F H (kvs.map fun kv => if kv.1 = k then (kv.1, d) else kv) (ks.map fun kv => if kv.1 = k then (kv.1, v) else kv)
  | [], ks, h => by simp only [RepT] at h; subst h; simp [RepT]
  | (j, e) :: t, ks, h => by
    simp only [RepT] at h
    obtain ⟨w, ws, rfl, q, z⟩ := h
    by_cases hj : j = k
    · simp only [List.map_cons, hj, if_true, RepT]
      exact ⟨v, _, rfl, r, repT_map k r z⟩
    · simp only [List.map_cons, hj, if_false, RepT]
      exact ⟨w, _, rfl, q, repT_map k r z⟩
theorem repT_snoc {k : List Key} {d : D} {v : V} (r : Rep K F H d v) : ∀ {kvs : List (List Key × D)} {ks : List (List Key × V)}, RepT K F H kvs ks → RepT K F H (kvs ++ [(k, d)]) (ks ++ [(k, v)])
  | [], ks, h => by simp only [RepT] at h; subst h; simp only [List.nil_append, RepT]; exact ⟨v, [], rfl, r, rfl⟩
  | (j, e) :: t, ks, h => by
    simp only [RepT] at h
    obtain ⟨w, ws, rfl, q, z⟩ := h
    simp only [List.cons_append, RepT]
    exact ⟨w, _, rfl, q, repT_snoc r z⟩
theorem RepT.put {k : List Key} {d : D} {v : V} (r : Rep K F H d v) {kvs : List (List Key × D)} {ks : List (List Key × V)} (h : RepT K F H kvs ks) : RepT K F H (putKD kvs k d) (putK ks k v) := by
  unfold putKD putK
  rw [repT_any k h]
  split
  · exact repT_map k r h
  · exact repT_snoc r h
theorem RepT.length : ∀ {kvs : List (List Key × D)} {ks : List (List Key × V)}, RepT K F H kvs ks → ks.length = kvs.length
  | [], ks, h => by simp only [RepT] at h; subst h; rfl
  | (j, e) :: t, ks, h => by
    simp only [RepT] at h
    obtain ⟨w, ws, rfl, _, z⟩ := h
    simp [RepT.length z]
theorem RepT.keys : ∀ {kvs : List (List Key × D)} {ks : List (List Key × V)}, RepT K F H kvs ks → ks.map (·.1) = kvs.map (·.1)
  | [], ks, h => by simp only [RepT] at h; subst h; rfl
  | (j, e) :: t, ks, h => by
    simp only [RepT] at h
    obtain ⟨w, ws, rfl, _, z⟩ := h
    simp [RepT.keys z]
end
theorem putKD_len {κ : Type} [DecidableEq κ] (kvs : List (κ × D)) (k : κ) (d : D) : (putKD kvs k d).length ≤ kvs.length + 1 := by
  unfold putKD
  split
  · rw [List.length_map]; omega
  · rw [List.length_append, List.length_cons, List.length_nil]; omega

/-! ### {k: v for ..} -/
def wDcL {κ : Type} [DecidableEq κ] (keyOf : D → Option κ) (t : TGx) (test : WBx) (kx vx : WEx) (own : List Nat) (Pend : List (κ × D) → En → Prop) : List D → List (κ × D) → En → Prop
  | [], acc, en => Pend acc en
  | d :: ds, acc, en => match t d en.ρ with
    | some ρ1 => test ⟨ρ1, en.os⟩ (fun k en2 => match k with
      | true => kx en2 (fun rk en3 => vx en3 (fun rv en4 => match rk.fz, rv.fz with
        | .sh dk, .sh dv => (match keyOf dk with
          | some kk => wDcL keyOf t test kx vx own Pend ds (putKD acc kk dv) ⟨wipeR en4.ρ own, en4.os⟩
          | none => False)
        | _, _ => False) noX) noX
      | false => wDcL keyOf t test kx vx own Pend ds acc ⟨wipeR en2.ρ own, en2.os⟩) noX
    | none => False
def wDc (wi : WIx) (t : TGx) (test : WBx) (kx vx : WEx) (own : List Nat) : WEx := fun en P PX => wi en (fun ds en1 => wDcL keyD t test kx vx own (fun acc en2 => P (.fr (.dk acc)) ⟨restR en1.ρ en2.ρ own, en2.os⟩) ds [] ⟨wipeR en1.ρ own, en1.os⟩) PX
def wDcT (wi : WIx) (t : TGx) (test : WBx) (kx vx : WEx) (own : List Nat) : WEx := fun en P PX => wi en (fun ds en1 => wDcL keysD t test kx vx own (fun acc en2 => P (.fr (.dt acc)) ⟨restR en1.ρ en2.ρ own, en2.os⟩) ds [] ⟨wipeR en1.ρ own, en1.os⟩) PX
section
variable {X : Cx} {XW : WX} {pos p apos tpos : Pos} {a b c e o tg iter elt kx vx : Expr} {es ifs : List Expr} {wa wb wc wo : WEx} {ua ub : WBx} {ws : WAx} {body : List Stmt} {w v : WSx} {wi : WIx} {t : TGx}
theorem dc_fin {K : PySem.W.Frag} {T own : List Nat} (hT : ∀ i ∈ T, i ∈ own) {σ : St} {H : Hp} {Q : VK} (h : tW K XW (wDc wi t ua wa wb own) σ H Q) :
    tDc (tI K XW wi) (gS K T t) (tWB K XW0 ua) (tW K XW0 wa) (tW K XW0 wb) own σ H Q := by
  obtain ⟨as, en, F, P, PX, es, hw, hq, hx⟩ := h
  refine ⟨as, en, F, _, _, es, hw, fun J H1 ds en1 F1 e1 s1 yl hp D hD => ?_, hx⟩
  have nas : D ∉ as := e1.notin hD
  have nF1 : ¬ F1 D := e1.notF hD
  have hD0 : H D = none := by
    rcases s1.fresh hD with z | z
    · exact z
    · exact absurd z.mem nas
  have nt : ∀ {G : Hp} {u : List (Key × V)}, G D = some (.dK u) → ∀ vs, G D ≠ some (.tup vs) := fun e vs => by rw [e]; exact fun z => nomatch z
  refine ⟨fun i m H' => m = ds.length - i ∧ i ≤ ds.length ∧ ∃ en' F' acc vacc, ES K as en' F' H' (wipe σ own) ∧ Step as en1.os F1 H1 as en'.os F' H' ∧ H' D = some (.dK vacc) ∧ RepK K F' H' acc vacc ∧ acc.length ≤ i ∧ ¬ F' D ∧
    wDcL keyD t ua wa wb own (fun acc en2 => P (.fr (.dk acc)) ⟨restR en1.ρ en2.ρ own, en2.os⟩) (ds.drop i) acc en', ⟨_, rfl, Nat.zero_le _, ⟨wipeR en1.ρ own, en1.os⟩, F1, [], [], (e1.upd_new hD).wipe own, Step.upd_new hD, upd_same, by simp [RepK], Nat.le_refl _, nF1, hp⟩, ?_⟩
  rintro i m H2 ⟨rfl, hi', en2, F2, acc, vacc, e2, s2, hD2, racc, hlen, nF2, hl⟩
  by_cases hlt : i < ds.length
  · refine .inr ⟨yl.go i as en2.os F2 H2 e2.hs s2 hlt, fun H' => i + 1 ≤ ds.length ∧ ∃ en' F' acc vacc, ES K as en' F' H' (wipe σ own) ∧ Step as en1.os F1 H1 as en'.os F' H' ∧ H' D = some (.dK vacc) ∧ RepK K F' H' acc vacc ∧ acc.length ≤ i + 1 ∧ ¬ F' D ∧
      wDcL keyD t ua wa wb own (fun acc en2 => P (.fr (.dk acc)) ⟨restR en1.ρ en2.ρ own, en2.os⟩) (ds.drop (i + 1)) acc en', fun H' n => ⟨ds.length - (i + 1), by omega, rfl, n⟩, fun x H3 y => ?_⟩
    obtain ⟨F3, e3, s3, r3⟩ := yl.yld i as en2 F2 H2 _ _ x H3 e2 s2 (List.getElem?_eq_getElem hlt) y
    obtain ⟨hD3, nF3⟩ := s3.keep hD2 nF2 nas
    have racc3 := RepK.mono (s3.mon e2.hs) _ _ racc
    rw [List.drop_eq_getElem_cons hlt] at hl
    simp only [wDcL] at hl
    split at hl
    · rename_i ρ1 ht
      have s4 := s2.trans s3
      refine ⟨as, en2, F3, _, ρ1, e3, r3, ht, fun σ' ag es' => ⟨ag.wipe hT, as, ⟨ρ1, en2.os⟩, F3, _, _, es', hl, fun k H5 en5 F5 e5 s5 hp5 => ?_, CEx.none⟩⟩
      obtain ⟨hD5, nF5⟩ := s5.keep hD3 nF3 nas
      have racc5 := RepK.mono (s5.mon es'.hs) _ _ racc3
      cases k with
      | false =>
        refine iteF ⟨hlt, ⟨wipeR en5.ρ own, en5.os⟩, F5, acc, vacc, ?_, s4.trans s5, hD5, racc5, by omega, nF5, hp5⟩
        have := e5.wipe own
        rw [ag.wipe hT] at this
        exact this
      | true =>
        refine iteT ⟨as, en5, F5, _, _, e5, hp5, fun vk H6 rk en6 F6 e6 s6 rrk hp6 => ?_, CEx.none⟩
        obtain ⟨G6, g6, t6, prk, _⟩ := wait e5 e6 Step.refl s6 rrk
        obtain ⟨hD6, nG6⟩ := t6.keep hD5 nF5 nas
        have racc6 := RepK.mono (t6.mon e5.hs) _ _ racc5
        refine ⟨as, en6, G6, _, _, g6, hp6, fun vv H7 rv en7 F7 e7 s7 rrv hp7 => ?_, CEx.none⟩
        obtain ⟨G7, g7, t7, prv, _⟩ := wait g6 e7 Step.refl s7 rrv
        obtain ⟨hD7, nG7⟩ := t7.keep hD6 nG6 nas
        have racc7 := RepK.mono (t7.mon g6.hs) _ _ racc6
        have prk7 := prk.step t7 g6.hs
        split at hp7
        · rename_i dk dv edk edv
          rw [edk] at prk7
          rw [edv] at prv
          split at hp7
          · rename_i kk hk
            have hds := yl.len
            have hl7 := racc7.length
            refine ⟨vacc, kk, keyD_rep hk (.inl prk7), hD7, by omega, hlt, ⟨wipeR en7.ρ own, en7.os⟩, G7, putKD acc kk dv, putK vacc kk vv, ?_, (((s4.trans s5).trans t6).trans t7).priv hD, upd_same, ?_, ?_, nG7, hp7⟩
            · have := (g7.priv (o := .dK (putK vacc kk vv)) nG7 (nt hD7) nas).wipe own
              rw [ag.wipe hT] at this
              exact this
            · exact RepK.mono (mon_priv nG7 (nt hD7)) _ _ (racc7.put prv)
            · have := putKD_len acc kk dv; omega
          · exact hp7.elim
        · exact hp7.elim
    · exact hl.elim
  · refine .inl ⟨yl.stop i as en2.os F2 H2 e2.hs s2 (by omega), ?_⟩
    rw [List.drop_of_length_le (by omega)] at hl
    exact hq (.ref D) H2 (.fr (.dk acc)) _ F2 (e1.rest s2 e2) (s1.trans s2) ⟨D, rfl, hD0, nas, nF2, vacc, hD2, racc⟩ hl
theorem dcT_fin {K : PySem.W.Frag} {T own : List Nat} (hT : ∀ i ∈ T, i ∈ own) {σ : St} {H : Hp} {Q : VK} (h : tW K XW (wDcT wi t ua wa wb own) σ H Q) :
    tDcT (tI K XW wi) (gS K T t) (tWB K XW0 ua) (tW K XW0 wa) (tW K XW0 wb) own σ H Q := by
  obtain ⟨as, en, F, P, PX, es, hw, hq, hx⟩ := h
  refine ⟨as, en, F, _, _, es, hw, fun J H1 ds en1 F1 e1 s1 yl hp D hD => ?_, hx⟩
  have nas : D ∉ as := e1.notin hD
  have nF1 : ¬ F1 D := e1.notF hD
  have hD0 : H D = none := by
    rcases s1.fresh hD with z | z
    · exact z
    · exact absurd z.mem nas
  have nt : ∀ {G : Hp} {u : List (List Key × V)}, G D = some (.dT u) → ∀ vs, G D ≠ some (.tup vs) := fun e vs => by rw [e]; exact fun z => nomatch z
  refine ⟨fun i m H' => m = ds.length - i ∧ i ≤ ds.length ∧ ∃ en' F' acc vacc, ES K as en' F' H' (wipe σ own) ∧ Step as en1.os F1 H1 as en'.os F' H' ∧ H' D = some (.dT vacc) ∧ RepT K F' H' acc vacc ∧ acc.length ≤ i ∧ ¬ F' D ∧
    wDcL keysD t ua wa wb own (fun acc en2 => P (.fr (.dt acc)) ⟨restR en1.ρ en2.ρ own, en2.os⟩) (ds.drop i) acc en', ⟨_, rfl, Nat.zero_le _, ⟨wipeR en1.ρ own, en1.os⟩, F1, [], [], (e1.upd_new hD).wipe own, Step.upd_new hD, upd_same, by simp [RepT], Nat.le_refl _, nF1, hp⟩, ?_⟩
  rintro i m H2 ⟨rfl, hi', en2, F2, acc, vacc, e2, s2, hD2, racc, hlen, nF2, hl⟩
  by_cases hlt : i < ds.length
  · refine .inr ⟨yl.go i as en2.os F2 H2 e2.hs s2 hlt, fun H' => i + 1 ≤ ds.length ∧ ∃ en' F' acc vacc, ES K as en' F' H' (wipe σ own) ∧ Step as en1.os F1 H1 as en'.os F' H' ∧ H' D = some (.dT vacc) ∧ RepT K F' H' acc vacc ∧ acc.length ≤ i + 1 ∧ ¬ F' D ∧
      wDcL keysD t ua wa wb own (fun acc en2 => P (.fr (.dt acc)) ⟨restR en1.ρ en2.ρ own, en2.os⟩) (ds.drop (i + 1)) acc en', fun H' n => ⟨ds.length - (i + 1), by omega, rfl, n⟩, fun x H3 y => ?_⟩
    obtain ⟨F3, e3, s3, r3⟩ := yl.yld i as en2 F2 H2 _ _ x H3 e2 s2 (List.getElem?_eq_getElem hlt) y
    obtain ⟨hD3, nF3⟩ := s3.keep hD2 nF2 nas
    have racc3 := RepT.mono (s3.mon e2.hs) _ _ racc
    rw [List.drop_eq_getElem_cons hlt] at hl
    simp only [wDcL] at hl
    split at hl
    · rename_i ρ1 ht
      have s4 := s2.trans s3
      refine ⟨as, en2, F3, _, ρ1, e3, r3, ht, fun σ' ag es' => ⟨ag.wipe hT, as, ⟨ρ1, en2.os⟩, F3, _, _, es', hl, fun k H5 en5 F5 e5 s5 hp5 => ?_, CEx.none⟩⟩
      obtain ⟨hD5, nF5⟩ := s5.keep hD3 nF3 nas
      have racc5 := RepT.mono (s5.mon es'.hs) _ _ racc3
      cases k with
      | false =>
        refine iteF ⟨hlt, ⟨wipeR en5.ρ own, en5.os⟩, F5, acc, vacc, ?_, s4.trans s5, hD5, racc5, by omega, nF5, hp5⟩
        have := e5.wipe own
        rw [ag.wipe hT] at this
        exact this
      | true =>
        refine iteT ⟨as, en5, F5, _, _, e5, hp5, fun vk H6 rk en6 F6 e6 s6 rrk hp6 => ?_, CEx.none⟩
        obtain ⟨G6, g6, t6, prk, _⟩ := wait e5 e6 Step.refl s6 rrk
        obtain ⟨hD6, nG6⟩ := t6.keep hD5 nF5 nas
        have racc6 := RepT.mono (t6.mon e5.hs) _ _ racc5
        refine ⟨as, en6, G6, _, _, g6, hp6, fun vv H7 rv en7 F7 e7 s7 rrv hp7 => ?_, CEx.none⟩
        obtain ⟨G7, g7, t7, prv, _⟩ := wait g6 e7 Step.refl s7 rrv
        obtain ⟨hD7, nG7⟩ := t7.keep hD6 nG6 nas
        have racc7 := RepT.mono (t7.mon g6.hs) _ _ racc6
        have prk7 := prk.step t7 g6.hs
        split at hp7
        · rename_i dk dv edk edv
          rw [edk] at prk7
          rw [edv] at prv
          split at hp7
          · rename_i kk hk
            have hds := yl.len
            have hl7 := racc7.length
            cases dk with
            | tup ds0 =>
              simp only [keysD] at hk
              obtain ⟨c0, vs0, rfl, hc0, _, rl0⟩ := Sees.tup (.inl prk7)
              rw [keysD_rep hk rl0] at hc0
              refine ⟨vacc, kk, c0, rfl, hc0, hD7, by omega, hlt, ⟨wipeR en7.ρ own, en7.os⟩, G7, putKD acc kk dv, putK vacc kk vv, ?_, (((s4.trans s5).trans t6).trans t7).priv hD, upd_same, ?_, ?_, nG7, hp7⟩
              · have := (g7.priv (o := .dT (putK vacc kk vv)) nG7 (nt hD7) nas).wipe own
                rw [ag.wipe hT] at this
                exact this
              · exact RepT.mono (mon_priv nG7 (nt hD7)) _ _ (racc7.put prv)
              · have := putKD_len acc kk dv; omega
            | _ => cases hk
          · exact hp7.elim
        · exact hp7.elim
    · exact hl.elim
  · refine .inl ⟨yl.stop i as en2.os F2 H2 e2.hs s2 (by omega), ?_⟩
    rw [List.drop_of_length_le (by omega)] at hl
    exact hq (.ref D) H2 (.fr (.dt acc)) _ F2 (e1.rest s2 e2) (s1.trans s2) ⟨D, rfl, hD0, nas, nF2, vacc, hD2, racc⟩ hl
theorem te_dc {T : List Nat} {scope : Scope} {own : List (Str × Nat)} (hc : X.calm = true) (hN : X.N.Nodup) (hi : PI X tg iter (tI X.K XW wi)) (ok : BlkOk X.N X.env.scope scope own)
    (hg : ∀ (s : Shared) (H : Hp) (C : Addr) (cl : List (Str × Addr)) (fp : List Addr), PG (X.blk s H scope (compEnvC scope cl C X.env) fp) tg (gS X.K T t))
    (ht : ∀ (s : Shared) (H : Hp) (C : Addr) (cl : List (Str × Addr)) (fp : List Addr), PTs (X.blk s H scope (compEnvC scope cl C X.env) fp) ifs (tWB X.K XW0 ua))
    (hk : ∀ (s : Shared) (H : Hp) (C : Addr) (cl : List (Str × Addr)) (fp : List Addr), PE (X.blk s H scope (compEnvC scope cl C X.env) fp) kx (tW X.K XW0 wa))
    (he : ∀ (s : Shared) (H : Hp) (C : Addr) (cl : List (Str × Addr)) (fp : List Addr), PE (X.blk s H scope (compEnvC scope cl C X.env) fp) vx (tW X.K XW0 wb))
    (hT : ∀ i ∈ T, i ∈ own.map (·.2) := by decide) (hs : ∀ x, foldedSetIterable iter X.env x = pure x := by intro _; rfl) :
    PE X (.DictComp kx vx [⟨tg, iter, ifs, 0⟩] scope pos) (tW X.K XW (wDc wi t ua wa wb (own.map (·.2)))) :=
  (pe_dc hc hN hi ok hg ht hk he hs).weak fun σ H Q h => dc_fin hT h
theorem te_dcT {k : Nat} {T : List Nat} {scope : Scope} {own : List (Str × Nat)} (hr : Room k X.A) (hc : X.calm = true) (hN : X.N.Nodup) (hi : PI X tg iter (tI X.K XW wi)) (ok : BlkOk X.N X.env.scope scope own)
    (hg : ∀ (s : Shared) (H : Hp) (C : Addr) (cl : List (Str × Addr)) (fp : List Addr), PG (X.blk s H scope (compEnvC scope cl C X.env) fp) tg (gS X.K T t))
    (ht : ∀ (s : Shared) (H : Hp) (C : Addr) (cl : List (Str × Addr)) (fp : List Addr), PTs (X.blk s H scope (compEnvC scope cl C X.env) fp) ifs (tWB X.K XW0 ua))
    (hk : ∀ (s : Shared) (H : Hp) (C : Addr) (cl : List (Str × Addr)) (fp : List Addr), PE (X.blk s H scope (compEnvC scope cl C X.env) fp) kx (tW X.K XW0 wa))
    (he : ∀ (s : Shared) (H : Hp) (C : Addr) (cl : List (Str × Addr)) (fp : List Addr), PE (X.blk s H scope (compEnvC scope cl C X.env) fp) vx (tW X.K XW0 wb))
    (hT : ∀ i ∈ T, i ∈ own.map (·.2) := by decide) (hs : ∀ x, foldedSetIterable iter X.env x = pure x := by intro _; rfl) :
    PE X (.DictComp kx vx [⟨tg, iter, ifs, 0⟩] scope pos) (tW X.K XW (wDcT wi t ua wa wb (own.map (·.2)))) :=
  (pe_dcT (hu_of hr) hc hN hi ok hg ht hk he hs).weak fun σ H Q h => dcT_fin hT h
end
end L2.TL

/-! text TL11 -/
set_option Elab.async false
set_option linter.all false
set_option maxRecDepth 100000
set_option maxHeartbeats 2000000
namespace L2.TL
open PySem PySem.Spec PyProof.Rows

theorem callR_inv {X : Cx} {f : Value} {r r' : List V → Hp → VK → Prop} (h : CallR X f r) (g : ∀ pins s σ H xs Q, Inv X pins σ H s → r' xs H Q → r xs H Q) : CallR X f r' :=
  fun pins s σ H xs us Q I rv q => h pins s σ H xs us Q I rv (g pins s σ H xs Q I q)
/-- len of a dict, read or locked -/
theorem call_lenK {X : Cx} : CallR X (.builtin "len") (fun xs H Q => ∃ a kvs, xs = [V.ref a] ∧ Rd H a (.dK kvs) ∧ Q (.int kvs.length) H) := by
  intro pins s σ H xs us Q I r h
  obtain ⟨a, kvs, rfl, ha, q⟩ := h
  obtain ⟨u, rfl, ru⟩ := vals1 r
  obtain rfl : u = Value.ref a := ru
  exact d_len I ha fun t s' I' => ⟨.int kvs.length, H, I', ⟨t, rfl⟩, q⟩
theorem call_lenT {X : Cx} : CallR X (.builtin "len") (fun xs H Q => ∃ a kvs, xs = [V.ref a] ∧ Rd H a (.dT kvs) ∧ Q (.int kvs.length) H) := by
  intro pins s σ H xs us Q I r h
  obtain ⟨a, kvs, rfl, ha, q⟩ := h
  obtain ⟨u, rfl, ru⟩ := vals1 r
  obtain rfl : u = Value.ref a := ru
  obtain ⟨z, hsys, ks, rel, dd⟩ := dt_rd I.hok ha
  have hl : kvs.length = ks.length := Paired.length rel
  refine call_len_dictH hsys dd (by rw [sizeLine_eq] at z; omega) ?_
  rw [← hl]
  exact ⟨.int kvs.length, H, I.tok _, ⟨_, rfl⟩, q⟩

section
variable {X : Cx} {XW : WX} {pos p apos tpos : Pos} {a b c e o tg iter elt kx vx : Expr} {es ifs : List Expr} {wa wb wc wo : WEx} {ua ub : WBx} {ws : WAx} {body : List Stmt} {w v : WSx} {wi : WIx} {t : TGx}

/-- one argument that is read -/
def o1 (f : D → (R → Prop) → Prop) : List R → WEx := fun rs en P _ => match rs with
  | [r] => (match r.val en.os with
    | some d => f d fun r => P r en
    | none => False)
  | _ => False
theorem o1_inv {K : PySem.W.Frag} {f : D → (R → Prop) → Prop} {σ : St} {H : Hp} {Q : VK} {vs : List V} (h : tP K XW vs (o1 f) σ H Q) :
    ∃ (as : List Addr) (os0 : Os) (F0 : Addr → Prop) (H0 : Hp) (en : En) (F : Addr → Prop) (v : V) (d : D) (P : R → Prop), vs = [v] ∧ ES K as en F H σ ∧ Step as os0 F0 H0 as en.os F H ∧ Sees K F H d v ∧ f d P ∧
      ∀ v H' r F', ES K as en F' H' σ → Step as os0 F0 H0 as en.os F' H' → RepR K as F' H0 H' r v → P r → Q v H' := by
  obtain ⟨as, os0, F0, H0, en, F, rs, P, PX, es, st, pr, hw, hq, hx⟩ := h
  cases pr with
  | nil => exact hw.elim
  | @cons r v rs vs rv pr =>
    cases pr with
    | cons _ _ => exact hw.elim
    | nil =>
      simp only [o1] at hw
      split at hw
      · rename_i d e1
        exact ⟨as, os0, F0, H0, en, F, v, d, fun r => P r en, rfl, es, st, rv.sees es.hs e1, hw, fun v H' r F' e' s' rr hp => hq v H' r en F' e' s' rr hp⟩
      · exact hw.elim
def o2 (f : D → D → (R → Prop) → Prop) : List R → WEx := fun rs en P _ => match rs with
  | [r, q] => (match r.val en.os, q.val en.os with
    | some d, some e => f d e fun r => P r en
    | _, _ => False)
  | _ => False
theorem o2_inv {K : PySem.W.Frag} {f : D → D → (R → Prop) → Prop} {σ : St} {H : Hp} {Q : VK} {vs : List V} (h : tP K XW vs (o2 f) σ H Q) :
    ∃ (as : List Addr) (os0 : Os) (F0 : Addr → Prop) (H0 : Hp) (en : En) (F : Addr → Prop) (v w : V) (d e : D) (P : R → Prop), vs = [v, w] ∧ ES K as en F H σ ∧ Step as os0 F0 H0 as en.os F H ∧ Sees K F H d v ∧ Sees K F H e w ∧ f d e P ∧
      ∀ v H' r F', ES K as en F' H' σ → Step as os0 F0 H0 as en.os F' H' → RepR K as F' H0 H' r v → P r → Q v H' := by
  obtain ⟨as, os0, F0, H0, en, F, rs, P, PX, es, st, pr, hw, hq, hx⟩ := h
  cases pr with
  | nil => exact hw.elim
  | @cons r v rs vs rv pr =>
    cases pr with
    | nil => exact hw.elim
    | @cons r2 v2 rs vs rv2 pr =>
      cases pr with
      | cons _ _ => exact hw.elim
      | nil =>
        simp only [o2] at hw
        split at hw
        · rename_i d e e1 e2
          exact ⟨as, os0, F0, H0, en, F, v, v2, d, e, fun r => P r en, rfl, es, st, rv.sees es.hs e1, rv2.sees es.hs e2, hw, fun v H' r F' e' s' rr hp => hq v H' r en F' e' s' rr hp⟩
        · exact hw.elim

/-! ### len -/
def fLen : D → (R → Prop) → Prop := fun d P => match d with
  | .lst xs => P (.sh (.int xs.length))
  | .tup xs => P (.sh (.int xs.length))
  | .str z => z.length ≤ sizeLine ∧ P (.sh (.int z.length))
  | .dk kvs => P (.sh (.int kvs.length))
  | .dt kvs => P (.sh (.int kvs.length))
  | _ => False
theorem te_len {x : Str} (hx : x = "len") (hg : Gl X x) (hm : X.mg x = none) (ha : PA X (e :: es) (tWA X.K XW ws)) (he : starEach (e :: es) X.env = (false, eval e X.env) :: starEach es X.env := by rfl) (hpl : (backTo pos (starEach es X.env)).any (·.1) = false := by rfl) :
    PE X (.Call (.Name x p) (e :: es) [] pos) (tW X.K XW (wF (o1 fLen) ws)) := by
  subst hx
  refine te_fn (call_len.or (call_lenK.or call_lenT)) (fun σ H Q vs h => ?_) hg hm PySem.boot_len ha (by decide) (by decide) he hpl
  obtain ⟨as, os0, F0, H0, en, F, v, d, P, rfl, es, st, sv, hf, hq⟩ := o1_inv h
  cases d with
  | lst xs =>
    obtain ⟨l, vs, rfl, hl, hz, rl⟩ := sv.lst
    refine .inl ⟨_, xs.length, rfl, .inl ⟨vs, .inl hl, rl.length.symm⟩, hq _ H _ F es st ?_ hf⟩
    simp only [RepR, Rep]
  | tup xs =>
    obtain ⟨l, vs, rfl, hl, hz, rl⟩ := sv.tup
    refine .inl ⟨_, xs.length, rfl, .inr ⟨vs, .of hl, rl.length.symm⟩, hq _ H _ F es st ?_ hf⟩
    simp only [RepR, Rep]
  | str z =>
    cases sv.str
    refine .inl ⟨_, z.length, rfl, ⟨hf.1, rfl⟩, hq _ H _ F es st ?_ hf.2⟩
    simp only [RepR, Rep]
  | dk kvs =>
    obtain ⟨l, ks, rfl, hl, rl⟩ := sv.dk
    refine .inr (.inl ⟨_, ks, rfl, hl, hq _ H (.sh (.int kvs.length)) F es st ?_ hf⟩)
    simp only [RepR, Rep, rl.length]
  | dt kvs =>
    obtain ⟨l, ks, rfl, hl, rl⟩ := sv.dt
    refine .inr (.inr ⟨_, ks, rfl, hl, hq _ H (.sh (.int kvs.length)) F es st ?_ hf⟩)
    simp only [RepR, Rep, rl.length]
  | _ => exact hf.elim

/-! ### all, any -/
def blsD : List D → Option (List Bool)
  | [] => some []
  | .bl b :: ds => (blsD ds).map (b :: ·)
  | _ :: _ => none
theorem blsD_rep {K : PySem.W.Frag} {F : Addr → Prop} {H : Hp} : ∀ {ds : List D} {bs : List Bool} {vs : List V}, blsD ds = some bs → RepL K F H ds vs → vs = bs.map V.bl
  | [], bs, vs, e, r => by
    simp only [blsD, Option.some.injEq] at e; subst e
    simp only [RepL] at r; exact r
  | d :: ds, bs, vs, e, r => by
    simp only [RepL] at r
    obtain ⟨w, ws, rfl, rw', q⟩ := r
    cases d with
    | bl b =>
      simp only [blsD] at e
      cases z : blsD ds with
      | none => rw [z] at e; cases e
      | some cs =>
        rw [z] at e; cases e
        simp only [Rep] at rw'
        rw [rw', blsD_rep z q]; rfl
    | _ => simp only [blsD] at e; cases e
def fAll (g : List Bool → Bool) : D → (R → Prop) → Prop := fun d P => match d with
  | .lst xs => (match blsD xs with
    | some bs => P (.sh (.bl (g bs)))
    | none => False)
  | _ => False
theorem all_fin {K : PySem.W.Frag} {g : List Bool → Bool} {σ : St} {H : Hp} {Q : VK} {vs : List V} (h : tP K XW vs (o1 (fAll g)) σ H Q) : ∃ (a : Addr) (bs : List Bool), vs = [V.ref a] ∧ SqL K H a (bs.map V.bl) ∧ Q (.bl (g bs)) H := by
  obtain ⟨as, os0, F0, H0, en, F, v, d, P, rfl, es, st, sv, hf, hq⟩ := o1_inv h
  cases d with
  | lst xs =>
    obtain ⟨l, vs, rfl, hl, hz, rl⟩ := sv.lst
    simp only [fAll] at hf
    split at hf
    · rename_i bs e
      refine ⟨l, bs, rfl, .inl (by rw [← blsD_rep e rl]; exact hl), hq _ H _ F es st ?_ hf⟩
      simp only [RepR, Rep]
    · exact hf.elim
  | _ => exact hf.elim
theorem te_all {x : Str} (hx : x = "all") (hc : X.calm = true) (hg : Gl X x) (hm : X.mg x = none) (ha : PA X (e :: es) (tWA X.K XW ws)) (he : starEach (e :: es) X.env = (false, eval e X.env) :: starEach es X.env := by rfl) (hpl : (backTo pos (starEach es X.env)).any (·.1) = false := by rfl) :
    PE X (.Call (.Name x p) (e :: es) [] pos) (tW X.K XW (wF (o1 (fAll fun bs => bs.all id)) ws)) := by
  subst hx
  exact te_fn (cr_all hc) (fun σ H Q vs h => all_fin h) hg hm PyProof.Rows.boot_all ha (by decide) (by decide) he hpl
theorem te_any {x : Str} (hx : x = "any") (hc : X.calm = true) (hg : Gl X x) (hm : X.mg x = none) (ha : PA X (e :: es) (tWA X.K XW ws)) (he : starEach (e :: es) X.env = (false, eval e X.env) :: starEach es X.env := by rfl) (hpl : (backTo pos (starEach es X.env)).any (·.1) = false := by rfl) :
    PE X (.Call (.Name x p) (e :: es) [] pos) (tW X.K XW (wF (o1 (fAll fun bs => bs.any id)) ws)) := by
  subst hx
  exact te_fn (cr_any hc) (fun σ H Q vs h => all_fin h) hg hm PyProof.Rows.boot_any ha (by decide) (by decide) he hpl

/-! ### int, abs, max, min -/
def fInt : D → (R → Prop) → Prop := fun d P => match d with
  | .int i => P (.sh (.int i))
  | .bl k => P (.sh (.int (if k then 1 else 0)))
  | _ => False
theorem te_toInt {x : Str} (hx : x = "int") (hg : Gl X x) (hm : X.mg x = none) (ha : PA X (e :: es) (tWA X.K XW ws)) (he : starEach (e :: es) X.env = (false, eval e X.env) :: starEach es X.env := by rfl) (hpl : (backTo pos (starEach es X.env)).any (·.1) = false := by rfl) :
    PE X (.Call (.Name x p) (e :: es) [] pos) (tW X.K XW (wF (o1 fInt) ws)) := by
  subst hx
  refine te_fnT call_int1 (fun σ H Q vs h => ?_) hg hm PyProof.Rows.boot_int ha (by decide) (by decide) he hpl
  obtain ⟨as, os0, F0, H0, en, F, v, d, P, rfl, es, st, sv, hf, hq⟩ := o1_inv h
  cases d with
  | int i =>
    cases sv.int
    exact .inl ⟨i, rfl, hq _ H (.sh (.int i)) F es st (by simp only [RepR, Rep]) hf⟩
  | bl k =>
    cases sv.bl
    exact .inr ⟨k, rfl, hq _ H (.sh (.int _)) F es st (by simp only [RepR, Rep]) hf⟩
  | _ => exact hf.elim
def fAbs : D → (R → Prop) → Prop := fun d P => match d with
  | .int i => P (.sh (.int (if i < 0 then -i else i)))
  | _ => False
theorem te_abs {x : Str} (hx : x = "abs") (hg : Gl X x) (hm : X.mg x = none) (ha : PA X (e :: es) (tWA X.K XW ws)) (he : starEach (e :: es) X.env = (false, eval e X.env) :: starEach es X.env := by rfl) (hpl : (backTo pos (starEach es X.env)).any (·.1) = false := by rfl) :
    PE X (.Call (.Name x p) (e :: es) [] pos) (tW X.K XW (wF (o1 fAbs) ws)) := by
  subst hx
  refine te_fn call_abs (fun σ H Q vs h => ?_) hg hm PyProof.Rows.boot_abs ha (by decide) (by decide) he hpl
  obtain ⟨as, os0, F0, H0, en, F, v, d, P, rfl, es, st, sv, hf, hq⟩ := o1_inv h
  cases d with
  | int i =>
    cases sv.int
    exact ⟨i, rfl, hq _ H (.sh (.int _)) F es st (by simp only [RepR, Rep]) hf⟩
  | _ => exact hf.elim
def fII (g : Int → Int → Int) : D → D → (R → Prop) → Prop := fun d e P => match d, e with
  | .int i, .int j => P (.sh (.int (g i j)))
  | _, _ => False
theorem ii_fin {K : PySem.W.Frag} {g : Int → Int → Int} {σ : St} {H : Hp} {Q : VK} {vs : List V} (h : tP K XW vs (o2 (fII g)) σ H Q) : ∃ i j, vs = [V.int i, V.int j] ∧ Q (.int (g i j)) H := by
  obtain ⟨as, os0, F0, H0, en, F, v, w, d, e, P, rfl, es, st, sv, sw, hf, hq⟩ := o2_inv h
  cases d with
  | int i =>
    cases e with
    | int j =>
      cases sv.int; cases sw.int
      exact ⟨i, j, rfl, hq _ H (.sh (.int _)) F es st (by simp only [RepR, Rep]) hf⟩
    | _ => exact hf.elim
  | _ => exact hf.elim
theorem te_max {x : Str} (hx : x = "max") (hc : X.calm = true) (hg : Gl X x) (hm : X.mg x = none) (ha : PA X (e :: es) (tWA X.K XW ws)) (he : starEach (e :: es) X.env = (false, eval e X.env) :: starEach es X.env := by rfl) (hpl : (backTo pos (starEach es X.env)).any (·.1) = false := by rfl) :
    PE X (.Call (.Name x p) (e :: es) [] pos) (tW X.K XW (wF (o2 (fII fun i j => if j > i then j else i)) ws)) := by
  subst hx
  exact te_fn (call_max2 hc) (fun σ H Q vs h => ii_fin h) hg hm PyProof.Rows.boot_max ha (by decide) (by decide) he hpl
theorem te_min {x : Str} (hx : x = "min") (hc : X.calm = true) (hg : Gl X x) (hm : X.mg x = none) (ha : PA X (e :: es) (tWA X.K XW ws)) (he : starEach (e :: es) X.env = (false, eval e X.env) :: starEach es X.env := by rfl) (hpl : (backTo pos (starEach es X.env)).any (·.1) = false := by rfl) :
    PE X (.Call (.Name x p) (e :: es) [] pos) (tW X.K XW (wF (o2 (fII fun i j => if j < i then j else i)) ws)) := by
  subst hx
  exact te_fn (call_min2 hc) (fun σ H Q vs h => ii_fin h) hg hm PyProof.Rows.boot_min ha (by decide) (by decide) he hpl

/-! ### isinstance -/
/-- an own class whose instances have the usual __class__ -/
structure InsF (K : PySem.W.Frag) (C : Addr) : Prop where
  cl : Cls K C
  ha : PySem.W.findIn K (.ref C) "__class__" = some (some (.builtin "object.__class__"))
  hn : PySem.W.specialIn K (.builtin "object.__class__") "__get__" = some (some (.builtin "getset_descriptor.__get__"))
  ht : PySem.W.takesIn K (.builtin "object.__class__") = some true
  hm : PySem.W.mroIn K C (.type "object") = some true
def insOk (K : PySem.W.Frag) : D → Prop
  | .ins C _ => InsF K C
  | .obj _ => False
  | .ty _ => False
  | .dt _ => False
  | _ => True
def tyD : D → Value
  | .non => .type "NoneType"
  | .bl _ => .type "bool"
  | .int _ => .type "int"
  | .str _ => .type "str"
  | .lst _ => .type "list"
  | .tup _ => .type "tuple"
  | .dk _ => .type "dict"
  | .dt _ => .type "dict"
  | .ins C _ => .ref C
  | .obj _ => .none
  | .ty _ => .none
theorem Sees.ty_of {K : PySem.W.Frag} {F : Addr → Prop} {H : Hp} : ∀ {d : D} {v : V}, Sees K F H d v → insOk K d → TyX K H v (tyD d)
  | .non, v, h, _ => by rw [h.non]; exact .base .non
  | .bl _, v, h, _ => by rw [h.bl]; exact .base (.bl _)
  | .int _, v, h, _ => by rw [h.int]; exact .base (.int _)
  | .str _, v, h, _ => by rw [h.str]; exact .base (.str _)
  | .lst _, v, h, _ => by
    obtain ⟨_, _, rfl, e, _⟩ := h.lst
    rcases e with e | ⟨o, e⟩
    · exact .base (.lst e)
    · exact .base (.frz e)
  | .tup _, v, h, _ => by obtain ⟨_, _, rfl, e, _⟩ := h.tup; exact .base (.tup e)
  | .dk _, v, h, _ => by
    obtain ⟨_, _, rfl, e, _⟩ := h.dk
    rcases e with e | ⟨o, e⟩
    · exact .base (.dK e)
    · exact .fDict e
  | .dt _, _, _, f => f.elim
  | .ins C _, v, h, f => by
    obtain ⟨_, _, _, rfl, e, _⟩ := h.ins
    exact .base (.ins e f.cl f.ha f.hn f.ht f.hm)
  | .obj _, _, _, f => f.elim
  | .ty _, _, _, f => f.elim
def clsD : D → Option Value
  | .ty n => some (.type n)
  | .obj C => some (.ref C)
  | _ => none
def clsL : List D → Option (List Value)
  | [] => some []
  | d :: ds => match clsD d, clsL ds with
    | some u, some us => some (u :: us)
    | _, _ => none
def isiD (K : PySem.W.Frag) (d c : D) : Option Bool := match c with
  | .tup cs => (match clsL cs with
    | some us => PySem.W.kitAny K (tyD d) us
    | none => none)
  | c => (match clsD c with
    | some u => PySem.W.kitOne K (tyD d) u
    | none => none)
def fIsi (K : PySem.W.Frag) : D → D → (R → Prop) → Prop := fun d c P => insOk K d ∧ match isiD K d c with
  | some b => P (.sh (.bl b))
  | none => False
theorem clsD_rep {K : PySem.W.Frag} {F : Addr → Prop} {H : Hp} : ∀ {d : D} {u : Value} {v : V}, clsD d = some u → Rep K F H d v → ClsV v u
  | .ty n, u, v, e, r => by
    simp only [clsD, Option.some.injEq] at e
    simp only [Rep] at r
    rw [r, ← e]; exact .ty n
  | .obj C, u, v, e, r => by
    simp only [clsD, Option.some.injEq] at e
    simp only [Rep] at r
    rw [r, ← e]; exact .own C
  | .non, _, _, e, _ => nomatch e
  | .bl _, _, _, e, _ => nomatch e
  | .int _, _, _, e, _ => nomatch e
  | .str _, _, _, e, _ => nomatch e
  | .lst _, _, _, e, _ => nomatch e
  | .tup _, _, _, e, _ => nomatch e
  | .dk _, _, _, e, _ => nomatch e
  | .dt _, _, _, e, _ => nomatch e
  | .ins _ _, _, _, e, _ => nomatch e
theorem clsL_rep {K : PySem.W.Frag} {F : Addr → Prop} {H : Hp} : ∀ {ds : List D} {us : List Value} {vs : List V}, clsL ds = some us → RepL K F H ds vs → Paired ClsV vs us
  | [], us, vs, e, r => by
    simp only [clsL, Option.some.injEq] at e; subst e
    simp only [RepL] at r; subst r; exact .nil
  | d :: ds, us, vs, e, r => by
    simp only [RepL] at r
    obtain ⟨w, ws, rfl, r1, q⟩ := r
    simp only [clsL] at e
    split at e
    · rename_i u us' e1 e2
      cases e
      exact .cons (clsD_rep e1 r1) (clsL_rep e2 q)
    · cases e
theorem isi_fin {K : PySem.W.Frag} {σ : St} {H : Hp} {Q : VK} {vs : List V} (h : tP K XW vs (o2 (fIsi K)) σ H Q) : rIsi K vs H Q ∨ rIsiT K vs H Q := by
  obtain ⟨as, os0, F0, H0, en, F, v, w, d, c, P, rfl, es, st, sv, sw, ⟨ok, hf⟩, hq⟩ := o2_inv h
  split at hf
  · rename_i b e
    have q : Q (.bl b) H := hq _ H (.sh (.bl b)) F es st (by simp only [RepR, Rep]) hf
    cases c with
    | tup cs =>
      obtain ⟨l, ws, rfl, hl, hz, rl⟩ := sw.tup
      simp only [isiD] at e
      split at e
      · rename_i us e2
        exact .inr ⟨v, l, ws, _, us, b, rfl, hl, clsL_rep e2 rl, sv.ty_of ok, e, q⟩
      · cases e
    | ty n =>
      cases sw.ty
      exact .inl ⟨v, _, _, _, b, rfl, .ty n, sv.ty_of ok, e, q⟩
    | obj C =>
      cases sw.obj
      exact .inl ⟨v, _, _, _, b, rfl, .own C, sv.ty_of ok, e, q⟩
    | _ => cases e
  · exact hf.elim
theorem te_isi {x : Str} (hx : x = "isinstance") (hg : Gl X x) (hm : X.mg x = none) (ha : PA X (e :: es) (tWA X.K XW ws)) (he : starEach (e :: es) X.env = (false, eval e X.env) :: starEach es X.env := by rfl) (hpl : (backTo pos (starEach es X.env)).any (·.1) = false := by rfl) :
    PE X (.Call (.Name x p) (e :: es) [] pos) (tW X.K XW (wF (o2 (fIsi X.K)) ws)) := by
  subst hx
  exact te_fn (call_isi.or call_isiT) (fun σ H Q vs h => isi_fin h) hg hm PyProof.Rows.boot_isinstance ha (by decide) (by decide) he hpl
/-- a built-in class by its name -/
theorem te_ty {x : Str} (T : String) (hg : Gl X x) (hm : X.mg x = none) (hv : bootBuiltins x = some (.type T)) (hn : x ≠ "__name__" := by decide) (hd : (x == ("__debug__" : Str)) = false := by decide) : PE X (.Name x pos) (tW X.K XW (wC (.ty T))) :=
  (pe_bltn (v := V.ty T) hg hm hv rfl hn hd).weak fun σ H Q h => tC_of (fun _ _ => by simp only [Rep]) h

/-! ### unary minus, 0 - x -/
def wNeg (w : WEx) : WEx := fun en P PX => w en (fun r en1 => match r with
  | .sh (.int i) => P (.sh (.int (-i))) en1
  | _ => False) PX
theorem te_neg (ha : PE X a (tW X.K XW wa)) : PE X (.UnaryOp .USub a pos) (tW X.K XW (wNeg wa)) := (pe_un un_neg ha).weak fun σ H Q h => by
  obtain ⟨as, en, F, P, PX, es, hw, hq, hx⟩ := h
  refine ⟨as, en, F, _, PX, es, hw, fun x H1 r en1 F1 e1 s1 rr hp => ?_, hx⟩
  split at hp
  · rename_i i
    simp only [RepR, Rep] at rr
    exact ⟨i, rr, hq _ H1 (.sh (.int (-i))) en1 F1 e1 s1 (by simp only [RepR, Rep]) hp⟩
  · exact hp.elim
end
end L2.TL

/-! text TL12 -/
set_option Elab.async false
set_option linter.all false
set_option maxRecDepth 100000
set_option maxHeartbeats 2000000
namespace L2.TL
open PySem PySem.Spec PyProof.Rows
section
variable {X : Cx} {XW : WX} {pos p apos tpos : Pos} {a b c e o tg iter elt kx vx : Expr} {es ifs : List Expr} {wa wb wc wo : WEx} {ua ub : WBx} {ws : WAx} {body : List Stmt} {w v : WSx} {wi : WIx} {t : TGx}
/-! ### wide ints -/
abbrev oMulW : R → R → WEx := oIc IntMulOk fun i j => .int (i * j)
abbrev oDivW : R → R → WEx := oIc CDivW fun i j => .int (i / j)
theorem op_mulA : OpR X (binaryOp .Mult) (rI IntMulOk fun i j => .int (i * j)) := opI fun _ _ _ _ _ _ _ hc q => mul_int q hc
theorem te_mulW (ha : PE X a (tW X.K XW wa)) (hb : PE X b (tW X.K XW wb)) : PE X (.BinOp a .Mult b pos) (tW X.K XW (w2 oMulW wa wb)) :=
  (pe_op op_mulA ha hb).weak fun σ H Q h => tOp_of (fun x y H2 h => oIc_fin (fun _ _ _ _ => by simp only [Rep]) h) h
theorem te_divW (ha : PE X a (tW X.K XW wa)) (hb : PE X b (tW X.K XW wb)) : PE X (.BinOp a .FloorDiv b pos) (tW X.K XW (w2 oDivW wa wb)) :=
  (pe_op op_fdivW ha hb).weak fun σ H Q h => tOp_of (fun x y H2 h => oIc_fin (fun _ _ _ _ => by simp only [Rep]) h) h

/-! ### tuple(x), list(x) -/
def kD : Key → D
  | .inl i => .int i
  | .inr x => .str x
theorem kD_rep {K : PySem.W.Frag} {F : Addr → Prop} {H : Hp} : ∀ k : Key, Rep K F H (kD k) (kV k)
  | .inl i => by simp only [kD, Rep]; rfl
  | .inr x => by simp only [kD, Rep]; rfl
theorem kDs_rep {K : PySem.W.Frag} {F : Addr → Prop} {H : Hp} : ∀ ks : List Key, RepL K F H (ks.map kD) (ks.map kV)
  | [] => by simp only [List.map_nil, RepL]
  | k :: ks => RepL.cons (kD_rep k) (kDs_rep ks)
def fTup : D → (R → Prop) → Prop := fun d P => match d with
  | .lst xs => P (.sh (.tup xs))
  | .tup xs => P (.sh (.tup xs))
  | _ => False
theorem te_toTup {x : Str} (hx : x = "tuple") (hg : Gl X x) (hm : X.mg x = none) (ha : PA X (e :: es) (tWA X.K XW ws)) (he : starEach (e :: es) X.env = (false, eval e X.env) :: starEach es X.env := by rfl) (hpl : (backTo pos (starEach es X.env)).any (·.1) = false := by rfl) :
    PE X (.Call (.Name x p) (e :: es) [] pos) (tW X.K XW (wF (o1 fTup) ws)) := by
  subst hx
  refine te_fnT call_tuple_of (fun σ H Q vs h => ?_) hg hm PyProof.Rows.boot_tuple ha (by decide) (by decide) he hpl
  obtain ⟨as, os0, F0, H0, en, F, v, d, P, rfl, es, st, sv, hf, hq⟩ := o1_inv h
  cases d with
  | lst xs =>
    obtain ⟨l, vs, rfl, hl, hz, rl⟩ := sv.lst
    refine ⟨l, vs, rfl, .inl ⟨.inl hl, fun p hp => ?_⟩⟩
    obtain ⟨q1, q2, q3⟩ := new_tup es st hp hz rl
    exact hq _ _ _ _ q1 q2 q3 hf
  | tup xs =>
    obtain ⟨l, vs, rfl, hl, hz, rl⟩ := sv.tup
    exact ⟨l, vs, rfl, .inr ⟨.of hl, hq _ H (.sh (.tup xs)) F es st (by simp only [RepR, Rep]; exact ⟨l, vs, rfl, hl, hz, rl⟩) hf⟩⟩
  | _ => exact hf.elim

/-- the keys of a dict, as data -/
def keyT (kv : List Key × D) : D := .tup (kv.1.map kD)
theorem isKeys_rep {K : PySem.W.Frag} {F : Addr → Prop} {H : Hp} : ∀ {kvs : List (List Key × D)} {ks : List (List Key × V)} {bs : List Addr}, RepT K F H kvs ks → Paired (fun p b => H b = some (.tup (p.1.map kV)) ∧ p.1.length ≤ sizeLine) ks bs → RepL K F H (kvs.map keyT) (bs.map V.ref)
  | [], ks, bs, h, q => by
    simp only [RepT] at h; subst h
    cases q; exact RepL.nil
  | (k, d) :: kvs, ks, bs, h, q => by
    simp only [RepT] at h
    obtain ⟨v, ws, rfl, r, h⟩ := h
    cases q with
    | cons q1 q2 =>
      refine RepL.cons ?_ (isKeys_rep h q2)
      simp only [keyT, Rep]
      exact ⟨_, _, rfl, q1.1, by rw [List.length_map]; exact q1.2, kDs_rep k⟩
theorem isKeys_len {X : Cx} {pins : List (Addr × Obj)} {σ : St} {H : Hp} {s : Shared} (I : Inv X pins σ H s) : ∀ {ks : List (List Key × V)} {bs : List Addr}, IsKeys H ks bs → Paired (fun p b => H b = some (.tup (p.1.map kV)) ∧ p.1.length ≤ sizeLine) ks bs
  | _, _, .nil => .nil
  | _, _, .cons h t => .cons ⟨h, by
      obtain ⟨_, _, _, z⟩ := I.tuple (.of h : SqT X.K H _ _)
      rw [List.length_map] at z; exact z⟩ (isKeys_len I t)
def fList : D → (R → Prop) → Prop := fun d P => match d with
  | .lst xs => P (.fr (.lst xs))
  | .tup xs => P (.fr (.lst xs))
  | .dk kvs => kvs.length ≤ sizeLine ∧ P (.fr (.lst (kvs.map fun kv => kD kv.1)))
  | .dt kvs => kvs.length ≤ sizeLine ∧ P (.fr (.lst (kvs.map keyT)))
  | _ => False
theorem call_list_dT2 (hc : X.calm = true) : CallR X (.type "list") (fun xs H Q => ∃ d kvs, xs = [V.ref d] ∧ Rd H d (.dT kvs) ∧ ∀ p bs, H p = none → Paired (fun (p : List Key × V) b => H b = some (.tup (p.1.map kV)) ∧ p.1.length ≤ sizeLine) kvs bs → Q (.ref p) (upd H p (.lst (bs.map V.ref)))) :=
  callR_inv (call_list_dT hc) fun pins s σ H xs Q I h => by
    obtain ⟨d, kvs, e, r, q⟩ := h
    exact ⟨d, kvs, e, r, fun p bs hp k => q p bs hp (isKeys_len I k)⟩
theorem RepK.keysV {K : PySem.W.Frag} {F : Addr → Prop} {H : Hp} : ∀ {kvs : List (Key × D)} {ks : List (Key × V)}, RepK K F H kvs ks → RepL K F H (kvs.map fun kv => kD kv.1) (ks.map fun kv => kV kv.1)
  | [], ks, h => by simp only [RepK] at h; subst h; exact RepL.nil
  | (k, d) :: kvs, ks, h => by
    simp only [RepK] at h
    obtain ⟨v, ws, rfl, r, q⟩ := h
    exact RepL.cons (kD_rep k) q.keysV
theorem te_toList {x : Str} (hx : x = "list") (hc : X.calm = true) (hg : Gl X x) (hm : X.mg x = none) (ha : PA X (e :: es) (tWA X.K XW ws)) (he : starEach (e :: es) X.env = (false, eval e X.env) :: starEach es X.env := by rfl) (hpl : (backTo pos (starEach es X.env)).any (·.1) = false := by rfl) :
    PE X (.Call (.Name x p) (e :: es) [] pos) (tW X.K XW (wF (o1 fList) ws)) := by
  subst hx
  refine te_fnT (call_list_of.or ((call_listD hc).or (call_list_dT2 hc))) (fun σ H Q vs h => ?_) hg hm PyProof.Rows.boot_list ha (by decide) (by decide) he hpl
  obtain ⟨as, os0, F0, H0, en, F, v, d, P, rfl, es, st, sv, hf, hq⟩ := o1_inv h
  cases d with
  | lst xs =>
    obtain ⟨l, vs, rfl, hl, hz, rl⟩ := sv.lst
    refine .inl ⟨l, vs, rfl, .inl (.inl hl), fun p hp => ?_⟩
    obtain ⟨q1, q2, q3⟩ := new_lst es st hp hz rl
    exact hq _ _ _ _ q1 q2 q3 hf
  | tup xs =>
    obtain ⟨l, vs, rfl, hl, hz, rl⟩ := sv.tup
    refine .inl ⟨l, vs, rfl, .inr (.of hl), fun p hp => ?_⟩
    obtain ⟨q1, q2, q3⟩ := new_lst es st hp hz rl
    exact hq _ _ _ _ q1 q2 q3 hf
  | dk kvs =>
    obtain ⟨l, ks, rfl, hl, rl⟩ := sv.dk
    refine .inr (.inl ⟨l, ks, rfl, hl, fun p hp => ?_⟩)
    obtain ⟨q1, q2, q3⟩ := new_lst es st hp (by rw [List.length_map, rl.length]; exact hf.1) rl.keysV
    exact hq _ _ _ _ q1 q2 q3 hf.2
  | dt kvs =>
    obtain ⟨l, ks, rfl, hl, rl⟩ := sv.dt
    refine .inr (.inr ⟨l, ks, rfl, hl, fun p bs hp kk => ?_⟩)
    have rr := isKeys_rep rl kk
    obtain ⟨q1, q2, q3⟩ := new_lst es st hp (by rw [rr.length, List.length_map]; exact hf.1) rr
    exact hq _ _ _ _ q1 q2 q3 hf.2
  | _ => exact hf.elim

/-! ### sorted(x): what reads as data of one kind -/
def leD (x y : D) : Bool := PySem.W.dataLe false toPy x y
abbrev sortD (ds : List D) : List D := ds.mergeSort leD
structure SortOk (ds : List D) : Prop where
  lay : ∀ d ∈ ds, (toPy d).canLay0 = true
  al : PySem.W.AllAlike (ds.map toPy)
  so : PySem.W.Sortable (ds.map toPy)
  dp : ∀ d ∈ ds, (toPy d).depth ≤ 60
  sz : ds.length ≤ sizeLine
/-- pairs of a tree and its value -/
def Prs2 (K : PySem.W.Frag) (H : Hp) (bs : List (D × V)) : Prop := ∀ b ∈ bs, Dp K H b.2 (toPy b.1)
theorem each_of {X : Cx} {pins : List (Addr × Obj)} {σ : St} {H : Hp} {s : Shared} (I : Inv X pins σ H s) : ∀ {bs : List (D × V)} {us : List Value}, Prs2 X.K H bs → Vals (bs.map (·.2)) us →
    PySem.W.EachIs (fun u b => RelV b.2 u) us bs ∧ PySem.W.EachIs (fun u b => ∃ as, Reads s.heap u (toPy b.1) as) us bs
  | [], us, _, h => by cases h; exact ⟨.nil, .nil⟩
  | b :: bs, us, d, h => by
    cases h with
    | cons r t =>
      obtain ⟨q1, q2⟩ := each_of I (fun b hb => d b (List.mem_cons_of_mem _ hb)) t
      exact ⟨.cons r q1, .cons (Dp.reads I _ _ _ (d b List.mem_cons_self) r) q2⟩
theorem vals_each {us : List Value} : ∀ {bs : List (D × V)}, PySem.W.EachIs (fun u b => RelV b.2 u) us bs → Vals (bs.map (·.2)) us := by
  intro bs h
  induction h with
  | nil => exact .nil
  | cons r t ih => exact .cons r ih
mutual
theorem reads_lt {h : Heap} : ∀ (d : PyData) (v : Value) (as : List Addr), Reads h v d as → d.canLay0 = true → ∀ a ∈ as, a < h.objs.size
  | .none, _, _, r, _ => by cases r; exact fun _ z => nomatch z
  | .bool _, _, _, r, _ => by cases r; exact fun _ z => nomatch z
  | .int _, _, _, r, _ => by cases r; exact fun _ z => nomatch z
  | .str _, _, _, r, _ => by cases r; exact fun _ z => nomatch z
  | .list xs, _, _, r, c => by
    cases r with
    | list h1 h2 h3 h4 =>
      intro a ha
      rcases List.mem_cons.mp ha with e | ha
      · rw [e]; exact Heap.lt_size h1
      · exact readsAll_lt xs _ _ h4 (by simpa only [PyData.canLay0] using c) a ha
  | .tuple xs, _, _, r, c => by
    cases r with
    | tuple h1 h2 h3 h4 => exact readsAll_lt xs _ _ h4 (by simpa only [PyData.canLay0] using c)
  | .dict _, _, _, _, c => by simp only [PyData.canLay0] at c; cases c
theorem readsAll_lt {h : Heap} : ∀ (ds : List PyData) (vs : List Value) (as : List Addr), ReadsAll h vs ds as → PyData.canLayAll0 ds = true → ∀ a ∈ as, a < h.objs.size
  | [], _, _, r, _ => by cases r; exact fun _ z => nomatch z
  | d :: ds, _, _, r, c => by
    cases r with
    | cons h1 h2 =>
      simp only [PyData.canLayAll0, Bool.and_eq_true] at c
      intro a ha
      rcases List.mem_append.mp ha with ha | ha
      · exact reads_lt d _ _ h1 c.1 a ha
      · exact readsAll_lt ds _ _ h2 c.2 a ha
end
/-- the second half of sorted: a new list of the items is sorted -/
theorem sort_tail {X : Cx} {pins : List (Addr × Obj)} {σ : St} {H : Hp} {s : Shared} (I : Inv X pins σ H s) (hu : X.A.units + 64 < cLine) {bs : List (D × V)} {us : List Value} (ok : SortOk (bs.map (·.1))) (pr : Prs2 X.K H bs) (rv : Vals (bs.map (·.2)) us) {Q : VK}
    (q : ∀ p, H p = none → Q (.ref p) (upd H p (.lst ((bs.mergeSort (PySem.W.dataLe false fun b => toPy b.1)).map (·.2))))) :
    wpAny (model X.prog X.w) X.A.in1 (call (.builtin "list.sort") [.ref s.heap.objs.size]) (fun _ s' => EP X pins σ Q (.ref s.heap.objs.size) s') X.xe { s with heap := s.heap.push { cls := .type "list", data := .seq us.toArray } } := by
  have hl : us.length = bs.length := by rw [← rv.length, List.length_map]
  have hoL : (s.heap.push (seqObj "list" us.toArray 0)).get? s.heap.objs.size = some (seqObj "list" us.toArray 0) := Heap.get?_push_size _ rfl
  obtain ⟨e1, e2⟩ := each_of I pr rv
  have e3 : PySem.W.EachIs (fun u b => ∃ as, Reads (s.heap.push (seqObj "list" us.toArray 0)) u (toPy b.1) as ∧ s.heap.objs.size ∉ as) us bs := by
    have : PySem.W.EachIs (fun u b => (∃ as, Reads s.heap u (toPy b.1) as) ∧ b ∈ bs) us bs := PySem.W.each_mem e2
    refine this.mono fun u b ⟨⟨as, r⟩, hb⟩ => ⟨as, PyProof.Rows.Reads.keeps (fun _ _ e => Heap.get?_push_of_some _ e) r, fun z => ?_⟩
    exact Nat.lt_irrefl _ (reads_lt _ _ _ r (ok.lay _ (List.mem_map.mpr ⟨b, hb, rfl⟩)) _ z)
  have em : (bs.map fun b => toPy b.1) = (bs.map (·.1)).map toPy := by rw [List.map_map]; rfl
  have hz : bs.length ≤ sizeLine := by have := ok.sz; rwa [List.length_map] at this
  refine PySem.W.list_sort_data (n := 0) (enc := fun b : D × V => toPy b.1) hoL e1 e3 (by rw [em]; exact ok.al) (by rw [em]; exact ok.so) hz (fun b hb => ?_) fun out ho eo => ?_
  · have := ok.dp b.1 (List.mem_map.mpr ⟨b, hb, rfl⟩)
    show X.A.units + 1 + 1 + _ < cLine
    omega
  · obtain ⟨ep, he'⟩ := PyProof.Rows.sortedHeap_at (vs := us) (out := out.toArray) hoL
    refine ⟨.ref s.heap.objs.size, _, I.laid (t' := s.toks) (o := .lst ((bs.mergeSort (PySem.W.dataLe false fun b => toPy b.1)).map (·.2))) (fun b u e => ?_) (Nat.le_refl _) ⟨?_, out, ep, vals_each eo, he'⟩, rfl, q _ (I.hok.fresh (Nat.le_refl _))⟩
    · have hb : b < s.heap.objs.size := Heap.lt_size e
      rw [PyProof.Rows.sortedHeap_old (Nat.ne_of_lt hb) (by rw [size_push']; exact Nat.lt_succ_of_lt hb)]
      exact Heap.get?_push_of_some _ e
    · rw [List.length_map, List.length_mergeSort]; exact hz
end
end L2.TL

/-! text TL13 -/
set_option Elab.async false
set_option linter.all false
set_option maxRecDepth 100000
set_option maxHeartbeats 2000000
namespace L2.TL
open PySem PySem.Spec PyProof.Rows
section
variable {X : Cx} {XW : WX} {pos p apos tpos : Pos} {a b c e o tg iter elt kx vx : Expr} {es ifs : List Expr} {wa wb wc wo : WEx} {ua ub : WBx} {ws : WAx} {body : List Stmt} {w v : WSx} {wi : WIx} {t : TGx}
abbrev sortV (bs : List (D × V)) : List V := (bs.mergeSort (PySem.W.dataLe false fun b => toPy b.1)).map (·.2)
theorem call_sortL (hu : X.A.units + 64 < cLine) : CallR X (.builtin "sorted") (fun xs H Q => ∃ (a : Addr) (bs : List (D × V)), xs = [V.ref a] ∧ SqL X.K H a (bs.map (·.2)) ∧ SortOk (bs.map (·.1)) ∧ Prs2 X.K H bs ∧ ∀ p, H p = none → Q (.ref p) (upd H p (.lst (sortV bs)))) := by
  intro pins s σ H xs us Q I r h
  obtain ⟨a, bs, rfl, hs, ok, pr, q⟩ := h
  rw [Vals.ref1 r]
  obtain ⟨its, rv, hl, hz⟩ := I.list hs
  obtain ⟨e1, e2⟩ := each_of I pr rv
  have em : (bs.map fun b => toPy b.1) = (bs.map (·.1)).map toPy := by rw [List.map_map]; rfl
  have hz' : bs.length ≤ sizeLine := by have := ok.sz; rwa [List.length_map] at this
  refine PySem.W.sorted_data (enc := fun b : D × V => toPy b.1) hl.isList e1 e2 (by rw [em]; exact ok.al) (by rw [em]; exact ok.so) hz' (fun b hb => ?_) fun out ho eo => ?_
  · have := ok.dp b.1 (List.mem_map.mpr ⟨b, hb, rfl⟩)
    show X.A.units + 2 + _ < cLine
    omega
  · obtain ⟨ep, he'⟩ := PyProof.Rows.sortedAll_at s.heap its out.toArray
    refine ⟨.ref _, _, I.laid (t' := s.toks) (a := s.heap.objs.size + 1) (o := .lst (sortV bs)) (fun _ _ => PyProof.Rows.sortedAll_old) (Nat.le_succ _) ⟨?_, out, ep, vals_each eo, he'⟩, rfl, q _ (I.hok.fresh (Nat.le_succ _))⟩
    rw [List.length_map, List.length_mergeSort]; exact hz'
theorem call_sortK (hc : X.calm = true) (hu : X.A.units + 64 < cLine) : CallR X (.builtin "sorted") (fun xs H Q => ∃ (a : Addr) (kvs : List (Key × V)), xs = [V.ref a] ∧ Rd H a (.dK kvs) ∧ SortOk (kvs.map fun kv => kD kv.1) ∧
    ∀ p, H p = none → Q (.ref p) (upd H p (.lst (sortV (kvs.map fun kv => (kD kv.1, kV kv.1)))))) := by
  intro pins s σ H xs us Q I r h
  obtain ⟨a, kvs, rfl, hd, ok, q⟩ := h
  rw [Vals.ref1 r]
  obtain ⟨z, lo, vs, rel, dd⟩ := dk_rd I.hok hd
  obtain ⟨ep, hat⟩ := dd.dictAt
  have hl : kvs.length = vs.length := rel.length
  refine Calls.call_function_entry PyProof.Rows.kind_sorted PyProof.Rows.plain_sorted PyProof.Rows.entry_sorted (PyProof.Rows.args_sorted1 _) ?_
  unfold Builtin.«sorted»
  refine wpAny_bind (m := checkCount "sorted" 1 1 _) (wpAny_pure ?_)
  refine wpAny_bind (PySem.W.kdu_collect (A := X.A.in1) (PySem.W.kdl_dict (knd := mixKind X.prog X.w) (kvs := vs) (ep := ep) lo) (I.ok.hd hc) hat (by rw [← hl]; exact z) fun h' tk acc hk hacc => ?_)
  have I1 : Inv X pins σ H { s with heap := h', toks := tk } := I.kept hk
  have hv : Vals (vs.map fun p => kV p.1) acc.toList := keys_at (by rw [Array.length_toList]; exact hacc.1) fun j v e => hacc.2 j v (by rw [← Array.getElem?_toList]; exact e)
  have ek : (kvs.map fun kv => kV kv.1) = vs.map fun p => kV p.1 := by
    have e := congrArg (List.map kV) rel.keys
    rw [List.map_map, List.map_map] at e
    exact e
  have e1 : (kvs.map fun kv => (kD kv.1, kV kv.1)).map (·.1) = kvs.map fun kv => kD kv.1 := by rw [List.map_map]; rfl
  have e2 : (kvs.map fun kv => (kD kv.1, kV kv.1)).map (·.2) = vs.map fun p => kV p.1 := by rw [← ek, List.map_map]; rfl
  have pr : Prs2 X.K H (kvs.map fun kv => (kD kv.1, kV kv.1)) := fun b hb => by
    obtain ⟨kv, _, rfl⟩ := List.mem_map.mp hb
    obtain ⟨k, v⟩ := kv
    cases k with
    | inl i => exact .int i
    | inr x => exact .str x
  refine wpAny_bind (wpAny_newList ?_ (by rw [← hv.length, List.length_map, ← hl]; exact z))
  refine wpAny_bind (wpAny_holding (wpAny_mono (sort_tail I1 hu (by rw [e1]; exact ok) pr (by rw [e2]; exact hv) q) (fun v s' x => ?_) fun _ _ x => x))
  exact wpAny_pure ⟨_, rfl, x⟩
theorem call_sortT (hc : X.calm = true) (hu : X.A.units + 64 < cLine) : CallR X (.builtin "sorted") (fun xs H Q => ∃ (a : Addr) (kvs : List (List Key × V)), xs = [V.ref a] ∧ Rd H a (.dT kvs) ∧ SortOk (kvs.map fun kv => .tup (kv.1.map kD)) ∧
    ∀ p bs, H p = none → bs.map (·.1) = (kvs.map fun kv => D.tup (kv.1.map kD)) → (∀ b ∈ bs, ∃ (k : List Key) (a : Addr), b.1 = .tup (k.map kD) ∧ b.2 = .ref a ∧ H a = some (.tup (k.map kV)) ∧ k.length ≤ sizeLine) → Q (.ref p) (upd H p (.lst (sortV bs)))) := by
  intro pins s σ H xs us Q I r h
  obtain ⟨d, kvs, rfl, hd, ok, q⟩ := h
  rw [Vals.ref1 r]
  obtain ⟨z, hs, ks, pr, o, es, ep, ho, hx, hdt, he, hn⟩ := (show ObjOk X.prog X.w H s.heap d (.dT kvs) from hd.ok I.hok)
  have l1 : es.size = ks.length := size_of_entries he
  have l2 : kvs.length = ks.length := Paired.length pr
  refine Calls.call_function_entry PyProof.Rows.kind_sorted PyProof.Rows.plain_sorted PyProof.Rows.entry_sorted (PyProof.Rows.args_sorted1 _) ?_
  unfold Builtin.«sorted»
  refine wpAny_bind (m := checkCount "sorted" 1 1 _) (wpAny_pure ?_)
  refine wpAny_bind (PySem.W.kdu_collect (A := X.A.in1) (kdl_raw hs hx hdt) (I.ok.hd hc) ho (by omega) fun h' tk acc hk it => ?_)
  have I1 : Inv X pins σ H { s with heap := h', toks := tk } := I.kept hk
  have ea : acc.toList = ks.map fun x => Value.ref x.2.1 := by
    have hl : acc.toList.length = ks.length := by rw [Array.length_toList, it.1]; exact l1
    refine List.ext_getElem? fun j => ?_
    rw [List.getElem?_map]
    cases hj : acc.toList[j]? with
    | none =>
      rw [List.getElem?_eq_none (by rw [← hl]; exact List.getElem?_eq_none_iff.mp hj)]; rfl
    | some v =>
      obtain ⟨en, hen, hv⟩ := it.2 j v (by rw [← Array.getElem?_toList]; exact hj)
      have qe := entry_at he j
      rw [hen] at qe
      cases hb : ks[j]? with
      | none => rw [hb] at qe; cases qe
      | some b =>
        rw [hb] at qe
        rw [hv, (Option.some.inj qe : en = _)]; rfl
  have kk := isKeys_len I (isKeys_of pr)
  have lk := Paired.length kk
  have e1 : ((kvs.map fun kv => D.tup (kv.1.map kD)).zip ((ks.map fun x => x.2.1).map V.ref)).map (·.1) = kvs.map fun kv => D.tup (kv.1.map kD) := by
    rw [List.map_fst_zip]; rw [List.length_map, List.length_map, List.length_map]; omega
  have e2 : ((kvs.map fun kv => D.tup (kv.1.map kD)).zip ((ks.map fun x => x.2.1).map V.ref)).map (·.2) = (ks.map fun x => x.2.1).map V.ref := by
    rw [List.map_snd_zip]; rw [List.length_map, List.length_map, List.length_map]; omega
  have each : ∀ (kvs : List (List Key × V)) (bs : List Addr), Paired (fun (p : List Key × V) b => H b = some (.tup (p.1.map kV)) ∧ p.1.length ≤ sizeLine) kvs bs → ∀ b ∈ (kvs.map fun kv => D.tup (kv.1.map kD)).zip (bs.map V.ref),
      ∃ (k : List Key) (a : Addr), b.1 = .tup (k.map kD) ∧ b.2 = .ref a ∧ H a = some (.tup (k.map kV)) ∧ k.length ≤ sizeLine := by
    intro kvs bs k
    induction k with
    | nil => exact fun _ z => nomatch z
    | cons h t ih =>
      intro b hb
      rcases List.mem_cons.mp hb with rfl | hb
      · exact ⟨_, _, rfl, rfl, h.1, h.2⟩
      · exact ih b hb
  have all := each _ _ kk
  refine wpAny_bind (wpAny_newList ?_ (by rw [ea, List.length_map]; omega))
  refine wpAny_bind (wpAny_holding (wpAny_mono (sort_tail (bs := (kvs.map fun kv => D.tup (kv.1.map kD)).zip ((ks.map fun x => x.2.1).map V.ref)) I1 hu (by rw [e1]; exact ok) (fun b hb => ?_) (by rw [e2, ea]; have := vals_refs (ks.map fun x => x.2.1); rwa [List.map_map (f := fun x : List Key × Addr × Value => x.2.1) (g := Value.ref)] at this) fun p hp => q p _ hp e1 all) (fun v s' x => ?_) fun _ _ x => x))
  · obtain ⟨k, a, e3, e4, e5, e6⟩ := all b hb
    rw [e3, e4]
    have rr : Rep X.K (fun _ => True) H (.tup (k.map kD)) (.ref a) := by
      simp only [Rep]
      exact ⟨a, _, rfl, e5, by rw [List.length_map]; exact e6, kDs_rep k⟩
    exact Rep.dp _ _ rr (by rw [← e3]; exact ok.lay _ (by rw [← e1]; exact List.mem_map.mpr ⟨b, hb, rfl⟩))
  · exact wpAny_pure ⟨_, rfl, x⟩
theorem RepK.keys {K : PySem.W.Frag} {F : Addr → Prop} {H : Hp} : ∀ {kvs : List (Key × D)} {ks : List (Key × V)}, RepK K F H kvs ks → ks.map (·.1) = kvs.map (·.1)
  | [], ks, h => by simp only [RepK] at h; subst h; rfl
  | (k, d) :: kvs, ks, h => by
    simp only [RepK] at h
    obtain ⟨v, ws, rfl, r, q⟩ := h
    rw [List.map_cons, List.map_cons, q.keys]
def fSort : D → (R → Prop) → Prop := fun d P => match d with
  | .lst xs => SortOk xs ∧ P (.fr (.lst (sortD xs)))
  | .dk kvs => SortOk (kvs.map fun kv => kD kv.1) ∧ P (.fr (.lst (sortD (kvs.map fun kv => kD kv.1))))
  | .dt kvs => SortOk (kvs.map keyT) ∧ P (.fr (.lst (sortD (kvs.map keyT))))
  | _ => False
theorem sort_map (bs : List (D × V)) : (bs.mergeSort (PySem.W.dataLe false fun b => toPy b.1)).map (·.1) = sortD (bs.map (·.1)) :=
  List.map_mergeSort fun a _ b _ => rfl
theorem repL_of_mem {K : PySem.W.Frag} {F : Addr → Prop} {H : Hp} : ∀ {bs : List (D × V)}, (∀ b ∈ bs, Rep K F H b.1 b.2) → RepL K F H (bs.map (·.1)) (bs.map (·.2))
  | [], _ => RepL.nil
  | b :: bs, h => RepL.cons (h b List.mem_cons_self) (repL_of_mem fun b hb => h b (List.mem_cons_of_mem _ hb))
theorem mem_of_repL {K : PySem.W.Frag} {F : Addr → Prop} {H : Hp} : ∀ {ds : List D} {vs : List V}, RepL K F H ds vs → ∀ b ∈ ds.zip vs, Rep K F H b.1 b.2
  | [], vs, _, b, hb => nomatch hb
  | d :: ds, vs, h, b, hb => by
    simp only [RepL] at h
    obtain ⟨w, ws, rfl, r, q⟩ := h
    rcases List.mem_cons.mp hb with rfl | hb
    · exact r
    · exact mem_of_repL q b hb
theorem te_sorted {k : Nat} {x : Str} (hx : x = "sorted") (hr : Room k X.A) (hc : X.calm = true) (hg : Gl X x) (hm : X.mg x = none) (ha : PA X (e :: es) (tWA X.K XW ws)) (he : starEach (e :: es) X.env = (false, eval e X.env) :: starEach es X.env := by rfl) (hpl : (backTo pos (starEach es X.env)).any (·.1) = false := by rfl) :
    PE X (.Call (.Name x p) (e :: es) [] pos) (tW X.K XW (wF (o1 fSort) ws)) := by
  subst hx
  refine te_fn ((call_sortL hr.units).or ((call_sortK hc hr.units).or (call_sortT hc hr.units))) (fun σ H Q vs h => ?_) hg hm PyProof.Rows.boot_sorted ha (by decide) (by decide) he hpl
  obtain ⟨as, os0, F0, H0, en, F, v, d, P, rfl, es, st, sv, hf, hq⟩ := o1_inv h
  have fin : ∀ (bs : List (D × V)) (ds : List D), bs.map (·.1) = ds → SortOk ds → (∀ b ∈ bs, Rep X.K F H b.1 b.2) → P (.fr (.lst (sortD ds))) → ∀ p, H p = none → Q (.ref p) (upd H p (.lst (sortV bs))) := fun bs ds e ok hb hp p h0 => by
    subst e
    have r2 := repL_of_mem (bs := bs.mergeSort (PySem.W.dataLe false fun b => toPy b.1)) fun b hm => hb b (List.mem_mergeSort.mp hm)
    rw [sort_map] at r2
    obtain ⟨q1, q2, q3⟩ := new_lst es st h0 (by rw [List.length_map, List.length_mergeSort]; have := ok.sz; rwa [List.length_map] at this) r2
    exact hq _ _ _ _ q1 q2 q3 hp
  cases d with
  | lst xs =>
    obtain ⟨l, vs, rfl, hl, hz, rl⟩ := sv.lst
    have e1 : (xs.zip vs).map (·.1) = xs := List.map_fst_zip (by rw [rl.length]; exact Nat.le_refl _)
    have e2 : (xs.zip vs).map (·.2) = vs := List.map_snd_zip (by rw [rl.length]; exact Nat.le_refl _)
    exact .inl ⟨l, xs.zip vs, rfl, .inl (by rw [e2]; exact hl), by rw [e1]; exact hf.1, fun b hb => Rep.dp _ _ (mem_of_repL rl b hb) (hf.1.lay _ (by rw [← e1]; exact List.mem_map.mpr ⟨b, hb, rfl⟩)), fin _ _ e1 hf.1 (mem_of_repL rl) hf.2⟩
  | dk kvs =>
    obtain ⟨l, ks, rfl, hl, rl⟩ := sv.dk
    have ek : (ks.map fun kv => kD kv.1) = kvs.map fun kv => kD kv.1 := by
      have := congrArg (List.map kD) rl.keys
      rw [List.map_map, List.map_map] at this
      exact this
    refine .inr (.inl ⟨l, ks, rfl, hl, by rw [ek]; exact hf.1, fin _ _ (by rw [← ek, List.map_map]; rfl) hf.1 (fun b hb => ?_) hf.2⟩)
    obtain ⟨kv, _, rfl⟩ := List.mem_map.mp hb
    exact kD_rep kv.1
  | dt kvs =>
    obtain ⟨l, ks, rfl, hl, rl⟩ := sv.dt
    have ek : (ks.map fun kv => D.tup (kv.1.map kD)) = kvs.map keyT := by
      have := congrArg (List.map fun k => D.tup (List.map kD k)) rl.keys
      rw [List.map_map, List.map_map] at this
      exact this
    refine .inr (.inr ⟨l, ks, rfl, hl, by rw [ek]; exact hf.1, fun p bs h0 eb hb => fin bs _ (eb.trans ek) hf.1 (fun b hm => ?_) hf.2 p h0⟩)
    obtain ⟨k, a, e3, e4, e5, e6⟩ := hb b hm
    rw [e3, e4]
    simp only [Rep]
    exact ⟨a, _, rfl, e5, by rw [List.length_map]; exact e6, kDs_rep k⟩
  | _ => exact hf.elim
end
end L2.TL

/-! text TL14 -/
set_option Elab.async false
set_option linter.all false
set_option maxRecDepth 100000
set_option maxHeartbeats 2000000
namespace L2.TL
open PySem PySem.Spec PyProof.Rows

/-! ### enumerate of a tuple -/
set_option maxHeartbeats 2000000 in
theorem meets_enum1 {v : Value} {o : Obj} {G : Heap → Prop} (B : Begins v o G) :
    Meets (Builtin.«enumerate.__new__» ⟨[.type "enumerate", v], []⟩) (fun _ R s => G s.heap ∧
      R (.ok (.ret (.ref (s.heap.push o).objs.size))) { s with heap := (s.heap.push o).push { cls := .type "enumerate", data := .fields #[.none, .bool false, .ref s.heap.objs.size, rawInt 0, .none, .none] } }) :=
  .of_wp fun prog w A R s h => by
    obtain ⟨hp, g, d, tk, os⟩ := s
    obtain ⟨h1, h⟩ := h
    have hsub := sub_enumerate
    have q1 : ∀ {A' : Around} {E : Value → Shared → Prop} {Q : Value → Shared → Prop}, Q (.ref hp.objs.size) ⟨hp.push o, g, d, tk, os⟩ → wpAny (model prog w) A' (pyIter v) Q E ⟨hp, g, d, tk, os⟩ :=
      fun q => B.iter prog w _ _ ⟨hp, g, d, tk, os⟩ _ h1 q
    wp_walk using q1
    refine wpAny_stack_any fun st => wpAny_pure ?_
    split
    · rename_i c _ _ _ _ _
      cases (c == Value.type "enumerate")
      all_goals
        wp_walk using q1
        exact ⟨_, rfl, h⟩
    · wp_walk using q1
      exact ⟨_, rfl, h⟩
theorem enum_begins1 {prog : Program} {w : World} {A : Around} {E : Value → Shared → Prop} {s : Shared} {v : Value} {o : Obj} {G : Heap → Prop} {Q : Value → Shared → Prop} (B : Begins v o G) (h1 : G s.heap)
    (h : ∀ h', IsEnum h' (s.heap.objs.size + 1) s.heap.objs.size 0 .none → h'.get? s.heap.objs.size = some o → (∀ b o, s.heap.get? b = some o → h'.get? b = some o) → Q (.ref (s.heap.objs.size + 1)) { s with heap := h' }) :
    wpAny (model prog w) A (call (.type "enumerate") [v]) Q E s := by
  refine callType_new F.called_enumerate (by decide) (F.typeCall_enumerate_1 _) (F.newCall_enumerate_1 _) (fun obj => F.args_object_init_2 obj _) F.entry_enumerate_new (meets_enum1 B) ⟨h1, ?_⟩
  have hz : (s.heap.push o).objs.size = s.heap.objs.size + 1 := Heap.size_push ..
  show _ ∧ _
  rw [hz]
  have he := Heap.get?_push_size (s.heap.push o) (o := { cls := .type "enumerate", data := .fields #[.none, .bool false, .ref s.heap.objs.size, rawInt 0, .none, .none] }) rfl
  rw [hz] at he
  exact ⟨⟨_, he, rfl⟩, h _ he (Heap.get?_push_of_some _ (Heap.get?_push_size _ B.free)) fun b o x => Heap.get?_push_of_some _ (Heap.get?_push_of_some _ x)⟩

theorem next_enumT_end {prog : Program} {w : World} {A : Around} {E : Value → Shared → Prop} {s : Shared} {e it a : Addr} {i : Nat} {its : Array Value} {c : Int} {old : Value} {Q : Option Value → Shared → Prop} (hh : A.handled = none)
    (he : IsEnum s.heap e it c old) (hit : s.heap.IsTupleIter it a i) (ht : s.heap.IsTuple a its) (hx : its[i]? = none) (hQ : ∀ h', Heap.ExtBut it s.heap h' → Q none { s with heap := h' }) : wpAny (model prog w) A (pyNext (.ref e)) Q E s := by
  have ty : s.TypeIs (.ref e) "enumerate" := ⟨_, he, rfl⟩
  unfold pyNext
  refine wpAny_bind (wpAny_attempt (wpAny_callSpecial?_slot (name := Str.ofString "__next__") ty F.slot_enumerate_next (wpAny_call_entry F.slot_enumerate_next ty F.entry_enumerate_next ?_ (F.args_enumerate_next_1 _))))
  show wpAny _ _ (field (Value.ref e) 2 >>= _) _ _ s
  refine wpAny_bind (wpAny_field he rfl (x := Value.ref it) rfl ?_)
  refine wpAny_bind (wpAny_nextOf_tuple_end hh hit ht hx fun h' x he' ⟨o, ho, hc⟩ => ?_)
  exact wpAny_bind (wpAny_isInstance (T := "StopIteration") (b := true) ⟨o, ho, hc⟩ isSubtype_stop (wpAny_pure (hQ _ he')))
/-- the tuple at a, each item in a new pair with its number -/
def IteT (K : PySem.W.Frag) (a : Addr) : It :=
  ⟨fun i H => ∃ (xs : List V) (x : V), SqT K H a xs ∧ xs[i]? = some x, fun i H v H' => ∃ T x, v = .ref T ∧ H T = none ∧ H' = upd H T (.tup [.int (i : Nat), x]) ∧ ∀ xs, SqT K H a xs → xs[i]? = some x, fun i H => ∃ xs : List V, SqT K H a xs ∧ xs.length ≤ i⟩
theorem turn_enumT {P : Program} {w : World} {K : PySem.W.Frag} {elts : List Expr} {kk : Nat} {tpos : Pos} (a e it : Addr) (hai : a ≠ it) :
    Turn P w K (.Tuple elts kk tpos) (IteT K a) [e, it] e (fun i h => (∃ old, IsEnum h e it ((i : Nat) : Int) old) ∧ h.IsTupleIter it a i ∧ e ≠ it) where
  mem := by simp
  obj := fun i h st b hb => by
    obtain ⟨⟨old, he⟩, ⟨o, ho, hc, hd⟩, _⟩ := st
    have e' : b = e ∨ b = it := by simpa using hb
    rcases e' with z | z
    · rw [z]; exact ⟨_, he, fun v q => nomatch q⟩
    · rw [z]; exact ⟨o, ho, fun v q => by rw [hd] at q; cases q⟩
  keep := fun i h h' st k => let ⟨⟨old, he⟩, hi, hne⟩ := st; ⟨⟨old, k e (by simp) _ he⟩, hi.at fun o q => k it (by simp) o q, hne⟩
  item := by
    intro X hP hw hK hc i pins s σ H E I hf st hg
    subst hP hw hK
    obtain ⟨⟨old, he⟩, hit, hne⟩ := st
    obtain ⟨xs, x, hq, hx⟩ := hg
    obtain ⟨its, rv, p, hz⟩ := I.tuple hq
    obtain ⟨u, hu, ru⟩ := rv.get hx
    have hel : e < s.heap.objs.size := Heap.lt_size he
    have hil : it < s.heap.objs.size := by obtain ⟨_, q, _⟩ := hit; exact Heap.lt_size q
    have hlt : i < its.toArray.size := by rw [List.size_toArray]; exact (List.getElem?_eq_some_iff.mp hu).1
    have hea : e ≠ a := fun z => by
      subst z
      obtain ⟨o2, ho2, hc2, _⟩ := (show s.heap.IsTuple e its.toArray from p)
      rw [show s.heap.get? e = some _ from he] at ho2
      cases ho2
      have hc3 : Value.type "enumerate" = Value.type "tuple" := hc2
      injection hc3 with hc3
      exact absurd hc3 (by decide)
    refine wpAny_pyNext_enum_itemD (Draws.tuple (A := X.A.in1) (I.ok.hd hc) it a hai its.toArray) he ⟨hit, p⟩ hlt hne (by simp [hne, hea]) fun y h' tk hy ho st' hT hsz hk => ?_
    have ey : y = u := by
      have : its.toArray[i]? = some u := by simpa using hu
      rw [this] at hy; exact (Option.some.inj hy).symm
    subst ey
    refine ⟨_, rfl, wpAny_letOwnedTupleGo_enum (s := { s with heap := h', toks := tk + 1 }) ho fun h'' he' sb => ?_⟩
    have hT2 : h''.get? s.heap.objs.size = some { cls := .type "tuple", data := .seq #[.int i tk, y] } := (sb.2 _ (Nat.ne_of_gt hel)).trans hT
    have new : ObjOk X.prog X.w (upd H s.heap.objs.size (.tup [.int (i : Nat), x])) h'' s.heap.objs.size (.tup [.int (i : Nat), x]) :=
      ⟨by show 2 ≤ sizeLine; decide, [.int i tk, y], .cons ⟨_, rfl⟩ (.cons ru .nil), ⟨_, hT2, rfl, _, rfl⟩⟩
    have I1 : Inv X pins σ (upd H s.heap.objs.size (.tup [.int (i : Nat), x])) { s with heap := h'', toks := tk + 1 } :=
      I.turnedNew (ch := [e, it]) (fun b ob hb q => (sb.2 b (fun z => hb (by simp [z]))).trans (hk b ob (fun z => hb (by simp [z])) (fun z => hb (by simp [z])) q)) hf (Nat.le_refl _) new
    refine ⟨.ref s.heap.objs.size, _, I1, rfl, ⟨_, x, rfl, I.hok.fresh (Nat.le_refl _), rfl, fun ys hy => by rw [I.tuple_inj hy hq]; exact hx⟩, ⟨⟨y, ?_⟩, st'.1.at fun o q => (sb.2 it (Ne.symm hne)).trans q, hne⟩, fun b hb => ?_⟩
    · have e1 : ((i + 1 : Nat) : Int) = (i : Int) + 1 := by omega
      rw [e1]; exact he'
    · have hb' : b < s.heap.objs.size := by
        have e' : b = e ∨ b = it := by simpa using hb
        rcases e' with z | z
        · rw [z]; exact hel
        · rw [z]; exact hil
      rw [upd_ne (Nat.ne_of_lt hb')]
      exact (hf b hb).1
  done := by
    intro X hP hw hK hc i pins s σ H E I hf st hg
    subst hP hw hK
    obtain ⟨⟨old, he⟩, hit, hne⟩ := st
    obtain ⟨xs, hq, hx⟩ := hg
    obtain ⟨its, rv, p, hz⟩ := I.tuple hq
    obtain ⟨f0, f1, f2, f3, f4, f5⟩ := hf it (by simp)
    have hl := rv.length
    have hnx : its.toArray[i]? = none := by simp; omega
    exact next_enumT_end (I.ok.hd hc) he hit p hnx fun h' eb => ⟨rfl, I.turned (t' := s.toks) (fun b o hb q => eb b o hb q) f0 f1 f3 f4 f5⟩
  self := fun A i s Q E st h => let ⟨⟨_, he⟩, _⟩ := st; wpAny_pyIter_enum he h
section
variable {X : Cx} {XW : WX} {pos p apos tpos cpos : Pos} {a b c e e2 o tg iter elt kx vx : Expr} {es ifs elts : List Expr} {kk : Nat} {wa wb wc wo : WEx} {ua ub : WBx} {ws : WAx} {body : List Stmt} {w v : WSx} {wi : WIx} {t : TGx}
theorem pi_enumT {ta : TA} (hg : Gl X "enumerate") (hm : X.mg "enumerate" = none) (ha : PA X [e] ta) (hs : starEach [e] X.env = [(false, eval e X.env)] := by rfl) :
    PI X (.Tuple elts kk tpos) (.Call (.Name "enumerate" p) [e] [] pos) (fun σ H R => ta σ H fun vs H1 => ∃ a xs, vs = [.ref a] ∧ ((SqL X.K H1 a xs ∧ R (Ite X.K a) H1) ∨ (SqT X.K H1 a xs ∧ R (IteT X.K a) H1))) := by
  refine ⟨fun pins s σ H R I h => ?_⟩
  refine Call_ (ld_blt I hg hm boot_enumerate (PyProof.Rows.callWith_type1 (thn (ha.run pos pins s σ H _ I h) fun us s1 ⟨vs, H1, I1, r1, q1⟩ => ?_) hs rfl))
  obtain ⟨a, xs, ex, q⟩ := q1
  subst ex
  cases r1 with
  | cons r rr =>
    cases rr
    cases r
    have fresh2 : ∀ b ∈ [s1.heap.objs.size + 1, s1.heap.objs.size], FpOk X pins H1 b := fun b hb => by
      have hle : s1.heap.objs.size ≤ b := by
        rcases List.mem_cons.mp hb with z | z
        · omega
        · have := List.mem_singleton.mp z; omega
      exact I1.fpOk hle (I1.hok.fresh hle)
    rcases q with ⟨hq, q⟩ | ⟨hq, q⟩
    · obtain ⟨its, rv, p', hz⟩ := I1.list hq
      refine call_enumerate_list p'.isList fun h' he hit hsz hk => wpAny_pyIter_enum he ?_
      exact ⟨s1.heap.objs.size + 1, [s1.heap.objs.size + 1, s1.heap.objs.size], _, _, H1, rfl, I1.kept (t' := s1.toks) hk, turn_enum a (s1.heap.objs.size + 1) s1.heap.objs.size, ⟨⟨.none, he⟩, hit, Nat.succ_ne_self _⟩, fresh2, q⟩
    · obtain ⟨its, rv, p', hz⟩ := I1.tuple hq
      have hlt : a < s1.heap.objs.size := by
        obtain ⟨o, ho, _⟩ := id p'
        exact Heap.lt_size ho
      refine enum_begins1 (begins_tuple a its.toArray) p' fun h' he hit hk => wpAny_pyIter_enum he ?_
      exact ⟨s1.heap.objs.size + 1, [s1.heap.objs.size + 1, s1.heap.objs.size], _, _, H1, rfl, I1.kept (t' := s1.toks) hk, turn_enumT a (s1.heap.objs.size + 1) s1.heap.objs.size (Nat.ne_of_lt hlt), ⟨⟨.none, he⟩, ⟨_, hit, rfl, rfl⟩, Nat.succ_ne_self _⟩, fresh2, q⟩
def enumD (i : Nat) : List D → List D
  | [] => []
  | d :: ds => .tup [.int i, d] :: enumD (i + 1) ds
theorem enumD_get : ∀ (ds : List D) (n i : Nat), (enumD n ds)[i]? = (ds[i]?).map fun d => .tup [.int ((n + i : Nat) : Int), d]
  | [], n, i => by simp [enumD]
  | d :: ds, n, 0 => by simp [enumD]
  | d :: ds, n, i + 1 => by
    simp only [enumD, List.getElem?_cons_succ]
    rw [enumD_get ds (n + 1) i]
    congr 1
    funext d
    congr 3
    omega
theorem enumD_len : ∀ (ds : List D) (n : Nat), (enumD n ds).length = ds.length
  | [], _ => rfl
  | d :: ds, n => by simp [enumD, enumD_len ds]
theorem yl_enumL {K : PySem.W.Frag} {as : List Addr} {os : Os} {F : Addr → Prop} {H : Hp} {a : Addr} {vs : List V} {ds : List D} (h : HS K as os F H) (f : F a) (e : Rd H a (.lst vs)) (z : vs.length ≤ sizeLine) (r : RepL K F H ds vs) : Yl K (Ite K a) (enumD 0 ds) as os F H := by
  have at' : ∀ {as' os' F' H'}, Step as os F H as' os' F' H' → SqL K H' a vs := fun s => .inl ((s.mon h).rd a _ f e)
  refine ⟨by rw [enumD_len, ← r.length]; exact z, fun i as' os' F' H' _ s hi => ?_, fun i as' os' F' H' _ s hi => ⟨vs, at' s, by rw [enumD_len] at hi; rw [r.length]; exact hi⟩, fun i as' en F' H' σ d x H2 es s hd y => ?_⟩
  · rw [enumD_len] at hi
    obtain ⟨w, hw, _⟩ := r.get (List.getElem?_eq_getElem hi)
    exact ⟨vs, w, at' s, hw⟩
  · obtain ⟨T, x1, rfl, hT, rfl, y1⟩ := y
    rw [enumD_get] at hd
    cases zz : ds[i]? with
    | none => rw [zz] at hd; cases hd
    | some d1 =>
      rw [zz, Nat.zero_add] at hd; cases hd
      obtain ⟨w, hw, q1⟩ := (RepL.mono (s.mon h) _ _ r).get zz
      have e1 := y1 vs (at' s); rw [hw] at e1; cases e1
      exact yl_new2 es hT (by simp only [Rep]) q1
theorem yl_enumT {K : PySem.W.Frag} {as : List Addr} {os : Os} {F : Addr → Prop} {H : Hp} {a : Addr} {vs : List V} {ds : List D} (h : HS K as os F H) (e : H a = some (.tup vs)) (z : vs.length ≤ sizeLine) (r : RepL K F H ds vs) : Yl K (IteT K a) (enumD 0 ds) as os F H := by
  have at' : ∀ {as' os' F' H'}, Step as os F H as' os' F' H' → SqT K H' a vs := fun s => .of ((s.stay a _ e (h.notup e)).at fun z => z)
  refine ⟨by rw [enumD_len, ← r.length]; exact z, fun i as' os' F' H' _ s hi => ?_, fun i as' os' F' H' _ s hi => ⟨vs, at' s, by rw [enumD_len] at hi; rw [r.length]; exact hi⟩, fun i as' en F' H' σ d x H2 es s hd y => ?_⟩
  · rw [enumD_len] at hi
    obtain ⟨w, hw, _⟩ := r.get (List.getElem?_eq_getElem hi)
    exact ⟨vs, w, at' s, hw⟩
  · obtain ⟨T, x1, rfl, hT, rfl, y1⟩ := y
    rw [enumD_get] at hd
    cases zz : ds[i]? with
    | none => rw [zz] at hd; cases hd
    | some d1 =>
      rw [zz, Nat.zero_add] at hd; cases hd
      obtain ⟨w, hw, q1⟩ := (RepL.mono (s.mon h) _ _ r).get zz
      have e1 := y1 vs (at' s); rw [hw] at e1; cases e1
      exact yl_new2 es hT (by simp only [Rep]) q1
def iOne (f : D → Option (List D)) (w : WEx) : WIx := fun en P PX => w en (fun r en1 => match r.fz with
  | .sh d => (match f d with
    | some ds => P ds en1
    | none => False)
  | _ => False) PX
def seqD : D → Option (List D)
  | .lst ds => some ds
  | .tup ds => some ds
  | _ => none
theorem ti_enum (hg : Gl X "enumerate") (hm : X.mg "enumerate" = none) (ha : PE X e (tW X.K XW wa)) (hs : starEach [e] X.env = [(false, eval e X.env)] := by rfl) :
    PI X (.Tuple elts kk tpos) (.Call (.Name "enumerate" p) [e] [] pos) (tI X.K XW (iOne (fun d => (seqD d).map (enumD 0)) wa)) :=
  (pi_enumT hg hm (ta_cons ha ta_nil hs) hs).weak fun σ H R0 h => by
    obtain ⟨as, en, F, P, PX, es, hw, hq, hx⟩ := h
    refine ⟨as, en, F, fun rs en1 => match rs with
      | [r] => (match r with
        | .sh d => (match (seqD d).map (enumD 0) with
          | some ds => P ds en1
          | none => False)
        | _ => False)
      | _ => False, PX, es, hw, fun vs H1 rs en1 F1 e1 s1 pr hp => ?_, hx⟩
    dsimp only at hp
    split at hp
    · cases pr with
      | cons q pr =>
        cases pr
        split at hp
        · rename_i d
          split at hp
          · rename_i ds ed
            cases d with
            | lst xs =>
              cases ed
              simp only [RepP, Rep] at q
              obtain ⟨l, vs, rfl, f, hl, z, rl⟩ := q
              exact ⟨l, vs, rfl, .inl ⟨.inl hl, hq _ H1 _ en1 F1 e1 s1 (yl_enumL e1.hs f hl z rl) hp⟩⟩
            | tup xs =>
              cases ed
              simp only [RepP, Rep] at q
              obtain ⟨l, vs, rfl, hl, z, rl⟩ := q
              exact ⟨l, vs, rfl, .inr ⟨.of hl, hq _ H1 _ en1 F1 e1 s1 (yl_enumT e1.hs hl z rl) hp⟩⟩
            | _ => cases ed
          · exact hp.elim
        · exact hp.elim
    · exact hp.elim
end
end L2.TL

/-! text TL15 -/
set_option Elab.async false
set_option linter.all false
set_option maxRecDepth 100000
set_option maxHeartbeats 2000000
namespace L2.TL
open PySem PySem.Spec PyProof.Rows

/-! ### a shared dict is locked for good -/
section
variable {K : PySem.W.Frag} {as : List Addr} {en : En} {os : Os} {F : Addr → Prop} {H : Hp} {σ : St} {p : Addr} {u : HO} {od : Obj}
theorem mon_lock (e : H p = some u) (di : Dic u) : Mon F H F (upd H p (.frz od u)) := by
  refine ⟨fun _ z => z, fun a v f r => ?_, fun a o f r so => ?_, fun a vs r => ?_⟩
  · by_cases h : a = p
    · subst h
      rcases r with r | ⟨o, r⟩
      · rw [e] at r; cases r
        exact .inr ⟨od, upd_same⟩
      · rw [e] at r; cases r; exact di.elim
    · exact r.imp (fun z => by rw [upd_ne h]; exact z) fun ⟨w, z⟩ => ⟨w, by rw [upd_ne h]; exact z⟩
  · have h : a ≠ p := fun h => by
      subst h
      rw [e] at r; cases r
      cases u <;> first | exact di | exact so
    rw [upd_ne h]; exact r
  · have h : a ≠ p := fun h => by
      subst h
      rw [e] at r; cases r; exact di
    rw [upd_ne h]; exact r
theorem ES.lock (es : ES K as en F H σ) (f : F p) (e : H p = some u) (di : Dic u) : ES K as en F (upd H p (.frz od u)) σ := by
  have m : Mon F H F (upd H p (.frz od u)) := mon_lock e di
  refine ⟨⟨fun k d hk => ?_, es.hs.nd, fun a fa => ?_, fun a ha => ?_, es.hs.len⟩, fun i r e1 => let ⟨v, e2, q⟩ := es.sl i r e1; ⟨v, e2, q.mono m⟩, es.ln⟩
  · obtain ⟨a, ha, own, nf⟩ := es.hs.own k d hk
    have ne : a ≠ p := fun z => nf (by rw [z]; exact f)
    exact ⟨a, ha, Own.mono m (fun o z => by rw [upd_ne ne]; exact z) own, nf⟩
  · by_cases h : a = p
    · rw [h, upd_same]; exact fun z => nomatch z
    · rw [upd_ne h]; exact es.hs.dom a fa
  · by_cases h : a = p
    · rw [h, upd_same]; exact fun z => nomatch z
    · rw [upd_ne h]; exact es.hs.asd a ha
theorem Step.lock (f : F p) (e : H p = some u) (di : Dic u) : Step as os F H as os F (upd H p (.frz od u)) := by
  refine ⟨fun _ h => h, fun _ h => .inl h, fun a o r _ => ?_, fun _ h => .inl h, List.prefix_refl _, fun _ h => .inl h⟩
  by_cases h : a = p
  · subst h
    rw [e] at r; cases r
    exact .inr ⟨f, di, od, upd_same⟩
  · exact .inl (by rw [upd_ne h]; exact r)
end
def tLk (td : TE) : TE := fun σ H Q => td σ H fun x H1 => ∃ d u, x = .ref d ∧ Dic u ∧ ((∃ o, H1 d = some (.frz o u) ∧ Q x H1) ∨ (H1 d = some u ∧ ∀ o, Q x (upd H1 d (.frz o u))))
theorem pe_lk {X : Cx} {e : Expr} {td : TE} (h : PE X e td) : PE X e (tLk td) := by
  refine ⟨fun pins s σ H Q I hw => ?_⟩
  refine thn (h.run pins s σ H _ I hw) fun v s1 ⟨x, H1, I1, r, d, u, ex, di, q⟩ => ?_
  subst ex
  rcases q with ⟨o, e1, q⟩ | ⟨e1, q⟩
  · exact ⟨_, H1, I1, r, q⟩
  · obtain ⟨od, I2⟩ := I1.lock e1 (by cases u <;> first | exact True.intro | exact di.elim)
    exact ⟨_, _, I2, r, q od⟩
/-- a shared dict's reading, locked -/
def dcD : D → Prop
  | .dk _ | .dt _ => True
  | _ => False
theorem lk_of {K : PySem.W.Frag} {XW : WX} {w : WEx} {σ : St} {H : Hp} {Q : VK} (h : ∃ as en F P PX, ES K as en F H σ ∧ w en P PX ∧
    (∀ v H' d en' F', ES K as en' F' H' σ → Step as en.os F H as en'.os F' H' → P (.sh d) en' → ((∃ a ks o, v = .ref a ∧ F' a ∧ H' a = some (.frz o (.dK ks)) ∧ ∃ kvs, d = .dk kvs ∧ RepK K F' H' kvs ks) ∨ (∃ a ks o, v = .ref a ∧ F' a ∧ H' a = some (.frz o (.dT ks)) ∧ ∃ kvs, d = .dt kvs ∧ RepT K F' H' kvs ks)) → Q v H') ∧
    (∀ r en', P r en' → ∃ d, r.fz = .sh d ∧ dcD d ∧ P (.sh d) en') ∧ CEx K XW as en.os F H PX σ) : tLk (tW K XW w) σ H Q := by
  obtain ⟨as, en, F, P, PX, es, hw, hq, hp0, hx⟩ := h
  refine ⟨as, en, F, P, PX, es, hw, fun v H1 r en1 F1 e1 s1 rr hp => ?_, hx⟩
  obtain ⟨d, ed, di, hp2⟩ := hp0 r en1 hp
  obtain ⟨G1, g1, t1, pa, _⟩ := wait es e1 Step.refl s1 rr
  rw [ed] at pa
  cases d with
  | dk kvs =>
    simp only [RepP, Rep] at pa
    obtain ⟨a, ks, rfl, f, rd, rk⟩ := pa
    refine ⟨a, .dK ks, rfl, trivial, ?_⟩
    rcases rd with rd | ⟨o, rd⟩
    · exact .inr ⟨rd, fun o => hq _ _ _ _ _ (g1.lock f rd trivial) (t1.trans (Step.lock f rd trivial)) hp2 (.inl ⟨a, ks, o, rfl, f, upd_same, kvs, rfl, RepK.mono (mon_lock rd trivial) _ _ rk⟩)⟩
    · exact .inl ⟨o, rd, hq _ _ _ _ _ g1 t1 hp2 (.inl ⟨a, ks, o, rfl, f, rd, kvs, rfl, rk⟩)⟩
  | dt kvs =>
    simp only [RepP, Rep] at pa
    obtain ⟨a, ks, rfl, f, rd, rk⟩ := pa
    refine ⟨a, .dT ks, rfl, trivial, ?_⟩
    rcases rd with rd | ⟨o, rd⟩
    · exact .inr ⟨rd, fun o => hq _ _ _ _ _ (g1.lock f rd trivial) (t1.trans (Step.lock f rd trivial)) hp2 (.inr ⟨a, ks, o, rfl, f, upd_same, kvs, rfl, RepT.mono (mon_lock rd trivial) _ _ rk⟩)⟩
    · exact .inl ⟨o, rd, hq _ _ _ _ _ g1 t1 hp2 (.inr ⟨a, ks, o, rfl, f, rd, kvs, rfl, rk⟩)⟩
  | _ => exact di.elim

section
variable {K : PySem.W.Frag} {as : List Addr} {en : En} {os : Os} {F : Addr → Prop} {H : Hp} {σ : St} {a : Addr} {o : Obj}
theorem stayF {as' : List Addr} {os' : Os} {F' : Addr → Prop} {H' : Hp} {u : HO} (h : HS K as os F H) (f : F a) (e : H a = some (.frz o u)) (s : Step as os F H as' os' F' H') : H' a = some (.frz o u) := (s.stay a _ e fun l => h.dis l f).at fun z => z
def itemD (kv : Key × D) : D := .tup [kD kv.1, kv.2]
theorem yl_items {kvs : List (Key × D)} {ks : List (Key × V)} (h : HS K as os F H) (f : F a) (e : H a = some (.frz o (.dK ks))) (r : RepK K F H kvs ks) (z : kvs.length ≤ sizeLine) : Yl K (Iti a o ks) (kvs.map itemD) as os F H := by
  refine ⟨by rw [List.length_map]; exact z, fun i as' os' F' H' _ s hi => ⟨stayF h f e s, by rw [List.length_map] at hi; rw [r.length]; exact hi⟩, fun i as' os' F' H' _ s hi => ⟨stayF h f e s, by rw [List.length_map] at hi; rw [r.length]; exact hi⟩, fun i as' en F' H' σ d x H2 es s hd y => ?_⟩
  obtain ⟨T, k, v, hk, rfl, hT, rfl⟩ := y
  rw [List.getElem?_map] at hd
  cases zz : kvs[i]? with
  | none => rw [zz] at hd; cases hd
  | some kv =>
    obtain ⟨k2, d2⟩ := kv
    rw [zz] at hd; cases hd
    obtain ⟨w, hw, q⟩ := (RepK.mono (s.mon h) _ _ r).nth zz
    rw [hk] at hw; cases hw
    exact yl_new2 es hT (kD_rep k) q
theorem yl_keys {kvs : List (Key × D)} {ks : List (Key × V)} (h : HS K as os F H) (f : F a) (e : H a = some (.frz o (.dK ks))) (r : RepK K F H kvs ks) (z : kvs.length ≤ sizeLine) : Yl K (Itk a o ks) (kvs.map fun kv => kD kv.1) as os F H := by
  refine ⟨by rw [List.length_map]; exact z, fun i as' os' F' H' _ s hi => ⟨stayF h f e s, by rw [List.length_map] at hi; rw [r.length]; exact hi⟩, fun i as' os' F' H' _ s hi => ⟨stayF h f e s, by rw [List.length_map] at hi; rw [r.length]; exact hi⟩, fun i as' en F' H' σ d x H2 es s hd y => ?_⟩
  obtain ⟨rfl, k, v, hk, rfl⟩ := y
  rw [List.getElem?_map] at hd
  cases zz : kvs[i]? with
  | none => rw [zz] at hd; cases hd
  | some kv =>
    obtain ⟨k2, d2⟩ := kv
    rw [zz] at hd; cases hd
    obtain ⟨w, hw, q⟩ := (RepK.mono (s.mon h) _ _ r).nth zz
    rw [hk] at hw; cases hw
    exact ⟨F', es, Step.refl, kD_rep k⟩
theorem yl_vals {kvs : List (Key × D)} {ks : List (Key × V)} (h : HS K as os F H) (f : F a) (e : H a = some (.frz o (.dK ks))) (r : RepK K F H kvs ks) (z : kvs.length ≤ sizeLine) : Yl K (Itd a o ks) (kvs.map (·.2)) as os F H := by
  refine ⟨by rw [List.length_map]; exact z, fun i as' os' F' H' _ s hi => ⟨stayF h f e s, by rw [List.length_map] at hi; rw [r.length]; exact hi⟩, fun i as' os' F' H' _ s hi => ⟨stayF h f e s, by rw [List.length_map] at hi; rw [r.length]; exact hi⟩, fun i as' en F' H' σ d x H2 es s hd y => ?_⟩
  obtain ⟨rfl, k, hk⟩ := y
  rw [List.getElem?_map] at hd
  cases zz : kvs[i]? with
  | none => rw [zz] at hd; cases hd
  | some kv =>
    obtain ⟨k2, d2⟩ := kv
    rw [zz] at hd; cases hd
    obtain ⟨w, hw, q⟩ := (RepK.mono (s.mon h) _ _ r).nth zz
    rw [hk] at hw; cases hw
    exact ⟨F', es, Step.refl, q⟩
def chD (z : Str) : List D := z.cps.toList.map fun c => .str ⟨#[c]⟩
theorem yl_str (z : Str) (hz : z.length ≤ sizeLine) : Yl K (Its z) (chD z) as os F H := by
  have hl : (chD z).length = z.cps.size := by rw [chD, List.length_map, Array.length_toList]
  refine ⟨by rw [hl]; exact hz, fun i as' os' F' H' _ s hi => (by rw [hl] at hi; exact hi), fun i as' os' F' H' _ s hi => (by rw [hl] at hi; exact hi), fun i as' en F' H' σ d x H2 es s hd y => ?_⟩
  obtain ⟨rfl, c, hc, rfl⟩ := y
  refine ⟨F', es, Step.refl, ?_⟩
  rw [chD, List.getElem?_map] at hd
  have e : z.cps.toList[i]? = some c := by rw [Array.getElem?_toList]; exact hc
  rw [e] at hd; cases hd
  simp only [Rep]
end
section
variable {X : Cx} {XW : WX} {pos p apos tpos cpos : Pos} {a b c e e2 o tg iter elt kx vx : Expr} {es ifs elts : List Expr} {kk : Nat} {wa wb wc wo : WEx} {ua ub : WBx} {ws : WAx} {body : List Stmt} {w v : WSx} {wi : WIx} {t : TGx}
def iStrD : D → Option (List D)
  | .str z => if z.length ≤ sizeLine then some (chD z) else none
  | _ => none
theorem ti_str (h : PE X iter (tW X.K XW wa)) : PI X tg iter (tI X.K XW (iOne iStrD wa)) := (pi_str h).weak fun σ H R0 h => by
  obtain ⟨as, en, F, P, PX, es, hw, hq, hx⟩ := h
  refine ⟨as, en, F, _, PX, es, hw, fun v H1 r en1 F1 e1 s1 rr hp => ?_, hx⟩
  obtain ⟨G, g1, t1, rp, _⟩ := wait es e1 Step.refl s1 rr
  split at hp
  · rename_i d ef
    rw [ef] at rp
    split at hp
    · rename_i ds ed
      cases d with
      | str z =>
        simp only [iStrD] at ed
        split at ed
        · rename_i hz
          cases ed
          simp only [RepP, Rep] at rp
          exact ⟨z, rp, hq _ H1 _ en1 G g1 t1 (yl_str z hz) hp⟩
        · cases ed
      | _ => cases ed
    · exact hp.elim
  · exact hp.elim
def itemsD : D → Option (List D)
  | .dk kvs => if kvs.length ≤ sizeLine then some (kvs.map itemD) else none
  | _ => none
def keysDD : D → Option (List D)
  | .dk kvs => if kvs.length ≤ sizeLine then some (kvs.map fun kv => kD kv.1) else none
  | _ => none
def valsD : D → Option (List D)
  | .dk kvs => if kvs.length ≤ sizeLine then some (kvs.map (·.2)) else none
  | _ => none
theorem one_lk {K : PySem.W.Frag} {f : D → Option (List D)} {σ : St} {H : Hp} {R0 : It → Hp → Prop} {g : Addr → Obj → List (Key × V) → It} (hf : ∀ d ds, f d = some ds → ∃ kvs, d = .dk kvs ∧ ∀ as os F H a o ks, HS K as os F H → F a → H a = some (.frz o (.dK ks)) → RepK K F H kvs ks → Yl K (g a o ks) ds as os F H)
    (h : tI K XW (iOne f wa) σ H R0) : tLk (tW K XW wa) σ H fun x H1 => ∃ d o kvs, x = .ref d ∧ H1 d = some (.frz o (.dK kvs)) ∧ R0 (g d o kvs) H1 := by
  obtain ⟨as, en, F, P, PX, es, hw, hq, hx⟩ := h
  refine lk_of ⟨as, en, F, _, PX, es, hw, fun v H1 d en1 F1 e1 s1 hp hc => ?_, fun r en1 hp => ?_, hx⟩
  · dsimp only [R.fz] at hp
    split at hp
    · rename_i ds ed
      obtain ⟨kvs, rfl, hy⟩ := hf _ _ ed
      rcases hc with ⟨a, ks, o, rfl, f, e, kvs', e', rk⟩ | ⟨a, ks, o, rfl, f, e, kvs', e', rk⟩
      · cases e'
        exact ⟨a, o, ks, rfl, e, hq _ H1 _ en1 F1 e1 s1 (hy _ _ _ _ _ _ _ e1.hs f e rk) hp⟩
      · cases e'
    · exact hp.elim
  · split at hp
    · rename_i d ef
      refine ⟨d, ef, ?_, ?_⟩
      · split at hp
        · rename_i ds ed
          obtain ⟨kvs, rfl, _⟩ := hf _ _ ed
          trivial
        · exact hp.elim
      · exact hp
    · exact hp.elim
theorem ti_items (he : PE X e (tW X.K XW wa)) (hbase : attributeBase e "items" X.env (eval e X.env) = eval e X.env := by rfl) (hline : (apos.endLine == cpos.line) = true := by rfl) : PI X (.Tuple elts kk tpos) (.Call (.Attribute e "items" apos) [] [] cpos) (tI X.K XW (iOne itemsD wa)) :=
  (pi_items (pe_lk he) hbase hline).weak fun σ H R0 h => one_lk (g := Iti) (fun d ds ed => by
    cases d with
    | dk kvs =>
      simp only [itemsD] at ed
      split at ed
      · rename_i hz
        cases ed
        exact ⟨kvs, rfl, fun as os F H a o ks h f e r => yl_items h f e r hz⟩
      · cases ed
    | _ => cases ed) h
theorem ti_vals (he : PE X e (tW X.K XW wa)) (hbase : attributeBase e "values" X.env (eval e X.env) = eval e X.env := by rfl) (hline : (apos.endLine == cpos.line) = true := by rfl) : PI X tg (.Call (.Attribute e "values" apos) [] [] cpos) (tI X.K XW (iOne valsD wa)) :=
  (pi_values (pe_lk he) hbase hline).weak fun σ H R0 h => one_lk (g := Itd) (fun d ds ed => by
    cases d with
    | dk kvs =>
      simp only [valsD] at ed
      split at ed
      · rename_i hz
        cases ed
        exact ⟨kvs, rfl, fun as os F H a o ks h f e r => yl_vals h f e r hz⟩
      · cases ed
    | _ => cases ed) h
end
end L2.TL

/-! text TL16 -/
set_option Elab.async false
set_option linter.all false
set_option maxRecDepth 100000
set_option maxHeartbeats 2000000
namespace L2.TL
open PySem PySem.Spec PyProof.Rows
theorem yl_zipT {K : PySem.W.Frag} {as : List Addr} {os : Os} {F : Addr → Prop} {H : Hp} {a b : Addr} {vs us : List V} {ds es : List D} (h : HS K as os F H) (e : H a = some (.tup vs)) (z : vs.length ≤ sizeLine) (r : RepL K F H ds vs) (e2 : H b = some (.tup us)) (r2 : RepL K F H es us) :
    Yl K (RZ.ItzT K a b) ((ds.zip es).map fun p => .tup [p.1, p.2]) as os F H := by
  have at' : ∀ {as' os' F' H'}, Step as os F H as' os' F' H' → SqT K H' a vs := fun s => .of ((s.stay a _ e (h.notup e)).at fun z => z)
  have bt' : ∀ {as' os' F' H'}, Step as os F H as' os' F' H' → SqT K H' b us := fun s => .of ((s.stay b _ e2 (h.notup e2)).at fun z => z)
  refine ⟨by rw [List.length_map, List.length_zip, ← r.length]; omega, fun i as' os' F' H' _ s hi => ?_, fun i as' os' F' H' _ s hi => ⟨vs, us, at' s, bt' s, ?_⟩, fun i as' en F' H' σ d x H2 es' s hd y => ?_⟩
  · simp only [List.length_map, List.length_zip] at hi
    obtain ⟨w, hw, _⟩ := r.get (List.getElem?_eq_getElem (show i < ds.length by omega))
    obtain ⟨w2, hw2, _⟩ := r2.get (List.getElem?_eq_getElem (show i < es.length by omega))
    exact ⟨vs, us, w, w2, at' s, bt' s, hw, hw2⟩
  · simp only [List.length_map, List.length_zip] at hi
    rw [r.length, r2.length]; omega
  · obtain ⟨T, x1, x2, rfl, hT, rfl, y1, y2⟩ := y
    rw [List.getElem?_map] at hd
    cases z : (ds.zip es)[i]? with
    | none => rw [z] at hd; cases hd
    | some p =>
      rw [z] at hd; cases hd
      obtain ⟨z1, z2⟩ := List.getElem?_zip_eq_some.mp z
      obtain ⟨w, hw, q1⟩ := (RepL.mono (s.mon h) _ _ r).get z1
      obtain ⟨w2, hw2, q2⟩ := (RepL.mono (s.mon h) _ _ r2).get z2
      have e1 := y1 vs (at' s); rw [hw] at e1; cases e1
      have e2 := y2 us (bt' s); rw [hw2] at e2; cases e2
      exact yl_new2 es' hT q1 q2
section
variable {X : Cx} {XW : WX} {pos pos' p apos tpos cpos : Pos} {a b c e e2 o tg iter elt kx vx : Expr} {es ifs elts : List Expr} {kk : Nat} {wa wb wc wo : WEx} {ua ub : WBx} {ws : WAx} {body : List Stmt} {w v : WSx} {wi : WIx} {t : TGx}
def zipD : D → D → Option (List D)
  | .lst xs, .lst ys => some ((xs.zip ys).map fun p => .tup [p.1, p.2])
  | .tup xs, .tup ys => some ((xs.zip ys).map fun p => .tup [p.1, p.2])
  | _, _ => none
def iZip (w v : WEx) : WIx := fun en P PX => w en (fun ra en1 => v en1 (fun rb en2 => match ra.fz, rb.fz with
  | .sh d, .sh e => (match zipD d e with
    | some ds => P ds en2
    | none => False)
  | _, _ => False) PX) PX
theorem ti_zip (hg : Gl X "zip") (hm : X.mg "zip" = none) (ha : PE X e (tW X.K XW wa)) (hb : PE X e2 (tW X.K XW wb)) (hs : starEach [e, e2] X.env = (false, eval e X.env) :: starEach [e2] X.env := by rfl) (hs2 : starEach [e2] X.env = (false, eval e2 X.env) :: starEach [] X.env := by rfl) (hpl : (backTo pos (starEach [e2] X.env)).any (·.1) = false := by rfl) :
    PI X (.Tuple elts kk tpos) (.Call (.Name "zip" p) [e, e2] [] pos) (tI X.K XW (iZip wa wb)) :=
  (RZ.pi_zipA hg hm (ta_cons ha (ta_cons hb ta_nil hs2) hs) hs hpl).weak fun σ H R0 h => by
    obtain ⟨as, en, F, P, PX, es, hw, hq, hx⟩ := h
    refine ⟨as, en, F, fun rs en1 => match rs with
      | [ra, rb] => (match ra, rb with
        | .sh d, .sh e => (match zipD d e with
          | some ds => P ds en1
          | none => False)
        | _, _ => False)
      | _ => False, PX, es, hw, fun vs H1 rs en1 F1 e1 s1 pr hp => ?_, hx⟩
    dsimp only at hp
    split at hp
    · cases pr with
      | cons q pr =>
        cases pr with
        | cons q2 pr =>
          cases pr
          split at hp
          · rename_i d d2
            split at hp
            · rename_i ds ed
              cases d with
              | lst xs =>
                cases d2 with
                | lst ys =>
                  cases ed
                  simp only [RepP, Rep] at q q2
                  obtain ⟨l, vs, rfl, f, hl, z, rl⟩ := q
                  obtain ⟨l2, vs2, rfl, f2, hl2, z2, rl2⟩ := q2
                  exact ⟨l, l2, vs, vs2, rfl, .inl ⟨.inl hl, .inl hl2, hq _ H1 _ en1 F1 e1 s1 (yl_zip e1.hs f hl z rl f2 hl2 rl2) hp⟩⟩
                | _ => cases ed
              | tup xs =>
                cases d2 with
                | tup ys =>
                  cases ed
                  simp only [RepP, Rep] at q q2
                  obtain ⟨l, vs, rfl, hl, z, rl⟩ := q
                  obtain ⟨l2, vs2, rfl, hl2, z2, rl2⟩ := q2
                  exact ⟨l, l2, vs, vs2, rfl, .inr ⟨.of hl, .of hl2, hq _ H1 _ en1 F1 e1 s1 (yl_zipT e1.hs hl z rl hl2 rl2) hp⟩⟩
                | _ => cases ed
              | _ => cases ed
            · exact hp.elim
          · exact hp.elim
    · exact hp.elim

/-! ### dicts read: d[k], k in d, d.get(k, x) -/
theorem RepT.get {K : PySem.W.Frag} {F : Addr → Prop} {H : Hp} {k : List Key} : ∀ {kvs : List (List Key × D)} {ks : List (List Key × V)}, RepT K F H kvs ks → match getKD kvs k with
    | some d => ∃ v, valV ks k = some v ∧ Rep K F H d v
    | none => valV ks k = none
  | [], ks, h => by simp only [RepT] at h; subst h; rfl
  | (j, e) :: t, ks, h => by
    simp only [RepT] at h
    obtain ⟨w, ws, rfl, q, z⟩ := h
    by_cases hj : j = k
    · subst hj
      simp only [getKD, List.find?_cons, decide_true, valV]
      exact ⟨w, rfl, q⟩
    · have e1 : getKD ((j, e) :: t) k = getKD t k := by simp [getKD, List.find?_cons, hj]
      have e2 : valV ((j, w) :: ws) k = valV ws k := by simp [valV, List.find?_cons, hj]
      rw [e1, e2]
      exact RepT.get z
/-- what a dict holds at y: none where this is no question of a dict -/
def getD2 (d y : D) : Option (Option D) := match d with
  | .dk kvs => (match keyD y with
    | some k => some (getKD kvs k)
    | none => none)
  | .dt kvs => (match keysD y with
    | some k => some (getKD kvs k)
    | none => none)
  | _ => none
def ORep (K : PySem.W.Frag) (F : Addr → Prop) (H : Hp) (o : Option D) (v : Option V) : Prop := match o with
  | some d => ∃ w, v = some w ∧ Rep K F H d w
  | none => v = none
theorem getD2_rep {K : PySem.W.Frag} {F : Addr → Prop} {H : Hp} {d y : D} {o : Option D} {v u : V} (e : getD2 d y = some o) (sd : Sees K F H d v) (sy : Sees K F H y u) : ∃ a ov, v = .ref a ∧ DGet H a u ov ∧ ORep K F H o ov := by
  cases d with
  | dk kvs =>
    obtain ⟨a, ks, rfl, rd, rk⟩ := sd.dk
    simp only [getD2] at e
    split at e
    · rename_i k ek
      cases e
      cases keyD_rep ek sy
      have q := rk.get (k := k)
      refine ⟨a, valV ks k, rfl, .inl ⟨ks, k, rd, rfl, rfl⟩, ?_⟩
      cases z : getKD kvs k with
      | none => rw [z] at q; exact q
      | some d => rw [z] at q; exact q
    · cases e
  | dt kvs =>
    obtain ⟨a, ks, rfl, rd, rk⟩ := sd.dt
    simp only [getD2] at e
    split at e
    · rename_i k ek
      cases e
      cases y with
      | tup ds =>
        obtain ⟨b, ws, rfl, hb, _, rl⟩ := sy.tup
        simp only [keysD] at ek
        cases keysD_rep ek rl
        have q := rk.get (k := k)
        refine ⟨a, valV ks k, rfl, .inr ⟨ks, k, b, rd, rfl, hb, rfl⟩, ?_⟩
        cases z : getKD kvs k with
        | none => rw [z] at q; exact q
        | some d => rw [z] at q; exact q
      | _ => cases ek
    · cases e
  | _ => cases e
theorem dget_td {K : PySem.W.Frag} {H : Hp} {a : Addr} {y : V} {o : Option V} (g : DGet H a y o) : IsD H a := by
  rcases g with ⟨kvs, k, e, _, _⟩ | ⟨kvs, k, b, e, _, _, _⟩
  · exact .inl ⟨kvs, e⟩
  · exact .inr ⟨kvs, e⟩
theorem ix_dict (hu : X.A.units + 1 < cLine) : IxR X (fun x y H Q => ∃ a v, x = .ref a ∧ DGet H a y (some v) ∧ Q v H) := by
  intro value slice pins s σ H x y v u Q I rx ry h hs
  obtain ⟨a, z, rfl, g, q⟩ := h
  cases rx
  have ty := dict_typeIs I g
  unfold subscriptTail
  refine wpAny_bind ?_
  rw [getitemInPython_of_ne ty.not_modules]
  refine wpAny_bind (wpAny_specialOf ty PySem.F.slot_dict_getitem.lookup ?_)
  have fin : wpAny (model X.prog X.w) X.A (subscripted slice false (.ref a) u) (fun r s₃ => wpAny (model X.prog X.w) X.A (letTemporaryGo value (.ref a) r >>= fun _ => pure r) (EP X pins σ Q) X.xe s₃) X.xe s := by
    rw [hs]
    exact wpAny_operating (d_getItem hu I g ry fun w' s3 I3 rw' => wpAny_bind (wpAny_letTemporaryGo (wpAny_pure ⟨z, H, I3, rw', q⟩)))
  first
    | exact wpAny_pure (wpAny_bind fin)
    | exact wpAny_bind (wpAny_pure (wpAny_bind fin))
    | exact wpAny_bind fin
/-- a[i]: of a list, a tuple, a text, a dict -/
def oIxA : R → R → WEx := fun ra rb en P PX => match ra.val en.os, rb.val en.os with
  | some (.dk kvs), some y => (match getD2 (.dk kvs) y with
    | some (some d) => P (.sh d) en
    | _ => False)
  | some (.dt kvs), some y => (match getD2 (.dt kvs) y with
    | some (some d) => P (.sh d) en
    | _ => False)
  | _, _ => oIx ra rb en P PX
theorem ixA_fin {K : PySem.W.Frag} {σ : St} {H : Hp} {Q : VK} {x y : V} (h : tP K XW [y, x] (l2 oIxA) σ H Q) : (rIxL K x y H Q ∨ rIxT K x y H Q ∨ rIxS x y H Q) ∨ ∃ a v, x = .ref a ∧ DGet H a y (some v) ∧ Q v H := by
  obtain ⟨as, os0, F0, H0, en, F, rs, P, PX, es, st, pr, hw, hq, hx⟩ := id h
  cases pr with
  | cons ry pr =>
    cases pr with
    | cons rx pr =>
      cases pr
      simp only [l2, oIxA] at hw
      split at hw
      · rename_i kvs y0 e1 e2
        split at hw
        · rename_i d ed
          obtain ⟨a, ov, rfl, g, w, rfl, rw'⟩ := getD2_rep ed (rx.sees es.hs e1) (ry.sees es.hs e2)
          exact .inr ⟨a, w, rfl, g, hq _ H (.sh d) en F es st rw' hw⟩
        · exact hw.elim
      · rename_i kvs y0 e1 e2
        split at hw
        · rename_i d ed
          obtain ⟨a, ov, rfl, g, w, rfl, rw'⟩ := getD2_rep ed (rx.sees es.hs e1) (ry.sees es.hs e2)
          exact .inr ⟨a, w, rfl, g, hq _ H (.sh d) en F es st rw' hw⟩
        · exact hw.elim
      · exact .inl (ix_fin ⟨as, os0, F0, H0, en, F, _, P, PX, es, st, .cons ry (.cons rx .nil), hw, hq, hx⟩)
theorem te_ixA {k : Nat} (hr : Room k X.A) (ha : PE X a (tW X.K XW wa)) (hb : PE X b (tW X.K XW wb)) (hs : PlainIx b := by exact fun _ _ => rfl) : PE X (.Subscript a b pos) (tW X.K XW (w2 oIxA wa wb)) :=
  (pe_ix (ix_seq.or (ix_dict (by have := hr.un; omega))) ha hb hs).weak fun σ H Q h => tOp_of (fun x y H h => ixA_fin h) h
/-- k in d, a sign in a text, a value in a list -/
def inD (x y : D) : Option Bool := match y with
  | .dk kvs => (getD2 (.dk kvs) x).map (·.isSome)
  | .dt kvs => (getD2 (.dt kvs) x).map (·.isSome)
  | .str z => (match x with
    | .str s => (match s.cps.toList with
      | [c] => some (decide (c ∈ z.cps.toList))
      | _ => none)
    | _ => none)
  | .lst ys => if shD x && shD (.lst ys) then some (ys.any fun z => eqD z x) else none
  | _ => none
def oIn (neg : Bool) : R → R → WEx := fun ra rb en P _ => match ra.val en.os, rb.val en.os with
  | some x, some y => (match inD x y with
    | some b => P (.sh (.bl (if neg then !b else b))) en
    | none => False)
  | _, _ => False
end
end L2.TL

/-! text TL17 -/
set_option Elab.async false
set_option linter.all false
set_option maxRecDepth 100000
set_option maxHeartbeats 2000000
namespace L2.TL
open PySem PySem.Spec PyProof.Rows
section
variable {X : Cx} {XW : WX} {pos pos' p apos tpos cpos : Pos} {a b c e e2 f i o tg iter elt kx vx value : Expr} {es ifs elts : List Expr} {kk : Nat} {wa wb wc wo wd wy wx wv : WEx} {ua ub : WBx} {ws : WAx} {body : List Stmt} {w v : WSx} {wi : WIx} {t : TGx}
theorem op_inK (hu : X.A.units + 1 < cLine) : OpR X (compareOp .In) (fun x y H Q => ∃ a ov, y = .ref a ∧ DGet H a x ov ∧ Q (.bl ov.isSome) H) := by
  intro pins s σ H x y v u Q I rx ry h
  obtain ⟨a, ov, rfl, g, q⟩ := h
  cases ry
  exact d_in hu I g rx fun s3 I3 => ⟨.bl ov.isSome, H, I3, rfl, q⟩
theorem op_ninK (hu : X.A.units + 1 < cLine) : OpR X (compareOp .NotIn) (fun x y H Q => ∃ a ov, y = .ref a ∧ DGet H a x ov ∧ Q (.bl (!ov.isSome)) H) := by
  intro pins s σ H x y v u Q I rx ry h
  obtain ⟨a, ov, rfl, g, q⟩ := h
  cases ry
  exact d_notIn hu I g rx fun s3 I3 => ⟨.bl (!ov.isSome), H, I3, rfl, q⟩
def rInA (K : PySem.W.Frag) (neg : Bool) : R2 := fun x y H Q => (∃ a ov, y = .ref a ∧ DGet H a x ov ∧ Q (.bl (if neg then !ov.isSome else ov.isSome)) H) ∨
  (∃ (c : Nat) (z : Str), x = .str ⟨#[c]⟩ ∧ y = .str z ∧ Q (.bl (if neg then !decide (c ∈ z.cps.toList) else decide (c ∈ z.cps.toList))) H) ∨
  ∃ d ds, Dp K H x d ∧ Dp K H y (.list ds) ∧ SeqAt.shaped d = true ∧ SeqAt.shaped (.list ds) = true ∧ Q (.bl (if neg then !(ds.any fun z => PyData.eqv z d) else ds.any fun z => PyData.eqv z d)) H
theorem toPyL_any (x : D) : ∀ ys : List D, ((toPyL ys).any fun z => PyData.eqv z (toPy x)) = (ys.any fun z => eqD z x)
  | [] => rfl
  | y :: ys => by simp only [toPyL, List.any_cons, toPyL_any x ys, eqD]
theorem orep_some {K : PySem.W.Frag} {F : Addr → Prop} {H : Hp} {o : Option D} {v : Option V} (h : ORep K F H o v) : v.isSome = o.isSome := by
  cases o with
  | none => rw [show v = none from h]; rfl
  | some d => obtain ⟨w, rfl, _⟩ := h; rfl
theorem in_fin {K : PySem.W.Frag} {neg : Bool} {σ : St} {H : Hp} {Q : VK} {x y : V} (h : tP K XW [y, x] (l2 (oIn neg)) σ H Q) : rInA K neg x y H Q := by
  obtain ⟨as, os0, F0, H0, en, F, rs, P, PX, es, st, pr, hw, hq, hx⟩ := h
  cases pr with
  | cons ry pr =>
    cases pr with
    | cons rx pr =>
      cases pr
      simp only [l2, oIn] at hw
      split at hw
      · rename_i d y0 e1 e2
        split at hw
        · rename_i b eb
          have sx := rx.sees es.hs e1
          have sy := ry.sees es.hs e2
          have q : Q (.bl (if neg then !b else b)) H := hq _ H (.sh (.bl _)) en F es st (by simp only [RepR, Rep]) hw
          have dict : ∀ dd, getD2 y0 d = some dd → dd.isSome = b → rInA K neg x y H Q := fun dd g e => by
            obtain ⟨a, ov, rfl, g, r⟩ := getD2_rep g sy sx
            refine .inl ⟨a, ov, rfl, g, ?_⟩
            rw [orep_some r, e]; exact q
          cases y0 with
          | dk kvs =>
            simp only [inD] at eb
            cases z : getD2 (.dk kvs) d with
            | none => rw [z] at eb; cases eb
            | some dd => rw [z] at eb; exact dict dd z (Option.some.inj eb)
          | dt kvs =>
            simp only [inD] at eb
            cases z : getD2 (.dt kvs) d with
            | none => rw [z] at eb; cases eb
            | some dd => rw [z] at eb; exact dict dd z (Option.some.inj eb)
          | str z =>
            cases d with
            | str s =>
              simp only [inD] at eb
              split at eb
              · rename_i c ec
                cases eb
                refine .inr (.inl ⟨c, z, ?_, sy.str, q⟩)
                rw [sx.str]
                obtain ⟨arr⟩ := s
                have : arr = #[c] := by apply Array.toList_inj.mp; exact ec
                rw [this]
              · cases eb
            | _ => cases eb
          | lst ys =>
            simp only [inD] at eb
            split at eb
            · rename_i hs
              cases eb
              rw [Bool.and_eq_true] at hs
              refine .inr (.inr ⟨toPy d, toPyL ys, sx.dp (SeqAt.canLay_of_shaped hs.1), ?_, hs.1, hs.2, ?_⟩)
              · exact sy.dp (SeqAt.canLay_of_shaped hs.2)
              · rw [toPyL_any]; exact q
            · cases eb
          | _ => cases eb
        · exact hw.elim
      · exact hw.elim
theorem op_inA {k : Nat} (hr : Room k X.A) : OpR X (compareOp .In) (rInA X.K false) := (op_inK (by have := hr.un; omega)).or (op_in_sign.or (op_inD (by have := hr.un; omega)))
theorem op_ninA {k : Nat} (hr : Room k X.A) : OpR X (compareOp .NotIn) (rInA X.K true) := (op_ninK (by have := hr.un; omega)).or (op_notIn_sign.or (op_notInD (by have := hr.un; omega)))
theorem te_in {k : Nat} (hr : Room k X.A) (ha : PE X a (tW X.K XW wa)) (hb : PE X b (tW X.K XW wb)) (hm : behindInMarks .In b = false := by rfl) : PE X (.Compare a [.In] [b] pos) (tW X.K XW (w2 (oIn false) wa wb)) :=
  (pe_cmpR (op_inA hr) ha hb hm).weak fun σ H Q h => tOp_of (fun x y H2 h => in_fin h) h
theorem te_nin {k : Nat} (hr : Room k X.A) (ha : PE X a (tW X.K XW wa)) (hb : PE X b (tW X.K XW wb)) (hm : behindInMarks .NotIn b = false := by rfl) : PE X (.Compare a [.NotIn] [b] pos) (tW X.K XW (w2 (oIn true) wa wb)) :=
  (pe_cmpR (op_ninA hr) ha hb hm).weak fun σ H Q h => tOp_of (fun x y H2 h => in_fin h) h
theorem tb_in {k : Nat} (hr : Room k X.A) (ha : PE X a (tW X.K XW wa)) (hb : PE X b (tW X.K XW wb)) (hm : behindInMarks .In b = false := by rfl) : PT X (.Compare a [.In] [b] pos) (tWB X.K XW (wT (w2 (oIn false) wa wb))) := tb_cmp (op_inA hr) (fun σ H Q x y h => in_fin h) hm ha hb
theorem tb_nin {k : Nat} (hr : Room k X.A) (ha : PE X a (tW X.K XW wa)) (hb : PE X b (tW X.K XW wb)) (hm : behindInMarks .NotIn b = false := by rfl) : PT X (.Compare a [.NotIn] [b] pos) (tWB X.K XW (wT (w2 (oIn true) wa wb))) := tb_cmp (op_ninA hr) (fun σ H Q x y h => in_fin h) hm ha hb

/-! ### d.get(k, x) -/
def wGet2 (wd wy wx : WEx) : WEx := fun en P PX => wd en (fun rd en1 => (match rd.fz.val en1.os with
  | some d => dcD d
  | none => False) ∧ wy en1 (fun ry en2 => wx en2 (fun rx en3 => match rd.fz.val en3.os, ry.fz.val en3.os with
    | some d, some y => (match getD2 d y with
      | some (some e) => P (.sh e) en3
      | some none => P rx.fz en3
      | none => False)
    | _, _ => False) PX) PX) PX
theorem dcD_is {K : PySem.W.Frag} {F : Addr → Prop} {H : Hp} {d : D} {v : V} (di : dcD d) (s : Sees K F H d v) : ∃ a, v = .ref a ∧ IsD H a := by
  cases d with
  | dk kvs => obtain ⟨a, ks, rfl, rd, _⟩ := s.dk; exact ⟨a, rfl, .inl ⟨ks, rd⟩⟩
  | dt kvs => obtain ⟨a, ks, rfl, rd, _⟩ := s.dt; exact ⟨a, rfl, .inr ⟨ks, rd⟩⟩
  | _ => exact di.elim
theorem te_get2 {k : Nat} (hr : Room k X.A) (ho : PE X o (tW X.K XW wd)) (he : PE X e (tW X.K XW wy)) (hf : PE X f (tW X.K XW wx)) (m : M2 X o "get" apos e f cpos) : PE X (.Call (.Attribute o "get" apos) [e, f] [] cpos) (tW X.K XW (wGet2 wd wy wx)) :=
  (pe_dget2 (by have := hr.un; omega) ho he hf m).weak fun σ H Q h => by
    obtain ⟨as, en, F, P, PX, es, hw, hq, hx⟩ := h
    refine ⟨as, en, F, _, PX, es, hw, fun x H1 ra en1 F1 e1 s1 rra hp => ?_, hx⟩
    obtain ⟨hd, hp⟩ := hp
    obtain ⟨G1, g1, t1, pa, _⟩ := wait es e1 Step.refl s1 rra
    split at hd
    · rename_i d ed
      obtain ⟨a, rfl, isd⟩ := dcD_is hd (pa.sees g1.hs ed)
      refine ⟨a, rfl, isd, as, en1, G1, _, PX, g1, hp, fun y H2 rb en2 F2 e2 s2 rrb hp2 => ?_, hx.from t1⟩
      obtain ⟨G2, g2, u2, pb, _⟩ := wait g1 e2 Step.refl s2 rrb
      refine ⟨as, en2, G2, _, PX, g2, hp2, fun z H3 rc en3 F3 e3 s3 rrc hp3 => ?_, hx.from (t1.trans u2)⟩
      obtain ⟨G3, g3, u3, pc, m3⟩ := wait g2 e3 Step.refl s3 rrc
      have t3 := (t1.trans u2).trans u3
      split at hp3
      · rename_i d2 y2 ed2 ey2
        have pa3 : RepP X.K as G3 H3 ra.fz (.ref a) := (pa.step u2 g1.hs).step u3 g2.hs
        have pb3 : RepP X.K as G3 H3 rb.fz y := pb.step u3 g2.hs
        split at hp3
        · rename_i d3 eg
          obtain ⟨a', ov, ea, g, w, rfl, rw'⟩ := getD2_rep eg (pa3.sees g3.hs ed2) (pb3.sees g3.hs ey2)
          cases ea
          exact ⟨_, g, hq w H3 (.sh d3) en3 G3 g3 t3 rw' hp3⟩
        · rename_i eg
          obtain ⟨a', ov, ea, g, r⟩ := getD2_rep eg (pa3.sees g3.hs ed2) (pb3.sees g3.hs ey2)
          cases ea
          cases (show ov = none from r)
          exact ⟨_, g, hq z H3 rc.fz en3 G3 g3 t3 pc.r hp3⟩
        · exact hp3.elim
      · exact hp3.elim
    · exact hd.elim

/-! ### d[i] = v at an owned root -/
def rPutA : V → V → V → Hp → (Hp → Prop) → Prop := fun o i v H Q => rSetL o i v H Q ∨ ∃ a H4, o = .ref a ∧ DPut H a i v H4 ∧ Q H4
theorem set_any (hu : X.A.units + 1 < cLine) : PSet X rPutA := by
  intro pins s σ H o i v ov iv u Q I ro ri rv h
  rcases h with h | ⟨a, H4, rfl, g, q⟩
  · exact set_list pins s σ H o i v ov iv u Q I ro ri rv h
  · cases ro
    exact d_setItem hu I g ri rv fun s4 I4 => ⟨H4, I4, q⟩
/-- what d is behind d[y] = e -/
def setD (d y e : D) : Option D := match d with
  | .dk kvs => (match keyD y with
    | some k => if kvs.length < sizeLine then some (.dk (putKD kvs k e)) else none
    | none => none)
  | .dt kvs => (match keysD y with
    | some k => if kvs.length < sizeLine then some (.dt (putKD kvs k e)) else none
    | none => none)
  | .lst xs => (match y with
    | .int i => (match ixN xs.length i with
      | some j => some (.lst (xs.set j e))
      | none => none)
    | _ => none)
  | _ => none
def wPut (wd wy wv : WEx) : WSx := fun en P => wv en (fun rv en1 => wd en1 (fun rd en2 => wy en2 (fun ry en3 => match rd, rv.fz with
  | .ow k, .sh e => (match en3.os[k]?, ry.fz.val en3.os with
    | some (some d), some y => (match setD d y e with
      | some d' => P.nx ⟨en3.ρ, en3.os.set k (some d')⟩
      | none => False)
    | _, _ => False)
  | _, _ => False) P.ex) P.ex) P.ex
theorem RepL.set {K : PySem.W.Frag} {F : Addr → Prop} {H : Hp} {d : D} {v : V} (r : Rep K F H d v) : ∀ {ds : List D} {vs : List V} (j : Nat), RepL K F H ds vs → RepL K F H (ds.set j d) (vs.set j v)
  | [], vs, j, h => by simp only [RepL] at h; subst h; simp [RepL]
  | e :: ds, vs, 0, h => by
    simp only [RepL] at h
    obtain ⟨w, ws, rfl, _, q⟩ := h
    exact RepL.cons r q
  | e :: ds, vs, j + 1, h => by
    simp only [RepL] at h
    obtain ⟨w, ws, rfl, r1, q⟩ := h
    exact RepL.cons r1 (RepL.set r j q)
theorem Own.set {K : PySem.W.Frag} {F : Addr → Prop} {H : Hp} {d y e d' : D} {a : Addr} {u v : V} (es : setD d y e = some d') (ow : Own K F H d a) (nF : ¬ F a) (hd : ∀ b, F b → H b ≠ none) (sy : Sees K F H y u) (re : Rep K F H e v) {Q : Hp → Prop} (q : ∀ o, Own K F (upd H a o) d' a → Q (upd H a o)) : rPutA (.ref a) u v H Q := by
  have m : ∀ {o : HO}, Mon F H F (upd H a o) := fun {o} => mon_priv nF ow.notup
  cases d with
  | dk kvs =>
    obtain ⟨ks, ha, rk⟩ := ow
    simp only [setD] at es
    split at es
    · rename_i k ek
      split at es
      · rename_i hl
        cases es
        cases keyD_rep ek sy
        exact .inr ⟨a, _, rfl, .inl ⟨ks, k, ha, rfl, by rw [rk.length]; exact hl, rfl⟩, q _ ⟨_, upd_same, RepK.mono m _ _ (rk.put re)⟩⟩
      · cases es
    · cases es
  | dt kvs =>
    obtain ⟨ks, ha, rk⟩ := ow
    simp only [setD] at es
    split at es
    · rename_i k ek
      split at es
      · rename_i hl
        cases es
        cases y with
        | tup ds =>
          obtain ⟨b, ws, rfl, hb, _, rl⟩ := sy.tup
          simp only [keysD] at ek
          cases keysD_rep ek rl
          exact .inr ⟨a, _, rfl, .inr ⟨ks, k, b, ha, rfl, hb, by rw [rk.length]; exact hl, rfl⟩, q _ ⟨_, upd_same, RepT.mono m _ _ (rk.put re)⟩⟩
        | _ => cases ek
      · cases es
    · cases es
  | lst xs =>
    obtain ⟨vs, ha, z, rl⟩ := ow
    simp only [setD] at es
    split at es
    · rename_i i
      split at es
      · rename_i j ej
        cases es
        cases sy.int
        exact .inl ⟨a, vs, i, j, rfl, rfl, ha, by rw [rl.length]; exact ej, q _ ⟨_, upd_same, by rw [List.length_set]; exact z, RepL.mono m _ _ (rl.set re j)⟩⟩
      · cases es
    · cases es
  | _ => cases es
theorem ps_putA (hu : X.A.units + 1 < cLine) {td ty tv : TE} (ho : PE X o td) (hi : PE X i ty) (hv : PE X value tv) (hs : swapsWith value (some (.Subscript o i pos')) pos.line X.env = pure false := by rfl) :
    PS X (.Assign [.Subscript o i pos'] value pos) (fun D σ H => tv σ H fun v H1 => td σ H1 fun x H2 => ty σ H2 fun y H3 => rPutA x y v H3 fun H4 => D.nx σ H4) := by
  refine ⟨fun pins s σ H D I h => ?_⟩
  refine wpAny_Assign_Subscript (thn (hv.run pins s σ H _ I h) fun r s1 ⟨v, H1, I1, rv, q1⟩ => thn (ho.run pins s1 σ H1 _ I1 q1) fun u s2 ⟨x, H2, I2, rx, q2⟩ => thn (hi.run pins s2 σ H2 _ I2 q2) fun iv s3 ⟨y, H3, I3, ry, q3⟩ => ?_) hs
  exact wpAny_mono (set_any hu pins s3 σ H3 x y v u iv r _ I3 rx ry rv q3) (fun _ s4 ⟨H4, I4, q4⟩ => ⟨σ, H4, I4, q4⟩) fun _ _ x => x
theorem ts_put {k : Nat} (hr : Room k X.A) (ho : PE X o (tW X.K XW wd)) (hi : PE X i (tW X.K XW wy)) (hv : PE X value (tW X.K XW wv)) (hs : swapsWith value (some (.Subscript o i pos')) pos.line X.env = pure false := by rfl) :
    PS X (.Assign [.Subscript o i pos'] value pos) (tS X.K XW (wPut wd wy wv)) :=
  (ps_putA (by have := hr.un; omega) ho hi hv hs).weak fun D σ H h => by
    obtain ⟨as, en, F, P, es, hw, h1, h2, h3, h4, h5⟩ := h
    have hx := h5.at σ
    refine ⟨as, en, F, _, _, es, hw, fun v H1 rv en1 F1 e1 s1 rr1 hp1 => ?_, hx⟩
    obtain ⟨G1, g1, u1, pv, _⟩ := wait es e1 Step.refl s1 rr1
    refine ⟨as, en1, G1, _, _, g1, hp1, fun x H2 rd en2 F2 e2 s2 rr2 hp2 => ?_, hx.from u1⟩
    obtain ⟨G2, g2, u2, pd, _⟩ := wait g1 e2 Step.refl s2 rr2
    refine ⟨as, en2, G2, _, _, g2, hp2, fun y H3 ry en3 F3 e3 s3 rr3 hp3 => ?_, hx.from (u1.trans u2)⟩
    obtain ⟨G3, g3, u3, py, _⟩ := wait g2 e3 Step.refl s3 rr3
    split at hp3
    · rename_i k0 e0 er
      split at hp3
      · rename_i d0 y0 hk ey
        split at hp3
        · rename_i d' ed
          obtain ⟨a, ha, rfl⟩ := pd
          obtain ⟨a2, ha2, ow, nF⟩ := g3.hs.own k0 d0 hk
          rw [ha] at ha2; cases ha2
          rw [er] at pv
          have pv3 := (pv.step u2 g1.hs).step u3 g2.hs
          exact ow.set ed nF g3.hs.dom (py.sees g3.hs ey) pv3 fun o ow' => h1 σ _ as _ G3 (g3.put hk ha ow') (((u1.trans u2).trans u3).put hk ha) hp3
        · exact hp3.elim
      · exact hp3.elim
    · exact hp3.elim
end
end L2.TL

/-! text TL18 -/
set_option Elab.async false
set_option linter.all false
set_option maxRecDepth 100000
set_option maxHeartbeats 2000000
namespace L2.TL
open PySem PySem.Spec PyProof.Rows
/-- a class's own == -/
structure Qe (P : Program) (w : World) (K : PySem.W.Frag) (mg : Str → Option Value) (base : Heap) (k : Nat) (C : Addr) (Φ : Sw) : Prop where
  ex : ∃ f fd ps, FnOk P w K mg base (CX P w) k f fd ps (spT K Φ) ∧ PySem.W.findIn K (.ref C) "__eq__" = some (some (.ref f)) ∧ PySem.W.isFn K (.ref f) = true ∧ Binds K fd ps []
section
variable {X : Cx} {XW : WX} {pos pos' p apos tpos cpos : Pos} {a b c e e2 f i o tg iter elt kx vx value : Expr} {es ifs elts : List Expr} {kk : Nat} {wa wb wc wo wd wy wx wv : WEx} {ua ub : WBx} {ws : WAx} {body : List Stmt} {w v : WSx} {wi : WIx} {t : TGx} {E : XK}
def rOwnT (K : PySem.W.Frag) (C : Addr) (Φ : Sw) (E : XK) : R2 := fun x y H Q => ∃ a dx fs t, x = .ref a ∧ H a = some (.ins C dx fs) ∧ TyX K H y t ∧ PySem.W.notFirst K C t = true ∧ spT K Φ [x, y] H Q E
theorem op_ownT {k j : Nat} {C : Addr} {Φ : Sw} (G : Qe X.prog X.w X.K X.mg X.base k C Φ) (hr : Room j X.A) (hkj : k ≤ j) (tk : Takes X (EW E)) : OpR X (compareOp .Eq) (rOwnT X.K C Φ E) := by
  obtain ⟨g, fd, ps, F, hs, hf, hb⟩ := G.ex
  intro pins s σ H x y v u Q I rx ry h
  obtain ⟨a, dx, fs, t, rfl, ha, ty, hn, q⟩ := h
  cases (show v = Value.ref a from rx)
  obtain ⟨mA, J, _⟩ := ins_get I.hok ha
  obtain ⟨od, J, _⟩ := J.look
  obtain ⟨P, Z, p, _⟩ := kit_of I ry ty
  obtain ⟨m, hF⟩ := I.fr
  show wpAny (model X.prog X.w) X.A (richCompare .Eq (.ref a) u) (EP X pins σ Q) X.xe s
  refine PySem.W.cmp_K (op := .Eq) hr.units0 hF I.ok.mod.kin J (Z.ty _ _ I.kIn p) hn hs hf ?_
  have r2 : Vals [V.ref a, y] [Value.ref a, u] := .cons rfl (.cons ry .nil)
  have FR : FnR X.prog X.w X.K X.mg X.base (L2.CX X.prog X.w) k g (spT X.K Φ) := (F.raw hb .nil).imp fun vs H Q E h => by rw [List.append_nil]; exact h
  refine wpAny_mono (wpAny_call (run_fnR FR (hr.mono hkj) (passE tk) I r2 q)) (fun w s' z => ?_) fun _ _ x => x
  obtain ⟨z', H', I', rz, qz⟩ := z
  exact SlX.cmpback rz ⟨z', H', I', rz, qz⟩
def oOwn (K : PySem.W.Frag) (C : Addr) (Φ : Sw) : R → R → WEx := fun ra rb en P PX => match ra.val en.os, rb.val en.os with
  | some (.ins C' _), some y => C' = C ∧ insOk K y ∧ PySem.W.notFirst K C (tyD y) = true ∧ Φ [ra, rb] en.os (fun r os' => P r ⟨en.ρ, os'⟩) (fun er os' => PX er ⟨en.ρ, os'⟩)
  | some x, some y => shD x = true ∧ shD y = true ∧ P (.sh (.bl (eqD x y))) en
  | _, _ => False
theorem own_fin {K : PySem.W.Frag} {C : Addr} {Φ : Sw} {σ : St} {H : Hp} {Q : VK} {x y : V} (h : tP K (EW E) [y, x] (l2 (oOwn K C Φ)) σ H Q) : rOwnT K C Φ E x y H Q ∨ rEqD K x y H Q := by
  obtain ⟨as, os0, F0, H0, en, F, rs, P, PX, es, st, pr, hw, hq, hx⟩ := h
  cases pr with
  | cons ry pr =>
    cases pr with
    | cons rx pr =>
      cases pr
      simp only [l2, oOwn] at hw
      split at hw
      · rename_i C' fs y0 e1 e2
        obtain ⟨rfl, ok, nf, hp⟩ := hw
        obtain ⟨a, dx, gs, rfl, ha, _⟩ := (rx.sees es.hs e1).ins
        refine .inl ⟨a, dx, gs, _, rfl, ha, (ry.sees es.hs e2).ty_of ok, nf, as, en.os, F, _, _, _, es.hs, .cons rx (.cons ry .nil), hp, fun v H3 r3 os3 F3 h3 s3 rr3 hp3 => ?_, fun cls d H3 er os3 F3 h3 s3 re hp3 => ?_⟩
        · exact hq v H3 r3 _ F3 (es.call h3 s3) (st.trans s3) (rr3.lift st) hp3
        · exact hx cls d H3 er _ F3 (es.call h3 s3) (st.trans s3) re hp3
      · rename_i e1 e2
        exact .inr ⟨_, _, (rx.sees es.hs e1).dp (SeqAt.canLay_of_shaped hw.1), (ry.sees es.hs e2).dp (SeqAt.canLay_of_shaped hw.2.1), hw.1, hw.2.1, hq _ H (.sh (.bl (eqD _ _))) en F es st (by simp only [RepR, Rep, eqD]) hw.2.2⟩
      · exact hw.elim
theorem te_eqO {k j : Nat} {C : Addr} {Φ : Sw} (G : Qe X.prog X.w X.K X.mg X.base k C Φ) (hr : Room j X.A) (tk : Takes X (EW E)) (ha : PE X a (tW X.K (EW E) wa)) (hb : PE X b (tW X.K (EW E) wb)) (hkj : k ≤ j := by decide) : PE X (.Compare a [.Eq] [b] pos) (tW X.K (EW E) (w2 (oOwn X.K C Φ) wa wb)) :=
  (pe_cmpR ((op_ownT G hr hkj tk).or (op_eqD hr.units)) ha hb (nomark _)).weak fun σ H Q h => tOp_of (fun x y H2 h => own_fin h) h
theorem tb_eqO {k j : Nat} {C : Addr} {Φ : Sw} (G : Qe X.prog X.w X.K X.mg X.base k C Φ) (hr : Room j X.A) (tk : Takes X (EW E)) (ha : PE X a (tW X.K (EW E) wa)) (hb : PE X b (tW X.K (EW E) wb)) (hkj : k ≤ j := by decide) : PT X (.Compare a [.Eq] [b] pos) (tWB X.K (EW E) (wT (w2 (oOwn X.K C Φ) wa wb))) :=
  tb_cmp ((op_ownT G hr hkj tk).or (op_eqD hr.units)) (fun σ H Q x y h => own_fin h) (nomark _) ha hb
end
end L2.TL

/-! text TL19 -/
set_option Elab.async false
set_option linter.all false
set_option maxRecDepth 100000
set_option maxHeartbeats 2000000
namespace L2.TL
open PySem PySem.Spec PyProof.Rows
section
variable {X : Cx} {XW : WX} {pos pos' p p2 apos tpos cpos : Pos} {a b c e e2 f i o tg iter elt kx vx value : Expr} {es ifs elts : List Expr} {kk : Nat} {wa wb wc wo wd wy wx wv : WEx} {ua ub : WBx} {ws : WAx} {body : List Stmt} {w v : WSx} {wi : WIx} {t : TGx} {E : XK}
/-! ### slices -/
abbrev WPx := En → (Option Int → En → Prop) → PEr → Prop
def tO (K : PySem.W.Frag) (XW : WX) (w : WPx) : TO := fun σ H Q => ∃ as en F P PX, ES K as en F H σ ∧ w en P PX ∧
  (∀ o H' en' F', ES K as en' F' H' σ → Step as en.os F H as en'.os F' H' → P o en' → Q o H') ∧ CEx K XW as en.os F H PX σ
theorem _root_.L2.PO.weak {X : Cx} {e : Option Expr} {t t' : TO} (h : PO X e t) (f : ∀ σ H Q, t' σ H Q → t σ H Q) : PO X e t' := ⟨fun pins s σ H Q I q => h.run pins s σ H Q I (f σ H Q q)⟩
def pNo : WPx := fun en P _ => P none en
def pAt (w : WEx) : WPx := fun en P PX => w en (fun r en1 => match r with
  | .sh (.int i) => P (some i) en1
  | _ => False) PX
theorem to_no : PO X none (tO X.K XW pNo) := po_none.weak fun σ H Q h => by
  obtain ⟨as, en, F, P, PX, es, hw, hq, hx⟩ := h
  exact hq none H en F es Step.refl hw
theorem to_at (h : PE X e (tW X.K XW wa)) : PO X (some e) (tO X.K XW (pAt wa)) := (po_some h).weak fun σ H Q h => by
  obtain ⟨as, en, F, P, PX, es, hw, hq, hx⟩ := h
  refine ⟨as, en, F, _, PX, es, hw, fun v H1 r en1 F1 e1 s1 rr hp => ?_, hx⟩
  split at hp
  · rename_i i
    simp only [RepR, Rep] at rr
    exact ⟨i, rr, hq _ H1 en1 F1 e1 s1 hp⟩
  · exact hp.elim
/-- a list of the written part -/
def KL (K : PySem.W.Frag) (a : Addr) (vs : List V) : Prop := ∃ (o : Obj) (its : Array Value) (n : Nat), K.lookup a = some o ∧ o.cls = .type "list" ∧ o.dict = none ∧ o.data = .seq its n ∧ its.size ≤ sizeLine ∧ Vals vs its.toList
def cutL {α : Type} (xs : List α) (lo hi : Option Int) : List α := (xs.drop (HT.sIx xs.length 0 lo)).take (HT.sIx xs.length xs.length hi - HT.sIx xs.length 0 lo)
theorem RepL.cut {K : PySem.W.Frag} {F : Addr → Prop} {H : Hp} {ds : List D} {vs : List V} (lo hi : Option Int) (r : RepL K F H ds vs) : RepL K F H (cutL ds lo hi) (cutV vs lo hi) := by
  unfold cutL cutV
  rw [r.length]
  exact (r.drop _).take _
theorem cut_all {α : Type} (xs : List α) (lo hi : Option Int) (h : HT.sIx xs.length 0 lo = 0 ∧ HT.sIx xs.length xs.length hi = xs.length) : cutL xs lo hi = xs := by
  unfold cutL
  rw [h.1, h.2]; simp
theorem repL_ints {K : PySem.W.Frag} {F : Addr → Prop} {H : Hp} : ∀ ns : List Int, RepL K F H (ns.map D.int) (ns.map V.int)
  | [] => RepL.nil
  | n :: ns => RepL.cons (by simp only [Rep]) (repL_ints ns)
def wSlc (K : PySem.W.Frag) (we : WEx) (wl wh : WPx) : WEx := fun en P PX => we en (fun re en1 => wl en1 (fun lo en2 => wh en2 (fun hi en3 => match re.fz.val en3.os with
  | some (.lst xs) => P (.fr (.lst (cutL xs lo hi))) en3
  | some (.tup xs) => P (.sh (.tup (cutL xs lo hi))) en3
  | some (.obj a) => ∃ ns : List Int, KL K a (ns.map V.int) ∧ ns.length ≤ sizeLine ∧ P (.fr (.lst (cutL (ns.map D.int) lo hi))) en3
  | _ => False) PX) PX) PX
theorem te_slice {lo hi : Option Expr} {wl wh : WPx} (he : PE X e (tW X.K XW wa)) (hl : PO X lo (tO X.K XW wl)) (hh : PO X hi (tO X.K XW wh)) : PE X (.Subscript e (.Slice lo hi none p2) pos) (tW X.K XW (wSlc X.K wa wl wh)) :=
  (pe_slice (sl_list.or sl_tupA) he hl hh).weak fun σ H Q h => by
    obtain ⟨as, en, F, P, PX, es, hw, hq, hx⟩ := h
    refine ⟨as, en, F, _, PX, es, hw, fun x H1 ra en1 F1 e1 s1 rra hp => ?_, hx⟩
    obtain ⟨G1, g1, u1, pa, _⟩ := wait es e1 Step.refl s1 rra
    refine ⟨as, en1, G1, _, PX, g1, hp, fun l H2 en2 F2 e2 s2 hp2 => ?_, hx.from u1⟩
    refine ⟨as, en2, F2, _, PX, e2, hp2, fun r H3 en3 F3 e3 s3 hp3 => ?_, hx.from (u1.trans s2)⟩
    have t3 := (u1.trans s2).trans s3
    have pa3 : RepP X.K as F3 H3 ra.fz x := (pa.step s2 g1.hs).step s3 e2.hs
    split at hp3
    · rename_i xs ed
      obtain ⟨a, vs, rfl, ha, hz, rl⟩ := (pa3.sees e3.hs ed).lst
      refine .inl ⟨a, vs, rfl, .inl ha, fun q hq0 => ?_⟩
      obtain ⟨q1, q2, q3⟩ := new_lst e3 t3 hq0 (Nat.le_trans (cutV_length vs l r) hz) (rl.cut l r)
      exact hq _ _ _ en3 _ q1 q2 q3 hp3
    · rename_i xs ed
      obtain ⟨a, vs, rfl, ha, hz, rl⟩ := (pa3.sees e3.hs ed).tup
      refine .inr ⟨a, vs, rfl, .of ha, fun hw => ?_, fun _ q hq0 => ?_⟩
      · rw [rl.length] at hw
        rw [cut_all xs l r hw] at hp3
        exact hq _ H3 (.sh (.tup xs)) en3 F3 e3 t3 (by simp only [RepR, Rep]; exact ⟨a, vs, rfl, ha, hz, rl⟩) hp3
      · obtain ⟨q1, q2, q3⟩ := new_tup e3 t3 hq0 (Nat.le_trans (cutV_length vs l r) hz) (rl.cut l r)
        exact hq _ _ _ en3 _ q1 q2 q3 hp3
    · rename_i a ed
      obtain ⟨ns, kl, hz, hp3⟩ := hp3
      cases (pa3.sees e3.hs ed).obj
      refine .inl ⟨a, ns.map V.int, rfl, .inr kl, fun q hq0 => ?_⟩
      obtain ⟨q1, q2, q3⟩ := new_lst e3 t3 hq0 (Nat.le_trans (cutV_length _ l r) (by rw [List.length_map]; exact hz)) ((repL_ints ns).cut l r)
      exact hq _ _ _ en3 _ q1 q2 q3 hp3
    · exact hp3.elim

/-! ### three names at once -/
def wPar3 (i j l : Nat) (wa wb wc : WEx) : WSx := fun en P => wa en (fun ra en1 => wb en1 (fun rb en2 => wc en2 (fun rc en3 => P.nx ⟨((en3.ρ.set i (some ra.fz)).set j (some rb.fz)).set l (some rc.fz), en3.os⟩) P.ex) P.ex) P.ex
theorem ts_par3 (i j l : Nat) {x y z : Str} {px py pz pt : Pos} {kt k2 pt2} (hc : X.calm = true) (hN : X.N.Nodup) (hi : X.N[i]? = some x) (hj : X.N[j]? = some y) (hl : X.N[l]? = some z) (hij : i ≠ j) (hil : i ≠ l) (hjl : j ≠ l)
    (hx : X.env.scope.names.lookup x = some .local) (hy : X.env.scope.names.lookup y = some .local) (hz : X.env.scope.names.lookup z = some .local) (ha : PE X a (tW X.K XW wa)) (hb : PE X b (tW X.K XW wb)) (hcc : PE X c (tW X.K XW wc))
    (hw : swappedStores [.Tuple [.Name x px, .Name y py, .Name z pz] kt pt] (.Tuple [a, b, c] k2 pt2) X.env = pure (some [x, y, z]) := by rfl)
    (hs : swapsWithSole [.Tuple [.Name x px, .Name y py, .Name z pz] kt pt] (.Tuple [a, b, c] k2 pt2) pos.line X.env = pure false := by rfl)
    (hs1 : starEach [a, b, c] X.env = (false, eval a X.env) :: starEach [b, c] X.env := by rfl) (hs2 : starEach [b, c] X.env = (false, eval b X.env) :: starEach [c] X.env := by rfl) (hs3 : starEach [c] X.env = (false, eval c X.env) :: starEach [] X.env := by rfl) :
    PS X (.Assign [.Tuple [.Name x px, .Name y py, .Name z pz] kt pt] (.Tuple [a, b, c] k2 pt2) pos) (tS X.K XW (wPar3 i j l wa wb wc)) :=
  (ps_par3 hc hN hi hj hl hij hil hjl hx hy hz (ta_cons ha (ta_cons hb (ta_cons hcc ta_nil hs3) hs2) hs1) hw hs).weak fun D σ H h => by
    obtain ⟨as, en, F, P, es, hw, h1, h2, h3, h4, h5⟩ := h
    refine ⟨as, en, F, fun rs en2 => match rs with
      | [ra, rb, rc] => P.nx ⟨((en2.ρ.set i (some ra)).set j (some rb)).set l (some rc), en2.os⟩
      | _ => False, _, es, hw, fun vs H1 rs en1 F1 e1 s1 pr hp => ?_, h5.at σ⟩
    cases pr with
    | nil => exact hp.elim
    | cons q1 pr =>
      cases pr with
      | nil => exact hp.elim
      | cons q2 pr =>
        cases pr with
        | nil => exact hp.elim
        | cons q3 pr =>
          cases pr with
          | nil => exact ⟨_, _, _, rfl, h1 _ H1 as _ F1 (((e1.set i q1).set j q2).set l q3) s1 hp⟩
          | cons _ _ => exact hp.elim

/-! ### freezing a local root -/
/-- e read as a frozen tree -/
def XK0 : XK := fun _ _ _ => False
theorem takes00 {X : Cx} : Takes X (EW XK0) := takes0
end

/-! ### isinstance of built-in kinds -/
section
variable {K : PySem.W.Frag}
theorem kb1 {a b : String} {r : Bool} (h : kitB a b = some r) : PySem.W.kitOne K (.type a) (.type b) = some r := kit_ty h
theorem kb_NoneType_bool : PySem.W.kitOne K (.type "NoneType") (.type "bool") = some false := kb1 (by decide +kernel)
theorem kb_NoneType_int : PySem.W.kitOne K (.type "NoneType") (.type "int") = some false := kb1 (by decide +kernel)
theorem kb_NoneType_str : PySem.W.kitOne K (.type "NoneType") (.type "str") = some false := kb1 (by decide +kernel)
theorem kb_NoneType_list : PySem.W.kitOne K (.type "NoneType") (.type "list") = some false := kb1 (by decide +kernel)
theorem kb_NoneType_tuple : PySem.W.kitOne K (.type "NoneType") (.type "tuple") = some false := kb1 (by decide +kernel)
theorem kb_NoneType_dict : PySem.W.kitOne K (.type "NoneType") (.type "dict") = some false := kb1 (by decide +kernel)
theorem kb_bool_bool : PySem.W.kitOne K (.type "bool") (.type "bool") = some true := kb1 (by decide +kernel)
theorem kb_bool_int : PySem.W.kitOne K (.type "bool") (.type "int") = some true := kb1 (by decide +kernel)
theorem kb_bool_str : PySem.W.kitOne K (.type "bool") (.type "str") = some false := kb1 (by decide +kernel)
theorem kb_bool_list : PySem.W.kitOne K (.type "bool") (.type "list") = some false := kb1 (by decide +kernel)
theorem kb_bool_tuple : PySem.W.kitOne K (.type "bool") (.type "tuple") = some false := kb1 (by decide +kernel)
theorem kb_bool_dict : PySem.W.kitOne K (.type "bool") (.type "dict") = some false := kb1 (by decide +kernel)
theorem kb_int_bool : PySem.W.kitOne K (.type "int") (.type "bool") = some false := kb1 (by decide +kernel)
theorem kb_int_int : PySem.W.kitOne K (.type "int") (.type "int") = some true := kb1 (by decide +kernel)
theorem kb_int_str : PySem.W.kitOne K (.type "int") (.type "str") = some false := kb1 (by decide +kernel)
theorem kb_int_list : PySem.W.kitOne K (.type "int") (.type "list") = some false := kb1 (by decide +kernel)
theorem kb_int_tuple : PySem.W.kitOne K (.type "int") (.type "tuple") = some false := kb1 (by decide +kernel)
theorem kb_int_dict : PySem.W.kitOne K (.type "int") (.type "dict") = some false := kb1 (by decide +kernel)
theorem kb_str_bool : PySem.W.kitOne K (.type "str") (.type "bool") = some false := kb1 (by decide +kernel)
theorem kb_str_int : PySem.W.kitOne K (.type "str") (.type "int") = some false := kb1 (by decide +kernel)
theorem kb_str_str : PySem.W.kitOne K (.type "str") (.type "str") = some true := kb1 (by decide +kernel)
theorem kb_str_list : PySem.W.kitOne K (.type "str") (.type "list") = some false := kb1 (by decide +kernel)
theorem kb_str_tuple : PySem.W.kitOne K (.type "str") (.type "tuple") = some false := kb1 (by decide +kernel)
theorem kb_str_dict : PySem.W.kitOne K (.type "str") (.type "dict") = some false := kb1 (by decide +kernel)
theorem kb_list_bool : PySem.W.kitOne K (.type "list") (.type "bool") = some false := kb1 (by decide +kernel)
theorem kb_list_int : PySem.W.kitOne K (.type "list") (.type "int") = some false := kb1 (by decide +kernel)
theorem kb_list_str : PySem.W.kitOne K (.type "list") (.type "str") = some false := kb1 (by decide +kernel)
theorem kb_list_list : PySem.W.kitOne K (.type "list") (.type "list") = some true := kb1 (by decide +kernel)
theorem kb_list_tuple : PySem.W.kitOne K (.type "list") (.type "tuple") = some false := kb1 (by decide +kernel)
theorem kb_list_dict : PySem.W.kitOne K (.type "list") (.type "dict") = some false := kb1 (by decide +kernel)
theorem kb_tuple_bool : PySem.W.kitOne K (.type "tuple") (.type "bool") = some false := kb1 (by decide +kernel)
theorem kb_tuple_int : PySem.W.kitOne K (.type "tuple") (.type "int") = some false := kb1 (by decide +kernel)
theorem kb_tuple_str : PySem.W.kitOne K (.type "tuple") (.type "str") = some false := kb1 (by decide +kernel)
theorem kb_tuple_list : PySem.W.kitOne K (.type "tuple") (.type "list") = some false := kb1 (by decide +kernel)
theorem kb_tuple_tuple : PySem.W.kitOne K (.type "tuple") (.type "tuple") = some true := kb1 (by decide +kernel)
theorem kb_tuple_dict : PySem.W.kitOne K (.type "tuple") (.type "dict") = some false := kb1 (by decide +kernel)
theorem kb_dict_bool : PySem.W.kitOne K (.type "dict") (.type "bool") = some false := kb1 (by decide +kernel)
theorem kb_dict_int : PySem.W.kitOne K (.type "dict") (.type "int") = some false := kb1 (by decide +kernel)
theorem kb_dict_str : PySem.W.kitOne K (.type "dict") (.type "str") = some false := kb1 (by decide +kernel)
theorem kb_dict_list : PySem.W.kitOne K (.type "dict") (.type "list") = some false := kb1 (by decide +kernel)
theorem kb_dict_tuple : PySem.W.kitOne K (.type "dict") (.type "tuple") = some false := kb1 (by decide +kernel)
theorem kb_dict_dict : PySem.W.kitOne K (.type "dict") (.type "dict") = some true := kb1 (by decide +kernel)
end
end L2.TL

/-! text TL20 -/
set_option Elab.async false
set_option linter.all false
set_option maxRecDepth 100000
set_option maxHeartbeats 2000000
namespace L2.TL
open PySem PySem.Spec PyProof.Rows
section
variable {X : Cx} {XW : WX} {pos : Pos}
/-! ### a module's constants, classes -/
theorem te_gI {x : Str} {i : Int} (h : ∃ t, X.mg x = some (.int i t)) (hg : Gl X x) (hd : (x == ("__debug__" : Str)) = false := by decide) : PE X (.Name x pos) (tW X.K XW (wC (.int i))) :=
  let ⟨t, h⟩ := h; te_glob (.int i) hg h ⟨t, rfl⟩ (fun _ _ => by simp only [Rep]) hd
theorem te_gS {x : Str} {i : Str} (h : ∃ t, X.mg x = some (.str i t)) (hg : Gl X x) (hd : (x == ("__debug__" : Str)) = false := by decide) : PE X (.Name x pos) (tW X.K XW (wC (.str i))) :=
  let ⟨t, h⟩ := h; te_glob (.str i) hg h ⟨t, rfl⟩ (fun _ _ => by simp only [Rep]) hd
theorem te_gC {x : Str} {C : Addr} (h : X.mg x = some (.ref C)) (hg : Gl X x) (hd : (x == ("__debug__" : Str)) = false := by decide) : PE X (.Name x pos) (tW X.K XW (wC (.obj C))) :=
  te_glob (.ref C) hg h rfl (fun _ _ => by simp only [Rep]) hd
def wNewD : WEx := fun en P _ => P (.fr (.dk [])) en
theorem te_newD : PE X (.Dict [] [] pos) (tW X.K XW wNewD) := pe_dnewK.weak fun σ H Q h => by
  obtain ⟨as, en, F, P, PX, es, hw, hq, hx⟩ := h
  intro p hp
  obtain ⟨q1, q2, q3⟩ := new_fr (o := .dK []) (d := .dk []) es Step.refl hp ⟨[], upd_same, by simp [RepK]⟩
  exact hq _ _ _ en _ q1 q2 q3 hw
end
end L2.TL

/-! text TL21 -/
set_option Elab.async false
set_option linter.all false
set_option maxRecDepth 100000
set_option maxHeartbeats 2000000
namespace L2.TL
open PySem PySem.Spec PyProof.Rows
/-! ### comprehensions whose parts are plain -/
theorem lcL_fm {i : Nat} {ρ0 : Ro} {os : Os} {test : WBx} {elt : WEx} {p : D → Bool} {f : D → D} {Pend : List D → En → Prop} (h0 : ρ0.set i none = ρ0) : ∀ (ds acc : List D),
    (∀ d ∈ ds, ∀ (P : Bool → En → Prop) PX, P (p d) ⟨ρ0.set i (some (.sh d)), os⟩ → test ⟨ρ0.set i (some (.sh d)), os⟩ P PX) →
    (∀ d ∈ ds, p d = true → ∀ (P : R → En → Prop) PX, P (.sh (f d)) ⟨ρ0.set i (some (.sh d)), os⟩ → elt ⟨ρ0.set i (some (.sh d)), os⟩ P PX) →
    Pend (acc ++ (ds.filter p).map f) ⟨ρ0, os⟩ → wLcL (gN i) test elt [i] Pend ds acc ⟨ρ0, os⟩
  | [], acc, _, _, hp => by simpa [wLcL] using hp
  | d :: ds, acc, ht, he, hp => by
    have w0 : wipeR (ρ0.set i (some (.sh d))) [i] = ρ0 := by
      simp only [wipeR]
      rw [List.set_set]; exact h0
    simp only [wLcL, gN]
    refine ht d List.mem_cons_self _ _ ?_
    cases hpd : p d with
    | true =>
      refine he d List.mem_cons_self hpd _ _ ?_
      simp only [R.fz, w0]
      refine lcL_fm h0 ds _ (fun d hd => ht d (List.mem_cons_of_mem _ hd)) (fun d hd => he d (List.mem_cons_of_mem _ hd)) ?_
      rw [List.filter_cons, if_pos hpd] at hp
      simpa using hp
    | false =>
      simp only [w0]
      refine lcL_fm h0 ds _ (fun d hd => ht d (List.mem_cons_of_mem _ hd)) (fun d hd => he d (List.mem_cons_of_mem _ hd)) ?_
      rw [List.filter_cons, if_neg (by rw [hpd]; exact Bool.false_ne_true)] at hp
      exact hp
theorem lcL_map {i : Nat} {ρ0 : Ro} {os : Os} {elt : WEx} {f : D → D} {Pend : List D → En → Prop} (h0 : ρ0.set i none = ρ0) {ds acc : List D}
    (he : ∀ d ∈ ds, ∀ (P : R → En → Prop) PX, P (.sh (f d)) ⟨ρ0.set i (some (.sh d)), os⟩ → elt ⟨ρ0.set i (some (.sh d)), os⟩ P PX)
    (hp : Pend (acc ++ ds.map f) ⟨ρ0, os⟩) : wLcL (gN i) wYes elt [i] Pend ds acc ⟨ρ0, os⟩ :=
  lcL_fm (p := fun _ => true) h0 ds acc (fun d _ P PX h => h) (fun d hd _ => he d hd) (by rw [List.filter_eq_self.mpr (fun _ _ => rfl)]; exact hp)
/-- two names -/
theorem lcL_map2 {i j : Nat} {ρ0 : Ro} {os : Os} {elt : WEx} {f : D × D → D} {Pend : List D → En → Prop} (h0 : (ρ0.set j none).set i none = ρ0) (hij : i ≠ j) : ∀ {ds : List (D × D)} {acc : List D},
    (∀ d ∈ ds, ∀ (P : R → En → Prop) PX, P (.sh (f d)) ⟨(ρ0.set i (some (.sh d.1))).set j (some (.sh d.2)), os⟩ → elt ⟨(ρ0.set i (some (.sh d.1))).set j (some (.sh d.2)), os⟩ P PX) →
    Pend (acc ++ ds.map f) ⟨ρ0, os⟩ → wLcL (gT (gsCons (gN i) (gsCons (gN j) gsNil))) wYes elt [i, j] Pend (ds.map fun p => .tup [p.1, p.2]) acc ⟨ρ0, os⟩
  | [], acc, _, hp => by simpa [wLcL] using hp
  | d :: ds, acc, he, hp => by
    have w0 : wipeR ((ρ0.set i (some (.sh d.1))).set j (some (.sh d.2))) [i, j] = ρ0 := by
      simp only [wipeR]
      rw [List.set_set, List.set_comm _ _ hij, List.set_set]
      exact h0
    simp only [List.map_cons, wLcL, gT, gsCons, gsNil, gN, Option.bind_some, wYes]
    refine he d List.mem_cons_self _ _ ?_
    simp only [R.fz, w0]
    exact lcL_map2 h0 hij (fun d hd => he d (List.mem_cons_of_mem _ hd)) (by simpa using hp)
theorem dcL_map {κ : Type} [DecidableEq κ] {keyOf : D → Option κ} {i : Nat} {ρ0 : Ro} {os : Os} {kx vx : WEx} {fk fv : D → D} {kk : D → κ} {Pend : List (κ × D) → En → Prop} (h0 : ρ0.set i none = ρ0) : ∀ {ds : List D} {acc : List (κ × D)},
    (∀ d ∈ ds, keyOf (fk d) = some (kk d)) →
    (∀ d ∈ ds, ∀ (P : R → En → Prop) PX, P (.sh (fk d)) ⟨ρ0.set i (some (.sh d)), os⟩ → kx ⟨ρ0.set i (some (.sh d)), os⟩ P PX) →
    (∀ d ∈ ds, ∀ (P : R → En → Prop) PX, P (.sh (fv d)) ⟨ρ0.set i (some (.sh d)), os⟩ → vx ⟨ρ0.set i (some (.sh d)), os⟩ P PX) →
    Pend (ds.foldl (fun a d => putKD a (kk d) (fv d)) acc) ⟨ρ0, os⟩ → wDcL keyOf (gN i) wYes kx vx [i] Pend ds acc ⟨ρ0, os⟩
  | [], acc, _, _, _, hp => by simpa [wDcL] using hp
  | d :: ds, acc, hk, ek, ev, hp => by
    have w0 : wipeR (ρ0.set i (some (.sh d))) [i] = ρ0 := by
      simp only [wipeR]
      rw [List.set_set]; exact h0
    simp only [wDcL, gN, wYes]
    refine ek d List.mem_cons_self _ _ ?_
    refine ev d List.mem_cons_self _ _ ?_
    simp only [R.fz, hk d List.mem_cons_self, w0]
    exact dcL_map h0 (fun d hd => hk d (List.mem_cons_of_mem _ hd)) (fun d hd => ek d (List.mem_cons_of_mem _ hd)) (fun d hd => ev d (List.mem_cons_of_mem _ hd)) hp
theorem dcL_map2 {κ : Type} [DecidableEq κ] {keyOf : D → Option κ} {i j : Nat} {ρ0 : Ro} {os : Os} {kx vx : WEx} {fk fv : D × D → D} {kk : D × D → κ} {Pend : List (κ × D) → En → Prop} (h0 : (ρ0.set j none).set i none = ρ0) (hij : i ≠ j) : ∀ {ds : List (D × D)} {acc : List (κ × D)},
    (∀ d ∈ ds, keyOf (fk d) = some (kk d)) →
    (∀ d ∈ ds, ∀ (P : R → En → Prop) PX, P (.sh (fk d)) ⟨(ρ0.set i (some (.sh d.1))).set j (some (.sh d.2)), os⟩ → kx ⟨(ρ0.set i (some (.sh d.1))).set j (some (.sh d.2)), os⟩ P PX) →
    (∀ d ∈ ds, ∀ (P : R → En → Prop) PX, P (.sh (fv d)) ⟨(ρ0.set i (some (.sh d.1))).set j (some (.sh d.2)), os⟩ → vx ⟨(ρ0.set i (some (.sh d.1))).set j (some (.sh d.2)), os⟩ P PX) →
    Pend (ds.foldl (fun a d => putKD a (kk d) (fv d)) acc) ⟨ρ0, os⟩ → wDcL keyOf (gT (gsCons (gN i) (gsCons (gN j) gsNil))) wYes kx vx [i, j] Pend (ds.map fun p => .tup [p.1, p.2]) acc ⟨ρ0, os⟩
  | [], acc, _, _, _, hp => by simpa [wDcL] using hp
  | d :: ds, acc, hk, ek, ev, hp => by
    have w0 : wipeR ((ρ0.set i (some (.sh d.1))).set j (some (.sh d.2))) [i, j] = ρ0 := by
      simp only [wipeR]
      rw [List.set_set, List.set_comm _ _ hij, List.set_set]
      exact h0
    simp only [List.map_cons, wDcL, gT, gsCons, gsNil, gN, Option.bind_some, wYes]
    refine ek d List.mem_cons_self _ _ ?_
    refine ev d List.mem_cons_self _ _ ?_
    simp only [R.fz, hk d List.mem_cons_self, w0]
    exact dcL_map2 h0 hij (fun d hd => hk d (List.mem_cons_of_mem _ hd)) (fun d hd => ek d (List.mem_cons_of_mem _ hd)) (fun d hd => ev d (List.mem_cons_of_mem _ hd)) hp
theorem fold_put {κ α : Type} [DecidableEq κ] {kk : α → κ} {fv : α → D} : ∀ (ds : List α) (acc : List (κ × D)), (ds.map kk).Nodup → (∀ d ∈ ds, ∀ a ∈ acc, a.1 ≠ kk d) → ds.foldl (fun a d => putKD a (kk d) (fv d)) acc = acc ++ ds.map fun d => (kk d, fv d)
  | [], acc, _, _ => by simp
  | d :: ds, acc, nd, h => by
    rw [List.map_cons, List.nodup_cons] at nd
    have e : putKD acc (kk d) (fv d) = acc ++ [(kk d, fv d)] := by
      unfold putKD
      rw [if_neg]
      rw [Bool.not_eq_true, List.any_eq_false]
      intro a ha
      simpa using h d List.mem_cons_self a ha
    rw [List.foldl_cons, e, fold_put ds _ nd.2 ?_]
    · simp
    · intro d' hd' a ha
      rcases List.mem_append.mp ha with ha | ha
      · exact h d' (List.mem_cons_of_mem _ hd') a ha
      · rw [List.mem_singleton] at ha
        subst ha
        exact fun q => nd.1 (List.mem_map.mpr ⟨d', hd', (show kk d = kk d' from q).symm⟩)
theorem blsD_map : ∀ bs : List Bool, blsD (bs.map D.bl) = some bs
  | [] => rfl
  | b :: bs => by simp only [List.map_cons, blsD, blsD_map bs]; rfl
/-- a loop whose turns are told -/
theorem loop_inv {t : TGx} {body : WSx} {P : Post} (J : List D → En → Prop) (hend : ∀ en, J [] en → P.nx en)
    (hstep : ∀ d ds en, J (d :: ds) en → ∃ ρ1, t d en.ρ = some ρ1 ∧ ∀ (N : En → Prop), (∀ en2, J ds en2 → N en2) → body ⟨ρ1, en.os⟩ { P with nx := N, ct := N, bk := P.nx }) :
    ∀ (ds : List D) (en : En), J ds en → wLoop t body ds en P
  | [], en, h => hend en h
  | d :: ds, en, h => by
    obtain ⟨ρ1, e, hb⟩ := hstep d ds en h
    simp only [wLoop, e]
    exact hb _ fun en2 h2 => loop_inv J hend hstep ds en2 h2
/-- while, by a measure -/
theorem wh_inv {u : WBx} {body : WSx} {P : Post} (J : Nat → En → Prop)
    (hstep : ∀ m en, J m en → ∀ (W : En → Prop), (∀ m2 en2, m2 < m → J m2 en2 → W en2) → u en (fun k en1 => match k with
      | true => body en1 { P with nx := W, ct := W, bk := P.nx }
      | false => P.nx en1) P.ex) : ∀ n m en, m < n → J m en → wWh u body n en P
  | 0, m, en, h, _ => absurd h (Nat.not_lt_zero m)
  | n + 1, m, en, h, j => hstep m en j (fun en2 => wWh u body n en2 P) fun m2 en2 hm j2 => wh_inv J hstep n m2 en2 (by omega) j2
end L2.TL

/-! text K08phi -/
set_option Elab.async false
set_option linter.all false
set_option maxRecDepth 100000
set_option maxHeartbeats 4000000
namespace L2.TL.K08
open PySem PySem.Spec PyProof.Rows L2.TL
def letters : Str := "abcdefghijklmnopqrstuvwxyz"
def nameOk (z : Str) : Bool := decide (1 ≤ z.length) && (decide (z.length ≤ 8) && z.cps.toList.all fun c => decide (c ∈ letters.cps.toList))
def tabD (CT : Addr) (t : Str × Int) : D := .ins CT [("name", .str t.1), ("width", .int t.2)]
def rowT (r : List Int) : D := .tup (r.map .int)
def RowOk (w : Int) (r : List Int) : Prop := (r.length : Int) = w ∧ ∀ v ∈ r, -(10 ^ 30) ≤ v ∧ v ≤ 10 ^ 30
def Srt (rws : List (List Int)) : Prop := (rws.map rowT).Pairwise (fun a b => leD a b = true) ∧ rws.Nodup
def worldD (CT CW : Addr) (t : Str × Int) (rws : List (List Int)) : D := .ins CW [("tables", .tup [tabD CT t]), ("rows", .tup [.tup (rws.map rowT)])]
def splitD (CT CS : Addr) (t : Str × Int) (c : Int) (a b : Nat) : D := .ins CS [("table", tabD CT t), ("column", .int c), ("threshold", .tup [.int a, .int b])]
/-- how many rows hold v in column c -/
def cnt (rws : List (List Int)) (c : Nat) (v : Int) : Nat := (rws.filter fun r => decide (r.getD c 0 = v)).length
def lightR (rws : List (List Int)) (c a b base : Nat) (r : List Int) : Bool := decide (cnt rws c (r.getD c 0) ^ b ≤ base ^ a)
section

def Φ_is_integer (K : PySem.W.Frag) (CTable CWorld CSplit : Addr) : Sw := fun rs os P _ => ∃ i, rs = [.sh (.int i)] ∧ P (.sh (.bl true)) os
def Φ_is_between (K : PySem.W.Frag) (CTable CWorld CSplit : Addr) : Sw := fun rs os P _ => ∃ v lo hi, rs = [.sh (.int v), .sh (.int lo), .sh (.int hi)] ∧ P (.sh (.bl (decide (lo ≤ v) && decide (v ≤ hi)))) os
def Φ_is_name (K : PySem.W.Frag) (CTable CWorld CSplit : Addr) : Sw := fun rs os P _ => ∃ z, rs = [.sh (.str z)] ∧ z.length ≤ sizeLine ∧ P (.sh (.bl (nameOk z))) os
def Φ_is_listed (K : PySem.W.Frag) (CTable CWorld CSplit : Addr) : Sw := fun rs os P _ => ∃ d xs, rs = [.sh d] ∧ seqD d = some xs ∧ P (.sh (.bl true)) os
def Φ_is_row (K : PySem.W.Frag) (CTable CWorld CSplit : Addr) : Sw := fun rs os P _ => ∃ d xs lo hi, rs = [.sh d, .sh (.int lo), .sh (.int hi)] ∧ seqD d = some xs ∧ P (.sh (.bl (decide (lo ≤ (xs.length : Int)) && decide ((xs.length : Int) ≤ hi)))) os
def Φ_common_part (K : PySem.W.Frag) (CTable CWorld CSplit : Addr) : Sw := fun rs os P _ => ∃ a b : Nat, rs = [.sh (.int a), .sh (.int b)] ∧ 1 ≤ a ∧ P (.sh (.int (Nat.gcd a b))) os
def Φ_lowest (K : PySem.W.Frag) (CTable CWorld CSplit : Addr) : Sw := fun rs os P _ => ∃ a b : Nat, rs = [.sh (.int a), .sh (.int b)] ∧ 1 ≤ a ∧ 1 ≤ b ∧ a ≤ 9999 ∧ b ≤ 9999 ∧ P (.sh (.tup [.int ((a / Nat.gcd a b : Nat)), .int ((b / Nat.gcd a b : Nat))])) os
def Φ_power (K : PySem.W.Frag) (CTable CWorld CSplit : Addr) : Sw := fun rs os P _ => ∃ n m : Nat, rs = [.sh (.int n), .sh (.int m)] ∧ n < 2 ^ 20 ∧ m ≤ 9999 ∧ P (.sh (.int ((n ^ m : Nat)))) os
def Φ_is_at_most (K : PySem.W.Frag) (CTable CWorld CSplit : Addr) : Sw := fun rs os P _ => ∃ n b t u : Nat, rs = [.sh (.int n), .sh (.int b), .sh (.tup [.int t, .int u])] ∧ n < 2 ^ 20 ∧ b < 2 ^ 20 ∧ t ≤ 9999 ∧ u ≤ 9999 ∧ P (.sh (.bl (decide (n ^ u ≤ b ^ t)))) os
def Φ_Table_init (K : PySem.W.Frag) (CTable CWorld CSplit : Addr) : Sw := fun rs os P _ => ∃ k z w, rs = [.ow k, .sh (.str z), .sh (.int w)] ∧ os[k]? = some (some (.ins CTable [])) ∧ z.length ≤ sizeLine ∧ nameOk z = true ∧ 1 ≤ w ∧ w ≤ 2 ∧ P (.sh .non) (os.set k (some (tabD CTable (z, w))))
def Φ_Table_eq (K : PySem.W.Frag) (CTable CWorld CSplit : Addr) : Sw := fun rs os P _ => ∃ s t, rs = [.sh (tabD CTable s), .sh (tabD CTable t)] ∧ PyData.strOk s.1 = true ∧ PyData.strOk t.1 = true ∧ P (.sh (.bl (decide (s = t)))) os
def Φ_are_tables (K : PySem.W.Frag) (CTable CWorld CSplit : Addr) : Sw := fun rs os P _ => ∃ t, rs = [.sh (.lst [tabD CTable t]), .sh (.int 6)] ∧ P (.sh (.bl true)) os
def Φ_by_names (K : PySem.W.Frag) (CTable CWorld CSplit : Addr) : Sw := fun rs os P _ => ∃ t, rs = [.sh (.tup [tabD CTable t])] ∧ P (.fr (.dk [(.inr t.1, tabD CTable t)])) os
def Φ_is_row_of (K : PySem.W.Frag) (CTable CWorld CSplit : Addr) : Sw := fun rs os P _ => ∃ t r, rs = [.sh (tabD CTable t), .sh (rowT r)] ∧ RowOk t.2 r ∧ P (.sh (.bl true)) os
def Φ_are_rows_of (K : PySem.W.Frag) (CTable CWorld CSplit : Addr) : Sw := fun rs os P _ => ∃ (t : Str × Int) (rws : List (List Int)), rs = [.sh (tabD CTable t), .sh (.lst (rws.map rowT))] ∧ (∀ r ∈ rws, RowOk t.2 r) ∧ rws.length ≤ 20000 ∧ rws.Nodup ∧ P (.sh (.bl true)) os
def Φ_World_init (K : PySem.W.Frag) (CTable CWorld CSplit : Addr) : Sw := fun rs os P _ => ∃ (k : Nat) (t : Str × Int) (rws : List (List Int)), rs = [.ow k, .sh (.lst [tabD CTable t]), .sh (.lst [.lst (rws.map rowT)])] ∧ os[k]? = some (some (.ins CWorld [])) ∧ (t.2 = 1 ∨ t.2 = 2) ∧ (∀ r ∈ rws, RowOk t.2 r) ∧ rws.length ≤ 20000 ∧ Srt rws ∧ P (.sh .non) (os.set k (some (worldD CTable CWorld t rws)))
def Φ_World_index (K : PySem.W.Frag) (CTable CWorld CSplit : Addr) : Sw := fun rs os P _ => ∃ t rws, rs = [.sh (worldD CTable CWorld t rws), .sh (.str t.1)] ∧ PyData.strOk t.1 = true ∧ P (.sh (.int 0)) os
def Φ_World_need_index (K : PySem.W.Frag) (CTable CWorld CSplit : Addr) : Sw := fun rs os P _ => ∃ t rws, rs = [.sh (worldD CTable CWorld t rws), .sh (.str t.1)] ∧ PyData.strOk t.1 = true ∧ P (.sh (.int 0)) os
def Φ_World_rows_of (K : PySem.W.Frag) (CTable CWorld CSplit : Addr) : Sw := fun rs os P _ => ∃ t rws, rs = [.sh (worldD CTable CWorld t rws), .sh (.str t.1)] ∧ PyData.strOk t.1 = true ∧ P (.sh (.tup (rws.map rowT))) os
def Φ_need_world (K : PySem.W.Frag) (CTable CWorld CSplit : Addr) : Sw := fun rs os P _ => ∃ t rws, rs = [.sh (worldD CTable CWorld t rws)] ∧ P (.sh .non) os
def Φ_need_tables (K : PySem.W.Frag) (CTable CWorld CSplit : Addr) : Sw := fun rs os P _ => ∃ t rws, rs = [.sh (worldD CTable CWorld t rws), .sh (.tup [tabD CTable t])] ∧ PyData.strOk t.1 = true ∧ P (.sh .non) os
def Φ_is_threshold (K : PySem.W.Frag) (CTable CWorld CSplit : Addr) : Sw := fun rs os P _ => ∃ a b : Nat, rs = [.sh (.tup [.int a, .int b])] ∧ 1 ≤ a ∧ 1 ≤ b ∧ a ≤ 9999 ∧ b ≤ 9999 ∧ P (.sh (.bl true)) os
def Φ_Split_init (K : PySem.W.Frag) (CTable CWorld CSplit : Addr) : Sw := fun rs os P _ => ∃ (k : Nat) (z : Str) (c a b : Nat), rs = [.ow k, .sh (tabD CTable (z, 2)), .sh (.int c), .sh (.tup [.int a, .int b])] ∧ os[k]? = some (some (.ins CSplit [])) ∧ c ≤ 1 ∧ 1 ≤ a ∧ 1 ≤ b ∧ a ≤ 9999 ∧ b ≤ 9999 ∧
  P (.sh .non) (os.set k (some (splitD CTable CSplit (z, 2) c (a / Nat.gcd a b) (b / Nat.gcd a b))))
def lookupN (kvs : List (Int × Nat)) (v : Int) : Nat := ((kvs.find? fun kv => decide (kv.1 = v)).map (·.2)).getD 0
def Φ_crowds (K : PySem.W.Frag) (CTable CWorld CSplit : Addr) : Sw := fun rs os P _ => ∃ (rws : List (List Int)) (c : Nat), rs = [.sh (.tup (rws.map rowT)), .sh (.int c)] ∧ (∀ r ∈ rws, r.length = 2) ∧ c ≤ 1 ∧ rws.length ≤ 20000 ∧
  ∀ kvs : List (Int × Nat), (kvs.map (·.1)).Nodup → (∀ v, lookupN kvs v = cnt rws c v) → kvs.length ≤ rws.length → P (.fr (.dk (kvs.map fun kv => (.inl kv.1, .int kv.2)))) os
def Φ_parts_of (K : PySem.W.Frag) (CTable CWorld CSplit : Addr) : Sw := fun rs os P _ => ∃ (rws : List (List Int)) (t : Str × Int) (c a b base : Nat), rs = [.sh (.tup (rws.map rowT)), .sh (splitD CTable CSplit t c a b), .sh (.int base)] ∧ (∀ r ∈ rws, r.length = 2) ∧ c ≤ 1 ∧ rws.length ≤ 20000 ∧ a ≤ 9999 ∧ b ≤ 9999 ∧ base ≤ 1000000 ∧
  P (.sh (.tup [.tup ((rws.filter (lightR rws c a b base)).map rowT), .tup ((rws.filter fun r => !lightR rws c a b base r).map rowT)])) os
def Φ_need_split (K : PySem.W.Frag) (CTable CWorld CSplit : Addr) : Sw := fun rs os P _ => ∃ t c a b, rs = [.sh (splitD CTable CSplit t c a b)] ∧ P (.sh .non) os
def Φ_need_base (K : PySem.W.Frag) (CTable CWorld CSplit : Addr) : Sw := fun rs os P _ => ∃ b : Int, rs = [.sh (.int b)] ∧ 1 ≤ b ∧ b ≤ 1000000 ∧ P (.sh .non) os
def Φ_parted (K : PySem.W.Frag) (CTable CWorld CSplit : Addr) : Sw := fun rs os P _ => ∃ (rws : List (List Int)) (t : Str × Int) (c a b base : Nat), rs = [.sh (worldD CTable CWorld t rws), .sh (splitD CTable CSplit t c a b), .sh (.int base)] ∧ PyData.strOk t.1 = true ∧ (∀ r ∈ rws, r.length = 2) ∧ c ≤ 1 ∧ rws.length ≤ 20000 ∧ a ≤ 9999 ∧ b ≤ 9999 ∧ 1 ≤ base ∧ base ≤ 1000000 ∧
  P (.sh (.tup [.tup ((rws.filter (lightR rws c a b base)).map rowT), .tup ((rws.filter fun r => !lightR rws c a b base r).map rowT)])) os
/-- the script: shared, or of the written part -/
def ScrD (K : PySem.W.Frag) (ns : List Int) (d : D) : Prop := ns.length ≤ 63 ∧ (d = .lst (ns.map .int) ∨ ∃ a, d = .obj a ∧ KL K a (ns.map V.int))
def Φ__law_pen (K : PySem.W.Frag) (CTable CWorld CSplit : Addr) : Sw := fun rs os P _ => ∃ ns d, rs = [.sh d] ∧ ScrD K ns d ∧ P (.fr (.lst [.lst (ns.map .int), .int 0, .int 0])) os
def penD (cells : List Int) (at' rest : Nat) : D := .lst [.lst (cells.map .int), .int at', .int rest]
def Φ__law_draw (K : PySem.W.Frag) (CTable CWorld CSplit : Addr) : Sw := fun rs os P _ => ∃ (k : Nat) (cells : List Int) (at' rest many : Nat), rs = [.ow k, .sh (.int many)] ∧ os[k]? = some (some (penD cells at' rest)) ∧ cells.length ≤ 63 ∧ at' ≤ 1000 ∧ 1 ≤ many ∧ many ≤ 1000 ∧
  ∀ v at2 rest2 : Nat, v < many → at2 ≤ at' + 1 → P (.sh (.int v)) (os.set k (some (penD cells at2 rest2)))
def Φ__law_pick (K : PySem.W.Frag) (CTable CWorld CSplit : Addr) : Sw := fun rs os P _ => ∃ (k : Nat) (cells : List Int) (at' rest : Nat) (xs : List D), rs = [.ow k, .sh (.lst xs)] ∧ os[k]? = some (some (penD cells at' rest)) ∧ cells.length ≤ 63 ∧ at' ≤ 1000 ∧ 1 ≤ xs.length ∧ xs.length ≤ 1000 ∧
  ∀ (x : D) (at2 rest2 : Nat), x ∈ xs → at2 ≤ at' + 1 → P (.sh x) (os.set k (some (penD cells at2 rest2)))
def Φ__law_power (K : PySem.W.Frag) (CTable CWorld CSplit : Addr) : Sw := fun rs os P _ => ∃ n m : Nat, rs = [.sh (.int n), .sh (.int m)] ∧ 1 ≤ n ∧ n ≤ 6 ∧ m ≤ 4 ∧ P (.sh (.int ((n ^ m : Nat)))) os
def Φ_law (K : PySem.W.Frag) (CTable CWorld CSplit : Addr) : Sw := fun rs os P _ => ∃ ns d, rs = [.sh d] ∧ ScrD K ns d ∧ ∀ os', P (.sh (.bl true)) os'
end
end L2.TL.K08

/-! text K08w -/
set_option Elab.async false
set_option linter.all false
set_option maxRecDepth 100000
set_option maxHeartbeats 4000000
namespace L2.TL.K08
open PySem PySem.Spec PyProof.Rows L2.TL
def top (i : Nat) : Stmt := PySem.Challenge.pw_crowdsplit_k08_whole_parts_at_their_bord.main.body.getD i (.Pass ⟨0, 0, 0, 0⟩)
structure Txt (K : PySem.W.Frag) (mg : Str → Option Value) (CTable CWorld CSplit : Addr) : Prop where
  b_len : mg "len" = none
  b_all : mg "all" = none
  b_int : mg "int" = none
  b_abs : mg "abs" = none
  b_max : mg "max" = none
  b_isinstance : mg "isinstance" = none
  b_tuple : mg "tuple" = none
  b_sorted : mg "sorted" = none
  b_range : mg "range" = none
  b_enumerate : mg "enumerate" = none
  b_zip : mg "zip" = none
  b_bool : mg "bool" = none
  b_str : mg "str" = none
  b_list : mg "list" = none
  m_Table : mg "Table" = some (.ref CTable)
  k_Table : Cls K CTable
  i_Table : InsF K CTable
  m_World : mg "World" = some (.ref CWorld)
  k_World : Cls K CWorld
  i_World : InsF K CWorld
  m_Split : mg "Split" = some (.ref CSplit)
  k_Split : Cls K CSplit
  i_Split : InsF K CSplit
  n_Table_name : NoAttr K CTable "name"
  n_Table_width : NoAttr K CTable "width"
  n_World_tables : NoAttr K CWorld "tables"
  n_World_rows : NoAttr K CWorld "rows"
  n_Split_table : NoAttr K CSplit "table"
  n_Split_column : NoAttr K CSplit "column"
  n_Split_threshold : NoAttr K CSplit "threshold"
  c_MOST_SIGNS : ∃ t, mg "MOST_SIGNS" = some (.int 8 t)
  c_MOST_WIDTH : ∃ t, mg "MOST_WIDTH" = some (.int 2 t)
  c_MOST_TABLES : ∃ t, mg "MOST_TABLES" = some (.int 6 t)
  c_MOST_ROWS : ∃ t, mg "MOST_ROWS" = some (.int 20000 t)
  c_MOST_VALUE : ∃ t, mg "MOST_VALUE" = some (.int 1000000000000000000000000000000 t)
  c_MOST_PART : ∃ t, mg "MOST_PART" = some (.int 9999 t)
  c_MOST_BASE : ∃ t, mg "MOST_BASE" = some (.int 1000000 t)
  c_LETTERS : ∃ t, mg "LETTERS" = some (.str "abcdefghijklmnopqrstuvwxyz" t)
section
variable {P : Program} {wd : World} {K : PySem.W.Frag} {mg : Str → Option Value} {base : Heap} {CTable CWorld CSplit : Addr}

abbrev s_is_integer : Stmt := top 11
theorem sc_is_integer : FnScope ["value"] ["value"] (defScope s_is_integer) := ⟨rfl, rfl, rfl, by decide +kernel, rfl, by decide +kernel, by decide +kernel⟩
def w_is_integer (K : PySem.W.Frag) (CTable CWorld CSplit : Addr) : WSx := (wRet (wAndV (wF (o2 (fIsi K)) (wCons (wV 0) (wCons (wC (.ty "int")) wNil))) (wNotV (wF (o2 (fIsi K)) (wCons (wV 0) (wCons (wC (.ty "bool")) wNil))))))
theorem b_is_integer (T : Txt K mg CTable CWorld CSplit) {f : Addr} (cdv : Value) (A : Around) (outer : List Env) (s : Shared) (H : Hp) (E : XK) (hr : Room 0 (A.deeper (envOfC "is_integer" (defScope s_is_integer) s.heap.objs.size f cdv))) :
    PSs (cxOf (L2.CX P wd) P wd K mg base ["value"] "is_integer" (defScope s_is_integer) f cdv A outer s H E) (defBody s_is_integer) (tS K (EW E) (w_is_integer K CTable CWorld CSplit)) := by
  have sc := sc_is_integer
  have tk : Takes (cxOf (L2.CX P wd) P wd K mg base ["value"] "is_integer" (defScope s_is_integer) f cdv A outer s H E) (EW E) := takes_of rfl rfl rfl rfl
  have pown : PassesOwn (model P wd) (cxOf (L2.CX P wd) P wd K mg base ["value"] "is_integer" (defScope s_is_integer) f cdv A outer s H E).A (cxOf (L2.CX P wd) P wd K mg base ["value"] "is_integer" (defScope s_is_integer) f cdv A outer s H E).env (cxOf (L2.CX P wd) P wd K mg base ["value"] "is_integer" (defScope s_is_integer) f cdv A outer s H E).xe := PassesOwn.leaving
  exact (ts_one (ts_ret (te_and (te_isi rfl (by rfl) T.b_isinstance (ta_cons (te_v 0) (ta_cons (te_ty "int" (by rfl) T.b_int (by decide +kernel)) ta_nil))) (te_one (te_not (te_isi rfl (by rfl) T.b_isinstance (ta_cons (te_v 0) (ta_cons (te_ty "bool" (by rfl) T.b_bool (by decide +kernel)) ta_nil))))))))
abbrev s_is_between : Stmt := top 12
theorem sc_is_between : FnScope ["value", "least", "most"] ["value", "least", "most"] (defScope s_is_between) := ⟨rfl, rfl, rfl, by decide +kernel, rfl, by decide +kernel, by decide +kernel⟩
def w_is_between (K : PySem.W.Frag) (CTable CWorld CSplit : Addr) : WSx := (wRet (wAndV (wCall (Φ_is_integer K CTable CWorld CSplit) (wCons (wV 0) wNil)) (wChain (fun i j => decide (i ≤ j)) (fun i j => decide (i ≤ j)) (wV 1) (wV 0) (wV 2))))
theorem b_is_between (T : Txt K mg CTable CWorld CSplit) (G_is_integer : Fn P wd K mg base 1 "is_integer" (Φ_is_integer K CTable CWorld CSplit)) {f : Addr} (cdv : Value) (A : Around) (outer : List Env) (s : Shared) (H : Hp) (E : XK) (hr : Room 1 (A.deeper (envOfC "is_between" (defScope s_is_between) s.heap.objs.size f cdv))) :
    PSs (cxOf (L2.CX P wd) P wd K mg base ["value", "least", "most"] "is_between" (defScope s_is_between) f cdv A outer s H E) (defBody s_is_between) (tS K (EW E) (w_is_between K CTable CWorld CSplit)) := by
  have sc := sc_is_between
  have tk : Takes (cxOf (L2.CX P wd) P wd K mg base ["value", "least", "most"] "is_between" (defScope s_is_between) f cdv A outer s H E) (EW E) := takes_of rfl rfl rfl rfl
  have pown : PassesOwn (model P wd) (cxOf (L2.CX P wd) P wd K mg base ["value", "least", "most"] "is_between" (defScope s_is_between) f cdv A outer s H E).A (cxOf (L2.CX P wd) P wd K mg base ["value", "least", "most"] "is_between" (defScope s_is_between) f cdv A outer s H E).env (cxOf (L2.CX P wd) P wd K mg base ["value", "least", "most"] "is_between" (defScope s_is_between) f cdv A outer s H E).xe := PassesOwn.leaving
  exact (ts_one (ts_ret (te_and (te_call G_is_integer hr tk (ta_cons (te_v 0) ta_nil)) (te_one (te_chain op_le op_le (te_v 1) (te_v 0) (te_v 2))))))
abbrev s_is_name : Stmt := top 13
theorem sc_is_name : FnScope ["value", "sign"] ["value"] (defScope s_is_name) := ⟨rfl, rfl, rfl, by decide +kernel, rfl, by decide +kernel, by decide +kernel⟩
def w_is_name (K : PySem.W.Frag) (CTable CWorld CSplit : Addr) : WSx := (wRet (wAndV (wF (o2 (fIsi K)) (wCons (wV 0) (wCons (wC (.ty "str")) wNil))) (wAndV (wChain (fun i j => decide (i ≤ j)) (fun i j => decide (i ≤ j)) (wC (.int 1)) (wF (o1 fLen) (wCons (wV 0) wNil)) (wC (.int (8)))) (wF (o1 (fAll fun bs => bs.all id)) (wCons (wLc (iOne iStrD (wV 0)) (gN 1) wYes (w2 (oIn false) (wV 1) (wC (.str ("abcdefghijklmnopqrstuvwxyz" : Str)))) [1]) wNil)))))
theorem b_is_name (T : Txt K mg CTable CWorld CSplit) {f : Addr} (cdv : Value) (A : Around) (outer : List Env) (s : Shared) (H : Hp) (E : XK) (hr : Room 0 (A.deeper (envOfC "is_name" (defScope s_is_name) s.heap.objs.size f cdv))) :
    PSs (cxOf (L2.CX P wd) P wd K mg base ["value", "sign"] "is_name" (defScope s_is_name) f cdv A outer s H E) (defBody s_is_name) (tS K (EW E) (w_is_name K CTable CWorld CSplit)) := by
  have sc := sc_is_name
  have tk : Takes (cxOf (L2.CX P wd) P wd K mg base ["value", "sign"] "is_name" (defScope s_is_name) f cdv A outer s H E) (EW E) := takes_of rfl rfl rfl rfl
  have pown : PassesOwn (model P wd) (cxOf (L2.CX P wd) P wd K mg base ["value", "sign"] "is_name" (defScope s_is_name) f cdv A outer s H E).A (cxOf (L2.CX P wd) P wd K mg base ["value", "sign"] "is_name" (defScope s_is_name) f cdv A outer s H E).env (cxOf (L2.CX P wd) P wd K mg base ["value", "sign"] "is_name" (defScope s_is_name) f cdv A outer s H E).xe := PassesOwn.leaving
  exact (ts_one (ts_ret (te_and (te_isi rfl (by rfl) T.b_isinstance (ta_cons (te_v 0) (ta_cons (te_ty "str" (by rfl) T.b_str (by decide +kernel)) ta_nil))) (te_and (te_chain op_le op_le te_int (te_len rfl (by rfl) T.b_len (ta_cons (te_v 0) ta_nil)) (te_gI T.c_MOST_SIGNS (by rfl))) (te_one (te_all rfl rfl (by rfl) T.b_all (ta_cons (te_lc rfl sc.nd (ti_str (te_v 0)) (blkOk_by (own := [("sign", 1)]) (by kernel_rfl)) (fun _ _ _ _ _ => (tg_name 1 sc.nd rfl (by first | exact Or.inl rfl | exact Or.inr rfl))) (fun _ _ _ _ _ => tts_nil) (fun _ _ _ _ _ => (te_in hr (te_v 1) (te_gS T.c_LETTERS (by rfl))))) ta_nil)))))))
abbrev s_is_listed : Stmt := top 14
theorem sc_is_listed : FnScope ["value"] ["value"] (defScope s_is_listed) := ⟨rfl, rfl, rfl, by decide +kernel, rfl, by decide +kernel, by decide +kernel⟩
def w_is_listed (K : PySem.W.Frag) (CTable CWorld CSplit : Addr) : WSx := (wRet (wF (o2 (fIsi K)) (wCons (wV 0) (wCons (wTup (wCons (wC (.ty "list")) (wCons (wC (.ty "tuple")) wNil))) wNil))))
theorem b_is_listed (T : Txt K mg CTable CWorld CSplit) {f : Addr} (cdv : Value) (A : Around) (outer : List Env) (s : Shared) (H : Hp) (E : XK) (hr : Room 0 (A.deeper (envOfC "is_listed" (defScope s_is_listed) s.heap.objs.size f cdv))) :
    PSs (cxOf (L2.CX P wd) P wd K mg base ["value"] "is_listed" (defScope s_is_listed) f cdv A outer s H E) (defBody s_is_listed) (tS K (EW E) (w_is_listed K CTable CWorld CSplit)) := by
  have sc := sc_is_listed
  have tk : Takes (cxOf (L2.CX P wd) P wd K mg base ["value"] "is_listed" (defScope s_is_listed) f cdv A outer s H E) (EW E) := takes_of rfl rfl rfl rfl
  have pown : PassesOwn (model P wd) (cxOf (L2.CX P wd) P wd K mg base ["value"] "is_listed" (defScope s_is_listed) f cdv A outer s H E).A (cxOf (L2.CX P wd) P wd K mg base ["value"] "is_listed" (defScope s_is_listed) f cdv A outer s H E).env (cxOf (L2.CX P wd) P wd K mg base ["value"] "is_listed" (defScope s_is_listed) f cdv A outer s H E).xe := PassesOwn.leaving
  exact (ts_one (ts_ret (te_isi rfl (by rfl) T.b_isinstance (ta_cons (te_v 0) (ta_cons (te_tup (ta_cons (te_ty "list" (by rfl) T.b_list (by decide +kernel)) (ta_cons (te_ty "tuple" (by rfl) T.b_tuple (by decide +kernel)) ta_nil))) ta_nil)))))
abbrev s_is_row : Stmt := top 15
theorem sc_is_row : FnScope ["value", "least", "most"] ["value", "least", "most"] (defScope s_is_row) := ⟨rfl, rfl, rfl, by decide +kernel, rfl, by decide +kernel, by decide +kernel⟩
def w_is_row (K : PySem.W.Frag) (CTable CWorld CSplit : Addr) : WSx := (wRet (wAndV (wCall (Φ_is_listed K CTable CWorld CSplit) (wCons (wV 0) wNil)) (wChain (fun i j => decide (i ≤ j)) (fun i j => decide (i ≤ j)) (wV 1) (wF (o1 fLen) (wCons (wV 0) wNil)) (wV 2))))
theorem b_is_row (T : Txt K mg CTable CWorld CSplit) (G_is_listed : Fn P wd K mg base 1 "is_listed" (Φ_is_listed K CTable CWorld CSplit)) {f : Addr} (cdv : Value) (A : Around) (outer : List Env) (s : Shared) (H : Hp) (E : XK) (hr : Room 1 (A.deeper (envOfC "is_row" (defScope s_is_row) s.heap.objs.size f cdv))) :
    PSs (cxOf (L2.CX P wd) P wd K mg base ["value", "least", "most"] "is_row" (defScope s_is_row) f cdv A outer s H E) (defBody s_is_row) (tS K (EW E) (w_is_row K CTable CWorld CSplit)) := by
  have sc := sc_is_row
  have tk : Takes (cxOf (L2.CX P wd) P wd K mg base ["value", "least", "most"] "is_row" (defScope s_is_row) f cdv A outer s H E) (EW E) := takes_of rfl rfl rfl rfl
  have pown : PassesOwn (model P wd) (cxOf (L2.CX P wd) P wd K mg base ["value", "least", "most"] "is_row" (defScope s_is_row) f cdv A outer s H E).A (cxOf (L2.CX P wd) P wd K mg base ["value", "least", "most"] "is_row" (defScope s_is_row) f cdv A outer s H E).env (cxOf (L2.CX P wd) P wd K mg base ["value", "least", "most"] "is_row" (defScope s_is_row) f cdv A outer s H E).xe := PassesOwn.leaving
  exact (ts_one (ts_ret (te_and (te_call G_is_listed hr tk (ta_cons (te_v 0) ta_nil)) (te_one (te_chain op_le op_le (te_v 1) (te_len rfl (by rfl) T.b_len (ta_cons (te_v 0) ta_nil)) (te_v 2))))))
abbrev s_common_part : Stmt := top 16
theorem sc_common_part : FnScope ["one", "other"] ["one", "other"] (defScope s_common_part) := ⟨rfl, rfl, rfl, by decide +kernel, rfl, by decide +kernel, by decide +kernel⟩
def w_common_part (K : PySem.W.Frag) (CTable CWorld CSplit : Addr) : WSx := (wSeq (wWhile (wT (w2 oGt (wV 1) (wC (.int 0)))) (wPar 0 1 (wV 1) (w2 oMod (wV 0) (wV 1)))) (wRet (wF (o2 (fII fun i j => if j > i then j else i)) (wCons (wV 0) (wCons (wC (.int 1)) wNil)))))
theorem b_common_part (T : Txt K mg CTable CWorld CSplit) {f : Addr} (cdv : Value) (A : Around) (outer : List Env) (s : Shared) (H : Hp) (E : XK) (hr : Room 0 (A.deeper (envOfC "common_part" (defScope s_common_part) s.heap.objs.size f cdv))) :
    PSs (cxOf (L2.CX P wd) P wd K mg base ["one", "other"] "common_part" (defScope s_common_part) f cdv A outer s H E) (defBody s_common_part) (tS K (EW E) (w_common_part K CTable CWorld CSplit)) := by
  have sc := sc_common_part
  have tk : Takes (cxOf (L2.CX P wd) P wd K mg base ["one", "other"] "common_part" (defScope s_common_part) f cdv A outer s H E) (EW E) := takes_of rfl rfl rfl rfl
  have pown : PassesOwn (model P wd) (cxOf (L2.CX P wd) P wd K mg base ["one", "other"] "common_part" (defScope s_common_part) f cdv A outer s H E).A (cxOf (L2.CX P wd) P wd K mg base ["one", "other"] "common_part" (defScope s_common_part) f cdv A outer s H E).env (cxOf (L2.CX P wd) P wd K mg base ["one", "other"] "common_part" (defScope s_common_part) f cdv A outer s H E).xe := PassesOwn.leaving
  exact (ts_cons (ts_while pown (tb_gt (te_v 1) te_int) (ts_one (ts_par 0 1 rfl sc.nd rfl rfl (by decide) rfl rfl (te_v 1) (te_mod (te_v 0) (te_v 1)))))
      (ts_one (ts_ret (te_max rfl rfl (by rfl) T.b_max (ta_cons (te_v 0) (ta_cons te_int ta_nil))))))
abbrev s_lowest : Stmt := top 17
theorem sc_lowest : FnScope ["top", "bottom", "part"] ["top", "bottom"] (defScope s_lowest) := ⟨rfl, rfl, rfl, by decide +kernel, rfl, by decide +kernel, by decide +kernel⟩
def w_lowest (K : PySem.W.Frag) (CTable CWorld CSplit : Addr) : WSx := (wSeq (wSet 2 (wCall (Φ_common_part K CTable CWorld CSplit) (wCons (wV 0) (wCons (wV 1) wNil)))) (wRet (wTup (wCons (w2 oDivW (wV 0) (wV 2)) (wCons (w2 oDivW (wV 1) (wV 2)) wNil)))))
theorem b_lowest (T : Txt K mg CTable CWorld CSplit) (G_common_part : Fn P wd K mg base 1 "common_part" (Φ_common_part K CTable CWorld CSplit)) {f : Addr} (cdv : Value) (A : Around) (outer : List Env) (s : Shared) (H : Hp) (E : XK) (hr : Room 1 (A.deeper (envOfC "lowest" (defScope s_lowest) s.heap.objs.size f cdv))) :
    PSs (cxOf (L2.CX P wd) P wd K mg base ["top", "bottom", "part"] "lowest" (defScope s_lowest) f cdv A outer s H E) (defBody s_lowest) (tS K (EW E) (w_lowest K CTable CWorld CSplit)) := by
  have sc := sc_lowest
  have tk : Takes (cxOf (L2.CX P wd) P wd K mg base ["top", "bottom", "part"] "lowest" (defScope s_lowest) f cdv A outer s H E) (EW E) := takes_of rfl rfl rfl rfl
  have pown : PassesOwn (model P wd) (cxOf (L2.CX P wd) P wd K mg base ["top", "bottom", "part"] "lowest" (defScope s_lowest) f cdv A outer s H E).A (cxOf (L2.CX P wd) P wd K mg base ["top", "bottom", "part"] "lowest" (defScope s_lowest) f cdv A outer s H E).env (cxOf (L2.CX P wd) P wd K mg base ["top", "bottom", "part"] "lowest" (defScope s_lowest) f cdv A outer s H E).xe := PassesOwn.leaving
  exact (ts_cons (ts_set 2 sc.nd rfl (by first | exact Or.inl rfl | exact Or.inr rfl) (te_call G_common_part hr tk (ta_cons (te_v 0) (ta_cons (te_v 1) ta_nil))))
      (ts_one (ts_ret (te_tup (ta_cons (te_divW (te_v 0) (te_v 2)) (ta_cons (te_divW (te_v 1) (te_v 2)) ta_nil))))))
abbrev s_power : Stmt := top 19
theorem sc_power : FnScope ["number", "many", "found"] ["number", "many"] (defScope s_power) := ⟨rfl, rfl, rfl, by decide +kernel, rfl, by decide +kernel, by decide +kernel⟩
def w_power (K : PySem.W.Frag) (CTable CWorld CSplit : Addr) : WSx := (wSeq (wSet 2 (wC (.int 1))) (wSeq (wWhile (wT (w2 oGt (wV 1) (wC (.int 0)))) (wSeq (wIfS (wT (w2 (oEq false) (w2 oMod (wV 1) (wC (.int 2))) (wC (.int 1)))) (wSet 2 (w2 oMulW (wV 2) (wV 0))) wNext) (wSeq (wSet 1 (w2 oDivW (wV 1) (wC (.int 2)))) (wIfS (wT (w2 oGt (wV 1) (wC (.int 0)))) (wSet 0 (w2 oMulW (wV 0) (wV 0))) wNext)))) (wRet (wV 2))))
theorem b_power (T : Txt K mg CTable CWorld CSplit) {f : Addr} (cdv : Value) (A : Around) (outer : List Env) (s : Shared) (H : Hp) (E : XK) (hr : Room 0 (A.deeper (envOfC "power" (defScope s_power) s.heap.objs.size f cdv))) :
    PSs (cxOf (L2.CX P wd) P wd K mg base ["number", "many", "found"] "power" (defScope s_power) f cdv A outer s H E) (defBody s_power) (tS K (EW E) (w_power K CTable CWorld CSplit)) := by
  have sc := sc_power
  have tk : Takes (cxOf (L2.CX P wd) P wd K mg base ["number", "many", "found"] "power" (defScope s_power) f cdv A outer s H E) (EW E) := takes_of rfl rfl rfl rfl
  have pown : PassesOwn (model P wd) (cxOf (L2.CX P wd) P wd K mg base ["number", "many", "found"] "power" (defScope s_power) f cdv A outer s H E).A (cxOf (L2.CX P wd) P wd K mg base ["number", "many", "found"] "power" (defScope s_power) f cdv A outer s H E).env (cxOf (L2.CX P wd) P wd K mg base ["number", "many", "found"] "power" (defScope s_power) f cdv A outer s H E).xe := PassesOwn.leaving
  exact (ts_cons (ts_set 2 sc.nd rfl (by first | exact Or.inl rfl | exact Or.inr rfl) te_int)
      (ts_cons (ts_while pown (tb_gt (te_v 1) te_int) (ts_cons (ts_if (tb_eq hr (te_mod (te_v 1) te_int) te_int) (ts_one (ts_set 2 sc.nd rfl (by first | exact Or.inl rfl | exact Or.inr rfl) (te_mulW (te_v 2) (te_v 0)))) ts_nil)
      (ts_cons (ts_set 1 sc.nd rfl (by first | exact Or.inl rfl | exact Or.inr rfl) (te_divW (te_v 1) te_int))
      (ts_one (ts_if (tb_gt (te_v 1) te_int) (ts_one (ts_set 0 sc.nd rfl (by first | exact Or.inl rfl | exact Or.inr rfl) (te_mulW (te_v 0) (te_v 0)))) ts_nil)))))
      (ts_one (ts_ret (te_v 2)))))
abbrev s_is_at_most : Stmt := top 20
theorem sc_is_at_most : FnScope ["number", "base", "threshold", "top", "bottom"] ["number", "base", "threshold"] (defScope s_is_at_most) := ⟨rfl, rfl, rfl, by decide +kernel, rfl, by decide +kernel, by decide +kernel⟩
def w_is_at_most (K : PySem.W.Frag) (CTable CWorld CSplit : Addr) : WSx := (wSeq (wAsgT (gT (gsCons (gN 3) (gsCons (gN 4) gsNil))) (wV 2)) (wRet (w2 oLe (wCall (Φ_power K CTable CWorld CSplit) (wCons (wV 0) (wCons (wV 4) wNil))) (wCall (Φ_power K CTable CWorld CSplit) (wCons (wV 1) (wCons (wV 3) wNil))))))
theorem b_is_at_most (T : Txt K mg CTable CWorld CSplit) (G_power : Fn P wd K mg base 1 "power" (Φ_power K CTable CWorld CSplit)) {f : Addr} (cdv : Value) (A : Around) (outer : List Env) (s : Shared) (H : Hp) (E : XK) (hr : Room 1 (A.deeper (envOfC "is_at_most" (defScope s_is_at_most) s.heap.objs.size f cdv))) :
    PSs (cxOf (L2.CX P wd) P wd K mg base ["number", "base", "threshold", "top", "bottom"] "is_at_most" (defScope s_is_at_most) f cdv A outer s H E) (defBody s_is_at_most) (tS K (EW E) (w_is_at_most K CTable CWorld CSplit)) := by
  have sc := sc_is_at_most
  have tk : Takes (cxOf (L2.CX P wd) P wd K mg base ["number", "base", "threshold", "top", "bottom"] "is_at_most" (defScope s_is_at_most) f cdv A outer s H E) (EW E) := takes_of rfl rfl rfl rfl
  have pown : PassesOwn (model P wd) (cxOf (L2.CX P wd) P wd K mg base ["number", "base", "threshold", "top", "bottom"] "is_at_most" (defScope s_is_at_most) f cdv A outer s H E).A (cxOf (L2.CX P wd) P wd K mg base ["number", "base", "threshold", "top", "bottom"] "is_at_most" (defScope s_is_at_most) f cdv A outer s H E).env (cxOf (L2.CX P wd) P wd K mg base ["number", "base", "threshold", "top", "bottom"] "is_at_most" (defScope s_is_at_most) f cdv A outer s H E).xe := PassesOwn.leaving
  exact (ts_cons (ts_asgT (te_v 2) (tg_tup 2 rfl (tgs_cons (tg_name 3 sc.nd rfl (by first | exact Or.inl rfl | exact Or.inr rfl)) (tgs_cons (tg_name 4 sc.nd rfl (by first | exact Or.inl rfl | exact Or.inr rfl)) tgs_nil)) gs2))
      (ts_one (ts_ret (te_le (te_call G_power hr tk (ta_cons (te_v 0) (ta_cons (te_v 4) ta_nil))) (te_call G_power hr tk (ta_cons (te_v 1) (ta_cons (te_v 3) ta_nil)))))))
abbrev s_Table_init : Stmt := inClass (top 23) 0
theorem sc_Table_init : FnScope ["self", "name", "width"] ["self", "name", "width"] (defScope s_Table_init) := ⟨rfl, rfl, rfl, by decide +kernel, rfl, by decide +kernel, by decide +kernel⟩
def w_Table_init (K : PySem.W.Frag) (CTable CWorld CSplit : Addr) : WSx := (wSeq (wIfS (wNot (wT (wCall (Φ_is_name K CTable CWorld CSplit) (wCons (wV 1) wNil)))) (fun _ _ => False) wNext) (wSeq (wIfS (wNot (wT (wCall (Φ_is_between K CTable CWorld CSplit) (wCons (wV 2) (wCons (wC (.int 1)) (wCons (wC (.int (2))) wNil)))))) (fun _ _ => False) wNext) (wAsgE (geT (geCons (geF 0 CTable "name") (geCons (geF 0 CTable "width") geNil))) (wTup (wCons (wV 1) (wCons (wV 2) wNil))))))
theorem b_Table_init (T : Txt K mg CTable CWorld CSplit) (G_is_between : Fn P wd K mg base 2 "is_between" (Φ_is_between K CTable CWorld CSplit)) (G_is_name : Fn P wd K mg base 1 "is_name" (Φ_is_name K CTable CWorld CSplit)) {f : Addr} (cdv : Value) (A : Around) (outer : List Env) (s : Shared) (H : Hp) (E : XK) (hr : Room 2 (A.deeper (envOfC "Table.__init__" (defScope s_Table_init) s.heap.objs.size f cdv))) :
    PSs (cxOf (L2.CX P wd) P wd K mg base ["self", "name", "width"] "Table.__init__" (defScope s_Table_init) f cdv A outer s H E) (defBody s_Table_init) (tS K (EW E) (w_Table_init K CTable CWorld CSplit)) := by
  have sc := sc_Table_init
  have tk : Takes (cxOf (L2.CX P wd) P wd K mg base ["self", "name", "width"] "Table.__init__" (defScope s_Table_init) f cdv A outer s H E) (EW E) := takes_of rfl rfl rfl rfl
  have pown : PassesOwn (model P wd) (cxOf (L2.CX P wd) P wd K mg base ["self", "name", "width"] "Table.__init__" (defScope s_Table_init) f cdv A outer s H E).A (cxOf (L2.CX P wd) P wd K mg base ["self", "name", "width"] "Table.__init__" (defScope s_Table_init) f cdv A outer s H E).env (cxOf (L2.CX P wd) P wd K mg base ["self", "name", "width"] "Table.__init__" (defScope s_Table_init) f cdv A outer s H E).xe := PassesOwn.leaving
  exact (ts_cons (ts_if (tb_not (tb_val (te_call G_is_name hr tk (ta_cons (te_v 1) ta_nil)))) tss_never ts_nil)
      (ts_cons (ts_if (tb_not (tb_val (te_call G_is_between hr tk (ta_cons (te_v 2) (ta_cons te_int (ta_cons (te_gI T.c_MOST_WIDTH (by rfl)) ta_nil)))))) tss_never ts_nil)
      (ts_one (ts_asgE (te_tup (ta_cons (te_v 1) (ta_cons (te_v 2) ta_nil))) (tge_tup 2 rfl (tges_cons (tge_fld 0 T.k_Table T.n_Table_name) (tges_cons (tge_fld 0 T.k_Table T.n_Table_width) tges_nil)) ge2)))))
abbrev s_Table_eq : Stmt := inClass (top 23) 1
theorem sc_Table_eq : FnScope ["self", "other"] ["self", "other"] (defScope s_Table_eq) := ⟨rfl, rfl, rfl, by decide +kernel, rfl, by decide +kernel, by decide +kernel⟩
def w_Table_eq (K : PySem.W.Frag) (CTable CWorld CSplit : Addr) : WSx := (wRet (wAndV (wF (o2 (fIsi K)) (wCons (wV 1) (wCons (wC (.obj CTable)) wNil))) (w2 (oEq false) (wTup (wCons (wFld K "name" (wV 0)) (wCons (wFld K "width" (wV 0)) wNil))) (wTup (wCons (wFld K "name" (wV 1)) (wCons (wFld K "width" (wV 1)) wNil))))))
theorem b_Table_eq (T : Txt K mg CTable CWorld CSplit) {f : Addr} (cdv : Value) (A : Around) (outer : List Env) (s : Shared) (H : Hp) (E : XK) (hr : Room 0 (A.deeper (envOfC "Table.__eq__" (defScope s_Table_eq) s.heap.objs.size f cdv))) :
    PSs (cxOf (L2.CX P wd) P wd K mg base ["self", "other"] "Table.__eq__" (defScope s_Table_eq) f cdv A outer s H E) (defBody s_Table_eq) (tS K (EW E) (w_Table_eq K CTable CWorld CSplit)) := by
  have sc := sc_Table_eq
  have tk : Takes (cxOf (L2.CX P wd) P wd K mg base ["self", "other"] "Table.__eq__" (defScope s_Table_eq) f cdv A outer s H E) (EW E) := takes_of rfl rfl rfl rfl
  have pown : PassesOwn (model P wd) (cxOf (L2.CX P wd) P wd K mg base ["self", "other"] "Table.__eq__" (defScope s_Table_eq) f cdv A outer s H E).A (cxOf (L2.CX P wd) P wd K mg base ["self", "other"] "Table.__eq__" (defScope s_Table_eq) f cdv A outer s H E).env (cxOf (L2.CX P wd) P wd K mg base ["self", "other"] "Table.__eq__" (defScope s_Table_eq) f cdv A outer s H E).xe := PassesOwn.leaving
  exact (ts_one (ts_ret (te_and (te_isi rfl (by rfl) T.b_isinstance (ta_cons (te_v 1) (ta_cons (te_gC T.m_Table (by rfl)) ta_nil))) (te_one (te_eq hr (te_tup (ta_cons (te_fld (te_v 0)) (ta_cons (te_fld (te_v 0)) ta_nil))) (te_tup (ta_cons (te_fld (te_v 1)) (ta_cons (te_fld (te_v 1)) ta_nil))))))))
abbrev s_are_tables : Stmt := top 24
theorem sc_are_tables : FnScope ["value", "most", "one"] ["value", "most"] (defScope s_are_tables) := ⟨rfl, rfl, rfl, by decide +kernel, rfl, by decide +kernel, by decide +kernel⟩
def w_are_tables (K : PySem.W.Frag) (CTable CWorld CSplit : Addr) : WSx := (wSeq (wIfS (wOr (wNot (wT (wCall (Φ_is_row K CTable CWorld CSplit) (wCons (wV 0) (wCons (wC (.int 1)) (wCons (wV 1) wNil)))))) (wNot (wT (wF (o1 (fAll fun bs => bs.all id)) (wCons (wLc (iSeq (wV 0)) (gN 2) wYes (wF (o2 (fIsi K)) (wCons (wV 2) (wCons (wC (.obj CTable)) wNil))) [2]) wNil))))) (wRet (wC (.bl false))) wNext) (wRet (w2 (oEq false) (wF (o1 fLen) (wCons (wDc (iSeq (wV 0)) (gN 2) wYes (wFld K "name" (wV 2)) (wC (.bl true)) [2]) wNil)) (wF (o1 fLen) (wCons (wV 0) wNil)))))
theorem b_are_tables (T : Txt K mg CTable CWorld CSplit) (G_is_row : Fn P wd K mg base 2 "is_row" (Φ_is_row K CTable CWorld CSplit)) {f : Addr} (cdv : Value) (A : Around) (outer : List Env) (s : Shared) (H : Hp) (E : XK) (hr : Room 2 (A.deeper (envOfC "are_tables" (defScope s_are_tables) s.heap.objs.size f cdv))) :
    PSs (cxOf (L2.CX P wd) P wd K mg base ["value", "most", "one"] "are_tables" (defScope s_are_tables) f cdv A outer s H E) (defBody s_are_tables) (tS K (EW E) (w_are_tables K CTable CWorld CSplit)) := by
  have sc := sc_are_tables
  have tk : Takes (cxOf (L2.CX P wd) P wd K mg base ["value", "most", "one"] "are_tables" (defScope s_are_tables) f cdv A outer s H E) (EW E) := takes_of rfl rfl rfl rfl
  have pown : PassesOwn (model P wd) (cxOf (L2.CX P wd) P wd K mg base ["value", "most", "one"] "are_tables" (defScope s_are_tables) f cdv A outer s H E).A (cxOf (L2.CX P wd) P wd K mg base ["value", "most", "one"] "are_tables" (defScope s_are_tables) f cdv A outer s H E).env (cxOf (L2.CX P wd) P wd K mg base ["value", "most", "one"] "are_tables" (defScope s_are_tables) f cdv A outer s H E).xe := PassesOwn.leaving
  exact (ts_cons (ts_if (PW.pt (tw_or (tb_not (tb_val (te_call G_is_row hr tk (ta_cons (te_v 0) (ta_cons te_int (ta_cons (te_v 1) ta_nil)))))) (tw_or1 (tb_not (tb_val (te_all rfl rfl (by rfl) T.b_all (ta_cons (te_lc rfl sc.nd (ti_seq (te_v 0)) (blkOk_by (own := [("one", 2)]) (by kernel_rfl)) (fun _ _ _ _ _ => (tg_name 2 sc.nd rfl (by first | exact Or.inl rfl | exact Or.inr rfl))) (fun _ _ _ _ _ => tts_nil) (fun _ _ _ _ _ => (te_isi rfl (by rfl) T.b_isinstance (ta_cons (te_v 2) (ta_cons (te_gC T.m_Table (by rfl)) ta_nil))))) ta_nil))))))) (ts_one (ts_ret te_bl)) ts_nil)
      (ts_one (ts_ret (te_eq hr (te_len rfl (by rfl) T.b_len (ta_cons (te_dc rfl sc.nd (ti_seq (te_v 0)) (blkOk_by (own := [("one", 2)]) (by kernel_rfl)) (fun _ _ _ _ _ => (tg_name 2 sc.nd rfl (by first | exact Or.inl rfl | exact Or.inr rfl))) (fun _ _ _ _ _ => tts_nil) (fun _ _ _ _ _ => (te_fld (te_v 2))) (fun _ _ _ _ _ => te_bl)) ta_nil)) (te_len rfl (by rfl) T.b_len (ta_cons (te_v 0) ta_nil))))))
abbrev s_by_names : Stmt := top 25
theorem sc_by_names : FnScope ["tables", "one"] ["tables"] (defScope s_by_names) := ⟨rfl, rfl, rfl, by decide +kernel, rfl, by decide +kernel, by decide +kernel⟩
def w_by_names (K : PySem.W.Frag) (CTable CWorld CSplit : Addr) : WSx := (wRet (wDc (iSeq (wV 0)) (gN 1) wYes (wFld K "name" (wV 1)) (wV 1) [1]))
theorem b_by_names (T : Txt K mg CTable CWorld CSplit) {f : Addr} (cdv : Value) (A : Around) (outer : List Env) (s : Shared) (H : Hp) (E : XK) (hr : Room 0 (A.deeper (envOfC "by_names" (defScope s_by_names) s.heap.objs.size f cdv))) :
    PSs (cxOf (L2.CX P wd) P wd K mg base ["tables", "one"] "by_names" (defScope s_by_names) f cdv A outer s H E) (defBody s_by_names) (tS K (EW E) (w_by_names K CTable CWorld CSplit)) := by
  have sc := sc_by_names
  have tk : Takes (cxOf (L2.CX P wd) P wd K mg base ["tables", "one"] "by_names" (defScope s_by_names) f cdv A outer s H E) (EW E) := takes_of rfl rfl rfl rfl
  have pown : PassesOwn (model P wd) (cxOf (L2.CX P wd) P wd K mg base ["tables", "one"] "by_names" (defScope s_by_names) f cdv A outer s H E).A (cxOf (L2.CX P wd) P wd K mg base ["tables", "one"] "by_names" (defScope s_by_names) f cdv A outer s H E).env (cxOf (L2.CX P wd) P wd K mg base ["tables", "one"] "by_names" (defScope s_by_names) f cdv A outer s H E).xe := PassesOwn.leaving
  exact (ts_one (ts_ret (te_dc rfl sc.nd (ti_seq (te_v 0)) (blkOk_by (own := [("one", 1)]) (by kernel_rfl)) (fun _ _ _ _ _ => (tg_name 1 sc.nd rfl (by first | exact Or.inl rfl | exact Or.inr rfl))) (fun _ _ _ _ _ => tts_nil) (fun _ _ _ _ _ => (te_fld (te_v 1))) (fun _ _ _ _ _ => (te_v 1)))))
abbrev s_is_row_of : Stmt := top 30
theorem sc_is_row_of : FnScope ["table", "value", "one"] ["table", "value"] (defScope s_is_row_of) := ⟨rfl, rfl, rfl, by decide +kernel, rfl, by decide +kernel, by decide +kernel⟩
def w_is_row_of (K : PySem.W.Frag) (CTable CWorld CSplit : Addr) : WSx := (wSeq (wIfS (wNot (wT (wCall (Φ_is_row K CTable CWorld CSplit) (wCons (wV 1) (wCons (wFld K "width" (wV 0)) (wCons (wFld K "width" (wV 0)) wNil)))))) (wRet (wC (.bl false))) wNext) (wRet (wF (o1 (fAll fun bs => bs.all id)) (wCons (wLc (iSeq (wV 1)) (gN 2) wYes (wCall (Φ_is_between K CTable CWorld CSplit) (wCons (wV 2) (wCons (wNeg (wC (.int (1000000000000000000000000000000)))) (wCons (wC (.int (1000000000000000000000000000000))) wNil)))) [2]) wNil))))
theorem b_is_row_of (T : Txt K mg CTable CWorld CSplit) (G_is_between : Fn P wd K mg base 2 "is_between" (Φ_is_between K CTable CWorld CSplit)) (G_is_row : Fn P wd K mg base 2 "is_row" (Φ_is_row K CTable CWorld CSplit)) {f : Addr} (cdv : Value) (A : Around) (outer : List Env) (s : Shared) (H : Hp) (E : XK) (hr : Room 2 (A.deeper (envOfC "is_row_of" (defScope s_is_row_of) s.heap.objs.size f cdv))) :
    PSs (cxOf (L2.CX P wd) P wd K mg base ["table", "value", "one"] "is_row_of" (defScope s_is_row_of) f cdv A outer s H E) (defBody s_is_row_of) (tS K (EW E) (w_is_row_of K CTable CWorld CSplit)) := by
  have sc := sc_is_row_of
  have tk : Takes (cxOf (L2.CX P wd) P wd K mg base ["table", "value", "one"] "is_row_of" (defScope s_is_row_of) f cdv A outer s H E) (EW E) := takes_of rfl rfl rfl rfl
  have pown : PassesOwn (model P wd) (cxOf (L2.CX P wd) P wd K mg base ["table", "value", "one"] "is_row_of" (defScope s_is_row_of) f cdv A outer s H E).A (cxOf (L2.CX P wd) P wd K mg base ["table", "value", "one"] "is_row_of" (defScope s_is_row_of) f cdv A outer s H E).env (cxOf (L2.CX P wd) P wd K mg base ["table", "value", "one"] "is_row_of" (defScope s_is_row_of) f cdv A outer s H E).xe := PassesOwn.leaving
  exact (ts_cons (ts_if (tb_not (tb_val (te_call G_is_row hr tk (ta_cons (te_v 1) (ta_cons (te_fld (te_v 0)) (ta_cons (te_fld (te_v 0)) ta_nil)))))) (ts_one (ts_ret te_bl)) ts_nil)
      (ts_one (ts_ret (te_all rfl rfl (by rfl) T.b_all (ta_cons (te_lc rfl sc.nd (ti_seq (te_v 1)) (blkOk_by (own := [("one", 2)]) (by kernel_rfl)) (fun _ _ _ _ _ => (tg_name 2 sc.nd rfl (by first | exact Or.inl rfl | exact Or.inr rfl))) (fun _ _ _ _ _ => tts_nil) (fun _ _ _ _ _ => (te_call G_is_between hr takes00 (ta_cons (te_v 2) (ta_cons (te_neg (te_gI T.c_MOST_VALUE (by rfl))) (ta_cons (te_gI T.c_MOST_VALUE (by rfl)) ta_nil)))))) ta_nil)))))
abbrev s_are_rows_of : Stmt := top 31
theorem sc_are_rows_of : FnScope ["table", "value", "row"] ["table", "value"] (defScope s_are_rows_of) := ⟨rfl, rfl, rfl, by decide +kernel, rfl, by decide +kernel, by decide +kernel⟩
def w_are_rows_of (K : PySem.W.Frag) (CTable CWorld CSplit : Addr) : WSx := (wSeq (wIfS (wOr (wNot (wT (wCall (Φ_is_listed K CTable CWorld CSplit) (wCons (wV 1) wNil)))) (wNot (wT (wF (o1 (fAll fun bs => bs.all id)) (wCons (wLc (iSeq (wV 1)) (gN 2) wYes (wCall (Φ_is_row_of K CTable CWorld CSplit) (wCons (wV 0) (wCons (wV 2) wNil))) [2]) wNil))))) (wRet (wC (.bl false))) wNext) (wRet (w2 oLe (wF (o1 fLen) (wCons (wDcT (iSeq (wV 1)) (gN 2) wYes (wF (o1 fTup) (wCons (wV 2) wNil)) (wC (.bl true)) [2]) wNil)) (wC (.int (20000))))))
theorem b_are_rows_of (T : Txt K mg CTable CWorld CSplit) (G_is_listed : Fn P wd K mg base 1 "is_listed" (Φ_is_listed K CTable CWorld CSplit)) (G_is_row_of : Fn P wd K mg base 3 "is_row_of" (Φ_is_row_of K CTable CWorld CSplit)) {f : Addr} (cdv : Value) (A : Around) (outer : List Env) (s : Shared) (H : Hp) (E : XK) (hr : Room 3 (A.deeper (envOfC "are_rows_of" (defScope s_are_rows_of) s.heap.objs.size f cdv))) :
    PSs (cxOf (L2.CX P wd) P wd K mg base ["table", "value", "row"] "are_rows_of" (defScope s_are_rows_of) f cdv A outer s H E) (defBody s_are_rows_of) (tS K (EW E) (w_are_rows_of K CTable CWorld CSplit)) := by
  have sc := sc_are_rows_of
  have tk : Takes (cxOf (L2.CX P wd) P wd K mg base ["table", "value", "row"] "are_rows_of" (defScope s_are_rows_of) f cdv A outer s H E) (EW E) := takes_of rfl rfl rfl rfl
  have pown : PassesOwn (model P wd) (cxOf (L2.CX P wd) P wd K mg base ["table", "value", "row"] "are_rows_of" (defScope s_are_rows_of) f cdv A outer s H E).A (cxOf (L2.CX P wd) P wd K mg base ["table", "value", "row"] "are_rows_of" (defScope s_are_rows_of) f cdv A outer s H E).env (cxOf (L2.CX P wd) P wd K mg base ["table", "value", "row"] "are_rows_of" (defScope s_are_rows_of) f cdv A outer s H E).xe := PassesOwn.leaving
  exact (ts_cons (ts_if (PW.pt (tw_or (tb_not (tb_val (te_call G_is_listed hr tk (ta_cons (te_v 1) ta_nil)))) (tw_or1 (tb_not (tb_val (te_all rfl rfl (by rfl) T.b_all (ta_cons (te_lc rfl sc.nd (ti_seq (te_v 1)) (blkOk_by (own := [("row", 2)]) (by kernel_rfl)) (fun _ _ _ _ _ => (tg_name 2 sc.nd rfl (by first | exact Or.inl rfl | exact Or.inr rfl))) (fun _ _ _ _ _ => tts_nil) (fun _ _ _ _ _ => (te_call G_is_row_of hr takes00 (ta_cons (te_v 0) (ta_cons (te_v 2) ta_nil))))) ta_nil))))))) (ts_one (ts_ret te_bl)) ts_nil)
      (ts_one (ts_ret (te_le (te_len rfl (by rfl) T.b_len (ta_cons (te_dcT hr rfl sc.nd (ti_seq (te_v 1)) (blkOk_by (own := [("row", 2)]) (by kernel_rfl)) (fun _ _ _ _ _ => (tg_name 2 sc.nd rfl (by first | exact Or.inl rfl | exact Or.inr rfl))) (fun _ _ _ _ _ => tts_nil) (fun _ _ _ _ _ => (te_toTup rfl (by rfl) T.b_tuple (ta_cons (te_v 2) ta_nil))) (fun _ _ _ _ _ => te_bl)) ta_nil)) (te_gI T.c_MOST_ROWS (by rfl))))))
abbrev s_World_init : Stmt := inClass (top 32) 0
theorem sc_World_init : FnScope ["self", "tables", "rows", "table", "some", "row"] ["self", "tables", "rows"] (defScope s_World_init) := ⟨rfl, rfl, rfl, by decide +kernel, rfl, by decide +kernel, by decide +kernel⟩
def w_World_init (K : PySem.W.Frag) (CTable CWorld CSplit : Addr) : WSx := (wSeq (wIfS (wNot (wT (wCall (Φ_are_tables K CTable CWorld CSplit) (wCons (wV 1) (wCons (wC (.int (6))) wNil))))) (fun _ _ => False) wNext) (wSeq (wIfS (wNot (wT (wCall (Φ_is_row K CTable CWorld CSplit) (wCons (wV 2) (wCons (wF (o1 fLen) (wCons (wV 1) wNil)) (wCons (wF (o1 fLen) (wCons (wV 1) wNil)) wNil)))))) (fun _ _ => False) wNext) (wSeq (wIfS (wNot (wT (wF (o1 (fAll fun bs => bs.all id)) (wCons (wLc (iZip (wV 1) (wV 2)) (gT (gsCons (gN 3) (gsCons (gN 4) gsNil))) wYes (wCall (Φ_are_rows_of K CTable CWorld CSplit) (wCons (wV 3) (wCons (wV 4) wNil))) [3, 4]) wNil)))) (fun _ _ => False) wNext) (wSeq (wAsgE (geF 0 CWorld "tables") (wF (o1 fTup) (wCons (wV 1) wNil))) (wAsgE (geF 0 CWorld "rows") (wF (o1 fTup) (wCons (wLc (iSeq (wV 2)) (gN 4) wYes (wF (o1 fTup) (wCons (wF (o1 fSort) (wCons (wDcT (iSeq (wV 4)) (gN 5) wYes (wF (o1 fTup) (wCons (wV 5) wNil)) (wC (.bl true)) [5]) wNil)) wNil)) [4]) wNil)))))))
theorem b_World_init (T : Txt K mg CTable CWorld CSplit) (G_are_rows_of : Fn P wd K mg base 4 "are_rows_of" (Φ_are_rows_of K CTable CWorld CSplit)) (G_are_tables : Fn P wd K mg base 3 "are_tables" (Φ_are_tables K CTable CWorld CSplit)) (G_is_row : Fn P wd K mg base 2 "is_row" (Φ_is_row K CTable CWorld CSplit)) {f : Addr} (cdv : Value) (A : Around) (outer : List Env) (s : Shared) (H : Hp) (E : XK) (hr : Room 4 (A.deeper (envOfC "World.__init__" (defScope s_World_init) s.heap.objs.size f cdv))) :
    PSs (cxOf (L2.CX P wd) P wd K mg base ["self", "tables", "rows", "table", "some", "row"] "World.__init__" (defScope s_World_init) f cdv A outer s H E) (defBody s_World_init) (tS K (EW E) (w_World_init K CTable CWorld CSplit)) := by
  have sc := sc_World_init
  have tk : Takes (cxOf (L2.CX P wd) P wd K mg base ["self", "tables", "rows", "table", "some", "row"] "World.__init__" (defScope s_World_init) f cdv A outer s H E) (EW E) := takes_of rfl rfl rfl rfl
  have pown : PassesOwn (model P wd) (cxOf (L2.CX P wd) P wd K mg base ["self", "tables", "rows", "table", "some", "row"] "World.__init__" (defScope s_World_init) f cdv A outer s H E).A (cxOf (L2.CX P wd) P wd K mg base ["self", "tables", "rows", "table", "some", "row"] "World.__init__" (defScope s_World_init) f cdv A outer s H E).env (cxOf (L2.CX P wd) P wd K mg base ["self", "tables", "rows", "table", "some", "row"] "World.__init__" (defScope s_World_init) f cdv A outer s H E).xe := PassesOwn.leaving
  exact (ts_cons (ts_if (tb_not (tb_val (te_call G_are_tables hr tk (ta_cons (te_v 1) (ta_cons (te_gI T.c_MOST_TABLES (by rfl)) ta_nil))))) tss_never ts_nil)
      (ts_cons (ts_if (tb_not (tb_val (te_call G_is_row hr tk (ta_cons (te_v 2) (ta_cons (te_len rfl (by rfl) T.b_len (ta_cons (te_v 1) ta_nil)) (ta_cons (te_len rfl (by rfl) T.b_len (ta_cons (te_v 1) ta_nil)) ta_nil)))))) tss_never ts_nil)
      (ts_cons (ts_if (tb_not (tb_val (te_all rfl rfl (by rfl) T.b_all (ta_cons (te_lc rfl sc.nd (ti_zip (by rfl) T.b_zip (te_v 1) (te_v 2)) (blkOk_by (own := [("table", 3), ("some", 4)]) (by kernel_rfl)) (fun _ _ _ _ _ => (tg_tup 2 rfl (tgs_cons (tg_name 3 sc.nd rfl (by first | exact Or.inl rfl | exact Or.inr rfl)) (tgs_cons (tg_name 4 sc.nd rfl (by first | exact Or.inl rfl | exact Or.inr rfl)) tgs_nil)) gs2)) (fun _ _ _ _ _ => tts_nil) (fun _ _ _ _ _ => (te_call G_are_rows_of hr takes00 (ta_cons (te_v 3) (ta_cons (te_v 4) ta_nil))))) ta_nil)))) tss_never ts_nil)
      (ts_cons (ts_asgE (te_toTup rfl (by rfl) T.b_tuple (ta_cons (te_v 1) ta_nil)) (tge_fld 0 T.k_World T.n_World_tables))
      (ts_one (ts_asgE (te_toTup rfl (by rfl) T.b_tuple (ta_cons (te_lc rfl sc.nd (ti_seq (te_v 2)) (blkOk_by (own := [("some", 4)]) (by kernel_rfl)) (fun _ _ _ _ _ => (tg_name 4 sc.nd rfl (by first | exact Or.inl rfl | exact Or.inr rfl))) (fun _ _ _ _ _ => tts_nil) (fun _ _ _ _ _ => (te_toTup rfl (by rfl) T.b_tuple (ta_cons (te_sorted rfl hr rfl (by rfl) T.b_sorted (ta_cons (te_dcT hr rfl sc.nd (ti_seq (te_v 4)) (blkOk_by (own := [("row", 5)]) (by kernel_rfl)) (fun _ _ _ _ _ => (tg_name 5 sc.nd rfl (by first | exact Or.inl rfl | exact Or.inr rfl))) (fun _ _ _ _ _ => tts_nil) (fun _ _ _ _ _ => (te_toTup rfl (by rfl) T.b_tuple (ta_cons (te_v 5) ta_nil))) (fun _ _ _ _ _ => te_bl)) ta_nil)) ta_nil)))) ta_nil)) (tge_fld 0 T.k_World T.n_World_rows)))))))
abbrev s_World_index : Stmt := inClass (top 32) 2
theorem sc_World_index : FnScope ["self", "name", "at", "table"] ["self", "name"] (defScope s_World_index) := ⟨rfl, rfl, rfl, by decide +kernel, rfl, by decide +kernel, by decide +kernel⟩
def w_World_index (K : PySem.W.Frag) (CTable CWorld CSplit : Addr) : WSx := (wSeq (wFor (iOne (fun d => (seqD d).map (enumD 0)) (wFld K "tables" (wV 0))) (gT (gsCons (gN 2) (gsCons (gN 3) gsNil))) (wIfS (wAnd (wT (wF (o2 (fIsi K)) (wCons (wV 1) (wCons (wC (.ty "str")) wNil)))) (wT (w2 (oEq false) (wFld K "name" (wV 3)) (wV 1)))) (wRet (wV 2)) wNext)) (wRet (wC .non)))
theorem b_World_index (T : Txt K mg CTable CWorld CSplit) {f : Addr} (cdv : Value) (A : Around) (outer : List Env) (s : Shared) (H : Hp) (E : XK) (hr : Room 0 (A.deeper (envOfC "World.index" (defScope s_World_index) s.heap.objs.size f cdv))) :
    PSs (cxOf (L2.CX P wd) P wd K mg base ["self", "name", "at", "table"] "World.index" (defScope s_World_index) f cdv A outer s H E) (defBody s_World_index) (tS K (EW E) (w_World_index K CTable CWorld CSplit)) := by
  have sc := sc_World_index
  have tk : Takes (cxOf (L2.CX P wd) P wd K mg base ["self", "name", "at", "table"] "World.index" (defScope s_World_index) f cdv A outer s H E) (EW E) := takes_of rfl rfl rfl rfl
  have pown : PassesOwn (model P wd) (cxOf (L2.CX P wd) P wd K mg base ["self", "name", "at", "table"] "World.index" (defScope s_World_index) f cdv A outer s H E).A (cxOf (L2.CX P wd) P wd K mg base ["self", "name", "at", "table"] "World.index" (defScope s_World_index) f cdv A outer s H E).env (cxOf (L2.CX P wd) P wd K mg base ["self", "name", "at", "table"] "World.index" (defScope s_World_index) f cdv A outer s H E).xe := PassesOwn.leaving
  exact (ts_cons (ts_for pown rfl (ti_enum (by rfl) T.b_enumerate (te_fld (te_v 0))) (tg_tup 2 rfl (tgs_cons (tg_name 2 sc.nd rfl (by first | exact Or.inl rfl | exact Or.inr rfl)) (tgs_cons (tg_name 3 sc.nd rfl (by first | exact Or.inl rfl | exact Or.inr rfl)) tgs_nil)) gs2) (ts_one (ts_if (PW.pt (tw_and (tb_val (te_isi rfl (by rfl) T.b_isinstance (ta_cons (te_v 1) (ta_cons (te_ty "str" (by rfl) T.b_str (by decide +kernel)) ta_nil)))) (tw_and1 (tb_eq hr (te_fld (te_v 3)) (te_v 1))))) (ts_one (ts_ret (te_v 2))) ts_nil)))
      (ts_one (ts_ret te_non)))
abbrev s_World_need_index : Stmt := inClass (top 32) 3
theorem sc_World_need_index : FnScope ["self", "name", "at"] ["self", "name"] (defScope s_World_need_index) := ⟨rfl, rfl, rfl, by decide +kernel, rfl, by decide +kernel, by decide +kernel⟩
def w_World_need_index (K : PySem.W.Frag) (CTable CWorld CSplit : Addr) : WSx := (wSeq (wSet 2 (wMeth CWorld "index" (Φ_World_index K CTable CWorld CSplit) (wV 0) (wCons (wV 1) wNil))) (wSeq (wIfS (wT (wIsN false (wV 2))) (fun _ _ => False) wNext) (wRet (wV 2))))
theorem b_World_need_index (T : Txt K mg CTable CWorld CSplit) (N_World_index : Mt P wd K mg base 1 CWorld "index" (Φ_World_index K CTable CWorld CSplit)) {f : Addr} (cdv : Value) (A : Around) (outer : List Env) (s : Shared) (H : Hp) (E : XK) (hr : Room 1 (A.deeper (envOfC "World.need_index" (defScope s_World_need_index) s.heap.objs.size f cdv))) :
    PSs (cxOf (L2.CX P wd) P wd K mg base ["self", "name", "at"] "World.need_index" (defScope s_World_need_index) f cdv A outer s H E) (defBody s_World_need_index) (tS K (EW E) (w_World_need_index K CTable CWorld CSplit)) := by
  have sc := sc_World_need_index
  have tk : Takes (cxOf (L2.CX P wd) P wd K mg base ["self", "name", "at"] "World.need_index" (defScope s_World_need_index) f cdv A outer s H E) (EW E) := takes_of rfl rfl rfl rfl
  have pown : PassesOwn (model P wd) (cxOf (L2.CX P wd) P wd K mg base ["self", "name", "at"] "World.need_index" (defScope s_World_need_index) f cdv A outer s H E).A (cxOf (L2.CX P wd) P wd K mg base ["self", "name", "at"] "World.need_index" (defScope s_World_need_index) f cdv A outer s H E).env (cxOf (L2.CX P wd) P wd K mg base ["self", "name", "at"] "World.need_index" (defScope s_World_need_index) f cdv A outer s H E).xe := PassesOwn.leaving
  exact (ts_cons (ts_set 2 sc.nd rfl (by first | exact Or.inl rfl | exact Or.inr rfl) (te_meth (E := E) N_World_index hr tk (te_v 0) (ta_cons (te_v 1) ta_nil)))
      (ts_cons (ts_if (tb_isN (te_v 2)) tss_never ts_nil)
      (ts_one (ts_ret (te_v 2)))))
abbrev s_World_rows_of : Stmt := inClass (top 32) 4
theorem sc_World_rows_of : FnScope ["self", "name"] ["self", "name"] (defScope s_World_rows_of) := ⟨rfl, rfl, rfl, by decide +kernel, rfl, by decide +kernel, by decide +kernel⟩
def w_World_rows_of (K : PySem.W.Frag) (CTable CWorld CSplit : Addr) : WSx := (wRet (w2 oIxA (wFld K "rows" (wV 0)) (wMeth CWorld "need_index" (Φ_World_need_index K CTable CWorld CSplit) (wV 0) (wCons (wV 1) wNil))))
theorem b_World_rows_of (T : Txt K mg CTable CWorld CSplit) (N_World_need_index : Mt P wd K mg base 2 CWorld "need_index" (Φ_World_need_index K CTable CWorld CSplit)) {f : Addr} (cdv : Value) (A : Around) (outer : List Env) (s : Shared) (H : Hp) (E : XK) (hr : Room 2 (A.deeper (envOfC "World.rows_of" (defScope s_World_rows_of) s.heap.objs.size f cdv))) :
    PSs (cxOf (L2.CX P wd) P wd K mg base ["self", "name"] "World.rows_of" (defScope s_World_rows_of) f cdv A outer s H E) (defBody s_World_rows_of) (tS K (EW E) (w_World_rows_of K CTable CWorld CSplit)) := by
  have sc := sc_World_rows_of
  have tk : Takes (cxOf (L2.CX P wd) P wd K mg base ["self", "name"] "World.rows_of" (defScope s_World_rows_of) f cdv A outer s H E) (EW E) := takes_of rfl rfl rfl rfl
  have pown : PassesOwn (model P wd) (cxOf (L2.CX P wd) P wd K mg base ["self", "name"] "World.rows_of" (defScope s_World_rows_of) f cdv A outer s H E).A (cxOf (L2.CX P wd) P wd K mg base ["self", "name"] "World.rows_of" (defScope s_World_rows_of) f cdv A outer s H E).env (cxOf (L2.CX P wd) P wd K mg base ["self", "name"] "World.rows_of" (defScope s_World_rows_of) f cdv A outer s H E).xe := PassesOwn.leaving
  exact (ts_one (ts_ret (te_ixA hr (te_fld (te_v 0)) (te_meth (E := E) N_World_need_index hr tk (te_v 0) (ta_cons (te_v 1) ta_nil)))))
abbrev s_need_world : Stmt := top 33
theorem sc_need_world : FnScope ["value"] ["value"] (defScope s_need_world) := ⟨rfl, rfl, rfl, by decide +kernel, rfl, by decide +kernel, by decide +kernel⟩
def w_need_world (K : PySem.W.Frag) (CTable CWorld CSplit : Addr) : WSx := (wIfS (wNot (wT (wF (o2 (fIsi K)) (wCons (wV 0) (wCons (wC (.obj CWorld)) wNil))))) (fun _ _ => False) wNext)
theorem b_need_world (T : Txt K mg CTable CWorld CSplit) {f : Addr} (cdv : Value) (A : Around) (outer : List Env) (s : Shared) (H : Hp) (E : XK) (hr : Room 0 (A.deeper (envOfC "need_world" (defScope s_need_world) s.heap.objs.size f cdv))) :
    PSs (cxOf (L2.CX P wd) P wd K mg base ["value"] "need_world" (defScope s_need_world) f cdv A outer s H E) (defBody s_need_world) (tS K (EW E) (w_need_world K CTable CWorld CSplit)) := by
  have sc := sc_need_world
  have tk : Takes (cxOf (L2.CX P wd) P wd K mg base ["value"] "need_world" (defScope s_need_world) f cdv A outer s H E) (EW E) := takes_of rfl rfl rfl rfl
  have pown : PassesOwn (model P wd) (cxOf (L2.CX P wd) P wd K mg base ["value"] "need_world" (defScope s_need_world) f cdv A outer s H E).A (cxOf (L2.CX P wd) P wd K mg base ["value"] "need_world" (defScope s_need_world) f cdv A outer s H E).env (cxOf (L2.CX P wd) P wd K mg base ["value"] "need_world" (defScope s_need_world) f cdv A outer s H E).xe := PassesOwn.leaving
  exact (ts_one (ts_if (tb_not (tb_val (te_isi rfl (by rfl) T.b_isinstance (ta_cons (te_v 0) (ta_cons (te_gC T.m_World (by rfl)) ta_nil))))) tss_never ts_nil))
abbrev s_need_tables : Stmt := top 34
theorem sc_need_tables : FnScope ["world", "tables", "there", "one"] ["world", "tables"] (defScope s_need_tables) := ⟨rfl, rfl, rfl, by decide +kernel, rfl, by decide +kernel, by decide +kernel⟩
def w_need_tables (K : PySem.W.Frag) (CTable CWorld CSplit : Addr) : WSx := (wSeq (wSet 2 (wCall (Φ_by_names K CTable CWorld CSplit) (wCons (wFld K "tables" (wV 0)) wNil))) (wIfS (wNot (wT (wF (o1 (fAll fun bs => bs.all id)) (wCons (wLc (iSeq (wV 1)) (gN 3) wYes (wAndV (w2 (oIn false) (wFld K "name" (wV 3)) (wV 2)) (w2 (oOwn K CTable (Φ_Table_eq K CTable CWorld CSplit)) (w2 oIxA (wV 2) (wFld K "name" (wV 3))) (wV 3))) [3]) wNil)))) (fun _ _ => False) wNext))
theorem b_need_tables (T : Txt K mg CTable CWorld CSplit) (G_by_names : Fn P wd K mg base 1 "by_names" (Φ_by_names K CTable CWorld CSplit)) (Q_Table : Qe P wd K mg base 1 CTable (Φ_Table_eq K CTable CWorld CSplit)) {f : Addr} (cdv : Value) (A : Around) (outer : List Env) (s : Shared) (H : Hp) (E : XK) (hr : Room 1 (A.deeper (envOfC "need_tables" (defScope s_need_tables) s.heap.objs.size f cdv))) :
    PSs (cxOf (L2.CX P wd) P wd K mg base ["world", "tables", "there", "one"] "need_tables" (defScope s_need_tables) f cdv A outer s H E) (defBody s_need_tables) (tS K (EW E) (w_need_tables K CTable CWorld CSplit)) := by
  have sc := sc_need_tables
  have tk : Takes (cxOf (L2.CX P wd) P wd K mg base ["world", "tables", "there", "one"] "need_tables" (defScope s_need_tables) f cdv A outer s H E) (EW E) := takes_of rfl rfl rfl rfl
  have pown : PassesOwn (model P wd) (cxOf (L2.CX P wd) P wd K mg base ["world", "tables", "there", "one"] "need_tables" (defScope s_need_tables) f cdv A outer s H E).A (cxOf (L2.CX P wd) P wd K mg base ["world", "tables", "there", "one"] "need_tables" (defScope s_need_tables) f cdv A outer s H E).env (cxOf (L2.CX P wd) P wd K mg base ["world", "tables", "there", "one"] "need_tables" (defScope s_need_tables) f cdv A outer s H E).xe := PassesOwn.leaving
  exact (ts_cons (ts_set 2 sc.nd rfl (by first | exact Or.inl rfl | exact Or.inr rfl) (te_call G_by_names hr tk (ta_cons (te_fld (te_v 0)) ta_nil)))
      (ts_one (ts_if (tb_not (tb_val (te_all rfl rfl (by rfl) T.b_all (ta_cons (te_lc rfl sc.nd (ti_seq (te_v 1)) (blkOk_by (own := [("one", 3)]) (by kernel_rfl)) (fun _ _ _ _ _ => (tg_name 3 sc.nd rfl (by first | exact Or.inl rfl | exact Or.inr rfl))) (fun _ _ _ _ _ => tts_nil) (fun _ _ _ _ _ => (te_and (te_in hr (te_fld (te_v 3)) (te_v 2)) (te_one (te_eqO (E := XK0) Q_Table hr takes00 (te_ixA hr (te_v 2) (te_fld (te_v 3))) (te_v 3)))))) ta_nil)))) tss_never ts_nil)))
abbrev s_is_threshold : Stmt := top 38
theorem sc_is_threshold : FnScope ["value", "one"] ["value"] (defScope s_is_threshold) := ⟨rfl, rfl, rfl, by decide +kernel, rfl, by decide +kernel, by decide +kernel⟩
def w_is_threshold (K : PySem.W.Frag) (CTable CWorld CSplit : Addr) : WSx := (wRet (wAndV (wCall (Φ_is_row K CTable CWorld CSplit) (wCons (wV 0) (wCons (wC (.int 2)) (wCons (wC (.int 2)) wNil)))) (wF (o1 (fAll fun bs => bs.all id)) (wCons (wLc (iSeq (wV 0)) (gN 1) wYes (wCall (Φ_is_between K CTable CWorld CSplit) (wCons (wV 1) (wCons (wC (.int 1)) (wCons (wC (.int (9999))) wNil)))) [1]) wNil))))
theorem b_is_threshold (T : Txt K mg CTable CWorld CSplit) (G_is_between : Fn P wd K mg base 2 "is_between" (Φ_is_between K CTable CWorld CSplit)) (G_is_row : Fn P wd K mg base 2 "is_row" (Φ_is_row K CTable CWorld CSplit)) {f : Addr} (cdv : Value) (A : Around) (outer : List Env) (s : Shared) (H : Hp) (E : XK) (hr : Room 2 (A.deeper (envOfC "is_threshold" (defScope s_is_threshold) s.heap.objs.size f cdv))) :
    PSs (cxOf (L2.CX P wd) P wd K mg base ["value", "one"] "is_threshold" (defScope s_is_threshold) f cdv A outer s H E) (defBody s_is_threshold) (tS K (EW E) (w_is_threshold K CTable CWorld CSplit)) := by
  have sc := sc_is_threshold
  have tk : Takes (cxOf (L2.CX P wd) P wd K mg base ["value", "one"] "is_threshold" (defScope s_is_threshold) f cdv A outer s H E) (EW E) := takes_of rfl rfl rfl rfl
  have pown : PassesOwn (model P wd) (cxOf (L2.CX P wd) P wd K mg base ["value", "one"] "is_threshold" (defScope s_is_threshold) f cdv A outer s H E).A (cxOf (L2.CX P wd) P wd K mg base ["value", "one"] "is_threshold" (defScope s_is_threshold) f cdv A outer s H E).env (cxOf (L2.CX P wd) P wd K mg base ["value", "one"] "is_threshold" (defScope s_is_threshold) f cdv A outer s H E).xe := PassesOwn.leaving
  exact (ts_one (ts_ret (te_and (te_call G_is_row hr tk (ta_cons (te_v 0) (ta_cons te_int (ta_cons te_int ta_nil)))) (te_one (te_all rfl rfl (by rfl) T.b_all (ta_cons (te_lc rfl sc.nd (ti_seq (te_v 0)) (blkOk_by (own := [("one", 1)]) (by kernel_rfl)) (fun _ _ _ _ _ => (tg_name 1 sc.nd rfl (by first | exact Or.inl rfl | exact Or.inr rfl))) (fun _ _ _ _ _ => tts_nil) (fun _ _ _ _ _ => (te_call G_is_between hr takes00 (ta_cons (te_v 1) (ta_cons te_int (ta_cons (te_gI T.c_MOST_PART (by rfl)) ta_nil)))))) ta_nil))))))
abbrev s_Split_init : Stmt := inClass (top 39) 0
theorem sc_Split_init : FnScope ["self", "table", "column", "threshold"] ["self", "table", "column", "threshold"] (defScope s_Split_init) := ⟨rfl, rfl, rfl, by decide +kernel, rfl, by decide +kernel, by decide +kernel⟩
def w_Split_init (K : PySem.W.Frag) (CTable CWorld CSplit : Addr) : WSx := (wSeq (wIfS (wOr (wNot (wT (wF (o2 (fIsi K)) (wCons (wV 1) (wCons (wC (.obj CTable)) wNil))))) (wT (w2 (oEq true) (wFld K "width" (wV 1)) (wC (.int 2))))) (fun _ _ => False) wNext) (wSeq (wIfS (wNot (wT (wCall (Φ_is_between K CTable CWorld CSplit) (wCons (wV 2) (wCons (wC (.int 0)) (wCons (wC (.int 1)) wNil)))))) (fun _ _ => False) wNext) (wSeq (wIfS (wNot (wT (wCall (Φ_is_threshold K CTable CWorld CSplit) (wCons (wV 3) wNil)))) (fun _ _ => False) wNext) (wAsgE (geT (geCons (geF 0 CSplit "table") (geCons (geF 0 CSplit "column") (geCons (geF 0 CSplit "threshold") geNil)))) (wTup (wCons (wV 1) (wCons (wV 2) (wCons (wCall (Φ_lowest K CTable CWorld CSplit) (wCons (w2 oIxA (wV 3) (wC (.int 0))) (wCons (w2 oIxA (wV 3) (wC (.int 1))) wNil))) wNil))))))))
theorem b_Split_init (T : Txt K mg CTable CWorld CSplit) (G_is_between : Fn P wd K mg base 2 "is_between" (Φ_is_between K CTable CWorld CSplit)) (G_is_threshold : Fn P wd K mg base 3 "is_threshold" (Φ_is_threshold K CTable CWorld CSplit)) (G_lowest : Fn P wd K mg base 2 "lowest" (Φ_lowest K CTable CWorld CSplit)) {f : Addr} (cdv : Value) (A : Around) (outer : List Env) (s : Shared) (H : Hp) (E : XK) (hr : Room 3 (A.deeper (envOfC "Split.__init__" (defScope s_Split_init) s.heap.objs.size f cdv))) :
    PSs (cxOf (L2.CX P wd) P wd K mg base ["self", "table", "column", "threshold"] "Split.__init__" (defScope s_Split_init) f cdv A outer s H E) (defBody s_Split_init) (tS K (EW E) (w_Split_init K CTable CWorld CSplit)) := by
  have sc := sc_Split_init
  have tk : Takes (cxOf (L2.CX P wd) P wd K mg base ["self", "table", "column", "threshold"] "Split.__init__" (defScope s_Split_init) f cdv A outer s H E) (EW E) := takes_of rfl rfl rfl rfl
  have pown : PassesOwn (model P wd) (cxOf (L2.CX P wd) P wd K mg base ["self", "table", "column", "threshold"] "Split.__init__" (defScope s_Split_init) f cdv A outer s H E).A (cxOf (L2.CX P wd) P wd K mg base ["self", "table", "column", "threshold"] "Split.__init__" (defScope s_Split_init) f cdv A outer s H E).env (cxOf (L2.CX P wd) P wd K mg base ["self", "table", "column", "threshold"] "Split.__init__" (defScope s_Split_init) f cdv A outer s H E).xe := PassesOwn.leaving
  exact (ts_cons (ts_if (PW.pt (tw_or (tb_not (tb_val (te_isi rfl (by rfl) T.b_isinstance (ta_cons (te_v 1) (ta_cons (te_gC T.m_Table (by rfl)) ta_nil))))) (tw_or1 (tb_ne hr (te_fld (te_v 1)) te_int)))) tss_never ts_nil)
      (ts_cons (ts_if (tb_not (tb_val (te_call G_is_between hr tk (ta_cons (te_v 2) (ta_cons te_int (ta_cons te_int ta_nil)))))) tss_never ts_nil)
      (ts_cons (ts_if (tb_not (tb_val (te_call G_is_threshold hr tk (ta_cons (te_v 3) ta_nil)))) tss_never ts_nil)
      (ts_one (ts_asgE (te_tup (ta_cons (te_v 1) (ta_cons (te_v 2) (ta_cons (te_call G_lowest hr tk (ta_cons (te_ixA hr (te_v 3) te_int) (ta_cons (te_ixA hr (te_v 3) te_int) ta_nil))) ta_nil)))) (tge_tup 3 rfl (tges_cons (tge_fld 0 T.k_Split T.n_Split_table) (tges_cons (tge_fld 0 T.k_Split T.n_Split_column) (tges_cons (tge_fld 0 T.k_Split T.n_Split_threshold) tges_nil))) ge3))))))
abbrev s_crowds : Stmt := top 40
theorem sc_crowds : FnScope ["rows", "column", "found", "row"] ["rows", "column"] (defScope s_crowds) := ⟨rfl, rfl, rfl, by decide +kernel, rfl, by decide +kernel, by decide +kernel⟩
def w_crowds (K : PySem.W.Frag) (CTable CWorld CSplit : Addr) : WSx := (wSeq (wOwn 2 wNewD) (wSeq (wFor (iSeq (wV 0)) (gN 3) (wPut (wV 2) (w2 oIxA (wV 3) (wV 1)) (w2 oAdd (wGet2 (wV 2) (w2 oIxA (wV 3) (wV 1)) (wC (.int 0))) (wC (.int 1))))) (wRet (wV 2))))
theorem b_crowds (T : Txt K mg CTable CWorld CSplit) {f : Addr} (cdv : Value) (A : Around) (outer : List Env) (s : Shared) (H : Hp) (E : XK) (hr : Room 0 (A.deeper (envOfC "crowds" (defScope s_crowds) s.heap.objs.size f cdv))) :
    PSs (cxOf (L2.CX P wd) P wd K mg base ["rows", "column", "found", "row"] "crowds" (defScope s_crowds) f cdv A outer s H E) (defBody s_crowds) (tS K (EW E) (w_crowds K CTable CWorld CSplit)) := by
  have sc := sc_crowds
  have tk : Takes (cxOf (L2.CX P wd) P wd K mg base ["rows", "column", "found", "row"] "crowds" (defScope s_crowds) f cdv A outer s H E) (EW E) := takes_of rfl rfl rfl rfl
  have pown : PassesOwn (model P wd) (cxOf (L2.CX P wd) P wd K mg base ["rows", "column", "found", "row"] "crowds" (defScope s_crowds) f cdv A outer s H E).A (cxOf (L2.CX P wd) P wd K mg base ["rows", "column", "found", "row"] "crowds" (defScope s_crowds) f cdv A outer s H E).env (cxOf (L2.CX P wd) P wd K mg base ["rows", "column", "found", "row"] "crowds" (defScope s_crowds) f cdv A outer s H E).xe := PassesOwn.leaving
  exact (ts_cons (ts_own 2 sc.nd rfl (by first | exact Or.inl rfl | exact Or.inr rfl) te_newD)
      (ts_cons (ts_for pown rfl (ti_seq (te_v 0)) (tg_name 3 sc.nd rfl (by first | exact Or.inl rfl | exact Or.inr rfl)) (ts_one (ts_put hr (te_v 2) (te_ixA hr (te_v 3) (te_v 1)) (te_add (te_get2 hr (te_v 2) (te_ixA hr (te_v 3) (te_v 1)) te_int ⟨rfl, rfl, rfl, rfl⟩) te_int))))
      (ts_one (ts_ret (te_v 2)))))
abbrev s_parts_of : Stmt := top 41
theorem sc_parts_of : FnScope ["rows", "split", "base", "many", "light", "value", "some", "few", "row"] ["rows", "split", "base"] (defScope s_parts_of) := ⟨rfl, rfl, rfl, by decide +kernel, rfl, by decide +kernel, by decide +kernel⟩
def w_parts_of (K : PySem.W.Frag) (CTable CWorld CSplit : Addr) : WSx := (wSeq (wSet 3 (wCall (Φ_crowds K CTable CWorld CSplit) (wCons (wV 0) (wCons (wFld K "column" (wV 1)) wNil)))) (wSeq (wSet 4 (wDc (iOne itemsD (wV 3)) (gT (gsCons (gN 5) (gsCons (gN 6) gsNil))) wYes (wV 5) (wCall (Φ_is_at_most K CTable CWorld CSplit) (wCons (wV 6) (wCons (wV 2) (wCons (wFld K "threshold" (wV 1)) wNil)))) [5, 6])) (wSeq (wSet 7 (wF (o1 fTup) (wCons (wLc (iSeq (wV 0)) (gN 8) (wT (w2 oIxA (wV 4) (w2 oIxA (wV 8) (wFld K "column" (wV 1))))) (wV 8) [8]) wNil))) (wRet (wTup (wCons (wV 7) (wCons (wF (o1 fTup) (wCons (wLc (iSeq (wV 0)) (gN 8) (wNot (wT (w2 oIxA (wV 4) (w2 oIxA (wV 8) (wFld K "column" (wV 1)))))) (wV 8) [8]) wNil)) wNil)))))))
theorem b_parts_of (T : Txt K mg CTable CWorld CSplit) (G_crowds : Fn P wd K mg base 1 "crowds" (Φ_crowds K CTable CWorld CSplit)) (G_is_at_most : Fn P wd K mg base 2 "is_at_most" (Φ_is_at_most K CTable CWorld CSplit)) {f : Addr} (cdv : Value) (A : Around) (outer : List Env) (s : Shared) (H : Hp) (E : XK) (hr : Room 2 (A.deeper (envOfC "parts_of" (defScope s_parts_of) s.heap.objs.size f cdv))) :
    PSs (cxOf (L2.CX P wd) P wd K mg base ["rows", "split", "base", "many", "light", "value", "some", "few", "row"] "parts_of" (defScope s_parts_of) f cdv A outer s H E) (defBody s_parts_of) (tS K (EW E) (w_parts_of K CTable CWorld CSplit)) := by
  have sc := sc_parts_of
  have tk : Takes (cxOf (L2.CX P wd) P wd K mg base ["rows", "split", "base", "many", "light", "value", "some", "few", "row"] "parts_of" (defScope s_parts_of) f cdv A outer s H E) (EW E) := takes_of rfl rfl rfl rfl
  have pown : PassesOwn (model P wd) (cxOf (L2.CX P wd) P wd K mg base ["rows", "split", "base", "many", "light", "value", "some", "few", "row"] "parts_of" (defScope s_parts_of) f cdv A outer s H E).A (cxOf (L2.CX P wd) P wd K mg base ["rows", "split", "base", "many", "light", "value", "some", "few", "row"] "parts_of" (defScope s_parts_of) f cdv A outer s H E).env (cxOf (L2.CX P wd) P wd K mg base ["rows", "split", "base", "many", "light", "value", "some", "few", "row"] "parts_of" (defScope s_parts_of) f cdv A outer s H E).xe := PassesOwn.leaving
  exact (ts_cons (ts_set 3 sc.nd rfl (by first | exact Or.inl rfl | exact Or.inr rfl) (te_call G_crowds hr tk (ta_cons (te_v 0) (ta_cons (te_fld (te_v 1)) ta_nil))))
      (ts_cons (ts_set 4 sc.nd rfl (by first | exact Or.inl rfl | exact Or.inr rfl) (te_dc rfl sc.nd (ti_items (te_v 3)) (blkOk_by (own := [("value", 5), ("some", 6)]) (by kernel_rfl)) (fun _ _ _ _ _ => (tg_tup 2 rfl (tgs_cons (tg_name 5 sc.nd rfl (by first | exact Or.inl rfl | exact Or.inr rfl)) (tgs_cons (tg_name 6 sc.nd rfl (by first | exact Or.inl rfl | exact Or.inr rfl)) tgs_nil)) gs2)) (fun _ _ _ _ _ => tts_nil) (fun _ _ _ _ _ => (te_v 5)) (fun _ _ _ _ _ => (te_call G_is_at_most hr takes00 (ta_cons (te_v 6) (ta_cons (te_v 2) (ta_cons (te_fld (te_v 1)) ta_nil)))))))
      (ts_cons (ts_set 7 sc.nd rfl (by first | exact Or.inl rfl | exact Or.inr rfl) (te_toTup rfl (by rfl) T.b_tuple (ta_cons (te_lc rfl sc.nd (ti_seq (te_v 0)) (blkOk_by (own := [("row", 8)]) (by kernel_rfl)) (fun _ _ _ _ _ => (tg_name 8 sc.nd rfl (by first | exact Or.inl rfl | exact Or.inr rfl))) (fun _ _ _ _ _ => (tts_one (tb_val (te_ixA hr (te_v 4) (te_ixA hr (te_v 8) (te_fld (te_v 1))))))) (fun _ _ _ _ _ => (te_v 8))) ta_nil)))
      (ts_one (ts_ret (te_tup (ta_cons (te_v 7) (ta_cons (te_toTup rfl (by rfl) T.b_tuple (ta_cons (te_lc rfl sc.nd (ti_seq (te_v 0)) (blkOk_by (own := [("row", 8)]) (by kernel_rfl)) (fun _ _ _ _ _ => (tg_name 8 sc.nd rfl (by first | exact Or.inl rfl | exact Or.inr rfl))) (fun _ _ _ _ _ => (tts_one (tb_not (tb_val (te_ixA hr (te_v 4) (te_ixA hr (te_v 8) (te_fld (te_v 1)))))))) (fun _ _ _ _ _ => (te_v 8))) ta_nil)) ta_nil))))))))
abbrev s_need_split : Stmt := top 42
theorem sc_need_split : FnScope ["value"] ["value"] (defScope s_need_split) := ⟨rfl, rfl, rfl, by decide +kernel, rfl, by decide +kernel, by decide +kernel⟩
def w_need_split (K : PySem.W.Frag) (CTable CWorld CSplit : Addr) : WSx := (wIfS (wNot (wT (wF (o2 (fIsi K)) (wCons (wV 0) (wCons (wC (.obj CSplit)) wNil))))) (fun _ _ => False) wNext)
theorem b_need_split (T : Txt K mg CTable CWorld CSplit) {f : Addr} (cdv : Value) (A : Around) (outer : List Env) (s : Shared) (H : Hp) (E : XK) (hr : Room 0 (A.deeper (envOfC "need_split" (defScope s_need_split) s.heap.objs.size f cdv))) :
    PSs (cxOf (L2.CX P wd) P wd K mg base ["value"] "need_split" (defScope s_need_split) f cdv A outer s H E) (defBody s_need_split) (tS K (EW E) (w_need_split K CTable CWorld CSplit)) := by
  have sc := sc_need_split
  have tk : Takes (cxOf (L2.CX P wd) P wd K mg base ["value"] "need_split" (defScope s_need_split) f cdv A outer s H E) (EW E) := takes_of rfl rfl rfl rfl
  have pown : PassesOwn (model P wd) (cxOf (L2.CX P wd) P wd K mg base ["value"] "need_split" (defScope s_need_split) f cdv A outer s H E).A (cxOf (L2.CX P wd) P wd K mg base ["value"] "need_split" (defScope s_need_split) f cdv A outer s H E).env (cxOf (L2.CX P wd) P wd K mg base ["value"] "need_split" (defScope s_need_split) f cdv A outer s H E).xe := PassesOwn.leaving
  exact (ts_one (ts_if (tb_not (tb_val (te_isi rfl (by rfl) T.b_isinstance (ta_cons (te_v 0) (ta_cons (te_gC T.m_Split (by rfl)) ta_nil))))) tss_never ts_nil))
abbrev s_need_base : Stmt := top 43
theorem sc_need_base : FnScope ["value"] ["value"] (defScope s_need_base) := ⟨rfl, rfl, rfl, by decide +kernel, rfl, by decide +kernel, by decide +kernel⟩
def w_need_base (K : PySem.W.Frag) (CTable CWorld CSplit : Addr) : WSx := (wIfS (wNot (wT (wCall (Φ_is_between K CTable CWorld CSplit) (wCons (wV 0) (wCons (wC (.int 1)) (wCons (wC (.int (1000000))) wNil)))))) (fun _ _ => False) wNext)
theorem b_need_base (T : Txt K mg CTable CWorld CSplit) (G_is_between : Fn P wd K mg base 2 "is_between" (Φ_is_between K CTable CWorld CSplit)) {f : Addr} (cdv : Value) (A : Around) (outer : List Env) (s : Shared) (H : Hp) (E : XK) (hr : Room 2 (A.deeper (envOfC "need_base" (defScope s_need_base) s.heap.objs.size f cdv))) :
    PSs (cxOf (L2.CX P wd) P wd K mg base ["value"] "need_base" (defScope s_need_base) f cdv A outer s H E) (defBody s_need_base) (tS K (EW E) (w_need_base K CTable CWorld CSplit)) := by
  have sc := sc_need_base
  have tk : Takes (cxOf (L2.CX P wd) P wd K mg base ["value"] "need_base" (defScope s_need_base) f cdv A outer s H E) (EW E) := takes_of rfl rfl rfl rfl
  have pown : PassesOwn (model P wd) (cxOf (L2.CX P wd) P wd K mg base ["value"] "need_base" (defScope s_need_base) f cdv A outer s H E).A (cxOf (L2.CX P wd) P wd K mg base ["value"] "need_base" (defScope s_need_base) f cdv A outer s H E).env (cxOf (L2.CX P wd) P wd K mg base ["value"] "need_base" (defScope s_need_base) f cdv A outer s H E).xe := PassesOwn.leaving
  exact (ts_one (ts_if (tb_not (tb_val (te_call G_is_between hr tk (ta_cons (te_v 0) (ta_cons te_int (ta_cons (te_gI T.c_MOST_BASE (by rfl)) ta_nil)))))) tss_never ts_nil))
abbrev s_parted : Stmt := top 44
theorem sc_parted : FnScope ["world", "split", "base"] ["world", "split", "base"] (defScope s_parted) := ⟨rfl, rfl, rfl, by decide +kernel, rfl, by decide +kernel, by decide +kernel⟩
def w_parted (K : PySem.W.Frag) (CTable CWorld CSplit : Addr) : WSx := (wSeq (wExpr (wCall (Φ_need_world K CTable CWorld CSplit) (wCons (wV 0) wNil))) (wSeq (wExpr (wCall (Φ_need_split K CTable CWorld CSplit) (wCons (wV 1) wNil))) (wSeq (wExpr (wCall (Φ_need_base K CTable CWorld CSplit) (wCons (wV 2) wNil))) (wSeq (wExpr (wCall (Φ_need_tables K CTable CWorld CSplit) (wCons (wV 0) (wCons (wTup (wCons (wFld K "table" (wV 1)) wNil)) wNil)))) (wRet (wCall (Φ_parts_of K CTable CWorld CSplit) (wCons (wMeth CWorld "rows_of" (Φ_World_rows_of K CTable CWorld CSplit) (wV 0) (wCons (wFld K "name" (wFld K "table" (wV 1))) wNil)) (wCons (wV 1) (wCons (wV 2) wNil)))))))))
theorem b_parted (T : Txt K mg CTable CWorld CSplit) (G_need_base : Fn P wd K mg base 3 "need_base" (Φ_need_base K CTable CWorld CSplit)) (G_need_split : Fn P wd K mg base 1 "need_split" (Φ_need_split K CTable CWorld CSplit)) (G_need_tables : Fn P wd K mg base 2 "need_tables" (Φ_need_tables K CTable CWorld CSplit)) (G_need_world : Fn P wd K mg base 1 "need_world" (Φ_need_world K CTable CWorld CSplit)) (G_parts_of : Fn P wd K mg base 3 "parts_of" (Φ_parts_of K CTable CWorld CSplit)) (N_World_rows_of : Mt P wd K mg base 3 CWorld "rows_of" (Φ_World_rows_of K CTable CWorld CSplit)) {f : Addr} (cdv : Value) (A : Around) (outer : List Env) (s : Shared) (H : Hp) (E : XK) (hr : Room 3 (A.deeper (envOfC "parted" (defScope s_parted) s.heap.objs.size f cdv))) :
    PSs (cxOf (L2.CX P wd) P wd K mg base ["world", "split", "base"] "parted" (defScope s_parted) f cdv A outer s H E) (defBody s_parted) (tS K (EW E) (w_parted K CTable CWorld CSplit)) := by
  have sc := sc_parted
  have tk : Takes (cxOf (L2.CX P wd) P wd K mg base ["world", "split", "base"] "parted" (defScope s_parted) f cdv A outer s H E) (EW E) := takes_of rfl rfl rfl rfl
  have pown : PassesOwn (model P wd) (cxOf (L2.CX P wd) P wd K mg base ["world", "split", "base"] "parted" (defScope s_parted) f cdv A outer s H E).A (cxOf (L2.CX P wd) P wd K mg base ["world", "split", "base"] "parted" (defScope s_parted) f cdv A outer s H E).env (cxOf (L2.CX P wd) P wd K mg base ["world", "split", "base"] "parted" (defScope s_parted) f cdv A outer s H E).xe := PassesOwn.leaving
  exact (ts_cons (ts_expr (te_call G_need_world hr tk (ta_cons (te_v 0) ta_nil)))
      (ts_cons (ts_expr (te_call G_need_split hr tk (ta_cons (te_v 1) ta_nil)))
      (ts_cons (ts_expr (te_call G_need_base hr tk (ta_cons (te_v 2) ta_nil)))
      (ts_cons (ts_expr (te_call G_need_tables hr tk (ta_cons (te_v 0) (ta_cons (te_tup (ta_cons (te_fld (te_v 1)) ta_nil)) ta_nil))))
      (ts_one (ts_ret (te_call G_parts_of hr tk (ta_cons (te_meth (E := E) N_World_rows_of hr tk (te_v 0) (ta_cons (te_fld (te_fld (te_v 1))) ta_nil)) (ta_cons (te_v 1) (ta_cons (te_v 2) ta_nil))))))))))
abbrev s__law_pen : Stmt := top 46
theorem sc__law_pen : FnScope ["script", "cell"] ["script"] (defScope s__law_pen) := ⟨rfl, rfl, rfl, by decide +kernel, rfl, by decide +kernel, by decide +kernel⟩
def w__law_pen (K : PySem.W.Frag) (CTable CWorld CSplit : Addr) : WSx := (wRet (wLst (wCons (wLc (iSeq (wSlc K (wV 0) pNo (pAt (wC (.int 63))))) (gN 1) wYes (wF (o1 fInt) (wCons (wV 1) wNil)) [1]) (wCons (wC (.int 0)) (wCons (wC (.int 0)) wNil)))))
theorem b__law_pen (T : Txt K mg CTable CWorld CSplit) {f : Addr} (cdv : Value) (A : Around) (outer : List Env) (s : Shared) (H : Hp) (E : XK) (hr : Room 0 (A.deeper (envOfC "_law_pen" (defScope s__law_pen) s.heap.objs.size f cdv))) :
    PSs (cxOf (L2.CX P wd) P wd K mg base ["script", "cell"] "_law_pen" (defScope s__law_pen) f cdv A outer s H E) (defBody s__law_pen) (tS K (EW E) (w__law_pen K CTable CWorld CSplit)) := by
  have sc := sc__law_pen
  have tk : Takes (cxOf (L2.CX P wd) P wd K mg base ["script", "cell"] "_law_pen" (defScope s__law_pen) f cdv A outer s H E) (EW E) := takes_of rfl rfl rfl rfl
  have pown : PassesOwn (model P wd) (cxOf (L2.CX P wd) P wd K mg base ["script", "cell"] "_law_pen" (defScope s__law_pen) f cdv A outer s H E).A (cxOf (L2.CX P wd) P wd K mg base ["script", "cell"] "_law_pen" (defScope s__law_pen) f cdv A outer s H E).env (cxOf (L2.CX P wd) P wd K mg base ["script", "cell"] "_law_pen" (defScope s__law_pen) f cdv A outer s H E).xe := PassesOwn.leaving
  exact (ts_one (ts_ret (te_lst (ta_cons (te_lc rfl sc.nd (ti_seq (te_slice (te_v 0) to_no (to_at te_int))) (blkOk_by (own := [("cell", 1)]) (by kernel_rfl)) (fun _ _ _ _ _ => (tg_name 1 sc.nd rfl (by first | exact Or.inl rfl | exact Or.inr rfl))) (fun _ _ _ _ _ => tts_nil) (fun _ _ _ _ _ => (te_toInt rfl (by rfl) T.b_int (ta_cons (te_v 1) ta_nil)))) (ta_cons te_int (ta_cons te_int ta_nil))))))
abbrev s__law_draw : Stmt := top 47
theorem sc__law_draw : FnScope ["pen", "many", "rest", "at", "cell", "mixed"] ["pen", "many"] (defScope s__law_draw) := ⟨rfl, rfl, rfl, by decide +kernel, rfl, by decide +kernel, by decide +kernel⟩
def w__law_draw (K : PySem.W.Frag) (CTable CWorld CSplit : Addr) : WSx := (wSeq (wIfS (wT (w2 oGt (w2 oIxA (wV 0) (wC (.int 2))) (wC (.int 0)))) (wSeq (wSet 2 (wF (o1 fInt) (wCons (w2 oIxA (wV 0) (wC (.int 2))) wNil))) (wSeq (wPut (wV 0) (wC (.int 2)) (w2 oDivW (wV 2) (wV 1))) (wRet (w2 oMod (wF (o1 fInt) (wCons (wV 2) wNil)) (wV 1))))) wNext) (wSeq (wSet 3 (w2 oIxA (wV 0) (wC (.int 1)))) (wSeq (wPut (wV 0) (wC (.int 1)) (w2 oAdd (wV 3) (wC (.int 1)))) (wSeq (wSet 4 (w2 oAdd (w2 oMulW (wC (.int 70289)) (wV 3)) (wC (.int 8233)))) (wSeq (wIfS (wT (w2 (oEq true) (w2 oIxA (wV 0) (wC (.int 0))) (wLst wNil))) (wSet 4 (w2 oIxA (w2 oIxA (wV 0) (wC (.int 0))) (w2 oMod (wF (o1 fInt) (wCons (wV 3) wNil)) (wF (o1 fLen) (wCons (w2 oIxA (wV 0) (wC (.int 0))) wNil))))) wNext) (wSeq (wIfS (wAnd (wT (w2 oLt (wV 3) (wF (o1 fLen) (wCons (w2 oIxA (wV 0) (wC (.int 0))) wNil)))) (wT (w2 oGe (wF (o1 fAbs) (wCons (wV 4) wNil)) (w2 oPow (wC (.int 10)) (wC (.int 18)))))) (wSeq (wSet 2 (w2 oAdd (w2 oMulW (wC (.int 2)) (w2 oSub (wF (o1 fAbs) (wCons (wV 4) wNil)) (w2 oPow (wC (.int 10)) (wC (.int 18))))) (wF (o1 fInt) (wCons (w2 oLt (wV 4) (wC (.int 0))) wNil)))) (wSeq (wPut (wV 0) (wC (.int 2)) (w2 oDivW (wF (o1 fInt) (wCons (wV 2) wNil)) (wV 1))) (wRet (w2 oMod (wF (o1 fInt) (wCons (wV 2) wNil)) (wV 1))))) wNext) (wSeq (wSet 5 (w2 oMod (wF (o1 fInt) (wCons (w2 oPow (w2 oAdd (w2 oAdd (w2 oMod (wF (o1 fInt) (wCons (wV 4) wNil)) (wC (.int 2147483563))) (w2 oMulW (wC (.int 31509)) (wV 3))) (wC (.int 5909))) (wC (.int 5))) wNil)) (wC (.int 2147483549)))) (wSeq (wSet 5 (w2 oMod (wF (o1 fInt) (wCons (w2 oPow (w2 oAdd (w2 oAdd (w2 oMulW (wV 5) (w2 oAdd (w2 oMulW (wC (.int 2)) (wV 3)) (wC (.int 5909)))) (w2 oMulW (w2 oMulW (wC (.int 31509)) (wV 3)) (wV 3))) (wC (.int 70289))) (wC (.int 3))) wNil)) (wC (.int 2147483543)))) (wRet (w2 oMod (wF (o1 fInt) (wCons (w2 oDivW (wV 5) (wC (.int 64))) wNil)) (wV 1)))))))))))
theorem b__law_draw (T : Txt K mg CTable CWorld CSplit) {f : Addr} (cdv : Value) (A : Around) (outer : List Env) (s : Shared) (H : Hp) (E : XK) (hr : Room 0 (A.deeper (envOfC "_law_draw" (defScope s__law_draw) s.heap.objs.size f cdv))) :
    PSs (cxOf (L2.CX P wd) P wd K mg base ["pen", "many", "rest", "at", "cell", "mixed"] "_law_draw" (defScope s__law_draw) f cdv A outer s H E) (defBody s__law_draw) (tS K (EW E) (w__law_draw K CTable CWorld CSplit)) := by
  have sc := sc__law_draw
  have tk : Takes (cxOf (L2.CX P wd) P wd K mg base ["pen", "many", "rest", "at", "cell", "mixed"] "_law_draw" (defScope s__law_draw) f cdv A outer s H E) (EW E) := takes_of rfl rfl rfl rfl
  have pown : PassesOwn (model P wd) (cxOf (L2.CX P wd) P wd K mg base ["pen", "many", "rest", "at", "cell", "mixed"] "_law_draw" (defScope s__law_draw) f cdv A outer s H E).A (cxOf (L2.CX P wd) P wd K mg base ["pen", "many", "rest", "at", "cell", "mixed"] "_law_draw" (defScope s__law_draw) f cdv A outer s H E).env (cxOf (L2.CX P wd) P wd K mg base ["pen", "many", "rest", "at", "cell", "mixed"] "_law_draw" (defScope s__law_draw) f cdv A outer s H E).xe := PassesOwn.leaving
  exact (ts_cons (ts_if (tb_gt (te_ixA hr (te_v 0) te_int) te_int) (ts_cons (ts_set 2 sc.nd rfl (by first | exact Or.inl rfl | exact Or.inr rfl) (te_toInt rfl (by rfl) T.b_int (ta_cons (te_ixA hr (te_v 0) te_int) ta_nil)))
      (ts_cons (ts_put hr (te_v 0) te_int (te_divW (te_v 2) (te_v 1)))
      (ts_one (ts_ret (te_mod (te_toInt rfl (by rfl) T.b_int (ta_cons (te_v 2) ta_nil)) (te_v 1)))))) ts_nil)
      (ts_cons (ts_set 3 sc.nd rfl (by first | exact Or.inl rfl | exact Or.inr rfl) (te_ixA hr (te_v 0) te_int))
      (ts_cons (ts_put hr (te_v 0) te_int (te_add (te_v 3) te_int))
      (ts_cons (ts_set 4 sc.nd rfl (by first | exact Or.inl rfl | exact Or.inr rfl) (te_add (te_mulW te_int (te_v 3)) te_int))
      (ts_cons (ts_if (tb_ne hr (te_ixA hr (te_v 0) te_int) (te_lst ta_nil)) (ts_one (ts_set 4 sc.nd rfl (by first | exact Or.inl rfl | exact Or.inr rfl) (te_ixA hr (te_ixA hr (te_v 0) te_int) (te_mod (te_toInt rfl (by rfl) T.b_int (ta_cons (te_v 3) ta_nil)) (te_len rfl (by rfl) T.b_len (ta_cons (te_ixA hr (te_v 0) te_int) ta_nil)))))) ts_nil)
      (ts_cons (ts_if (PW.pt (tw_and (tb_lt (te_v 3) (te_len rfl (by rfl) T.b_len (ta_cons (te_ixA hr (te_v 0) te_int) ta_nil))) (tw_and1 (tb_ge (te_abs rfl (by rfl) T.b_abs (ta_cons (te_v 4) ta_nil)) (te_pow te_int te_int))))) (ts_cons (ts_set 2 sc.nd rfl (by first | exact Or.inl rfl | exact Or.inr rfl) (te_add (te_mulW te_int (te_sub (te_abs rfl (by rfl) T.b_abs (ta_cons (te_v 4) ta_nil)) (te_pow te_int te_int))) (te_toInt rfl (by rfl) T.b_int (ta_cons (te_lt (te_v 4) te_int) ta_nil))))
      (ts_cons (ts_put hr (te_v 0) te_int (te_divW (te_toInt rfl (by rfl) T.b_int (ta_cons (te_v 2) ta_nil)) (te_v 1)))
      (ts_one (ts_ret (te_mod (te_toInt rfl (by rfl) T.b_int (ta_cons (te_v 2) ta_nil)) (te_v 1)))))) ts_nil)
      (ts_cons (ts_set 5 sc.nd rfl (by first | exact Or.inl rfl | exact Or.inr rfl) (te_mod (te_toInt rfl (by rfl) T.b_int (ta_cons (te_pow (te_add (te_add (te_mod (te_toInt rfl (by rfl) T.b_int (ta_cons (te_v 4) ta_nil)) te_int) (te_mulW te_int (te_v 3))) te_int) te_int) ta_nil)) te_int))
      (ts_cons (ts_set 5 sc.nd rfl (by first | exact Or.inl rfl | exact Or.inr rfl) (te_mod (te_toInt rfl (by rfl) T.b_int (ta_cons (te_pow (te_add (te_add (te_mulW (te_v 5) (te_add (te_mulW te_int (te_v 3)) te_int)) (te_mulW (te_mulW te_int (te_v 3)) (te_v 3))) te_int) te_int) ta_nil)) te_int))
      (ts_one (ts_ret (te_mod (te_toInt rfl (by rfl) T.b_int (ta_cons (te_divW (te_v 5) te_int) ta_nil)) (te_v 1))))))))))))
abbrev s__law_pick : Stmt := top 48
theorem sc__law_pick : FnScope ["pen", "some"] ["pen", "some"] (defScope s__law_pick) := ⟨rfl, rfl, rfl, by decide +kernel, rfl, by decide +kernel, by decide +kernel⟩
def w__law_pick (K : PySem.W.Frag) (CTable CWorld CSplit : Addr) : WSx := (wRet (w2 oIxA (wV 1) (wCall (Φ__law_draw K CTable CWorld CSplit) (wCons (wV 0) (wCons (wF (o1 fLen) (wCons (wV 1) wNil)) wNil)))))
theorem b__law_pick (T : Txt K mg CTable CWorld CSplit) (G__law_draw : Fn P wd K mg base 1 "_law_draw" (Φ__law_draw K CTable CWorld CSplit)) {f : Addr} (cdv : Value) (A : Around) (outer : List Env) (s : Shared) (H : Hp) (E : XK) (hr : Room 1 (A.deeper (envOfC "_law_pick" (defScope s__law_pick) s.heap.objs.size f cdv))) :
    PSs (cxOf (L2.CX P wd) P wd K mg base ["pen", "some"] "_law_pick" (defScope s__law_pick) f cdv A outer s H E) (defBody s__law_pick) (tS K (EW E) (w__law_pick K CTable CWorld CSplit)) := by
  have sc := sc__law_pick
  have tk : Takes (cxOf (L2.CX P wd) P wd K mg base ["pen", "some"] "_law_pick" (defScope s__law_pick) f cdv A outer s H E) (EW E) := takes_of rfl rfl rfl rfl
  have pown : PassesOwn (model P wd) (cxOf (L2.CX P wd) P wd K mg base ["pen", "some"] "_law_pick" (defScope s__law_pick) f cdv A outer s H E).A (cxOf (L2.CX P wd) P wd K mg base ["pen", "some"] "_law_pick" (defScope s__law_pick) f cdv A outer s H E).env (cxOf (L2.CX P wd) P wd K mg base ["pen", "some"] "_law_pick" (defScope s__law_pick) f cdv A outer s H E).xe := PassesOwn.leaving
  exact (ts_one (ts_ret (te_ixA hr (te_v 1) (te_call G__law_draw hr tk (ta_cons (te_v 0) (ta_cons (te_len rfl (by rfl) T.b_len (ta_cons (te_v 1) ta_nil)) ta_nil))))))
abbrev s__law_power : Stmt := top 49
theorem sc__law_power : FnScope ["number", "many", "found", "part", "left"] ["number", "many"] (defScope s__law_power) := ⟨rfl, rfl, rfl, by decide +kernel, rfl, by decide +kernel, by decide +kernel⟩
def w__law_power (K : PySem.W.Frag) (CTable CWorld CSplit : Addr) : WSx := (wSeq (wPar3 2 3 4 (wC (.int 1)) (wV 0) (wV 1)) (wSeq (wWhile (wT (w2 oGt (wV 4) (wC (.int 0)))) (wSeq (wIfS (wT (w2 (oEq false) (w2 oMod (wF (o1 fInt) (wCons (wV 4) wNil)) (wC (.int 2))) (wC (.int 1)))) (wSet 2 (w2 oMulW (wV 2) (wV 3))) wNext) (wSeq (wSet 4 (w2 oDivW (wF (o1 fInt) (wCons (wV 4) wNil)) (wC (.int 2)))) (wSet 3 (wIf (wT (w2 oGt (wV 4) (wC (.int 0)))) (w2 oMulW (wV 3) (wV 3)) (wV 3)))))) (wRet (wV 2))))
theorem b__law_power (T : Txt K mg CTable CWorld CSplit) {f : Addr} (cdv : Value) (A : Around) (outer : List Env) (s : Shared) (H : Hp) (E : XK) (hr : Room 0 (A.deeper (envOfC "_law_power" (defScope s__law_power) s.heap.objs.size f cdv))) :
    PSs (cxOf (L2.CX P wd) P wd K mg base ["number", "many", "found", "part", "left"] "_law_power" (defScope s__law_power) f cdv A outer s H E) (defBody s__law_power) (tS K (EW E) (w__law_power K CTable CWorld CSplit)) := by
  have sc := sc__law_power
  have tk : Takes (cxOf (L2.CX P wd) P wd K mg base ["number", "many", "found", "part", "left"] "_law_power" (defScope s__law_power) f cdv A outer s H E) (EW E) := takes_of rfl rfl rfl rfl
  have pown : PassesOwn (model P wd) (cxOf (L2.CX P wd) P wd K mg base ["number", "many", "found", "part", "left"] "_law_power" (defScope s__law_power) f cdv A outer s H E).A (cxOf (L2.CX P wd) P wd K mg base ["number", "many", "found", "part", "left"] "_law_power" (defScope s__law_power) f cdv A outer s H E).env (cxOf (L2.CX P wd) P wd K mg base ["number", "many", "found", "part", "left"] "_law_power" (defScope s__law_power) f cdv A outer s H E).xe := PassesOwn.leaving
  exact (ts_cons (ts_par3 2 3 4 rfl sc.nd rfl rfl rfl (by decide) (by decide) (by decide) rfl rfl rfl te_int (te_v 0) (te_v 1))
      (ts_cons (ts_while pown (tb_gt (te_v 4) te_int) (ts_cons (ts_if (tb_eq hr (te_mod (te_toInt rfl (by rfl) T.b_int (ta_cons (te_v 4) ta_nil)) te_int) te_int) (ts_one (ts_set 2 sc.nd rfl (by first | exact Or.inl rfl | exact Or.inr rfl) (te_mulW (te_v 2) (te_v 3)))) ts_nil)
      (ts_cons (ts_set 4 sc.nd rfl (by first | exact Or.inl rfl | exact Or.inr rfl) (te_divW (te_toInt rfl (by rfl) T.b_int (ta_cons (te_v 4) ta_nil)) te_int))
      (ts_one (ts_set 3 sc.nd rfl (by first | exact Or.inl rfl | exact Or.inr rfl) (te_if (tb_gt (te_v 4) te_int) (te_mulW (te_v 3) (te_v 3)) (te_v 3)))))))
      (ts_one (ts_ret (te_v 2)))))
end
end L2.TL.K08


/-! text K08a -/
set_option Elab.async false
set_option linter.all false
set_option maxRecDepth 100000
set_option maxHeartbeats 4000000
namespace L2.TL.K08
open PySem PySem.Spec PyProof.Rows L2.TL
theorem sz1 : 1 ≤ sizeLine := by decide
theorem sz2 : 2 ≤ sizeLine := by decide
theorem sz3 : 3 ≤ sizeLine := by decide
theorem kit_self {K : PySem.W.Frag} {v : Value} : PySem.W.kitOne K v v = some true := by unfold PySem.W.kitOne; simp
theorem lookup_hd {β : Type} {a : Str} {b : β} {l : List (Str × β)} : List.lookup a ((a, b) :: l) = some b := by rw [List.lookup_cons]; simp
theorem lookup_tl {β : Type} {x y : String} {b : β} {l : List (Str × β)} (h : (Str.ofString x == Str.ofString y) = false) : List.lookup (Str.ofString x) ((Str.ofString y, b) :: l) = List.lookup (Str.ofString x) l := by rw [List.lookup_cons, h]
theorem ne_wn : (Str.ofString "width" == Str.ofString "name") = false := by decide +kernel
theorem ne_rt : (Str.ofString "rows" == Str.ofString "tables") = false := by decide +kernel
theorem ne_ct : (Str.ofString "column" == Str.ofString "table") = false := by decide +kernel
theorem ne_tt : (Str.ofString "threshold" == Str.ofString "table") = false := by decide +kernel
theorem ne_tc : (Str.ofString "threshold" == Str.ofString "column") = false := by decide +kernel
theorem ne_nw : ¬ (Str.ofString "name" = Str.ofString "width") := by decide +kernel
theorem ne_tr : ¬ (Str.ofString "tables" = Str.ofString "rows") := by decide +kernel
theorem ne_tac : ¬ (Str.ofString "table" = Str.ofString "column") := by decide +kernel
theorem ne_tat : ¬ (Str.ofString "table" = Str.ofString "threshold") := by decide +kernel
theorem ne_cot : ¬ (Str.ofString "column" = Str.ofString "threshold") := by decide +kernel
theorem set_at {os : Os} {k : Nat} {o o' : Option D} (h : os[k]? = some o) : (os.set k o')[k]? = some o' := List.getElem?_set_self (List.getElem?_eq_some_iff.mp h).1
theorem cdW {x : Int} {n : Nat} (h0 : 0 < n) (h : n ≤ 9999) : CDivW x (n : Int) := ⟨by omega, by
  rw [Int.natAbs_natCast]
  have : n.log2 ≤ n := Nat.log2_le_self n
  have h2 : n.log2 < 14 := (Nat.log2_lt (by omega)).mpr (by omega)
  omega⟩
theorem ne_ixt : ¬ (Str.ofString "index" = Str.ofString "tables") := by decide +kernel
theorem ne_ixr : ¬ (Str.ofString "index" = Str.ofString "rows") := by decide +kernel
theorem ne_nit : ¬ (Str.ofString "need_index" = Str.ofString "tables") := by decide +kernel
theorem ne_nir : ¬ (Str.ofString "need_index" = Str.ofString "rows") := by decide +kernel
theorem ne_rot : ¬ (Str.ofString "rows_of" = Str.ofString "tables") := by decide +kernel
theorem ne_ror : ¬ (Str.ofString "rows_of" = Str.ofString "rows") := by decide +kernel
theorem take_set (os : Os) (k : Nat) (o : Option D) : List.take os.length (os.set k o) = os.set k o := by rw [List.take_of_length_le]; simp
section
variable {K : PySem.W.Frag} {mg : Str → Option Value} {CTable CWorld CSplit : Addr} {rs : List R} {os : Os} {P : R → Os → Prop} {PX : Er → Os → Prop}
theorem l_is_integer (h : Φ_is_integer K CTable CWorld CSplit rs os P PX) : w_is_integer K CTable CWorld CSplit ⟨startR ["value"] rs, os⟩ (bodyPost os.length P PX) := by
  obtain ⟨i, rfl, hp⟩ := h
  simpa [w_is_integer, wRet, wRetN, wAndV, wOrV, wNotV, wF, wCons, wNil, wV, wC, o1, o2, fIsi, fLen, fAll, fInt, fAbs, fII, fTup, fList, startR, R.fz, R.val, isiD, clsD, clsL, tyD, insOk, bodyPost, wSeq, wNext, wIfS, wT, w2, oAdd, oSub, oI, oIc, oMulW, oDivW, oMod, oPow, oLt, oLe, oGt, oGe, oEq, wIsN, D.isNon, wChain, wIf, wFld, wTup, wLst, shs, wSet, wOwn, wPar, wPar3, wCall, wMake, wMeth, wExpr, wAsgE, geT, geCons, geNil, geF, putD, wAsgT, gT, gsCons, gsNil, gN, iSeq, iOne, iRng, iZip, wNeg, wAnd, wOr, wNot, seqD, shs, oIx, oIxA, oIn, inD, wPut, setD, wGet2, wNewD, wYes, noX, dcD, blsD, eqD, shD, toPy, toPyL, PyData.eqv, PyData.eqvAll, SeqAt.shaped, PyData.canLay0, PyData.canLayAll0, PyData.depth, PyData.depthAll, and_assoc, sz1, sz2, sz3, kit_self, lookup_hd, lookup_tl, Int.natCast_inj, show ((0 : Nat) : Int) = 0 from rfl, kb_NoneType_bool, kb_NoneType_int, kb_NoneType_str, kb_NoneType_list, kb_NoneType_tuple, kb_NoneType_dict, kb_bool_bool, kb_bool_int, kb_bool_str, kb_bool_list, kb_bool_tuple, kb_bool_dict, kb_int_bool, kb_int_int, kb_int_str, kb_int_list, kb_int_tuple, kb_int_dict, kb_str_bool, kb_str_int, kb_str_str, kb_str_list, kb_str_tuple, kb_str_dict, kb_list_bool, kb_list_int, kb_list_str, kb_list_list, kb_list_tuple, kb_list_dict, kb_tuple_bool, kb_tuple_int, kb_tuple_str, kb_tuple_list, kb_tuple_tuple, kb_tuple_dict, kb_dict_bool, kb_dict_int, kb_dict_str, kb_dict_list, kb_dict_tuple, kb_dict_dict] using hp
theorem l_is_between (h : Φ_is_between K CTable CWorld CSplit rs os P PX) : w_is_between K CTable CWorld CSplit ⟨startR ["value", "least", "most"] rs, os⟩ (bodyPost os.length P PX) := by
  obtain ⟨v, lo, hi, rfl, hp⟩ := h
  simp [w_is_between, Φ_is_integer, wRet, wRetN, wAndV, wOrV, wNotV, wF, wCons, wNil, wV, wC, o1, o2, fIsi, fLen, fAll, fInt, fAbs, fII, fTup, fList, startR, R.fz, R.val, isiD, clsD, clsL, tyD, insOk, bodyPost, wSeq, wNext, wIfS, wT, w2, oAdd, oSub, oI, oIc, oMulW, oDivW, oMod, oPow, oLt, oLe, oGt, oGe, oEq, wIsN, D.isNon, wChain, wIf, wFld, wTup, wLst, shs, wSet, wOwn, wPar, wPar3, wCall, wMake, wMeth, wExpr, wAsgE, geT, geCons, geNil, geF, putD, wAsgT, gT, gsCons, gsNil, gN, iSeq, iOne, iRng, iZip, wNeg, wAnd, wOr, wNot, seqD, shs, oIx, oIxA, oIn, inD, wPut, setD, wGet2, wNewD, wYes, noX, dcD, blsD, eqD, shD, toPy, toPyL, PyData.eqv, PyData.eqvAll, SeqAt.shaped, PyData.canLay0, PyData.canLayAll0, PyData.depth, PyData.depthAll, and_assoc, sz1, sz2, sz3, kit_self, lookup_hd, lookup_tl, Int.natCast_inj, show ((0 : Nat) : Int) = 0 from rfl, kb_NoneType_bool, kb_NoneType_int, kb_NoneType_str, kb_NoneType_list, kb_NoneType_tuple, kb_NoneType_dict, kb_bool_bool, kb_bool_int, kb_bool_str, kb_bool_list, kb_bool_tuple, kb_bool_dict, kb_int_bool, kb_int_int, kb_int_str, kb_int_list, kb_int_tuple, kb_int_dict, kb_str_bool, kb_str_int, kb_str_str, kb_str_list, kb_str_tuple, kb_str_dict, kb_list_bool, kb_list_int, kb_list_str, kb_list_list, kb_list_tuple, kb_list_dict, kb_tuple_bool, kb_tuple_int, kb_tuple_str, kb_tuple_list, kb_tuple_tuple, kb_tuple_dict, kb_dict_bool, kb_dict_int, kb_dict_str, kb_dict_list, kb_dict_tuple, kb_dict_dict]
  cases e : decide (lo ≤ v)
  · rw [e] at hp; exact hp
  · rw [e] at hp; exact hp
theorem l_is_listed (h : Φ_is_listed K CTable CWorld CSplit rs os P PX) : w_is_listed K CTable CWorld CSplit ⟨startR ["value"] rs, os⟩ (bodyPost os.length P PX) := by
  obtain ⟨d, xs, rfl, e, hp⟩ := h
  cases d <;> simp [seqD] at e
  all_goals simpa [w_is_listed, PySem.W.kitAny, wRet, wRetN, wAndV, wOrV, wNotV, wF, wCons, wNil, wV, wC, o1, o2, fIsi, fLen, fAll, fInt, fAbs, fII, fTup, fList, startR, R.fz, R.val, isiD, clsD, clsL, tyD, insOk, bodyPost, wSeq, wNext, wIfS, wT, w2, oAdd, oSub, oI, oIc, oMulW, oDivW, oMod, oPow, oLt, oLe, oGt, oGe, oEq, wIsN, D.isNon, wChain, wIf, wFld, wTup, wLst, shs, wSet, wOwn, wPar, wPar3, wCall, wMake, wMeth, wExpr, wAsgE, geT, geCons, geNil, geF, putD, wAsgT, gT, gsCons, gsNil, gN, iSeq, iOne, iRng, iZip, wNeg, wAnd, wOr, wNot, seqD, shs, oIx, oIxA, oIn, inD, wPut, setD, wGet2, wNewD, wYes, noX, dcD, blsD, eqD, shD, toPy, toPyL, PyData.eqv, PyData.eqvAll, SeqAt.shaped, PyData.canLay0, PyData.canLayAll0, PyData.depth, PyData.depthAll, and_assoc, sz1, sz2, sz3, kit_self, lookup_hd, lookup_tl, Int.natCast_inj, show ((0 : Nat) : Int) = 0 from rfl, kb_NoneType_bool, kb_NoneType_int, kb_NoneType_str, kb_NoneType_list, kb_NoneType_tuple, kb_NoneType_dict, kb_bool_bool, kb_bool_int, kb_bool_str, kb_bool_list, kb_bool_tuple, kb_bool_dict, kb_int_bool, kb_int_int, kb_int_str, kb_int_list, kb_int_tuple, kb_int_dict, kb_str_bool, kb_str_int, kb_str_str, kb_str_list, kb_str_tuple, kb_str_dict, kb_list_bool, kb_list_int, kb_list_str, kb_list_list, kb_list_tuple, kb_list_dict, kb_tuple_bool, kb_tuple_int, kb_tuple_str, kb_tuple_list, kb_tuple_tuple, kb_tuple_dict, kb_dict_bool, kb_dict_int, kb_dict_str, kb_dict_list, kb_dict_tuple, kb_dict_dict] using hp
theorem l_is_row (h : Φ_is_row K CTable CWorld CSplit rs os P PX) : w_is_row K CTable CWorld CSplit ⟨startR ["value", "least", "most"] rs, os⟩ (bodyPost os.length P PX) := by
  obtain ⟨d, xs, lo, hi, rfl, e, hp⟩ := h
  cases d <;> simp [seqD] at e
  all_goals
    subst e
    simp [w_is_row, Φ_is_listed, wRet, wRetN, wAndV, wOrV, wNotV, wF, wCons, wNil, wV, wC, o1, o2, fIsi, fLen, fAll, fInt, fAbs, fII, fTup, fList, startR, R.fz, R.val, isiD, clsD, clsL, tyD, insOk, bodyPost, wSeq, wNext, wIfS, wT, w2, oAdd, oSub, oI, oIc, oMulW, oDivW, oMod, oPow, oLt, oLe, oGt, oGe, oEq, wIsN, D.isNon, wChain, wIf, wFld, wTup, wLst, shs, wSet, wOwn, wPar, wPar3, wCall, wMake, wMeth, wExpr, wAsgE, geT, geCons, geNil, geF, putD, wAsgT, gT, gsCons, gsNil, gN, iSeq, iOne, iRng, iZip, wNeg, wAnd, wOr, wNot, seqD, shs, oIx, oIxA, oIn, inD, wPut, setD, wGet2, wNewD, wYes, noX, dcD, blsD, eqD, shD, toPy, toPyL, PyData.eqv, PyData.eqvAll, SeqAt.shaped, PyData.canLay0, PyData.canLayAll0, PyData.depth, PyData.depthAll, and_assoc, sz1, sz2, sz3, kit_self, lookup_hd, lookup_tl, Int.natCast_inj, show ((0 : Nat) : Int) = 0 from rfl, kb_NoneType_bool, kb_NoneType_int, kb_NoneType_str, kb_NoneType_list, kb_NoneType_tuple, kb_NoneType_dict, kb_bool_bool, kb_bool_int, kb_bool_str, kb_bool_list, kb_bool_tuple, kb_bool_dict, kb_int_bool, kb_int_int, kb_int_str, kb_int_list, kb_int_tuple, kb_int_dict, kb_str_bool, kb_str_int, kb_str_str, kb_str_list, kb_str_tuple, kb_str_dict, kb_list_bool, kb_list_int, kb_list_str, kb_list_list, kb_list_tuple, kb_list_dict, kb_tuple_bool, kb_tuple_int, kb_tuple_str, kb_tuple_list, kb_tuple_tuple, kb_tuple_dict, kb_dict_bool, kb_dict_int, kb_dict_str, kb_dict_list, kb_dict_tuple, kb_dict_dict]
    rename_i xs
    cases e : decide (lo ≤ (xs.length : Int))
    · rw [e] at hp; exact hp
    · rw [e] at hp; exact hp
theorem l_need_base (h : Φ_need_base K CTable CWorld CSplit rs os P PX) : w_need_base K CTable CWorld CSplit ⟨startR ["value"] rs, os⟩ (bodyPost os.length P PX) := by
  obtain ⟨b, rfl, h1, h2, hp⟩ := h
  simpa [w_need_base, Φ_is_between, h1, h2, wRet, wRetN, wAndV, wOrV, wNotV, wF, wCons, wNil, wV, wC, o1, o2, fIsi, fLen, fAll, fInt, fAbs, fII, fTup, fList, startR, R.fz, R.val, isiD, clsD, clsL, tyD, insOk, bodyPost, wSeq, wNext, wIfS, wT, w2, oAdd, oSub, oI, oIc, oMulW, oDivW, oMod, oPow, oLt, oLe, oGt, oGe, oEq, wIsN, D.isNon, wChain, wIf, wFld, wTup, wLst, shs, wSet, wOwn, wPar, wPar3, wCall, wMake, wMeth, wExpr, wAsgE, geT, geCons, geNil, geF, putD, wAsgT, gT, gsCons, gsNil, gN, iSeq, iOne, iRng, iZip, wNeg, wAnd, wOr, wNot, seqD, shs, oIx, oIxA, oIn, inD, wPut, setD, wGet2, wNewD, wYes, noX, dcD, blsD, eqD, shD, toPy, toPyL, PyData.eqv, PyData.eqvAll, SeqAt.shaped, PyData.canLay0, PyData.canLayAll0, PyData.depth, PyData.depthAll, and_assoc, sz1, sz2, sz3, kit_self, lookup_hd, lookup_tl, Int.natCast_inj, show ((0 : Nat) : Int) = 0 from rfl, kb_NoneType_bool, kb_NoneType_int, kb_NoneType_str, kb_NoneType_list, kb_NoneType_tuple, kb_NoneType_dict, kb_bool_bool, kb_bool_int, kb_bool_str, kb_bool_list, kb_bool_tuple, kb_bool_dict, kb_int_bool, kb_int_int, kb_int_str, kb_int_list, kb_int_tuple, kb_int_dict, kb_str_bool, kb_str_int, kb_str_str, kb_str_list, kb_str_tuple, kb_str_dict, kb_list_bool, kb_list_int, kb_list_str, kb_list_list, kb_list_tuple, kb_list_dict, kb_tuple_bool, kb_tuple_int, kb_tuple_str, kb_tuple_list, kb_tuple_tuple, kb_tuple_dict, kb_dict_bool, kb_dict_int, kb_dict_str, kb_dict_list, kb_dict_tuple, kb_dict_dict] using hp
theorem l_lowest (h : Φ_lowest K CTable CWorld CSplit rs os P PX) : w_lowest K CTable CWorld CSplit ⟨startR ["top", "bottom", "part"] rs, os⟩ (bodyPost os.length P PX) := by
  obtain ⟨a, b, rfl, h1, h2, h3, h4, hp⟩ := h
  have g0 : 0 < Nat.gcd a b := Nat.gcd_pos_of_pos_left _ h1
  have g1 : Nat.gcd a b ≤ 9999 := Nat.le_trans (Nat.gcd_le_left _ h1) h3
  simp [w_lowest, wRet, wRetN, wAndV, wOrV, wNotV, wF, wCons, wNil, wV, wC, o1, o2, fIsi, fLen, fAll, fInt, fAbs, fII, fTup, fList, startR, R.fz, R.val, isiD, clsD, clsL, tyD, insOk, bodyPost, wSeq, wNext, wIfS, wT, w2, oAdd, oSub, oI, oIc, oMulW, oDivW, oMod, oPow, oLt, oLe, oGt, oGe, oEq, wIsN, D.isNon, wChain, wIf, wFld, wTup, wLst, shs, wSet, wOwn, wPar, wPar3, wCall, wMake, wMeth, wExpr, wAsgE, geT, geCons, geNil, geF, putD, wAsgT, gT, gsCons, gsNil, gN, iSeq, iOne, iRng, iZip, wNeg, wAnd, wOr, wNot, seqD, shs, oIx, oIxA, oIn, inD, wPut, setD, wGet2, wNewD, wYes, noX, dcD, blsD, eqD, shD, toPy, toPyL, PyData.eqv, PyData.eqvAll, SeqAt.shaped, PyData.canLay0, PyData.canLayAll0, PyData.depth, PyData.depthAll, and_assoc, sz1, sz2, sz3, kit_self, lookup_hd, lookup_tl, Int.natCast_inj, show ((0 : Nat) : Int) = 0 from rfl, kb_NoneType_bool, kb_NoneType_int, kb_NoneType_str, kb_NoneType_list, kb_NoneType_tuple, kb_NoneType_dict, kb_bool_bool, kb_bool_int, kb_bool_str, kb_bool_list, kb_bool_tuple, kb_bool_dict, kb_int_bool, kb_int_int, kb_int_str, kb_int_list, kb_int_tuple, kb_int_dict, kb_str_bool, kb_str_int, kb_str_str, kb_str_list, kb_str_tuple, kb_str_dict, kb_list_bool, kb_list_int, kb_list_str, kb_list_list, kb_list_tuple, kb_list_dict, kb_tuple_bool, kb_tuple_int, kb_tuple_str, kb_tuple_list, kb_tuple_tuple, kb_tuple_dict, kb_dict_bool, kb_dict_int, kb_dict_str, kb_dict_list, kb_dict_tuple, kb_dict_dict]
  refine ⟨a, b, rfl, h1, ?_⟩
  simp [wRet, wRetN, wAndV, wOrV, wNotV, wF, wCons, wNil, wV, wC, o1, o2, fIsi, fLen, fAll, fInt, fAbs, fII, fTup, fList, startR, R.fz, R.val, isiD, clsD, clsL, tyD, insOk, bodyPost, wSeq, wNext, wIfS, wT, w2, oAdd, oSub, oI, oIc, oMulW, oDivW, oMod, oPow, oLt, oLe, oGt, oGe, oEq, wIsN, D.isNon, wChain, wIf, wFld, wTup, wLst, shs, wSet, wOwn, wPar, wPar3, wCall, wMake, wMeth, wExpr, wAsgE, geT, geCons, geNil, geF, putD, wAsgT, gT, gsCons, gsNil, gN, iSeq, iOne, iRng, iZip, wNeg, wAnd, wOr, wNot, seqD, shs, oIx, oIxA, oIn, inD, wPut, setD, wGet2, wNewD, wYes, noX, dcD, blsD, eqD, shD, toPy, toPyL, PyData.eqv, PyData.eqvAll, SeqAt.shaped, PyData.canLay0, PyData.canLayAll0, PyData.depth, PyData.depthAll, and_assoc, sz1, sz2, sz3, kit_self, lookup_hd, lookup_tl, Int.natCast_inj, show ((0 : Nat) : Int) = 0 from rfl, kb_NoneType_bool, kb_NoneType_int, kb_NoneType_str, kb_NoneType_list, kb_NoneType_tuple, kb_NoneType_dict, kb_bool_bool, kb_bool_int, kb_bool_str, kb_bool_list, kb_bool_tuple, kb_bool_dict, kb_int_bool, kb_int_int, kb_int_str, kb_int_list, kb_int_tuple, kb_int_dict, kb_str_bool, kb_str_int, kb_str_str, kb_str_list, kb_str_tuple, kb_str_dict, kb_list_bool, kb_list_int, kb_list_str, kb_list_list, kb_list_tuple, kb_list_dict, kb_tuple_bool, kb_tuple_int, kb_tuple_str, kb_tuple_list, kb_tuple_tuple, kb_tuple_dict, kb_dict_bool, kb_dict_int, kb_dict_str, kb_dict_list, kb_dict_tuple, kb_dict_dict]
  refine ⟨cdW g0 g1, cdW g0 g1, ?_⟩
  simpa using hp
theorem l_is_at_most (h : Φ_is_at_most K CTable CWorld CSplit rs os P PX) : w_is_at_most K CTable CWorld CSplit ⟨startR ["number", "base", "threshold", "top", "bottom"] rs, os⟩ (bodyPost os.length P PX) := by
  obtain ⟨n, b, t, u, rfl, h1, h2, h3, h4, hp⟩ := h
  simp [w_is_at_most, wRet, wRetN, wAndV, wOrV, wNotV, wF, wCons, wNil, wV, wC, o1, o2, fIsi, fLen, fAll, fInt, fAbs, fII, fTup, fList, startR, R.fz, R.val, isiD, clsD, clsL, tyD, insOk, bodyPost, wSeq, wNext, wIfS, wT, w2, oAdd, oSub, oI, oIc, oMulW, oDivW, oMod, oPow, oLt, oLe, oGt, oGe, oEq, wIsN, D.isNon, wChain, wIf, wFld, wTup, wLst, shs, wSet, wOwn, wPar, wPar3, wCall, wMake, wMeth, wExpr, wAsgE, geT, geCons, geNil, geF, putD, wAsgT, gT, gsCons, gsNil, gN, iSeq, iOne, iRng, iZip, wNeg, wAnd, wOr, wNot, seqD, shs, oIx, oIxA, oIn, inD, wPut, setD, wGet2, wNewD, wYes, noX, dcD, blsD, eqD, shD, toPy, toPyL, PyData.eqv, PyData.eqvAll, SeqAt.shaped, PyData.canLay0, PyData.canLayAll0, PyData.depth, PyData.depthAll, and_assoc, sz1, sz2, sz3, kit_self, lookup_hd, lookup_tl, Int.natCast_inj, show ((0 : Nat) : Int) = 0 from rfl, kb_NoneType_bool, kb_NoneType_int, kb_NoneType_str, kb_NoneType_list, kb_NoneType_tuple, kb_NoneType_dict, kb_bool_bool, kb_bool_int, kb_bool_str, kb_bool_list, kb_bool_tuple, kb_bool_dict, kb_int_bool, kb_int_int, kb_int_str, kb_int_list, kb_int_tuple, kb_int_dict, kb_str_bool, kb_str_int, kb_str_str, kb_str_list, kb_str_tuple, kb_str_dict, kb_list_bool, kb_list_int, kb_list_str, kb_list_list, kb_list_tuple, kb_list_dict, kb_tuple_bool, kb_tuple_int, kb_tuple_str, kb_tuple_list, kb_tuple_tuple, kb_tuple_dict, kb_dict_bool, kb_dict_int, kb_dict_str, kb_dict_list, kb_dict_tuple, kb_dict_dict]
  refine ⟨n, u, rfl, h1, h4, b, t, rfl, h2, h3, ?_⟩
  have e : decide (((n ^ u : Nat) : Int) ≤ ((b ^ t : Nat) : Int)) = decide (n ^ u ≤ b ^ t) := by
    rw [decide_eq_decide]; exact Int.ofNat_le
  simp only [e, List.take_length]
  exact hp
theorem l_Table_init (T : Txt K mg CTable CWorld CSplit) (h : Φ_Table_init K CTable CWorld CSplit rs os P PX) : w_Table_init K CTable CWorld CSplit ⟨startR ["self", "name", "width"] rs, os⟩ (bodyPost os.length P PX) := by
  obtain ⟨k, z, w, rfl, ho, hz, hn, h1, h2, hp⟩ := h
  simp [w_Table_init, wRet, wRetN, wAndV, wOrV, wNotV, wF, wCons, wNil, wV, wC, o1, o2, fIsi, fLen, fAll, fInt, fAbs, fII, fTup, fList, startR, R.fz, R.val, isiD, clsD, clsL, tyD, insOk, bodyPost, wSeq, wNext, wIfS, wT, w2, oAdd, oSub, oI, oIc, oMulW, oDivW, oMod, oPow, oLt, oLe, oGt, oGe, oEq, wIsN, D.isNon, wChain, wIf, wFld, wTup, wLst, shs, wSet, wOwn, wPar, wPar3, wCall, wMake, wMeth, wExpr, wAsgE, geT, geCons, geNil, geF, putD, wAsgT, gT, gsCons, gsNil, gN, iSeq, iOne, iRng, iZip, wNeg, wAnd, wOr, wNot, seqD, shs, oIx, oIxA, oIn, inD, wPut, setD, wGet2, wNewD, wYes, noX, dcD, blsD, eqD, shD, toPy, toPyL, PyData.eqv, PyData.eqvAll, SeqAt.shaped, PyData.canLay0, PyData.canLayAll0, PyData.depth, PyData.depthAll, and_assoc, sz1, sz2, sz3, kit_self, lookup_hd, lookup_tl, Int.natCast_inj, show ((0 : Nat) : Int) = 0 from rfl, kb_NoneType_bool, kb_NoneType_int, kb_NoneType_str, kb_NoneType_list, kb_NoneType_tuple, kb_NoneType_dict, kb_bool_bool, kb_bool_int, kb_bool_str, kb_bool_list, kb_bool_tuple, kb_bool_dict, kb_int_bool, kb_int_int, kb_int_str, kb_int_list, kb_int_tuple, kb_int_dict, kb_str_bool, kb_str_int, kb_str_str, kb_str_list, kb_str_tuple, kb_str_dict, kb_list_bool, kb_list_int, kb_list_str, kb_list_list, kb_list_tuple, kb_list_dict, kb_tuple_bool, kb_tuple_int, kb_tuple_str, kb_tuple_list, kb_tuple_tuple, kb_tuple_dict, kb_dict_bool, kb_dict_int, kb_dict_str, kb_dict_list, kb_dict_tuple, kb_dict_dict]
  refine ⟨z, rfl, hz, ?_⟩
  simp [hn, wRet, wRetN, wAndV, wOrV, wNotV, wF, wCons, wNil, wV, wC, o1, o2, fIsi, fLen, fAll, fInt, fAbs, fII, fTup, fList, startR, R.fz, R.val, isiD, clsD, clsL, tyD, insOk, bodyPost, wSeq, wNext, wIfS, wT, w2, oAdd, oSub, oI, oIc, oMulW, oDivW, oMod, oPow, oLt, oLe, oGt, oGe, oEq, wIsN, D.isNon, wChain, wIf, wFld, wTup, wLst, shs, wSet, wOwn, wPar, wPar3, wCall, wMake, wMeth, wExpr, wAsgE, geT, geCons, geNil, geF, putD, wAsgT, gT, gsCons, gsNil, gN, iSeq, iOne, iRng, iZip, wNeg, wAnd, wOr, wNot, seqD, shs, oIx, oIxA, oIn, inD, wPut, setD, wGet2, wNewD, wYes, noX, dcD, blsD, eqD, shD, toPy, toPyL, PyData.eqv, PyData.eqvAll, SeqAt.shaped, PyData.canLay0, PyData.canLayAll0, PyData.depth, PyData.depthAll, and_assoc, sz1, sz2, sz3, kit_self, lookup_hd, lookup_tl, Int.natCast_inj, show ((0 : Nat) : Int) = 0 from rfl, kb_NoneType_bool, kb_NoneType_int, kb_NoneType_str, kb_NoneType_list, kb_NoneType_tuple, kb_NoneType_dict, kb_bool_bool, kb_bool_int, kb_bool_str, kb_bool_list, kb_bool_tuple, kb_bool_dict, kb_int_bool, kb_int_int, kb_int_str, kb_int_list, kb_int_tuple, kb_int_dict, kb_str_bool, kb_str_int, kb_str_str, kb_str_list, kb_str_tuple, kb_str_dict, kb_list_bool, kb_list_int, kb_list_str, kb_list_list, kb_list_tuple, kb_list_dict, kb_tuple_bool, kb_tuple_int, kb_tuple_str, kb_tuple_list, kb_tuple_tuple, kb_tuple_dict, kb_dict_bool, kb_dict_int, kb_dict_str, kb_dict_list, kb_dict_tuple, kb_dict_dict]
  refine ⟨w, 1, 2, rfl, ?_⟩
  simp [h1, h2, ho, set_at ho, ne_nw, take_set, wRet, wRetN, wAndV, wOrV, wNotV, wF, wCons, wNil, wV, wC, o1, o2, fIsi, fLen, fAll, fInt, fAbs, fII, fTup, fList, startR, R.fz, R.val, isiD, clsD, clsL, tyD, insOk, bodyPost, wSeq, wNext, wIfS, wT, w2, oAdd, oSub, oI, oIc, oMulW, oDivW, oMod, oPow, oLt, oLe, oGt, oGe, oEq, wIsN, D.isNon, wChain, wIf, wFld, wTup, wLst, shs, wSet, wOwn, wPar, wPar3, wCall, wMake, wMeth, wExpr, wAsgE, geT, geCons, geNil, geF, putD, wAsgT, gT, gsCons, gsNil, gN, iSeq, iOne, iRng, iZip, wNeg, wAnd, wOr, wNot, seqD, shs, oIx, oIxA, oIn, inD, wPut, setD, wGet2, wNewD, wYes, noX, dcD, blsD, eqD, shD, toPy, toPyL, PyData.eqv, PyData.eqvAll, SeqAt.shaped, PyData.canLay0, PyData.canLayAll0, PyData.depth, PyData.depthAll, and_assoc, sz1, sz2, sz3, kit_self, lookup_hd, lookup_tl, Int.natCast_inj, show ((0 : Nat) : Int) = 0 from rfl, kb_NoneType_bool, kb_NoneType_int, kb_NoneType_str, kb_NoneType_list, kb_NoneType_tuple, kb_NoneType_dict, kb_bool_bool, kb_bool_int, kb_bool_str, kb_bool_list, kb_bool_tuple, kb_bool_dict, kb_int_bool, kb_int_int, kb_int_str, kb_int_list, kb_int_tuple, kb_int_dict, kb_str_bool, kb_str_int, kb_str_str, kb_str_list, kb_str_tuple, kb_str_dict, kb_list_bool, kb_list_int, kb_list_str, kb_list_list, kb_list_tuple, kb_list_dict, kb_tuple_bool, kb_tuple_int, kb_tuple_str, kb_tuple_list, kb_tuple_tuple, kb_tuple_dict, kb_dict_bool, kb_dict_int, kb_dict_str, kb_dict_list, kb_dict_tuple, kb_dict_dict]
  simpa [tabD] using hp
theorem l_Table_eq (T : Txt K mg CTable CWorld CSplit) (h : Φ_Table_eq K CTable CWorld CSplit rs os P PX) : w_Table_eq K CTable CWorld CSplit ⟨startR ["self", "other"] rs, os⟩ (bodyPost os.length P PX) := by
  obtain ⟨s, t, rfl, k1, k2, hp⟩ := h
  have e1 : ((s.1 == t.1) && (s.2 == t.2)) = decide (s = t) := by
    rw [Bool.eq_iff_iff]; simp [Prod.ext_iff]
  simp [w_Table_eq, tabD, T.i_Table, T.k_Table, T.n_Table_name, T.n_Table_width, lookup_tl ne_wn, k1, k2, wRet, wRetN, wAndV, wOrV, wNotV, wF, wCons, wNil, wV, wC, o1, o2, fIsi, fLen, fAll, fInt, fAbs, fII, fTup, fList, startR, R.fz, R.val, isiD, clsD, clsL, tyD, insOk, bodyPost, wSeq, wNext, wIfS, wT, w2, oAdd, oSub, oI, oIc, oMulW, oDivW, oMod, oPow, oLt, oLe, oGt, oGe, oEq, wIsN, D.isNon, wChain, wIf, wFld, wTup, wLst, shs, wSet, wOwn, wPar, wPar3, wCall, wMake, wMeth, wExpr, wAsgE, geT, geCons, geNil, geF, putD, wAsgT, gT, gsCons, gsNil, gN, iSeq, iOne, iRng, iZip, wNeg, wAnd, wOr, wNot, seqD, shs, oIx, oIxA, oIn, inD, wPut, setD, wGet2, wNewD, wYes, noX, dcD, blsD, eqD, shD, toPy, toPyL, PyData.eqv, PyData.eqvAll, SeqAt.shaped, PyData.canLay0, PyData.canLayAll0, PyData.depth, PyData.depthAll, and_assoc, sz1, sz2, sz3, kit_self, lookup_hd, lookup_tl, Int.natCast_inj, show ((0 : Nat) : Int) = 0 from rfl, kb_NoneType_bool, kb_NoneType_int, kb_NoneType_str, kb_NoneType_list, kb_NoneType_tuple, kb_NoneType_dict, kb_bool_bool, kb_bool_int, kb_bool_str, kb_bool_list, kb_bool_tuple, kb_bool_dict, kb_int_bool, kb_int_int, kb_int_str, kb_int_list, kb_int_tuple, kb_int_dict, kb_str_bool, kb_str_int, kb_str_str, kb_str_list, kb_str_tuple, kb_str_dict, kb_list_bool, kb_list_int, kb_list_str, kb_list_list, kb_list_tuple, kb_list_dict, kb_tuple_bool, kb_tuple_int, kb_tuple_str, kb_tuple_list, kb_tuple_tuple, kb_tuple_dict, kb_dict_bool, kb_dict_int, kb_dict_str, kb_dict_list, kb_dict_tuple, kb_dict_dict]
  simpa [e1] using hp
theorem l_need_split (T : Txt K mg CTable CWorld CSplit) (h : Φ_need_split K CTable CWorld CSplit rs os P PX) : w_need_split K CTable CWorld CSplit ⟨startR ["value"] rs, os⟩ (bodyPost os.length P PX) := by
  obtain ⟨t, c, a, b, rfl, hp⟩ := h
  simpa [w_need_split, splitD, T.i_Split, wRet, wRetN, wAndV, wOrV, wNotV, wF, wCons, wNil, wV, wC, o1, o2, fIsi, fLen, fAll, fInt, fAbs, fII, fTup, fList, startR, R.fz, R.val, isiD, clsD, clsL, tyD, insOk, bodyPost, wSeq, wNext, wIfS, wT, w2, oAdd, oSub, oI, oIc, oMulW, oDivW, oMod, oPow, oLt, oLe, oGt, oGe, oEq, wIsN, D.isNon, wChain, wIf, wFld, wTup, wLst, shs, wSet, wOwn, wPar, wPar3, wCall, wMake, wMeth, wExpr, wAsgE, geT, geCons, geNil, geF, putD, wAsgT, gT, gsCons, gsNil, gN, iSeq, iOne, iRng, iZip, wNeg, wAnd, wOr, wNot, seqD, shs, oIx, oIxA, oIn, inD, wPut, setD, wGet2, wNewD, wYes, noX, dcD, blsD, eqD, shD, toPy, toPyL, PyData.eqv, PyData.eqvAll, SeqAt.shaped, PyData.canLay0, PyData.canLayAll0, PyData.depth, PyData.depthAll, and_assoc, sz1, sz2, sz3, kit_self, lookup_hd, lookup_tl, Int.natCast_inj, show ((0 : Nat) : Int) = 0 from rfl, kb_NoneType_bool, kb_NoneType_int, kb_NoneType_str, kb_NoneType_list, kb_NoneType_tuple, kb_NoneType_dict, kb_bool_bool, kb_bool_int, kb_bool_str, kb_bool_list, kb_bool_tuple, kb_bool_dict, kb_int_bool, kb_int_int, kb_int_str, kb_int_list, kb_int_tuple, kb_int_dict, kb_str_bool, kb_str_int, kb_str_str, kb_str_list, kb_str_tuple, kb_str_dict, kb_list_bool, kb_list_int, kb_list_str, kb_list_list, kb_list_tuple, kb_list_dict, kb_tuple_bool, kb_tuple_int, kb_tuple_str, kb_tuple_list, kb_tuple_tuple, kb_tuple_dict, kb_dict_bool, kb_dict_int, kb_dict_str, kb_dict_list, kb_dict_tuple, kb_dict_dict] using hp
theorem l_need_world (T : Txt K mg CTable CWorld CSplit) (h : Φ_need_world K CTable CWorld CSplit rs os P PX) : w_need_world K CTable CWorld CSplit ⟨startR ["value"] rs, os⟩ (bodyPost os.length P PX) := by
  obtain ⟨t, rws, rfl, hp⟩ := h
  simpa [w_need_world, worldD, T.i_World, wRet, wRetN, wAndV, wOrV, wNotV, wF, wCons, wNil, wV, wC, o1, o2, fIsi, fLen, fAll, fInt, fAbs, fII, fTup, fList, startR, R.fz, R.val, isiD, clsD, clsL, tyD, insOk, bodyPost, wSeq, wNext, wIfS, wT, w2, oAdd, oSub, oI, oIc, oMulW, oDivW, oMod, oPow, oLt, oLe, oGt, oGe, oEq, wIsN, D.isNon, wChain, wIf, wFld, wTup, wLst, shs, wSet, wOwn, wPar, wPar3, wCall, wMake, wMeth, wExpr, wAsgE, geT, geCons, geNil, geF, putD, wAsgT, gT, gsCons, gsNil, gN, iSeq, iOne, iRng, iZip, wNeg, wAnd, wOr, wNot, seqD, shs, oIx, oIxA, oIn, inD, wPut, setD, wGet2, wNewD, wYes, noX, dcD, blsD, eqD, shD, toPy, toPyL, PyData.eqv, PyData.eqvAll, SeqAt.shaped, PyData.canLay0, PyData.canLayAll0, PyData.depth, PyData.depthAll, and_assoc, sz1, sz2, sz3, kit_self, lookup_hd, lookup_tl, Int.natCast_inj, show ((0 : Nat) : Int) = 0 from rfl, kb_NoneType_bool, kb_NoneType_int, kb_NoneType_str, kb_NoneType_list, kb_NoneType_tuple, kb_NoneType_dict, kb_bool_bool, kb_bool_int, kb_bool_str, kb_bool_list, kb_bool_tuple, kb_bool_dict, kb_int_bool, kb_int_int, kb_int_str, kb_int_list, kb_int_tuple, kb_int_dict, kb_str_bool, kb_str_int, kb_str_str, kb_str_list, kb_str_tuple, kb_str_dict, kb_list_bool, kb_list_int, kb_list_str, kb_list_list, kb_list_tuple, kb_list_dict, kb_tuple_bool, kb_tuple_int, kb_tuple_str, kb_tuple_list, kb_tuple_tuple, kb_tuple_dict, kb_dict_bool, kb_dict_int, kb_dict_str, kb_dict_list, kb_dict_tuple, kb_dict_dict] using hp
theorem l_World_need_index (T : Txt K mg CTable CWorld CSplit) (h : Φ_World_need_index K CTable CWorld CSplit rs os P PX) : w_World_need_index K CTable CWorld CSplit ⟨startR ["self", "name", "at"] rs, os⟩ (bodyPost os.length P PX) := by
  obtain ⟨t, rws, rfl, h0, hp⟩ := h
  simp only [worldD]
  simp [w_World_need_index, wRet, wRetN, wAndV, wOrV, wNotV, wF, wCons, wNil, wV, wC, o1, o2, fIsi, fLen, fAll, fInt, fAbs, fII, fTup, fList, startR, R.fz, R.val, isiD, clsD, clsL, tyD, insOk, bodyPost, wSeq, wNext, wIfS, wT, w2, oAdd, oSub, oI, oIc, oMulW, oDivW, oMod, oPow, oLt, oLe, oGt, oGe, oEq, wIsN, D.isNon, wChain, wIf, wFld, wTup, wLst, shs, wSet, wOwn, wPar, wPar3, wCall, wMake, wMeth, wExpr, wAsgE, geT, geCons, geNil, geF, putD, wAsgT, gT, gsCons, gsNil, gN, iSeq, iOne, iRng, iZip, wNeg, wAnd, wOr, wNot, seqD, shs, oIx, oIxA, oIn, inD, wPut, setD, wGet2, wNewD, wYes, noX, dcD, blsD, eqD, shD, toPy, toPyL, PyData.eqv, PyData.eqvAll, SeqAt.shaped, PyData.canLay0, PyData.canLayAll0, PyData.depth, PyData.depthAll, and_assoc, sz1, sz2, sz3, kit_self, lookup_hd, lookup_tl, Int.natCast_inj, show ((0 : Nat) : Int) = 0 from rfl, kb_NoneType_bool, kb_NoneType_int, kb_NoneType_str, kb_NoneType_list, kb_NoneType_tuple, kb_NoneType_dict, kb_bool_bool, kb_bool_int, kb_bool_str, kb_bool_list, kb_bool_tuple, kb_bool_dict, kb_int_bool, kb_int_int, kb_int_str, kb_int_list, kb_int_tuple, kb_int_dict, kb_str_bool, kb_str_int, kb_str_str, kb_str_list, kb_str_tuple, kb_str_dict, kb_list_bool, kb_list_int, kb_list_str, kb_list_list, kb_list_tuple, kb_list_dict, kb_tuple_bool, kb_tuple_int, kb_tuple_str, kb_tuple_list, kb_tuple_tuple, kb_tuple_dict, kb_dict_bool, kb_dict_int, kb_dict_str, kb_dict_list, kb_dict_tuple, kb_dict_dict]
  refine ⟨by rintro a b (⟨rfl, _⟩ | ⟨rfl, _⟩) <;> first | exact ne_ixt | exact ne_ixr, t, rws, rfl, h0, ?_⟩
  simpa [wRet, wRetN, wAndV, wOrV, wNotV, wF, wCons, wNil, wV, wC, o1, o2, fIsi, fLen, fAll, fInt, fAbs, fII, fTup, fList, startR, R.fz, R.val, isiD, clsD, clsL, tyD, insOk, bodyPost, wSeq, wNext, wIfS, wT, w2, oAdd, oSub, oI, oIc, oMulW, oDivW, oMod, oPow, oLt, oLe, oGt, oGe, oEq, wIsN, D.isNon, wChain, wIf, wFld, wTup, wLst, shs, wSet, wOwn, wPar, wPar3, wCall, wMake, wMeth, wExpr, wAsgE, geT, geCons, geNil, geF, putD, wAsgT, gT, gsCons, gsNil, gN, iSeq, iOne, iRng, iZip, wNeg, wAnd, wOr, wNot, seqD, shs, oIx, oIxA, oIn, inD, wPut, setD, wGet2, wNewD, wYes, noX, dcD, blsD, eqD, shD, toPy, toPyL, PyData.eqv, PyData.eqvAll, SeqAt.shaped, PyData.canLay0, PyData.canLayAll0, PyData.depth, PyData.depthAll, and_assoc, sz1, sz2, sz3, kit_self, lookup_hd, lookup_tl, Int.natCast_inj, show ((0 : Nat) : Int) = 0 from rfl, kb_NoneType_bool, kb_NoneType_int, kb_NoneType_str, kb_NoneType_list, kb_NoneType_tuple, kb_NoneType_dict, kb_bool_bool, kb_bool_int, kb_bool_str, kb_bool_list, kb_bool_tuple, kb_bool_dict, kb_int_bool, kb_int_int, kb_int_str, kb_int_list, kb_int_tuple, kb_int_dict, kb_str_bool, kb_str_int, kb_str_str, kb_str_list, kb_str_tuple, kb_str_dict, kb_list_bool, kb_list_int, kb_list_str, kb_list_list, kb_list_tuple, kb_list_dict, kb_tuple_bool, kb_tuple_int, kb_tuple_str, kb_tuple_list, kb_tuple_tuple, kb_tuple_dict, kb_dict_bool, kb_dict_int, kb_dict_str, kb_dict_list, kb_dict_tuple, kb_dict_dict] using hp
theorem l_World_rows_of (T : Txt K mg CTable CWorld CSplit) (h : Φ_World_rows_of K CTable CWorld CSplit rs os P PX) : w_World_rows_of K CTable CWorld CSplit ⟨startR ["self", "name"] rs, os⟩ (bodyPost os.length P PX) := by
  obtain ⟨t, rws, rfl, h0, hp⟩ := h
  simp only [worldD]
  simp [w_World_rows_of, T.k_World, T.n_World_rows, lookup_tl ne_rt, wRet, wRetN, wAndV, wOrV, wNotV, wF, wCons, wNil, wV, wC, o1, o2, fIsi, fLen, fAll, fInt, fAbs, fII, fTup, fList, startR, R.fz, R.val, isiD, clsD, clsL, tyD, insOk, bodyPost, wSeq, wNext, wIfS, wT, w2, oAdd, oSub, oI, oIc, oMulW, oDivW, oMod, oPow, oLt, oLe, oGt, oGe, oEq, wIsN, D.isNon, wChain, wIf, wFld, wTup, wLst, shs, wSet, wOwn, wPar, wPar3, wCall, wMake, wMeth, wExpr, wAsgE, geT, geCons, geNil, geF, putD, wAsgT, gT, gsCons, gsNil, gN, iSeq, iOne, iRng, iZip, wNeg, wAnd, wOr, wNot, seqD, shs, oIx, oIxA, oIn, inD, wPut, setD, wGet2, wNewD, wYes, noX, dcD, blsD, eqD, shD, toPy, toPyL, PyData.eqv, PyData.eqvAll, SeqAt.shaped, PyData.canLay0, PyData.canLayAll0, PyData.depth, PyData.depthAll, and_assoc, sz1, sz2, sz3, kit_self, lookup_hd, lookup_tl, Int.natCast_inj, show ((0 : Nat) : Int) = 0 from rfl, kb_NoneType_bool, kb_NoneType_int, kb_NoneType_str, kb_NoneType_list, kb_NoneType_tuple, kb_NoneType_dict, kb_bool_bool, kb_bool_int, kb_bool_str, kb_bool_list, kb_bool_tuple, kb_bool_dict, kb_int_bool, kb_int_int, kb_int_str, kb_int_list, kb_int_tuple, kb_int_dict, kb_str_bool, kb_str_int, kb_str_str, kb_str_list, kb_str_tuple, kb_str_dict, kb_list_bool, kb_list_int, kb_list_str, kb_list_list, kb_list_tuple, kb_list_dict, kb_tuple_bool, kb_tuple_int, kb_tuple_str, kb_tuple_list, kb_tuple_tuple, kb_tuple_dict, kb_dict_bool, kb_dict_int, kb_dict_str, kb_dict_list, kb_dict_tuple, kb_dict_dict]
  refine ⟨by rintro a b (⟨rfl, _⟩ | ⟨rfl, _⟩) <;> first | exact ne_nit | exact ne_nir, t, rws, rfl, h0, ?_⟩
  simpa [atI, ixN, wRet, wRetN, wAndV, wOrV, wNotV, wF, wCons, wNil, wV, wC, o1, o2, fIsi, fLen, fAll, fInt, fAbs, fII, fTup, fList, startR, R.fz, R.val, isiD, clsD, clsL, tyD, insOk, bodyPost, wSeq, wNext, wIfS, wT, w2, oAdd, oSub, oI, oIc, oMulW, oDivW, oMod, oPow, oLt, oLe, oGt, oGe, oEq, wIsN, D.isNon, wChain, wIf, wFld, wTup, wLst, shs, wSet, wOwn, wPar, wPar3, wCall, wMake, wMeth, wExpr, wAsgE, geT, geCons, geNil, geF, putD, wAsgT, gT, gsCons, gsNil, gN, iSeq, iOne, iRng, iZip, wNeg, wAnd, wOr, wNot, seqD, shs, oIx, oIxA, oIn, inD, wPut, setD, wGet2, wNewD, wYes, noX, dcD, blsD, eqD, shD, toPy, toPyL, PyData.eqv, PyData.eqvAll, SeqAt.shaped, PyData.canLay0, PyData.canLayAll0, PyData.depth, PyData.depthAll, and_assoc, sz1, sz2, sz3, kit_self, lookup_hd, lookup_tl, Int.natCast_inj, show ((0 : Nat) : Int) = 0 from rfl, kb_NoneType_bool, kb_NoneType_int, kb_NoneType_str, kb_NoneType_list, kb_NoneType_tuple, kb_NoneType_dict, kb_bool_bool, kb_bool_int, kb_bool_str, kb_bool_list, kb_bool_tuple, kb_bool_dict, kb_int_bool, kb_int_int, kb_int_str, kb_int_list, kb_int_tuple, kb_int_dict, kb_str_bool, kb_str_int, kb_str_str, kb_str_list, kb_str_tuple, kb_str_dict, kb_list_bool, kb_list_int, kb_list_str, kb_list_list, kb_list_tuple, kb_list_dict, kb_tuple_bool, kb_tuple_int, kb_tuple_str, kb_tuple_list, kb_tuple_tuple, kb_tuple_dict, kb_dict_bool, kb_dict_int, kb_dict_str, kb_dict_list, kb_dict_tuple, kb_dict_dict] using hp
theorem l_parted (T : Txt K mg CTable CWorld CSplit) (h : Φ_parted K CTable CWorld CSplit rs os P PX) : w_parted K CTable CWorld CSplit ⟨startR ["world", "split", "base"] rs, os⟩ (bodyPost os.length P PX) := by
  obtain ⟨rws, t, c, a, b, base, rfl, h0, h1, h2, h3, h4, h5, h6, h7, hp⟩ := h
  simp [w_parted, wRet, wRetN, wAndV, wOrV, wNotV, wF, wCons, wNil, wV, wC, o1, o2, fIsi, fLen, fAll, fInt, fAbs, fII, fTup, fList, startR, R.fz, R.val, isiD, clsD, clsL, tyD, insOk, bodyPost, wSeq, wNext, wIfS, wT, w2, oAdd, oSub, oI, oIc, oMulW, oDivW, oMod, oPow, oLt, oLe, oGt, oGe, oEq, wIsN, D.isNon, wChain, wIf, wFld, wTup, wLst, shs, wSet, wOwn, wPar, wPar3, wCall, wMake, wMeth, wExpr, wAsgE, geT, geCons, geNil, geF, putD, wAsgT, gT, gsCons, gsNil, gN, iSeq, iOne, iRng, iZip, wNeg, wAnd, wOr, wNot, seqD, shs, oIx, oIxA, oIn, inD, wPut, setD, wGet2, wNewD, wYes, noX, dcD, blsD, eqD, shD, toPy, toPyL, PyData.eqv, PyData.eqvAll, SeqAt.shaped, PyData.canLay0, PyData.canLayAll0, PyData.depth, PyData.depthAll, and_assoc, sz1, sz2, sz3, kit_self, lookup_hd, lookup_tl, Int.natCast_inj, show ((0 : Nat) : Int) = 0 from rfl, kb_NoneType_bool, kb_NoneType_int, kb_NoneType_str, kb_NoneType_list, kb_NoneType_tuple, kb_NoneType_dict, kb_bool_bool, kb_bool_int, kb_bool_str, kb_bool_list, kb_bool_tuple, kb_bool_dict, kb_int_bool, kb_int_int, kb_int_str, kb_int_list, kb_int_tuple, kb_int_dict, kb_str_bool, kb_str_int, kb_str_str, kb_str_list, kb_str_tuple, kb_str_dict, kb_list_bool, kb_list_int, kb_list_str, kb_list_list, kb_list_tuple, kb_list_dict, kb_tuple_bool, kb_tuple_int, kb_tuple_str, kb_tuple_list, kb_tuple_tuple, kb_tuple_dict, kb_dict_bool, kb_dict_int, kb_dict_str, kb_dict_list, kb_dict_tuple, kb_dict_dict]
  refine ⟨t, rws, rfl, ?_⟩
  simp [wRet, wRetN, wAndV, wOrV, wNotV, wF, wCons, wNil, wV, wC, o1, o2, fIsi, fLen, fAll, fInt, fAbs, fII, fTup, fList, startR, R.fz, R.val, isiD, clsD, clsL, tyD, insOk, bodyPost, wSeq, wNext, wIfS, wT, w2, oAdd, oSub, oI, oIc, oMulW, oDivW, oMod, oPow, oLt, oLe, oGt, oGe, oEq, wIsN, D.isNon, wChain, wIf, wFld, wTup, wLst, shs, wSet, wOwn, wPar, wPar3, wCall, wMake, wMeth, wExpr, wAsgE, geT, geCons, geNil, geF, putD, wAsgT, gT, gsCons, gsNil, gN, iSeq, iOne, iRng, iZip, wNeg, wAnd, wOr, wNot, seqD, shs, oIx, oIxA, oIn, inD, wPut, setD, wGet2, wNewD, wYes, noX, dcD, blsD, eqD, shD, toPy, toPyL, PyData.eqv, PyData.eqvAll, SeqAt.shaped, PyData.canLay0, PyData.canLayAll0, PyData.depth, PyData.depthAll, and_assoc, sz1, sz2, sz3, kit_self, lookup_hd, lookup_tl, Int.natCast_inj, show ((0 : Nat) : Int) = 0 from rfl, kb_NoneType_bool, kb_NoneType_int, kb_NoneType_str, kb_NoneType_list, kb_NoneType_tuple, kb_NoneType_dict, kb_bool_bool, kb_bool_int, kb_bool_str, kb_bool_list, kb_bool_tuple, kb_bool_dict, kb_int_bool, kb_int_int, kb_int_str, kb_int_list, kb_int_tuple, kb_int_dict, kb_str_bool, kb_str_int, kb_str_str, kb_str_list, kb_str_tuple, kb_str_dict, kb_list_bool, kb_list_int, kb_list_str, kb_list_list, kb_list_tuple, kb_list_dict, kb_tuple_bool, kb_tuple_int, kb_tuple_str, kb_tuple_list, kb_tuple_tuple, kb_tuple_dict, kb_dict_bool, kb_dict_int, kb_dict_str, kb_dict_list, kb_dict_tuple, kb_dict_dict]
  refine ⟨t, c, a, b, rfl, ?_⟩
  simp [wRet, wRetN, wAndV, wOrV, wNotV, wF, wCons, wNil, wV, wC, o1, o2, fIsi, fLen, fAll, fInt, fAbs, fII, fTup, fList, startR, R.fz, R.val, isiD, clsD, clsL, tyD, insOk, bodyPost, wSeq, wNext, wIfS, wT, w2, oAdd, oSub, oI, oIc, oMulW, oDivW, oMod, oPow, oLt, oLe, oGt, oGe, oEq, wIsN, D.isNon, wChain, wIf, wFld, wTup, wLst, shs, wSet, wOwn, wPar, wPar3, wCall, wMake, wMeth, wExpr, wAsgE, geT, geCons, geNil, geF, putD, wAsgT, gT, gsCons, gsNil, gN, iSeq, iOne, iRng, iZip, wNeg, wAnd, wOr, wNot, seqD, shs, oIx, oIxA, oIn, inD, wPut, setD, wGet2, wNewD, wYes, noX, dcD, blsD, eqD, shD, toPy, toPyL, PyData.eqv, PyData.eqvAll, SeqAt.shaped, PyData.canLay0, PyData.canLayAll0, PyData.depth, PyData.depthAll, and_assoc, sz1, sz2, sz3, kit_self, lookup_hd, lookup_tl, Int.natCast_inj, show ((0 : Nat) : Int) = 0 from rfl, kb_NoneType_bool, kb_NoneType_int, kb_NoneType_str, kb_NoneType_list, kb_NoneType_tuple, kb_NoneType_dict, kb_bool_bool, kb_bool_int, kb_bool_str, kb_bool_list, kb_bool_tuple, kb_bool_dict, kb_int_bool, kb_int_int, kb_int_str, kb_int_list, kb_int_tuple, kb_int_dict, kb_str_bool, kb_str_int, kb_str_str, kb_str_list, kb_str_tuple, kb_str_dict, kb_list_bool, kb_list_int, kb_list_str, kb_list_list, kb_list_tuple, kb_list_dict, kb_tuple_bool, kb_tuple_int, kb_tuple_str, kb_tuple_list, kb_tuple_tuple, kb_tuple_dict, kb_dict_bool, kb_dict_int, kb_dict_str, kb_dict_list, kb_dict_tuple, kb_dict_dict]
  refine ⟨base, rfl, by omega, by omega, ?_⟩
  simp only [splitD, worldD]
  simp [T.k_Split, T.n_Split_table, wRet, wRetN, wAndV, wOrV, wNotV, wF, wCons, wNil, wV, wC, o1, o2, fIsi, fLen, fAll, fInt, fAbs, fII, fTup, fList, startR, R.fz, R.val, isiD, clsD, clsL, tyD, insOk, bodyPost, wSeq, wNext, wIfS, wT, w2, oAdd, oSub, oI, oIc, oMulW, oDivW, oMod, oPow, oLt, oLe, oGt, oGe, oEq, wIsN, D.isNon, wChain, wIf, wFld, wTup, wLst, shs, wSet, wOwn, wPar, wPar3, wCall, wMake, wMeth, wExpr, wAsgE, geT, geCons, geNil, geF, putD, wAsgT, gT, gsCons, gsNil, gN, iSeq, iOne, iRng, iZip, wNeg, wAnd, wOr, wNot, seqD, shs, oIx, oIxA, oIn, inD, wPut, setD, wGet2, wNewD, wYes, noX, dcD, blsD, eqD, shD, toPy, toPyL, PyData.eqv, PyData.eqvAll, SeqAt.shaped, PyData.canLay0, PyData.canLayAll0, PyData.depth, PyData.depthAll, and_assoc, sz1, sz2, sz3, kit_self, lookup_hd, lookup_tl, Int.natCast_inj, show ((0 : Nat) : Int) = 0 from rfl, kb_NoneType_bool, kb_NoneType_int, kb_NoneType_str, kb_NoneType_list, kb_NoneType_tuple, kb_NoneType_dict, kb_bool_bool, kb_bool_int, kb_bool_str, kb_bool_list, kb_bool_tuple, kb_bool_dict, kb_int_bool, kb_int_int, kb_int_str, kb_int_list, kb_int_tuple, kb_int_dict, kb_str_bool, kb_str_int, kb_str_str, kb_str_list, kb_str_tuple, kb_str_dict, kb_list_bool, kb_list_int, kb_list_str, kb_list_list, kb_list_tuple, kb_list_dict, kb_tuple_bool, kb_tuple_int, kb_tuple_str, kb_tuple_list, kb_tuple_tuple, kb_tuple_dict, kb_dict_bool, kb_dict_int, kb_dict_str, kb_dict_list, kb_dict_tuple, kb_dict_dict]
  refine ⟨t, rws, rfl, h0, ?_⟩
  simp [T.k_Split, T.n_Split_table, T.k_Table, T.n_Table_name, tabD, wRet, wRetN, wAndV, wOrV, wNotV, wF, wCons, wNil, wV, wC, o1, o2, fIsi, fLen, fAll, fInt, fAbs, fII, fTup, fList, startR, R.fz, R.val, isiD, clsD, clsL, tyD, insOk, bodyPost, wSeq, wNext, wIfS, wT, w2, oAdd, oSub, oI, oIc, oMulW, oDivW, oMod, oPow, oLt, oLe, oGt, oGe, oEq, wIsN, D.isNon, wChain, wIf, wFld, wTup, wLst, shs, wSet, wOwn, wPar, wPar3, wCall, wMake, wMeth, wExpr, wAsgE, geT, geCons, geNil, geF, putD, wAsgT, gT, gsCons, gsNil, gN, iSeq, iOne, iRng, iZip, wNeg, wAnd, wOr, wNot, seqD, shs, oIx, oIxA, oIn, inD, wPut, setD, wGet2, wNewD, wYes, noX, dcD, blsD, eqD, shD, toPy, toPyL, PyData.eqv, PyData.eqvAll, SeqAt.shaped, PyData.canLay0, PyData.canLayAll0, PyData.depth, PyData.depthAll, and_assoc, sz1, sz2, sz3, kit_self, lookup_hd, lookup_tl, Int.natCast_inj, show ((0 : Nat) : Int) = 0 from rfl, kb_NoneType_bool, kb_NoneType_int, kb_NoneType_str, kb_NoneType_list, kb_NoneType_tuple, kb_NoneType_dict, kb_bool_bool, kb_bool_int, kb_bool_str, kb_bool_list, kb_bool_tuple, kb_bool_dict, kb_int_bool, kb_int_int, kb_int_str, kb_int_list, kb_int_tuple, kb_int_dict, kb_str_bool, kb_str_int, kb_str_str, kb_str_list, kb_str_tuple, kb_str_dict, kb_list_bool, kb_list_int, kb_list_str, kb_list_list, kb_list_tuple, kb_list_dict, kb_tuple_bool, kb_tuple_int, kb_tuple_str, kb_tuple_list, kb_tuple_tuple, kb_tuple_dict, kb_dict_bool, kb_dict_int, kb_dict_str, kb_dict_list, kb_dict_tuple, kb_dict_dict]
  refine ⟨by rintro a b (⟨rfl, _⟩ | ⟨rfl, _⟩) <;> first | exact ne_rot | exact ne_ror, t, rws, rfl, h0, ?_⟩
  simp [wRet, wRetN, wAndV, wOrV, wNotV, wF, wCons, wNil, wV, wC, o1, o2, fIsi, fLen, fAll, fInt, fAbs, fII, fTup, fList, startR, R.fz, R.val, isiD, clsD, clsL, tyD, insOk, bodyPost, wSeq, wNext, wIfS, wT, w2, oAdd, oSub, oI, oIc, oMulW, oDivW, oMod, oPow, oLt, oLe, oGt, oGe, oEq, wIsN, D.isNon, wChain, wIf, wFld, wTup, wLst, shs, wSet, wOwn, wPar, wPar3, wCall, wMake, wMeth, wExpr, wAsgE, geT, geCons, geNil, geF, putD, wAsgT, gT, gsCons, gsNil, gN, iSeq, iOne, iRng, iZip, wNeg, wAnd, wOr, wNot, seqD, shs, oIx, oIxA, oIn, inD, wPut, setD, wGet2, wNewD, wYes, noX, dcD, blsD, eqD, shD, toPy, toPyL, PyData.eqv, PyData.eqvAll, SeqAt.shaped, PyData.canLay0, PyData.canLayAll0, PyData.depth, PyData.depthAll, and_assoc, sz1, sz2, sz3, kit_self, lookup_hd, lookup_tl, Int.natCast_inj, show ((0 : Nat) : Int) = 0 from rfl, kb_NoneType_bool, kb_NoneType_int, kb_NoneType_str, kb_NoneType_list, kb_NoneType_tuple, kb_NoneType_dict, kb_bool_bool, kb_bool_int, kb_bool_str, kb_bool_list, kb_bool_tuple, kb_bool_dict, kb_int_bool, kb_int_int, kb_int_str, kb_int_list, kb_int_tuple, kb_int_dict, kb_str_bool, kb_str_int, kb_str_str, kb_str_list, kb_str_tuple, kb_str_dict, kb_list_bool, kb_list_int, kb_list_str, kb_list_list, kb_list_tuple, kb_list_dict, kb_tuple_bool, kb_tuple_int, kb_tuple_str, kb_tuple_list, kb_tuple_tuple, kb_tuple_dict, kb_dict_bool, kb_dict_int, kb_dict_str, kb_dict_list, kb_dict_tuple, kb_dict_dict]
  refine ⟨rws, t, c, a, b, base, rfl, h1, h2, h3, h4, h5, h7, ?_⟩
  simpa [wRet, wRetN, wAndV, wOrV, wNotV, wF, wCons, wNil, wV, wC, o1, o2, fIsi, fLen, fAll, fInt, fAbs, fII, fTup, fList, startR, R.fz, R.val, isiD, clsD, clsL, tyD, insOk, bodyPost, wSeq, wNext, wIfS, wT, w2, oAdd, oSub, oI, oIc, oMulW, oDivW, oMod, oPow, oLt, oLe, oGt, oGe, oEq, wIsN, D.isNon, wChain, wIf, wFld, wTup, wLst, shs, wSet, wOwn, wPar, wPar3, wCall, wMake, wMeth, wExpr, wAsgE, geT, geCons, geNil, geF, putD, wAsgT, gT, gsCons, gsNil, gN, iSeq, iOne, iRng, iZip, wNeg, wAnd, wOr, wNot, seqD, shs, oIx, oIxA, oIn, inD, wPut, setD, wGet2, wNewD, wYes, noX, dcD, blsD, eqD, shD, toPy, toPyL, PyData.eqv, PyData.eqvAll, SeqAt.shaped, PyData.canLay0, PyData.canLayAll0, PyData.depth, PyData.depthAll, and_assoc, sz1, sz2, sz3, kit_self, lookup_hd, lookup_tl, Int.natCast_inj, show ((0 : Nat) : Int) = 0 from rfl, kb_NoneType_bool, kb_NoneType_int, kb_NoneType_str, kb_NoneType_list, kb_NoneType_tuple, kb_NoneType_dict, kb_bool_bool, kb_bool_int, kb_bool_str, kb_bool_list, kb_bool_tuple, kb_bool_dict, kb_int_bool, kb_int_int, kb_int_str, kb_int_list, kb_int_tuple, kb_int_dict, kb_str_bool, kb_str_int, kb_str_str, kb_str_list, kb_str_tuple, kb_str_dict, kb_list_bool, kb_list_int, kb_list_str, kb_list_list, kb_list_tuple, kb_list_dict, kb_tuple_bool, kb_tuple_int, kb_tuple_str, kb_tuple_list, kb_tuple_tuple, kb_tuple_dict, kb_dict_bool, kb_dict_int, kb_dict_str, kb_dict_list, kb_dict_tuple, kb_dict_dict] using hp
end
end L2.TL.K08

/-! text K08b -/
set_option Elab.async false
set_option linter.all false
set_option maxRecDepth 100000
set_option maxHeartbeats 4000000
namespace L2.TL.K08
open PySem PySem.Spec PyProof.Rows L2.TL
section
variable {K : PySem.W.Frag} {mg : Str → Option Value} {CTable CWorld CSplit : Addr} {rs : List R} {os : Os} {P : R → Os → Prop} {PX : Er → Os → Prop}
theorem l_is_name (h : Φ_is_name K CTable CWorld CSplit rs os P PX) : w_is_name K CTable CWorld CSplit ⟨startR ["value", "sign"] rs, os⟩ (bodyPost os.length P PX) := by
  obtain ⟨z, rfl, hz, hp⟩ := h
  simp [w_is_name, hz, wLc, iStrD, wipeR, restR, wRet, wRetN, wAndV, wOrV, wNotV, wF, wCons, wNil, wV, wC, o1, o2, fIsi, fLen, fAll, fInt, fAbs, fII, fTup, fList, startR, R.fz, R.val, isiD, clsD, clsL, tyD, insOk, bodyPost, wSeq, wNext, wIfS, wT, w2, oAdd, oSub, oI, oIc, oMulW, oDivW, oMod, oPow, oLt, oLe, oGt, oGe, oEq, wIsN, D.isNon, wChain, wIf, wFld, wTup, wLst, shs, wSet, wOwn, wPar, wPar3, wCall, wMake, wMeth, wExpr, wAsgE, geT, geCons, geNil, geF, putD, wAsgT, gT, gsCons, gsNil, gN, iSeq, iOne, iRng, iZip, wNeg, wAnd, wOr, wNot, seqD, shs, oIx, oIxA, oIn, inD, wPut, setD, wGet2, wNewD, wYes, noX, dcD, blsD, eqD, shD, toPy, toPyL, PyData.eqv, PyData.eqvAll, SeqAt.shaped, PyData.canLay0, PyData.canLayAll0, PyData.depth, PyData.depthAll, and_assoc, sz1, sz2, sz3, kit_self, lookup_hd, lookup_tl, Int.natCast_inj, show ((0 : Nat) : Int) = 0 from rfl, kb_NoneType_bool, kb_NoneType_int, kb_NoneType_str, kb_NoneType_list, kb_NoneType_tuple, kb_NoneType_dict, kb_bool_bool, kb_bool_int, kb_bool_str, kb_bool_list, kb_bool_tuple, kb_bool_dict, kb_int_bool, kb_int_int, kb_int_str, kb_int_list, kb_int_tuple, kb_int_dict, kb_str_bool, kb_str_int, kb_str_str, kb_str_list, kb_str_tuple, kb_str_dict, kb_list_bool, kb_list_int, kb_list_str, kb_list_list, kb_list_tuple, kb_list_dict, kb_tuple_bool, kb_tuple_int, kb_tuple_str, kb_tuple_list, kb_tuple_tuple, kb_tuple_dict, kb_dict_bool, kb_dict_int, kb_dict_str, kb_dict_list, kb_dict_tuple, kb_dict_dict]
  have c1 : decide ((1 : Int) ≤ (z.length : Int)) = decide (1 ≤ z.length) := by rw [decide_eq_decide]; omega
  have c2 : decide ((z.length : Int) ≤ (8 : Int)) = decide (z.length ≤ 8) := by rw [decide_eq_decide]; omega
  rw [c1]
  simp only [c2]
  cases e1 : decide (1 ≤ z.length) with
  | false => simpa [nameOk, e1] using hp
  | true =>
    cases e2 : decide (z.length ≤ 8) with
    | false => simpa [nameOk, e1, e2] using hp
    | true =>
      refine lcL_map (f := fun d => match d with | .str s => .bl (match s.cps.toList with | [c] => decide (c ∈ letters.cps.toList) | _ => false) | _ => .non) rfl (fun d hd P PX h => ?_) ?_
      · obtain ⟨c, hc, rfl⟩ := List.mem_map.mp hd
        simpa [letters, wRet, wRetN, wAndV, wOrV, wNotV, wF, wCons, wNil, wV, wC, o1, o2, fIsi, fLen, fAll, fInt, fAbs, fII, fTup, fList, startR, R.fz, R.val, isiD, clsD, clsL, tyD, insOk, bodyPost, wSeq, wNext, wIfS, wT, w2, oAdd, oSub, oI, oIc, oMulW, oDivW, oMod, oPow, oLt, oLe, oGt, oGe, oEq, wIsN, D.isNon, wChain, wIf, wFld, wTup, wLst, shs, wSet, wOwn, wPar, wPar3, wCall, wMake, wMeth, wExpr, wAsgE, geT, geCons, geNil, geF, putD, wAsgT, gT, gsCons, gsNil, gN, iSeq, iOne, iRng, iZip, wNeg, wAnd, wOr, wNot, seqD, shs, oIx, oIxA, oIn, inD, wPut, setD, wGet2, wNewD, wYes, noX, dcD, blsD, eqD, shD, toPy, toPyL, PyData.eqv, PyData.eqvAll, SeqAt.shaped, PyData.canLay0, PyData.canLayAll0, PyData.depth, PyData.depthAll, and_assoc, sz1, sz2, sz3, kit_self, lookup_hd, lookup_tl, Int.natCast_inj, show ((0 : Nat) : Int) = 0 from rfl, kb_NoneType_bool, kb_NoneType_int, kb_NoneType_str, kb_NoneType_list, kb_NoneType_tuple, kb_NoneType_dict, kb_bool_bool, kb_bool_int, kb_bool_str, kb_bool_list, kb_bool_tuple, kb_bool_dict, kb_int_bool, kb_int_int, kb_int_str, kb_int_list, kb_int_tuple, kb_int_dict, kb_str_bool, kb_str_int, kb_str_str, kb_str_list, kb_str_tuple, kb_str_dict, kb_list_bool, kb_list_int, kb_list_str, kb_list_list, kb_list_tuple, kb_list_dict, kb_tuple_bool, kb_tuple_int, kb_tuple_str, kb_tuple_list, kb_tuple_tuple, kb_tuple_dict, kb_dict_bool, kb_dict_int, kb_dict_str, kb_dict_list, kb_dict_tuple, kb_dict_dict] using h
      · have e3 : (chD z).map (fun d => match d with | .str s => D.bl (match s.cps.toList with | [c] => decide (c ∈ letters.cps.toList) | _ => false) | _ => .non) = (z.cps.toList.map fun c => decide (c ∈ letters.cps.toList)).map D.bl := by
          rw [chD, List.map_map, List.map_map]; rfl
        simp only [List.nil_append, e3, blsD_map, wRet, wRetN, wAndV, wOrV, wNotV, wF, wCons, wNil, wV, wC, o1, o2, fIsi, fLen, fAll, fInt, fAbs, fII, fTup, fList, startR, R.fz, R.val, isiD, clsD, clsL, tyD, insOk, bodyPost, wSeq, wNext, wIfS, wT, w2, oAdd, oSub, oI, oIc, oMulW, oDivW, oMod, oPow, oLt, oLe, oGt, oGe, oEq, wIsN, D.isNon, wChain, wIf, wFld, wTup, wLst, shs, wSet, wOwn, wPar, wPar3, wCall, wMake, wMeth, wExpr, wAsgE, geT, geCons, geNil, geF, putD, wAsgT, gT, gsCons, gsNil, gN, iSeq, iOne, iRng, iZip, wNeg, wAnd, wOr, wNot, seqD, shs, oIx, oIxA, oIn, inD, wPut, setD, wGet2, wNewD, wYes, noX, dcD, blsD, eqD, shD, toPy, toPyL, PyData.eqv, PyData.eqvAll, SeqAt.shaped, PyData.canLay0, PyData.canLayAll0, PyData.depth, PyData.depthAll, and_assoc, sz1, sz2, sz3, kit_self, lookup_hd, lookup_tl, Int.natCast_inj, show ((0 : Nat) : Int) = 0 from rfl, kb_NoneType_bool, kb_NoneType_int, kb_NoneType_str, kb_NoneType_list, kb_NoneType_tuple, kb_NoneType_dict, kb_bool_bool, kb_bool_int, kb_bool_str, kb_bool_list, kb_bool_tuple, kb_bool_dict, kb_int_bool, kb_int_int, kb_int_str, kb_int_list, kb_int_tuple, kb_int_dict, kb_str_bool, kb_str_int, kb_str_str, kb_str_list, kb_str_tuple, kb_str_dict, kb_list_bool, kb_list_int, kb_list_str, kb_list_list, kb_list_tuple, kb_list_dict, kb_tuple_bool, kb_tuple_int, kb_tuple_str, kb_tuple_list, kb_tuple_tuple, kb_tuple_dict, kb_dict_bool, kb_dict_int, kb_dict_str, kb_dict_list, kb_dict_tuple, kb_dict_dict]
        simpa [nameOk, e1, e2, List.all_map, Function.comp_def] using hp
theorem l_is_threshold (h : Φ_is_threshold K CTable CWorld CSplit rs os P PX) : w_is_threshold K CTable CWorld CSplit ⟨startR ["value", "one"] rs, os⟩ (bodyPost os.length P PX) := by
  obtain ⟨a, b, rfl, h1, h2, h3, h4, hp⟩ := h
  simp [w_is_threshold, wLc, wipeR, restR, wRet, wRetN, wAndV, wOrV, wNotV, wF, wCons, wNil, wV, wC, o1, o2, fIsi, fLen, fAll, fInt, fAbs, fII, fTup, fList, startR, R.fz, R.val, isiD, clsD, clsL, tyD, insOk, bodyPost, wSeq, wNext, wIfS, wT, w2, oAdd, oSub, oI, oIc, oMulW, oDivW, oMod, oPow, oLt, oLe, oGt, oGe, oEq, wIsN, D.isNon, wChain, wIf, wFld, wTup, wLst, shs, wSet, wOwn, wPar, wPar3, wCall, wMake, wMeth, wExpr, wAsgE, geT, geCons, geNil, geF, putD, wAsgT, gT, gsCons, gsNil, gN, iSeq, iOne, iRng, iZip, wNeg, wAnd, wOr, wNot, seqD, shs, oIx, oIxA, oIn, inD, wPut, setD, wGet2, wNewD, wYes, noX, dcD, blsD, eqD, shD, toPy, toPyL, PyData.eqv, PyData.eqvAll, SeqAt.shaped, PyData.canLay0, PyData.canLayAll0, PyData.depth, PyData.depthAll, and_assoc, sz1, sz2, sz3, kit_self, lookup_hd, lookup_tl, Int.natCast_inj, show ((0 : Nat) : Int) = 0 from rfl, kb_NoneType_bool, kb_NoneType_int, kb_NoneType_str, kb_NoneType_list, kb_NoneType_tuple, kb_NoneType_dict, kb_bool_bool, kb_bool_int, kb_bool_str, kb_bool_list, kb_bool_tuple, kb_bool_dict, kb_int_bool, kb_int_int, kb_int_str, kb_int_list, kb_int_tuple, kb_int_dict, kb_str_bool, kb_str_int, kb_str_str, kb_str_list, kb_str_tuple, kb_str_dict, kb_list_bool, kb_list_int, kb_list_str, kb_list_list, kb_list_tuple, kb_list_dict, kb_tuple_bool, kb_tuple_int, kb_tuple_str, kb_tuple_list, kb_tuple_tuple, kb_tuple_dict, kb_dict_bool, kb_dict_int, kb_dict_str, kb_dict_list, kb_dict_tuple, kb_dict_dict]
  refine ⟨_, _, _, _, rfl, rfl, ?_⟩
  simp [wLcL, wipeR, wRet, wRetN, wAndV, wOrV, wNotV, wF, wCons, wNil, wV, wC, o1, o2, fIsi, fLen, fAll, fInt, fAbs, fII, fTup, fList, startR, R.fz, R.val, isiD, clsD, clsL, tyD, insOk, bodyPost, wSeq, wNext, wIfS, wT, w2, oAdd, oSub, oI, oIc, oMulW, oDivW, oMod, oPow, oLt, oLe, oGt, oGe, oEq, wIsN, D.isNon, wChain, wIf, wFld, wTup, wLst, shs, wSet, wOwn, wPar, wPar3, wCall, wMake, wMeth, wExpr, wAsgE, geT, geCons, geNil, geF, putD, wAsgT, gT, gsCons, gsNil, gN, iSeq, iOne, iRng, iZip, wNeg, wAnd, wOr, wNot, seqD, shs, oIx, oIxA, oIn, inD, wPut, setD, wGet2, wNewD, wYes, noX, dcD, blsD, eqD, shD, toPy, toPyL, PyData.eqv, PyData.eqvAll, SeqAt.shaped, PyData.canLay0, PyData.canLayAll0, PyData.depth, PyData.depthAll, and_assoc, sz1, sz2, sz3, kit_self, lookup_hd, lookup_tl, Int.natCast_inj, show ((0 : Nat) : Int) = 0 from rfl, kb_NoneType_bool, kb_NoneType_int, kb_NoneType_str, kb_NoneType_list, kb_NoneType_tuple, kb_NoneType_dict, kb_bool_bool, kb_bool_int, kb_bool_str, kb_bool_list, kb_bool_tuple, kb_bool_dict, kb_int_bool, kb_int_int, kb_int_str, kb_int_list, kb_int_tuple, kb_int_dict, kb_str_bool, kb_str_int, kb_str_str, kb_str_list, kb_str_tuple, kb_str_dict, kb_list_bool, kb_list_int, kb_list_str, kb_list_list, kb_list_tuple, kb_list_dict, kb_tuple_bool, kb_tuple_int, kb_tuple_str, kb_tuple_list, kb_tuple_tuple, kb_tuple_dict, kb_dict_bool, kb_dict_int, kb_dict_str, kb_dict_list, kb_dict_tuple, kb_dict_dict]
  refine ⟨_, _, _, rfl, ?_⟩
  simp [wRet, wRetN, wAndV, wOrV, wNotV, wF, wCons, wNil, wV, wC, o1, o2, fIsi, fLen, fAll, fInt, fAbs, fII, fTup, fList, startR, R.fz, R.val, isiD, clsD, clsL, tyD, insOk, bodyPost, wSeq, wNext, wIfS, wT, w2, oAdd, oSub, oI, oIc, oMulW, oDivW, oMod, oPow, oLt, oLe, oGt, oGe, oEq, wIsN, D.isNon, wChain, wIf, wFld, wTup, wLst, shs, wSet, wOwn, wPar, wPar3, wCall, wMake, wMeth, wExpr, wAsgE, geT, geCons, geNil, geF, putD, wAsgT, gT, gsCons, gsNil, gN, iSeq, iOne, iRng, iZip, wNeg, wAnd, wOr, wNot, seqD, shs, oIx, oIxA, oIn, inD, wPut, setD, wGet2, wNewD, wYes, noX, dcD, blsD, eqD, shD, toPy, toPyL, PyData.eqv, PyData.eqvAll, SeqAt.shaped, PyData.canLay0, PyData.canLayAll0, PyData.depth, PyData.depthAll, and_assoc, sz1, sz2, sz3, kit_self, lookup_hd, lookup_tl, Int.natCast_inj, show ((0 : Nat) : Int) = 0 from rfl, kb_NoneType_bool, kb_NoneType_int, kb_NoneType_str, kb_NoneType_list, kb_NoneType_tuple, kb_NoneType_dict, kb_bool_bool, kb_bool_int, kb_bool_str, kb_bool_list, kb_bool_tuple, kb_bool_dict, kb_int_bool, kb_int_int, kb_int_str, kb_int_list, kb_int_tuple, kb_int_dict, kb_str_bool, kb_str_int, kb_str_str, kb_str_list, kb_str_tuple, kb_str_dict, kb_list_bool, kb_list_int, kb_list_str, kb_list_list, kb_list_tuple, kb_list_dict, kb_tuple_bool, kb_tuple_int, kb_tuple_str, kb_tuple_list, kb_tuple_tuple, kb_tuple_dict, kb_dict_bool, kb_dict_int, kb_dict_str, kb_dict_list, kb_dict_tuple, kb_dict_dict]
  refine ⟨_, _, _, rfl, ?_⟩
  have e1 : (decide ((1 : Int) ≤ (a : Int)) && decide ((a : Int) ≤ 9999)) = true := by simp; omega
  have e2 : (decide ((1 : Int) ≤ (b : Int)) && decide ((b : Int) ≤ 9999)) = true := by simp; omega
  simp only [e1, e2, blsD]
  simpa [wRet, wRetN, wAndV, wOrV, wNotV, wF, wCons, wNil, wV, wC, o1, o2, fIsi, fLen, fAll, fInt, fAbs, fII, fTup, fList, startR, R.fz, R.val, isiD, clsD, clsL, tyD, insOk, bodyPost, wSeq, wNext, wIfS, wT, w2, oAdd, oSub, oI, oIc, oMulW, oDivW, oMod, oPow, oLt, oLe, oGt, oGe, oEq, wIsN, D.isNon, wChain, wIf, wFld, wTup, wLst, shs, wSet, wOwn, wPar, wPar3, wCall, wMake, wMeth, wExpr, wAsgE, geT, geCons, geNil, geF, putD, wAsgT, gT, gsCons, gsNil, gN, iSeq, iOne, iRng, iZip, wNeg, wAnd, wOr, wNot, seqD, shs, oIx, oIxA, oIn, inD, wPut, setD, wGet2, wNewD, wYes, noX, dcD, blsD, eqD, shD, toPy, toPyL, PyData.eqv, PyData.eqvAll, SeqAt.shaped, PyData.canLay0, PyData.canLayAll0, PyData.depth, PyData.depthAll, and_assoc, sz1, sz2, sz3, kit_self, lookup_hd, lookup_tl, Int.natCast_inj, show ((0 : Nat) : Int) = 0 from rfl, kb_NoneType_bool, kb_NoneType_int, kb_NoneType_str, kb_NoneType_list, kb_NoneType_tuple, kb_NoneType_dict, kb_bool_bool, kb_bool_int, kb_bool_str, kb_bool_list, kb_bool_tuple, kb_bool_dict, kb_int_bool, kb_int_int, kb_int_str, kb_int_list, kb_int_tuple, kb_int_dict, kb_str_bool, kb_str_int, kb_str_str, kb_str_list, kb_str_tuple, kb_str_dict, kb_list_bool, kb_list_int, kb_list_str, kb_list_list, kb_list_tuple, kb_list_dict, kb_tuple_bool, kb_tuple_int, kb_tuple_str, kb_tuple_list, kb_tuple_tuple, kb_tuple_dict, kb_dict_bool, kb_dict_int, kb_dict_str, kb_dict_list, kb_dict_tuple, kb_dict_dict] using hp
theorem l_is_row_of (T : Txt K mg CTable CWorld CSplit) (h : Φ_is_row_of K CTable CWorld CSplit rs os P PX) : w_is_row_of K CTable CWorld CSplit ⟨startR ["table", "value", "one"] rs, os⟩ (bodyPost os.length P PX) := by
  obtain ⟨t, r, rfl, ⟨hl, hr⟩, hp⟩ := h
  simp only [tabD, rowT]
  simp [w_is_row_of, wLc, wipeR, restR, T.k_Table, T.n_Table_width, lookup_tl ne_wn, wRet, wRetN, wAndV, wOrV, wNotV, wF, wCons, wNil, wV, wC, o1, o2, fIsi, fLen, fAll, fInt, fAbs, fII, fTup, fList, startR, R.fz, R.val, isiD, clsD, clsL, tyD, insOk, bodyPost, wSeq, wNext, wIfS, wT, w2, oAdd, oSub, oI, oIc, oMulW, oDivW, oMod, oPow, oLt, oLe, oGt, oGe, oEq, wIsN, D.isNon, wChain, wIf, wFld, wTup, wLst, shs, wSet, wOwn, wPar, wPar3, wCall, wMake, wMeth, wExpr, wAsgE, geT, geCons, geNil, geF, putD, wAsgT, gT, gsCons, gsNil, gN, iSeq, iOne, iRng, iZip, wNeg, wAnd, wOr, wNot, seqD, shs, oIx, oIxA, oIn, inD, wPut, setD, wGet2, wNewD, wYes, noX, dcD, blsD, eqD, shD, toPy, toPyL, PyData.eqv, PyData.eqvAll, SeqAt.shaped, PyData.canLay0, PyData.canLayAll0, PyData.depth, PyData.depthAll, and_assoc, sz1, sz2, sz3, kit_self, lookup_hd, lookup_tl, Int.natCast_inj, show ((0 : Nat) : Int) = 0 from rfl, kb_NoneType_bool, kb_NoneType_int, kb_NoneType_str, kb_NoneType_list, kb_NoneType_tuple, kb_NoneType_dict, kb_bool_bool, kb_bool_int, kb_bool_str, kb_bool_list, kb_bool_tuple, kb_bool_dict, kb_int_bool, kb_int_int, kb_int_str, kb_int_list, kb_int_tuple, kb_int_dict, kb_str_bool, kb_str_int, kb_str_str, kb_str_list, kb_str_tuple, kb_str_dict, kb_list_bool, kb_list_int, kb_list_str, kb_list_list, kb_list_tuple, kb_list_dict, kb_tuple_bool, kb_tuple_int, kb_tuple_str, kb_tuple_list, kb_tuple_tuple, kb_tuple_dict, kb_dict_bool, kb_dict_int, kb_dict_str, kb_dict_list, kb_dict_tuple, kb_dict_dict]
  refine ⟨_, _, _, _, rfl, rfl, ?_⟩
  simp [hl, wLc, wipeR, restR, wRet, wRetN, wAndV, wOrV, wNotV, wF, wCons, wNil, wV, wC, o1, o2, fIsi, fLen, fAll, fInt, fAbs, fII, fTup, fList, startR, R.fz, R.val, isiD, clsD, clsL, tyD, insOk, bodyPost, wSeq, wNext, wIfS, wT, w2, oAdd, oSub, oI, oIc, oMulW, oDivW, oMod, oPow, oLt, oLe, oGt, oGe, oEq, wIsN, D.isNon, wChain, wIf, wFld, wTup, wLst, shs, wSet, wOwn, wPar, wPar3, wCall, wMake, wMeth, wExpr, wAsgE, geT, geCons, geNil, geF, putD, wAsgT, gT, gsCons, gsNil, gN, iSeq, iOne, iRng, iZip, wNeg, wAnd, wOr, wNot, seqD, shs, oIx, oIxA, oIn, inD, wPut, setD, wGet2, wNewD, wYes, noX, dcD, blsD, eqD, shD, toPy, toPyL, PyData.eqv, PyData.eqvAll, SeqAt.shaped, PyData.canLay0, PyData.canLayAll0, PyData.depth, PyData.depthAll, and_assoc, sz1, sz2, sz3, kit_self, lookup_hd, lookup_tl, Int.natCast_inj, show ((0 : Nat) : Int) = 0 from rfl, kb_NoneType_bool, kb_NoneType_int, kb_NoneType_str, kb_NoneType_list, kb_NoneType_tuple, kb_NoneType_dict, kb_bool_bool, kb_bool_int, kb_bool_str, kb_bool_list, kb_bool_tuple, kb_bool_dict, kb_int_bool, kb_int_int, kb_int_str, kb_int_list, kb_int_tuple, kb_int_dict, kb_str_bool, kb_str_int, kb_str_str, kb_str_list, kb_str_tuple, kb_str_dict, kb_list_bool, kb_list_int, kb_list_str, kb_list_list, kb_list_tuple, kb_list_dict, kb_tuple_bool, kb_tuple_int, kb_tuple_str, kb_tuple_list, kb_tuple_tuple, kb_tuple_dict, kb_dict_bool, kb_dict_int, kb_dict_str, kb_dict_list, kb_dict_tuple, kb_dict_dict]
  refine lcL_map (f := fun _ => .bl true) rfl (fun d hd P PX h => ?_) ?_
  · obtain ⟨v, hv, rfl⟩ := List.mem_map.mp hd
    simp [wRet, wRetN, wAndV, wOrV, wNotV, wF, wCons, wNil, wV, wC, o1, o2, fIsi, fLen, fAll, fInt, fAbs, fII, fTup, fList, startR, R.fz, R.val, isiD, clsD, clsL, tyD, insOk, bodyPost, wSeq, wNext, wIfS, wT, w2, oAdd, oSub, oI, oIc, oMulW, oDivW, oMod, oPow, oLt, oLe, oGt, oGe, oEq, wIsN, D.isNon, wChain, wIf, wFld, wTup, wLst, shs, wSet, wOwn, wPar, wPar3, wCall, wMake, wMeth, wExpr, wAsgE, geT, geCons, geNil, geF, putD, wAsgT, gT, gsCons, gsNil, gN, iSeq, iOne, iRng, iZip, wNeg, wAnd, wOr, wNot, seqD, shs, oIx, oIxA, oIn, inD, wPut, setD, wGet2, wNewD, wYes, noX, dcD, blsD, eqD, shD, toPy, toPyL, PyData.eqv, PyData.eqvAll, SeqAt.shaped, PyData.canLay0, PyData.canLayAll0, PyData.depth, PyData.depthAll, and_assoc, sz1, sz2, sz3, kit_self, lookup_hd, lookup_tl, Int.natCast_inj, show ((0 : Nat) : Int) = 0 from rfl, kb_NoneType_bool, kb_NoneType_int, kb_NoneType_str, kb_NoneType_list, kb_NoneType_tuple, kb_NoneType_dict, kb_bool_bool, kb_bool_int, kb_bool_str, kb_bool_list, kb_bool_tuple, kb_bool_dict, kb_int_bool, kb_int_int, kb_int_str, kb_int_list, kb_int_tuple, kb_int_dict, kb_str_bool, kb_str_int, kb_str_str, kb_str_list, kb_str_tuple, kb_str_dict, kb_list_bool, kb_list_int, kb_list_str, kb_list_list, kb_list_tuple, kb_list_dict, kb_tuple_bool, kb_tuple_int, kb_tuple_str, kb_tuple_list, kb_tuple_tuple, kb_tuple_dict, kb_dict_bool, kb_dict_int, kb_dict_str, kb_dict_list, kb_dict_tuple, kb_dict_dict]
    refine ⟨_, _, _, rfl, ?_⟩
    have := hr v hv
    simpa [this.1, this.2, show -(1000000000000000000000000000000 : Int) ≤ v from this.1, show v ≤ (1000000000000000000000000000000 : Int) from this.2] using h
  · have e3 : (r.map D.int).map (fun _ => D.bl true) = (r.map fun _ => true).map D.bl := by rw [List.map_map, List.map_map]; rfl
    simp only [List.nil_append, e3, blsD_map, wRet, wRetN, wAndV, wOrV, wNotV, wF, wCons, wNil, wV, wC, o1, o2, fIsi, fLen, fAll, fInt, fAbs, fII, fTup, fList, startR, R.fz, R.val, isiD, clsD, clsL, tyD, insOk, bodyPost, wSeq, wNext, wIfS, wT, w2, oAdd, oSub, oI, oIc, oMulW, oDivW, oMod, oPow, oLt, oLe, oGt, oGe, oEq, wIsN, D.isNon, wChain, wIf, wFld, wTup, wLst, shs, wSet, wOwn, wPar, wPar3, wCall, wMake, wMeth, wExpr, wAsgE, geT, geCons, geNil, geF, putD, wAsgT, gT, gsCons, gsNil, gN, iSeq, iOne, iRng, iZip, wNeg, wAnd, wOr, wNot, seqD, shs, oIx, oIxA, oIn, inD, wPut, setD, wGet2, wNewD, wYes, noX, dcD, blsD, eqD, shD, toPy, toPyL, PyData.eqv, PyData.eqvAll, SeqAt.shaped, PyData.canLay0, PyData.canLayAll0, PyData.depth, PyData.depthAll, and_assoc, sz1, sz2, sz3, kit_self, lookup_hd, lookup_tl, Int.natCast_inj, show ((0 : Nat) : Int) = 0 from rfl, kb_NoneType_bool, kb_NoneType_int, kb_NoneType_str, kb_NoneType_list, kb_NoneType_tuple, kb_NoneType_dict, kb_bool_bool, kb_bool_int, kb_bool_str, kb_bool_list, kb_bool_tuple, kb_bool_dict, kb_int_bool, kb_int_int, kb_int_str, kb_int_list, kb_int_tuple, kb_int_dict, kb_str_bool, kb_str_int, kb_str_str, kb_str_list, kb_str_tuple, kb_str_dict, kb_list_bool, kb_list_int, kb_list_str, kb_list_list, kb_list_tuple, kb_list_dict, kb_tuple_bool, kb_tuple_int, kb_tuple_str, kb_tuple_list, kb_tuple_tuple, kb_tuple_dict, kb_dict_bool, kb_dict_int, kb_dict_str, kb_dict_list, kb_dict_tuple, kb_dict_dict]
    have e4 : (r.all fun _ => true) = true := by simp
    simpa [List.all_map, Function.comp_def, e4] using hp
theorem l_Split_init (T : Txt K mg CTable CWorld CSplit) (h : Φ_Split_init K CTable CWorld CSplit rs os P PX) : w_Split_init K CTable CWorld CSplit ⟨startR ["self", "table", "column", "threshold"] rs, os⟩ (bodyPost os.length P PX) := by
  obtain ⟨k, z, c, a, b, rfl, ho, hc, h1, h2, h3, h4, hp⟩ := h
  simp only [tabD]
  simp [w_Split_init, T.i_Table, T.k_Table, T.n_Table_width, lookup_tl ne_wn, wRet, wRetN, wAndV, wOrV, wNotV, wF, wCons, wNil, wV, wC, o1, o2, fIsi, fLen, fAll, fInt, fAbs, fII, fTup, fList, startR, R.fz, R.val, isiD, clsD, clsL, tyD, insOk, bodyPost, wSeq, wNext, wIfS, wT, w2, oAdd, oSub, oI, oIc, oMulW, oDivW, oMod, oPow, oLt, oLe, oGt, oGe, oEq, wIsN, D.isNon, wChain, wIf, wFld, wTup, wLst, shs, wSet, wOwn, wPar, wPar3, wCall, wMake, wMeth, wExpr, wAsgE, geT, geCons, geNil, geF, putD, wAsgT, gT, gsCons, gsNil, gN, iSeq, iOne, iRng, iZip, wNeg, wAnd, wOr, wNot, seqD, shs, oIx, oIxA, oIn, inD, wPut, setD, wGet2, wNewD, wYes, noX, dcD, blsD, eqD, shD, toPy, toPyL, PyData.eqv, PyData.eqvAll, SeqAt.shaped, PyData.canLay0, PyData.canLayAll0, PyData.depth, PyData.depthAll, and_assoc, sz1, sz2, sz3, kit_self, lookup_hd, lookup_tl, Int.natCast_inj, show ((0 : Nat) : Int) = 0 from rfl, kb_NoneType_bool, kb_NoneType_int, kb_NoneType_str, kb_NoneType_list, kb_NoneType_tuple, kb_NoneType_dict, kb_bool_bool, kb_bool_int, kb_bool_str, kb_bool_list, kb_bool_tuple, kb_bool_dict, kb_int_bool, kb_int_int, kb_int_str, kb_int_list, kb_int_tuple, kb_int_dict, kb_str_bool, kb_str_int, kb_str_str, kb_str_list, kb_str_tuple, kb_str_dict, kb_list_bool, kb_list_int, kb_list_str, kb_list_list, kb_list_tuple, kb_list_dict, kb_tuple_bool, kb_tuple_int, kb_tuple_str, kb_tuple_list, kb_tuple_tuple, kb_tuple_dict, kb_dict_bool, kb_dict_int, kb_dict_str, kb_dict_list, kb_dict_tuple, kb_dict_dict]
  refine ⟨c, 0, 1, rfl, ?_⟩
  simp [show ((0 : Int) ≤ (c : Int)) by omega, show ((c : Int) ≤ 1) by omega, wRet, wRetN, wAndV, wOrV, wNotV, wF, wCons, wNil, wV, wC, o1, o2, fIsi, fLen, fAll, fInt, fAbs, fII, fTup, fList, startR, R.fz, R.val, isiD, clsD, clsL, tyD, insOk, bodyPost, wSeq, wNext, wIfS, wT, w2, oAdd, oSub, oI, oIc, oMulW, oDivW, oMod, oPow, oLt, oLe, oGt, oGe, oEq, wIsN, D.isNon, wChain, wIf, wFld, wTup, wLst, shs, wSet, wOwn, wPar, wPar3, wCall, wMake, wMeth, wExpr, wAsgE, geT, geCons, geNil, geF, putD, wAsgT, gT, gsCons, gsNil, gN, iSeq, iOne, iRng, iZip, wNeg, wAnd, wOr, wNot, seqD, shs, oIx, oIxA, oIn, inD, wPut, setD, wGet2, wNewD, wYes, noX, dcD, blsD, eqD, shD, toPy, toPyL, PyData.eqv, PyData.eqvAll, SeqAt.shaped, PyData.canLay0, PyData.canLayAll0, PyData.depth, PyData.depthAll, and_assoc, sz1, sz2, sz3, kit_self, lookup_hd, lookup_tl, Int.natCast_inj, show ((0 : Nat) : Int) = 0 from rfl, kb_NoneType_bool, kb_NoneType_int, kb_NoneType_str, kb_NoneType_list, kb_NoneType_tuple, kb_NoneType_dict, kb_bool_bool, kb_bool_int, kb_bool_str, kb_bool_list, kb_bool_tuple, kb_bool_dict, kb_int_bool, kb_int_int, kb_int_str, kb_int_list, kb_int_tuple, kb_int_dict, kb_str_bool, kb_str_int, kb_str_str, kb_str_list, kb_str_tuple, kb_str_dict, kb_list_bool, kb_list_int, kb_list_str, kb_list_list, kb_list_tuple, kb_list_dict, kb_tuple_bool, kb_tuple_int, kb_tuple_str, kb_tuple_list, kb_tuple_tuple, kb_tuple_dict, kb_dict_bool, kb_dict_int, kb_dict_str, kb_dict_list, kb_dict_tuple, kb_dict_dict]
  refine ⟨a, b, rfl, h1, h2, h3, h4, ?_⟩
  simp [atI, ixN, wRet, wRetN, wAndV, wOrV, wNotV, wF, wCons, wNil, wV, wC, o1, o2, fIsi, fLen, fAll, fInt, fAbs, fII, fTup, fList, startR, R.fz, R.val, isiD, clsD, clsL, tyD, insOk, bodyPost, wSeq, wNext, wIfS, wT, w2, oAdd, oSub, oI, oIc, oMulW, oDivW, oMod, oPow, oLt, oLe, oGt, oGe, oEq, wIsN, D.isNon, wChain, wIf, wFld, wTup, wLst, shs, wSet, wOwn, wPar, wPar3, wCall, wMake, wMeth, wExpr, wAsgE, geT, geCons, geNil, geF, putD, wAsgT, gT, gsCons, gsNil, gN, iSeq, iOne, iRng, iZip, wNeg, wAnd, wOr, wNot, seqD, shs, oIx, oIxA, oIn, inD, wPut, setD, wGet2, wNewD, wYes, noX, dcD, blsD, eqD, shD, toPy, toPyL, PyData.eqv, PyData.eqvAll, SeqAt.shaped, PyData.canLay0, PyData.canLayAll0, PyData.depth, PyData.depthAll, and_assoc, sz1, sz2, sz3, kit_self, lookup_hd, lookup_tl, Int.natCast_inj, show ((0 : Nat) : Int) = 0 from rfl, kb_NoneType_bool, kb_NoneType_int, kb_NoneType_str, kb_NoneType_list, kb_NoneType_tuple, kb_NoneType_dict, kb_bool_bool, kb_bool_int, kb_bool_str, kb_bool_list, kb_bool_tuple, kb_bool_dict, kb_int_bool, kb_int_int, kb_int_str, kb_int_list, kb_int_tuple, kb_int_dict, kb_str_bool, kb_str_int, kb_str_str, kb_str_list, kb_str_tuple, kb_str_dict, kb_list_bool, kb_list_int, kb_list_str, kb_list_list, kb_list_tuple, kb_list_dict, kb_tuple_bool, kb_tuple_int, kb_tuple_str, kb_tuple_list, kb_tuple_tuple, kb_tuple_dict, kb_dict_bool, kb_dict_int, kb_dict_str, kb_dict_list, kb_dict_tuple, kb_dict_dict]
  refine ⟨a, b, rfl, h1, h2, h3, h4, ?_⟩
  simp [ho, set_at ho, ne_tac, ne_tat, ne_cot, take_set, wRet, wRetN, wAndV, wOrV, wNotV, wF, wCons, wNil, wV, wC, o1, o2, fIsi, fLen, fAll, fInt, fAbs, fII, fTup, fList, startR, R.fz, R.val, isiD, clsD, clsL, tyD, insOk, bodyPost, wSeq, wNext, wIfS, wT, w2, oAdd, oSub, oI, oIc, oMulW, oDivW, oMod, oPow, oLt, oLe, oGt, oGe, oEq, wIsN, D.isNon, wChain, wIf, wFld, wTup, wLst, shs, wSet, wOwn, wPar, wPar3, wCall, wMake, wMeth, wExpr, wAsgE, geT, geCons, geNil, geF, putD, wAsgT, gT, gsCons, gsNil, gN, iSeq, iOne, iRng, iZip, wNeg, wAnd, wOr, wNot, seqD, shs, oIx, oIxA, oIn, inD, wPut, setD, wGet2, wNewD, wYes, noX, dcD, blsD, eqD, shD, toPy, toPyL, PyData.eqv, PyData.eqvAll, SeqAt.shaped, PyData.canLay0, PyData.canLayAll0, PyData.depth, PyData.depthAll, and_assoc, sz1, sz2, sz3, kit_self, lookup_hd, lookup_tl, Int.natCast_inj, show ((0 : Nat) : Int) = 0 from rfl, kb_NoneType_bool, kb_NoneType_int, kb_NoneType_str, kb_NoneType_list, kb_NoneType_tuple, kb_NoneType_dict, kb_bool_bool, kb_bool_int, kb_bool_str, kb_bool_list, kb_bool_tuple, kb_bool_dict, kb_int_bool, kb_int_int, kb_int_str, kb_int_list, kb_int_tuple, kb_int_dict, kb_str_bool, kb_str_int, kb_str_str, kb_str_list, kb_str_tuple, kb_str_dict, kb_list_bool, kb_list_int, kb_list_str, kb_list_list, kb_list_tuple, kb_list_dict, kb_tuple_bool, kb_tuple_int, kb_tuple_str, kb_tuple_list, kb_tuple_tuple, kb_tuple_dict, kb_dict_bool, kb_dict_int, kb_dict_str, kb_dict_list, kb_dict_tuple, kb_dict_dict]
  simpa [splitD, tabD] using hp
theorem l_are_tables (T : Txt K mg CTable CWorld CSplit) (h : Φ_are_tables K CTable CWorld CSplit rs os P PX) : w_are_tables K CTable CWorld CSplit ⟨startR ["value", "most", "one"] rs, os⟩ (bodyPost os.length P PX) := by
  obtain ⟨t, rfl, hp⟩ := h
  simp [w_are_tables, wRet, wRetN, wAndV, wOrV, wNotV, wF, wCons, wNil, wV, wC, o1, o2, fIsi, fLen, fAll, fInt, fAbs, fII, fTup, fList, startR, R.fz, R.val, isiD, clsD, clsL, tyD, insOk, bodyPost, wSeq, wNext, wIfS, wT, w2, oAdd, oSub, oI, oIc, oMulW, oDivW, oMod, oPow, oLt, oLe, oGt, oGe, oEq, wIsN, D.isNon, wChain, wIf, wFld, wTup, wLst, shs, wSet, wOwn, wPar, wPar3, wCall, wMake, wMeth, wExpr, wAsgE, geT, geCons, geNil, geF, putD, wAsgT, gT, gsCons, gsNil, gN, iSeq, iOne, iRng, iZip, wNeg, wAnd, wOr, wNot, seqD, shs, oIx, oIxA, oIn, inD, wPut, setD, wGet2, wNewD, wYes, noX, dcD, blsD, eqD, shD, toPy, toPyL, PyData.eqv, PyData.eqvAll, SeqAt.shaped, PyData.canLay0, PyData.canLayAll0, PyData.depth, PyData.depthAll, and_assoc, sz1, sz2, sz3, kit_self, lookup_hd, lookup_tl, Int.natCast_inj, show ((0 : Nat) : Int) = 0 from rfl, kb_NoneType_bool, kb_NoneType_int, kb_NoneType_str, kb_NoneType_list, kb_NoneType_tuple, kb_NoneType_dict, kb_bool_bool, kb_bool_int, kb_bool_str, kb_bool_list, kb_bool_tuple, kb_bool_dict, kb_int_bool, kb_int_int, kb_int_str, kb_int_list, kb_int_tuple, kb_int_dict, kb_str_bool, kb_str_int, kb_str_str, kb_str_list, kb_str_tuple, kb_str_dict, kb_list_bool, kb_list_int, kb_list_str, kb_list_list, kb_list_tuple, kb_list_dict, kb_tuple_bool, kb_tuple_int, kb_tuple_str, kb_tuple_list, kb_tuple_tuple, kb_tuple_dict, kb_dict_bool, kb_dict_int, kb_dict_str, kb_dict_list, kb_dict_tuple, kb_dict_dict]
  refine ⟨_, _, _, _, rfl, rfl, ?_⟩
  simp only [tabD]
  simp [wLc, wDc, wLcL, wDcL, wipeR, restR, keyD, putKD, T.i_Table, T.k_Table, T.n_Table_name, wRet, wRetN, wAndV, wOrV, wNotV, wF, wCons, wNil, wV, wC, o1, o2, fIsi, fLen, fAll, fInt, fAbs, fII, fTup, fList, startR, R.fz, R.val, isiD, clsD, clsL, tyD, insOk, bodyPost, wSeq, wNext, wIfS, wT, w2, oAdd, oSub, oI, oIc, oMulW, oDivW, oMod, oPow, oLt, oLe, oGt, oGe, oEq, wIsN, D.isNon, wChain, wIf, wFld, wTup, wLst, shs, wSet, wOwn, wPar, wPar3, wCall, wMake, wMeth, wExpr, wAsgE, geT, geCons, geNil, geF, putD, wAsgT, gT, gsCons, gsNil, gN, iSeq, iOne, iRng, iZip, wNeg, wAnd, wOr, wNot, seqD, shs, oIx, oIxA, oIn, inD, wPut, setD, wGet2, wNewD, wYes, noX, dcD, blsD, eqD, shD, toPy, toPyL, PyData.eqv, PyData.eqvAll, SeqAt.shaped, PyData.canLay0, PyData.canLayAll0, PyData.depth, PyData.depthAll, and_assoc, sz1, sz2, sz3, kit_self, lookup_hd, lookup_tl, Int.natCast_inj, show ((0 : Nat) : Int) = 0 from rfl, kb_NoneType_bool, kb_NoneType_int, kb_NoneType_str, kb_NoneType_list, kb_NoneType_tuple, kb_NoneType_dict, kb_bool_bool, kb_bool_int, kb_bool_str, kb_bool_list, kb_bool_tuple, kb_bool_dict, kb_int_bool, kb_int_int, kb_int_str, kb_int_list, kb_int_tuple, kb_int_dict, kb_str_bool, kb_str_int, kb_str_str, kb_str_list, kb_str_tuple, kb_str_dict, kb_list_bool, kb_list_int, kb_list_str, kb_list_list, kb_list_tuple, kb_list_dict, kb_tuple_bool, kb_tuple_int, kb_tuple_str, kb_tuple_list, kb_tuple_tuple, kb_tuple_dict, kb_dict_bool, kb_dict_int, kb_dict_str, kb_dict_list, kb_dict_tuple, kb_dict_dict]
  simpa [wRet, wRetN, wAndV, wOrV, wNotV, wF, wCons, wNil, wV, wC, o1, o2, fIsi, fLen, fAll, fInt, fAbs, fII, fTup, fList, startR, R.fz, R.val, isiD, clsD, clsL, tyD, insOk, bodyPost, wSeq, wNext, wIfS, wT, w2, oAdd, oSub, oI, oIc, oMulW, oDivW, oMod, oPow, oLt, oLe, oGt, oGe, oEq, wIsN, D.isNon, wChain, wIf, wFld, wTup, wLst, shs, wSet, wOwn, wPar, wPar3, wCall, wMake, wMeth, wExpr, wAsgE, geT, geCons, geNil, geF, putD, wAsgT, gT, gsCons, gsNil, gN, iSeq, iOne, iRng, iZip, wNeg, wAnd, wOr, wNot, seqD, shs, oIx, oIxA, oIn, inD, wPut, setD, wGet2, wNewD, wYes, noX, dcD, blsD, eqD, shD, toPy, toPyL, PyData.eqv, PyData.eqvAll, SeqAt.shaped, PyData.canLay0, PyData.canLayAll0, PyData.depth, PyData.depthAll, and_assoc, sz1, sz2, sz3, kit_self, lookup_hd, lookup_tl, Int.natCast_inj, show ((0 : Nat) : Int) = 0 from rfl, kb_NoneType_bool, kb_NoneType_int, kb_NoneType_str, kb_NoneType_list, kb_NoneType_tuple, kb_NoneType_dict, kb_bool_bool, kb_bool_int, kb_bool_str, kb_bool_list, kb_bool_tuple, kb_bool_dict, kb_int_bool, kb_int_int, kb_int_str, kb_int_list, kb_int_tuple, kb_int_dict, kb_str_bool, kb_str_int, kb_str_str, kb_str_list, kb_str_tuple, kb_str_dict, kb_list_bool, kb_list_int, kb_list_str, kb_list_list, kb_list_tuple, kb_list_dict, kb_tuple_bool, kb_tuple_int, kb_tuple_str, kb_tuple_list, kb_tuple_tuple, kb_tuple_dict, kb_dict_bool, kb_dict_int, kb_dict_str, kb_dict_list, kb_dict_tuple, kb_dict_dict] using hp
theorem l_by_names (T : Txt K mg CTable CWorld CSplit) (h : Φ_by_names K CTable CWorld CSplit rs os P PX) : w_by_names K CTable CWorld CSplit ⟨startR ["tables", "one"] rs, os⟩ (bodyPost os.length P PX) := by
  obtain ⟨t, rfl, hp⟩ := h
  simp only [tabD] at hp ⊢
  simp [w_by_names, wDc, wDcL, wipeR, restR, keyD, putKD, T.i_Table, T.k_Table, T.n_Table_name, wRet, wRetN, wAndV, wOrV, wNotV, wF, wCons, wNil, wV, wC, o1, o2, fIsi, fLen, fAll, fInt, fAbs, fII, fTup, fList, startR, R.fz, R.val, isiD, clsD, clsL, tyD, insOk, bodyPost, wSeq, wNext, wIfS, wT, w2, oAdd, oSub, oI, oIc, oMulW, oDivW, oMod, oPow, oLt, oLe, oGt, oGe, oEq, wIsN, D.isNon, wChain, wIf, wFld, wTup, wLst, shs, wSet, wOwn, wPar, wPar3, wCall, wMake, wMeth, wExpr, wAsgE, geT, geCons, geNil, geF, putD, wAsgT, gT, gsCons, gsNil, gN, iSeq, iOne, iRng, iZip, wNeg, wAnd, wOr, wNot, seqD, shs, oIx, oIxA, oIn, inD, wPut, setD, wGet2, wNewD, wYes, noX, dcD, blsD, eqD, shD, toPy, toPyL, PyData.eqv, PyData.eqvAll, SeqAt.shaped, PyData.canLay0, PyData.canLayAll0, PyData.depth, PyData.depthAll, and_assoc, sz1, sz2, sz3, kit_self, lookup_hd, lookup_tl, Int.natCast_inj, show ((0 : Nat) : Int) = 0 from rfl, kb_NoneType_bool, kb_NoneType_int, kb_NoneType_str, kb_NoneType_list, kb_NoneType_tuple, kb_NoneType_dict, kb_bool_bool, kb_bool_int, kb_bool_str, kb_bool_list, kb_bool_tuple, kb_bool_dict, kb_int_bool, kb_int_int, kb_int_str, kb_int_list, kb_int_tuple, kb_int_dict, kb_str_bool, kb_str_int, kb_str_str, kb_str_list, kb_str_tuple, kb_str_dict, kb_list_bool, kb_list_int, kb_list_str, kb_list_list, kb_list_tuple, kb_list_dict, kb_tuple_bool, kb_tuple_int, kb_tuple_str, kb_tuple_list, kb_tuple_tuple, kb_tuple_dict, kb_dict_bool, kb_dict_int, kb_dict_str, kb_dict_list, kb_dict_tuple, kb_dict_dict]
  simpa [wRet, wRetN, wAndV, wOrV, wNotV, wF, wCons, wNil, wV, wC, o1, o2, fIsi, fLen, fAll, fInt, fAbs, fII, fTup, fList, startR, R.fz, R.val, isiD, clsD, clsL, tyD, insOk, bodyPost, wSeq, wNext, wIfS, wT, w2, oAdd, oSub, oI, oIc, oMulW, oDivW, oMod, oPow, oLt, oLe, oGt, oGe, oEq, wIsN, D.isNon, wChain, wIf, wFld, wTup, wLst, shs, wSet, wOwn, wPar, wPar3, wCall, wMake, wMeth, wExpr, wAsgE, geT, geCons, geNil, geF, putD, wAsgT, gT, gsCons, gsNil, gN, iSeq, iOne, iRng, iZip, wNeg, wAnd, wOr, wNot, seqD, shs, oIx, oIxA, oIn, inD, wPut, setD, wGet2, wNewD, wYes, noX, dcD, blsD, eqD, shD, toPy, toPyL, PyData.eqv, PyData.eqvAll, SeqAt.shaped, PyData.canLay0, PyData.canLayAll0, PyData.depth, PyData.depthAll, and_assoc, sz1, sz2, sz3, kit_self, lookup_hd, lookup_tl, Int.natCast_inj, show ((0 : Nat) : Int) = 0 from rfl, kb_NoneType_bool, kb_NoneType_int, kb_NoneType_str, kb_NoneType_list, kb_NoneType_tuple, kb_NoneType_dict, kb_bool_bool, kb_bool_int, kb_bool_str, kb_bool_list, kb_bool_tuple, kb_bool_dict, kb_int_bool, kb_int_int, kb_int_str, kb_int_list, kb_int_tuple, kb_int_dict, kb_str_bool, kb_str_int, kb_str_str, kb_str_list, kb_str_tuple, kb_str_dict, kb_list_bool, kb_list_int, kb_list_str, kb_list_list, kb_list_tuple, kb_list_dict, kb_tuple_bool, kb_tuple_int, kb_tuple_str, kb_tuple_list, kb_tuple_tuple, kb_tuple_dict, kb_dict_bool, kb_dict_int, kb_dict_str, kb_dict_list, kb_dict_tuple, kb_dict_dict] using hp
theorem l_World_index (T : Txt K mg CTable CWorld CSplit) (h : Φ_World_index K CTable CWorld CSplit rs os P PX) : w_World_index K CTable CWorld CSplit ⟨startR ["self", "name", "at", "table"] rs, os⟩ (bodyPost os.length P PX) := by
  obtain ⟨t, rws, rfl, h0, hp⟩ := h
  simp only [worldD, tabD]
  simp [w_World_index, wFor, wLoop, enumD, T.k_World, T.n_World_tables, T.k_Table, T.n_Table_name, h0, wRet, wRetN, wAndV, wOrV, wNotV, wF, wCons, wNil, wV, wC, o1, o2, fIsi, fLen, fAll, fInt, fAbs, fII, fTup, fList, startR, R.fz, R.val, isiD, clsD, clsL, tyD, insOk, bodyPost, wSeq, wNext, wIfS, wT, w2, oAdd, oSub, oI, oIc, oMulW, oDivW, oMod, oPow, oLt, oLe, oGt, oGe, oEq, wIsN, D.isNon, wChain, wIf, wFld, wTup, wLst, shs, wSet, wOwn, wPar, wPar3, wCall, wMake, wMeth, wExpr, wAsgE, geT, geCons, geNil, geF, putD, wAsgT, gT, gsCons, gsNil, gN, iSeq, iOne, iRng, iZip, wNeg, wAnd, wOr, wNot, seqD, shs, oIx, oIxA, oIn, inD, wPut, setD, wGet2, wNewD, wYes, noX, dcD, blsD, eqD, shD, toPy, toPyL, PyData.eqv, PyData.eqvAll, SeqAt.shaped, PyData.canLay0, PyData.canLayAll0, PyData.depth, PyData.depthAll, and_assoc, sz1, sz2, sz3, kit_self, lookup_hd, lookup_tl, Int.natCast_inj, show ((0 : Nat) : Int) = 0 from rfl, kb_NoneType_bool, kb_NoneType_int, kb_NoneType_str, kb_NoneType_list, kb_NoneType_tuple, kb_NoneType_dict, kb_bool_bool, kb_bool_int, kb_bool_str, kb_bool_list, kb_bool_tuple, kb_bool_dict, kb_int_bool, kb_int_int, kb_int_str, kb_int_list, kb_int_tuple, kb_int_dict, kb_str_bool, kb_str_int, kb_str_str, kb_str_list, kb_str_tuple, kb_str_dict, kb_list_bool, kb_list_int, kb_list_str, kb_list_list, kb_list_tuple, kb_list_dict, kb_tuple_bool, kb_tuple_int, kb_tuple_str, kb_tuple_list, kb_tuple_tuple, kb_tuple_dict, kb_dict_bool, kb_dict_int, kb_dict_str, kb_dict_list, kb_dict_tuple, kb_dict_dict]
  simpa using hp
theorem l_need_tables (T : Txt K mg CTable CWorld CSplit) (h : Φ_need_tables K CTable CWorld CSplit rs os P PX) : w_need_tables K CTable CWorld CSplit ⟨startR ["world", "tables", "there", "one"] rs, os⟩ (bodyPost os.length P PX) := by
  obtain ⟨t, rws, rfl, h0, hp⟩ := h
  simp only [worldD]
  simp [w_need_tables, T.k_World, T.n_World_tables, wRet, wRetN, wAndV, wOrV, wNotV, wF, wCons, wNil, wV, wC, o1, o2, fIsi, fLen, fAll, fInt, fAbs, fII, fTup, fList, startR, R.fz, R.val, isiD, clsD, clsL, tyD, insOk, bodyPost, wSeq, wNext, wIfS, wT, w2, oAdd, oSub, oI, oIc, oMulW, oDivW, oMod, oPow, oLt, oLe, oGt, oGe, oEq, wIsN, D.isNon, wChain, wIf, wFld, wTup, wLst, shs, wSet, wOwn, wPar, wPar3, wCall, wMake, wMeth, wExpr, wAsgE, geT, geCons, geNil, geF, putD, wAsgT, gT, gsCons, gsNil, gN, iSeq, iOne, iRng, iZip, wNeg, wAnd, wOr, wNot, seqD, shs, oIx, oIxA, oIn, inD, wPut, setD, wGet2, wNewD, wYes, noX, dcD, blsD, eqD, shD, toPy, toPyL, PyData.eqv, PyData.eqvAll, SeqAt.shaped, PyData.canLay0, PyData.canLayAll0, PyData.depth, PyData.depthAll, and_assoc, sz1, sz2, sz3, kit_self, lookup_hd, lookup_tl, Int.natCast_inj, show ((0 : Nat) : Int) = 0 from rfl, kb_NoneType_bool, kb_NoneType_int, kb_NoneType_str, kb_NoneType_list, kb_NoneType_tuple, kb_NoneType_dict, kb_bool_bool, kb_bool_int, kb_bool_str, kb_bool_list, kb_bool_tuple, kb_bool_dict, kb_int_bool, kb_int_int, kb_int_str, kb_int_list, kb_int_tuple, kb_int_dict, kb_str_bool, kb_str_int, kb_str_str, kb_str_list, kb_str_tuple, kb_str_dict, kb_list_bool, kb_list_int, kb_list_str, kb_list_list, kb_list_tuple, kb_list_dict, kb_tuple_bool, kb_tuple_int, kb_tuple_str, kb_tuple_list, kb_tuple_tuple, kb_tuple_dict, kb_dict_bool, kb_dict_int, kb_dict_str, kb_dict_list, kb_dict_tuple, kb_dict_dict]
  refine ⟨t, rfl, ?_⟩
  simp only [tabD]
  simp [wLc, wLcL, wipeR, restR, getD2, keyD, getKD, T.k_Table, T.n_Table_name, oOwn, T.i_Table, PySem.W.notFirst, wRet, wRetN, wAndV, wOrV, wNotV, wF, wCons, wNil, wV, wC, o1, o2, fIsi, fLen, fAll, fInt, fAbs, fII, fTup, fList, startR, R.fz, R.val, isiD, clsD, clsL, tyD, insOk, bodyPost, wSeq, wNext, wIfS, wT, w2, oAdd, oSub, oI, oIc, oMulW, oDivW, oMod, oPow, oLt, oLe, oGt, oGe, oEq, wIsN, D.isNon, wChain, wIf, wFld, wTup, wLst, shs, wSet, wOwn, wPar, wPar3, wCall, wMake, wMeth, wExpr, wAsgE, geT, geCons, geNil, geF, putD, wAsgT, gT, gsCons, gsNil, gN, iSeq, iOne, iRng, iZip, wNeg, wAnd, wOr, wNot, seqD, shs, oIx, oIxA, oIn, inD, wPut, setD, wGet2, wNewD, wYes, noX, dcD, blsD, eqD, shD, toPy, toPyL, PyData.eqv, PyData.eqvAll, SeqAt.shaped, PyData.canLay0, PyData.canLayAll0, PyData.depth, PyData.depthAll, and_assoc, sz1, sz2, sz3, kit_self, lookup_hd, lookup_tl, Int.natCast_inj, show ((0 : Nat) : Int) = 0 from rfl, kb_NoneType_bool, kb_NoneType_int, kb_NoneType_str, kb_NoneType_list, kb_NoneType_tuple, kb_NoneType_dict, kb_bool_bool, kb_bool_int, kb_bool_str, kb_bool_list, kb_bool_tuple, kb_bool_dict, kb_int_bool, kb_int_int, kb_int_str, kb_int_list, kb_int_tuple, kb_int_dict, kb_str_bool, kb_str_int, kb_str_str, kb_str_list, kb_str_tuple, kb_str_dict, kb_list_bool, kb_list_int, kb_list_str, kb_list_list, kb_list_tuple, kb_list_dict, kb_tuple_bool, kb_tuple_int, kb_tuple_str, kb_tuple_list, kb_tuple_tuple, kb_tuple_dict, kb_dict_bool, kb_dict_int, kb_dict_str, kb_dict_list, kb_dict_tuple, kb_dict_dict]
  refine ⟨t, t, rfl, h0, h0, ?_⟩
  simpa [wRet, wRetN, wAndV, wOrV, wNotV, wF, wCons, wNil, wV, wC, o1, o2, fIsi, fLen, fAll, fInt, fAbs, fII, fTup, fList, startR, R.fz, R.val, isiD, clsD, clsL, tyD, insOk, bodyPost, wSeq, wNext, wIfS, wT, w2, oAdd, oSub, oI, oIc, oMulW, oDivW, oMod, oPow, oLt, oLe, oGt, oGe, oEq, wIsN, D.isNon, wChain, wIf, wFld, wTup, wLst, shs, wSet, wOwn, wPar, wPar3, wCall, wMake, wMeth, wExpr, wAsgE, geT, geCons, geNil, geF, putD, wAsgT, gT, gsCons, gsNil, gN, iSeq, iOne, iRng, iZip, wNeg, wAnd, wOr, wNot, seqD, shs, oIx, oIxA, oIn, inD, wPut, setD, wGet2, wNewD, wYes, noX, dcD, blsD, eqD, shD, toPy, toPyL, PyData.eqv, PyData.eqvAll, SeqAt.shaped, PyData.canLay0, PyData.canLayAll0, PyData.depth, PyData.depthAll, and_assoc, sz1, sz2, sz3, kit_self, lookup_hd, lookup_tl, Int.natCast_inj, show ((0 : Nat) : Int) = 0 from rfl, kb_NoneType_bool, kb_NoneType_int, kb_NoneType_str, kb_NoneType_list, kb_NoneType_tuple, kb_NoneType_dict, kb_bool_bool, kb_bool_int, kb_bool_str, kb_bool_list, kb_bool_tuple, kb_bool_dict, kb_int_bool, kb_int_int, kb_int_str, kb_int_list, kb_int_tuple, kb_int_dict, kb_str_bool, kb_str_int, kb_str_str, kb_str_list, kb_str_tuple, kb_str_dict, kb_list_bool, kb_list_int, kb_list_str, kb_list_list, kb_list_tuple, kb_list_dict, kb_tuple_bool, kb_tuple_int, kb_tuple_str, kb_tuple_list, kb_tuple_tuple, kb_tuple_dict, kb_dict_bool, kb_dict_int, kb_dict_str, kb_dict_list, kb_dict_tuple, kb_dict_dict] using hp
end
end L2.TL.K08

/-! text K08c -/
set_option Elab.async false
set_option linter.all false
set_option maxRecDepth 100000
set_option maxHeartbeats 4000000
namespace L2.TL.K08
open PySem PySem.Spec PyProof.Rows L2.TL
section
variable {K : PySem.W.Frag} {mg : Str → Option Value} {CTable CWorld CSplit : Addr} {rs : List R} {os : Os} {P : R → Os → Prop} {PX : Er → Os → Prop}
theorem l_common_part (h : Φ_common_part K CTable CWorld CSplit rs os P PX) : w_common_part K CTable CWorld CSplit ⟨startR ["one", "other"] rs, os⟩ (bodyPost os.length P PX) := by
  obtain ⟨a, b, rfl, h1, hp⟩ := h
  simp [w_common_part, wWhile, wRet, wRetN, wAndV, wOrV, wNotV, wF, wCons, wNil, wV, wC, o1, o2, fIsi, fLen, fAll, fInt, fAbs, fII, fTup, fList, startR, R.fz, R.val, isiD, clsD, clsL, tyD, insOk, bodyPost, wSeq, wNext, wIfS, wT, w2, oAdd, oSub, oI, oIc, oMulW, oDivW, oMod, oPow, oLt, oLe, oGt, oGe, oEq, wIsN, D.isNon, wChain, wIf, wFld, wTup, wLst, shs, wSet, wOwn, wPar, wPar3, wCall, wMake, wMeth, wExpr, wAsgE, geT, geCons, geNil, geF, putD, wAsgT, gT, gsCons, gsNil, gN, iSeq, iOne, iRng, iZip, wNeg, wAnd, wOr, wNot, seqD, shs, oIx, oIxA, oIn, inD, wPut, setD, wGet2, wNewD, wYes, noX, dcD, blsD, eqD, shD, toPy, toPyL, PyData.eqv, PyData.eqvAll, SeqAt.shaped, PyData.canLay0, PyData.canLayAll0, PyData.depth, PyData.depthAll, and_assoc, sz1, sz2, sz3, kit_self, lookup_hd, lookup_tl, Int.natCast_inj, show ((0 : Nat) : Int) = 0 from rfl, kb_NoneType_bool, kb_NoneType_int, kb_NoneType_str, kb_NoneType_list, kb_NoneType_tuple, kb_NoneType_dict, kb_bool_bool, kb_bool_int, kb_bool_str, kb_bool_list, kb_bool_tuple, kb_bool_dict, kb_int_bool, kb_int_int, kb_int_str, kb_int_list, kb_int_tuple, kb_int_dict, kb_str_bool, kb_str_int, kb_str_str, kb_str_list, kb_str_tuple, kb_str_dict, kb_list_bool, kb_list_int, kb_list_str, kb_list_list, kb_list_tuple, kb_list_dict, kb_tuple_bool, kb_tuple_int, kb_tuple_str, kb_tuple_list, kb_tuple_tuple, kb_tuple_dict, kb_dict_bool, kb_dict_int, kb_dict_str, kb_dict_list, kb_dict_tuple, kb_dict_dict]
  refine ⟨b + 1, wh_inv (fun m en => ∃ x : Nat, en = ⟨[some (.sh (.int x)), some (.sh (.int m))], os⟩ ∧ 1 ≤ x ∧ Nat.gcd x m = Nat.gcd a b) ?_ (b + 1) b _ (by omega) ⟨a, rfl, h1, rfl⟩⟩
  rintro m en ⟨x, rfl, hx, hg⟩ W hW
  simp [wRet, wRetN, wAndV, wOrV, wNotV, wF, wCons, wNil, wV, wC, o1, o2, fIsi, fLen, fAll, fInt, fAbs, fII, fTup, fList, startR, R.fz, R.val, isiD, clsD, clsL, tyD, insOk, bodyPost, wSeq, wNext, wIfS, wT, w2, oAdd, oSub, oI, oIc, oMulW, oDivW, oMod, oPow, oLt, oLe, oGt, oGe, oEq, wIsN, D.isNon, wChain, wIf, wFld, wTup, wLst, shs, wSet, wOwn, wPar, wPar3, wCall, wMake, wMeth, wExpr, wAsgE, geT, geCons, geNil, geF, putD, wAsgT, gT, gsCons, gsNil, gN, iSeq, iOne, iRng, iZip, wNeg, wAnd, wOr, wNot, seqD, shs, oIx, oIxA, oIn, inD, wPut, setD, wGet2, wNewD, wYes, noX, dcD, blsD, eqD, shD, toPy, toPyL, PyData.eqv, PyData.eqvAll, SeqAt.shaped, PyData.canLay0, PyData.canLayAll0, PyData.depth, PyData.depthAll, and_assoc, sz1, sz2, sz3, kit_self, lookup_hd, lookup_tl, Int.natCast_inj, show ((0 : Nat) : Int) = 0 from rfl, kb_NoneType_bool, kb_NoneType_int, kb_NoneType_str, kb_NoneType_list, kb_NoneType_tuple, kb_NoneType_dict, kb_bool_bool, kb_bool_int, kb_bool_str, kb_bool_list, kb_bool_tuple, kb_bool_dict, kb_int_bool, kb_int_int, kb_int_str, kb_int_list, kb_int_tuple, kb_int_dict, kb_str_bool, kb_str_int, kb_str_str, kb_str_list, kb_str_tuple, kb_str_dict, kb_list_bool, kb_list_int, kb_list_str, kb_list_list, kb_list_tuple, kb_list_dict, kb_tuple_bool, kb_tuple_int, kb_tuple_str, kb_tuple_list, kb_tuple_tuple, kb_tuple_dict, kb_dict_bool, kb_dict_int, kb_dict_str, kb_dict_list, kb_dict_tuple, kb_dict_dict]
  cases m with
  | zero =>
    simp [wRet, wRetN, wAndV, wOrV, wNotV, wF, wCons, wNil, wV, wC, o1, o2, fIsi, fLen, fAll, fInt, fAbs, fII, fTup, fList, startR, R.fz, R.val, isiD, clsD, clsL, tyD, insOk, bodyPost, wSeq, wNext, wIfS, wT, w2, oAdd, oSub, oI, oIc, oMulW, oDivW, oMod, oPow, oLt, oLe, oGt, oGe, oEq, wIsN, D.isNon, wChain, wIf, wFld, wTup, wLst, shs, wSet, wOwn, wPar, wPar3, wCall, wMake, wMeth, wExpr, wAsgE, geT, geCons, geNil, geF, putD, wAsgT, gT, gsCons, gsNil, gN, iSeq, iOne, iRng, iZip, wNeg, wAnd, wOr, wNot, seqD, shs, oIx, oIxA, oIn, inD, wPut, setD, wGet2, wNewD, wYes, noX, dcD, blsD, eqD, shD, toPy, toPyL, PyData.eqv, PyData.eqvAll, SeqAt.shaped, PyData.canLay0, PyData.canLayAll0, PyData.depth, PyData.depthAll, and_assoc, sz1, sz2, sz3, kit_self, lookup_hd, lookup_tl, Int.natCast_inj, show ((0 : Nat) : Int) = 0 from rfl, kb_NoneType_bool, kb_NoneType_int, kb_NoneType_str, kb_NoneType_list, kb_NoneType_tuple, kb_NoneType_dict, kb_bool_bool, kb_bool_int, kb_bool_str, kb_bool_list, kb_bool_tuple, kb_bool_dict, kb_int_bool, kb_int_int, kb_int_str, kb_int_list, kb_int_tuple, kb_int_dict, kb_str_bool, kb_str_int, kb_str_str, kb_str_list, kb_str_tuple, kb_str_dict, kb_list_bool, kb_list_int, kb_list_str, kb_list_list, kb_list_tuple, kb_list_dict, kb_tuple_bool, kb_tuple_int, kb_tuple_str, kb_tuple_list, kb_tuple_tuple, kb_tuple_dict, kb_dict_bool, kb_dict_int, kb_dict_str, kb_dict_list, kb_dict_tuple, kb_dict_dict]
    have e : x = Nat.gcd a b := by rw [← hg, Nat.gcd_zero_right]
    have e2 : (if (1 : Int) > (x : Int) then (1 : Int) else (x : Int)) = (x : Int) := by rw [if_neg]; omega
    rw [← e] at hp
    first
      | simpa [e2] using hp
      | (rw [if_neg (by omega)]; simpa using hp)
  | succ m =>
    rw [show decide (0 < m + 1) = true from by simp]
    refine ⟨by omega, hW (x % (m + 1)) _ (Nat.mod_lt _ (by omega)) ⟨m + 1, ?_, by omega, ?_⟩⟩
    · simp [Int.natCast_emod]
    · rw [← hg, Nat.gcd_comm (m + 1), ← Nat.gcd_rec, Nat.gcd_comm]
theorem pow_up {x a b : Nat} (h : a ≤ b) (ha : 0 < a) : x ^ a ≤ x ^ b := by
  rcases Nat.eq_zero_or_pos x with e | e
  · subst e; rw [Nat.zero_pow ha]; exact Nat.zero_le _
  · exact Nat.pow_le_pow_right e h
theorem cd2 (k : Nat) : CDivW (k : Int) 2 := cdW (n := 2) (by omega) (by omega)
theorem pow_bits {n m : Nat} (h : n < 2 ^ 20) (hm : m ≤ 9999) : n ^ m < 2 ^ 200000 := by
  by_cases h0 : m = 0
  · subst h0; rw [Nat.pow_zero]; exact Nat.one_lt_two_pow (by omega)
  · calc n ^ m < (2 ^ 20) ^ m := Nat.pow_lt_pow_left h h0
      _ = 2 ^ (20 * m) := by rw [← Nat.pow_mul]
      _ ≤ 2 ^ 200000 := Nat.pow_le_pow_right (by omega) (by omega)
theorem mulOk {x y : Nat} {a b : Nat} (hx : x < 2 ^ a) (hy : y < 2 ^ b) (ha : 0 < a) (hb : 0 < b) (h : a + b ≤ 1000000) : IntMulOk (x : Int) (y : Int) := (wide_mul (by simpa using hx) (by simpa using hy) ha hb h).ok
theorem l_power (h : Φ_power K CTable CWorld CSplit rs os P PX) : w_power K CTable CWorld CSplit ⟨startR ["number", "many", "found"] rs, os⟩ (bodyPost os.length P PX) := by
  obtain ⟨n, m, rfl, h1, h2, hp⟩ := h
  simp [w_power, wWhile, wRet, wRetN, wAndV, wOrV, wNotV, wF, wCons, wNil, wV, wC, o1, o2, fIsi, fLen, fAll, fInt, fAbs, fII, fTup, fList, startR, R.fz, R.val, isiD, clsD, clsL, tyD, insOk, bodyPost, wSeq, wNext, wIfS, wT, w2, oAdd, oSub, oI, oIc, oMulW, oDivW, oMod, oPow, oLt, oLe, oGt, oGe, oEq, wIsN, D.isNon, wChain, wIf, wFld, wTup, wLst, shs, wSet, wOwn, wPar, wPar3, wCall, wMake, wMeth, wExpr, wAsgE, geT, geCons, geNil, geF, putD, wAsgT, gT, gsCons, gsNil, gN, iSeq, iOne, iRng, iZip, wNeg, wAnd, wOr, wNot, seqD, shs, oIx, oIxA, oIn, inD, wPut, setD, wGet2, wNewD, wYes, noX, dcD, blsD, eqD, shD, toPy, toPyL, PyData.eqv, PyData.eqvAll, SeqAt.shaped, PyData.canLay0, PyData.canLayAll0, PyData.depth, PyData.depthAll, and_assoc, sz1, sz2, sz3, kit_self, lookup_hd, lookup_tl, Int.natCast_inj, show ((0 : Nat) : Int) = 0 from rfl, kb_NoneType_bool, kb_NoneType_int, kb_NoneType_str, kb_NoneType_list, kb_NoneType_tuple, kb_NoneType_dict, kb_bool_bool, kb_bool_int, kb_bool_str, kb_bool_list, kb_bool_tuple, kb_bool_dict, kb_int_bool, kb_int_int, kb_int_str, kb_int_list, kb_int_tuple, kb_int_dict, kb_str_bool, kb_str_int, kb_str_str, kb_str_list, kb_str_tuple, kb_str_dict, kb_list_bool, kb_list_int, kb_list_str, kb_list_list, kb_list_tuple, kb_list_dict, kb_tuple_bool, kb_tuple_int, kb_tuple_str, kb_tuple_list, kb_tuple_tuple, kb_tuple_dict, kb_dict_bool, kb_dict_int, kb_dict_str, kb_dict_list, kb_dict_tuple, kb_dict_dict]
  refine ⟨m + 1, wh_inv (fun k en => ∃ x f : Nat, en = ⟨[some (.sh (.int x)), some (.sh (.int k)), some (.sh (.int f))], os⟩ ∧ f * x ^ k = n ^ m ∧ f < 2 ^ 200000 ∧ x < 2 ^ 200000 ∧ (0 < k → x ^ k < 2 ^ 200000)) ?_ (m + 1) m _ (by omega)
    ⟨n, 1, rfl, by simp, Nat.one_lt_two_pow (by omega), Nat.lt_of_lt_of_le h1 (Nat.pow_le_pow_right (by omega) (by omega)), fun _ => pow_bits h1 h2⟩⟩
  rintro k en ⟨x, f, rfl, hx, hf, hxx, hk⟩ W hW
  simp [wRet, wRetN, wAndV, wOrV, wNotV, wF, wCons, wNil, wV, wC, o1, o2, fIsi, fLen, fAll, fInt, fAbs, fII, fTup, fList, startR, R.fz, R.val, isiD, clsD, clsL, tyD, insOk, bodyPost, wSeq, wNext, wIfS, wT, w2, oAdd, oSub, oI, oIc, oMulW, oDivW, oMod, oPow, oLt, oLe, oGt, oGe, oEq, wIsN, D.isNon, wChain, wIf, wFld, wTup, wLst, shs, wSet, wOwn, wPar, wPar3, wCall, wMake, wMeth, wExpr, wAsgE, geT, geCons, geNil, geF, putD, wAsgT, gT, gsCons, gsNil, gN, iSeq, iOne, iRng, iZip, wNeg, wAnd, wOr, wNot, seqD, shs, oIx, oIxA, oIn, inD, wPut, setD, wGet2, wNewD, wYes, noX, dcD, blsD, eqD, shD, toPy, toPyL, PyData.eqv, PyData.eqvAll, SeqAt.shaped, PyData.canLay0, PyData.canLayAll0, PyData.depth, PyData.depthAll, and_assoc, sz1, sz2, sz3, kit_self, lookup_hd, lookup_tl, Int.natCast_inj, show ((0 : Nat) : Int) = 0 from rfl, kb_NoneType_bool, kb_NoneType_int, kb_NoneType_str, kb_NoneType_list, kb_NoneType_tuple, kb_NoneType_dict, kb_bool_bool, kb_bool_int, kb_bool_str, kb_bool_list, kb_bool_tuple, kb_bool_dict, kb_int_bool, kb_int_int, kb_int_str, kb_int_list, kb_int_tuple, kb_int_dict, kb_str_bool, kb_str_int, kb_str_str, kb_str_list, kb_str_tuple, kb_str_dict, kb_list_bool, kb_list_int, kb_list_str, kb_list_list, kb_list_tuple, kb_list_dict, kb_tuple_bool, kb_tuple_int, kb_tuple_str, kb_tuple_list, kb_tuple_tuple, kb_tuple_dict, kb_dict_bool, kb_dict_int, kb_dict_str, kb_dict_list, kb_dict_tuple, kb_dict_dict]
  cases k with
  | zero =>
    simp [wRet, wRetN, wAndV, wOrV, wNotV, wF, wCons, wNil, wV, wC, o1, o2, fIsi, fLen, fAll, fInt, fAbs, fII, fTup, fList, startR, R.fz, R.val, isiD, clsD, clsL, tyD, insOk, bodyPost, wSeq, wNext, wIfS, wT, w2, oAdd, oSub, oI, oIc, oMulW, oDivW, oMod, oPow, oLt, oLe, oGt, oGe, oEq, wIsN, D.isNon, wChain, wIf, wFld, wTup, wLst, shs, wSet, wOwn, wPar, wPar3, wCall, wMake, wMeth, wExpr, wAsgE, geT, geCons, geNil, geF, putD, wAsgT, gT, gsCons, gsNil, gN, iSeq, iOne, iRng, iZip, wNeg, wAnd, wOr, wNot, seqD, shs, oIx, oIxA, oIn, inD, wPut, setD, wGet2, wNewD, wYes, noX, dcD, blsD, eqD, shD, toPy, toPyL, PyData.eqv, PyData.eqvAll, SeqAt.shaped, PyData.canLay0, PyData.canLayAll0, PyData.depth, PyData.depthAll, and_assoc, sz1, sz2, sz3, kit_self, lookup_hd, lookup_tl, Int.natCast_inj, show ((0 : Nat) : Int) = 0 from rfl, kb_NoneType_bool, kb_NoneType_int, kb_NoneType_str, kb_NoneType_list, kb_NoneType_tuple, kb_NoneType_dict, kb_bool_bool, kb_bool_int, kb_bool_str, kb_bool_list, kb_bool_tuple, kb_bool_dict, kb_int_bool, kb_int_int, kb_int_str, kb_int_list, kb_int_tuple, kb_int_dict, kb_str_bool, kb_str_int, kb_str_str, kb_str_list, kb_str_tuple, kb_str_dict, kb_list_bool, kb_list_int, kb_list_str, kb_list_list, kb_list_tuple, kb_list_dict, kb_tuple_bool, kb_tuple_int, kb_tuple_str, kb_tuple_list, kb_tuple_tuple, kb_tuple_dict, kb_dict_bool, kb_dict_int, kb_dict_str, kb_dict_list, kb_dict_tuple, kb_dict_dict]
    rw [Nat.pow_zero, Nat.mul_one] at hx
    rw [hx]
    simpa using hp
  | succ k =>
    have hdiv : ((k + 1 : Nat) : Int) / 2 = (((k + 1) / 2 : Nat) : Int) := by omega
    have hmul : ∀ u v : Nat, (u : Int) * (v : Int) = ((u * v : Nat) : Int) := fun u v => (Int.natCast_mul u v).symm
    have hr : (k + 1) % 2 = 0 ∨ (k + 1) % 2 = 1 := by omega
    have e2 : x ^ (k + 1) = (x * x) ^ ((k + 1) / 2) * x ^ ((k + 1) % 2) := by
      rw [← Nat.pow_two, ← Nat.pow_mul, ← Nat.pow_add]
      congr 1
      omega
    have hk1 := hk (by omega)
    have hsq : 0 < (k + 1) / 2 → (x * x) ^ ((k + 1) / 2) < 2 ^ 200000 := fun h0 => by
      rw [← Nat.pow_two, ← Nat.pow_mul]
      exact Nat.lt_of_le_of_lt (pow_up (by omega) (by omega)) hk1
    have hxx2 : 0 < (k + 1) / 2 → x * x < 2 ^ 200000 := fun h0 => by
      rw [← Nat.pow_two]
      exact Nat.lt_of_le_of_lt (pow_up (by omega) (by omega)) hk1
    have hfx : f * x < 2 ^ 200000 := by
      refine Nat.lt_of_le_of_lt ?_ (pow_bits h1 h2)
      rw [← hx]
      exact Nat.mul_le_mul_left f (by have := pow_up (x := x) (a := 1) (b := k + 1) (by omega) (by omega); rwa [Nat.pow_one] at this)
    have mo : ∀ u v : Nat, u < 2 ^ 200000 → v < 2 ^ 200000 → IntMulOk (u : Int) (v : Int) := fun u v hu hv => mulOk hu hv (by omega) (by omega) (by omega)
    rw [show decide (0 < k + 1) = true from by simp]
    rcases hr with hr | hr
    · have em : (((k + 1 : Nat) : Int) % 2 == 1) = false := by
        rw [beq_eq_false_iff_ne]; omega
      simp only [em, hdiv, hmul]
      refine ⟨cd2 (k + 1), ?_⟩
      have hq : 0 < (k + 1) / 2 := by omega
      rw [show decide ((0 : Int) < (((k + 1) / 2 : Nat) : Int)) = true from by rw [decide_eq_true_eq]; omega]
      refine ⟨mo x x hxx hxx, hW ((k + 1) / 2) _ (by omega) ⟨x * x, f, rfl, ?_, hf, hxx2 hq, fun _ => hsq hq⟩⟩
      rw [hr, Nat.pow_zero, Nat.mul_one] at e2
      rw [← e2]; exact hx
    · have em : (((k + 1 : Nat) : Int) % 2 == 1) = true := by
        rw [beq_iff_eq]; omega
      simp only [em, hdiv, hmul]
      refine ⟨mo f x hf hxx, cd2 (k + 1), ?_⟩
      by_cases hq : 0 < (k + 1) / 2
      · rw [show decide ((0 : Int) < (((k + 1) / 2 : Nat) : Int)) = true from by rw [decide_eq_true_eq]; omega]
        refine ⟨mo x x hxx hxx, hW ((k + 1) / 2) _ (by omega) ⟨x * x, f * x, rfl, ?_, hfx, hxx2 hq, fun _ => hsq hq⟩⟩
        rw [hr, Nat.pow_one] at e2
        rw [← hx, e2, Nat.mul_assoc, Nat.mul_comm x]
      · rw [show decide ((0 : Int) < (((k + 1) / 2 : Nat) : Int)) = false from by rw [decide_eq_false_iff_not]; omega]
        refine hW ((k + 1) / 2) _ (by omega) ⟨x, f * x, rfl, ?_, hfx, hxx, fun h => absurd h hq⟩
        have k0 : k = 0 := by omega
        subst k0
        rw [show (0 + 1) / 2 = 0 from rfl, Nat.pow_zero, Nat.mul_one, ← hx, show 0 + 1 = 1 from rfl, Nat.pow_one]
theorem l__law_power (h : Φ__law_power K CTable CWorld CSplit rs os P PX) : w__law_power K CTable CWorld CSplit ⟨startR ["number", "many", "found", "part", "left"] rs, os⟩ (bodyPost os.length P PX) := by
  obtain ⟨n, m, rfl, h0, h1, h2, hp⟩ := h
  have mo : ∀ u v : Nat, u < 2 ^ 30 → IntMulOk (u : Int) (v : Int) := fun u v hu => CMul.ok (.inl ⟨by omega, by omega⟩)
  have top : n ^ m ≤ 1296 := Nat.le_trans (Nat.pow_le_pow_left h1 m) (Nat.le_trans (Nat.pow_le_pow_right (by omega) h2) (by decide))
  have hn1 : 0 < n ^ m := Nat.pow_pos h0
  simp [w__law_power, wWhile, wRet, wRetN, wAndV, wOrV, wNotV, wF, wCons, wNil, wV, wC, o1, o2, fIsi, fLen, fAll, fInt, fAbs, fII, fTup, fList, startR, R.fz, R.val, isiD, clsD, clsL, tyD, insOk, bodyPost, wSeq, wNext, wIfS, wT, w2, oAdd, oSub, oI, oIc, oMulW, oDivW, oMod, oPow, oLt, oLe, oGt, oGe, oEq, wIsN, D.isNon, wChain, wIf, wFld, wTup, wLst, shs, wSet, wOwn, wPar, wPar3, wCall, wMake, wMeth, wExpr, wAsgE, geT, geCons, geNil, geF, putD, wAsgT, gT, gsCons, gsNil, gN, iSeq, iOne, iRng, iZip, wNeg, wAnd, wOr, wNot, seqD, shs, oIx, oIxA, oIn, inD, wPut, setD, wGet2, wNewD, wYes, noX, dcD, blsD, eqD, shD, toPy, toPyL, PyData.eqv, PyData.eqvAll, SeqAt.shaped, PyData.canLay0, PyData.canLayAll0, PyData.depth, PyData.depthAll, and_assoc, sz1, sz2, sz3, kit_self, lookup_hd, lookup_tl, Int.natCast_inj, show ((0 : Nat) : Int) = 0 from rfl, kb_NoneType_bool, kb_NoneType_int, kb_NoneType_str, kb_NoneType_list, kb_NoneType_tuple, kb_NoneType_dict, kb_bool_bool, kb_bool_int, kb_bool_str, kb_bool_list, kb_bool_tuple, kb_bool_dict, kb_int_bool, kb_int_int, kb_int_str, kb_int_list, kb_int_tuple, kb_int_dict, kb_str_bool, kb_str_int, kb_str_str, kb_str_list, kb_str_tuple, kb_str_dict, kb_list_bool, kb_list_int, kb_list_str, kb_list_list, kb_list_tuple, kb_list_dict, kb_tuple_bool, kb_tuple_int, kb_tuple_str, kb_tuple_list, kb_tuple_tuple, kb_tuple_dict, kb_dict_bool, kb_dict_int, kb_dict_str, kb_dict_list, kb_dict_tuple, kb_dict_dict]
  refine ⟨m + 1, wh_inv (fun k en => ∃ x f : Nat, en = ⟨[some (.sh (.int n)), some (.sh (.int m)), some (.sh (.int f)), some (.sh (.int x)), some (.sh (.int k))], os⟩ ∧ f * x ^ k = n ^ m ∧ 1 ≤ f ∧ 1 ≤ x ∧ x ≤ 1296) ?_ (m + 1) m _ (by omega) ⟨n, 1, rfl, by simp, by omega, by omega, by omega⟩⟩
  rintro k en ⟨x, f, rfl, hx, hf, hxx, hxt⟩ W hW
  simp [wRet, wRetN, wAndV, wOrV, wNotV, wF, wCons, wNil, wV, wC, o1, o2, fIsi, fLen, fAll, fInt, fAbs, fII, fTup, fList, startR, R.fz, R.val, isiD, clsD, clsL, tyD, insOk, bodyPost, wSeq, wNext, wIfS, wT, w2, oAdd, oSub, oI, oIc, oMulW, oDivW, oMod, oPow, oLt, oLe, oGt, oGe, oEq, wIsN, D.isNon, wChain, wIf, wFld, wTup, wLst, shs, wSet, wOwn, wPar, wPar3, wCall, wMake, wMeth, wExpr, wAsgE, geT, geCons, geNil, geF, putD, wAsgT, gT, gsCons, gsNil, gN, iSeq, iOne, iRng, iZip, wNeg, wAnd, wOr, wNot, seqD, shs, oIx, oIxA, oIn, inD, wPut, setD, wGet2, wNewD, wYes, noX, dcD, blsD, eqD, shD, toPy, toPyL, PyData.eqv, PyData.eqvAll, SeqAt.shaped, PyData.canLay0, PyData.canLayAll0, PyData.depth, PyData.depthAll, and_assoc, sz1, sz2, sz3, kit_self, lookup_hd, lookup_tl, Int.natCast_inj, show ((0 : Nat) : Int) = 0 from rfl, kb_NoneType_bool, kb_NoneType_int, kb_NoneType_str, kb_NoneType_list, kb_NoneType_tuple, kb_NoneType_dict, kb_bool_bool, kb_bool_int, kb_bool_str, kb_bool_list, kb_bool_tuple, kb_bool_dict, kb_int_bool, kb_int_int, kb_int_str, kb_int_list, kb_int_tuple, kb_int_dict, kb_str_bool, kb_str_int, kb_str_str, kb_str_list, kb_str_tuple, kb_str_dict, kb_list_bool, kb_list_int, kb_list_str, kb_list_list, kb_list_tuple, kb_list_dict, kb_tuple_bool, kb_tuple_int, kb_tuple_str, kb_tuple_list, kb_tuple_tuple, kb_tuple_dict, kb_dict_bool, kb_dict_int, kb_dict_str, kb_dict_list, kb_dict_tuple, kb_dict_dict]
  cases k with
  | zero =>
    simp [wRet, wRetN, wAndV, wOrV, wNotV, wF, wCons, wNil, wV, wC, o1, o2, fIsi, fLen, fAll, fInt, fAbs, fII, fTup, fList, startR, R.fz, R.val, isiD, clsD, clsL, tyD, insOk, bodyPost, wSeq, wNext, wIfS, wT, w2, oAdd, oSub, oI, oIc, oMulW, oDivW, oMod, oPow, oLt, oLe, oGt, oGe, oEq, wIsN, D.isNon, wChain, wIf, wFld, wTup, wLst, shs, wSet, wOwn, wPar, wPar3, wCall, wMake, wMeth, wExpr, wAsgE, geT, geCons, geNil, geF, putD, wAsgT, gT, gsCons, gsNil, gN, iSeq, iOne, iRng, iZip, wNeg, wAnd, wOr, wNot, seqD, shs, oIx, oIxA, oIn, inD, wPut, setD, wGet2, wNewD, wYes, noX, dcD, blsD, eqD, shD, toPy, toPyL, PyData.eqv, PyData.eqvAll, SeqAt.shaped, PyData.canLay0, PyData.canLayAll0, PyData.depth, PyData.depthAll, and_assoc, sz1, sz2, sz3, kit_self, lookup_hd, lookup_tl, Int.natCast_inj, show ((0 : Nat) : Int) = 0 from rfl, kb_NoneType_bool, kb_NoneType_int, kb_NoneType_str, kb_NoneType_list, kb_NoneType_tuple, kb_NoneType_dict, kb_bool_bool, kb_bool_int, kb_bool_str, kb_bool_list, kb_bool_tuple, kb_bool_dict, kb_int_bool, kb_int_int, kb_int_str, kb_int_list, kb_int_tuple, kb_int_dict, kb_str_bool, kb_str_int, kb_str_str, kb_str_list, kb_str_tuple, kb_str_dict, kb_list_bool, kb_list_int, kb_list_str, kb_list_list, kb_list_tuple, kb_list_dict, kb_tuple_bool, kb_tuple_int, kb_tuple_str, kb_tuple_list, kb_tuple_tuple, kb_tuple_dict, kb_dict_bool, kb_dict_int, kb_dict_str, kb_dict_list, kb_dict_tuple, kb_dict_dict]
    rw [Nat.pow_zero, Nat.mul_one] at hx
    rw [hx]
    simpa using hp
  | succ k =>
    have hdiv : ((k + 1 : Nat) : Int) / 2 = (((k + 1) / 2 : Nat) : Int) := by omega
    have hmul : ∀ u v : Nat, (u : Int) * (v : Int) = ((u * v : Nat) : Int) := fun u v => (Int.natCast_mul u v).symm
    have hr : (k + 1) % 2 = 0 ∨ (k + 1) % 2 = 1 := by omega
    have e2 : x ^ (k + 1) = (x * x) ^ ((k + 1) / 2) * x ^ ((k + 1) % 2) := by
      rw [← Nat.pow_two, ← Nat.pow_mul, ← Nat.pow_add]
      congr 1
      omega
    have hfle : f ≤ 1296 := Nat.le_trans (Nat.le_mul_of_pos_right f (Nat.pow_pos hxx)) (by rw [hx]; exact top)
    have hsq : 0 < (k + 1) / 2 → x * x ≤ 1296 := fun h0 => by
      rw [← Nat.pow_two]
      refine Nat.le_trans (pow_up (x := x) (a := 2) (b := k + 1) (by omega) (by omega)) ?_
      exact Nat.le_trans (Nat.le_mul_of_pos_left _ hf) (by rw [hx]; exact top)
    have hx2 : 1 ≤ x * x := Nat.mul_pos hxx hxx
    have hfx : 1 ≤ f * x := Nat.mul_pos hf hxx
    rw [show decide (0 < k + 1) = true from by simp]
    rcases hr with hr | hr
    · have em : (((k + 1 : Nat) : Int) % 2 == 1) = false := by
        rw [beq_eq_false_iff_ne]; omega
      simp only [em, hdiv, hmul]
      refine ⟨cd2 (k + 1), ?_⟩
      have hq : 0 < (k + 1) / 2 := by omega
      rw [show decide ((0 : Int) < (((k + 1) / 2 : Nat) : Int)) = true from by rw [decide_eq_true_eq]; omega]
      refine ⟨mo x x (by omega), hW ((k + 1) / 2) _ (by omega) ⟨x * x, f, rfl, ?_, hf, hx2, hsq hq⟩⟩
      rw [hr, Nat.pow_zero, Nat.mul_one] at e2
      rw [← e2]; exact hx
    · have em : (((k + 1 : Nat) : Int) % 2 == 1) = true := by
        rw [beq_iff_eq]; omega
      simp only [em, hdiv, hmul]
      refine ⟨mo f x (by omega), cd2 (k + 1), ?_⟩
      by_cases hq : 0 < (k + 1) / 2
      · rw [show decide ((0 : Int) < (((k + 1) / 2 : Nat) : Int)) = true from by rw [decide_eq_true_eq]; omega]
        refine ⟨mo x x (by omega), hW ((k + 1) / 2) _ (by omega) ⟨x * x, f * x, rfl, ?_, hfx, hx2, hsq hq⟩⟩
        rw [hr, Nat.pow_one] at e2
        rw [← hx, e2, Nat.mul_assoc, Nat.mul_comm x]
      · rw [show decide ((0 : Int) < (((k + 1) / 2 : Nat) : Int)) = false from by rw [decide_eq_false_iff_not]; omega]
        refine hW ((k + 1) / 2) _ (by omega) ⟨x, f * x, rfl, ?_, hfx, hxx, hxt⟩
        have k0 : k = 0 := by omega
        subst k0
        rw [show (0 + 1) / 2 = 0 from rfl, Nat.pow_zero, Nat.mul_one, ← hx, show 0 + 1 = 1 from rfl, Nat.pow_one]
theorem keysD_row (r : List Int) : keysD (rowT r) = some (r.map Sum.inl) := by
  simp only [rowT, keysD]
  induction r with
  | nil => rfl
  | cons v r ih => rw [List.map_cons, List.mapM_cons, ih]; rfl
theorem fold_len {κ α : Type} [DecidableEq κ] {kk : α → κ} {fv : α → D} : ∀ (ds : List α) (acc : List (κ × D)), (ds.foldl (fun a d => putKD a (kk d) (fv d)) acc).length ≤ acc.length + ds.length
  | [], acc => by simp
  | d :: ds, acc => by
    have h1 := fold_len (kk := kk) (fv := fv) ds (putKD acc (kk d) (fv d))
    have h2 := putKD_len acc (kk d) (fv d)
    simp only [List.foldl_cons, List.length_cons]
    omega
theorem l_are_rows_of (T : Txt K mg CTable CWorld CSplit) (h : Φ_are_rows_of K CTable CWorld CSplit rs os P PX) : w_are_rows_of K CTable CWorld CSplit ⟨startR ["table", "value", "row"] rs, os⟩ (bodyPost os.length P PX) := by
  obtain ⟨t, rws, rfl, hr, hl, hnd, hp⟩ := h
  simp [w_are_rows_of, wLc, wDcT, wipeR, restR, wRet, wRetN, wAndV, wOrV, wNotV, wF, wCons, wNil, wV, wC, o1, o2, fIsi, fLen, fAll, fInt, fAbs, fII, fTup, fList, startR, R.fz, R.val, isiD, clsD, clsL, tyD, insOk, bodyPost, wSeq, wNext, wIfS, wT, w2, oAdd, oSub, oI, oIc, oMulW, oDivW, oMod, oPow, oLt, oLe, oGt, oGe, oEq, wIsN, D.isNon, wChain, wIf, wFld, wTup, wLst, shs, wSet, wOwn, wPar, wPar3, wCall, wMake, wMeth, wExpr, wAsgE, geT, geCons, geNil, geF, putD, wAsgT, gT, gsCons, gsNil, gN, iSeq, iOne, iRng, iZip, wNeg, wAnd, wOr, wNot, seqD, shs, oIx, oIxA, oIn, inD, wPut, setD, wGet2, wNewD, wYes, noX, dcD, blsD, eqD, shD, toPy, toPyL, PyData.eqv, PyData.eqvAll, SeqAt.shaped, PyData.canLay0, PyData.canLayAll0, PyData.depth, PyData.depthAll, and_assoc, sz1, sz2, sz3, kit_self, lookup_hd, lookup_tl, Int.natCast_inj, show ((0 : Nat) : Int) = 0 from rfl, kb_NoneType_bool, kb_NoneType_int, kb_NoneType_str, kb_NoneType_list, kb_NoneType_tuple, kb_NoneType_dict, kb_bool_bool, kb_bool_int, kb_bool_str, kb_bool_list, kb_bool_tuple, kb_bool_dict, kb_int_bool, kb_int_int, kb_int_str, kb_int_list, kb_int_tuple, kb_int_dict, kb_str_bool, kb_str_int, kb_str_str, kb_str_list, kb_str_tuple, kb_str_dict, kb_list_bool, kb_list_int, kb_list_str, kb_list_list, kb_list_tuple, kb_list_dict, kb_tuple_bool, kb_tuple_int, kb_tuple_str, kb_tuple_list, kb_tuple_tuple, kb_tuple_dict, kb_dict_bool, kb_dict_int, kb_dict_str, kb_dict_list, kb_dict_tuple, kb_dict_dict]
  refine ⟨_, _, rfl, rfl, ?_⟩
  simp [wRet, wRetN, wAndV, wOrV, wNotV, wF, wCons, wNil, wV, wC, o1, o2, fIsi, fLen, fAll, fInt, fAbs, fII, fTup, fList, startR, R.fz, R.val, isiD, clsD, clsL, tyD, insOk, bodyPost, wSeq, wNext, wIfS, wT, w2, oAdd, oSub, oI, oIc, oMulW, oDivW, oMod, oPow, oLt, oLe, oGt, oGe, oEq, wIsN, D.isNon, wChain, wIf, wFld, wTup, wLst, shs, wSet, wOwn, wPar, wPar3, wCall, wMake, wMeth, wExpr, wAsgE, geT, geCons, geNil, geF, putD, wAsgT, gT, gsCons, gsNil, gN, iSeq, iOne, iRng, iZip, wNeg, wAnd, wOr, wNot, seqD, shs, oIx, oIxA, oIn, inD, wPut, setD, wGet2, wNewD, wYes, noX, dcD, blsD, eqD, shD, toPy, toPyL, PyData.eqv, PyData.eqvAll, SeqAt.shaped, PyData.canLay0, PyData.canLayAll0, PyData.depth, PyData.depthAll, and_assoc, sz1, sz2, sz3, kit_self, lookup_hd, lookup_tl, Int.natCast_inj, show ((0 : Nat) : Int) = 0 from rfl, kb_NoneType_bool, kb_NoneType_int, kb_NoneType_str, kb_NoneType_list, kb_NoneType_tuple, kb_NoneType_dict, kb_bool_bool, kb_bool_int, kb_bool_str, kb_bool_list, kb_bool_tuple, kb_bool_dict, kb_int_bool, kb_int_int, kb_int_str, kb_int_list, kb_int_tuple, kb_int_dict, kb_str_bool, kb_str_int, kb_str_str, kb_str_list, kb_str_tuple, kb_str_dict, kb_list_bool, kb_list_int, kb_list_str, kb_list_list, kb_list_tuple, kb_list_dict, kb_tuple_bool, kb_tuple_int, kb_tuple_str, kb_tuple_list, kb_tuple_tuple, kb_tuple_dict, kb_dict_bool, kb_dict_int, kb_dict_str, kb_dict_list, kb_dict_tuple, kb_dict_dict]
  refine lcL_map (f := fun _ => .bl true) rfl (fun d hd P PX h => ?_) ?_
  · obtain ⟨r, hrm, rfl⟩ := List.mem_map.mp hd
    simp [wRet, wRetN, wAndV, wOrV, wNotV, wF, wCons, wNil, wV, wC, o1, o2, fIsi, fLen, fAll, fInt, fAbs, fII, fTup, fList, startR, R.fz, R.val, isiD, clsD, clsL, tyD, insOk, bodyPost, wSeq, wNext, wIfS, wT, w2, oAdd, oSub, oI, oIc, oMulW, oDivW, oMod, oPow, oLt, oLe, oGt, oGe, oEq, wIsN, D.isNon, wChain, wIf, wFld, wTup, wLst, shs, wSet, wOwn, wPar, wPar3, wCall, wMake, wMeth, wExpr, wAsgE, geT, geCons, geNil, geF, putD, wAsgT, gT, gsCons, gsNil, gN, iSeq, iOne, iRng, iZip, wNeg, wAnd, wOr, wNot, seqD, shs, oIx, oIxA, oIn, inD, wPut, setD, wGet2, wNewD, wYes, noX, dcD, blsD, eqD, shD, toPy, toPyL, PyData.eqv, PyData.eqvAll, SeqAt.shaped, PyData.canLay0, PyData.canLayAll0, PyData.depth, PyData.depthAll, and_assoc, sz1, sz2, sz3, kit_self, lookup_hd, lookup_tl, Int.natCast_inj, show ((0 : Nat) : Int) = 0 from rfl, kb_NoneType_bool, kb_NoneType_int, kb_NoneType_str, kb_NoneType_list, kb_NoneType_tuple, kb_NoneType_dict, kb_bool_bool, kb_bool_int, kb_bool_str, kb_bool_list, kb_bool_tuple, kb_bool_dict, kb_int_bool, kb_int_int, kb_int_str, kb_int_list, kb_int_tuple, kb_int_dict, kb_str_bool, kb_str_int, kb_str_str, kb_str_list, kb_str_tuple, kb_str_dict, kb_list_bool, kb_list_int, kb_list_str, kb_list_list, kb_list_tuple, kb_list_dict, kb_tuple_bool, kb_tuple_int, kb_tuple_str, kb_tuple_list, kb_tuple_tuple, kb_tuple_dict, kb_dict_bool, kb_dict_int, kb_dict_str, kb_dict_list, kb_dict_tuple, kb_dict_dict]
    exact ⟨t, r, rfl, hr r hrm, h⟩
  · have e3 : (rws.map rowT).map (fun _ => D.bl true) = (rws.map fun _ => true).map D.bl := by rw [List.map_map, List.map_map]; rfl
    have e4 : ((rws.map fun _ => true).all id) = true := by simp
    simp only [List.nil_append, e3, blsD_map]
    rw [e4]
    simp [wRet, wRetN, wAndV, wOrV, wNotV, wF, wCons, wNil, wV, wC, o1, o2, fIsi, fLen, fAll, fInt, fAbs, fII, fTup, fList, startR, R.fz, R.val, isiD, clsD, clsL, tyD, insOk, bodyPost, wSeq, wNext, wIfS, wT, w2, oAdd, oSub, oI, oIc, oMulW, oDivW, oMod, oPow, oLt, oLe, oGt, oGe, oEq, wIsN, D.isNon, wChain, wIf, wFld, wTup, wLst, shs, wSet, wOwn, wPar, wPar3, wCall, wMake, wMeth, wExpr, wAsgE, geT, geCons, geNil, geF, putD, wAsgT, gT, gsCons, gsNil, gN, iSeq, iOne, iRng, iZip, wNeg, wAnd, wOr, wNot, seqD, shs, oIx, oIxA, oIn, inD, wPut, setD, wGet2, wNewD, wYes, noX, dcD, blsD, eqD, shD, toPy, toPyL, PyData.eqv, PyData.eqvAll, SeqAt.shaped, PyData.canLay0, PyData.canLayAll0, PyData.depth, PyData.depthAll, and_assoc, sz1, sz2, sz3, kit_self, lookup_hd, lookup_tl, Int.natCast_inj, show ((0 : Nat) : Int) = 0 from rfl, kb_NoneType_bool, kb_NoneType_int, kb_NoneType_str, kb_NoneType_list, kb_NoneType_tuple, kb_NoneType_dict, kb_bool_bool, kb_bool_int, kb_bool_str, kb_bool_list, kb_bool_tuple, kb_bool_dict, kb_int_bool, kb_int_int, kb_int_str, kb_int_list, kb_int_tuple, kb_int_dict, kb_str_bool, kb_str_int, kb_str_str, kb_str_list, kb_str_tuple, kb_str_dict, kb_list_bool, kb_list_int, kb_list_str, kb_list_list, kb_list_tuple, kb_list_dict, kb_tuple_bool, kb_tuple_int, kb_tuple_str, kb_tuple_list, kb_tuple_tuple, kb_tuple_dict, kb_dict_bool, kb_dict_int, kb_dict_str, kb_dict_list, kb_dict_tuple, kb_dict_dict]
    refine dcL_map (fk := id) (fv := fun _ => .bl true) (kk := fun d => (keysD d).getD []) rfl (fun d hd => ?_) (fun d hd P PX h => ?_) (fun d hd P PX h => ?_) ?_
    · obtain ⟨r, hrm, rfl⟩ := List.mem_map.mp hd
      simp [keysD_row]
    · obtain ⟨r, hrm, rfl⟩ := List.mem_map.mp hd
      simpa [rowT, wRet, wRetN, wAndV, wOrV, wNotV, wF, wCons, wNil, wV, wC, o1, o2, fIsi, fLen, fAll, fInt, fAbs, fII, fTup, fList, startR, R.fz, R.val, isiD, clsD, clsL, tyD, insOk, bodyPost, wSeq, wNext, wIfS, wT, w2, oAdd, oSub, oI, oIc, oMulW, oDivW, oMod, oPow, oLt, oLe, oGt, oGe, oEq, wIsN, D.isNon, wChain, wIf, wFld, wTup, wLst, shs, wSet, wOwn, wPar, wPar3, wCall, wMake, wMeth, wExpr, wAsgE, geT, geCons, geNil, geF, putD, wAsgT, gT, gsCons, gsNil, gN, iSeq, iOne, iRng, iZip, wNeg, wAnd, wOr, wNot, seqD, shs, oIx, oIxA, oIn, inD, wPut, setD, wGet2, wNewD, wYes, noX, dcD, blsD, eqD, shD, toPy, toPyL, PyData.eqv, PyData.eqvAll, SeqAt.shaped, PyData.canLay0, PyData.canLayAll0, PyData.depth, PyData.depthAll, and_assoc, sz1, sz2, sz3, kit_self, lookup_hd, lookup_tl, Int.natCast_inj, show ((0 : Nat) : Int) = 0 from rfl, kb_NoneType_bool, kb_NoneType_int, kb_NoneType_str, kb_NoneType_list, kb_NoneType_tuple, kb_NoneType_dict, kb_bool_bool, kb_bool_int, kb_bool_str, kb_bool_list, kb_bool_tuple, kb_bool_dict, kb_int_bool, kb_int_int, kb_int_str, kb_int_list, kb_int_tuple, kb_int_dict, kb_str_bool, kb_str_int, kb_str_str, kb_str_list, kb_str_tuple, kb_str_dict, kb_list_bool, kb_list_int, kb_list_str, kb_list_list, kb_list_tuple, kb_list_dict, kb_tuple_bool, kb_tuple_int, kb_tuple_str, kb_tuple_list, kb_tuple_tuple, kb_tuple_dict, kb_dict_bool, kb_dict_int, kb_dict_str, kb_dict_list, kb_dict_tuple, kb_dict_dict] using h
    · simpa [wRet, wRetN, wAndV, wOrV, wNotV, wF, wCons, wNil, wV, wC, o1, o2, fIsi, fLen, fAll, fInt, fAbs, fII, fTup, fList, startR, R.fz, R.val, isiD, clsD, clsL, tyD, insOk, bodyPost, wSeq, wNext, wIfS, wT, w2, oAdd, oSub, oI, oIc, oMulW, oDivW, oMod, oPow, oLt, oLe, oGt, oGe, oEq, wIsN, D.isNon, wChain, wIf, wFld, wTup, wLst, shs, wSet, wOwn, wPar, wPar3, wCall, wMake, wMeth, wExpr, wAsgE, geT, geCons, geNil, geF, putD, wAsgT, gT, gsCons, gsNil, gN, iSeq, iOne, iRng, iZip, wNeg, wAnd, wOr, wNot, seqD, shs, oIx, oIxA, oIn, inD, wPut, setD, wGet2, wNewD, wYes, noX, dcD, blsD, eqD, shD, toPy, toPyL, PyData.eqv, PyData.eqvAll, SeqAt.shaped, PyData.canLay0, PyData.canLayAll0, PyData.depth, PyData.depthAll, and_assoc, sz1, sz2, sz3, kit_self, lookup_hd, lookup_tl, Int.natCast_inj, show ((0 : Nat) : Int) = 0 from rfl, kb_NoneType_bool, kb_NoneType_int, kb_NoneType_str, kb_NoneType_list, kb_NoneType_tuple, kb_NoneType_dict, kb_bool_bool, kb_bool_int, kb_bool_str, kb_bool_list, kb_bool_tuple, kb_bool_dict, kb_int_bool, kb_int_int, kb_int_str, kb_int_list, kb_int_tuple, kb_int_dict, kb_str_bool, kb_str_int, kb_str_str, kb_str_list, kb_str_tuple, kb_str_dict, kb_list_bool, kb_list_int, kb_list_str, kb_list_list, kb_list_tuple, kb_list_dict, kb_tuple_bool, kb_tuple_int, kb_tuple_str, kb_tuple_list, kb_tuple_tuple, kb_tuple_dict, kb_dict_bool, kb_dict_int, kb_dict_str, kb_dict_list, kb_dict_tuple, kb_dict_dict] using h
    · have hlen := fold_len (kk := fun d => (keysD d).getD []) (fv := fun _ => D.bl true) (rws.map rowT) []
      rw [List.length_map, List.length_nil, Nat.zero_add] at hlen
      have e5 : decide (((((rws.map rowT).foldl (fun a d => putKD a ((keysD d).getD []) (.bl true)) ([] : List (List Key × D))).length : Nat) : Int) ≤ 20000) = true := by
        rw [decide_eq_true_eq]; omega
      simp only [wRet, wRetN, wAndV, wOrV, wNotV, wF, wCons, wNil, wV, wC, o1, o2, fIsi, fLen, fAll, fInt, fAbs, fII, fTup, fList, startR, R.fz, R.val, isiD, clsD, clsL, tyD, insOk, bodyPost, wSeq, wNext, wIfS, wT, w2, oAdd, oSub, oI, oIc, oMulW, oDivW, oMod, oPow, oLt, oLe, oGt, oGe, oEq, wIsN, D.isNon, wChain, wIf, wFld, wTup, wLst, shs, wSet, wOwn, wPar, wPar3, wCall, wMake, wMeth, wExpr, wAsgE, geT, geCons, geNil, geF, putD, wAsgT, gT, gsCons, gsNil, gN, iSeq, iOne, iRng, iZip, wNeg, wAnd, wOr, wNot, seqD, shs, oIx, oIxA, oIn, inD, wPut, setD, wGet2, wNewD, wYes, noX, dcD, blsD, eqD, shD, toPy, toPyL, PyData.eqv, PyData.eqvAll, SeqAt.shaped, PyData.canLay0, PyData.canLayAll0, PyData.depth, PyData.depthAll, and_assoc, sz1, sz2, sz3, kit_self, lookup_hd, lookup_tl, Int.natCast_inj, show ((0 : Nat) : Int) = 0 from rfl, kb_NoneType_bool, kb_NoneType_int, kb_NoneType_str, kb_NoneType_list, kb_NoneType_tuple, kb_NoneType_dict, kb_bool_bool, kb_bool_int, kb_bool_str, kb_bool_list, kb_bool_tuple, kb_bool_dict, kb_int_bool, kb_int_int, kb_int_str, kb_int_list, kb_int_tuple, kb_int_dict, kb_str_bool, kb_str_int, kb_str_str, kb_str_list, kb_str_tuple, kb_str_dict, kb_list_bool, kb_list_int, kb_list_str, kb_list_list, kb_list_tuple, kb_list_dict, kb_tuple_bool, kb_tuple_int, kb_tuple_str, kb_tuple_list, kb_tuple_tuple, kb_tuple_dict, kb_dict_bool, kb_dict_int, kb_dict_str, kb_dict_list, kb_dict_tuple, kb_dict_dict, e5]
      simpa using hp
/-- what is sorted and told once stays -/
theorem sort_same {rws : List (List Int)} (h : (rws.map rowT).Pairwise (fun a b => leD a b = true)) : sortD (rws.map rowT) = rws.map rowT := List.mergeSort_of_pairwise h
theorem row_back (r : List Int) : D.tup ((r.map (Sum.inl : Int → Key)).map kD) = rowT r := by
  simp only [rowT, List.map_map]; rfl
theorem map_inl_inj : ∀ {a b : List Int}, a.map (Sum.inl : Int → Key) = b.map Sum.inl → a = b
  | [], [], _ => rfl
  | [], _ :: _, h => by cases h
  | _ :: _, [], h => by cases h
  | x :: a, y :: b, h => by
    simp only [List.map_cons, List.cons.injEq, Sum.inl.injEq] at h
    rw [h.1, map_inl_inj h.2]
theorem fold_rows {rws : List (List Int)} (h : rws.Nodup) : ((rws.map rowT).foldl (fun a d => putKD a ((keysD d).getD []) (.bl true)) ([] : List (List Key × D))) = rws.map fun r => (r.map Sum.inl, .bl true) := by
  rw [fold_put]
  · simp [List.map_map, Function.comp_def, keysD_row]
  · rw [List.map_map]
    have : (((fun d => (keysD d).getD []) ∘ rowT) : List Int → List Key) = fun r => r.map Sum.inl := by funext r; simp [keysD_row]
    rw [this]
    exact List.Pairwise.map _ (fun a b hab e => hab (map_inl_inj e)) h
  · intro d _ a ha; cases ha
end
end L2.TL.K08

/-! text K08d -/
set_option Elab.async false
set_option linter.all false
set_option maxRecDepth 100000
set_option maxHeartbeats 4000000
namespace L2.TL.K08
open PySem PySem.Spec PyProof.Rows L2.TL
section
variable {K : PySem.W.Frag} {mg : Str → Option Value} {CTable CWorld CSplit : Addr} {rs : List R} {os : Os} {P : R → Os → Prop} {PX : Er → Os → Prop}
theorem l__law_pen (h : Φ__law_pen K CTable CWorld CSplit rs os P PX) : w__law_pen K CTable CWorld CSplit ⟨startR ["script", "cell"] rs, os⟩ (bodyPost os.length P PX) := by
  obtain ⟨ns, d, rfl, ⟨hl, hd⟩, hp⟩ := h
  have cut : ∀ {α : Type} (xs : List α), xs.length ≤ 63 → cutL xs none (some 63) = xs := fun xs h => by
    unfold cutL
    rw [show HT.sIx xs.length 0 none = 0 from rfl, List.drop_zero]
    refine List.take_of_length_le ?_
    have : HT.sIx xs.length xs.length (some 63) = min 63 xs.length := by
      simp [HT.sIx]
    rw [this]; omega
  have hz : ns.length ≤ sizeLine := Nat.le_trans hl (by decide)
  have hc := cut (ns.map D.int) (by rw [List.length_map]; exact hl)
  have key : wLcL (gN 1) wYes (wF (o1 fInt) (wCons (wV 1) wNil)) [1] (fun acc en2 => P (.fr (.lst [.lst acc, .int 0, .int 0])) (List.take os.length en2.os)) (ns.map D.int) [] ⟨[some (.sh d), none], os⟩ := by
    refine lcL_map (f := id) rfl (fun e he P PX h => ?_) ?_
    · obtain ⟨v, hv, rfl⟩ := List.mem_map.mp he
      simpa [wRet, wRetN, wAndV, wOrV, wNotV, wF, wCons, wNil, wV, wC, o1, o2, fIsi, fLen, fAll, fInt, fAbs, fII, fTup, fList, startR, R.fz, R.val, isiD, clsD, clsL, tyD, insOk, bodyPost, wSeq, wNext, wIfS, wT, w2, oAdd, oSub, oI, oIc, oMulW, oDivW, oMod, oPow, oLt, oLe, oGt, oGe, oEq, wIsN, D.isNon, wChain, wIf, wFld, wTup, wLst, shs, wSet, wOwn, wPar, wPar3, wCall, wMake, wMeth, wExpr, wAsgE, geT, geCons, geNil, geF, putD, wAsgT, gT, gsCons, gsNil, gN, iSeq, iOne, iRng, iZip, wNeg, wAnd, wOr, wNot, seqD, shs, oIx, oIxA, oIn, inD, wPut, setD, wGet2, wNewD, wYes, noX, dcD, blsD, eqD, shD, toPy, toPyL, PyData.eqv, PyData.eqvAll, SeqAt.shaped, PyData.canLay0, PyData.canLayAll0, PyData.depth, PyData.depthAll, and_assoc, sz1, sz2, sz3, kit_self, lookup_hd, lookup_tl, Int.natCast_inj, show ((0 : Nat) : Int) = 0 from rfl, kb_NoneType_bool, kb_NoneType_int, kb_NoneType_str, kb_NoneType_list, kb_NoneType_tuple, kb_NoneType_dict, kb_bool_bool, kb_bool_int, kb_bool_str, kb_bool_list, kb_bool_tuple, kb_bool_dict, kb_int_bool, kb_int_int, kb_int_str, kb_int_list, kb_int_tuple, kb_int_dict, kb_str_bool, kb_str_int, kb_str_str, kb_str_list, kb_str_tuple, kb_str_dict, kb_list_bool, kb_list_int, kb_list_str, kb_list_list, kb_list_tuple, kb_list_dict, kb_tuple_bool, kb_tuple_int, kb_tuple_str, kb_tuple_list, kb_tuple_tuple, kb_tuple_dict, kb_dict_bool, kb_dict_int, kb_dict_str, kb_dict_list, kb_dict_tuple, kb_dict_dict] using h
    · simpa using hp
  rcases hd with rfl | ⟨a, rfl, kl⟩
  · simp [w__law_pen, wLc, wSlc, pNo, pAt, wipeR, restR, hc, wRet, wRetN, wAndV, wOrV, wNotV, wF, wCons, wNil, wV, wC, o1, o2, fIsi, fLen, fAll, fInt, fAbs, fII, fTup, fList, startR, R.fz, R.val, isiD, clsD, clsL, tyD, insOk, bodyPost, wSeq, wNext, wIfS, wT, w2, oAdd, oSub, oI, oIc, oMulW, oDivW, oMod, oPow, oLt, oLe, oGt, oGe, oEq, wIsN, D.isNon, wChain, wIf, wFld, wTup, wLst, shs, wSet, wOwn, wPar, wPar3, wCall, wMake, wMeth, wExpr, wAsgE, geT, geCons, geNil, geF, putD, wAsgT, gT, gsCons, gsNil, gN, iSeq, iOne, iRng, iZip, wNeg, wAnd, wOr, wNot, seqD, shs, oIx, oIxA, oIn, inD, wPut, setD, wGet2, wNewD, wYes, noX, dcD, blsD, eqD, shD, toPy, toPyL, PyData.eqv, PyData.eqvAll, SeqAt.shaped, PyData.canLay0, PyData.canLayAll0, PyData.depth, PyData.depthAll, and_assoc, sz1, sz2, sz3, kit_self, lookup_hd, lookup_tl, Int.natCast_inj, show ((0 : Nat) : Int) = 0 from rfl, kb_NoneType_bool, kb_NoneType_int, kb_NoneType_str, kb_NoneType_list, kb_NoneType_tuple, kb_NoneType_dict, kb_bool_bool, kb_bool_int, kb_bool_str, kb_bool_list, kb_bool_tuple, kb_bool_dict, kb_int_bool, kb_int_int, kb_int_str, kb_int_list, kb_int_tuple, kb_int_dict, kb_str_bool, kb_str_int, kb_str_str, kb_str_list, kb_str_tuple, kb_str_dict, kb_list_bool, kb_list_int, kb_list_str, kb_list_list, kb_list_tuple, kb_list_dict, kb_tuple_bool, kb_tuple_int, kb_tuple_str, kb_tuple_list, kb_tuple_tuple, kb_tuple_dict, kb_dict_bool, kb_dict_int, kb_dict_str, kb_dict_list, kb_dict_tuple, kb_dict_dict]
    exact key
  · simp [w__law_pen, wLc, wSlc, pNo, pAt, wipeR, restR, wRet, wRetN, wAndV, wOrV, wNotV, wF, wCons, wNil, wV, wC, o1, o2, fIsi, fLen, fAll, fInt, fAbs, fII, fTup, fList, startR, R.fz, R.val, isiD, clsD, clsL, tyD, insOk, bodyPost, wSeq, wNext, wIfS, wT, w2, oAdd, oSub, oI, oIc, oMulW, oDivW, oMod, oPow, oLt, oLe, oGt, oGe, oEq, wIsN, D.isNon, wChain, wIf, wFld, wTup, wLst, shs, wSet, wOwn, wPar, wPar3, wCall, wMake, wMeth, wExpr, wAsgE, geT, geCons, geNil, geF, putD, wAsgT, gT, gsCons, gsNil, gN, iSeq, iOne, iRng, iZip, wNeg, wAnd, wOr, wNot, seqD, shs, oIx, oIxA, oIn, inD, wPut, setD, wGet2, wNewD, wYes, noX, dcD, blsD, eqD, shD, toPy, toPyL, PyData.eqv, PyData.eqvAll, SeqAt.shaped, PyData.canLay0, PyData.canLayAll0, PyData.depth, PyData.depthAll, and_assoc, sz1, sz2, sz3, kit_self, lookup_hd, lookup_tl, Int.natCast_inj, show ((0 : Nat) : Int) = 0 from rfl, kb_NoneType_bool, kb_NoneType_int, kb_NoneType_str, kb_NoneType_list, kb_NoneType_tuple, kb_NoneType_dict, kb_bool_bool, kb_bool_int, kb_bool_str, kb_bool_list, kb_bool_tuple, kb_bool_dict, kb_int_bool, kb_int_int, kb_int_str, kb_int_list, kb_int_tuple, kb_int_dict, kb_str_bool, kb_str_int, kb_str_str, kb_str_list, kb_str_tuple, kb_str_dict, kb_list_bool, kb_list_int, kb_list_str, kb_list_list, kb_list_tuple, kb_list_dict, kb_tuple_bool, kb_tuple_int, kb_tuple_str, kb_tuple_list, kb_tuple_tuple, kb_tuple_dict, kb_dict_bool, kb_dict_int, kb_dict_str, kb_dict_list, kb_dict_tuple, kb_dict_dict]
    refine ⟨ns, kl, hz, ?_⟩
    rw [hc]
    exact key
theorem l__law_pick (h : Φ__law_pick K CTable CWorld CSplit rs os P PX) : w__law_pick K CTable CWorld CSplit ⟨startR ["pen", "some"] rs, os⟩ (bodyPost os.length P PX) := by
  obtain ⟨k, cells, at', rest, xs, rfl, ho, hc, ha, h1, h2, hp⟩ := h
  simp [w__law_pick, wRet, wRetN, wAndV, wOrV, wNotV, wF, wCons, wNil, wV, wC, o1, o2, fIsi, fLen, fAll, fInt, fAbs, fII, fTup, fList, startR, R.fz, R.val, isiD, clsD, clsL, tyD, insOk, bodyPost, wSeq, wNext, wIfS, wT, w2, oAdd, oSub, oI, oIc, oMulW, oDivW, oMod, oPow, oLt, oLe, oGt, oGe, oEq, wIsN, D.isNon, wChain, wIf, wFld, wTup, wLst, shs, wSet, wOwn, wPar, wPar3, wCall, wMake, wMeth, wExpr, wAsgE, geT, geCons, geNil, geF, putD, wAsgT, gT, gsCons, gsNil, gN, iSeq, iOne, iRng, iZip, wNeg, wAnd, wOr, wNot, seqD, shs, oIx, oIxA, oIn, inD, wPut, setD, wGet2, wNewD, wYes, noX, dcD, blsD, eqD, shD, toPy, toPyL, PyData.eqv, PyData.eqvAll, SeqAt.shaped, PyData.canLay0, PyData.canLayAll0, PyData.depth, PyData.depthAll, and_assoc, sz1, sz2, sz3, kit_self, lookup_hd, lookup_tl, Int.natCast_inj, show ((0 : Nat) : Int) = 0 from rfl, kb_NoneType_bool, kb_NoneType_int, kb_NoneType_str, kb_NoneType_list, kb_NoneType_tuple, kb_NoneType_dict, kb_bool_bool, kb_bool_int, kb_bool_str, kb_bool_list, kb_bool_tuple, kb_bool_dict, kb_int_bool, kb_int_int, kb_int_str, kb_int_list, kb_int_tuple, kb_int_dict, kb_str_bool, kb_str_int, kb_str_str, kb_str_list, kb_str_tuple, kb_str_dict, kb_list_bool, kb_list_int, kb_list_str, kb_list_list, kb_list_tuple, kb_list_dict, kb_tuple_bool, kb_tuple_int, kb_tuple_str, kb_tuple_list, kb_tuple_tuple, kb_tuple_dict, kb_dict_bool, kb_dict_int, kb_dict_str, kb_dict_list, kb_dict_tuple, kb_dict_dict]
  refine ⟨k, cells, at', rest, xs.length, rfl, ho, hc, ha, h1, h2, fun v at2 rest2 hv h3 => ?_⟩
  have e : atI xs (v : Int) = some xs[v] := by
    simp [atI, ixN, hv]
  simp [e, take_set, wRet, wRetN, wAndV, wOrV, wNotV, wF, wCons, wNil, wV, wC, o1, o2, fIsi, fLen, fAll, fInt, fAbs, fII, fTup, fList, startR, R.fz, R.val, isiD, clsD, clsL, tyD, insOk, bodyPost, wSeq, wNext, wIfS, wT, w2, oAdd, oSub, oI, oIc, oMulW, oDivW, oMod, oPow, oLt, oLe, oGt, oGe, oEq, wIsN, D.isNon, wChain, wIf, wFld, wTup, wLst, shs, wSet, wOwn, wPar, wPar3, wCall, wMake, wMeth, wExpr, wAsgE, geT, geCons, geNil, geF, putD, wAsgT, gT, gsCons, gsNil, gN, iSeq, iOne, iRng, iZip, wNeg, wAnd, wOr, wNot, seqD, shs, oIx, oIxA, oIn, inD, wPut, setD, wGet2, wNewD, wYes, noX, dcD, blsD, eqD, shD, toPy, toPyL, PyData.eqv, PyData.eqvAll, SeqAt.shaped, PyData.canLay0, PyData.canLayAll0, PyData.depth, PyData.depthAll, and_assoc, sz1, sz2, sz3, kit_self, lookup_hd, lookup_tl, Int.natCast_inj, show ((0 : Nat) : Int) = 0 from rfl, kb_NoneType_bool, kb_NoneType_int, kb_NoneType_str, kb_NoneType_list, kb_NoneType_tuple, kb_NoneType_dict, kb_bool_bool, kb_bool_int, kb_bool_str, kb_bool_list, kb_bool_tuple, kb_bool_dict, kb_int_bool, kb_int_int, kb_int_str, kb_int_list, kb_int_tuple, kb_int_dict, kb_str_bool, kb_str_int, kb_str_str, kb_str_list, kb_str_tuple, kb_str_dict, kb_list_bool, kb_list_int, kb_list_str, kb_list_list, kb_list_tuple, kb_list_dict, kb_tuple_bool, kb_tuple_int, kb_tuple_str, kb_tuple_list, kb_tuple_tuple, kb_tuple_dict, kb_dict_bool, kb_dict_int, kb_dict_str, kb_dict_list, kb_dict_tuple, kb_dict_dict]
  exact hp _ _ _ (List.getElem_mem hv) h3
end
end L2.TL.K08

/-! text K08e -/
set_option Elab.async false
set_option linter.all false
set_option maxRecDepth 100000
set_option maxHeartbeats 4000000
namespace L2.TL.K08
open PySem PySem.Spec PyProof.Rows L2.TL
section
variable {K : PySem.W.Frag} {mg : Str → Option Value} {CTable CWorld CSplit : Addr} {rs : List R} {os : Os} {P : R → Os → Prop} {PX : Er → Os → Prop}
theorem toPyL_ints : ∀ r : List Int, toPyL (r.map D.int) = r.map PyData.int
  | [] => rfl
  | v :: r => by simp only [List.map_cons, toPyL, toPy, toPyL_ints r]
theorem lay_ints : ∀ r : List Int, PyData.canLayAll0 (r.map PyData.int) = true
  | [] => rfl
  | v :: r => by simp only [List.map_cons, PyData.canLayAll0, PyData.canLay0, lay_ints r, Bool.and_self]
theorem toPy_row (r : List Int) : toPy (rowT r) = .tuple (r.map PyData.int) := by simp only [rowT, toPy, toPyL_ints]
theorem sortOk_rows {rws : List (List Int)} {w : Int} (hr : ∀ r ∈ rws, RowOk w r) (hw : w = 1 ∨ w = 2) (hl : rws.length ≤ 20000) : SortOk (rws.map rowT) := by
  refine ⟨fun d hd => ?_, fun d hd d' hd' => ?_, .inl fun d hd => ?_, fun d hd => ?_, by rw [List.length_map, sizeLine_eq]; omega⟩
  · obtain ⟨r, hrm, rfl⟩ := List.mem_map.mp hd
    rw [toPy_row, PyData.canLay0]; exact lay_ints r
  · rw [List.map_map] at hd hd'
    obtain ⟨r, hrm, rfl⟩ := List.mem_map.mp hd
    obtain ⟨r', hrm', rfl⟩ := List.mem_map.mp hd'
    show PySem.W.alike (toPy (rowT r)) (toPy (rowT r')) = true
    rw [toPy_row, toPy_row]
    simp [PySem.W.alike, PySem.W.alike_ints]
  · rw [List.map_map] at hd
    obtain ⟨r, hrm, rfl⟩ := List.mem_map.mp hd
    obtain ⟨h1, _⟩ := hr r hrm
    cases r with
    | nil => simp at h1; omega
    | cons v r => exact ⟨.int v, r.map .int, by show toPy (rowT (v :: r)) = _; rw [toPy_row]; rfl⟩
  · obtain ⟨r, hrm, rfl⟩ := List.mem_map.mp hd
    rw [toPy_row, PyData.depth, PySem.W.depth_ints]; omega
theorem l_World_init (T : Txt K mg CTable CWorld CSplit) (h : Φ_World_init K CTable CWorld CSplit rs os P PX) : w_World_init K CTable CWorld CSplit ⟨startR ["self", "tables", "rows", "table", "some", "row"] rs, os⟩ (bodyPost os.length P PX) := by
  obtain ⟨k, t, rws, rfl, ho, hw, hr, hl, ⟨hs, hnd⟩, hp⟩ := h
  have so := sortOk_rows hr hw hl
  simp [w_World_init, wRet, wRetN, wAndV, wOrV, wNotV, wF, wCons, wNil, wV, wC, o1, o2, fIsi, fLen, fAll, fInt, fAbs, fII, fTup, fList, startR, R.fz, R.val, isiD, clsD, clsL, tyD, insOk, bodyPost, wSeq, wNext, wIfS, wT, w2, oAdd, oSub, oI, oIc, oMulW, oDivW, oMod, oPow, oLt, oLe, oGt, oGe, oEq, wIsN, D.isNon, wChain, wIf, wFld, wTup, wLst, shs, wSet, wOwn, wPar, wPar3, wCall, wMake, wMeth, wExpr, wAsgE, geT, geCons, geNil, geF, putD, wAsgT, gT, gsCons, gsNil, gN, iSeq, iOne, iRng, iZip, wNeg, wAnd, wOr, wNot, seqD, shs, oIx, oIxA, oIn, inD, wPut, setD, wGet2, wNewD, wYes, noX, dcD, blsD, eqD, shD, toPy, toPyL, PyData.eqv, PyData.eqvAll, SeqAt.shaped, PyData.canLay0, PyData.canLayAll0, PyData.depth, PyData.depthAll, and_assoc, sz1, sz2, sz3, kit_self, lookup_hd, lookup_tl, Int.natCast_inj, show ((0 : Nat) : Int) = 0 from rfl, kb_NoneType_bool, kb_NoneType_int, kb_NoneType_str, kb_NoneType_list, kb_NoneType_tuple, kb_NoneType_dict, kb_bool_bool, kb_bool_int, kb_bool_str, kb_bool_list, kb_bool_tuple, kb_bool_dict, kb_int_bool, kb_int_int, kb_int_str, kb_int_list, kb_int_tuple, kb_int_dict, kb_str_bool, kb_str_int, kb_str_str, kb_str_list, kb_str_tuple, kb_str_dict, kb_list_bool, kb_list_int, kb_list_str, kb_list_list, kb_list_tuple, kb_list_dict, kb_tuple_bool, kb_tuple_int, kb_tuple_str, kb_tuple_list, kb_tuple_tuple, kb_tuple_dict, kb_dict_bool, kb_dict_int, kb_dict_str, kb_dict_list, kb_dict_tuple, kb_dict_dict]
  refine ⟨t, rfl, ?_⟩
  simp [wRet, wRetN, wAndV, wOrV, wNotV, wF, wCons, wNil, wV, wC, o1, o2, fIsi, fLen, fAll, fInt, fAbs, fII, fTup, fList, startR, R.fz, R.val, isiD, clsD, clsL, tyD, insOk, bodyPost, wSeq, wNext, wIfS, wT, w2, oAdd, oSub, oI, oIc, oMulW, oDivW, oMod, oPow, oLt, oLe, oGt, oGe, oEq, wIsN, D.isNon, wChain, wIf, wFld, wTup, wLst, shs, wSet, wOwn, wPar, wPar3, wCall, wMake, wMeth, wExpr, wAsgE, geT, geCons, geNil, geF, putD, wAsgT, gT, gsCons, gsNil, gN, iSeq, iOne, iRng, iZip, wNeg, wAnd, wOr, wNot, seqD, shs, oIx, oIxA, oIn, inD, wPut, setD, wGet2, wNewD, wYes, noX, dcD, blsD, eqD, shD, toPy, toPyL, PyData.eqv, PyData.eqvAll, SeqAt.shaped, PyData.canLay0, PyData.canLayAll0, PyData.depth, PyData.depthAll, and_assoc, sz1, sz2, sz3, kit_self, lookup_hd, lookup_tl, Int.natCast_inj, show ((0 : Nat) : Int) = 0 from rfl, kb_NoneType_bool, kb_NoneType_int, kb_NoneType_str, kb_NoneType_list, kb_NoneType_tuple, kb_NoneType_dict, kb_bool_bool, kb_bool_int, kb_bool_str, kb_bool_list, kb_bool_tuple, kb_bool_dict, kb_int_bool, kb_int_int, kb_int_str, kb_int_list, kb_int_tuple, kb_int_dict, kb_str_bool, kb_str_int, kb_str_str, kb_str_list, kb_str_tuple, kb_str_dict, kb_list_bool, kb_list_int, kb_list_str, kb_list_list, kb_list_tuple, kb_list_dict, kb_tuple_bool, kb_tuple_int, kb_tuple_str, kb_tuple_list, kb_tuple_tuple, kb_tuple_dict, kb_dict_bool, kb_dict_int, kb_dict_str, kb_dict_list, kb_dict_tuple, kb_dict_dict]
  refine ⟨_, _, _, _, rfl, rfl, ?_⟩
  simp [zipD, wLc, wLcL, wipeR, restR, wRet, wRetN, wAndV, wOrV, wNotV, wF, wCons, wNil, wV, wC, o1, o2, fIsi, fLen, fAll, fInt, fAbs, fII, fTup, fList, startR, R.fz, R.val, isiD, clsD, clsL, tyD, insOk, bodyPost, wSeq, wNext, wIfS, wT, w2, oAdd, oSub, oI, oIc, oMulW, oDivW, oMod, oPow, oLt, oLe, oGt, oGe, oEq, wIsN, D.isNon, wChain, wIf, wFld, wTup, wLst, shs, wSet, wOwn, wPar, wPar3, wCall, wMake, wMeth, wExpr, wAsgE, geT, geCons, geNil, geF, putD, wAsgT, gT, gsCons, gsNil, gN, iSeq, iOne, iRng, iZip, wNeg, wAnd, wOr, wNot, seqD, shs, oIx, oIxA, oIn, inD, wPut, setD, wGet2, wNewD, wYes, noX, dcD, blsD, eqD, shD, toPy, toPyL, PyData.eqv, PyData.eqvAll, SeqAt.shaped, PyData.canLay0, PyData.canLayAll0, PyData.depth, PyData.depthAll, and_assoc, sz1, sz2, sz3, kit_self, lookup_hd, lookup_tl, Int.natCast_inj, show ((0 : Nat) : Int) = 0 from rfl, kb_NoneType_bool, kb_NoneType_int, kb_NoneType_str, kb_NoneType_list, kb_NoneType_tuple, kb_NoneType_dict, kb_bool_bool, kb_bool_int, kb_bool_str, kb_bool_list, kb_bool_tuple, kb_bool_dict, kb_int_bool, kb_int_int, kb_int_str, kb_int_list, kb_int_tuple, kb_int_dict, kb_str_bool, kb_str_int, kb_str_str, kb_str_list, kb_str_tuple, kb_str_dict, kb_list_bool, kb_list_int, kb_list_str, kb_list_list, kb_list_tuple, kb_list_dict, kb_tuple_bool, kb_tuple_int, kb_tuple_str, kb_tuple_list, kb_tuple_tuple, kb_tuple_dict, kb_dict_bool, kb_dict_int, kb_dict_str, kb_dict_list, kb_dict_tuple, kb_dict_dict]
  refine ⟨t, rws, rfl, hr, hl, hnd, ?_⟩
  simp [ho, wRet, wRetN, wAndV, wOrV, wNotV, wF, wCons, wNil, wV, wC, o1, o2, fIsi, fLen, fAll, fInt, fAbs, fII, fTup, fList, startR, R.fz, R.val, isiD, clsD, clsL, tyD, insOk, bodyPost, wSeq, wNext, wIfS, wT, w2, oAdd, oSub, oI, oIc, oMulW, oDivW, oMod, oPow, oLt, oLe, oGt, oGe, oEq, wIsN, D.isNon, wChain, wIf, wFld, wTup, wLst, shs, wSet, wOwn, wPar, wPar3, wCall, wMake, wMeth, wExpr, wAsgE, geT, geCons, geNil, geF, putD, wAsgT, gT, gsCons, gsNil, gN, iSeq, iOne, iRng, iZip, wNeg, wAnd, wOr, wNot, seqD, shs, oIx, oIxA, oIn, inD, wPut, setD, wGet2, wNewD, wYes, noX, dcD, blsD, eqD, shD, toPy, toPyL, PyData.eqv, PyData.eqvAll, SeqAt.shaped, PyData.canLay0, PyData.canLayAll0, PyData.depth, PyData.depthAll, and_assoc, sz1, sz2, sz3, kit_self, lookup_hd, lookup_tl, Int.natCast_inj, show ((0 : Nat) : Int) = 0 from rfl, kb_NoneType_bool, kb_NoneType_int, kb_NoneType_str, kb_NoneType_list, kb_NoneType_tuple, kb_NoneType_dict, kb_bool_bool, kb_bool_int, kb_bool_str, kb_bool_list, kb_bool_tuple, kb_bool_dict, kb_int_bool, kb_int_int, kb_int_str, kb_int_list, kb_int_tuple, kb_int_dict, kb_str_bool, kb_str_int, kb_str_str, kb_str_list, kb_str_tuple, kb_str_dict, kb_list_bool, kb_list_int, kb_list_str, kb_list_list, kb_list_tuple, kb_list_dict, kb_tuple_bool, kb_tuple_int, kb_tuple_str, kb_tuple_list, kb_tuple_tuple, kb_tuple_dict, kb_dict_bool, kb_dict_int, kb_dict_str, kb_dict_list, kb_dict_tuple, kb_dict_dict]
  have key : ∀ (Pend : List (List Key × D) → En → Prop) (a b c d e : Option R), Pend (rws.map fun r => (r.map Sum.inl, .bl true)) ⟨[a, b, c, d, e, none], os.set k (some (.ins CWorld [("tables", .tup [tabD CTable t])]))⟩ →
      wDcL keysD (gN 5) wYes (wF (o1 fTup) (wCons (wV 5) wNil)) (wC (.bl true)) [5] Pend (rws.map rowT) [] ⟨[a, b, c, d, e, none], os.set k (some (.ins CWorld [("tables", .tup [tabD CTable t])]))⟩ := fun Pend a b c d e hP => by
    refine dcL_map (fk := id) (fv := fun _ => .bl true) (kk := fun d => (keysD d).getD []) rfl (fun d hd => ?_) (fun d hd P PX h => ?_) (fun d hd P PX h => ?_) ?_
    · obtain ⟨r, hrm, rfl⟩ := List.mem_map.mp hd
      simp [keysD_row]
    · obtain ⟨r, hrm, rfl⟩ := List.mem_map.mp hd
      simpa [rowT, wRet, wRetN, wAndV, wOrV, wNotV, wF, wCons, wNil, wV, wC, o1, o2, fIsi, fLen, fAll, fInt, fAbs, fII, fTup, fList, startR, R.fz, R.val, isiD, clsD, clsL, tyD, insOk, bodyPost, wSeq, wNext, wIfS, wT, w2, oAdd, oSub, oI, oIc, oMulW, oDivW, oMod, oPow, oLt, oLe, oGt, oGe, oEq, wIsN, D.isNon, wChain, wIf, wFld, wTup, wLst, shs, wSet, wOwn, wPar, wPar3, wCall, wMake, wMeth, wExpr, wAsgE, geT, geCons, geNil, geF, putD, wAsgT, gT, gsCons, gsNil, gN, iSeq, iOne, iRng, iZip, wNeg, wAnd, wOr, wNot, seqD, shs, oIx, oIxA, oIn, inD, wPut, setD, wGet2, wNewD, wYes, noX, dcD, blsD, eqD, shD, toPy, toPyL, PyData.eqv, PyData.eqvAll, SeqAt.shaped, PyData.canLay0, PyData.canLayAll0, PyData.depth, PyData.depthAll, and_assoc, sz1, sz2, sz3, kit_self, lookup_hd, lookup_tl, Int.natCast_inj, show ((0 : Nat) : Int) = 0 from rfl, kb_NoneType_bool, kb_NoneType_int, kb_NoneType_str, kb_NoneType_list, kb_NoneType_tuple, kb_NoneType_dict, kb_bool_bool, kb_bool_int, kb_bool_str, kb_bool_list, kb_bool_tuple, kb_bool_dict, kb_int_bool, kb_int_int, kb_int_str, kb_int_list, kb_int_tuple, kb_int_dict, kb_str_bool, kb_str_int, kb_str_str, kb_str_list, kb_str_tuple, kb_str_dict, kb_list_bool, kb_list_int, kb_list_str, kb_list_list, kb_list_tuple, kb_list_dict, kb_tuple_bool, kb_tuple_int, kb_tuple_str, kb_tuple_list, kb_tuple_tuple, kb_tuple_dict, kb_dict_bool, kb_dict_int, kb_dict_str, kb_dict_list, kb_dict_tuple, kb_dict_dict] using h
    · simpa [wRet, wRetN, wAndV, wOrV, wNotV, wF, wCons, wNil, wV, wC, o1, o2, fIsi, fLen, fAll, fInt, fAbs, fII, fTup, fList, startR, R.fz, R.val, isiD, clsD, clsL, tyD, insOk, bodyPost, wSeq, wNext, wIfS, wT, w2, oAdd, oSub, oI, oIc, oMulW, oDivW, oMod, oPow, oLt, oLe, oGt, oGe, oEq, wIsN, D.isNon, wChain, wIf, wFld, wTup, wLst, shs, wSet, wOwn, wPar, wPar3, wCall, wMake, wMeth, wExpr, wAsgE, geT, geCons, geNil, geF, putD, wAsgT, gT, gsCons, gsNil, gN, iSeq, iOne, iRng, iZip, wNeg, wAnd, wOr, wNot, seqD, shs, oIx, oIxA, oIn, inD, wPut, setD, wGet2, wNewD, wYes, noX, dcD, blsD, eqD, shD, toPy, toPyL, PyData.eqv, PyData.eqvAll, SeqAt.shaped, PyData.canLay0, PyData.canLayAll0, PyData.depth, PyData.depthAll, and_assoc, sz1, sz2, sz3, kit_self, lookup_hd, lookup_tl, Int.natCast_inj, show ((0 : Nat) : Int) = 0 from rfl, kb_NoneType_bool, kb_NoneType_int, kb_NoneType_str, kb_NoneType_list, kb_NoneType_tuple, kb_NoneType_dict, kb_bool_bool, kb_bool_int, kb_bool_str, kb_bool_list, kb_bool_tuple, kb_bool_dict, kb_int_bool, kb_int_int, kb_int_str, kb_int_list, kb_int_tuple, kb_int_dict, kb_str_bool, kb_str_int, kb_str_str, kb_str_list, kb_str_tuple, kb_str_dict, kb_list_bool, kb_list_int, kb_list_str, kb_list_list, kb_list_tuple, kb_list_dict, kb_tuple_bool, kb_tuple_int, kb_tuple_str, kb_tuple_list, kb_tuple_tuple, kb_tuple_dict, kb_dict_bool, kb_dict_int, kb_dict_str, kb_dict_list, kb_dict_tuple, kb_dict_dict] using h
    · rw [fold_rows hnd]; exact hP
  have ek : (rws.map fun r => ((r.map Sum.inl : List Key), D.bl true)).map keyT = rws.map rowT := by
    rw [List.map_map]
    exact List.map_congr_left fun r _ => row_back r
  simp [wLcL, wDcT, wipeR, restR, wRet, wRetN, wAndV, wOrV, wNotV, wF, wCons, wNil, wV, wC, o1, o2, fIsi, fLen, fAll, fInt, fAbs, fII, fTup, fList, startR, R.fz, R.val, isiD, clsD, clsL, tyD, insOk, bodyPost, wSeq, wNext, wIfS, wT, w2, oAdd, oSub, oI, oIc, oMulW, oDivW, oMod, oPow, oLt, oLe, oGt, oGe, oEq, wIsN, D.isNon, wChain, wIf, wFld, wTup, wLst, shs, wSet, wOwn, wPar, wPar3, wCall, wMake, wMeth, wExpr, wAsgE, geT, geCons, geNil, geF, putD, wAsgT, gT, gsCons, gsNil, gN, iSeq, iOne, iRng, iZip, wNeg, wAnd, wOr, wNot, seqD, shs, oIx, oIxA, oIn, inD, wPut, setD, wGet2, wNewD, wYes, noX, dcD, blsD, eqD, shD, toPy, toPyL, PyData.eqv, PyData.eqvAll, SeqAt.shaped, PyData.canLay0, PyData.canLayAll0, PyData.depth, PyData.depthAll, and_assoc, sz1, sz2, sz3, kit_self, lookup_hd, lookup_tl, Int.natCast_inj, show ((0 : Nat) : Int) = 0 from rfl, kb_NoneType_bool, kb_NoneType_int, kb_NoneType_str, kb_NoneType_list, kb_NoneType_tuple, kb_NoneType_dict, kb_bool_bool, kb_bool_int, kb_bool_str, kb_bool_list, kb_bool_tuple, kb_bool_dict, kb_int_bool, kb_int_int, kb_int_str, kb_int_list, kb_int_tuple, kb_int_dict, kb_str_bool, kb_str_int, kb_str_str, kb_str_list, kb_str_tuple, kb_str_dict, kb_list_bool, kb_list_int, kb_list_str, kb_list_list, kb_list_tuple, kb_list_dict, kb_tuple_bool, kb_tuple_int, kb_tuple_str, kb_tuple_list, kb_tuple_tuple, kb_tuple_dict, kb_dict_bool, kb_dict_int, kb_dict_str, kb_dict_list, kb_dict_tuple, kb_dict_dict]
  refine key _ _ _ _ _ _ ?_
  simp only [fSort, ek, sort_same hs]
  refine ⟨so, ?_⟩
  simp [wLcL, ho, set_at ho, ne_tr, take_set, wRet, wRetN, wAndV, wOrV, wNotV, wF, wCons, wNil, wV, wC, o1, o2, fIsi, fLen, fAll, fInt, fAbs, fII, fTup, fList, startR, R.fz, R.val, isiD, clsD, clsL, tyD, insOk, bodyPost, wSeq, wNext, wIfS, wT, w2, oAdd, oSub, oI, oIc, oMulW, oDivW, oMod, oPow, oLt, oLe, oGt, oGe, oEq, wIsN, D.isNon, wChain, wIf, wFld, wTup, wLst, shs, wSet, wOwn, wPar, wPar3, wCall, wMake, wMeth, wExpr, wAsgE, geT, geCons, geNil, geF, putD, wAsgT, gT, gsCons, gsNil, gN, iSeq, iOne, iRng, iZip, wNeg, wAnd, wOr, wNot, seqD, shs, oIx, oIxA, oIn, inD, wPut, setD, wGet2, wNewD, wYes, noX, dcD, blsD, eqD, shD, toPy, toPyL, PyData.eqv, PyData.eqvAll, SeqAt.shaped, PyData.canLay0, PyData.canLayAll0, PyData.depth, PyData.depthAll, and_assoc, sz1, sz2, sz3, kit_self, lookup_hd, lookup_tl, Int.natCast_inj, show ((0 : Nat) : Int) = 0 from rfl, kb_NoneType_bool, kb_NoneType_int, kb_NoneType_str, kb_NoneType_list, kb_NoneType_tuple, kb_NoneType_dict, kb_bool_bool, kb_bool_int, kb_bool_str, kb_bool_list, kb_bool_tuple, kb_bool_dict, kb_int_bool, kb_int_int, kb_int_str, kb_int_list, kb_int_tuple, kb_int_dict, kb_str_bool, kb_str_int, kb_str_str, kb_str_list, kb_str_tuple, kb_str_dict, kb_list_bool, kb_list_int, kb_list_str, kb_list_list, kb_list_tuple, kb_list_dict, kb_tuple_bool, kb_tuple_int, kb_tuple_str, kb_tuple_list, kb_tuple_tuple, kb_tuple_dict, kb_dict_bool, kb_dict_int, kb_dict_str, kb_dict_list, kb_dict_tuple, kb_dict_dict]
  simpa [worldD] using hp
end
end L2.TL.K08

/-! text K08f -/
set_option Elab.async false
set_option linter.all false
set_option maxRecDepth 100000
set_option maxHeartbeats 4000000
namespace L2.TL.K08
open PySem PySem.Spec PyProof.Rows L2.TL
def bump (kvs : List (Int × Nat)) (v : Int) : List (Int × Nat) := if (kvs.any fun kv => decide (kv.1 = v)) = true then kvs.map (fun kv => if kv.1 = v then (kv.1, kv.2 + 1) else kv) else kvs ++ [(v, 1)]
def enc (kv : Int × Nat) : Key × D := (.inl kv.1, .int kv.2)
theorem lookupN_none {kvs : List (Int × Nat)} {v : Int} (h : (kvs.any fun kv => decide (kv.1 = v)) = false) : lookupN kvs v = 0 := by
  unfold lookupN
  rw [List.find?_eq_none.mpr]
  · rfl
  · intro kv hk
    have := List.any_eq_false.mp h kv hk
    simpa using this
theorem lookupN_cons (kv : Int × Nat) (kvs : List (Int × Nat)) (v : Int) : lookupN (kv :: kvs) v = if kv.1 = v then kv.2 else lookupN kvs v := by
  unfold lookupN
  rw [List.find?_cons]
  by_cases h : kv.1 = v
  · simp [h]
  · simp [h]
theorem lookupN_mem : ∀ {kvs : List (Int × Nat)} {kv : Int × Nat}, (kvs.map (·.1)).Nodup → kv ∈ kvs → lookupN kvs kv.1 = kv.2
  | a :: kvs, kv, nd, h => by
    rw [List.map_cons, List.nodup_cons] at nd
    rw [lookupN_cons]
    rcases List.mem_cons.mp h with rfl | h
    · rw [if_pos rfl]
    · rw [if_neg]
      · exact lookupN_mem nd.2 h
      · exact fun e => nd.1 (by rw [e]; exact List.mem_map.mpr ⟨kv, h, rfl⟩)
theorem bump_keys (kvs : List (Int × Nat)) (v : Int) : (bump kvs v).map (·.1) = if (kvs.any fun kv => decide (kv.1 = v)) = true then kvs.map (·.1) else kvs.map (·.1) ++ [v] := by
  unfold bump
  split
  · rw [List.map_map]
    refine List.map_congr_left fun kv _ => ?_
    simp only [Function.comp]
    split <;> rfl
  · rw [List.map_append]; rfl
theorem bump_nodup {kvs : List (Int × Nat)} {v : Int} (nd : (kvs.map (·.1)).Nodup) : ((bump kvs v).map (·.1)).Nodup := by
  rw [bump_keys]
  split
  · exact nd
  · rename_i h
    rw [List.nodup_append]
    refine ⟨nd, by simp, fun x hx y hy e => ?_⟩
    rw [List.mem_singleton] at hy
    subst hy; subst e
    obtain ⟨kv, hk, e⟩ := List.mem_map.mp hx
    exact h (List.any_eq_true.mpr ⟨kv, hk, by simpa using e⟩)
theorem lookupN_map (v u : Int) : ∀ kvs : List (Int × Nat), lookupN (kvs.map (fun kv => if kv.1 = v then (kv.1, kv.2 + 1) else kv)) u = if (kvs.any fun kv => decide (kv.1 = u)) = true then lookupN kvs u + (if u = v then 1 else 0) else 0
  | [] => rfl
  | kv :: kvs => by
    rw [List.map_cons, lookupN_cons, lookupN_cons, lookupN_map v u kvs, List.any_cons]
    by_cases h2 : kv.1 = u
    · rw [show decide (kv.1 = u) = true from decide_eq_true h2, Bool.true_or, if_pos rfl, if_pos h2]
      by_cases h1 : kv.1 = v
      · rw [if_pos h1, if_pos h2, if_pos (h2.symm.trans h1)]
      · rw [if_neg h1, if_pos h2, if_neg (fun e => h1 (h2.trans e)), Nat.add_zero]
    · rw [show decide (kv.1 = u) = false from decide_eq_false h2, Bool.false_or, if_neg h2]
      by_cases h1 : kv.1 = v
      · rw [if_pos h1, if_neg h2]
      · rw [if_neg h1, if_neg h2]
theorem lookupN_append (u v : Int) (n : Nat) : ∀ kvs : List (Int × Nat), lookupN (kvs ++ [(v, n)]) u = if (kvs.any fun kv => decide (kv.1 = u)) = true then lookupN kvs u else if v = u then n else 0
  | [] => by rw [List.nil_append, lookupN_cons]; rfl
  | kv :: kvs => by
    rw [List.cons_append, lookupN_cons, lookupN_cons, lookupN_append u v n kvs, List.any_cons]
    by_cases h2 : kv.1 = u
    · rw [show decide (kv.1 = u) = true from decide_eq_true h2, Bool.true_or, if_pos rfl, if_pos h2, if_pos h2]
    · rw [show decide (kv.1 = u) = false from decide_eq_false h2, Bool.false_or, if_neg h2, if_neg h2]
theorem lookupN_bump (kvs : List (Int × Nat)) (v u : Int) : lookupN (bump kvs v) u = lookupN kvs u + if u = v then 1 else 0 := by
  unfold bump
  by_cases h : (kvs.any fun kv => decide (kv.1 = v)) = true
  · rw [if_pos h, lookupN_map]
    by_cases hu : (kvs.any fun kv => decide (kv.1 = u)) = true
    · rw [if_pos hu]
    · rw [if_neg hu, lookupN_none (Bool.not_eq_true _ ▸ hu)]
      have : ¬ u = v := fun e => hu (by rw [e]; exact h)
      rw [if_neg this]
  · rw [if_neg h, lookupN_append]
    by_cases hu : (kvs.any fun kv => decide (kv.1 = u)) = true
    · rw [if_pos hu]
      have : ¬ u = v := fun e => h (by rw [← e]; exact hu)
      rw [if_neg this]; rfl
    · rw [if_neg hu, lookupN_none (Bool.not_eq_true _ ▸ hu)]
      by_cases e : v = u
      · rw [if_pos e, if_pos e.symm]
      · rw [if_neg e, if_neg (fun q => e q.symm)]
theorem any_enc (kvs : List (Int × Nat)) (v : Int) : ((kvs.map enc).any fun kv => decide (kv.1 = Sum.inl v)) = kvs.any fun kv => decide (kv.1 = v) := by
  rw [List.any_map]
  congr 1
  funext kv
  simp [enc]
theorem get_enc (v : Int) : ∀ kvs : List (Int × Nat), getKD (kvs.map enc) (Sum.inl v) = if (kvs.any fun kv => decide (kv.1 = v)) = true then some (.int (lookupN kvs v)) else none
  | [] => rfl
  | kv :: kvs => by
    have ih := get_enc v kvs
    unfold getKD at ih ⊢
    rw [List.map_cons, List.find?_cons, lookupN_cons, List.any_cons]
    by_cases h : kv.1 = v
    · simp [enc, h]
    · have : decide ((enc kv).1 = Sum.inl v) = false := by simp [enc, h]
      rw [this]
      simp only [h, decide_false, Bool.false_or, if_false]
      exact ih
theorem put_enc {kvs : List (Int × Nat)} {v : Int} (nd : (kvs.map (·.1)).Nodup) : putKD (kvs.map enc) (Sum.inl v) (.int ((lookupN kvs v + 1 : Nat))) = (bump kvs v).map enc := by
  unfold putKD bump
  rw [any_enc]
  split
  · rw [List.map_map, List.map_map]
    refine List.map_congr_left fun kv hk => ?_
    by_cases h : kv.1 = v
    · have := lookupN_mem nd hk
      rw [h] at this
      simp [enc, h, this]
    · simp [enc, h]
  · rename_i h
    rw [List.map_append, lookupN_none (Bool.not_eq_true _ ▸ h)]
    rfl
theorem bump_len (kvs : List (Int × Nat)) (v : Int) : (bump kvs v).length ≤ kvs.length + 1 := by
  unfold bump
  split
  · rw [List.length_map]; omega
  · rw [List.length_append]; simp
theorem cnt_snoc (rws : List (List Int)) (r : List Int) (c : Nat) (v : Int) : cnt (rws ++ [r]) c v = cnt rws c v + if v = r.getD c 0 then 1 else 0 := by
  unfold cnt
  rw [List.filter_append, List.length_append]
  congr 1
  by_cases h : r.getD c 0 = v
  · rw [List.filter_cons, if_pos (by simpa using h), if_pos h.symm]; rfl
  · rw [List.filter_cons, if_neg (by simpa using h), if_neg (fun q => h q.symm)]; rfl
section
variable {K : PySem.W.Frag} {mg : Str → Option Value} {CTable CWorld CSplit : Addr} {rs : List R} {os : Os} {P : R → Os → Prop} {PX : Er → Os → Prop}
theorem at_row {r : List Int} {c : Nat} (h : r.length = 2) (hc : c ≤ 1) : atI (r.map D.int) (c : Int) = some (.int (r.getD c 0)) := by
  match r, h with
  | [x, y], _ =>
    have : c = 0 ∨ c = 1 := by omega
    rcases this with rfl | rfl <;> rfl
theorem l_crowds (h : Φ_crowds K CTable CWorld CSplit rs os P PX) : w_crowds K CTable CWorld CSplit ⟨startR ["rows", "column", "found", "row"] rs, os⟩ (bodyPost os.length P PX) := by
  obtain ⟨rws, c, rfl, h2, hc, hl, hp⟩ := h
  simp [w_crowds, wFor, wRet, wRetN, wAndV, wOrV, wNotV, wF, wCons, wNil, wV, wC, o1, o2, fIsi, fLen, fAll, fInt, fAbs, fII, fTup, fList, startR, R.fz, R.val, isiD, clsD, clsL, tyD, insOk, bodyPost, wSeq, wNext, wIfS, wT, w2, oAdd, oSub, oI, oIc, oMulW, oDivW, oMod, oPow, oLt, oLe, oGt, oGe, oEq, wIsN, D.isNon, wChain, wIf, wFld, wTup, wLst, shs, wSet, wOwn, wPar, wPar3, wCall, wMake, wMeth, wExpr, wAsgE, geT, geCons, geNil, geF, putD, wAsgT, gT, gsCons, gsNil, gN, iSeq, iOne, iRng, iZip, wNeg, wAnd, wOr, wNot, seqD, shs, oIx, oIxA, oIn, inD, wPut, setD, wGet2, wNewD, wYes, noX, dcD, blsD, eqD, shD, toPy, toPyL, PyData.eqv, PyData.eqvAll, SeqAt.shaped, PyData.canLay0, PyData.canLayAll0, PyData.depth, PyData.depthAll, and_assoc, sz1, sz2, sz3, kit_self, lookup_hd, lookup_tl, Int.natCast_inj, show ((0 : Nat) : Int) = 0 from rfl, kb_NoneType_bool, kb_NoneType_int, kb_NoneType_str, kb_NoneType_list, kb_NoneType_tuple, kb_NoneType_dict, kb_bool_bool, kb_bool_int, kb_bool_str, kb_bool_list, kb_bool_tuple, kb_bool_dict, kb_int_bool, kb_int_int, kb_int_str, kb_int_list, kb_int_tuple, kb_int_dict, kb_str_bool, kb_str_int, kb_str_str, kb_str_list, kb_str_tuple, kb_str_dict, kb_list_bool, kb_list_int, kb_list_str, kb_list_list, kb_list_tuple, kb_list_dict, kb_tuple_bool, kb_tuple_int, kb_tuple_str, kb_tuple_list, kb_tuple_tuple, kb_tuple_dict, kb_dict_bool, kb_dict_int, kb_dict_str, kb_dict_list, kb_dict_tuple, kb_dict_dict]
  refine loop_inv (fun ds en => ∃ (done rest : List (List Int)) (kvs : List (Int × Nat)) (q : Option R), rws = done ++ rest ∧ ds = rest.map rowT ∧ en = ⟨[some (.sh (.tup (rws.map rowT))), some (.sh (.int c)), some (.ow os.length), q], os ++ [some (.dk (kvs.map enc))]⟩ ∧ (kvs.map (·.1)).Nodup ∧ (∀ v, lookupN kvs v = cnt done c v) ∧ kvs.length ≤ done.length) ?_ ?_ _ _
    ⟨[], rws, [], none, rfl, rfl, rfl, List.nodup_nil, fun v => rfl, Nat.le_refl _⟩
  · rintro en ⟨done, rest, kvs, q, e1, e2, rfl, nd, hk, hlen⟩
    have : rest = [] := by cases rest with | nil => rfl | cons _ _ => cases e2
    subst this
    rw [List.append_nil] at e1
    subst e1
    simp [wRet, wRetN, wAndV, wOrV, wNotV, wF, wCons, wNil, wV, wC, o1, o2, fIsi, fLen, fAll, fInt, fAbs, fII, fTup, fList, startR, R.fz, R.val, isiD, clsD, clsL, tyD, insOk, bodyPost, wSeq, wNext, wIfS, wT, w2, oAdd, oSub, oI, oIc, oMulW, oDivW, oMod, oPow, oLt, oLe, oGt, oGe, oEq, wIsN, D.isNon, wChain, wIf, wFld, wTup, wLst, shs, wSet, wOwn, wPar, wPar3, wCall, wMake, wMeth, wExpr, wAsgE, geT, geCons, geNil, geF, putD, wAsgT, gT, gsCons, gsNil, gN, iSeq, iOne, iRng, iZip, wNeg, wAnd, wOr, wNot, seqD, shs, oIx, oIxA, oIn, inD, wPut, setD, wGet2, wNewD, wYes, noX, dcD, blsD, eqD, shD, toPy, toPyL, PyData.eqv, PyData.eqvAll, SeqAt.shaped, PyData.canLay0, PyData.canLayAll0, PyData.depth, PyData.depthAll, and_assoc, sz1, sz2, sz3, kit_self, lookup_hd, lookup_tl, Int.natCast_inj, show ((0 : Nat) : Int) = 0 from rfl, kb_NoneType_bool, kb_NoneType_int, kb_NoneType_str, kb_NoneType_list, kb_NoneType_tuple, kb_NoneType_dict, kb_bool_bool, kb_bool_int, kb_bool_str, kb_bool_list, kb_bool_tuple, kb_bool_dict, kb_int_bool, kb_int_int, kb_int_str, kb_int_list, kb_int_tuple, kb_int_dict, kb_str_bool, kb_str_int, kb_str_str, kb_str_list, kb_str_tuple, kb_str_dict, kb_list_bool, kb_list_int, kb_list_str, kb_list_list, kb_list_tuple, kb_list_dict, kb_tuple_bool, kb_tuple_int, kb_tuple_str, kb_tuple_list, kb_tuple_tuple, kb_tuple_dict, kb_dict_bool, kb_dict_int, kb_dict_str, kb_dict_list, kb_dict_tuple, kb_dict_dict]
    exact hp kvs nd hk hlen
  · rintro d ds en ⟨done, rest, kvs, q, e1, e2, rfl, nd, hk, hlen⟩
    cases rest with
    | nil => cases e2
    | cons r rest =>
      simp only [List.map_cons, List.cons.injEq] at e2
      obtain ⟨rfl, rfl⟩ := e2
      have hr : r.length = 2 := h2 r (by rw [e1]; simp)
      have hl2 : kvs.length < sizeLine := by
        have : done.length ≤ rws.length := by rw [e1, List.length_append]; omega
        rw [sizeLine_eq]; omega
      refine ⟨_, rfl, fun N hN => ?_⟩
      have gk := get_enc (r.getD c 0) kvs
      have step : N ⟨[some (.sh (.tup (rws.map rowT))), some (.sh (.int c)), some (.ow os.length), some (.sh (rowT r))], os ++ [some (.dk ((bump kvs (r.getD c 0)).map enc))]⟩ :=
        hN _ ⟨done ++ [r], rest, bump kvs (r.getD c 0), _, by rw [e1]; simp, rfl, rfl, bump_nodup nd, fun v => by rw [lookupN_bump, hk, cnt_snoc], by
          have := bump_len kvs (r.getD c 0)
          rw [List.length_append, List.length_singleton]; omega⟩
      rw [← put_enc nd] at step
      have hat := at_row hr hc
      generalize r.getD c 0 = v at step gk hat
      cases hany : kvs.any fun kv => decide (kv.1 = v) with
      | true =>
        rw [hany, if_pos rfl] at gk
        simp only [rowT] at step ⊢
        simp [hat, getD2, keyD, gk, hl2, wRet, wRetN, wAndV, wOrV, wNotV, wF, wCons, wNil, wV, wC, o1, o2, fIsi, fLen, fAll, fInt, fAbs, fII, fTup, fList, startR, R.fz, R.val, isiD, clsD, clsL, tyD, insOk, bodyPost, wSeq, wNext, wIfS, wT, w2, oAdd, oSub, oI, oIc, oMulW, oDivW, oMod, oPow, oLt, oLe, oGt, oGe, oEq, wIsN, D.isNon, wChain, wIf, wFld, wTup, wLst, shs, wSet, wOwn, wPar, wPar3, wCall, wMake, wMeth, wExpr, wAsgE, geT, geCons, geNil, geF, putD, wAsgT, gT, gsCons, gsNil, gN, iSeq, iOne, iRng, iZip, wNeg, wAnd, wOr, wNot, seqD, shs, oIx, oIxA, oIn, inD, wPut, setD, wGet2, wNewD, wYes, noX, dcD, blsD, eqD, shD, toPy, toPyL, PyData.eqv, PyData.eqvAll, SeqAt.shaped, PyData.canLay0, PyData.canLayAll0, PyData.depth, PyData.depthAll, and_assoc, sz1, sz2, sz3, kit_self, lookup_hd, lookup_tl, Int.natCast_inj, show ((0 : Nat) : Int) = 0 from rfl, kb_NoneType_bool, kb_NoneType_int, kb_NoneType_str, kb_NoneType_list, kb_NoneType_tuple, kb_NoneType_dict, kb_bool_bool, kb_bool_int, kb_bool_str, kb_bool_list, kb_bool_tuple, kb_bool_dict, kb_int_bool, kb_int_int, kb_int_str, kb_int_list, kb_int_tuple, kb_int_dict, kb_str_bool, kb_str_int, kb_str_str, kb_str_list, kb_str_tuple, kb_str_dict, kb_list_bool, kb_list_int, kb_list_str, kb_list_list, kb_list_tuple, kb_list_dict, kb_tuple_bool, kb_tuple_int, kb_tuple_str, kb_tuple_list, kb_tuple_tuple, kb_tuple_dict, kb_dict_bool, kb_dict_int, kb_dict_str, kb_dict_list, kb_dict_tuple, kb_dict_dict]
        simpa using step
      | false =>
        rw [hany, if_neg Bool.false_ne_true] at gk
        rw [lookupN_none hany] at step
        simp only [rowT] at step ⊢
        simp [hat, getD2, keyD, gk, hl2, wRet, wRetN, wAndV, wOrV, wNotV, wF, wCons, wNil, wV, wC, o1, o2, fIsi, fLen, fAll, fInt, fAbs, fII, fTup, fList, startR, R.fz, R.val, isiD, clsD, clsL, tyD, insOk, bodyPost, wSeq, wNext, wIfS, wT, w2, oAdd, oSub, oI, oIc, oMulW, oDivW, oMod, oPow, oLt, oLe, oGt, oGe, oEq, wIsN, D.isNon, wChain, wIf, wFld, wTup, wLst, shs, wSet, wOwn, wPar, wPar3, wCall, wMake, wMeth, wExpr, wAsgE, geT, geCons, geNil, geF, putD, wAsgT, gT, gsCons, gsNil, gN, iSeq, iOne, iRng, iZip, wNeg, wAnd, wOr, wNot, seqD, shs, oIx, oIxA, oIn, inD, wPut, setD, wGet2, wNewD, wYes, noX, dcD, blsD, eqD, shD, toPy, toPyL, PyData.eqv, PyData.eqvAll, SeqAt.shaped, PyData.canLay0, PyData.canLayAll0, PyData.depth, PyData.depthAll, and_assoc, sz1, sz2, sz3, kit_self, lookup_hd, lookup_tl, Int.natCast_inj, show ((0 : Nat) : Int) = 0 from rfl, kb_NoneType_bool, kb_NoneType_int, kb_NoneType_str, kb_NoneType_list, kb_NoneType_tuple, kb_NoneType_dict, kb_bool_bool, kb_bool_int, kb_bool_str, kb_bool_list, kb_bool_tuple, kb_bool_dict, kb_int_bool, kb_int_int, kb_int_str, kb_int_list, kb_int_tuple, kb_int_dict, kb_str_bool, kb_str_int, kb_str_str, kb_str_list, kb_str_tuple, kb_str_dict, kb_list_bool, kb_list_int, kb_list_str, kb_list_list, kb_list_tuple, kb_list_dict, kb_tuple_bool, kb_tuple_int, kb_tuple_str, kb_tuple_list, kb_tuple_tuple, kb_tuple_dict, kb_dict_bool, kb_dict_int, kb_dict_str, kb_dict_list, kb_dict_tuple, kb_dict_dict]
        simpa using step
end
end L2.TL.K08

/-! text K08g -/
set_option Elab.async false
set_option linter.all false
set_option maxRecDepth 100000
set_option maxHeartbeats 4000000
namespace L2.TL.K08
open PySem PySem.Spec PyProof.Rows L2.TL
theorem cnt_le (rws : List (List Int)) (c : Nat) (v : Int) : cnt rws c v ≤ rws.length := List.length_filter_le ..
theorem cnt_pos {rws : List (List Int)} {c : Nat} {r : List Int} (h : r ∈ rws) : 0 < cnt rws c (r.getD c 0) := List.length_pos_of_mem (List.mem_filter.mpr ⟨h, by simp⟩)
theorem any_of_pos {kvs : List (Int × Nat)} {v : Int} (h : 0 < lookupN kvs v) : (kvs.any fun kv => decide (kv.1 = v)) = true := by
  cases e : kvs.any fun kv => decide (kv.1 = v) with
  | true => rfl
  | false => rw [lookupN_none e] at h; exact absurd h (Nat.lt_irrefl 0)
def encB (b base a : Nat) (kv : Int × Nat) : Key × D := (.inl kv.1, .bl (decide (kv.2 ^ b ≤ base ^ a)))
theorem get_encB {b base a : Nat} (v : Int) : ∀ kvs : List (Int × Nat), (kvs.any fun kv => decide (kv.1 = v)) = true → getKD (kvs.map (encB b base a)) (Sum.inl v) = some (.bl (decide (lookupN kvs v ^ b ≤ base ^ a)))
  | [], h => by cases h
  | kv :: kvs, h => by
    have ih := get_encB (b := b) (base := base) (a := a) v kvs
    unfold getKD at ih ⊢
    rw [List.map_cons, List.find?_cons, lookupN_cons]
    by_cases h1 : kv.1 = v
    · simp [encB, h1]
    · have : decide ((encB b base a kv).1 = Sum.inl v) = false := by simp [encB, h1]
      rw [this]
      rw [List.any_cons, decide_eq_false h1, Bool.false_or] at h
      simp only [h1, if_false]
      exact ih h
section
variable {K : PySem.W.Frag} {mg : Str → Option Value} {CTable CWorld CSplit : Addr} {rs : List R} {os : Os} {P : R → Os → Prop} {PX : Er → Os → Prop}
theorem l_parts_of (T : Txt K mg CTable CWorld CSplit) (h : Φ_parts_of K CTable CWorld CSplit rs os P PX) : w_parts_of K CTable CWorld CSplit ⟨startR ["rows", "split", "base", "many", "light", "value", "some", "few", "row"] rs, os⟩ (bodyPost os.length P PX) := by
  obtain ⟨rws, t, c, a, b, base, rfl, h2, hc, hl, ha, hb, hbase, hp⟩ := h
  simp only [splitD]
  simp [w_parts_of, T.k_Split, T.n_Split_column, lookup_tl ne_ct, wRet, wRetN, wAndV, wOrV, wNotV, wF, wCons, wNil, wV, wC, o1, o2, fIsi, fLen, fAll, fInt, fAbs, fII, fTup, fList, startR, R.fz, R.val, isiD, clsD, clsL, tyD, insOk, bodyPost, wSeq, wNext, wIfS, wT, w2, oAdd, oSub, oI, oIc, oMulW, oDivW, oMod, oPow, oLt, oLe, oGt, oGe, oEq, wIsN, D.isNon, wChain, wIf, wFld, wTup, wLst, shs, wSet, wOwn, wPar, wPar3, wCall, wMake, wMeth, wExpr, wAsgE, geT, geCons, geNil, geF, putD, wAsgT, gT, gsCons, gsNil, gN, iSeq, iOne, iRng, iZip, wNeg, wAnd, wOr, wNot, seqD, shs, oIx, oIxA, oIn, inD, wPut, setD, wGet2, wNewD, wYes, noX, dcD, blsD, eqD, shD, toPy, toPyL, PyData.eqv, PyData.eqvAll, SeqAt.shaped, PyData.canLay0, PyData.canLayAll0, PyData.depth, PyData.depthAll, and_assoc, sz1, sz2, sz3, kit_self, lookup_hd, lookup_tl, Int.natCast_inj, show ((0 : Nat) : Int) = 0 from rfl, kb_NoneType_bool, kb_NoneType_int, kb_NoneType_str, kb_NoneType_list, kb_NoneType_tuple, kb_NoneType_dict, kb_bool_bool, kb_bool_int, kb_bool_str, kb_bool_list, kb_bool_tuple, kb_bool_dict, kb_int_bool, kb_int_int, kb_int_str, kb_int_list, kb_int_tuple, kb_int_dict, kb_str_bool, kb_str_int, kb_str_str, kb_str_list, kb_str_tuple, kb_str_dict, kb_list_bool, kb_list_int, kb_list_str, kb_list_list, kb_list_tuple, kb_list_dict, kb_tuple_bool, kb_tuple_int, kb_tuple_str, kb_tuple_list, kb_tuple_tuple, kb_tuple_dict, kb_dict_bool, kb_dict_int, kb_dict_str, kb_dict_list, kb_dict_tuple, kb_dict_dict]
  refine ⟨rws, c, rfl, h2, hc, hl, fun kvs nd hk hlen => ?_⟩
  have hz : (kvs.map fun kv => ((.inl kv.1, .int kv.2) : Key × D)).length ≤ sizeLine := by rw [List.length_map, sizeLine_eq]; omega
  have ei : (kvs.map fun kv => ((.inl kv.1, .int kv.2) : Key × D)).map itemD = (kvs.map fun kv => (D.int kv.1, D.int (kv.2 : Int))).map fun p => .tup [p.1, p.2] := by
    rw [List.map_map, List.map_map]; rfl
  simp only [wSeq, wSet, wDc, iOne, wV, itemsD]
  simp [hz, ei, wipeR, restR, wRet, wRetN, wAndV, wOrV, wNotV, wF, wCons, wNil, wV, wC, o1, o2, fIsi, fLen, fAll, fInt, fAbs, fII, fTup, fList, startR, R.fz, R.val, isiD, clsD, clsL, tyD, insOk, bodyPost, wSeq, wNext, wIfS, wT, w2, oAdd, oSub, oI, oIc, oMulW, oDivW, oMod, oPow, oLt, oLe, oGt, oGe, oEq, wIsN, D.isNon, wChain, wIf, wFld, wTup, wLst, shs, wSet, wOwn, wPar, wPar3, wCall, wMake, wMeth, wExpr, wAsgE, geT, geCons, geNil, geF, putD, wAsgT, gT, gsCons, gsNil, gN, iSeq, iOne, iRng, iZip, wNeg, wAnd, wOr, wNot, seqD, shs, oIx, oIxA, oIn, inD, wPut, setD, wGet2, wNewD, wYes, noX, dcD, blsD, eqD, shD, toPy, toPyL, PyData.eqv, PyData.eqvAll, SeqAt.shaped, PyData.canLay0, PyData.canLayAll0, PyData.depth, PyData.depthAll, and_assoc, sz1, sz2, sz3, kit_self, lookup_hd, lookup_tl, Int.natCast_inj, show ((0 : Nat) : Int) = 0 from rfl, kb_NoneType_bool, kb_NoneType_int, kb_NoneType_str, kb_NoneType_list, kb_NoneType_tuple, kb_NoneType_dict, kb_bool_bool, kb_bool_int, kb_bool_str, kb_bool_list, kb_bool_tuple, kb_bool_dict, kb_int_bool, kb_int_int, kb_int_str, kb_int_list, kb_int_tuple, kb_int_dict, kb_str_bool, kb_str_int, kb_str_str, kb_str_list, kb_str_tuple, kb_str_dict, kb_list_bool, kb_list_int, kb_list_str, kb_list_list, kb_list_tuple, kb_list_dict, kb_tuple_bool, kb_tuple_int, kb_tuple_str, kb_tuple_list, kb_tuple_tuple, kb_tuple_dict, kb_dict_bool, kb_dict_int, kb_dict_str, kb_dict_list, kb_dict_tuple, kb_dict_dict]
  rw [if_pos (by rw [List.length_map] at hz; exact hz)]
  rw [← List.map_map]
  have hcnt : ∀ kv ∈ kvs, kv.2 ≤ 20000 := fun kv hm => by
    rw [← lookupN_mem nd hm, hk]; exact Nat.le_trans (cnt_le ..) hl
  refine dcL_map2 (fk := fun d => d.1) (fv := fun d => match d.2 with | .int n => .bl (decide (n.toNat ^ b ≤ base ^ a)) | _ => .non) (kk := fun d => match d.1 with | .int v => .inl v | _ => .inl 0) rfl (by decide) (fun d hd => ?_) (fun d hd P PX h => ?_) (fun d hd P PX h => ?_) ?_
  · obtain ⟨kv, hm, rfl⟩ := List.mem_map.mp hd
    rfl
  · simpa [wRet, wRetN, wAndV, wOrV, wNotV, wF, wCons, wNil, wV, wC, o1, o2, fIsi, fLen, fAll, fInt, fAbs, fII, fTup, fList, startR, R.fz, R.val, isiD, clsD, clsL, tyD, insOk, bodyPost, wSeq, wNext, wIfS, wT, w2, oAdd, oSub, oI, oIc, oMulW, oDivW, oMod, oPow, oLt, oLe, oGt, oGe, oEq, wIsN, D.isNon, wChain, wIf, wFld, wTup, wLst, shs, wSet, wOwn, wPar, wPar3, wCall, wMake, wMeth, wExpr, wAsgE, geT, geCons, geNil, geF, putD, wAsgT, gT, gsCons, gsNil, gN, iSeq, iOne, iRng, iZip, wNeg, wAnd, wOr, wNot, seqD, shs, oIx, oIxA, oIn, inD, wPut, setD, wGet2, wNewD, wYes, noX, dcD, blsD, eqD, shD, toPy, toPyL, PyData.eqv, PyData.eqvAll, SeqAt.shaped, PyData.canLay0, PyData.canLayAll0, PyData.depth, PyData.depthAll, and_assoc, sz1, sz2, sz3, kit_self, lookup_hd, lookup_tl, Int.natCast_inj, show ((0 : Nat) : Int) = 0 from rfl, kb_NoneType_bool, kb_NoneType_int, kb_NoneType_str, kb_NoneType_list, kb_NoneType_tuple, kb_NoneType_dict, kb_bool_bool, kb_bool_int, kb_bool_str, kb_bool_list, kb_bool_tuple, kb_bool_dict, kb_int_bool, kb_int_int, kb_int_str, kb_int_list, kb_int_tuple, kb_int_dict, kb_str_bool, kb_str_int, kb_str_str, kb_str_list, kb_str_tuple, kb_str_dict, kb_list_bool, kb_list_int, kb_list_str, kb_list_list, kb_list_tuple, kb_list_dict, kb_tuple_bool, kb_tuple_int, kb_tuple_str, kb_tuple_list, kb_tuple_tuple, kb_tuple_dict, kb_dict_bool, kb_dict_int, kb_dict_str, kb_dict_list, kb_dict_tuple, kb_dict_dict] using h
  · obtain ⟨kv, hm, rfl⟩ := List.mem_map.mp hd
    simp [T.k_Split, T.n_Split_threshold, lookup_tl ne_tt, lookup_tl ne_tc, wRet, wRetN, wAndV, wOrV, wNotV, wF, wCons, wNil, wV, wC, o1, o2, fIsi, fLen, fAll, fInt, fAbs, fII, fTup, fList, startR, R.fz, R.val, isiD, clsD, clsL, tyD, insOk, bodyPost, wSeq, wNext, wIfS, wT, w2, oAdd, oSub, oI, oIc, oMulW, oDivW, oMod, oPow, oLt, oLe, oGt, oGe, oEq, wIsN, D.isNon, wChain, wIf, wFld, wTup, wLst, shs, wSet, wOwn, wPar, wPar3, wCall, wMake, wMeth, wExpr, wAsgE, geT, geCons, geNil, geF, putD, wAsgT, gT, gsCons, gsNil, gN, iSeq, iOne, iRng, iZip, wNeg, wAnd, wOr, wNot, seqD, shs, oIx, oIxA, oIn, inD, wPut, setD, wGet2, wNewD, wYes, noX, dcD, blsD, eqD, shD, toPy, toPyL, PyData.eqv, PyData.eqvAll, SeqAt.shaped, PyData.canLay0, PyData.canLayAll0, PyData.depth, PyData.depthAll, and_assoc, sz1, sz2, sz3, kit_self, lookup_hd, lookup_tl, Int.natCast_inj, show ((0 : Nat) : Int) = 0 from rfl, kb_NoneType_bool, kb_NoneType_int, kb_NoneType_str, kb_NoneType_list, kb_NoneType_tuple, kb_NoneType_dict, kb_bool_bool, kb_bool_int, kb_bool_str, kb_bool_list, kb_bool_tuple, kb_bool_dict, kb_int_bool, kb_int_int, kb_int_str, kb_int_list, kb_int_tuple, kb_int_dict, kb_str_bool, kb_str_int, kb_str_str, kb_str_list, kb_str_tuple, kb_str_dict, kb_list_bool, kb_list_int, kb_list_str, kb_list_list, kb_list_tuple, kb_list_dict, kb_tuple_bool, kb_tuple_int, kb_tuple_str, kb_tuple_list, kb_tuple_tuple, kb_tuple_dict, kb_dict_bool, kb_dict_int, kb_dict_str, kb_dict_list, kb_dict_tuple, kb_dict_dict]
    refine ⟨kv.2, base, a, b, rfl, by have := hcnt kv hm; omega, by omega, ha, hb, ?_⟩
    simpa using h
  rw [fold_put]
  · have el : ([] : List (Key × D)) ++ ((kvs.map fun kv => (D.int kv.1, D.int (kv.2 : Int))).map fun d => ((match d.1 with | .int v => (.inl v : Key) | _ => .inl 0), (match d.2 with | .int n => D.bl (decide (n.toNat ^ b ≤ base ^ a)) | _ => .non))) = kvs.map (encB b base a) := by
      rw [List.nil_append, List.map_map]; rfl
    rw [el]
    have pr : ∀ r ∈ rws, getKD (kvs.map (encB b base a)) (Sum.inl (r.getD c 0)) = some (.bl (decide (cnt rws c (r.getD c 0) ^ b ≤ base ^ a))) := fun r hr => by
      rw [get_encB _ _ (any_of_pos (by rw [hk]; exact cnt_pos hr)), hk]
    have pf : ∀ (g : Bool → Bool), ((rws.map rowT).filter fun d => match d with | .tup xs => (match atI xs (c : Int) with | some (.int v) => g (decide (cnt rws c v ^ b ≤ base ^ a)) | _ => false) | _ => false).map id = (rws.filter fun r => g (lightR rws c a b base r)).map rowT := fun g => by
      rw [List.map_id, List.filter_map]
      congr 1
      refine List.filter_congr fun r hr => ?_
      simp only [Function.comp, rowT, at_row (h2 r hr) hc]; rfl
    simp [wLc, wipeR, restR, wRet, wRetN, wAndV, wOrV, wNotV, wF, wCons, wNil, wV, wC, o1, o2, fIsi, fLen, fAll, fInt, fAbs, fII, fTup, fList, startR, R.fz, R.val, isiD, clsD, clsL, tyD, insOk, bodyPost, wSeq, wNext, wIfS, wT, w2, oAdd, oSub, oI, oIc, oMulW, oDivW, oMod, oPow, oLt, oLe, oGt, oGe, oEq, wIsN, D.isNon, wChain, wIf, wFld, wTup, wLst, shs, wSet, wOwn, wPar, wPar3, wCall, wMake, wMeth, wExpr, wAsgE, geT, geCons, geNil, geF, putD, wAsgT, gT, gsCons, gsNil, gN, iSeq, iOne, iRng, iZip, wNeg, wAnd, wOr, wNot, seqD, shs, oIx, oIxA, oIn, inD, wPut, setD, wGet2, wNewD, wYes, noX, dcD, blsD, eqD, shD, toPy, toPyL, PyData.eqv, PyData.eqvAll, SeqAt.shaped, PyData.canLay0, PyData.canLayAll0, PyData.depth, PyData.depthAll, and_assoc, sz1, sz2, sz3, kit_self, lookup_hd, lookup_tl, Int.natCast_inj, show ((0 : Nat) : Int) = 0 from rfl, kb_NoneType_bool, kb_NoneType_int, kb_NoneType_str, kb_NoneType_list, kb_NoneType_tuple, kb_NoneType_dict, kb_bool_bool, kb_bool_int, kb_bool_str, kb_bool_list, kb_bool_tuple, kb_bool_dict, kb_int_bool, kb_int_int, kb_int_str, kb_int_list, kb_int_tuple, kb_int_dict, kb_str_bool, kb_str_int, kb_str_str, kb_str_list, kb_str_tuple, kb_str_dict, kb_list_bool, kb_list_int, kb_list_str, kb_list_list, kb_list_tuple, kb_list_dict, kb_tuple_bool, kb_tuple_int, kb_tuple_str, kb_tuple_list, kb_tuple_tuple, kb_tuple_dict, kb_dict_bool, kb_dict_int, kb_dict_str, kb_dict_list, kb_dict_tuple, kb_dict_dict]
    refine lcL_fm (p := fun d => match d with | .tup xs => (match atI xs (c : Int) with | some (.int v) => decide (cnt rws c v ^ b ≤ base ^ a) | _ => false) | _ => false) (f := id) rfl _ _ (fun d hd P PX h => ?_) (fun d hd _ P PX h => ?_) ?_
    · obtain ⟨r, hr, rfl⟩ := List.mem_map.mp hd
      have e1 := pr r hr
      have e2 := at_row (h2 r hr) hc
      simp only [rowT] at h ⊢
      generalize r.getD c 0 = v at e1 e2
      simp [e2, getD2, keyD, e1, T.k_Split, T.n_Split_column, lookup_tl ne_ct, wRet, wRetN, wAndV, wOrV, wNotV, wF, wCons, wNil, wV, wC, o1, o2, fIsi, fLen, fAll, fInt, fAbs, fII, fTup, fList, startR, R.fz, R.val, isiD, clsD, clsL, tyD, insOk, bodyPost, wSeq, wNext, wIfS, wT, w2, oAdd, oSub, oI, oIc, oMulW, oDivW, oMod, oPow, oLt, oLe, oGt, oGe, oEq, wIsN, D.isNon, wChain, wIf, wFld, wTup, wLst, shs, wSet, wOwn, wPar, wPar3, wCall, wMake, wMeth, wExpr, wAsgE, geT, geCons, geNil, geF, putD, wAsgT, gT, gsCons, gsNil, gN, iSeq, iOne, iRng, iZip, wNeg, wAnd, wOr, wNot, seqD, shs, oIx, oIxA, oIn, inD, wPut, setD, wGet2, wNewD, wYes, noX, dcD, blsD, eqD, shD, toPy, toPyL, PyData.eqv, PyData.eqvAll, SeqAt.shaped, PyData.canLay0, PyData.canLayAll0, PyData.depth, PyData.depthAll, and_assoc, sz1, sz2, sz3, kit_self, lookup_hd, lookup_tl, Int.natCast_inj, show ((0 : Nat) : Int) = 0 from rfl, kb_NoneType_bool, kb_NoneType_int, kb_NoneType_str, kb_NoneType_list, kb_NoneType_tuple, kb_NoneType_dict, kb_bool_bool, kb_bool_int, kb_bool_str, kb_bool_list, kb_bool_tuple, kb_bool_dict, kb_int_bool, kb_int_int, kb_int_str, kb_int_list, kb_int_tuple, kb_int_dict, kb_str_bool, kb_str_int, kb_str_str, kb_str_list, kb_str_tuple, kb_str_dict, kb_list_bool, kb_list_int, kb_list_str, kb_list_list, kb_list_tuple, kb_list_dict, kb_tuple_bool, kb_tuple_int, kb_tuple_str, kb_tuple_list, kb_tuple_tuple, kb_tuple_dict, kb_dict_bool, kb_dict_int, kb_dict_str, kb_dict_list, kb_dict_tuple, kb_dict_dict]
      rw [e2] at h
      simpa using h
    · simpa [wRet, wRetN, wAndV, wOrV, wNotV, wF, wCons, wNil, wV, wC, o1, o2, fIsi, fLen, fAll, fInt, fAbs, fII, fTup, fList, startR, R.fz, R.val, isiD, clsD, clsL, tyD, insOk, bodyPost, wSeq, wNext, wIfS, wT, w2, oAdd, oSub, oI, oIc, oMulW, oDivW, oMod, oPow, oLt, oLe, oGt, oGe, oEq, wIsN, D.isNon, wChain, wIf, wFld, wTup, wLst, shs, wSet, wOwn, wPar, wPar3, wCall, wMake, wMeth, wExpr, wAsgE, geT, geCons, geNil, geF, putD, wAsgT, gT, gsCons, gsNil, gN, iSeq, iOne, iRng, iZip, wNeg, wAnd, wOr, wNot, seqD, shs, oIx, oIxA, oIn, inD, wPut, setD, wGet2, wNewD, wYes, noX, dcD, blsD, eqD, shD, toPy, toPyL, PyData.eqv, PyData.eqvAll, SeqAt.shaped, PyData.canLay0, PyData.canLayAll0, PyData.depth, PyData.depthAll, and_assoc, sz1, sz2, sz3, kit_self, lookup_hd, lookup_tl, Int.natCast_inj, show ((0 : Nat) : Int) = 0 from rfl, kb_NoneType_bool, kb_NoneType_int, kb_NoneType_str, kb_NoneType_list, kb_NoneType_tuple, kb_NoneType_dict, kb_bool_bool, kb_bool_int, kb_bool_str, kb_bool_list, kb_bool_tuple, kb_bool_dict, kb_int_bool, kb_int_int, kb_int_str, kb_int_list, kb_int_tuple, kb_int_dict, kb_str_bool, kb_str_int, kb_str_str, kb_str_list, kb_str_tuple, kb_str_dict, kb_list_bool, kb_list_int, kb_list_str, kb_list_list, kb_list_tuple, kb_list_dict, kb_tuple_bool, kb_tuple_int, kb_tuple_str, kb_tuple_list, kb_tuple_tuple, kb_tuple_dict, kb_dict_bool, kb_dict_int, kb_dict_str, kb_dict_list, kb_dict_tuple, kb_dict_dict] using h
    · have e3 := pf id
      simp only [id] at e3
      rw [List.nil_append]
      simp only [show ∀ l : List D, l.map id = l from List.map_id] at e3 ⊢
      rw [e3]
      simp [wLc, wipeR, restR, wRet, wRetN, wAndV, wOrV, wNotV, wF, wCons, wNil, wV, wC, o1, o2, fIsi, fLen, fAll, fInt, fAbs, fII, fTup, fList, startR, R.fz, R.val, isiD, clsD, clsL, tyD, insOk, bodyPost, wSeq, wNext, wIfS, wT, w2, oAdd, oSub, oI, oIc, oMulW, oDivW, oMod, oPow, oLt, oLe, oGt, oGe, oEq, wIsN, D.isNon, wChain, wIf, wFld, wTup, wLst, shs, wSet, wOwn, wPar, wPar3, wCall, wMake, wMeth, wExpr, wAsgE, geT, geCons, geNil, geF, putD, wAsgT, gT, gsCons, gsNil, gN, iSeq, iOne, iRng, iZip, wNeg, wAnd, wOr, wNot, seqD, shs, oIx, oIxA, oIn, inD, wPut, setD, wGet2, wNewD, wYes, noX, dcD, blsD, eqD, shD, toPy, toPyL, PyData.eqv, PyData.eqvAll, SeqAt.shaped, PyData.canLay0, PyData.canLayAll0, PyData.depth, PyData.depthAll, and_assoc, sz1, sz2, sz3, kit_self, lookup_hd, lookup_tl, Int.natCast_inj, show ((0 : Nat) : Int) = 0 from rfl, kb_NoneType_bool, kb_NoneType_int, kb_NoneType_str, kb_NoneType_list, kb_NoneType_tuple, kb_NoneType_dict, kb_bool_bool, kb_bool_int, kb_bool_str, kb_bool_list, kb_bool_tuple, kb_bool_dict, kb_int_bool, kb_int_int, kb_int_str, kb_int_list, kb_int_tuple, kb_int_dict, kb_str_bool, kb_str_int, kb_str_str, kb_str_list, kb_str_tuple, kb_str_dict, kb_list_bool, kb_list_int, kb_list_str, kb_list_list, kb_list_tuple, kb_list_dict, kb_tuple_bool, kb_tuple_int, kb_tuple_str, kb_tuple_list, kb_tuple_tuple, kb_tuple_dict, kb_dict_bool, kb_dict_int, kb_dict_str, kb_dict_list, kb_dict_tuple, kb_dict_dict]
      refine lcL_fm (p := fun d => match d with | .tup xs => (match atI xs (c : Int) with | some (.int v) => !decide (cnt rws c v ^ b ≤ base ^ a) | _ => false) | _ => false) (f := id) rfl _ _ (fun d hd P PX h => ?_) (fun d hd _ P PX h => ?_) ?_
      · obtain ⟨r, hr, rfl⟩ := List.mem_map.mp hd
        have e1 := pr r hr
        have e2 := at_row (h2 r hr) hc
        simp only [rowT] at h ⊢
        generalize r.getD c 0 = v at e1 e2
        simp [e2, getD2, keyD, e1, T.k_Split, T.n_Split_column, lookup_tl ne_ct, wRet, wRetN, wAndV, wOrV, wNotV, wF, wCons, wNil, wV, wC, o1, o2, fIsi, fLen, fAll, fInt, fAbs, fII, fTup, fList, startR, R.fz, R.val, isiD, clsD, clsL, tyD, insOk, bodyPost, wSeq, wNext, wIfS, wT, w2, oAdd, oSub, oI, oIc, oMulW, oDivW, oMod, oPow, oLt, oLe, oGt, oGe, oEq, wIsN, D.isNon, wChain, wIf, wFld, wTup, wLst, shs, wSet, wOwn, wPar, wPar3, wCall, wMake, wMeth, wExpr, wAsgE, geT, geCons, geNil, geF, putD, wAsgT, gT, gsCons, gsNil, gN, iSeq, iOne, iRng, iZip, wNeg, wAnd, wOr, wNot, seqD, shs, oIx, oIxA, oIn, inD, wPut, setD, wGet2, wNewD, wYes, noX, dcD, blsD, eqD, shD, toPy, toPyL, PyData.eqv, PyData.eqvAll, SeqAt.shaped, PyData.canLay0, PyData.canLayAll0, PyData.depth, PyData.depthAll, and_assoc, sz1, sz2, sz3, kit_self, lookup_hd, lookup_tl, Int.natCast_inj, show ((0 : Nat) : Int) = 0 from rfl, kb_NoneType_bool, kb_NoneType_int, kb_NoneType_str, kb_NoneType_list, kb_NoneType_tuple, kb_NoneType_dict, kb_bool_bool, kb_bool_int, kb_bool_str, kb_bool_list, kb_bool_tuple, kb_bool_dict, kb_int_bool, kb_int_int, kb_int_str, kb_int_list, kb_int_tuple, kb_int_dict, kb_str_bool, kb_str_int, kb_str_str, kb_str_list, kb_str_tuple, kb_str_dict, kb_list_bool, kb_list_int, kb_list_str, kb_list_list, kb_list_tuple, kb_list_dict, kb_tuple_bool, kb_tuple_int, kb_tuple_str, kb_tuple_list, kb_tuple_tuple, kb_tuple_dict, kb_dict_bool, kb_dict_int, kb_dict_str, kb_dict_list, kb_dict_tuple, kb_dict_dict]
        rw [e2] at h
        simpa using h
      · simpa [wRet, wRetN, wAndV, wOrV, wNotV, wF, wCons, wNil, wV, wC, o1, o2, fIsi, fLen, fAll, fInt, fAbs, fII, fTup, fList, startR, R.fz, R.val, isiD, clsD, clsL, tyD, insOk, bodyPost, wSeq, wNext, wIfS, wT, w2, oAdd, oSub, oI, oIc, oMulW, oDivW, oMod, oPow, oLt, oLe, oGt, oGe, oEq, wIsN, D.isNon, wChain, wIf, wFld, wTup, wLst, shs, wSet, wOwn, wPar, wPar3, wCall, wMake, wMeth, wExpr, wAsgE, geT, geCons, geNil, geF, putD, wAsgT, gT, gsCons, gsNil, gN, iSeq, iOne, iRng, iZip, wNeg, wAnd, wOr, wNot, seqD, shs, oIx, oIxA, oIn, inD, wPut, setD, wGet2, wNewD, wYes, noX, dcD, blsD, eqD, shD, toPy, toPyL, PyData.eqv, PyData.eqvAll, SeqAt.shaped, PyData.canLay0, PyData.canLayAll0, PyData.depth, PyData.depthAll, and_assoc, sz1, sz2, sz3, kit_self, lookup_hd, lookup_tl, Int.natCast_inj, show ((0 : Nat) : Int) = 0 from rfl, kb_NoneType_bool, kb_NoneType_int, kb_NoneType_str, kb_NoneType_list, kb_NoneType_tuple, kb_NoneType_dict, kb_bool_bool, kb_bool_int, kb_bool_str, kb_bool_list, kb_bool_tuple, kb_bool_dict, kb_int_bool, kb_int_int, kb_int_str, kb_int_list, kb_int_tuple, kb_int_dict, kb_str_bool, kb_str_int, kb_str_str, kb_str_list, kb_str_tuple, kb_str_dict, kb_list_bool, kb_list_int, kb_list_str, kb_list_list, kb_list_tuple, kb_list_dict, kb_tuple_bool, kb_tuple_int, kb_tuple_str, kb_tuple_list, kb_tuple_tuple, kb_tuple_dict, kb_dict_bool, kb_dict_int, kb_dict_str, kb_dict_list, kb_dict_tuple, kb_dict_dict] using h
      · have e4 := pf (fun x => !x)
        rw [List.nil_append]
        simp only [show ∀ l : List D, l.map id = l from List.map_id] at e4 ⊢
        rw [e4]
        simpa [wRet, wRetN, wAndV, wOrV, wNotV, wF, wCons, wNil, wV, wC, o1, o2, fIsi, fLen, fAll, fInt, fAbs, fII, fTup, fList, startR, R.fz, R.val, isiD, clsD, clsL, tyD, insOk, bodyPost, wSeq, wNext, wIfS, wT, w2, oAdd, oSub, oI, oIc, oMulW, oDivW, oMod, oPow, oLt, oLe, oGt, oGe, oEq, wIsN, D.isNon, wChain, wIf, wFld, wTup, wLst, shs, wSet, wOwn, wPar, wPar3, wCall, wMake, wMeth, wExpr, wAsgE, geT, geCons, geNil, geF, putD, wAsgT, gT, gsCons, gsNil, gN, iSeq, iOne, iRng, iZip, wNeg, wAnd, wOr, wNot, seqD, shs, oIx, oIxA, oIn, inD, wPut, setD, wGet2, wNewD, wYes, noX, dcD, blsD, eqD, shD, toPy, toPyL, PyData.eqv, PyData.eqvAll, SeqAt.shaped, PyData.canLay0, PyData.canLayAll0, PyData.depth, PyData.depthAll, and_assoc, sz1, sz2, sz3, kit_self, lookup_hd, lookup_tl, Int.natCast_inj, show ((0 : Nat) : Int) = 0 from rfl, kb_NoneType_bool, kb_NoneType_int, kb_NoneType_str, kb_NoneType_list, kb_NoneType_tuple, kb_NoneType_dict, kb_bool_bool, kb_bool_int, kb_bool_str, kb_bool_list, kb_bool_tuple, kb_bool_dict, kb_int_bool, kb_int_int, kb_int_str, kb_int_list, kb_int_tuple, kb_int_dict, kb_str_bool, kb_str_int, kb_str_str, kb_str_list, kb_str_tuple, kb_str_dict, kb_list_bool, kb_list_int, kb_list_str, kb_list_list, kb_list_tuple, kb_list_dict, kb_tuple_bool, kb_tuple_int, kb_tuple_str, kb_tuple_list, kb_tuple_tuple, kb_tuple_dict, kb_dict_bool, kb_dict_int, kb_dict_str, kb_dict_list, kb_dict_tuple, kb_dict_dict] using hp
  · rw [List.map_map]
    have q := List.Pairwise.map (S := fun x y : Key => x ≠ y) (fun v : Int => (Sum.inl v : Key)) (fun a b hab e => hab (Sum.inl.inj e)) nd
    rw [List.map_map] at q
    exact q
  · intro d _ a ha; cases ha
end
end L2.TL.K08

/-! text K08h -/
set_option Elab.async false
set_option linter.all false
set_option maxRecDepth 100000
set_option maxHeartbeats 4000000
namespace L2.TL.K08
open PySem PySem.Spec PyProof.Rows L2.TL
theorem at0 {α : Type} (x y z : α) : atI [x, y, z] 0 = some x := rfl
theorem at1 {α : Type} (x y z : α) : atI [x, y, z] 1 = some y := rfl
theorem at2 {α : Type} (x y z : α) : atI [x, y, z] 2 = some z := rfl
theorem ix1 : ixN 3 1 = some 1 := rfl
theorem ix2 : ixN 3 2 = some 2 := rfl
theorem ne_nil_int (cells : List Int) : PyData.eqvAll (toPyL (cells.map D.int)) [] = cells.isEmpty := by
  cases cells with
  | nil => rfl
  | cons v r => rfl
theorem at_nat (xs : List D) (j : Nat) (h : j < xs.length) : atI xs (j : Int) = some xs[j] := by simp [atI, ixN, h]
theorem seq_of {w v : WSx} {en : En} {P : Post} (J : En → Prop) (h1 : ∀ N : En → Prop, (∀ en, J en → N en) → w en { P with nx := N }) (h2 : ∀ en, J en → v en P) : wSeq w v en P := h1 _ h2
section
variable {K : PySem.W.Frag} {mg : Str → Option Value} {CTable CWorld CSplit : Addr} {rs : List R} {os : Os} {P : R → Os → Prop} {PX : Er → Os → Prop}
theorem l__law_draw (h : Φ__law_draw K CTable CWorld CSplit rs os P PX) : w__law_draw K CTable CWorld CSplit ⟨startR ["pen", "many", "rest", "at", "cell", "mixed"] rs, os⟩ (bodyPost os.length P PX) := by
  obtain ⟨k, cells, at', rest, many, rfl, ho, hc, ha, h1, h2, hp⟩ := h
  have hcd : ∀ x : Int, CDivW x (many : Int) := fun x => cdW (by omega) (by omega)
  have hm0 : (0 : Int) < (many : Int) := by omega
  have hsa : ∀ x, (os.set k (some x))[k]? = some (some x) := fun x => set_at ho
  have fin : ∀ (x : Int) (at2 : Nat) (r2 : Int), 0 ≤ r2 → at2 ≤ at' + 1 → P (.sh (.int (x % (many : Int)))) (os.set k (some (.lst [.lst (cells.map .int), .int at2, .int r2]))) := fun x at2 r2 h0 h3 => by
    have e1 : x % (many : Int) = ((x % (many : Int)).toNat : Int) := by
      have := Int.emod_nonneg x (show (many : Int) ≠ 0 by omega); omega
    have e2 : r2 = (r2.toNat : Int) := by omega
    rw [e1, e2]
    refine hp _ at2 _ ?_ h3
    have := Int.emod_lt_of_pos x hm0
    have := Int.emod_nonneg x (show (many : Int) ≠ 0 by omega)
    omega
  simp only [penD] at ho
  have st0 : startR ["pen", "many", "rest", "at", "cell", "mixed"] [R.ow k, .sh (.int many)] = [some (.ow k), some (.sh (.int many)), none, none, none, none] := rfl
  rw [st0]
  unfold w__law_draw
  refine seq_of (fun en => en = ⟨[some (.ow k), some (.sh (.int many)), none, none, none, none], os⟩) (fun N hN => ?_) ?_
  · cases e0 : decide (0 < rest) with
    | true =>
      simp [ho, at2, e0, wRet, wRetN, wAndV, wOrV, wNotV, wF, wCons, wNil, wV, wC, o1, o2, fIsi, fLen, fAll, fInt, fAbs, fII, fTup, fList, startR, R.fz, R.val, isiD, clsD, clsL, tyD, insOk, bodyPost, wSeq, wNext, wIfS, wT, w2, oAdd, oSub, oI, oIc, oMulW, oDivW, oMod, oPow, oLt, oLe, oGt, oGe, oEq, wIsN, D.isNon, wChain, wIf, wFld, wTup, wLst, shs, wSet, wOwn, wPar, wPar3, wCall, wMake, wMeth, wExpr, wAsgE, geT, geCons, geNil, geF, putD, wAsgT, gT, gsCons, gsNil, gN, iSeq, iOne, iRng, iZip, wNeg, wAnd, wOr, wNot, seqD, shs, oIx, oIxA, oIn, inD, wPut, setD, wGet2, wNewD, wYes, noX, dcD, blsD, eqD, shD, toPy, toPyL, PyData.eqv, PyData.eqvAll, SeqAt.shaped, PyData.canLay0, PyData.canLayAll0, PyData.depth, PyData.depthAll, and_assoc, sz1, sz2, sz3, kit_self, lookup_hd, lookup_tl, Int.natCast_inj, show ((0 : Nat) : Int) = 0 from rfl, kb_NoneType_bool, kb_NoneType_int, kb_NoneType_str, kb_NoneType_list, kb_NoneType_tuple, kb_NoneType_dict, kb_bool_bool, kb_bool_int, kb_bool_str, kb_bool_list, kb_bool_tuple, kb_bool_dict, kb_int_bool, kb_int_int, kb_int_str, kb_int_list, kb_int_tuple, kb_int_dict, kb_str_bool, kb_str_int, kb_str_str, kb_str_list, kb_str_tuple, kb_str_dict, kb_list_bool, kb_list_int, kb_list_str, kb_list_list, kb_list_tuple, kb_list_dict, kb_tuple_bool, kb_tuple_int, kb_tuple_str, kb_tuple_list, kb_tuple_tuple, kb_tuple_dict, kb_dict_bool, kb_dict_int, kb_dict_str, kb_dict_list, kb_dict_tuple, kb_dict_dict]
      simp [ho, hsa, ix2, hcd, hm0, take_set, wRet, wRetN, wAndV, wOrV, wNotV, wF, wCons, wNil, wV, wC, o1, o2, fIsi, fLen, fAll, fInt, fAbs, fII, fTup, fList, startR, R.fz, R.val, isiD, clsD, clsL, tyD, insOk, bodyPost, wSeq, wNext, wIfS, wT, w2, oAdd, oSub, oI, oIc, oMulW, oDivW, oMod, oPow, oLt, oLe, oGt, oGe, oEq, wIsN, D.isNon, wChain, wIf, wFld, wTup, wLst, shs, wSet, wOwn, wPar, wPar3, wCall, wMake, wMeth, wExpr, wAsgE, geT, geCons, geNil, geF, putD, wAsgT, gT, gsCons, gsNil, gN, iSeq, iOne, iRng, iZip, wNeg, wAnd, wOr, wNot, seqD, shs, oIx, oIxA, oIn, inD, wPut, setD, wGet2, wNewD, wYes, noX, dcD, blsD, eqD, shD, toPy, toPyL, PyData.eqv, PyData.eqvAll, SeqAt.shaped, PyData.canLay0, PyData.canLayAll0, PyData.depth, PyData.depthAll, and_assoc, sz1, sz2, sz3, kit_self, lookup_hd, lookup_tl, Int.natCast_inj, show ((0 : Nat) : Int) = 0 from rfl, kb_NoneType_bool, kb_NoneType_int, kb_NoneType_str, kb_NoneType_list, kb_NoneType_tuple, kb_NoneType_dict, kb_bool_bool, kb_bool_int, kb_bool_str, kb_bool_list, kb_bool_tuple, kb_bool_dict, kb_int_bool, kb_int_int, kb_int_str, kb_int_list, kb_int_tuple, kb_int_dict, kb_str_bool, kb_str_int, kb_str_str, kb_str_list, kb_str_tuple, kb_str_dict, kb_list_bool, kb_list_int, kb_list_str, kb_list_list, kb_list_tuple, kb_list_dict, kb_tuple_bool, kb_tuple_int, kb_tuple_str, kb_tuple_list, kb_tuple_tuple, kb_tuple_dict, kb_dict_bool, kb_dict_int, kb_dict_str, kb_dict_list, kb_dict_tuple, kb_dict_dict]
      have := fin rest at' ((rest : Int) / (many : Int)) (Int.ediv_nonneg (by omega) (by omega)) (by omega)
      refine ⟨by omega, ?_⟩
      simpa using this
    | false =>
      simp [ho, at2, e0, wRet, wRetN, wAndV, wOrV, wNotV, wF, wCons, wNil, wV, wC, o1, o2, fIsi, fLen, fAll, fInt, fAbs, fII, fTup, fList, startR, R.fz, R.val, isiD, clsD, clsL, tyD, insOk, bodyPost, wSeq, wNext, wIfS, wT, w2, oAdd, oSub, oI, oIc, oMulW, oDivW, oMod, oPow, oLt, oLe, oGt, oGe, oEq, wIsN, D.isNon, wChain, wIf, wFld, wTup, wLst, shs, wSet, wOwn, wPar, wPar3, wCall, wMake, wMeth, wExpr, wAsgE, geT, geCons, geNil, geF, putD, wAsgT, gT, gsCons, gsNil, gN, iSeq, iOne, iRng, iZip, wNeg, wAnd, wOr, wNot, seqD, shs, oIx, oIxA, oIn, inD, wPut, setD, wGet2, wNewD, wYes, noX, dcD, blsD, eqD, shD, toPy, toPyL, PyData.eqv, PyData.eqvAll, SeqAt.shaped, PyData.canLay0, PyData.canLayAll0, PyData.depth, PyData.depthAll, and_assoc, sz1, sz2, sz3, kit_self, lookup_hd, lookup_tl, Int.natCast_inj, show ((0 : Nat) : Int) = 0 from rfl, kb_NoneType_bool, kb_NoneType_int, kb_NoneType_str, kb_NoneType_list, kb_NoneType_tuple, kb_NoneType_dict, kb_bool_bool, kb_bool_int, kb_bool_str, kb_bool_list, kb_bool_tuple, kb_bool_dict, kb_int_bool, kb_int_int, kb_int_str, kb_int_list, kb_int_tuple, kb_int_dict, kb_str_bool, kb_str_int, kb_str_str, kb_str_list, kb_str_tuple, kb_str_dict, kb_list_bool, kb_list_int, kb_list_str, kb_list_list, kb_list_tuple, kb_list_dict, kb_tuple_bool, kb_tuple_int, kb_tuple_str, kb_tuple_list, kb_tuple_tuple, kb_tuple_dict, kb_dict_bool, kb_dict_int, kb_dict_str, kb_dict_list, kb_dict_tuple, kb_dict_dict]
      exact hN _ rfl
  rintro _ rfl
  refine seq_of (fun en => en = ⟨[some (.ow k), some (.sh (.int many)), none, some (.sh (.int at')), none, none], os⟩) (fun N hN => ?_) ?_
  · simp [ho, at1, wRet, wRetN, wAndV, wOrV, wNotV, wF, wCons, wNil, wV, wC, o1, o2, fIsi, fLen, fAll, fInt, fAbs, fII, fTup, fList, startR, R.fz, R.val, isiD, clsD, clsL, tyD, insOk, bodyPost, wSeq, wNext, wIfS, wT, w2, oAdd, oSub, oI, oIc, oMulW, oDivW, oMod, oPow, oLt, oLe, oGt, oGe, oEq, wIsN, D.isNon, wChain, wIf, wFld, wTup, wLst, shs, wSet, wOwn, wPar, wPar3, wCall, wMake, wMeth, wExpr, wAsgE, geT, geCons, geNil, geF, putD, wAsgT, gT, gsCons, gsNil, gN, iSeq, iOne, iRng, iZip, wNeg, wAnd, wOr, wNot, seqD, shs, oIx, oIxA, oIn, inD, wPut, setD, wGet2, wNewD, wYes, noX, dcD, blsD, eqD, shD, toPy, toPyL, PyData.eqv, PyData.eqvAll, SeqAt.shaped, PyData.canLay0, PyData.canLayAll0, PyData.depth, PyData.depthAll, and_assoc, sz1, sz2, sz3, kit_self, lookup_hd, lookup_tl, Int.natCast_inj, show ((0 : Nat) : Int) = 0 from rfl, kb_NoneType_bool, kb_NoneType_int, kb_NoneType_str, kb_NoneType_list, kb_NoneType_tuple, kb_NoneType_dict, kb_bool_bool, kb_bool_int, kb_bool_str, kb_bool_list, kb_bool_tuple, kb_bool_dict, kb_int_bool, kb_int_int, kb_int_str, kb_int_list, kb_int_tuple, kb_int_dict, kb_str_bool, kb_str_int, kb_str_str, kb_str_list, kb_str_tuple, kb_str_dict, kb_list_bool, kb_list_int, kb_list_str, kb_list_list, kb_list_tuple, kb_list_dict, kb_tuple_bool, kb_tuple_int, kb_tuple_str, kb_tuple_list, kb_tuple_tuple, kb_tuple_dict, kb_dict_bool, kb_dict_int, kb_dict_str, kb_dict_list, kb_dict_tuple, kb_dict_dict]
    exact hN _ rfl
  rintro _ rfl
  refine seq_of (fun en => en = ⟨[some (.ow k), some (.sh (.int many)), none, some (.sh (.int at')), none, none], os.set k (some (.lst [.lst (cells.map .int), .int ((at' + 1 : Nat) : Int), .int rest]))⟩) (fun N hN => ?_) ?_
  · simp [ho, ix1, wRet, wRetN, wAndV, wOrV, wNotV, wF, wCons, wNil, wV, wC, o1, o2, fIsi, fLen, fAll, fInt, fAbs, fII, fTup, fList, startR, R.fz, R.val, isiD, clsD, clsL, tyD, insOk, bodyPost, wSeq, wNext, wIfS, wT, w2, oAdd, oSub, oI, oIc, oMulW, oDivW, oMod, oPow, oLt, oLe, oGt, oGe, oEq, wIsN, D.isNon, wChain, wIf, wFld, wTup, wLst, shs, wSet, wOwn, wPar, wPar3, wCall, wMake, wMeth, wExpr, wAsgE, geT, geCons, geNil, geF, putD, wAsgT, gT, gsCons, gsNil, gN, iSeq, iOne, iRng, iZip, wNeg, wAnd, wOr, wNot, seqD, shs, oIx, oIxA, oIn, inD, wPut, setD, wGet2, wNewD, wYes, noX, dcD, blsD, eqD, shD, toPy, toPyL, PyData.eqv, PyData.eqvAll, SeqAt.shaped, PyData.canLay0, PyData.canLayAll0, PyData.depth, PyData.depthAll, and_assoc, sz1, sz2, sz3, kit_self, lookup_hd, lookup_tl, Int.natCast_inj, show ((0 : Nat) : Int) = 0 from rfl, kb_NoneType_bool, kb_NoneType_int, kb_NoneType_str, kb_NoneType_list, kb_NoneType_tuple, kb_NoneType_dict, kb_bool_bool, kb_bool_int, kb_bool_str, kb_bool_list, kb_bool_tuple, kb_bool_dict, kb_int_bool, kb_int_int, kb_int_str, kb_int_list, kb_int_tuple, kb_int_dict, kb_str_bool, kb_str_int, kb_str_str, kb_str_list, kb_str_tuple, kb_str_dict, kb_list_bool, kb_list_int, kb_list_str, kb_list_list, kb_list_tuple, kb_list_dict, kb_tuple_bool, kb_tuple_int, kb_tuple_str, kb_tuple_list, kb_tuple_tuple, kb_tuple_dict, kb_dict_bool, kb_dict_int, kb_dict_str, kb_dict_list, kb_dict_tuple, kb_dict_dict]
    exact hN _ rfl
  rintro _ rfl
  refine seq_of (fun en => en = ⟨[some (.ow k), some (.sh (.int many)), none, some (.sh (.int at')), some (.sh (.int (70289 * (at' : Int) + 8233))), none], os.set k (some (.lst [.lst (cells.map .int), .int ((at' + 1 : Nat) : Int), .int rest]))⟩) (fun N hN => ?_) ?_
  · simp [wRet, wRetN, wAndV, wOrV, wNotV, wF, wCons, wNil, wV, wC, o1, o2, fIsi, fLen, fAll, fInt, fAbs, fII, fTup, fList, startR, R.fz, R.val, isiD, clsD, clsL, tyD, insOk, bodyPost, wSeq, wNext, wIfS, wT, w2, oAdd, oSub, oI, oIc, oMulW, oDivW, oMod, oPow, oLt, oLe, oGt, oGe, oEq, wIsN, D.isNon, wChain, wIf, wFld, wTup, wLst, shs, wSet, wOwn, wPar, wPar3, wCall, wMake, wMeth, wExpr, wAsgE, geT, geCons, geNil, geF, putD, wAsgT, gT, gsCons, gsNil, gN, iSeq, iOne, iRng, iZip, wNeg, wAnd, wOr, wNot, seqD, shs, oIx, oIxA, oIn, inD, wPut, setD, wGet2, wNewD, wYes, noX, dcD, blsD, eqD, shD, toPy, toPyL, PyData.eqv, PyData.eqvAll, SeqAt.shaped, PyData.canLay0, PyData.canLayAll0, PyData.depth, PyData.depthAll, and_assoc, sz1, sz2, sz3, kit_self, lookup_hd, lookup_tl, Int.natCast_inj, show ((0 : Nat) : Int) = 0 from rfl, kb_NoneType_bool, kb_NoneType_int, kb_NoneType_str, kb_NoneType_list, kb_NoneType_tuple, kb_NoneType_dict, kb_bool_bool, kb_bool_int, kb_bool_str, kb_bool_list, kb_bool_tuple, kb_bool_dict, kb_int_bool, kb_int_int, kb_int_str, kb_int_list, kb_int_tuple, kb_int_dict, kb_str_bool, kb_str_int, kb_str_str, kb_str_list, kb_str_tuple, kb_str_dict, kb_list_bool, kb_list_int, kb_list_str, kb_list_list, kb_list_tuple, kb_list_dict, kb_tuple_bool, kb_tuple_int, kb_tuple_str, kb_tuple_list, kb_tuple_tuple, kb_tuple_dict, kb_dict_bool, kb_dict_int, kb_dict_str, kb_dict_list, kb_dict_tuple, kb_dict_dict]
    exact ⟨CMul.ok (.inl ⟨by omega, by omega⟩), hN _ rfl⟩
  rintro _ rfl
  have hlen : (cells.map D.int).length = cells.length := List.length_map ..
  refine seq_of (fun en => ∃ cell : Int, en = ⟨[some (.ow k), some (.sh (.int many)), none, some (.sh (.int at')), some (.sh (.int cell)), none], os.set k (some (.lst [.lst (cells.map .int), .int ((at' + 1 : Nat) : Int), .int rest]))⟩) (fun N hN => ?_) ?_
  · have c0 : PyData.canLayAll0 (toPyL (cells.map D.int)) = true := by rw [toPyL_ints]; exact lay_ints cells
    have c1 : PyData.depthAll (toPyL (cells.map D.int)) = 0 := by rw [toPyL_ints]; exact PySem.W.depth_ints cells
    cases e : cells.isEmpty with
    | true =>
      simp [hsa, at0, ne_nil_int, c0, c1, e, wRet, wRetN, wAndV, wOrV, wNotV, wF, wCons, wNil, wV, wC, o1, o2, fIsi, fLen, fAll, fInt, fAbs, fII, fTup, fList, startR, R.fz, R.val, isiD, clsD, clsL, tyD, insOk, bodyPost, wSeq, wNext, wIfS, wT, w2, oAdd, oSub, oI, oIc, oMulW, oDivW, oMod, oPow, oLt, oLe, oGt, oGe, oEq, wIsN, D.isNon, wChain, wIf, wFld, wTup, wLst, shs, wSet, wOwn, wPar, wPar3, wCall, wMake, wMeth, wExpr, wAsgE, geT, geCons, geNil, geF, putD, wAsgT, gT, gsCons, gsNil, gN, iSeq, iOne, iRng, iZip, wNeg, wAnd, wOr, wNot, seqD, shs, oIx, oIxA, oIn, inD, wPut, setD, wGet2, wNewD, wYes, noX, dcD, blsD, eqD, shD, toPy, toPyL, PyData.eqv, PyData.eqvAll, SeqAt.shaped, PyData.canLay0, PyData.canLayAll0, PyData.depth, PyData.depthAll, and_assoc, sz1, sz2, sz3, kit_self, lookup_hd, lookup_tl, Int.natCast_inj, show ((0 : Nat) : Int) = 0 from rfl, kb_NoneType_bool, kb_NoneType_int, kb_NoneType_str, kb_NoneType_list, kb_NoneType_tuple, kb_NoneType_dict, kb_bool_bool, kb_bool_int, kb_bool_str, kb_bool_list, kb_bool_tuple, kb_bool_dict, kb_int_bool, kb_int_int, kb_int_str, kb_int_list, kb_int_tuple, kb_int_dict, kb_str_bool, kb_str_int, kb_str_str, kb_str_list, kb_str_tuple, kb_str_dict, kb_list_bool, kb_list_int, kb_list_str, kb_list_list, kb_list_tuple, kb_list_dict, kb_tuple_bool, kb_tuple_int, kb_tuple_str, kb_tuple_list, kb_tuple_tuple, kb_tuple_dict, kb_dict_bool, kb_dict_int, kb_dict_str, kb_dict_list, kb_dict_tuple, kb_dict_dict]
      exact hN _ ⟨_, rfl⟩
    | false =>
      simp [hsa, at0, ne_nil_int, c0, c1, e, wRet, wRetN, wAndV, wOrV, wNotV, wF, wCons, wNil, wV, wC, o1, o2, fIsi, fLen, fAll, fInt, fAbs, fII, fTup, fList, startR, R.fz, R.val, isiD, clsD, clsL, tyD, insOk, bodyPost, wSeq, wNext, wIfS, wT, w2, oAdd, oSub, oI, oIc, oMulW, oDivW, oMod, oPow, oLt, oLe, oGt, oGe, oEq, wIsN, D.isNon, wChain, wIf, wFld, wTup, wLst, shs, wSet, wOwn, wPar, wPar3, wCall, wMake, wMeth, wExpr, wAsgE, geT, geCons, geNil, geF, putD, wAsgT, gT, gsCons, gsNil, gN, iSeq, iOne, iRng, iZip, wNeg, wAnd, wOr, wNot, seqD, shs, oIx, oIxA, oIn, inD, wPut, setD, wGet2, wNewD, wYes, noX, dcD, blsD, eqD, shD, toPy, toPyL, PyData.eqv, PyData.eqvAll, SeqAt.shaped, PyData.canLay0, PyData.canLayAll0, PyData.depth, PyData.depthAll, and_assoc, sz1, sz2, sz3, kit_self, lookup_hd, lookup_tl, Int.natCast_inj, show ((0 : Nat) : Int) = 0 from rfl, kb_NoneType_bool, kb_NoneType_int, kb_NoneType_str, kb_NoneType_list, kb_NoneType_tuple, kb_NoneType_dict, kb_bool_bool, kb_bool_int, kb_bool_str, kb_bool_list, kb_bool_tuple, kb_bool_dict, kb_int_bool, kb_int_int, kb_int_str, kb_int_list, kb_int_tuple, kb_int_dict, kb_str_bool, kb_str_int, kb_str_str, kb_str_list, kb_str_tuple, kb_str_dict, kb_list_bool, kb_list_int, kb_list_str, kb_list_list, kb_list_tuple, kb_list_dict, kb_tuple_bool, kb_tuple_int, kb_tuple_str, kb_tuple_list, kb_tuple_tuple, kb_tuple_dict, kb_dict_bool, kb_dict_int, kb_dict_str, kb_dict_list, kb_dict_tuple, kb_dict_dict]
      have hp0 : 0 < cells.length := by
        cases cells with
        | nil => cases e
        | cons v r => simp
      have hj : at' % cells.length < cells.length := Nat.mod_lt _ hp0
      have ea : atI (cells.map D.int) ((at' : Int) % (cells.length : Int)) = some (.int cells[at' % cells.length]) := by
        rw [← Int.natCast_emod, at_nat (cells.map D.int) (at' % cells.length) (by rw [List.length_map]; exact hj), List.getElem_map]
      rw [ea]
      exact ⟨hp0, hN _ ⟨_, rfl⟩⟩
  rintro _ ⟨cell, rfl⟩
  refine seq_of (fun en => en = ⟨[some (.ow k), some (.sh (.int many)), none, some (.sh (.int at')), some (.sh (.int cell)), none], os.set k (some (.lst [.lst (cells.map .int), .int ((at' + 1 : Nat) : Int), .int rest]))⟩) (fun N hN => ?_) ?_
  · have lt : (at' < cells.length) ∨ ¬ (at' < cells.length) := Decidable.em _
    simp [hsa, at0, at1, at2, wRet, wRetN, wAndV, wOrV, wNotV, wF, wCons, wNil, wV, wC, o1, o2, fIsi, fLen, fAll, fInt, fAbs, fII, fTup, fList, startR, R.fz, R.val, isiD, clsD, clsL, tyD, insOk, bodyPost, wSeq, wNext, wIfS, wT, w2, oAdd, oSub, oI, oIc, oMulW, oDivW, oMod, oPow, oLt, oLe, oGt, oGe, oEq, wIsN, D.isNon, wChain, wIf, wFld, wTup, wLst, shs, wSet, wOwn, wPar, wPar3, wCall, wMake, wMeth, wExpr, wAsgE, geT, geCons, geNil, geF, putD, wAsgT, gT, gsCons, gsNil, gN, iSeq, iOne, iRng, iZip, wNeg, wAnd, wOr, wNot, seqD, shs, oIx, oIxA, oIn, inD, wPut, setD, wGet2, wNewD, wYes, noX, dcD, blsD, eqD, shD, toPy, toPyL, PyData.eqv, PyData.eqvAll, SeqAt.shaped, PyData.canLay0, PyData.canLayAll0, PyData.depth, PyData.depthAll, and_assoc, sz1, sz2, sz3, kit_self, lookup_hd, lookup_tl, Int.natCast_inj, show ((0 : Nat) : Int) = 0 from rfl, kb_NoneType_bool, kb_NoneType_int, kb_NoneType_str, kb_NoneType_list, kb_NoneType_tuple, kb_NoneType_dict, kb_bool_bool, kb_bool_int, kb_bool_str, kb_bool_list, kb_bool_tuple, kb_bool_dict, kb_int_bool, kb_int_int, kb_int_str, kb_int_list, kb_int_tuple, kb_int_dict, kb_str_bool, kb_str_int, kb_str_str, kb_str_list, kb_str_tuple, kb_str_dict, kb_list_bool, kb_list_int, kb_list_str, kb_list_list, kb_list_tuple, kb_list_dict, kb_tuple_bool, kb_tuple_int, kb_tuple_str, kb_tuple_list, kb_tuple_tuple, kb_tuple_dict, kb_dict_bool, kb_dict_int, kb_dict_str, kb_dict_list, kb_dict_tuple, kb_dict_dict]
    cases e1 : decide (at' < cells.length) with
    | false => exact hN _ rfl
    | true =>
      simp [wRet, wRetN, wAndV, wOrV, wNotV, wF, wCons, wNil, wV, wC, o1, o2, fIsi, fLen, fAll, fInt, fAbs, fII, fTup, fList, startR, R.fz, R.val, isiD, clsD, clsL, tyD, insOk, bodyPost, wSeq, wNext, wIfS, wT, w2, oAdd, oSub, oI, oIc, oMulW, oDivW, oMod, oPow, oLt, oLe, oGt, oGe, oEq, wIsN, D.isNon, wChain, wIf, wFld, wTup, wLst, shs, wSet, wOwn, wPar, wPar3, wCall, wMake, wMeth, wExpr, wAsgE, geT, geCons, geNil, geF, putD, wAsgT, gT, gsCons, gsNil, gN, iSeq, iOne, iRng, iZip, wNeg, wAnd, wOr, wNot, seqD, shs, oIx, oIxA, oIn, inD, wPut, setD, wGet2, wNewD, wYes, noX, dcD, blsD, eqD, shD, toPy, toPyL, PyData.eqv, PyData.eqvAll, SeqAt.shaped, PyData.canLay0, PyData.canLayAll0, PyData.depth, PyData.depthAll, and_assoc, sz1, sz2, sz3, kit_self, lookup_hd, lookup_tl, Int.natCast_inj, show ((0 : Nat) : Int) = 0 from rfl, kb_NoneType_bool, kb_NoneType_int, kb_NoneType_str, kb_NoneType_list, kb_NoneType_tuple, kb_NoneType_dict, kb_bool_bool, kb_bool_int, kb_bool_str, kb_bool_list, kb_bool_tuple, kb_bool_dict, kb_int_bool, kb_int_int, kb_int_str, kb_int_list, kb_int_tuple, kb_int_dict, kb_str_bool, kb_str_int, kb_str_str, kb_str_list, kb_str_tuple, kb_str_dict, kb_list_bool, kb_list_int, kb_list_str, kb_list_list, kb_list_tuple, kb_list_dict, kb_tuple_bool, kb_tuple_int, kb_tuple_str, kb_tuple_list, kb_tuple_tuple, kb_tuple_dict, kb_dict_bool, kb_dict_int, kb_dict_str, kb_dict_list, kb_dict_tuple, kb_dict_dict]
      refine ⟨⟨by omega, by omega, by omega⟩, ?_⟩
      have bit : 0 ≤ (if cell < 0 then (1 : Int) else 0) := by split <;> omega
      generalize (if cell < 0 then -cell else cell) = ac
      generalize (if cell < 0 then (1 : Int) else 0) = bt at bit
      cases e2 : decide ((1000000000000000000 : Int) ≤ ac) with
      | false => exact hN _ rfl
      | true =>
        have e3 := of_decide_eq_true e2
        rw [ix2]
        refine ⟨⟨by omega, by omega, by omega⟩, CMul.ok (.inl ⟨by omega, by omega⟩), hcd _, by omega, ?_⟩
        rw [take_set]
        have := fin (2 * (ac - 1000000000000000000) + bt) (at' + 1) ((2 * (ac - 1000000000000000000) + bt) / (many : Int)) (Int.ediv_nonneg (by omega) (by omega)) (by omega)
        simpa using this
  rintro _ rfl
  refine seq_of (fun en => ∃ mixed : Int, 0 ≤ mixed ∧ mixed < 2147483549 ∧ en = ⟨[some (.ow k), some (.sh (.int many)), none, some (.sh (.int at')), some (.sh (.int cell)), some (.sh (.int mixed))], os.set k (some (.lst [.lst (cells.map .int), .int ((at' + 1 : Nat) : Int), .int rest]))⟩) (fun N hN => ?_) ?_
  · simp [wRet, wRetN, wAndV, wOrV, wNotV, wF, wCons, wNil, wV, wC, o1, o2, fIsi, fLen, fAll, fInt, fAbs, fII, fTup, fList, startR, R.fz, R.val, isiD, clsD, clsL, tyD, insOk, bodyPost, wSeq, wNext, wIfS, wT, w2, oAdd, oSub, oI, oIc, oMulW, oDivW, oMod, oPow, oLt, oLe, oGt, oGe, oEq, wIsN, D.isNon, wChain, wIf, wFld, wTup, wLst, shs, wSet, wOwn, wPar, wPar3, wCall, wMake, wMeth, wExpr, wAsgE, geT, geCons, geNil, geF, putD, wAsgT, gT, gsCons, gsNil, gN, iSeq, iOne, iRng, iZip, wNeg, wAnd, wOr, wNot, seqD, shs, oIx, oIxA, oIn, inD, wPut, setD, wGet2, wNewD, wYes, noX, dcD, blsD, eqD, shD, toPy, toPyL, PyData.eqv, PyData.eqvAll, SeqAt.shaped, PyData.canLay0, PyData.canLayAll0, PyData.depth, PyData.depthAll, and_assoc, sz1, sz2, sz3, kit_self, lookup_hd, lookup_tl, Int.natCast_inj, show ((0 : Nat) : Int) = 0 from rfl, kb_NoneType_bool, kb_NoneType_int, kb_NoneType_str, kb_NoneType_list, kb_NoneType_tuple, kb_NoneType_dict, kb_bool_bool, kb_bool_int, kb_bool_str, kb_bool_list, kb_bool_tuple, kb_bool_dict, kb_int_bool, kb_int_int, kb_int_str, kb_int_list, kb_int_tuple, kb_int_dict, kb_str_bool, kb_str_int, kb_str_str, kb_str_list, kb_str_tuple, kb_str_dict, kb_list_bool, kb_list_int, kb_list_str, kb_list_list, kb_list_tuple, kb_list_dict, kb_tuple_bool, kb_tuple_int, kb_tuple_str, kb_tuple_list, kb_tuple_tuple, kb_tuple_dict, kb_dict_bool, kb_dict_int, kb_dict_str, kb_dict_list, kb_dict_tuple, kb_dict_dict]
    have b0 : 0 ≤ cell % 2147483563 := Int.emod_nonneg _ (by omega)
    have b1 : cell % 2147483563 < 2147483563 := Int.emod_lt_of_pos _ (by omega)
    refine ⟨CMul.ok (.inl ⟨by omega, by omega⟩), ⟨by omega, by omega, by omega⟩, hN _ ⟨_, Int.emod_nonneg _ (by omega), Int.emod_lt_of_pos _ (by omega), rfl⟩⟩
  rintro _ ⟨mixed, m0, m1, rfl⟩
  refine seq_of (fun en => ∃ mixed : Int, en = ⟨[some (.ow k), some (.sh (.int many)), none, some (.sh (.int at')), some (.sh (.int cell)), some (.sh (.int mixed))], os.set k (some (.lst [.lst (cells.map .int), .int ((at' + 1 : Nat) : Int), .int rest]))⟩) (fun N hN => ?_) ?_
  · simp [wRet, wRetN, wAndV, wOrV, wNotV, wF, wCons, wNil, wV, wC, o1, o2, fIsi, fLen, fAll, fInt, fAbs, fII, fTup, fList, startR, R.fz, R.val, isiD, clsD, clsL, tyD, insOk, bodyPost, wSeq, wNext, wIfS, wT, w2, oAdd, oSub, oI, oIc, oMulW, oDivW, oMod, oPow, oLt, oLe, oGt, oGe, oEq, wIsN, D.isNon, wChain, wIf, wFld, wTup, wLst, shs, wSet, wOwn, wPar, wPar3, wCall, wMake, wMeth, wExpr, wAsgE, geT, geCons, geNil, geF, putD, wAsgT, gT, gsCons, gsNil, gN, iSeq, iOne, iRng, iZip, wNeg, wAnd, wOr, wNot, seqD, shs, oIx, oIxA, oIn, inD, wPut, setD, wGet2, wNewD, wYes, noX, dcD, blsD, eqD, shD, toPy, toPyL, PyData.eqv, PyData.eqvAll, SeqAt.shaped, PyData.canLay0, PyData.canLayAll0, PyData.depth, PyData.depthAll, and_assoc, sz1, sz2, sz3, kit_self, lookup_hd, lookup_tl, Int.natCast_inj, show ((0 : Nat) : Int) = 0 from rfl, kb_NoneType_bool, kb_NoneType_int, kb_NoneType_str, kb_NoneType_list, kb_NoneType_tuple, kb_NoneType_dict, kb_bool_bool, kb_bool_int, kb_bool_str, kb_bool_list, kb_bool_tuple, kb_bool_dict, kb_int_bool, kb_int_int, kb_int_str, kb_int_list, kb_int_tuple, kb_int_dict, kb_str_bool, kb_str_int, kb_str_str, kb_str_list, kb_str_tuple, kb_str_dict, kb_list_bool, kb_list_int, kb_list_str, kb_list_list, kb_list_tuple, kb_list_dict, kb_tuple_bool, kb_tuple_int, kb_tuple_str, kb_tuple_list, kb_tuple_tuple, kb_tuple_dict, kb_dict_bool, kb_dict_int, kb_dict_str, kb_dict_list, kb_dict_tuple, kb_dict_dict]
    have b1 : mixed * (2 * (at' : Int) + 5909) ≤ 2147483549 * 7909 := Int.mul_le_mul (by omega) (by omega) (by omega) (by omega)
    have b0 : 0 ≤ mixed * (2 * (at' : Int) + 5909) := Int.mul_nonneg m0 (by omega)
    have b2 : 31509 * (at' : Int) * (at' : Int) ≤ 31509000 * 1000 := Int.mul_le_mul (by omega) (by omega) (by omega) (by omega)
    have b3 : 0 ≤ 31509 * (at' : Int) * (at' : Int) := Int.mul_nonneg (by omega) (by omega)
    exact ⟨CMul.ok (.inl ⟨by omega, by omega⟩), CMul.ok (.inl ⟨by omega, by omega⟩), CMul.ok (.inl ⟨by omega, by omega⟩), CMul.ok (.inl ⟨by omega, by omega⟩), ⟨by omega, by omega, by omega⟩, hN _ ⟨_, rfl⟩⟩
  rintro _ ⟨mixed, rfl⟩
  simp [hm0, take_set, wRet, wRetN, wAndV, wOrV, wNotV, wF, wCons, wNil, wV, wC, o1, o2, fIsi, fLen, fAll, fInt, fAbs, fII, fTup, fList, startR, R.fz, R.val, isiD, clsD, clsL, tyD, insOk, bodyPost, wSeq, wNext, wIfS, wT, w2, oAdd, oSub, oI, oIc, oMulW, oDivW, oMod, oPow, oLt, oLe, oGt, oGe, oEq, wIsN, D.isNon, wChain, wIf, wFld, wTup, wLst, shs, wSet, wOwn, wPar, wPar3, wCall, wMake, wMeth, wExpr, wAsgE, geT, geCons, geNil, geF, putD, wAsgT, gT, gsCons, gsNil, gN, iSeq, iOne, iRng, iZip, wNeg, wAnd, wOr, wNot, seqD, shs, oIx, oIxA, oIn, inD, wPut, setD, wGet2, wNewD, wYes, noX, dcD, blsD, eqD, shD, toPy, toPyL, PyData.eqv, PyData.eqvAll, SeqAt.shaped, PyData.canLay0, PyData.canLayAll0, PyData.depth, PyData.depthAll, and_assoc, sz1, sz2, sz3, kit_self, lookup_hd, lookup_tl, Int.natCast_inj, show ((0 : Nat) : Int) = 0 from rfl, kb_NoneType_bool, kb_NoneType_int, kb_NoneType_str, kb_NoneType_list, kb_NoneType_tuple, kb_NoneType_dict, kb_bool_bool, kb_bool_int, kb_bool_str, kb_bool_list, kb_bool_tuple, kb_bool_dict, kb_int_bool, kb_int_int, kb_int_str, kb_int_list, kb_int_tuple, kb_int_dict, kb_str_bool, kb_str_int, kb_str_str, kb_str_list, kb_str_tuple, kb_str_dict, kb_list_bool, kb_list_int, kb_list_str, kb_list_list, kb_list_tuple, kb_list_dict, kb_tuple_bool, kb_tuple_int, kb_tuple_str, kb_tuple_list, kb_tuple_tuple, kb_tuple_dict, kb_dict_bool, kb_dict_int, kb_dict_str, kb_dict_list, kb_dict_tuple, kb_dict_dict]
  refine ⟨cdW (n := 64) (by omega) (by omega), by omega, ?_⟩
  have := fin (mixed / 64) (at' + 1) rest (by omega) (by omega)
  simpa using this
end
end L2.TL.K08

/-! text K08m -/
set_option Elab.async false
set_option linter.all false
set_option maxRecDepth 100000
set_option maxHeartbeats 4000000
namespace L2.TL.K08
open PySem PySem.Spec PyProof.Rows L2.TL
theorem leD2 (a b c d : Int) : leD (rowT [a, b]) (rowT [c, d]) = decide (a < c ∨ (a = c ∧ b ≤ d)) := congrFun (congrFun (PySem.W.dataLe_ii (fun p : Int × Int => p.1) (fun p => p.2)) (a, b)) (c, d)
/-- strictly ascending pairs -/
def Asc (ps : List (Int × Int)) : Prop := ps.Pairwise fun p q => p.1 < q.1 ∨ (p.1 = q.1 ∧ p.2 < q.2)
def row2 (p : Int × Int) : List Int := [p.1, p.2]
theorem srt_of {ps : List (Int × Int)} (h : Asc ps) : Srt (ps.map row2) := by
  constructor
  · rw [List.map_map]
    refine List.Pairwise.map _ (fun p q hpq => ?_) h
    show leD (rowT [p.1, p.2]) (rowT [q.1, q.2]) = true
    rw [leD2, decide_eq_true_eq]; omega
  · refine List.Pairwise.map (R := fun p q : Int × Int => p.1 < q.1 ∨ (p.1 = q.1 ∧ p.2 < q.2)) _ (fun p q hpq e => ?_) h
    simp only [row2, List.cons.injEq, and_true] at e
    omega
/-- the law's rows -/
def prs (c : Nat) (many : Nat) : List (Int × Int) := if c = 0 then (List.range many).map (fun i : Nat => ((7 : Int), (i : Int))) ++ [(8, 1000)] else (List.range many).map (fun i : Nat => ((i : Int), (7 : Int))) ++ [(1000, 8)]
theorem prs_len (c many : Nat) : (prs c many).length = many + 1 := by
  unfold prs; split <;> simp
theorem asc_range0 (v : Int) : ∀ many : Nat, Asc ((List.range many).map fun i : Nat => (v, (i : Int))) := fun many => by
  refine List.Pairwise.map _ (fun a b (hab : a < b) => ?_) List.pairwise_lt_range
  exact .inr ⟨rfl, by show (a : Int) < (b : Int); omega⟩
theorem asc_range1 (v : Int) : ∀ many : Nat, Asc ((List.range many).map fun i : Nat => ((i : Int), v)) := fun many => by
  refine List.Pairwise.map _ (fun a b (hab : a < b) => ?_) List.pairwise_lt_range
  exact .inl (by show (a : Int) < (b : Int); omega)
theorem prs_asc (c many : Nat) (h : many ≤ 1000) : Asc (prs c many) := by
  unfold prs
  split
  · refine List.pairwise_append.mpr ⟨asc_range0 7 many, by simp, fun p hp q hq => ?_⟩
    obtain ⟨i, hi, rfl⟩ := List.mem_map.mp hp
    rw [List.mem_singleton] at hq; subst hq
    exact .inl (by show (7 : Int) < 8; omega)
  · refine List.pairwise_append.mpr ⟨asc_range1 7 many, by simp, fun p hp q hq => ?_⟩
    obtain ⟨i, hi, rfl⟩ := List.mem_map.mp hp
    rw [List.mem_singleton] at hq; subst hq
    have := List.mem_range.mp hi
    exact .inl (by show (i : Int) < 1000; omega)
theorem prs_ok (c many : Nat) (h : many ≤ 1000) : ∀ r ∈ (prs c many).map row2, RowOk 2 r := by
  intro r hr
  obtain ⟨p, hp, rfl⟩ := List.mem_map.mp hr
  have hb : (0 ≤ p.1 ∧ p.1 ≤ 1000) ∧ 0 ≤ p.2 ∧ p.2 ≤ 1000 := by
    unfold prs at hp
    split at hp
    · rcases List.mem_append.mp hp with hp | hp
      · obtain ⟨i, hi, rfl⟩ := List.mem_map.mp hp
        have := List.mem_range.mp hi
        dsimp only; omega
      · rw [List.mem_singleton] at hp; subst hp; dsimp only; omega
    · rcases List.mem_append.mp hp with hp | hp
      · obtain ⟨i, hi, rfl⟩ := List.mem_map.mp hp
        have := List.mem_range.mp hi
        dsimp only; omega
      · rw [List.mem_singleton] at hp; subst hp; dsimp only; omega
  refine ⟨rfl, fun v hv => ?_⟩
  simp only [row2, List.mem_cons, List.not_mem_nil, or_false] at hv
  rcases hv with rfl | rfl <;> omega
/-- how many rows have 7, 8 -/
theorem cnt_prs (c many : Nat) (hc : c ≤ 1) (v : Int) : cnt ((prs c many).map row2) c v = (if v = 7 then many else 0) + if v = 8 then 1 else 0 := by
  have hc' : c = 0 ∨ c = 1 := by omega
  have f7 : ∀ (g : Nat → Int × Int), (∀ i, (row2 (g i)).getD c 0 = 7) → (((List.range many).map g).map row2).filter (fun r => decide (r.getD c 0 = v)) = if v = 7 then ((List.range many).map g).map row2 else [] := fun g hg => by
    by_cases h : v = 7
    · rw [if_pos h]
      refine List.filter_eq_self.mpr fun r hr => ?_
      rw [List.map_map] at hr
      obtain ⟨i, _, rfl⟩ := List.mem_map.mp hr
      simp only [Function.comp, hg, h, decide_true]
    · rw [if_neg h]
      refine List.filter_eq_nil_iff.mpr fun r hr => ?_
      rw [List.map_map] at hr
      obtain ⟨i, _, rfl⟩ := List.mem_map.mp hr
      simp only [Function.comp, hg]
      simpa using fun q : 7 = v => h q.symm
  unfold cnt prs
  rcases hc' with rfl | rfl
  · rw [if_pos rfl, List.map_append, List.filter_append, List.length_append, f7 _ (fun i => rfl)]
    congr 1
    · split <;> simp
    · by_cases h : v = 8
      · subst h; rfl
      · simp [row2, h, show ¬ (8 : Int) = v from fun q => h q.symm]
  · rw [if_neg (by decide), List.map_append, List.filter_append, List.length_append, f7 _ (fun i => rfl)]
    congr 1
    · split <;> simp
    · by_cases h : v = 8
      · subst h; rfl
      · simp [row2, h, show ¬ (8 : Int) = v from fun q => h q.symm]
end L2.TL.K08

/-! text K08n -/
set_option Elab.async false
set_option linter.all false
set_option maxRecDepth 100000
set_option maxHeartbeats 4000000
namespace L2.TL.K08
open PySem PySem.Spec PyProof.Rows L2.TL
theorem prs_col (c many : Nat) (hc : c ≤ 1) : ∀ r ∈ (prs c many).map row2, r.getD c 0 = 7 ∨ r.getD c 0 = 8 := by
  have hc' : c = 0 ∨ c = 1 := by omega
  intro r hr
  obtain ⟨p, hp, rfl⟩ := List.mem_map.mp hr
  rcases hc' with rfl | rfl
  · unfold prs at hp
    rw [if_pos rfl] at hp
    rcases List.mem_append.mp hp with hp | hp
    · obtain ⟨i, hi, rfl⟩ := List.mem_map.mp hp; exact .inl rfl
    · rw [List.mem_singleton] at hp; subst hp; exact .inr rfl
  · unfold prs at hp
    rw [if_neg (by decide)] at hp
    rcases List.mem_append.mp hp with hp | hp
    · obtain ⟨i, hi, rfl⟩ := List.mem_map.mp hp; exact .inl rfl
    · rw [List.mem_singleton] at hp; subst hp; exact .inr rfl
theorem light_prs (c many a b base : Nat) (hc : c ≤ 1) (hb : 1 ≤ base) (r : List Int) (hr : r ∈ (prs c many).map row2) : lightR ((prs c many).map row2) c a b base r = (decide (r.getD c 0 = 8) || decide (many ^ b ≤ base ^ a)) := by
  unfold lightR
  rw [cnt_prs c many hc]
  rcases prs_col c many hc r hr with h | h
  · rw [h]; simp
  · have : 1 ≤ base ^ a := Nat.pow_pos hb
    rw [h]; simp; exact this
theorem cnt8 (c many : Nat) (hc : c ≤ 1) : (((prs c many).map row2).filter fun r => decide (r.getD c 0 = 8)).length = 1 := by
  have := cnt_prs c many hc 8
  simpa [cnt] using this
theorem len_split {α : Type} (p : α → Bool) : ∀ l : List α, (l.filter p).length + (l.filter fun x => !p x).length = l.length
  | [] => rfl
  | x :: l => by
    have := len_split p l
    cases h : p x <;> simp [h] <;> omega
theorem light_len (c many a b base : Nat) (hc : c ≤ 1) (hb : 1 ≤ base) : (((prs c many).map row2).filter (lightR ((prs c many).map row2) c a b base)).length = if many ^ b ≤ base ^ a then many + 1 else 1 := by
  have e : ((prs c many).map row2).filter (lightR ((prs c many).map row2) c a b base) = ((prs c many).map row2).filter fun r => (decide (r.getD c 0 = 8) || decide (many ^ b ≤ base ^ a)) := List.filter_congr fun r hr => light_prs c many a b base hc hb r hr
  rw [e]
  by_cases h : many ^ b ≤ base ^ a
  · rw [if_pos h, List.filter_eq_self.mpr (fun _ _ => by simp [h]), List.length_map, prs_len]
  · rw [if_neg h]
    simp only [h, decide_false, Bool.or_false]
    exact cnt8 c many hc
theorem heavy_len (c many a b base : Nat) (hc : c ≤ 1) (hb : 1 ≤ base) : (((prs c many).map row2).filter fun r => !lightR ((prs c many).map row2) c a b base r).length = if many ^ b ≤ base ^ a then 0 else many := by
  have h1 := len_split (lightR ((prs c many).map row2) c a b base) ((prs c many).map row2)
  rw [light_len c many a b base hc hb, List.length_map, prs_len] at h1
  by_cases h : many ^ b ≤ base ^ a
  · rw [if_pos h] at h1 ⊢; omega
  · rw [if_neg h] at h1 ⊢; omega
theorem gcd_parts {top bottom : Nat} (h1 : 1 ≤ top) (h2 : 1 ≤ bottom) : ∃ g a b, top / Nat.gcd top bottom = a ∧ bottom / Nat.gcd top bottom = b ∧ top = a * g ∧ bottom = b * g ∧ 1 ≤ a ∧ 1 ≤ b ∧ a ≤ top ∧ b ≤ bottom := by
  have g0 : 0 < Nat.gcd top bottom := Nat.gcd_pos_of_pos_left _ h1
  have e1 := Nat.div_mul_cancel (Nat.gcd_dvd_left top bottom)
  have e2 := Nat.div_mul_cancel (Nat.gcd_dvd_right top bottom)
  refine ⟨Nat.gcd top bottom, _, _, rfl, rfl, e1.symm, e2.symm, ?_, ?_, Nat.div_le_self .., Nat.div_le_self ..⟩
  · exact Nat.div_pos (Nat.gcd_le_left _ h1) g0
  · exact Nat.div_pos (Nat.gcd_le_right _ h2) g0
theorem border_iff {root top bottom a b g many : Nat} (ht : top = a * g) (hb : bottom = b * g) (b1 : 1 ≤ b) : many ^ b ≤ (root ^ bottom) ^ a ↔ many ≤ root ^ top := by
  have e : (root ^ bottom) ^ a = (root ^ top) ^ b := by
    rw [← Nat.pow_mul, ← Nat.pow_mul, ht, hb]
    congr 1
    rw [Nat.mul_assoc, Nat.mul_assoc, Nat.mul_comm g a, Nat.mul_comm g b, ← Nat.mul_assoc, ← Nat.mul_assoc, Nat.mul_comm b a]
  rw [e]
  exact Nat.pow_le_pow_iff_left (by omega)
theorem below_base {root top bottom a b g : Nat} (ht : top = a * g) (hb : bottom = b * g) (a1 : 1 ≤ a) (hr : 1 ≤ root ^ bottom) : ¬ (root ^ top) ^ b ≤ (root ^ bottom - 1) ^ a := by
  have e : (root ^ top) ^ b = (root ^ bottom) ^ a := by
    rw [← Nat.pow_mul, ← Nat.pow_mul, ht, hb]
    congr 1
    rw [Nat.mul_assoc, Nat.mul_assoc, Nat.mul_comm g a, Nat.mul_comm g b, ← Nat.mul_assoc, ← Nat.mul_assoc, Nat.mul_comm b a]
  rw [e, Nat.not_le]
  exact Nat.pow_lt_pow_left (by omega) (by omega)
end L2.TL.K08

/-! text K08p -/
set_option Elab.async false
set_option linter.all false
set_option maxRecDepth 100000
set_option maxHeartbeats 4000000
namespace L2.TL.K08
open PySem PySem.Spec PyProof.Rows L2.TL
theorem get_last (os : Os) (x : Option D) : (os ++ [x])[os.length]? = some x := by simp
theorem set_last (os : Os) (x y : Option D) : (os ++ [x]).set os.length y = os ++ [y] := by simp
theorem take_last (os : Os) (x : Option D) : (os ++ [x]).take os.length = os := by simp
def tabR (CT : Addr) : D := tabD CT ("r", 2)
section
variable {K : PySem.W.Frag} {mg : Str → Option Value} {CTable CWorld CSplit : Addr} {rs : List R} {os : Os} {P : R → Os → Prop} {PX : Er → Os → Prop}
/-- the law's making of its table, splits, worlds -/
theorem mk_table {en : En} {P : R → En → Prop} {PX : PEr} (h : P (.fr (tabR CTable)) en) : wMake CTable (Φ_Table_init K CTable CWorld CSplit) (wCons (wC (.str ("r" : Str))) (wCons (wC (.int 2)) wNil)) en P PX := by
  simp [wRet, wRetN, wAndV, wOrV, wNotV, wF, wCons, wNil, wV, wC, o1, o2, fIsi, fLen, fAll, fInt, fAbs, fII, fTup, fList, startR, R.fz, R.val, isiD, clsD, clsL, tyD, insOk, bodyPost, wSeq, wNext, wIfS, wT, w2, oAdd, oSub, oI, oIc, oMulW, oDivW, oMod, oPow, oLt, oLe, oGt, oGe, oEq, wIsN, D.isNon, wChain, wIf, wFld, wTup, wLst, shs, wSet, wOwn, wPar, wPar3, wCall, wMake, wMeth, wExpr, wAsgE, geT, geCons, geNil, geF, putD, wAsgT, gT, gsCons, gsNil, gN, iSeq, iOne, iRng, iZip, wNeg, wAnd, wOr, wNot, seqD, shs, oIx, oIxA, oIn, inD, wPut, setD, wGet2, wNewD, wYes, noX, dcD, blsD, eqD, shD, toPy, toPyL, PyData.eqv, PyData.eqvAll, SeqAt.shaped, PyData.canLay0, PyData.canLayAll0, PyData.depth, PyData.depthAll, and_assoc, sz1, sz2, sz3, kit_self, lookup_hd, lookup_tl, Int.natCast_inj, show ((0 : Nat) : Int) = 0 from rfl, kb_NoneType_bool, kb_NoneType_int, kb_NoneType_str, kb_NoneType_list, kb_NoneType_tuple, kb_NoneType_dict, kb_bool_bool, kb_bool_int, kb_bool_str, kb_bool_list, kb_bool_tuple, kb_bool_dict, kb_int_bool, kb_int_int, kb_int_str, kb_int_list, kb_int_tuple, kb_int_dict, kb_str_bool, kb_str_int, kb_str_str, kb_str_list, kb_str_tuple, kb_str_dict, kb_list_bool, kb_list_int, kb_list_str, kb_list_list, kb_list_tuple, kb_list_dict, kb_tuple_bool, kb_tuple_int, kb_tuple_str, kb_tuple_list, kb_tuple_tuple, kb_tuple_dict, kb_dict_bool, kb_dict_int, kb_dict_str, kb_dict_list, kb_dict_tuple, kb_dict_dict]
  refine ⟨en.os.length, "r", 2, rfl, get_last _ _, by decide +kernel, by decide +kernel, by omega, by omega, ?_⟩
  simp [set_last, take_last]
  exact h
theorem mk_split {en : En} {ws : WAx} {z : Str} {c a b : Nat} {P : R → En → Prop} {PX : PEr} (hw : ∀ (P : List R → En → Prop) PX, P [.sh (tabD CTable (z, 2)), .sh (.int c), .sh (.tup [.int a, .int b])] en → ws en P PX) (h1 : c ≤ 1) (h2 : 1 ≤ a) (h3 : 1 ≤ b) (h4 : a ≤ 9999) (h5 : b ≤ 9999)
    (h : P (.fr (splitD CTable CSplit (z, 2) c (a / Nat.gcd a b) (b / Nat.gcd a b))) en) : wMake CSplit (Φ_Split_init K CTable CWorld CSplit) ws en P PX := by
  unfold wMake
  refine hw _ _ ⟨en.os.length, z, c, a, b, rfl, get_last _ _, h1, h2, h3, h4, h5, ?_⟩
  simp [set_last, take_last]
  exact h
theorem mk_world {en : En} {ws : WAx} {t : Str × Int} {rws : List (List Int)} {P : R → En → Prop} {PX : PEr} (hw : ∀ (P : List R → En → Prop) PX, P [.sh (.lst [tabD CTable t]), .sh (.lst [.lst (rws.map rowT)])] en → ws en P PX) (h0 : t.2 = 1 ∨ t.2 = 2) (h1 : ∀ r ∈ rws, RowOk t.2 r) (h2 : rws.length ≤ 20000) (h3 : Srt rws)
    (h : P (.fr (worldD CTable CWorld t rws)) en) : wMake CWorld (Φ_World_init K CTable CWorld CSplit) ws en P PX := by
  unfold wMake
  refine hw _ _ ⟨en.os.length, t, rws, rfl, get_last _ _, h0, h1, h2, h3, ?_⟩
  simp [set_last, take_last]
  exact h
theorem row_prs (ps : List (Int × Int)) : ps.map (fun p => D.tup [.int p.1, .int p.2]) = (ps.map row2).map rowT := by
  rw [List.map_map]; rfl
end
end L2.TL.K08

/-! text K08q -/
set_option Elab.async false
set_option linter.all false
set_option maxRecDepth 100000
set_option maxHeartbeats 4000000
namespace L2.TL.K08
open PySem PySem.Spec PyProof.Rows L2.TL
def w_many (K : PySem.W.Frag) (CTable CWorld CSplit : Addr) : WSx := (wSeq (wSet 12 (w2 oAdd (wLc (iRng (wV 11)) (gN 13) wYes (wIf (wT (w2 (oEq false) (wV 9) (wC (.int 0)))) (wTup (wCons (wC (.int 7)) (wCons (wV 13) wNil))) (wTup (wCons (wV 13) (wCons (wC (.int 7)) wNil)))) [13]) (wLst (wCons (wIf (wT (w2 (oEq false) (wV 9) (wC (.int 0)))) (wTup (wCons (wC (.int 8)) (wCons (wC (.int 1000)) wNil))) (wTup (wCons (wC (.int 1000)) (wCons (wC (.int 8)) wNil)))) wNil)))) (wSeq (wSet 14 (wMake CWorld (Φ_World_init K CTable CWorld CSplit) (wCons (wLst (wCons (wV 2) wNil)) (wCons (wLst (wCons (wV 12) wNil)) wNil)))) (wSeq (wAsgT (gT (gsCons (gN 15) (gsCons (gN 16) gsNil))) (wCall (Φ_parted K CTable CWorld CSplit) (wCons (wV 14) (wCons (wV 10) (wCons (wV 7) wNil))))) (wSeq (wIfS (wOr (wT (w2 (oEq true) (w2 (oEq false) (wF (o1 fLen) (wCons (wV 16) wNil)) (wC (.int 0))) (w2 oLe (wV 11) (wV 8)))) (wOr (wT (w2 (oEq true) (w2 oAdd (wF (o1 fLen) (wCons (wV 15) wNil)) (wF (o1 fLen) (wCons (wV 16) wNil))) (w2 oAdd (wV 11) (wC (.int 1))))) (wAnd (wT (w2 oGt (wV 11) (wV 8))) (wT (w2 (oEq true) (wF (o1 fLen) (wCons (wV 15) wNil)) (wC (.int 1))))))) (wRet (wC (.bl false))) wNext) (wIfS (wAnd (wT (w2 (oEq false) (wV 11) (wV 8))) (wAnd (wT (w2 oGt (wV 7) (wC (.int 2)))) (wT (w2 (oEq false) (w2 oIxA (wCall (Φ_parted K CTable CWorld CSplit) (wCons (wV 14) (wCons (wV 10) (wCons (w2 oSub (wV 7) (wC (.int 1))) wNil)))) (wC (.int 1))) (wTup wNil))))) (wRet (wC (.bl false))) wNext)))))
theorem toPyL_rows : ∀ rws : List (List Int), toPyL (rws.map rowT) = rws.map fun r => PyData.tuple (r.map .int)
  | [] => rfl
  | r :: rws => by simp only [List.map_cons, toPyL, toPy_row, toPyL_rows rws]
theorem lay_rows : ∀ rws : List (List Int), PyData.canLayAll0 (rws.map fun r => PyData.tuple (r.map .int)) = true
  | [] => rfl
  | r :: rws => by simp only [List.map_cons, PyData.canLayAll0, PyData.canLay0, lay_ints, lay_rows rws, Bool.and_self]
theorem depth_rows : ∀ rws : List (List Int), PyData.depthAll (rws.map fun r => PyData.tuple (r.map .int)) ≤ 1
  | [] => by simp [PyData.depthAll]
  | r :: rws => by
    have := depth_rows rws
    simp only [List.map_cons, PyData.depthAll, PyData.depth, PySem.W.depth_ints]
    omega
theorem sh_rows (rws : List (List Int)) : shD (.tup (rws.map rowT)) = true := by
  have := depth_rows rws
  simp only [shD, toPy, SeqAt.shaped, toPyL_rows, PyData.canLay0, lay_rows, PyData.depth, Bool.true_and, decide_eq_true_eq]
  omega
theorem eq_rows_nil (rws : List (List Int)) : eqD (.tup (rws.map rowT)) (.tup []) = rws.isEmpty := by
  cases rws <;> rfl
theorem sh_int (i : Int) : shD (.int i) = true := rfl
theorem eq_int' (i j : Int) : eqD (.int i) (.int j) = (i == j) := rfl
theorem sh_nil : shD (.tup []) = true := by decide +kernel
section
variable {K : PySem.W.Frag} {mg : Str → Option Value} {CTable CWorld CSplit : Addr} {os : Os} {P : Post}
theorem l_many (T : Txt K mg CTable CWorld CSplit) {d0 : D} {k c a b base border many : Nat} {x3 x4 x5 x6 x12 x13 x14 x15 x16 x17 x18 : Option R} (hbi : many ^ b ≤ base ^ a ↔ many ≤ border) (hbb : many = border → 2 < base → ¬ many ^ b ≤ (base - 1) ^ a) (m1 : 1 ≤ many) (m2 : many ≤ 1000) (hc : c ≤ 1) (ha : a ≤ 9999) (hb : b ≤ 9999) (b1 : 1 ≤ base) (b2 : base ≤ 1000000)
    (hN : ∀ y12 y14 y15 y16, P.nx ⟨[some (.sh d0), some (.ow k), some (.sh (tabR CTable)), x3, x4, x5, x6, some (.sh (.int base)), some (.sh (.int border)), some (.sh (.int c)), some (.sh (splitD CTable CSplit ("r", 2) c a b)), some (.sh (.int many)), y12, x13, y14, y15, y16, x17, x18], os⟩) :
    w_many K CTable CWorld CSplit ⟨[some (.sh d0), some (.ow k), some (.sh (tabR CTable)), x3, x4, x5, x6, some (.sh (.int base)), some (.sh (.int border)), some (.sh (.int c)), some (.sh (splitD CTable CSplit ("r", 2) c a b)), some (.sh (.int many)), x12, x13, x14, x15, x16, x17, x18], os⟩ P := by
  have hz : many ≤ sizeLine := by rw [sizeLine_eq]; omega
  have hz2 : many + 1 ≤ sizeLine := by rw [sizeLine_eq]; omega
  have hcc : c = 0 ∨ c = 1 := by omega
  unfold w_many
  refine seq_of (fun en => en = ⟨[some (.sh d0), some (.ow k), some (.sh (tabR CTable)), x3, x4, x5, x6, some (.sh (.int base)), some (.sh (.int border)), some (.sh (.int c)), some (.sh (splitD CTable CSplit ("r", 2) c a b)), some (.sh (.int many)), some (.sh (.lst (((prs c many).map row2).map rowT))), x13, x14, x15, x16, x17, x18], os⟩) (fun N hN => ?_) ?_
  · have e0 : prs 0 many = (List.range many).map (fun i : Nat => ((7 : Int), (i : Int))) ++ [(8, 1000)] := if_pos rfl
    have e1 : prs 1 many = (List.range many).map (fun i : Nat => ((i : Int), (7 : Int))) ++ [(1000, 8)] := if_neg (by decide)
    rcases hcc with rfl | rfl
    · simp [wLc, wipeR, restR, hz, wRet, wRetN, wAndV, wOrV, wNotV, wF, wCons, wNil, wV, wC, o1, o2, fIsi, fLen, fAll, fInt, fAbs, fII, fTup, fList, startR, R.fz, R.val, isiD, clsD, clsL, tyD, insOk, bodyPost, wSeq, wNext, wIfS, wT, w2, oAdd, oSub, oI, oIc, oMulW, oDivW, oMod, oPow, oLt, oLe, oGt, oGe, oEq, wIsN, D.isNon, wChain, wIf, wFld, wTup, wLst, shs, wSet, wOwn, wPar, wPar3, wCall, wMake, wMeth, wExpr, wAsgE, geT, geCons, geNil, geF, putD, wAsgT, gT, gsCons, gsNil, gN, iSeq, iOne, iRng, iZip, wNeg, wAnd, wOr, wNot, seqD, shs, oIx, oIxA, oIn, inD, wPut, setD, wGet2, wNewD, wYes, noX, dcD, blsD, eqD, shD, toPy, toPyL, PyData.eqv, PyData.eqvAll, SeqAt.shaped, PyData.canLay0, PyData.canLayAll0, PyData.depth, PyData.depthAll, and_assoc, sz1, sz2, sz3, kit_self, lookup_hd, lookup_tl, Int.natCast_inj, show ((0 : Nat) : Int) = 0 from rfl, kb_NoneType_bool, kb_NoneType_int, kb_NoneType_str, kb_NoneType_list, kb_NoneType_tuple, kb_NoneType_dict, kb_bool_bool, kb_bool_int, kb_bool_str, kb_bool_list, kb_bool_tuple, kb_bool_dict, kb_int_bool, kb_int_int, kb_int_str, kb_int_list, kb_int_tuple, kb_int_dict, kb_str_bool, kb_str_int, kb_str_str, kb_str_list, kb_str_tuple, kb_str_dict, kb_list_bool, kb_list_int, kb_list_str, kb_list_list, kb_list_tuple, kb_list_dict, kb_tuple_bool, kb_tuple_int, kb_tuple_str, kb_tuple_list, kb_tuple_tuple, kb_tuple_dict, kb_dict_bool, kb_dict_int, kb_dict_str, kb_dict_list, kb_dict_tuple, kb_dict_dict]
      refine lcL_map (f := fun d => .tup [.int 7, d]) rfl (fun d hd P PX h => ?_) ?_
      · obtain ⟨i, hi, rfl⟩ := List.mem_map.mp hd
        simpa [wRet, wRetN, wAndV, wOrV, wNotV, wF, wCons, wNil, wV, wC, o1, o2, fIsi, fLen, fAll, fInt, fAbs, fII, fTup, fList, startR, R.fz, R.val, isiD, clsD, clsL, tyD, insOk, bodyPost, wSeq, wNext, wIfS, wT, w2, oAdd, oSub, oI, oIc, oMulW, oDivW, oMod, oPow, oLt, oLe, oGt, oGe, oEq, wIsN, D.isNon, wChain, wIf, wFld, wTup, wLst, shs, wSet, wOwn, wPar, wPar3, wCall, wMake, wMeth, wExpr, wAsgE, geT, geCons, geNil, geF, putD, wAsgT, gT, gsCons, gsNil, gN, iSeq, iOne, iRng, iZip, wNeg, wAnd, wOr, wNot, seqD, shs, oIx, oIxA, oIn, inD, wPut, setD, wGet2, wNewD, wYes, noX, dcD, blsD, eqD, shD, toPy, toPyL, PyData.eqv, PyData.eqvAll, SeqAt.shaped, PyData.canLay0, PyData.canLayAll0, PyData.depth, PyData.depthAll, and_assoc, sz1, sz2, sz3, kit_self, lookup_hd, lookup_tl, Int.natCast_inj, show ((0 : Nat) : Int) = 0 from rfl, kb_NoneType_bool, kb_NoneType_int, kb_NoneType_str, kb_NoneType_list, kb_NoneType_tuple, kb_NoneType_dict, kb_bool_bool, kb_bool_int, kb_bool_str, kb_bool_list, kb_bool_tuple, kb_bool_dict, kb_int_bool, kb_int_int, kb_int_str, kb_int_list, kb_int_tuple, kb_int_dict, kb_str_bool, kb_str_int, kb_str_str, kb_str_list, kb_str_tuple, kb_str_dict, kb_list_bool, kb_list_int, kb_list_str, kb_list_list, kb_list_tuple, kb_list_dict, kb_tuple_bool, kb_tuple_int, kb_tuple_str, kb_tuple_list, kb_tuple_tuple, kb_tuple_dict, kb_dict_bool, kb_dict_int, kb_dict_str, kb_dict_list, kb_dict_tuple, kb_dict_dict] using h
      · have := hN _ rfl
        rw [e0] at this
        simp [hz2, wRet, wRetN, wAndV, wOrV, wNotV, wF, wCons, wNil, wV, wC, o1, o2, fIsi, fLen, fAll, fInt, fAbs, fII, fTup, fList, startR, R.fz, R.val, isiD, clsD, clsL, tyD, insOk, bodyPost, wSeq, wNext, wIfS, wT, w2, oAdd, oSub, oI, oIc, oMulW, oDivW, oMod, oPow, oLt, oLe, oGt, oGe, oEq, wIsN, D.isNon, wChain, wIf, wFld, wTup, wLst, shs, wSet, wOwn, wPar, wPar3, wCall, wMake, wMeth, wExpr, wAsgE, geT, geCons, geNil, geF, putD, wAsgT, gT, gsCons, gsNil, gN, iSeq, iOne, iRng, iZip, wNeg, wAnd, wOr, wNot, seqD, shs, oIx, oIxA, oIn, inD, wPut, setD, wGet2, wNewD, wYes, noX, dcD, blsD, eqD, shD, toPy, toPyL, PyData.eqv, PyData.eqvAll, SeqAt.shaped, PyData.canLay0, PyData.canLayAll0, PyData.depth, PyData.depthAll, and_assoc, sz1, sz2, sz3, kit_self, lookup_hd, lookup_tl, Int.natCast_inj, show ((0 : Nat) : Int) = 0 from rfl, kb_NoneType_bool, kb_NoneType_int, kb_NoneType_str, kb_NoneType_list, kb_NoneType_tuple, kb_NoneType_dict, kb_bool_bool, kb_bool_int, kb_bool_str, kb_bool_list, kb_bool_tuple, kb_bool_dict, kb_int_bool, kb_int_int, kb_int_str, kb_int_list, kb_int_tuple, kb_int_dict, kb_str_bool, kb_str_int, kb_str_str, kb_str_list, kb_str_tuple, kb_str_dict, kb_list_bool, kb_list_int, kb_list_str, kb_list_list, kb_list_tuple, kb_list_dict, kb_tuple_bool, kb_tuple_int, kb_tuple_str, kb_tuple_list, kb_tuple_tuple, kb_tuple_dict, kb_dict_bool, kb_dict_int, kb_dict_str, kb_dict_list, kb_dict_tuple, kb_dict_dict]
        simpa [row2, rowT, Function.comp_def] using this
    · simp [wLc, wipeR, restR, hz, wRet, wRetN, wAndV, wOrV, wNotV, wF, wCons, wNil, wV, wC, o1, o2, fIsi, fLen, fAll, fInt, fAbs, fII, fTup, fList, startR, R.fz, R.val, isiD, clsD, clsL, tyD, insOk, bodyPost, wSeq, wNext, wIfS, wT, w2, oAdd, oSub, oI, oIc, oMulW, oDivW, oMod, oPow, oLt, oLe, oGt, oGe, oEq, wIsN, D.isNon, wChain, wIf, wFld, wTup, wLst, shs, wSet, wOwn, wPar, wPar3, wCall, wMake, wMeth, wExpr, wAsgE, geT, geCons, geNil, geF, putD, wAsgT, gT, gsCons, gsNil, gN, iSeq, iOne, iRng, iZip, wNeg, wAnd, wOr, wNot, seqD, shs, oIx, oIxA, oIn, inD, wPut, setD, wGet2, wNewD, wYes, noX, dcD, blsD, eqD, shD, toPy, toPyL, PyData.eqv, PyData.eqvAll, SeqAt.shaped, PyData.canLay0, PyData.canLayAll0, PyData.depth, PyData.depthAll, and_assoc, sz1, sz2, sz3, kit_self, lookup_hd, lookup_tl, Int.natCast_inj, show ((0 : Nat) : Int) = 0 from rfl, kb_NoneType_bool, kb_NoneType_int, kb_NoneType_str, kb_NoneType_list, kb_NoneType_tuple, kb_NoneType_dict, kb_bool_bool, kb_bool_int, kb_bool_str, kb_bool_list, kb_bool_tuple, kb_bool_dict, kb_int_bool, kb_int_int, kb_int_str, kb_int_list, kb_int_tuple, kb_int_dict, kb_str_bool, kb_str_int, kb_str_str, kb_str_list, kb_str_tuple, kb_str_dict, kb_list_bool, kb_list_int, kb_list_str, kb_list_list, kb_list_tuple, kb_list_dict, kb_tuple_bool, kb_tuple_int, kb_tuple_str, kb_tuple_list, kb_tuple_tuple, kb_tuple_dict, kb_dict_bool, kb_dict_int, kb_dict_str, kb_dict_list, kb_dict_tuple, kb_dict_dict]
      refine lcL_map (f := fun d => .tup [d, .int 7]) rfl (fun d hd P PX h => ?_) ?_
      · obtain ⟨i, hi, rfl⟩ := List.mem_map.mp hd
        simpa [wRet, wRetN, wAndV, wOrV, wNotV, wF, wCons, wNil, wV, wC, o1, o2, fIsi, fLen, fAll, fInt, fAbs, fII, fTup, fList, startR, R.fz, R.val, isiD, clsD, clsL, tyD, insOk, bodyPost, wSeq, wNext, wIfS, wT, w2, oAdd, oSub, oI, oIc, oMulW, oDivW, oMod, oPow, oLt, oLe, oGt, oGe, oEq, wIsN, D.isNon, wChain, wIf, wFld, wTup, wLst, shs, wSet, wOwn, wPar, wPar3, wCall, wMake, wMeth, wExpr, wAsgE, geT, geCons, geNil, geF, putD, wAsgT, gT, gsCons, gsNil, gN, iSeq, iOne, iRng, iZip, wNeg, wAnd, wOr, wNot, seqD, shs, oIx, oIxA, oIn, inD, wPut, setD, wGet2, wNewD, wYes, noX, dcD, blsD, eqD, shD, toPy, toPyL, PyData.eqv, PyData.eqvAll, SeqAt.shaped, PyData.canLay0, PyData.canLayAll0, PyData.depth, PyData.depthAll, and_assoc, sz1, sz2, sz3, kit_self, lookup_hd, lookup_tl, Int.natCast_inj, show ((0 : Nat) : Int) = 0 from rfl, kb_NoneType_bool, kb_NoneType_int, kb_NoneType_str, kb_NoneType_list, kb_NoneType_tuple, kb_NoneType_dict, kb_bool_bool, kb_bool_int, kb_bool_str, kb_bool_list, kb_bool_tuple, kb_bool_dict, kb_int_bool, kb_int_int, kb_int_str, kb_int_list, kb_int_tuple, kb_int_dict, kb_str_bool, kb_str_int, kb_str_str, kb_str_list, kb_str_tuple, kb_str_dict, kb_list_bool, kb_list_int, kb_list_str, kb_list_list, kb_list_tuple, kb_list_dict, kb_tuple_bool, kb_tuple_int, kb_tuple_str, kb_tuple_list, kb_tuple_tuple, kb_tuple_dict, kb_dict_bool, kb_dict_int, kb_dict_str, kb_dict_list, kb_dict_tuple, kb_dict_dict] using h
      · have := hN _ rfl
        rw [e1] at this
        simp [hz2, wRet, wRetN, wAndV, wOrV, wNotV, wF, wCons, wNil, wV, wC, o1, o2, fIsi, fLen, fAll, fInt, fAbs, fII, fTup, fList, startR, R.fz, R.val, isiD, clsD, clsL, tyD, insOk, bodyPost, wSeq, wNext, wIfS, wT, w2, oAdd, oSub, oI, oIc, oMulW, oDivW, oMod, oPow, oLt, oLe, oGt, oGe, oEq, wIsN, D.isNon, wChain, wIf, wFld, wTup, wLst, shs, wSet, wOwn, wPar, wPar3, wCall, wMake, wMeth, wExpr, wAsgE, geT, geCons, geNil, geF, putD, wAsgT, gT, gsCons, gsNil, gN, iSeq, iOne, iRng, iZip, wNeg, wAnd, wOr, wNot, seqD, shs, oIx, oIxA, oIn, inD, wPut, setD, wGet2, wNewD, wYes, noX, dcD, blsD, eqD, shD, toPy, toPyL, PyData.eqv, PyData.eqvAll, SeqAt.shaped, PyData.canLay0, PyData.canLayAll0, PyData.depth, PyData.depthAll, and_assoc, sz1, sz2, sz3, kit_self, lookup_hd, lookup_tl, Int.natCast_inj, show ((0 : Nat) : Int) = 0 from rfl, kb_NoneType_bool, kb_NoneType_int, kb_NoneType_str, kb_NoneType_list, kb_NoneType_tuple, kb_NoneType_dict, kb_bool_bool, kb_bool_int, kb_bool_str, kb_bool_list, kb_bool_tuple, kb_bool_dict, kb_int_bool, kb_int_int, kb_int_str, kb_int_list, kb_int_tuple, kb_int_dict, kb_str_bool, kb_str_int, kb_str_str, kb_str_list, kb_str_tuple, kb_str_dict, kb_list_bool, kb_list_int, kb_list_str, kb_list_list, kb_list_tuple, kb_list_dict, kb_tuple_bool, kb_tuple_int, kb_tuple_str, kb_tuple_list, kb_tuple_tuple, kb_tuple_dict, kb_dict_bool, kb_dict_int, kb_dict_str, kb_dict_list, kb_dict_tuple, kb_dict_dict]
        simpa [row2, rowT, Function.comp_def] using this
  rintro _ rfl
  refine seq_of (fun en => en = ⟨[some (.sh d0), some (.ow k), some (.sh (tabR CTable)), x3, x4, x5, x6, some (.sh (.int base)), some (.sh (.int border)), some (.sh (.int c)), some (.sh (splitD CTable CSplit ("r", 2) c a b)), some (.sh (.int many)), some (.sh (.lst (((prs c many).map row2).map rowT))), x13, some (.sh (worldD CTable CWorld ("r", 2) ((prs c many).map row2))), x15, x16, x17, x18], os⟩) (fun N hN => ?_) ?_
  · unfold wSet
    refine mk_world (t := ("r", 2)) (rws := (prs c many).map row2) (fun P PX h => ?_) (.inr rfl) (prs_ok c many m2) (by rw [List.length_map, prs_len]; omega) (srt_of (prs_asc c many m2)) ?_
    · simpa [tabR, wRet, wRetN, wAndV, wOrV, wNotV, wF, wCons, wNil, wV, wC, o1, o2, fIsi, fLen, fAll, fInt, fAbs, fII, fTup, fList, startR, R.fz, R.val, isiD, clsD, clsL, tyD, insOk, bodyPost, wSeq, wNext, wIfS, wT, w2, oAdd, oSub, oI, oIc, oMulW, oDivW, oMod, oPow, oLt, oLe, oGt, oGe, oEq, wIsN, D.isNon, wChain, wIf, wFld, wTup, wLst, shs, wSet, wOwn, wPar, wPar3, wCall, wMake, wMeth, wExpr, wAsgE, geT, geCons, geNil, geF, putD, wAsgT, gT, gsCons, gsNil, gN, iSeq, iOne, iRng, iZip, wNeg, wAnd, wOr, wNot, seqD, shs, oIx, oIxA, oIn, inD, wPut, setD, wGet2, wNewD, wYes, noX, dcD, blsD, eqD, shD, toPy, toPyL, PyData.eqv, PyData.eqvAll, SeqAt.shaped, PyData.canLay0, PyData.canLayAll0, PyData.depth, PyData.depthAll, and_assoc, sz1, sz2, sz3, kit_self, lookup_hd, lookup_tl, Int.natCast_inj, show ((0 : Nat) : Int) = 0 from rfl, kb_NoneType_bool, kb_NoneType_int, kb_NoneType_str, kb_NoneType_list, kb_NoneType_tuple, kb_NoneType_dict, kb_bool_bool, kb_bool_int, kb_bool_str, kb_bool_list, kb_bool_tuple, kb_bool_dict, kb_int_bool, kb_int_int, kb_int_str, kb_int_list, kb_int_tuple, kb_int_dict, kb_str_bool, kb_str_int, kb_str_str, kb_str_list, kb_str_tuple, kb_str_dict, kb_list_bool, kb_list_int, kb_list_str, kb_list_list, kb_list_tuple, kb_list_dict, kb_tuple_bool, kb_tuple_int, kb_tuple_str, kb_tuple_list, kb_tuple_tuple, kb_tuple_dict, kb_dict_bool, kb_dict_int, kb_dict_str, kb_dict_list, kb_dict_tuple, kb_dict_dict] using h
    · exact hN _ rfl
  rintro _ rfl
  refine seq_of (fun en => en = ⟨[some (.sh d0), some (.ow k), some (.sh (tabR CTable)), x3, x4, x5, x6, some (.sh (.int base)), some (.sh (.int border)), some (.sh (.int c)), some (.sh (splitD CTable CSplit ("r", 2) c a b)), some (.sh (.int many)), some (.sh (.lst (((prs c many).map row2).map rowT))), x13, some (.sh (worldD CTable CWorld ("r", 2) ((prs c many).map row2))),
    some (.sh (.tup ((((prs c many).map row2).filter (lightR ((prs c many).map row2) c a b base)).map rowT))), some (.sh (.tup ((((prs c many).map row2).filter fun r => !lightR ((prs c many).map row2) c a b base r).map rowT))), x17, x18], os⟩) (fun N hN => ?_) ?_
  · have h2 : ∀ r ∈ (prs c many).map row2, r.length = 2 := fun r hr => by
      obtain ⟨p, _, rfl⟩ := List.mem_map.mp hr; rfl
    generalize hrw : (prs c many).map row2 = rws at hN h2
    have hl : rws.length ≤ 20000 := by rw [← hrw, List.length_map, prs_len]; omega
    simp [wRet, wRetN, wAndV, wOrV, wNotV, wF, wCons, wNil, wV, wC, o1, o2, fIsi, fLen, fAll, fInt, fAbs, fII, fTup, fList, startR, R.fz, R.val, isiD, clsD, clsL, tyD, insOk, bodyPost, wSeq, wNext, wIfS, wT, w2, oAdd, oSub, oI, oIc, oMulW, oDivW, oMod, oPow, oLt, oLe, oGt, oGe, oEq, wIsN, D.isNon, wChain, wIf, wFld, wTup, wLst, shs, wSet, wOwn, wPar, wPar3, wCall, wMake, wMeth, wExpr, wAsgE, geT, geCons, geNil, geF, putD, wAsgT, gT, gsCons, gsNil, gN, iSeq, iOne, iRng, iZip, wNeg, wAnd, wOr, wNot, seqD, shs, oIx, oIxA, oIn, inD, wPut, setD, wGet2, wNewD, wYes, noX, dcD, blsD, eqD, shD, toPy, toPyL, PyData.eqv, PyData.eqvAll, SeqAt.shaped, PyData.canLay0, PyData.canLayAll0, PyData.depth, PyData.depthAll, and_assoc, sz1, sz2, sz3, kit_self, lookup_hd, lookup_tl, Int.natCast_inj, show ((0 : Nat) : Int) = 0 from rfl, kb_NoneType_bool, kb_NoneType_int, kb_NoneType_str, kb_NoneType_list, kb_NoneType_tuple, kb_NoneType_dict, kb_bool_bool, kb_bool_int, kb_bool_str, kb_bool_list, kb_bool_tuple, kb_bool_dict, kb_int_bool, kb_int_int, kb_int_str, kb_int_list, kb_int_tuple, kb_int_dict, kb_str_bool, kb_str_int, kb_str_str, kb_str_list, kb_str_tuple, kb_str_dict, kb_list_bool, kb_list_int, kb_list_str, kb_list_list, kb_list_tuple, kb_list_dict, kb_tuple_bool, kb_tuple_int, kb_tuple_str, kb_tuple_list, kb_tuple_tuple, kb_tuple_dict, kb_dict_bool, kb_dict_int, kb_dict_str, kb_dict_list, kb_dict_tuple, kb_dict_dict]
    refine ⟨rws, ("r", 2), c, a, b, base, rfl, by decide +kernel, h2, hc, hl, ha, hb, b1, b2, ?_⟩
    simp [wRet, wRetN, wAndV, wOrV, wNotV, wF, wCons, wNil, wV, wC, o1, o2, fIsi, fLen, fAll, fInt, fAbs, fII, fTup, fList, startR, R.fz, R.val, isiD, clsD, clsL, tyD, insOk, bodyPost, wSeq, wNext, wIfS, wT, w2, oAdd, oSub, oI, oIc, oMulW, oDivW, oMod, oPow, oLt, oLe, oGt, oGe, oEq, wIsN, D.isNon, wChain, wIf, wFld, wTup, wLst, shs, wSet, wOwn, wPar, wPar3, wCall, wMake, wMeth, wExpr, wAsgE, geT, geCons, geNil, geF, putD, wAsgT, gT, gsCons, gsNil, gN, iSeq, iOne, iRng, iZip, wNeg, wAnd, wOr, wNot, seqD, shs, oIx, oIxA, oIn, inD, wPut, setD, wGet2, wNewD, wYes, noX, dcD, blsD, eqD, shD, toPy, toPyL, PyData.eqv, PyData.eqvAll, SeqAt.shaped, PyData.canLay0, PyData.canLayAll0, PyData.depth, PyData.depthAll, and_assoc, sz1, sz2, sz3, kit_self, lookup_hd, lookup_tl, Int.natCast_inj, show ((0 : Nat) : Int) = 0 from rfl, kb_NoneType_bool, kb_NoneType_int, kb_NoneType_str, kb_NoneType_list, kb_NoneType_tuple, kb_NoneType_dict, kb_bool_bool, kb_bool_int, kb_bool_str, kb_bool_list, kb_bool_tuple, kb_bool_dict, kb_int_bool, kb_int_int, kb_int_str, kb_int_list, kb_int_tuple, kb_int_dict, kb_str_bool, kb_str_int, kb_str_str, kb_str_list, kb_str_tuple, kb_str_dict, kb_list_bool, kb_list_int, kb_list_str, kb_list_list, kb_list_tuple, kb_list_dict, kb_tuple_bool, kb_tuple_int, kb_tuple_str, kb_tuple_list, kb_tuple_tuple, kb_tuple_dict, kb_dict_bool, kb_dict_int, kb_dict_str, kb_dict_list, kb_dict_tuple, kb_dict_dict]
    exact hN _ rfl
  rintro _ rfl
  have ll := light_len c many a b base hc b1
  have hl := heavy_len c many a b base hc b1
  refine seq_of (fun en => en = ⟨[some (.sh d0), some (.ow k), some (.sh (tabR CTable)), x3, x4, x5, x6, some (.sh (.int base)), some (.sh (.int border)), some (.sh (.int c)), some (.sh (splitD CTable CSplit ("r", 2) c a b)), some (.sh (.int many)), some (.sh (.lst (((prs c many).map row2).map rowT))), x13, some (.sh (worldD CTable CWorld ("r", 2) ((prs c many).map row2))),
    some (.sh (.tup ((((prs c many).map row2).filter (lightR ((prs c many).map row2) c a b base)).map rowT))), some (.sh (.tup ((((prs c many).map row2).filter fun r => !lightR ((prs c many).map row2) c a b base r).map rowT))), x17, x18], os⟩) (fun N hN => ?_) ?_
  · have ll' : ((((prs c many).map row2).filter (lightR ((prs c many).map row2) c a b base)).map rowT).length = if many ^ b ≤ base ^ a then many + 1 else 1 := by rw [List.length_map]; exact ll
    have hl' : ((((prs c many).map row2).filter fun r => !lightR ((prs c many).map row2) c a b base r).map rowT).length = if many ^ b ≤ base ^ a then 0 else many := by rw [List.length_map]; exact hl
    have hN' := hN _ rfl
    generalize ((((prs c many).map row2).filter (lightR ((prs c many).map row2) c a b base)).map rowT) = Lt at hN' ll'
    generalize ((((prs c many).map row2).filter fun r => !lightR ((prs c many).map row2) c a b base r).map rowT) = Hv at hN' hl'
    by_cases h : many ^ b ≤ base ^ a
    · rw [if_pos h] at ll' hl'
      have hb' := hbi.mp h
      have e1 : decide (border < many) = false := by rw [decide_eq_false_iff_not]; omega
      simp [ll', hl', hb', wRet, wRetN, wAndV, wOrV, wNotV, wF, wCons, wNil, wV, wC, o1, o2, fIsi, fLen, fAll, fInt, fAbs, fII, fTup, fList, startR, R.fz, R.val, isiD, clsD, clsL, tyD, insOk, bodyPost, wSeq, wNext, wIfS, wT, w2, oAdd, oSub, oI, oIc, oMulW, oDivW, oMod, oPow, oLt, oLe, oGt, oGe, oEq, wIsN, D.isNon, wChain, wIf, wFld, wTup, wLst, shs, wSet, wOwn, wPar, wPar3, wCall, wMake, wMeth, wExpr, wAsgE, geT, geCons, geNil, geF, putD, wAsgT, gT, gsCons, gsNil, gN, iSeq, iOne, iRng, iZip, wNeg, wAnd, wOr, wNot, seqD, shs, oIx, oIxA, oIn, inD, wPut, setD, wGet2, wNewD, wYes, noX, dcD, blsD, eqD, shD, toPy, toPyL, PyData.eqv, PyData.eqvAll, SeqAt.shaped, PyData.canLay0, PyData.canLayAll0, PyData.depth, PyData.depthAll, and_assoc, sz1, sz2, sz3, kit_self, lookup_hd, lookup_tl, Int.natCast_inj, show ((0 : Nat) : Int) = 0 from rfl, kb_NoneType_bool, kb_NoneType_int, kb_NoneType_str, kb_NoneType_list, kb_NoneType_tuple, kb_NoneType_dict, kb_bool_bool, kb_bool_int, kb_bool_str, kb_bool_list, kb_bool_tuple, kb_bool_dict, kb_int_bool, kb_int_int, kb_int_str, kb_int_list, kb_int_tuple, kb_int_dict, kb_str_bool, kb_str_int, kb_str_str, kb_str_list, kb_str_tuple, kb_str_dict, kb_list_bool, kb_list_int, kb_list_str, kb_list_list, kb_list_tuple, kb_list_dict, kb_tuple_bool, kb_tuple_int, kb_tuple_str, kb_tuple_list, kb_tuple_tuple, kb_tuple_dict, kb_dict_bool, kb_dict_int, kb_dict_str, kb_dict_list, kb_dict_tuple, kb_dict_dict]
      rw [e1]
      simpa using hN'
    · rw [if_neg h] at ll' hl'
      have hb' : ¬ many ≤ border := fun q => h (hbi.mpr q)
      have e1 : ((many : Int) == 0) = false := by rw [beq_eq_false_iff_ne]; omega
      have e2 : ((1 : Int) + (many : Int) == (many : Int) + 1) = true := by rw [beq_iff_eq]; omega
      have e3 : decide (border < many) = true := by rw [decide_eq_true_eq]; omega
      simp [ll', hl', hb', wRet, wRetN, wAndV, wOrV, wNotV, wF, wCons, wNil, wV, wC, o1, o2, fIsi, fLen, fAll, fInt, fAbs, fII, fTup, fList, startR, R.fz, R.val, isiD, clsD, clsL, tyD, insOk, bodyPost, wSeq, wNext, wIfS, wT, w2, oAdd, oSub, oI, oIc, oMulW, oDivW, oMod, oPow, oLt, oLe, oGt, oGe, oEq, wIsN, D.isNon, wChain, wIf, wFld, wTup, wLst, shs, wSet, wOwn, wPar, wPar3, wCall, wMake, wMeth, wExpr, wAsgE, geT, geCons, geNil, geF, putD, wAsgT, gT, gsCons, gsNil, gN, iSeq, iOne, iRng, iZip, wNeg, wAnd, wOr, wNot, seqD, shs, oIx, oIxA, oIn, inD, wPut, setD, wGet2, wNewD, wYes, noX, dcD, blsD, eqD, shD, toPy, toPyL, PyData.eqv, PyData.eqvAll, SeqAt.shaped, PyData.canLay0, PyData.canLayAll0, PyData.depth, PyData.depthAll, and_assoc, sz1, sz2, sz3, kit_self, lookup_hd, lookup_tl, Int.natCast_inj, show ((0 : Nat) : Int) = 0 from rfl, kb_NoneType_bool, kb_NoneType_int, kb_NoneType_str, kb_NoneType_list, kb_NoneType_tuple, kb_NoneType_dict, kb_bool_bool, kb_bool_int, kb_bool_str, kb_bool_list, kb_bool_tuple, kb_bool_dict, kb_int_bool, kb_int_int, kb_int_str, kb_int_list, kb_int_tuple, kb_int_dict, kb_str_bool, kb_str_int, kb_str_str, kb_str_list, kb_str_tuple, kb_str_dict, kb_list_bool, kb_list_int, kb_list_str, kb_list_list, kb_list_tuple, kb_list_dict, kb_tuple_bool, kb_tuple_int, kb_tuple_str, kb_tuple_list, kb_tuple_tuple, kb_tuple_dict, kb_dict_bool, kb_dict_int, kb_dict_str, kb_dict_list, kb_dict_tuple, kb_dict_dict]
      simp only [e1, e2, e3, Bool.not_true]
      simpa using hN'
  rintro _ rfl
  by_cases hmb : many = border
  · subst hmb
    by_cases hb2 : 2 < base
    · have nh := hbb rfl hb2
      have h2 : ∀ r ∈ (prs c many).map row2, r.length = 2 := fun r hr => by
        obtain ⟨p, _, rfl⟩ := List.mem_map.mp hr; rfl
      have hl3 := heavy_len c many a b (base - 1) hc (by omega)
      rw [if_neg nh] at hl3
      have hlen : ((prs c many).map row2).length ≤ 20000 := by rw [List.length_map, prs_len]; omega
      have eb : ((base : Int) - 1) = ((base - 1 : Nat) : Int) := by omega
      simp only [wIfS, wAnd]
      simp [show (2 : Int) < (base : Int) by omega, wT, wV, wC, w2, wCall, wCons, wNil, oEq, oGt, oI, oSub, R.fz, R.val, sh_int, eq_int']
      rw [eb]
      refine ⟨(prs c many).map row2, ("r", 2), c, a, b, base - 1, rfl, by decide +kernel, h2, hc, hlen, ha, hb, by omega, by omega, ?_⟩
      generalize hH : (((prs c many).map row2).filter fun r => !lightR ((prs c many).map row2) c a b (base - 1) r) = Hv at hl3
      have hne : Hv.isEmpty = false := by
        cases Hv with
        | nil => simp at hl3; omega
        | cons _ _ => rfl
      simp [oIxA, oIx, atI, ixN, wTup, wNil, shs, R.fz, R.val, sh_nil, sh_rows, eq_rows_nil, hne]
      simpa [wNext] using hN _ _ _ _
    · have e2 : decide ((2 : Int) < (base : Int)) = false := by rw [decide_eq_false_iff_not]; omega
      simp [wRet, wRetN, wAndV, wOrV, wNotV, wF, wCons, wNil, wV, wC, o1, o2, fIsi, fLen, fAll, fInt, fAbs, fII, fTup, fList, startR, R.fz, R.val, isiD, clsD, clsL, tyD, insOk, bodyPost, wSeq, wNext, wIfS, wT, w2, oAdd, oSub, oI, oIc, oMulW, oDivW, oMod, oPow, oLt, oLe, oGt, oGe, oEq, wIsN, D.isNon, wChain, wIf, wFld, wTup, wLst, shs, wSet, wOwn, wPar, wPar3, wCall, wMake, wMeth, wExpr, wAsgE, geT, geCons, geNil, geF, putD, wAsgT, gT, gsCons, gsNil, gN, iSeq, iOne, iRng, iZip, wNeg, wAnd, wOr, wNot, seqD, shs, oIx, oIxA, oIn, inD, wPut, setD, wGet2, wNewD, wYes, noX, dcD, blsD, eqD, shD, toPy, toPyL, PyData.eqv, PyData.eqvAll, SeqAt.shaped, PyData.canLay0, PyData.canLayAll0, PyData.depth, PyData.depthAll, and_assoc, sz1, sz2, sz3, kit_self, lookup_hd, lookup_tl, Int.natCast_inj, show ((0 : Nat) : Int) = 0 from rfl, kb_NoneType_bool, kb_NoneType_int, kb_NoneType_str, kb_NoneType_list, kb_NoneType_tuple, kb_NoneType_dict, kb_bool_bool, kb_bool_int, kb_bool_str, kb_bool_list, kb_bool_tuple, kb_bool_dict, kb_int_bool, kb_int_int, kb_int_str, kb_int_list, kb_int_tuple, kb_int_dict, kb_str_bool, kb_str_int, kb_str_str, kb_str_list, kb_str_tuple, kb_str_dict, kb_list_bool, kb_list_int, kb_list_str, kb_list_list, kb_list_tuple, kb_list_dict, kb_tuple_bool, kb_tuple_int, kb_tuple_str, kb_tuple_list, kb_tuple_tuple, kb_tuple_dict, kb_dict_bool, kb_dict_int, kb_dict_str, kb_dict_list, kb_dict_tuple, kb_dict_dict]
      rw [e2]
      exact hN _ _ _ _
  · have e : ((many : Int) == (border : Int)) = false := by rw [beq_eq_false_iff_ne]; omega
    simp [e, hmb, wRet, wRetN, wAndV, wOrV, wNotV, wF, wCons, wNil, wV, wC, o1, o2, fIsi, fLen, fAll, fInt, fAbs, fII, fTup, fList, startR, R.fz, R.val, isiD, clsD, clsL, tyD, insOk, bodyPost, wSeq, wNext, wIfS, wT, w2, oAdd, oSub, oI, oIc, oMulW, oDivW, oMod, oPow, oLt, oLe, oGt, oGe, oEq, wIsN, D.isNon, wChain, wIf, wFld, wTup, wLst, shs, wSet, wOwn, wPar, wPar3, wCall, wMake, wMeth, wExpr, wAsgE, geT, geCons, geNil, geF, putD, wAsgT, gT, gsCons, gsNil, gN, iSeq, iOne, iRng, iZip, wNeg, wAnd, wOr, wNot, seqD, shs, oIx, oIxA, oIn, inD, wPut, setD, wGet2, wNewD, wYes, noX, dcD, blsD, eqD, shD, toPy, toPyL, PyData.eqv, PyData.eqvAll, SeqAt.shaped, PyData.canLay0, PyData.canLayAll0, PyData.depth, PyData.depthAll, and_assoc, sz1, sz2, sz3, kit_self, lookup_hd, lookup_tl, Int.natCast_inj, show ((0 : Nat) : Int) = 0 from rfl, kb_NoneType_bool, kb_NoneType_int, kb_NoneType_str, kb_NoneType_list, kb_NoneType_tuple, kb_NoneType_dict, kb_bool_bool, kb_bool_int, kb_bool_str, kb_bool_list, kb_bool_tuple, kb_bool_dict, kb_int_bool, kb_int_int, kb_int_str, kb_int_list, kb_int_tuple, kb_int_dict, kb_str_bool, kb_str_int, kb_str_str, kb_str_list, kb_str_tuple, kb_str_dict, kb_list_bool, kb_list_int, kb_list_str, kb_list_list, kb_list_tuple, kb_list_dict, kb_tuple_bool, kb_tuple_int, kb_tuple_str, kb_tuple_list, kb_tuple_tuple, kb_tuple_dict, kb_dict_bool, kb_dict_int, kb_dict_str, kb_dict_list, kb_dict_tuple, kb_dict_dict]
    exact hN _ _ _ _
end
end L2.TL.K08

/-! text K08r -/
set_option Elab.async false
set_option linter.all false
set_option maxRecDepth 100000
set_option maxHeartbeats 4000000
namespace L2.TL.K08
open PySem PySem.Spec PyProof.Rows L2.TL
def w_turn (K : PySem.W.Frag) (CTable CWorld CSplit : Addr) : WSx := (wSeq (wPar 4 5 (w2 oAdd (wC (.int 1)) (wCall (Φ__law_draw K CTable CWorld CSplit) (wCons (wV 1) (wCons (wC (.int 4)) wNil)))) (w2 oAdd (wC (.int 1)) (wCall (Φ__law_draw K CTable CWorld CSplit) (wCons (wV 1) (wCons (wC (.int 3)) wNil))))) (wSeq (wSet 6 (wIf (wT (w2 oGt (w2 oAdd (wV 4) (wV 5)) (wC (.int 3)))) (wCall (Φ__law_pick K CTable CWorld CSplit) (wCons (wV 1) (wCons (wLst (wCons (wC (.int 2)) (wCons (wC (.int 2)) (wCons (wC (.int 3)) wNil)))) wNil))) (w2 oAdd (wC (.int 2)) (wCall (Φ__law_draw K CTable CWorld CSplit) (wCons (wV 1) (wCons (wC (.int 5)) wNil)))))) (wSeq (wPar 7 8 (wCall (Φ__law_power K CTable CWorld CSplit) (wCons (wV 6) (wCons (wV 4) wNil))) (wCall (Φ__law_power K CTable CWorld CSplit) (wCons (wV 6) (wCons (wV 5) wNil)))) (wSeq (wSet 9 (wCall (Φ__law_draw K CTable CWorld CSplit) (wCons (wV 1) (wCons (wC (.int 2)) wNil)))) (wSeq (wSet 10 (wMake CSplit (Φ_Split_init K CTable CWorld CSplit) (wCons (wV 2) (wCons (wV 9) (wCons (wTup (wCons (wV 5) (wCons (wV 4) wNil))) wNil))))) (wFor (iSeq (wTup (wCons (w2 oSub (wV 8) (wC (.int 1))) (wCons (wV 8) (wCons (w2 oAdd (wV 8) (wC (.int 1))) wNil))))) (gN 11) (w_many K CTable CWorld CSplit)))))))
section
variable {K : PySem.W.Frag} {mg : Str → Option Value} {CTable CWorld CSplit : Addr} {os : Os} {P : Post}
theorem l_turn (T : Txt K mg CTable CWorld CSplit) {d0 : D} {cells : List Int} {at' rest : Nat} {x3 x4 x5 x6 x7 x8 x9 x10 x11 x12 x13 x14 x15 x16 x17 x18 : Option R} (hc : cells.length ≤ 63) (ha : at' ≤ 900)
    (hN : ∀ y4 y5 y6 y7 y8 y9 y10 y11 y12 y14 y15 y16, ∀ at2 rest2 : Nat, at2 ≤ at' + 5 → P.nx ⟨[some (.sh d0), some (.ow os.length), some (.sh (tabR CTable)), x3, y4, y5, y6, y7, y8, y9, y10, y11, y12, x13, y14, y15, y16, x17, x18], os ++ [some (penD cells at2 rest2)]⟩) :
    w_turn K CTable CWorld CSplit ⟨[some (.sh d0), some (.ow os.length), some (.sh (tabR CTable)), x3, x4, x5, x6, x7, x8, x9, x10, x11, x12, x13, x14, x15, x16, x17, x18], os ++ [some (penD cells at' rest)]⟩ P := by
  unfold w_turn
  refine seq_of (fun en => ∃ bottom top at2 rest2 : Nat, 1 ≤ bottom ∧ bottom ≤ 4 ∧ 1 ≤ top ∧ top ≤ 3 ∧ at2 ≤ at' + 2 ∧ en = ⟨[some (.sh d0), some (.ow os.length), some (.sh (tabR CTable)), x3, some (.sh (.int bottom)), some (.sh (.int top)), x6, x7, x8, x9, x10, x11, x12, x13, x14, x15, x16, x17, x18], os ++ [some (penD cells at2 rest2)]⟩) (fun N hN => ?_) ?_
  · simp [wRet, wRetN, wAndV, wOrV, wNotV, wF, wCons, wNil, wV, wC, o1, o2, fIsi, fLen, fAll, fInt, fAbs, fII, fTup, fList, startR, R.fz, R.val, isiD, clsD, clsL, tyD, insOk, bodyPost, wSeq, wNext, wIfS, wT, w2, oAdd, oSub, oI, oIc, oMulW, oDivW, oMod, oPow, oLt, oLe, oGt, oGe, oEq, wIsN, D.isNon, wChain, wIf, wFld, wTup, wLst, shs, wSet, wOwn, wPar, wPar3, wCall, wMake, wMeth, wExpr, wAsgE, geT, geCons, geNil, geF, putD, wAsgT, gT, gsCons, gsNil, gN, iSeq, iOne, iRng, iZip, wNeg, wAnd, wOr, wNot, seqD, shs, oIx, oIxA, oIn, inD, wPut, setD, wGet2, wNewD, wYes, noX, dcD, blsD, eqD, shD, toPy, toPyL, PyData.eqv, PyData.eqvAll, SeqAt.shaped, PyData.canLay0, PyData.canLayAll0, PyData.depth, PyData.depthAll, and_assoc, sz1, sz2, sz3, kit_self, lookup_hd, lookup_tl, Int.natCast_inj, show ((0 : Nat) : Int) = 0 from rfl, kb_NoneType_bool, kb_NoneType_int, kb_NoneType_str, kb_NoneType_list, kb_NoneType_tuple, kb_NoneType_dict, kb_bool_bool, kb_bool_int, kb_bool_str, kb_bool_list, kb_bool_tuple, kb_bool_dict, kb_int_bool, kb_int_int, kb_int_str, kb_int_list, kb_int_tuple, kb_int_dict, kb_str_bool, kb_str_int, kb_str_str, kb_str_list, kb_str_tuple, kb_str_dict, kb_list_bool, kb_list_int, kb_list_str, kb_list_list, kb_list_tuple, kb_list_dict, kb_tuple_bool, kb_tuple_int, kb_tuple_str, kb_tuple_list, kb_tuple_tuple, kb_tuple_dict, kb_dict_bool, kb_dict_int, kb_dict_str, kb_dict_list, kb_dict_tuple, kb_dict_dict]
    refine ⟨os.length, cells, at', rest, 4, rfl, get_last _ _, hc, by omega, by omega, by omega, fun v at2 rest2 h1 h2 => ?_⟩
    simp [set_last, wRet, wRetN, wAndV, wOrV, wNotV, wF, wCons, wNil, wV, wC, o1, o2, fIsi, fLen, fAll, fInt, fAbs, fII, fTup, fList, startR, R.fz, R.val, isiD, clsD, clsL, tyD, insOk, bodyPost, wSeq, wNext, wIfS, wT, w2, oAdd, oSub, oI, oIc, oMulW, oDivW, oMod, oPow, oLt, oLe, oGt, oGe, oEq, wIsN, D.isNon, wChain, wIf, wFld, wTup, wLst, shs, wSet, wOwn, wPar, wPar3, wCall, wMake, wMeth, wExpr, wAsgE, geT, geCons, geNil, geF, putD, wAsgT, gT, gsCons, gsNil, gN, iSeq, iOne, iRng, iZip, wNeg, wAnd, wOr, wNot, seqD, shs, oIx, oIxA, oIn, inD, wPut, setD, wGet2, wNewD, wYes, noX, dcD, blsD, eqD, shD, toPy, toPyL, PyData.eqv, PyData.eqvAll, SeqAt.shaped, PyData.canLay0, PyData.canLayAll0, PyData.depth, PyData.depthAll, and_assoc, sz1, sz2, sz3, kit_self, lookup_hd, lookup_tl, Int.natCast_inj, show ((0 : Nat) : Int) = 0 from rfl, kb_NoneType_bool, kb_NoneType_int, kb_NoneType_str, kb_NoneType_list, kb_NoneType_tuple, kb_NoneType_dict, kb_bool_bool, kb_bool_int, kb_bool_str, kb_bool_list, kb_bool_tuple, kb_bool_dict, kb_int_bool, kb_int_int, kb_int_str, kb_int_list, kb_int_tuple, kb_int_dict, kb_str_bool, kb_str_int, kb_str_str, kb_str_list, kb_str_tuple, kb_str_dict, kb_list_bool, kb_list_int, kb_list_str, kb_list_list, kb_list_tuple, kb_list_dict, kb_tuple_bool, kb_tuple_int, kb_tuple_str, kb_tuple_list, kb_tuple_tuple, kb_tuple_dict, kb_dict_bool, kb_dict_int, kb_dict_str, kb_dict_list, kb_dict_tuple, kb_dict_dict]
    refine ⟨os.length, cells, at2, rest2, 3, rfl, get_last _ _, hc, by omega, by omega, by omega, fun u at3 rest3 h3 h4 => ?_⟩
    simp [set_last, wRet, wRetN, wAndV, wOrV, wNotV, wF, wCons, wNil, wV, wC, o1, o2, fIsi, fLen, fAll, fInt, fAbs, fII, fTup, fList, startR, R.fz, R.val, isiD, clsD, clsL, tyD, insOk, bodyPost, wSeq, wNext, wIfS, wT, w2, oAdd, oSub, oI, oIc, oMulW, oDivW, oMod, oPow, oLt, oLe, oGt, oGe, oEq, wIsN, D.isNon, wChain, wIf, wFld, wTup, wLst, shs, wSet, wOwn, wPar, wPar3, wCall, wMake, wMeth, wExpr, wAsgE, geT, geCons, geNil, geF, putD, wAsgT, gT, gsCons, gsNil, gN, iSeq, iOne, iRng, iZip, wNeg, wAnd, wOr, wNot, seqD, shs, oIx, oIxA, oIn, inD, wPut, setD, wGet2, wNewD, wYes, noX, dcD, blsD, eqD, shD, toPy, toPyL, PyData.eqv, PyData.eqvAll, SeqAt.shaped, PyData.canLay0, PyData.canLayAll0, PyData.depth, PyData.depthAll, and_assoc, sz1, sz2, sz3, kit_self, lookup_hd, lookup_tl, Int.natCast_inj, show ((0 : Nat) : Int) = 0 from rfl, kb_NoneType_bool, kb_NoneType_int, kb_NoneType_str, kb_NoneType_list, kb_NoneType_tuple, kb_NoneType_dict, kb_bool_bool, kb_bool_int, kb_bool_str, kb_bool_list, kb_bool_tuple, kb_bool_dict, kb_int_bool, kb_int_int, kb_int_str, kb_int_list, kb_int_tuple, kb_int_dict, kb_str_bool, kb_str_int, kb_str_str, kb_str_list, kb_str_tuple, kb_str_dict, kb_list_bool, kb_list_int, kb_list_str, kb_list_list, kb_list_tuple, kb_list_dict, kb_tuple_bool, kb_tuple_int, kb_tuple_str, kb_tuple_list, kb_tuple_tuple, kb_tuple_dict, kb_dict_bool, kb_dict_int, kb_dict_str, kb_dict_list, kb_dict_tuple, kb_dict_dict]
    exact hN _ ⟨1 + v, 1 + u, at3, rest3, by omega, by omega, by omega, by omega, by omega, by simp⟩
  rintro _ ⟨bottom, top, at2, rest2, b1, b2, t1, t2, ha2, rfl⟩
  refine seq_of (fun en => ∃ root at3 rest3 : Nat, 2 ≤ root ∧ root ≤ 6 ∧ (3 < bottom + top → root ≤ 3) ∧ at3 ≤ at' + 3 ∧ en = ⟨[some (.sh d0), some (.ow os.length), some (.sh (tabR CTable)), x3, some (.sh (.int bottom)), some (.sh (.int top)), some (.sh (.int root)), x7, x8, x9, x10, x11, x12, x13, x14, x15, x16, x17, x18], os ++ [some (penD cells at3 rest3)]⟩) (fun N hN => ?_) ?_
  · cases e : decide ((3 : Int) < (bottom : Int) + (top : Int)) with
    | true =>
      have e' := of_decide_eq_true e
      simp [e, wRet, wRetN, wAndV, wOrV, wNotV, wF, wCons, wNil, wV, wC, o1, o2, fIsi, fLen, fAll, fInt, fAbs, fII, fTup, fList, startR, R.fz, R.val, isiD, clsD, clsL, tyD, insOk, bodyPost, wSeq, wNext, wIfS, wT, w2, oAdd, oSub, oI, oIc, oMulW, oDivW, oMod, oPow, oLt, oLe, oGt, oGe, oEq, wIsN, D.isNon, wChain, wIf, wFld, wTup, wLst, shs, wSet, wOwn, wPar, wPar3, wCall, wMake, wMeth, wExpr, wAsgE, geT, geCons, geNil, geF, putD, wAsgT, gT, gsCons, gsNil, gN, iSeq, iOne, iRng, iZip, wNeg, wAnd, wOr, wNot, seqD, shs, oIx, oIxA, oIn, inD, wPut, setD, wGet2, wNewD, wYes, noX, dcD, blsD, eqD, shD, toPy, toPyL, PyData.eqv, PyData.eqvAll, SeqAt.shaped, PyData.canLay0, PyData.canLayAll0, PyData.depth, PyData.depthAll, and_assoc, sz1, sz2, sz3, kit_self, lookup_hd, lookup_tl, Int.natCast_inj, show ((0 : Nat) : Int) = 0 from rfl, kb_NoneType_bool, kb_NoneType_int, kb_NoneType_str, kb_NoneType_list, kb_NoneType_tuple, kb_NoneType_dict, kb_bool_bool, kb_bool_int, kb_bool_str, kb_bool_list, kb_bool_tuple, kb_bool_dict, kb_int_bool, kb_int_int, kb_int_str, kb_int_list, kb_int_tuple, kb_int_dict, kb_str_bool, kb_str_int, kb_str_str, kb_str_list, kb_str_tuple, kb_str_dict, kb_list_bool, kb_list_int, kb_list_str, kb_list_list, kb_list_tuple, kb_list_dict, kb_tuple_bool, kb_tuple_int, kb_tuple_str, kb_tuple_list, kb_tuple_tuple, kb_tuple_dict, kb_dict_bool, kb_dict_int, kb_dict_str, kb_dict_list, kb_dict_tuple, kb_dict_dict]
      refine ⟨os.length, cells, at2, rest2, [.int 2, .int 2, .int 3], rfl, get_last _ _, hc, by omega, by decide, by decide, fun x at3 rest3 hx h3 => ?_⟩
      simp only [set_last]
      have hx' : x = .int 2 ∨ x = .int 3 := by
        simp only [List.mem_cons, List.not_mem_nil, or_false] at hx
        rcases hx with rfl | rfl | rfl
        · exact .inl rfl
        · exact .inl rfl
        · exact .inr rfl
      rcases hx' with rfl | rfl
      · exact hN _ ⟨2, at3, rest3, by omega, by omega, by omega, by omega, rfl⟩
      · exact hN _ ⟨3, at3, rest3, by omega, by omega, by omega, by omega, rfl⟩
    | false =>
      have e' := of_decide_eq_false e
      simp [e, wRet, wRetN, wAndV, wOrV, wNotV, wF, wCons, wNil, wV, wC, o1, o2, fIsi, fLen, fAll, fInt, fAbs, fII, fTup, fList, startR, R.fz, R.val, isiD, clsD, clsL, tyD, insOk, bodyPost, wSeq, wNext, wIfS, wT, w2, oAdd, oSub, oI, oIc, oMulW, oDivW, oMod, oPow, oLt, oLe, oGt, oGe, oEq, wIsN, D.isNon, wChain, wIf, wFld, wTup, wLst, shs, wSet, wOwn, wPar, wPar3, wCall, wMake, wMeth, wExpr, wAsgE, geT, geCons, geNil, geF, putD, wAsgT, gT, gsCons, gsNil, gN, iSeq, iOne, iRng, iZip, wNeg, wAnd, wOr, wNot, seqD, shs, oIx, oIxA, oIn, inD, wPut, setD, wGet2, wNewD, wYes, noX, dcD, blsD, eqD, shD, toPy, toPyL, PyData.eqv, PyData.eqvAll, SeqAt.shaped, PyData.canLay0, PyData.canLayAll0, PyData.depth, PyData.depthAll, and_assoc, sz1, sz2, sz3, kit_self, lookup_hd, lookup_tl, Int.natCast_inj, show ((0 : Nat) : Int) = 0 from rfl, kb_NoneType_bool, kb_NoneType_int, kb_NoneType_str, kb_NoneType_list, kb_NoneType_tuple, kb_NoneType_dict, kb_bool_bool, kb_bool_int, kb_bool_str, kb_bool_list, kb_bool_tuple, kb_bool_dict, kb_int_bool, kb_int_int, kb_int_str, kb_int_list, kb_int_tuple, kb_int_dict, kb_str_bool, kb_str_int, kb_str_str, kb_str_list, kb_str_tuple, kb_str_dict, kb_list_bool, kb_list_int, kb_list_str, kb_list_list, kb_list_tuple, kb_list_dict, kb_tuple_bool, kb_tuple_int, kb_tuple_str, kb_tuple_list, kb_tuple_tuple, kb_tuple_dict, kb_dict_bool, kb_dict_int, kb_dict_str, kb_dict_list, kb_dict_tuple, kb_dict_dict]
      refine ⟨os.length, cells, at2, rest2, 5, rfl, get_last _ _, hc, by omega, by omega, by omega, fun v at3 rest3 h1 h2 => ?_⟩
      simp [set_last, wRet, wRetN, wAndV, wOrV, wNotV, wF, wCons, wNil, wV, wC, o1, o2, fIsi, fLen, fAll, fInt, fAbs, fII, fTup, fList, startR, R.fz, R.val, isiD, clsD, clsL, tyD, insOk, bodyPost, wSeq, wNext, wIfS, wT, w2, oAdd, oSub, oI, oIc, oMulW, oDivW, oMod, oPow, oLt, oLe, oGt, oGe, oEq, wIsN, D.isNon, wChain, wIf, wFld, wTup, wLst, shs, wSet, wOwn, wPar, wPar3, wCall, wMake, wMeth, wExpr, wAsgE, geT, geCons, geNil, geF, putD, wAsgT, gT, gsCons, gsNil, gN, iSeq, iOne, iRng, iZip, wNeg, wAnd, wOr, wNot, seqD, shs, oIx, oIxA, oIn, inD, wPut, setD, wGet2, wNewD, wYes, noX, dcD, blsD, eqD, shD, toPy, toPyL, PyData.eqv, PyData.eqvAll, SeqAt.shaped, PyData.canLay0, PyData.canLayAll0, PyData.depth, PyData.depthAll, and_assoc, sz1, sz2, sz3, kit_self, lookup_hd, lookup_tl, Int.natCast_inj, show ((0 : Nat) : Int) = 0 from rfl, kb_NoneType_bool, kb_NoneType_int, kb_NoneType_str, kb_NoneType_list, kb_NoneType_tuple, kb_NoneType_dict, kb_bool_bool, kb_bool_int, kb_bool_str, kb_bool_list, kb_bool_tuple, kb_bool_dict, kb_int_bool, kb_int_int, kb_int_str, kb_int_list, kb_int_tuple, kb_int_dict, kb_str_bool, kb_str_int, kb_str_str, kb_str_list, kb_str_tuple, kb_str_dict, kb_list_bool, kb_list_int, kb_list_str, kb_list_list, kb_list_tuple, kb_list_dict, kb_tuple_bool, kb_tuple_int, kb_tuple_str, kb_tuple_list, kb_tuple_tuple, kb_tuple_dict, kb_dict_bool, kb_dict_int, kb_dict_str, kb_dict_list, kb_dict_tuple, kb_dict_dict]
      exact hN _ ⟨2 + v, at3, rest3, by omega, by omega, by omega, by omega, by simp⟩
  rintro _ ⟨root, at3, rest3, r1, r2, r3, ha3, rfl⟩
  refine seq_of (fun en => en = ⟨[some (.sh d0), some (.ow os.length), some (.sh (tabR CTable)), x3, some (.sh (.int bottom)), some (.sh (.int top)), some (.sh (.int root)), some (.sh (.int ((root ^ bottom : Nat)))), some (.sh (.int ((root ^ top : Nat)))), x9, x10, x11, x12, x13, x14, x15, x16, x17, x18], os ++ [some (penD cells at3 rest3)]⟩) (fun N hN => ?_) ?_
  · simp [wRet, wRetN, wAndV, wOrV, wNotV, wF, wCons, wNil, wV, wC, o1, o2, fIsi, fLen, fAll, fInt, fAbs, fII, fTup, fList, startR, R.fz, R.val, isiD, clsD, clsL, tyD, insOk, bodyPost, wSeq, wNext, wIfS, wT, w2, oAdd, oSub, oI, oIc, oMulW, oDivW, oMod, oPow, oLt, oLe, oGt, oGe, oEq, wIsN, D.isNon, wChain, wIf, wFld, wTup, wLst, shs, wSet, wOwn, wPar, wPar3, wCall, wMake, wMeth, wExpr, wAsgE, geT, geCons, geNil, geF, putD, wAsgT, gT, gsCons, gsNil, gN, iSeq, iOne, iRng, iZip, wNeg, wAnd, wOr, wNot, seqD, shs, oIx, oIxA, oIn, inD, wPut, setD, wGet2, wNewD, wYes, noX, dcD, blsD, eqD, shD, toPy, toPyL, PyData.eqv, PyData.eqvAll, SeqAt.shaped, PyData.canLay0, PyData.canLayAll0, PyData.depth, PyData.depthAll, and_assoc, sz1, sz2, sz3, kit_self, lookup_hd, lookup_tl, Int.natCast_inj, show ((0 : Nat) : Int) = 0 from rfl, kb_NoneType_bool, kb_NoneType_int, kb_NoneType_str, kb_NoneType_list, kb_NoneType_tuple, kb_NoneType_dict, kb_bool_bool, kb_bool_int, kb_bool_str, kb_bool_list, kb_bool_tuple, kb_bool_dict, kb_int_bool, kb_int_int, kb_int_str, kb_int_list, kb_int_tuple, kb_int_dict, kb_str_bool, kb_str_int, kb_str_str, kb_str_list, kb_str_tuple, kb_str_dict, kb_list_bool, kb_list_int, kb_list_str, kb_list_list, kb_list_tuple, kb_list_dict, kb_tuple_bool, kb_tuple_int, kb_tuple_str, kb_tuple_list, kb_tuple_tuple, kb_tuple_dict, kb_dict_bool, kb_dict_int, kb_dict_str, kb_dict_list, kb_dict_tuple, kb_dict_dict]
    refine ⟨root, bottom, rfl, by omega, by omega, by omega, ?_⟩
    simp [wRet, wRetN, wAndV, wOrV, wNotV, wF, wCons, wNil, wV, wC, o1, o2, fIsi, fLen, fAll, fInt, fAbs, fII, fTup, fList, startR, R.fz, R.val, isiD, clsD, clsL, tyD, insOk, bodyPost, wSeq, wNext, wIfS, wT, w2, oAdd, oSub, oI, oIc, oMulW, oDivW, oMod, oPow, oLt, oLe, oGt, oGe, oEq, wIsN, D.isNon, wChain, wIf, wFld, wTup, wLst, shs, wSet, wOwn, wPar, wPar3, wCall, wMake, wMeth, wExpr, wAsgE, geT, geCons, geNil, geF, putD, wAsgT, gT, gsCons, gsNil, gN, iSeq, iOne, iRng, iZip, wNeg, wAnd, wOr, wNot, seqD, shs, oIx, oIxA, oIn, inD, wPut, setD, wGet2, wNewD, wYes, noX, dcD, blsD, eqD, shD, toPy, toPyL, PyData.eqv, PyData.eqvAll, SeqAt.shaped, PyData.canLay0, PyData.canLayAll0, PyData.depth, PyData.depthAll, and_assoc, sz1, sz2, sz3, kit_self, lookup_hd, lookup_tl, Int.natCast_inj, show ((0 : Nat) : Int) = 0 from rfl, kb_NoneType_bool, kb_NoneType_int, kb_NoneType_str, kb_NoneType_list, kb_NoneType_tuple, kb_NoneType_dict, kb_bool_bool, kb_bool_int, kb_bool_str, kb_bool_list, kb_bool_tuple, kb_bool_dict, kb_int_bool, kb_int_int, kb_int_str, kb_int_list, kb_int_tuple, kb_int_dict, kb_str_bool, kb_str_int, kb_str_str, kb_str_list, kb_str_tuple, kb_str_dict, kb_list_bool, kb_list_int, kb_list_str, kb_list_list, kb_list_tuple, kb_list_dict, kb_tuple_bool, kb_tuple_int, kb_tuple_str, kb_tuple_list, kb_tuple_tuple, kb_tuple_dict, kb_dict_bool, kb_dict_int, kb_dict_str, kb_dict_list, kb_dict_tuple, kb_dict_dict]
    refine ⟨root, top, rfl, by omega, by omega, by omega, ?_⟩
    simpa [wRet, wRetN, wAndV, wOrV, wNotV, wF, wCons, wNil, wV, wC, o1, o2, fIsi, fLen, fAll, fInt, fAbs, fII, fTup, fList, startR, R.fz, R.val, isiD, clsD, clsL, tyD, insOk, bodyPost, wSeq, wNext, wIfS, wT, w2, oAdd, oSub, oI, oIc, oMulW, oDivW, oMod, oPow, oLt, oLe, oGt, oGe, oEq, wIsN, D.isNon, wChain, wIf, wFld, wTup, wLst, shs, wSet, wOwn, wPar, wPar3, wCall, wMake, wMeth, wExpr, wAsgE, geT, geCons, geNil, geF, putD, wAsgT, gT, gsCons, gsNil, gN, iSeq, iOne, iRng, iZip, wNeg, wAnd, wOr, wNot, seqD, shs, oIx, oIxA, oIn, inD, wPut, setD, wGet2, wNewD, wYes, noX, dcD, blsD, eqD, shD, toPy, toPyL, PyData.eqv, PyData.eqvAll, SeqAt.shaped, PyData.canLay0, PyData.canLayAll0, PyData.depth, PyData.depthAll, and_assoc, sz1, sz2, sz3, kit_self, lookup_hd, lookup_tl, Int.natCast_inj, show ((0 : Nat) : Int) = 0 from rfl, kb_NoneType_bool, kb_NoneType_int, kb_NoneType_str, kb_NoneType_list, kb_NoneType_tuple, kb_NoneType_dict, kb_bool_bool, kb_bool_int, kb_bool_str, kb_bool_list, kb_bool_tuple, kb_bool_dict, kb_int_bool, kb_int_int, kb_int_str, kb_int_list, kb_int_tuple, kb_int_dict, kb_str_bool, kb_str_int, kb_str_str, kb_str_list, kb_str_tuple, kb_str_dict, kb_list_bool, kb_list_int, kb_list_str, kb_list_list, kb_list_tuple, kb_list_dict, kb_tuple_bool, kb_tuple_int, kb_tuple_str, kb_tuple_list, kb_tuple_tuple, kb_tuple_dict, kb_dict_bool, kb_dict_int, kb_dict_str, kb_dict_list, kb_dict_tuple, kb_dict_dict] using hN _ rfl
  rintro _ rfl
  refine seq_of (fun en => ∃ c at4 rest4 : Nat, c ≤ 1 ∧ at4 ≤ at' + 4 ∧ en = ⟨[some (.sh d0), some (.ow os.length), some (.sh (tabR CTable)), x3, some (.sh (.int bottom)), some (.sh (.int top)), some (.sh (.int root)), some (.sh (.int ((root ^ bottom : Nat)))), some (.sh (.int ((root ^ top : Nat)))), some (.sh (.int c)), x10, x11, x12, x13, x14, x15, x16, x17, x18], os ++ [some (penD cells at4 rest4)]⟩) (fun N hN => ?_) ?_
  · simp [wRet, wRetN, wAndV, wOrV, wNotV, wF, wCons, wNil, wV, wC, o1, o2, fIsi, fLen, fAll, fInt, fAbs, fII, fTup, fList, startR, R.fz, R.val, isiD, clsD, clsL, tyD, insOk, bodyPost, wSeq, wNext, wIfS, wT, w2, oAdd, oSub, oI, oIc, oMulW, oDivW, oMod, oPow, oLt, oLe, oGt, oGe, oEq, wIsN, D.isNon, wChain, wIf, wFld, wTup, wLst, shs, wSet, wOwn, wPar, wPar3, wCall, wMake, wMeth, wExpr, wAsgE, geT, geCons, geNil, geF, putD, wAsgT, gT, gsCons, gsNil, gN, iSeq, iOne, iRng, iZip, wNeg, wAnd, wOr, wNot, seqD, shs, oIx, oIxA, oIn, inD, wPut, setD, wGet2, wNewD, wYes, noX, dcD, blsD, eqD, shD, toPy, toPyL, PyData.eqv, PyData.eqvAll, SeqAt.shaped, PyData.canLay0, PyData.canLayAll0, PyData.depth, PyData.depthAll, and_assoc, sz1, sz2, sz3, kit_self, lookup_hd, lookup_tl, Int.natCast_inj, show ((0 : Nat) : Int) = 0 from rfl, kb_NoneType_bool, kb_NoneType_int, kb_NoneType_str, kb_NoneType_list, kb_NoneType_tuple, kb_NoneType_dict, kb_bool_bool, kb_bool_int, kb_bool_str, kb_bool_list, kb_bool_tuple, kb_bool_dict, kb_int_bool, kb_int_int, kb_int_str, kb_int_list, kb_int_tuple, kb_int_dict, kb_str_bool, kb_str_int, kb_str_str, kb_str_list, kb_str_tuple, kb_str_dict, kb_list_bool, kb_list_int, kb_list_str, kb_list_list, kb_list_tuple, kb_list_dict, kb_tuple_bool, kb_tuple_int, kb_tuple_str, kb_tuple_list, kb_tuple_tuple, kb_tuple_dict, kb_dict_bool, kb_dict_int, kb_dict_str, kb_dict_list, kb_dict_tuple, kb_dict_dict]
    refine ⟨os.length, cells, at3, rest3, 2, rfl, get_last _ _, hc, by omega, by omega, by omega, fun v at4 rest4 h1 h2 => ?_⟩
    simp [set_last, wRet, wRetN, wAndV, wOrV, wNotV, wF, wCons, wNil, wV, wC, o1, o2, fIsi, fLen, fAll, fInt, fAbs, fII, fTup, fList, startR, R.fz, R.val, isiD, clsD, clsL, tyD, insOk, bodyPost, wSeq, wNext, wIfS, wT, w2, oAdd, oSub, oI, oIc, oMulW, oDivW, oMod, oPow, oLt, oLe, oGt, oGe, oEq, wIsN, D.isNon, wChain, wIf, wFld, wTup, wLst, shs, wSet, wOwn, wPar, wPar3, wCall, wMake, wMeth, wExpr, wAsgE, geT, geCons, geNil, geF, putD, wAsgT, gT, gsCons, gsNil, gN, iSeq, iOne, iRng, iZip, wNeg, wAnd, wOr, wNot, seqD, shs, oIx, oIxA, oIn, inD, wPut, setD, wGet2, wNewD, wYes, noX, dcD, blsD, eqD, shD, toPy, toPyL, PyData.eqv, PyData.eqvAll, SeqAt.shaped, PyData.canLay0, PyData.canLayAll0, PyData.depth, PyData.depthAll, and_assoc, sz1, sz2, sz3, kit_self, lookup_hd, lookup_tl, Int.natCast_inj, show ((0 : Nat) : Int) = 0 from rfl, kb_NoneType_bool, kb_NoneType_int, kb_NoneType_str, kb_NoneType_list, kb_NoneType_tuple, kb_NoneType_dict, kb_bool_bool, kb_bool_int, kb_bool_str, kb_bool_list, kb_bool_tuple, kb_bool_dict, kb_int_bool, kb_int_int, kb_int_str, kb_int_list, kb_int_tuple, kb_int_dict, kb_str_bool, kb_str_int, kb_str_str, kb_str_list, kb_str_tuple, kb_str_dict, kb_list_bool, kb_list_int, kb_list_str, kb_list_list, kb_list_tuple, kb_list_dict, kb_tuple_bool, kb_tuple_int, kb_tuple_str, kb_tuple_list, kb_tuple_tuple, kb_tuple_dict, kb_dict_bool, kb_dict_int, kb_dict_str, kb_dict_list, kb_dict_tuple, kb_dict_dict]
    exact hN _ ⟨v, at4, rest4, by omega, by omega, by simp⟩
  rintro _ ⟨c, at4, rest4, c1, ha4, rfl⟩
  obtain ⟨g, a, b, ea, eb, et, ebo, a1, b1', ale, ble⟩ := gcd_parts t1 b1
  refine seq_of (fun en => en = ⟨[some (.sh d0), some (.ow os.length), some (.sh (tabR CTable)), x3, some (.sh (.int bottom)), some (.sh (.int top)), some (.sh (.int root)), some (.sh (.int ((root ^ bottom : Nat)))), some (.sh (.int ((root ^ top : Nat)))), some (.sh (.int c)), some (.sh (splitD CTable CSplit ("r", 2) c a b)), x11, x12, x13, x14, x15, x16, x17, x18], os ++ [some (penD cells at4 rest4)]⟩) (fun N hN => ?_) ?_
  · unfold wSet
    refine mk_split (z := "r") (c := c) (a := top) (b := bottom) (fun P PX h => ?_) c1 t1 b1 (by omega) (by omega) ?_
    · simpa [tabR, wRet, wRetN, wAndV, wOrV, wNotV, wF, wCons, wNil, wV, wC, o1, o2, fIsi, fLen, fAll, fInt, fAbs, fII, fTup, fList, startR, R.fz, R.val, isiD, clsD, clsL, tyD, insOk, bodyPost, wSeq, wNext, wIfS, wT, w2, oAdd, oSub, oI, oIc, oMulW, oDivW, oMod, oPow, oLt, oLe, oGt, oGe, oEq, wIsN, D.isNon, wChain, wIf, wFld, wTup, wLst, shs, wSet, wOwn, wPar, wPar3, wCall, wMake, wMeth, wExpr, wAsgE, geT, geCons, geNil, geF, putD, wAsgT, gT, gsCons, gsNil, gN, iSeq, iOne, iRng, iZip, wNeg, wAnd, wOr, wNot, seqD, shs, oIx, oIxA, oIn, inD, wPut, setD, wGet2, wNewD, wYes, noX, dcD, blsD, eqD, shD, toPy, toPyL, PyData.eqv, PyData.eqvAll, SeqAt.shaped, PyData.canLay0, PyData.canLayAll0, PyData.depth, PyData.depthAll, and_assoc, sz1, sz2, sz3, kit_self, lookup_hd, lookup_tl, Int.natCast_inj, show ((0 : Nat) : Int) = 0 from rfl, kb_NoneType_bool, kb_NoneType_int, kb_NoneType_str, kb_NoneType_list, kb_NoneType_tuple, kb_NoneType_dict, kb_bool_bool, kb_bool_int, kb_bool_str, kb_bool_list, kb_bool_tuple, kb_bool_dict, kb_int_bool, kb_int_int, kb_int_str, kb_int_list, kb_int_tuple, kb_int_dict, kb_str_bool, kb_str_int, kb_str_str, kb_str_list, kb_str_tuple, kb_str_dict, kb_list_bool, kb_list_int, kb_list_str, kb_list_list, kb_list_tuple, kb_list_dict, kb_tuple_bool, kb_tuple_int, kb_tuple_str, kb_tuple_list, kb_tuple_tuple, kb_tuple_dict, kb_dict_bool, kb_dict_int, kb_dict_str, kb_dict_list, kb_dict_tuple, kb_dict_dict] using h
    · rw [ea, eb]
      exact hN _ rfl
  rintro _ rfl
  have bo2 : root ^ top ≤ 6 ^ 3 := Nat.le_trans (Nat.pow_le_pow_left r2 top) (Nat.pow_le_pow_right (by omega) t2)
  have bo1 : 2 ≤ root ^ top := by
    have := Nat.pow_le_pow_right (n := root) (by omega) t1
    rw [Nat.pow_one] at this; omega
  have ba2 : root ^ bottom ≤ 6 ^ 4 := Nat.le_trans (Nat.pow_le_pow_left r2 bottom) (Nat.pow_le_pow_right (by omega) b2)
  have ba1 : 1 ≤ root ^ bottom := Nat.pow_pos (by omega)
  have hbi : ∀ m : Nat, m ^ b ≤ (root ^ bottom) ^ a ↔ m ≤ root ^ top := fun m => border_iff et ebo b1'
  have hbb : ∀ m : Nat, m = root ^ top → 2 < root ^ bottom → ¬ m ^ b ≤ (root ^ bottom - 1) ^ a := fun m hm _ => by
    rw [hm]; exact below_base et ebo a1 ba1
  generalize root ^ top = border at bo1 bo2 hbi hbb
  generalize root ^ bottom = base at ba1 ba2 hbi hbb
  have c1' : ((border : Int) - 1) = ((border - 1 : Nat) : Int) := by omega
  have c2' : ((border : Int) + 1) = ((border + 1 : Nat) : Int) := by omega
  simp [wFor, wLoop, wRet, wRetN, wAndV, wOrV, wNotV, wF, wCons, wNil, wV, wC, o1, o2, fIsi, fLen, fAll, fInt, fAbs, fII, fTup, fList, startR, R.fz, R.val, isiD, clsD, clsL, tyD, insOk, bodyPost, wSeq, wNext, wIfS, wT, w2, oAdd, oSub, oI, oIc, oMulW, oDivW, oMod, oPow, oLt, oLe, oGt, oGe, oEq, wIsN, D.isNon, wChain, wIf, wFld, wTup, wLst, shs, wSet, wOwn, wPar, wPar3, wCall, wMake, wMeth, wExpr, wAsgE, geT, geCons, geNil, geF, putD, wAsgT, gT, gsCons, gsNil, gN, iSeq, iOne, iRng, iZip, wNeg, wAnd, wOr, wNot, seqD, shs, oIx, oIxA, oIn, inD, wPut, setD, wGet2, wNewD, wYes, noX, dcD, blsD, eqD, shD, toPy, toPyL, PyData.eqv, PyData.eqvAll, SeqAt.shaped, PyData.canLay0, PyData.canLayAll0, PyData.depth, PyData.depthAll, and_assoc, sz1, sz2, sz3, kit_self, lookup_hd, lookup_tl, Int.natCast_inj, show ((0 : Nat) : Int) = 0 from rfl, kb_NoneType_bool, kb_NoneType_int, kb_NoneType_str, kb_NoneType_list, kb_NoneType_tuple, kb_NoneType_dict, kb_bool_bool, kb_bool_int, kb_bool_str, kb_bool_list, kb_bool_tuple, kb_bool_dict, kb_int_bool, kb_int_int, kb_int_str, kb_int_list, kb_int_tuple, kb_int_dict, kb_str_bool, kb_str_int, kb_str_str, kb_str_list, kb_str_tuple, kb_str_dict, kb_list_bool, kb_list_int, kb_list_str, kb_list_list, kb_list_tuple, kb_list_dict, kb_tuple_bool, kb_tuple_int, kb_tuple_str, kb_tuple_list, kb_tuple_tuple, kb_tuple_dict, kb_dict_bool, kb_dict_int, kb_dict_str, kb_dict_list, kb_dict_tuple, kb_dict_dict]
  rw [c1', c2']
  refine l_many T (hbi _) (hbb _) (by omega) (by omega) c1 (by omega) (by omega) ba1 (by omega) fun y12 y14 y15 y16 => ?_
  refine l_many T (hbi _) (hbb _) (by omega) (by omega) c1 (by omega) (by omega) ba1 (by omega) fun y12 y14 y15 y16 => ?_
  refine l_many T (hbi _) (hbb _) (by omega) (by omega) c1 (by omega) (by omega) ba1 (by omega) fun y12 y14 y15 y16 => ?_
  exact hN _ _ _ _ _ _ _ _ _ _ _ _ at4 rest4 (by omega)
end
end L2.TL.K08

/-! text K08law -/
set_option Elab.async false
set_option linter.all false
set_option maxRecDepth 100000
set_option maxHeartbeats 4000000
namespace L2.TL.K08
open PySem PySem.Spec PyProof.Rows L2.TL
section
variable {P : Program} {wd : World} {K : PySem.W.Frag} {mg : Str → Option Value} {base : Heap} {CTable CWorld CSplit : Addr}

abbrev s_law : Stmt := top 50
theorem sc_law : FnScope ["script", "pen", "table", "turn", "bottom", "top", "root", "base", "border", "column", "split", "many", "rows", "at", "world", "light", "heavy", "told", "cut"] ["script"] (defScope s_law) := ⟨rfl, rfl, rfl, by decide +kernel, rfl, by decide +kernel, by decide +kernel⟩
def w_law (K : PySem.W.Frag) (CTable CWorld CSplit : Addr) : WSx := (wSeq (wOwn 1 (wCall (Φ__law_pen K CTable CWorld CSplit) (wCons (wV 0) wNil))) (wSeq (wSet 2 (wMake CTable (Φ_Table_init K CTable CWorld CSplit) (wCons (wC (.str ("r" : Str))) (wCons (wC (.int 2)) wNil)))) (wSeq (wFor (iRng (wC (.int 8))) (gN 3) (wSeq (wPar 4 5 (w2 oAdd (wC (.int 1)) (wCall (Φ__law_draw K CTable CWorld CSplit) (wCons (wV 1) (wCons (wC (.int 4)) wNil)))) (w2 oAdd (wC (.int 1)) (wCall (Φ__law_draw K CTable CWorld CSplit) (wCons (wV 1) (wCons (wC (.int 3)) wNil))))) (wSeq (wSet 6 (wIf (wT (w2 oGt (w2 oAdd (wV 4) (wV 5)) (wC (.int 3)))) (wCall (Φ__law_pick K CTable CWorld CSplit) (wCons (wV 1) (wCons (wLst (wCons (wC (.int 2)) (wCons (wC (.int 2)) (wCons (wC (.int 3)) wNil)))) wNil))) (w2 oAdd (wC (.int 2)) (wCall (Φ__law_draw K CTable CWorld CSplit) (wCons (wV 1) (wCons (wC (.int 5)) wNil)))))) (wSeq (wPar 7 8 (wCall (Φ__law_power K CTable CWorld CSplit) (wCons (wV 6) (wCons (wV 4) wNil))) (wCall (Φ__law_power K CTable CWorld CSplit) (wCons (wV 6) (wCons (wV 5) wNil)))) (wSeq (wSet 9 (wCall (Φ__law_draw K CTable CWorld CSplit) (wCons (wV 1) (wCons (wC (.int 2)) wNil)))) (wSeq (wSet 10 (wMake CSplit (Φ_Split_init K CTable CWorld CSplit) (wCons (wV 2) (wCons (wV 9) (wCons (wTup (wCons (wV 5) (wCons (wV 4) wNil))) wNil))))) (wFor (iSeq (wTup (wCons (w2 oSub (wV 8) (wC (.int 1))) (wCons (wV 8) (wCons (w2 oAdd (wV 8) (wC (.int 1))) wNil))))) (gN 11) (wSeq (wSet 12 (w2 oAdd (wLc (iRng (wV 11)) (gN 13) wYes (wIf (wT (w2 (oEq false) (wV 9) (wC (.int 0)))) (wTup (wCons (wC (.int 7)) (wCons (wV 13) wNil))) (wTup (wCons (wV 13) (wCons (wC (.int 7)) wNil)))) [13]) (wLst (wCons (wIf (wT (w2 (oEq false) (wV 9) (wC (.int 0)))) (wTup (wCons (wC (.int 8)) (wCons (wC (.int 1000)) wNil))) (wTup (wCons (wC (.int 1000)) (wCons (wC (.int 8)) wNil)))) wNil)))) (wSeq (wSet 14 (wMake CWorld (Φ_World_init K CTable CWorld CSplit) (wCons (wLst (wCons (wV 2) wNil)) (wCons (wLst (wCons (wV 12) wNil)) wNil)))) (wSeq (wAsgT (gT (gsCons (gN 15) (gsCons (gN 16) gsNil))) (wCall (Φ_parted K CTable CWorld CSplit) (wCons (wV 14) (wCons (wV 10) (wCons (wV 7) wNil))))) (wSeq (wIfS (wOr (wT (w2 (oEq true) (w2 (oEq false) (wF (o1 fLen) (wCons (wV 16) wNil)) (wC (.int 0))) (w2 oLe (wV 11) (wV 8)))) (wOr (wT (w2 (oEq true) (w2 oAdd (wF (o1 fLen) (wCons (wV 15) wNil)) (wF (o1 fLen) (wCons (wV 16) wNil))) (w2 oAdd (wV 11) (wC (.int 1))))) (wAnd (wT (w2 oGt (wV 11) (wV 8))) (wT (w2 (oEq true) (wF (o1 fLen) (wCons (wV 15) wNil)) (wC (.int 1))))))) (wRet (wC (.bl false))) wNext) (wIfS (wAnd (wT (w2 (oEq false) (wV 11) (wV 8))) (wAnd (wT (w2 oGt (wV 7) (wC (.int 2)))) (wT (w2 (oEq false) (w2 oIxA (wCall (Φ_parted K CTable CWorld CSplit) (wCons (wV 14) (wCons (wV 10) (wCons (w2 oSub (wV 7) (wC (.int 1))) wNil)))) (wC (.int 1))) (wTup wNil))))) (wRet (wC (.bl false))) wNext)))))))))))) (wSeq (wSet 14 (wMake CWorld (Φ_World_init K CTable CWorld CSplit) (wCons (wLst (wCons (wV 2) wNil)) (wCons (wLst (wCons (wLc (iRng (w2 oAdd (wC (.int 1000)) (wCall (Φ__law_draw K CTable CWorld CSplit) (wCons (wV 1) (wCons (wC (.int 2)) wNil))))) (gN 13) wYes (wTup (wCons (wC (.int 0)) (wCons (wV 13) wNil))) [13]) wNil)) wNil)))) (wSeq (wSet 11 (wF (o1 fLen) (wCons (w2 oIxA (wFld K "rows" (wV 14)) (wC (.int 0))) wNil))) (wSeq (wSet 17 (wLc (iSeq (wTup (wCons (wTup (wCons (wC (.int 1)) (wCons (wC (.int 2)) wNil))) (wCons (wTup (wCons (wC (.int 500)) (wCons (wC (.int 1001)) wNil))) (wCons (wTup (wCons (wC (.int 501)) (wCons (wC (.int 1001)) wNil))) wNil))))) (gN 18) wYes (wF (o1 fLen) (wCons (w2 oIxA (wCall (Φ_parted K CTable CWorld CSplit) (wCons (wV 14) (wCons (wMake CSplit (Φ_Split_init K CTable CWorld CSplit) (wCons (wV 2) (wCons (wC (.int 0)) (wCons (wV 18) wNil)))) (wCons (w2 oPow (wC (.int 10)) (wC (.int 6))) wNil)))) (wC (.int 1))) wNil)) [18])) (wRet (wAndV (w2 (oEq false) (wV 17) (wLst (wCons (wIf (wT (w2 oLe (wV 11) (wC (.int 1000)))) (wC (.int 0)) (wV 11)) (wCons (wV 11) (wCons (wC (.int 0)) wNil))))) (wAndV (w2 (oEq false) (w2 oIxA (wCall (Φ_parted K CTable CWorld CSplit) (wCons (wV 14) (wCons (wMake CSplit (Φ_Split_init K CTable CWorld CSplit) (wCons (wV 2) (wCons (wC (.int 0)) (wCons (wTup (wCons (wC (.int 9999)) (wCons (wC (.int 1)) wNil))) wNil)))) (wCons (wC (.int 2)) wNil)))) (wC (.int 1))) (wTup wNil)) (w2 (oEq false) (wCall (Φ_parted K CTable CWorld CSplit) (wCons (wV 14) (wCons (wMake CSplit (Φ_Split_init K CTable CWorld CSplit) (wCons (wV 2) (wCons (wC (.int 0)) (wCons (wTup (wCons (wC (.int 1)) (wCons (wC (.int 9999)) wNil))) wNil)))) (wCons (w2 oPow (wC (.int 10)) (wC (.int 6))) wNil)))) (wTup (wCons (wTup wNil) (wCons (w2 oIxA (wFld K "rows" (wV 14)) (wC (.int 0))) wNil)))))))))))))
theorem b_law (T : Txt K mg CTable CWorld CSplit) (G__law_draw : Fn P wd K mg base 1 "_law_draw" (Φ__law_draw K CTable CWorld CSplit)) (G__law_pen : Fn P wd K mg base 1 "_law_pen" (Φ__law_pen K CTable CWorld CSplit)) (G__law_pick : Fn P wd K mg base 2 "_law_pick" (Φ__law_pick K CTable CWorld CSplit)) (G__law_power : Fn P wd K mg base 1 "_law_power" (Φ__law_power K CTable CWorld CSplit)) (G_parted : Fn P wd K mg base 4 "parted" (Φ_parted K CTable CWorld CSplit)) (M_Split : Kl P wd K mg base 4 "Split" CSplit (Φ_Split_init K CTable CWorld CSplit)) (M_Table : Kl P wd K mg base 3 "Table" CTable (Φ_Table_init K CTable CWorld CSplit)) (M_World : Kl P wd K mg base 5 "World" CWorld (Φ_World_init K CTable CWorld CSplit)) {f : Addr} (cdv : Value) (A : Around) (outer : List Env) (s : Shared) (H : Hp) (E : XK) (hr : Room 6 (A.deeper (envOfC "law" (defScope s_law) s.heap.objs.size f cdv))) :
    PSs (cxOf (L2.CX P wd) P wd K mg base ["script", "pen", "table", "turn", "bottom", "top", "root", "base", "border", "column", "split", "many", "rows", "at", "world", "light", "heavy", "told", "cut"] "law" (defScope s_law) f cdv A outer s H E) (defBody s_law) (tS K (EW E) (w_law K CTable CWorld CSplit)) := by
  have sc := sc_law
  have tk : Takes (cxOf (L2.CX P wd) P wd K mg base ["script", "pen", "table", "turn", "bottom", "top", "root", "base", "border", "column", "split", "many", "rows", "at", "world", "light", "heavy", "told", "cut"] "law" (defScope s_law) f cdv A outer s H E) (EW E) := takes_of rfl rfl rfl rfl
  have pown : PassesOwn (model P wd) (cxOf (L2.CX P wd) P wd K mg base ["script", "pen", "table", "turn", "bottom", "top", "root", "base", "border", "column", "split", "many", "rows", "at", "world", "light", "heavy", "told", "cut"] "law" (defScope s_law) f cdv A outer s H E).A (cxOf (L2.CX P wd) P wd K mg base ["script", "pen", "table", "turn", "bottom", "top", "root", "base", "border", "column", "split", "many", "rows", "at", "world", "light", "heavy", "told", "cut"] "law" (defScope s_law) f cdv A outer s H E).env (cxOf (L2.CX P wd) P wd K mg base ["script", "pen", "table", "turn", "bottom", "top", "root", "base", "border", "column", "split", "many", "rows", "at", "world", "light", "heavy", "told", "cut"] "law" (defScope s_law) f cdv A outer s H E).xe := PassesOwn.leaving
  exact (ts_cons (ts_own 1 sc.nd rfl (by first | exact Or.inl rfl | exact Or.inr rfl) (te_call G__law_pen hr tk (ta_cons (te_v 0) ta_nil)))
      (ts_cons (ts_set 2 sc.nd rfl (by first | exact Or.inl rfl | exact Or.inr rfl) (te_make (E := E) M_Table hr tk (ta_cons te_str (ta_cons te_int ta_nil))))
      (ts_cons (ts_for pown rfl (ti_range (by rfl) T.b_range te_int) (tg_name 3 sc.nd rfl (by first | exact Or.inl rfl | exact Or.inr rfl)) (ts_cons (ts_par 4 5 rfl sc.nd rfl rfl (by decide) rfl rfl (te_add te_int (te_call G__law_draw hr tk (ta_cons (te_v 1) (ta_cons te_int ta_nil)))) (te_add te_int (te_call G__law_draw hr tk (ta_cons (te_v 1) (ta_cons te_int ta_nil)))))
      (ts_cons (ts_set 6 sc.nd rfl (by first | exact Or.inl rfl | exact Or.inr rfl) (te_if (tb_gt (te_add (te_v 4) (te_v 5)) te_int) (te_call G__law_pick hr tk (ta_cons (te_v 1) (ta_cons (te_lst (ta_cons te_int (ta_cons te_int (ta_cons te_int ta_nil)))) ta_nil))) (te_add te_int (te_call G__law_draw hr tk (ta_cons (te_v 1) (ta_cons te_int ta_nil))))))
      (ts_cons (ts_par 7 8 rfl sc.nd rfl rfl (by decide) rfl rfl (te_call G__law_power hr tk (ta_cons (te_v 6) (ta_cons (te_v 4) ta_nil))) (te_call G__law_power hr tk (ta_cons (te_v 6) (ta_cons (te_v 5) ta_nil))))
      (ts_cons (ts_set 9 sc.nd rfl (by first | exact Or.inl rfl | exact Or.inr rfl) (te_call G__law_draw hr tk (ta_cons (te_v 1) (ta_cons te_int ta_nil))))
      (ts_cons (ts_set 10 sc.nd rfl (by first | exact Or.inl rfl | exact Or.inr rfl) (te_make (E := E) M_Split hr tk (ta_cons (te_v 2) (ta_cons (te_v 9) (ta_cons (te_tup (ta_cons (te_v 5) (ta_cons (te_v 4) ta_nil))) ta_nil)))))
      (ts_one (ts_for pown rfl (ti_seq (te_tup (ta_cons (te_sub (te_v 8) te_int) (ta_cons (te_v 8) (ta_cons (te_add (te_v 8) te_int) ta_nil))))) (tg_name 11 sc.nd rfl (by first | exact Or.inl rfl | exact Or.inr rfl)) (ts_cons (ts_set 12 sc.nd rfl (by first | exact Or.inl rfl | exact Or.inr rfl) (te_add (te_lc rfl sc.nd (ti_range (by rfl) T.b_range (te_v 11)) (blkOk_by (own := [("at", 13)]) (by kernel_rfl)) (fun _ _ _ _ _ => (tg_name 13 sc.nd rfl (by first | exact Or.inl rfl | exact Or.inr rfl))) (fun _ _ _ _ _ => tts_nil) (fun _ _ _ _ _ => (te_if (tb_eq hr (te_v 9) te_int) (te_tup (ta_cons te_int (ta_cons (te_v 13) ta_nil))) (te_tup (ta_cons (te_v 13) (ta_cons te_int ta_nil)))))) (te_lst (ta_cons (te_if (tb_eq hr (te_v 9) te_int) (te_tup (ta_cons te_int (ta_cons te_int ta_nil))) (te_tup (ta_cons te_int (ta_cons te_int ta_nil)))) ta_nil))))
      (ts_cons (ts_set 14 sc.nd rfl (by first | exact Or.inl rfl | exact Or.inr rfl) (te_make (E := E) M_World hr tk (ta_cons (te_lst (ta_cons (te_v 2) ta_nil)) (ta_cons (te_lst (ta_cons (te_v 12) ta_nil)) ta_nil))))
      (ts_cons (ts_asgT (te_call G_parted hr tk (ta_cons (te_v 14) (ta_cons (te_v 10) (ta_cons (te_v 7) ta_nil)))) (tg_tup 2 rfl (tgs_cons (tg_name 15 sc.nd rfl (by first | exact Or.inl rfl | exact Or.inr rfl)) (tgs_cons (tg_name 16 sc.nd rfl (by first | exact Or.inl rfl | exact Or.inr rfl)) tgs_nil)) gs2))
      (ts_cons (ts_if (PW.pt (tw_or (tb_ne hr (te_eq hr (te_len rfl (by rfl) T.b_len (ta_cons (te_v 16) ta_nil)) te_int) (te_le (te_v 11) (te_v 8))) (tw_or (tb_ne hr (te_add (te_len rfl (by rfl) T.b_len (ta_cons (te_v 15) ta_nil)) (te_len rfl (by rfl) T.b_len (ta_cons (te_v 16) ta_nil))) (te_add (te_v 11) te_int)) (tw_or1 (PW.pt (tw_and (tb_gt (te_v 11) (te_v 8)) (tw_and1 (tb_ne hr (te_len rfl (by rfl) T.b_len (ta_cons (te_v 15) ta_nil)) te_int)))))))) (ts_one (ts_ret te_bl)) ts_nil)
      (ts_one (ts_if (PW.pt (tw_and (tb_eq hr (te_v 11) (te_v 8)) (tw_and (tb_gt (te_v 7) te_int) (tw_and1 (tb_eq hr (te_ixA hr (te_call G_parted hr tk (ta_cons (te_v 14) (ta_cons (te_v 10) (ta_cons (te_sub (te_v 7) te_int) ta_nil)))) te_int) (te_tup ta_nil)))))) (ts_one (ts_ret te_bl)) ts_nil))))))))))))))
      (ts_cons (ts_set 14 sc.nd rfl (by first | exact Or.inl rfl | exact Or.inr rfl) (te_make (E := E) M_World hr tk (ta_cons (te_lst (ta_cons (te_v 2) ta_nil)) (ta_cons (te_lst (ta_cons (te_lc rfl sc.nd (ti_range (by rfl) T.b_range (te_add te_int (te_call G__law_draw hr tk (ta_cons (te_v 1) (ta_cons te_int ta_nil))))) (blkOk_by (own := [("at", 13)]) (by kernel_rfl)) (fun _ _ _ _ _ => (tg_name 13 sc.nd rfl (by first | exact Or.inl rfl | exact Or.inr rfl))) (fun _ _ _ _ _ => tts_nil) (fun _ _ _ _ _ => (te_tup (ta_cons te_int (ta_cons (te_v 13) ta_nil))))) ta_nil)) ta_nil))))
      (ts_cons (ts_set 11 sc.nd rfl (by first | exact Or.inl rfl | exact Or.inr rfl) (te_len rfl (by rfl) T.b_len (ta_cons (te_ixA hr (te_fld (te_v 14)) te_int) ta_nil)))
      (ts_cons (ts_setLc 17 rfl sc.nd rfl rfl rfl (ti_seq (te_tup (ta_cons (te_tup (ta_cons te_int (ta_cons te_int ta_nil))) (ta_cons (te_tup (ta_cons te_int (ta_cons te_int ta_nil))) (ta_cons (te_tup (ta_cons te_int (ta_cons te_int ta_nil))) ta_nil))))) (blkOk_by (own := [("cut", 18)]) (by kernel_rfl)) (fun _ _ _ _ _ => (tg_name 18 sc.nd rfl (by first | exact Or.inl rfl | exact Or.inr rfl))) (fun _ _ _ _ _ => tts_nil) (fun _ _ _ _ _ => (te_len rfl (by rfl) T.b_len (ta_cons (te_ixA hr (te_call G_parted hr takes00 (ta_cons (te_v 14) (ta_cons (te_make (E := XK0) M_Split hr takes00 (ta_cons (te_v 2) (ta_cons te_int (ta_cons (te_v 18) ta_nil)))) (ta_cons (te_pow te_int te_int) ta_nil)))) te_int) ta_nil))))
      (ts_one (ts_ret (te_and (te_eq hr (te_v 17) (te_lst (ta_cons (te_if (tb_le (te_v 11) te_int) te_int (te_v 11)) (ta_cons (te_v 11) (ta_cons te_int ta_nil))))) (te_and (te_eq hr (te_ixA hr (te_call G_parted hr tk (ta_cons (te_v 14) (ta_cons (te_make (E := E) M_Split hr tk (ta_cons (te_v 2) (ta_cons te_int (ta_cons (te_tup (ta_cons te_int (ta_cons te_int ta_nil))) ta_nil)))) (ta_cons te_int ta_nil)))) te_int) (te_tup ta_nil)) (te_one (te_eq hr (te_call G_parted hr tk (ta_cons (te_v 14) (ta_cons (te_make (E := E) M_Split hr tk (ta_cons (te_v 2) (ta_cons te_int (ta_cons (te_tup (ta_cons te_int (ta_cons te_int ta_nil))) ta_nil)))) (ta_cons (te_pow te_int te_int) ta_nil)))) (te_tup (ta_cons (te_tup ta_nil) (ta_cons (te_ixA hr (te_fld (te_v 14)) te_int) ta_nil)))))))))))))))
end
end L2.TL.K08


/-! text K08s -/
set_option Elab.async false
set_option linter.all false
set_option maxRecDepth 100000
set_option maxHeartbeats 4000000
namespace L2.TL.K08
open PySem PySem.Spec PyProof.Rows L2.TL
def prs0 (many : Nat) : List (Int × Int) := (List.range many).map fun i : Nat => ((0 : Int), (i : Int))
theorem cnt_prs0 (many : Nat) (v : Int) : cnt ((prs0 many).map row2) 0 v = if v = 0 then many else 0 := by
  unfold cnt prs0
  by_cases h : v = 0
  · rw [if_pos h, List.filter_eq_self.mpr]
    · simp
    · intro r hr
      rw [List.map_map] at hr
      obtain ⟨i, _, rfl⟩ := List.mem_map.mp hr
      simp [row2, h]
  · rw [if_neg h, List.filter_eq_nil_iff.mpr]
    · rfl
    · intro r hr
      rw [List.map_map] at hr
      obtain ⟨i, _, rfl⟩ := List.mem_map.mp hr
      simpa [row2] using fun q : 0 = v => h q.symm
theorem light_prs0 (many a b base : Nat) (r : List Int) (hr : r ∈ (prs0 many).map row2) : lightR ((prs0 many).map row2) 0 a b base r = decide (many ^ b ≤ base ^ a) := by
  unfold lightR
  have : r.getD 0 0 = 0 := by
    unfold prs0 at hr
    rw [List.map_map] at hr
    obtain ⟨i, _, rfl⟩ := List.mem_map.mp hr
    rfl
  rw [cnt_prs0, this, if_pos rfl]
theorem few0 (many a b base : Nat) : ((prs0 many).map row2).filter (lightR ((prs0 many).map row2) 0 a b base) = if many ^ b ≤ base ^ a then (prs0 many).map row2 else [] := by
  rw [List.filter_congr fun r hr => light_prs0 many a b base r hr]
  by_cases h : many ^ b ≤ base ^ a <;> simp [h]
theorem rest0 (many a b base : Nat) : ((prs0 many).map row2).filter (fun r => !lightR ((prs0 many).map row2) 0 a b base r) = if many ^ b ≤ base ^ a then [] else (prs0 many).map row2 := by
  rw [List.filter_congr fun r hr => by rw [light_prs0 many a b base r hr]]
  by_cases h : many ^ b ≤ base ^ a <;> simp [h]
section
variable {K : PySem.W.Frag} {mg : Str → Option Value} {CTable CWorld CSplit : Addr} {rs : List R} {os : Os} {P : R → Os → Prop} {PX : Er → Os → Prop}
theorem l_law (T : Txt K mg CTable CWorld CSplit) (h : Φ_law K CTable CWorld CSplit rs os P PX) : w_law K CTable CWorld CSplit ⟨startR ["script", "pen", "table", "turn", "bottom", "top", "root", "base", "border", "column", "split", "many", "rows", "at", "world", "light", "heavy", "told", "cut"] rs, os⟩ (bodyPost os.length P PX) := by
  obtain ⟨ns, d, rfl, hs, hp⟩ := h
  have st0 : startR ["script", "pen", "table", "turn", "bottom", "top", "root", "base", "border", "column", "split", "many", "rows", "at", "world", "light", "heavy", "told", "cut"] [.sh d] = [some (.sh d), none, none, none, none, none, none, none, none, none, none, none, none, none, none, none, none, none, none] := rfl
  rw [st0]
  unfold w_law
  refine seq_of (fun en => en = ⟨[some (.sh d), some (.ow os.length), none, none, none, none, none, none, none, none, none, none, none, none, none, none, none, none, none], os ++ [some (penD ns 0 0)]⟩) (fun N hN => ?_) ?_
  · simp [wRet, wRetN, wAndV, wOrV, wNotV, wF, wCons, wNil, wV, wC, o1, o2, fIsi, fLen, fAll, fInt, fAbs, fII, fTup, fList, startR, R.fz, R.val, isiD, clsD, clsL, tyD, insOk, bodyPost, wSeq, wNext, wIfS, wT, w2, oAdd, oSub, oI, oIc, oMulW, oDivW, oMod, oPow, oLt, oLe, oGt, oGe, oEq, wIsN, D.isNon, wChain, wIf, wFld, wTup, wLst, shs, wSet, wOwn, wPar, wPar3, wCall, wMake, wMeth, wExpr, wAsgE, geT, geCons, geNil, geF, putD, wAsgT, gT, gsCons, gsNil, gN, iSeq, iOne, iRng, iZip, wNeg, wAnd, wOr, wNot, seqD, shs, oIx, oIxA, oIn, inD, wPut, setD, wGet2, wNewD, wYes, noX, dcD, blsD, eqD, shD, toPy, toPyL, PyData.eqv, PyData.eqvAll, SeqAt.shaped, PyData.canLay0, PyData.canLayAll0, PyData.depth, PyData.depthAll, and_assoc, sz1, sz2, sz3, kit_self, lookup_hd, lookup_tl, Int.natCast_inj, show ((0 : Nat) : Int) = 0 from rfl, kb_NoneType_bool, kb_NoneType_int, kb_NoneType_str, kb_NoneType_list, kb_NoneType_tuple, kb_NoneType_dict, kb_bool_bool, kb_bool_int, kb_bool_str, kb_bool_list, kb_bool_tuple, kb_bool_dict, kb_int_bool, kb_int_int, kb_int_str, kb_int_list, kb_int_tuple, kb_int_dict, kb_str_bool, kb_str_int, kb_str_str, kb_str_list, kb_str_tuple, kb_str_dict, kb_list_bool, kb_list_int, kb_list_str, kb_list_list, kb_list_tuple, kb_list_dict, kb_tuple_bool, kb_tuple_int, kb_tuple_str, kb_tuple_list, kb_tuple_tuple, kb_tuple_dict, kb_dict_bool, kb_dict_int, kb_dict_str, kb_dict_list, kb_dict_tuple, kb_dict_dict]
    refine ⟨ns, d, rfl, hs, ?_⟩
    simp [wRet, wRetN, wAndV, wOrV, wNotV, wF, wCons, wNil, wV, wC, o1, o2, fIsi, fLen, fAll, fInt, fAbs, fII, fTup, fList, startR, R.fz, R.val, isiD, clsD, clsL, tyD, insOk, bodyPost, wSeq, wNext, wIfS, wT, w2, oAdd, oSub, oI, oIc, oMulW, oDivW, oMod, oPow, oLt, oLe, oGt, oGe, oEq, wIsN, D.isNon, wChain, wIf, wFld, wTup, wLst, shs, wSet, wOwn, wPar, wPar3, wCall, wMake, wMeth, wExpr, wAsgE, geT, geCons, geNil, geF, putD, wAsgT, gT, gsCons, gsNil, gN, iSeq, iOne, iRng, iZip, wNeg, wAnd, wOr, wNot, seqD, shs, oIx, oIxA, oIn, inD, wPut, setD, wGet2, wNewD, wYes, noX, dcD, blsD, eqD, shD, toPy, toPyL, PyData.eqv, PyData.eqvAll, SeqAt.shaped, PyData.canLay0, PyData.canLayAll0, PyData.depth, PyData.depthAll, and_assoc, sz1, sz2, sz3, kit_self, lookup_hd, lookup_tl, Int.natCast_inj, show ((0 : Nat) : Int) = 0 from rfl, kb_NoneType_bool, kb_NoneType_int, kb_NoneType_str, kb_NoneType_list, kb_NoneType_tuple, kb_NoneType_dict, kb_bool_bool, kb_bool_int, kb_bool_str, kb_bool_list, kb_bool_tuple, kb_bool_dict, kb_int_bool, kb_int_int, kb_int_str, kb_int_list, kb_int_tuple, kb_int_dict, kb_str_bool, kb_str_int, kb_str_str, kb_str_list, kb_str_tuple, kb_str_dict, kb_list_bool, kb_list_int, kb_list_str, kb_list_list, kb_list_tuple, kb_list_dict, kb_tuple_bool, kb_tuple_int, kb_tuple_str, kb_tuple_list, kb_tuple_tuple, kb_tuple_dict, kb_dict_bool, kb_dict_int, kb_dict_str, kb_dict_list, kb_dict_tuple, kb_dict_dict]
    exact hN _ rfl
  rintro _ rfl
  refine seq_of (fun en => en = ⟨[some (.sh d), some (.ow os.length), some (.sh (tabR CTable)), none, none, none, none, none, none, none, none, none, none, none, none, none, none, none, none], os ++ [some (penD ns 0 0)]⟩) (fun N hN => ?_) ?_
  · unfold wSet
    refine mk_table ?_
    exact hN _ rfl
  rintro _ rfl
  refine seq_of (fun en => ∃ at' rest : Nat, at' ≤ 40 ∧ ∃ x3 x4 x5 x6 x7 x8 x9 x10 x11 x12 x13 x14 x15 x16 x17 x18, en = ⟨[some (.sh d), some (.ow os.length), some (.sh (tabR CTable)), x3, x4, x5, x6, x7, x8, x9, x10, x11, x12, x13, x14, x15, x16, x17, x18], os ++ [some (penD ns at' rest)]⟩) (fun N hN => ?_) ?_
  · simp only [wFor, iRng, wC, R.fz]
    refine ⟨by decide, by decide, ?_⟩
    refine loop_inv (body := w_turn K CTable CWorld CSplit) (fun ds en => ∃ at' rest : Nat, at' + 5 * ds.length ≤ 40 ∧ ∃ x3 x4 x5 x6 x7 x8 x9 x10 x11 x12 x13 x14 x15 x16 x17 x18, en = ⟨[some (.sh d), some (.ow os.length), some (.sh (tabR CTable)), x3, x4, x5, x6, x7, x8, x9, x10, x11, x12, x13, x14, x15, x16, x17, x18], os ++ [some (penD ns at' rest)]⟩) ?_ ?_ _ _ ⟨0, 0, by decide, none, none, none, none, none, none, none, none, none, none, none, none, none, none, none, none, rfl⟩
    · rintro en ⟨at', rest, h1, x3, x4, x5, x6, x7, x8, x9, x10, x11, x12, x13, x14, x15, x16, x17, x18, rfl⟩
      exact hN _ ⟨at', rest, by simpa using h1, x3, x4, x5, x6, x7, x8, x9, x10, x11, x12, x13, x14, x15, x16, x17, x18, rfl⟩
    · rintro e ds en ⟨at', rest, h1, x3, x4, x5, x6, x7, x8, x9, x10, x11, x12, x13, x14, x15, x16, x17, x18, rfl⟩
      rw [List.length_cons] at h1
      refine ⟨_, rfl, fun N2 hN2 => ?_⟩
      refine l_turn T hs.1 (by omega) fun y4 y5 y6 y7 y8 y9 y10 y11 y12 y14 y15 y16 at2 rest2 h2 => ?_
      exact hN2 _ ⟨at2, rest2, by omega, _, _, _, _, _, _, _, _, _, _, _, _, _, _, _, _, rfl⟩
  rintro _ ⟨at', rest, ha, x3, x4, x5, x6, x7, x8, x9, x10, x11, x12, x13, x14, x15, x16, x17, x18, rfl⟩
  have asc0 : ∀ many, Asc (prs0 many) := fun many => asc_range0 0 many
  have ok0 : ∀ many, many ≤ 1001 → ∀ r ∈ (prs0 many).map row2, RowOk 2 r := fun many hm r hr => by
    unfold prs0 at hr
    rw [List.map_map] at hr
    obtain ⟨i, hi, rfl⟩ := List.mem_map.mp hr
    have := List.mem_range.mp hi
    refine ⟨rfl, fun v hv => ?_⟩
    simp only [Function.comp, row2, List.mem_cons, List.not_mem_nil, or_false] at hv
    rcases hv with rfl | rfl <;> omega
  have len0 : ∀ many, ((prs0 many).map row2).length = many := fun many => by simp [prs0]
  refine seq_of (fun en => ∃ many : Nat, (many = 1000 ∨ many = 1001) ∧ ∃ x14 os', x14 = some (.sh (worldD CTable CWorld ("r", 2) ((prs0 many).map row2))) ∧ en = ⟨[some (.sh d), some (.ow os.length), some (.sh (tabR CTable)), x3, x4, x5, x6, x7, x8, x9, x10, x11, x12, x13, x14, x15, x16, x17, x18], os'⟩) (fun N hN => ?_) ?_
  · simp [wLc, wipeR, restR, tabR, wRet, wRetN, wAndV, wOrV, wNotV, wF, wCons, wNil, wV, wC, o1, o2, fIsi, fLen, fAll, fInt, fAbs, fII, fTup, fList, startR, R.fz, R.val, isiD, clsD, clsL, tyD, insOk, bodyPost, wSeq, wNext, wIfS, wT, w2, oAdd, oSub, oI, oIc, oMulW, oDivW, oMod, oPow, oLt, oLe, oGt, oGe, oEq, wIsN, D.isNon, wChain, wIf, wFld, wTup, wLst, shs, wSet, wOwn, wPar, wPar3, wCall, wMake, wMeth, wExpr, wAsgE, geT, geCons, geNil, geF, putD, wAsgT, gT, gsCons, gsNil, gN, iSeq, iOne, iRng, iZip, wNeg, wAnd, wOr, wNot, seqD, shs, oIx, oIxA, oIn, inD, wPut, setD, wGet2, wNewD, wYes, noX, dcD, blsD, eqD, shD, toPy, toPyL, PyData.eqv, PyData.eqvAll, SeqAt.shaped, PyData.canLay0, PyData.canLayAll0, PyData.depth, PyData.depthAll, and_assoc, sz1, sz2, sz3, kit_self, lookup_hd, lookup_tl, Int.natCast_inj, show ((0 : Nat) : Int) = 0 from rfl, kb_NoneType_bool, kb_NoneType_int, kb_NoneType_str, kb_NoneType_list, kb_NoneType_tuple, kb_NoneType_dict, kb_bool_bool, kb_bool_int, kb_bool_str, kb_bool_list, kb_bool_tuple, kb_bool_dict, kb_int_bool, kb_int_int, kb_int_str, kb_int_list, kb_int_tuple, kb_int_dict, kb_str_bool, kb_str_int, kb_str_str, kb_str_list, kb_str_tuple, kb_str_dict, kb_list_bool, kb_list_int, kb_list_str, kb_list_list, kb_list_tuple, kb_list_dict, kb_tuple_bool, kb_tuple_int, kb_tuple_str, kb_tuple_list, kb_tuple_tuple, kb_tuple_dict, kb_dict_bool, kb_dict_int, kb_dict_str, kb_dict_list, kb_dict_tuple, kb_dict_dict]
    refine ⟨os.length, ns, at', rest, 2, rfl, get_last _ _, hs.1, by omega, by omega, by omega, fun v at2 rest2 hv h2 => ?_⟩
    have hz : (1000 + (v : Int)).toNat ≤ sizeLine := by rw [sizeLine_eq]; omega
    have et : (1000 + (v : Int)).toNat = 1000 + v := by omega
    simp [set_last, hz, et, wRet, wRetN, wAndV, wOrV, wNotV, wF, wCons, wNil, wV, wC, o1, o2, fIsi, fLen, fAll, fInt, fAbs, fII, fTup, fList, startR, R.fz, R.val, isiD, clsD, clsL, tyD, insOk, bodyPost, wSeq, wNext, wIfS, wT, w2, oAdd, oSub, oI, oIc, oMulW, oDivW, oMod, oPow, oLt, oLe, oGt, oGe, oEq, wIsN, D.isNon, wChain, wIf, wFld, wTup, wLst, shs, wSet, wOwn, wPar, wPar3, wCall, wMake, wMeth, wExpr, wAsgE, geT, geCons, geNil, geF, putD, wAsgT, gT, gsCons, gsNil, gN, iSeq, iOne, iRng, iZip, wNeg, wAnd, wOr, wNot, seqD, shs, oIx, oIxA, oIn, inD, wPut, setD, wGet2, wNewD, wYes, noX, dcD, blsD, eqD, shD, toPy, toPyL, PyData.eqv, PyData.eqvAll, SeqAt.shaped, PyData.canLay0, PyData.canLayAll0, PyData.depth, PyData.depthAll, and_assoc, sz1, sz2, sz3, kit_self, lookup_hd, lookup_tl, Int.natCast_inj, show ((0 : Nat) : Int) = 0 from rfl, kb_NoneType_bool, kb_NoneType_int, kb_NoneType_str, kb_NoneType_list, kb_NoneType_tuple, kb_NoneType_dict, kb_bool_bool, kb_bool_int, kb_bool_str, kb_bool_list, kb_bool_tuple, kb_bool_dict, kb_int_bool, kb_int_int, kb_int_str, kb_int_list, kb_int_tuple, kb_int_dict, kb_str_bool, kb_str_int, kb_str_str, kb_str_list, kb_str_tuple, kb_str_dict, kb_list_bool, kb_list_int, kb_list_str, kb_list_list, kb_list_tuple, kb_list_dict, kb_tuple_bool, kb_tuple_int, kb_tuple_str, kb_tuple_list, kb_tuple_tuple, kb_tuple_dict, kb_dict_bool, kb_dict_int, kb_dict_str, kb_dict_list, kb_dict_tuple, kb_dict_dict]
    refine ⟨by rw [sizeLine_eq]; omega, by omega, ?_⟩
    refine lcL_map (f := fun d => .tup [.int 0, d]) rfl (fun e he P PX h => ?_) ?_
    · obtain ⟨i, hi, rfl⟩ := List.mem_map.mp he
      simpa [wRet, wRetN, wAndV, wOrV, wNotV, wF, wCons, wNil, wV, wC, o1, o2, fIsi, fLen, fAll, fInt, fAbs, fII, fTup, fList, startR, R.fz, R.val, isiD, clsD, clsL, tyD, insOk, bodyPost, wSeq, wNext, wIfS, wT, w2, oAdd, oSub, oI, oIc, oMulW, oDivW, oMod, oPow, oLt, oLe, oGt, oGe, oEq, wIsN, D.isNon, wChain, wIf, wFld, wTup, wLst, shs, wSet, wOwn, wPar, wPar3, wCall, wMake, wMeth, wExpr, wAsgE, geT, geCons, geNil, geF, putD, wAsgT, gT, gsCons, gsNil, gN, iSeq, iOne, iRng, iZip, wNeg, wAnd, wOr, wNot, seqD, shs, oIx, oIxA, oIn, inD, wPut, setD, wGet2, wNewD, wYes, noX, dcD, blsD, eqD, shD, toPy, toPyL, PyData.eqv, PyData.eqvAll, SeqAt.shaped, PyData.canLay0, PyData.canLayAll0, PyData.depth, PyData.depthAll, and_assoc, sz1, sz2, sz3, kit_self, lookup_hd, lookup_tl, Int.natCast_inj, show ((0 : Nat) : Int) = 0 from rfl, kb_NoneType_bool, kb_NoneType_int, kb_NoneType_str, kb_NoneType_list, kb_NoneType_tuple, kb_NoneType_dict, kb_bool_bool, kb_bool_int, kb_bool_str, kb_bool_list, kb_bool_tuple, kb_bool_dict, kb_int_bool, kb_int_int, kb_int_str, kb_int_list, kb_int_tuple, kb_int_dict, kb_str_bool, kb_str_int, kb_str_str, kb_str_list, kb_str_tuple, kb_str_dict, kb_list_bool, kb_list_int, kb_list_str, kb_list_list, kb_list_tuple, kb_list_dict, kb_tuple_bool, kb_tuple_int, kb_tuple_str, kb_tuple_list, kb_tuple_tuple, kb_tuple_dict, kb_dict_bool, kb_dict_int, kb_dict_str, kb_dict_list, kb_dict_tuple, kb_dict_dict] using h
    · have er : ([] : List D) ++ (((List.range (1000 + v)).map fun i : Nat => D.int (i : Int)).map fun d => D.tup [.int 0, d]) = ((prs0 (1000 + v)).map row2).map rowT := by
        simp [prs0, row2, rowT, Function.comp_def]
      rw [er]
      have hm : 1000 + v ≤ 1001 := by omega
      refine ⟨_, ("r", 2), (prs0 (1000 + v)).map row2, rfl, get_last _ _, .inr rfl, ok0 _ hm, by rw [len0]; omega, srt_of (asc0 _), ?_⟩
      simp only [set_last, get_last, take_last]
      refine ⟨trivial, hN _ ⟨1000 + v, by omega, _, _, rfl, rfl⟩⟩
  rintro _ ⟨many, hm, x14, os', rfl, rfl⟩
  refine seq_of (fun en => en = ⟨[some (.sh d), some (.ow os.length), some (.sh (tabR CTable)), x3, x4, x5, x6, x7, x8, x9, x10, some (.sh (.int many)), x12, x13, some (.sh (worldD CTable CWorld ("r", 2) ((prs0 many).map row2))), x15, x16, x17, x18], os'⟩) (fun N hN => ?_) ?_
  · simp only [worldD] at hN ⊢
    simp [T.k_World, T.n_World_rows, lookup_tl ne_rt, atI, ixN, wRet, wRetN, wAndV, wOrV, wNotV, wF, wCons, wNil, wV, wC, o1, o2, fIsi, fLen, fAll, fInt, fAbs, fII, fTup, fList, startR, R.fz, R.val, isiD, clsD, clsL, tyD, insOk, bodyPost, wSeq, wNext, wIfS, wT, w2, oAdd, oSub, oI, oIc, oMulW, oDivW, oMod, oPow, oLt, oLe, oGt, oGe, oEq, wIsN, D.isNon, wChain, wIf, wFld, wTup, wLst, shs, wSet, wOwn, wPar, wPar3, wCall, wMake, wMeth, wExpr, wAsgE, geT, geCons, geNil, geF, putD, wAsgT, gT, gsCons, gsNil, gN, iSeq, iOne, iRng, iZip, wNeg, wAnd, wOr, wNot, seqD, shs, oIx, oIxA, oIn, inD, wPut, setD, wGet2, wNewD, wYes, noX, dcD, blsD, eqD, shD, toPy, toPyL, PyData.eqv, PyData.eqvAll, SeqAt.shaped, PyData.canLay0, PyData.canLayAll0, PyData.depth, PyData.depthAll, and_assoc, sz1, sz2, sz3, kit_self, lookup_hd, lookup_tl, Int.natCast_inj, show ((0 : Nat) : Int) = 0 from rfl, kb_NoneType_bool, kb_NoneType_int, kb_NoneType_str, kb_NoneType_list, kb_NoneType_tuple, kb_NoneType_dict, kb_bool_bool, kb_bool_int, kb_bool_str, kb_bool_list, kb_bool_tuple, kb_bool_dict, kb_int_bool, kb_int_int, kb_int_str, kb_int_list, kb_int_tuple, kb_int_dict, kb_str_bool, kb_str_int, kb_str_str, kb_str_list, kb_str_tuple, kb_str_dict, kb_list_bool, kb_list_int, kb_list_str, kb_list_list, kb_list_tuple, kb_list_dict, kb_tuple_bool, kb_tuple_int, kb_tuple_str, kb_tuple_list, kb_tuple_tuple, kb_tuple_dict, kb_dict_bool, kb_dict_int, kb_dict_str, kb_dict_list, kb_dict_tuple, kb_dict_dict]
    have := len0 many
    simp at this
    simpa [this] using hN _ rfl
  rintro _ rfl
  have part : ∀ (a b base : Nat) (os2 : Os) (P2 : R → Os → Prop) (PX2 : Er → Os → Prop), a ≤ 9999 → b ≤ 9999 → 1 ≤ base → base ≤ 1000000 →
      P2 (.sh (.tup [.tup ((if many ^ b ≤ base ^ a then (prs0 many).map row2 else []).map rowT), .tup ((if many ^ b ≤ base ^ a then [] else (prs0 many).map row2).map rowT)])) os2 →
      Φ_parted K CTable CWorld CSplit [.sh (worldD CTable CWorld ("r", 2) ((prs0 many).map row2)), .sh (splitD CTable CSplit ("r", 2) 0 a b), .sh (.int base)] os2 P2 PX2 := fun a b base os2 P2 PX2 h1 h2 h3 h4 h => by
    refine ⟨(prs0 many).map row2, ("r", 2), 0, a, b, base, rfl, by decide +kernel, fun r hr => ?_, by omega, by rw [len0]; omega, h1, h2, h3, h4, ?_⟩
    · obtain ⟨p, _, rfl⟩ := List.mem_map.mp hr; rfl
    · rw [few0, rest0]; exact h
  have n1 : (many ^ 2 ≤ 1000000 ^ 1) = (many ≤ 1000) := by rcases hm with rfl | rfl <;> decide +kernel
  have n2 : (many ^ 1001 ≤ 1000000 ^ 500) = False := by rcases hm with rfl | rfl <;> decide +kernel
  have n3 : (many ^ 1001 ≤ 1000000 ^ 501) = True := by rcases hm with rfl | rfl <;> decide +kernel
  have n4 : (many ^ 1 ≤ 2 ^ 9999) = True := by rcases hm with rfl | rfl <;> decide +kernel
  have n5 : (many ^ 9999 ≤ 1000000 ^ 1) = False := by rcases hm with rfl | rfl <;> decide +kernel
  have elt : ∀ (a b : Nat), Nat.gcd a b = 1 → 1 ≤ a → 1 ≤ b → a ≤ 9999 → b ≤ 9999 → ∀ (ρ : Ro) (os2 : Os) (P2 : R → En → Prop) (PX2 : PEr) (base : Nat) (wb wx : WEx), 1 ≤ base → base ≤ 1000000 → ρ[2]? = some (some (.sh (tabR CTable))) → ρ[14]? = some (some (.sh (worldD CTable CWorld ("r", 2) ((prs0 many).map row2)))) →
      (∀ (P : R → En → Prop) PX, P (.sh (.tup [.int a, .int b])) ⟨ρ, os2⟩ → wx ⟨ρ, os2⟩ P PX) → (∀ (P : R → En → Prop) PX, P (.sh (.int base)) ⟨ρ, os2⟩ → wb ⟨ρ, os2⟩ P PX) →
      P2 (.sh (.tup [.tup ((if many ^ b ≤ base ^ a then (prs0 many).map row2 else []).map rowT), .tup ((if many ^ b ≤ base ^ a then [] else (prs0 many).map row2).map rowT)])) ⟨ρ, os2⟩ →
      wCall (Φ_parted K CTable CWorld CSplit) (wCons (wV 14) (wCons (wMake CSplit (Φ_Split_init K CTable CWorld CSplit) (wCons (wV 2) (wCons (wC (.int 0)) (wCons wx wNil)))) (wCons wb wNil))) ⟨ρ, os2⟩ P2 PX2 := fun a b hg h1 h2 h3 h4 ρ os2 P2 PX2 base wb wx b1 b2 r2 r14 hx hb h => by
    unfold wCall
    refine ⟨_, r14, ?_⟩
    refine mk_split (z := "r") (c := 0) (a := a) (b := b) (fun P PX h => ?_) (by omega) h1 h2 h3 h4 ?_
    · exact ⟨_, r2, hx _ _ h⟩
    · refine hb _ _ ?_
      simp only [wNil, R.fz, hg, Nat.div_one]
      exact part a b base _ _ _ h3 h4 b1 b2 h
  have ei : ∀ (c : Prop) [Decidable c], ((((if c then [] else (prs0 many).map row2).map rowT).length : Nat) : Int) = if c then 0 else (many : Int) := fun c _ => by
    by_cases h : c
    · rw [if_pos h, if_pos h]; rfl
    · rw [if_neg h, if_neg h, List.length_map, len0]
  have p10 : ∀ (en : En) (P : R → En → Prop) (PX : PEr), P (.sh (.int ((1000000 : Nat) : Int))) en → w2 oPow (wC (.int 10)) (wC (.int 6)) en P PX := fun en P PX h => ⟨⟨by decide, by decide, by decide⟩, h⟩
  have at2' : ∀ x y : D, atI [x, y] 1 = some y := fun x y => rfl
  refine seq_of (fun en => en = ⟨[some (.sh d), some (.ow os.length), some (.sh (tabR CTable)), x3, x4, x5, x6, x7, x8, x9, x10, some (.sh (.int many)), x12, x13, some (.sh (worldD CTable CWorld ("r", 2) ((prs0 many).map row2))), x15, x16, some (.sh (.lst [.int (if many ≤ 1000 then 0 else (many : Int)), .int many, .int 0])), x18], os'⟩) (fun N hN => ?_) ?_
  · unfold wSet wLc
    simp [wipeR, restR, iSeq, wTup, wCons, wNil, wC, shs, R.fz, sz2, sz3]
    refine lcL_map (f := fun d => match d with | .tup [.int a, .int b] => .int (if many ^ b.toNat ≤ 1000000 ^ a.toNat then 0 else (many : Int)) | _ => .non) rfl (fun e he P2 PX2 h => ?_) ?_
    · simp only [List.mem_cons, List.not_mem_nil, or_false] at he
      rcases he with rfl | rfl | rfl
      · have h' : P2 (.sh (.int (if many ^ 2 ≤ 1000000 ^ 1 then 0 else (many : Int)))) ⟨_, os'⟩ := h
        simp only [wF, wCons, wNil, w2]
        refine elt 1 2 (by decide) (by decide) (by decide) (by decide) (by decide) _ _ _ _ 1000000 _ _ (by decide) (by decide) rfl rfl (fun P PX h => by simpa [wRet, wRetN, wAndV, wOrV, wNotV, wF, wCons, wNil, wV, wC, o1, o2, fIsi, fLen, fAll, fInt, fAbs, fII, fTup, fList, startR, R.fz, R.val, isiD, clsD, clsL, tyD, insOk, bodyPost, wSeq, wNext, wIfS, wT, w2, oAdd, oSub, oI, oIc, oMulW, oDivW, oMod, oPow, oLt, oLe, oGt, oGe, oEq, wIsN, D.isNon, wChain, wIf, wFld, wTup, wLst, shs, wSet, wOwn, wPar, wPar3, wCall, wMake, wMeth, wExpr, wAsgE, geT, geCons, geNil, geF, putD, wAsgT, gT, gsCons, gsNil, gN, iSeq, iOne, iRng, iZip, wNeg, wAnd, wOr, wNot, seqD, shs, oIx, oIxA, oIn, inD, wPut, setD, wGet2, wNewD, wYes, noX, dcD, blsD, eqD, shD, toPy, toPyL, PyData.eqv, PyData.eqvAll, SeqAt.shaped, PyData.canLay0, PyData.canLayAll0, PyData.depth, PyData.depthAll, and_assoc, sz1, sz2, sz3, kit_self, lookup_hd, lookup_tl, Int.natCast_inj, show ((0 : Nat) : Int) = 0 from rfl, kb_NoneType_bool, kb_NoneType_int, kb_NoneType_str, kb_NoneType_list, kb_NoneType_tuple, kb_NoneType_dict, kb_bool_bool, kb_bool_int, kb_bool_str, kb_bool_list, kb_bool_tuple, kb_bool_dict, kb_int_bool, kb_int_int, kb_int_str, kb_int_list, kb_int_tuple, kb_int_dict, kb_str_bool, kb_str_int, kb_str_str, kb_str_list, kb_str_tuple, kb_str_dict, kb_list_bool, kb_list_int, kb_list_str, kb_list_list, kb_list_tuple, kb_list_dict, kb_tuple_bool, kb_tuple_int, kb_tuple_str, kb_tuple_list, kb_tuple_tuple, kb_tuple_dict, kb_dict_bool, kb_dict_int, kb_dict_str, kb_dict_list, kb_dict_tuple, kb_dict_dict] using h) (fun P PX h => ?_) ?_
        · exact p10 _ _ _ h
        · simp only [oIxA, oIx, wC, R.fz, R.val, at2', o1, fLen, ei]
          exact h'
      · have h' : P2 (.sh (.int (if many ^ 1001 ≤ 1000000 ^ 500 then 0 else (many : Int)))) ⟨_, os'⟩ := h
        simp only [wF, wCons, wNil, w2]
        refine elt 500 1001 (by decide) (by decide) (by decide) (by decide) (by decide) _ _ _ _ 1000000 _ _ (by decide) (by decide) rfl rfl (fun P PX h => by simpa [wRet, wRetN, wAndV, wOrV, wNotV, wF, wCons, wNil, wV, wC, o1, o2, fIsi, fLen, fAll, fInt, fAbs, fII, fTup, fList, startR, R.fz, R.val, isiD, clsD, clsL, tyD, insOk, bodyPost, wSeq, wNext, wIfS, wT, w2, oAdd, oSub, oI, oIc, oMulW, oDivW, oMod, oPow, oLt, oLe, oGt, oGe, oEq, wIsN, D.isNon, wChain, wIf, wFld, wTup, wLst, shs, wSet, wOwn, wPar, wPar3, wCall, wMake, wMeth, wExpr, wAsgE, geT, geCons, geNil, geF, putD, wAsgT, gT, gsCons, gsNil, gN, iSeq, iOne, iRng, iZip, wNeg, wAnd, wOr, wNot, seqD, shs, oIx, oIxA, oIn, inD, wPut, setD, wGet2, wNewD, wYes, noX, dcD, blsD, eqD, shD, toPy, toPyL, PyData.eqv, PyData.eqvAll, SeqAt.shaped, PyData.canLay0, PyData.canLayAll0, PyData.depth, PyData.depthAll, and_assoc, sz1, sz2, sz3, kit_self, lookup_hd, lookup_tl, Int.natCast_inj, show ((0 : Nat) : Int) = 0 from rfl, kb_NoneType_bool, kb_NoneType_int, kb_NoneType_str, kb_NoneType_list, kb_NoneType_tuple, kb_NoneType_dict, kb_bool_bool, kb_bool_int, kb_bool_str, kb_bool_list, kb_bool_tuple, kb_bool_dict, kb_int_bool, kb_int_int, kb_int_str, kb_int_list, kb_int_tuple, kb_int_dict, kb_str_bool, kb_str_int, kb_str_str, kb_str_list, kb_str_tuple, kb_str_dict, kb_list_bool, kb_list_int, kb_list_str, kb_list_list, kb_list_tuple, kb_list_dict, kb_tuple_bool, kb_tuple_int, kb_tuple_str, kb_tuple_list, kb_tuple_tuple, kb_tuple_dict, kb_dict_bool, kb_dict_int, kb_dict_str, kb_dict_list, kb_dict_tuple, kb_dict_dict] using h) (fun P PX h => ?_) ?_
        · exact p10 _ _ _ h
        · simp only [oIxA, oIx, wC, R.fz, R.val, at2', o1, fLen, ei]
          exact h'
      · have h' : P2 (.sh (.int (if many ^ 1001 ≤ 1000000 ^ 501 then 0 else (many : Int)))) ⟨_, os'⟩ := h
        simp only [wF, wCons, wNil, w2]
        refine elt 501 1001 (by decide) (by decide) (by decide) (by decide) (by decide) _ _ _ _ 1000000 _ _ (by decide) (by decide) rfl rfl (fun P PX h => by simpa [wRet, wRetN, wAndV, wOrV, wNotV, wF, wCons, wNil, wV, wC, o1, o2, fIsi, fLen, fAll, fInt, fAbs, fII, fTup, fList, startR, R.fz, R.val, isiD, clsD, clsL, tyD, insOk, bodyPost, wSeq, wNext, wIfS, wT, w2, oAdd, oSub, oI, oIc, oMulW, oDivW, oMod, oPow, oLt, oLe, oGt, oGe, oEq, wIsN, D.isNon, wChain, wIf, wFld, wTup, wLst, shs, wSet, wOwn, wPar, wPar3, wCall, wMake, wMeth, wExpr, wAsgE, geT, geCons, geNil, geF, putD, wAsgT, gT, gsCons, gsNil, gN, iSeq, iOne, iRng, iZip, wNeg, wAnd, wOr, wNot, seqD, shs, oIx, oIxA, oIn, inD, wPut, setD, wGet2, wNewD, wYes, noX, dcD, blsD, eqD, shD, toPy, toPyL, PyData.eqv, PyData.eqvAll, SeqAt.shaped, PyData.canLay0, PyData.canLayAll0, PyData.depth, PyData.depthAll, and_assoc, sz1, sz2, sz3, kit_self, lookup_hd, lookup_tl, Int.natCast_inj, show ((0 : Nat) : Int) = 0 from rfl, kb_NoneType_bool, kb_NoneType_int, kb_NoneType_str, kb_NoneType_list, kb_NoneType_tuple, kb_NoneType_dict, kb_bool_bool, kb_bool_int, kb_bool_str, kb_bool_list, kb_bool_tuple, kb_bool_dict, kb_int_bool, kb_int_int, kb_int_str, kb_int_list, kb_int_tuple, kb_int_dict, kb_str_bool, kb_str_int, kb_str_str, kb_str_list, kb_str_tuple, kb_str_dict, kb_list_bool, kb_list_int, kb_list_str, kb_list_list, kb_list_tuple, kb_list_dict, kb_tuple_bool, kb_tuple_int, kb_tuple_str, kb_tuple_list, kb_tuple_tuple, kb_tuple_dict, kb_dict_bool, kb_dict_int, kb_dict_str, kb_dict_list, kb_dict_tuple, kb_dict_dict] using h) (fun P PX h => ?_) ?_
        · exact p10 _ _ _ h
        · simp only [oIxA, oIx, wC, R.fz, R.val, at2', o1, fLen, ei]
          exact h'
    · show N ⟨[some (.sh d), some (.ow os.length), some (.sh (tabR CTable)), x3, x4, x5, x6, x7, x8, x9, x10, some (.sh (.int many)), x12, x13, some (.sh (worldD CTable CWorld ("r", 2) ((prs0 many).map row2))), x15, x16, some (.sh (.lst [.int (if many ^ 2 ≤ 1000000 ^ 1 then 0 else (many : Int)), .int (if many ^ 1001 ≤ 1000000 ^ 500 then 0 else (many : Int)), .int (if many ^ 1001 ≤ 1000000 ^ 501 then 0 else (many : Int))])), x18], os'⟩
      simp only [n1, n2, n3, if_true, if_false]
      exact hN _ rfl
  rintro _ rfl
  have eqr : ∀ rws : List (List Int), eqD (.tup [.tup [], .tup (rws.map rowT)]) (.tup [.tup [], .tup (rws.map rowT)]) = true := fun rws => by
    have : ∀ r : List Int, PyData.eqvAll (r.map .int) (r.map .int) = true := fun r => by
      induction r with
      | nil => rfl
      | cons v r ih => simp only [List.map_cons, PyData.eqvAll, PyData.eqv, beq_self_eq_true, ih, Bool.and_self]
    have h2 : PyData.eqvAll (rws.map fun r => PyData.tuple (r.map .int)) (rws.map fun r => PyData.tuple (r.map .int)) = true := by
      induction rws with
      | nil => rfl
      | cons r rws ih => simp only [List.map_cons, PyData.eqvAll, PyData.eqv, this, ih, Bool.and_self]
    simp only [eqD, toPy, toPyL, toPyL_rows, PyData.eqv, PyData.eqvAll, h2, Bool.and_self]
  have shr : ∀ rws : List (List Int), shD (.tup [.tup [], .tup (rws.map rowT)]) = true := fun rws => by
    have := depth_rows rws
    simp only [shD, toPy, toPyL, SeqAt.shaped, toPyL_rows, PyData.canLay0, PyData.canLayAll0, lay_rows, PyData.depth, PyData.depthAll, Bool.and_self, Bool.true_and, decide_eq_true_eq]
    omega
  have s1 : ∀ (P2 : R → En → Prop) (PX2 : PEr), P2 (.sh (.bl true)) ⟨[some (.sh d), some (.ow os.length), some (.sh (tabR CTable)), x3, x4, x5, x6, x7, x8, x9, x10, some (.sh (.int many)), x12, x13, some (.sh (worldD CTable CWorld ("r", 2) ((prs0 many).map row2))), x15, x16, some (.sh (.lst [.int (if many ≤ 1000 then 0 else (many : Int)), .int many, .int 0])), x18], os'⟩ → w2 (oEq false) (wV 17) (wLst (wCons (wIf (wT (w2 oLe (wV 11) (wC (.int 1000)))) (wC (.int 0)) (wV 11)) (wCons (wV 11) (wCons (wC (.int 0)) wNil)))) ⟨[some (.sh d), some (.ow os.length), some (.sh (tabR CTable)), x3, x4, x5, x6, x7, x8, x9, x10, some (.sh (.int many)), x12, x13, some (.sh (worldD CTable CWorld ("r", 2) ((prs0 many).map row2))), x15, x16, some (.sh (.lst [.int (if many ≤ 1000 then 0 else (many : Int)), .int many, .int 0])), x18], os'⟩ P2 PX2 := fun P2 PX2 h => by
    by_cases hm1 : many ≤ 1000
    · have e1 : decide ((many : Int) ≤ 1000) = true := by rw [decide_eq_true_eq]; omega
      simp [hm1] at h
      simp [hm1, e1, wRet, wRetN, wAndV, wOrV, wNotV, wF, wCons, wNil, wV, wC, o1, o2, fIsi, fLen, fAll, fInt, fAbs, fII, fTup, fList, startR, R.fz, R.val, isiD, clsD, clsL, tyD, insOk, bodyPost, wSeq, wNext, wIfS, wT, w2, oAdd, oSub, oI, oIc, oMulW, oDivW, oMod, oPow, oLt, oLe, oGt, oGe, oEq, wIsN, D.isNon, wChain, wIf, wFld, wTup, wLst, shs, wSet, wOwn, wPar, wPar3, wCall, wMake, wMeth, wExpr, wAsgE, geT, geCons, geNil, geF, putD, wAsgT, gT, gsCons, gsNil, gN, iSeq, iOne, iRng, iZip, wNeg, wAnd, wOr, wNot, seqD, shs, oIx, oIxA, oIn, inD, wPut, setD, wGet2, wNewD, wYes, noX, dcD, blsD, eqD, shD, toPy, toPyL, PyData.eqv, PyData.eqvAll, SeqAt.shaped, PyData.canLay0, PyData.canLayAll0, PyData.depth, PyData.depthAll, and_assoc, sz1, sz2, sz3, kit_self, lookup_hd, lookup_tl, Int.natCast_inj, show ((0 : Nat) : Int) = 0 from rfl, kb_NoneType_bool, kb_NoneType_int, kb_NoneType_str, kb_NoneType_list, kb_NoneType_tuple, kb_NoneType_dict, kb_bool_bool, kb_bool_int, kb_bool_str, kb_bool_list, kb_bool_tuple, kb_bool_dict, kb_int_bool, kb_int_int, kb_int_str, kb_int_list, kb_int_tuple, kb_int_dict, kb_str_bool, kb_str_int, kb_str_str, kb_str_list, kb_str_tuple, kb_str_dict, kb_list_bool, kb_list_int, kb_list_str, kb_list_list, kb_list_tuple, kb_list_dict, kb_tuple_bool, kb_tuple_int, kb_tuple_str, kb_tuple_list, kb_tuple_tuple, kb_tuple_dict, kb_dict_bool, kb_dict_int, kb_dict_str, kb_dict_list, kb_dict_tuple, kb_dict_dict]
      simpa using h
    · have e1 : decide ((many : Int) ≤ 1000) = false := by rw [decide_eq_false_iff_not]; omega
      simp [hm1] at h
      simp [hm1, e1, wRet, wRetN, wAndV, wOrV, wNotV, wF, wCons, wNil, wV, wC, o1, o2, fIsi, fLen, fAll, fInt, fAbs, fII, fTup, fList, startR, R.fz, R.val, isiD, clsD, clsL, tyD, insOk, bodyPost, wSeq, wNext, wIfS, wT, w2, oAdd, oSub, oI, oIc, oMulW, oDivW, oMod, oPow, oLt, oLe, oGt, oGe, oEq, wIsN, D.isNon, wChain, wIf, wFld, wTup, wLst, shs, wSet, wOwn, wPar, wPar3, wCall, wMake, wMeth, wExpr, wAsgE, geT, geCons, geNil, geF, putD, wAsgT, gT, gsCons, gsNil, gN, iSeq, iOne, iRng, iZip, wNeg, wAnd, wOr, wNot, seqD, shs, oIx, oIxA, oIn, inD, wPut, setD, wGet2, wNewD, wYes, noX, dcD, blsD, eqD, shD, toPy, toPyL, PyData.eqv, PyData.eqvAll, SeqAt.shaped, PyData.canLay0, PyData.canLayAll0, PyData.depth, PyData.depthAll, and_assoc, sz1, sz2, sz3, kit_self, lookup_hd, lookup_tl, Int.natCast_inj, show ((0 : Nat) : Int) = 0 from rfl, kb_NoneType_bool, kb_NoneType_int, kb_NoneType_str, kb_NoneType_list, kb_NoneType_tuple, kb_NoneType_dict, kb_bool_bool, kb_bool_int, kb_bool_str, kb_bool_list, kb_bool_tuple, kb_bool_dict, kb_int_bool, kb_int_int, kb_int_str, kb_int_list, kb_int_tuple, kb_int_dict, kb_str_bool, kb_str_int, kb_str_str, kb_str_list, kb_str_tuple, kb_str_dict, kb_list_bool, kb_list_int, kb_list_str, kb_list_list, kb_list_tuple, kb_list_dict, kb_tuple_bool, kb_tuple_int, kb_tuple_str, kb_tuple_list, kb_tuple_tuple, kb_tuple_dict, kb_dict_bool, kb_dict_int, kb_dict_str, kb_dict_list, kb_dict_tuple, kb_dict_dict]
      simpa using h
  have s2 : ∀ (P2 : R → En → Prop) (PX2 : PEr), P2 (.sh (.bl true)) ⟨[some (.sh d), some (.ow os.length), some (.sh (tabR CTable)), x3, x4, x5, x6, x7, x8, x9, x10, some (.sh (.int many)), x12, x13, some (.sh (worldD CTable CWorld ("r", 2) ((prs0 many).map row2))), x15, x16, some (.sh (.lst [.int (if many ≤ 1000 then 0 else (many : Int)), .int many, .int 0])), x18], os'⟩ → w2 (oEq false) (w2 oIxA (wCall (Φ_parted K CTable CWorld CSplit) (wCons (wV 14) (wCons (wMake CSplit (Φ_Split_init K CTable CWorld CSplit) (wCons (wV 2) (wCons (wC (.int 0)) (wCons (wTup (wCons (wC (.int 9999)) (wCons (wC (.int 1)) wNil))) wNil)))) (wCons (wC (.int 2)) wNil)))) (wC (.int 1))) (wTup wNil) ⟨[some (.sh d), some (.ow os.length), some (.sh (tabR CTable)), x3, x4, x5, x6, x7, x8, x9, x10, some (.sh (.int many)), x12, x13, some (.sh (worldD CTable CWorld ("r", 2) ((prs0 many).map row2))), x15, x16, some (.sh (.lst [.int (if many ≤ 1000 then 0 else (many : Int)), .int many, .int 0])), x18], os'⟩ P2 PX2 := fun P2 PX2 h => by
    simp only [w2]
    refine elt 9999 1 (by decide) (by decide) (by decide) (by decide) (by decide) _ _ _ _ 2 _ _ (by decide) (by decide) rfl rfl (fun P PX h => by simpa [wRet, wRetN, wAndV, wOrV, wNotV, wF, wCons, wNil, wV, wC, o1, o2, fIsi, fLen, fAll, fInt, fAbs, fII, fTup, fList, startR, R.fz, R.val, isiD, clsD, clsL, tyD, insOk, bodyPost, wSeq, wNext, wIfS, wT, w2, oAdd, oSub, oI, oIc, oMulW, oDivW, oMod, oPow, oLt, oLe, oGt, oGe, oEq, wIsN, D.isNon, wChain, wIf, wFld, wTup, wLst, shs, wSet, wOwn, wPar, wPar3, wCall, wMake, wMeth, wExpr, wAsgE, geT, geCons, geNil, geF, putD, wAsgT, gT, gsCons, gsNil, gN, iSeq, iOne, iRng, iZip, wNeg, wAnd, wOr, wNot, seqD, shs, oIx, oIxA, oIn, inD, wPut, setD, wGet2, wNewD, wYes, noX, dcD, blsD, eqD, shD, toPy, toPyL, PyData.eqv, PyData.eqvAll, SeqAt.shaped, PyData.canLay0, PyData.canLayAll0, PyData.depth, PyData.depthAll, and_assoc, sz1, sz2, sz3, kit_self, lookup_hd, lookup_tl, Int.natCast_inj, show ((0 : Nat) : Int) = 0 from rfl, kb_NoneType_bool, kb_NoneType_int, kb_NoneType_str, kb_NoneType_list, kb_NoneType_tuple, kb_NoneType_dict, kb_bool_bool, kb_bool_int, kb_bool_str, kb_bool_list, kb_bool_tuple, kb_bool_dict, kb_int_bool, kb_int_int, kb_int_str, kb_int_list, kb_int_tuple, kb_int_dict, kb_str_bool, kb_str_int, kb_str_str, kb_str_list, kb_str_tuple, kb_str_dict, kb_list_bool, kb_list_int, kb_list_str, kb_list_list, kb_list_tuple, kb_list_dict, kb_tuple_bool, kb_tuple_int, kb_tuple_str, kb_tuple_list, kb_tuple_tuple, kb_tuple_dict, kb_dict_bool, kb_dict_int, kb_dict_str, kb_dict_list, kb_dict_tuple, kb_dict_dict] using h) (fun P PX h => h) ?_
    simp only [n4, if_true]
    have := sh_nil
    have e9 : eqD (.tup []) (.tup []) = true := rfl
    simp only [oIxA, oIx, wC, R.fz, R.val, at2', wTup, wNil, shs, oEq, List.map_nil]
    refine ⟨by decide, this, this, ?_⟩
    rw [e9]; exact h
  have s3 : ∀ (P2 : R → En → Prop) (PX2 : PEr), P2 (.sh (.bl true)) ⟨[some (.sh d), some (.ow os.length), some (.sh (tabR CTable)), x3, x4, x5, x6, x7, x8, x9, x10, some (.sh (.int many)), x12, x13, some (.sh (worldD CTable CWorld ("r", 2) ((prs0 many).map row2))), x15, x16, some (.sh (.lst [.int (if many ≤ 1000 then 0 else (many : Int)), .int many, .int 0])), x18], os'⟩ → w2 (oEq false) (wCall (Φ_parted K CTable CWorld CSplit) (wCons (wV 14) (wCons (wMake CSplit (Φ_Split_init K CTable CWorld CSplit) (wCons (wV 2) (wCons (wC (.int 0)) (wCons (wTup (wCons (wC (.int 1)) (wCons (wC (.int 9999)) wNil))) wNil)))) (wCons (w2 oPow (wC (.int 10)) (wC (.int 6))) wNil)))) (wTup (wCons (wTup wNil) (wCons (w2 oIxA (wFld K "rows" (wV 14)) (wC (.int 0))) wNil))) ⟨[some (.sh d), some (.ow os.length), some (.sh (tabR CTable)), x3, x4, x5, x6, x7, x8, x9, x10, some (.sh (.int many)), x12, x13, some (.sh (worldD CTable CWorld ("r", 2) ((prs0 many).map row2))), x15, x16, some (.sh (.lst [.int (if many ≤ 1000 then 0 else (many : Int)), .int many, .int 0])), x18], os'⟩ P2 PX2 := fun P2 PX2 h => by
    unfold w2
    refine elt 1 9999 (by decide) (by decide) (by decide) (by decide) (by decide) _ _ _ _ 1000000 _ _ (by decide) (by decide) rfl rfl (fun P PX h => by simpa [wRet, wRetN, wAndV, wOrV, wNotV, wF, wCons, wNil, wV, wC, o1, o2, fIsi, fLen, fAll, fInt, fAbs, fII, fTup, fList, startR, R.fz, R.val, isiD, clsD, clsL, tyD, insOk, bodyPost, wSeq, wNext, wIfS, wT, w2, oAdd, oSub, oI, oIc, oMulW, oDivW, oMod, oPow, oLt, oLe, oGt, oGe, oEq, wIsN, D.isNon, wChain, wIf, wFld, wTup, wLst, shs, wSet, wOwn, wPar, wPar3, wCall, wMake, wMeth, wExpr, wAsgE, geT, geCons, geNil, geF, putD, wAsgT, gT, gsCons, gsNil, gN, iSeq, iOne, iRng, iZip, wNeg, wAnd, wOr, wNot, seqD, shs, oIx, oIxA, oIn, inD, wPut, setD, wGet2, wNewD, wYes, noX, dcD, blsD, eqD, shD, toPy, toPyL, PyData.eqv, PyData.eqvAll, SeqAt.shaped, PyData.canLay0, PyData.canLayAll0, PyData.depth, PyData.depthAll, and_assoc, sz1, sz2, sz3, kit_self, lookup_hd, lookup_tl, Int.natCast_inj, show ((0 : Nat) : Int) = 0 from rfl, kb_NoneType_bool, kb_NoneType_int, kb_NoneType_str, kb_NoneType_list, kb_NoneType_tuple, kb_NoneType_dict, kb_bool_bool, kb_bool_int, kb_bool_str, kb_bool_list, kb_bool_tuple, kb_bool_dict, kb_int_bool, kb_int_int, kb_int_str, kb_int_list, kb_int_tuple, kb_int_dict, kb_str_bool, kb_str_int, kb_str_str, kb_str_list, kb_str_tuple, kb_str_dict, kb_list_bool, kb_list_int, kb_list_str, kb_list_list, kb_list_tuple, kb_list_dict, kb_tuple_bool, kb_tuple_int, kb_tuple_str, kb_tuple_list, kb_tuple_tuple, kb_tuple_dict, kb_dict_bool, kb_dict_int, kb_dict_str, kb_dict_list, kb_dict_tuple, kb_dict_dict] using h) (fun P PX h => p10 _ _ _ h) ?_
    simp only [n5, if_false]
    have e8 := shr ((prs0 many).map row2)
    have e9 := eqr ((prs0 many).map row2)
    generalize (prs0 many).map row2 = rws at h e8 e9
    simp only [worldD] at h ⊢
    simp [T.k_World, T.n_World_rows, lookup_tl ne_rt, atI, ixN, wTup, wCons, wNil, wFld, wV, wC, w2, oIxA, oIx, R.fz, R.val, shs, oEq, e8, e9, sz2, lookup_hd]
    simpa using h
  unfold wRet
  simp only [wAndV]
  refine s1 _ _ (s2 _ _ (s3 _ _ ?_))
  exact hp _
end
end L2.TL.K08

/-! text K08z1 -/
set_option Elab.async false
set_option linter.all false
set_option maxRecDepth 100000
set_option maxHeartbeats 4000000
namespace L2.TL.K08
open PySem PySem.Spec PyProof.Rows L2.TL
section
variable {P : Program} {wd : World} {K : PySem.W.Frag} {mg : Str → Option Value} {base : Heap} {CTable CWorld CSplit : Addr}

theorem f_is_integer (T : Txt K mg CTable CWorld CSplit)  {f : Addr} {fd : FuncData} (F : Fun K "is_integer" "is_integer" s_is_integer f fd) : FnOk P wd K mg base (L2.CX P wd) 1 f fd ["value"] (spT K (Φ_is_integer K CTable CWorld CSplit)) :=
  fn_ok F sc_is_integer (fun rs os P PX h => by first | (obtain ⟨_, rfl, _⟩ := h; rfl) | (obtain ⟨_, _, rfl, _⟩ := h; rfl) | (obtain ⟨_, _, _, rfl, _⟩ := h; rfl) | (obtain ⟨_, _, _, _, rfl, _⟩ := h; rfl) | (obtain ⟨_, _, _, _, _, rfl, _⟩ := h; rfl) | (obtain ⟨_, _, _, _, _, _, rfl, _⟩ := h; rfl) | (obtain ⟨_, _, _, _, _, _, _, rfl, _⟩ := h; rfl)) (fun cdv A outer s H E hr => b_is_integer T  cdv A outer s H E hr) (fun rs os P PX h => l_is_integer h)
theorem f_is_between (T : Txt K mg CTable CWorld CSplit) (G_is_integer : Fn P wd K mg base 1 "is_integer" (Φ_is_integer K CTable CWorld CSplit)) {f : Addr} {fd : FuncData} (F : Fun K "is_between" "is_between" s_is_between f fd) : FnOk P wd K mg base (L2.CX P wd) 2 f fd ["value", "least", "most"] (spT K (Φ_is_between K CTable CWorld CSplit)) :=
  fn_ok F sc_is_between (fun rs os P PX h => by first | (obtain ⟨_, rfl, _⟩ := h; rfl) | (obtain ⟨_, _, rfl, _⟩ := h; rfl) | (obtain ⟨_, _, _, rfl, _⟩ := h; rfl) | (obtain ⟨_, _, _, _, rfl, _⟩ := h; rfl) | (obtain ⟨_, _, _, _, _, rfl, _⟩ := h; rfl) | (obtain ⟨_, _, _, _, _, _, rfl, _⟩ := h; rfl) | (obtain ⟨_, _, _, _, _, _, _, rfl, _⟩ := h; rfl)) (fun cdv A outer s H E hr => b_is_between T G_is_integer cdv A outer s H E hr) (fun rs os P PX h => l_is_between h)
theorem f_is_name (T : Txt K mg CTable CWorld CSplit)  {f : Addr} {fd : FuncData} (F : Fun K "is_name" "is_name" s_is_name f fd) : FnOk P wd K mg base (L2.CX P wd) 1 f fd ["value"] (spT K (Φ_is_name K CTable CWorld CSplit)) :=
  fn_ok F sc_is_name (fun rs os P PX h => by first | (obtain ⟨_, rfl, _⟩ := h; rfl) | (obtain ⟨_, _, rfl, _⟩ := h; rfl) | (obtain ⟨_, _, _, rfl, _⟩ := h; rfl) | (obtain ⟨_, _, _, _, rfl, _⟩ := h; rfl) | (obtain ⟨_, _, _, _, _, rfl, _⟩ := h; rfl) | (obtain ⟨_, _, _, _, _, _, rfl, _⟩ := h; rfl) | (obtain ⟨_, _, _, _, _, _, _, rfl, _⟩ := h; rfl)) (fun cdv A outer s H E hr => b_is_name T  cdv A outer s H E hr) (fun rs os P PX h => l_is_name h)
theorem f_is_listed (T : Txt K mg CTable CWorld CSplit)  {f : Addr} {fd : FuncData} (F : Fun K "is_listed" "is_listed" s_is_listed f fd) : FnOk P wd K mg base (L2.CX P wd) 1 f fd ["value"] (spT K (Φ_is_listed K CTable CWorld CSplit)) :=
  fn_ok F sc_is_listed (fun rs os P PX h => by first | (obtain ⟨_, rfl, _⟩ := h; rfl) | (obtain ⟨_, _, rfl, _⟩ := h; rfl) | (obtain ⟨_, _, _, rfl, _⟩ := h; rfl) | (obtain ⟨_, _, _, _, rfl, _⟩ := h; rfl) | (obtain ⟨_, _, _, _, _, rfl, _⟩ := h; rfl) | (obtain ⟨_, _, _, _, _, _, rfl, _⟩ := h; rfl) | (obtain ⟨_, _, _, _, _, _, _, rfl, _⟩ := h; rfl)) (fun cdv A outer s H E hr => b_is_listed T  cdv A outer s H E hr) (fun rs os P PX h => l_is_listed h)
theorem f_is_row (T : Txt K mg CTable CWorld CSplit) (G_is_listed : Fn P wd K mg base 1 "is_listed" (Φ_is_listed K CTable CWorld CSplit)) {f : Addr} {fd : FuncData} (F : Fun K "is_row" "is_row" s_is_row f fd) : FnOk P wd K mg base (L2.CX P wd) 2 f fd ["value", "least", "most"] (spT K (Φ_is_row K CTable CWorld CSplit)) :=
  fn_ok F sc_is_row (fun rs os P PX h => by first | (obtain ⟨_, rfl, _⟩ := h; rfl) | (obtain ⟨_, _, rfl, _⟩ := h; rfl) | (obtain ⟨_, _, _, rfl, _⟩ := h; rfl) | (obtain ⟨_, _, _, _, rfl, _⟩ := h; rfl) | (obtain ⟨_, _, _, _, _, rfl, _⟩ := h; rfl) | (obtain ⟨_, _, _, _, _, _, rfl, _⟩ := h; rfl) | (obtain ⟨_, _, _, _, _, _, _, rfl, _⟩ := h; rfl)) (fun cdv A outer s H E hr => b_is_row T G_is_listed cdv A outer s H E hr) (fun rs os P PX h => l_is_row h)
theorem f_common_part (T : Txt K mg CTable CWorld CSplit)  {f : Addr} {fd : FuncData} (F : Fun K "common_part" "common_part" s_common_part f fd) : FnOk P wd K mg base (L2.CX P wd) 1 f fd ["one", "other"] (spT K (Φ_common_part K CTable CWorld CSplit)) :=
  fn_ok F sc_common_part (fun rs os P PX h => by first | (obtain ⟨_, rfl, _⟩ := h; rfl) | (obtain ⟨_, _, rfl, _⟩ := h; rfl) | (obtain ⟨_, _, _, rfl, _⟩ := h; rfl) | (obtain ⟨_, _, _, _, rfl, _⟩ := h; rfl) | (obtain ⟨_, _, _, _, _, rfl, _⟩ := h; rfl) | (obtain ⟨_, _, _, _, _, _, rfl, _⟩ := h; rfl) | (obtain ⟨_, _, _, _, _, _, _, rfl, _⟩ := h; rfl)) (fun cdv A outer s H E hr => b_common_part T  cdv A outer s H E hr) (fun rs os P PX h => l_common_part h)
theorem f_lowest (T : Txt K mg CTable CWorld CSplit) (G_common_part : Fn P wd K mg base 1 "common_part" (Φ_common_part K CTable CWorld CSplit)) {f : Addr} {fd : FuncData} (F : Fun K "lowest" "lowest" s_lowest f fd) : FnOk P wd K mg base (L2.CX P wd) 2 f fd ["top", "bottom"] (spT K (Φ_lowest K CTable CWorld CSplit)) :=
  fn_ok F sc_lowest (fun rs os P PX h => by first | (obtain ⟨_, rfl, _⟩ := h; rfl) | (obtain ⟨_, _, rfl, _⟩ := h; rfl) | (obtain ⟨_, _, _, rfl, _⟩ := h; rfl) | (obtain ⟨_, _, _, _, rfl, _⟩ := h; rfl) | (obtain ⟨_, _, _, _, _, rfl, _⟩ := h; rfl) | (obtain ⟨_, _, _, _, _, _, rfl, _⟩ := h; rfl) | (obtain ⟨_, _, _, _, _, _, _, rfl, _⟩ := h; rfl)) (fun cdv A outer s H E hr => b_lowest T G_common_part cdv A outer s H E hr) (fun rs os P PX h => l_lowest h)
theorem f_power (T : Txt K mg CTable CWorld CSplit)  {f : Addr} {fd : FuncData} (F : Fun K "power" "power" s_power f fd) : FnOk P wd K mg base (L2.CX P wd) 1 f fd ["number", "many"] (spT K (Φ_power K CTable CWorld CSplit)) :=
  fn_ok F sc_power (fun rs os P PX h => by first | (obtain ⟨_, rfl, _⟩ := h; rfl) | (obtain ⟨_, _, rfl, _⟩ := h; rfl) | (obtain ⟨_, _, _, rfl, _⟩ := h; rfl) | (obtain ⟨_, _, _, _, rfl, _⟩ := h; rfl) | (obtain ⟨_, _, _, _, _, rfl, _⟩ := h; rfl) | (obtain ⟨_, _, _, _, _, _, rfl, _⟩ := h; rfl) | (obtain ⟨_, _, _, _, _, _, _, rfl, _⟩ := h; rfl)) (fun cdv A outer s H E hr => b_power T  cdv A outer s H E hr) (fun rs os P PX h => l_power h)
theorem f_is_at_most (T : Txt K mg CTable CWorld CSplit) (G_power : Fn P wd K mg base 1 "power" (Φ_power K CTable CWorld CSplit)) {f : Addr} {fd : FuncData} (F : Fun K "is_at_most" "is_at_most" s_is_at_most f fd) : FnOk P wd K mg base (L2.CX P wd) 2 f fd ["number", "base", "threshold"] (spT K (Φ_is_at_most K CTable CWorld CSplit)) :=
  fn_ok F sc_is_at_most (fun rs os P PX h => by first | (obtain ⟨_, rfl, _⟩ := h; rfl) | (obtain ⟨_, _, rfl, _⟩ := h; rfl) | (obtain ⟨_, _, _, rfl, _⟩ := h; rfl) | (obtain ⟨_, _, _, _, rfl, _⟩ := h; rfl) | (obtain ⟨_, _, _, _, _, rfl, _⟩ := h; rfl) | (obtain ⟨_, _, _, _, _, _, rfl, _⟩ := h; rfl) | (obtain ⟨_, _, _, _, _, _, _, rfl, _⟩ := h; rfl)) (fun cdv A outer s H E hr => b_is_at_most T G_power cdv A outer s H E hr) (fun rs os P PX h => l_is_at_most h)
theorem f_Table_init (T : Txt K mg CTable CWorld CSplit) (G_is_between : Fn P wd K mg base 2 "is_between" (Φ_is_between K CTable CWorld CSplit)) (G_is_name : Fn P wd K mg base 1 "is_name" (Φ_is_name K CTable CWorld CSplit)) {f : Addr} {fd : FuncData} (F : Fun K "__init__" "Table.__init__" s_Table_init f fd) : FnOk P wd K mg base (L2.CX P wd) 3 f fd ["self", "name", "width"] (spT K (Φ_Table_init K CTable CWorld CSplit)) :=
  fn_ok F sc_Table_init (fun rs os P PX h => by first | (obtain ⟨_, rfl, _⟩ := h; rfl) | (obtain ⟨_, _, rfl, _⟩ := h; rfl) | (obtain ⟨_, _, _, rfl, _⟩ := h; rfl) | (obtain ⟨_, _, _, _, rfl, _⟩ := h; rfl) | (obtain ⟨_, _, _, _, _, rfl, _⟩ := h; rfl) | (obtain ⟨_, _, _, _, _, _, rfl, _⟩ := h; rfl) | (obtain ⟨_, _, _, _, _, _, _, rfl, _⟩ := h; rfl)) (fun cdv A outer s H E hr => b_Table_init T G_is_between G_is_name cdv A outer s H E hr) (fun rs os P PX h => l_Table_init T h)
theorem f_Table_eq (T : Txt K mg CTable CWorld CSplit)  {f : Addr} {fd : FuncData} (F : Fun K "__eq__" "Table.__eq__" s_Table_eq f fd) : FnOk P wd K mg base (L2.CX P wd) 1 f fd ["self", "other"] (spT K (Φ_Table_eq K CTable CWorld CSplit)) :=
  fn_ok F sc_Table_eq (fun rs os P PX h => by first | (obtain ⟨_, rfl, _⟩ := h; rfl) | (obtain ⟨_, _, rfl, _⟩ := h; rfl) | (obtain ⟨_, _, _, rfl, _⟩ := h; rfl) | (obtain ⟨_, _, _, _, rfl, _⟩ := h; rfl) | (obtain ⟨_, _, _, _, _, rfl, _⟩ := h; rfl) | (obtain ⟨_, _, _, _, _, _, rfl, _⟩ := h; rfl) | (obtain ⟨_, _, _, _, _, _, _, rfl, _⟩ := h; rfl)) (fun cdv A outer s H E hr => b_Table_eq T  cdv A outer s H E hr) (fun rs os P PX h => l_Table_eq T h)
theorem f_are_tables (T : Txt K mg CTable CWorld CSplit) (G_is_row : Fn P wd K mg base 2 "is_row" (Φ_is_row K CTable CWorld CSplit)) {f : Addr} {fd : FuncData} (F : Fun K "are_tables" "are_tables" s_are_tables f fd) : FnOk P wd K mg base (L2.CX P wd) 3 f fd ["value", "most"] (spT K (Φ_are_tables K CTable CWorld CSplit)) :=
  fn_ok F sc_are_tables (fun rs os P PX h => by first | (obtain ⟨_, rfl, _⟩ := h; rfl) | (obtain ⟨_, _, rfl, _⟩ := h; rfl) | (obtain ⟨_, _, _, rfl, _⟩ := h; rfl) | (obtain ⟨_, _, _, _, rfl, _⟩ := h; rfl) | (obtain ⟨_, _, _, _, _, rfl, _⟩ := h; rfl) | (obtain ⟨_, _, _, _, _, _, rfl, _⟩ := h; rfl) | (obtain ⟨_, _, _, _, _, _, _, rfl, _⟩ := h; rfl)) (fun cdv A outer s H E hr => b_are_tables T G_is_row cdv A outer s H E hr) (fun rs os P PX h => l_are_tables T h)
theorem f_by_names (T : Txt K mg CTable CWorld CSplit)  {f : Addr} {fd : FuncData} (F : Fun K "by_names" "by_names" s_by_names f fd) : FnOk P wd K mg base (L2.CX P wd) 1 f fd ["tables"] (spT K (Φ_by_names K CTable CWorld CSplit)) :=
  fn_ok F sc_by_names (fun rs os P PX h => by first | (obtain ⟨_, rfl, _⟩ := h; rfl) | (obtain ⟨_, _, rfl, _⟩ := h; rfl) | (obtain ⟨_, _, _, rfl, _⟩ := h; rfl) | (obtain ⟨_, _, _, _, rfl, _⟩ := h; rfl) | (obtain ⟨_, _, _, _, _, rfl, _⟩ := h; rfl) | (obtain ⟨_, _, _, _, _, _, rfl, _⟩ := h; rfl) | (obtain ⟨_, _, _, _, _, _, _, rfl, _⟩ := h; rfl)) (fun cdv A outer s H E hr => b_by_names T  cdv A outer s H E hr) (fun rs os P PX h => l_by_names T h)
theorem f_is_row_of (T : Txt K mg CTable CWorld CSplit) (G_is_between : Fn P wd K mg base 2 "is_between" (Φ_is_between K CTable CWorld CSplit)) (G_is_row : Fn P wd K mg base 2 "is_row" (Φ_is_row K CTable CWorld CSplit)) {f : Addr} {fd : FuncData} (F : Fun K "is_row_of" "is_row_of" s_is_row_of f fd) : FnOk P wd K mg base (L2.CX P wd) 3 f fd ["table", "value"] (spT K (Φ_is_row_of K CTable CWorld CSplit)) :=
  fn_ok F sc_is_row_of (fun rs os P PX h => by first | (obtain ⟨_, rfl, _⟩ := h; rfl) | (obtain ⟨_, _, rfl, _⟩ := h; rfl) | (obtain ⟨_, _, _, rfl, _⟩ := h; rfl) | (obtain ⟨_, _, _, _, rfl, _⟩ := h; rfl) | (obtain ⟨_, _, _, _, _, rfl, _⟩ := h; rfl) | (obtain ⟨_, _, _, _, _, _, rfl, _⟩ := h; rfl) | (obtain ⟨_, _, _, _, _, _, _, rfl, _⟩ := h; rfl)) (fun cdv A outer s H E hr => b_is_row_of T G_is_between G_is_row cdv A outer s H E hr) (fun rs os P PX h => l_is_row_of T h)
theorem f_are_rows_of (T : Txt K mg CTable CWorld CSplit) (G_is_listed : Fn P wd K mg base 1 "is_listed" (Φ_is_listed K CTable CWorld CSplit)) (G_is_row_of : Fn P wd K mg base 3 "is_row_of" (Φ_is_row_of K CTable CWorld CSplit)) {f : Addr} {fd : FuncData} (F : Fun K "are_rows_of" "are_rows_of" s_are_rows_of f fd) : FnOk P wd K mg base (L2.CX P wd) 4 f fd ["table", "value"] (spT K (Φ_are_rows_of K CTable CWorld CSplit)) :=
  fn_ok F sc_are_rows_of (fun rs os P PX h => by first | (obtain ⟨_, rfl, _⟩ := h; rfl) | (obtain ⟨_, _, rfl, _⟩ := h; rfl) | (obtain ⟨_, _, _, rfl, _⟩ := h; rfl) | (obtain ⟨_, _, _, _, rfl, _⟩ := h; rfl) | (obtain ⟨_, _, _, _, _, rfl, _⟩ := h; rfl) | (obtain ⟨_, _, _, _, _, _, rfl, _⟩ := h; rfl) | (obtain ⟨_, _, _, _, _, _, _, rfl, _⟩ := h; rfl)) (fun cdv A outer s H E hr => b_are_rows_of T G_is_listed G_is_row_of cdv A outer s H E hr) (fun rs os P PX h => l_are_rows_of T h)
theorem f_World_init (T : Txt K mg CTable CWorld CSplit) (G_are_rows_of : Fn P wd K mg base 4 "are_rows_of" (Φ_are_rows_of K CTable CWorld CSplit)) (G_are_tables : Fn P wd K mg base 3 "are_tables" (Φ_are_tables K CTable CWorld CSplit)) (G_is_row : Fn P wd K mg base 2 "is_row" (Φ_is_row K CTable CWorld CSplit)) {f : Addr} {fd : FuncData} (F : Fun K "__init__" "World.__init__" s_World_init f fd) : FnOk P wd K mg base (L2.CX P wd) 5 f fd ["self", "tables", "rows"] (spT K (Φ_World_init K CTable CWorld CSplit)) :=
  fn_ok F sc_World_init (fun rs os P PX h => by first | (obtain ⟨_, rfl, _⟩ := h; rfl) | (obtain ⟨_, _, rfl, _⟩ := h; rfl) | (obtain ⟨_, _, _, rfl, _⟩ := h; rfl) | (obtain ⟨_, _, _, _, rfl, _⟩ := h; rfl) | (obtain ⟨_, _, _, _, _, rfl, _⟩ := h; rfl) | (obtain ⟨_, _, _, _, _, _, rfl, _⟩ := h; rfl) | (obtain ⟨_, _, _, _, _, _, _, rfl, _⟩ := h; rfl)) (fun cdv A outer s H E hr => b_World_init T G_are_rows_of G_are_tables G_is_row cdv A outer s H E hr) (fun rs os P PX h => l_World_init T h)
theorem f_World_index (T : Txt K mg CTable CWorld CSplit)  {f : Addr} {fd : FuncData} (F : Fun K "index" "World.index" s_World_index f fd) : FnOk P wd K mg base (L2.CX P wd) 1 f fd ["self", "name"] (spT K (Φ_World_index K CTable CWorld CSplit)) :=
  fn_ok F sc_World_index (fun rs os P PX h => by first | (obtain ⟨_, rfl, _⟩ := h; rfl) | (obtain ⟨_, _, rfl, _⟩ := h; rfl) | (obtain ⟨_, _, _, rfl, _⟩ := h; rfl) | (obtain ⟨_, _, _, _, rfl, _⟩ := h; rfl) | (obtain ⟨_, _, _, _, _, rfl, _⟩ := h; rfl) | (obtain ⟨_, _, _, _, _, _, rfl, _⟩ := h; rfl) | (obtain ⟨_, _, _, _, _, _, _, rfl, _⟩ := h; rfl)) (fun cdv A outer s H E hr => b_World_index T  cdv A outer s H E hr) (fun rs os P PX h => l_World_index T h)
theorem f_World_need_index (T : Txt K mg CTable CWorld CSplit) (N_World_index : Mt P wd K mg base 1 CWorld "index" (Φ_World_index K CTable CWorld CSplit)) {f : Addr} {fd : FuncData} (F : Fun K "need_index" "World.need_index" s_World_need_index f fd) : FnOk P wd K mg base (L2.CX P wd) 2 f fd ["self", "name"] (spT K (Φ_World_need_index K CTable CWorld CSplit)) :=
  fn_ok F sc_World_need_index (fun rs os P PX h => by first | (obtain ⟨_, rfl, _⟩ := h; rfl) | (obtain ⟨_, _, rfl, _⟩ := h; rfl) | (obtain ⟨_, _, _, rfl, _⟩ := h; rfl) | (obtain ⟨_, _, _, _, rfl, _⟩ := h; rfl) | (obtain ⟨_, _, _, _, _, rfl, _⟩ := h; rfl) | (obtain ⟨_, _, _, _, _, _, rfl, _⟩ := h; rfl) | (obtain ⟨_, _, _, _, _, _, _, rfl, _⟩ := h; rfl)) (fun cdv A outer s H E hr => b_World_need_index T N_World_index cdv A outer s H E hr) (fun rs os P PX h => l_World_need_index T h)
theorem f_World_rows_of (T : Txt K mg CTable CWorld CSplit) (N_World_need_index : Mt P wd K mg base 2 CWorld "need_index" (Φ_World_need_index K CTable CWorld CSplit)) {f : Addr} {fd : FuncData} (F : Fun K "rows_of" "World.rows_of" s_World_rows_of f fd) : FnOk P wd K mg base (L2.CX P wd) 3 f fd ["self", "name"] (spT K (Φ_World_rows_of K CTable CWorld CSplit)) :=
  fn_ok F sc_World_rows_of (fun rs os P PX h => by first | (obtain ⟨_, rfl, _⟩ := h; rfl) | (obtain ⟨_, _, rfl, _⟩ := h; rfl) | (obtain ⟨_, _, _, rfl, _⟩ := h; rfl) | (obtain ⟨_, _, _, _, rfl, _⟩ := h; rfl) | (obtain ⟨_, _, _, _, _, rfl, _⟩ := h; rfl) | (obtain ⟨_, _, _, _, _, _, rfl, _⟩ := h; rfl) | (obtain ⟨_, _, _, _, _, _, _, rfl, _⟩ := h; rfl)) (fun cdv A outer s H E hr => b_World_rows_of T N_World_need_index cdv A outer s H E hr) (fun rs os P PX h => l_World_rows_of T h)
theorem f_need_world (T : Txt K mg CTable CWorld CSplit)  {f : Addr} {fd : FuncData} (F : Fun K "need_world" "need_world" s_need_world f fd) : FnOk P wd K mg base (L2.CX P wd) 1 f fd ["value"] (spT K (Φ_need_world K CTable CWorld CSplit)) :=
  fn_ok F sc_need_world (fun rs os P PX h => by first | (obtain ⟨_, rfl, _⟩ := h; rfl) | (obtain ⟨_, _, rfl, _⟩ := h; rfl) | (obtain ⟨_, _, _, rfl, _⟩ := h; rfl) | (obtain ⟨_, _, _, _, rfl, _⟩ := h; rfl) | (obtain ⟨_, _, _, _, _, rfl, _⟩ := h; rfl) | (obtain ⟨_, _, _, _, _, _, rfl, _⟩ := h; rfl) | (obtain ⟨_, _, _, _, _, _, _, rfl, _⟩ := h; rfl)) (fun cdv A outer s H E hr => b_need_world T  cdv A outer s H E hr) (fun rs os P PX h => l_need_world T h)
theorem f_need_tables (T : Txt K mg CTable CWorld CSplit) (G_by_names : Fn P wd K mg base 1 "by_names" (Φ_by_names K CTable CWorld CSplit)) (Q_Table : Qe P wd K mg base 1 CTable (Φ_Table_eq K CTable CWorld CSplit)) {f : Addr} {fd : FuncData} (F : Fun K "need_tables" "need_tables" s_need_tables f fd) : FnOk P wd K mg base (L2.CX P wd) 2 f fd ["world", "tables"] (spT K (Φ_need_tables K CTable CWorld CSplit)) :=
  fn_ok F sc_need_tables (fun rs os P PX h => by first | (obtain ⟨_, rfl, _⟩ := h; rfl) | (obtain ⟨_, _, rfl, _⟩ := h; rfl) | (obtain ⟨_, _, _, rfl, _⟩ := h; rfl) | (obtain ⟨_, _, _, _, rfl, _⟩ := h; rfl) | (obtain ⟨_, _, _, _, _, rfl, _⟩ := h; rfl) | (obtain ⟨_, _, _, _, _, _, rfl, _⟩ := h; rfl) | (obtain ⟨_, _, _, _, _, _, _, rfl, _⟩ := h; rfl)) (fun cdv A outer s H E hr => b_need_tables T G_by_names Q_Table cdv A outer s H E hr) (fun rs os P PX h => l_need_tables T h)
theorem f_is_threshold (T : Txt K mg CTable CWorld CSplit) (G_is_between : Fn P wd K mg base 2 "is_between" (Φ_is_between K CTable CWorld CSplit)) (G_is_row : Fn P wd K mg base 2 "is_row" (Φ_is_row K CTable CWorld CSplit)) {f : Addr} {fd : FuncData} (F : Fun K "is_threshold" "is_threshold" s_is_threshold f fd) : FnOk P wd K mg base (L2.CX P wd) 3 f fd ["value"] (spT K (Φ_is_threshold K CTable CWorld CSplit)) :=
  fn_ok F sc_is_threshold (fun rs os P PX h => by first | (obtain ⟨_, rfl, _⟩ := h; rfl) | (obtain ⟨_, _, rfl, _⟩ := h; rfl) | (obtain ⟨_, _, _, rfl, _⟩ := h; rfl) | (obtain ⟨_, _, _, _, rfl, _⟩ := h; rfl) | (obtain ⟨_, _, _, _, _, rfl, _⟩ := h; rfl) | (obtain ⟨_, _, _, _, _, _, rfl, _⟩ := h; rfl) | (obtain ⟨_, _, _, _, _, _, _, rfl, _⟩ := h; rfl)) (fun cdv A outer s H E hr => b_is_threshold T G_is_between G_is_row cdv A outer s H E hr) (fun rs os P PX h => l_is_threshold h)
theorem f_Split_init (T : Txt K mg CTable CWorld CSplit) (G_is_between : Fn P wd K mg base 2 "is_between" (Φ_is_between K CTable CWorld CSplit)) (G_is_threshold : Fn P wd K mg base 3 "is_threshold" (Φ_is_threshold K CTable CWorld CSplit)) (G_lowest : Fn P wd K mg base 2 "lowest" (Φ_lowest K CTable CWorld CSplit)) {f : Addr} {fd : FuncData} (F : Fun K "__init__" "Split.__init__" s_Split_init f fd) : FnOk P wd K mg base (L2.CX P wd) 4 f fd ["self", "table", "column", "threshold"] (spT K (Φ_Split_init K CTable CWorld CSplit)) :=
  fn_ok F sc_Split_init (fun rs os P PX h => by first | (obtain ⟨_, rfl, _⟩ := h; rfl) | (obtain ⟨_, _, rfl, _⟩ := h; rfl) | (obtain ⟨_, _, _, rfl, _⟩ := h; rfl) | (obtain ⟨_, _, _, _, rfl, _⟩ := h; rfl) | (obtain ⟨_, _, _, _, _, rfl, _⟩ := h; rfl) | (obtain ⟨_, _, _, _, _, _, rfl, _⟩ := h; rfl) | (obtain ⟨_, _, _, _, _, _, _, rfl, _⟩ := h; rfl)) (fun cdv A outer s H E hr => b_Split_init T G_is_between G_is_threshold G_lowest cdv A outer s H E hr) (fun rs os P PX h => l_Split_init T h)
theorem f_crowds (T : Txt K mg CTable CWorld CSplit)  {f : Addr} {fd : FuncData} (F : Fun K "crowds" "crowds" s_crowds f fd) : FnOk P wd K mg base (L2.CX P wd) 1 f fd ["rows", "column"] (spT K (Φ_crowds K CTable CWorld CSplit)) :=
  fn_ok F sc_crowds (fun rs os P PX h => by first | (obtain ⟨_, rfl, _⟩ := h; rfl) | (obtain ⟨_, _, rfl, _⟩ := h; rfl) | (obtain ⟨_, _, _, rfl, _⟩ := h; rfl) | (obtain ⟨_, _, _, _, rfl, _⟩ := h; rfl) | (obtain ⟨_, _, _, _, _, rfl, _⟩ := h; rfl) | (obtain ⟨_, _, _, _, _, _, rfl, _⟩ := h; rfl) | (obtain ⟨_, _, _, _, _, _, _, rfl, _⟩ := h; rfl)) (fun cdv A outer s H E hr => b_crowds T  cdv A outer s H E hr) (fun rs os P PX h => l_crowds h)
theorem f_parts_of (T : Txt K mg CTable CWorld CSplit) (G_crowds : Fn P wd K mg base 1 "crowds" (Φ_crowds K CTable CWorld CSplit)) (G_is_at_most : Fn P wd K mg base 2 "is_at_most" (Φ_is_at_most K CTable CWorld CSplit)) {f : Addr} {fd : FuncData} (F : Fun K "parts_of" "parts_of" s_parts_of f fd) : FnOk P wd K mg base (L2.CX P wd) 3 f fd ["rows", "split", "base"] (spT K (Φ_parts_of K CTable CWorld CSplit)) :=
  fn_ok F sc_parts_of (fun rs os P PX h => by first | (obtain ⟨_, rfl, _⟩ := h; rfl) | (obtain ⟨_, _, rfl, _⟩ := h; rfl) | (obtain ⟨_, _, _, rfl, _⟩ := h; rfl) | (obtain ⟨_, _, _, _, rfl, _⟩ := h; rfl) | (obtain ⟨_, _, _, _, _, rfl, _⟩ := h; rfl) | (obtain ⟨_, _, _, _, _, _, rfl, _⟩ := h; rfl) | (obtain ⟨_, _, _, _, _, _, _, rfl, _⟩ := h; rfl)) (fun cdv A outer s H E hr => b_parts_of T G_crowds G_is_at_most cdv A outer s H E hr) (fun rs os P PX h => l_parts_of T h)
theorem f_need_split (T : Txt K mg CTable CWorld CSplit)  {f : Addr} {fd : FuncData} (F : Fun K "need_split" "need_split" s_need_split f fd) : FnOk P wd K mg base (L2.CX P wd) 1 f fd ["value"] (spT K (Φ_need_split K CTable CWorld CSplit)) :=
  fn_ok F sc_need_split (fun rs os P PX h => by first | (obtain ⟨_, rfl, _⟩ := h; rfl) | (obtain ⟨_, _, rfl, _⟩ := h; rfl) | (obtain ⟨_, _, _, rfl, _⟩ := h; rfl) | (obtain ⟨_, _, _, _, rfl, _⟩ := h; rfl) | (obtain ⟨_, _, _, _, _, rfl, _⟩ := h; rfl) | (obtain ⟨_, _, _, _, _, _, rfl, _⟩ := h; rfl) | (obtain ⟨_, _, _, _, _, _, _, rfl, _⟩ := h; rfl)) (fun cdv A outer s H E hr => b_need_split T  cdv A outer s H E hr) (fun rs os P PX h => l_need_split T h)
theorem f_need_base (T : Txt K mg CTable CWorld CSplit) (G_is_between : Fn P wd K mg base 2 "is_between" (Φ_is_between K CTable CWorld CSplit)) {f : Addr} {fd : FuncData} (F : Fun K "need_base" "need_base" s_need_base f fd) : FnOk P wd K mg base (L2.CX P wd) 3 f fd ["value"] (spT K (Φ_need_base K CTable CWorld CSplit)) :=
  fn_ok F sc_need_base (fun rs os P PX h => by first | (obtain ⟨_, rfl, _⟩ := h; rfl) | (obtain ⟨_, _, rfl, _⟩ := h; rfl) | (obtain ⟨_, _, _, rfl, _⟩ := h; rfl) | (obtain ⟨_, _, _, _, rfl, _⟩ := h; rfl) | (obtain ⟨_, _, _, _, _, rfl, _⟩ := h; rfl) | (obtain ⟨_, _, _, _, _, _, rfl, _⟩ := h; rfl) | (obtain ⟨_, _, _, _, _, _, _, rfl, _⟩ := h; rfl)) (fun cdv A outer s H E hr => b_need_base T G_is_between cdv A outer s H E hr) (fun rs os P PX h => l_need_base h)
theorem f_parted (T : Txt K mg CTable CWorld CSplit) (G_need_base : Fn P wd K mg base 3 "need_base" (Φ_need_base K CTable CWorld CSplit)) (G_need_split : Fn P wd K mg base 1 "need_split" (Φ_need_split K CTable CWorld CSplit)) (G_need_tables : Fn P wd K mg base 2 "need_tables" (Φ_need_tables K CTable CWorld CSplit)) (G_need_world : Fn P wd K mg base 1 "need_world" (Φ_need_world K CTable CWorld CSplit)) (G_parts_of : Fn P wd K mg base 3 "parts_of" (Φ_parts_of K CTable CWorld CSplit)) (N_World_rows_of : Mt P wd K mg base 3 CWorld "rows_of" (Φ_World_rows_of K CTable CWorld CSplit)) {f : Addr} {fd : FuncData} (F : Fun K "parted" "parted" s_parted f fd) : FnOk P wd K mg base (L2.CX P wd) 4 f fd ["world", "split", "base"] (spT K (Φ_parted K CTable CWorld CSplit)) :=
  fn_ok F sc_parted (fun rs os P PX h => by first | (obtain ⟨_, rfl, _⟩ := h; rfl) | (obtain ⟨_, _, rfl, _⟩ := h; rfl) | (obtain ⟨_, _, _, rfl, _⟩ := h; rfl) | (obtain ⟨_, _, _, _, rfl, _⟩ := h; rfl) | (obtain ⟨_, _, _, _, _, rfl, _⟩ := h; rfl) | (obtain ⟨_, _, _, _, _, _, rfl, _⟩ := h; rfl) | (obtain ⟨_, _, _, _, _, _, _, rfl, _⟩ := h; rfl)) (fun cdv A outer s H E hr => b_parted T G_need_base G_need_split G_need_tables G_need_world G_parts_of N_World_rows_of cdv A outer s H E hr) (fun rs os P PX h => l_parted T h)
theorem f__law_pen (T : Txt K mg CTable CWorld CSplit)  {f : Addr} {fd : FuncData} (F : Fun K "_law_pen" "_law_pen" s__law_pen f fd) : FnOk P wd K mg base (L2.CX P wd) 1 f fd ["script"] (spT K (Φ__law_pen K CTable CWorld CSplit)) :=
  fn_ok F sc__law_pen (fun rs os P PX h => by first | (obtain ⟨_, rfl, _⟩ := h; rfl) | (obtain ⟨_, _, rfl, _⟩ := h; rfl) | (obtain ⟨_, _, _, rfl, _⟩ := h; rfl) | (obtain ⟨_, _, _, _, rfl, _⟩ := h; rfl) | (obtain ⟨_, _, _, _, _, rfl, _⟩ := h; rfl) | (obtain ⟨_, _, _, _, _, _, rfl, _⟩ := h; rfl) | (obtain ⟨_, _, _, _, _, _, _, rfl, _⟩ := h; rfl)) (fun cdv A outer s H E hr => b__law_pen T  cdv A outer s H E hr) (fun rs os P PX h => l__law_pen h)
theorem f__law_draw (T : Txt K mg CTable CWorld CSplit)  {f : Addr} {fd : FuncData} (F : Fun K "_law_draw" "_law_draw" s__law_draw f fd) : FnOk P wd K mg base (L2.CX P wd) 1 f fd ["pen", "many"] (spT K (Φ__law_draw K CTable CWorld CSplit)) :=
  fn_ok F sc__law_draw (fun rs os P PX h => by first | (obtain ⟨_, rfl, _⟩ := h; rfl) | (obtain ⟨_, _, rfl, _⟩ := h; rfl) | (obtain ⟨_, _, _, rfl, _⟩ := h; rfl) | (obtain ⟨_, _, _, _, rfl, _⟩ := h; rfl) | (obtain ⟨_, _, _, _, _, rfl, _⟩ := h; rfl) | (obtain ⟨_, _, _, _, _, _, rfl, _⟩ := h; rfl) | (obtain ⟨_, _, _, _, _, _, _, rfl, _⟩ := h; rfl)) (fun cdv A outer s H E hr => b__law_draw T  cdv A outer s H E hr) (fun rs os P PX h => l__law_draw h)
theorem f__law_pick (T : Txt K mg CTable CWorld CSplit) (G__law_draw : Fn P wd K mg base 1 "_law_draw" (Φ__law_draw K CTable CWorld CSplit)) {f : Addr} {fd : FuncData} (F : Fun K "_law_pick" "_law_pick" s__law_pick f fd) : FnOk P wd K mg base (L2.CX P wd) 2 f fd ["pen", "some"] (spT K (Φ__law_pick K CTable CWorld CSplit)) :=
  fn_ok F sc__law_pick (fun rs os P PX h => by first | (obtain ⟨_, rfl, _⟩ := h; rfl) | (obtain ⟨_, _, rfl, _⟩ := h; rfl) | (obtain ⟨_, _, _, rfl, _⟩ := h; rfl) | (obtain ⟨_, _, _, _, rfl, _⟩ := h; rfl) | (obtain ⟨_, _, _, _, _, rfl, _⟩ := h; rfl) | (obtain ⟨_, _, _, _, _, _, rfl, _⟩ := h; rfl) | (obtain ⟨_, _, _, _, _, _, _, rfl, _⟩ := h; rfl)) (fun cdv A outer s H E hr => b__law_pick T G__law_draw cdv A outer s H E hr) (fun rs os P PX h => l__law_pick h)
theorem f__law_power (T : Txt K mg CTable CWorld CSplit)  {f : Addr} {fd : FuncData} (F : Fun K "_law_power" "_law_power" s__law_power f fd) : FnOk P wd K mg base (L2.CX P wd) 1 f fd ["number", "many"] (spT K (Φ__law_power K CTable CWorld CSplit)) :=
  fn_ok F sc__law_power (fun rs os P PX h => by first | (obtain ⟨_, rfl, _⟩ := h; rfl) | (obtain ⟨_, _, rfl, _⟩ := h; rfl) | (obtain ⟨_, _, _, rfl, _⟩ := h; rfl) | (obtain ⟨_, _, _, _, rfl, _⟩ := h; rfl) | (obtain ⟨_, _, _, _, _, rfl, _⟩ := h; rfl) | (obtain ⟨_, _, _, _, _, _, rfl, _⟩ := h; rfl) | (obtain ⟨_, _, _, _, _, _, _, rfl, _⟩ := h; rfl)) (fun cdv A outer s H E hr => b__law_power T  cdv A outer s H E hr) (fun rs os P PX h => l__law_power h)
theorem f_law (T : Txt K mg CTable CWorld CSplit) (G__law_draw : Fn P wd K mg base 1 "_law_draw" (Φ__law_draw K CTable CWorld CSplit)) (G__law_pen : Fn P wd K mg base 1 "_law_pen" (Φ__law_pen K CTable CWorld CSplit)) (G__law_pick : Fn P wd K mg base 2 "_law_pick" (Φ__law_pick K CTable CWorld CSplit)) (G__law_power : Fn P wd K mg base 1 "_law_power" (Φ__law_power K CTable CWorld CSplit)) (G_parted : Fn P wd K mg base 4 "parted" (Φ_parted K CTable CWorld CSplit)) (M_Split : Kl P wd K mg base 4 "Split" CSplit (Φ_Split_init K CTable CWorld CSplit)) (M_Table : Kl P wd K mg base 3 "Table" CTable (Φ_Table_init K CTable CWorld CSplit)) (M_World : Kl P wd K mg base 5 "World" CWorld (Φ_World_init K CTable CWorld CSplit)) {f : Addr} {fd : FuncData} (F : Fun K "law" "law" s_law f fd) : FnOk P wd K mg base (L2.CX P wd) 7 f fd ["script"] (spT K (Φ_law K CTable CWorld CSplit)) :=
  fn_ok F sc_law (fun rs os P PX h => by first | (obtain ⟨_, rfl, _⟩ := h; rfl) | (obtain ⟨_, _, rfl, _⟩ := h; rfl) | (obtain ⟨_, _, _, rfl, _⟩ := h; rfl) | (obtain ⟨_, _, _, _, rfl, _⟩ := h; rfl) | (obtain ⟨_, _, _, _, _, rfl, _⟩ := h; rfl) | (obtain ⟨_, _, _, _, _, _, rfl, _⟩ := h; rfl) | (obtain ⟨_, _, _, _, _, _, _, rfl, _⟩ := h; rfl)) (fun cdv A outer s H E hr => b_law T G__law_draw G__law_pen G__law_pick G__law_power G_parted M_Split M_Table M_World cdv A outer s H E hr) (fun rs os P PX h => l_law T h)
end
end L2.TL.K08

/-! text K08z2 -/
set_option Elab.async false
set_option linter.all false
set_option maxRecDepth 100000
set_option maxHeartbeats 4000000
namespace L2.TL.K08
open PySem PySem.Spec PyProof.Rows L2.TL
theorem all_mk {l : PySem.W.OpenLaw} {w : World} {K : PySem.W.Frag} {h : Heap} {mg : Str → Option Value} {fa : Addr} (X : K.In h) (G : h.Ns mainGlobals mg) (hfa : mg "law" = some (.ref fa))
    {CTable CWorld CSplit f0 f1 f2 f3 f4 f5 f6 f7 f8 f9 f10 f11 f12 f13 f14 f15 f16 f17 f18 f19 f20 f21 f22 f23 f24 f25 f26 f27 f28 f29 f30 f31 f32 : Addr} {od0 an0 od1 an1 od2 an2 od3 an3 od4 an4 od5 an5 od6 an6 od7 an7 od8 an8 od9 an9 od10 an10 od11 an11 od12 an12 od13 an13 od14 an14 od15 an15 od16 an16 od17 an17 od18 an18 od19 an19 od20 an20 od21 an21 od22 an22 od23 an23 od24 an24 od25 an25 od26 an26 od27 an27 od28 an28 od29 an29 od30 an30 od31 an31 od32 an32 : Option Addr} {sl0 sl1 sl2 sl3 sl4 sl5 sl6 sl7 sl8 sl9 sl10 sl11 sl12 sl13 sl14 sl15 sl16 sl17 sl18 sl19 sl20 sl21 sl22 sl23 sl24 sl25 sl26 sl27 sl28 sl29 sl30 sl31 sl32 : Array (Option Value)} {oc0 kV0 dc0 pm0 cd0 ct0 oc1 kV1 dc1 pm1 cd1 ct1 oc2 kV2 dc2 pm2 cd2 ct2 oc3 kV3 dc3 pm3 cd3 ct3 oc4 kV4 dc4 pm4 cd4 ct4 oc5 kV5 dc5 pm5 cd5 ct5 oc6 kV6 dc6 pm6 cd6 ct6 oc7 kV7 dc7 pm7 cd7 ct7 oc8 kV8 dc8 pm8 cd8 ct8 oc9 kV9 dc9 pm9 cd9 ct9 oc10 kV10 dc10 pm10 cd10 ct10 oc11 kV11 dc11 pm11 cd11 ct11 oc12 kV12 dc12 pm12 cd12 ct12 oc13 kV13 dc13 pm13 cd13 ct13 oc14 kV14 dc14 pm14 cd14 ct14 oc15 kV15 dc15 pm15 cd15 ct15 oc16 kV16 dc16 pm16 cd16 ct16 oc17 kV17 dc17 pm17 cd17 ct17 oc18 kV18 dc18 pm18 cd18 ct18 oc19 kV19 dc19 pm19 cd19 ct19 oc20 kV20 dc20 pm20 cd20 ct20 oc21 kV21 dc21 pm21 cd21 ct21 oc22 kV22 dc22 pm22 cd22 ct22 oc23 kV23 dc23 pm23 cd23 ct23 oc24 kV24 dc24 pm24 cd24 ct24 oc25 kV25 dc25 pm25 cd25 ct25 oc26 kV26 dc26 pm26 cd26 ct26 oc27 kV27 dc27 pm27 cd27 ct27 oc28 kV28 dc28 pm28 cd28 ct28 oc29 kV29 dc29 pm29 cd29 ct29 oc30 kV30 dc30 pm30 cd30 ct30 oc31 kV31 dc31 pm31 cd31 ct31 oc32 kV32 dc32 pm32 cd32 ct32 : Value} {tc_MOST_SIGNS : _} {tc_MOST_WIDTH : _} {tc_MOST_TABLES : _} {tc_MOST_ROWS : _} {tc_MOST_VALUE : _} {tc_MOST_PART : _} {tc_MOST_BASE : _} {tc_LETTERS : _}
    (aTable : PySem.W.nsIn K mainGlobals "Table" = some (some (.ref CTable)))
    (aWorld : PySem.W.nsIn K mainGlobals "World" = some (some (.ref CWorld)))
    (aSplit : PySem.W.nsIn K mainGlobals "Split" = some (some (.ref CSplit)))
    (a0 : PySem.W.nsIn K mainGlobals "is_integer" = some (some (.ref f0)))
    (l0 : K.lookup f0 = some ⟨oc0, od0, .func (PySem.W.fnOf "is_integer" "is_integer" (defArgs s_is_integer) (defBody s_is_integer) (defScope s_is_integer) .none kV0 dc0 pm0 an0 cd0 ct0), sl0⟩)
    (c0 : PySem.W.codeIn K cd0 "is_integer" = true)
    (k0 : PySem.W.keepIn K (.ref f0) = true)
    (a1 : PySem.W.nsIn K mainGlobals "is_between" = some (some (.ref f1)))
    (l1 : K.lookup f1 = some ⟨oc1, od1, .func (PySem.W.fnOf "is_between" "is_between" (defArgs s_is_between) (defBody s_is_between) (defScope s_is_between) .none kV1 dc1 pm1 an1 cd1 ct1), sl1⟩)
    (c1 : PySem.W.codeIn K cd1 "is_between" = true)
    (k1 : PySem.W.keepIn K (.ref f1) = true)
    (a2 : PySem.W.nsIn K mainGlobals "is_name" = some (some (.ref f2)))
    (l2 : K.lookup f2 = some ⟨oc2, od2, .func (PySem.W.fnOf "is_name" "is_name" (defArgs s_is_name) (defBody s_is_name) (defScope s_is_name) .none kV2 dc2 pm2 an2 cd2 ct2), sl2⟩)
    (c2 : PySem.W.codeIn K cd2 "is_name" = true)
    (k2 : PySem.W.keepIn K (.ref f2) = true)
    (a3 : PySem.W.nsIn K mainGlobals "is_listed" = some (some (.ref f3)))
    (l3 : K.lookup f3 = some ⟨oc3, od3, .func (PySem.W.fnOf "is_listed" "is_listed" (defArgs s_is_listed) (defBody s_is_listed) (defScope s_is_listed) .none kV3 dc3 pm3 an3 cd3 ct3), sl3⟩)
    (c3 : PySem.W.codeIn K cd3 "is_listed" = true)
    (k3 : PySem.W.keepIn K (.ref f3) = true)
    (a4 : PySem.W.nsIn K mainGlobals "is_row" = some (some (.ref f4)))
    (l4 : K.lookup f4 = some ⟨oc4, od4, .func (PySem.W.fnOf "is_row" "is_row" (defArgs s_is_row) (defBody s_is_row) (defScope s_is_row) .none kV4 dc4 pm4 an4 cd4 ct4), sl4⟩)
    (c4 : PySem.W.codeIn K cd4 "is_row" = true)
    (k4 : PySem.W.keepIn K (.ref f4) = true)
    (a5 : PySem.W.nsIn K mainGlobals "common_part" = some (some (.ref f5)))
    (l5 : K.lookup f5 = some ⟨oc5, od5, .func (PySem.W.fnOf "common_part" "common_part" (defArgs s_common_part) (defBody s_common_part) (defScope s_common_part) .none kV5 dc5 pm5 an5 cd5 ct5), sl5⟩)
    (c5 : PySem.W.codeIn K cd5 "common_part" = true)
    (k5 : PySem.W.keepIn K (.ref f5) = true)
    (a6 : PySem.W.nsIn K mainGlobals "lowest" = some (some (.ref f6)))
    (l6 : K.lookup f6 = some ⟨oc6, od6, .func (PySem.W.fnOf "lowest" "lowest" (defArgs s_lowest) (defBody s_lowest) (defScope s_lowest) .none kV6 dc6 pm6 an6 cd6 ct6), sl6⟩)
    (c6 : PySem.W.codeIn K cd6 "lowest" = true)
    (k6 : PySem.W.keepIn K (.ref f6) = true)
    (a7 : PySem.W.nsIn K mainGlobals "power" = some (some (.ref f7)))
    (l7 : K.lookup f7 = some ⟨oc7, od7, .func (PySem.W.fnOf "power" "power" (defArgs s_power) (defBody s_power) (defScope s_power) .none kV7 dc7 pm7 an7 cd7 ct7), sl7⟩)
    (c7 : PySem.W.codeIn K cd7 "power" = true)
    (k7 : PySem.W.keepIn K (.ref f7) = true)
    (a8 : PySem.W.nsIn K mainGlobals "is_at_most" = some (some (.ref f8)))
    (l8 : K.lookup f8 = some ⟨oc8, od8, .func (PySem.W.fnOf "is_at_most" "is_at_most" (defArgs s_is_at_most) (defBody s_is_at_most) (defScope s_is_at_most) .none kV8 dc8 pm8 an8 cd8 ct8), sl8⟩)
    (c8 : PySem.W.codeIn K cd8 "is_at_most" = true)
    (k8 : PySem.W.keepIn K (.ref f8) = true)
    (a9 : PySem.W.findIn K (.ref CTable) "__init__" = some (some (.ref f9)))
    (i9 : PySem.W.isFn K (.ref f9) = true)
    (l9 : K.lookup f9 = some ⟨oc9, od9, .func (PySem.W.fnOf "__init__" "Table.__init__" (defArgs s_Table_init) (defBody s_Table_init) (defScope s_Table_init) .none kV9 dc9 pm9 an9 cd9 ct9), sl9⟩)
    (c9 : PySem.W.codeIn K cd9 "Table.__init__" = true)
    (k9 : PySem.W.keepIn K (.ref f9) = true)
    (a10 : PySem.W.findIn K (.ref CTable) "__eq__" = some (some (.ref f10)))
    (i10 : PySem.W.isFn K (.ref f10) = true)
    (l10 : K.lookup f10 = some ⟨oc10, od10, .func (PySem.W.fnOf "__eq__" "Table.__eq__" (defArgs s_Table_eq) (defBody s_Table_eq) (defScope s_Table_eq) .none kV10 dc10 pm10 an10 cd10 ct10), sl10⟩)
    (c10 : PySem.W.codeIn K cd10 "Table.__eq__" = true)
    (k10 : PySem.W.keepIn K (.ref f10) = true)
    (a11 : PySem.W.nsIn K mainGlobals "are_tables" = some (some (.ref f11)))
    (l11 : K.lookup f11 = some ⟨oc11, od11, .func (PySem.W.fnOf "are_tables" "are_tables" (defArgs s_are_tables) (defBody s_are_tables) (defScope s_are_tables) .none kV11 dc11 pm11 an11 cd11 ct11), sl11⟩)
    (c11 : PySem.W.codeIn K cd11 "are_tables" = true)
    (k11 : PySem.W.keepIn K (.ref f11) = true)
    (a12 : PySem.W.nsIn K mainGlobals "by_names" = some (some (.ref f12)))
    (l12 : K.lookup f12 = some ⟨oc12, od12, .func (PySem.W.fnOf "by_names" "by_names" (defArgs s_by_names) (defBody s_by_names) (defScope s_by_names) .none kV12 dc12 pm12 an12 cd12 ct12), sl12⟩)
    (c12 : PySem.W.codeIn K cd12 "by_names" = true)
    (k12 : PySem.W.keepIn K (.ref f12) = true)
    (a13 : PySem.W.nsIn K mainGlobals "is_row_of" = some (some (.ref f13)))
    (l13 : K.lookup f13 = some ⟨oc13, od13, .func (PySem.W.fnOf "is_row_of" "is_row_of" (defArgs s_is_row_of) (defBody s_is_row_of) (defScope s_is_row_of) .none kV13 dc13 pm13 an13 cd13 ct13), sl13⟩)
    (c13 : PySem.W.codeIn K cd13 "is_row_of" = true)
    (k13 : PySem.W.keepIn K (.ref f13) = true)
    (a14 : PySem.W.nsIn K mainGlobals "are_rows_of" = some (some (.ref f14)))
    (l14 : K.lookup f14 = some ⟨oc14, od14, .func (PySem.W.fnOf "are_rows_of" "are_rows_of" (defArgs s_are_rows_of) (defBody s_are_rows_of) (defScope s_are_rows_of) .none kV14 dc14 pm14 an14 cd14 ct14), sl14⟩)
    (c14 : PySem.W.codeIn K cd14 "are_rows_of" = true)
    (k14 : PySem.W.keepIn K (.ref f14) = true)
    (a15 : PySem.W.findIn K (.ref CWorld) "__init__" = some (some (.ref f15)))
    (i15 : PySem.W.isFn K (.ref f15) = true)
    (l15 : K.lookup f15 = some ⟨oc15, od15, .func (PySem.W.fnOf "__init__" "World.__init__" (defArgs s_World_init) (defBody s_World_init) (defScope s_World_init) .none kV15 dc15 pm15 an15 cd15 ct15), sl15⟩)
    (c15 : PySem.W.codeIn K cd15 "World.__init__" = true)
    (k15 : PySem.W.keepIn K (.ref f15) = true)
    (a16 : PySem.W.findIn K (.ref CWorld) "index" = some (some (.ref f16)))
    (i16 : PySem.W.isFn K (.ref f16) = true)
    (l16 : K.lookup f16 = some ⟨oc16, od16, .func (PySem.W.fnOf "index" "World.index" (defArgs s_World_index) (defBody s_World_index) (defScope s_World_index) .none kV16 dc16 pm16 an16 cd16 ct16), sl16⟩)
    (c16 : PySem.W.codeIn K cd16 "World.index" = true)
    (k16 : PySem.W.keepIn K (.ref f16) = true)
    (a17 : PySem.W.findIn K (.ref CWorld) "need_index" = some (some (.ref f17)))
    (i17 : PySem.W.isFn K (.ref f17) = true)
    (l17 : K.lookup f17 = some ⟨oc17, od17, .func (PySem.W.fnOf "need_index" "World.need_index" (defArgs s_World_need_index) (defBody s_World_need_index) (defScope s_World_need_index) .none kV17 dc17 pm17 an17 cd17 ct17), sl17⟩)
    (c17 : PySem.W.codeIn K cd17 "World.need_index" = true)
    (k17 : PySem.W.keepIn K (.ref f17) = true)
    (a18 : PySem.W.findIn K (.ref CWorld) "rows_of" = some (some (.ref f18)))
    (i18 : PySem.W.isFn K (.ref f18) = true)
    (l18 : K.lookup f18 = some ⟨oc18, od18, .func (PySem.W.fnOf "rows_of" "World.rows_of" (defArgs s_World_rows_of) (defBody s_World_rows_of) (defScope s_World_rows_of) .none kV18 dc18 pm18 an18 cd18 ct18), sl18⟩)
    (c18 : PySem.W.codeIn K cd18 "World.rows_of" = true)
    (k18 : PySem.W.keepIn K (.ref f18) = true)
    (a19 : PySem.W.nsIn K mainGlobals "need_world" = some (some (.ref f19)))
    (l19 : K.lookup f19 = some ⟨oc19, od19, .func (PySem.W.fnOf "need_world" "need_world" (defArgs s_need_world) (defBody s_need_world) (defScope s_need_world) .none kV19 dc19 pm19 an19 cd19 ct19), sl19⟩)
    (c19 : PySem.W.codeIn K cd19 "need_world" = true)
    (k19 : PySem.W.keepIn K (.ref f19) = true)
    (a20 : PySem.W.nsIn K mainGlobals "need_tables" = some (some (.ref f20)))
    (l20 : K.lookup f20 = some ⟨oc20, od20, .func (PySem.W.fnOf "need_tables" "need_tables" (defArgs s_need_tables) (defBody s_need_tables) (defScope s_need_tables) .none kV20 dc20 pm20 an20 cd20 ct20), sl20⟩)
    (c20 : PySem.W.codeIn K cd20 "need_tables" = true)
    (k20 : PySem.W.keepIn K (.ref f20) = true)
    (a21 : PySem.W.nsIn K mainGlobals "is_threshold" = some (some (.ref f21)))
    (l21 : K.lookup f21 = some ⟨oc21, od21, .func (PySem.W.fnOf "is_threshold" "is_threshold" (defArgs s_is_threshold) (defBody s_is_threshold) (defScope s_is_threshold) .none kV21 dc21 pm21 an21 cd21 ct21), sl21⟩)
    (c21 : PySem.W.codeIn K cd21 "is_threshold" = true)
    (k21 : PySem.W.keepIn K (.ref f21) = true)
    (a22 : PySem.W.findIn K (.ref CSplit) "__init__" = some (some (.ref f22)))
    (i22 : PySem.W.isFn K (.ref f22) = true)
    (l22 : K.lookup f22 = some ⟨oc22, od22, .func (PySem.W.fnOf "__init__" "Split.__init__" (defArgs s_Split_init) (defBody s_Split_init) (defScope s_Split_init) .none kV22 dc22 pm22 an22 cd22 ct22), sl22⟩)
    (c22 : PySem.W.codeIn K cd22 "Split.__init__" = true)
    (k22 : PySem.W.keepIn K (.ref f22) = true)
    (a23 : PySem.W.nsIn K mainGlobals "crowds" = some (some (.ref f23)))
    (l23 : K.lookup f23 = some ⟨oc23, od23, .func (PySem.W.fnOf "crowds" "crowds" (defArgs s_crowds) (defBody s_crowds) (defScope s_crowds) .none kV23 dc23 pm23 an23 cd23 ct23), sl23⟩)
    (c23 : PySem.W.codeIn K cd23 "crowds" = true)
    (k23 : PySem.W.keepIn K (.ref f23) = true)
    (a24 : PySem.W.nsIn K mainGlobals "parts_of" = some (some (.ref f24)))
    (l24 : K.lookup f24 = some ⟨oc24, od24, .func (PySem.W.fnOf "parts_of" "parts_of" (defArgs s_parts_of) (defBody s_parts_of) (defScope s_parts_of) .none kV24 dc24 pm24 an24 cd24 ct24), sl24⟩)
    (c24 : PySem.W.codeIn K cd24 "parts_of" = true)
    (k24 : PySem.W.keepIn K (.ref f24) = true)
    (a25 : PySem.W.nsIn K mainGlobals "need_split" = some (some (.ref f25)))
    (l25 : K.lookup f25 = some ⟨oc25, od25, .func (PySem.W.fnOf "need_split" "need_split" (defArgs s_need_split) (defBody s_need_split) (defScope s_need_split) .none kV25 dc25 pm25 an25 cd25 ct25), sl25⟩)
    (c25 : PySem.W.codeIn K cd25 "need_split" = true)
    (k25 : PySem.W.keepIn K (.ref f25) = true)
    (a26 : PySem.W.nsIn K mainGlobals "need_base" = some (some (.ref f26)))
    (l26 : K.lookup f26 = some ⟨oc26, od26, .func (PySem.W.fnOf "need_base" "need_base" (defArgs s_need_base) (defBody s_need_base) (defScope s_need_base) .none kV26 dc26 pm26 an26 cd26 ct26), sl26⟩)
    (c26 : PySem.W.codeIn K cd26 "need_base" = true)
    (k26 : PySem.W.keepIn K (.ref f26) = true)
    (a27 : PySem.W.nsIn K mainGlobals "parted" = some (some (.ref f27)))
    (l27 : K.lookup f27 = some ⟨oc27, od27, .func (PySem.W.fnOf "parted" "parted" (defArgs s_parted) (defBody s_parted) (defScope s_parted) .none kV27 dc27 pm27 an27 cd27 ct27), sl27⟩)
    (c27 : PySem.W.codeIn K cd27 "parted" = true)
    (k27 : PySem.W.keepIn K (.ref f27) = true)
    (a28 : PySem.W.nsIn K mainGlobals "_law_pen" = some (some (.ref f28)))
    (l28 : K.lookup f28 = some ⟨oc28, od28, .func (PySem.W.fnOf "_law_pen" "_law_pen" (defArgs s__law_pen) (defBody s__law_pen) (defScope s__law_pen) .none kV28 dc28 pm28 an28 cd28 ct28), sl28⟩)
    (c28 : PySem.W.codeIn K cd28 "_law_pen" = true)
    (k28 : PySem.W.keepIn K (.ref f28) = true)
    (a29 : PySem.W.nsIn K mainGlobals "_law_draw" = some (some (.ref f29)))
    (l29 : K.lookup f29 = some ⟨oc29, od29, .func (PySem.W.fnOf "_law_draw" "_law_draw" (defArgs s__law_draw) (defBody s__law_draw) (defScope s__law_draw) .none kV29 dc29 pm29 an29 cd29 ct29), sl29⟩)
    (c29 : PySem.W.codeIn K cd29 "_law_draw" = true)
    (k29 : PySem.W.keepIn K (.ref f29) = true)
    (a30 : PySem.W.nsIn K mainGlobals "_law_pick" = some (some (.ref f30)))
    (l30 : K.lookup f30 = some ⟨oc30, od30, .func (PySem.W.fnOf "_law_pick" "_law_pick" (defArgs s__law_pick) (defBody s__law_pick) (defScope s__law_pick) .none kV30 dc30 pm30 an30 cd30 ct30), sl30⟩)
    (c30 : PySem.W.codeIn K cd30 "_law_pick" = true)
    (k30 : PySem.W.keepIn K (.ref f30) = true)
    (a31 : PySem.W.nsIn K mainGlobals "_law_power" = some (some (.ref f31)))
    (l31 : K.lookup f31 = some ⟨oc31, od31, .func (PySem.W.fnOf "_law_power" "_law_power" (defArgs s__law_power) (defBody s__law_power) (defScope s__law_power) .none kV31 dc31 pm31 an31 cd31 ct31), sl31⟩)
    (c31 : PySem.W.codeIn K cd31 "_law_power" = true)
    (k31 : PySem.W.keepIn K (.ref f31) = true)
    (a32 : PySem.W.nsIn K mainGlobals "law" = some (some (.ref f32)))
    (l32 : K.lookup f32 = some ⟨oc32, od32, .func (PySem.W.fnOf "law" "law" (defArgs s_law) (defBody s_law) (defScope s_law) .none kV32 dc32 pm32 an32 cd32 ct32), sl32⟩)
    (c32 : PySem.W.codeIn K cd32 "law" = true)
    (k32 : PySem.W.keepIn K (.ref f32) = true)
    (pgTable : PySem.W.plainGet K CTable Str.empty = true)
    (hdTable : PySem.W.hasDictIn K CTable = true)
    (poTable : PySem.W.plainOver K CTable = true)
    (saTable : PySem.W.findIn K (.ref CTable) "__setattr__" = some (some (.builtin "object.__setattr__")))
    (mkTable : PySem.W.makesIn K CTable = true)
    (kcTable : PySem.W.keepIn K (.ref CTable) = true)
    (haTable : PySem.W.findIn K (.ref CTable) "__class__" = some (some (.builtin "object.__class__")))
    (hmTable : PySem.W.mroIn K CTable (.type "object") = some true)
    (pgWorld : PySem.W.plainGet K CWorld Str.empty = true)
    (hdWorld : PySem.W.hasDictIn K CWorld = true)
    (poWorld : PySem.W.plainOver K CWorld = true)
    (saWorld : PySem.W.findIn K (.ref CWorld) "__setattr__" = some (some (.builtin "object.__setattr__")))
    (mkWorld : PySem.W.makesIn K CWorld = true)
    (kcWorld : PySem.W.keepIn K (.ref CWorld) = true)
    (haWorld : PySem.W.findIn K (.ref CWorld) "__class__" = some (some (.builtin "object.__class__")))
    (hmWorld : PySem.W.mroIn K CWorld (.type "object") = some true)
    (pgSplit : PySem.W.plainGet K CSplit Str.empty = true)
    (hdSplit : PySem.W.hasDictIn K CSplit = true)
    (poSplit : PySem.W.plainOver K CSplit = true)
    (saSplit : PySem.W.findIn K (.ref CSplit) "__setattr__" = some (some (.builtin "object.__setattr__")))
    (mkSplit : PySem.W.makesIn K CSplit = true)
    (kcSplit : PySem.W.keepIn K (.ref CSplit) = true)
    (haSplit : PySem.W.findIn K (.ref CSplit) "__class__" = some (some (.builtin "object.__class__")))
    (hmSplit : PySem.W.mroIn K CSplit (.type "object") = some true)
    (hn : PySem.W.specialIn K (.builtin "object.__class__") "__get__" = some (some (.builtin "getset_descriptor.__get__")))
    (ht : PySem.W.takesIn K (.builtin "object.__class__") = some true)
    (zb_len : PySem.W.nsIn K mainGlobals "len" = some none)
    (zb_all : PySem.W.nsIn K mainGlobals "all" = some none)
    (zb_int : PySem.W.nsIn K mainGlobals "int" = some none)
    (zb_abs : PySem.W.nsIn K mainGlobals "abs" = some none)
    (zb_max : PySem.W.nsIn K mainGlobals "max" = some none)
    (zb_isinstance : PySem.W.nsIn K mainGlobals "isinstance" = some none)
    (zb_tuple : PySem.W.nsIn K mainGlobals "tuple" = some none)
    (zb_sorted : PySem.W.nsIn K mainGlobals "sorted" = some none)
    (zb_range : PySem.W.nsIn K mainGlobals "range" = some none)
    (zb_enumerate : PySem.W.nsIn K mainGlobals "enumerate" = some none)
    (zb_zip : PySem.W.nsIn K mainGlobals "zip" = some none)
    (zb_bool : PySem.W.nsIn K mainGlobals "bool" = some none)
    (zb_str : PySem.W.nsIn K mainGlobals "str" = some none)
    (zb_list : PySem.W.nsIn K mainGlobals "list" = some none)
    (zn_Table_name : PySem.W.findIn K (.ref CTable) "name" = some none)
    (zn_Table_width : PySem.W.findIn K (.ref CTable) "width" = some none)
    (zn_World_tables : PySem.W.findIn K (.ref CWorld) "tables" = some none)
    (zn_World_rows : PySem.W.findIn K (.ref CWorld) "rows" = some none)
    (zn_Split_table : PySem.W.findIn K (.ref CSplit) "table" = some none)
    (zn_Split_column : PySem.W.findIn K (.ref CSplit) "column" = some none)
    (zn_Split_threshold : PySem.W.findIn K (.ref CSplit) "threshold" = some none)
    (zc_MOST_SIGNS : PySem.W.nsIn K mainGlobals "MOST_SIGNS" = some (some (.int 8 tc_MOST_SIGNS)))
    (zc_MOST_WIDTH : PySem.W.nsIn K mainGlobals "MOST_WIDTH" = some (some (.int 2 tc_MOST_WIDTH)))
    (zc_MOST_TABLES : PySem.W.nsIn K mainGlobals "MOST_TABLES" = some (some (.int 6 tc_MOST_TABLES)))
    (zc_MOST_ROWS : PySem.W.nsIn K mainGlobals "MOST_ROWS" = some (some (.int 20000 tc_MOST_ROWS)))
    (zc_MOST_VALUE : PySem.W.nsIn K mainGlobals "MOST_VALUE" = some (some (.int 1000000000000000000000000000000 tc_MOST_VALUE)))
    (zc_MOST_PART : PySem.W.nsIn K mainGlobals "MOST_PART" = some (some (.int 9999 tc_MOST_PART)))
    (zc_MOST_BASE : PySem.W.nsIn K mainGlobals "MOST_BASE" = some (some (.int 1000000 tc_MOST_BASE)))
    (zc_LETTERS : PySem.W.nsIn K mainGlobals "LETTERS" = some (some (.str "abcdefghijklmnopqrstuvwxyz" tc_LETTERS)))
    : ∃ fd : FuncData, (∀ (s : Shared) (v : Value), BindsTo s fd ⟨[v], []⟩ [("script", v)]) ∧ ∀ base : Heap, K.In base → base.Ns mainGlobals mg → FnOk l.prog w K mg base (L2.CX l.prog w) 7 fa fd ["script"] (spT K (Φ_law K 0 0 0)) := by
  have e := hfa.symm.trans (PySem.W.mg_of X G a32)
  cases e
  have T : Txt K mg CTable CWorld CSplit := ⟨PySem.W.mg_none_of X G zb_len, PySem.W.mg_none_of X G zb_all, PySem.W.mg_none_of X G zb_int, PySem.W.mg_none_of X G zb_abs, PySem.W.mg_none_of X G zb_max, PySem.W.mg_none_of X G zb_isinstance, PySem.W.mg_none_of X G zb_tuple, PySem.W.mg_none_of X G zb_sorted, PySem.W.mg_none_of X G zb_range, PySem.W.mg_none_of X G zb_enumerate, PySem.W.mg_none_of X G zb_zip, PySem.W.mg_none_of X G zb_bool, PySem.W.mg_none_of X G zb_str, PySem.W.mg_none_of X G zb_list, PySem.W.mg_of X G aTable, ⟨pgTable, hdTable, poTable, saTable⟩, ⟨⟨pgTable, hdTable, poTable, saTable⟩, haTable, hn, ht, hmTable⟩, PySem.W.mg_of X G aWorld, ⟨pgWorld, hdWorld, poWorld, saWorld⟩, ⟨⟨pgWorld, hdWorld, poWorld, saWorld⟩, haWorld, hn, ht, hmWorld⟩, PySem.W.mg_of X G aSplit, ⟨pgSplit, hdSplit, poSplit, saSplit⟩, ⟨⟨pgSplit, hdSplit, poSplit, saSplit⟩, haSplit, hn, ht, hmSplit⟩, zn_Table_name, zn_Table_width, zn_World_tables, zn_World_rows, zn_Split_table, zn_Split_column, zn_Split_threshold, ⟨_, PySem.W.mg_of X G zc_MOST_SIGNS⟩, ⟨_, PySem.W.mg_of X G zc_MOST_WIDTH⟩, ⟨_, PySem.W.mg_of X G zc_MOST_TABLES⟩, ⟨_, PySem.W.mg_of X G zc_MOST_ROWS⟩, ⟨_, PySem.W.mg_of X G zc_MOST_VALUE⟩, ⟨_, PySem.W.mg_of X G zc_MOST_PART⟩, ⟨_, PySem.W.mg_of X G zc_MOST_BASE⟩, ⟨_, PySem.W.mg_of X G zc_LETTERS⟩⟩
  have F0 := fun_mk (st := s_is_integer) l0 c0 k0
  have b0 := F0.binds (ps := ["value"]) fun _ _ _ _ _ _ us hl => match us, hl with | [_], _ => rfl
  have F1 := fun_mk (st := s_is_between) l1 c1 k1
  have b1 := F1.binds (ps := ["value", "least", "most"]) fun _ _ _ _ _ _ us hl => match us, hl with | [_, _, _], _ => rfl
  have F2 := fun_mk (st := s_is_name) l2 c2 k2
  have b2 := F2.binds (ps := ["value"]) fun _ _ _ _ _ _ us hl => match us, hl with | [_], _ => rfl
  have F3 := fun_mk (st := s_is_listed) l3 c3 k3
  have b3 := F3.binds (ps := ["value"]) fun _ _ _ _ _ _ us hl => match us, hl with | [_], _ => rfl
  have F4 := fun_mk (st := s_is_row) l4 c4 k4
  have b4 := F4.binds (ps := ["value", "least", "most"]) fun _ _ _ _ _ _ us hl => match us, hl with | [_, _, _], _ => rfl
  have F5 := fun_mk (st := s_common_part) l5 c5 k5
  have b5 := F5.binds (ps := ["one", "other"]) fun _ _ _ _ _ _ us hl => match us, hl with | [_, _], _ => rfl
  have F6 := fun_mk (st := s_lowest) l6 c6 k6
  have b6 := F6.binds (ps := ["top", "bottom"]) fun _ _ _ _ _ _ us hl => match us, hl with | [_, _], _ => rfl
  have F7 := fun_mk (st := s_power) l7 c7 k7
  have b7 := F7.binds (ps := ["number", "many"]) fun _ _ _ _ _ _ us hl => match us, hl with | [_, _], _ => rfl
  have F8 := fun_mk (st := s_is_at_most) l8 c8 k8
  have b8 := F8.binds (ps := ["number", "base", "threshold"]) fun _ _ _ _ _ _ us hl => match us, hl with | [_, _, _], _ => rfl
  have F9 := fun_mk (st := s_Table_init) l9 c9 k9
  have b9 := F9.binds (ps := ["self", "name", "width"]) fun _ _ _ _ _ _ us hl => match us, hl with | [_, _, _], _ => rfl
  have F10 := fun_mk (st := s_Table_eq) l10 c10 k10
  have b10 := F10.binds (ps := ["self", "other"]) fun _ _ _ _ _ _ us hl => match us, hl with | [_, _], _ => rfl
  have F11 := fun_mk (st := s_are_tables) l11 c11 k11
  have b11 := F11.binds (ps := ["value", "most"]) fun _ _ _ _ _ _ us hl => match us, hl with | [_, _], _ => rfl
  have F12 := fun_mk (st := s_by_names) l12 c12 k12
  have b12 := F12.binds (ps := ["tables"]) fun _ _ _ _ _ _ us hl => match us, hl with | [_], _ => rfl
  have F13 := fun_mk (st := s_is_row_of) l13 c13 k13
  have b13 := F13.binds (ps := ["table", "value"]) fun _ _ _ _ _ _ us hl => match us, hl with | [_, _], _ => rfl
  have F14 := fun_mk (st := s_are_rows_of) l14 c14 k14
  have b14 := F14.binds (ps := ["table", "value"]) fun _ _ _ _ _ _ us hl => match us, hl with | [_, _], _ => rfl
  have F15 := fun_mk (st := s_World_init) l15 c15 k15
  have b15 := F15.binds (ps := ["self", "tables", "rows"]) fun _ _ _ _ _ _ us hl => match us, hl with | [_, _, _], _ => rfl
  have F16 := fun_mk (st := s_World_index) l16 c16 k16
  have b16 := F16.binds (ps := ["self", "name"]) fun _ _ _ _ _ _ us hl => match us, hl with | [_, _], _ => rfl
  have F17 := fun_mk (st := s_World_need_index) l17 c17 k17
  have b17 := F17.binds (ps := ["self", "name"]) fun _ _ _ _ _ _ us hl => match us, hl with | [_, _], _ => rfl
  have F18 := fun_mk (st := s_World_rows_of) l18 c18 k18
  have b18 := F18.binds (ps := ["self", "name"]) fun _ _ _ _ _ _ us hl => match us, hl with | [_, _], _ => rfl
  have F19 := fun_mk (st := s_need_world) l19 c19 k19
  have b19 := F19.binds (ps := ["value"]) fun _ _ _ _ _ _ us hl => match us, hl with | [_], _ => rfl
  have F20 := fun_mk (st := s_need_tables) l20 c20 k20
  have b20 := F20.binds (ps := ["world", "tables"]) fun _ _ _ _ _ _ us hl => match us, hl with | [_, _], _ => rfl
  have F21 := fun_mk (st := s_is_threshold) l21 c21 k21
  have b21 := F21.binds (ps := ["value"]) fun _ _ _ _ _ _ us hl => match us, hl with | [_], _ => rfl
  have F22 := fun_mk (st := s_Split_init) l22 c22 k22
  have b22 := F22.binds (ps := ["self", "table", "column", "threshold"]) fun _ _ _ _ _ _ us hl => match us, hl with | [_, _, _, _], _ => rfl
  have F23 := fun_mk (st := s_crowds) l23 c23 k23
  have b23 := F23.binds (ps := ["rows", "column"]) fun _ _ _ _ _ _ us hl => match us, hl with | [_, _], _ => rfl
  have F24 := fun_mk (st := s_parts_of) l24 c24 k24
  have b24 := F24.binds (ps := ["rows", "split", "base"]) fun _ _ _ _ _ _ us hl => match us, hl with | [_, _, _], _ => rfl
  have F25 := fun_mk (st := s_need_split) l25 c25 k25
  have b25 := F25.binds (ps := ["value"]) fun _ _ _ _ _ _ us hl => match us, hl with | [_], _ => rfl
  have F26 := fun_mk (st := s_need_base) l26 c26 k26
  have b26 := F26.binds (ps := ["value"]) fun _ _ _ _ _ _ us hl => match us, hl with | [_], _ => rfl
  have F27 := fun_mk (st := s_parted) l27 c27 k27
  have b27 := F27.binds (ps := ["world", "split", "base"]) fun _ _ _ _ _ _ us hl => match us, hl with | [_, _, _], _ => rfl
  have F28 := fun_mk (st := s__law_pen) l28 c28 k28
  have b28 := F28.binds (ps := ["script"]) fun _ _ _ _ _ _ us hl => match us, hl with | [_], _ => rfl
  have F29 := fun_mk (st := s__law_draw) l29 c29 k29
  have b29 := F29.binds (ps := ["pen", "many"]) fun _ _ _ _ _ _ us hl => match us, hl with | [_, _], _ => rfl
  have F30 := fun_mk (st := s__law_pick) l30 c30 k30
  have b30 := F30.binds (ps := ["pen", "some"]) fun _ _ _ _ _ _ us hl => match us, hl with | [_, _], _ => rfl
  have F31 := fun_mk (st := s__law_power) l31 c31 k31
  have b31 := F31.binds (ps := ["number", "many"]) fun _ _ _ _ _ _ us hl => match us, hl with | [_, _], _ => rfl
  have F32 := fun_mk (st := s_law) l32 c32 k32
  refine ⟨PySem.W.fnOf "law" "law" (defArgs s_law) (defBody s_law) (defScope s_law) .none kV32 dc32 pm32 an32 cd32 ct32, fun s v => .of_eq rfl, fun base _ _ => ?_⟩
  have G_is_integer : Fn l.prog w K mg base 1 "is_integer" (Φ_is_integer K CTable CWorld CSplit) := ⟨_, _, _, f_is_integer (P := l.prog) (wd := w) (base := base) T  F0, PySem.W.mg_of X G a0, k0, b0⟩
  have G_is_between : Fn l.prog w K mg base 2 "is_between" (Φ_is_between K CTable CWorld CSplit) := ⟨_, _, _, f_is_between (P := l.prog) (wd := w) (base := base) T G_is_integer F1, PySem.W.mg_of X G a1, k1, b1⟩
  have G_is_name : Fn l.prog w K mg base 1 "is_name" (Φ_is_name K CTable CWorld CSplit) := ⟨_, _, _, f_is_name (P := l.prog) (wd := w) (base := base) T  F2, PySem.W.mg_of X G a2, k2, b2⟩
  have G_is_listed : Fn l.prog w K mg base 1 "is_listed" (Φ_is_listed K CTable CWorld CSplit) := ⟨_, _, _, f_is_listed (P := l.prog) (wd := w) (base := base) T  F3, PySem.W.mg_of X G a3, k3, b3⟩
  have G_is_row : Fn l.prog w K mg base 2 "is_row" (Φ_is_row K CTable CWorld CSplit) := ⟨_, _, _, f_is_row (P := l.prog) (wd := w) (base := base) T G_is_listed F4, PySem.W.mg_of X G a4, k4, b4⟩
  have G_common_part : Fn l.prog w K mg base 1 "common_part" (Φ_common_part K CTable CWorld CSplit) := ⟨_, _, _, f_common_part (P := l.prog) (wd := w) (base := base) T  F5, PySem.W.mg_of X G a5, k5, b5⟩
  have G_lowest : Fn l.prog w K mg base 2 "lowest" (Φ_lowest K CTable CWorld CSplit) := ⟨_, _, _, f_lowest (P := l.prog) (wd := w) (base := base) T G_common_part F6, PySem.W.mg_of X G a6, k6, b6⟩
  have G_power : Fn l.prog w K mg base 1 "power" (Φ_power K CTable CWorld CSplit) := ⟨_, _, _, f_power (P := l.prog) (wd := w) (base := base) T  F7, PySem.W.mg_of X G a7, k7, b7⟩
  have G_is_at_most : Fn l.prog w K mg base 2 "is_at_most" (Φ_is_at_most K CTable CWorld CSplit) := ⟨_, _, _, f_is_at_most (P := l.prog) (wd := w) (base := base) T G_power F8, PySem.W.mg_of X G a8, k8, b8⟩
  have M_Table : Kl l.prog w K mg base 3 "Table" CTable (Φ_Table_init K CTable CWorld CSplit) := ⟨_, _, _, f_Table_init (P := l.prog) (wd := w) (base := base) T G_is_between G_is_name F9, ⟨mkTable, a9, i9, kcTable⟩, PySem.W.mg_of X G aTable, b9⟩
  have Q_Table : Qe l.prog w K mg base 1 CTable (Φ_Table_eq K CTable CWorld CSplit) := ⟨_, _, _, f_Table_eq (P := l.prog) (wd := w) (base := base) T  F10, a10, i10, b10⟩
  have G_are_tables : Fn l.prog w K mg base 3 "are_tables" (Φ_are_tables K CTable CWorld CSplit) := ⟨_, _, _, f_are_tables (P := l.prog) (wd := w) (base := base) T G_is_row F11, PySem.W.mg_of X G a11, k11, b11⟩
  have G_by_names : Fn l.prog w K mg base 1 "by_names" (Φ_by_names K CTable CWorld CSplit) := ⟨_, _, _, f_by_names (P := l.prog) (wd := w) (base := base) T  F12, PySem.W.mg_of X G a12, k12, b12⟩
  have G_is_row_of : Fn l.prog w K mg base 3 "is_row_of" (Φ_is_row_of K CTable CWorld CSplit) := ⟨_, _, _, f_is_row_of (P := l.prog) (wd := w) (base := base) T G_is_between G_is_row F13, PySem.W.mg_of X G a13, k13, b13⟩
  have G_are_rows_of : Fn l.prog w K mg base 4 "are_rows_of" (Φ_are_rows_of K CTable CWorld CSplit) := ⟨_, _, _, f_are_rows_of (P := l.prog) (wd := w) (base := base) T G_is_listed G_is_row_of F14, PySem.W.mg_of X G a14, k14, b14⟩
  have M_World : Kl l.prog w K mg base 5 "World" CWorld (Φ_World_init K CTable CWorld CSplit) := ⟨_, _, _, f_World_init (P := l.prog) (wd := w) (base := base) T G_are_rows_of G_are_tables G_is_row F15, ⟨mkWorld, a15, i15, kcWorld⟩, PySem.W.mg_of X G aWorld, b15⟩
  have N_World_index : Mt l.prog w K mg base 1 CWorld "index" (Φ_World_index K CTable CWorld CSplit) := ⟨_, _, _, f_World_index (P := l.prog) (wd := w) (base := base) T  F16, ⟨a16, i16, k16⟩, T.k_World, b16⟩
  have N_World_need_index : Mt l.prog w K mg base 2 CWorld "need_index" (Φ_World_need_index K CTable CWorld CSplit) := ⟨_, _, _, f_World_need_index (P := l.prog) (wd := w) (base := base) T N_World_index F17, ⟨a17, i17, k17⟩, T.k_World, b17⟩
  have N_World_rows_of : Mt l.prog w K mg base 3 CWorld "rows_of" (Φ_World_rows_of K CTable CWorld CSplit) := ⟨_, _, _, f_World_rows_of (P := l.prog) (wd := w) (base := base) T N_World_need_index F18, ⟨a18, i18, k18⟩, T.k_World, b18⟩
  have G_need_world : Fn l.prog w K mg base 1 "need_world" (Φ_need_world K CTable CWorld CSplit) := ⟨_, _, _, f_need_world (P := l.prog) (wd := w) (base := base) T  F19, PySem.W.mg_of X G a19, k19, b19⟩
  have G_need_tables : Fn l.prog w K mg base 2 "need_tables" (Φ_need_tables K CTable CWorld CSplit) := ⟨_, _, _, f_need_tables (P := l.prog) (wd := w) (base := base) T G_by_names Q_Table F20, PySem.W.mg_of X G a20, k20, b20⟩
  have G_is_threshold : Fn l.prog w K mg base 3 "is_threshold" (Φ_is_threshold K CTable CWorld CSplit) := ⟨_, _, _, f_is_threshold (P := l.prog) (wd := w) (base := base) T G_is_between G_is_row F21, PySem.W.mg_of X G a21, k21, b21⟩
  have M_Split : Kl l.prog w K mg base 4 "Split" CSplit (Φ_Split_init K CTable CWorld CSplit) := ⟨_, _, _, f_Split_init (P := l.prog) (wd := w) (base := base) T G_is_between G_is_threshold G_lowest F22, ⟨mkSplit, a22, i22, kcSplit⟩, PySem.W.mg_of X G aSplit, b22⟩
  have G_crowds : Fn l.prog w K mg base 1 "crowds" (Φ_crowds K CTable CWorld CSplit) := ⟨_, _, _, f_crowds (P := l.prog) (wd := w) (base := base) T  F23, PySem.W.mg_of X G a23, k23, b23⟩
  have G_parts_of : Fn l.prog w K mg base 3 "parts_of" (Φ_parts_of K CTable CWorld CSplit) := ⟨_, _, _, f_parts_of (P := l.prog) (wd := w) (base := base) T G_crowds G_is_at_most F24, PySem.W.mg_of X G a24, k24, b24⟩
  have G_need_split : Fn l.prog w K mg base 1 "need_split" (Φ_need_split K CTable CWorld CSplit) := ⟨_, _, _, f_need_split (P := l.prog) (wd := w) (base := base) T  F25, PySem.W.mg_of X G a25, k25, b25⟩
  have G_need_base : Fn l.prog w K mg base 3 "need_base" (Φ_need_base K CTable CWorld CSplit) := ⟨_, _, _, f_need_base (P := l.prog) (wd := w) (base := base) T G_is_between F26, PySem.W.mg_of X G a26, k26, b26⟩
  have G_parted : Fn l.prog w K mg base 4 "parted" (Φ_parted K CTable CWorld CSplit) := ⟨_, _, _, f_parted (P := l.prog) (wd := w) (base := base) T G_need_base G_need_split G_need_tables G_need_world G_parts_of N_World_rows_of F27, PySem.W.mg_of X G a27, k27, b27⟩
  have G__law_pen : Fn l.prog w K mg base 1 "_law_pen" (Φ__law_pen K CTable CWorld CSplit) := ⟨_, _, _, f__law_pen (P := l.prog) (wd := w) (base := base) T  F28, PySem.W.mg_of X G a28, k28, b28⟩
  have G__law_draw : Fn l.prog w K mg base 1 "_law_draw" (Φ__law_draw K CTable CWorld CSplit) := ⟨_, _, _, f__law_draw (P := l.prog) (wd := w) (base := base) T  F29, PySem.W.mg_of X G a29, k29, b29⟩
  have G__law_pick : Fn l.prog w K mg base 2 "_law_pick" (Φ__law_pick K CTable CWorld CSplit) := ⟨_, _, _, f__law_pick (P := l.prog) (wd := w) (base := base) T G__law_draw F30, PySem.W.mg_of X G a30, k30, b30⟩
  have G__law_power : Fn l.prog w K mg base 1 "_law_power" (Φ__law_power K CTable CWorld CSplit) := ⟨_, _, _, f__law_power (P := l.prog) (wd := w) (base := base) T  F31, PySem.W.mg_of X G a31, k31, b31⟩
  exact f_law (P := l.prog) (wd := w) (base := base) T G__law_draw G__law_pen G__law_pick G__law_power G_parted M_Split M_Table M_World F32
end L2.TL.K08

/-! text K08z3 -/
set_option Elab.async false
set_option linter.all false
set_option maxRecDepth 100000
set_option maxHeartbeats 4000000
namespace L2.TL.K08
open PySem PySem.Spec PyProof.Rows L2.TL
theorem paired1 {α β : Type} {R : α → β → Prop} {a : α} {b : β} (h : R a b) : Paired R [a] [b] := .cons h .nil
theorem repL_ints {K : PySem.W.Frag} {F : Addr → Prop} {H : Hp} : ∀ ns : List Int, RepL K F H (ns.map D.int) (ns.map V.int)
  | [] => by simp only [List.map_nil, RepL]
  | n :: ns => by
    simp only [List.map_cons, RepL]
    exact ⟨V.int n, ns.map V.int, rfl, (by simp only [Rep]), repL_ints ns⟩
theorem sp_law {K : PySem.W.Frag} {H : Hp} {a : Addr} {ns : List Int} (hl : ns.length ≤ 63) (h : SqL K H a (ns.map V.int)) : spT K (Φ_law K 0 0 0) [.ref a] H (fun v _ => v = .bl true) fun _ _ _ => False := by
  have hs : ∀ F : Addr → Prop, (∀ b, F b → H b ≠ none) → HS K [] [] F H := fun F hF =>
    ⟨fun k d e => by simp at e, List.nodup_nil, hF, fun b hb => by simp at hb, rfl⟩
  have out : ∀ (F : Addr → Prop) (d : D), (∀ b, F b → H b ≠ none) → Rep K F H d (.ref a) → ScrD K ns d → spT K (Φ_law K 0 0 0) [.ref a] H (fun v _ => v = .bl true) fun _ _ _ => False := fun F d hF hd hk =>
    ⟨[], [], F, [.sh d], fun r _ => r = .sh (.bl true), fun _ _ => False, hs F hF, paired1 hd, ⟨ns, d, rfl, hk, fun _ => rfl⟩,
      fun v H' r os' F' _ _ rr e => by subst e; simpa only [RepR, Rep] using rr, fun _ _ _ _ _ _ _ _ _ e => e⟩
  rcases h with h | h
  · refine out (fun b => b = a) (.lst (ns.map .int)) (fun b hb => ?_) ?_ ⟨hl, .inl rfl⟩
    · subst hb
      rcases h with h | ⟨o, h⟩
      · rw [h]; exact fun z => nomatch z
      · rw [h]; exact fun z => nomatch z
    · simp only [Rep]
      exact ⟨a, ns.map V.int, rfl, rfl, h, by rw [List.length_map]; exact Nat.le_trans hl (by decide), repL_ints ns⟩
  · exact out (fun _ => False) (.obj a) (fun _ hb => hb.elim) (by simp only [Rep]) ⟨hl, .inr ⟨a, rfl, h⟩⟩
theorem walk {l : PySem.W.OpenLaw} {q : Program} {loose : List Str} {XP : (Str → Option Value) → Heap → Prop} {YP : World → Heap → Prop} {d : DefRec} {K : Params → PySem.W.Frag} (hn : l.most = some 63) (hdf : d.params.defaults = [])
    (hY : ∀ (w : World) (h : Heap), YP w h → (K w.params).In h)
    (F : ∀ (w : World) (mg : Str → Option Value) (fa : Addr) (h : Heap), (K w.params).In h → h.Ns mainGlobals mg → mg d.name = some (.ref fa) →
      ∃ fd : FuncData, (∀ (s : Shared) (u : Value), BindsTo s fd ⟨[u], []⟩ [("script", u)]) ∧ ∀ base : Heap, (K w.params).In base → base.Ns mainGlobals mg → FnOk l.prog w (K w.params) mg base (L2.CX l.prog w) 7 fa fd ["script"] (spT (K w.params) (Φ_law (K w.params) 0 0 0))) :
    PySem.W.WalkO q loose XP YP l.row.toRowW d [] (fun f vs => PySem.call f vs) :=
  L2.walk_of (n := 63) (k := 7) (x := "script") (CX := fun w => L2.CX l.prog w) (sp := fun w => spT (K w.params) (Φ_law (K w.params) 0 0 0)) hn (by decide) hdf ⟨rfl, by decide, by decide⟩ hY F (fun _ _ a ns hl _ hS => sp_law hl hS)
    fun _ _ _ _ _ ⟨_, _, _, _, _, _, _, _, _, _, _, _, z⟩ => z
end L2.TL.K08


/-! text K08z4 -/
set_option Elab.async false
set_option maxRecDepth 100000
open PySem PySem.W PyProof.Rows
set_option maxRecDepth 100000 in
set_option maxHeartbeats 0 in
theorem PySem.Challenge.cw_crowdsplit_k08_whole_parts_at_their_bord_holds : PySem.Challenge.rw_crowdsplit_k08_whole_parts_at_their_bord.Holds := by
  w_on; o_law; k_head; (case hw => w_witness2)
  k_fill
  refine L2.TL.K08.walk (l := PySem.Challenge.rw_crowdsplit_k08_whole_parts_at_their_bord) rfl rfl (fun w h Y => PySem.W.kIn_of Y) ?F
  case F =>
    intro w mg fa h KX G hmg
    refine' L2.TL.K08.all_mk KX G hmg ?aTable ?aWorld ?aSplit ?a0 ?l0 ?c0 ?k0 ?a1 ?l1 ?c1 ?k1 ?a2 ?l2 ?c2 ?k2 ?a3 ?l3 ?c3 ?k3 ?a4 ?l4 ?c4 ?k4 ?a5 ?l5 ?c5 ?k5 ?a6 ?l6 ?c6 ?k6 ?a7 ?l7 ?c7 ?k7 ?a8 ?l8 ?c8 ?k8 ?a9 ?i9 ?l9 ?c9 ?k9 ?a10 ?i10 ?l10 ?c10 ?k10 ?a11 ?l11 ?c11 ?k11 ?a12 ?l12 ?c12 ?k12 ?a13 ?l13 ?c13 ?k13 ?a14 ?l14 ?c14 ?k14 ?a15 ?i15 ?l15 ?c15 ?k15 ?a16 ?i16 ?l16 ?c16 ?k16 ?a17 ?i17 ?l17 ?c17 ?k17 ?a18 ?i18 ?l18 ?c18 ?k18 ?a19 ?l19 ?c19 ?k19 ?a20 ?l20 ?c20 ?k20 ?a21 ?l21 ?c21 ?k21 ?a22 ?i22 ?l22 ?c22 ?k22 ?a23 ?l23 ?c23 ?k23 ?a24 ?l24 ?c24 ?k24 ?a25 ?l25 ?c25 ?k25 ?a26 ?l26 ?c26 ?k26 ?a27 ?l27 ?c27 ?k27 ?a28 ?l28 ?c28 ?k28 ?a29 ?l29 ?c29 ?k29 ?a30 ?l30 ?c30 ?k30 ?a31 ?l31 ?c31 ?k31 ?a32 ?l32 ?c32 ?k32 ?pgTable ?hdTable ?poTable ?saTable ?mkTable ?kcTable ?haTable ?hmTable ?pgWorld ?hdWorld ?poWorld ?saWorld ?mkWorld ?kcWorld ?haWorld ?hmWorld ?pgSplit ?hdSplit ?poSplit ?saSplit ?mkSplit ?kcSplit ?haSplit ?hmSplit ?hn ?ht ?zb_len ?zb_all ?zb_int ?zb_abs ?zb_max ?zb_isinstance ?zb_tuple ?zb_sorted ?zb_range ?zb_enumerate ?zb_zip ?zb_bool ?zb_str ?zb_list ?zn_Table_name ?zn_Table_width ?zn_World_tables ?zn_World_rows ?zn_Split_table ?zn_Split_column ?zn_Split_threshold ?zc_MOST_SIGNS ?zc_MOST_WIDTH ?zc_MOST_TABLES ?zc_MOST_ROWS ?zc_MOST_VALUE ?zc_MOST_PART ?zc_MOST_BASE ?zc_LETTERS
    (case aTable => k_is)
    (case aWorld => k_is)
    (case aSplit => k_is)
    (case a0 => k_is)
    (case l0 => k_is)
    (case c0 => k_is)
    (case k0 => k_is)
    (case a1 => k_is)
    (case l1 => k_is)
    (case c1 => k_is)
    (case k1 => k_is)
    (case a2 => k_is)
    (case l2 => k_is)
    (case c2 => k_is)
    (case k2 => k_is)
    (case a3 => k_is)
    (case l3 => k_is)
    (case c3 => k_is)
    (case k3 => k_is)
    (case a4 => k_is)
    (case l4 => k_is)
    (case c4 => k_is)
    (case k4 => k_is)
    (case a5 => k_is)
    (case l5 => k_is)
    (case c5 => k_is)
    (case k5 => k_is)
    (case a6 => k_is)
    (case l6 => k_is)
    (case c6 => k_is)
    (case k6 => k_is)
    (case a7 => k_is)
    (case l7 => k_is)
    (case c7 => k_is)
    (case k7 => k_is)
    (case a8 => k_is)
    (case l8 => k_is)
    (case c8 => k_is)
    (case k8 => k_is)
    (case a9 => k_is)
    (case i9 => k_is)
    (case l9 => k_is)
    (case c9 => k_is)
    (case k9 => k_is)
    (case a10 => k_is)
    (case i10 => k_is)
    (case l10 => k_is)
    (case c10 => k_is)
    (case k10 => k_is)
    (case a11 => k_is)
    (case l11 => k_is)
    (case c11 => k_is)
    (case k11 => k_is)
    (case a12 => k_is)
    (case l12 => k_is)
    (case c12 => k_is)
    (case k12 => k_is)
    (case a13 => k_is)
    (case l13 => k_is)
    (case c13 => k_is)
    (case k13 => k_is)
    (case a14 => k_is)
    (case l14 => k_is)
    (case c14 => k_is)
    (case k14 => k_is)
    (case a15 => k_is)
    (case i15 => k_is)
    (case l15 => k_is)
    (case c15 => k_is)
    (case k15 => k_is)
    (case a16 => k_is)
    (case i16 => k_is)
    (case l16 => k_is)
    (case c16 => k_is)
    (case k16 => k_is)
    (case a17 => k_is)
    (case i17 => k_is)
    (case l17 => k_is)
    (case c17 => k_is)
    (case k17 => k_is)
    (case a18 => k_is)
    (case i18 => k_is)
    (case l18 => k_is)
    (case c18 => k_is)
    (case k18 => k_is)
    (case a19 => k_is)
    (case l19 => k_is)
    (case c19 => k_is)
    (case k19 => k_is)
    (case a20 => k_is)
    (case l20 => k_is)
    (case c20 => k_is)
    (case k20 => k_is)
    (case a21 => k_is)
    (case l21 => k_is)
    (case c21 => k_is)
    (case k21 => k_is)
    (case a22 => k_is)
    (case i22 => k_is)
    (case l22 => k_is)
    (case c22 => k_is)
    (case k22 => k_is)
    (case a23 => k_is)
    (case l23 => k_is)
    (case c23 => k_is)
    (case k23 => k_is)
    (case a24 => k_is)
    (case l24 => k_is)
    (case c24 => k_is)
    (case k24 => k_is)
    (case a25 => k_is)
    (case l25 => k_is)
    (case c25 => k_is)
    (case k25 => k_is)
    (case a26 => k_is)
    (case l26 => k_is)
    (case c26 => k_is)
    (case k26 => k_is)
    (case a27 => k_is)
    (case l27 => k_is)
    (case c27 => k_is)
    (case k27 => k_is)
    (case a28 => k_is)
    (case l28 => k_is)
    (case c28 => k_is)
    (case k28 => k_is)
    (case a29 => k_is)
    (case l29 => k_is)
    (case c29 => k_is)
    (case k29 => k_is)
    (case a30 => k_is)
    (case l30 => k_is)
    (case c30 => k_is)
    (case k30 => k_is)
    (case a31 => k_is)
    (case l31 => k_is)
    (case c31 => k_is)
    (case k31 => k_is)
    (case a32 => k_is)
    (case l32 => k_is)
    (case c32 => k_is)
    (case k32 => k_is)
    (case pgTable => k_is)
    (case hdTable => k_is)
    (case poTable => k_is)
    (case saTable => k_is)
    (case mkTable => k_is)
    (case kcTable => k_is)
    (case haTable => k_is)
    (case hmTable => k_is)
    (case pgWorld => k_is)
    (case hdWorld => k_is)
    (case poWorld => k_is)
    (case saWorld => k_is)
    (case mkWorld => k_is)
    (case kcWorld => k_is)
    (case haWorld => k_is)
    (case hmWorld => k_is)
    (case pgSplit => k_is)
    (case hdSplit => k_is)
    (case poSplit => k_is)
    (case saSplit => k_is)
    (case mkSplit => k_is)
    (case kcSplit => k_is)
    (case haSplit => k_is)
    (case hmSplit => k_is)
    (case hn => k_is)
    (case ht => k_is)
    (case zb_len => k_is)
    (case zb_all => k_is)
    (case zb_int => k_is)
    (case zb_abs => k_is)
    (case zb_max => k_is)
    (case zb_isinstance => k_is)
    (case zb_tuple => k_is)
    (case zb_sorted => k_is)
    (case zb_range => k_is)
    (case zb_enumerate => k_is)
    (case zb_zip => k_is)
    (case zb_bool => k_is)
    (case zb_str => k_is)
    (case zb_list => k_is)
    (case zn_Table_name => k_is)
    (case zn_Table_width => k_is)
    (case zn_World_tables => k_is)
    (case zn_World_rows => k_is)
    (case zn_Split_table => k_is)
    (case zn_Split_column => k_is)
    (case zn_Split_threshold => k_is)
    (case zc_MOST_SIGNS => k_is)
    (case zc_MOST_WIDTH => k_is)
    (case zc_MOST_TABLES => k_is)
    (case zc_MOST_ROWS => k_is)
    (case zc_MOST_VALUE => k_is)
    (case zc_MOST_PART => k_is)
    (case zc_MOST_BASE => k_is)
    (case zc_LETTERS => k_is)
#print axioms PySem.Challenge.cw_crowdsplit_k08_whole_parts_at_their_bord_holds
