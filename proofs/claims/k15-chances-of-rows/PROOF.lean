import PyProof.Rows.All
import Wide.All
import OpenK.AllK
import Wide.FinOn
import HandS.Base
import HandS.Call
import HandS.List
import HandS.Comp
import HandS.Exc
import HandS.Words
import HandS.ExcOwn
import HandS.WordsExc
import HandS.Wide
import HandS.IsInst
import HandS.Text
import HandS.WideBits
import KE.KTupSum
import HandS.TryMany
import HandS.ExcInit
import HandS.ExcField
import HandS.TupMul
import HandS.Iter
import HandS.TupAny
import HandS.Gcd
import HandS.Dict
import KE.GoesEnum
import HandS.ExcIs
import HandS.Conv
import PySem.Challenge.RW_everyprior_k15_chances_of_rows
set_option Elab.async false
set_option linter.all false
set_option maxRecDepth 100000
/-! L3: values without a heap, over the hand layer: a def is a function of values; a list that one name alone holds changes as a value. -/
namespace L3
open PySem PySem.Spec PyProof.Rows L2

inductive PV where
  | non | bl (b : Bool) | int (i : Int) | str (s : Str)
  | tup (l : List PV) | lst (l : List PV) | mls (l : List PV) | scr (l : List PV)
  | mdk (ks : List Key) (vs : List PV) | mdt (ks : List (List Key)) (vs : List PV)
  | dck (ks : List Key) (vs : List PV) | dct (ks : List (List Key)) (vs : List PV)

abbrev Env := List (Option PV)
/-- an exception: its class by name, its fields -/
structure XV where
  c : Str
  fs : List (Str × PV)
inductive R (α : Type) where
  | ok (a : α) (e : Env)
  | ex (x : XV) (e : Env)
  | stk
def R.bind {α β : Type} : R α → (α → Env → R β) → R β
  | .ok a e, k => k a e
  | .ex x e, _ => .ex x e
  | .stk, _ => .stk

mutual
def frzP : PV → PV
  | .mls l => .lst (frzL l)
  | .mdk ks vs => .dck ks (frzL vs)
  | .mdt ks vs => .dct ks (frzL vs)
  | .non => .non
  | .bl b => .bl b
  | .int i => .int i
  | .str s => .str s
  | .tup l => .tup l
  | .lst l => .lst l
  | .scr l => .scr l
  | .dck ks vs => .dck ks vs
  | .dct ks vs => .dct ks vs
def frzL : List PV → List PV
  | [] => []
  | p :: ps => frzP p :: frzL ps
end
theorem frzL_map : ∀ l : List PV, frzL l = l.map frzP
  | [] => rfl
  | p :: ps => by rw [frzL, frzL_map ps]; rfl

def FrT (_K : PySem.W.Frag) (S : Addr → Prop) (H : Hp) (a : Addr) (xs : List V) : Prop := S a ∧ H a = some (.tup xs)
section
variable (K : PySem.W.Frag) (S : Addr → Prop) (H : Hp)
def FrL (a : Addr) (xs : List V) : Prop := (S a ∧ Rd H a (.lst xs)) ∨
  ∃ (o : Obj) (its : Array Value) (n : Nat), K.lookup a = some o ∧ o.cls = .type "list" ∧ o.dict = none ∧ o.data = .seq its n ∧ its.size ≤ sizeLine ∧ Vals xs its.toList
mutual
def Own : PV → V → List Addr → Prop
  | .non, v, f => v = .non ∧ f = []
  | .bl b, v, f => v = .bl b ∧ f = []
  | .int i, v, f => v = .int i ∧ f = []
  | .str s, v, f => v = .str s ∧ f = []
  | .tup l, v, f => ∃ a vs, v = .ref a ∧ f = [] ∧ FrT K S H a vs ∧ Owns l vs []
  | .lst l, v, f => ∃ a vs, v = .ref a ∧ f = [] ∧ (S a ∧ H a = some (.lst vs)) ∧ Owns l vs []
  | .scr l, v, f => ∃ a vs, v = .ref a ∧ f = [] ∧ FrL K S H a vs ∧ Owns l vs []
  | .mls l, v, f => ∃ a vs g, v = .ref a ∧ f = a :: g ∧ H a = some (.lst vs) ∧ Owns l vs g
  | .mdk ks ps, v, f => ∃ a vs g, v = .ref a ∧ f = a :: g ∧ ks.length = vs.length ∧ H a = some (.dK (ks.zip vs)) ∧ Owns ps vs g
  | .mdt ks ps, v, f => ∃ a vs g, v = .ref a ∧ f = a :: g ∧ ks.length = vs.length ∧ H a = some (.dT (ks.zip vs)) ∧ Owns ps vs g
  | .dck ks ps, v, f => ∃ a vs, v = .ref a ∧ f = [] ∧ ks.length = vs.length ∧ S a ∧ H a = some (.dK (ks.zip vs)) ∧ Owns ps vs []
  | .dct ks ps, v, f => ∃ a vs, v = .ref a ∧ f = [] ∧ ks.length = vs.length ∧ S a ∧ H a = some (.dT (ks.zip vs)) ∧ Owns ps vs []
def Owns : List PV → List V → List Addr → Prop
  | [], vs, f => vs = [] ∧ f = []
  | p :: ps, vs, f => ∃ v r f1 f2, vs = v :: r ∧ f = f1 ++ f2 ∧ Own p v f1 ∧ Owns ps r f2
end
def OwnE : Env → L2.St → List Addr → Prop
  | [], σ, f => σ = [] ∧ f = []
  | none :: es, σ, f => ∃ o r, σ = o :: r ∧ OwnE es r f
  | some p :: es, σ, f => ∃ v r f1 f2, σ = some v :: r ∧ f = f1 ++ f2 ∧ Own K S H p v f1 ∧ OwnE es r f2
end

structure Step (S : Addr → Prop) (H : Hp) (fp : List Addr) (S' : Addr → Prop) (H' : Hp) (fp' : List Addr) : Prop where
  fr : ∀ a o, H a = some o → a ∉ fp → H' a = some o
  su : ∀ a, S a → S' a
  sb : ∀ a, S' a → S a ∨ H a = none ∨ a ∈ fp
  fb : ∀ a, a ∈ fp' → a ∈ fp ∨ H a = none
  kp : ∀ a, H a ≠ none → H' a ≠ none
structure Good (S : Addr → Prop) (H : Hp) (f : List Addr) : Prop where
  nd : f.Nodup
  dj : ∀ a, a ∈ f → ¬ S a
  dm : ∀ a, S a → H a ≠ none
  al : ∀ a, a ∈ f → H a ≠ none

section
variable {K : PySem.W.Frag} {S S' S1 S2 : Addr → Prop} {H H' H1 H2 : Hp} {f f1 f2 g fp fp' fp1 fp2 : List Addr}
theorem Step.refl : Step S H f S H f := ⟨fun _ _ e _ => e, fun _ h => h, fun _ h => .inl h, fun _ h => .inl h, fun _ h => h⟩
theorem Step.trans (a : Step S H fp S1 H1 fp1) (b : Step S1 H1 fp1 S2 H2 fp2) : Step S H fp S2 H2 fp2 where
  fr := fun x o e n => b.fr x o (a.fr x o e n) fun h => (a.fb x h).elim n fun z => by rw [z] at e; cases e
  su := fun x h => b.su x (a.su x h)
  sb := fun x h => by
    rcases b.sb x h with z | z | z
    · exact a.sb x z
    · refine .inr (.inl ?_)
      cases e : H x with
      | none => rfl
      | some o => exact absurd z (a.kp x (by rw [e]; simp))
    · rcases a.fb x z with q | q
      · exact .inr (.inr q)
      · exact .inr (.inl q)
  fb := fun x h => by
    rcases b.fb x h with z | z
    · exact a.fb x z
    · refine .inr ?_
      cases e : H x with
      | none => rfl
      | some o => exact absurd z (a.kp x (by rw [e]; simp))
  kp := fun x h => b.kp x (a.kp x h)
theorem Step.sub (a : Step S H fp S1 H1 fp1) (h : ∀ x, x ∈ fp2 → x ∈ fp1) : Step S H fp S1 H1 fp2 := ⟨a.fr, a.su, a.sb, fun x z => a.fb x (h x z), a.kp⟩
theorem Step.sup (a : Step S H fp S1 H1 fp1) (h : ∀ x, x ∈ fp → x ∈ fp2) : Step S H fp2 S1 H1 fp1 :=
  ⟨fun x o e n => a.fr x o e fun z => n (h x z), a.su, fun x z => (a.sb x z).imp id (Or.imp id (h x)), fun x z => (a.fb x z).imp (h x) id, a.kp⟩
/-- beside: g is kept apart -/
theorem Step.beside (a : Step S H fp S1 H1 fp1) : Step S H (g ++ fp) S1 H1 (g ++ fp1) :=
  (a.sup (fp2 := g ++ fp) fun x h => List.mem_append_right _ h) |> fun b => ⟨b.fr, b.su, b.sb, fun x z => (List.mem_append.mp z).elim (fun q => .inl (List.mem_append_left _ q)) fun q => b.fb x q, b.kp⟩

/-- what a value's description leans on stays -/
theorem FrT.stay {a : Addr} {xs : List V} (h : FrT K S H a xs) (fr : ∀ b o, S b → H b = some o → H' b = some o) (su : ∀ b, S b → S' b) : FrT K S' H' a xs := ⟨su _ h.1, fr _ _ h.1 h.2⟩
theorem FrL.stay {a : Addr} {xs : List V} (h : FrL K S H a xs) (fr : ∀ b o, S b → H b = some o → H' b = some o) (su : ∀ b, S b → S' b) : FrL K S' H' a xs := by
  rcases h with ⟨s, h | ⟨o, h⟩⟩ | h
  · exact .inl ⟨su _ s, .inl (fr _ _ s h)⟩
  · exact .inl ⟨su _ s, .inr ⟨o, fr _ _ s h⟩⟩
  · exact .inr h
theorem FrT.sq {a : Addr} {xs : List V} (h : FrT K S H a xs) : SqT K H a xs := SqT.of h.2
theorem FrL.sq {a : Addr} {xs : List V} (h : FrL K S H a xs) : SqL K H a xs := h.imp (fun z => z.2) id

mutual
theorem Own.stay (fr : ∀ b o, S b → H b = some o → H' b = some o) (su : ∀ b, S b → S' b) : ∀ (p : PV) (v : V) (f : List Addr), (∀ b o, b ∈ f → H b = some o → H' b = some o) → Own K S H p v f → Own K S' H' p v f
  | .non, v, f, _, h => h
  | .bl b, v, f, _, h => h
  | .int i, v, f, _, h => h
  | .str s, v, f, _, h => h
  | .tup l, v, f, _, h => by
    obtain ⟨a, vs, e, e2, q, o⟩ := h
    exact ⟨a, vs, e, e2, q.stay fr su, Owns.stay fr su l vs [] (fun b o z => nomatch z) o⟩
  | .lst l, v, f, _, h => by
    obtain ⟨a, vs, e, e2, q, o⟩ := h
    exact ⟨a, vs, e, e2, ⟨su _ q.1, fr _ _ q.1 q.2⟩, Owns.stay fr su l vs [] (fun b o z => nomatch z) o⟩
  | .scr l, v, f, _, h => by
    obtain ⟨a, vs, e, e2, q, o⟩ := h
    exact ⟨a, vs, e, e2, q.stay fr su, Owns.stay fr su l vs [] (fun b o z => nomatch z) o⟩
  | .mls l, v, f, ff, h => by
    obtain ⟨a, vs, g, e, e2, q, o⟩ := h
    subst e2
    exact ⟨a, vs, g, e, rfl, ff a _ List.mem_cons_self q, Owns.stay fr su l vs g (fun b o z => ff b o (List.mem_cons_of_mem _ z)) o⟩
  | .mdk ks l, v, f, ff, h => by
    obtain ⟨a, vs, g, e, e2, hl, q, o⟩ := h
    subst e2
    exact ⟨a, vs, g, e, rfl, hl, ff a _ List.mem_cons_self q, Owns.stay fr su l vs g (fun b o z => ff b o (List.mem_cons_of_mem _ z)) o⟩
  | .mdt ks l, v, f, ff, h => by
    obtain ⟨a, vs, g, e, e2, hl, q, o⟩ := h
    subst e2
    exact ⟨a, vs, g, e, rfl, hl, ff a _ List.mem_cons_self q, Owns.stay fr su l vs g (fun b o z => ff b o (List.mem_cons_of_mem _ z)) o⟩
  | .dck ks l, v, f, _, h => by
    obtain ⟨a, vs, e, e2, hl, s, q, o⟩ := h
    exact ⟨a, vs, e, e2, hl, su _ s, fr _ _ s q, Owns.stay fr su l vs [] (fun b o z => nomatch z) o⟩
  | .dct ks l, v, f, _, h => by
    obtain ⟨a, vs, e, e2, hl, s, q, o⟩ := h
    exact ⟨a, vs, e, e2, hl, su _ s, fr _ _ s q, Owns.stay fr su l vs [] (fun b o z => nomatch z) o⟩
theorem Owns.stay (fr : ∀ b o, S b → H b = some o → H' b = some o) (su : ∀ b, S b → S' b) : ∀ (p : List PV) (v : List V) (f : List Addr), (∀ b o, b ∈ f → H b = some o → H' b = some o) → Owns K S H p v f → Owns K S' H' p v f
  | [], v, f, _, h => h
  | p :: ps, v, f, ff, h => by
    obtain ⟨v', r, f1, f2, e, e2, o1, o2⟩ := h
    subst e2
    exact ⟨v', r, f1, f2, e, rfl, Own.stay fr su p v' f1 (fun b o z => ff b o (List.mem_append_left _ z)) o1, Owns.stay fr su ps r f2 (fun b o z => ff b o (List.mem_append_right _ z)) o2⟩
end
theorem OwnE.stay (fr : ∀ b o, S b → H b = some o → H' b = some o) (su : ∀ b, S b → S' b) : ∀ (p : Env) (v : L2.St) (f : List Addr), (∀ b o, b ∈ f → H b = some o → H' b = some o) → OwnE K S H p v f → OwnE K S' H' p v f
  | [], v, f, _, h => h
  | none :: ps, v, f, ff, h => by
    obtain ⟨o, r, e, q⟩ := h
    exact ⟨o, r, e, OwnE.stay fr su ps r f ff q⟩
  | some p :: ps, v, f, ff, h => by
    obtain ⟨v', r, f1, f2, e, e2, o1, o2⟩ := h
    subst e2
    exact ⟨v', r, f1, f2, e, rfl, Own.stay fr su p v' f1 (fun b o z => ff b o (List.mem_append_left _ z)) o1, OwnE.stay fr su ps r f2 (fun b o z => ff b o (List.mem_append_right _ z)) o2⟩
end

mutual
theorem Own.frz {K : PySem.W.Frag} {S S' : Addr → Prop} {H : Hp} : ∀ (p : PV) (v : V) (f : List Addr), (∀ b, S b → S' b) → (∀ b, b ∈ f → S' b) → Own K S H p v f → Own K S' H (frzP p) v []
  | .non, v, f, _, _, h => ⟨h.1, rfl⟩
  | .bl b, v, f, _, _, h => ⟨h.1, rfl⟩
  | .int i, v, f, _, _, h => ⟨h.1, rfl⟩
  | .str s, v, f, _, _, h => ⟨h.1, rfl⟩
  | .tup l, v, f, su, sf, h => by
    obtain ⟨a, vs, e, e2, q, o⟩ := h
    exact ⟨a, vs, e, rfl, q.stay (fun _ _ _ e => e) su, Owns.stay (fun _ _ _ e => e) su l vs [] (fun b o z => nomatch z) o⟩
  | .lst l, v, f, su, sf, h => by
    obtain ⟨a, vs, e, e2, q, o⟩ := h
    exact ⟨a, vs, e, rfl, ⟨su _ q.1, q.2⟩, Owns.stay (fun _ _ _ e => e) su l vs [] (fun b o z => nomatch z) o⟩
  | .scr l, v, f, su, sf, h => by
    obtain ⟨a, vs, e, e2, q, o⟩ := h
    exact ⟨a, vs, e, rfl, q.stay (fun _ _ _ e => e) su, Owns.stay (fun _ _ _ e => e) su l vs [] (fun b o z => nomatch z) o⟩
  | .mls l, v, f, su, sf, h => by
    obtain ⟨a, vs, g, e, e2, q, o⟩ := h
    subst e2
    exact ⟨a, vs, e, rfl, ⟨sf a List.mem_cons_self, q⟩, Owns.frz l vs g su (fun b z => sf b (List.mem_cons_of_mem _ z)) o⟩
  | .mdk ks l, v, f, su, sf, h => by
    obtain ⟨a, vs, g, e, e2, hl, q, o⟩ := h
    subst e2
    exact ⟨a, vs, e, rfl, hl, sf a List.mem_cons_self, q, Owns.frz l vs g su (fun b z => sf b (List.mem_cons_of_mem _ z)) o⟩
  | .mdt ks l, v, f, su, sf, h => by
    obtain ⟨a, vs, g, e, e2, hl, q, o⟩ := h
    subst e2
    exact ⟨a, vs, e, rfl, hl, sf a List.mem_cons_self, q, Owns.frz l vs g su (fun b z => sf b (List.mem_cons_of_mem _ z)) o⟩
  | .dck ks l, v, f, su, sf, h => by
    obtain ⟨a, vs, e, e2, hl, s, q, o⟩ := h
    exact ⟨a, vs, e, rfl, hl, su _ s, q, Owns.stay (fun _ _ _ e => e) su l vs [] (fun b o z => nomatch z) o⟩
  | .dct ks l, v, f, su, sf, h => by
    obtain ⟨a, vs, e, e2, hl, s, q, o⟩ := h
    exact ⟨a, vs, e, rfl, hl, su _ s, q, Owns.stay (fun _ _ _ e => e) su l vs [] (fun b o z => nomatch z) o⟩
theorem Owns.frz {K : PySem.W.Frag} {S S' : Addr → Prop} {H : Hp} : ∀ (p : List PV) (v : List V) (f : List Addr), (∀ b, S b → S' b) → (∀ b, b ∈ f → S' b) → Owns K S H p v f → Owns K S' H (frzL p) v []
  | [], v, f, _, _, h => ⟨h.1, rfl⟩
  | p :: ps, v, f, su, sf, h => by
    obtain ⟨v', r, f1, f2, e, e2, o1, o2⟩ := h
    subst e2
    exact ⟨v', r, [], [], e, rfl, Own.frz p v' f1 su (fun b z => sf b (List.mem_append_left _ z)) o1, Owns.frz ps r f2 su (fun b z => sf b (List.mem_append_right _ z)) o2⟩
end
theorem Own.frz_nil {K : PySem.W.Frag} {S : Addr → Prop} {H : Hp} {p : PV} {v : V} {f : List Addr} (h : Own K S H (frzP p) v f) : f = [] := by
  cases p <;> first
    | exact h.2
    | (obtain ⟨_, _, _, e, _⟩ := h; exact e)
mutual
theorem Own.al {K : PySem.W.Frag} {S : Addr → Prop} {H : Hp} : ∀ (p : PV) (v : V) (f : List Addr), Own K S H p v f → ∀ a, a ∈ f → H a ≠ none
  | .non, v, f, h, a, z => by rw [h.2] at z; cases z
  | .bl b, v, f, h, a, z => by rw [h.2] at z; cases z
  | .int i, v, f, h, a, z => by rw [h.2] at z; cases z
  | .str s, v, f, h, a, z => by rw [h.2] at z; cases z
  | .tup l, v, f, h, a, z => by obtain ⟨_, _, _, e, _⟩ := h; rw [e] at z; cases z
  | .lst l, v, f, h, a, z => by obtain ⟨_, _, _, e, _⟩ := h; rw [e] at z; cases z
  | .scr l, v, f, h, a, z => by obtain ⟨_, _, _, e, _⟩ := h; rw [e] at z; cases z
  | .dck _ l, v, f, h, a, z => by obtain ⟨_, _, _, e, _⟩ := h; rw [e] at z; cases z
  | .dct _ l, v, f, h, a, z => by obtain ⟨_, _, _, e, _⟩ := h; rw [e] at z; cases z
  | .mls l, v, f, h, a, z => by
    obtain ⟨b, vs, g, e, e2, q, o⟩ := h
    subst e2
    rcases List.mem_cons.mp z with rfl | z
    · rw [q]; simp
    · exact Owns.al l vs g o a z
  | .mdk _ l, v, f, h, a, z => by
    obtain ⟨b, vs, g, e, e2, _, q, o⟩ := h
    subst e2
    rcases List.mem_cons.mp z with rfl | z
    · rw [q]; simp
    · exact Owns.al l vs g o a z
  | .mdt _ l, v, f, h, a, z => by
    obtain ⟨b, vs, g, e, e2, _, q, o⟩ := h
    subst e2
    rcases List.mem_cons.mp z with rfl | z
    · rw [q]; simp
    · exact Owns.al l vs g o a z
theorem Owns.al {K : PySem.W.Frag} {S : Addr → Prop} {H : Hp} : ∀ (p : List PV) (v : List V) (f : List Addr), Owns K S H p v f → ∀ a, a ∈ f → H a ≠ none
  | [], v, f, h, a, z => by rw [h.2] at z; cases z
  | p :: ps, v, f, h, a, z => by
    obtain ⟨v', r, f1, f2, e, e2, o1, o2⟩ := h
    subst e2
    exact (List.mem_append.mp z).elim (Own.al p v' f1 o1 a) (Owns.al ps r f2 o2 a)
end
end L3

namespace L3
open PySem PySem.Spec PyProof.Rows L2

/-- the slots that give back what they hold: their numbers, the values at the entry -/
abbrev Io := List Nat × (Nat → V) × List (Addr × HO)
structure IoOk (io : Io) (S : Addr → Prop) (H : Hp) (σ : L2.St) : Prop where
  ix : ∀ j, j ∈ io.1 → σ[j]? = some (some (io.2.1 j))
  kp : ∀ q, q ∈ io.2.2 → S q.1 ∧ H q.1 = some q.2
theorem IoOk.stay {io : Io} {S S' : Addr → Prop} {H H' : Hp} {σ : L2.St} (h : IoOk io S H σ) (fr : ∀ b o, S b → H b = some o → H' b = some o) (su : ∀ b, S b → S' b) : IoOk io S' H' σ :=
  ⟨h.ix, fun q hq => ⟨su _ (h.kp q hq).1, fr _ _ (h.kp q hq).1 (h.kp q hq).2⟩⟩
structure Cl (K : PySem.W.Frag) (io : Io) (S : Addr → Prop) (H : Hp) (σ : L2.St) (env : Env) (fp : List Addr) : Prop where
  own : OwnE K S H env σ fp
  io : IoOk io S H σ
/-- the exception x, of class cls, with the own dict d -/
def XRel (K : PySem.W.Frag) (mg : Str → Option Value) (S : Addr → Prop) (H : Hp) (x : XV) (cls : Value) (d : Option Addr) : Prop :=
  ∃ (C dd : Addr) (fs : List (Str × V)), cls = .ref C ∧ mg x.c = some (.ref C) ∧ d = some dd ∧ S dd ∧ H dd = some (.xd fs) ∧ ∀ f p, x.fs.lookup f = some p → ∃ v, fs.lookup f = some v ∧ Own K S H p v []
abbrev Rl (α β : Type) := (Addr → Prop) → Hp → α → β → List Addr → Prop
abbrev RV (K : PySem.W.Frag) : Rl PV V := fun S H p v f => Own K S H p v f
abbrev RL (K : PySem.W.Frag) : Rl (List PV) (List V) := fun S H p v f => Owns K S H p v f
abbrev RB : Rl Bool Bool := fun _ _ b c f => c = b ∧ f = []
def Post {α β : Type} (rel : Rl α β) (X : Cx) (W : WX) (io : Io) (m : Bool) (S : Addr → Prop) (H : Hp) (σ : L2.St) (fp fb : List Addr) (r : R α) (Q : β → Hp → Prop) : Prop := match r with
  | .ok p env => ∀ v S' H' fv fp', rel S' H' p v fv → Cl X.K io S' H' σ env fp' → Good S' H' (fv ++ fp') → Step S H fb S' H' (fv ++ fp') → (m = false → L2.Same H H' ∧ fp' = fp) → Q v H'
  | .ex x env => ∀ cls d S' H' fp', XRel X.K X.mg S' H' x cls d → Cl X.K io S' H' σ env fp' → Good S' H' fp' → Step S H fb S' H' fp' → W cls d σ H'
  | .stk => False
def sem {α β : Type} (rel : Rl α β) (X : Cx) (W : WX) (io : Io) (m : Bool) (f : Env → R α) : L2.St → Hp → (β → Hp → Prop) → Prop := fun σ H Q =>
  ∃ S env fp, Cl X.K io S H σ env fp ∧ Good S H fp ∧ Post rel X W io m S H σ fp fp (f env) Q

structure New (S : Addr → Prop) (H : Hp) (S' : Addr → Prop) (H' : Hp) (f : List Addr) : Prop where
  same : L2.Same H H'
  su : ∀ a, S a → S' a
  sb : ∀ a, S' a → S a ∨ H a = none
  nf : ∀ a, a ∈ f → H a = none
  nd : f.Nodup
  dj : ∀ a, a ∈ f → ¬ S' a
  dm : ∀ a, S' a → H' a ≠ none
  al : ∀ a, a ∈ f → H' a ≠ none

section
variable {K : PySem.W.Frag} {io : Io} {S S' S1 S2 : Addr → Prop} {H H' H1 H2 : Hp} {σ : L2.St} {env env1 : Env} {f f1 f2 g fp fp' fp1 fp2 ft fv fb : List Addr} {X : Cx} {W : WX} {m m1 m2 : Bool}
theorem Good.right (G : Good S H (f ++ g)) : Good S H g := ⟨(List.nodup_append.mp G.nd).2.1, fun a h => G.dj a (List.mem_append_right _ h), G.dm, fun a h => G.al a (List.mem_append_right _ h)⟩
theorem Good.left (G : Good S H (f ++ g)) : Good S H f := ⟨(List.nodup_append.mp G.nd).1, fun a h => G.dj a (List.mem_append_left _ h), G.dm, fun a h => G.al a (List.mem_append_left _ h)⟩
theorem Good.apart (G : Good S H (f ++ g)) : ∀ a, a ∈ f → a ∈ g → False := fun a h1 h2 => (List.nodup_append.mp G.nd).2.2 a h1 a h2 rfl
theorem Same.ne {H H' : Hp} (s : L2.Same H H') : ∀ a, H a ≠ none → H' a ≠ none := fun a h => by
  cases e : H a with
  | none => exact absurd e h
  | some o => rw [s a o e]; simp
theorem New.step (n : New S H S' H' f) (fb : List Addr) : Step S H fb S' H' (f ++ fb) :=
  ⟨fun a o e _ => n.same a o e, n.su, fun a h => (n.sb a h).imp id .inl, fun a h => (List.mem_append.mp h).elim (fun z => .inr (n.nf a z)) .inl, Same.ne n.same⟩
theorem Step.owns (st : Step S H fp S1 H1 fp1) (G : Good S H (ft ++ fp)) {ps : List PV} {vs : List V} (T : Owns K S H ps vs ft) : Owns K S1 H1 ps vs ft :=
  Owns.stay (fun b o s e => st.fr b o e fun h => G.dj b (List.mem_append_right _ h) s) st.su ps vs ft (fun b o h e => st.fr b o e fun z => G.apart b h z) T
theorem Step.own (st : Step S H fp S1 H1 fp1) (G : Good S H (ft ++ fp)) {ps : PV} {vs : V} (T : Own K S H ps vs ft) : Own K S1 H1 ps vs ft :=
  Own.stay (fun b o s e => st.fr b o e fun h => G.dj b (List.mem_append_right _ h) s) st.su ps vs ft (fun b o h e => st.fr b o e fun z => G.apart b h z) T
theorem Step.good (st : Step S H fp S1 H1 (fv ++ fp1)) (G : Good S H (ft ++ fp)) (G1 : Good S1 H1 (fv ++ fp1)) : Good S1 H1 (fv ++ (ft ++ fp1)) := by
  have ap : ∀ a, a ∈ ft → a ∈ fv ++ fp1 → False := fun a h1 h2 => (st.fb a h2).elim (G.apart a h1) fun z => G.al a (List.mem_append_left _ h1) z
  refine ⟨?_, fun a h => ?_, G1.dm, fun a h => ?_⟩
  · refine List.nodup_append.mpr ⟨G1.left.nd, List.nodup_append.mpr ⟨G.left.nd, G1.right.nd, fun a h b h' e => ap a h (by subst e; exact List.mem_append_right _ h')⟩, fun a h b h' e => ?_⟩
    subst e
    rcases List.mem_append.mp h' with z | z
    · exact ap a z (List.mem_append_left _ h)
    · exact G1.apart a h z
  · rcases List.mem_append.mp h with z | z
    · exact G1.dj a (List.mem_append_left _ z)
    · rcases List.mem_append.mp z with z | z
      · intro s
        rcases st.sb a s with q | q | q
        · exact G.dj a (List.mem_append_left _ z) q
        · exact G.al a (List.mem_append_left _ z) q
        · exact G.apart a z q
      · exact G1.dj a (List.mem_append_right _ z)
  · rcases List.mem_append.mp h with z | z
    · exact G1.al a (List.mem_append_left _ z)
    · rcases List.mem_append.mp z with z | z
      · exact st.kp a (G.al a (List.mem_append_left _ z))
      · exact G1.al a (List.mem_append_right _ z)
theorem Step.wide (st : Step S H fp S1 H1 (fv ++ fp1)) : Step S H (ft ++ fp) S1 H1 (fv ++ (ft ++ fp1)) :=
  ⟨fun a o e n => st.fr a o e fun h => n (List.mem_append_right _ h), st.su, fun a h => (st.sb a h).imp id (Or.imp id (List.mem_append_right _)), fun a h => by
    rcases List.mem_append.mp h with z | z
    · exact (st.fb a (List.mem_append_left _ z)).imp (List.mem_append_right _) id
    · rcases List.mem_append.mp z with z | z
      · exact .inl (List.mem_append_left _ z)
      · exact (st.fb a (List.mem_append_right _ z)).imp (List.mem_append_right _) id, st.kp⟩
theorem Post.move {α β : Type} {rel : Rl α β} {r : R α} {Q : β → Hp → Prop} (h : Post rel X W io m S H σ fp fb r Q) (st : Step S H fb S1 H1 f1) (hs : m = false → L2.Same H H1 ∧ fp1 = fp) : Post rel X W io m S1 H1 σ fp1 f1 r Q := by
  cases r with
  | stk => exact h
  | ok p e => exact fun v S' H' fv fp' a b c d hm => h v S' H' fv fp' a b c (st.trans d) fun z => ⟨(hs z).1.trans (hm z).1, (hm z).2.trans (hs z).2⟩
  | ex x e => exact fun cls d S' H' fp' a b c z => h cls d S' H' fp' a b c (st.trans z)
theorem Post.bind {α β γ δ : Type} {rel1 : Rl α β} {rel2 : Rl γ δ} {f : Env → R α} {k : α → Env → R γ} {ps : List PV} {vs : List V} {Q : δ → Hp → Prop} {P : β → Hp → Prop}
    (C : Cl X.K io S H σ env fp) (T : Owns X.K S H ps vs ft) (G : Good S H (ft ++ fp)) (hm : m = false → m1 = false) (h : Post rel2 X W io m S H σ fp (ft ++ fp) ((f env).bind k) Q)
    (hk : ∀ p b S1 H1 env1 fv fp1, rel1 S1 H1 p b fv → Owns X.K S1 H1 ps vs ft → Cl X.K io S1 H1 σ env1 fp1 → Good S1 H1 (fv ++ (ft ++ fp1)) → f env = .ok p env1 → (∀ a, S a → S1 a) → (m1 = false → L2.Same H H1 ∧ fp1 = fp) →
      Post rel2 X W io m S1 H1 σ fp1 (fv ++ (ft ++ fp1)) (k p env1) Q → P b H1) : sem rel1 X W io m1 f σ H P := by
  refine ⟨S, env, fp, C, G.right, ?_⟩
  unfold Post
  cases e : f env with
  | stk => rw [e] at h; exact h
  | ex x env1 =>
    rw [e] at h
    exact fun cls d S' H' fp' a b c z => h cls d S' H' fp' a b c (z.sup fun x q => List.mem_append_right _ q)
  | ok p env1 =>
    rw [e] at h
    intro v S1 H1 fv fp1 r1 C1 G1 st hm1
    refine hk p v S1 H1 env1 fv fp1 r1 (st.owns G T) C1 (st.good G G1) e st.su hm1 (Post.move h st.wide fun z => hm1 (hm z))
theorem Post.fin {α β : Type} {rel : Rl α β} {p : α} {v : β} {Q : β → Hp → Prop} (C : Cl X.K io S H σ env fp) (G : Good S H (ft ++ fp)) (h : Post rel X W io m S H σ fp (ft ++ fp) (.ok p env) Q) (o : rel S' H' p v fv) (n : New S H S' H' fv) : Q v H' := by
  refine h v S' H' fv fp o ⟨OwnE.stay (fun b o _ e => n.same b o e) n.su _ _ _ (fun b o _ e => n.same b o e) C.own, C.io.stay (fun b o _ e => n.same b o e) n.su⟩ ⟨?_, fun a h => ?_, n.dm, fun a h => ?_⟩ ?_ fun _ => ⟨n.same, rfl⟩
  · exact List.nodup_append.mpr ⟨n.nd, G.right.nd, fun a h b h' e => by subst e; exact G.right.al a h' (n.nf a h)⟩
  · rcases List.mem_append.mp h with z | z
    · exact n.dj a z
    · exact fun s => (n.sb a s).elim (G.right.dj a z) (G.right.al a z)
  · rcases List.mem_append.mp h with z | z
    · exact n.al a z
    · exact Same.ne n.same a (G.right.al a z)
  · exact ((n.step (ft ++ fp)).sub fun a h => (List.mem_append.mp h).elim (fun z => List.mem_append_left _ z) fun z => List.mem_append_right _ (List.mem_append_right _ z))
theorem New.refl (dm : ∀ a, S a → H a ≠ none) : New S H S H [] := ⟨fun _ _ e => e, fun _ h => h, fun _ h => .inl h, fun _ h => (nomatch h), List.nodup_nil, fun _ h => (nomatch h), dm, fun _ h => (nomatch h)⟩
/-- a new object, frozen -/
theorem New.frz {a : Addr} {o : HO} (dm : ∀ a, S a → H a ≠ none) (ha : H a = none) : New S H (fun b => S b ∨ b = a) (upd H a o) [] where
  same := fun b u e => by rw [upd_ne (ne_of_none e ha)]; exact e
  su := fun _ h => .inl h
  sb := fun b h => h.imp id fun e => by rw [e]; exact ha
  nf := fun _ h => nomatch h
  nd := List.nodup_nil
  dj := fun _ h => nomatch h
  dm := fun b h => by
    by_cases e : b = a
    · rw [e, upd_same]; simp
    · rw [upd_ne e]; exact h.elim (dm b) fun z => absurd z e
  al := fun _ h => nomatch h
/-- a new object, owned; its parts owned -/
theorem New.own {a : Addr} {o : HO} (dm : ∀ a, S a → H a ≠ none) (ha : H a = none) : New S H S (upd H a o) [a] where
  same := fun b u e => by rw [upd_ne (ne_of_none e ha)]; exact e
  su := fun _ h => h
  sb := fun b h => .inl h
  nf := fun b h => by have e : b = a := by simpa using h
                      rw [e]; exact ha
  nd := by simp
  dj := fun b h s => by have e : b = a := by simpa using h
                        rw [e] at s; exact dm a s ha
  dm := fun b h => by
    by_cases e : b = a
    · rw [e, upd_same]; simp
    · rw [upd_ne e]; exact dm b h
  al := fun b h => by have e : b = a := by simpa using h
                      rw [e, upd_same]; simp
end

/-! ### judgements -/
def Still {α : Type} (m : Bool) (f : Env → R α) : Prop := m = false → ∀ env p env', f env = .ok p env' → env' = env
section
variable (X : Cx) (W : WX) (io : Io) (m : Bool)
structure Ev (e : Expr) (f : Env → R PV) : Prop where
  pe : PE X e (sem (RV X.K) X W io m f)
  st : Still m f
structure Et (e : Expr) (f : Env → R Bool) : Prop where
  pe : PT X e (sem RB X W io m f)
  st : Still m f
structure Ea (es : List Expr) (f : Env → R (List PV)) : Prop where
  pe : PA X es (sem (RL X.K) X W io m f)
  st : Still m f
end
def dFrz (f : Env → R PV) : Env → R PV := fun env => (f env).bind fun p e => .ok (frzP p) e
theorem _root_.L2.PE.imp {X : Cx} {e : Expr} {t u : TE} (h : PE X e t) (i : ∀ σ H Q, u σ H Q → t σ H Q) : PE X e u := ⟨fun pins s σ H Q I q => h.run pins s σ H Q I (i σ H Q q)⟩
theorem _root_.L2.PT.imp {X : Cx} {e : Expr} {t u : TT} (h : PT X e t) (i : ∀ σ H Q, u σ H Q → t σ H Q) : PT X e u := ⟨fun pins s σ H Q I q => h.run pins s σ H Q I (i σ H Q q)⟩
theorem _root_.L2.PA.imp {X : Cx} {e : List Expr} {t u : TA} (h : PA X e t) (i : ∀ σ H Q, u σ H Q → t σ H Q) : PA X e u := ⟨fun pos pins s σ H Q I q => h.run pos pins s σ H Q I (i σ H Q q)⟩
theorem _root_.L2.PS.imp {X : Cx} {e : Stmt} {t u : TS} (h : PS X e t) (i : ∀ D σ H, u D σ H → t D σ H) : PS X e u := ⟨fun pins s σ H Q I q => h.run pins s σ H Q I (i Q σ H q)⟩
theorem _root_.L2.PSs.imp {X : Cx} {e : List Stmt} {t u : TS} (h : PSs X e t) (i : ∀ D σ H, u D σ H → t D σ H) : PSs X e u := ⟨fun pins s σ H Q I q => h.run pins s σ H Q I (i Q σ H q)⟩
theorem Still.bind {α β : Type} {m m1 m2 : Bool} {f : Env → R α} {k : α → Env → R β} (h1 : Still m1 f) (h2 : ∀ p, Still m2 (k p)) (e1 : m = false → m1 = false) (e2 : m = false → m2 = false) : Still m (fun env => (f env).bind k) := by
  intro hm env p env' e
  have e : (f env).bind k = R.ok p env' := e
  cases q : f env with
  | stk => rw [q] at e; cases e
  | ex x e1 => rw [q] at e; cases e
  | ok a env1 =>
    rw [q] at e
    have z1 := h1 (e1 hm) env a env1 q
    have z2 := h2 a (e2 hm) env1 p env' e
    exact z2.trans z1
theorem Still.pure {α : Type} {m : Bool} {a : α} : Still m (fun env => R.ok a env) := fun _ env p env' e => by cases e; rfl
theorem Still.opt {α : Type} {m : Bool} {a : Option α} : Still m (fun env => match a with | some a => R.ok a env | none => .stk) := fun _ env p env' e => by
  cases a with
  | none => cases e
  | some a => cases e; rfl
theorem or_l {a b : Bool} (h : (a || b) = false) : a = false := by cases a <;> simp_all
theorem or_r {a b : Bool} (h : (a || b) = false) : b = false := by cases b <;> simp_all
section
variable {K : PySem.W.Frag} {X : Cx} {W : WX} {io : Io} {m m1 m2 m3 : Bool} {a b c : Expr} {f g h : Env → R PV} {pos : Pos}
theorem Still.frz (h : Still m f) : Still m (dFrz f) := Still.bind h (fun _ => Still.pure) (m2 := m) id id
theorem sem_frz {σ : L2.St} {H : Hp} {Q : VK} (h : sem (RV X.K) X W io m (dFrz f) σ H Q) : sem (RV X.K) X W io m f σ H Q := by
  obtain ⟨S, env, fp, C, G, h⟩ := h
  refine ⟨S, env, fp, C, G, ?_⟩
  unfold dFrz at h
  unfold Post at h ⊢
  cases e : f env with
  | stk => rw [e] at h; exact h
  | ex x env1 => rw [e] at h; exact h
  | ok p env1 =>
    rw [e] at h
    intro v S1 H1 fv fp1 o C1 G1 st hm
    refine h v (fun a => S1 a ∨ a ∈ fv) H1 [] fp1 (Own.frz p v fv (fun _ z => .inl z) (fun _ z => .inr z) o) ⟨OwnE.stay (fun _ _ _ e => e) (fun _ z => .inl z) _ _ _ (fun _ _ _ e => e) C1.own, C1.io.stay (fun _ _ _ e => e) (fun _ z => .inl z)⟩
      ⟨G1.right.nd, fun a h s => s.elim (G1.right.dj a h) fun z => G1.apart a z h, fun a s => s.elim (G1.dm a) fun z => G1.al a (List.mem_append_left _ z), G1.right.al⟩
      ⟨st.fr, fun a s => .inl (st.su a s), fun a s => s.elim (st.sb a) fun z => (st.fb a (List.mem_append_left _ z)).elim (fun q => .inr (.inr q)) fun q => .inr (.inl q), fun a s => st.fb a (List.mem_append_right _ s), st.kp⟩ hm
theorem Ev.frz (h : Ev X W io m a f) : Ev X W io m a (dFrz f) := ⟨h.pe.imp fun _ _ _ => sem_frz, h.st.frz⟩
theorem dFrz_nil {S : Addr → Prop} {H : Hp} {env env1 : Env} {p : PV} {v : V} {fv : List Addr} (e : dFrz f env = .ok p env1) (o : Own K S H p v fv) : fv = [] := by
  unfold dFrz at e
  cases q : f env with
  | stk => rw [q] at e; cases e
  | ex x _ => rw [q] at e; cases e
  | ok p0 _ =>
    rw [q] at e
    have z : p = frzP p0 := by cases e; rfl
    subst z
    exact o.frz_nil

/-! ### constants, names -/
theorem Owns.nil {S : Addr → Prop} {H : Hp} : Owns K S H [] [] [] := ⟨rfl, rfl⟩
def dC (p : PV) : Env → R PV := fun env => .ok p env
theorem ev_const {v : V} {p : PV} (h : PE X a (tC v)) (ho : ∀ S H, Own X.K S H p v []) : Ev X W io false a (dC p) := by
  refine ⟨h.imp fun σ H Q q => ?_, Still.pure⟩
  obtain ⟨S, env, fp, C, G, q⟩ := q
  exact Post.fin (ft := []) C G q (ho S H) (New.refl G.dm)
theorem ev_int {i j pos} : Ev X W io false (.Constant (.int i) j pos) (dC (.int i)) := ev_const pe_int fun _ _ => ⟨rfl, rfl⟩
theorem ev_bl {i j pos} : Ev X W io false (.Constant (.bool i) j pos) (dC (.bl i)) := ev_const pe_bl fun _ _ => ⟨rfl, rfl⟩
theorem ev_str {i j pos} : Ev X W io false (.Constant (.str i) j pos) (dC (.str i)) := ev_const pe_str fun _ _ => ⟨rfl, rfl⟩
theorem ev_non {j pos} : Ev X W io false (.Constant .none j pos) (dC .non) := ev_const pe_non fun _ _ => ⟨rfl, rfl⟩
theorem OwnE.get {S : Addr → Prop} {H : Hp} : ∀ {env : Env} {σ : L2.St} {fp : List Addr} {i : Nat} {p : PV}, OwnE K S H env σ fp → env[i]? = some (some p) → ∃ v f, σ[i]? = some (some v) ∧ Own K S H p v f ∧ ∀ a, a ∈ f → a ∈ fp
  | [], _, _, _, _, _, e => by simp at e
  | none :: es, σ, fp, 0, p, h, e => by simp at e
  | none :: es, σ, fp, i + 1, p, h, e => by
    obtain ⟨o, r, e2, q⟩ := h
    subst e2
    obtain ⟨v, f, h1, h2, h3⟩ := OwnE.get (i := i) q (by simpa using e)
    exact ⟨v, f, by simpa using h1, h2, h3⟩
  | some p :: es, σ, fp, 0, p', h, e => by
    obtain ⟨v, r, f1, f2, e2, e3, q, _⟩ := h
    subst e2
    simp at e
    subst e
    exact ⟨v, f1, rfl, q, fun a h => by rw [e3]; exact List.mem_append_left _ h⟩
  | some p :: es, σ, fp, i + 1, p', h, e => by
    obtain ⟨v, r, f1, f2, e2, e3, _, q⟩ := h
    subst e2
    obtain ⟨v, f, h1, h2, h3⟩ := OwnE.get (i := i) q (by simpa using e)
    exact ⟨v, f, by simpa using h1, h2, fun a h => by rw [e3]; exact List.mem_append_right _ (h3 a h)⟩
/-- a name that holds nothing owned -/
def isOwn : PV → Bool
  | .mls _ => true | .mdk _ _ => true | .mdt _ _ => true | _ => false
def dV (i : Nat) : Env → R PV := fun env => match env[i]? with
  | some (some p) => if isOwn p = true then .stk else .ok p env
  | _ => .stk
theorem Own.nonown {S : Addr → Prop} {H : Hp} {p : PV} {v : V} {f : List Addr} (h : Own K S H p v f) (e : isOwn p = false) : f = [] := by
  cases p <;> first
    | exact h.2
    | (obtain ⟨_, _, _, e, _⟩ := h; exact e)
    | cases e
theorem ev_var {i : Nat} {x : Str} (hN : X.N[i]? = some x) (hv : Vis X.env.scope x) (hd : (x == ("__debug__" : Str)) = false := by decide) (hcd : (x == ("__classdict__" : Str)) = false := by decide) : Ev X W io false (.Name x pos) (dV i) := by
  refine ⟨(pe_var hN hv hd hcd).imp fun σ H Q q => ?_, ?_⟩
  · obtain ⟨S, env, fp, C, G, q⟩ := q
    unfold dV at q
    split at q
    · next p e =>
      obtain ⟨v, f, h1, h2, h3⟩ := C.own.get e
      split at q
      · exact q.elim
      · next ne =>
        have z := h2.nonown (by simpa using ne)
        subst z
        exact ⟨v, h1, Post.fin (ft := []) C G q h2 (New.refl G.dm)⟩
    · exact q.elim
  · intro _ env p env' e
    unfold dV at e
    split at e
    · split at e
      · cases e
      · cases e; rfl
    · cases e
end
end L3

namespace L3
open PySem PySem.Spec PyProof.Rows L2

section
variable {K : PySem.W.Frag} {S S' : Addr → Prop} {H H' : Hp}
theorem Owns.one {p : PV} {v : V} (o : Own K S H p v []) : Owns K S H [p] [v] [] := ⟨v, [], [], [], rfl, rfl, o, rfl, rfl⟩
theorem Owns.cons {p : PV} {v : V} {ps : List PV} {vs : List V} {f : List Addr} (o : Own K S H p v []) (r : Owns K S H ps vs f) : Owns K S H (p :: ps) (v :: vs) f := ⟨v, vs, [], f, rfl, rfl, o, r⟩
theorem app_nil {f1 f2 : List Addr} (h : ([] : List Addr) = f1 ++ f2) : f1 = [] ∧ f2 = [] := by
  cases f1 with
  | nil => exact ⟨rfl, (show [] = f2 from h).symm⟩
  | cons _ _ => cases h
theorem Owns.inv {p : PV} {v : V} {ps : List PV} {vs : List V} (h : Owns K S H (p :: ps) (v :: vs) []) : Own K S H p v [] ∧ Owns K S H ps vs [] := by
  obtain ⟨v', r, f1, f2, e, e2, o, o2⟩ := h
  obtain ⟨z1, z2⟩ := app_nil e2
  subst z1 z2
  cases e
  exact ⟨o, o2⟩
theorem Owns.length : ∀ {ps : List PV} {vs : List V} {f : List Addr}, Owns K S H ps vs f → ps.length = vs.length
  | [], _, _, h => by rw [h.1]; rfl
  | p :: ps, _, _, h => by
    obtain ⟨v, r, f1, f2, e, _, _, o⟩ := h
    rw [e, List.length_cons, List.length_cons, Owns.length o]
theorem Owns.get : ∀ {ps : List PV} {vs : List V} {i : Nat} {p : PV}, Owns K S H ps vs [] → ps[i]? = some p → ∃ v, vs[i]? = some v ∧ Own K S H p v []
  | [], _, _, _, _, e => by simp at e
  | p :: ps, _, 0, q, h, e => by
    obtain ⟨v, r, f1, f2, e1, e2, o, _⟩ := h
    obtain ⟨rfl, _⟩ := app_nil e2
    subst e1
    simp at e
    subst e
    exact ⟨v, rfl, o⟩
  | p :: ps, _, i + 1, q, h, e => by
    obtain ⟨v, r, f1, f2, e1, e2, _, o⟩ := h
    obtain ⟨_, rfl⟩ := app_nil e2
    subst e1
    obtain ⟨v, a, b⟩ := Owns.get (i := i) o (by simpa using e)
    exact ⟨v, by simpa using a, b⟩
theorem Owns.append : ∀ {ps qs : List PV} {vs ws : List V}, Owns K S H ps vs [] → Owns K S H qs ws [] → Owns K S H (ps ++ qs) (vs ++ ws) []
  | [], _, _, _, h, h' => by rw [h.1]; exact h'
  | p :: ps, _, _, _, h, h' => by
    obtain ⟨v, r, f1, f2, e1, e2, o, o2⟩ := h
    obtain ⟨rfl, rfl⟩ := app_nil e2
    subst e1
    exact Owns.cons o (Owns.append o2 h')
theorem Owns.take : ∀ {ps : List PV} {vs : List V} (n : Nat), Owns K S H ps vs [] → Owns K S H (ps.take n) (vs.take n) []
  | _, _, 0, _ => ⟨rfl, rfl⟩
  | [], _, n + 1, h => by rw [h.1]; exact ⟨rfl, rfl⟩
  | p :: ps, _, n + 1, h => by
    obtain ⟨v, r, f1, f2, e1, e2, o, o2⟩ := h
    obtain ⟨rfl, rfl⟩ := app_nil e2
    subst e1
    exact Owns.cons o (Owns.take n o2)
theorem Owns.drop : ∀ {ps : List PV} {vs : List V} (n : Nat), Owns K S H ps vs [] → Owns K S H (ps.drop n) (vs.drop n) []
  | ps, _, 0, h => h
  | [], _, n + 1, h => by rw [h.1]; exact ⟨rfl, rfl⟩
  | p :: ps, _, n + 1, h => by
    obtain ⟨v, r, f1, f2, e1, e2, o, o2⟩ := h
    obtain ⟨rfl, rfl⟩ := app_nil e2
    subst e1
    exact Owns.drop n o2
theorem Owns.atI {ps : List PV} {vs : List V} {i : Int} {p : PV} (h : Owns K S H ps vs []) (e : L2.atI ps i = some p) : ∃ v, L2.atI vs i = some v ∧ Own K S H p v [] := by
  unfold L2.atI at e ⊢
  rw [← h.length]
  cases q : ixN ps.length i with
  | none => rw [q] at e; cases e
  | some j =>
    rw [q] at e
    exact h.get e
/-- a list of ints -/
def intsP : List PV → Option (List Int)
  | [] => some []
  | .int i :: r => (intsP r).map (i :: ·)
  | _ => none
theorem Owns.ints : ∀ {ps : List PV} {vs : List V} {ns : List Int}, Owns K S H ps vs [] → intsP ps = some ns → vs = ns.map V.int
  | [], _, _, h, e => by cases e; exact h.1
  | .int i :: r, _, ns, h, e => by
    obtain ⟨v, r', f1, f2, e1, e2, o, o2⟩ := h
    obtain ⟨rfl, rfl⟩ := app_nil e2
    unfold intsP at e
    cases q : intsP r with
    | none => rw [q] at e; cases e
    | some ms =>
      rw [q] at e
      cases e
      rw [e1, o.1, Owns.ints o2 q]
      rfl
  | .non :: _, _, _, _, e => by cases e
  | .bl _ :: _, _, _, _, e => by cases e
  | .str _ :: _, _, _, _, e => by cases e
  | .tup _ :: _, _, _, _, e => by cases e
  | .lst _ :: _, _, _, _, e => by cases e
  | .scr _ :: _, _, _, _, e => by cases e
  | .mls _ :: _, _, _, _, e => by cases e
  | .mdk _ _ :: _, _, _, _, e => by cases e
  | .mdt _ _ :: _, _, _, _, e => by cases e
  | .dck _ _ :: _, _, _, _, e => by cases e
  | .dct _ _ :: _, _, _, _, e => by cases e
/-- a list laid newly, owned -/
theorem new_mls {ps : List PV} {vs : List V} {a : Addr} {Q : VK} (dm : ∀ a, S a → H a ≠ none) (ha : H a = none) (o : Owns K S H ps vs [])
    (h : ∀ u S' H' f, Own K S' H' (.mls ps) u f → New S H S' H' f → Q u H') : Q (.ref a) (upd H a (.lst vs)) := by
  have n := New.own (o := .lst vs) dm ha
  exact h _ S _ [a] ⟨a, vs, [], rfl, rfl, upd_same, Owns.stay (fun b o _ e => n.same b o e) (fun _ z => z) _ _ _ (fun _ _ z => nomatch z) o⟩ n
theorem new_tup {ps : List PV} {vs : List V} {a : Addr} {Q : VK} (dm : ∀ a, S a → H a ≠ none) (ha : H a = none) (o : Owns K S H ps vs [])
    (h : ∀ u S' H' f, Own K S' H' (.tup ps) u f → New S H S' H' f → Q u H') : Q (.ref a) (upd H a (.tup vs)) := by
  have n := New.frz (o := .tup vs) dm ha
  exact h _ _ _ [] ⟨a, vs, rfl, rfl, ⟨.inr rfl, upd_same⟩, Owns.stay (fun b o _ e => n.same b o e) n.su _ _ _ (fun _ _ z => nomatch z) o⟩ n
end

/-! ### operations on values -/
def Prim2 (K : PySem.W.Frag) (r : R2) (F : PV → PV → Option PV) : Prop := ∀ (S : Addr → Prop) (H : Hp) (p q : PV) (v w : V) (z : PV) (Q : VK), (∀ a, S a → H a ≠ none) → Own K S H p v [] → Own K S H q w [] → F p q = some z →
  (∀ u S' H' f, Own K S' H' z u f → New S H S' H' f → Q u H') → r v w H Q
def PrimN (K : PySem.W.Frag) (r : List V → Hp → VK → Prop) (F : List PV → Option PV) : Prop := ∀ (S : Addr → Prop) (H : Hp) (ps : List PV) (vs : List V) (z : PV) (Q : VK), (∀ a, S a → H a ≠ none) → Owns K S H ps vs [] → F ps = some z →
  (∀ u S' H' f, Own K S' H' z u f → New S H S' H' f → Q u H') → r vs H Q
def o1 {α : Type} (o : Option α) (env : Env) : R α := match o with
  | some z => .ok z env
  | none => .stk
theorem Still.o1 {α : Type} {m : Bool} {a : Option α} : Still m (o1 a) := fun _ env p env' e => by
  cases a with
  | none => cases e
  | some a => cases e; rfl
def d2 (F : PV → PV → Option PV) (f g : Env → R PV) : Env → R PV := fun env => (dFrz f env).bind fun p e1 => (dFrz g e1).bind fun q e2 => o1 (F p q) e2
def t2 (F : PV → PV → Option Bool) (f g : Env → R PV) : Env → R Bool := fun env => (dFrz f env).bind fun p e1 => (dFrz g e1).bind fun q e2 => o1 (F p q) e2
section
variable {X : Cx} {W : WX} {io : Io} {m m1 m2 m3 : Bool} {a b c e : Expr} {es : List Expr} {f g h : Env → R PV} {fs : Env → R (List PV)} {pos : Pos}
theorem sem_2 {α β : Type} {rel : Rl α β} {k : PV → PV → Option α} {P : V → V → Hp → Prop} {σ : L2.St} {H : Hp} {Q : β → Hp → Prop}
    (q : sem rel X W io (m1 || m2) (fun env => (dFrz f env).bind fun p e1 => (dFrz g e1).bind fun q e2 => o1 (k p q) e2) σ H Q)
    (hP : ∀ (S : Addr → Prop) (H : Hp) (p q : PV) (v w : V) (z : α), (∀ a, S a → H a ≠ none) → Own X.K S H p v [] → Own X.K S H q w [] → k p q = some z → (∀ u S' H' f, rel S' H' z u f → New S H S' H' f → Q u H') → P v w H) :
    sem (RV X.K) X W io m1 (dFrz f) σ H fun x H1 => sem (RV X.K) X W io m2 (dFrz g) σ H1 fun y H2 => P x y H2 := by
  obtain ⟨S, env, fp, C, G, q⟩ := q
  refine Post.bind (ft := []) C Owns.nil G or_l q fun p x S1 H1 env1 fv fp1 o1' _ C1 G1 e1 _ _ h1 => ?_
  have z := dFrz_nil e1 o1'
  subst z
  refine Post.bind (ft := []) C1 (Owns.one o1') G1 or_r h1 fun p2 y S2 H2 env2 fv2 fp2 o2 T2 C2 G2 e2 _ _ h2 => ?_
  have z := dFrz_nil e2 o2
  subst z
  cases eF : k p p2 with
  | none => rw [eF] at h2; exact h2.elim
  | some z =>
    rw [eF] at h2
    exact hP S2 H2 p p2 x y z G2.dm T2.inv.1 o2 eF fun u S' H' fu ou n => Post.fin (ft := []) C2 G2 h2 ou n
theorem Still.two {α : Type} {k : PV → PV → Option α} (h1 : Still m1 f) (h2 : Still m2 g) : Still (m1 || m2) (fun env => (dFrz f env).bind fun p e1 => (dFrz g e1).bind fun q e2 => L3.o1 (k p q) e2) :=
  Still.bind (m1 := m1) (m2 := m1 || m2) h1.frz (fun _ => Still.bind (m1 := m2) (m2 := m1 || m2) h2.frz (fun _ => Still.o1) or_r id) or_l id
theorem ev_op {op : Operator} {r : R2} {F : PV → PV → Option PV} (ho : OpR X (binaryOp op) r) (hF : Prim2 X.K r F) (ha : Ev X W io m1 a f) (hb : Ev X W io m2 b g) : Ev X W io (m1 || m2) (.BinOp a op b pos) (d2 F f g) :=
  ⟨(pe_op ho ha.frz.pe hb.frz.pe).imp fun σ H Q q => sem_2 q fun S H p q v w z dm o1 o2 e k => hF S H p q v w z Q dm o1 o2 e k, Still.two ha.st hb.st⟩
theorem ev_cmp {op : CmpOp} {r : R2} {F : PV → PV → Option PV} (ho : OpR X (compareOp op) r) (hF : Prim2 X.K r F) (ha : Ev X W io m1 a f) (hb : Ev X W io m2 b g) (hm : behindInMarks op b = false) : Ev X W io (m1 || m2) (.Compare a [op] [b] pos) (d2 F f g) :=
  ⟨(pe_cmpR ho ha.frz.pe hb.frz.pe hm).imp fun σ H Q q => sem_2 q fun S H p q v w z dm o1 o2 e k => hF S H p q v w z Q dm o1 o2 e k, Still.two ha.st hb.st⟩
/-- a comparison as a test: F gives a truth -/
def blO (o : Option PV) : Option Bool := match o with
  | some (.bl b) => some b
  | _ => none
theorem et_cmp {op : CmpOp} {r : R2} {F : PV → PV → Option PV} (ho : OpR X (compareOp op) r) (hF : Prim2 X.K r F) (ha : Ev X W io m1 a f) (hb : Ev X W io m2 b g) (hm : behindInMarks op b = false) :
    Et X W io (m1 || m2) (.Compare a [op] [b] pos) (t2 (fun p q => blO (F p q)) f g) := by
  refine ⟨(pt_cmpR ho ha.frz.pe hb.frz.pe hm).imp fun σ H Q q => ?_, Still.two ha.st hb.st⟩
  refine sem_2 q fun S H p q v w z dm o1 o2 e k => ?_
  unfold blO at e
  split at e
  · next b eq =>
    cases e
    refine hF S H p q v w _ _ dm o1 o2 eq fun u S' H' f ou n => ?_
    obtain ⟨e1, e2⟩ := ou
    exact ⟨z, e1, k z S' H' f ⟨rfl, e2⟩ n⟩
  · cases e
/-- a value that is a truth, as a test -/
def tOf (f : Env → R PV) : Env → R Bool := fun env => (f env).bind fun p e => match p with
  | .bl b => .ok b e
  | _ => .stk
theorem et_val (ha : Ev X W io m a f) (he : ∀ whole, isTrue a X.env whole = (do let v ← whole; standAt a.pos; holding [v] (truthy v)) := by intro _; rfl) : Et X W io m a (tOf f) := by
  refine ⟨(pt_val ha.pe he).imp fun σ H Q q => ?_, Still.bind (m2 := m) ha.st (fun p => ?_) id id⟩
  · obtain ⟨S, env, fp, C, G, q⟩ := q
    refine Post.bind (ft := []) C Owns.nil G id q fun p x S1 H1 env1 fv fp1 o1' _ C1 G1 e1 _ _ h1 => ?_
    cases p with
    | bl b =>
      obtain ⟨e2, e3⟩ := o1'
      subst e3
      exact ⟨b, e2, Post.fin (ft := []) C1 G1 h1 ⟨rfl, rfl⟩ (New.refl G1.dm)⟩
    | _ => exact h1.elim
  · intro hm env q env' e
    cases p with
    | bl b => cases e; rfl
    | _ => cases e
/-! ### and, or, not -/
def tAndD (f g : Env → R Bool) : Env → R Bool := fun env => (f env).bind fun b e => if b = true then g e else .ok false e
def tOrD (f g : Env → R Bool) : Env → R Bool := fun env => (f env).bind fun b e => if b = true then .ok true e else g e
def tNotD (f : Env → R Bool) : Env → R Bool := fun env => (f env).bind fun b e => .ok (!b) e
structure Ew (X : Cx) (W : WX) (io : Io) (m : Bool) (e : Expr) (f : Env → R Bool) : Prop where
  pe : PW X e (sem RB X W io m f)
  st : Still m f
variable {tf tg : Env → R Bool}
theorem Ew.et (h : Ew X W io m a tf) : Et X W io m a tf := ⟨h.pe.pt, h.st⟩
theorem _root_.L2.PW.imp {X : Cx} {e : Expr} {t u : TT} (h : PW X e t) (i : ∀ σ H Q, u σ H Q → t σ H Q) : PW X e u := ⟨fun wh pins s σ H Q I q => h.run wh pins s σ H Q I (i σ H Q q)⟩
theorem ew_and1 (ha : Et X W io m a tf) : Ew X W io m (.BoolOp .And [a] pos) tf := ⟨pw_and1 ha.pe, ha.st⟩
theorem ew_or1 (ha : Et X W io m a tf) : Ew X W io m (.BoolOp .Or [a] pos) tf := ⟨pw_or1 ha.pe, ha.st⟩
theorem Still.ite {α : Type} {x y : Env → R α} {b : Bool} (h1 : Still m x) (h2 : Still m y) : Still m (fun e => if b = true then x e else y e) := by
  cases b
  · simpa using h2
  · simpa using h1
theorem Still.up {α : Type} {x : Env → R α} (h : Still m1 x) (e : m = false → m1 = false) : Still m x := fun hm => h (e hm)
/-- behind a test: the one way or the other, run from where the test ended -/
theorem sem_test {γ δ : Type} {rel : Rl γ δ} {k : Bool → Env → R γ} {σ : L2.St} {H : Hp} {Q : δ → Hp → Prop} {P : Bool → Hp → Prop} (q : sem rel X W io (m1 || m2) (fun env => (tf env).bind k) σ H Q)
    (hk : ∀ b H1, (∃ S1 env1 fp1, Cl X.K io S1 H1 σ env1 fp1 ∧ Good S1 H1 fp1 ∧ Post rel X W io m2 S1 H1 σ fp1 fp1 (k b env1) Q) → P b H1) : sem RB X W io m1 tf σ H P := by
  obtain ⟨S, env, fp, C, G, q⟩ := q
  refine Post.bind (ft := []) C Owns.nil G or_l q fun p x S1 H1 env1 fv fp1 o1' _ C1 G1 e1 _ hm h1 => ?_
  obtain ⟨e2, e3⟩ := o1'
  subst e2 e3
  refine hk x H1 ⟨S1, env1, fp1, C1, G1, ?_⟩
  cases e : k x env1 with
  | stk => rw [e] at h1; exact h1
  | ok p env2 =>
    rw [e] at h1
    intro v S' H' fv fp' a b c d hm2
    refine h1 v S' H' fv fp' a b c d fun z => ?_
    exact hm2 (or_r z)
  | ex x env2 => rw [e] at h1; exact h1
theorem ew_and (ha : Et X W io m1 a tf) (hb : Ew X W io m2 (.BoolOp .And (b :: es) pos) tg) : Ew X W io (m1 || m2) (.BoolOp .And (a :: b :: es) pos) (tAndD tf tg) := by
  refine ⟨(pw_and ha.pe hb.pe).imp fun σ H Q q => ?_, Still.bind ha.st (fun p => Still.ite hb.st (Still.up Still.pure id)) or_l or_r⟩
  refine sem_test q fun b H1 ⟨S1, env1, fp1, C1, G1, h1⟩ => ?_
  cases b with
  | true => rw [if_pos rfl] at h1 ⊢; exact ⟨S1, env1, fp1, C1, G1, h1⟩
  | false => rw [if_neg (by decide)] at h1 ⊢; exact Post.fin (ft := []) C1 G1 h1 ⟨rfl, rfl⟩ (New.refl G1.dm)
theorem ew_or (ha : Et X W io m1 a tf) (hb : Ew X W io m2 (.BoolOp .Or (b :: es) pos) tg) : Ew X W io (m1 || m2) (.BoolOp .Or (a :: b :: es) pos) (tOrD tf tg) := by
  refine ⟨(pw_or ha.pe hb.pe).imp fun σ H Q q => ?_, Still.bind ha.st (fun p => Still.ite (Still.up Still.pure id) hb.st) or_l or_r⟩
  refine sem_test q fun b H1 ⟨S1, env1, fp1, C1, G1, h1⟩ => ?_
  cases b with
  | true => rw [if_pos rfl] at h1 ⊢; exact Post.fin (ft := []) C1 G1 h1 ⟨rfl, rfl⟩ (New.refl G1.dm)
  | false => rw [if_neg (by decide)] at h1 ⊢; exact ⟨S1, env1, fp1, C1, G1, h1⟩
theorem et_not (ha : Et X W io m a tf) : Et X W io m (.UnaryOp .Not a pos) (tNotD tf) := by
  refine ⟨(pt_not ha.pe).imp fun σ H Q q => ?_, Still.bind (m2 := m) ha.st (fun p => Still.pure) id id⟩
  obtain ⟨S, env, fp, C, G, q⟩ := q
  refine Post.bind (ft := []) C Owns.nil G id q fun p x S1 H1 env1 fv fp1 o1' _ C1 G1 e1 _ hm h1 => ?_
  obtain ⟨e2, e3⟩ := o1'
  subst e2 e3
  exact Post.fin (ft := []) C1 G1 h1 ⟨rfl, rfl⟩ (New.refl G1.dm)
end
end L3

namespace L3
open PySem PySem.Spec PyProof.Rows L2
section
variable {X : Cx} {W : WX} {io : Io} {m m1 m2 m3 : Bool} {a b c e : Expr} {es : List Expr} {f g h : Env → R PV} {tf tg : Env → R Bool} {fs gs : Env → R (List PV)} {pos : Pos}
/-- the rest is run from where the first ended, by a weaker flag -/
theorem Post.low {α β : Type} {rel : Rl α β} {S : Addr → Prop} {H : Hp} {σ : L2.St} {fp fb : List Addr} {r : R α} {Q : β → Hp → Prop} (h : Post rel X W io m S H σ fp fb r Q) (hm : m = false → m2 = false) : Post rel X W io m2 S H σ fp fb r Q := by
  cases r with
  | stk => exact h
  | ok p e => exact fun v S' H' fv fp' a b c d z => h v S' H' fv fp' a b c d fun q => z (hm q)
  | ex x e => exact h
/-! ### and, or, not as values -/
def dAnd (f g : Env → R PV) : Env → R PV := fun env => (f env).bind fun p e => match p with
  | .bl b => if b = true then g e else .ok (.bl false) e
  | _ => .stk
def dOr (f g : Env → R PV) : Env → R PV := fun env => (f env).bind fun p e => match p with
  | .bl b => if b = true then .ok (.bl true) e else g e
  | _ => .stk
def dNot (f : Env → R PV) : Env → R PV := fun env => (f env).bind fun p e => match p with
  | .bl b => .ok (.bl !b) e
  | _ => .stk
theorem ev_one {op} (ha : Ev X W io m a f) : Ev X W io m (.BoolOp op [a] pos) f := ⟨pe_one ha.pe, ha.st⟩
theorem ev_and (ha : Ev X W io m1 a f) (hb : Ev X W io m2 (.BoolOp .And (b :: es) pos) g) : Ev X W io (m1 || m2) (.BoolOp .And (a :: b :: es) pos) (dAnd f g) := by
  refine ⟨(pe_and ha.pe hb.pe).imp fun σ H Q q => ?_, Still.bind (m2 := m1 || m2) ha.st (fun p => ?_) or_l id⟩
  · obtain ⟨S, env, fp, C, G, q⟩ := q
    refine Post.bind (ft := []) C Owns.nil G or_l q fun p x S1 H1 env1 fv fp1 o1' _ C1 G1 e1 _ hm h1 => ?_
    cases p with
    | bl k =>
      obtain ⟨e2, e3⟩ := o1'
      subst e2 e3
      refine ⟨k, rfl, ?_⟩
      cases k with
      | true => rw [if_pos rfl]; exact ⟨S1, env1, fp1, C1, G1, h1.low or_r⟩
      | false => rw [if_neg (by decide)]; exact Post.fin (ft := []) C1 G1 h1 ⟨rfl, rfl⟩ (New.refl G1.dm)
    | _ => exact h1.elim
  · cases p with
    | bl k => exact Still.ite (Still.up hb.st or_r) (Still.up Still.pure id)
    | _ => intro _ _ _ _ e; cases e
theorem ev_or (ha : Ev X W io m1 a f) (hb : Ev X W io m2 (.BoolOp .Or (b :: es) pos) g) : Ev X W io (m1 || m2) (.BoolOp .Or (a :: b :: es) pos) (dOr f g) := by
  refine ⟨(pe_or ha.pe hb.pe).imp fun σ H Q q => ?_, Still.bind (m2 := m1 || m2) ha.st (fun p => ?_) or_l id⟩
  · obtain ⟨S, env, fp, C, G, q⟩ := q
    refine Post.bind (ft := []) C Owns.nil G or_l q fun p x S1 H1 env1 fv fp1 o1' _ C1 G1 e1 _ hm h1 => ?_
    cases p with
    | bl k =>
      obtain ⟨e2, e3⟩ := o1'
      subst e2 e3
      refine ⟨k, rfl, ?_⟩
      cases k with
      | true => rw [if_pos rfl]; exact Post.fin (ft := []) C1 G1 h1 ⟨rfl, rfl⟩ (New.refl G1.dm)
      | false => rw [if_neg (by decide)]; exact ⟨S1, env1, fp1, C1, G1, h1.low or_r⟩
    | _ => exact h1.elim
  · cases p with
    | bl k => exact Still.ite (Still.up Still.pure id) (Still.up hb.st or_r)
    | _ => intro _ _ _ _ e; cases e
theorem ev_not (ha : Ev X W io m a f) : Ev X W io m (.UnaryOp .Not a pos) (dNot f) := by
  refine ⟨(pe_not ha.pe).imp fun σ H Q q => ?_, Still.bind (m2 := m) ha.st (fun p => ?_) id id⟩
  · obtain ⟨S, env, fp, C, G, q⟩ := q
    refine Post.bind (ft := []) C Owns.nil G id q fun p x S1 H1 env1 fv fp1 o1' _ C1 G1 e1 _ hm h1 => ?_
    cases p with
    | bl k =>
      obtain ⟨e2, e3⟩ := o1'
      subst e2 e3
      exact ⟨k, rfl, Post.fin (ft := []) C1 G1 h1 ⟨rfl, rfl⟩ (New.refl G1.dm)⟩
    | _ => exact h1.elim
  · cases p with
    | bl k => exact Still.pure
    | _ => intro _ _ _ _ e; cases e
/-- a if t else b -/
def dIf (t : Env → R Bool) (f g : Env → R PV) : Env → R PV := fun env => (t env).bind fun b e => if b = true then f e else g e
theorem ev_if (hc : Et X W io m1 c tf) (ha : Ev X W io m2 a f) (hb : Ev X W io m3 b g) : Ev X W io (m1 || (m2 || m3)) (.IfExp c a b pos) (dIf tf f g) := by
  refine ⟨(pe_ifExp hc.pe ha.pe hb.pe).imp fun σ H Q q => ?_, Still.bind (m2 := m2 || m3) hc.st (fun p => Still.ite (Still.up ha.st or_l) (Still.up hb.st or_r)) or_l or_r⟩
  refine sem_test q fun b H1 ⟨S1, env1, fp1, C1, G1, h1⟩ => ?_
  cases b with
  | true => rw [if_pos rfl] at h1 ⊢; exact ⟨S1, env1, fp1, C1, G1, h1.low or_l⟩
  | false => rw [if_neg (by decide)] at h1 ⊢; exact ⟨S1, env1, fp1, C1, G1, h1.low or_r⟩
/-- a op b op' c -/
def dChain (F F' : PV → PV → Option PV) (f g h : Env → R PV) : Env → R PV := fun env => (dFrz f env).bind fun p e1 => (dFrz g e1).bind fun q e2 => match blO (F p q) with
  | some true => (dFrz h e2).bind fun z e3 => o1 (F' q z) e3
  | some false => .ok (.bl false) e2
  | none => .stk
theorem sem_chain {r r' : R2} {F F' : PV → PV → Option PV} (hF : Prim2 X.K r F) (hF' : Prim2 X.K r' F') {σ : L2.St} {H : Hp} {Q : VK} (q : sem (RV X.K) X W io (m1 || (m2 || m3)) (dChain F F' f g h) σ H Q) :
    tChain r r' (sem (RV X.K) X W io m1 (dFrz f)) (sem (RV X.K) X W io m2 (dFrz g)) (sem (RV X.K) X W io m3 (dFrz h)) σ H Q := by
  obtain ⟨S, env, fp, C, G, q⟩ := q
  refine Post.bind (ft := []) C Owns.nil G or_l q fun p x S1 H1 env1 fv fp1 o1' _ C1 G1 e1 _ _ h1 => ?_
  have z := dFrz_nil e1 o1'
  subst z
  refine Post.bind (ft := []) C1 (Owns.one o1') G1 (fun q => or_l (or_r q)) h1 fun p2 y S2 H2 env2 fv2 fp2 o2 T2 C2 G2 e2 _ _ h2 => ?_
  have z := dFrz_nil e2 o2
  subst z
  cases eF : F p p2 with
  | none => rw [eF] at h2; exact h2.elim
  | some z =>
    rw [eF] at h2
    cases z with
    | bl k =>
      refine hF S2 H2 p p2 x y _ _ G2.dm T2.inv.1 o2 eF fun u S' H' fu ou n => ?_
      obtain ⟨eu, ef⟩ := ou
      subst eu ef
      refine ⟨k, rfl, ?_⟩
      have C3 : Cl X.K io S' H' σ env2 fp2 := ⟨OwnE.stay (fun b o _ e => n.same b o e) n.su _ _ _ (fun b o _ e => n.same b o e) C2.own, C2.io.stay (fun b o _ e => n.same b o e) n.su⟩
      have G3 : Good S' H' fp2 := ⟨G2.right.right.nd, fun a h s => (n.sb a s).elim (G2.right.right.dj a h) (G2.right.right.al a h), n.dm, fun a h => Same.ne n.same a (G2.right.right.al a h)⟩
      have h3 := Post.move h2 ((n.step fp2).sub (fp2 := fp2) fun a h => h) (fp1 := fp2) fun _ => ⟨n.same, rfl⟩
      cases k with
      | true =>
        rw [if_pos rfl]
        refine Post.bind (ft := []) C3 (Owns.one (Own.stay (fun b o _ e => n.same b o e) n.su _ _ _ (fun b o _ e => n.same b o e) o2)) G3 (fun q => or_r (or_r q)) h3 fun p3 y3 S4 H4 env4 fv4 fp4 o4 T4 C4 G4 e4 _ _ h4 => ?_
        have z := dFrz_nil e4 o4
        subst z
        cases eF2 : F' p2 p3 with
        | none => rw [eF2] at h4; exact h4.elim
        | some z =>
          rw [eF2] at h4
          exact hF' S4 H4 p2 p3 y y3 z Q G4.dm T4.inv.1 o4 eF2 fun u S' H' fu ou n => Post.fin (ft := []) C4 G4 h4 ou n
      | false =>
        rw [if_neg (by decide)]
        exact Post.fin (ft := []) C3 G3 h3 ⟨rfl, rfl⟩ (New.refl n.dm)
    | _ => exact h2.elim
theorem Still.chain {F F' : PV → PV → Option PV} (hf : Still m1 f) (hg : Still m2 g) (hh : Still m3 h) : Still (m1 || (m2 || m3)) (dChain F F' f g h) :=
  Still.bind (m2 := m1 || (m2 || m3)) hf.frz (fun p => Still.bind (m2 := m1 || (m2 || m3)) hg.frz (fun q => by
    cases blO (F p q) with
    | none => intro _ _ _ _ e; cases e
    | some k =>
      cases k with
      | true => exact Still.bind (m2 := m1 || (m2 || m3)) hh.frz (fun z => Still.o1) (fun q => or_r (or_r q)) id
      | false => exact Still.pure) (fun q => or_l (or_r q)) id) or_l id
theorem ev_chain {op op' : CmpOp} {r r' : R2} {F F' : PV → PV → Option PV} (ho : OpR X (compareOp op) r) (hF : Prim2 X.K r F) (ho' : OpR X (compareOp op') r') (hF' : Prim2 X.K r' F') (ha : Ev X W io m1 a f) (hb : Ev X W io m2 b g) (hc : Ev X W io m3 c h)
    (hm : lastMarks [op, op'] [b, c] = false := by with_unfolding_all rfl) : Ev X W io (m1 || (m2 || m3)) (.Compare a [op, op'] [b, c] pos) (dChain F F' f g h) :=
  ⟨(pe_chain ho ho' ha.frz.pe hb.frz.pe hc.frz.pe hm).imp fun σ H Q q => sem_chain hF hF' q, Still.chain ha.st hb.st hc.st⟩
theorem et_chain {op op' : CmpOp} {r r' : R2} {F F' : PV → PV → Option PV} (ho : OpR X (compareOp op) r) (hF : Prim2 X.K r F) (ho' : OpR X (compareOp op') r') (hF' : Prim2 X.K r' F') (ha : Ev X W io m1 a f) (hb : Ev X W io m2 b g) (hc : Ev X W io m3 c h)
    (hm : lastMarks [op, op'] [b, c] = false := by with_unfolding_all rfl) : Et X W io (m1 || (m2 || m3)) (.Compare a [op, op'] [b, c] pos) (tOf (dChain F F' f g h)) := by
  refine ⟨(pt_chain ho ho' ha.frz.pe hb.frz.pe hc.frz.pe hm).imp fun σ H Q q => ?_, Still.bind (m2 := m1 || (m2 || m3)) (Still.chain ha.st hb.st hc.st) (fun p => ?_) id id⟩
  · refine sem_chain hF hF' ?_
    obtain ⟨S, env, fp, C, G, q⟩ := q
    refine Post.bind (ft := []) C Owns.nil G id q fun p x S1 H1 env1 fv fp1 o1' _ C1 G1 e1 _ hm h1 => ?_
    cases p with
    | bl k =>
      obtain ⟨e2, e3⟩ := o1'
      subst e2 e3
      exact ⟨k, rfl, Post.fin (ft := []) C1 G1 h1 ⟨rfl, rfl⟩ (New.refl G1.dm)⟩
    | _ => exact h1.elim
  · cases p with
    | bl k => exact Still.pure
    | _ => intro _ _ _ _ e; cases e

/-! ### arguments -/
def dNil : Env → R (List PV) := fun env => .ok [] env
def dCons (f : Env → R PV) (g : Env → R (List PV)) : Env → R (List PV) := fun env => (dFrz f env).bind fun p e1 => (g e1).bind fun ps e2 => .ok (p :: ps) e2
/-- with parts that may be owned -/
def dConsO (f : Env → R PV) (g : Env → R (List PV)) : Env → R (List PV) := fun env => (f env).bind fun p e1 => (g e1).bind fun ps e2 => .ok (p :: ps) e2
structure Ef (X : Cx) (W : WX) (io : Io) (m : Bool) (es : List Expr) (f : Env → R (List PV)) : Prop where
  pe : PA X es (sem (RL X.K) X W io m f)
  st : Still m f
  nf : ∀ env ps e, f env = .ok ps e → ∀ K S H vs fv, Owns K S H ps vs fv → fv = []
  ln : ∀ env ps e, f env = .ok ps e → ps.length = es.length
structure Eo (X : Cx) (W : WX) (io : Io) (m : Bool) (es : List Expr) (f : Env → R (List PV)) : Prop where
  pe : PA X es (sem (RL X.K) X W io m f)
  st : Still m f
  ln : ∀ env ps e, f env = .ok ps e → ps.length = es.length
theorem sem_nil {σ : L2.St} {H : Hp} {Q : List V → Hp → Prop} (q : sem (RL X.K) X W io false dNil σ H Q) : tNil σ H Q := by
  obtain ⟨S, env, fp, C, G, q⟩ := q
  exact Post.fin (ft := []) C G q Owns.nil (New.refl G.dm)
theorem ef_nil : Ef X W io false [] dNil := ⟨pa_nil.imp fun σ H Q q => sem_nil q, Still.pure, fun env ps e h K S H vs fv o => by cases h; exact o.2, fun env ps e h => by cases h; rfl⟩
theorem eo_nil : Eo X W io false [] dNil := ⟨pa_nil.imp fun σ H Q q => sem_nil q, Still.pure, fun env ps e h => by cases h; rfl⟩
theorem sem_cons {σ : L2.St} {H : Hp} {Q : List V → Hp → Prop} (q : sem (RL X.K) X W io (m1 || m2) (dConsO f fs) σ H Q) : tCons (sem (RV X.K) X W io m1 f) (sem (RL X.K) X W io m2 fs) σ H Q := by
  obtain ⟨S, env, fp, C, G, q⟩ := q
  refine Post.bind (ft := []) C Owns.nil G or_l q fun p x S1 H1 env1 fv fp1 o1' _ C1 G1 e1 _ _ h1 => ?_
  have T1 : Owns X.K S1 H1 [p] [x] fv := ⟨x, [], fv, [], rfl, (List.append_nil fv).symm, o1', rfl, rfl⟩
  refine Post.bind (ft := fv) C1 T1 G1 or_r h1 fun ps xs S2 H2 env2 fv2 fp2 o2 T2 C2 G2 e2 _ _ h2 => ?_
  obtain ⟨x', r, f1, f2, e3, e4, o3, o4, e5⟩ := T2
  subst e5
  rw [List.append_nil] at e4
  subst e4
  have e6 : x = x' := by cases e3; rfl
  subst e6
  refine h2 (x :: xs) S2 H2 (fv ++ fv2) fp2 ⟨x, xs, fv, fv2, rfl, rfl, o3, o2⟩ C2 ?_ ?_ fun _ => ⟨fun _ _ e => e, rfl⟩
  · have G3 : Good S2 H2 (fv2 ++ (fv ++ fp2)) := G2
    refine ⟨?_, fun a h => G3.dj a ?_, G3.dm, fun a h => G3.al a ?_⟩
    · have nd := G3.nd
      have p : (fv2 ++ (fv ++ fp2)).Perm (fv ++ fv2 ++ fp2) := by
        rw [List.append_assoc]
        exact List.perm_append_comm_assoc fv2 fv fp2
      exact p.nodup_iff.mp nd
    · simp only [List.mem_append] at h ⊢
      rcases h with (h | h) | h
      · exact .inr (.inl h)
      · exact .inl h
      · exact .inr (.inr h)
    · simp only [List.mem_append] at h ⊢
      rcases h with (h | h) | h
      · exact .inr (.inl h)
      · exact .inl h
      · exact .inr (.inr h)
  · refine Step.refl.sub fun a h => ?_
    simp only [List.mem_append] at h ⊢
    rcases h with (h | h) | h
    · exact .inr (.inl h)
    · exact .inl h
    · exact .inr (.inr h)
theorem Still.cons (h1 : Still m1 f) (h2 : Still m2 fs) : Still (m1 || m2) (dConsO f fs) := Still.bind (m2 := m1 || m2) h1 (fun _ => Still.bind (m2 := m1 || m2) h2 (fun _ => Still.pure) or_r id) or_l id
theorem dConsO_inv {env e : Env} {ps : List PV} (h : dConsO f fs env = .ok ps e) : ∃ p e1 qs, f env = .ok p e1 ∧ fs e1 = .ok qs e ∧ ps = p :: qs := by
  unfold dConsO at h
  cases q : f env with
  | stk => rw [q] at h; cases h
  | ex x _ => rw [q] at h; cases h
  | ok p e1 =>
    rw [q] at h
    have h : (fs e1).bind (fun ps e2 => R.ok (p :: ps) e2) = .ok ps e := h
    cases q2 : fs e1 with
    | stk => rw [q2] at h; cases h
    | ex x _ => rw [q2] at h; cases h
    | ok qs e2 =>
      rw [q2] at h
      cases h
      exact ⟨p, e1, qs, rfl, q2, rfl⟩
theorem eo_cons (ha : Ev X W io m1 a f) (hr : Eo X W io m2 es fs) (hs : starEach (a :: es) X.env = (false, eval a X.env) :: starEach es X.env := by rfl) : Eo X W io (m1 || m2) (a :: es) (dConsO f fs) :=
  ⟨(pa_cons ha.pe hr.pe hs).imp fun σ H Q q => sem_cons q, Still.cons ha.st hr.st, fun env ps e h => by
    obtain ⟨p, e1, qs, h1, h2, h3⟩ := dConsO_inv h
    rw [h3, List.length_cons, List.length_cons, hr.ln _ _ _ h2]⟩
theorem ef_cons (ha : Ev X W io m1 a f) (hr : Ef X W io m2 es fs) (hs : starEach (a :: es) X.env = (false, eval a X.env) :: starEach es X.env := by rfl) : Ef X W io (m1 || m2) (a :: es) (dCons f fs) :=
  ⟨(pa_cons ha.frz.pe hr.pe hs).imp fun σ H Q q => sem_cons (f := dFrz f) q, Still.cons ha.frz.st hr.st, fun env ps e h K S H vs fv o => by
    obtain ⟨p, e1, qs, h1, h2, h3⟩ := dConsO_inv (f := dFrz f) h
    subst h3
    obtain ⟨v, r, f1, f2, e3, e4, o3, o4⟩ := o
    rw [e4, dFrz_nil h1 o3, hr.nf _ _ _ h2 _ _ _ _ _ o4]
    rfl, fun env ps e h => by
    obtain ⟨p, e1, qs, h1, h2, h3⟩ := dConsO_inv (f := dFrz f) h
    rw [h3, List.length_cons, List.length_cons, hr.ln _ _ _ h2]⟩
/-! ### displays -/
def dTup (fs : Env → R (List PV)) : Env → R PV := fun env => (fs env).bind fun ps e => .ok (.tup ps) e
def dLst (fs : Env → R (List PV)) : Env → R PV := fun env => (fs env).bind fun ps e => .ok (.mls ps) e
theorem small_line {n : Nat} (h : n ≤ 1000) : n ≤ sizeLine := Nat.le_trans h (by decide)
theorem ev_tup {x1} (ha : Ef X W io m es fs) (hn : es.length ≤ 1000 := by decide) : Ev X W io m (.Tuple es x1 pos) (dTup fs) := by
  refine ⟨(pe_tup ha.pe).imp fun σ H Q q => ?_, Still.bind (m2 := m) ha.st (fun _ => Still.pure) id id⟩
  obtain ⟨S, env, fp, C, G, q⟩ := q
  refine Post.bind (ft := []) C Owns.nil G id q fun ps xs S1 H1 env1 fv fp1 o1' _ C1 G1 e1 _ hm h1 => ?_
  have z := ha.nf _ _ _ e1 _ _ _ _ _ o1'
  subst z
  refine ⟨by rw [← o1'.length, ha.ln _ _ _ e1]; exact small_line hn, fun p hp => new_tup G1.dm hp o1' fun u S' H' f ou n => Post.fin (ft := []) C1 G1 h1 ou n⟩
theorem ev_lst (ha : Eo X W io m es fs) (hn : es.length ≤ 1000 := by decide) : Ev X W io m (.List es pos) (dLst fs) := by
  refine ⟨(pe_lst ha.pe).imp fun σ H Q q => ?_, Still.bind (m2 := m) ha.st (fun _ => Still.pure) id id⟩
  obtain ⟨S, env, fp, C, G, q⟩ := q
  refine Post.bind (ft := []) C Owns.nil G id q fun ps xs S1 H1 env1 fv fp1 o1' _ C1 G1 e1 _ hm h1 => ?_
  refine ⟨by rw [← o1'.length, ha.ln _ _ _ e1]; exact small_line hn, fun p hp => ?_⟩
  have s : L2.Same H1 (upd H1 p (.lst xs)) := fun b u e => by rw [upd_ne (ne_of_none e hp)]; exact e
  have G2 : Good S1 H1 (fv ++ fp1) := G1
  have al : ∀ a, a ∈ p :: (fv ++ fp1) → upd H1 p (.lst xs) a ≠ none := fun a h => by
    by_cases e : a = p
    · rw [e, upd_same]; simp
    · exact Same.ne s a (G2.al a ((List.mem_cons.mp h).resolve_left e))
  refine h1 (.ref p) S1 (upd H1 p (.lst xs)) (p :: fv) fp1 ⟨p, xs, fv, rfl, rfl, upd_same, Owns.stay (fun b o _ e => s b o e) (fun _ h => h) _ _ _ (fun b o _ e => s b o e) o1'⟩
    ⟨OwnE.stay (fun b o _ e => s b o e) (fun _ h => h) _ _ _ (fun b o _ e => s b o e) C1.own, C1.io.stay (fun b o _ e => s b o e) (fun _ h => h)⟩ ⟨List.nodup_cons.mpr ⟨fun h => G2.al p h hp, G2.nd⟩, fun a h => ?_, fun a h => Same.ne s a (G2.dm a h), al⟩ ?_ fun _ => ⟨s, rfl⟩
  · rcases List.mem_cons.mp h with rfl | h
    · exact fun z => G2.dm _ z hp
    · exact G2.dj a h
  · refine ⟨fun a o e _ => s a o e, fun _ h => h, fun _ h => .inl h, fun a h => ?_, fun a h => Same.ne s a h⟩
    rcases List.mem_cons.mp h with rfl | h
    · exact .inr hp
    · exact .inl h
/-! ### calls of built-ins by value -/
def dN (F : List PV → Option PV) (fs : Env → R (List PV)) : Env → R PV := fun env => (fs env).bind fun ps e => o1 (F ps) e
theorem sem_N {r : List V → Hp → VK → Prop} {F : List PV → Option PV} (hF : PrimN X.K r F) (nf : ∀ env ps e, fs env = .ok ps e → ∀ K S H vs fv, Owns K S H ps vs fv → fv = []) {σ : L2.St} {H : Hp} {Q : VK}
    (q : sem (RV X.K) X W io m (dN F fs) σ H Q) : sem (RL X.K) X W io m fs σ H fun vs H1 => r vs H1 Q := by
  obtain ⟨S, env, fp, C, G, q⟩ := q
  refine Post.bind (ft := []) C Owns.nil G id q fun ps xs S1 H1 env1 fv fp1 o1' _ C1 G1 e1 _ hm h1 => ?_
  have z := nf _ _ _ e1 _ _ _ _ _ o1'
  subst z
  cases eF : F ps with
  | none => rw [eF] at h1; exact h1.elim
  | some z =>
    rw [eF] at h1
    exact hF S1 H1 ps xs z Q G1.dm o1' eF fun u S' H' fu ou n => Post.fin (ft := []) C1 G1 h1 ou n
theorem Still.N {F : List PV → Option PV} (h : Still m fs) : Still m (dN F fs) := Still.bind (m2 := m) h (fun _ => Still.o1) id id
theorem ev_callB {x : Str} {id : String} {p : Pos} {r : List V → Hp → VK → Prop} {F : List PV → Option PV} (hc : CallR X (.builtin id) r) (hF : PrimN X.K r F) (hg : Gl X x) (hm : X.mg x = none) (hv : bootBuiltins x = some (.builtin id)) (ha : Ef X W io m (e :: es) fs)
    (hn : x ≠ "__name__" := by decide) (hdb : (x == ("__debug__" : Str)) = false := by decide)
    (he : starEach (e :: es) X.env = (false, eval e X.env) :: starEach es X.env := by rfl) (hpl : (backTo pos (starEach es X.env)).any (·.1) = false := by rfl) : Ev X W io m (.Call (.Name x p) (e :: es) [] pos) (dN F fs) :=
  ⟨(pe_callB hc hg hm hv ha.pe hn hdb he hpl).imp fun σ H Q q => sem_N hF ha.nf q, Still.N ha.st⟩
theorem ev_callTy {x : Str} {T : String} {p : Pos} {r : List V → Hp → VK → Prop} {F : List PV → Option PV} (hc : CallR X (.type T) r) (hF : PrimN X.K r F) (hg : Gl X x) (hm : X.mg x = none) (hv : bootBuiltins x = some (.type T)) (ha : Ef X W io m (e :: es) fs)
    (hn : x ≠ "__name__" := by decide) (hdb : (x == ("__debug__" : Str)) = false := by decide)
    (he : starEach (e :: es) X.env = (false, eval e X.env) :: starEach es X.env := by rfl) (hpl : (backTo pos (starEach es X.env)).any (·.1) = false := by rfl) : Ev X W io m (.Call (.Name x p) (e :: es) [] pos) (dN F fs) :=
  ⟨(pe_callTy hc hg hm hv ha.pe hn hdb he hpl).imp fun σ H Q q => sem_N hF ha.nf q, Still.N ha.st⟩
end
end L3

namespace L3
open PySem PySem.Spec PyProof.Rows L2
/-! ### slots taken out, put back -/
section
variable {K : PySem.W.Frag} {S S' : Addr → Prop} {H H' : Hp}
theorem OwnE.length : ∀ {env : Env} {σ : L2.St} {f : List Addr}, OwnE K S H env σ f → env.length = σ.length
  | [], _, _, h => by rw [h.1]; rfl
  | none :: es, _, _, h => by
    obtain ⟨o, r, e, q⟩ := h
    rw [e, List.length_cons, List.length_cons, OwnE.length q]
  | some p :: es, _, _, h => by
    obtain ⟨v, r, f1, f2, e, _, _, q⟩ := h
    rw [e, List.length_cons, List.length_cons, OwnE.length q]
theorem OwnE.take : ∀ {env : Env} {σ : L2.St} {fp : List Addr} {i : Nat} {p : PV}, OwnE K S H env σ fp → env[i]? = some (some p) →
    ∃ v f1 f2, σ[i]? = some (some v) ∧ Own K S H p v f1 ∧ OwnE K S H (env.set i none) σ f2 ∧ fp.Perm (f1 ++ f2)
  | [], _, _, _, _, _, e => by simp at e
  | none :: es, σ, fp, 0, p, h, e => by simp at e
  | none :: es, σ, fp, i + 1, p, h, e => by
    obtain ⟨o, r, e2, q⟩ := h
    subst e2
    obtain ⟨v, f1, f2, h1, h2, h3, h4⟩ := OwnE.take (i := i) q (by simpa using e)
    exact ⟨v, f1, f2, by simpa using h1, h2, ⟨o, r, rfl, h3⟩, h4⟩
  | some p :: es, σ, fp, 0, p', h, e => by
    obtain ⟨v, r, f1, f2, e2, e3, q, q2⟩ := h
    subst e2 e3
    simp at e
    subst e
    exact ⟨v, f1, f2, rfl, q, ⟨some v, r, rfl, q2⟩, List.Perm.refl _⟩
  | some p :: es, σ, fp, i + 1, p', h, e => by
    obtain ⟨v, r, f1, f2, e2, e3, q, q2⟩ := h
    subst e2 e3
    obtain ⟨v', g1, g2, h1, h2, h3, h4⟩ := OwnE.take (i := i) q2 (by simpa using e)
    refine ⟨v', g1, f1 ++ g2, by simpa using h1, h2, ⟨v, r, f1, g2, rfl, rfl, q, h3⟩, ?_⟩
    exact (List.Perm.append_left f1 h4).trans (List.perm_append_comm_assoc f1 g1 g2)
theorem OwnE.put : ∀ {env : Env} {σ : L2.St} {f2 f1 : List Addr} {i : Nat} {p : PV} {v : V}, OwnE K S H env σ f2 → env[i]? = some none → σ[i]? = some (some v) → Own K S H p v f1 →
    ∃ f', OwnE K S H (env.set i (some p)) σ f' ∧ f'.Perm (f1 ++ f2)
  | [], _, _, _, _, _, _, _, e, _, _ => by simp at e
  | none :: es, σ, f2, f1, 0, p, v, h, e, e1, o => by
    obtain ⟨o', r, e2, q⟩ := h
    subst e2
    simp at e1
    subst e1
    exact ⟨f1 ++ f2, ⟨v, r, f1, f2, rfl, rfl, o, q⟩, List.Perm.refl _⟩
  | none :: es, σ, f2, f1, i + 1, p, v, h, e, e1, o => by
    obtain ⟨o', r, e2, q⟩ := h
    subst e2
    obtain ⟨f', h1, h2⟩ := OwnE.put (i := i) q (by simpa using e) (by simpa using e1) o
    exact ⟨f', ⟨o', r, rfl, h1⟩, h2⟩
  | some p' :: es, σ, f2, f1, 0, p, v, h, e, e1, o => by simp at e
  | some p' :: es, σ, f2, f1, i + 1, p, v, h, e, e1, o => by
    obtain ⟨v', r, g1, g2, e2, e3, q, q2⟩ := h
    subst e2 e3
    obtain ⟨f', h1, h2⟩ := OwnE.put (i := i) q2 (by simpa using e) (by simpa using e1) o
    refine ⟨g1 ++ f', ⟨v', r, g1, f', rfl, rfl, q, h1⟩, ?_⟩
    exact (List.Perm.append_left g1 h2).trans (List.perm_append_comm_assoc g1 f1 g2)
/-- a slot forgotten, whatever it holds; its cell may hold anything -/
theorem OwnE.drop : ∀ {env : Env} {σ : L2.St} {fp : List Addr} (i : Nat) (o : Option V), OwnE K S H env σ fp → ∃ f2, OwnE K S H (env.set i none) (σ.set i o) f2 ∧ f2.Sublist fp
  | [], σ, fp, i, o, h => by
    rw [h.1, h.2]
    exact ⟨[], ⟨rfl, rfl⟩, List.Sublist.refl _⟩
  | none :: es, σ, fp, 0, o, h => by
    obtain ⟨o', r, e2, q⟩ := h
    subst e2
    exact ⟨fp, ⟨o, r, rfl, q⟩, List.Sublist.refl _⟩
  | none :: es, σ, fp, i + 1, o, h => by
    obtain ⟨o', r, e2, q⟩ := h
    subst e2
    obtain ⟨f2, h1, h2⟩ := OwnE.drop i o q
    exact ⟨f2, ⟨o', r.set i o, rfl, h1⟩, h2⟩
  | some p :: es, σ, fp, 0, o, h => by
    obtain ⟨v', r, g1, g2, e2, e3, q, q2⟩ := h
    subst e2 e3
    exact ⟨g2, ⟨o, r, rfl, q2⟩, List.sublist_append_right _ _⟩
  | some p :: es, σ, fp, i + 1, o, h => by
    obtain ⟨v', r, g1, g2, e2, e3, q, q2⟩ := h
    subst e2 e3
    obtain ⟨f2, h1, h2⟩ := OwnE.drop i o q2
    exact ⟨g1 ++ f2, ⟨v', r.set i o, g1, f2, rfl, rfl, q, h1⟩, List.Sublist.append_left h2 g1⟩
theorem OwnE.set {env : Env} {σ : L2.St} {fp fv : List Addr} {i : Nat} {p : PV} {v : V} (h : OwnE K S H env σ fp) (hi : i < env.length) (o : Own K S H p v fv) :
    ∃ f', OwnE K S H (env.set i (some p)) (σ.set i (some v)) f' ∧ ∃ f2, f'.Perm (fv ++ f2) ∧ f2.Sublist fp := by
  obtain ⟨f2, h1, h2⟩ := OwnE.drop i (some v) h
  obtain ⟨f', h3, h4⟩ := OwnE.put (i := i) h1 (by rw [List.getElem?_set_self hi]) (by rw [List.getElem?_set_self (by rw [← h.length]; exact hi)]) o
  rw [List.set_set] at h3
  exact ⟨f', h3, f2, h4, h2⟩
theorem Good.perm {f g : List Addr} (G : Good S H f) (p : f.Perm g) : Good S H g := ⟨p.nodup_iff.mp G.nd, fun a h => G.dj a (p.mem_iff.mpr h), G.dm, fun a h => G.al a (p.mem_iff.mpr h)⟩
theorem Good.sub {f g : List Addr} (G : Good S H f) (p : g.Sublist f) : Good S H g := ⟨G.nd.sublist p, fun a h => G.dj a (p.subset h), G.dm, fun a h => G.al a (p.subset h)⟩
end

/-! ### statements -/
inductive RS where
  | nx (e : Env) | rt (p : PV) (e : Env) | bk (e : Env) | ct (e : Env) | ex (x : XV) (e : Env) | stk
def PostS (X : Cx) (W : WX) (io : Io) (S : Addr → Prop) (H : Hp) (fb : List Addr) (r : RS) (D : Ends) : Prop := match r with
  | .nx env => ∀ σ' S' H' fp', Cl X.K io S' H' σ' env fp' → Good S' H' fp' → Step S H fb S' H' fp' → D.nx σ' H'
  | .bk env => ∀ σ' S' H' fp', Cl X.K io S' H' σ' env fp' → Good S' H' fp' → Step S H fb S' H' fp' → D.bk σ' H'
  | .ct env => ∀ σ' S' H' fp', Cl X.K io S' H' σ' env fp' → Good S' H' fp' → Step S H fb S' H' fp' → D.ct σ' H'
  | .rt p env => ∀ v σ' S' H' fv fp', Own X.K S' H' p v fv → Cl X.K io S' H' σ' env fp' → Good S' H' (fv ++ fp') → Step S H fb S' H' (fv ++ fp') → D.rt v H'
  | .ex x env => ∀ cls d σ' S' H' fp', XRel X.K X.mg S' H' x cls d → Cl X.K io S' H' σ' env fp' → Good S' H' fp' → Step S H fb S' H' fp' → W cls d σ' H'
  | .stk => False
def semS (X : Cx) (W : WX) (io : Io) (g : Env → RS) : TS := fun D σ H => ∃ S env fp, Cl X.K io S H σ env fp ∧ Good S H fp ∧ PostS X W io S H fp (g env) D
structure Es (X : Cx) (W : WX) (io : Io) (st : Stmt) (g : Env → RS) : Prop where
  ps : PS X st (semS X W io g)
structure Ess (X : Cx) (W : WX) (io : Io) (st : List Stmt) (g : Env → RS) : Prop where
  ps : PSs X st (semS X W io g)
def RS.seq (r : RS) (k : Env → RS) : RS := match r with
  | .nx e => k e
  | r => r
def R.toS {α : Type} (r : R α) (k : α → Env → RS) : RS := match r with
  | .ok a e => k a e
  | .ex x e => .ex x e
  | .stk => .stk
section
variable {X : Cx} {W : WX} {io : Io} {m m1 m2 m3 : Bool} {a b c e : Expr} {st : Stmt} {sts : List Stmt} {f g h : Env → R PV} {tf tg : Env → R Bool} {fs gs : Env → R (List PV)} {pos : Pos} {s t u : Env → RS}
  {S S' S1 : Addr → Prop} {H H' H1 : Hp} {σ : L2.St} {env : Env} {fp fb f1 : List Addr} {D : Ends}
theorem PostS.move {r : RS} (h : PostS X W io S H fb r D) (st : Step S H fb S1 H1 f1) : PostS X W io S1 H1 f1 r D := by
  cases r with
  | stk => exact h
  | nx e => exact fun σ' S' H' fp' a b c => h σ' S' H' fp' a b (st.trans c)
  | bk e => exact fun σ' S' H' fp' a b c => h σ' S' H' fp' a b (st.trans c)
  | ct e => exact fun σ' S' H' fp' a b c => h σ' S' H' fp' a b (st.trans c)
  | rt p e => exact fun v σ' S' H' fv fp' o a b c => h v σ' S' H' fv fp' o a b (st.trans c)
  | ex x e => exact fun cls d σ' S' H' fp' o a b c => h cls d σ' S' H' fp' o a b (st.trans c)
/-- an expression in a statement -/
theorem PostS.bind {α β : Type} {rel1 : Rl α β} {f : Env → R α} {k : α → Env → RS} {P : β → Hp → Prop}
    (C : Cl X.K io S H σ env fp) (G : Good S H fp) (h : PostS X W io S H fp ((f env).toS k) D)
    (hk : ∀ p b S1 H1 env1 fv fp1, rel1 S1 H1 p b fv → Cl X.K io S1 H1 σ env1 fp1 → Good S1 H1 (fv ++ fp1) → f env = .ok p env1 →
      PostS X W io S1 H1 (fv ++ fp1) (k p env1) D → P b H1) : sem rel1 X W io m1 f σ H P := by
  refine ⟨S, env, fp, C, G, ?_⟩
  unfold Post
  cases e : f env with
  | stk => rw [e] at h; exact h
  | ex x env1 =>
    rw [e] at h
    exact fun cls d S' H' fp' a b c z => h cls d σ S' H' fp' a b c z
  | ok p env1 =>
    rw [e] at h
    intro v S1 H1 fv fp1 r1 C1 G1 st hm1
    exact hk p v S1 H1 env1 fv fp1 r1 C1 G1 e (PostS.move h st)
def sNx : Env → RS := fun env => .nx env
def sSeq (s t : Env → RS) : Env → RS := fun env => (s env).seq t
def sRet (f : Env → R PV) : Env → RS := fun env => (f env).toS fun p e => .rt p e
def sRetN : Env → RS := fun env => .rt .non env
def sDrop (f : Env → R PV) : Env → RS := fun env => (f env).toS fun _ e => .nx e
def sIf (t : Env → R Bool) (s u : Env → RS) : Env → RS := fun env => (t env).toS fun b e => if b = true then s e else u e
def sSet (i : Nat) (f : Env → R PV) : Env → RS := fun env => (f env).toS fun p e => if i < e.length then .nx (e.set i (some p)) else .stk
theorem sem_nx (q : semS X W io sNx D σ H) : D.nx σ H := by
  obtain ⟨S, env, fp, C, G, q⟩ := q
  exact q σ S H fp C G Step.refl
theorem ess_nil : Ess X W io [] sNx := ⟨pss_nil.imp fun D σ H q => sem_nx q⟩
theorem es_pass : Es X W io (.Pass pos) sNx := ⟨ps_pass.imp fun D σ H q => sem_nx q⟩
theorem es_break : Es X W io (.Break pos) (fun env => .bk env) := ⟨ps_break.imp fun D σ H ⟨S, env, fp, C, G, q⟩ => q σ S H fp C G Step.refl⟩
theorem es_cont : Es X W io (.Continue pos) (fun env => .ct env) := ⟨ps_continue.imp fun D σ H ⟨S, env, fp, C, G, q⟩ => q σ S H fp C G Step.refl⟩
theorem sem_seq (q : semS X W io (sSeq s t) D σ H) : tSeq (semS X W io s) (semS X W io t) D σ H := by
  obtain ⟨S, env, fp, C, G, q⟩ := q
  refine ⟨S, env, fp, C, G, ?_⟩
  unfold sSeq at q
  cases e : s env with
  | nx e1 =>
    rw [e] at q
    exact fun σ' S' H' fp' a b c => ⟨S', e1, fp', a, b, PostS.move q c⟩
  | stk => rw [e] at q; exact q
  | rt p e1 => rw [e] at q; exact q
  | bk e1 => rw [e] at q; exact q
  | ct e1 => rw [e] at q; exact q
  | ex x e1 => rw [e] at q; exact q
theorem ess_cons (h1 : Es X W io st s) (h2 : Ess X W io sts t) : Ess X W io (st :: sts) (sSeq s t) := ⟨(pss_cons h1.ps h2.ps).imp fun D σ H q => sem_seq q⟩
theorem ess_one (h1 : Es X W io st s) : Ess X W io [st] s := ⟨pss_one h1.ps⟩
theorem es_ret (ha : Ev X W io m a f) : Es X W io (.Return (some a) pos) (sRet f) := by
  refine ⟨(ps_ret ha.pe).imp fun D σ H q => ?_⟩
  obtain ⟨S, env, fp, C, G, q⟩ := q
  exact PostS.bind C G q fun p v S1 H1 env1 fv fp1 o1 C1 G1 e1 h1 => h1 v σ S1 H1 fv fp1 o1 C1 G1 Step.refl
theorem es_retN : Es X W io (.Return none pos) sRetN := by
  refine ⟨ps_retN.imp fun D σ H q => ?_⟩
  obtain ⟨S, env, fp, C, G, q⟩ := q
  exact q .non σ S H [] fp ⟨rfl, rfl⟩ C G Step.refl
theorem es_drop (ha : Ev X W io m a f) (hs : swapsWith a none pos.line X.env = pure false := by rfl) : Es X W io (.Expr a pos) (sDrop f) := by
  refine ⟨(ps_expr ha.pe hs).imp fun D σ H q => ?_⟩
  obtain ⟨S, env, fp, C, G, q⟩ := q
  exact PostS.bind C G q fun p v S1 H1 env1 fv fp1 o1 C1 G1 e1 h1 => h1 σ S1 H1 fp1 C1 G1.right (Step.refl.sub fun a h => List.mem_append_right _ h)
theorem es_if {sa sb : List Stmt} (hc : Et X W io m c tf) (ha : Ess X W io sa s) (hb : Ess X W io sb t) : Es X W io (.If c sa sb pos) (sIf tf s t) := by
  refine ⟨(ps_if hc.pe ha.ps hb.ps).imp fun D σ H q => ?_⟩
  obtain ⟨S, env, fp, C, G, q⟩ := q
  refine PostS.bind C G q fun p v S1 H1 env1 fv fp1 o1 C1 G1 e1 h1 => ?_
  obtain ⟨e2, e3⟩ := o1
  subst e2 e3
  cases v with
  | true => exact ⟨S1, env1, fp1, C1, G1, h1⟩
  | false => exact ⟨S1, env1, fp1, C1, G1, h1⟩
theorem set_nx {i : Nat} {p : PV} {v : V} {fv : List Addr} (C : Cl X.K io S H σ env fp) (o : Own X.K S H p v fv) (G : Good S H (fv ++ fp)) (hio : io.1.contains i = false)
    (h : PostS X W io S H (fv ++ fp) (if i < env.length then .nx (env.set i (some p)) else .stk) D) : D.nx (σ.set i (some v)) H := by
  by_cases hi : i < env.length
  · rw [if_pos hi] at h
    obtain ⟨f', h1, f2, h2, h3⟩ := OwnE.set C.own hi o
    have sb : (fv ++ f2).Sublist (fv ++ fp) := List.Sublist.append_left h3 fv
    refine h (σ.set i (some v)) S H f' ⟨h1, fun j hj => ?_, C.io.kp⟩ ((G.sub sb).perm h2.symm) (Step.refl.sub fun a ha => sb.subset (h2.mem_iff.mp ha))
    have ne : i ≠ j := fun e => by
      subst e
      have : io.1.contains i = true := by simpa using hj
      rw [hio] at this; cases this
    rw [List.getElem?_set_ne ne]
    exact C.io.ix j hj
  · rw [if_neg hi] at h
    exact h.elim
theorem es_set {i : Nat} {x : Str} {pos' : Pos} (hN : X.N.Nodup) (hi : X.N[i]? = some x) (hx : Loc X.env.scope x) (ha : Ev X W io m a f) (hio : io.1.contains i = false) (hs : swapsWith a (some (.Name x pos')) pos.line X.env = pure false := by rfl)
    (hf : X.fn x = true ∨ X.env.scope.names.lookup x = some .local := by first | exact .inl rfl | exact .inr rfl | assumption) : Es X W io (.Assign [.Name x pos'] a pos) (sSet i f) := by
  refine ⟨(ps_set hN hi hx ha.pe hs hf).imp fun D σ H q => ?_⟩
  obtain ⟨S, env, fp, C, G, q⟩ := q
  exact PostS.bind C G q fun p v S1 H1 env1 fv fp1 o1 C1 G1 e1 h1 => set_nx C1 o1 G1 hio h1
end
end L3

namespace L3
open PySem PySem.Spec PyProof.Rows L2
/-! ### what a def is: a function of its arguments' values -/
inductive RF where
  | ok (p : PV) (outs : List PV) | ex (x : XV) (outs : List PV) | stk
def PostF (K : PySem.W.Frag) (mg : Str → Option Value) (io : List Nat) (S : Addr → Prop) (H : Hp) (f : List Addr) (vs : List V) (r : RF) (Q : VK) (E : XK) : Prop := match r with
  | .ok p outs => ∀ v S' H' fv fo, Own K S' H' p v fv → Owns K S' H' outs (io.map fun j => vs.getD j .non) fo → Good S' H' (fv ++ fo) → Step S H f S' H' (fv ++ fo) → Q v H'
  | .ex x outs => ∀ cls d S' H' fo, XRel K mg S' H' x cls d → Owns K S' H' outs (io.map fun j => vs.getD j .non) fo → Good S' H' fo → Step S H f S' H' fo → E cls d H'
  | .stk => False
def spF (K : PySem.W.Frag) (mg : Str → Option Value) (n : Nat) (io : List Nat) (F : List PV → RF) : Sp := fun vs H Q E =>
  vs.length = n ∧ ∃ S ps f, Owns K S H ps vs f ∧ Good S H f ∧ PostF K mg io S H f vs (F ps) Q E
/-- what the slots io hold -/
def outsOf (io : List Nat) (e : Env) : Option (List PV) := match io with
  | [] => some []
  | j :: r => match e[j]? with
    | some (some p) => (outsOf r (e.set j none)).map (p :: ·)
    | _ => none
def RS.fin (io : List Nat) : RS → RF
  | .nx e => match outsOf io e with | some o => .ok .non o | none => .stk
  | .rt p e => match outsOf io e with | some o => .ok p o | none => .stk
  | .ex x e => match outsOf io e with | some o => .ex x o | none => .stk
  | _ => .stk
def runF (N : Nat) (io : List Nat) (g : Env → RS) : List PV → RF := fun ps => (g (ps.map some ++ List.replicate (N - ps.length) none)).fin io
section
variable {K : PySem.W.Frag} {S S' : Addr → Prop} {H H' : Hp} {mg : Str → Option Value}
theorem outs_ok : ∀ {io : List Nat} {env : Env} {σ : L2.St} {fp : List Addr} {outs : List PV} {vv : Nat → V}, OwnE K S H env σ fp → outsOf io env = some outs → (∀ j, j ∈ io → σ[j]? = some (some (vv j))) →
    ∃ fo fr, Owns K S H outs (io.map vv) fo ∧ fp.Perm (fo ++ fr)
  | [], env, σ, fp, outs, vv, h, e, _ => by
    cases e
    exact ⟨[], fp, ⟨rfl, rfl⟩, List.Perm.refl _⟩
  | j :: io, env, σ, fp, outs, vv, h, e, hv => by
    unfold outsOf at e
    split at e
    · next p ep =>
      obtain ⟨v, f1, f2, h1, h2, h3, h4⟩ := h.take ep
      cases q : outsOf io (env.set j none) with
      | none => rw [q] at e; cases e
      | some o =>
        rw [q] at e
        cases e
        obtain ⟨fo, fr, h5, h6⟩ := outs_ok h3 q fun k hk => hv k (List.mem_cons_of_mem _ hk)
        have : v = vv j := by
          have := hv j List.mem_cons_self
          rw [h1] at this
          exact Option.some.inj (Option.some.inj this)
        subst this
        refine ⟨f1 ++ fo, fr, ⟨_, _, f1, fo, rfl, rfl, h2, h5⟩, ?_⟩
        rw [List.append_assoc]
        exact h4.trans (List.Perm.append_left f1 h6)
    · cases e
theorem ownE_start : ∀ {ps : List PV} {vs : List V} {f : List Addr} (n : Nat), Owns K S H ps vs f → OwnE K S H (ps.map some ++ List.replicate n none) (vs.map some ++ List.replicate n none) f
  | [], _, _, n, h => by
    rw [h.1, h.2]
    show OwnE K S H (List.replicate n none) (List.replicate n none) []
    induction n with
    | zero => exact ⟨rfl, rfl⟩
    | succ n ih => exact ⟨none, List.replicate n none, rfl, ih⟩
  | p :: ps, _, _, n, h => by
    obtain ⟨v, r, f1, f2, e, e2, o1, o2⟩ := h
    subst e e2
    exact ⟨v, r.map some ++ List.replicate n none, f1, f2, rfl, rfl, o1, ownE_start n o2⟩
theorem getD_some {vs : List V} {n j : Nat} (h : j < vs.length) : (vs.map some ++ List.replicate n none)[j]? = some (some (vs.getD j .non)) := by
  rw [List.getElem?_append_left (by simpa using h), List.getElem?_map, List.getElem?_eq_getElem h]
  simp [List.getD, h]
abbrev WF (E : XK) : WX := fun cls d _ H => E cls d H
/-- the body's end is the def's end -/
theorem fin_ok {X : Cx} {W : WX} {E : XK} {io : List Nat} {vs : List V} {f : List Addr} {r : RS} {Q : VK} (hW : W = WF E) (hK : X.K = K) (hm : X.mg = mg) (h : PostF K mg io S H f vs (r.fin io) Q E) :
    PostS X W (io, (fun j => vs.getD j .non), []) S H f r { nx := fun _ H' => Q .non H', rt := Q } := by
  subst hW hK hm
  cases r with
  | stk => exact h
  | bk e => exact h.elim
  | ct e => exact h.elim
  | nx e =>
    intro σ' S' H' fp' C' G' st
    have h : PostF X.K X.mg io S H f vs (match outsOf io e with | some o => .ok .non o | none => .stk) Q E := h
    cases eo : outsOf io e with
    | none => rw [eo] at h; exact h.elim
    | some outs =>
      rw [eo] at h
      obtain ⟨fo, fr, h1, h2⟩ := outs_ok C'.own eo C'.io.ix
      exact h .non S' H' [] fo ⟨rfl, rfl⟩ h1 (G'.perm h2).left (st.sub fun a ha => h2.mem_iff.mpr (List.mem_append_left _ ha))
  | rt p e =>
    intro v σ' S' H' fv fp' o C' G' st
    have h : PostF X.K X.mg io S H f vs (match outsOf io e with | some o => .ok p o | none => .stk) Q E := h
    cases eo : outsOf io e with
    | none => rw [eo] at h; exact h.elim
    | some outs =>
      rw [eo] at h
      obtain ⟨fo, fr, h1, h2⟩ := outs_ok C'.own eo C'.io.ix
      have p2 : (fv ++ fp').Perm (fv ++ fo ++ fr) := by rw [List.append_assoc]; exact List.Perm.append_left fv h2
      exact h v S' H' fv fo o h1 (G'.perm p2).left (st.sub fun a ha => p2.mem_iff.mpr (List.mem_append_left _ ha))
  | ex x e =>
    intro cls d σ' S' H' fp' o C' G' st
    have h : PostF X.K X.mg io S H f vs (match outsOf io e with | some o => .ex x o | none => .stk) Q E := h
    cases eo : outsOf io e with
    | none => rw [eo] at h; exact h.elim
    | some outs =>
      rw [eo] at h
      obtain ⟨fo, fr, h1, h2⟩ := outs_ok C'.own eo C'.io.ix
      exact h cls d S' H' fo o h1 (G'.perm h2).left (st.sub fun a ha => h2.mem_iff.mpr (List.mem_append_left _ ha))
/-- THE DEF: its body's function, from its text -/
theorem fn_ok {P : Program} {w : World} {base : Heap} {x qual : Str} {st : Stmt} {f : Addr} {fd : FuncData} {N ps : List Str} {k n : Nat} {io : List Nat} {g : Env → RS} (F : L2.Fun K x qual st f fd) (Sc : FnScope N ps (defScope st)) (hn : ps.length = n) (hio : ∀ j, j ∈ io → j < n)
    (hb : ∀ (cdv : Value) (A : Around) (outer : List PySem.Env) (s : Shared) (H : Hp) (E : XK) (vv : Nat → V), Room k (A.deeper (envOfC qual (defScope st) s.heap.objs.size f cdv)) →
      Ess (cxOf (L2.CX P w) P w K mg base N qual (defScope st) f cdv A outer s H E) (WF E) (io, vv, []) (defBody st) g) :
    FnOk P w K mg base (L2.CX P w) (k + 1) f fd ps (spF K mg n io (runF N.length io g)) := by
  refine F.okX Sc (fun vs H Q E h => h.1.trans hn.symm) (fun cdv A outer s H vs Q E hr h => ?_)
  obtain ⟨hl, S, qs, fp, o, G, h⟩ := h
  refine ⟨_, (hb cdv A outer s H E (fun j => vs.getD j .non) hr).ps, S, qs.map some ++ List.replicate (N.length - qs.length) none, fp, ⟨?_, fun j hj => ?_, fun _ h => nomatch h⟩, G, ?_⟩
  · rw [show start N vs = vs.map some ++ List.replicate (N.length - qs.length) none by rw [o.length]; rfl]
    exact ownE_start _ o
  · exact getD_some (by rw [hl]; exact hio j hj)
  · exact fin_ok rfl rfl rfl h

/-! ### calls -/
abbrev AI := PV ⊕ Nat
def ArgRel (K : PySem.W.Frag) (σ : L2.St) (S : Addr → Prop) (H : Hp) : List AI → List V → List Addr → Prop
  | [], vs, f => vs = [] ∧ f = []
  | .inl p :: its, vs, f => ∃ v r, vs = v :: r ∧ Own K S H p v [] ∧ ArgRel K σ S H its r f
  | .inr i :: its, vs, f => ∃ v r, vs = v :: r ∧ σ[i]? = some (some v) ∧ ArgRel K σ S H its r f
def patOf : List AI → List (Option Nat)
  | [] => []
  | .inl _ :: r => none :: patOf r
  | .inr i :: r => some i :: patOf r
/-- the arguments' places of the slots that are lent -/
def posIo : Nat → List (Option Nat) → List Nat
  | _, [] => []
  | n, none :: r => posIo (n + 1) r
  | n, some _ :: r => n :: posIo (n + 1) r
def slotIo : List (Option Nat) → List Nat
  | [] => []
  | none :: r => slotIo r
  | some i :: r => i :: slotIo r
structure Er (X : Cx) (W : WX) (io : Io) (m : Bool) (pat : List (Option Nat)) (es : List Expr) (f : Env → R (List AI)) : Prop where
  pe : PA X es fun σ H Q => sem (ArgRel X.K σ) X W io m f σ H Q
  st : Still m f
  pt : ∀ env its e, f env = .ok its e → patOf its = pat
def aNil : Env → R (List AI) := fun env => .ok [] env
def aCons (f : Env → R PV) (g : Env → R (List AI)) : Env → R (List AI) := fun env => (dFrz f env).bind fun p e1 => (g e1).bind fun ps e2 => .ok (.inl p :: ps) e2
def aIo (i : Nat) (g : Env → R (List AI)) : Env → R (List AI) := fun env => match env[i]? with
  | some (some _) => (g env).bind fun ps e2 => .ok (.inr i :: ps) e2
  | _ => .stk
section
variable {X : Cx} {W : WX} {io : Io} {m m1 m2 : Bool} {a : Expr} {es : List Expr} {f : Env → R PV} {g : Env → R (List AI)} {pos : Pos} {pat : List (Option Nat)}
theorem ArgRel.nil {σ : L2.St} : ∀ {its : List AI} {vs : List V} {f : List Addr}, ArgRel K σ S H its vs f → f = []
  | [], _, _, h => h.2
  | .inl _ :: _, _, _, ⟨_, _, _, _, h⟩ => h.nil
  | .inr _ :: _, _, _, ⟨_, _, _, _, h⟩ => h.nil
theorem er_nil : Er X W io false [] [] aNil := ⟨pa_nil.imp fun σ H Q q => by
  obtain ⟨S, env, fp, C, G, q⟩ := q
  exact Post.fin (ft := []) C G q ⟨rfl, rfl⟩ (New.refl G.dm), Still.pure, fun env its e h => by cases h; rfl⟩
theorem er_cons (ha : Ev X W io m1 a f) (hr : Er X W io m2 pat es g) (hs : starEach (a :: es) X.env = (false, eval a X.env) :: starEach es X.env := by rfl) : Er X W io (m1 || m2) (none :: pat) (a :: es) (aCons f g) := by
  refine ⟨(pa_cons ha.frz.pe hr.pe hs).imp fun σ H Q q => ?_, Still.bind (m2 := m1 || m2) ha.frz.st (fun _ => Still.bind (m2 := m1 || m2) hr.st (fun _ => Still.pure) or_r id) or_l id, fun env its e h => ?_⟩
  · obtain ⟨S, env, fp, C, G, q⟩ := q
    refine Post.bind (ft := []) C Owns.nil G or_l q fun p x S1 H1 env1 fv fp1 o1' _ C1 G1 e1 _ _ h1 => ?_
    have z := dFrz_nil e1 o1'
    subst z
    refine Post.bind (ft := []) C1 (Owns.one o1') G1 or_r h1 fun ps xs S2 H2 env2 fv2 fp2 o2 T2 C2 G2 e2 _ _ h2 => ?_
    have z := ArgRel.nil o2
    subst z
    exact Post.fin (ft := []) C2 G2 h2 ⟨x, xs, rfl, T2.inv.1, o2⟩ (New.refl G2.dm)
  · unfold aCons at h
    cases q : dFrz f env with
    | stk => rw [q] at h; cases h
    | ex x _ => rw [q] at h; cases h
    | ok p e1 =>
      rw [q] at h
      have h : (g e1).bind (fun ps e2 => R.ok (.inl p :: ps) e2) = .ok its e := h
      cases q2 : g e1 with
      | stk => rw [q2] at h; cases h
      | ex x _ => rw [q2] at h; cases h
      | ok qs e2 =>
        rw [q2] at h
        cases h
        show none :: patOf qs = _
        rw [hr.pt _ _ _ q2]
theorem er_io {i : Nat} {x : Str} (hN : X.N[i]? = some x) (hv : Vis X.env.scope x) (hr : Er X W io m pat es g) (hs : starEach (.Name x pos :: es) X.env = (false, eval (.Name x pos) X.env) :: starEach es X.env := by rfl)
    (hd : (x == ("__debug__" : Str)) = false := by decide) (hcd : (x == ("__classdict__" : Str)) = false := by decide) : Er X W io m (some i :: pat) (.Name x pos :: es) (aIo i g) := by
  refine ⟨(pa_cons (pe_var hN hv hd hcd) hr.pe hs).imp fun σ H Q q => ?_, ?_, fun env its e h => ?_⟩
  · obtain ⟨S, env, fp, C, G, q⟩ := q
    unfold aIo at q
    split at q
    · next p ep =>
      obtain ⟨v, f, h1, h2, h3⟩ := C.own.get ep
      refine ⟨v, h1, ?_⟩
      refine Post.bind (ft := []) C Owns.nil G id q fun ps xs S2 H2 env2 fv2 fp2 o2 T2 C2 G2 e2 _ _ h2 => ?_
      have z := ArgRel.nil o2
      subst z
      exact Post.fin (ft := []) C2 G2 h2 ⟨v, xs, rfl, h1, o2⟩ (New.refl G2.dm)
    · exact q.elim
  · intro hm env p env' e
    unfold aIo at e
    split at e
    · exact Still.bind (m2 := m) hr.st (fun _ => Still.pure) id id hm env p env' e
    · cases e
  · unfold aIo at h
    split at h
    · have h : (g env).bind (fun ps e2 => R.ok (.inr i :: ps) e2) = .ok its e := h
      cases q2 : g env with
      | stk => rw [q2] at h; cases h
      | ex x _ => rw [q2] at h; cases h
      | ok qs e2 =>
        rw [q2] at h
        cases h
        show some i :: patOf qs = _
        rw [hr.pt _ _ _ q2]
    · cases h
end
def fill : List AI → Env → Option (List PV × Env)
  | [], e => some ([], e)
  | .inl p :: r, e => (fill r e).map fun q => (p :: q.1, q.2)
  | .inr i :: r, e => match e[i]? with
    | some (some p) => (fill r (e.set i none)).map fun q => (p :: q.1, q.2)
    | _ => none
def putB : List Nat → List PV → Env → Option Env
  | [], [], e => some e
  | i :: is, p :: ps, e => match e[i]? with
    | some none => putB is ps (e.set i (some p))
    | _ => none
  | _, _, _ => none
theorem fill_ok {σ : L2.St} : ∀ {its : List AI} {vs : List V} {env e2 : Env} {fp fx : List Addr} {ps : List PV}, ArgRel K σ S H its vs fx → OwnE K S H env σ fp → fill its env = some (ps, e2) → ∃ f fr, Owns K S H ps vs f ∧ OwnE K S H e2 σ fr ∧ fp.Perm (f ++ fr)
  | [], vs, env, e2, fp, _, ps, a, o, e => by
    cases e
    exact ⟨[], fp, ⟨a.1, rfl⟩, o, List.Perm.refl _⟩
  | .inl p :: its, vs, env, e2, fp, _, ps, a, o, e => by
    obtain ⟨v, r, e3, o1, a2⟩ := a
    subst e3
    unfold fill at e
    cases q : fill its env with
    | none => rw [q] at e; cases e
    | some z =>
      rw [q] at e
      cases e
      obtain ⟨f, fr, h1, h2, h3⟩ := fill_ok a2 o q
      exact ⟨f, fr, ⟨v, r, [], f, rfl, rfl, o1, h1⟩, h2, h3⟩
  | .inr i :: its, vs, env, e2, fp, _, ps, a, o, e => by
    obtain ⟨v, r, e3, o1, a2⟩ := a
    subst e3
    unfold fill at e
    split at e
    · next p ep =>
      obtain ⟨v', f1, f2, h1, h2, h3, h4⟩ := o.take ep
      have : v' = v := by rw [h1] at o1; exact Option.some.inj (Option.some.inj o1)
      subst this
      cases q : fill its (env.set i none) with
      | none => rw [q] at e; cases e
      | some z =>
        rw [q] at e
        cases e
        obtain ⟨f, fr, h5, h6, h7⟩ := fill_ok a2 h3 q
        refine ⟨f1 ++ f, fr, ⟨v', r, f1, f, rfl, rfl, h2, h5⟩, h6, ?_⟩
        rw [List.append_assoc]
        exact h4.trans (List.Perm.append_left f1 h7)
    · cases e
theorem putB_ok {σ : L2.St} : ∀ {is : List Nat} {outs : List PV} {us : List V} {env e3 : Env} {fr fo : List Addr}, OwnE K S H env σ fr → putB is outs env = some e3 → Owns K S H outs us fo → (is.map fun i => σ[i]?) = us.map (fun v => some (some v)) →
    ∃ f', OwnE K S H e3 σ f' ∧ f'.Perm (fo ++ fr)
  | [], [], us, env, e3, fr, fo, h, e, o, _ => by
    cases e
    rw [o.2]
    exact ⟨fr, h, List.Perm.refl _⟩
  | [], _ :: _, _, _, _, _, _, _, e, _, _ => by cases e
  | _ :: _, [], _, _, _, _, _, _, e, _, _ => by cases e
  | i :: is, p :: ps, us, env, e3, fr, fo, h, e, o, hu => by
    obtain ⟨v, r, f1, f2, e4, e5, o1, o2⟩ := o
    subst e4 e5
    unfold putB at e
    split at e
    · next ep =>
      rw [List.map_cons, List.map_cons] at hu
      injection hu with hu1 hu2
      obtain ⟨g, h1, h2⟩ := h.put (i := i) ep hu1 o1
      obtain ⟨f', h3, h4⟩ := putB_ok h1 e o2 hu2
      refine ⟨f', h3, h4.trans ?_⟩
      exact ((List.Perm.append_left f2 h2).trans (List.perm_append_comm_assoc f2 f1 fr)).trans (by rw [List.append_assoc])
    · cases e
theorem argRel_slots {σ : L2.St} : ∀ {its : List AI} {ws vs : List V} {fx : List Addr}, ArgRel K σ S H its vs fx → ((slotIo (patOf its)).map fun i => σ[i]?) = ((posIo ws.length (patOf its)).map fun j => (ws ++ vs).getD j .non).map (fun v => some (some v))
  | [], ws, vs, _, a => rfl
  | .inl p :: its, ws, vs, _, a => by
    obtain ⟨v, r, e3, o1, a2⟩ := a
    subst e3
    have := argRel_slots (ws := ws ++ [v]) a2
    rw [List.length_append, List.append_assoc] at this
    exact this
  | .inr i :: its, ws, vs, _, a => by
    obtain ⟨v, r, e3, o1, a2⟩ := a
    subst e3
    have := argRel_slots (ws := ws ++ [v]) a2
    rw [List.length_append, List.append_assoc] at this
    show σ[i]? :: ((slotIo (patOf its)).map fun i => σ[i]?) = some (some ((ws ++ v :: r).getD ws.length .non)) :: ((posIo (ws.length + 1) (patOf its)).map fun j => (ws ++ v :: r).getD j .non).map (fun v => some (some v))
    rw [o1]
    refine congr (congrArg List.cons ?_) this
    simp [List.getD]
theorem argRel_length {σ : L2.St} : ∀ {its : List AI} {vs : List V} {fx : List Addr}, ArgRel K σ S H its vs fx → vs.length = (patOf its).length
  | [], vs, _, a => by rw [a.1]; rfl
  | .inl p :: its, vs, _, a => by
    obtain ⟨v, r, e3, o1, a2⟩ := a
    rw [e3]
    exact congrArg (· + 1) (argRel_length a2)
  | .inr p :: its, vs, _, a => by
    obtain ⟨v, r, e3, o1, a2⟩ := a
    rw [e3]
    exact congrArg (· + 1) (argRel_length a2)
def callD (sl : List Nat) (F : List PV → RF) (g : Env → R (List AI)) : Env → R PV := fun env => (g env).bind fun its e => match fill its e with
  | none => .stk
  | some q => match F q.1 with
    | .ok p outs => match putB sl outs q.2 with
      | some e3 => .ok p e3
      | none => .stk
    | .ex x outs => match putB sl outs q.2 with
      | some e3 => .ex x e3
      | none => .stk
    | .stk => .stk
def anyIo : List (Option Nat) → Bool
  | [] => false
  | none :: r => anyIo r
  | some _ :: _ => true
theorem fill_still : ∀ {its : List AI} {env : Env} {q : List PV × Env}, anyIo (patOf its) = false → fill its env = some q → q.2 = env
  | [], env, q, _, e => by cases e; rfl
  | .inl p :: its, env, q, h, e => by
    unfold fill at e
    cases z : fill its env with
    | none => rw [z] at e; cases e
    | some w =>
      rw [z] at e
      cases e
      exact fill_still (its := its) (q := w) h z
  | .inr i :: its, env, q, h, e => by cases h
theorem fill_plain {σ : L2.St} : ∀ {its : List AI} {vs : List V} {env : Env} {q : List PV × Env} {fx : List Addr}, anyIo (patOf its) = false → ArgRel K σ S H its vs fx → fill its env = some q → Owns K S H q.1 vs []
  | [], vs, env, q, _, _, a, e => by cases e; exact ⟨a.1, rfl⟩
  | .inl p :: its, vs, env, q, _, h, a, e => by
    obtain ⟨v, r, e3, o1, a2⟩ := a
    subst e3
    unfold fill at e
    cases z : fill its env with
    | none => rw [z] at e; cases e
    | some w =>
      rw [z] at e
      cases e
      exact Owns.cons o1 (fill_plain (its := its) (q := w) h a2 z)
  | .inr i :: its, vs, env, q, _, h, _, e => by cases h
theorem slotIo_nil : ∀ {pat : List (Option Nat)}, anyIo pat = false → slotIo pat = []
  | [], _ => rfl
  | none :: r, h => slotIo_nil (pat := r) h
  | some _ :: _, h => by cases h
theorem posIo_nil : ∀ {pat : List (Option Nat)} {n : Nat}, anyIo pat = false → posIo n pat = []
  | [], _, _ => rfl
  | none :: r, n, h => posIo_nil (pat := r) h
  | some _ :: _, _, h => by cases h
section
variable {X : Cx} {W : WX} {io : Io} {m m1 m2 : Bool} {a : Expr} {es : List Expr} {g : Env → R (List AI)} {pos : Pos} {pat : List (Option Nat)}
theorem sem_call {n : Nat} {ios : List Nat} {F : List PV → RF} (hp : ∀ env its e, g env = .ok its e → patOf its = pat) (hn : pat.length = n) (hi : posIo 0 pat = ios) {σ : L2.St} {H : Hp} {Q : VK}
    (q : sem (RV X.K) X W io (m || anyIo pat) (callD (slotIo pat) F g) σ H Q) : sem (ArgRel X.K σ) X W io m g σ H fun vs H1 => spF X.K X.mg n ios F vs H1 Q (WE W σ) := by
  obtain ⟨S, env, fp, C, G, q⟩ := q
  refine Post.bind (ft := []) C Owns.nil G or_l q fun its vs S1 H1 env1 fv fp1 ar _ C1 G1 e1 _ hm1 h0 => ?_
  have z := ArgRel.nil ar
  subst z
  have hpat := hp _ _ _ e1
  have h1 : Post (RV X.K) X W io (m || anyIo pat) S1 H1 σ fp1 fp1 (match fill its env1 with
    | none => .stk
    | some q => match F q.1 with
      | .ok p outs => match putB (slotIo pat) outs q.2 with
        | some e3 => .ok p e3
        | none => .stk
      | .ex x outs => match putB (slotIo pat) outs q.2 with
        | some e3 => .ex x e3
        | none => .stk
      | .stk => .stk) Q := h0
  clear h0
  have G1 : Good S1 H1 fp1 := G1
  cases ef : fill its env1 with
  | none => rw [ef] at h1; exact h1.elim
  | some q =>
    obtain ⟨ps, e2⟩ := q
    rw [ef] at h1
    have sl0 := argRel_slots (ws := []) ar
    rw [hpat] at sl0
    have ln : vs.length = n := by rw [argRel_length ar, hpat, hn]
    by_cases hany : anyIo pat = false
    · -- nothing is lent
      have op := fill_plain (by rw [hpat]; exact hany) ar ef
      have ee : e2 = env1 := fill_still (by rw [hpat]; exact hany) ef
      subst ee
      have s0 : slotIo pat = [] := slotIo_nil hany
      have i0 : ios = [] := by rw [← hi]; exact posIo_nil hany
      subst i0
      rw [s0] at h1
      refine ⟨ln, S1, ps, [], op, ⟨List.nodup_nil, fun _ h => (nomatch h), G1.dm, fun _ h => (nomatch h)⟩, ?_⟩
      have fin : ∀ {S' : Addr → Prop} {H' : Hp} {fv fo : List Addr}, Good S' H' (fv ++ fo) → Step S1 H1 [] S' H' (fv ++ fo) → L2.Same H1 H' ∧ Cl X.K io S' H' σ e2 fp1 ∧ Good S' H' (fv ++ fp1) ∧ Step S1 H1 fp1 S' H' (fv ++ fp1) := by
        intro S' H' fv fo gx sx
        have sm : L2.Same H1 H' := fun b o e => sx.fr b o e fun h => nomatch h
        have gg := Step.good (fv := fv) (fp1 := []) (ft := fp1) (fp := []) (S := S1) (H := H1) (S1 := S') (H1 := H') (sx.sub fun a h => by rw [List.append_nil] at h; exact List.mem_append_left _ h) (by rw [List.append_nil]; exact G1) (by rw [List.append_nil]; exact gx.left)
        have ww := Step.wide (fv := fv) (fp1 := []) (ft := fp1) (fp := []) (S := S1) (H := H1) (S1 := S') (H1 := H') (sx.sub fun a h => by rw [List.append_nil] at h; exact List.mem_append_left _ h)
        rw [List.append_nil] at gg ww
        exact ⟨sm, ⟨OwnE.stay (fun b o _ e => sm b o e) sx.su _ _ _ (fun b o _ e => sm b o e) C1.own, C1.io.stay (fun b o _ e => sm b o e) sx.su⟩, gg, ww⟩
      have h1 : Post (RV X.K) X W io (m || anyIo pat) S1 H1 σ fp1 fp1 (match F ps with
        | .ok p outs => match putB [] outs e2 with
          | some e3 => .ok p e3
          | none => .stk
        | .ex x outs => match putB [] outs e2 with
          | some e3 => .ex x e3
          | none => .stk
        | .stk => .stk) Q := h1
      cases er : F ps with
      | stk => rw [er] at h1; exact h1
      | ok p outs =>
        rw [er] at h1
        intro v S' H' fv fo ov oo Gx sx
        obtain ⟨sm, c3, g3, s3⟩ := fin Gx sx
        cases outs with
        | nil => exact h1 v S' H' fv fp1 ov c3 g3 s3 fun _ => ⟨sm, rfl⟩
        | cons _ _ => exact (show False from h1).elim
      | ex x outs =>
        rw [er] at h1
        intro cls d S' H' fo xr oo Gx sx
        obtain ⟨sm, c3, g3, s3⟩ := fin (fv := []) Gx sx
        cases outs with
        | nil => exact h1 cls d S' H' fp1 xr c3 g3 s3
        | cons _ _ => exact (show False from h1).elim
    have hany : anyIo pat = true := by simpa using hany
    obtain ⟨f, fr, o1, o2, pm⟩ := fill_ok ar C1.own ef
    have G2 := G1.perm pm
    refine ⟨ln, S1, ps, f, o1, G2.left, ?_⟩
    have sl : ((slotIo pat).map fun i => σ[i]?) = (ios.map fun j => vs.getD j .non).map (fun v => some (some v)) := by rw [← hi]; exact sl0
    -- what follows a call's end
    have key : ∀ {S' : Addr → Prop} {H' : Hp} {fv fo : List Addr} {outs : List PV} {e3 : Env}, putB (slotIo pat) outs e2 = some e3 → Owns X.K S' H' outs (ios.map fun j => vs.getD j .non) fo → Good S' H' (fv ++ fo) → Step S1 H1 f S' H' (fv ++ fo) →
        ∃ fp3, Cl X.K io S' H' σ e3 fp3 ∧ Good S' H' (fv ++ fp3) ∧ Step S1 H1 fp1 S' H' (fv ++ fp3) := by
      intro S' H' fv fo outs e3 ep ho Gx sx
      have G2' : Good S1 H1 (fr ++ f) := G2.perm List.perm_append_comm
      have o2' : OwnE X.K S' H' e2 σ fr := OwnE.stay (fun b o s e => sx.fr b o e fun h => G2.dj b (List.mem_append_left _ h) s) sx.su _ _ _ (fun b o h e => sx.fr b o e fun z => G2.apart b z h) o2
      obtain ⟨fp3, h3, h4⟩ := putB_ok o2' ep ho sl
      have Gy := sx.good G2' Gx
      have w := sx.wide (ft := fr)
      have p1 : (fv ++ fo ++ (fr ++ [])).Perm (fv ++ fp3) := by
        rw [List.append_nil, List.append_assoc]
        exact List.Perm.append_left fv h4.symm
      have s1 : Step S1 H1 (fr ++ f) S' H' (fv ++ fp3) := ⟨fun a o e n => sx.fr a o e fun h => n (List.mem_append_right _ h), sx.su, fun a h => (sx.sb a h).imp id (Or.imp id (List.mem_append_right _)), fun a h => by
        rcases List.mem_append.mp h with z | z
        · exact (sx.fb a (List.mem_append_left _ z)).imp (List.mem_append_right _) id
        · rcases List.mem_append.mp (h4.mem_iff.mp z) with z | z
          · exact (sx.fb a (List.mem_append_right _ z)).imp (List.mem_append_right _) id
          · exact .inl (List.mem_append_left _ z), sx.kp⟩
      refine ⟨fp3, ⟨h3, C1.io.stay (fun b o s e => s1.fr b o e fun h => (List.mem_append.mp h).elim (fun z => G2'.dj b (List.mem_append_left _ z) s) fun z => G2'.dj b (List.mem_append_right _ z) s) s1.su⟩, ?_, s1.sup fun x hx => pm.mem_iff.mpr (List.mem_append.mpr (List.mem_append.mp hx).symm)⟩
      have Gz : Good S' H' (fv ++ (fr ++ fo)) := by
        have ap : ∀ a, a ∈ fr → a ∈ fv ++ fo → False := fun a h1 h2 => (sx.fb a h2).elim (fun z => G2.apart a z h1) fun z => G2.al a (List.mem_append_right _ h1) z
        refine ⟨?_, fun a h => ?_, Gx.dm, fun a h => ?_⟩
        · refine List.nodup_append.mpr ⟨Gx.left.nd, List.nodup_append.mpr ⟨G2.right.nd, Gx.right.nd, fun a h b h' e => ap a h (by subst e; exact List.mem_append_right _ h')⟩, fun a h b h' e => ?_⟩
          subst e
          rcases List.mem_append.mp h' with z | z
          · exact ap a z (List.mem_append_left _ h)
          · exact Gx.apart a h z
        · rcases List.mem_append.mp h with z | z
          · exact Gx.dj a (List.mem_append_left _ z)
          · rcases List.mem_append.mp z with z | z
            · intro s
              rcases sx.sb a s with q | q | q
              · exact G2.dj a (List.mem_append_right _ z) q
              · exact G2.al a (List.mem_append_right _ z) q
              · exact G2.apart a q z
            · exact Gx.dj a (List.mem_append_right _ z)
        · rcases List.mem_append.mp h with z | z
          · exact Gx.al a (List.mem_append_left _ z)
          · rcases List.mem_append.mp z with z | z
            · exact sx.kp a (G2.al a (List.mem_append_right _ z))
            · exact Gx.al a (List.mem_append_right _ z)
      exact Gz.perm (List.Perm.append_left fv (List.perm_append_comm.trans h4.symm))
    have h1 : Post (RV X.K) X W io (m || anyIo pat) S1 H1 σ fp1 fp1 (match F ps with
        | .ok p outs => match putB (slotIo pat) outs e2 with
          | some e3 => .ok p e3
          | none => .stk
        | .ex x outs => match putB (slotIo pat) outs e2 with
          | some e3 => .ex x e3
          | none => .stk
        | .stk => .stk) Q := h1
    cases er : F ps with
    | stk => rw [er] at h1; exact h1
    | ok p outs =>
      rw [er] at h1
      have h1 : Post (RV X.K) X W io (m || anyIo pat) S1 H1 σ fp1 fp1 (match putB (slotIo pat) outs e2 with
          | some e3 => .ok p e3
          | none => .stk) Q := h1
      cases ep : putB (slotIo pat) outs e2 with
      | none => rw [ep] at h1; exact h1.elim
      | some e3 =>
        rw [ep] at h1
        intro v S' H' fv fo ov oo Gx sx
        obtain ⟨fp3, c3, g3, s3⟩ := key ep oo Gx sx
        refine h1 v S' H' fv fp3 ov c3 g3 s3 fun hm => ?_
        rw [hany, Bool.or_true] at hm
        cases hm
    | ex x outs =>
      rw [er] at h1
      have h1 : Post (RV X.K) X W io (m || anyIo pat) S1 H1 σ fp1 fp1 (match putB (slotIo pat) outs e2 with
          | some e3 => .ex x e3
          | none => .stk) Q := h1
      cases ep : putB (slotIo pat) outs e2 with
      | none => rw [ep] at h1; exact h1.elim
      | some e3 =>
        rw [ep] at h1
        intro cls d S' H' fo xr oo Gx sx
        obtain ⟨fp3, c3, g3, s3⟩ := key (fv := []) ep oo Gx sx
        exact h1 cls d S' H' fp3 xr c3 g3 s3
theorem Still.call {sl : List Nat} {F : List PV → RF} (hp : ∀ env its e, g env = .ok its e → patOf its = pat) (hsl : sl = slotIo pat) (h : Still m g) : Still (m || anyIo pat) (callD sl F g) := by
  intro hm env p env' e0
  subst hsl
  have ha := or_r hm
  have e : (g env).bind (fun its e => match fill its e with
    | none => .stk
    | some q => match F q.1 with
      | .ok p outs => match putB (slotIo pat) outs q.2 with
        | some e3 => .ok p e3
        | none => .stk
      | .ex x outs => match putB (slotIo pat) outs q.2 with
        | some e3 => .ex x e3
        | none => .stk
      | .stk => .stk) = .ok p env' := e0
  clear e0
  cases q : g env with
  | stk => rw [q] at e; cases e
  | ex x e1 => rw [q] at e; cases e
  | ok its e1 =>
    rw [q] at e
    have z1 := h (or_l hm) env its e1 q
    subst z1
    have hpat := hp _ _ _ q
    have e : (match fill its e1 with
      | none => .stk
      | some q => match F q.1 with
        | .ok p outs => match putB (slotIo pat) outs q.2 with
          | some e3 => .ok p e3
          | none => .stk
        | .ex x outs => match putB (slotIo pat) outs q.2 with
          | some e3 => .ex x e3
          | none => .stk
        | .stk => .stk) = R.ok p env' := e
    rw [slotIo_nil ha] at e
    cases ef : fill its e1 with
    | none => rw [ef] at e; cases e
    | some w =>
      rw [ef] at e
      have z2 := fill_still (by rw [hpat]; exact ha) ef
      have e : (match F w.1 with
        | .ok p outs => match putB [] outs w.2 with
          | some e3 => .ok p e3
          | none => .stk
        | .ex x outs => match putB [] outs w.2 with
          | some e3 => .ex x e3
          | none => .stk
        | .stk => .stk) = R.ok p env' := e
      cases er : F w.1 with
      | stk => rw [er] at e; cases e
      | ex x outs =>
        rw [er] at e
        cases outs with
        | nil => cases e
        | cons _ _ => cases e
      | ok p' outs =>
        rw [er] at e
        cases outs with
        | nil => cases e; exact z2
        | cons _ _ => cases e
theorem ev_call {k n : Nat} {f : Addr} {fd : FuncData} {ps : List Str} {x : Str} {p : Pos} {ios : List Nat} {F : List PV → RF} (G : FnOk X.prog X.w X.K X.mg X.base (L2.CX X.prog X.w) k f fd ps (spF X.K X.mg n ios F)) (hr : Room k X.A) (hg : Gl X x) (hm : X.mg x = some (.ref f)) (hk : PySem.W.keepIn X.K (.ref f) = true) (hb : Binds X.K fd ps []) (tk : Takes X W)
    (ha : Er X W io m pat (a :: es) g) (hn : pat.length = n) (hi : posIo 0 pat = ios) (hdb : (x == ("__debug__" : Str)) = false := by decide) (he : starEach (a :: es) X.env = (false, eval a X.env) :: starEach es X.env := by rfl) (hpl : (backTo pos (starEach es X.env)).any (·.1) = false := by rfl) :
    Ev X W io (m || anyIo pat) (.Call (.Name x p) (a :: es) [] pos) (callD (slotIo pat) F g) :=
  ⟨(pe_callS G hr hg hm hk hb (fun σ => passAt tk σ) ha.pe hdb he hpl).imp fun σ H Q q => sem_call ha.pt hn hi q, Still.call ha.pt rfl ha.st⟩
end
end
end L3

namespace L3
open PySem PySem.Spec PyProof.Rows L2
/-! ### targets -/
abbrev Tg := PV → Env → Option Env
def semG (K : PySem.W.Frag) (io : Io) (sl : List Nat) (tg : Tg) : TG := fun v σ H Q => ∃ S env fp p, Own K S H p v [] ∧ Cl K io S H σ env fp ∧ Good S H fp ∧ ∃ env', tg p env = some env' ∧
  ∀ σ' fp', Cl K io S H σ' env' fp' → Good S H fp' → (∀ a, a ∈ fp' → a ∈ fp) → σ'.length = σ.length → (∀ j, j ∉ sl → σ'[j]? = σ[j]?) → Q σ' H
structure Eg (X : Cx) (io : Io) (sl : List Nat) (target : Expr) (tg : Tg) : Prop where
  pg : PG X target (semG X.K io sl tg)
theorem _root_.L2.PG.imp {X : Cx} {e : Expr} {t u : TG} (h : PG X e t) (i : ∀ v σ H Q, u v σ H Q → t v σ H Q) : PG X e u := ⟨fun pins s σ H v w Q I r q => h.run pins s σ H v w Q I r (i v σ H Q q)⟩
theorem _root_.L2.PGs.imp {X : Cx} {e : List Expr} {t u : TGs} (h : PGs X e t) (i : ∀ v σ H Q, u v σ H Q → t v σ H Q) : PGs X e u := ⟨fun pins s σ H v w Q I r q => h.run pins s σ H v w Q I r (i v σ H Q q)⟩
theorem _root_.L2.PI.imp {X : Cx} {tg e : Expr} {t u : TI} (h : PI X tg e t) (i : ∀ σ H Q, u σ H Q → t σ H Q) : PI X tg e u := ⟨fun pins s σ H R I q => h.run pins s σ H R I (i σ H R q)⟩
def tgN (i : Nat) : Tg := fun p e => if i < e.length then some (e.set i (some p)) else none
section
variable {K : PySem.W.Frag} {S S' : Addr → Prop} {H H' : Hp} {X : Cx} {W : WX} {io : Io} {m m1 m2 : Bool} {pos : Pos}
theorem cl_set {σ : L2.St} {env : Env} {fp : List Addr} {i : Nat} {p : PV} {v : V} (C : Cl K io S H σ env fp) (G : Good S H fp) (o : Own K S H p v []) (hio : io.1.contains i = false) (hi : i < env.length) :
    ∃ f', Cl K io S H (σ.set i (some v)) (env.set i (some p)) f' ∧ Good S H f' ∧ ∀ a, a ∈ f' → a ∈ fp := by
  obtain ⟨f', h1, f2, h2, h3⟩ := OwnE.set C.own hi o
  have sb : ∀ a, a ∈ f' → a ∈ fp := fun a ha => h3.subset (h2.mem_iff.mp ha)
  refine ⟨f', ⟨h1, fun j hj => ?_, C.io.kp⟩, (G.sub h3).perm h2.symm, sb⟩
  have ne : i ≠ j := fun e => by
    subst e
    have : io.1.contains i = true := by simpa using hj
    rw [hio] at this; cases this
  rw [List.getElem?_set_ne ne]
  exact C.io.ix j hj
theorem eg_name {i : Nat} {x : Str} (hN : X.N.Nodup) (hi : X.N[i]? = some x) (hx : Loc X.env.scope x) (hio : io.1.contains i = false) (hf : X.fn x = true ∨ X.env.scope.names.lookup x = some .local := by first | exact .inl rfl | exact .inr rfl | assumption) :
    Eg X io [i] (.Name x pos) (tgN i) := by
  refine ⟨(pg_name hN hi hx hf).imp fun v σ H Q ⟨S, env, fp, p, o, C, G, env', e, h⟩ => ?_⟩
  unfold tgN at e
  split at e
  · next hl =>
    cases e
    obtain ⟨f', h1, h2, h3⟩ := cl_set C G o hio hl
    exact h _ f' h1 h2 h3 (by simp) fun j hj => by rw [List.getElem?_set_ne (fun z => hj (by simp [z]))]
  · cases e
/-- several targets -/
abbrev Tgs := List PV → Env → Option Env
def semGs (K : PySem.W.Frag) (io : Io) (sl : List Nat) (tg : Tgs) : TGs := fun vs σ H Q => ∃ S env fp ps, Owns K S H ps vs [] ∧ Cl K io S H σ env fp ∧ Good S H fp ∧ ∃ env', tg ps env = some env' ∧
  ∀ σ' fp', Cl K io S H σ' env' fp' → Good S H fp' → (∀ a, a ∈ fp' → a ∈ fp) → σ'.length = σ.length → (∀ j, j ∉ sl → σ'[j]? = σ[j]?) → Q σ' H
structure Egs (X : Cx) (io : Io) (sl : List Nat) (ts : List Expr) (tg : Tgs) : Prop where
  pg : PGs X ts (semGs X.K io sl tg)
  ln : ∀ ps e e', tg ps e = some e' → ps.length = ts.length
def tgNil : Tgs := fun ps e => match ps with
  | [] => some e
  | _ => none
def tgCons (t : Tg) (ts : Tgs) : Tgs := fun ps e => match ps with
  | p :: r => (t p e).bind fun e1 => ts r e1
  | [] => none
def tgT (ts : Tgs) : Tg := fun p e => match p with
  | .tup l => ts l e
  | _ => none
theorem egs_nil : Egs X io [] [] tgNil := by
  refine ⟨pgs_nil.imp fun vs σ H Q ⟨S, env, fp, ps, o, C, G, env', e, h⟩ => ?_, fun ps e e' h => ?_⟩
  · cases ps with
    | nil => cases e; exact ⟨o.1, h σ fp C G (fun _ z => z) rfl fun _ _ => rfl⟩
    | cons _ _ => cases e
  · cases ps with
    | nil => rfl
    | cons _ _ => cases h
theorem egs_cons {sl sl2 : List Nat} {e : Expr} {es : List Expr} {t : Tg} {ts : Tgs} (h1 : Eg X io sl e t) (h2 : Egs X io sl2 es ts)
    (hs : (assignEach (e :: es) X.env).map (·.2) = assign e X.env :: (assignEach es X.env).map (·.2) := by rfl) : Egs X io (sl ++ sl2) (e :: es) (tgCons t ts) := by
  refine ⟨(pgs_cons h1.pg h2.pg hs).imp fun vs σ H Q ⟨S, env, fp, ps, o, C, G, env', e, h⟩ => ?_, fun ps e e' h => ?_⟩
  · cases ps with
    | nil => cases e
    | cons p r =>
      obtain ⟨v, rv, f1, f2, e1, e2, o1, o2⟩ := o
      obtain ⟨rfl, rfl⟩ := app_nil e2
      subst e1
      have e : (t p env).bind (fun e1 => ts r e1) = some env' := e
      cases q : t p env with
      | none => rw [q] at e; cases e
      | some env1 =>
        rw [q] at e
        refine ⟨v, rv, rfl, S, env, fp, p, o1, C, G, env1, q, fun σ1 fp1 C1 G1 sb1 l1 w1 => ?_⟩
        refine ⟨S, env1, fp1, r, o2, C1, G1, env', e, fun σ2 fp2 C2 G2 sb2 l2 w2 => ?_⟩
        exact h σ2 fp2 C2 G2 (fun a z => sb1 a (sb2 a z)) (l2.trans l1) fun j hj => (w2 j fun z => hj (List.mem_append_right _ z)).trans (w1 j fun z => hj (List.mem_append_left _ z))
  · cases ps with
    | nil => cases h
    | cons p r =>
      have h : (t p e).bind (fun e1 => ts r e1) = some e' := h
      cases q : t p e with
      | none => rw [q] at h; cases h
      | some e1 => rw [q] at h; exact congrArg (· + 1) (h2.ln _ _ _ h)
theorem eg_tup {sl : List Nat} {es : List Expr} {k n : Nat} {ts : Tgs} (hc : X.calm = true) (h : Egs X io sl es ts) (hl : es.length = n) (hn : (assignEach es X.env).length = n := by rfl) (hst : (assignEach es X.env).findIdx? (·.1) = none := by rfl) : Eg X io sl (.Tuple es k pos) (tgT ts) := by
  refine ⟨(pg_tup hc h.pg hn hst).imp fun v σ H Q ⟨S, env, fp, p, o, C, G, env', e, hq⟩ => ?_⟩
  cases p with
  | tup l =>
    obtain ⟨a, vs, e1, _, fr, os⟩ := o
    exact ⟨a, vs, e1, fr.sq, by rw [← os.length, h.ln _ _ _ e, hl], S, env, fp, l, os, C, G, env', e, hq⟩
  | _ => cases e
/-! ### what is walked -/
/-- J hands out the items, whatever else turns -/
structure ItOk (K : PySem.W.Frag) (J : It) (S : Addr → Prop) (H : Hp) (items : List PV) : Prop where
  go : ∀ (i : Nat) (p : PV) (S1 : Addr → Prop) (H1 : Hp), items[i]? = some p → (∀ a, S a → S1 a) → (∀ b o, S b → H b = some o → H1 b = some o) → (∀ a, S1 a → H1 a ≠ none) →
    J.go i H1 ∧ ∀ x H2, J.yld i H1 x H2 → ∃ S2, New S1 H1 S2 H2 [] ∧ Own K S2 H2 p x []
  stop : ∀ (i : Nat) (S1 : Addr → Prop) (H1 : Hp), items.length ≤ i → (∀ a, S a → S1 a) → (∀ b o, S b → H b = some o → H1 b = some o) → J.stop i H1
def PostI (X : Cx) (W : WX) (io : Io) (S : Addr → Prop) (H : Hp) (σ : L2.St) (fb : List Addr) (r : R (List PV)) (Rr : It → Hp → Prop) : Prop := match r with
  | .ok items env' => ∀ J S' H' fp', Cl X.K io S' H' σ env' fp' → Good S' H' fp' → Step S H fb S' H' fp' → ItOk X.K J S' H' items → Rr J H'
  | .ex x env' => ∀ cls d S' H' fp', XRel X.K X.mg S' H' x cls d → Cl X.K io S' H' σ env' fp' → Good S' H' fp' → Step S H fb S' H' fp' → W cls d σ H'
  | .stk => False
def semI (X : Cx) (W : WX) (io : Io) (f : Env → R (List PV)) : TI := fun σ H Rr => ∃ S env fp, Cl X.K io S H σ env fp ∧ Good S H fp ∧ PostI X W io S H σ fp (f env) Rr
structure Ei (X : Cx) (W : WX) (io : Io) (tg iter : Expr) (f : Env → R (List PV)) : Prop where
  pi : PI X tg iter (semI X W io f)
def itemsOf (p : PV) : Option (List PV) := match p with
  | .tup l => some l
  | .lst l => some l
  | .scr l => some l
  | _ => none
/-- a value that is a tuple or a list -/
def iV (f : Env → R PV) : Env → R (List PV) := fun env => (dFrz f env).bind fun p e => o1 (itemsOf p) e
theorem PostI.bind {α β : Type} {rel : Rl α β} {f : Env → R α} {k : α → Env → R (List PV)} {σ : L2.St} {env : Env} {fp : List Addr} {Rr : It → Hp → Prop} {P : β → Hp → Prop} (C : Cl X.K io S H σ env fp) (G : Good S H fp) (q : PostI X W io S H σ fp ((f env).bind k) Rr)
    (hk : ∀ p v S1 H1 env1 fv fp1, rel S1 H1 p v fv → Cl X.K io S1 H1 σ env1 fp1 → Good S1 H1 (fv ++ fp1) → f env = .ok p env1 → PostI X W io S1 H1 σ (fv ++ fp1) (k p env1) Rr → P v H1) : sem rel X W io m f σ H P := by
  refine ⟨S, env, fp, C, G, ?_⟩
  unfold Post
  cases e : f env with
  | stk => rw [e] at q; exact q
  | ex x env1 => rw [e] at q; exact fun cls d S' H' fp' a b c z => q cls d S' H' fp' a b c z
  | ok p env1 =>
    rw [e] at q
    have q : PostI X W io S H σ fp (k p env1) Rr := q
    intro v S1 H1 fv fp1 r1 C1 G1 st hm1
    refine hk p v S1 H1 env1 fv fp1 r1 C1 G1 e ?_
    cases ek : k p env1 with
    | stk => rw [ek] at q; exact q
    | ok items env' => rw [ek] at q; exact fun J S' H' fp' a b c d => q J S' H' fp' a b (st.trans c) d
    | ex x env' => rw [ek] at q; exact fun cls d S' H' fp' a b c z => q cls d S' H' fp' a b c (st.trans z)
theorem itOk_tup {a : Addr} {vs : List V} {l : List PV} (fr : FrT K S H a vs) (o : Owns K S H l vs []) : ItOk K (Itt K a) S H l where
  go := fun i p S1 H1 e su k dm => by
    have f1 := fr.stay k su
    have o1 : Owns K S1 H1 l vs [] := Owns.stay k su _ _ _ (fun _ _ z => nomatch z) o
    obtain ⟨v, h1, h2⟩ := o1.get e
    refine ⟨⟨vs, v, f1.sq, h1⟩, fun x H2 y => ?_⟩
    obtain ⟨e2, y⟩ := y
    subst e2
    have := y vs f1.sq
    rw [h1] at this
    cases this
    exact ⟨S1, New.refl dm, h2⟩
  stop := fun i S1 H1 hi su k => ⟨vs, (fr.stay k su).sq, by rw [← o.length]; exact hi⟩
theorem itOk_lst {a : Addr} {vs : List V} {l : List PV} (fr : FrL K S H a vs) (o : Owns K S H l vs []) : ItOk K (Itl K a) S H l where
  go := fun i p S1 H1 e su k dm => by
    have f1 := fr.stay k su
    have o1 : Owns K S1 H1 l vs [] := Owns.stay k su _ _ _ (fun _ _ z => nomatch z) o
    obtain ⟨v, h1, h2⟩ := o1.get e
    refine ⟨⟨vs, v, f1.sq, h1⟩, fun x H2 y => ?_⟩
    obtain ⟨e2, y⟩ := y
    subst e2
    have := y vs f1.sq
    rw [h1] at this
    cases this
    exact ⟨S1, New.refl dm, h2⟩
  stop := fun i S1 H1 hi su k => ⟨vs, (fr.stay k su).sq, by rw [← o.length]; exact hi⟩
def intsR (lo : Int) (n : Nat) : List PV := (List.range n).map fun (i : Nat) => PV.int (lo + i)
theorem itOk_rng {lo : Int} {n : Nat} : ItOk K (Itr lo n) S H (intsR lo n) where
  go := fun i p S1 H1 e su k dm => by
    unfold intsR at e
    rw [List.getElem?_map] at e
    by_cases hi : i < n
    · rw [List.getElem?_range hi] at e
      cases e
      refine ⟨hi, fun x H2 y => ?_⟩
      obtain ⟨e2, y⟩ := y
      subst e2 y
      exact ⟨S1, New.refl dm, rfl, rfl⟩
    · rw [List.getElem?_eq_none (by simpa using Nat.not_lt.mp hi)] at e
      cases e
  stop := fun i S1 H1 hi su k => by
    have hi : n ≤ i := by simpa [intsR] using hi
    exact hi
theorem pi_or {tg l : Expr} {w1 w2 : TI} (h1 : PI X tg l w1) (h2 : PI X tg l w2) : PI X tg l fun σ H Rr => w1 σ H Rr ∨ w2 σ H Rr := ⟨fun pins s σ H Rr I q => q.elim (h1.run pins s σ H Rr I) (h2.run pins s σ H Rr I)⟩
theorem o1_ex {α : Type} {o : Option α} {env : Env} {x : XV} {e : Env} : o1 o env ≠ .ex x e := by
  cases o <;> (intro h; cases h)
theorem ei_val {tg l : Expr} {f : Env → R PV} (ha : Ev X W io m l f) : Ei X W io tg l (iV f) := by
  refine ⟨(pi_or (pi_tup ha.frz.pe) (pi_list ha.frz.pe)).imp fun σ H Rr q => ?_⟩
  obtain ⟨S, env, fp, C, G, q⟩ := q
  have q : PostI X W io S H σ fp ((dFrz f env).bind fun p e => o1 (itemsOf p) e) Rr := q
  -- which of the two is known ahead
  cases e : dFrz f env with
  | stk => rw [e] at q; exact q.elim
  | ex x env1 =>
    exact .inl (PostI.bind (m := m) C G q fun p v S1 H1 env1 fv fp1 o C1 G1 e1 h1 => by rw [e] at e1; cases e1)
  | ok p0 env0 =>
    cases p0 with
    | tup l =>
      refine .inl (PostI.bind (m := m) C G q fun p v S1 H1 env1 fv fp1 o C1 G1 e1 h1 => ?_)
      rw [e] at e1
      cases e1
      obtain ⟨a, vs, e3, e4, fr, os⟩ := o
      subst e4
      exact ⟨a, e3, ⟨vs, fr.sq⟩, h1 _ S1 H1 fp1 C1 G1 Step.refl (itOk_tup fr os)⟩
    | lst l =>
      refine .inr (PostI.bind (m := m) C G q fun p v S1 H1 env1 fv fp1 o C1 G1 e1 h1 => ?_)
      rw [e] at e1
      cases e1
      obtain ⟨a, vs, e3, e4, fr, os⟩ := o
      subst e4
      exact ⟨a, e3, ⟨vs, SqL.of fr.2⟩, h1 _ S1 H1 fp1 C1 G1 Step.refl (itOk_lst (.inl ⟨fr.1, .inl fr.2⟩) os)⟩
    | scr l =>
      refine .inr (PostI.bind (m := m) C G q fun p v S1 H1 env1 fv fp1 o C1 G1 e1 h1 => ?_)
      rw [e] at e1
      cases e1
      obtain ⟨a, vs, e3, e4, fr, os⟩ := o
      subst e4
      exact ⟨a, e3, ⟨vs, fr.sq⟩, h1 _ S1 H1 fp1 C1 G1 Step.refl (itOk_lst fr os)⟩
    | _ => rw [e] at q; exact q.elim
/-- range(n), range(a, b) -/
def rngOf : List PV → Option (List PV)
  | [.int j] => if -(2 ^ 62) ≤ j ∧ j < 2 ^ 62 then some (intsR 0 j.toNat) else none
  | [.int i, .int j] => if -(2 ^ 62) ≤ i ∧ i < 2 ^ 62 ∧ -(2 ^ 62) ≤ j ∧ j < 2 ^ 62 then some (intsR i (j - i).toNat) else none
  | _ => none
def iR (fs : Env → R (List PV)) : Env → R (List PV) := fun env => (fs env).bind fun ps e => o1 (rngOf ps) e
theorem ei_rng1 {tg a : Expr} {fs : Env → R (List PV)} {p : Pos} (hg : Gl X "range") (hm : X.mg "range" = none) (ha : Ef X W io m [a] fs) (hs : starEach [a] X.env = [(false, eval a X.env)] := by rfl) : Ei X W io tg (.Call (.Name "range" p) [a] [] pos) (iR fs) := by
  refine ⟨(pi_range1 hg hm ha.pe hs).imp fun σ H Rr q => ?_⟩
  obtain ⟨S, env, fp, C, G, q⟩ := q
  refine PostI.bind C G q fun ps vs S1 H1 env1 fv fp1 o C1 G1 e1 h1 => ?_
  have z := ha.nf _ _ _ e1 _ _ _ _ _ o
  subst z
  have hl := ha.ln _ _ _ e1
  match ps, hl, h1, o with
  | [p], _, h1, o =>
    obtain ⟨v, r, f1, f2, e2, e3, o1', o2'⟩ := o
    obtain ⟨rfl, rfl⟩ := app_nil e3
    obtain ⟨rfl, _⟩ := o2'
    subst e2
    cases p with
    | int j =>
      obtain ⟨e4, _⟩ := o1'
      subst e4
      have h1 : PostI X W io S1 H1 σ fp1 (o1 (if -(2 ^ 62) ≤ j ∧ j < 2 ^ 62 then some (intsR 0 j.toNat) else none) env1) Rr := h1
      by_cases hj : -(2 ^ 62) ≤ j ∧ j < 2 ^ 62
      · rw [if_pos hj] at h1
        exact ⟨j, rfl, hj.1, hj.2, h1 _ S1 H1 fp1 C1 G1 Step.refl itOk_rng⟩
      · rw [if_neg hj] at h1
        exact h1.elim
    | _ => exact h1.elim
theorem ei_rng2 {tg a b : Expr} {fs : Env → R (List PV)} {p : Pos} (hg : Gl X "range") (hm : X.mg "range" = none) (ha : Ef X W io m [a, b] fs) (hs : starEach [a, b] X.env = [(false, eval a X.env), (false, eval b X.env)] := by rfl) (hs2 : starEach [b] X.env = [(false, eval b X.env)] := by rfl) :
    Ei X W io tg (.Call (.Name "range" p) [a, b] [] pos) (iR fs) := by
  refine ⟨(pi_range2 hg hm ha.pe hs hs2).imp fun σ H Rr q => ?_⟩
  obtain ⟨S, env, fp, C, G, q⟩ := q
  refine PostI.bind C G q fun ps vs S1 H1 env1 fv fp1 o C1 G1 e1 h1 => ?_
  have z := ha.nf _ _ _ e1 _ _ _ _ _ o
  subst z
  have hl := ha.ln _ _ _ e1
  match ps, hl, h1, o with
  | [p, p2], _, h1, o =>
    obtain ⟨v, r, f1, f2, e2, e3, o1', o2'⟩ := o
    obtain ⟨rfl, rfl⟩ := app_nil e3
    obtain ⟨v2, r2, f3, f4, e5, e6, o3', o4'⟩ := o2'
    obtain ⟨rfl, rfl⟩ := app_nil e6
    obtain ⟨rfl, _⟩ := o4'
    subst e5 e2
    cases p with
    | int i =>
      cases p2 with
      | int j =>
        obtain ⟨e4, _⟩ := o1'
        subst e4
        obtain ⟨e4, _⟩ := o3'
        subst e4
        have h1 : PostI X W io S1 H1 σ fp1 (o1 (if -(2 ^ 62) ≤ i ∧ i < 2 ^ 62 ∧ -(2 ^ 62) ≤ j ∧ j < 2 ^ 62 then some (intsR i (j - i).toNat) else none) env1) Rr := h1
        by_cases hj : -(2 ^ 62) ≤ i ∧ i < 2 ^ 62 ∧ -(2 ^ 62) ≤ j ∧ j < 2 ^ 62
        · rw [if_pos hj] at h1
          exact ⟨i, j, rfl, hj, h1 _ S1 H1 fp1 C1 G1 Step.refl itOk_rng⟩
        · rw [if_neg hj] at h1
          exact h1.elim
      | _ => exact h1.elim
    | _ => exact h1.elim
/-! ### for -/
def RS.turn (r : RS) (k : Env → RS) : RS := match r with
  | .nx e => k e
  | .ct e => k e
  | .bk e => .nx e
  | .rt p e => .rt p e
  | .ex x e => .ex x e
  | .stk => .stk
def tgS (o : Option Env) (k : Env → RS) : RS := match o with
  | some e => k e
  | none => .stk
def forD (tg : Tg) (body : Env → RS) : List PV → Env → RS
  | [], e => .nx e
  | p :: ps, e => (tgS (tg p e) body).turn (forD tg body ps)
def sFor (f : Env → R (List PV)) (tg : Tg) (body : Env → RS) : Env → RS := fun env => (f env).toS fun items e => forD tg body items e
theorem PostS.turn {fb : List Addr} {r : RS} {k : Env → RS} {D : Ends} {N : L2.St → Hp → Prop} (h : PostS X W io S H fb (r.turn k) D) (hN : ∀ σ' e' S' H' fp', Cl X.K io S' H' σ' e' fp' → Good S' H' fp' → Step S H fb S' H' fp' → PostS X W io S' H' fp' (k e') D → N σ' H') :
    PostS X W io S H fb r { D with nx := N, ct := N, bk := D.nx } := by
  cases r with
  | stk => exact h
  | nx e => exact fun σ' S' H' fp' a b c => hN σ' e S' H' fp' a b c (PostS.move h c)
  | ct e => exact fun σ' S' H' fp' a b c => hN σ' e S' H' fp' a b c (PostS.move h c)
  | bk e => exact h
  | rt p e => exact h
  | ex x e => exact h
theorem es_for {sl : List Nat} {tg iter : Expr} {sts : List Stmt} {f : Env → R (List PV)} {t : Tg} {body : Env → RS} (hp : PassesOwn (model X.prog X.w) X.A X.env X.xe) (hc : X.calm = true) (hi : Ei X W io tg iter f) (hg : Eg X io sl tg t) (hb : Ess X W io sts body)
    (hs : ∀ x, foldedSetIterable iter X.env x = pure x := by intro _; rfl) : Es X W io (.For tg iter sts [] pos) (sFor f t body) := by
  refine ⟨(ps_for hp hc hi.pi hg.pg hb.ps hs).imp fun D σ H q => ?_⟩
  obtain ⟨S, env, fp, C, G, q⟩ := q
  refine ⟨S, env, fp, C, G, ?_⟩
  unfold sFor at q
  cases e : f env with
  | stk => rw [e] at q; exact q
  | ex x env1 => rw [e] at q; exact fun cls d S' H' fp' a b c z => q cls d σ S' H' fp' a b c z
  | ok items env1 =>
    rw [e] at q
    have q : PostS X W io S H fp (forD t body items env1) D := q
    intro J S1 H1 fp1 C1 G1 st1 it
    refine ⟨fun i n σ H => n = items.length - i ∧ ∃ S2 env2 fp2, Cl X.K io S2 H σ env2 fp2 ∧ Good S2 H fp2 ∧ (∀ a, S1 a → S2 a) ∧ (∀ b o, S1 b → H1 b = some o → H b = some o) ∧ PostS X W io S2 H fp2 (forD t body (items.drop i) env2) D,
      ⟨items.length, rfl, S1, env1, fp1, C1, G1, fun _ h => h, fun _ _ _ h => h, PostS.move q st1⟩, ?_⟩
    rintro i n σ2 H2 ⟨rfl, S2, env2, fp2, C2, G2, su2, k2, q2⟩
    by_cases hlt : i < items.length
    · refine .inr ?_
      have ei : items[i]? = some items[i] := List.getElem?_eq_getElem hlt
      obtain ⟨go, yl⟩ := it.go i items[i] S2 H2 ei su2 k2 G2.dm
      refine ⟨go, _, fun σ' H' h => ⟨items.length - (i + 1), by omega, h⟩, fun x H3 y => ?_⟩
      obtain ⟨S3, n3, o3⟩ := yl x H3 y
      rw [List.drop_eq_getElem_cons hlt] at q2
      have C3 : Cl X.K io S3 H3 σ2 env2 fp2 := ⟨OwnE.stay (fun b o _ e => n3.same b o e) n3.su _ _ _ (fun b o _ e => n3.same b o e) C2.own, C2.io.stay (fun b o _ e => n3.same b o e) n3.su⟩
      have G3 : Good S3 H3 fp2 := ⟨G2.nd, fun a h s => (n3.sb a s).elim (G2.dj a h) (G2.al a h), n3.dm, fun a h => Same.ne n3.same a (G2.al a h)⟩
      have q2 : PostS X W io S2 H2 fp2 ((tgS (t items[i] env2) body).turn (forD t body (items.drop (i + 1)))) D := q2
      have q3 := PostS.move q2 ((n3.step fp2).sub (fp2 := fp2) fun a h => h)
      cases et : t items[i] env2 with
      | none => rw [et] at q3; exact q3.elim
      | some env3 =>
        rw [et] at q3
        refine ⟨S3, env2, fp2, items[i], o3, C3, G3, env3, et, fun σ' fp' C' G' sb l w => ?_⟩
        have q4 := PostS.turn (N := fun σ H => items.length - (i + 1) = items.length - (i + 1) ∧ ∃ S2 env2 fp2, Cl X.K io S2 H σ env2 fp2 ∧ Good S2 H fp2 ∧ (∀ a, S1 a → S2 a) ∧ (∀ b o, S1 b → H1 b = some o → H b = some o) ∧ PostS X W io S2 H fp2 (forD t body (items.drop (i + 1)) env2) D) (PostS.move q3 (Step.refl.sub sb)) (fun σ5 e5 S5 H5 fp5 C5 G5 st5 q5 => ?_)
        · exact ⟨S3, env3, fp', C', G', q4⟩
        · refine ⟨rfl, S5, e5, fp5, C5, G5, fun a h => st5.su a (n3.su a (su2 a h)), fun b o s e => ?_, q5⟩
          have e3 := n3.same b o (k2 b o s e)
          exact st5.fr b o e3 fun h => G3.dj b (sb b h) (n3.su b (su2 b s))
    · refine .inl ⟨it.stop i S2 H2 (by omega) su2 k2, ?_⟩
      rw [List.drop_eq_nil_of_le (by omega)] at q2
      exact q2 σ2 S2 H2 fp2 C2 G2 Step.refl
/-! ### while -/
def whileN (t : Env → R Bool) (body : Env → RS) : Nat → Env → RS
  | 0, _ => .stk
  | n + 1, env => (t env).toS fun b e => if b = true then (body e).turn (whileN t body n) else .nx e
open Classical in
noncomputable def sWhile (t : Env → R Bool) (body : Env → RS) : Env → RS := fun env => if h : ∃ n, whileN t body n env ≠ .stk then whileN t body (Classical.choose h) env else .stk
theorem es_while {c : Expr} {sts : List Stmt} {t : Env → R Bool} {body : Env → RS} (hp : PassesOwn (model X.prog X.w) X.A X.env X.xe) (hc : Et X W io m c t) (hb : Ess X W io sts body) : Es X W io (.While c sts [] pos) (sWhile t body) := by
  refine ⟨(ps_while hp hc.pe hb.ps).imp fun D σ H q => ?_⟩
  obtain ⟨S, env, fp, C, G, q⟩ := q
  unfold sWhile at q
  split at q
  · next h =>
    refine ⟨fun n σ H => ∃ S env fp, Cl X.K io S H σ env fp ∧ Good S H fp ∧ PostS X W io S H fp (whileN t body n env) D, ⟨_, S, env, fp, C, G, q⟩, ?_⟩
    rintro n σ1 H1 ⟨S1, env1, fp1, C1, G1, q1⟩
    cases n with
    | zero => exact q1.elim
    | succ n =>
      refine PostS.bind C1 G1 q1 fun b v S2 H2 env2 fv fp2 o C2 G2 e2 q2 => ?_
      obtain ⟨e3, e4⟩ := o
      subst e3 e4
      cases v with
      | true =>
        rw [if_pos rfl]
        refine ⟨_, fun σ' H' h => ⟨n, Nat.lt_succ_self n, h⟩, S2, env2, fp2, C2, G2, PostS.turn q2 fun σ5 e5 S5 H5 fp5 C5 G5 st5 q5 => ⟨S5, e5, fp5, C5, G5, q5⟩⟩
      | false =>
        rw [if_neg (by decide)]
        exact q2 σ1 S2 H2 fp2 C2 G2 Step.refl
  · exact q.elim
end
end L3

namespace L3
open PySem PySem.Spec PyProof.Rows L2
/-! ### comprehensions -/
def wipeE (e : Env) : List Nat → Env
  | [] => e
  | v :: vs => (wipeE e vs).set v none
/-- the block's own names hold again what they held -/
def backE (e0 : Env) : List Nat → Env → Option Env
  | [], e => some e
  | v :: vs, e => match e[v]?, e0[v]? with
    | some none, some (some p) => if isOwn p = true then none else backE e0 vs (e.set v (some p))
    | some none, some none => backE e0 vs e
    | _, _ => none
section
variable {K : PySem.W.Frag} {S S' : Addr → Prop} {H H' : Hp} {X : Cx} {W : WX} {io : Io} {m m1 m2 m3 : Bool} {pos : Pos} {σ : L2.St} {env : Env} {fp : List Addr}
theorem ownE_wipe : ∀ (vs : List Nat) {env : Env} {σ : L2.St} {fp : List Addr}, OwnE K S H env σ fp → ∃ f2, OwnE K S H (wipeE env vs) (L2.wipe σ vs) f2 ∧ f2.Sublist fp
  | [], env, σ, fp, h => ⟨fp, h, List.Sublist.refl _⟩
  | v :: vs, env, σ, fp, h => by
    obtain ⟨f2, h1, h2⟩ := ownE_wipe vs h
    obtain ⟨f3, h3, h4⟩ := OwnE.drop v none h1
    exact ⟨f3, h3, h4.trans h2⟩
theorem wipe_get : ∀ (vs : List Nat) (σ : L2.St) (j : Nat), j ∉ vs → (L2.wipe σ vs)[j]? = σ[j]?
  | [], _, _, _ => rfl
  | v :: vs, σ, j, h => by
    show ((L2.wipe σ vs).set v none)[j]? = _
    rw [List.getElem?_set_ne fun e => h (by rw [e]; exact List.mem_cons_self)]
    exact wipe_get vs σ j fun z => h (List.mem_cons_of_mem _ z)
theorem wipe_at : ∀ (vs : List Nat) (σ : L2.St) (j : Nat), j ∈ vs → j < σ.length → (L2.wipe σ vs)[j]? = some none
  | v :: vs, σ, j, h, hl => by
    show ((L2.wipe σ vs).set v none)[j]? = _
    by_cases e : v = j
    · subst e
      rw [List.getElem?_set_self (by rw [L2.wipe_length]; exact hl)]
    · rw [List.getElem?_set_ne e]
      exact wipe_at vs σ j ((List.mem_cons.mp h).resolve_left fun z => e z.symm) hl
theorem wipe_ext {σ1 σ2 : L2.St} {vs : List Nat} (hl : σ1.length = σ2.length) (h : ∀ j, j ∉ vs → σ1[j]? = σ2[j]?) : L2.wipe σ1 vs = L2.wipe σ2 vs := by
  refine List.ext_getElem? fun j => ?_
  by_cases hj : j ∈ vs
  · by_cases hlt : j < σ1.length
    · rw [wipe_at vs σ1 j hj hlt, wipe_at vs σ2 j hj (by rw [← hl]; exact hlt)]
    · rw [List.getElem?_eq_none (by rw [L2.wipe_length]; omega), List.getElem?_eq_none (by rw [L2.wipe_length]; omega)]
  · rw [wipe_get vs σ1 j hj, wipe_get vs σ2 j hj]
    exact h j hj
theorem cl_wipe {vs : List Nat} (hio : ∀ v, v ∈ vs → io.1.contains v = false) (C : Cl K io S H σ env fp) (G : Good S H fp) : ∃ f2, Cl K io S H (L2.wipe σ vs) (wipeE env vs) f2 ∧ Good S H f2 ∧ f2.Sublist fp := by
  obtain ⟨f2, h1, h2⟩ := ownE_wipe vs C.own
  refine ⟨f2, ⟨h1, fun j hj => ?_, C.io.kp⟩, G.sub h2, h2⟩
  rw [wipe_get vs σ j fun z => ?_]
  · exact C.io.ix j hj
  · have := hio j z
    have q : io.1.contains j = true := by simpa using hj
    rw [this] at q; cases q
theorem OwnE.any : ∀ {env : Env} {σ : L2.St} {fp : List Addr} {i : Nat} (o : Option V), OwnE K S H env σ fp → env[i]? = some none → OwnE K S H env (σ.set i o) fp
  | [], _, _, _, _, _, e => by simp at e
  | none :: es, σ, fp, 0, o, h, e => by
    obtain ⟨o', r, e2, q⟩ := h
    subst e2
    exact ⟨o, r, rfl, q⟩
  | none :: es, σ, fp, i + 1, o, h, e => by
    obtain ⟨o', r, e2, q⟩ := h
    subst e2
    exact ⟨o', r.set i o, rfl, OwnE.any (i := i) o q (by simpa using e)⟩
  | some p :: es, σ, fp, 0, o, h, e => by simp at e
  | some p :: es, σ, fp, i + 1, o, h, e => by
    obtain ⟨v, r, f1, f2, e2, e3, q, q2⟩ := h
    subst e2
    exact ⟨v, r.set i o, f1, f2, rfl, e3, q, OwnE.any (i := i) o q2 (by simpa using e)⟩
/-- back in the def's own names -/
theorem ownE_back : ∀ (vs : List Nat) {e e' e0 : Env} {σ τ : L2.St} {fp : List Addr}, (∀ (i : Nat) (p : PV), e0[i]? = some (some p) → isOwn p = false → ∃ v, σ[i]? = some (some v) ∧ Own K S H p v []) → e0.length = σ.length →
    OwnE K S H e τ fp → backE e0 vs e = some e' → τ.length = σ.length → ∃ τ' f', OwnE K S H e' τ' f' ∧ f'.Perm fp ∧ τ'.length = σ.length ∧ (∀ j, j ∉ vs → τ'[j]? = τ[j]?) ∧ (∀ j, j ∈ vs → τ'[j]? = σ[j]?)
  | [], e, e', e0, σ, τ, fp, h0, hl, o, e1, ht => by
    cases e1
    exact ⟨τ, fp, o, List.Perm.refl _, ht, fun _ _ => rfl, fun _ h => nomatch h⟩
  | v :: vs, e, e', e0, σ, τ, fp, h0, hl, o, e1, ht => by
    unfold backE at e1
    split at e1
    · next p ev e0v =>
      split at e1
      · cases e1
      · next no =>
        obtain ⟨u, hu, ou⟩ := h0 v p e0v (by simpa using no)
        have hlt : v < τ.length := by
          rw [ht, ← hl]
          exact (List.getElem?_eq_some_iff.mp e0v).1
        have o3 := OwnE.any (i := v) (some u) o ev
        obtain ⟨f', h1, h2⟩ := OwnE.put (i := v) o3 ev (by rw [List.getElem?_set_self hlt]) ou
        obtain ⟨τ', f2, a1, a2, a3, a4, a5⟩ := ownE_back vs h0 hl h1 e1 (by rw [List.length_set]; exact ht)
        refine ⟨τ', f2, a1, a2.trans h2, a3, fun j hj => ?_, fun j hj => ?_⟩
        · rw [a4 j fun z => hj (List.mem_cons_of_mem _ z), List.getElem?_set_ne fun z => hj (by rw [z]; exact List.mem_cons_self)]
        · by_cases hv : j ∈ vs
          · exact a5 j hv
          · have : j = v := (List.mem_cons.mp hj).resolve_right hv
            subst this
            rw [a4 j hv, List.getElem?_set_self hlt, hu]
    · next ev e0v =>
      have hlt : v < τ.length := by
        rw [ht, ← hl]
        exact (List.getElem?_eq_some_iff.mp e0v).1
      have hs : v < σ.length := by rw [← ht]; exact hlt
      have o3 := OwnE.any (i := v) σ[v] o ev
      obtain ⟨τ', f2, a1, a2, a3, a4, a5⟩ := ownE_back vs h0 hl o3 e1 (by rw [List.length_set]; exact ht)
      refine ⟨τ', f2, a1, a2, a3, fun j hj => ?_, fun j hj => ?_⟩
      · rw [a4 j fun z => hj (List.mem_cons_of_mem _ z), List.getElem?_set_ne fun z => hj (by rw [z]; exact List.mem_cons_self)]
      · by_cases hv : j ∈ vs
        · exact a5 j hv
        · have : j = v := (List.mem_cons.mp hj).resolve_right hv
          subst this
          rw [a4 j hv, List.getElem?_set_self hlt, List.getElem?_eq_getElem hs]
    · cases e1
/-- the loop of a comprehension: the parts that come of the items -/
def lcN (own : List Nat) (tg : Tg) (cond : Env → R Bool) (elt : Env → R PV) : List PV → Env → R (List PV)
  | [], e => .ok [] e
  | p :: ps, e => match tg p e with
    | none => .stk
    | some e1 => (cond e1).bind fun b e2 => if b = true then (elt e2).bind fun q e3 => (lcN own tg cond elt ps (wipeE e3 own)).bind fun qs e4 => .ok (q :: qs) e4 else lcN own tg cond elt ps (wipeE e2 own)
def R.noex {α : Type} : R α → R α
  | .ex _ _ => .stk
  | r => r
def dLc (own : List Nat) (f : Env → R (List PV)) (tg : Tg) (cond : Env → R Bool) (elt : Env → R PV) : Env → R PV := fun env => (f env).bind fun items e => if items.length < 16000000 then (lcN own tg cond elt items (wipeE e own)).noex.bind fun qs e1 => match backE e own e1 with
  | some e2 => .ok (.mls qs) e2
  | none => .stk else .stk
def tYesD : Env → R Bool := fun env => .ok true env
theorem len_line {n : Nat} (h : n < 16000000) : n < sizeLine := Nat.lt_trans h (by decide)
/-- no exception leaves a comprehension's block -/
abbrev W0 : WX := fun _ _ _ _ => False
theorem sem_lc {own sl : List Nat} {f : Env → R (List PV)} {tg : Tg} {cond : Env → R Bool} {elt : Env → R PV} {Q : VK} (hio : ∀ v, v ∈ own → io.1.contains v = false) (hsl : ∀ j, j ∈ sl → j ∈ own) (q : sem (RV X.K) X W io true (dLc own f tg cond elt) σ H Q) :
    tLc (semI X W io f) (semG X.K io sl tg) (sem RB X W0 io m1 cond) (sem (RV X.K) X W0 io m2 elt) own σ H Q := by
  obtain ⟨S, env, fp, C, G, q⟩ := q
  refine ⟨S, env, fp, C, G, ?_⟩
  unfold dLc at q
  cases e : f env with
  | stk => rw [e] at q; exact q
  | ex x env1 => rw [e] at q; exact fun cls d S' H' fp' a b c z => q cls d S' H' fp' a b c z
  | ok items env1 =>
    rw [e] at q
    intro J S1 H1 fp1 C1 G1 st1 it
    have q : Post (RV X.K) X W io true S H σ fp fp (if items.length < 16000000 then (lcN own tg cond elt items (wipeE env1 own)).noex.bind fun qs e1 => match backE env1 own e1 with
      | some e2 => .ok (.mls qs) e2
      | none => .stk else .stk) Q := q
    by_cases hz : items.length < 16000000
    · rw [if_pos hz] at q
      intro D hD
      have sD : L2.Same H1 (upd H1 D (.lst [])) := fun b u e => by rw [upd_ne (ne_of_none e hD)]; exact e
      obtain ⟨fw, Cw, Gw, sw⟩ := cl_wipe hio C1 G1
      -- how it goes on from a turn: what is made so far, what is still to come
      let Inv := fun (i n : Nat) (H2 : Hp) => n = items.length - i ∧ ∃ S2 env2 fp2 done acc fa, Cl X.K io S2 H2 (L2.wipe σ own) env2 fp2 ∧ H2 D = some (.lst acc) ∧ Owns X.K S2 H2 done acc fa ∧ done.length ≤ i ∧ Good S2 H2 (D :: (fa ++ fp2)) ∧ Step S1 H1 fp1 S2 H2 (D :: (fa ++ fp2)) ∧
        ∃ rest e1, lcN own tg cond elt (items.drop i) env2 = .ok rest e1 ∧ ∃ e2, backE env1 own e1 = some e2 ∧ Post (RV X.K) X W io true S H σ fp fp (.ok (.mls (done ++ rest)) e2) Q
      -- the first
      have start : ∃ rest e1, lcN own tg cond elt items (wipeE env1 own) = .ok rest e1 ∧ ∃ e2, backE env1 own e1 = some e2 ∧ Post (RV X.K) X W io true S H σ fp fp (.ok (.mls rest) e2) Q := by
        cases el : lcN own tg cond elt items (wipeE env1 own) with
        | stk => rw [el] at q; exact q.elim
        | ex x e' => rw [el] at q; exact q.elim
        | ok rest e1 =>
          rw [el] at q
          have q : Post (RV X.K) X W io true S H σ fp fp (match backE env1 own e1 with
            | some e2 => .ok (.mls rest) e2
            | none => .stk) Q := q
          cases eb : backE env1 own e1 with
          | none => rw [eb] at q; exact q.elim
          | some e2 => rw [eb] at q; exact ⟨rest, e1, rfl, e2, eb, q⟩
      obtain ⟨rest, e1, el, e2, eb, qf⟩ := start
      refine ⟨fun i n H2 => Inv i n H2, ⟨items.length, rfl, S1, wipeE env1 own, fw, [], [], [], ⟨OwnE.stay (fun b o _ e => sD b o e) (fun _ h => h) _ _ _ (fun b o _ e => sD b o e) Cw.own, Cw.io.stay (fun b o _ e => sD b o e) (fun _ h => h)⟩, upd_same, ⟨rfl, rfl⟩, Nat.le_refl _, ?_, ?_, rest, e1, el, e2, eb, qf⟩, ?_⟩
      · refine ⟨List.nodup_cons.mpr ⟨fun h => Gw.al D h hD, Gw.nd⟩, fun a h => ?_, fun a h => Same.ne sD a (Gw.dm a h), fun a h => ?_⟩
        · rcases List.mem_cons.mp h with rfl | h
          · exact fun z => Gw.dm _ z hD
          · exact Gw.dj a h
        · rcases List.mem_cons.mp h with rfl | h
          · rw [upd_same]; simp
          · exact Same.ne sD a (Gw.al a h)
      · refine ⟨fun a o e _ => sD a o e, fun _ h => h, fun _ h => .inl h, fun a h => ?_, fun a h => Same.ne sD a h⟩
        rcases List.mem_cons.mp h with rfl | h
        · exact .inr hD
        · exact .inl (sw.subset h)
      · rintro i n H2 ⟨rfl, S2, env2, fp2, done, acc, fa, C2, hDa, oa, hdl, G2, st2, rest, e1, el, e2, eb, qf⟩
        have su2 : ∀ a, S1 a → S2 a := st2.su
        have k2 : ∀ b o, S1 b → H1 b = some o → H2 b = some o := fun b o s e => st2.fr b o e fun h => G1.dj b h s
        have G2e : Good S2 H2 fp2 := (G2.right (f := D :: fa))
        by_cases hlt : i < items.length
        · refine .inr ?_
          have ei : items[i]? = some items[i] := List.getElem?_eq_getElem hlt
          obtain ⟨go, yl⟩ := it.go i items[i] S2 H2 ei su2 k2 G2.dm
          refine ⟨go, fun H3 => Inv (i + 1) (items.length - (i + 1)) H3, fun H' h => ⟨items.length - (i + 1), by omega, h⟩, fun x H3 y => ?_⟩
          obtain ⟨S3, n3, o3⟩ := yl x H3 y
          rw [List.drop_eq_getElem_cons hlt] at el
          have C3 : Cl X.K io S3 H3 (L2.wipe σ own) env2 fp2 := ⟨OwnE.stay (fun b o _ e => n3.same b o e) n3.su _ _ _ (fun b o _ e => n3.same b o e) C2.own, C2.io.stay (fun b o _ e => n3.same b o e) n3.su⟩
          have G3 : Good S3 H3 (D :: (fa ++ fp2)) := ⟨G2.nd, fun a h s => (n3.sb a s).elim (G2.dj a h) (G2.al a h), n3.dm, fun a h => Same.ne n3.same a (G2.al a h)⟩
          have oa3 : Owns X.K S3 H3 done acc fa := Owns.stay (fun b o _ e => n3.same b o e) n3.su _ _ _ (fun b o _ e => n3.same b o e) oa
          have hD3 : H3 D = some (.lst acc) := n3.same D _ hDa
          have st3 : Step S1 H1 fp1 S3 H3 (D :: (fa ++ fp2)) := st2.trans ((n3.step _).sub fun a h => h)
          have el : (match tg items[i] env2 with
            | none => .stk
            | some e1 => (cond e1).bind fun b e2 => if b = true then (elt e2).bind fun q e3 => (lcN own tg cond elt (items.drop (i + 1)) (wipeE e3 own)).bind fun qs e4 => .ok (q :: qs) e4 else lcN own tg cond elt (items.drop (i + 1)) (wipeE e2 own)) = R.ok rest e1 := el
          cases et : tg items[i] env2 with
          | none => rw [et] at el; cases el
          | some env3 =>
            rw [et] at el
            have el : ((cond env3).bind fun b e2 => if b = true then (elt e2).bind fun q e3 => (lcN own tg cond elt (items.drop (i + 1)) (wipeE e3 own)).bind fun qs e4 => .ok (q :: qs) e4 else lcN own tg cond elt (items.drop (i + 1)) (wipeE e2 own)) = R.ok rest e1 := el
            refine ⟨S3, env2, fp2, items[i], o3, C3, G3.right (f := D :: fa), env3, et, fun σ4 fp4 C4 G4 sb4 l4 w4 => ?_⟩
            have hw4 : L2.wipe σ4 own = L2.wipe σ own := by
              have z : L2.wipe σ4 own = L2.wipe (L2.wipe σ own) own := wipe_ext l4 fun j hj => w4 j fun z => hj (hsl j z)
              rw [z]
              exact wipe_ext (L2.wipe_length σ own) fun j hj => wipe_get own σ j hj
            refine ⟨hw4, ?_⟩
            have hw0 : L2.wipe (L2.wipe σ own) own = L2.wipe σ own := wipe_ext (L2.wipe_length σ own) fun j hj => wipe_get own σ j hj
            -- the footprints beside
            have hB : ∀ a, a ∈ D :: fa → a ∉ fp4 := fun a h z => by
              have : (D :: (fa ++ fp2)) = (D :: fa) ++ fp2 := rfl
              rw [this] at G3
              exact G3.apart a h (sb4 a z)
            have GB : Good S3 H3 ((D :: fa) ++ fp4) := by
              have G3' : Good S3 H3 ((D :: fa) ++ fp2) := G3
              exact ⟨List.nodup_append.mpr ⟨G3'.left.nd, G4.nd, fun a h b h' e => by subst e; exact hB a h h'⟩, fun a h => (List.mem_append.mp h).elim (fun z => G3'.dj a (List.mem_append_left _ z)) (G4.dj a), G4.dm, fun a h => (List.mem_append.mp h).elim (fun z => G3'.al a (List.mem_append_left _ z)) (G4.al a)⟩
            have oD : ∀ {S5 : Addr → Prop} {H5 : Hp} {fp5 : List Addr}, Step S3 H3 fp4 S5 H5 fp5 → H5 D = some (.lst acc) ∧ Owns X.K S5 H5 done acc fa := fun {S5 H5 fp5} s => ⟨s.fr D _ hD3 (hB D List.mem_cons_self), Owns.stay (fun b o q e => s.fr b o e fun h => G4.dj b h q) s.su _ _ _ (fun b o h e => s.fr b o e (hB b (List.mem_cons_of_mem _ h))) oa3⟩
            -- the test
            refine ⟨S3, env3, fp4, C4, G4, ?_⟩
            cases ec : cond env3 with
            | stk => rw [ec] at el; cases el
            | ex x e' => rw [ec] at el; cases el
            | ok b env4 =>
              rw [ec] at el
              have el : (if b = true then (elt env4).bind fun q e3 => (lcN own tg cond elt (items.drop (i + 1)) (wipeE e3 own)).bind fun qs e4 => .ok (q :: qs) e4 else lcN own tg cond elt (items.drop (i + 1)) (wipeE env4 own)) = R.ok rest e1 := el
              intro bb S5 H5 fv5 fp5 ob C5 G5 st5 _
              obtain ⟨rfl, rfl⟩ := ob
              have G5 : Good S5 H5 fp5 := G5
              have st5 : Step S3 H3 fp4 S5 H5 fp5 := st5
              cases bb with
              | false =>
                rw [if_neg (by decide)] at el ⊢
                obtain ⟨hD5, oa5⟩ := oD st5
                obtain ⟨f6, C6, G6, s6⟩ := cl_wipe hio C5 G5
                rw [hw4] at C6
                have gg := Step.good (fv := []) (fp1 := fp5) (ft := D :: fa) (fp := fp4) st5 GB G5
                have ww := Step.wide (fv := []) (fp1 := fp5) (ft := D :: fa) (fp := fp4) st5
                have sb6 : (D :: (fa ++ f6)).Sublist (D :: (fa ++ fp5)) := List.Sublist.cons_cons D (List.Sublist.append_left s6 fa)
                refine ⟨rfl, S5, _, f6, done, acc, fa, C6, hD5, oa5, Nat.le_succ_of_le hdl, gg.sub sb6, ?_, rest, e1, el, e2, eb, qf⟩
                refine Step.trans (fp1 := (D :: fa) ++ fp4) (st3.sub fun a h => ?_) (ww.sub fun a h => sb6.subset h)
                rcases List.mem_append.mp h with z | z
                · exact List.mem_append_left _ z
                · exact List.mem_append_right (D :: fa) (sb4 a z)
              | true =>
                rw [if_pos rfl] at el ⊢
                refine ⟨S5, env4, fp5, C5, G5, ?_⟩
                cases ee : elt env4 with
                | stk => rw [ee] at el; cases el
                | ex x e' => rw [ee] at el; cases el
                | ok q5 env5 =>
                  rw [ee] at el
                  have el : ((lcN own tg cond elt (items.drop (i + 1)) (wipeE env5 own)).bind fun qs e4 => R.ok (q5 :: qs) e4) = R.ok rest e1 := el
                  intro v7 S7 H7 fv7 fp7 ov C7 G7 st7 _
                  have s37 := st5.trans st7
                  obtain ⟨hD7, oa7⟩ := oD s37
                  refine ⟨acc, hD7, len_line (by have := oa7.length; omega), ?_⟩
                  have gg := Step.good (fv := fv7) (fp1 := fp7) (ft := D :: fa) (fp := fp4) s37 GB G7
                  have ww := Step.wide (fv := fv7) (fp1 := fp7) (ft := D :: fa) (fp := fp4) s37
                  obtain ⟨f8, C8, G8, s8⟩ := cl_wipe hio C7 G7.right
                  rw [hw4] at C8
                  -- the new list's cell
                  have upS : ∀ b o, b ≠ D → H7 b = some o → upd H7 D (.lst (acc ++ [v7])) b = some o := fun b o n e => by rw [upd_ne n]; exact e
                  have gD : D ∉ fv7 ++ fp7 ∧ D ∉ fa := by
                    have nd := gg.nd
                    have p : (fv7 ++ ((D :: fa) ++ fp7)).Perm (D :: (fa ++ (fv7 ++ fp7))) := by
                      refine (List.perm_append_comm_assoc fv7 (D :: fa) fp7).trans ?_
                      exact List.Perm.refl _
                    have nd2 := (p.nodup_iff.mp nd)
                    have := (List.nodup_cons.mp nd2).1
                    exact ⟨fun h => this (List.mem_append_right _ h), fun h => this (List.mem_append_left _ h)⟩
                  have nSD : ¬ S7 D := gg.dj D (List.mem_append_right _ (List.mem_append_left _ List.mem_cons_self))
                  have frS : ∀ b o, S7 b → H7 b = some o → upd H7 D (.lst (acc ++ [v7])) b = some o := fun b o s e => upS b o (fun z => by subst z; exact nSD s) e
                  have oV : Own X.K S7 (upd H7 D (.lst (acc ++ [v7]))) q5 v7 fv7 := Own.stay frS (fun _ h => h) _ _ _ (fun b o h e => upS b o (fun z => by subst z; exact gD.1 (List.mem_append_left _ h)) e) ov
                  have oA : Owns X.K S7 (upd H7 D (.lst (acc ++ [v7]))) done acc fa := Owns.stay frS (fun _ h => h) _ _ _ (fun b o h e => upS b o (fun z => by subst z; exact gD.2 h) e) oa7
                  have oN : Owns X.K S7 (upd H7 D (.lst (acc ++ [v7]))) (done ++ [q5]) (acc ++ [v7]) (fa ++ fv7) := by
                    clear el qf hdl hDa oa oa3 hD3 hD7 oa7 st2 st3 G2 G3 GB gg ww gD oD hB G2e
                    clear upS frS
                    revert oA
                    generalize upd H7 D (.lst (acc ++ [v7])) = HH at oV
                    intro oA
                    induction done generalizing acc fa with
                    | nil =>
                      obtain ⟨rfl, rfl⟩ := oA
                      exact ⟨v7, [], fv7, [], rfl, (List.append_nil fv7).symm, oV, rfl, rfl⟩
                    | cons d ds ih =>
                      obtain ⟨v, r, g1, g2, rfl, rfl, oo1, oo2⟩ := oA
                      exact ⟨v, r ++ [v7], g1, g2 ++ fv7, rfl, (List.append_assoc g1 g2 fv7), oo1, ih r g2 oo2⟩
                  have oE : OwnE X.K S7 (upd H7 D (.lst (acc ++ [v7]))) (wipeE env5 own) (L2.wipe σ own) f8 := OwnE.stay frS (fun _ h => h) _ _ _ (fun b o h e => upS b o (fun z => by subst z; exact gD.1 (List.mem_append_right _ (s8.subset h))) e) C8.own
                  cases er : lcN own tg cond elt (items.drop (i + 1)) (wipeE env5 own) with
                  | stk => rw [er] at el; cases el
                  | ex x e' => rw [er] at el; cases el
                  | ok qs e4 =>
                    rw [er] at el
                    cases el
                    have pm : (fv7 ++ ((D :: fa) ++ fp7)).Perm (D :: (fa ++ fv7 ++ fp7)) := by
                      refine (List.perm_append_comm_assoc fv7 (D :: fa) fp7).trans ?_
                      rw [List.append_assoc]
                      exact List.Perm.refl _
                    have sb : (D :: (fa ++ fv7 ++ f8)).Sublist (D :: (fa ++ fv7 ++ fp7)) := List.Sublist.cons_cons D (List.Sublist.append_left s8 (fa ++ fv7))
                    have gN := (gg.perm pm).sub sb
                    refine ⟨rfl, S7, _, f8, done ++ [q5], acc ++ [v7], fa ++ fv7, ⟨oE, C8.io.stay frS (fun _ h => h)⟩, upd_same, oN, by rw [List.length_append]; exact Nat.succ_le_succ hdl, ⟨gN.nd, gN.dj, fun a s => ?_, fun a h => ?_⟩, ?_, qs, _, er, e2, eb, by rw [List.append_assoc]; exact qf⟩
                    · rw [upd_ne fun z => nSD (by rw [← z]; exact s)]
                      exact gN.dm a s
                    · by_cases z : a = D
                      · rw [z, upd_same]; simp
                      · rw [upd_ne z]; exact gN.al a h
                    · have t1 : Step S1 H1 fp1 S7 H7 (D :: (fa ++ fv7 ++ f8)) := by
                        refine Step.trans (fp1 := (D :: fa) ++ fp4) (st3.sub fun a h => ?_) (ww.sub fun a h => pm.mem_iff.mpr (sb.subset h))
                        rcases List.mem_append.mp h with z | z
                        · exact List.mem_append_left _ z
                        · exact List.mem_append_right (D :: fa) (sb4 a z)
                      have t2 : Step S7 H7 (D :: (fa ++ fv7 ++ f8)) S7 (upd H7 D (.lst (acc ++ [v7]))) (D :: (fa ++ fv7 ++ f8)) := ⟨fun a o e n => upS a o (fun z => n (by rw [z]; exact List.mem_cons_self)) e, fun _ h => h, fun _ h => .inl h, fun _ h => .inl h, fun a h => by
                        by_cases z : a = D
                        · rw [z, upd_same]; simp
                        · rw [upd_ne z]; exact h⟩
                      exact t1.trans t2
        · refine .inl ⟨it.stop i S2 H2 (by omega) su2 k2, ?_⟩
          rw [List.drop_eq_nil_of_le (by omega)] at el
          cases el
          rw [List.append_nil] at qf
          -- the def's own names again
          have h0 : ∀ (i : Nat) (p : PV), env1[i]? = some (some p) → isOwn p = false → ∃ v, σ[i]? = some (some v) ∧ Own X.K S2 H2 p v [] := fun i p e no => by
            obtain ⟨v, f, h1, h2, h3⟩ := C1.own.get e
            have z := h2.nonown no
            subst z
            exact ⟨v, h1, Own.stay k2 su2 _ _ _ (fun _ _ z => nomatch z) h2⟩
          obtain ⟨τ', f', a1, a2, a3, a4, a5⟩ := ownE_back own h0 C1.own.length C2.own eb (L2.wipe_length σ own)
          have eτ : τ' = σ := by
            refine List.ext_getElem? fun j => ?_
            by_cases hj : j ∈ own
            · exact a5 j hj
            · rw [a4 j hj]; exact wipe_get own σ j hj
          subst eτ
          have pm : (D :: (fa ++ f')).Perm (D :: (fa ++ fp2)) := List.Perm.cons D (List.Perm.append_left fa a2)
          refine qf (.ref D) S2 H2 (D :: fa) f' ⟨D, acc, fa, rfl, rfl, hDa, oa⟩ ⟨a1, C1.io.ix, fun q hq => ⟨su2 _ (C1.io.kp q hq).1, k2 _ _ (C1.io.kp q hq).1 (C1.io.kp q hq).2⟩⟩ (G2.perm pm.symm) ((st1.trans st2).sub fun a h => pm.mem_iff.mp h) fun z => nomatch z
    · rw [if_neg hz] at q
      exact q.elim
structure Ets (X : Cx) (W : WX) (io : Io) (m : Bool) (ifs : List Expr) (f : Env → R Bool) : Prop where
  pt : PTs X ifs (sem RB X W io m f)
theorem ets_nil : Ets X W io false [] tYesD := ⟨⟨fun pins s σ H Q I ⟨S, env, fp, C, G, q⟩ => pts_nil.run pins s σ H Q I (Post.fin (ft := []) C G q ⟨rfl, rfl⟩ (New.refl G.dm))⟩⟩
theorem ets_one {c : Expr} {f : Env → R Bool} (h : Et X W io m c f) : Ets X W io m [c] f := ⟨pts_one h.pe⟩
section
variable {elt tg iter : Expr} {ifs : List Expr} {scope : Scope} {own : List (Str × Nat)} {sl : List Nat} {f : Env → R (List PV)} {t : Tg} {cond : Env → R Bool} {ge : Env → R PV}
theorem ev_lc (hc : X.calm = true) (hN : X.N.Nodup) (hi : Ei X W io tg iter f) (ok : BlkOk X.N X.env.scope scope own) (hg : ∀ (s : Shared) (H : Hp) (C : Addr) (cl : List (Str × Addr)) (fp : List Addr), Eg (X.blk s H scope (compEnvC scope cl C X.env) fp) io sl tg t)
    (ht : ∀ (s : Shared) (H : Hp) (C : Addr) (cl : List (Str × Addr)) (fp : List Addr), Ets (X.blk s H scope (compEnvC scope cl C X.env) fp) W0 io m1 ifs cond) (he : ∀ (s : Shared) (H : Hp) (C : Addr) (cl : List (Str × Addr)) (fp : List Addr), Ev (X.blk s H scope (compEnvC scope cl C X.env) fp) W0 io m2 elt ge)
    (hio : ∀ v, v ∈ own.map (·.2) → io.1.contains v = false) (hsl : ∀ j, j ∈ sl → j ∈ own.map (·.2)) (hs : ∀ x, foldedSetIterable iter X.env x = pure x := by intro _; rfl) : Ev X W io true (.ListComp elt [⟨tg, iter, ifs, 0⟩] scope pos) (dLc (own.map (·.2)) f t cond ge) :=
  ⟨(pe_lc (g := semG X.K io sl t) (tt := sem RB X W0 io m1 cond) (te := sem (RV X.K) X W0 io m2 ge) hc hN hi.pi ok (fun s H C cl fp => (hg s H C cl fp).pg) (fun s H C cl fp => (ht s H C cl fp).pt) (fun s H C cl fp => (he s H C cl fp).pe) hs).imp fun σ H Q q => sem_lc hio hsl q, fun h => nomatch h⟩
theorem es_setLc {i : Nat} {y : Str} {py spos : Pos} (hc : X.calm = true) (hN : X.N.Nodup) (hy : X.N[i]? = some y) (hyl : X.env.scope.names.lookup y = some .local) (hsw : swapsWith (.ListComp elt [⟨tg, iter, ifs, 0⟩] scope pos) (some (.Name y py)) spos.line X.env = pure true)
    (hi : Ei X W io tg iter f) (ok : BlkOk X.N X.env.scope scope own) (hg : ∀ (s : Shared) (H : Hp) (C : Addr) (cl : List (Str × Addr)) (fp : List Addr), Eg (X.blk s H scope (compEnvC scope cl C X.env) fp) io sl tg t)
    (ht : ∀ (s : Shared) (H : Hp) (C : Addr) (cl : List (Str × Addr)) (fp : List Addr), Ets (X.blk s H scope (compEnvC scope cl C X.env) fp) W0 io m1 ifs cond) (he : ∀ (s : Shared) (H : Hp) (C : Addr) (cl : List (Str × Addr)) (fp : List Addr), Ev (X.blk s H scope (compEnvC scope cl C X.env) fp) W0 io m2 elt ge)
    (hio : ∀ v, v ∈ own.map (·.2) → io.1.contains v = false) (hsl : ∀ j, j ∈ sl → j ∈ own.map (·.2)) (hioi : io.1.contains i = false) (hs : ∀ x, foldedSetIterable iter X.env x = pure x := by intro _; rfl) :
    Es X W io (.Assign [.Name y py] (.ListComp elt [⟨tg, iter, ifs, 0⟩] scope pos) spos) (sSet i (dLc (own.map (·.2)) f t cond ge)) := by
  refine ⟨(ps_setLc (g := semG X.K io sl t) (tt := sem RB X W0 io m1 cond) (te := sem (RV X.K) X W0 io m2 ge) hc hN hy hyl hsw hi.pi ok (fun s H C cl fp => (hg s H C cl fp).pg) (fun s H C cl fp => (ht s H C cl fp).pt) (fun s H C cl fp => (he s H C cl fp).pe) hs).imp fun D σ H q => ?_⟩
  obtain ⟨S, env, fp, C, G, q⟩ := q
  refine sem_lc hio hsl ?_
  exact PostS.bind C G q fun p v S1 H1 env1 fv fp1 o1 C1 G1 e1 h1 => set_nx C1 o1 G1 hioi h1
/-- freezing a comprehension's list (tuple([..])): its value, frozen -/
theorem Ev.fz {a : Expr} {f : Env → R PV} (h : Ev X W io m a f) : Ev X W io m a (dFrz f) := h.frz
end
end
end L3

namespace L3
open PySem PySem.Spec PyProof.Rows L2
/-! ### subscripts -/
def idxP (p q : PV) : Option PV := match q with
  | .int i => match p with
    | .tup l => atI l i
    | .lst l => atI l i
    | .scr l => atI l i
    | .str s => if s.length ≤ sizeLine then (atI s.cps.toList i).map fun c => .str ⟨#[c]⟩ else none
    | _ => none
  | _ => none
def idxV (p q : PV) : Option PV := match p, q with
  | .mls l, .int i => (atI l i).bind fun z => if isOwn z = true then none else some z
  | p, q => idxP p q
section
variable {K : PySem.W.Frag} {S S' : Addr → Prop} {H H' : Hp}
theorem Owns.getG : ∀ {ps : List PV} {vs : List V} {g : List Addr} {i : Nat} {p : PV}, Owns K S H ps vs g → ps[i]? = some p → ∃ v f, vs[i]? = some v ∧ Own K S H p v f
  | [], _, _, _, _, _, e => by simp at e
  | p :: ps, _, _, 0, q, h, e => by
    obtain ⟨v, r, f1, f2, e1, e2, o, _⟩ := h
    subst e1
    simp at e
    subst e
    exact ⟨v, f1, rfl, o⟩
  | p :: ps, _, _, i + 1, q, h, e => by
    obtain ⟨v, r, f1, f2, e1, e2, _, o⟩ := h
    subst e1
    obtain ⟨v, f, a, b⟩ := Owns.getG (i := i) o (by simpa using e)
    exact ⟨v, f, by simpa using a, b⟩
theorem rd_idx {p q z : PV} {v w : V} {Q : VK} (o1 : Own K S H p v []) (o2 : Own K S H q w []) (e : idxP p q = some z) (k : ∀ u, Own K S H z u [] → Q u H) : rIx K v w H Q := by
  unfold idxP at e
  cases q with
  | int i =>
    obtain ⟨rfl, _⟩ := o2
    cases p with
    | tup l =>
      obtain ⟨a, vs, rfl, _, fr, os⟩ := o1
      obtain ⟨u, h1, h2⟩ := os.atI e
      exact .inr (.inl ⟨a, vs, i, u, rfl, rfl, fr.sq, h1, k _ h2⟩)
    | lst l =>
      obtain ⟨a, vs, rfl, _, fr, os⟩ := o1
      obtain ⟨u, h1, h2⟩ := os.atI e
      exact .inl ⟨a, vs, i, u, rfl, rfl, SqL.of fr.2, h1, k _ h2⟩
    | scr l =>
      obtain ⟨a, vs, rfl, _, fr, os⟩ := o1
      obtain ⟨u, h1, h2⟩ := os.atI e
      exact .inl ⟨a, vs, i, u, rfl, rfl, fr.sq, h1, k _ h2⟩
    | str s =>
      obtain ⟨rfl, _⟩ := o1
      have e : (if s.length ≤ sizeLine then (atI s.cps.toList i).map fun c => PV.str ⟨#[c]⟩ else none) = some z := e
      by_cases hs : s.length ≤ sizeLine
      · rw [if_pos hs] at e
        cases q : atI s.cps.toList i with
        | none => rw [q] at e; cases e
        | some c =>
          rw [q] at e
          cases e
          exact .inr (.inr ⟨s, i, c, rfl, rfl, hs, q, k _ ⟨rfl, rfl⟩⟩)
      · rw [if_neg hs] at e; cases e
    | _ => cases e
  | _ => cases e
theorem prim_idx : Prim2 K (rIx K) idxP := fun S H p q v w z Q dm o1 o2 e k => rd_idx o1 o2 e fun u o => k _ _ _ _ o (New.refl dm)
theorem atI_at {α : Type} {xs : List α} {i : Int} {x : α} (h : atI xs i = some x) : ∃ j, ixN xs.length i = some j ∧ xs[j]? = some x := by
  unfold L2.atI at h
  cases q : ixN xs.length i with
  | none => rw [q] at h; cases h
  | some j => rw [q] at h; exact ⟨j, rfl, h⟩
theorem Owns.atIG {ps : List PV} {vs : List V} {g : List Addr} {i : Int} {p : PV} (h : Owns K S H ps vs g) (e : L2.atI ps i = some p) (no : isOwn p = false) : ∃ v, L2.atI vs i = some v ∧ Own K S H p v [] := by
  obtain ⟨j, h1, h2⟩ := atI_at e
  obtain ⟨v, f, h3, h4⟩ := h.getG h2
  have z := h4.nonown no
  subst z
  refine ⟨v, ?_, h4⟩
  unfold L2.atI
  rw [← h.length, h1]
  exact h3
/-- of a value as it stands in its name -/
theorem rd_idxV {p q z : PV} {v w : V} {g : List Addr} {Q : VK} (o1 : Own K S H p v g) (o2 : Own K S H q w []) (e : idxV p q = some z) (k : ∀ u, Own K S H z u [] → Q u H) : rIx K v w H Q := by
  cases p with
  | mls l =>
    cases q with
    | int i =>
      obtain ⟨rfl, _⟩ := o2
      obtain ⟨a, vs, g', rfl, rfl, ha, os⟩ := o1
      have e : ((atI l i).bind fun z => if isOwn z = true then none else some z) = some z := e
      cases q : atI l i with
      | none => rw [q] at e; cases e
      | some y =>
        rw [q] at e
        have e : (if isOwn y = true then none else some y) = some z := e
        by_cases no : isOwn y = true
        · rw [if_pos no] at e; cases e
        · rw [if_neg no] at e
          cases e
          obtain ⟨u, h1, h2⟩ := os.atIG q (by simpa using no)
          exact .inl ⟨a, vs, i, u, rfl, rfl, SqL.of ha, h1, k _ h2⟩
    | _ => cases e
  | mdk _ _ => cases q <;> cases e
  | mdt _ _ => cases q <;> cases e
  | dck _ _ => cases q <;> cases e
  | dct _ _ => cases q <;> cases e
  | non => cases q <;> cases e
  | bl _ => cases q <;> cases e
  | int _ => cases q <;> cases e
  | tup l => have z := o1.nonown rfl; subst z; exact rd_idx o1 o2 (by cases q <;> exact e) k
  | lst l => have z := o1.nonown rfl; subst z; exact rd_idx o1 o2 (by cases q <;> exact e) k
  | scr l => have z := o1.nonown rfl; subst z; exact rd_idx o1 o2 (by cases q <;> exact e) k
  | str l => have z := o1.nonown rfl; subst z; exact rd_idx o1 o2 (by cases q <;> exact e) k
end
theorem o1_eq {α : Type} {o : Option α} {env env' : Env} {p : α} (h : o1 o env = .ok p env') : env' = env ∧ o = some p := by
  cases o with
  | none => cases h
  | some a => cases h; exact ⟨rfl, rfl⟩
def slotP (env : Env) (i : Nat) : Option PV := match env[i]? with
  | some (some p) => some p
  | _ => none
theorem slotP_some {env : Env} {i : Nat} {p : PV} (h : slotP env i = some p) : env[i]? = some (some p) := by
  unfold slotP at h
  split at h
  · next e => cases h; exact e
  · cases h
/-- x[e], x a name -/
def dIdxV (i : Nat) (g : Env → R PV) : Env → R PV := fun env => match slotP env i with
  | none => .stk
  | some _ => (dFrz g env).bind fun q e => o1 ((slotP e i).bind fun p => idxV p q) e
section
variable {X : Cx} {W : WX} {io : Io} {m m1 m2 m3 : Bool} {a b c : Expr} {f g h : Env → R PV} {pos : Pos} {i : Nat} {x : Str}
theorem ev_ix (ha : Ev X W io m1 a f) (hb : Ev X W io m2 b g) (hs : PlainIx b := by exact fun _ _ => rfl) : Ev X W io (m1 || m2) (.Subscript a b pos) (d2 idxP f g) :=
  ⟨(pe_ix ix_seq ha.frz.pe hb.frz.pe hs).imp fun σ H Q q => sem_2 q fun S H p q v w z dm o1 o2 e k => prim_idx S H p q v w z Q dm o1 o2 e k, Still.two ha.st hb.st⟩
theorem ev_ixV {p' : Pos} (hN : X.N[i]? = some x) (hv : Vis X.env.scope x) (hb : Ev X W io m b g) (hs : PlainIx b := by exact fun _ _ => rfl) (hd : (x == ("__debug__" : Str)) = false := by decide) (hcd : (x == ("__classdict__" : Str)) = false := by decide) :
    Ev X W io m (.Subscript (.Name x p') b pos) (dIdxV i g) := by
  refine ⟨(pe_ix ix_seq (pe_var hN hv hd hcd) hb.frz.pe hs).imp fun σ H Q q => ?_, ?_⟩
  · obtain ⟨S, env, fp, C, G, q⟩ := q
    unfold dIdxV at q
    cases ep : slotP env i with
    | none => rw [ep] at q; exact q.elim
    | some p =>
      rw [ep] at q
      obtain ⟨v, f, h1, h2, h3⟩ := C.own.get (slotP_some ep)
      refine ⟨v, h1, ?_⟩
      refine Post.bind (ft := []) C Owns.nil G id q fun q y S1 H1 env1 fv fp1 o1' _ C1 G1 e1 _ _ h4 => ?_
      have z := dFrz_nil e1 o1'
      subst z
      cases ep1 : slotP env1 i with
      | none => rw [ep1] at h4; exact h4.elim
      | some p1 =>
        rw [ep1] at h4
        have h4 : Post (RV X.K) X W io m S1 H1 σ fp1 ([] ++ ([] ++ fp1)) (o1 (idxV p1 q) env1) Q := h4
        obtain ⟨v1, f1, h5, h6, h7⟩ := C1.own.get (slotP_some ep1)
        rw [h1] at h5
        cases h5
        cases ei : idxV p1 q with
        | none => rw [ei] at h4; exact h4.elim
        | some z =>
          rw [ei] at h4
          exact rd_idxV h6 o1' ei fun u ou => Post.fin (ft := []) C1 G1 h4 ou (New.refl G1.dm)
  · intro hm env p env' e
    unfold dIdxV at e
    split at e
    · cases e
    · exact Still.bind (m2 := m) hb.st.frz (fun q => by intro _ env p env' e; exact (o1_eq e).1) id id hm env p env' e
/-- the name of a list as a value: from here on it stands still -/
def dFz (i : Nat) : Env → R PV := fun env => match slotP env i with
  | some p => .ok (frzP p) (env.set i (some (frzP p)))
  | none => .stk
theorem ev_fz (hN : X.N[i]? = some x) (hv : Vis X.env.scope x) (hd : (x == ("__debug__" : Str)) = false := by decide) (hcd : (x == ("__classdict__" : Str)) = false := by decide) : Ev X W io true (.Name x pos) (dFz i) := by
  refine ⟨(pe_var hN hv hd hcd).imp fun σ H Q q => ?_, fun h => nomatch h⟩
  obtain ⟨S, env, fp, C, G, q⟩ := q
  unfold dFz at q
  cases ep : slotP env i with
  | none => rw [ep] at q; exact q.elim
  | some p =>
    rw [ep] at q
    obtain ⟨v, f1, f2, h1, h2, h3, h4⟩ := C.own.take (slotP_some ep)
    refine ⟨v, h1, ?_⟩
    have G2 := G.perm h4
    have su : ∀ b, S b → (S b ∨ b ∈ f1) := fun _ z => .inl z
    have o2 : Own X.K (fun a => S a ∨ a ∈ f1) H (frzP p) v [] := Own.frz p v f1 su (fun _ z => .inr z) h2
    have o3 : OwnE X.K (fun a => S a ∨ a ∈ f1) H (env.set i none) σ f2 := OwnE.stay (fun _ _ _ e => e) su _ _ _ (fun _ _ _ e => e) h3
    have hi : i < env.length := (List.getElem?_eq_some_iff.mp (slotP_some ep)).1
    obtain ⟨f', h5, h6⟩ := OwnE.put (i := i) o3 (by rw [List.getElem?_set_self hi]) h1 o2
    rw [List.set_set] at h5
    have h6 : f'.Perm f2 := h6
    have G3 : Good (fun a => S a ∨ a ∈ f1) H f2 := ⟨G2.right.nd, fun a h s => s.elim (G2.right.dj a h) fun z => G2.apart a z h, fun a s => s.elim (G2.dm a) fun z => G2.al a (List.mem_append_left _ z), G2.right.al⟩
    refine q v (fun a => S a ∨ a ∈ f1) H [] f' o2 ⟨h5, C.io.stay (fun _ _ _ e => e) su⟩ (G3.perm h6.symm) ⟨fun a o e _ => e, su, fun a s => s.elim .inl fun z => .inr (.inr (h4.mem_iff.mpr (List.mem_append_left _ z))), fun a h => .inl (h4.mem_iff.mpr (List.mem_append_right _ (h6.mem_iff.mp h))), fun _ h => h⟩ fun h => nomatch h
/-- the name's list itself is handed on -/
def dMv (i : Nat) : Env → R PV := fun env => match slotP env i with
  | some p => .ok p (env.set i none)
  | none => .stk
theorem ev_mv (hN : X.N[i]? = some x) (hv : Vis X.env.scope x) (hd : (x == ("__debug__" : Str)) = false := by decide) (hcd : (x == ("__classdict__" : Str)) = false := by decide) : Ev X W io true (.Name x pos) (dMv i) := by
  refine ⟨(pe_var hN hv hd hcd).imp fun σ H Q q => ?_, fun h => nomatch h⟩
  obtain ⟨S, env, fp, C, G, q⟩ := q
  unfold dMv at q
  cases ep : slotP env i with
  | none => rw [ep] at q; exact q.elim
  | some p =>
    rw [ep] at q
    obtain ⟨v, f1, f2, h1, h2, h3, h4⟩ := C.own.take (slotP_some ep)
    exact ⟨v, h1, q v S H f1 f2 h2 ⟨h3, C.io⟩ (G.perm h4) (Step.refl.sub fun a h => h4.mem_iff.mpr h) fun h => nomatch h⟩
/-! ### changes in place -/
theorem cl_mut {K : PySem.W.Frag} {S : Addr → Prop} {H : Hp} {σ : L2.St} {env : Env} {fp fv : List Addr} {l : List PV} (C : Cl K io S H σ env fp) (G : Good S H (fv ++ fp)) (e : slotP env i = some (.mls l)) :
    ∃ a vs g, σ[i]? = some (some (.ref a)) ∧ H a = some (.lst vs) ∧ Owns K S H l vs g ∧ (¬ S a ∧ a ∉ g ∧ a ∉ fv ∧ g.Nodup ∧ fv.Nodup ∧ (∀ x, x ∈ g → x ∉ fv)) ∧ ∀ l' vs' g', Owns K S (upd H a (.lst vs')) l' vs' g' → (∀ x, x ∈ g' → x ∈ g ∨ x ∈ fv) → g'.Nodup →
      ∃ fp', Cl K io S (upd H a (.lst vs')) σ (env.set i (some (.mls l'))) fp' ∧ Good S (upd H a (.lst vs')) fp' ∧ Step S H (fv ++ fp) S (upd H a (.lst vs')) fp' ∧ (∀ x, x ∈ fp' → x ∈ fp ∨ x ∈ g') := by
  obtain ⟨v, f1, f2, h1, h2, h3, h4⟩ := C.own.take (slotP_some e)
  obtain ⟨a, vs, g, rfl, rfl, ha, os⟩ := h2
  have pm : (fv ++ fp).Perm (fv ++ (a :: g ++ f2)) := List.Perm.append_left fv h4
  have G2 := G.perm pm
  have G3 : Good S H (a :: g ++ f2) := G2.right
  have na : a ∉ f2 := fun z => G3.apart a List.mem_cons_self z
  have nS : ¬ S a := G3.dj a (List.mem_append_left _ List.mem_cons_self)
  have nd3 := (List.nodup_append.mp G3.nd).1
  refine ⟨a, vs, g, h1, ha, os, ⟨nS, (List.nodup_cons.mp nd3).1, fun z => G2.apart a z (List.mem_append_left _ List.mem_cons_self), (List.nodup_cons.mp nd3).2, G2.left.nd, fun x hx z => G2.apart x z (List.mem_append_left _ (List.mem_cons_of_mem _ hx))⟩, fun l' vs' g' o' sg nd => ?_⟩
  have o3 : OwnE K S (upd H a (.lst vs')) (env.set i none) σ f2 := OwnE.stay (fun b o s e => by rw [upd_ne fun z => nS (by rw [← z]; exact s)]; exact e) (fun _ h => h) _ _ _ (fun b o h e => by rw [upd_ne fun z => na (by rw [← z]; exact h)]; exact e) h3
  have hi : i < env.length := (List.getElem?_eq_some_iff.mp (slotP_some e)).1
  obtain ⟨f', h5, h6⟩ := OwnE.put (i := i) (p := .mls l') o3 (by rw [List.getElem?_set_self hi]) h1 (f1 := a :: g') ⟨a, vs', g', rfl, rfl, upd_same, o'⟩
  rw [List.set_set] at h5
  have ng : a ∉ g' := fun z => by
    rcases sg a z with z | z
    · exact (List.nodup_cons.mp (List.nodup_append.mp G3.nd).1).1 z
    · exact G2.apart a z (List.mem_append_left _ List.mem_cons_self)
  have gf : ∀ x, x ∈ g' → x ∈ f2 → False := fun x z1 z2 => by
    rcases sg x z1 with z | z
    · exact G3.apart x (List.mem_cons_of_mem _ z) z2
    · exact G2.apart x z (List.mem_append_right _ z2)
  have al : ∀ b, H b ≠ none → upd H a (.lst vs') b ≠ none := fun b h => by
    by_cases z : b = a
    · rw [z, upd_same]; simp
    · rw [upd_ne z]; exact h
  have old : ∀ x, x ∈ a :: (g' ++ f2) → x ∈ fv ++ (a :: g ++ f2) := fun x z => by
    rcases List.mem_cons.mp z with z | z
    · exact List.mem_append_right _ (List.mem_append_left _ (by rw [z]; exact List.mem_cons_self))
    · rcases List.mem_append.mp z with z | z
      · rcases sg x z with q | q
        · exact List.mem_append_right _ (List.mem_append_left _ (List.mem_cons_of_mem _ q))
        · exact List.mem_append_left _ q
      · exact List.mem_append_right _ (List.mem_append_right _ z)
  have G4 : Good S (upd H a (.lst vs')) (a :: (g' ++ f2)) := by
    refine ⟨List.nodup_cons.mpr ⟨fun z => (List.mem_append.mp z).elim ng na, List.nodup_append.mpr ⟨nd, (List.nodup_append.mp G3.nd).2.1, fun x h y h' e => gf x h (by rw [e]; exact h')⟩⟩, fun x z => G2.dj x (old x z), fun x s => al x (G2.dm x s), fun x z => al x (G2.al x (old x z))⟩
  refine ⟨f', ⟨h5, C.io.stay (fun b o s e => by rw [upd_ne fun z => nS (by rw [← z]; exact s)]; exact e) (fun _ h => h)⟩, G4.perm h6.symm, ⟨fun b o e n => ?_, fun _ h => h, fun _ h => .inl h, fun x z => .inl (pm.mem_iff.mpr (old x (h6.mem_iff.mp z))), al⟩, fun x z => ?_⟩
  · rw [upd_ne]
    · exact e
    · intro z
      exact n (pm.mem_iff.mpr (by rw [z]; exact List.mem_append_right _ (List.mem_append_left _ List.mem_cons_self)))
  · have z : x ∈ a :: (g' ++ f2) := h6.mem_iff.mp z
    rcases List.mem_cons.mp z with q | q
    · exact .inl (h4.mem_iff.mpr (by rw [q]; exact List.mem_append_left _ List.mem_cons_self))
    · rcases List.mem_append.mp q with q | q
      · exact .inr q
      · exact .inl (h4.mem_iff.mpr (List.mem_append_right _ q))
theorem upd_stay {K : PySem.W.Frag} {S : Addr → Prop} {H : Hp} {a : Addr} {o : HO} {ps : List PV} {vs : List V} {g : List Addr} (h : Owns K S H ps vs g) (nS : ¬ S a) (ng : a ∉ g) : Owns K S (upd H a o) ps vs g :=
  Owns.stay (fun b o s e => by rw [upd_ne fun z => nS (by rw [← z]; exact s)]; exact e) (fun _ h => h) _ _ _ (fun b o h e => by rw [upd_ne fun z => ng (by rw [← z]; exact h)]; exact e) h
theorem upd_stay1 {K : PySem.W.Frag} {S : Addr → Prop} {H : Hp} {a : Addr} {o : HO} {p : PV} {v : V} {g : List Addr} (h : Own K S H p v g) (nS : ¬ S a) (ng : a ∉ g) : Own K S (upd H a o) p v g :=
  Own.stay (fun b o s e => by rw [upd_ne fun z => nS (by rw [← z]; exact s)]; exact e) (fun _ h => h) _ _ _ (fun b o h e => by rw [upd_ne fun z => ng (by rw [← z]; exact h)]; exact e) h
theorem Owns.snoc {K : PySem.W.Frag} {S : Addr → Prop} {H : Hp} {p : PV} {v : V} {fv : List Addr} (ov : Own K S H p v fv) : ∀ {ps : List PV} {vs : List V} {g : List Addr}, Owns K S H ps vs g → Owns K S H (ps ++ [p]) (vs ++ [v]) (g ++ fv)
  | [], _, _, h => by
    obtain ⟨rfl, rfl⟩ := h
    exact ⟨v, [], fv, [], rfl, (List.append_nil fv).symm, ov, rfl, rfl⟩
  | q :: ps, _, _, h => by
    obtain ⟨w, r, g1, g2, rfl, rfl, a1, a2⟩ := h
    exact ⟨w, r ++ [v], g1, g2 ++ fv, rfl, List.append_assoc g1 g2 fv, a1, Owns.snoc ov a2⟩
theorem Owns.setN {K : PySem.W.Frag} {S : Addr → Prop} {H : Hp} {p : PV} {v : V} (ov : Own K S H p v []) : ∀ {ps : List PV} {vs : List V} {g : List Addr} (j : Nat), Owns K S H ps vs g → ∃ g', Owns K S H (ps.set j p) (vs.set j v) g' ∧ g'.Sublist g
  | [], _, g, j, h => by
    obtain ⟨rfl, rfl⟩ := h
    exact ⟨[], ⟨rfl, rfl⟩, List.Sublist.refl _⟩
  | q :: ps, _, _, 0, h => by
    obtain ⟨w, r, g1, g2, rfl, rfl, a1, a2⟩ := h
    exact ⟨g2, ⟨v, r, [], g2, rfl, rfl, ov, a2⟩, List.sublist_append_right _ _⟩
  | q :: ps, _, _, j + 1, h => by
    obtain ⟨w, r, g1, g2, rfl, rfl, a1, a2⟩ := h
    obtain ⟨g', h1, h2⟩ := Owns.setN ov j a2
    exact ⟨g1 ++ g', ⟨w, r.set j v, g1, g', rfl, rfl, a1, h1⟩, List.Sublist.append_left h2 g1⟩
/-- x.append(e) -/
def mlsAt (env : Env) (i : Nat) : Option (List PV) := match slotP env i with
  | some (.mls l) => some l
  | _ => none
theorem mlsAt_some {env : Env} {l : List PV} (h : mlsAt env i = some l) : slotP env i = some (.mls l) := by
  unfold mlsAt at h
  split at h
  · next e => cases h; exact e
  · cases h
def dApp (i : Nat) (f : Env → R PV) : Env → R PV := fun env => match mlsAt env i with
  | none => .stk
  | some _ => (f env).bind fun p e => match mlsAt e i with
    | some l => if l.length < 16000000 then .ok .non (e.set i (some (.mls (l ++ [p])))) else .stk
    | none => .stk
theorem ev_app {p1 p2 : Pos} (hN : X.N[i]? = some x) (hv : Vis X.env.scope x) (ha : Ev X W io m a f) (hs : starEach [a] X.env = (false, eval a X.env) :: starEach [] X.env := by rfl) (hfew : ((backTo pos (starEach [a] X.env)).all (fun x => !x.1) && (backToKw pos (keywordEach [] X.env)).all (fun x => x.1.isSome) && decide ([a].length + ([] : List Keyword).length + (if ([] : List Keyword).isEmpty then 0 else 1) < 30)) = true := by rfl) (hline : (p2.endLine == pos.line) = true := by rfl) (hplain : (backTo pos (starEach [] X.env)).any (·.1) = false := by rfl) (hd : (x == ("__debug__" : Str)) = false := by decide) (hcd : (x == ("__classdict__" : Str)) = false := by decide) :
    Ev X W io true (.Call (.Attribute (.Name x p1) "append" p2) [a] [] pos) (dApp i f) := by
  refine ⟨(pe_bm PySem.F.plainAttrs_list PySem.F.slot_list_append PySem.F.type_list_append mt_append (pe_var hN hv hd hcd) (pa_cons ha.pe pa_nil hs) rfl hfew hline hs hplain).imp fun σ H Q q => ?_, fun h => nomatch h⟩
  obtain ⟨S, env, fp, C, G, q⟩ := q
  unfold dApp at q
  cases ep : mlsAt env i with
  | none => rw [ep] at q; exact q.elim
  | some l0 =>
    rw [ep] at q
    obtain ⟨b, ws, g0, h1, h2, _⟩ := cl_mut (fv := []) C G (mlsAt_some ep)
    refine ⟨.ref b, h1, .inl ⟨rfl, _, SqL.of h2⟩, ?_⟩
    refine Post.bind (m := true) (m1 := m) (ft := []) C Owns.nil G (fun h => Bool.noConfusion h) q fun p y S1 H1 env1 fv fp1 ov _ C1 G1 e1 _ _ h4 => ?_
    have G1 : Good S1 H1 (fv ++ fp1) := G1
    have h4 : Post (RV X.K) X W io true S1 H1 σ fp1 (fv ++ fp1) (match mlsAt env1 i with
      | some l => if l.length < 16000000 then .ok .non (env1.set i (some (.mls (l ++ [p])))) else .stk
      | none => .stk) Q := h4
    cases ep1 : mlsAt env1 i with
    | none => rw [ep1] at h4; exact h4.elim
    | some l =>
      rw [ep1] at h4
      have h4 : Post (RV X.K) X W io true S1 H1 σ fp1 (fv ++ fp1) (if l.length < 16000000 then .ok .non (env1.set i (some (.mls (l ++ [p])))) else .stk) Q := h4
      by_cases hl : l.length < 16000000
      · rw [if_pos hl] at h4
        obtain ⟨b', ws', g, h5, h6, h7, ⟨k1, k2, k3, k4, k5, k6⟩, h8⟩ := cl_mut C1 G1 (mlsAt_some ep1)
        rw [h1] at h5
        cases h5
        refine ⟨b, ws', y, rfl, rfl, h6, by rw [← h7.length]; exact len_line hl, ?_⟩
        have o1 : Owns X.K S1 (upd H1 b (.lst (ws' ++ [y]))) (l ++ [p]) (ws' ++ [y]) (g ++ fv) := Owns.snoc (upd_stay1 ov k1 k3) (upd_stay h7 k1 k2)
        obtain ⟨fp', c2, g2, s2, _⟩ := h8 _ _ _ o1 (fun x h => List.mem_append.mp h) (List.nodup_append.mpr ⟨k4, k5, fun x h y h' e => k6 x h (by rw [e]; exact h')⟩)
        exact h4 .non S1 _ [] fp' ⟨rfl, rfl⟩ c2 g2 s2 fun h => nomatch h
      · rw [if_neg hl] at h4; exact h4.elim
/-- x.pop() -/
def dPop (i : Nat) : Env → R PV := fun env => match mlsAt env i with
  | none => .stk
  | some l => match l[l.length - 1]? with
    | some p => if isOwn p = true then .stk else .ok p (env.set i (some (.mls l.dropLast)))
    | none => .stk
theorem Owns.takeG {K : PySem.W.Frag} {S : Addr → Prop} {H : Hp} : ∀ {ps : List PV} {vs : List V} {g : List Addr} (n : Nat), Owns K S H ps vs g → ∃ g', Owns K S H (ps.take n) (vs.take n) g' ∧ g'.Sublist g
  | _, _, g, 0, _ => ⟨[], ⟨rfl, rfl⟩, List.nil_sublist _⟩
  | [], _, g, n + 1, h => by
    obtain ⟨rfl, rfl⟩ := h
    exact ⟨[], ⟨rfl, rfl⟩, List.Sublist.refl _⟩
  | q :: ps, _, _, n + 1, h => by
    obtain ⟨w, r, g1, g2, rfl, rfl, a1, a2⟩ := h
    obtain ⟨g', h1, h2⟩ := Owns.takeG n a2
    exact ⟨g1 ++ g', ⟨w, r.take n, g1, g', rfl, rfl, a1, h1⟩, List.Sublist.append_left h2 g1⟩
theorem Owns.eraseG {K : PySem.W.Frag} {S : Addr → Prop} {H : Hp} : ∀ {ps : List PV} {vs : List V} {g : List Addr} (n : Nat), Owns K S H ps vs g → ∃ g', Owns K S H (ps.eraseIdx n) (vs.eraseIdx n) g' ∧ g'.Sublist g
  | [], _, g, n, h => by
    obtain ⟨rfl, rfl⟩ := h
    exact ⟨[], ⟨rfl, rfl⟩, List.Sublist.refl _⟩
  | q :: ps, _, _, 0, h => by
    obtain ⟨w, r, g1, g2, rfl, rfl, a1, a2⟩ := h
    exact ⟨g2, a2, List.sublist_append_right _ _⟩
  | q :: ps, _, _, n + 1, h => by
    obtain ⟨w, r, g1, g2, rfl, rfl, a1, a2⟩ := h
    obtain ⟨g', h1, h2⟩ := Owns.eraseG n a2
    exact ⟨g1 ++ g', ⟨w, r.eraseIdx n, g1, g', rfl, rfl, a1, h1⟩, List.Sublist.append_left h2 g1⟩
theorem ev_pop {p1 p2 : Pos} (hN : X.N[i]? = some x) (hv : Vis X.env.scope x) (hline : (p2.endLine == pos.line) = true := by rfl) (hd : (x == ("__debug__" : Str)) = false := by decide) (hcd : (x == ("__classdict__" : Str)) = false := by decide) :
    Ev X W io true (.Call (.Attribute (.Name x p1) "pop" p2) [] [] pos) (dPop i) := by
  refine ⟨(pe_bm0 PySem.F.plainAttrs_list PySem.F.slot_list_pop PySem.F.type_list_pop mt_pop (pe_var hN hv hd hcd) rfl hline).imp fun σ H Q q => ?_, fun h => nomatch h⟩
  obtain ⟨S, env, fp, C, G, q⟩ := q
  unfold dPop at q
  cases ep : mlsAt env i with
  | none => rw [ep] at q; exact q.elim
  | some l =>
    rw [ep] at q
    have q : Post (RV X.K) X W io true S H σ fp fp (match l[l.length - 1]? with
      | some p => if isOwn p = true then .stk else .ok p (env.set i (some (.mls l.dropLast)))
      | none => .stk) Q := q
    obtain ⟨b, ws, g, h1, h2, h7, ⟨k1, k2, k3, k4, k5, k6⟩, h8⟩ := cl_mut (fv := []) C G (mlsAt_some ep)
    cases eg : l[l.length - 1]? with
    | none => rw [eg] at q; exact q.elim
    | some p =>
      rw [eg] at q
      have q : Post (RV X.K) X W io true S H σ fp fp (if isOwn p = true then .stk else .ok p (env.set i (some (.mls l.dropLast)))) Q := q
      by_cases no : isOwn p = true
      · rw [if_pos no] at q; exact q.elim
      · rw [if_neg no] at q
        obtain ⟨u, fu, e1, e2⟩ := h7.getG eg
        have z := e2.nonown (by simpa using no)
        subst z
        refine ⟨.ref b, h1, .inl ⟨rfl, _, SqL.of h2⟩, b, ws, u, rfl, rfl, h2, by rw [← h7.length]; exact e1, ?_⟩
        obtain ⟨g', o1, s1⟩ := Owns.takeG (l.length - 1) (upd_stay (o := .lst ws.dropLast) h7 k1 k2)
        rw [← List.dropLast_eq_take] at o1
        rw [h7.length, ← List.dropLast_eq_take] at o1
        obtain ⟨fp', c2, g2, s2, _⟩ := h8 _ _ _ o1 (fun x h => .inl (s1.subset h)) (k4.sublist s1)
        exact q u S _ [] fp' (upd_stay1 e2 k1 (fun h => nomatch h)) c2 g2 s2 fun h => nomatch h
/-- x.pop(e) -/
def dPopAt (i : Nat) (f : Env → R PV) : Env → R PV := fun env => match mlsAt env i with
  | none => .stk
  | some _ => (dFrz f env).bind fun q e => match q, mlsAt e i with
    | .int k, some l => if -(2 ^ 63) ≤ k ∧ k < 2 ^ 63 then match seqIndex? k l.length with
      | some j => match l[j]? with
        | some p => if isOwn p = true then .stk else .ok p (e.set i (some (.mls (l.eraseIdx j))))
        | none => .stk
      | none => .stk else .stk
    | _, _ => .stk
/-! ### x[e] = f -/
def sPut (i : Nat) (g f : Env → R PV) : Env → RS := fun env => (dFrz f env).toS fun p e1 => match mlsAt e1 i with
  | none => .stk
  | some _ => (dFrz g e1).toS fun q e2 => match q, mlsAt e2 i with
    | .int k, some l => match ixN l.length k with
      | some j => .nx (e2.set i (some (.mls (l.set j p))))
      | none => .stk
    | _, _ => .stk
theorem PostS.bindT {α β : Type} {rel1 : Rl α β} {S : Addr → Prop} {H : Hp} {σ : L2.St} {env : Env} {fp ft : List Addr} {D : Ends} {f : Env → R α} {k : α → Env → RS} {P : β → Hp → Prop} {ps : List PV} {vs : List V} (T : Owns X.K S H ps vs ft)
    (C : Cl X.K io S H σ env fp) (G : Good S H (ft ++ fp)) (h : PostS X W io S H (ft ++ fp) ((f env).toS k) D)
    (hk : ∀ p b S1 H1 env1 fv fp1, rel1 S1 H1 p b fv → Owns X.K S1 H1 ps vs ft → Cl X.K io S1 H1 σ env1 fp1 → Good S1 H1 (fv ++ (ft ++ fp1)) → f env = .ok p env1 →
      PostS X W io S1 H1 (fv ++ (ft ++ fp1)) (k p env1) D → P b H1) : sem rel1 X W io m1 f σ H P := by
  refine ⟨S, env, fp, C, G.right, ?_⟩
  unfold Post
  cases e : f env with
  | stk => rw [e] at h; exact h
  | ex x env1 =>
    rw [e] at h
    exact fun cls d S' H' fp' a b c z => h cls d σ S' H' fp' a b c (z.sup fun x q => List.mem_append_right _ q)
  | ok p env1 =>
    rw [e] at h
    intro v S1 H1 fv fp1 r1 C1 G1 st hm1
    exact hk p v S1 H1 env1 fv fp1 r1 (st.owns G T) C1 (st.good G G1) e (PostS.move h st.wide)
theorem es_put {p1 p2 : Pos} (hN : X.N[i]? = some x) (hv : Vis X.env.scope x) (hb : Ev X W io m2 b g) (ha : Ev X W io m1 a f) (hs : swapsWithSole [.Subscript (.Name x p1) b p2] a pos.line X.env = pure false := by rfl) (hw : swappedStores [.Subscript (.Name x p1) b p2] a X.env = pure none := by rfl)
    (h1 : (assignEach [.Subscript (.Name x p1) b p2] X.env).map (·.2) = [assign (.Subscript (.Name x p1) b p2) X.env] := by rfl)
    (hx : ∀ v, assign (.Subscript (.Name x p1) b p2) X.env v = (do
      let ov ← holding [v] (eval (.Name x p1) X.env)
      let iv ← holding [v, ov] (eval b X.env)
      standAt p2
      holding [v, ov, iv] (setItem ov iv v)
      release [v, ov, iv] []) := by intro _; rfl) (hd : (x == ("__debug__" : Str)) = false := by decide) (hcd : (x == ("__classdict__" : Str)) = false := by decide) :
    Es X W io (.Assign [.Subscript (.Name x p1) b p2] a pos) (sPut i g f) := by
  refine ⟨(ps_asg ha.frz.pe (pg_sub (pe_var hN hv hd hcd) hb.frz.pe set_list hx) hs hw h1).imp fun D σ H q => ?_⟩
  obtain ⟨S, env, fp, C, G, q⟩ := q
  refine PostS.bind C G q fun p v S1 H1 env1 fv fp1 o1 C1 G1 e1 h1 => ?_
  have z := dFrz_nil e1 o1
  subst z
  cases ep : mlsAt env1 i with
  | none => rw [ep] at h1; exact h1.elim
  | some l0 =>
    rw [ep] at h1
    obtain ⟨b', ws0, g0, k1, k2, _⟩ := cl_mut (fv := []) C1 G1 (mlsAt_some ep)
    refine ⟨.ref b', k1, ?_⟩
    refine PostS.bindT (ft := []) (Owns.one o1) C1 G1 h1 fun q y S2 H2 env2 fv2 fp2 o2 T2 C2 G2 e2 h2 => ?_
    have z := dFrz_nil e2 o2
    subst z
    have o1 := T2.inv.1
    cases q with
    | int k =>
      obtain ⟨rfl, _⟩ := o2
      cases ep2 : mlsAt env2 i with
      | none => rw [ep2] at h2; exact h2.elim
      | some l =>
        rw [ep2] at h2
        have h2 : PostS X W io S2 H2 fp2 (match ixN l.length k with
          | some j => .nx (env2.set i (some (.mls (l.set j p))))
          | none => .stk) D := h2
        obtain ⟨b2, ws, g2, k3, k4, k5, ⟨n1, n2, n3, n4, n5, n6⟩, k6⟩ := cl_mut (fv := []) C2 G2 (mlsAt_some ep2)
        rw [k1] at k3
        cases k3
        cases ei : ixN l.length k with
        | none => rw [ei] at h2; exact h2.elim
        | some j =>
          rw [ei] at h2
          refine ⟨b', ws, k, j, rfl, rfl, k4, by rw [← k5.length]; exact ei, ?_⟩
          obtain ⟨g', w1, w2⟩ := Owns.setN (upd_stay1 (o := .lst (ws.set j v)) o1 n1 (fun h => nomatch h)) j (upd_stay k5 n1 n2)
          obtain ⟨fp', c2, gg, s2, _⟩ := k6 _ _ _ w1 (fun x h => .inl (w2.subset h)) (n4.sublist w2)
          exact h2 σ S2 _ fp' c2 gg s2
    | _ => exact h2.elim
theorem ev_popAt {p1 p2 : Pos} (hN : X.N[i]? = some x) (hv : Vis X.env.scope x) (ha : Ev X W io m a f) (hs : starEach [a] X.env = (false, eval a X.env) :: starEach [] X.env := by rfl) (hfew : ((backTo pos (starEach [a] X.env)).all (fun x => !x.1) && (backToKw pos (keywordEach [] X.env)).all (fun x => x.1.isSome) && decide ([a].length + ([] : List Keyword).length + (if ([] : List Keyword).isEmpty then 0 else 1) < 30)) = true := by rfl) (hline : (p2.endLine == pos.line) = true := by rfl) (hplain : (backTo pos (starEach [] X.env)).any (·.1) = false := by rfl) (hd : (x == ("__debug__" : Str)) = false := by decide) (hcd : (x == ("__classdict__" : Str)) = false := by decide) :
    Ev X W io true (.Call (.Attribute (.Name x p1) "pop" p2) [a] [] pos) (dPopAt i f) := by
  refine ⟨(pe_bm PySem.F.plainAttrs_list PySem.F.slot_list_pop PySem.F.type_list_pop mt_popAt (pe_var hN hv hd hcd) (pa_cons ha.frz.pe pa_nil hs) rfl hfew hline hs hplain).imp fun σ H Q q => ?_, fun h => nomatch h⟩
  obtain ⟨S, env, fp, C, G, q⟩ := q
  unfold dPopAt at q
  cases ep : mlsAt env i with
  | none => rw [ep] at q; exact q.elim
  | some l0 =>
    rw [ep] at q
    obtain ⟨b, ws0, g0, h1, h2, _⟩ := cl_mut (fv := []) C G (mlsAt_some ep)
    refine ⟨.ref b, h1, .inl ⟨rfl, _, SqL.of h2⟩, ?_⟩
    refine Post.bind (m := true) (m1 := m) (ft := []) C Owns.nil G (fun h => Bool.noConfusion h) q fun p y S1 H1 env1 fv fp1 ov _ C1 G1 e1 _ _ h4 => ?_
    have z := dFrz_nil e1 ov
    subst z
    have G1 : Good S1 H1 fp1 := G1
    cases p with
    | int k =>
      obtain ⟨rfl, _⟩ := ov
      cases ep1 : mlsAt env1 i with
      | none => rw [ep1] at h4; exact h4.elim
      | some l =>
        rw [ep1] at h4
        have h4 : Post (RV X.K) X W io true S1 H1 σ fp1 fp1 (if -(2 ^ 63) ≤ k ∧ k < 2 ^ 63 then match seqIndex? k l.length with
          | some j => match l[j]? with
            | some p => if isOwn p = true then .stk else .ok p (env1.set i (some (.mls (l.eraseIdx j))))
            | none => .stk
          | none => .stk else .stk) Q := h4
        by_cases hk : -(2 ^ 63) ≤ k ∧ k < 2 ^ 63
        case neg => rw [if_neg hk] at h4; exact h4.elim
        rw [if_pos hk] at h4
        obtain ⟨b', ws, g, h5, h6, h7, ⟨k1, k2, k3, k4, k5, k6⟩, h8⟩ := cl_mut (fv := []) C1 G1 (mlsAt_some ep1)
        rw [h1] at h5
        cases h5
        cases ei : seqIndex? k l.length with
        | none => rw [ei] at h4; exact h4.elim
        | some j =>
          rw [ei] at h4
          have h4 : Post (RV X.K) X W io true S1 H1 σ fp1 fp1 (match l[j]? with
            | some p => if isOwn p = true then .stk else .ok p (env1.set i (some (.mls (l.eraseIdx j))))
            | none => .stk) Q := h4
          cases eg : l[j]? with
          | none => rw [eg] at h4; exact h4.elim
          | some p =>
            rw [eg] at h4
            have h4 : Post (RV X.K) X W io true S1 H1 σ fp1 fp1 (if isOwn p = true then .stk else .ok p (env1.set i (some (.mls (l.eraseIdx j))))) Q := h4
            by_cases no : isOwn p = true
            · rw [if_pos no] at h4; exact h4.elim
            · rw [if_neg no] at h4
              obtain ⟨u, fu, q1, q2⟩ := h7.getG eg
              have z := q2.nonown (by simpa using no)
              subst z
              obtain ⟨g', w1, w2⟩ := Owns.eraseG j (upd_stay (o := .lst (ws.eraseIdx j)) h7 k1 k2)
              obtain ⟨fp', c2, gg, s2, _⟩ := h8 _ _ _ w1 (fun x h => .inl (w2.subset h)) (k4.sublist w2)
              exact ⟨b, ws, k, j, u, rfl, rfl, h6, hk.1, hk.2, by rw [← h7.length]; exact ei, q1, h4 u S1 _ [] fp' (upd_stay1 q2 k1 (fun h => nomatch h)) c2 gg s2 fun h => nomatch h⟩
    | _ => exact h4.elim
end
end L3

namespace L3
open PySem PySem.Spec PyProof.Rows L2
section
variable {K : PySem.W.Frag} {S S' : Addr → Prop} {H H' : Hp} {X : Cx}
/-- two ints to a value -/
def iiP (g : Int → Int → Option PV) : PV → PV → Option PV
  | .int i, .int j => g i j
  | _, _ => none
theorem prim_ii {r : R2} {g : Int → Int → Option PV} (h : ∀ i j z H Q, g i j = some z → (∀ u, (∀ K S H, Own K S H z u []) → Q u H) → r (.int i) (.int j) H Q) : Prim2 K r (iiP g) := by
  intro S H p q v w z Q dm o1 o2 e k
  cases p with
  | int i =>
    cases q with
    | int j =>
      obtain ⟨rfl, _⟩ := o1
      obtain ⟨rfl, _⟩ := o2
      exact h i j z H Q e fun u ou => k u S H [] (ou _ _ _) (New.refl dm)
    | _ => cases e
  | _ => cases e
theorem prim_i0 {r : Int → Int → Int} : Prim2 K (rI0 fun i j => .int (r i j)) (iiP fun i j => some (.int (r i j))) := prim_ii fun i j z H Q e k => by
  cases e
  exact ⟨i, j, rfl, rfl, k _ fun _ _ _ => ⟨rfl, rfl⟩⟩
theorem prim_b0 {r : Int → Int → Bool} : Prim2 K (rI0 fun i j => .bl (r i j)) (iiP fun i j => some (.bl (r i j))) := prim_ii fun i j z H Q e k => by
  cases e
  exact ⟨i, j, rfl, rfl, k _ fun _ _ _ => ⟨rfl, rfl⟩⟩
theorem prim_iC {C : Int → Int → Prop} {r : Int → Int → Int} [∀ i j, Decidable (C i j)] : Prim2 K (rI C fun i j => .int (r i j)) (iiP fun i j => if C i j then some (.int (r i j)) else none) := prim_ii fun i j z H Q e k => by
  by_cases h : C i j
  · rw [if_pos h] at e
    cases e
    exact ⟨i, j, rfl, rfl, h, k _ fun _ _ _ => ⟨rfl, rfl⟩⟩
  · rw [if_neg h] at e; cases e
def subP : PV → PV → Option PV := iiP fun i j => some (.int (i - j))
theorem prim_sub : Prim2 K (rI0 fun i j => .int (i - j)) subP := prim_i0
def ltP : PV → PV → Option PV := iiP fun i j => some (.bl (decide (i < j)))
def leP : PV → PV → Option PV := iiP fun i j => some (.bl (decide (i ≤ j)))
def gtP : PV → PV → Option PV := iiP fun i j => some (.bl (decide (j < i)))
def geP : PV → PV → Option PV := iiP fun i j => some (.bl (decide (j ≤ i)))
theorem prim_lt : Prim2 K (rI0 fun i j => .bl (decide (i < j))) ltP := prim_b0
theorem prim_le : Prim2 K (rI0 fun i j => .bl (decide (i ≤ j))) leP := prim_b0
theorem prim_gt : Prim2 K (rI0 fun i j => .bl (decide (j < i))) gtP := prim_b0
theorem prim_ge : Prim2 K (rI0 fun i j => .bl (decide (j ≤ i))) geP := prim_b0
/-- % by a positive one; // by a positive one -/
def modP : PV → PV → Option PV := iiP fun i j => if 0 < j then some (.int (i % j)) else none
theorem prim_mod : Prim2 K (rI (fun _ j => 0 < j) fun i j => .int (i % j)) modP := prim_iC (C := fun _ j => 0 < j)
instance (i j : Int) : Decidable (CDivW i j) := inferInstanceAs (Decidable (0 < j ∧ _))
def fdivP : PV → PV → Option PV := iiP fun i j => if CDivW i j then some (.int (i / j)) else none
theorem prim_fdiv : Prim2 K (rI CDivW fun i j => .int (i / j)) fdivP := prim_iC
instance (i j : Int) : Decidable (CMulW i j) := by unfold CMulW; infer_instance
instance (i j : Int) : Decidable (CMul i j) := inferInstanceAs (Decidable (_ ∨ _))
def mulP : PV → PV → Option PV := iiP fun i j => if CMul i j ∨ CMulW i j then some (.int (i * j)) else none
theorem op_mulA : OpR X (binaryOp .Mult) (rI (fun i j => CMul i j ∨ CMulW i j) fun i j => .int (i * j)) := by
  intro pins s σ H x y v u Q I rx ry h
  obtain ⟨i, j, e1, e2, c | c, q⟩ := h
  · exact op_mul pins s σ H x y v u Q I rx ry ⟨i, j, e1, e2, c, q⟩
  · exact op_mulW pins s σ H x y v u Q I rx ry ⟨i, j, e1, e2, c, q⟩
theorem prim_mul : Prim2 K (rI (fun i j => CMul i j ∨ CMulW i j) fun i j => .int (i * j)) mulP := prim_iC (C := fun i j => CMul i j ∨ CMulW i j)
instance (i j : Int) : Decidable (CPow i j) := inferInstanceAs (Decidable (_ ∧ _ ∧ _))
def powP : PV → PV → Option PV := iiP fun i j => if CPow i j then some (.int (i ^ j.toNat)) else none
theorem prim_pow : Prim2 K (rI CPow fun i j => .int (i ^ j.toNat)) powP := prim_iC
def shlP : PV → PV → Option PV := iiP fun i j => if CPow i j then some (.int (i * 2 ^ j.toNat)) else none
theorem prim_shl : Prim2 K (rI CPow fun i j => .int (i * 2 ^ j.toNat)) shlP := prim_iC
/-! ### + -/
def addP : PV → PV → Option PV
  | .int i, .int j => some (.int (i + j))
  | .str a, .str b => if a.length + b.length ≤ sizeLine then some (.str (a ++ b)) else none
  | .tup a, .tup b => if a.length + b.length ≤ sizeLine then some (.tup (a ++ b)) else none
  | .lst a, .lst b => if a.length + b.length ≤ sizeLine then some (.mls (a ++ b)) else none
  | _, _ => none
def rTup0 (K : PySem.W.Frag) : R2 := fun x y H Q => ∃ a b ys, x = .ref a ∧ y = .ref b ∧ SqT K H a [] ∧ SqT K H b ys ∧ Q (.ref b) H
theorem op_tup0 : OpR X (binaryOp .Add) (rTup0 X.K) := by
  intro pins s σ H x y v u Q I rx ry h
  obtain ⟨a, b, ys, rfl, rfl, ha, hb, q⟩ := h
  cases rx
  cases ry
  obtain ⟨its, r1, p1, _⟩ := I.tuple ha
  obtain ⟨its2, r2, p2, _⟩ := I.tuple hb
  cases r1
  obtain ⟨⟨cls, dd, data, sl⟩, h1, c1, n1, d1⟩ := id p1
  obtain ⟨⟨cls2, dd2, data2, sl2⟩, h2, c2, n2, d2⟩ := id p2
  simp only at c1 d1 c2 d2
  subst c1 d1 c2 d2
  exact concat_meets ⟨_, h1, rfl⟩ ⟨_, h2, rfl⟩ noFill_tuple_add seq_tuple_add PySem.F.slot_tuple_add PySem.F.entry_tuple_add
    (PySem.F.args_tuple_add_2 _ _) (tuple_addW0 a b _ _ n1 n2 dd dd2 sl sl2 rfl) ⟨h1, h2, .ref b, H, I, rfl, q⟩
def rAdd (K : PySem.W.Frag) : R2 := fun x y H Q => rI0 (fun i j => .int (i + j)) x y H Q ∨ (∃ i j, x = .str i ∧ y = .str j ∧ i.length + j.length ≤ sizeLine ∧ Q (.str (i ++ j)) H) ∨ rCatT K x y H Q ∨ rTup0 K x y H Q ∨ rCat x y H Q
theorem op_addA : OpR X (binaryOp .Add) (rAdd X.K) := op_add.or (op_add_str.or (op_catT.or (op_tup0.or op_cat)))
theorem prim_add : Prim2 K (rAdd K) addP := by
  intro S H p q v w z Q dm o1 o2 e k
  cases p with
  | int i =>
    cases q with
    | int j =>
      obtain ⟨rfl, _⟩ := o1
      obtain ⟨rfl, _⟩ := o2
      cases e
      exact .inl ⟨i, j, rfl, rfl, k _ S H [] ⟨rfl, rfl⟩ (New.refl dm)⟩
    | _ => cases e
  | str a =>
    cases q with
    | str b =>
      obtain ⟨rfl, _⟩ := o1
      obtain ⟨rfl, _⟩ := o2
      have e : (if a.length + b.length ≤ sizeLine then some (PV.str (a ++ b)) else none) = some z := e
      by_cases h : a.length + b.length ≤ sizeLine
      · rw [if_pos h] at e
        cases e
        exact .inr (.inl ⟨a, b, rfl, rfl, h, k _ S H [] ⟨rfl, rfl⟩ (New.refl dm)⟩)
      · rw [if_neg h] at e; cases e
    | _ => cases e
  | tup a =>
    cases q with
    | tup b =>
      obtain ⟨p, vs, rfl, _, f1, os1⟩ := o1
      have o2' := o2
      obtain ⟨q, ws, rfl, _, f2, os2⟩ := o2
      have e : (if a.length + b.length ≤ sizeLine then some (PV.tup (a ++ b)) else none) = some z := e
      by_cases h : a.length + b.length ≤ sizeLine
      · rw [if_pos h] at e
        cases e
        by_cases ha : a = []
        · subst ha
          have : vs = [] := os1.1
          subst this
          exact .inr (.inr (.inr (.inl ⟨p, q, ws, rfl, rfl, f1.sq, f2.sq, k _ S H [] o2' (New.refl dm)⟩)))
        · have hv : vs ≠ [] := fun z => ha (List.length_eq_zero_iff.mp (by rw [os1.length, z]; rfl))
          refine .inr (.inr (.inl ⟨p, q, vs, ws, rfl, rfl, f1.sq, f2.sq, hv, by rw [← os1.length, ← os2.length]; exact h, fun hw => ?_, fun hw p' hp => ?_⟩))
          · subst hw
            have : b = [] := List.length_eq_zero_iff.mp os2.length
            subst this
            exact k _ S H [] ⟨p, vs, rfl, rfl, f1, by rw [List.append_nil]; exact os1⟩ (New.refl dm)
          · exact new_tup dm hp (os1.append os2) k
      · rw [if_neg h] at e; cases e
    | _ => cases e
  | lst a =>
    cases q with
    | lst b =>
      obtain ⟨p, vs, rfl, _, f1, os1⟩ := o1
      obtain ⟨q, ws, rfl, _, f2, os2⟩ := o2
      have e : (if a.length + b.length ≤ sizeLine then some (PV.mls (a ++ b)) else none) = some z := e
      by_cases h : a.length + b.length ≤ sizeLine
      · rw [if_pos h] at e
        cases e
        exact .inr (.inr (.inr (.inr ⟨p, q, vs, ws, rfl, rfl, f1.2, f2.2, by rw [← os1.length, ← os2.length]; exact h, fun p' hp => new_mls dm hp (os1.append os2) k⟩)))
      · rw [if_neg h] at e; cases e
    | _ => cases e
  | _ => cases e
/-! ### ==, is -/
def isNonB : PV → Bool
  | .non => true
  | _ => false
def isP (p q : PV) : Option PV := if isNonB q = true then some (.bl (isNonB p)) else none
def isnP (p q : PV) : Option PV := if isNonB q = true then some (.bl (!isNonB p)) else none
theorem own_non {p : PV} {v : V} {f : List Addr} (o : Own K S H p v f) : decide (v = .non) = isNonB p := by
  cases p <;> first
    | (obtain ⟨rfl, _⟩ := o; rfl)
    | (obtain ⟨a, _, rfl, _⟩ := o; rfl)
    | (obtain ⟨a, _, _, rfl, _⟩ := o; rfl)
theorem isNonB_eq {q : PV} {w : V} {f : List Addr} (o : Own K S H q w f) (h : isNonB q = true) : w = .non := by
  cases q <;> first
    | exact o.1
    | cases h
theorem prim_is : Prim2 K (fun x y H Q => y = .non ∧ Q (.bl (decide (x = .non))) H) isP := by
  intro S H p q v w z Q dm o1 o2 e k
  unfold isP at e
  by_cases h : isNonB q = true
  · rw [if_pos h] at e
    cases e
    refine ⟨isNonB_eq o2 h, ?_⟩
    rw [own_non o1]
    exact k _ S H [] ⟨rfl, rfl⟩ (New.refl dm)
  · rw [if_neg h] at e; cases e
theorem prim_isn : Prim2 K (fun x y H Q => y = .non ∧ Q (.bl (!decide (x = .non))) H) isnP := by
  intro S H p q v w z Q dm o1 o2 e k
  unfold isnP at e
  by_cases h : isNonB q = true
  · rw [if_pos h] at e
    cases e
    refine ⟨isNonB_eq o2 h, ?_⟩
    rw [own_non o1]
    exact k _ S H [] ⟨rfl, rfl⟩ (New.refl dm)
  · rw [if_neg h] at e; cases e
def scV : PV → Option V
  | .non => some .non
  | .bl b => some (.bl b)
  | .int i => some (.int i)
  | .str s => some (.str s)
  | _ => none
mutual
def dat : PV → Option PyData
  | .non => some .none
  | .bl b => some (.bool b)
  | .int i => some (.int i)
  | .str s => some (.str s)
  | .tup l => (datL l).map .tuple
  | .lst l => (datL l).map .list
  | .scr l => (datL l).map .list
  | _ => none
def datL : List PV → Option (List PyData)
  | [] => some []
  | p :: ps => (dat p).bind fun d => (datL ps).map (d :: ·)
end
def datB (p q : PV) : Option Bool := (dat p).bind fun d => (dat q).bind fun e => if SeqAt.shaped d = true ∧ SeqAt.shaped e = true then some (PyData.eqv d e) else none
def eqB : PV → PV → Option Bool
  | .int i, .int j => some (i == j)
  | .str a, .str b => some (a == b)
  | .bl a, .bl b => some (a == b)
  | .non, .non => some true
  | p, q => datB p q
theorem scV_own {p : PV} {x v : V} {f : List Addr} (o : Own K S H p v f) (h : scV p = some x) : v = x := by
  cases p <;> first
    | (cases h; exact o.1)
    | cases h
mutual
theorem dat_ok : ∀ (p : PV) (v : V) (d : PyData) (f : List Addr), Own K S H p v f → dat p = some d → Dp K H v d
  | .non, v, d, f, o, e => by cases e; obtain ⟨rfl, _⟩ := o; exact .non
  | .bl b, v, d, f, o, e => by cases e; obtain ⟨rfl, _⟩ := o; exact .bl b
  | .int b, v, d, f, o, e => by cases e; obtain ⟨rfl, _⟩ := o; exact .int b
  | .str b, v, d, f, o, e => by cases e; obtain ⟨rfl, _⟩ := o; exact .str b
  | .tup l, v, d, f, o, e => by
    have e : (datL l).map PyData.tuple = some d := e
    obtain ⟨a, vs, rfl, _, fr, os⟩ := o
    cases q : datL l with
    | none => rw [q] at e; cases e
    | some ds => rw [q] at e; cases e; exact .tup fr.sq (datL_ok l vs ds os q)
  | .lst l, v, d, f, o, e => by
    have e : (datL l).map PyData.list = some d := e
    obtain ⟨a, vs, rfl, _, fr, os⟩ := o
    cases q : datL l with
    | none => rw [q] at e; cases e
    | some ds => rw [q] at e; cases e; exact .lst (SqL.of fr.2) (datL_ok l vs ds os q)
  | .scr l, v, d, f, o, e => by
    have e : (datL l).map PyData.list = some d := e
    obtain ⟨a, vs, rfl, _, fr, os⟩ := o
    cases q : datL l with
    | none => rw [q] at e; cases e
    | some ds => rw [q] at e; cases e; exact .lst fr.sq (datL_ok l vs ds os q)
  | .mls _, _, _, _, _, e => by cases e
  | .mdk _ _, _, _, _, _, e => by cases e
  | .mdt _ _, _, _, _, _, e => by cases e
  | .dck _ _, _, _, _, _, e => by cases e
  | .dct _ _, _, _, _, _, e => by cases e
theorem datL_ok : ∀ (p : List PV) (v : List V) (d : List PyData), Owns K S H p v [] → datL p = some d → DpAll K H v d
  | [], v, d, o, e => by cases e; rw [o.1]; exact .nil
  | p :: ps, v, d, o, e => by
    obtain ⟨x, r, f1, f2, rfl, e2, o1, o2⟩ := o
    obtain ⟨rfl, rfl⟩ := app_nil e2
    have e : ((dat p).bind fun d => (datL ps).map (d :: ·)) = some d := e
    cases q : dat p with
    | none => rw [q] at e; cases e
    | some d1 =>
      rw [q] at e
      have e : (datL ps).map (d1 :: ·) = some d := e
      cases q2 : datL ps with
      | none => rw [q2] at e; cases e
      | some ds => rw [q2] at e; cases e; exact .cons (dat_ok p x d1 [] o1 q) (datL_ok ps r ds o2 q2)
end
def rEqA (K : PySem.W.Frag) : R2 := fun x y H Q => rEq x y H Q ∨ rEqD K x y H Q
def rNeA (K : PySem.W.Frag) : R2 := fun x y H Q => rNe x y H Q ∨ rNeD K x y H Q
theorem eqB_ok {p q : PV} {v w : V} {b : Bool} (o1 : Own K S H p v []) (o2 : Own K S H q w []) (e : eqB p q = some b) : (scal v w = true ∧ decide (v = w) = b) ∨ ∃ d e, Dp K H v d ∧ Dp K H w e ∧ SeqAt.shaped d = true ∧ SeqAt.shaped e = true ∧ PyData.eqv d e = b := by
  have gen : datB p q = some b → ∃ d e, Dp K H v d ∧ Dp K H w e ∧ SeqAt.shaped d = true ∧ SeqAt.shaped e = true ∧ PyData.eqv d e = b := fun e => by
    unfold datB at e
    cases q1 : dat p with
    | none => rw [q1] at e; cases e
    | some d =>
      rw [q1] at e
      have e : ((dat q).bind fun e => if SeqAt.shaped d = true ∧ SeqAt.shaped e = true then some (PyData.eqv d e) else none) = some b := e
      cases q2 : dat q with
      | none => rw [q2] at e; cases e
      | some d2 =>
        rw [q2] at e
        have e : (if SeqAt.shaped d = true ∧ SeqAt.shaped d2 = true then some (PyData.eqv d d2) else none) = some b := e
        by_cases h : SeqAt.shaped d = true ∧ SeqAt.shaped d2 = true
        · rw [if_pos h] at e
          cases e
          exact ⟨d, d2, dat_ok p v d [] o1 q1, dat_ok q w d2 [] o2 q2, h.1, h.2, rfl⟩
        · rw [if_neg h] at e; cases e
  unfold eqB at e
  split at e
  · obtain ⟨rfl, _⟩ := o1; obtain ⟨rfl, _⟩ := o2; cases e; exact .inl ⟨rfl, dec_int⟩
  · obtain ⟨rfl, _⟩ := o1; obtain ⟨rfl, _⟩ := o2; cases e; exact .inl ⟨rfl, dec_str⟩
  · obtain ⟨rfl, _⟩ := o1; obtain ⟨rfl, _⟩ := o2; cases e; exact .inl ⟨rfl, dec_bl⟩
  · obtain ⟨rfl, _⟩ := o1; obtain ⟨rfl, _⟩ := o2; cases e; exact .inl ⟨rfl, rfl⟩
  · exact .inr (gen e)
def eqP (p q : PV) : Option PV := (eqB p q).map fun b => .bl b
def neP (p q : PV) : Option PV := (eqB p q).map fun b => .bl !b
theorem prim_eq : Prim2 K (rEqA K) eqP := by
  intro S H p q v w z Q dm o1 o2 e k
  unfold eqP at e
  cases h : eqB p q with
  | none => rw [h] at e; cases e
  | some b =>
    rw [h] at e
    cases e
    have fin := k (.bl b) S H [] ⟨rfl, rfl⟩ (New.refl dm)
    rcases eqB_ok o1 o2 h with ⟨h1, h2⟩ | ⟨d, e, h1, h2, h3, h4, h5⟩
    · exact .inl ⟨h1, by rw [h2]; exact fin⟩
    · exact .inr ⟨d, e, h1, h2, h3, h4, by rw [h5]; exact fin⟩
theorem prim_ne : Prim2 K (rNeA K) neP := by
  intro S H p q v w z Q dm o1 o2 e k
  unfold neP at e
  cases h : eqB p q with
  | none => rw [h] at e; cases e
  | some b =>
    rw [h] at e
    cases e
    have fin := k (.bl !b) S H [] ⟨rfl, rfl⟩ (New.refl dm)
    rcases eqB_ok o1 o2 h with ⟨h1, h2⟩ | ⟨d, e, h1, h2, h3, h4, h5⟩
    · exact .inl ⟨h1, by rw [h2]; exact fin⟩
    · exact .inr ⟨d, e, h1, h2, h3, h4, by rw [h5]; exact fin⟩
theorem op_eqA (hu : X.A.units + 64 < cLine) : OpR X (compareOp .Eq) (rEqA X.K) := op_eq.or (op_eqD hu)
theorem op_neA (hu : X.A.units + 64 < cLine) : OpR X (compareOp .NotEq) (rNeA X.K) := op_ne.or (op_neD hu)
/-! ### < of tuples of ints -/
def ltT (p q : PV) : Option PV := match p, q with
  | .tup a, .tup b => match intsP a, intsP b with
    | some ns, some ms => some (.bl (HT.lexLt ns ms))
    | _, _ => none
  | p, q => ltP p q
def rLtA (K : PySem.W.Frag) : R2 := fun x y H Q => rI0 (fun i j => .bl (decide (i < j))) x y H Q ∨ rLtT K x y H Q
theorem op_ltA (hu : X.A.units < cLine) : OpR X (compareOp .Lt) (rLtA X.K) := op_lt.or (op_ltT hu)
theorem prim_ltT : Prim2 K (rLtA K) ltT := by
  intro S H p q v w z Q dm o1 o2 e k
  unfold ltT at e
  split at e
  · next a b =>
    split at e
    · next ns ms h1 h2 =>
      cases e
      obtain ⟨a, vs, rfl, _, f1, os1⟩ := o1
      obtain ⟨b, ws, rfl, _, f2, os2⟩ := o2
      have e1 := os1.ints h1
      have e2 := os2.ints h2
      subst e1 e2
      exact .inr ⟨a, b, ns, ms, rfl, rfl, f1.sq, f2.sq, k _ S H [] ⟨rfl, rfl⟩ (New.refl dm)⟩
    · cases e
  · exact .inl (prim_lt S H p q v w z Q dm o1 o2 e k)
/-! ### in -/
def flatL : List PV → Option (List V)
  | [] => some []
  | p :: ps => (scV p).bind fun v => (flatL ps).map (v :: ·)
def oneSign (s : Str) : Option Nat := match s.cps.toList with
  | [c] => some c
  | _ => none
theorem oneSign_eq {s : Str} {c : Nat} (h : oneSign s = some c) : s = ⟨#[c]⟩ := by
  unfold oneSign at h
  split at h
  · next c' e =>
    cases h
    obtain ⟨a⟩ := s
    have e : a.toList = [c] := e
    have : a = #[c] := by rw [← Array.toArray_toList (xs := a), e]
    rw [this]
  · cases h
def inB (p : PV) : PV → Option Bool
  | .str z => match p with
    | .str s => (oneSign s).map fun c => decide (c ∈ z.cps.toList)
    | _ => none
  | q => (itemsOf q).bind fun l => (scV p).bind fun x => (flatL l).map fun xs => inV x xs
theorem flatL_ok : ∀ {l : List PV} {vs xs : List V} {g : List Addr}, Owns K S H l vs g → flatL l = some xs → vs = xs ∧ xs.all flatV = true
  | [], vs, xs, _, o, e => by cases e; exact ⟨o.1, rfl⟩
  | p :: ps, vs, xs, _, o, e => by
    obtain ⟨x, r, f1, f2, rfl, e2, o1, o2⟩ := o
    have e : ((scV p).bind fun v => (flatL ps).map (v :: ·)) = some xs := e
    cases q : scV p with
    | none => rw [q] at e; cases e
    | some v =>
      rw [q] at e
      have e : (flatL ps).map (v :: ·) = some xs := e
      cases q2 : flatL ps with
      | none => rw [q2] at e; cases e
      | some ys =>
        rw [q2] at e
        cases e
        obtain ⟨h1, h2⟩ := flatL_ok o2 q2
        have h3 := scV_own o1 q
        subst h1 h3
        refine ⟨rfl, ?_⟩
        rw [List.all_cons, h2, Bool.and_true]
        cases p <;> first
          | (cases q; rfl)
          | cases q
theorem scV_flat {p : PV} {x : V} (q : scV p = some x) : flatV x = true := by
  cases p <;> first
    | (cases q; rfl)
    | cases q
def rInA (K : PySem.W.Frag) : R2 := fun x y H Q => rIn K false x y H Q ∨ ∃ (c : Nat) (z : Str), x = .str ⟨#[c]⟩ ∧ y = .str z ∧ Q (.bl (decide (c ∈ z.cps.toList))) H
def rNinA (K : PySem.W.Frag) : R2 := fun x y H Q => rIn K true x y H Q ∨ ∃ (c : Nat) (z : Str), x = .str ⟨#[c]⟩ ∧ y = .str z ∧ Q (.bl (!decide (c ∈ z.cps.toList))) H
theorem op_inA : OpR X (compareOp .In) (rInA X.K) := op_in_seq.or op_in_sign
theorem op_ninA : OpR X (compareOp .NotIn) (rNinA X.K) := op_notIn_seq.or op_notIn_sign
def inP (p q : PV) : Option PV := (inB p q).map fun b => .bl b
def ninP (p q : PV) : Option PV := (inB p q).map fun b => .bl !b
theorem inB_ok {p q : PV} {v w : V} {b : Bool} (o1 : Own K S H p v []) (o2 : Own K S H q w []) (e : inB p q = some b) :
    (∃ a xs, w = .ref a ∧ (SqL K H a xs ∨ SqT K H a xs) ∧ flatV v = true ∧ xs.all flatV = true ∧ inV v xs = b) ∨ ∃ (c : Nat) (z : Str), v = .str ⟨#[c]⟩ ∧ w = .str z ∧ decide (c ∈ z.cps.toList) = b := by
  have gen : ∀ l, itemsOf q = some l → ((scV p).bind fun x => (flatL l).map fun xs => inV x xs) = some b → ∃ a xs, w = .ref a ∧ (SqL K H a xs ∨ SqT K H a xs) ∧ flatV v = true ∧ xs.all flatV = true ∧ inV v xs = b := fun l hl e => by
    cases q1 : scV p with
    | none => rw [q1] at e; cases e
    | some x =>
      rw [q1] at e
      have e : ((flatL l).map fun xs => inV x xs) = some b := e
      cases q2 : flatL l with
      | none => rw [q2] at e; cases e
      | some xs =>
        rw [q2] at e
        cases e
        have h1 := scV_own o1 q1
        subst h1
        cases q with
        | tup l' =>
          cases hl
          obtain ⟨a, vs, rfl, _, fr, os⟩ := o2
          obtain ⟨h2, h3⟩ := flatL_ok os q2
          subst h2
          exact ⟨a, vs, rfl, .inr fr.sq, scV_flat q1, h3, rfl⟩
        | lst l' =>
          cases hl
          obtain ⟨a, vs, rfl, _, fr, os⟩ := o2
          obtain ⟨h2, h3⟩ := flatL_ok os q2
          subst h2
          exact ⟨a, vs, rfl, .inl (SqL.of fr.2), scV_flat q1, h3, rfl⟩
        | scr l' =>
          cases hl
          obtain ⟨a, vs, rfl, _, fr, os⟩ := o2
          obtain ⟨h2, h3⟩ := flatL_ok os q2
          subst h2
          exact ⟨a, vs, rfl, .inl fr.sq, scV_flat q1, h3, rfl⟩
        | _ => cases hl
  unfold inB at e
  split at e
  · split at e
    · next s =>
      obtain ⟨rfl, _⟩ := o1
      obtain ⟨rfl, _⟩ := o2
      cases h : oneSign s with
      | none => rw [h] at e; cases e
      | some c =>
        rw [h] at e
        cases e
        have := oneSign_eq h
        subst this
        exact .inr ⟨_, _, rfl, rfl, rfl⟩
    · cases e
  · cases h : itemsOf q with
    | none => rw [h] at e; cases e
    | some l => rw [h] at e; exact .inl (gen l h e)
theorem prim_in : Prim2 K (rInA K) inP := by
  intro S H p q v w z Q dm o1 o2 e k
  unfold inP at e
  cases h : inB p q with
  | none => rw [h] at e; cases e
  | some b =>
    rw [h] at e
    cases e
    have fin := k (.bl b) S H [] ⟨rfl, rfl⟩ (New.refl dm)
    rcases inB_ok o1 o2 h with ⟨a, xs, h1, h2, h3, h4, h5⟩ | ⟨c, y, h1, h2, h3⟩
    · exact .inl ⟨a, xs, h1, h2, h3, h4, by rw [if_neg (by decide), h5]; exact fin⟩
    · exact .inr ⟨c, y, h1, h2, by rw [h3]; exact fin⟩
theorem prim_nin : Prim2 K (rNinA K) ninP := by
  intro S H p q v w z Q dm o1 o2 e k
  unfold ninP at e
  cases h : inB p q with
  | none => rw [h] at e; cases e
  | some b =>
    rw [h] at e
    cases e
    have fin := k (.bl !b) S H [] ⟨rfl, rfl⟩ (New.refl dm)
    rcases inB_ok o1 o2 h with ⟨a, xs, h1, h2, h3, h4, h5⟩ | ⟨c, y, h1, h2, h3⟩
    · exact .inl ⟨a, xs, h1, h2, h3, h4, by rw [if_pos rfl, h5]; exact fin⟩
    · exact .inr ⟨c, y, h1, h2, by rw [h3]; exact fin⟩
end
end L3

namespace L3
open PySem PySem.Spec PyProof.Rows L2
/-! ### an own error is made, raised -/
/-- what __init__ of the error class at C promises: the fields ks hold the arguments -/
def spX (C : Addr) (ks : List Str) : Sp := fun vs H Q _ => ∃ (a : Addr) (ws : List V), vs = .ref a :: ws ∧ ws.length = ks.length ∧ H a = some (exo a C none) ∧
  ∀ d fs H', H d = none → d ≠ a → H' a = some (exo a C (some d)) → H' d = some (exd d fs) → (∀ b, b ≠ a → b ≠ d → H' b = H b) → (∀ f, fs.lookup f = (ks.zip ws).lookup f) → Q .non H'
section
variable {P : Program} {w : World} {K : PySem.W.Frag} {mg : Str → Option Value} {base : Heap}
theorem ok_init1 {f C : Addr} {fd : FuncData} {qual f1 : Str} {st : Stmt} {p1 p2 p3 p4 : Pos} (F : L2.Fun K "__init__" qual st f fd) (Sc : FnScope ["self", f1] ["self", f1] (defScope st))
    (hbody : defBody st = [.Assign [.Attribute (.Name "self" p1) f1 p2] (.Name f1 p3) p4]) (T : OexC K C) (no1 : PySem.W.findIn K (.ref C) f1 = some none) (hv1 : Vis (defScope st) "self") (hv2 : Vis (defScope st) f1) (hd : (f1 == ("__debug__" : Str)) = false) (hcd : (f1 == ("__classdict__" : Str)) = false)
    (hs : ∀ (X : Cx), X.env.scope = defScope st → X.env.scope.kind = .function → swapsWith (.Name f1 p3) (some (.Attribute (.Name "self" p1) f1 p2)) p4.line X.env = pure false) : FnOk P w K mg base (L2.CX P w) 1 f fd ["self", f1] (spX C [f1]) := by
  refine F.okX Sc (fun vs H Q E h => ?_) (fun cdv A outer s H vs Q E hr h => ?_)
  · obtain ⟨a, ws, rfl, hl, _⟩ := h
    show ws.length + 1 = 2
    rw [hl]; rfl
  · obtain ⟨a, ws, rfl, hl, ha, k⟩ := h
    match ws, hl with
    | [y], _ =>
      rw [hbody]
      refine ⟨_, pss_one (ps_ost (pe_var (i := 0) rfl hv1) (pe_var (i := 1) rfl hv2 hd hcd) (hs _ rfl Sc.kind)), ?_⟩
      refine ⟨y, rfl, .ref a, rfl, a, C, rfl, T, no1, .inl ⟨ha, fun d hd hn => ?_⟩⟩
      exact k d [(f1, y)] _ hd hn upd_same (by rw [upd_ne hn, upd_same]) (fun b h1 h2 => by rw [upd_ne h1, upd_ne h2]) fun f => rfl
theorem ok_init2 {f C : Addr} {fd : FuncData} {qual f1 f2 : Str} {st : Stmt} {p1 p2 p3 p4 q1 q2 q3 q4 : Pos} (F : L2.Fun K "__init__" qual st f fd) (Sc : FnScope ["self", f1, f2] ["self", f1, f2] (defScope st))
    (hbody : defBody st = [.Assign [.Attribute (.Name "self" p1) f1 p2] (.Name f1 p3) p4, .Assign [.Attribute (.Name "self" q1) f2 q2] (.Name f2 q3) q4]) (T : OexC K C) (ne : f1 ≠ f2) (no1 : PySem.W.findIn K (.ref C) f1 = some none) (no2 : PySem.W.findIn K (.ref C) f2 = some none)
    (hv1 : Vis (defScope st) "self") (hv2 : Vis (defScope st) f1) (hv3 : Vis (defScope st) f2) (hd : (f1 == ("__debug__" : Str)) = false) (hcd : (f1 == ("__classdict__" : Str)) = false) (hd2 : (f2 == ("__debug__" : Str)) = false) (hcd2 : (f2 == ("__classdict__" : Str)) = false)
    (hs : ∀ (X : Cx), X.env.scope = defScope st → X.env.scope.kind = .function → swapsWith (.Name f1 p3) (some (.Attribute (.Name "self" p1) f1 p2)) p4.line X.env = pure false)
    (hs2 : ∀ (X : Cx), X.env.scope = defScope st → X.env.scope.kind = .function → swapsWith (.Name f2 q3) (some (.Attribute (.Name "self" q1) f2 q2)) q4.line X.env = pure false) : FnOk P w K mg base (L2.CX P w) 1 f fd ["self", f1, f2] (spX C [f1, f2]) := by
  refine F.okX Sc (fun vs H Q E h => ?_) (fun cdv A outer s H vs Q E hr h => ?_)
  · obtain ⟨a, ws, rfl, hl, _⟩ := h
    show ws.length + 1 = 3
    rw [hl]; rfl
  · obtain ⟨a, ws, rfl, hl, ha, k⟩ := h
    match ws, hl with
    | [y, z], _ =>
      rw [hbody]
      refine ⟨_, pss_cons (ps_ost (pe_var (i := 0) rfl hv1) (pe_var (i := 1) rfl hv2 hd hcd) (hs _ rfl Sc.kind)) (pss_one (ps_ost (pe_var (i := 0) rfl hv1) (pe_var (i := 2) rfl hv3 hd2 hcd2) (hs2 _ rfl Sc.kind))), ?_⟩
      refine ⟨y, rfl, .ref a, rfl, a, C, rfl, T, no1, .inl ⟨ha, fun d hd hn => ?_⟩⟩
      refine ⟨z, rfl, .ref a, rfl, a, C, rfl, T, no2, .inr ⟨d, [(f1, y)], upd_same, (by rw [upd_ne hn, upd_same]), (by show 1 ≤ 900; decide), ?_⟩⟩
      refine k d [(f2, z), (f1, y)] _ hd hn (by rw [upd_ne hn.symm, upd_same]) upd_same (fun b h1 h2 => by rw [upd_ne h2, upd_ne h1, upd_ne h2]) fun f => ?_
      show List.lookup f [(f2, z), (f1, y)] = List.lookup f [(f1, y), (f2, z)]
      simp only [List.lookup]
      by_cases e1 : f = f1
      · have e2 : ¬ f = f2 := fun q => ne (e1.symm.trans q)
        have b2 : (f == f2) = false := by simpa using e2
        have b1 : (f == f1) = true := by simpa using e1
        rw [b1, b2]
      · have b1 : (f == f1) = false := by simpa using e1
        rw [b1]
end
section
variable {X : Cx} {W : WX} {io : Io} {m m1 m2 : Bool} {e : Expr} {es : List Expr} {fs : Env → R (List PV)} {pos pos2 p : Pos} {x : Str}
def sRaise (x : Str) (ks : List Str) (fs : Env → R (List PV)) : Env → RS := fun env => (fs env).toS fun ps e => .ex ⟨x, ks.zip ps⟩ e
theorem zip_lookup {K : PySem.W.Frag} {S : Addr → Prop} {H : Hp} {f : Str} {p : PV} : ∀ {ks : List Str} {ps : List PV} {vs : List V}, Owns K S H ps vs [] → (ks.zip ps).lookup f = some p → ∃ v, (ks.zip vs).lookup f = some v ∧ Own K S H p v []
  | [], _, _, _, h => by simp at h
  | k :: ks, [], _, _, h => by simp at h
  | k :: ks, q :: ps, _, o, h => by
    obtain ⟨v, r, f1, f2, rfl, e2, o1, o2⟩ := o
    obtain ⟨rfl, rfl⟩ := app_nil e2
    rw [List.zip_cons_cons, List.lookup] at h ⊢
    cases b : f == k with
    | true =>
      rw [b] at h
      cases h
      exact ⟨v, rfl, o1⟩
    | false =>
      rw [b] at h
      exact zip_lookup o2 h
theorem es_raise {C fI : Addr} {k : Nat} {fd : FuncData} {ps ks : List Str} (hc : X.calm = true) (tk : Takes X W) (T : OexC X.K C) (iC : PySem.W.findIn X.K (.ref C) "__init__" = some (some (.ref fI))) (tI : PySem.W.typeIn X.K (.ref fI) = some (.type "function"))
    (F1 : FnOk X.prog X.w X.K X.mg X.base (L2.CX X.prog X.w) k fI fd ps (spX C ks)) (hr : Room (k + 1) X.A) (hb : Binds X.K fd ps []) (hg : Gl X x) (hm : X.mg x = some (.ref C)) (ha : Ef X W io m (e :: es) fs) (hn : (e :: es).length = ks.length) (hk : ks.length ≤ 1000 := by decide)
    (hdb : (x == ("__debug__" : Str)) = false := by decide) (he : starEach (e :: es) X.env = (false, eval e X.env) :: starEach es X.env := by rfl) (hpl : (backTo pos (starEach es X.env)).any (·.1) = false := by rfl) :
    Es X W io (.Raise (some (.Call (.Name x p) (e :: es) [] pos)) none pos2) (sRaise x ks fs) := by
  have hx : Passes (L2.CX X.prog X.w) X (fun _ _ _ => False) := passes_call tk fun _ _ _ _ h => h.elim
  refine ⟨(ps_raise hc tk (pmk_oex (dvs := []) T iC tI F1 hr hb .nil hx hg hm ha.pe hdb he hpl)).imp fun D σ H q => ?_⟩
  obtain ⟨S, env, fp, C0, G, q⟩ := q
  refine PostS.bind C0 G q fun qs vs S1 H1 env1 fv fp1 o C1 G1 e1 h1 => ?_
  have z := ha.nf _ _ _ e1 _ _ _ _ _ o
  subst z
  have hl : vs.length = ks.length := by rw [← o.length, ha.ln _ _ _ e1, hn]
  refine ⟨by rw [hl]; exact hk, fun a ha1 => ?_⟩
  refine ⟨a, vs, by rw [List.append_nil], hl, upd_same, fun d gs H2 hd hda h2a h2d h2 hlk => ⟨rfl, d, gs, h2a, h2d, ?_, ?_⟩⟩
  · rw [upd_ne hda] at hd; exact hd
  · have hd1 : H1 d = none := by rw [upd_ne hda] at hd; exact hd
    have same : ∀ b o, H1 b = some o → upd (L2.del H2 a) d (.xd gs) b = some o := fun b o e => by
      have n1 : b ≠ d := ne_of_none e hd1
      have n2 : b ≠ a := ne_of_none e ha1
      rw [upd_ne n1, L2.del_ne n2, h2 b n2 n1, upd_ne n2]
      exact e
    have nn : New S1 H1 (fun b => S1 b ∨ b = d) (upd (L2.del H2 a) d (.xd gs)) [] :=
      ⟨same, fun _ h => .inl h, fun b h => h.imp id fun e => by rw [e]; exact hd1, fun _ h => (nomatch h), List.nodup_nil, fun _ h => (nomatch h), fun b h => by
        by_cases z : b = d
        · rw [z, upd_same]; simp
        · exact Same.ne same b (G1.dm b (h.resolve_right z)), fun _ h => (nomatch h)⟩
    refine h1 (.ref C) (some d) σ (fun b => S1 b ∨ b = d) _ fp1 ⟨C, d, gs, rfl, hm, rfl, .inr rfl, upd_same, fun f p hf => ?_⟩ ⟨OwnE.stay (fun b o _ e => same b o e) nn.su _ _ _ (fun b o _ e => same b o e) C1.own, C1.io.stay (fun b o _ e => same b o e) nn.su⟩ ?_ ?_
    · obtain ⟨v, h3, h4⟩ := zip_lookup o hf
      exact ⟨v, by rw [hlk f]; exact h3, Own.stay (fun b o _ e => same b o e) nn.su _ _ _ (fun _ _ z => nomatch z) h4⟩
    · have G1 : Good S1 H1 fp1 := G1
      exact ⟨G1.nd, fun a h s => (nn.sb a s).elim (G1.dj a h) (G1.al a h), nn.dm, fun a h => Same.ne same a (G1.al a h)⟩
    · exact (nn.step fp1).sub fun a h => h
end
/-! ### try, its clauses with a name or without -/
def outI (i : Nat) (D : Ends) : Ends := { nx := fun τ G => D.nx (τ.set i none) G, rt := D.rt, bk := fun τ G => D.bk (τ.set i none) G, ct := fun τ G => D.ct (τ.set i none) G }
abbrev TC := Value × Option Nat × (Addr → Value → Option Addr → TS)
def wTry (K : PySem.W.Frag) (Wout : WX) (D : Ends) : List TC → WX
  | [] => Wout
  | (c, oi, ts) :: r => fun cls d τ G => ∃ b, PySem.W.exmOne K cls c = some b ∧ (b = true → ∀ a, G a = none → (match oi with
      | none => ts a cls d D τ G
      | some i => ts a cls d (outI i D) (τ.set i (some (.ref a))) G)) ∧ (b = false → wTry K Wout D r cls d τ G)
inductive ClOk (X : Cx) : List ExceptHandler → List TC → Prop
  | nil : ClOk X [] []
  | bare {x : Str} {c : Value} {ts : Addr → Value → Option Addr → TS} {b0 : Stmt} {su : List Stmt} {np hp : Pos} {hs : List ExceptHandler} {l : List TC} (hc : Names X x c)
      (hsu : ∀ (a : Addr) (oe : Obj) (cls : Value) (d : Option Addr) (pn : List (Addr × Obj)), Zc cls d oe → (∃ vs, oe.data = .fields vs) → PSs (X.suite a ((a, oe) :: pn)) (b0 :: su) (ts a cls d)) (r : ClOk X hs l) :
      ClOk X (.ExceptHandler (some (.Name x np)) none (b0 :: su) hp :: hs) ((c, none, ts) :: l)
  | named {x n : Str} {i : Nat} {c : Value} {ts : Addr → Value → Option Addr → TS} {b0 : Stmt} {su : List Stmt} {np hp : Pos} {hs : List ExceptHandler} {l : List TC} (hN : X.N.Nodup) (hi : X.N[i]? = some n) (hln : X.env.kindOf n = some .local) (hc : Names X x c)
      (hsu : ∀ (a : Addr) (oe : Obj) (cls : Value) (d : Option Addr) (pn : List (Addr × Obj)), Zc cls d oe → (∃ vs, oe.data = .fields vs) → PSs (X.suite a ((a, oe) :: pn)) (b0 :: su) (ts a cls d)) (r : ClOk X hs l) :
      ClOk X (.ExceptHandler (some (.Name x np)) (some n) (b0 :: su) hp :: hs) ((c, some i, ts) :: l)
section
variable {X : Cx} {body : List Stmt} {h0 : ExceptHandler} {hs : List ExceptHandler} {l : List TC} {pos : Pos} {tb : WX → TS} {Wout : WX}
/-- an exception that no clause takes goes on -/
theorem ps_tryC (st : X.stack = X.env :: X.outer) (fr : X.env.frame = some X.env.locals) (tk : Takes X Wout)
    (hb : ∀ (W : WX) (pn : List (Addr × Obj)) (xe : Value → Shared → Prop), Takes (X.tr pn xe) W → PassesOwn (model X.prog X.w) X.A X.env xe → PSs (X.tr pn xe) body (tb W))
    (hh : ClOk X (h0 :: hs) l) : PS X (.Try body (h0 :: hs) [] [] pos) (fun D τ G => tb (wTry X.K Wout D l) D τ G) := by
  refine ⟨fun pins s τ G D I q => ?_⟩
  have ok := I.ok
  have hfr : X.A.frames = some (X.env :: X.outer) := by rw [ok.frames, st]
  refine wpAny_Try_except ?_
  refine wpAny_mono ((hb (wTry X.K Wout D l) (X.pn ++ pins)
    (fun e s₁ => wpAny (model X.prog X.w) X.A (noteFrame e X.env) (fun _ s₂ => wpAny (model X.prog X.w) X.A (setFlight e none)
      (fun _ s₃ => wpAny (model X.prog X.w) X.A (handleBy e X.env (h0 :: hs)) (SP X pins D) X.xe s₃) X.xe s₂) X.xe s₁)
    (fun u s' ex => ?_) PassesOwn.looking).run [] s τ G D (I.toTry _) q) (fun fl s1 sp => ?_) (fun e s1 z => z)
  · obtain ⟨a, B, t0, ps', τ', G', cls, d, rfl, J', nb, up, sk, na, os, ag, wt⟩ := ex
    have J : Inv X pins τ' G' t0 := J'.ofTry ok
    have sk' : Sky B (X.env :: X.outer) a (Zc cls d) X.env.locals s'.heap := by rw [← st]; exact sk
    show wpAny (model X.prog X.w) X.A (noteFrame (.ref a) X.env) _ _ _
    refine Sky.land Zc.steady hfr fr sk' fun hp1 fly1 up1 => ?_
    have J1 : Inv X pins τ' G' { s' with heap := hp1 } := J.landed nb fly1.1 (up.trans up1) os ag
    obtain ⟨o1, vs1, g1, z1, d1⟩ := fly1.there
    have nofr : a ∉ frs (X.env :: X.outer) := fun hm => by
      obtain ⟨_, o', e', hnf⟩ := fly1.2.2.1.mem hm
      rw [g1] at e'
      cases e'
      exact hnf _ d1
    have nL : a ≠ X.env.locals := fun z => nofr (List.mem_filterMap.mpr ⟨X.env, List.mem_cons_self, by rw [fr, z]⟩)
    have nF : a ∉ X.fs := fun hm => by
      obtain ⟨e, he, qq⟩ := List.mem_filterMap.mp hm
      exact nofr (List.mem_filterMap.mpr ⟨e, List.mem_cons_of_mem _ he, qq⟩)
    have S1 := J1.suite g1 d1 na nL nF
    have go : ∀ {hl : List ExceptHandler} {ll : List TC}, ClOk X hl ll → wTry X.K Wout D ll cls d τ' G' → wpAny (model X.prog X.w) X.A (handleBy (.ref a) X.env hl) (SP X pins D) X.xe { s' with heap := hp1 } := by
      intro hl ll hk
      have LT : PySem.W.Looks (model X.prog X.w) hp1 (typeOf (.ref a)) cls := fun A Q E s k q => wpAny_typeOf_ref (k _ _ g1) (by rw [z1.1]; exact q)
      have look : ∀ {x : Str} {c : Value} {np : Pos} {Q : Value → Shared → Prop} {E : Value → Shared → Prop}, Names X x c → Q c { s' with heap := hp1 } →
          wpAny (model X.prog X.w) (X.A.mark (some (.ref a))) (eval (.Name x np) X.env) Q E { s' with heap := hp1 } := fun {x c np Q E} hc q => by
        obtain ⟨hg, hdbg, hm | ⟨hm, hv, hnn⟩⟩ := hc
        · exact ld_glob (X := X.suite a ((a, o1) :: (X.pn ++ pins))) S1 hg hm q hdbg
        · exact ld_blt (X := X.suite a ((a, o1) :: (X.pn ++ pins))) S1 hg hm hv q hnn hdbg
      induction hk with
      | nil =>
        intro w0
        refine wpAny_handleBy_nil ?_
        obtain ⟨k1, k2, k3, oe, vs, T, oT, tl, he, hz, hd, hT, hr⟩ := id fly1
        unfold PySem.passOn
        refine wpAny_bind (wpAny_field he hd hT ?_)
        rw [if_neg (show ¬ ((Value.ref T == Value.none) = true) from by simp)]
        have away : wpAny (model X.prog X.w) X.A (setFlight (.ref a) X.env.frame)
            (fun _ s4 => wpAny (model X.prog X.w) X.A (throw (.ref a) : Sem Flow) (SP X pins D) X.xe s4) X.xe { s' with heap := hp1 } := by
          rw [fr]
          refine HandSPX.setFlight_upZ fly1 fun hp2 hh2 up2 => wpAny_throw (tk _ _ ?_)
          exact ⟨a, B, t0, pins, τ', G', cls, d, rfl, J, nb, (up.trans up1).trans up2, .inr (.inr (by rw [st]; exact hh2)), na, os, ag, w0⟩
        first
          | exact wpAny_bind (wpAny_pure (wpAny_bind away))
          | exact wpAny_bind away
      | bare hc hsu r ih =>
        intro w0
        obtain ⟨b, hb1, hy, hno⟩ := w0
        refine wpAny_handleBy_cons (codeAny_handlers_test ?_) (by intro z; cases z)
        refine look hc ((PySem.W.exm_one (M := model X.prog X.w) (J1.kIn) LT hb1).here ?_)
        cases b with
        | false => exact ih (hno rfl)
        | true =>
          refine codeAny_handlers_suite ?_
          refine HandSPX.lands_againZ fly1 fun hp2 fly2 up2 => ?_
          have J2 : Inv X pins τ' G' { s' with heap := hp2 } := J.landed nb fly2.1 ((up.trans up1).trans up2) os ag
          obtain ⟨o2, vs2, g2, z2, d2⟩ := fly2.there
          have S2 := J2.suite g2 d2 na nL nF
          refine wpAny_mono ((hsu a o2 cls d (X.pn ++ pins) z2 ⟨_, d2⟩).run [] _ _ G' _ S2 (hy rfl a na)) (fun fl s6 sp => ?_) (fun _ _ z => z.elim)
          cases fl with
          | next => obtain ⟨τ6, G6, S6, q6⟩ := sp; exact ⟨_, _, S6.unsuite ok, q6⟩
          | brk => obtain ⟨τ6, G6, S6, q6⟩ := sp; exact ⟨_, _, S6.unsuite ok, q6⟩
          | cont => obtain ⟨τ6, G6, S6, q6⟩ := sp; exact ⟨_, _, S6.unsuite ok, q6⟩
          | ret u => obtain ⟨v6, τ6, G6, S6, r6, q6⟩ := sp; exact ⟨_, _, _, S6.unsuite ok, r6, q6⟩
      | @named x n i c ts b0 su np hp hs' l' hN hi hln hc hsu r ih =>
        intro w0
        obtain ⟨b, hb1, hy, hno⟩ := w0
        refine wpAny_handleBy_cons (codeAny_handlers_test ?_) (by intro z; cases z)
        refine look hc ((PySem.W.exm_one (M := model X.prog X.w) (J1.kIn) LT hb1).here ?_)
        cases b with
        | false => exact ih (hno rfl)
        | true =>
          refine codeAny_handlers_suite_as ?_
          refine HandSPX.lands_againZ fly1 fun hp2 fly2 up2 => ?_
          have J2 : Inv X pins τ' G' { s' with heap := hp2 } := J.landed nb fly2.1 ((up.trans up1).trans up2) os ag
          obtain ⟨o2, vs2, g2, z2, d2⟩ := fly2.there
          have S2 := J2.suite g2 d2 na nL nF
          refine store_ok (X := X.suite a ((a, o2) :: (X.pn ++ pins))) (v := .ref a) S2 hN hi (.inl hln) rfl (fun s5 S5 => ?_) (.inr hln)
          refine wpAny_mono ((hsu a o2 cls d (X.pn ++ pins) z2 ⟨_, d2⟩).run [] s5 _ G' _ S5 (hy rfl a na)) (fun fl s6 sp => ?_) (fun _ _ z => z.elim)
          have gone : ∀ {τ6 : L2.St} {G6 : Hp} {Q : Shared → Prop}, Inv (X.suite a ((a, o2) :: (X.pn ++ pins))) [] τ6 G6 s6 → (∀ s7, Inv X pins (τ6.set i none) G6 s7 → Q s7) →
              wpAny (model X.prog X.w) X.A (do bindName X.env n .none; unbindBehindTheSuite X.env n hp) (fun _ s7 => Q s7) X.xe s6 := fun {τ6 G6 Q} S6 qq => gone_ok (S6.unsuite ok) hN hi hln qq
          cases fl with
          | next => obtain ⟨τ6, G6, S6, q6⟩ := sp; exact gone S6 fun s7 J7 => ⟨_, _, J7, q6⟩
          | brk => obtain ⟨τ6, G6, S6, q6⟩ := sp; exact gone S6 fun s7 J7 => ⟨_, _, J7, q6⟩
          | cont => obtain ⟨τ6, G6, S6, q6⟩ := sp; exact gone S6 fun s7 J7 => ⟨_, _, J7, q6⟩
          | ret u => obtain ⟨v6, τ6, G6, S6, r6, q6⟩ := sp; exact gone S6 fun s7 J7 => ⟨_, _, _, J7, r6, q6⟩
    exact go hh wt
  · cases fl with
    | next => obtain ⟨τ6, G6, J6, q6⟩ := sp; exact wpAny_execs_nil ⟨τ6, G6, J6.ofTry ok, q6⟩
    | brk => obtain ⟨τ6, G6, J6, q6⟩ := sp; exact ⟨τ6, G6, J6.ofTry ok, q6⟩
    | cont => obtain ⟨τ6, G6, J6, q6⟩ := sp; exact ⟨τ6, G6, J6.ofTry ok, q6⟩
    | ret u => obtain ⟨v6, τ6, G6, J6, r6, q6⟩ := sp; exact ⟨v6, τ6, G6, J6.ofTry ok, r6, q6⟩
end
end L3

namespace L3
open PySem PySem.Spec PyProof.Rows L2
def RS.out (i : Nat) : RS → RS
  | .nx e => .nx (e.set i none)
  | .bk e => .bk (e.set i none)
  | .ct e => .ct (e.set i none)
  | r => r
def RS.nox : RS → RS
  | .ex _ _ => .stk
  | r => r
abbrev HD := List Str × Option Nat × (XV → Env → RS)
def runH : List HD → XV → Env → RS
  | [], x, e => .ex x e
  | (cs, oi, h) :: r, x, e => if cs.contains x.c = true then (match oi with
      | none => (h x e).nox
      | some i => if i < e.length then (h x (e.set i none)).nox.out i else .stk) else runH r x e
def sTry (g : Env → RS) (cl : List Str) (hs : List HD) : Env → RS := fun env => match g env with
  | .ex x e => if cl.contains x.c = true then runH hs x e else .stk
  | r => r
def scP : PV → Bool
  | .non => true | .bl _ => true | .int _ => true | .str _ => true | _ => false
/-- the fields of the exception, as its own dict has them -/
def FR (x : XV) (fs : List (Str × V)) : Prop := ∀ f p, x.fs.lookup f = some p → scP p = true → ∃ v, fs.lookup f = some v ∧ ∀ K S H, Own K S H p v []
def ioX (io : Io) (oi : Option Nat) (a dd : Addr) (fs : List (Str × V)) : Io := match oi with
  | none => (io.1, io.2.1, (dd, .xd fs) :: io.2.2)
  | some i => (i :: io.1, (fun j => if j = i then .ref a else io.2.1 j), (dd, .xd fs) :: io.2.2)
theorem FR.of {K : PySem.W.Frag} {S : Addr → Prop} {H : Hp} {x : XV} {fs : List (Str × V)} (h : ∀ f p, x.fs.lookup f = some p → ∃ v, fs.lookup f = some v ∧ Own K S H p v []) : FR x fs := fun f p e sc => by
  obtain ⟨v, h1, h2⟩ := h f p e
  refine ⟨v, h1, fun K S H => ?_⟩
  cases p <;> first
    | exact h2
    | cases sc
inductive HdOk (X : Cx) (io : Io) (cl : List Str) : List ExceptHandler → List HD → Prop
  | nil : HdOk X io cl [] []
  | bare {x : Str} {c : Value} {cs : List Str} {h : XV → Env → RS} {b0 : Stmt} {su : List Stmt} {np hp : Pos} {hs : List ExceptHandler} {l : List HD} (hc : Names X x c)
      (hx : ∀ n C, cl.contains n = true → X.mg n = some (.ref C) → PySem.W.exmOne X.K (.ref C) c = some (cs.contains n))
      (hsu : ∀ (a : Addr) (oe : Obj) (pn : List (Addr × Obj)) (x : XV) (C dd : Addr) (fs : List (Str × V)), Zc (.ref C) (some dd) oe → (∃ vs, oe.data = .fields vs) → X.mg x.c = some (.ref C) → cs.contains x.c = true → FR x fs →
        Ess (X.suite a ((a, oe) :: pn)) W0 (ioX io none a dd fs) (b0 :: su) (h x)) (r : HdOk X io cl hs l) :
      HdOk X io cl (.ExceptHandler (some (.Name x np)) none (b0 :: su) hp :: hs) ((cs, none, h) :: l)
  | named {x n : Str} {i : Nat} {c : Value} {cs : List Str} {h : XV → Env → RS} {b0 : Stmt} {su : List Stmt} {np hp : Pos} {hs : List ExceptHandler} {l : List HD} (hN : X.N.Nodup) (hi : X.N[i]? = some n) (hln : X.env.kindOf n = some .local) (hio : io.1.contains i = false) (hc : Names X x c)
      (hx : ∀ n C, cl.contains n = true → X.mg n = some (.ref C) → PySem.W.exmOne X.K (.ref C) c = some (cs.contains n))
      (hsu : ∀ (a : Addr) (oe : Obj) (pn : List (Addr × Obj)) (x : XV) (C dd : Addr) (fs : List (Str × V)), Zc (.ref C) (some dd) oe → (∃ vs, oe.data = .fields vs) → X.mg x.c = some (.ref C) → cs.contains x.c = true → FR x fs →
        Ess (X.suite a ((a, oe) :: pn)) W0 (ioX io (some i) a dd fs) (b0 :: su) (h x)) (r : HdOk X io cl hs l) :
      HdOk X io cl (.ExceptHandler (some (.Name x np)) (some n) (b0 :: su) hp :: hs) ((cs, some i, h) :: l)
section
variable {X : Cx} {W : WX} {io : Io} {cl : List Str} {hs : List ExceptHandler} {hds : List HD} {pos : Pos} {g : Env → RS} {body : List Stmt} {h0 : ExceptHandler}
theorem PostS.wmono {W' : WX} {S : Addr → Prop} {H : Hp} {fb : List Addr} {r : RS} {D : Ends} (h : PostS X W io S H fb r D) (hw : ∀ cls d σ H, W cls d σ H → W' cls d σ H) : PostS X W' io S H fb r D := by
  cases r with
  | ex x e => exact fun cls d σ' S' H' fp' o a b c => hw _ _ _ _ (h cls d σ' S' H' fp' o a b c)
  | stk => exact h
  | nx e => exact h
  | bk e => exact h
  | ct e => exact h
  | rt p e => exact h
theorem hd_ok (hh : HdOk X io cl hs hds) : ∃ l, ClOk X hs l ∧ ∀ (D : Ends) (S : Addr → Prop) (H : Hp) (σ : L2.St) (env : Env) (fp : List Addr) (x : XV) (cls : Value) (d : Option Addr), XRel X.K X.mg S H x cls d → Cl X.K io S H σ env fp → Good S H fp → cl.contains x.c = true →
    PostS X W io S H fp (runH hds x env) D → wTry X.K W D l cls d σ H := by
  induction hh with
  | nil => exact ⟨[], .nil, fun D S H σ env fp x cls d xr C G _ q => q cls d σ S H fp xr C G Step.refl⟩
  | @bare xn c cs h b0 su np hp hs l hc hx hsu r ih =>
    obtain ⟨ll, h1, h2⟩ := ih
    refine ⟨(c, none, fun a cls d D σ H => ∃ (x : XV) (C dd : Addr) (fs : List (Str × V)), cls = .ref C ∧ d = some dd ∧ X.mg x.c = some (.ref C) ∧ cs.contains x.c = true ∧ FR x fs ∧ semS X W0 (ioX io none a dd fs) (h x) D σ H) :: ll, .bare hc (fun a oe cls d pn hz hf => ⟨fun pins s σ H D I q => ?_⟩) h1, fun D S H σ env fp x cls d xr C G hcl q => ?_⟩
    · obtain ⟨x, C, dd, fs, rfl, rfl, hm, hcs, fr, q⟩ := q
      exact (hsu a oe pn x C dd fs hz hf hm hcs fr).ps.run pins s σ H D I q
    · have xr0 := xr
      obtain ⟨C', dd, fs, rfl, hm, rfl, sd, hd, hl⟩ := xr
      refine ⟨cs.contains x.c, hx _ _ hcl hm, fun hb a ha => ?_, fun hb => ?_⟩
      · refine ⟨x, C', dd, fs, rfl, rfl, hm, hb, FR.of hl, S, env, fp, ⟨C.own, C.io.ix, fun q hq => ?_⟩, G, ?_⟩
        · rcases List.mem_cons.mp hq with rfl | hq
          · exact ⟨sd, hd⟩
          · exact C.io.kp q hq
        · have q : PostS X W io S H fp (if cs.contains x.c = true then (h x env).nox else runH l x env) D := q
          rw [if_pos hb] at q
          cases e : h x env with
          | nx e1 => rw [e] at q; exact fun σ' S' H' fp' a b c => q σ' S' H' fp' ⟨a.own, a.io.ix, fun z hz => a.io.kp z (List.mem_cons_of_mem _ hz)⟩ b c
          | bk e1 => rw [e] at q; exact fun σ' S' H' fp' a b c => q σ' S' H' fp' ⟨a.own, a.io.ix, fun z hz => a.io.kp z (List.mem_cons_of_mem _ hz)⟩ b c
          | ct e1 => rw [e] at q; exact fun σ' S' H' fp' a b c => q σ' S' H' fp' ⟨a.own, a.io.ix, fun z hz => a.io.kp z (List.mem_cons_of_mem _ hz)⟩ b c
          | rt p e1 => rw [e] at q; exact fun v σ' S' H' fv fp' o a b c => q v σ' S' H' fv fp' o ⟨a.own, a.io.ix, fun z hz => a.io.kp z (List.mem_cons_of_mem _ hz)⟩ b c
          | stk => rw [e] at q; exact q
          | ex x1 e1 => rw [e] at q; exact q.elim
      · have q : PostS X W io S H fp (if cs.contains x.c = true then (h x env).nox else runH l x env) D := q
        rw [if_neg (by rw [hb]; decide)] at q
        exact h2 D S H σ env fp x _ _ xr0 C G hcl q
  | @named xn n i c cs h b0 su np hp hs l hN hi hln hio hc hx hsu r ih =>
    obtain ⟨ll, h1, h2⟩ := ih
    refine ⟨(c, some i, fun a cls d D σ H => ∃ (x : XV) (C dd : Addr) (fs : List (Str × V)), cls = .ref C ∧ d = some dd ∧ X.mg x.c = some (.ref C) ∧ cs.contains x.c = true ∧ FR x fs ∧ semS X W0 (ioX io (some i) a dd fs) (h x) D σ H) :: ll, .named hN hi hln hc (fun a oe cls d pn hz hf => ⟨fun pins s σ H D I q => ?_⟩) h1, fun D S H σ env fp x cls d xr C G hcl q => ?_⟩
    · obtain ⟨x, C, dd, fs, rfl, rfl, hm, hcs, fr, q⟩ := q
      exact (hsu a oe pn x C dd fs hz hf hm hcs fr).ps.run pins s σ H D I q
    · have xr0 := xr
      obtain ⟨C', dd, fs, rfl, hm, rfl, sd, hd, hl⟩ := xr
      refine ⟨cs.contains x.c, hx _ _ hcl hm, fun hb a ha => ?_, fun hb => ?_⟩
      · obtain ⟨f2, o2, s2⟩ := OwnE.drop i (some (.ref a)) C.own
        have ni : ∀ j, j ∈ io.1 → i ≠ j := fun j hj e => by
          subst e
          have z : io.1.contains i = true := by simpa using hj
          rw [hio] at z
          cases z
        have q : PostS X W io S H fp (if cs.contains x.c = true then (if i < env.length then (h x (env.set i none)).nox.out i else .stk) else runH l x env) D := q
        rw [if_pos hb] at q
        by_cases hie : i < env.length
        case neg => rw [if_neg hie] at q; exact q.elim
        rw [if_pos hie] at q
        refine ⟨x, C', dd, fs, rfl, rfl, hm, hb, FR.of hl, S, env.set i none, f2, ⟨o2, fun j hj => ?_, fun q hq => ?_⟩, G.sub s2, ?_⟩
        · rcases List.mem_cons.mp hj with rfl | hj
          · rw [List.getElem?_set_self (by rw [← C.own.length]; exact hie)]
            show some (some (V.ref a)) = some (some (if j = j then .ref a else io.2.1 j))
            rw [if_pos rfl]
          · rw [List.getElem?_set_ne (ni j hj), C.io.ix j hj]
            show some (some (io.2.1 j)) = some (some (if j = i then .ref a else io.2.1 j))
            rw [if_neg fun z => ni j hj z.symm]
        · rcases List.mem_cons.mp hq with rfl | hq
          · exact ⟨sd, hd⟩
          · exact C.io.kp q hq
        · have q := PostS.move q (Step.refl.sub fun a z => s2.subset z)
          have back : ∀ {S' : Addr → Prop} {H' : Hp} {σ' : L2.St} {e1 : Env} {fp' : List Addr}, Cl X.K (ioX io (some i) a dd fs) S' H' σ' e1 fp' → IoOk io S' H' σ' := fun {S' H' σ' e1 fp'} c =>
            ⟨fun j hj => by
              have z := c.io.ix j (List.mem_cons_of_mem _ hj)
              have e : (ioX io (some i) a dd fs).2.1 j = io.2.1 j := if_neg fun z => ni j hj z.symm
              rw [e] at z
              exact z, fun z hz => c.io.kp z (List.mem_cons_of_mem _ hz)⟩
          have drop : ∀ {S' : Addr → Prop} {H' : Hp} {σ' : L2.St} {e1 : Env} {fp' : List Addr}, Cl X.K (ioX io (some i) a dd fs) S' H' σ' e1 fp' → ∃ f3, Cl X.K io S' H' (σ'.set i none) (e1.set i none) f3 ∧ f3.Sublist fp' := fun {S' H' σ' e1 fp'} c => by
            obtain ⟨f3, o3, s3⟩ := OwnE.drop i none c.own
            refine ⟨f3, ⟨o3, fun j hj => ?_, (back c).kp⟩, s3⟩
            rw [List.getElem?_set_ne (ni j hj)]
            exact (back c).ix j hj
          cases e : h x (env.set i none) with
          | nx e1 => rw [e] at q; exact fun σ' S' H' fp' a b c => by obtain ⟨f3, c3, s3⟩ := drop a; exact q _ S' H' f3 c3 (b.sub s3) (c.sub fun a z => s3.subset z)
          | bk e1 => rw [e] at q; exact fun σ' S' H' fp' a b c => by obtain ⟨f3, c3, s3⟩ := drop a; exact q _ S' H' f3 c3 (b.sub s3) (c.sub fun a z => s3.subset z)
          | ct e1 => rw [e] at q; exact fun σ' S' H' fp' a b c => by obtain ⟨f3, c3, s3⟩ := drop a; exact q _ S' H' f3 c3 (b.sub s3) (c.sub fun a z => s3.subset z)
          | rt p e1 => rw [e] at q; exact fun v σ' S' H' fv fp' o a b c => q v σ' S' H' fv fp' o ⟨a.own, back a⟩ b c
          | stk => rw [e] at q; exact q
          | ex x1 e1 => rw [e] at q; exact q.elim
      · have q : PostS X W io S H fp (if cs.contains x.c = true then (if i < env.length then (h x (env.set i none)).nox.out i else .stk) else runH l x env) D := q
        rw [if_neg (by rw [hb]; decide)] at q
        exact h2 D S H σ env fp x _ _ xr0 C G hcl q
theorem es_try (st : X.stack = X.env :: X.outer) (fr : X.env.frame = some X.env.locals) (tk : Takes X W)
    (hb : ∀ (W' : WX) (pn : List (Addr × Obj)) (xe : Value → Shared → Prop), Takes (X.tr pn xe) W' → PassesOwn (model X.prog X.w) X.A X.env xe → Ess (X.tr pn xe) W' io body g) (hh : HdOk X io cl (h0 :: hs) hds) : Es X W io (.Try body (h0 :: hs) [] [] pos) (sTry g cl hds) := by
  obtain ⟨l, h1, h2⟩ := hd_ok (W := W) hh
  refine ⟨(ps_tryC (tb := fun W' => semS X W' io g) st fr tk (fun W' pn xe a b => (hb W' pn xe a b).ps) h1).imp fun D σ H q => ?_⟩
  obtain ⟨S, env, fp, C, G, q⟩ := q
  refine ⟨S, env, fp, C, G, ?_⟩
  unfold sTry at q
  cases e : g env with
  | ex x e1 =>
    rw [e] at q
    have q : PostS X W io S H fp (if cl.contains x.c = true then runH hds x e1 else .stk) D := q
    by_cases hc : cl.contains x.c = true
    · rw [if_pos hc] at q
      exact fun cls d σ' S' H' fp' xr c gd stp => h2 D S' H' σ' e1 fp' x cls d xr c gd hc (PostS.move q stp)
    · rw [if_neg hc] at q; exact q.elim
  | nx e1 => rw [e] at q; exact q
  | bk e1 => rw [e] at q; exact q
  | ct e1 => rw [e] at q; exact q
  | rt p e1 => rw [e] at q; exact q
  | stk => rw [e] at q; exact q
/-- e.f of the exception that the suite holds -/
def dFld (x : XV) (f : Str) : Env → R PV := fun env => match x.fs.lookup f with
  | some p => if scP p = true then .ok p env else .stk
  | none => .stk
theorem ev_fld {W : WX} {a C dd : Addr} {oe : Obj} {pn : List (Addr × Obj)} {n en : Str} {i : Nat} {x : XV} {fs : List (Str × V)} {p1 : Pos} (T : XfC X.K C) (hno : PySem.W.findIn X.K (.ref C) n = some none) (hz : Zc (.ref C) (some dd) oe) (hf : ∃ vs, oe.data = .fields vs) (fr : FR x fs)
    (hN : X.N[i]? = some en) (hv : Vis X.env.scope en) (hd : (en == ("__debug__" : Str)) = false := by decide) (hcd : (en == ("__classdict__" : Str)) = false := by decide) :
    Ev (X.suite a ((a, oe) :: pn)) W (ioX io (some i) a dd fs) false (.Attribute (.Name en p1) n pos) (dFld x n) := by
  refine ⟨(pe_xf T hno hz hf (pe_var (X := X.suite a ((a, oe) :: pn)) (i := i) hN hv hd hcd) rfl).imp fun σ H Q q => ?_, ?_⟩
  · obtain ⟨S, env, fp, Cc, G, q⟩ := q
    have s1 := Cc.io.ix i List.mem_cons_self
    have k1 := Cc.io.kp (dd, .xd fs) List.mem_cons_self
    have e1 : (ioX io (some i) a dd fs).2.1 i = .ref a := if_pos rfl
    rw [e1] at s1
    unfold dFld at q
    cases el : x.fs.lookup n with
    | none => rw [el] at q; exact q.elim
    | some p =>
      rw [el] at q
      have q : Post (RV X.K) (X.suite a ((a, oe) :: pn)) W (ioX io (some i) a dd fs) false S H σ fp fp (if scP p = true then .ok p env else .stk) Q := q
      by_cases sc : scP p = true
      · rw [if_pos sc] at q
        obtain ⟨v, h1, h2⟩ := fr n p el sc
        exact ⟨.ref a, s1, rfl, rfl, dd, fs, v, rfl, k1.2, h1, Post.fin (ft := []) Cc G q (h2 _ _ _) (New.refl G.dm)⟩
      · rw [if_neg sc] at q; exact q.elim
  · intro _ env p env' e
    unfold dFld at e
    split at e
    · split at e
      · cases e; rfl
      · cases e
    · cases e
end
end L3

namespace L3
open PySem PySem.Spec PyProof.Rows L2
section
variable {K : PySem.W.Frag} {S S' : Addr → Prop} {H H' : Hp} {X : Cx} {W : WX} {io : Io} {m m1 m2 : Bool} {a b e : Expr} {es : List Expr} {f g : Env → R PV} {fs : Env → R (List PV)} {pos p : Pos} {i : Nat} {x : Str}
/-! ### one argument, by value or as it stands in a name -/
/-- what a call asks of one value: as it stands, owned or not -/
def PrimB (K : PySem.W.Frag) (r : List V → Hp → VK → Prop) (F : PV → Option PV) : Prop := ∀ (S : Addr → Prop) (H : Hp) (p : PV) (v : V) (g : List Addr) (z : PV) (Q : VK), (∀ a, S a → H a ≠ none) → Own K S H p v g → F p = some z →
  (∀ u S' H' f, Own K S' H' z u f → New S H S' H' f → Q u H') → r [v] H Q
def F1 (F : PV → Option PV) : List PV → Option PV
  | [p] => F p
  | _ => none
theorem PrimB.N {r : List V → Hp → VK → Prop} {F : PV → Option PV} (h : PrimB K r F) : PrimN K r (F1 F) := by
  intro S H ps vs z Q dm o e k
  match ps, e with
  | [p], e =>
    obtain ⟨v, r', f1, f2, rfl, e2, o1, o2⟩ := o
    obtain ⟨rfl, _⟩ := app_nil e2
    obtain ⟨rfl, _⟩ := o2
    exact h S H p v [] z Q dm o1 e k
/-- f(x), x a name: nothing is handed over -/
def dN1V (F : PV → Option PV) (i : Nat) : Env → R PV := fun env => o1 ((slotP env i).bind F) env
theorem sem_N1V {r : List V → Hp → VK → Prop} {F : PV → Option PV} (hF : PrimB X.K r F) {σ : L2.St} {H : Hp} {Q : VK} (q : sem (RV X.K) X W io false (dN1V F i) σ H Q) : tCons (tVar i) tNil σ H fun vs H1 => r vs H1 Q := by
  obtain ⟨S, env, fp, C, G, q⟩ := q
  unfold dN1V at q
  cases ep : slotP env i with
  | none => rw [ep] at q; exact q.elim
  | some p =>
    rw [ep] at q
    have q : Post (RV X.K) X W io false S H σ fp fp (o1 (F p) env) Q := q
    obtain ⟨v, g, h1, h2, h3⟩ := C.own.get (slotP_some ep)
    cases eF : F p with
    | none => rw [eF] at q; exact q.elim
    | some z =>
      rw [eF] at q
      exact ⟨v, h1, hF S H p v g z Q G.dm h2 eF fun u S' H' f ou n => Post.fin (ft := []) C G q ou n⟩
theorem Still.N1V {F : PV → Option PV} : Still m (dN1V F i) := fun _ env p env' e => (o1_eq e).1
theorem ev_callBV {y : Str} {id : String} {p1 : Pos} {r : List V → Hp → VK → Prop} {F : PV → Option PV} (hc : CallR X (.builtin id) r) (hF : PrimB X.K r F) (hg : Gl X x) (hm : X.mg x = none) (hv : bootBuiltins x = some (.builtin id)) (hN : X.N[i]? = some y) (hy : Vis X.env.scope y)
    (hn : x ≠ "__name__" := by decide) (hdb : (x == ("__debug__" : Str)) = false := by decide) (hd : (y == ("__debug__" : Str)) = false := by decide) (hcd : (y == ("__classdict__" : Str)) = false := by decide)
    (hs : starEach [.Name y p1] X.env = (false, eval (.Name y p1) X.env) :: starEach [] X.env := by rfl) (hpl : (backTo pos (starEach [] X.env)).any (·.1) = false := by rfl) : Ev X W io false (.Call (.Name x p) [.Name y p1] [] pos) (dN1V F i) :=
  ⟨(pe_callB hc hg hm hv (pa_cons (pe_var hN hy hd hcd) pa_nil hs) hn hdb hs hpl).imp fun σ H Q q => sem_N1V hF q, Still.N1V⟩
theorem ev_callTyV {y : Str} {T : String} {p1 : Pos} {r : List V → Hp → VK → Prop} {F : PV → Option PV} (hc : CallR X (.type T) r) (hF : PrimB X.K r F) (hg : Gl X x) (hm : X.mg x = none) (hv : bootBuiltins x = some (.type T)) (hN : X.N[i]? = some y) (hy : Vis X.env.scope y)
    (hn : x ≠ "__name__" := by decide) (hdb : (x == ("__debug__" : Str)) = false := by decide) (hd : (y == ("__debug__" : Str)) = false := by decide) (hcd : (y == ("__classdict__" : Str)) = false := by decide)
    (hs : starEach [.Name y p1] X.env = (false, eval (.Name y p1) X.env) :: starEach [] X.env := by rfl) (hpl : (backTo pos (starEach [] X.env)).any (·.1) = false := by rfl) : Ev X W io false (.Call (.Name x p) [.Name y p1] [] pos) (dN1V F i) :=
  ⟨(pe_callTy hc hg hm hv (pa_cons (pe_var hN hy hd hcd) pa_nil hs) hn hdb hs hpl).imp fun σ H Q q => sem_N1V hF q, Still.N1V⟩
/-! ### len, tuple, list, int -/
def lenP : PV → Option PV
  | .tup l => some (.int l.length)
  | .lst l => some (.int l.length)
  | .scr l => some (.int l.length)
  | .mls l => some (.int l.length)
  | .str s => if s.length ≤ sizeLine then some (.int s.length) else none
  | _ => none
def rLen (K : PySem.W.Frag) : List V → Hp → VK → Prop := fun xs H Q => (∃ p ys, xs = [.ref p] ∧ (SqL K H p ys ∨ SqT K H p ys) ∧ Q (.int ys.length) H) ∨ ∃ z, xs = [.str z] ∧ z.length ≤ sizeLine ∧ Q (.int z.length) H
theorem call_lenA : CallR X (.builtin "len") (rLen X.K) := by
  intro pins s σ H xs us Q I r h
  rcases h with h | h
  · exact call_len_seq pins s σ H xs us Q I r h
  · exact call_len_str pins s σ H xs us Q I r h
theorem prim_len : PrimB K (rLen K) lenP := by
  intro S H p v g z Q dm o e k
  cases p with
  | tup l =>
    cases e
    obtain ⟨a, vs, rfl, _, fr, os⟩ := o
    exact .inl ⟨a, vs, rfl, .inr fr.sq, by rw [← os.length]; exact k _ S H [] ⟨rfl, rfl⟩ (New.refl dm)⟩
  | lst l =>
    cases e
    obtain ⟨a, vs, rfl, _, fr, os⟩ := o
    exact .inl ⟨a, vs, rfl, .inl (SqL.of fr.2), by rw [← os.length]; exact k _ S H [] ⟨rfl, rfl⟩ (New.refl dm)⟩
  | scr l =>
    cases e
    obtain ⟨a, vs, rfl, _, fr, os⟩ := o
    exact .inl ⟨a, vs, rfl, .inl fr.sq, by rw [← os.length]; exact k _ S H [] ⟨rfl, rfl⟩ (New.refl dm)⟩
  | mls l =>
    cases e
    obtain ⟨a, vs, g', rfl, _, fr, os⟩ := o
    exact .inl ⟨a, vs, rfl, .inl (SqL.of fr), by rw [← os.length]; exact k _ S H [] ⟨rfl, rfl⟩ (New.refl dm)⟩
  | str s =>
    have e : (if s.length ≤ sizeLine then some (PV.int s.length) else none) = some z := e
    by_cases h : s.length ≤ sizeLine
    · rw [if_pos h] at e
      cases e
      obtain ⟨rfl, _⟩ := o
      exact .inr ⟨s, rfl, h, k _ S H [] ⟨rfl, rfl⟩ (New.refl dm)⟩
    · rw [if_neg h] at e; cases e
  | _ => cases e
/-- parts that nobody owns alone -/
def flatO (l : List PV) : Bool := l.all fun p => !isOwn p
theorem Owns.flat : ∀ {l : List PV} {vs : List V} {g : List Addr}, Owns K S H l vs g → flatO l = true → g = []
  | [], _, _, o, _ => o.2
  | p :: ps, _, _, o, h => by
    obtain ⟨v, r, f1, f2, rfl, rfl, o1, o2⟩ := o
    have h : (!isOwn p && flatO ps) = true := h
    rw [Bool.and_eq_true] at h
    rw [o1.nonown (by simpa using h.1), Owns.flat o2 h.2]
    rfl
def tupP : PV → Option PV
  | .tup l => some (.tup l)
  | .lst l => some (.tup l)
  | .scr l => some (.tup l)
  | .mls l => if flatO l = true then some (.tup l) else none
  | _ => none
def rTupOf (K : PySem.W.Frag) : List V → Hp → VK → Prop := fun xs H Q => ∃ p ys, xs = [.ref p] ∧ ((SqL K H p ys ∧ ∀ l, H l = none → Q (.ref l) (upd H l (.tup ys))) ∨ (SqT K H p ys ∧ Q (.ref p) H))
theorem prim_tup : PrimB K (rTupOf K) tupP := by
  intro S H p v g z Q dm o e k
  cases p with
  | tup l =>
    cases e
    have o' := o
    obtain ⟨a, vs, rfl, e2, fr, os⟩ := o
    subst e2
    exact ⟨a, vs, rfl, .inr ⟨fr.sq, k _ S H [] o' (New.refl dm)⟩⟩
  | lst l =>
    cases e
    obtain ⟨a, vs, rfl, _, fr, os⟩ := o
    exact ⟨a, vs, rfl, .inl ⟨SqL.of fr.2, fun l hl => new_tup dm hl os k⟩⟩
  | scr l =>
    cases e
    obtain ⟨a, vs, rfl, _, fr, os⟩ := o
    exact ⟨a, vs, rfl, .inl ⟨fr.sq, fun l hl => new_tup dm hl os k⟩⟩
  | mls l =>
    have e : (if flatO l = true then some (PV.tup l) else none) = some z := e
    by_cases h : flatO l = true
    · rw [if_pos h] at e
      cases e
      obtain ⟨a, vs, g', rfl, _, fr, os⟩ := o
      have z := os.flat h
      subst z
      exact ⟨a, vs, rfl, .inl ⟨SqL.of fr, fun l hl => new_tup dm hl os k⟩⟩
    · rw [if_neg h] at e; cases e
  | _ => cases e
def lstP : PV → Option PV
  | .tup l => some (.mls l)
  | .lst l => some (.mls l)
  | .scr l => some (.mls l)
  | .mls l => if flatO l = true then some (.mls l) else none
  | _ => none
def rLstOf (K : PySem.W.Frag) : List V → Hp → VK → Prop := fun xs H Q => ∃ p ys, xs = [.ref p] ∧ (SqL K H p ys ∨ SqT K H p ys) ∧ ∀ l, H l = none → Q (.ref l) (upd H l (.lst ys))
theorem prim_lst : PrimB K (rLstOf K) lstP := by
  intro S H p v g z Q dm o e k
  cases p with
  | tup l =>
    cases e
    obtain ⟨a, vs, rfl, _, fr, os⟩ := o
    exact ⟨a, vs, rfl, .inr fr.sq, fun l hl => new_mls dm hl os k⟩
  | lst l =>
    cases e
    obtain ⟨a, vs, rfl, _, fr, os⟩ := o
    exact ⟨a, vs, rfl, .inl (SqL.of fr.2), fun l hl => new_mls dm hl os k⟩
  | scr l =>
    cases e
    obtain ⟨a, vs, rfl, _, fr, os⟩ := o
    exact ⟨a, vs, rfl, .inl fr.sq, fun l hl => new_mls dm hl os k⟩
  | mls l =>
    have e : (if flatO l = true then some (PV.mls l) else none) = some z := e
    by_cases h : flatO l = true
    · rw [if_pos h] at e
      cases e
      obtain ⟨a, vs, g', rfl, _, fr, os⟩ := o
      have z := os.flat h
      subst z
      exact ⟨a, vs, rfl, .inl (SqL.of fr), fun l hl => new_mls dm hl os k⟩
    · rw [if_neg h] at e; cases e
  | _ => cases e
def intP : PV → Option PV
  | .int i => some (.int i)
  | .bl b => some (.int (if b then 1 else 0))
  | _ => none
theorem prim_int : PrimB K (fun xs H Q => (∃ i, xs = [.int i] ∧ Q (.int i) H) ∨ ∃ k, xs = [.bl k] ∧ Q (.int (if k then 1 else 0)) H) intP := by
  intro S H p v g z Q dm o e k
  cases p with
  | int i => cases e; obtain ⟨rfl, _⟩ := o; exact .inl ⟨i, rfl, k _ S H [] ⟨rfl, rfl⟩ (New.refl dm)⟩
  | bl i => cases e; obtain ⟨rfl, _⟩ := o; exact .inr ⟨i, rfl, k _ S H [] ⟨rfl, rfl⟩ (New.refl dm)⟩
  | _ => cases e
def absP : PV → Option PV
  | .int i => some (.int (if i < 0 then -i else i))
  | _ => none
theorem prim_abs : PrimB K (fun xs H Q => ∃ i, xs = [.int i] ∧ Q (.int (if i < 0 then -i else i)) H) absP := by
  intro S H p v g z Q dm o e k
  cases p with
  | int i => cases e; obtain ⟨rfl, _⟩ := o; exact ⟨i, rfl, k _ S H [] ⟨rfl, rfl⟩ (New.refl dm)⟩
  | _ => cases e
/-! ### sum, max, min -/
def itemsB : PV → Option (List PV)
  | .mls l => some l
  | p => itemsOf p
theorem rd_seq {p : PV} {v : V} {g : List Addr} {l : List PV} {ns : List Int} (o : Own K S H p v g) (hl : itemsB p = some l) (hn : intsP l = some ns) : ∃ a, v = .ref a ∧ (SqL K H a (ns.map V.int) ∨ SqT K H a (ns.map V.int)) := by
  have noown : ∀ {l : List PV} {ns : List Int}, intsP l = some ns → flatO l = true := by
    intro l
    induction l with
    | nil => intro ns _; rfl
    | cons q l ih =>
      intro ns h
      cases q <;> first
        | (unfold intsP at h
           cases q2 : intsP l with
           | none => rw [q2] at h; cases h
           | some ms => exact ih q2)
        | cases h
  cases p with
  | tup l' =>
    cases hl
    obtain ⟨a, vs, rfl, _, fr, os⟩ := o
    have z := os.ints hn
    subst z
    exact ⟨a, rfl, .inr fr.sq⟩
  | lst l' =>
    cases hl
    obtain ⟨a, vs, rfl, _, fr, os⟩ := o
    have z := os.ints hn
    subst z
    exact ⟨a, rfl, .inl (SqL.of fr.2)⟩
  | scr l' =>
    cases hl
    obtain ⟨a, vs, rfl, _, fr, os⟩ := o
    have z := os.ints hn
    subst z
    exact ⟨a, rfl, .inl fr.sq⟩
  | mls l' =>
    cases hl
    obtain ⟨a, vs, g', rfl, _, fr, os⟩ := o
    have z := os.flat (noown hn)
    subst z
    have z := os.ints hn
    subst z
    exact ⟨a, rfl, .inl (SqL.of fr)⟩
  | _ => cases hl
def seqInts (p : PV) : Option (List Int) := (itemsB p).bind intsP
def sumP (p : PV) : Option PV := (seqInts p).map fun ns => .int ns.sum
def rSumA (K : PySem.W.Frag) : List V → Hp → VK → Prop := fun vs H Q => ∃ (a : Addr) (ns : List Int), vs = [V.ref a] ∧ (SqL K H a (ns.map V.int) ∨ SqT K H a (ns.map V.int)) ∧ Q (.int ns.sum) H
theorem call_sumA (hc : X.calm = true) : CallR X (.builtin "sum") (rSumA X.K) := by
  intro pins s σ H vs us Q I r h
  obtain ⟨a, ns, rfl, hs | hs, q⟩ := h
  · exact cr_sum hc pins s σ H _ us Q I r ⟨a, ns, rfl, hs, q⟩
  · obtain ⟨its, rv, ht, _⟩ := I.tuple hs
    rw [Vals.ref1 r]
    obtain ⟨xs, ex⟩ := rv.ints.allInts.items
    have hn : numsOf (intItems xs).toList = ns := by rw [← ex]; exact rv.ints.numsOf
    rw [nums_intItems] at hn
    rw [ex] at ht
    refine PySem.W.ktm_sumG (I.ok.hd hc) ht fun h' tk t' hk => ?_
    refine ⟨.int ns.sum, H, I.kept hk, ⟨t', ?_⟩, q⟩
    rw [preSum_eq, List.take_of_length_le (by simp), hn]
theorem prim_sum : PrimB K (rSumA K) sumP := by
  intro S H p v g z Q dm o e k
  unfold sumP seqInts at e
  cases hl : itemsB p with
  | none => rw [hl] at e; cases e
  | some l =>
    rw [hl] at e
    have e : (intsP l).map (fun ns => PV.int ns.sum) = some z := e
    cases hn : intsP l with
    | none => rw [hn] at e; cases e
    | some ns =>
      rw [hn] at e
      cases e
      obtain ⟨a, rfl, h⟩ := rd_seq o hl hn
      exact ⟨a, ns, rfl, h, k _ S H [] ⟨rfl, rfl⟩ (New.refl dm)⟩
/-- the greatest, the least of a list that is not empty -/
def maxI : List Int → Option Int
  | [] => none
  | n :: r => some (r.foldl (fun a b => if b > a then b else a) n)
def minI : List Int → Option Int
  | [] => none
  | n :: r => some (r.foldl (fun a b => if b < a then b else a) n)
theorem foldl_max (r : List Int) : ∀ n : Int, (r.foldl (fun a b => if b > a then b else a) n ∈ n :: r) ∧ ∀ y, y ∈ n :: r → y ≤ r.foldl (fun a b => if b > a then b else a) n := by
  induction r with
  | nil => intro n; exact ⟨by simp, fun y h => by simp at h; simp [h]⟩
  | cons b r ih =>
    intro n
    obtain ⟨h1, h2⟩ := ih (if b > n then b else n)
    refine ⟨?_, fun y hy => ?_⟩
    · show List.foldl _ (if b > n then b else n) r ∈ _
      rcases List.mem_cons.mp h1 with h | h
      · rw [h]; split <;> simp
      · exact List.mem_cons_of_mem _ (List.mem_cons_of_mem _ h)
    · show y ≤ List.foldl _ (if b > n then b else n) r
      have h3 := h2 _ List.mem_cons_self
      rcases List.mem_cons.mp hy with rfl | hy
      · refine Int.le_trans ?_ h3; split <;> omega
      · rcases List.mem_cons.mp hy with rfl | hy
        · refine Int.le_trans ?_ h3; split <;> omega
        · exact h2 y (List.mem_cons_of_mem _ hy)
theorem foldl_min (r : List Int) : ∀ n : Int, (r.foldl (fun a b => if b < a then b else a) n ∈ n :: r) ∧ ∀ y, y ∈ n :: r → r.foldl (fun a b => if b < a then b else a) n ≤ y := by
  induction r with
  | nil => intro n; exact ⟨by simp, fun y h => by simp at h; simp [h]⟩
  | cons b r ih =>
    intro n
    obtain ⟨h1, h2⟩ := ih (if b < n then b else n)
    refine ⟨?_, fun y hy => ?_⟩
    · show List.foldl _ (if b < n then b else n) r ∈ _
      rcases List.mem_cons.mp h1 with h | h
      · rw [h]; split <;> simp
      · exact List.mem_cons_of_mem _ (List.mem_cons_of_mem _ h)
    · show List.foldl _ (if b < n then b else n) r ≤ y
      have h3 := h2 _ List.mem_cons_self
      rcases List.mem_cons.mp hy with rfl | hy
      · refine Int.le_trans h3 ?_; split <;> omega
      · rcases List.mem_cons.mp hy with rfl | hy
        · refine Int.le_trans h3 ?_; split <;> omega
        · exact h2 y (List.mem_cons_of_mem _ hy)
theorem maxI_uniq {ns : List Int} {M m : Int} (h : maxI ns = some M) (h1 : m ∈ ns) (h2 : ∀ y, y ∈ ns → y ≤ m) : m = M := by
  cases ns with
  | nil => cases h
  | cons n r =>
    cases h
    obtain ⟨k1, k2⟩ := foldl_max r n
    exact Int.le_antisymm (k2 m h1) (h2 _ k1)
theorem minI_uniq {ns : List Int} {M m : Int} (h : minI ns = some M) (h1 : m ∈ ns) (h2 : ∀ y, y ∈ ns → m ≤ y) : m = M := by
  cases ns with
  | nil => cases h
  | cons n r =>
    cases h
    obtain ⟨k1, k2⟩ := foldl_min r n
    exact Int.le_antisymm (h2 _ k1) (k2 m h1)
def maxP : List PV → Option PV
  | [p] => (seqInts p).bind fun ns => (maxI ns).map .int
  | [.int i, .int j] => some (.int (if j > i then j else i))
  | _ => none
def minP : List PV → Option PV
  | [p] => (seqInts p).bind fun ns => (minI ns).map .int
  | [.int i, .int j] => some (.int (if j < i then j else i))
  | _ => none
def rMaxA (K : PySem.W.Frag) : List V → Hp → VK → Prop := fun vs H Q => (∃ (a : Addr) (ns : List Int), vs = [V.ref a] ∧ (SqL K H a (ns.map V.int) ∨ SqT K H a (ns.map V.int)) ∧ 0 < ns.length ∧ ∀ m, m ∈ ns → (∀ y, y ∈ ns → y ≤ m) → Q (.int m) H) ∨
  ∃ i j, vs = [.int i, .int j] ∧ Q (.int (if j > i then j else i)) H
def rMinA (K : PySem.W.Frag) : List V → Hp → VK → Prop := fun vs H Q => (∃ (a : Addr) (ns : List Int), vs = [V.ref a] ∧ (SqL K H a (ns.map V.int) ∨ SqT K H a (ns.map V.int)) ∧ 0 < ns.length ∧ ∀ m, m ∈ ns → (∀ y, y ∈ ns → m ≤ y) → Q (.int m) H) ∨
  ∃ i j, vs = [.int i, .int j] ∧ Q (.int (if j < i then j else i)) H
theorem max_tup {prog : Program} {w : World} {A : Around} {E : Value → Shared → Prop} {s : Shared} {t : Addr} {xs : Array (Int × Tok)} {Q : Value → Shared → Prop} (hh : A.handled = none) (ht : s.heap.IsTuple t (intItems xs)) (hne : 0 < xs.size)
    (h : ∀ v h' tk, (intItems xs)[argBest (fun i j => decide (numAt xs i > numAt xs j)) (xs.size - 1)]? = some v → (∀ b o, s.heap.get? b = some o → h'.get? b = some o) → Q v { s with heap := h', toks := tk }) :
    wpAny (model prog w) A (call (.builtin "max") [.ref t]) Q E s := by
  obtain ⟨o, ho, hc, n, hd⟩ := id ht
  have hne2 : t ≠ s.heap.objs.size := Nat.ne_of_lt (Heap.lt_size ho)
  refine call_max_walk (wpAny_pyIter_tuple ht ?_)
  refine ⟨s.heap.objs.size, _, _, _, _, _, _, rfl, Walks.tuple (prog := prog) (w := w) (A := A.in1) hh s.heap.objs.size t hne2 (intItems xs), ⟨⟨_, Heap.get?_push_size _ rfl, rfl, rfl⟩, ht.at fun o e => Heap.get?_push_of_some _ e⟩, fun b hb => ?_, by simpa [intItems] using hne, CmpOf.ints_gt (numAt xs) (fun _ _ => intItems_at), fun v h' tk hP hk => ?_⟩
  · rcases List.mem_cons.mp hb with rfl | hb
    · exact Heap.lt_size (Heap.get?_push_size _ rfl)
    · obtain rfl := List.mem_singleton.mp hb
      exact Heap.lt_size (Heap.get?_push_of_some _ ho)
  · exact h v h' tk (by simpa [intItems] using hP) fun b o e => hk b o (fun hb => absurd (Heap.lt_size e) ((List.mem_singleton.mp hb) ▸ Nat.lt_irrefl _)) (Heap.get?_push_of_some _ e)
theorem min_tup {prog : Program} {w : World} {A : Around} {E : Value → Shared → Prop} {s : Shared} {t : Addr} {xs : Array (Int × Tok)} {Q : Value → Shared → Prop} (hh : A.handled = none) (ht : s.heap.IsTuple t (intItems xs)) (hne : 0 < xs.size)
    (h : ∀ v h' tk, (intItems xs)[argBest (fun i j => decide (numAt xs i < numAt xs j)) (xs.size - 1)]? = some v → (∀ b o, s.heap.get? b = some o → h'.get? b = some o) → Q v { s with heap := h', toks := tk }) :
    wpAny (model prog w) A (call (.builtin "min") [.ref t]) Q E s := by
  obtain ⟨o, ho, hc, n, hd⟩ := id ht
  have hne2 : t ≠ s.heap.objs.size := Nat.ne_of_lt (Heap.lt_size ho)
  refine call_min_walk (wpAny_pyIter_tuple ht ?_)
  refine ⟨s.heap.objs.size, _, _, _, _, _, _, rfl, Walks.tuple (prog := prog) (w := w) (A := A.in1) hh s.heap.objs.size t hne2 (intItems xs), ⟨⟨_, Heap.get?_push_size _ rfl, rfl, rfl⟩, ht.at fun o e => Heap.get?_push_of_some _ e⟩, fun b hb => ?_, by simpa [intItems] using hne, CmpOf.ints_lt (numAt xs) (fun _ _ => intItems_at), fun v h' tk hP hk => ?_⟩
  · rcases List.mem_cons.mp hb with rfl | hb
    · exact Heap.lt_size (Heap.get?_push_size _ rfl)
    · obtain rfl := List.mem_singleton.mp hb
      exact Heap.lt_size (Heap.get?_push_of_some _ ho)
  · exact h v h' tk (by simpa [intItems] using hP) fun b o e => hk b o (fun hb => absurd (Heap.lt_size e) ((List.mem_singleton.mp hb) ▸ Nat.lt_irrefl _)) (Heap.get?_push_of_some _ e)
theorem call_maxA (hc : X.calm = true) : CallR X (.builtin "max") (rMaxA X.K) := by
  intro pins s σ H vs us Q I r h
  rcases h with ⟨a, ns, rfl, hs | hs, hne, q⟩ | h
  · exact cr_max hc pins s σ H _ us Q I r ⟨a, ns, rfl, hs, hne, q⟩
  · obtain ⟨its, rv, ht, _⟩ := I.tuple hs
    rw [Vals.ref1 r]
    obtain ⟨xs, ex⟩ := rv.ints.allInts.items
    have hn : numsOf (intItems xs).toList = ns := by rw [← ex]; exact rv.ints.numsOf
    rw [nums_intItems] at hn
    subst hn
    rw [ex] at ht
    have hsz : 0 < xs.size := by simpa using hne
    refine max_tup (I.ok.hd hc) ht hsz fun v h' tk hv hk => ?_
    obtain ⟨t, rfl⟩ := intItems_at hv
    obtain ⟨h1, h2⟩ := argBest_gt (numAt xs) (xs.size - 1)
    refine ⟨.int _, H, I.kept hk, ⟨t, rfl⟩, q _ ?_ fun a ha => ?_⟩
    · rw [numAt_eq]; exact PySem.getD_mem (by rw [List.length_map, Array.length_toList]; omega)
    · obtain ⟨j, hj, rfl⟩ := mem_getD ha
      rw [List.length_map, Array.length_toList] at hj
      rw [← numAt_eq]; exact h2 j (by omega)
  · exact call_max2 hc pins s σ H vs us Q I r h
theorem call_minA (hc : X.calm = true) : CallR X (.builtin "min") (rMinA X.K) := by
  intro pins s σ H vs us Q I r h
  rcases h with ⟨a, ns, rfl, hs | hs, hne, q⟩ | h
  · exact cr_min hc pins s σ H _ us Q I r ⟨a, ns, rfl, hs, hne, q⟩
  · obtain ⟨its, rv, ht, _⟩ := I.tuple hs
    rw [Vals.ref1 r]
    obtain ⟨xs, ex⟩ := rv.ints.allInts.items
    have hn : numsOf (intItems xs).toList = ns := by rw [← ex]; exact rv.ints.numsOf
    rw [nums_intItems] at hn
    subst hn
    rw [ex] at ht
    have hsz : 0 < xs.size := by simpa using hne
    refine min_tup (I.ok.hd hc) ht hsz fun v h' tk hv hk => ?_
    obtain ⟨t, rfl⟩ := intItems_at hv
    obtain ⟨h1, h2⟩ := argBest_lt (numAt xs) (xs.size - 1)
    refine ⟨.int _, H, I.kept hk, ⟨t, rfl⟩, q _ ?_ fun a ha => ?_⟩
    · rw [numAt_eq]; exact PySem.getD_mem (by rw [List.length_map, Array.length_toList]; omega)
    · obtain ⟨j, hj, rfl⟩ := mem_getD ha
      rw [List.length_map, Array.length_toList] at hj
      rw [← numAt_eq]; exact h2 j (by omega)
  · exact call_min2 hc pins s σ H vs us Q I r h
theorem prim_max : PrimN K (rMaxA K) maxP := by
  intro S H ps vs z Q dm o e k
  unfold maxP at e
  split at e
  · next p =>
    obtain ⟨v, r', f1, f2, rfl, e2, o1, o2⟩ := o
    obtain ⟨rfl, _⟩ := app_nil e2
    obtain ⟨rfl, _⟩ := o2
    unfold seqInts at e
    cases hl : itemsB p with
    | none => rw [hl] at e; cases e
    | some l =>
      rw [hl] at e
      have e : (intsP l).bind (fun ns => (maxI ns).map PV.int) = some z := e
      cases hn : intsP l with
      | none => rw [hn] at e; cases e
      | some ns =>
        rw [hn] at e
        have e : (maxI ns).map PV.int = some z := e
        cases hm : maxI ns with
        | none => rw [hm] at e; cases e
        | some M =>
          rw [hm] at e
          cases e
          obtain ⟨a, rfl, h⟩ := rd_seq o1 hl hn
          refine .inl ⟨a, ns, rfl, h, ?_, fun m h1 h2 => ?_⟩
          · cases ns with
            | nil => cases hm
            | cons _ _ => exact Nat.succ_pos _
          · rw [maxI_uniq hm h1 h2]
            exact k _ S H [] ⟨rfl, rfl⟩ (New.refl dm)
  · next i j =>
    cases e
    obtain ⟨v, r', f1, f2, rfl, e2, o1, o2⟩ := o
    obtain ⟨rfl, rfl⟩ := app_nil e2
    obtain ⟨v2, r2, f3, f4, rfl, e4, o3, o4⟩ := o2
    obtain ⟨rfl, rfl⟩ := app_nil e4
    obtain ⟨rfl, _⟩ := o4
    obtain ⟨rfl, _⟩ := o1
    obtain ⟨rfl, _⟩ := o3
    exact .inr ⟨i, j, rfl, k _ S H [] ⟨rfl, rfl⟩ (New.refl dm)⟩
  · cases e
theorem prim_min : PrimN K (rMinA K) minP := by
  intro S H ps vs z Q dm o e k
  unfold minP at e
  split at e
  · next p =>
    obtain ⟨v, r', f1, f2, rfl, e2, o1, o2⟩ := o
    obtain ⟨rfl, _⟩ := app_nil e2
    obtain ⟨rfl, _⟩ := o2
    unfold seqInts at e
    cases hl : itemsB p with
    | none => rw [hl] at e; cases e
    | some l =>
      rw [hl] at e
      have e : (intsP l).bind (fun ns => (minI ns).map PV.int) = some z := e
      cases hn : intsP l with
      | none => rw [hn] at e; cases e
      | some ns =>
        rw [hn] at e
        have e : (minI ns).map PV.int = some z := e
        cases hm : minI ns with
        | none => rw [hm] at e; cases e
        | some M =>
          rw [hm] at e
          cases e
          obtain ⟨a, rfl, h⟩ := rd_seq o1 hl hn
          refine .inl ⟨a, ns, rfl, h, ?_, fun m h1 h2 => ?_⟩
          · cases ns with
            | nil => cases hm
            | cons _ _ => exact Nat.succ_pos _
          · rw [minI_uniq hm h1 h2]
            exact k _ S H [] ⟨rfl, rfl⟩ (New.refl dm)
  · next i j =>
    cases e
    obtain ⟨v, r', f1, f2, rfl, e2, o1, o2⟩ := o
    obtain ⟨rfl, rfl⟩ := app_nil e2
    obtain ⟨v2, r2, f3, f4, rfl, e4, o3, o4⟩ := o2
    obtain ⟨rfl, rfl⟩ := app_nil e4
    obtain ⟨rfl, _⟩ := o4
    obtain ⟨rfl, _⟩ := o1
    obtain ⟨rfl, _⟩ := o3
    exact .inr ⟨i, j, rfl, k _ S H [] ⟨rfl, rfl⟩ (New.refl dm)⟩
  · cases e
/-! ### isinstance of a built-in type -/
def tyP : PV → String
  | .non => "NoneType"
  | .bl _ => "bool"
  | .int _ => "int"
  | .str _ => "str"
  | .tup _ => "tuple"
  | .lst _ => "list"
  | .scr _ => "list"
  | .mls _ => "list"
  | _ => "dict"
theorem ty_ok {p : PV} {v : V} {g : List Addr} (o : Own K S H p v g) : TyX K H v (.type (tyP p)) := by
  cases p with
  | non => obtain ⟨rfl, _⟩ := o; exact .base .non
  | bl b => obtain ⟨rfl, _⟩ := o; exact .base (.bl b)
  | int b => obtain ⟨rfl, _⟩ := o; exact .base (.int b)
  | str b => obtain ⟨rfl, _⟩ := o; exact .base (.str b)
  | tup l =>
    obtain ⟨a, vs, rfl, _, fr, os⟩ := o
    exact .base (.tup fr.2)
  | lst l => obtain ⟨a, vs, rfl, _, fr, os⟩ := o; exact .base (.lst fr.2)
  | mls l => obtain ⟨a, vs, g', rfl, _, fr, os⟩ := o; exact .base (.lst fr)
  | scr l =>
    obtain ⟨a, vs, rfl, _, fr, os⟩ := o
    rcases fr with ⟨_, h | ⟨ob, h⟩⟩ | ⟨ob, its, n, h1, h2, _⟩
    · exact .base (.lst h)
    · exact .base (.frz h)
    · exact .kList h1 h2
  | mdk ks l => obtain ⟨a, vs, g', rfl, _, _, fr, os⟩ := o; exact .base (.dK fr)
  | mdt ks l => obtain ⟨a, vs, g', rfl, _, _, fr, os⟩ := o; exact .base (.dT fr)
  | dck ks l => obtain ⟨a, vs, rfl, _, _, _, fr, os⟩ := o; exact .base (.dK fr)
  | dct ks l => obtain ⟨a, vs, rfl, _, _, _, fr, os⟩ := o; exact .base (.dT fr)
/-- isinstance(.., T): int is also what a bool is -/
def isTyS (T s : String) : Bool := s == T || (s == "bool" && T == "int")
def isTy (T : String) (p : PV) : Bool := isTyS T (tyP p)
theorem kit_all : ∀ T ∈ ["int", "bool", "str", "tuple", "list"], ∀ s ∈ ["NoneType", "bool", "int", "str", "tuple", "list", "dict"], kitB s T = some (isTyS T s) := by decide +kernel
theorem tyP_mem (p : PV) : tyP p ∈ ["NoneType", "bool", "int", "str", "tuple", "list", "dict"] := by
  cases p <;> simp [tyP]
theorem kit_isTy {T : String} (hT : T ∈ ["int", "bool", "str", "tuple", "list"]) (p : PV) : PySem.W.kitOne K (.type (tyP p)) (.type T) = some (isTy T p) := kit_ty (kit_all T hT _ (tyP_mem p))
def dIsi (T : String) (f : Env → R PV) : Env → R PV := fun env => (dFrz f env).bind fun p e => .ok (.bl (isTy T p)) e
theorem ev_isi {T : Str} {Ts : String} {p1 p2 : Pos} (hT : Ts ∈ ["int", "bool", "str", "tuple", "list"]) (hg : Gl X "isinstance") (hm : X.mg "isinstance" = none) (hg2 : Gl X T) (hm2 : X.mg T = none) (hv2 : bootBuiltins T = some (.type Ts)) (ha : Ev X W io m a f)
    (hn : T ≠ "__name__" := by decide) (hd : (T == ("__debug__" : Str)) = false := by decide) (hs : starEach [a, .Name T p2] X.env = (false, eval a X.env) :: starEach [.Name T p2] X.env := by rfl) (hs2 : starEach [.Name T p2] X.env = (false, eval (.Name T p2) X.env) :: starEach [] X.env := by rfl)
    (hpl : (backTo pos (starEach [.Name T p2] X.env)).any (·.1) = false := by rfl) : Ev X W io m (.Call (.Name "isinstance" p1) [a, .Name T p2] [] pos) (dIsi Ts f) := by
  refine ⟨(pe_callB call_isi hg hm (by decide +kernel) (pa_cons ha.frz.pe (pa_cons (pe_bltn (v := .ty Ts) hg2 hm2 hv2 rfl hn hd) pa_nil hs2) hs) (by decide) (by decide) hs hpl).imp fun σ H Q q => ?_, Still.bind (m2 := m) ha.frz.st (fun _ => Still.pure) id id⟩
  obtain ⟨S, env, fp, C, G, q⟩ := q
  refine Post.bind (ft := []) C Owns.nil G id q fun p v S1 H1 env1 fv fp1 o1' _ C1 G1 e1 _ _ h1 => ?_
  have z := dFrz_nil e1 o1'
  subst z
  exact ⟨v, .ty Ts, _, _, _, rfl, .ty Ts, ty_ok o1', kit_isTy hT p, Post.fin (ft := []) C1 G1 h1 ⟨rfl, rfl⟩ (New.refl G1.dm)⟩
/-! ### slices -/
def cutL (l : List PV) (lo hi : Option Int) : List PV := (l.drop (HT.sIx l.length 0 lo)).take (HT.sIx l.length l.length hi - HT.sIx l.length 0 lo)
def slP (p : PV) (lo hi : Option Int) : Option PV := match p with
  | .tup l => some (.tup (cutL l lo hi))
  | .lst l => some (.mls (cutL l lo hi))
  | .scr l => some (.mls (cutL l lo hi))
  | .mls l => if flatO l = true then some (.mls (cutL l lo hi)) else none
  | _ => none
abbrev RO : Rl (Option Int) (Option Int) := fun _ _ b c f => c = b ∧ f = []
structure Eb (X : Cx) (W : WX) (io : Io) (m : Bool) (e : Option Expr) (f : Env → R (Option Int)) : Prop where
  po : PO X e (sem RO X W io m f)
  st : Still m f
def bNo : Env → R (Option Int) := fun env => .ok none env
def bSo (f : Env → R PV) : Env → R (Option Int) := fun env => (f env).bind fun p e => match p with
  | .int i => .ok (some i) e
  | _ => .stk
theorem _root_.L2.PO.imp {X : Cx} {e : Option Expr} {t u : TO} (h : PO X e t) (i : ∀ σ H Q, u σ H Q → t σ H Q) : PO X e u := ⟨fun pins s σ H Q I q => h.run pins s σ H Q I (i σ H Q q)⟩
theorem eb_none : Eb X W io false none bNo := ⟨po_none.imp fun σ H Q ⟨S, env, fp, C, G, q⟩ => Post.fin (ft := []) C G q ⟨rfl, rfl⟩ (New.refl G.dm), Still.pure⟩
theorem eb_some (ha : Ev X W io m a f) : Eb X W io m (some a) (bSo f) := by
  refine ⟨(po_some ha.pe).imp fun σ H Q q => ?_, Still.bind (m2 := m) ha.st (fun p => ?_) id id⟩
  · obtain ⟨S, env, fp, C, G, q⟩ := q
    refine Post.bind (ft := []) C Owns.nil G id q fun p v S1 H1 env1 fv fp1 o1' _ C1 G1 e1 _ _ h1 => ?_
    cases p with
    | int i =>
      obtain ⟨rfl, rfl⟩ := o1'
      exact ⟨i, rfl, Post.fin (ft := []) C1 G1 h1 ⟨rfl, rfl⟩ (New.refl G1.dm)⟩
    | _ => exact h1.elim
  · cases p with
    | int i => exact Still.pure
    | _ => intro _ _ _ _ e; cases e
theorem Owns.cut {l : List PV} {vs : List V} (h : Owns K S H l vs []) (lo hi : Option Int) : Owns K S H (cutL l lo hi) (L2.cutV vs lo hi) [] := by
  unfold cutL L2.cutV
  rw [← h.length]
  exact (h.drop _).take _
def rSlB (K : PySem.W.Frag) : V → Option Int → Option Int → Hp → VK → Prop := fun x lo hi H Q => L2.rSlA K x lo hi H Q ∨ rSlL K x lo hi H Q
theorem rd_sl {p : PV} {v : V} {g : List Addr} {lo hi : Option Int} {z : PV} {Q : VK} (dm : ∀ a, S a → H a ≠ none) (o : Own K S H p v g) (e : slP p lo hi = some z) (k : ∀ u S' H' f, Own K S' H' z u f → New S H S' H' f → Q u H') : rSlB K v lo hi H Q := by
  cases p with
  | tup l =>
    cases e
    obtain ⟨a, vs, rfl, _, fr, os⟩ := o
    refine .inl ⟨a, vs, rfl, fr.sq, fun h => ?_, fun _ p hp => new_tup dm hp (os.cut lo hi) k⟩
    have z : cutL l lo hi = l := by
      unfold cutL
      rw [os.length, h.1, h.2, List.drop_zero, Nat.sub_zero, ← os.length, List.take_length]
    rw [z] at k
    exact k _ S H [] ⟨a, vs, rfl, rfl, fr, os⟩ (New.refl dm)
  | lst l =>
    cases e
    obtain ⟨a, vs, rfl, _, fr, os⟩ := o
    exact .inr ⟨a, vs, rfl, SqL.of fr.2, fun p hp => new_mls dm hp (os.cut lo hi) k⟩
  | scr l =>
    cases e
    obtain ⟨a, vs, rfl, _, fr, os⟩ := o
    exact .inr ⟨a, vs, rfl, fr.sq, fun p hp => new_mls dm hp (os.cut lo hi) k⟩
  | mls l =>
    have e : (if flatO l = true then some (PV.mls (cutL l lo hi)) else none) = some z := e
    by_cases h : flatO l = true
    · rw [if_pos h] at e
      cases e
      obtain ⟨a, vs, g', rfl, _, fr, os⟩ := o
      have z := os.flat h
      subst z
      exact .inr ⟨a, vs, rfl, SqL.of fr, fun p hp => new_mls dm hp (os.cut lo hi) k⟩
    · rw [if_neg h] at e; cases e
  | _ => cases e
def dSl (f : Env → R PV) (lo hi : Env → R (Option Int)) : Env → R PV := fun env => (dFrz f env).bind fun p e1 => (lo e1).bind fun l e2 => (hi e2).bind fun h e3 => o1 (slP p l h) e3
/-- x[lo:hi], x a name -/
def dSlV (i : Nat) (lo hi : Env → R (Option Int)) : Env → R PV := fun env => match slotP env i with
  | none => .stk
  | some _ => (lo env).bind fun l e2 => (hi e2).bind fun h e3 => o1 ((slotP e3 i).bind fun p => slP p l h) e3
variable {elo ehi : Option Expr} {blo bhi : Env → R (Option Int)} {p2 : Pos} {m3 : Bool}
theorem ev_sl (ha : Ev X W io m1 a f) (hl : Eb X W io m2 elo blo) (hh : Eb X W io m3 ehi bhi) : Ev X W io (m1 || (m2 || m3)) (.Subscript a (.Slice elo ehi none p2) pos) (dSl f blo bhi) := by
  refine ⟨(pe_slice (sl_tupA.or sl_list) ha.frz.pe hl.po hh.po).imp fun σ H Q q => ?_, Still.bind (m2 := m1 || (m2 || m3)) ha.frz.st (fun _ => Still.bind (m2 := m1 || (m2 || m3)) hl.st (fun _ => Still.bind (m2 := m1 || (m2 || m3)) hh.st (fun _ => Still.o1) (fun h => or_r (or_r h)) id) (fun h => or_l (or_r h)) id) or_l id⟩
  obtain ⟨S, env, fp, C, G, q⟩ := q
  refine Post.bind (ft := []) C Owns.nil G or_l q fun p v S1 H1 env1 fv fp1 o1' _ C1 G1 e1 _ _ h1 => ?_
  have z := dFrz_nil e1 o1'
  subst z
  refine Post.bind (ft := []) C1 (Owns.one o1') G1 (fun h => or_l (or_r h)) h1 fun l l' S2 H2 env2 fv2 fp2 o2 T2 C2 G2 e2 _ _ h2 => ?_
  obtain ⟨rfl, rfl⟩ := o2
  refine Post.bind (ft := []) C2 T2 G2 (fun h => or_r (or_r h)) h2 fun h h' S3 H3 env3 fv3 fp3 o3 T3 C3 G3 e3 _ _ h3 => ?_
  obtain ⟨rfl, rfl⟩ := o3
  cases es : slP p l' h' with
  | none => rw [es] at h3; exact h3.elim
  | some z =>
    rw [es] at h3
    exact rd_sl G3.dm T3.inv.1 es fun u S' H' f ou n => Post.fin (ft := []) C3 G3 h3 ou n
theorem ev_slV {y : Str} {p1 : Pos} (hN : X.N[i]? = some y) (hy : Vis X.env.scope y) (hl : Eb X W io m2 elo blo) (hh : Eb X W io m3 ehi bhi) (hd : (y == ("__debug__" : Str)) = false := by decide) (hcd : (y == ("__classdict__" : Str)) = false := by decide) :
    Ev X W io (m2 || m3) (.Subscript (.Name y p1) (.Slice elo ehi none p2) pos) (dSlV i blo bhi) := by
  refine ⟨(pe_slice (sl_tupA.or sl_list) (pe_var hN hy hd hcd) hl.po hh.po).imp fun σ H Q q => ?_, ?_⟩
  · obtain ⟨S, env, fp, C, G, q⟩ := q
    unfold dSlV at q
    cases ep : slotP env i with
    | none => rw [ep] at q; exact q.elim
    | some p0 =>
      rw [ep] at q
      obtain ⟨v, g0, h1, _, _⟩ := C.own.get (slotP_some ep)
      refine ⟨v, h1, ?_⟩
      refine Post.bind (ft := []) C Owns.nil G or_l q fun l l' S2 H2 env2 fv2 fp2 o2 T2 C2 G2 e2 _ _ h2 => ?_
      obtain ⟨rfl, rfl⟩ := o2
      refine Post.bind (ft := []) C2 Owns.nil G2 or_r h2 fun h h' S3 H3 env3 fv3 fp3 o3 T3 C3 G3 e3 _ _ h3 => ?_
      obtain ⟨rfl, rfl⟩ := o3
      cases ep3 : slotP env3 i with
      | none => rw [ep3] at h3; exact h3.elim
      | some p =>
        rw [ep3] at h3
        have h3 : Post (RV X.K) X W io (m2 || m3) S3 H3 σ fp3 fp3 (o1 (slP p l' h') env3) Q := h3
        obtain ⟨v', g, k1, k2, _⟩ := C3.own.get (slotP_some ep3)
        rw [h1] at k1
        cases k1
        cases es : slP p l' h' with
        | none => rw [es] at h3; exact h3.elim
        | some z =>
          rw [es] at h3
          exact rd_sl G3.dm k2 es fun u S' H' f ou n => Post.fin (ft := []) C3 G3 h3 ou n
  · intro hm env p env' e
    unfold dSlV at e
    split at e
    · cases e
    · exact Still.bind (m := m2 || m3) (m2 := m2 || m3) hl.st (fun l => Still.bind (m := m2 || m3) (m2 := m2 || m3) hh.st (fun h => by intro _ env p env' e; exact (o1_eq e).1) or_r id) or_l id hm env p env' e
/-! ### x op= e, x[k] op= e, a, b = e -/
def sAug (F : PV → PV → Option PV) (i : Nat) (f : Env → R PV) : Env → RS := fun env => match slotP env i with
  | some p => if isOwn p = true then .stk else (dFrz f env).toS fun q e => match F p q with
    | some z => if isOwn z = true then .stk else if i < e.length then .nx (e.set i (some z)) else .stk
    | none => .stk
  | none => .stk
theorem es_aug {op : Operator} {r : TIp} {F : PV → PV → Option PV} {pos' : Pos} (hN : X.N.Nodup) (hi : X.N[i]? = some x) (hx : Loc X.env.scope x) (ho : PIp X op r) (hF : Prim2 X.K r F) (ha : Ev X W io m a f) (hio : io.1.contains i = false)
    (hf : X.fn x = true ∨ X.env.scope.names.lookup x = some .local := by first | exact .inl rfl | exact .inr rfl | assumption) : Es X W io (.AugAssign (.Name x pos') op a pos) (sAug F i f) := by
  refine ⟨(ps_aug hN hi hx ha.frz.pe ho hf).imp fun D σ H q => ?_⟩
  obtain ⟨S, env, fp, C, G, q⟩ := q
  unfold sAug at q
  cases ep : slotP env i with
  | none => rw [ep] at q; exact q.elim
  | some p =>
    rw [ep] at q
    have q : PostS X W io S H fp (if isOwn p = true then .stk else (dFrz f env).toS fun q e => match F p q with
      | some z => if isOwn z = true then .stk else if i < e.length then .nx (e.set i (some z)) else .stk
      | none => .stk) D := q
    by_cases no : isOwn p = true
    · rw [if_pos no] at q; exact q.elim
    rw [if_neg no] at q
    obtain ⟨v, g, h1, h2, h3⟩ := C.own.get (slotP_some ep)
    have z := h2.nonown (by simpa using no)
    subst z
    refine ⟨v, h1, ?_⟩
    refine PostS.bindT (ft := []) (Owns.one h2) C G q fun p2 y S1 H1 env1 fv fp1 o1' T1 C1 G1 e1 q1 => ?_
    have z := dFrz_nil e1 o1'
    subst z
    cases eF : F p p2 with
    | none => rw [eF] at q1; exact q1.elim
    | some z =>
      rw [eF] at q1
      have q1 : PostS X W io S1 H1 fp1 (if isOwn z = true then .stk else if i < env1.length then .nx (env1.set i (some z)) else .stk) D := q1
      by_cases nz : isOwn z = true
      · rw [if_pos nz] at q1; exact q1.elim
      rw [if_neg nz] at q1
      refine hF S1 H1 p p2 v y z _ G1.dm T1.inv.1 o1' eF fun u S' H' fu ou n => ?_
      have z := ou.nonown (by simpa using nz)
      subst z
      have G1 : Good S1 H1 fp1 := G1
      have C2 : Cl X.K io S' H' σ env1 fp1 := ⟨OwnE.stay (fun b o _ e => n.same b o e) n.su _ _ _ (fun b o _ e => n.same b o e) C1.own, C1.io.stay (fun b o _ e => n.same b o e) n.su⟩
      have G2 : Good S' H' fp1 := ⟨G1.nd, fun a h s => (n.sb a s).elim (G1.dj a h) (G1.al a h), n.dm, fun a h => Same.ne n.same a (G1.al a h)⟩
      exact set_nx (fv := []) C2 ou G2 hio (PostS.move q1 ((n.step fp1).sub fun a h => h))
def sAsg (tg : Tg) (f : Env → R PV) : Env → RS := fun env => (dFrz f env).toS fun p e => tgS (tg p e) fun e' => .nx e'
theorem es_asg {sl : List Nat} {target : Expr} {tg : Tg} (ha : Ev X W io m a f) (hg : Eg X io sl target tg) (hs : swapsWithSole [target] a pos.line X.env = pure false := by rfl) (hw : swappedStores [target] a X.env = pure none := by rfl)
    (h1 : (assignEach [target] X.env).map (·.2) = [assign target X.env] := by rfl) : Es X W io (.Assign [target] a pos) (sAsg tg f) := by
  refine ⟨(ps_asg ha.frz.pe hg.pg hs hw h1).imp fun D σ H q => ?_⟩
  obtain ⟨S, env, fp, C, G, q⟩ := q
  refine PostS.bind C G q fun p v S1 H1 env1 fv fp1 o1' C1 G1 e1 q1 => ?_
  have z := dFrz_nil e1 o1'
  subst z
  cases et : tg p env1 with
  | none => rw [et] at q1; exact q1.elim
  | some e' =>
    rw [et] at q1
    exact ⟨S1, env1, fp1, p, o1', C1, G1, e', et, fun σ' fp' C' G' sb _ _ => q1 σ' S1 H1 fp' C' G' (Step.refl.sub sb)⟩
def sPar (i j : Nat) (fs : Env → R (List PV)) : Env → RS := fun env => (fs env).toS fun ps e => match ps with
  | [p, q] => if i < e.length ∧ j < e.length then .nx ((e.set i (some p)).set j (some q)) else .stk
  | _ => .stk
theorem es_par {j : Nat} {y : Str} {px py pt : Pos} {kt k2 : Nat} {pt2 : Pos} (hc : X.calm = true) (hN : X.N.Nodup) (hi : X.N[i]? = some x) (hj : X.N[j]? = some y) (hij : i ≠ j) (hx : X.env.scope.names.lookup x = some .local) (hy : X.env.scope.names.lookup y = some .local) (ha : Ef X W io m [a, b] fs)
    (hio : io.1.contains i = false) (hjo : io.1.contains j = false) (hw : swappedStores [.Tuple [.Name x px, .Name y py] kt pt] (.Tuple [a, b] k2 pt2) X.env = pure (some [x, y])) (hs : swapsWithSole [.Tuple [.Name x px, .Name y py] kt pt] (.Tuple [a, b] k2 pt2) pos.line X.env = pure false := by rfl) :
    Es X W io (.Assign [.Tuple [.Name x px, .Name y py] kt pt] (.Tuple [a, b] k2 pt2) pos) (sPar i j fs) := by
  refine ⟨(ps_par hc hN hi hj hij hx hy ha.pe hw hs).imp fun D σ H q => ?_⟩
  obtain ⟨S, env, fp, C, G, q⟩ := q
  refine PostS.bind C G q fun ps vs S1 H1 env1 fv fp1 o C1 G1 e1 h1 => ?_
  have z := ha.nf _ _ _ e1 _ _ _ _ _ o
  subst z
  have hl := ha.ln _ _ _ e1
  match ps, hl, h1, o with
  | [p, q], _, h1, o =>
    obtain ⟨v, r, f1, f2, rfl, e3, o1', o2'⟩ := o
    obtain ⟨rfl, rfl⟩ := app_nil e3
    obtain ⟨v2, r2, f3, f4, rfl, e6, o3', o4'⟩ := o2'
    obtain ⟨rfl, rfl⟩ := app_nil e6
    obtain ⟨rfl, _⟩ := o4'
    have G1 : Good S1 H1 fp1 := G1
    have h1 : PostS X W io S1 H1 fp1 (if i < env1.length ∧ j < env1.length then .nx ((env1.set i (some p)).set j (some q)) else .stk) D := h1
    by_cases hh : i < env1.length ∧ j < env1.length
    · rw [if_pos hh] at h1
      obtain ⟨g1, C2, G2, s2⟩ := cl_set C1 G1 o1' hio hh.1
      obtain ⟨g2, C3, G3, s3⟩ := cl_set C2 G2 o3' hjo (by rw [List.length_set]; exact hh.2)
      exact ⟨v, v2, rfl, h1 _ S1 H1 g2 C3 G3 (Step.refl.sub fun a h => s2 a (s3 a h))⟩
    · rw [if_neg hh] at h1; exact h1.elim
theorem pget_list : PGet X (rIxL X.K) := by
  intro pins s σ H o iv v u Q I rx ry h
  obtain ⟨p, xs, i, z, rfl, rfl, hq, he, q⟩ := h
  cases rx
  obtain ⟨t, rfl⟩ := ry
  obtain ⟨its, r, pl, hz⟩ := I.list hq
  obtain ⟨j, h1, h2, h3, h4, h5⟩ := atI_get he
  obtain ⟨w', ew, rw'⟩ := r.get h2
  have hl := r.length
  have hn := line63
  have fin : EP X pins σ Q w' s := ⟨z, H, I, rw', q⟩
  by_cases h0 : 0 ≤ i
  · have hj : i.toNat = j := by
      rw [seqIndex_of h0 h5] at h1
      exact Option.some.inj h1
    exact wpAny_getItem_list pl.isList h0 (by omega) (by rw [hj]; simpa using ew) fin
  · have hj : (i + (its.toArray.size : Int)).toNat = j := by
      rw [seqIndex_neg (by omega) h4] at h1
      rw [List.size_toArray, ← hl]
      exact Option.some.inj h1
    exact wpAny_getItem_list_neg pl.isList (by omega) (by rw [List.size_toArray]; omega) (by omega) (by rw [hj]; simpa using ew) fin
/-- x[e] op= f -/
def sAugIx (F : PV → PV → Option PV) (i : Nat) (g f : Env → R PV) : Env → RS := fun env => match mlsAt env i with
  | none => .stk
  | some _ => (dFrz g env).toS fun q e1 => match q, mlsAt e1 i with
    | .int k, some l1 => match atI l1 k with
      | some old => if isOwn old = true then .stk else (dFrz f e1).toS fun p e2 => match F old p, mlsAt e2 i with
        | some z, some l2 => match ixN l2.length k with
          | some j => if isOwn z = true then .stk else .nx (e2.set i (some (.mls (l2.set j z))))
          | none => .stk
        | _, _ => .stk
      | none => .stk
    | _, _ => .stk
theorem es_augIx {op : Operator} {r : TIp} {F : PV → PV → Option PV} {p1 tpos : Pos} (hN : X.N[i]? = some x) (hv : Vis X.env.scope x) (ho : PIp X op r) (hF : Prim2 X.K r F) (hb : Ev X W io m2 b g) (ha : Ev X W io m1 a f)
    (hx : ∀ ov iv new, augStore b ov iv new = (do holding [new, ov, iv] (setItem ov iv new); release [new, ov, iv] []; pure Flow.next) := by intros; rfl) (hd : (x == ("__debug__" : Str)) = false := by decide) (hcd : (x == ("__classdict__" : Str)) = false := by decide) :
    Es X W io (.AugAssign (.Subscript (.Name x p1) b tpos) op a pos) (sAugIx F i g f) := by
  refine ⟨(ps_augS (pe_var hN hv hd hcd) hb.frz.pe pget_list ha.frz.pe ho set_list hx).imp fun D σ H q => ?_⟩
  obtain ⟨S, env, fp, C, G, q⟩ := q
  unfold sAugIx at q
  cases ep : mlsAt env i with
  | none => rw [ep] at q; exact q.elim
  | some l0 =>
    rw [ep] at q
    obtain ⟨b', ws0, g0, k1, k2, _⟩ := cl_mut (fv := []) C G (mlsAt_some ep)
    refine ⟨.ref b', k1, ?_⟩
    refine PostS.bind C G q fun q y S1 H1 env1 fv fp1 o1' C1 G1 e1 h1 => ?_
    have z := dFrz_nil e1 o1'
    subst z
    have G1 : Good S1 H1 fp1 := G1
    cases q with
    | int k =>
      obtain ⟨rfl, _⟩ := o1'
      cases ep1 : mlsAt env1 i with
      | none => rw [ep1] at h1; exact h1.elim
      | some l1 =>
        rw [ep1] at h1
        have h1 : PostS X W io S1 H1 fp1 (match atI l1 k with
          | some old => if isOwn old = true then .stk else (dFrz f env1).toS fun p e2 => match F old p, mlsAt e2 i with
            | some z, some l2 => match ixN l2.length k with
              | some j => if isOwn z = true then .stk else .nx (e2.set i (some (.mls (l2.set j z))))
              | none => .stk
            | _, _ => .stk
          | none => .stk) D := h1
        obtain ⟨b2, ws, g2, k3, k4, k5, _⟩ := cl_mut (fv := []) C1 G1 (mlsAt_some ep1)
        rw [k1] at k3
        cases k3
        cases ea : atI l1 k with
        | none => rw [ea] at h1; exact h1.elim
        | some old =>
          rw [ea] at h1
          have h1 : PostS X W io S1 H1 fp1 (if isOwn old = true then .stk else (dFrz f env1).toS fun p e2 => match F old p, mlsAt e2 i with
            | some z, some l2 => match ixN l2.length k with
              | some j => if isOwn z = true then .stk else .nx (e2.set i (some (.mls (l2.set j z))))
              | none => .stk
            | _, _ => .stk) D := h1
          by_cases no : isOwn old = true
          · rw [if_pos no] at h1; exact h1.elim
          rw [if_neg no] at h1
          obtain ⟨u, q1, q2⟩ := k5.atIG ea (by simpa using no)
          refine ⟨b', ws, k, u, rfl, rfl, SqL.of k4, q1, ?_⟩
          refine PostS.bindT (ft := []) (Owns.one q2) C1 G1 h1 fun p2 y2 S2 H2 env2 fv2 fp2 o2 T2 C2 G2 e2 h2 => ?_
          have z := dFrz_nil e2 o2
          subst z
          have G2 : Good S2 H2 fp2 := G2
          cases eF : F old p2 with
          | none => rw [eF] at h2; exact h2.elim
          | some z =>
            rw [eF] at h2
            cases ep2 : mlsAt env2 i with
            | none => rw [ep2] at h2; exact h2.elim
            | some l2 =>
              rw [ep2] at h2
              have h2 : PostS X W io S2 H2 fp2 (match ixN l2.length k with
                | some j => if isOwn z = true then .stk else .nx (env2.set i (some (.mls (l2.set j z))))
                | none => .stk) D := h2
              cases ei : ixN l2.length k with
              | none => rw [ei] at h2; exact h2.elim
              | some j =>
                rw [ei] at h2
                have h2 : PostS X W io S2 H2 fp2 (if isOwn z = true then .stk else .nx (env2.set i (some (.mls (l2.set j z))))) D := h2
                by_cases nz : isOwn z = true
                · rw [if_pos nz] at h2; exact h2.elim
                rw [if_neg nz] at h2
                refine hF S2 H2 old p2 u y2 z _ G2.dm T2.inv.1 o2 eF fun u3 S3 H3 fu ou n => ?_
                have zz := ou.nonown (by simpa using nz)
                subst zz
                have C3 : Cl X.K io S3 H3 σ env2 fp2 := ⟨OwnE.stay (fun b o _ e => n.same b o e) n.su _ _ _ (fun b o _ e => n.same b o e) C2.own, C2.io.stay (fun b o _ e => n.same b o e) n.su⟩
                have G3 : Good S3 H3 fp2 := ⟨G2.nd, fun a h s => (n.sb a s).elim (G2.dj a h) (G2.al a h), n.dm, fun a h => Same.ne n.same a (G2.al a h)⟩
                have h3 := PostS.move h2 ((n.step fp2).sub (fp2 := fp2) fun a h => h)
                obtain ⟨b3, ws2, g3, k6, k7, k8, ⟨n1, n2, n3, n4, n5, n6⟩, k9⟩ := cl_mut (fv := []) C3 G3 (mlsAt_some ep2)
                rw [k1] at k6
                cases k6
                refine ⟨b', ws2, k, j, rfl, rfl, k7, by rw [← k8.length]; exact ei, ?_⟩
                obtain ⟨g', w1, w2⟩ := Owns.setN (upd_stay1 (o := .lst (ws2.set j u3)) ou n1 (fun h => nomatch h)) j (upd_stay k8 n1 n2)
                obtain ⟨fp', c2, gg, s2, _⟩ := k9 _ _ _ w1 (fun x h => .inl (w2.subset h)) (n4.sublist w2)
                exact h3 σ S3 _ fp' c2 gg s2
    | _ => exact h1.elim
theorem prim_ip {h : Int → Int → Int} : Prim2 K (ipI h) (iiP fun i j => some (.int (h i j))) := prim_ii fun i j z H Q e k => by
  cases e
  exact ⟨i, j, rfl, rfl, k _ fun _ _ _ => ⟨rfl, rfl⟩⟩
def addI : PV → PV → Option PV := iiP fun i j => some (.int (i + j))
theorem prim_ipadd : Prim2 K (ipI fun i j => i + j) addI := prim_ip
theorem prim_ipsub : Prim2 K (ipI fun i j => i - j) subP := prim_ip
/-! ### a tuple, so many times; -a; constants of the module -/
theorem tuple_mul1 (l : Addr) (items : Array Value) (n : Nat) (dd : Option Addr) (sl : Array (Option Value)) (u : Tok) :
    Meets (Builtin.«tuple.__mul__» ⟨[.ref l, .int 1 u], []⟩) (fun _ R s => s.heap.get? l = some { cls := .type "tuple", dict := dd, data := .seq items n, slots := sl } ∧ R (.ok (.ret (Value.ref l))) s) :=
  .of_wp fun prog w A R s h => by
    obtain ⟨hp, g, d, tk, os⟩ := s
    obtain ⟨hl, h⟩ := h
    have f1 := AutoSeq1.idx_int
    wp_walk using wpAny_loadPart' hl
    repeat (first
      | (refine wpAny_ite_true (decide_eq_true (by simp)) ?_; wp_walk using wpAny_loadPart' hl))
    exact ⟨_, rfl, h⟩
def rRep1 (K : PySem.W.Frag) : R2 := fun x y H Q => ∃ l xs, x = .ref l ∧ y = .int 1 ∧ SqT K H l xs ∧ Q (.ref l) H
theorem op_rep1 : OpR X (binaryOp .Mult) (rRep1 X.K) := by
  intro pins s σ H x y v u Q I rx ry h
  obtain ⟨l, xs, rfl, rfl, hT, q⟩ := h
  cases rx
  obtain ⟨t, rfl⟩ := ry
  obtain ⟨its, r, ⟨⟨cls, dd, data, sl⟩, ho, hc, n, hd⟩, hs⟩ := I.tuple hT
  simp only at hc hd
  subst hc hd
  refine wpAny_binaryOp_repeat_ref (T := "tuple") (U := "int") (by decide) ⟨_, ho, rfl⟩ (fun s' => typeIs_int s' 1 t) noFill_tuple_mul PySem.F.fills_int_mul PySem.F.slot_int_rmul repeat_tuple PySem.F.slot_int_index.lookup
    (call_meets PySem.F.slot_int_rmul (typeIs_int s 1 t) PySem.F.entry_int_rmul (PySem.F.args_int_rmul_2 _ _) (int_rmul_tuple 1 t l its.toArray n dd sl)
      ⟨ho, rfl, ⟨_, ho, rfl⟩, call_meets PySem.F.slot_tuple_mul ⟨_, ho, rfl⟩ PySem.F.entry_tuple_mul (PySem.F.args_tuple_mul_2 _ _) (tuple_mul1 l its.toArray n dd sl t) ⟨ho, .ref l, H, I, rfl, q⟩⟩)
def repP : PV → PV → Option PV
  | .tup l, .int k => if k = 1 then some (.tup l) else if l ≠ [] ∧ 2 ≤ k ∧ k ≤ 1000 ∧ l.length ≤ 1000 then some (.tup (List.replicate k.toNat l).flatten) else none
  | p, q => mulP p q
def rMulA (K : PySem.W.Frag) : R2 := fun x y H Q => rI (fun i j => CMul i j ∨ CMulW i j) (fun i j => .int (i * j)) x y H Q ∨ rRep1 K x y H Q ∨ rRepT K x y H Q
theorem op_mulT : OpR X (binaryOp .Mult) (rMulA X.K) := op_mulA.or (op_rep1.or op_repT)
theorem Owns.rep {l : List PV} {vs : List V} (o : Owns K S H l vs []) : ∀ n : Nat, Owns K S H (List.replicate n l).flatten (List.replicate n vs).flatten []
  | 0 => ⟨rfl, rfl⟩
  | n + 1 => by
    rw [List.replicate_succ, List.replicate_succ, List.flatten_cons, List.flatten_cons]
    exact o.append (Owns.rep o n)
theorem prim_mulT : Prim2 K (rMulA K) repP := by
  intro S H p q v w z Q dm o1 o2 e k
  unfold repP at e
  split at e
  · next l n =>
    have o1' := o1
    obtain ⟨a, vs, rfl, _, fr, os⟩ := o1
    obtain ⟨rfl, _⟩ := o2
    by_cases h1 : n = 1
    · rw [if_pos h1] at e
      cases e
      subst h1
      exact .inr (.inl ⟨a, vs, rfl, rfl, fr.sq, k _ S H [] o1' (New.refl dm)⟩)
    · rw [if_neg h1] at e
      by_cases h2 : l ≠ [] ∧ 2 ≤ n ∧ n ≤ 1000 ∧ l.length ≤ 1000
      · rw [if_pos h2] at e
        cases e
        have hv : vs ≠ [] := fun z => h2.1 (List.length_eq_zero_iff.mp (by rw [os.length, z]; rfl))
        exact .inr (.inr ⟨a, n, vs, rfl, rfl, fr.sq, hv, h2.2.1, h2.2.2.1, by rw [← os.length]; exact h2.2.2.2, fun p hp => new_tup dm hp (os.rep n.toNat) k⟩)
      · rw [if_neg h2] at e; cases e
  · exact .inl (prim_mul S H p q v w z Q dm o1 o2 e k)
/-- -a -/
def dNeg (f : Env → R PV) : Env → R PV := fun env => (f env).bind fun p e => match p with
  | .int i => .ok (.int (-i)) e
  | _ => .stk
theorem ev_neg (ha : Ev X W io m a f) : Ev X W io m (.UnaryOp .USub a pos) (dNeg f) := by
  refine ⟨(pe_un un_neg ha.pe).imp fun σ H Q q => ?_, Still.bind (m2 := m) ha.st (fun p => ?_) id id⟩
  · obtain ⟨S, env, fp, C, G, q⟩ := q
    refine Post.bind (ft := []) C Owns.nil G id q fun p v S1 H1 env1 fv fp1 o1' _ C1 G1 e1 _ _ h1 => ?_
    cases p with
    | int i =>
      obtain ⟨rfl, rfl⟩ := o1'
      exact ⟨i, rfl, Post.fin (ft := []) C1 G1 h1 ⟨rfl, rfl⟩ (New.refl G1.dm)⟩
    | _ => exact h1.elim
  · cases p with
    | int i => exact Still.pure
    | _ => intro _ _ _ _ e; cases e
theorem ev_globI {k : Int} {t : Tok} (hg : Gl X x) (hm : X.mg x = some (.int k t)) (hd : (x == ("__debug__" : Str)) = false := by decide) : Ev X W io false (.Name x pos) (dC (.int k)) :=
  ev_const (pe_glob (v := .int k) hg hm ⟨t, rfl⟩ hd) fun _ _ => ⟨rfl, rfl⟩
theorem ev_globS {k : Str} {t : Tok} (hg : Gl X x) (hm : X.mg x = some (.str k t)) (hd : (x == ("__debug__" : Str)) = false := by decide) : Ev X W io false (.Name x pos) (dC (.str k)) :=
  ev_const (pe_glob (v := .str k) hg hm ⟨t, rfl⟩ hd) fun _ _ => ⟨rfl, rfl⟩
/-! ### enumerate -/
def enumL (l : List PV) : List PV := l.mapIdx fun i p => .tup [.int (i : Nat), p]
theorem itOk_enum {a : Addr} {vs : List V} {l : List PV} (fr : FrL K S H a vs) (o : Owns K S H l vs []) : ItOk K (Ite K a) S H (enumL l) where
  go := fun i p S1 H1 e su k dm => by
    have f1 := fr.stay k su
    have o1 : Owns K S1 H1 l vs [] := Owns.stay k su _ _ _ (fun _ _ z => nomatch z) o
    unfold enumL at e
    rw [List.getElem?_mapIdx] at e
    cases q : l[i]? with
    | none => rw [q] at e; cases e
    | some p0 =>
      rw [q] at e
      cases e
      obtain ⟨v, h1, h2⟩ := o1.get q
      refine ⟨⟨vs, v, f1.sq, h1⟩, fun x H2 y => ?_⟩
      obtain ⟨T, x', rfl, hT, rfl, hx⟩ := y
      have hx := hx vs f1.sq
      rw [h1] at hx
      cases hx
      have n := New.frz (o := .tup [.int (i : Nat), v]) dm hT
      refine ⟨_, n, T, [.int (i : Nat), v], rfl, rfl, ⟨.inr rfl, upd_same⟩, Owns.cons ⟨rfl, rfl⟩ (Owns.one (Own.stay (fun b o _ e => n.same b o e) n.su _ _ _ (fun _ _ z => nomatch z) h2))⟩
  stop := fun i S1 H1 hi su k => ⟨vs, (fr.stay k su).sq, by rw [← o.length]; simpa [enumL] using hi⟩
def enumOf : List PV → Option (List PV)
  | [.lst l] => some (enumL l)
  | [.scr l] => some (enumL l)
  | _ => none
def iEn (fs : Env → R (List PV)) : Env → R (List PV) := fun env => (fs env).bind fun ps e => o1 (enumOf ps) e
theorem ei_enum {tpos : Pos} {elts : List Expr} {kk : Nat} (hg : Gl X "enumerate") (hm : X.mg "enumerate" = none) (ha : Ef X W io m [a] fs) (hs : starEach [a] X.env = [(false, eval a X.env)] := by rfl) : Ei X W io (.Tuple elts kk tpos) (.Call (.Name "enumerate" p) [a] [] pos) (iEn fs) := by
  refine ⟨(pi_enum hg hm ha.pe hs).imp fun σ H Rr q => ?_⟩
  obtain ⟨S, env, fp, C, G, q⟩ := q
  refine PostI.bind C G q fun ps vs S1 H1 env1 fv fp1 o C1 G1 e1 h1 => ?_
  have z := ha.nf _ _ _ e1 _ _ _ _ _ o
  subst z
  have hl := ha.ln _ _ _ e1
  match ps, hl, h1, o with
  | [p], _, h1, o =>
    obtain ⟨v, r, f1, f2, rfl, e3, o1', o2'⟩ := o
    obtain ⟨rfl, rfl⟩ := app_nil e3
    obtain ⟨rfl, _⟩ := o2'
    cases p with
    | lst l =>
      obtain ⟨a, vs, rfl, _, fr, os⟩ := o1'
      exact ⟨a, vs, rfl, SqL.of fr.2, h1 _ S1 H1 fp1 C1 G1 Step.refl (itOk_enum (.inl ⟨fr.1, .inl fr.2⟩) os)⟩
    | scr l =>
      obtain ⟨a, vs, rfl, _, fr, os⟩ := o1'
      exact ⟨a, vs, rfl, fr.sq, h1 _ S1 H1 fp1 C1 G1 Step.refl (itOk_enum fr os)⟩
    | _ => exact h1.elim
end
end L3

namespace L3
open PySem PySem.Spec PyProof.Rows L2
section
variable {K : PySem.W.Frag} {mg : Str → Option Value}
/-- THE DEF, with what its calls want -/
theorem fn_okT {P : Program} {w : World} {base : Heap} {x qual : Str} {st : Stmt} {f : Addr} {fd : FuncData} {N ps : List Str} {k n : Nat} {io : List Nat} {g : Env → RS} (F : L2.Fun K x qual st f fd) (Sc : FnScope N ps (defScope st)) (hn : ps.length = n) (hio : ∀ j, j ∈ io → j < n)
    (hb : ∀ (cdv : Value) (A : Around) (outer : List PySem.Env) (s : Shared) (H : Hp) (E : XK) (vv : Nat → V), Room k (A.deeper (envOfC qual (defScope st) s.heap.objs.size f cdv)) →
      Takes (cxOf (L2.CX P w) P w K mg base N qual (defScope st) f cdv A outer s H E) (WF E) →
      PassesOwn (model P w) (A.deeper (envOfC qual (defScope st) s.heap.objs.size f cdv)) (cxOf (L2.CX P w) P w K mg base N qual (defScope st) f cdv A outer s H E).env (cxOf (L2.CX P w) P w K mg base N qual (defScope st) f cdv A outer s H E).xe →
      Ess (cxOf (L2.CX P w) P w K mg base N qual (defScope st) f cdv A outer s H E) (WF E) (io, vv, []) (defBody st) g) :
    FnOk P w K mg base (L2.CX P w) (k + 1) f fd ps (spF K mg n io (runF N.length io g)) :=
  fn_ok F Sc hn hio fun cdv A outer s H E vv hr => hb cdv A outer s H E vv hr (takes_of rfl rfl rfl rfl) (passes_of rfl)
/-- a def that is not looked into -/
theorem fn_stk {P : Program} {w : World} {base : Heap} {f : Addr} {fd : FuncData} {ps : List Str} {k n : Nat} {io : List Nat} {F : List PV → RF} (hn : ps.length = n) (h : ∀ qs, F qs = .stk := by intro _; rfl) : FnOk P w K mg base (L2.CX P w) k f fd ps (spF K mg n io F) :=
  ⟨fun vs H Q E q => q.1.trans hn.symm, fun A outer s H args us vs Q E hr he hb hv hs => by
    obtain ⟨_, S, qs, fp, _, _, q⟩ := hs
    rw [h] at q
    exact q.elim⟩
/-- another function, alike where it counts -/
theorem fn_of_eq {P : Program} {w : World} {base : Heap} {f : Addr} {fd : FuncData} {ps : List Str} {k n : Nat} {io : List Nat} {F G : List PV → RF} (h : FnOk P w K mg base (L2.CX P w) k f fd ps (spF K mg n io F)) (e : ∀ qs, G qs ≠ .stk → F qs = G qs) : FnOk P w K mg base (L2.CX P w) k f fd ps (spF K mg n io G) :=
  h.imp fun vs H Q E ⟨hl, S, qs, fp, o, g, q⟩ => ⟨hl, S, qs, fp, o, g, by
    rw [e qs fun z => by rw [z] at q; exact q]
    exact q⟩
end
section
variable {X : Cx} {W : WX} {io : Io} {m m1 m2 : Bool} {a : Expr} {f : Env → R PV} {pos : Pos} {i : Nat} {x : Str}
section
variable {elt tg iter : Expr} {ifs : List Expr} {scope : Scope} {own : List (Str × Nat)} {sl : List Nat} {f : Env → R (List PV)} {t : Tg} {cond : Env → R Bool} {ge : Env → R PV}
theorem es_setLcF {i : Nat} {y : Str} {py spos : Pos} (hc : X.calm = true) (hN : X.N.Nodup) (hy : X.N[i]? = some y) (hyl : X.env.scope.names.lookup y = some .local) (hsw : swapsWith (.ListComp elt [⟨tg, iter, ifs, 0⟩] scope pos) (some (.Name y py)) spos.line X.env = pure true)
    (hi : Ei X W io tg iter f) (ok : BlkOk X.N X.env.scope scope own) (hg : ∀ (s : Shared) (H : Hp) (C : Addr) (cl : List (Str × Addr)) (fp : List Addr), Eg (X.blk s H scope (compEnvC scope cl C X.env) fp) io sl tg t)
    (ht : ∀ (s : Shared) (H : Hp) (C : Addr) (cl : List (Str × Addr)) (fp : List Addr), Ets (X.blk s H scope (compEnvC scope cl C X.env) fp) W0 io m1 ifs cond) (he : ∀ (s : Shared) (H : Hp) (C : Addr) (cl : List (Str × Addr)) (fp : List Addr), Ev (X.blk s H scope (compEnvC scope cl C X.env) fp) W0 io m2 elt ge)
    (hio : ∀ v, v ∈ own.map (·.2) → io.1.contains v = false) (hsl : ∀ j, j ∈ sl → j ∈ own.map (·.2)) (hioi : io.1.contains i = false) (hs : ∀ x, foldedSetIterable iter X.env x = pure x := by intro _; rfl) :
    Es X W io (.Assign [.Name y py] (.ListComp elt [⟨tg, iter, ifs, 0⟩] scope pos) spos) (sSet i (dFrz (dLc (own.map (·.2)) f t cond ge))) := by
  refine ⟨(ps_setLc (g := semG X.K io sl t) (tt := sem RB X W0 io m1 cond) (te := sem (RV X.K) X W0 io m2 ge) hc hN hy hyl hsw hi.pi ok (fun s H C cl fp => (hg s H C cl fp).pg) (fun s H C cl fp => (ht s H C cl fp).pt) (fun s H C cl fp => (he s H C cl fp).pe) hs).imp fun D σ H q => ?_⟩
  obtain ⟨S, env, fp, C, G, q⟩ := q
  refine sem_lc hio hsl ?_
  refine sem_frz (m := true) ?_
  exact PostS.bind C G q fun p v S1 H1 env1 fv fp1 o1 C1 G1 e1 h1 => set_nx C1 o1 G1 hioi h1
end
/-- x.extend(e) -/
def dExt (i : Nat) (f : Env → R PV) : Env → R PV := fun env => match mlsAt env i with
  | none => .stk
  | some _ => (dFrz f env).bind fun p e => match p with
    | .lst z => match mlsAt e i with
      | some l => if l.length + z.length < 16000000 then .ok .non (e.set i (some (.mls (l ++ z)))) else .stk
      | none => .stk
    | _ => .stk
theorem Owns.appG {K : PySem.W.Frag} {S : Addr → Prop} {H : Hp} : ∀ {ps qs : List PV} {vs ws : List V} {g g2 : List Addr}, Owns K S H ps vs g → Owns K S H qs ws g2 → Owns K S H (ps ++ qs) (vs ++ ws) (g ++ g2)
  | [], _, _, _, _, _, h, h' => by rw [h.1, h.2]; exact h'
  | p :: ps, _, _, _, _, _, h, h' => by
    obtain ⟨v, r, f1, f2, rfl, rfl, o, o2⟩ := h
    exact ⟨v, r ++ _, f1, f2 ++ _, rfl, List.append_assoc _ _ _, o, Owns.appG o2 h'⟩
theorem ev_ext {p1 p2 : Pos} (hN : X.N[i]? = some x) (hv : Vis X.env.scope x) (ha : Ev X W io m a f) (hs : starEach [a] X.env = (false, eval a X.env) :: starEach [] X.env := by rfl) (hfew : ((backTo pos (starEach [a] X.env)).all (fun x => !x.1) && (backToKw pos (keywordEach [] X.env)).all (fun x => x.1.isSome) && decide ([a].length + ([] : List Keyword).length + (if ([] : List Keyword).isEmpty then 0 else 1) < 30)) = true := by rfl) (hline : (p2.endLine == pos.line) = true := by rfl) (hplain : (backTo pos (starEach [] X.env)).any (·.1) = false := by rfl) (hd : (x == ("__debug__" : Str)) = false := by decide) (hcd : (x == ("__classdict__" : Str)) = false := by decide) :
    Ev X W io true (.Call (.Attribute (.Name x p1) "extend" p2) [a] [] pos) (dExt i f) := by
  refine ⟨(pe_bm PySem.F.plainAttrs_list PySem.F.slot_list_extend PySem.F.type_list_extend mt_extend (pe_var hN hv hd hcd) (pa_cons ha.frz.pe pa_nil hs) rfl hfew hline hs hplain).imp fun σ H Q q => ?_, fun h => nomatch h⟩
  obtain ⟨S, env, fp, C, G, q⟩ := q
  unfold dExt at q
  cases ep : mlsAt env i with
  | none => rw [ep] at q; exact q.elim
  | some l0 =>
    rw [ep] at q
    obtain ⟨b, ws, g0, h1, h2, _⟩ := cl_mut (fv := []) C G (mlsAt_some ep)
    refine ⟨.ref b, h1, .inl ⟨rfl, _, SqL.of h2⟩, ?_⟩
    refine Post.bind (m := true) (m1 := m) (ft := []) C Owns.nil G (fun h => Bool.noConfusion h) q fun p y S1 H1 env1 fv fp1 ov _ C1 G1 e1 _ _ h4 => ?_
    have z := dFrz_nil e1 ov
    subst z
    have G1 : Good S1 H1 fp1 := G1
    cases p with
    | lst z =>
      obtain ⟨c, zs, rfl, _, ⟨cS, cH⟩, oz⟩ := ov
      have h4 : Post (RV X.K) X W io true S1 H1 σ fp1 fp1 (match mlsAt env1 i with
        | some l => if l.length + z.length < 16000000 then .ok .non (env1.set i (some (.mls (l ++ z)))) else .stk
        | none => .stk) Q := h4
      cases ep1 : mlsAt env1 i with
      | none => rw [ep1] at h4; exact h4.elim
      | some l =>
        rw [ep1] at h4
        have h4 : Post (RV X.K) X W io true S1 H1 σ fp1 fp1 (if l.length + z.length < 16000000 then .ok .non (env1.set i (some (.mls (l ++ z)))) else .stk) Q := h4
        by_cases hl : l.length + z.length < 16000000
        · rw [if_pos hl] at h4
          obtain ⟨b', ws', g, h5, h6, h7, ⟨k1, k2, k3, k4, k5, k6⟩, h8⟩ := cl_mut (fv := []) C1 G1 (mlsAt_some ep1)
          rw [h1] at h5
          cases h5
          refine ⟨b, c, ws', zs, rfl, rfl, h6, cH, by rw [← h7.length, ← oz.length]; exact Nat.le_of_lt (len_line hl), ?_⟩
          have o1 : Owns X.K S1 (upd H1 b (.lst (ws' ++ zs))) (l ++ z) (ws' ++ zs) (g ++ []) := Owns.appG (upd_stay h7 k1 k2) (upd_stay oz k1 (fun h => nomatch h))
          rw [List.append_nil] at o1
          obtain ⟨fp', c2, g2, s2, _⟩ := h8 _ _ _ o1 (fun x h => .inl h) k4
          exact h4 .non S1 _ [] fp' ⟨rfl, rfl⟩ c2 g2 s2 fun h => nomatch h
        · rw [if_neg hl] at h4; exact h4.elim
    | _ => exact (show False from h4).elim
theorem hioOk {io : Io} {l : List Nat} (h : (l.all fun v => !io.1.contains v) = true) : ∀ v, v ∈ l → io.1.contains v = false := fun v hv => by
  have := List.all_eq_true.mp h v hv
  simpa using this
/-! ### f() -/
def call0D (F : List PV → RF) : Env → R PV := fun env => match F [] with
  | .ok p [] => .ok p env
  | .ex x [] => .ex x env
  | _ => .stk
theorem pe_call0S {CX : CXT} {k : Nat} {f : Addr} {fd : FuncData} {ps : List Str} {sp : Sp} {E : L2.St → XK} {x : Str} {p pos : Pos} (F : FnOk X.prog X.w X.K X.mg X.base CX k f fd ps sp) (hr : Room k X.A) (hg : Gl X x) (hm : X.mg x = some (.ref f)) (hk : PySem.W.keepIn X.K (.ref f) = true) (hb : Binds X.K fd ps []) (hx : ∀ σ, PassesAt CX X σ (E σ))
    (hdb : (x == ("__debug__" : Str)) = false := by decide) : PE X (.Call (.Name x p) [] [] pos) (fun σ H Q => sp [] H Q (E σ)) := by
  refine ⟨fun pins s σ H Q I h => ?_⟩
  refine wpAny_Call_Name_kw (ld_glob I hg hm ?_ hdb)
  exact PySem.W.callWith_K0 I.kIn hk (run_fnS (us := []) F hr hb (hx σ) I .nil h)
theorem ev_call0 {k : Nat} {f : Addr} {fd : FuncData} {ps : List Str} {p : Pos} {F : List PV → RF} (G : FnOk X.prog X.w X.K X.mg X.base (L2.CX X.prog X.w) k f fd ps (spF X.K X.mg 0 [] F)) (hr : Room k X.A) (hg : Gl X x) (hm : X.mg x = some (.ref f)) (hk : PySem.W.keepIn X.K (.ref f) = true) (hb : Binds X.K fd ps []) (tk : Takes X W)
    (hdb : (x == ("__debug__" : Str)) = false := by decide) : Ev X W io false (.Call (.Name x p) [] [] pos) (call0D F) := by
  refine ⟨(pe_call0S G hr hg hm hk hb (fun σ => passAt tk σ) hdb).imp fun σ H Q q => ?_, fun _ env q env' e => ?_⟩
  · have h2 : sem (RV X.K) X W io (false || anyIo []) (callD (slotIo []) F aNil) σ H Q := by
      obtain ⟨S, env, fp, C, G, q⟩ := q
      refine ⟨S, env, fp, C, G, ?_⟩
      have e : callD (slotIo []) F aNil env = call0D F env := by
        show (match F [] with
          | .ok p outs => match putB [] outs env with
            | some e3 => R.ok p e3
            | none => .stk
          | .ex x outs => match putB [] outs env with
            | some e3 => .ex x e3
            | none => .stk
          | .stk => .stk) = _
        unfold call0D
        cases F [] with
        | stk => rfl
        | ok p outs => cases outs <;> rfl
        | ex p outs => cases outs <;> rfl
      rw [e]
      exact q
    have := sem_call (pat := []) (n := 0) (ios := []) (fun env its e h => by cases h; rfl) rfl rfl h2
    obtain ⟨S, env, fp, C, G, q⟩ := this
    have q := q [] S H [] fp ⟨rfl, rfl⟩ C G Step.refl (fun _ => ⟨fun _ _ e => e, rfl⟩)
    exact q
  · unfold call0D at e
    split at e
    · cases e; rfl
    · cases e
    · cases e
end
end L3

namespace L3
open PySem PySem.Spec PyProof.Rows L2
structure DefAt (K : PySem.W.Frag) (mg : Str → Option Value) (name qual : Str) (st : Stmt) (ps : List Str) (f : Addr) (fd : FuncData) : Prop where
  gm : mg name = some (.ref f)
  F : L2.Fun K name qual st f fd
  bd : L2.Binds K fd ps []
  kp : PySem.W.keepIn K (.ref f) = true
  bt : ∀ (s : Shared) (us : List Value), us.length = ps.length → BindsTo s fd ⟨us, []⟩ (ps.zip us)
structure ErrAt (K : PySem.W.Frag) (mg : Str → Option Value) (name qual : Str) (st : Stmt) (ps : List Str) (C f : Addr) (fd : FuncData) : Prop where
  gm : mg name = some (.ref C)
  ox : OexC K C
  ini : PySem.W.findIn K (.ref C) "__init__" = some (some (.ref f))
  tini : PySem.W.typeIn K (.ref f) = some (.type "function")
  F : L2.Fun K "__init__" qual st f fd
  bd : L2.Binds K fd ps []
  no : ∀ f, f ∈ ps.tail → PySem.W.findIn K (.ref C) f = some none
abbrev BindOk (name qual : Str) (st : Stmt) (ps : List Str) : Prop := ∀ (kV doc pm : Value) (an : Option Addr) (cdv ct : Value) (us : List Value), us.length = ps.length → bindArgs (PySem.W.fnOf name qual (defArgs st) (defBody st) (defScope st) .none kV doc pm an cdv ct) ⟨us, []⟩ = pure (ps.zip us)
section
variable {K : PySem.W.Frag} {h : Heap} {mg : Str → Option Value} {x qual : Str} {st : Stmt} {f C : Addr} {oc : Value} {od an : Option Addr} {osl : Array (Option Value)} {kV doc pm cdv ct : Value} {ps : List Str}
theorem def_mk (X : K.In h) (G : h.Ns mainGlobals mg) (b : BindOk x x st ps) (a : PySem.W.nsIn K mainGlobals x = some (some (.ref f))) (l : K.lookup f = some ⟨oc, od, .func (PySem.W.fnOf x x (defArgs st) (defBody st) (defScope st) .none kV doc pm an cdv ct), osl⟩)
    (c : PySem.W.codeIn K cdv x = true) (k : PySem.W.keepIn K (.ref f) = true) : ∃ f fd, DefAt K mg x x st ps f fd := by
  have F := fun_mk (st := st) l c k
  exact ⟨f, _, PySem.W.mg_of X G a, F, F.binds b, k, fun s us hl => .of_eq (b _ _ _ _ _ _ us hl)⟩
theorem err_mk {nm q : Str} {N : Addr} {bs bm : List Value} {sn : List Str} {sub : List Value} {ab : Bool} {col : Option Bool} {dd : Option Addr} {m0 m1 m2 m3 m5 : Option Value} (X : K.In h) (G : h.Ns mainGlobals mg) (b : BindOk "__init__" qual st ps)
    (a : PySem.W.nsIn K mainGlobals x = some (some (.ref C))) (xL : K.lookup C = some (excClassObj nm q C N bs bm true sn sub ab col dd m0 m1 m2 m3 m5 "ValueError.__new__")) (rb : PySem.HandSPX.refsVE bm = true)
    (sa : PySem.W.findIn K (.ref C) "__setattr__" = some (some (.builtin "object.__setattr__"))) (eC : PySem.W.subIn K (.ref C) (.type "BaseException") = some true) (tC : PySem.W.typeIn K (.ref C) = some (.type "type")) (kC : PySem.W.keepIn K (.ref C) = true)
    (a1 : PySem.W.findIn K (.ref C) "__init__" = some (some (.ref f))) (t1 : PySem.W.typeIn K (.ref f) = some (.type "function")) (l : K.lookup f = some ⟨oc, od, .func (PySem.W.fnOf "__init__" qual (defArgs st) (defBody st) (defScope st) .none kV doc pm an cdv ct), osl⟩)
    (c : PySem.W.codeIn K cdv qual = true) (k : PySem.W.keepIn K (.ref f) = true) (no : ∀ f, f ∈ ps.tail → PySem.W.findIn K (.ref C) f = some none) : ∃ C f fd, ErrAt K mg x qual st ps C f fd := by
  have F := fun_mk (st := st) l c k
  exact ⟨C, f, _, PySem.W.mg_of X G a, ⟨⟨nm, q, N, bs, bm, sn, sub, ab, col, dd, m0, m1, m2, m3, m5, xL, rb⟩, sa, eC, tC, kC⟩, a1, t1, F, F.binds b, no⟩
theorem exm_mk {D : Addr} {b : Bool} (h1 : PySem.W.subIn K (.ref D) (.type "BaseException") = some true) (h2 : PySem.W.isClsIn K D = true) (h3 : PySem.W.typeIn K (.ref D) = some (.type "type")) (h4 : PySem.W.subIn K (.ref C) (.ref D) = some b) : PySem.W.exmOne K (.ref C) (.ref D) = some b := by
  have e1 : (PySem.W.subIn K (.ref D) (.type "BaseException") == some true) = true := by rw [h1] <;> rfl
  have e2 : ((PySem.W.clsIn K D).isSome && PySem.W.typeIn K (.ref D) == some (.type "type")) = true := by
    have h2' : (PySem.W.clsIn K D).isSome = true := h2
    rw [h2', h3] <;> rfl
  show (if (PySem.W.subIn K (.ref D) (.type "BaseException") == some true) = true then (if ((PySem.W.clsIn K D).isSome && PySem.W.typeIn K (.ref D) == some (.type "type")) = true then PySem.W.subIn K (.ref C) (.ref D) else none) else none) = some b
  rw [if_pos e1, if_pos e2]
  exact h4
theorem xf_mk (ga : PySem.W.findIn K (.ref C) "__getattribute__" = some (some (.builtin "BaseException.__getattribute__"))) (gg : PySem.W.findIn K (.ref C) "__getattr__" = some none) (eC : PySem.W.subIn K (.ref C) (.type "BaseException") = some true) (hC : PySem.W.hasDictIn K C = true) : XfC K C := ⟨ga, gg, eC, hC⟩
theorem cls_mk (X : K.In h) (G : h.Ns mainGlobals mg) (a : PySem.W.nsIn K mainGlobals x = some (some (.ref C))) : ∃ C, mg x = some (.ref C) := ⟨C, PySem.W.mg_of X G a⟩
theorem int_mk {n : Int} {t : _} (X : K.In h) (G : h.Ns mainGlobals mg) (a : PySem.W.nsIn K mainGlobals x = some (some (.int n t))) : ∃ t, mg x = some (.int n t) := ⟨t, PySem.W.mg_of X G a⟩
theorem str_mk {n : Str} {t : _} (X : K.In h) (G : h.Ns mainGlobals mg) (a : PySem.W.nsIn K mainGlobals x = some (some (.str n t))) : ∃ t, mg x = some (.str n t) := ⟨t, PySem.W.mg_of X G a⟩
end
/-! ### facts by names -/
theorem forS_nil {α : Type} {p : α → Prop} : ∀ f, f ∈ ([] : List α) → p f := fun _ h => nomatch h
theorem forS_cons {α : Type} {p : α → Prop} {a : α} {l : List α} (h : p a) (r : ∀ f, f ∈ l → p f) : ∀ f, f ∈ a :: l → p f := fun f hf => (List.mem_cons.mp hf).elim (fun e => by rw [e]; exact h) (r f)
section
variable {K : PySem.W.Frag} {h : Heap} {mg : Str → Option Value} {cl cs fs : List Str} {C D D' : Addr} {x : Str}
def ExmP (K : PySem.W.Frag) (mg : Str → Option Value) (D : Addr) (cs cl : List Str) : Prop := ∀ n, n ∈ cl → ∀ C, mg n = some (.ref C) → PySem.W.exmOne K (.ref C) (.ref D) = some (cs.contains n)
theorem exmS (e : ExmP K mg D cs cl) : ∀ n C, cl.contains n = true → mg n = some (.ref C) → PySem.W.exmOne K (.ref C) (.ref D) = some (cs.contains n) := fun n C hn hC => e n (List.contains_iff_mem.mp hn) C hC
theorem exmS_at (X : K.In h) (G : h.Ns mainGlobals mg) (hD : mg x = some (.ref D)) (a : PySem.W.nsIn K mainGlobals x = some (some (.ref D'))) (e : ExmP K mg D' cs cl) : ExmP K mg D cs cl := by
  rw [PySem.W.mg_of X G a] at hD
  cases hD
  exact e
theorem exmS_nil : ExmP K mg D cs [] := fun _ h => nomatch h
theorem exmS_cons (X : K.In h) (G : h.Ns mainGlobals mg) (a : PySem.W.nsIn K mainGlobals x = some (some (.ref C))) (h1 : PySem.W.subIn K (.ref D) (.type "BaseException") = some true) (h2 : PySem.W.isClsIn K D = true) (h3 : PySem.W.typeIn K (.ref D) = some (.type "type")) (h4 : PySem.W.subIn K (.ref C) (.ref D) = some (cs.contains x))
    (r : ExmP K mg D cs cl) : ExmP K mg D cs (x :: cl) := fun n hn B hB => by
  rcases List.mem_cons.mp hn with e | e
  · subst e
    rw [PySem.W.mg_of X G a] at hB
    cases hB
    exact exm_mk h1 h2 h3 h4
  · exact r n e B hB
def XfP (K : PySem.W.Frag) (mg : Str → Option Value) (fs cl : List Str) : Prop := ∀ n, n ∈ cl → ∀ C, mg n = some (.ref C) → XfC K C ∧ ∀ f, f ∈ fs → PySem.W.findIn K (.ref C) f = some none
theorem xfS (e : XfP K mg fs cl) : ∀ n, cl.contains n = true → ∀ C, mg n = some (.ref C) → XfC K C ∧ ∀ f, f ∈ fs → PySem.W.findIn K (.ref C) f = some none := fun n hn C hC => e n (List.contains_iff_mem.mp hn) C hC
theorem xfS_nil : XfP K mg fs [] := fun _ h => nomatch h
theorem xfS_cons (X : K.In h) (G : h.Ns mainGlobals mg) (a : PySem.W.nsIn K mainGlobals x = some (some (.ref C))) (ga : PySem.W.findIn K (.ref C) "__getattribute__" = some (some (.builtin "BaseException.__getattribute__"))) (gg : PySem.W.findIn K (.ref C) "__getattr__" = some none) (eC : PySem.W.subIn K (.ref C) (.type "BaseException") = some true) (hC : PySem.W.hasDictIn K C = true)
    (no : ∀ f, f ∈ fs → PySem.W.findIn K (.ref C) f = some none) (r : XfP K mg fs cl) : XfP K mg fs (x :: cl) := fun n hn B hB => by
  rcases List.mem_cons.mp hn with e | e
  · subst e
    rw [PySem.W.mg_of X G a] at hB
    cases hB
    exact ⟨xf_mk ga gg eC hC, no⟩
  · exact r n e B hB
end
/-- law's promise -/
def spLaw (K : PySem.W.Frag) : Sp := fun vs H Q _ => ∃ (a : Addr) (ns : List Int), vs = [.ref a] ∧ SqL K H a (ns.map V.int) ∧ ns.length ≤ 63 ∧ ∀ H', Q (.bl true) H'
theorem owns_ints {K : PySem.W.Frag} {S : Addr → Prop} {H : Hp} : ∀ ns : List Int, Owns K S H (ns.map PV.int) (ns.map V.int) []
  | [] => ⟨rfl, rfl⟩
  | n :: ns => ⟨.int n, ns.map V.int, [], [], rfl, rfl, ⟨rfl, rfl⟩, owns_ints ns⟩
theorem law_sp {P : Program} {w : World} {K : PySem.W.Frag} {mg : Str → Option Value} {base : Heap} {f : Addr} {fd : FuncData} {ps : List Str} {k : Nat} {F : List PV → RF} (h : FnOk P w K mg base (L2.CX P w) k f fd ps (spF K mg 1 [] F)) (e : ∀ ns : List Int, ns.length ≤ 63 → F [.scr (ns.map PV.int)] = .ok (.bl true) []) :
    FnOk P w K mg base (L2.CX P w) k f fd ps (spLaw K) := by
  refine h.imp fun vs H Q E q => ?_
  obtain ⟨a, ns, rfl, hs, hl, hQ⟩ := q
  refine ⟨rfl, fun b => b = a ∧ Rd H a (.lst (ns.map V.int)), [.scr (ns.map PV.int)], [], ⟨.ref a, [], [], [], rfl, rfl, ⟨a, ns.map V.int, rfl, rfl, ?_, owns_ints ns⟩, rfl, rfl⟩, ⟨List.nodup_nil, (fun _ h => nomatch h), fun b hb => ?_, (fun _ h => nomatch h)⟩, ?_⟩
  · rcases hs with hs | hs
    · exact .inl ⟨⟨rfl, hs⟩, hs⟩
    · exact .inr hs
  · obtain ⟨rfl, hb⟩ := hb
    rcases hb with hb | ⟨o, hb⟩ <;> rw [hb] <;> simp
  · rw [e ns hl]
    intro v S' H' fv fo ov _ _ _
    obtain ⟨rfl, _⟩ := ov
    exact hQ H'
theorem walkL {l : PySem.W.OpenLaw} {k : Nat} {q : Program} {loose : List Str} {XP : (Str → Option Value) → Heap → Prop} {YP : World → Heap → Prop} {d : DefRec} {K : Params → PySem.W.Frag} (hk : Room k callerA) (hn : l.most = some 63) (hdf : d.params.defaults = [])
    (hY : ∀ (w : World) (h : Heap), YP w h → (K w.params).In h)
    (F : ∀ (w : World) (mg : Str → Option Value) (fa : Addr) (h : Heap), (K w.params).In h → h.Ns mainGlobals mg → mg d.name = some (.ref fa) →
      ∃ fd : FuncData, (∀ (s : Shared) (u : Value), BindsTo s fd ⟨[u], []⟩ [("script", u)]) ∧ ∀ base : Heap, (K w.params).In base → base.Ns mainGlobals mg → FnOk l.prog w (K w.params) mg base (L2.CX l.prog w) k fa fd ["script"] (spLaw (K w.params))) :
    PySem.W.WalkO q loose XP YP l.row.toRowW d [] (fun f vs => PySem.call f vs) :=
  L2.walk_of (n := 63) (k := k) (x := "script") (CX := fun w => L2.CX l.prog w) (sp := fun w => spLaw (K w.params)) hn (by decide) hdf hk hY F (fun _ _ a ns hl _ hS => ⟨a, ns, rfl, hS, hl, fun _ => rfl⟩) fun w H s e s' z => by
    obtain ⟨_, _, _, _, _, _, _, _, _, _, _, _, z⟩ := z
    exact z.elim
end L3

namespace L3
open PySem PySem.Spec PyProof.Rows L2
section
variable {X : Cx} {W : WX} {io : Io} {m : Bool} {e : Expr} {es : List Expr} {fs : Env → R (List PV)} {f : Env → R PV} {pos : Pos}
/-- a module's name for a built-in function -/
theorem ev_callM {x : Str} {id : String} {p : Pos} {r : List V → Hp → VK → Prop} {F : List PV → Option PV} (hc : CallR X (.builtin id) r) (hF : PrimN X.K r F) (hg : Gl X x) (hm : X.mg x = some (.builtin id)) (ha : Ef X W io m (e :: es) fs)
    (hdb : (x == ("__debug__" : Str)) = false := by decide)
    (he : starEach (e :: es) X.env = (false, eval e X.env) :: starEach es X.env := by rfl) (hpl : (backTo pos (starEach es X.env)).any (·.1) = false := by rfl) : Ev X W io m (.Call (.Name x p) (e :: es) [] pos) (dN F fs) :=
  ⟨(pe_callBfun hc hg hm ha.pe hdb he hpl).imp fun σ H Q q => sem_N hF ha.nf q, Still.N ha.st⟩
def gcdP : List PV → Option PV
  | [.int a, .int b] => some (.int ((Nat.gcd a.natAbs b.natAbs : Nat) : Int))
  | _ => none
theorem prim_gcd {K : PySem.W.Frag} : PrimN K rGcd gcdP := by
  intro S H ps vs z Q dm o e k
  match ps, e with
  | [.int a, .int b], e =>
    cases e
    obtain ⟨v, r', f1, f2, rfl, e2, o1, o2⟩ := o
    obtain ⟨w, r2, f3, f4, rfl, e3, o3, o4⟩ := o2
    obtain ⟨rfl, _⟩ := o1
    obtain ⟨rfl, _⟩ := o3
    obtain ⟨rfl, _⟩ := o4
    exact ⟨a, b, rfl, k _ S H [] ⟨rfl, rfl⟩ (New.refl dm)⟩
/-- i.bit_length() -/
def dBits (f : Env → R PV) : Env → R PV := fun env => (f env).bind fun p e => match p with
  | .int i => .ok (.int (Builtin.Int.intBits i : Nat)) e
  | _ => .stk
theorem ev_bits {apos : Pos} (ha : Ev X W io m e f) (hbase : attributeBase e "bit_length" X.env (eval e X.env) = eval e X.env := by rfl) (hline : (apos.endLine == pos.line) = true := by rfl) : Ev X W io m (.Call (.Attribute e "bit_length" apos) [] [] pos) (dBits f) := by
  refine ⟨(pe_bits ha.pe hbase hline).imp fun σ H Q q => ?_, Still.bind (m2 := m) ha.st (fun p => ?_) id id⟩
  · obtain ⟨S, env, fp, C, G, q⟩ := q
    refine Post.bind (ft := []) C Owns.nil G id q fun p x S1 H1 env1 fv fp1 o1' _ C1 G1 e1 _ _ h1 => ?_
    cases p with
    | int i =>
      obtain ⟨rfl, rfl⟩ := o1'
      exact ⟨i, rfl, Post.fin (ft := []) C1 G1 h1 ⟨rfl, rfl⟩ (New.refl G1.dm)⟩
    | _ => exact h1.elim
  · cases p with
    | int i => exact Still.pure
    | _ => exact fun _ _ _ _ h => nomatch h
end
end L3

namespace L3
open PySem PySem.Spec PyProof.Rows L2
/-! ### enumerate over a tuple -/
section
open PySem
theorem meets_enumerate_new1 {v : Value} {o : Obj} {H : Heap → Prop} (B : Begins v o H) :
    Meets (Builtin.«enumerate.__new__» ⟨[.type "enumerate", v], []⟩) (fun _ R s => H s.heap ∧
      R (.ok (.ret (.ref (s.heap.push o).objs.size))) { s with heap := (s.heap.push o).push { cls := .type "enumerate", data := .fields #[.none, .bool false, .ref s.heap.objs.size, rawInt 0, .none, .none] } }) :=
  .of_wp fun prog w A R s h => by
    obtain ⟨hp, g, d, tk, os⟩ := s; obtain ⟨h1, h⟩ := h
    have hsub := sub_enumerate
    have q1 : ∀ {A' : Around} {E : Value → Shared → Prop} {Q : Value → Shared → Prop}, Q (.ref hp.objs.size) ⟨hp.push o, g, d, tk, os⟩ → wpAny (model prog w) A' (pyIter v) Q E ⟨hp, g, d, tk, os⟩ :=
      fun q => B.iter prog w _ _ ⟨hp, g, d, tk, os⟩ _ h1 q
    wp_walk using q1
    refine wpAny_stack_any fun st => wpAny_pure ?_
    split
    · rename_i c _ _ _ _ _
      cases (c == Value.type "enumerate")
      · wp_walk using q1
        exact ⟨_, rfl, h⟩
      · wp_walk using q1
        exact ⟨_, rfl, h⟩
    · wp_walk using q1
      exact ⟨_, rfl, h⟩
theorem enum_begins1 {prog : Program} {w : World} {A : Around} {E : Value → Shared → Prop} {s : Shared} {v : Value} {o : Obj} {H : Heap → Prop} {Q : Value → Shared → Prop} (B : Begins v o H) (h1 : H s.heap)
    (h : ∀ h', IsEnum h' (s.heap.objs.size + 1) s.heap.objs.size 0 .none → h'.get? s.heap.objs.size = some o → (∀ b o, s.heap.get? b = some o → h'.get? b = some o) → Q (.ref (s.heap.objs.size + 1)) { s with heap := h' }) :
    wpAny (model prog w) A (call (.type "enumerate") [v]) Q E s := by
  refine callType_new F.called_enumerate (by decide) (F.typeCall_enumerate_1 _) (F.newCall_enumerate_1 _) (fun obj => F.args_object_init_2 obj _) F.entry_enumerate_new
    (meets_enumerate_new1 B) ⟨h1, ?_⟩
  have hz : (s.heap.push o).objs.size = s.heap.objs.size + 1 := Heap.size_push ..
  show _ ∧ _
  rw [hz]
  have he : IsEnum ((s.heap.push o).push { cls := .type "enumerate", data := .fields #[.none, .bool false, .ref s.heap.objs.size, rawInt 0, .none, .none] }) (s.heap.objs.size + 1) s.heap.objs.size 0 .none := by
    have := Heap.get?_push_size (s.heap.push o) (o := { cls := .type "enumerate", data := .fields #[.none, .bool false, .ref s.heap.objs.size, rawInt 0, .none, .none] }) rfl
    rw [hz] at this; exact this
  exact ⟨⟨_, he, rfl⟩, h _ he (Heap.get?_push_of_some _ (Heap.get?_push_size _ B.free)) fun b o x => Heap.get?_push_of_some _ (Heap.get?_push_of_some _ x)⟩
end
theorem pyNext_enum_endT {prog : Program} {w : World} {A : Around} {E : Value → Shared → Prop} {s : Shared} {e it l : Addr} {i : Nat} {items : Array Value} {old : Value} {Q : Option Value → Shared → Prop} (hh : A.handled = none)
    (he : IsEnum s.heap e it i old) (hit : s.heap.IsTupleIter it l i) (hl : s.heap.IsTuple l items) (hx : items[i]? = none)
    (hQ : ∀ h', Heap.ExtBut it s.heap h' → Q none { s with heap := h' }) : wpAny (model prog w) A (pyNext (.ref e)) Q E s := by
  have hT : s.TypeIs (.ref e) "enumerate" := ⟨_, he, rfl⟩
  unfold pyNext
  refine wpAny_bind (wpAny_attempt (wpAny_callSpecial?_slot (name := Str.ofString "__next__") hT F.slot_enumerate_next
    (wpAny_call_entry F.slot_enumerate_next hT F.entry_enumerate_next ?_ (F.args_enumerate_next_1 _))))
  show wpAny _ _ (field (.ref e) 2 >>= _) _ _ _
  refine wpAny_bind (wpAny_field he rfl (x := .ref it) rfl ?_)
  refine wpAny_bind (wpAny_nextOf_tuple_end hh hit hl hx fun h' x he' hx' => ?_)
  obtain ⟨o, ho, hc⟩ := hx'
  refine wpAny_bind (wpAny_isInstance (T := "StopIteration") (b := true) ⟨o, ho, hc⟩ isSubtype_stop ?_)
  exact wpAny_pure (hQ _ he')
def IteT (K : PySem.W.Frag) (a : Addr) : It :=
  ⟨fun i H => ∃ (xs : List V) (x : V), SqT K H a xs ∧ xs[i]? = some x, fun i H v H' => ∃ T x, v = .ref T ∧ H T = none ∧ H' = upd H T (.tup [.int (i : Nat), x]) ∧ ∀ xs, SqT K H a xs → xs[i]? = some x, fun i H => ∃ xs : List V, SqT K H a xs ∧ xs.length ≤ i⟩
theorem isTuple_of {h : Heap} {a : Addr} {its : Array Value} (p : IsTup h a its) : h.IsTuple a its := p
theorem turn_enumT {P : Program} {w : World} {K : PySem.W.Frag} {elts : List Expr} {kk : Nat} {tpos : Pos} (a e it : Addr) (hai : a ≠ it) (hae : a ≠ e) :
    Turn P w K (.Tuple elts kk tpos) (IteT K a) [e, it] e (fun i h => (∃ old, IsEnum h e it ((i : Nat) : Int) old) ∧ h.IsTupleIter it a i ∧ e ≠ it) where
  mem := by simp
  obj := fun i h st b hb => by
    obtain ⟨⟨old, he⟩, ⟨o, ho, hc, hd⟩, _⟩ := st
    have e' : b = e ∨ b = it := by simpa using hb
    rcases e' with z | z
    · rw [z]; exact ⟨_, he, fun v q => nomatch q⟩
    · rw [z]; exact ⟨o, ho, fun v q => by rw [hd] at q; cases q⟩
  keep := fun i h h' st k => let ⟨⟨old, he⟩, hi, hne⟩ := st; ⟨⟨old, k e (by simp) _ he⟩, hi.at fun o q => k it (by simp) o q, hne⟩
  item := by
    intro X hP hw hK hc i pins s σ H E I hf st hg
    subst hP hw hK
    obtain ⟨⟨old, he⟩, hit, hne⟩ := st
    obtain ⟨xs, x, hq, hx⟩ := hg
    obtain ⟨its, rv, p, hz⟩ := I.tuple hq
    obtain ⟨u, hu, ru⟩ := rv.get hx
    have hel : e < s.heap.objs.size := Heap.lt_size he
    have hil : it < s.heap.objs.size := by obtain ⟨_, q, _⟩ := hit; exact Heap.lt_size q
    have hil' : i < its.toArray.size := by
      have z := (List.getElem?_eq_some_iff.mp hu).1
      simpa using z
    refine wpAny_pyNext_enum_itemC (Draws.tuple (A := X.A.in1) (show X.A.in1.handled = none from I.ok.hd hc) it a hai its.toArray) he ⟨hit, isTuple_of p⟩ hil' hne (by simp [hne, Ne.symm hae]) fun u' h' tk hu' ho hit' hT hsz hk => ?_
    have eu : u' = u := by
      have z : its.toArray[i]? = some u := by simpa using hu
      rw [z] at hu'; exact (Option.some.inj hu').symm
    subst eu
    refine ⟨_, rfl, wpAny_letOwnedTupleGo_enum (s := { s with heap := h', toks := tk + 1 }) ho fun h'' he' sb => ?_⟩
    have hT2 : h''.get? s.heap.objs.size = some { cls := .type "tuple", data := .seq #[.int i tk, u'] } := (sb.2 _ (Nat.ne_of_gt hel)).trans hT
    have new : ObjOk X.prog X.w (upd H s.heap.objs.size (.tup [.int (i : Nat), x])) h'' s.heap.objs.size (.tup [.int (i : Nat), x]) :=
      ⟨by show 2 ≤ sizeLine; decide, [.int i tk, u'], .cons ⟨_, rfl⟩ (.cons ru .nil), ⟨_, hT2, rfl, _, rfl⟩⟩
    have I1 : Inv X pins σ (upd H s.heap.objs.size (.tup [.int (i : Nat), x])) { s with heap := h'', toks := tk + 1 } :=
      I.turnedNew (ch := [e, it]) (fun b ob hb q => (sb.2 b (fun z => hb (by simp [z]))).trans (hk b ob (fun z => hb (by simp [z])) (fun z => hb (by simp [z])) q)) hf (Nat.le_refl _) new
    refine ⟨.ref s.heap.objs.size, _, I1, rfl, ⟨_, x, rfl, I.hok.fresh (Nat.le_refl _), rfl, fun ys hy => by rw [I.tuple_inj hy hq]; exact hx⟩, ⟨⟨u', ?_⟩, hit'.1.at fun o q => (sb.2 it (Ne.symm hne)).trans q, hne⟩, fun b hb => ?_⟩
    · have e1 : ((i + 1 : Nat) : Int) = (i : Int) + 1 := by omega
      rw [e1]; exact he'
    · have hb' : b < s.heap.objs.size := by
        have e' : b = e ∨ b = it := by simpa using hb
        rcases e' with z | z
        · rw [z]; exact hel
        · rw [z]; exact hil
      rw [upd_ne (Nat.ne_of_lt hb')]
      exact (hf b hb).1
  done := by
    intro X hP hw hK hc i pins s σ H E I hf st hg
    subst hP hw hK
    obtain ⟨⟨old, he⟩, hit, hne⟩ := st
    obtain ⟨xs, hq, hx⟩ := hg
    obtain ⟨its, rv, p, hz⟩ := I.tuple hq
    obtain ⟨f0, f1, f2, f3, f4, f5⟩ := hf it (by simp)
    have hl := rv.length
    have p' := isTuple_of p
    refine pyNext_enum_endT (I.ok.hd hc) he hit p' (by simp; omega) fun h' eb => ⟨rfl, I.turned (t' := s.toks) (fun b o hb q => eb b o hb q) f0 f1 f3 f4 f5⟩
  self := fun A i s Q E st h => let ⟨⟨_, he⟩, _⟩ := st; wpAny_pyIter_enum he h
def iEnumT (K : PySem.W.Frag) (ta : TA) : TI := fun σ H R => ta σ H fun vs H1 => ∃ a xs, vs = [.ref a] ∧ SqT K H1 a xs ∧ R (IteT K a) H1
theorem pi_enumT {X : Cx} {e : Expr} {ta : TA} {p pos tpos : Pos} {elts : List Expr} {kk : Nat} (hg : Gl X "enumerate") (hm : X.mg "enumerate" = none) (ha : PA X [e] ta) (hs : starEach [e] X.env = [(false, eval e X.env)] := by rfl) :
    PI X (.Tuple elts kk tpos) (.Call (.Name "enumerate" p) [e] [] pos) (iEnumT X.K ta) := by
  refine ⟨fun pins s σ H R I h => ?_⟩
  refine Call_ (ld_blt I hg hm boot_enumerate (PyProof.Rows.callWith_type1 (thn (ha.run pos pins s σ H _ I h) fun us s1 ⟨vs, H1, I1, r1, q1⟩ => ?_) hs rfl))
  obtain ⟨a, xs, ex, hq, q⟩ := q1
  subst ex
  cases r1 with
  | cons r rr =>
    cases rr
    cases r
    obtain ⟨its, rv, p', hz⟩ := I1.tuple hq
    have hal : a < s1.heap.objs.size := by obtain ⟨_, q, _⟩ := p'; exact Heap.lt_size q
    refine enum_begins1 (begins_tuple a its.toArray) (isTuple_of p') fun h' he hit hk => wpAny_pyIter_enum he ?_
    have I2 : Inv X pins σ H1 { s1 with heap := h' } := I1.kept (t' := s1.toks) hk
    refine ⟨s1.heap.objs.size + 1, [s1.heap.objs.size + 1, s1.heap.objs.size], _, _, H1, rfl, I2, turn_enumT a (s1.heap.objs.size + 1) s1.heap.objs.size (Nat.ne_of_lt hal) (Nat.ne_of_lt (Nat.lt_succ_of_lt hal)), ⟨⟨.none, he⟩, ⟨_, hit, rfl, rfl⟩, Nat.succ_ne_self _⟩, fun b hb => ?_, q⟩
    have e' : b = s1.heap.objs.size + 1 ∨ b = s1.heap.objs.size := by simpa using hb
    have hle : s1.heap.objs.size ≤ b := by
      rcases e' with z | z
      · rw [z]; exact Nat.le_add_right _ _
      · rw [z]; exact Nat.le_refl _
    exact I1.fpOk hle (I1.hok.fresh hle)
section
variable {K : PySem.W.Frag} {S S' : Addr → Prop} {H H' : Hp} {X : Cx} {W : WX} {io : Io} {m m1 m2 : Bool} {pos p : Pos} {a b : Expr} {f g : Env → R PV} {fs : Env → R (List PV)}
theorem itOk_enumT {a : Addr} {vs : List V} {l : List PV} (fr : FrT K S H a vs) (o : Owns K S H l vs []) : ItOk K (IteT K a) S H (enumL l) where
  go := fun i p S1 H1 e su k dm => by
    have f1 := fr.stay k su
    have o1 : Owns K S1 H1 l vs [] := Owns.stay k su _ _ _ (fun _ _ z => nomatch z) o
    unfold enumL at e
    rw [List.getElem?_mapIdx] at e
    cases q : l[i]? with
    | none => rw [q] at e; cases e
    | some p0 =>
      rw [q] at e
      cases e
      obtain ⟨v, h1, h2⟩ := o1.get q
      refine ⟨⟨vs, v, f1.sq, h1⟩, fun x H2 y => ?_⟩
      obtain ⟨T, x', rfl, hT, rfl, hx⟩ := y
      have hx := hx vs f1.sq
      rw [h1] at hx
      cases hx
      have n := New.frz (o := .tup [.int (i : Nat), v]) dm hT
      refine ⟨_, n, T, [.int (i : Nat), v], rfl, rfl, ⟨.inr rfl, upd_same⟩, Owns.cons ⟨rfl, rfl⟩ (Owns.one (Own.stay (fun b o _ e => n.same b o e) n.su _ _ _ (fun _ _ z => nomatch z) h2))⟩
  stop := fun i S1 H1 hi su k => ⟨vs, (fr.stay k su).sq, by rw [← o.length]; simpa [enumL] using hi⟩
def enumOf2 : List PV → Option (List PV)
  | [.lst l] => some (enumL l)
  | [.scr l] => some (enumL l)
  | [.tup l] => some (enumL l)
  | _ => none
def iEn2 (fs : Env → R (List PV)) : Env → R (List PV) := fun env => (fs env).bind fun ps e => o1 (enumOf2 ps) e
theorem ei_enum2 {tpos : Pos} {elts : List Expr} {kk : Nat} (hg : Gl X "enumerate") (hm : X.mg "enumerate" = none) (ha : Ef X W io m [a] fs) (hs : starEach [a] X.env = [(false, eval a X.env)] := by rfl) : Ei X W io (.Tuple elts kk tpos) (.Call (.Name "enumerate" p) [a] [] pos) (iEn2 fs) := by
  refine ⟨(pi_or (pi_enum hg hm ha.pe hs) (pi_enumT hg hm ha.pe hs)).imp fun σ H Rr q => ?_⟩
  obtain ⟨S, env, fp, C, G, q⟩ := q
  have q : PostI X W io S H σ fp ((fs env).bind fun p e => o1 (enumOf2 p) e) Rr := q
  cases e : fs env with
  | stk => rw [e] at q; exact q.elim
  | ex x env1 => exact .inl (PostI.bind (m := m) C G q fun p v S1 H1 env1 fv fp1 o C1 G1 e1 h1 => by rw [e] at e1; cases e1)
  | ok ps env0 =>
    have hl := ha.ln _ _ _ e
    match ps, hl, e with
    | [p0], _, e =>
    cases p0 with
    | tup l =>
      refine .inr (PostI.bind (m := m) C G q fun p v S1 H1 env1 fv fp1 o C1 G1 e1 h1 => ?_)
      have z := ha.nf _ _ _ e1 _ _ _ _ _ o
      subst z
      rw [e] at e1
      cases e1
      obtain ⟨v, r, f1, f2, rfl, e3, o1', o2'⟩ := o
      obtain ⟨rfl, rfl⟩ := app_nil e3
      obtain ⟨rfl, _⟩ := o2'
      obtain ⟨a, vs, rfl, _, fr, os⟩ := o1'
      exact ⟨a, vs, rfl, fr.sq, h1 _ S1 H1 fp1 C1 G1 Step.refl (itOk_enumT fr os)⟩
    | lst l =>
      refine .inl (PostI.bind (m := m) C G q fun p v S1 H1 env1 fv fp1 o C1 G1 e1 h1 => ?_)
      have z := ha.nf _ _ _ e1 _ _ _ _ _ o
      subst z
      rw [e] at e1
      cases e1
      obtain ⟨v, r, f1, f2, rfl, e3, o1', o2'⟩ := o
      obtain ⟨rfl, rfl⟩ := app_nil e3
      obtain ⟨rfl, _⟩ := o2'
      obtain ⟨a, vs, rfl, _, fr, os⟩ := o1'
      exact ⟨a, vs, rfl, SqL.of fr.2, h1 _ S1 H1 fp1 C1 G1 Step.refl (itOk_enum (.inl ⟨fr.1, .inl fr.2⟩) os)⟩
    | scr l =>
      refine .inl (PostI.bind (m := m) C G q fun p v S1 H1 env1 fv fp1 o C1 G1 e1 h1 => ?_)
      have z := ha.nf _ _ _ e1 _ _ _ _ _ o
      subst z
      rw [e] at e1
      cases e1
      obtain ⟨v, r, f1, f2, rfl, e3, o1', o2'⟩ := o
      obtain ⟨rfl, rfl⟩ := app_nil e3
      obtain ⟨rfl, _⟩ := o2'
      obtain ⟨a, vs, rfl, _, fr, os⟩ := o1'
      exact ⟨a, vs, rfl, fr.sq, h1 _ S1 H1 fp1 C1 G1 Step.refl (itOk_enum fr os)⟩
    | _ => rw [e] at q; exact q.elim
/-! ### dicts -/
def keyP : PV → Option Key
  | .int i => some (.inl i)
  | .str s => some (.inr s)
  | _ => none
theorem keyP_own {p : PV} {v : V} {k : Key} (o : Own K S H p v []) (e : keyP p = some k) : v = kV k := by
  cases p <;> cases e
  · exact o.1
  · exact o.1
def findK (kvs : List (Key × PV)) (k : Key) : Option PV := (kvs.find? fun kv => decide (kv.1 = k)).map (·.2)
/-- pairs of keys and values, one by one -/
def RelK (K : PySem.W.Frag) (S : Addr → Prop) (H : Hp) : List (Key × PV) → List (Key × V) → Prop
  | [], ws => ws = []
  | kp :: r, ws => ∃ v t, ws = (kp.1, v) :: t ∧ Own K S H kp.2 v [] ∧ RelK K S H r t
theorem RelK.find {k : Key} : ∀ {kvs : List (Key × PV)} {ws : List (Key × V)} {p : PV}, RelK K S H kvs ws → findK kvs k = some p → ∃ v, valV ws k = some v ∧ Own K S H p v []
  | [], _, _, _, e => by cases e
  | (k0, p0) :: r, ws, p, h, e => by
    obtain ⟨v, t, rfl, o, hr⟩ := h
    by_cases ek : k0 = k
    · have z : findK ((k0, p0) :: r) k = some p0 := by simp [findK, List.find?_cons, ek]
      rw [z] at e
      cases e
      exact ⟨v, valV_pos ek, o⟩
    · have z : findK ((k0, p0) :: r) k = findK r k := by simp [findK, List.find?_cons, ek]
      rw [z] at e
      obtain ⟨v', h1, h2⟩ := RelK.find hr e
      exact ⟨v', by rw [valV_neg (by exact ek)]; exact h1, h2⟩
theorem RelK.zip : ∀ {ks : List Key} {ps : List PV} {vs : List V}, Owns K S H ps vs [] → RelK K S H (ks.zip ps) (ks.zip vs)
  | [], _, _, _ => rfl
  | k :: ks, [], vs, h => by rw [h.1]; rfl
  | k :: ks, p :: ps, vs, h => by
    obtain ⟨v, r, f1, f2, rfl, e2, o, o2⟩ := h
    obtain ⟨rfl, rfl⟩ := app_nil e2
    exact ⟨v, ks.zip r, rfl, o, RelK.zip o2⟩
theorem RelK.owns : ∀ {kvs : List (Key × PV)} {ws : List (Key × V)}, RelK K S H kvs ws → kvs.map (·.1) = ws.map (·.1) ∧ Owns K S H (kvs.map (·.2)) (ws.map (·.2)) []
  | [], _, h => by cases h; exact ⟨rfl, rfl, rfl⟩
  | kp :: r, _, h => by
    obtain ⟨v, t, rfl, o, hr⟩ := h
    obtain ⟨h1, h2⟩ := RelK.owns hr
    exact ⟨by simp [h1], Owns.cons o h2⟩
def putP (kvs : List (Key × PV)) (k : Key) (v : PV) : List (Key × PV) :=
  if (kvs.any fun kv => decide (kv.1 = k)) = true then kvs.map (fun kv => if kv.1 = k then (kv.1, v) else kv) else kvs ++ [(k, v)]
theorem RelK.any {k : Key} : ∀ {kvs : List (Key × PV)} {ws : List (Key × V)}, RelK K S H kvs ws → (kvs.any fun kv => decide (kv.1 = k)) = ws.any fun kv => decide (kv.1 = k)
  | [], _, h => by cases h; rfl
  | kp :: r, _, h => by
    obtain ⟨v, t, rfl, o, hr⟩ := h
    simp only [List.any_cons, RelK.any hr]
theorem RelK.map {k : Key} {p : PV} {v : V} (o : Own K S H p v []) : ∀ {kvs : List (Key × PV)} {ws : List (Key × V)}, RelK K S H kvs ws → RelK K S H (kvs.map fun kv => if kv.1 = k then (kv.1, p) else kv) (ws.map fun kv => if kv.1 = k then (kv.1, v) else kv)
  | [], _, h => by cases h; rfl
  | kp :: r, _, h => by
    obtain ⟨v', t, rfl, o', hr⟩ := h
    refine ⟨if kp.1 = k then v else v', _, ?_, ?_, RelK.map o hr⟩
    · rw [List.map_cons]
      by_cases e : kp.1 = k <;> simp [e]
    · by_cases e : kp.1 = k <;> simp [e, o, o']
theorem RelK.snoc {k : Key} {p : PV} {v : V} (o : Own K S H p v []) : ∀ {kvs : List (Key × PV)} {ws : List (Key × V)}, RelK K S H kvs ws → RelK K S H (kvs ++ [(k, p)]) (ws ++ [(k, v)])
  | [], _, h => by cases h; exact ⟨v, [], rfl, o, rfl⟩
  | kp :: r, _, h => by
    obtain ⟨v', t, rfl, o', hr⟩ := h
    exact ⟨v', _, rfl, o', RelK.snoc o hr⟩
theorem RelK.put {k : Key} {p : PV} {v : V} {kvs : List (Key × PV)} {ws : List (Key × V)} (o : Own K S H p v []) (h : RelK K S H kvs ws) : RelK K S H (putP kvs k p) (putK ws k v) := by
  unfold putP putK
  rw [h.any]
  split
  · exact h.map o
  · exact h.snoc o
def mergeP (kvs more : List (Key × PV)) : List (Key × PV) := more.foldl (fun acc kv => putP acc kv.1 kv.2) kvs
theorem RelK.merge : ∀ {more : List (Key × PV)} {mws : List (Key × V)} {kvs : List (Key × PV)} {ws : List (Key × V)}, RelK K S H more mws → RelK K S H kvs ws → RelK K S H (mergeP kvs more) (mergeK ws mws)
  | [], _, _, _, h, h' => by cases h; exact h'
  | kp :: r, _, _, _, h, h' => by
    obtain ⟨v, t, rfl, o, hr⟩ := h
    have z := RelK.merge hr (h'.put (k := kp.1) o)
    exact z
theorem RelK.stay (fr : ∀ b o, S b → H b = some o → H' b = some o) (su : ∀ b, S b → S' b) : ∀ {kvs : List (Key × PV)} {ws : List (Key × V)}, RelK K S H kvs ws → RelK K S' H' kvs ws
  | [], _, h => h
  | kp :: r, _, h => by
    obtain ⟨v, t, rfl, o, hr⟩ := h
    exact ⟨v, t, rfl, Own.stay fr su _ _ _ (fun _ _ z => nomatch z) o, RelK.stay fr su hr⟩
/-- d[k] of a dict that stands still -/
def dgetP (p q : PV) : Option PV := match p with
  | .dck ks vs => (keyP q).bind fun k => findK (ks.zip vs) k
  | _ => none
def rDGet : V → V → Hp → VK → Prop := fun x y H Q => ∃ a v, x = .ref a ∧ DGet H a y (some v) ∧ Q v H
theorem prim_dget : Prim2 K rDGet dgetP := by
  intro S H p q v w z Q dm o1 o2 e k
  cases p with
  | dck ks vs =>
    obtain ⟨a, us, rfl, _, hl, hs, hd, os⟩ := o1
    have e : ((keyP q).bind fun k => findK (ks.zip vs) k) = some z := e
    cases ek : keyP q with
    | none => rw [ek] at e; cases e
    | some key =>
      rw [ek] at e
      have e : findK (ks.zip vs) key = some z := e
      obtain ⟨u, h1, h2⟩ := (RelK.zip (ks := ks) os).find e
      rw [keyP_own o2 ek]
      refine ⟨a, u, rfl, ?_, k u S H [] h2 (New.refl dm)⟩
      rw [← h1]
      exact DGet.k hd
  | _ => cases e
theorem ev_dget (hu : X.A.units + 64 < cLine) (ha : Ev X W io m1 a f) (hb : Ev X W io m2 b g) (hs : NoSl b := by exact fun _ _ => rfl) : Ev X W io (m1 || m2) (.Subscript a b pos) (d2 dgetP f g) :=
  ⟨(pe_dget (Nat.lt_of_le_of_lt (Nat.add_le_add_left (by decide) _) hu) ha.frz.pe hb.frz.pe hs).imp fun σ H Q q => sem_2 q fun S H p q v w z dm o1 o2 e k => prim_dget S H p q v w z Q dm o1 o2 e k, Still.two ha.st hb.st⟩
/-- the pairs of a list -/
def pairP : PV → Option (Key × PV)
  | .tup [k, v] => (keyP k).map fun k => (k, v)
  | _ => none
def pairsP : List PV → Option (List (Key × PV))
  | [] => some []
  | p :: r => (pairP p).bind fun kv => (pairsP r).map fun t => kv :: t
theorem pairs_rel : ∀ {l : List PV} {vs : List V} {kvs : List (Key × PV)}, Owns K S H l vs [] → pairsP l = some kvs → ∃ (as : List Addr) (ws : List (Key × V)), vs = as.map V.ref ∧ Paired (fun p kv => SqT K H p [kV kv.1, kv.2]) as ws ∧ RelK K S H kvs ws
  | [], _, _, h, e => by
    cases e
    exact ⟨[], [], h.1, .nil, rfl⟩
  | p :: r, vs, kvs, h, e => by
    obtain ⟨v, t, f1, f2, rfl, e2, o, o2⟩ := h
    obtain ⟨rfl, rfl⟩ := app_nil e2
    unfold pairsP at e
    cases ep : pairP p with
    | none => rw [ep] at e; cases e
    | some kv =>
      rw [ep] at e
      have e : (pairsP r).map (fun t => kv :: t) = some kvs := e
      cases er : pairsP r with
      | none => rw [er] at e; cases e
      | some ks =>
        rw [er] at e
        cases e
        obtain ⟨as, ws, rfl, hp, hr⟩ := pairs_rel o2 er
        match p, ep, o with
        | .tup [kp, vp], ep, o =>
          obtain ⟨a, us, rfl, _, fr, os⟩ := o
          have ep : (keyP kp).map (fun k => (k, vp)) = some kv := ep
          cases ek : keyP kp with
          | none => rw [ek] at ep; cases ep
          | some k =>
            rw [ek] at ep
            cases ep
            obtain ⟨v1, r1, g1, g2, rfl, e3, o1, o3⟩ := os
            obtain ⟨rfl, rfl⟩ := app_nil e3
            obtain ⟨v2, r2, g3, g4, rfl, e4, o4, o5⟩ := o3
            obtain ⟨rfl, rfl⟩ := app_nil e4
            obtain ⟨rfl, _⟩ := o5
            have z := keyP_own o1 ek
            subst z
            exact ⟨a :: as, (k, v2) :: ws, rfl, .cons fr.sq hp, v2, ws, rfl, o4, hr⟩
/-- dict(l) of a list of pairs -/
def dictP : List PV → Option PV
  | [.lst l] => (pairsP l).map fun kvs => .mdk ((mergeP [] kvs).map (·.1)) ((mergeP [] kvs).map (·.2))
  | _ => none
def rDictP (K : PySem.W.Frag) : List V → Hp → VK → Prop := fun xs H Q => ∃ (a : Addr) (ps : List Addr) (kvs : List (Key × V)), xs = [.ref a] ∧ SqL K H a (ps.map V.ref) ∧ Paired (fun p kv => SqT K H p [kV kv.1, kv.2]) ps kvs ∧
    ∀ p, H p = none → Q (.ref p) (upd H p (.dK (mergeK [] kvs)))
theorem zip_fst_snd {α β : Type} : ∀ l : List (α × β), (l.map (·.1)).zip (l.map (·.2)) = l
  | [] => rfl
  | (a, b) :: r => by simp [zip_fst_snd r]
theorem prim_dict : PrimN K (rDictP K) dictP := by
  intro S H ps vs z Q dm o e k
  match ps, e with
  | [.lst l], e =>
    have e : (pairsP l).map (fun kvs => PV.mdk ((mergeP [] kvs).map (·.1)) ((mergeP [] kvs).map (·.2))) = some z := e
    cases ep : pairsP l with
    | none => rw [ep] at e; cases e
    | some kvs =>
      rw [ep] at e
      cases e
      obtain ⟨v, r', f1, f2, rfl, e2, o1, o2⟩ := o
      obtain ⟨rfl, rfl⟩ := app_nil e2
      obtain ⟨rfl, _⟩ := o2
      obtain ⟨a, us, rfl, _, ⟨hs, ha⟩, os⟩ := o1
      obtain ⟨as, ws, rfl, hp, hr⟩ := pairs_rel os ep
      refine ⟨a, as, ws, rfl, SqL.of ha, hp, fun p hp => ?_⟩
      have n := New.own (o := .dK (mergeK [] ws)) dm hp
      have hm := (hr.merge (kvs := []) (ws := []) rfl).stay (fun b o _ e => n.same b o e) (fun _ z => z)
      obtain ⟨h1, h2⟩ := hm.owns
      refine k _ S _ [p] ⟨p, (mergeK [] ws).map (·.2), [], rfl, rfl, ?_, ?_, h2⟩ n
      · rw [h1]; simp
      · rw [h1, zip_fst_snd]; exact upd_same
theorem call_dict (hcalm : X.calm = true) : CallR X (.type "dict") (rDictP X.K) := call_dictP hcalm
end
end L3

set_option maxHeartbeats 1000000
namespace L3
open PySem PySem.Spec PyProof.Rows L2
/-! ### isinstance of the error that a suite holds, an error with fields -/
section
open PySem PySem.Spec PySem.Calls PyProof.Rows PySem.W
variable {prog : Program} {w : World} {A : Around} {E : Value → Shared → Prop} {s : Shared} {K : Frag} {x D : Addr} {ox : Obj} {od : Option Obj}
theorem find_bind {C : Addr} {name : Str} {a g : Value} {od : Option Obj} (h1 : (clsIn K C).isSome = true) (h2 : findIn K (.ref C) name = some (some a)) (h3 : specialIn K a "__get__" = some (some g)) (h4 : takesIn K a = some true) : findObj K C od name = some (.bind g a) := by
  obtain ⟨cd, e⟩ := Option.isSome_iff_exists.mp h1
  unfold findObj; rw [e, Option.bind_some, h2, Option.bind_some]; simp [h3, h4]
theorem class_of_err {Q : Option Value → Shared → Prop} (C : ExcC K D) (X : K.In s.heap) (I : PySem.W.InstAt s.heap x ox D od) (q : Q (some (.ref D)) { s with toks := s.toks + 1 }) : wpAny (model prog w) A (getAttr? (.ref x) "__class__") Q E s := by
  have fb : findObj K D od "__class__" = some (.bind (.builtin "getset_descriptor.__get__") (.builtin "object.__class__")) :=
    find_bind (by obtain ⟨cd, e, _⟩ := any_some C.hd; rw [e]; rfl) C.ha C.hn C.ht
  obtain ⟨hp, gl, dr, tk, os⟩ := s
  have lT := I.type (M := model prog w)
  have lG := looks_findIn (M := model prog w) X C.hg
  have lA := looks_findIn (M := model prog w) X C.hk
  have lF := looks_find (M := model prog w) X I fb
  have lB : Looks (model prog w) hp (isInstance (.ref x) (.type "BaseException")) true := lT.andThen (looks_subIn X C.hs)
  have z0 : (false && onTheHeap (Value.builtin "BaseException.__getattribute__")) = false := rfl
  have z1 : (onTheHeap (Value.ref D) && Value.builtin "BaseException.__getattribute__" == Value.builtin "object.__getattribute__") = false := by
    rw [show (Value.builtin "BaseException.__getattribute__" == Value.builtin "object.__getattribute__") = false by decide +kernel]; rfl
  unfold getAttr? getAttrBy? getAttrBy
  refine wpAny_bind (wpAny_mkText (wpAny_bind (wpAny_attempt (wpAny_holding (wpAny_bind (lT.at (wpAny_bind (lG.at ?_))))))))
  show wpAny _ _ (if (onTheHeap (Value.ref D) && Value.builtin "BaseException.__getattribute__" == Value.builtin "object.__getattribute__") = true then _ else _) _ _ _
  rw [z1, if_neg Bool.false_ne_true]
  unfold getAttrByItsOwn hookBefore
  refine wpAny_bind ?_
  rw [if_pos (show onTheHeap (Value.ref D) = true from rfl)]
  refine lA.at (wpAny_bind (wpAny_attempt (wpAny_holding ?_)))
  unfold callGetattribute
  rw [z0, if_neg Bool.false_ne_true]
  unfold boundAndCalled
  rw [PySem.F.excAttr_ValueError.ga.bind (.ref x)]
  refine wpAny_bind (wpAny_pure ?_)
  show wpAny _ _ (call (.builtin "BaseException.__getattribute__") [.ref x, .str "__class__" tk]) _ _ _
  refine wpAny_call (codeAny_call_builtin PySem.F.excAttr_ValueError.ga.plain PySem.F.entry_bexc_ga
    (@check_slot (model prog w) _ _ ⟨hp, gl, dr, tk + 1, os⟩ "BaseException.__getattribute__" "BaseException" "__getattribute__" (.ref x) [.str "__class__" tk] [] _ (by decide +kernel) (by decide +kernel) lB (PySem.F.args_bexc_ga (.ref x) (.str "__class__" tk)) ?_))
  unfold Builtin.«object.__getattribute__»
  refine wpAny_bind (wpAny_of_eq (a := ((Value.ref x : Value), [Value.str "__class__" tk])) (by first | rfl | (simp only [slotArgs]; rfl)) ?_)
  refine wpAny_bind (wpAny_pure (wpAny_bind (lT.at (wpAny_bind (lF.at ?_)))))
  show wpAny _ _ (holding [Value.builtin "object.__class__"] (call (.builtin "getset_descriptor.__get__") [.builtin "object.__class__", .ref x, .ref D]) >>= ret) _ _ _
  refine wpAny_bind (wpAny_holding (wpAny_call (PySem.W.class_get (s := ⟨hp, gl, dr, tk + 1, os⟩) (ox := ox) (od := od) X I C.hm (wpAny_pure ?_))))
  show wpAny _ _ (handedOut (.ref D)) _ _ _
  rw [handedOut_of (v := .ref D) rfl]
  first
    | exact wpAny_pure (wpAny_pure q)
    | exact wpAny_pure q
    | exact wpAny_pure (wpAny_bind (wpAny_pure (wpAny_pure q)))
theorem kit_err (C : ExcC K D) : KitX K (.ref x) (.ref D) (fun h => PySem.W.InstAt h x ox D od) where
  ty := fun _ _ _ I => I.type
  it := fun _ _ X _ => by
    obtain ⟨cd, e, _⟩ := any_some C.hd
    unfold clsIn at e
    split at e
    · rename_i ho
      intro A' Q' E' s' k q
      unfold isType loadHead
      exact wpAny_bind (wpAny_loadPart (k _ _ (X _ _ ho)) (wpAny_pure q))
    · cases e
  ne := fun h tp dd its n sl X htp => by
    obtain ⟨cd, e, _⟩ := any_some C.hd
    refine Bool.eq_false_iff.mpr fun q => ?_
    have eD : D = tp := Value.ref.inj (beq_iff_eq.mp q)
    subst eD
    unfold clsIn at e
    split at e
    · rename_i ho
      cases (X _ _ ho).symm.trans htp
    · cases e
  ca := fun X I k => class_of_err C X I k
end
/-- isinstance(e, c) and isinstance(e, (c, ..)), e the error that the suite holds, with its own dict -/
def rIsF (K : PySem.W.Frag) (D a dd : Addr) (fs : List (Str × V)) : List V → Hp → VK → Prop := fun xs H Q => H dd = some (.xd fs) ∧ ∃ (c : V) (b : Bool), xs = [.ref a, c] ∧
  ((∃ cv, (∀ u, RelV c u → u = cv) ∧ PySem.W.kitOne K (.ref D) cv = some b) ∨ ∃ t vs cvs, c = .ref t ∧ H t = some (.tup vs) ∧ (∀ us, Vals vs us → us = cvs) ∧ PySem.W.kitAny K (.ref D) cvs = some b) ∧ Q (.bl b) H
theorem call_isF {X : Cx} {a D dd : Addr} {fs : List (Str × V)} {oe : Obj} {pn : List (Addr × Obj)} (C : ExcC X.K D) (hz : Zc (.ref D) (some dd) oe) (hf : ∃ vs, oe.data = .fields vs) : CallR (X.suite a ((a, oe) :: pn)) (.builtin "isinstance") (rIsF X.K D a dd fs) := by
  intro pins s σ H xs us Q I r h
  obtain ⟨hdd, c, b, rfl, hc, q⟩ := h
  cases r with
  | cons rx rr =>
    cases rr with
    | cons rt rr =>
      cases rr
      cases rx
      obtain ⟨hget, _⟩ := I.pin (a, oe) (List.mem_append.mpr (.inl List.mem_cons_self))
      obtain ⟨vs, hv⟩ := hf
      obtain ⟨od, hod⟩ : ∃ od, s.heap.get? dd = some od := by
        obtain ⟨_, ⟨o, _, _, z, _⟩, _⟩ := I.hok dd _ hdd
        exact ⟨o, z⟩
      have J : PySem.W.InstAt s.heap a oe D (some od) := by
        obtain ⟨oc, od', oda, osl⟩ := oe
        obtain ⟨h1, h2⟩ := hz
        dsimp only at h1 h2 hv
        subst h1 h2 hv
        exact ⟨hget, rfl, rfl, hod⟩
      rcases hc with ⟨cv, hcv, e⟩ | ⟨t, ws, cvs, rfl, ht, hcv, e⟩
      · have ec := hcv _ rt
        subst ec
        exact PySem.W.kia_one (kit_err C) I.kIn J e (fun z => nomatch z) fun tk => ⟨.bl b, H, I.kept (t' := tk) fun _ _ z => z, rfl, q⟩
      · cases rt
        obtain ⟨its, rv, p, hsz⟩ := I.tuple (SqT.of ht)
        have ei := hcv _ rv
        subst ei
        obtain ⟨⟨oc, odd, oda, osl⟩, ho, hc, n, hd⟩ := p
        dsimp only at hc hd
        subst hc hd
        exact PySem.W.kia_tup (kit_err C) I.kIn J ho e (fun z => nomatch z) fun tk => ⟨.bl b, H, I.kept (t' := tk) fun _ _ z => z, rfl, q⟩
theorem kitAny_of {K : PySem.W.Frag} {t : Value} : ∀ {cvs : List Value} {bs : List Bool}, cvs.length = bs.length → (∀ (i : Nat) (c : Value) (b : Bool), cvs[i]? = some c → bs[i]? = some b → PySem.W.kitOne K t c = some b) → PySem.W.kitAny K t cvs = some (bs.any id)
  | [], [], _, _ => rfl
  | c :: cs, b :: bs, hl, h => by
    have e := h 0 c b rfl rfl
    have r := kitAny_of (cvs := cs) (bs := bs) (by simpa using hl) fun i c b h1 h2 => h (i + 1) c b (by simpa using h1) (by simpa using h2)
    unfold PySem.W.kitAny
    rw [e]
    cases b with
    | true => rfl
    | false => exact r
theorem cMono {a b : List Str} (h : ∀ x, x ∈ a → x ∈ b) {n : Str} (hn : a.contains n = true) : b.contains n = true := List.contains_iff_mem.mpr (h n (List.contains_iff_mem.mp hn))
def dIsX2 (c1 c2 : List Str) (x : XV) : Env → R PV := fun env => .ok (.bl (c1.contains x.c || c2.contains x.c)) env
def dIsX (cs : List Str) (x : XV) : Env → R PV := fun env => .ok (.bl (cs.contains x.c)) env
section
variable {X : Cx} {io : Io}
theorem ev_isX {W : WX} {a C D dd : Addr} {oe : Obj} {pn : List (Addr × Obj)} {cs : List Str} {T en : Str} {i : Nat} {x : XV} {fs : List (Str × V)} {p1 p2 p3 pos : Pos} (EC : ExcC X.K C) (hz : Zc (.ref C) (some dd) oe) (hf : ∃ vs, oe.data = .fields vs)
    (hk : PySem.W.kitOne X.K (.ref C) (.ref D) = some (cs.contains x.c)) (hgi : Gl (X.suite a ((a, oe) :: pn)) "isinstance") (hmi : X.mg "isinstance" = none) (hgT : Gl (X.suite a ((a, oe) :: pn)) T) (hmT : X.mg T = some (.ref D))
    (hN : X.N[i]? = some en) (hv : Vis X.env.scope en) (hdT : (T == ("__debug__" : Str)) = false := by decide) (hd : (en == ("__debug__" : Str)) = false := by decide) (hcd : (en == ("__classdict__" : Str)) = false := by decide)
    (hs : starEach [.Name en p3, .Name T p2] (X.suite a ((a, oe) :: pn)).env = (false, eval (.Name en p3) (X.suite a ((a, oe) :: pn)).env) :: starEach [.Name T p2] (X.suite a ((a, oe) :: pn)).env := by rfl) (hs2 : starEach [.Name T p2] (X.suite a ((a, oe) :: pn)).env = (false, eval (.Name T p2) (X.suite a ((a, oe) :: pn)).env) :: starEach [] (X.suite a ((a, oe) :: pn)).env := by rfl)
    (hpl : (backTo pos (starEach [.Name T p2] (X.suite a ((a, oe) :: pn)).env)).any (·.1) = false := by rfl) :
    Ev (X.suite a ((a, oe) :: pn)) W (ioX io (some i) a dd fs) false (.Call (.Name "isinstance" p1) [.Name en p3, .Name T p2] [] pos) (dIsX cs x) := by
  refine ⟨(pe_callB (call_isF (fs := fs) EC hz hf) hgi hmi (by decide +kernel) (pa_cons (pe_var (X := X.suite a ((a, oe) :: pn)) (i := i) hN hv hd hcd) (pa_cons (pe_glob (v := .ref D) hgT hmT rfl hdT) pa_nil hs2) hs) (by decide) (by decide) hs hpl).imp fun σ H Q q => ?_, Still.pure⟩
  obtain ⟨S, env, fp, Cc, G, q⟩ := q
  have s1 := Cc.io.ix i List.mem_cons_self
  have k1 := Cc.io.kp (dd, .xd fs) List.mem_cons_self
  have e1 : (ioX io (some i) a dd fs).2.1 i = .ref a := if_pos rfl
  rw [e1] at s1
  exact ⟨.ref a, s1, k1.2, .ref D, _, rfl, .inl ⟨.ref D, fun u r => r, hk⟩, Post.fin (ft := []) Cc G q ⟨rfl, rfl⟩ (New.refl G.dm)⟩
theorem ev_isX2 {W : WX} {a C D1 D2 dd : Addr} {oe : Obj} {pn : List (Addr × Obj)} {cs1 cs2 : List Str} {T1 T2 en : Str} {i xk : Nat} {x : XV} {fs : List (Str × V)} {p1 p2 p3 p4 p5 pos : Pos} (EC : ExcC X.K C) (hz : Zc (.ref C) (some dd) oe) (hf : ∃ vs, oe.data = .fields vs)
    (hk1 : PySem.W.kitOne X.K (.ref C) (.ref D1) = some (cs1.contains x.c)) (hk2 : PySem.W.kitOne X.K (.ref C) (.ref D2) = some (cs2.contains x.c)) (hgi : Gl (X.suite a ((a, oe) :: pn)) "isinstance") (hmi : X.mg "isinstance" = none)
    (hg1 : Gl (X.suite a ((a, oe) :: pn)) T1) (hm1 : X.mg T1 = some (.ref D1)) (hg2 : Gl (X.suite a ((a, oe) :: pn)) T2) (hm2 : X.mg T2 = some (.ref D2))
    (hN : X.N[i]? = some en) (hv : Vis X.env.scope en) (hd1 : (T1 == ("__debug__" : Str)) = false := by decide) (hd2 : (T2 == ("__debug__" : Str)) = false := by decide) (hd : (en == ("__debug__" : Str)) = false := by decide) (hcd : (en == ("__classdict__" : Str)) = false := by decide)
    (hs : starEach [.Name en p3, .Tuple [.Name T1 p2, .Name T2 p4] xk p5] (X.suite a ((a, oe) :: pn)).env = (false, eval (.Name en p3) (X.suite a ((a, oe) :: pn)).env) :: starEach [.Tuple [.Name T1 p2, .Name T2 p4] xk p5] (X.suite a ((a, oe) :: pn)).env := by rfl)
    (hs2 : starEach [.Tuple [.Name T1 p2, .Name T2 p4] xk p5] (X.suite a ((a, oe) :: pn)).env = (false, eval (.Tuple [.Name T1 p2, .Name T2 p4] xk p5) (X.suite a ((a, oe) :: pn)).env) :: starEach [] (X.suite a ((a, oe) :: pn)).env := by rfl)
    (hs3 : starEach [.Name T1 p2, .Name T2 p4] (X.suite a ((a, oe) :: pn)).env = (false, eval (.Name T1 p2) (X.suite a ((a, oe) :: pn)).env) :: starEach [.Name T2 p4] (X.suite a ((a, oe) :: pn)).env := by rfl)
    (hs4 : starEach [.Name T2 p4] (X.suite a ((a, oe) :: pn)).env = (false, eval (.Name T2 p4) (X.suite a ((a, oe) :: pn)).env) :: starEach [] (X.suite a ((a, oe) :: pn)).env := by rfl)
    (hpl : (backTo pos (starEach [.Tuple [.Name T1 p2, .Name T2 p4] xk p5] (X.suite a ((a, oe) :: pn)).env)).any (·.1) = false := by rfl) :
    Ev (X.suite a ((a, oe) :: pn)) W (ioX io (some i) a dd fs) false (.Call (.Name "isinstance" p1) [.Name en p3, .Tuple [.Name T1 p2, .Name T2 p4] xk p5] [] pos) (dIsX2 cs1 cs2 x) := by
  refine ⟨(pe_callB (call_isF (fs := fs) EC hz hf) hgi hmi (by decide +kernel) (pa_cons (pe_var (X := X.suite a ((a, oe) :: pn)) (i := i) hN hv hd hcd) (pa_cons (pe_tup (pa_cons (pe_glob (v := .ref D1) hg1 hm1 rfl hd1) (pa_cons (pe_glob (v := .ref D2) hg2 hm2 rfl hd2) pa_nil hs4) hs3)) pa_nil hs2) hs) (by decide) (by decide) hs hpl).imp fun σ H Q q => ?_, Still.pure⟩
  obtain ⟨S, env, fp, Cc, G, q⟩ := q
  have s1 := Cc.io.ix i List.mem_cons_self
  have k1 := Cc.io.kp (dd, .xd fs) List.mem_cons_self
  have e1 : (ioX io (some i) a dd fs).2.1 i = .ref a := if_pos rfl
  rw [e1] at s1
  refine ⟨.ref a, s1, by show 2 ≤ sizeLine; decide, fun p hp => ?_⟩
  have n := New.frz (o := .tup [.ref D1, .ref D2]) G.dm hp
  refine ⟨by rw [upd_ne (ne_of_none k1.2 hp)]; exact k1.2, .ref p, _, rfl, .inr ⟨p, [.ref D1, .ref D2], [.ref D1, .ref D2], rfl, upd_same, fun us r => ?_, ?_⟩, Post.fin (ft := []) Cc G q ⟨rfl, rfl⟩ n⟩
  · cases r with
    | cons r1 rr =>
      cases rr with
      | cons r2 rr =>
        cases rr
        cases r1
        cases r2
        rfl
  · have z := kitAny_of (K := X.K) (t := .ref C) (cvs := [.ref D1, .ref D2]) (bs := [cs1.contains x.c, cs2.contains x.c]) rfl fun i c b h1 h2 => by
      match i, h1, h2 with
      | 0, h1, h2 => cases h1; cases h2; exact hk1
      | 1, h1, h2 => cases h1; cases h2; exact hk2
    rw [z]
    simp
end
/-! ### the facts -/
section
variable {K : PySem.W.Frag} {h : Heap} {mg : Str → Option Value} {cl cs : List Str} {C D D' : Addr} {x : Str}
def KitP (K : PySem.W.Frag) (mg : Str → Option Value) (D : Addr) (cs cl : List Str) : Prop := ∀ n, n ∈ cl → ∀ C, mg n = some (.ref C) → PySem.W.kitOne K (.ref C) (.ref D) = some (cs.contains n)
theorem kitS (e : KitP K mg D cs cl) : ∀ n C, cl.contains n = true → mg n = some (.ref C) → PySem.W.kitOne K (.ref C) (.ref D) = some (cs.contains n) := fun n C hn hC => e n (List.contains_iff_mem.mp hn) C hC
theorem kitS_at (X : K.In h) (G : h.Ns mainGlobals mg) (hD : mg x = some (.ref D)) (a : PySem.W.nsIn K mainGlobals x = some (some (.ref D'))) (e : KitP K mg D' cs cl) : KitP K mg D cs cl := by
  rw [PySem.W.mg_of X G a] at hD
  cases hD
  exact e
theorem kitS_nil : KitP K mg D cs [] := fun _ h => nomatch h
theorem kit_mk {b : Bool} (h0 : C = D → b = true) (h2 : PySem.W.isClsIn K D = true) (h3 : PySem.W.typeIn K (.ref D) = some (.type "type")) (h4 : PySem.W.subIn K (.ref C) (.ref D) = some b) : PySem.W.kitOne K (.ref C) (.ref D) = some b := by
  unfold PySem.W.kitOne
  split
  · next e =>
    have e : C = D := Value.ref.inj (beq_iff_eq.mp e)
    rw [h0 e]
  · have e2 : ((PySem.W.clsIn K D).isSome && PySem.W.typeIn K (.ref D) == some (.type "type")) = true := by
      have h2' : (PySem.W.clsIn K D).isSome = true := h2
      rw [h2', h3] <;> rfl
    show (if ((PySem.W.clsIn K D).isSome && PySem.W.typeIn K (.ref D) == some (.type "type")) = true then PySem.W.subIn K (.ref C) (.ref D) else none) = _
    rw [if_pos e2]
    exact h4
theorem kitS_cons (X : K.In h) (G : h.Ns mainGlobals mg) (a : PySem.W.nsIn K mainGlobals x = some (some (.ref C))) (h2 : PySem.W.isClsIn K D = true) (h3 : PySem.W.typeIn K (.ref D) = some (.type "type")) (h4 : PySem.W.subIn K (.ref C) (.ref D) = some (cs.contains x)) (h0 : C = D → cs.contains x = true)
    (r : KitP K mg D cs cl) : KitP K mg D cs (x :: cl) := fun n hn B hB => by
  rcases List.mem_cons.mp hn with e | e
  · subst e
    rw [PySem.W.mg_of X G a] at hB
    cases hB
    exact kit_mk h0 h2 h3 h4
  · exact r n e B hB
def EcP (K : PySem.W.Frag) (mg : Str → Option Value) (cl : List Str) : Prop := ∀ n, n ∈ cl → ∀ C, mg n = some (.ref C) → ExcC K C
theorem ecS (e : EcP K mg cl) : ∀ n, cl.contains n = true → ∀ C, mg n = some (.ref C) → ExcC K C := fun n hn C hC => e n (List.contains_iff_mem.mp hn) C hC
theorem ecS_nil : EcP K mg [] := fun _ h => nomatch h
theorem ecS_cons (X : K.In h) (G : h.Ns mainGlobals mg) (a : PySem.W.nsIn K mainGlobals x = some (some (.ref C))) (h1 : PySem.W.findIn K (.ref C) "__getattribute__" = some (some (.builtin "BaseException.__getattribute__"))) (h2 : PySem.W.findIn K (.ref C) "__getattr__" = some none) (h3 : PySem.W.subIn K (.ref C) (.type "BaseException") = some true) (h4 : PySem.W.hasDictIn K C = true)
    (h5 : PySem.W.findIn K (.ref C) "__class__" = some (some (.builtin "object.__class__"))) (h6 : PySem.W.specialIn K (.builtin "object.__class__") "__get__" = some (some (.builtin "getset_descriptor.__get__"))) (h7 : PySem.W.takesIn K (.builtin "object.__class__") = some true) (h8 : PySem.W.mroIn K C (.type "object") = some true)
    (r : EcP K mg cl) : EcP K mg (x :: cl) := fun n hn B hB => by
  rcases List.mem_cons.mp hn with e | e
  · subst e
    rw [PySem.W.mg_of X G a] at hB
    cases hB
    exact ⟨h1, h2, h3, h4, h5, h6, h7, h8⟩
  · exact r n e B hB
theorem blt_mk {id : String} (X : K.In h) (G : h.Ns mainGlobals mg) (a : PySem.W.nsIn K mainGlobals x = some (some (.builtin id))) : mg x = some (.builtin id) := PySem.W.mg_of X G a
end
end L3

namespace L3
open PySem PySem.Spec PyProof.Rows L2
/-! ### dicts that change -/
section
variable {κ : Type} [DecidableEq κ]
def findG (kvs : List (κ × PV)) (k : κ) : Option PV := (kvs.find? fun kv => decide (kv.1 = k)).map (·.2)
def putG (kvs : List (κ × PV)) (k : κ) (v : PV) : List (κ × PV) :=
  if (kvs.any fun kv => decide (kv.1 = k)) = true then kvs.map (fun kv => if kv.1 = k then (kv.1, v) else kv) else kvs ++ [(k, v)]
def RelG (K : PySem.W.Frag) (S : Addr → Prop) (H : Hp) : List (κ × PV) → List (κ × V) → Prop
  | [], ws => ws = []
  | kp :: r, ws => ∃ v t, ws = (kp.1, v) :: t ∧ Own K S H kp.2 v [] ∧ RelG K S H r t
section
variable {K : PySem.W.Frag} {S S' : Addr → Prop} {H H' : Hp}
theorem RelG.find {k : κ} : ∀ {kvs : List (κ × PV)} {ws : List (κ × V)}, RelG K S H kvs ws → match findG kvs k with
    | some p => ∃ v, valV ws k = some v ∧ Own K S H p v []
    | none => valV ws k = none
  | [], _, h => by cases h; rfl
  | (k0, p0) :: r, ws, h => by
    obtain ⟨v, t, rfl, o, hr⟩ := h
    have ih := RelG.find (k := k) hr
    by_cases ek : k0 = k
    · have z : findG ((k0, p0) :: r) k = some p0 := by simp [findG, List.find?_cons, ek]
      rw [z]
      exact ⟨v, valV_pos ek, o⟩
    · have z : findG ((k0, p0) :: r) k = findG r k := by simp [findG, List.find?_cons, ek]
      rw [z, valV_neg (by exact ek)]
      exact ih
theorem RelG.zip : ∀ {ks : List κ} {ps : List PV} {vs : List V}, Owns K S H ps vs [] → RelG K S H (ks.zip ps) (ks.zip vs)
  | [], _, _, _ => rfl
  | k :: ks, [], vs, h => by rw [h.1]; rfl
  | k :: ks, p :: ps, vs, h => by
    obtain ⟨v, r, f1, f2, rfl, e2, o, o2⟩ := h
    obtain ⟨rfl, rfl⟩ := app_nil e2
    exact ⟨v, ks.zip r, rfl, o, RelG.zip o2⟩
theorem RelG.owns : ∀ {kvs : List (κ × PV)} {ws : List (κ × V)}, RelG K S H kvs ws → kvs.map (·.1) = ws.map (·.1) ∧ Owns K S H (kvs.map (·.2)) (ws.map (·.2)) []
  | [], _, h => by cases h; exact ⟨rfl, rfl, rfl⟩
  | kp :: r, _, h => by
    obtain ⟨v, t, rfl, o, hr⟩ := h
    obtain ⟨h1, h2⟩ := RelG.owns hr
    exact ⟨by simp [h1], Owns.cons o h2⟩
theorem RelG.any {k : κ} : ∀ {kvs : List (κ × PV)} {ws : List (κ × V)}, RelG K S H kvs ws → (kvs.any fun kv => decide (kv.1 = k)) = ws.any fun kv => decide (kv.1 = k)
  | [], _, h => by cases h; rfl
  | kp :: r, _, h => by
    obtain ⟨v, t, rfl, o, hr⟩ := h
    simp only [List.any_cons, RelG.any hr]
theorem RelG.map {k : κ} {p : PV} {v : V} (o : Own K S H p v []) : ∀ {kvs : List (κ × PV)} {ws : List (κ × V)}, RelG K S H kvs ws → RelG K S H (kvs.map fun kv => if kv.1 = k then (kv.1, p) else kv) (ws.map fun kv => if kv.1 = k then (kv.1, v) else kv)
  | [], _, h => by cases h; rfl
  | kp :: r, _, h => by
    obtain ⟨v', t, rfl, o', hr⟩ := h
    refine ⟨if kp.1 = k then v else v', _, ?_, ?_, RelG.map o hr⟩
    · rw [List.map_cons]
      by_cases e : kp.1 = k <;> simp [e]
    · by_cases e : kp.1 = k <;> simp [e, o, o']
theorem RelG.snoc {k : κ} {p : PV} {v : V} (o : Own K S H p v []) : ∀ {kvs : List (κ × PV)} {ws : List (κ × V)}, RelG K S H kvs ws → RelG K S H (kvs ++ [(k, p)]) (ws ++ [(k, v)])
  | [], _, h => by cases h; exact ⟨v, [], rfl, o, rfl⟩
  | kp :: r, _, h => by
    obtain ⟨v', t, rfl, o', hr⟩ := h
    exact ⟨v', _, rfl, o', RelG.snoc o hr⟩
theorem RelG.put {k : κ} {p : PV} {v : V} {kvs : List (κ × PV)} {ws : List (κ × V)} (o : Own K S H p v []) (h : RelG K S H kvs ws) : RelG K S H (putG kvs k p) (putK ws k v) := by
  unfold putG putK
  rw [h.any]
  split
  · exact h.map o
  · exact h.snoc o
end
theorem zip_fst_snd' {α β : Type} : ∀ l : List (α × β), (l.map (·.1)).zip (l.map (·.2)) = l
  | [] => rfl
  | (a, b) :: r => by simp [zip_fst_snd' r]
theorem putG_nil {k : κ} {v : PV} : putG [] k v = [(k, v)] := rfl
theorem findG_put {kvs : List (κ × PV)} {k j : κ} {v : PV} : findG (putG kvs k v) j = if j = k then some v else findG kvs j := by
  unfold putG
  have hany : (kvs.any fun kv => decide (kv.1 = k)) = (findG kvs k).isSome := by
    induction kvs with
    | nil => rfl
    | cons kv r ih =>
      unfold findG at ih ⊢
      by_cases e : kv.1 = k
      · simp [e]
      · simp only [List.any_cons, List.find?_cons]
        simp [e]
        simpa using ih
  rw [hany]
  cases e : findG kvs k with
  | none =>
    show findG (kvs ++ [(k, v)]) j = _
    unfold findG at *
    rw [List.find?_append]
    by_cases ej : j = k
    · subst ej
      have z : List.find? (fun kv => decide (kv.1 = j)) kvs = none := by
        cases q : List.find? (fun kv => decide (kv.1 = j)) kvs with
        | none => rfl
        | some x => rw [q] at e; cases e
      simp [z]
    · cases q : List.find? (fun kv => decide (kv.1 = j)) kvs with
      | none => simp [ej, Ne.symm ej]
      | some x => simp [ej]
  | some x =>
    have hm : ∀ l : List (κ × PV), findG (l.map fun kv => if kv.1 = k then (kv.1, v) else kv) j = (findG l j).map fun x => if j = k then v else x := by
      intro l
      induction l with
      | nil => rfl
      | cons kv r ih =>
        obtain ⟨k0, p0⟩ := kv
        unfold findG at ih ⊢
        by_cases e1 : k0 = j
        · subst e1
          by_cases e2 : k0 = k <;> simp [e2]
        · by_cases e2 : k0 = k
          · subst e2
            simp [List.find?_cons, e1]
            simpa using ih
          · simp [List.find?_cons, e1, e2]
            simpa using ih
    show findG (kvs.map _) j = _
    rw [hm]
    by_cases h : j = k
    · subst h
      simp [e]
    · simp [h]
/-- a kind of dict -/
structure DK (κ : Type) [DecidableEq κ] where
  pv : List κ → List PV → PV
  un : PV → Option (List κ × List PV)
  ho : List (κ × V) → HO
  key : PV → Option κ
  unS : ∀ p ks vs, un p = some (ks, vs) → p = pv ks vs
  own : ∀ K S H ks ps v f, Own K S H (pv ks ps) v f → ∃ a vs g, v = .ref a ∧ f = a :: g ∧ ks.length = vs.length ∧ H a = some (ho (ks.zip vs)) ∧ Owns K S H ps vs g
  ownR : ∀ K S H ks ps a vs, ks.length = vs.length → H a = some (ho (ks.zip vs)) → Owns K S H ps vs [] → Own K S H (pv ks ps) (.ref a) [a]
  get : ∀ K S H a kvs q y k, Own K S H q y [] → key q = some k → H a = some (ho kvs) → DGet H a y (valV kvs k)
  put : ∀ K S H a kvs q y k v, Own K S H q y [] → key q = some k → H a = some (ho kvs) → kvs.length < sizeLine → DPut H a y v (upd H a (ho (putK kvs k v)))
  isD : ∀ H a kvs, H a = some (ho kvs) → IsD H a
end
def dkK : DK Key where
  pv := .mdk
  un := fun p => match p with | .mdk ks vs => some (ks, vs) | _ => none
  ho := .dK
  key := keyP
  unS := fun p ks vs h => by cases p <;> cases h; rfl
  own := fun K S H ks ps v f h => h
  ownR := fun K S H ks ps a vs h1 h2 h3 => ⟨a, vs, [], rfl, rfl, h1, h2, h3⟩
  get := fun K S H a kvs q y k o e h => by rw [keyP_own o e]; exact DGet.k h
  put := fun K S H a kvs q y k v o e h hl => by rw [keyP_own o e]; exact DPut.k h hl
  isD := fun H a kvs h => .inl ⟨kvs, .inl h⟩
def keysOf : List PV → Option (List Key)
  | [] => some []
  | p :: r => (keyP p).bind fun k => (keysOf r).map fun t => k :: t
theorem keysOf_own {K : PySem.W.Frag} {S : Addr → Prop} {H : Hp} : ∀ {l : List PV} {vs : List V} {ks : List Key}, Owns K S H l vs [] → keysOf l = some ks → vs = ks.map kV
  | [], _, _, h, e => by cases e; exact h.1
  | p :: r, vs, ks, h, e => by
    obtain ⟨v, t, f1, f2, rfl, e2, o, o2⟩ := h
    obtain ⟨rfl, rfl⟩ := app_nil e2
    unfold keysOf at e
    cases ep : keyP p with
    | none => rw [ep] at e; cases e
    | some k =>
      rw [ep] at e
      have e : (keysOf r).map (fun t => k :: t) = some ks := e
      cases er : keysOf r with
      | none => rw [er] at e; cases e
      | some t' =>
        rw [er] at e
        cases e
        rw [keyP_own o ep, keysOf_own o2 er]
        rfl
def keyT (p : PV) : Option (List Key) := match p with
  | .tup l => keysOf l
  | _ => none
theorem keyT_own {K : PySem.W.Frag} {S : Addr → Prop} {H : Hp} {p : PV} {v : V} {k : List Key} (o : Own K S H p v []) (e : keyT p = some k) : ∃ b, v = .ref b ∧ H b = some (.tup (k.map kV)) := by
  cases p with
  | tup l =>
    obtain ⟨b, vs, rfl, _, fr, os⟩ := o
    have := keysOf_own os e
    subst this
    exact ⟨b, rfl, fr.2⟩
  | _ => cases e
def dkT : DK (List Key) where
  pv := .mdt
  un := fun p => match p with | .mdt ks vs => some (ks, vs) | _ => none
  ho := .dT
  key := keyT
  unS := fun p ks vs h => by cases p <;> cases h; rfl
  own := fun K S H ks ps v f h => h
  ownR := fun K S H ks ps a vs h1 h2 h3 => ⟨a, vs, [], rfl, rfl, h1, h2, h3⟩
  get := fun K S H a kvs q y k o e h => by obtain ⟨b, rfl, hb⟩ := keyT_own o e; exact DGet.t h hb
  put := fun K S H a kvs q y k v o e h hl => by obtain ⟨b, rfl, hb⟩ := keyT_own o e; exact DPut.t h hb hl
  isD := fun H a kvs h => .inr ⟨kvs, .inl h⟩
section
variable {κ : Type} [DecidableEq κ] {X : Cx} {W : WX} {io : Io} {m m1 m2 : Bool} {a b c : Expr} {f g h : Env → R PV} {pos p1 p2 : Pos} {i : Nat} {x : Str}
def dNew (p : PV) : Env → R PV := fun env => .ok p env
theorem ev_dnew {o : HO} {p : PV} (hp : PE X a (fun _ H Q => ∀ p, H p = none → Q (.ref p) (upd H p o))) (ho : ∀ S H a, H a = some o → Own X.K S H p (.ref a) [a]) : Ev X W io false a (dNew p) := by
  refine ⟨hp.imp fun σ H Q q => ?_, Still.pure⟩
  obtain ⟨S, env, fp, C, G, q⟩ := q
  intro a ha
  have n := New.own (o := o) G.dm ha
  exact Post.fin (ft := []) C G q (ho S _ a upd_same) n
theorem ev_dnewT : Ev X W io false (.Dict [] [] pos) (dNew (.mdt [] [])) := ev_dnew pe_dnewT fun S H a h => ⟨a, [], [], rfl, rfl, rfl, h, rfl, rfl⟩
theorem ev_dnewK : Ev X W io false (.Dict [] [] pos) (dNew (.mdk [] [])) := ev_dnew pe_dnewK fun S H a h => ⟨a, [], [], rfl, rfl, rfl, h, rfl, rfl⟩
def dkAt (D : DK κ) (env : Env) (i : Nat) : Option (List κ × List PV) := (slotP env i).bind D.un
theorem dkAt_some {D : DK κ} {env : Env} {q : List κ × List PV} (h : dkAt D env i = some q) : slotP env i = some (D.pv q.1 q.2) := by
  unfold dkAt at h
  cases e : slotP env i with
  | none => rw [e] at h; cases h
  | some p => rw [e] at h; rw [D.unS p q.1 q.2 h]
theorem dk_at {D : DK κ} {S : Addr → Prop} {H : Hp} {σ : L2.St} {env : Env} {fp : List Addr} {q : List κ × List PV} (C : Cl X.K io S H σ env fp) (h : dkAt D env i = some q) : ∃ a vs, σ[i]? = some (some (.ref a)) ∧ H a = some (D.ho (q.1.zip vs)) ∧ (flatO q.2 = true → Owns X.K S H q.2 vs []) := by
  obtain ⟨v, f1, h1, h2, _⟩ := C.own.get (slotP_some (dkAt_some h))
  obtain ⟨a, vs, g, rfl, rfl, hl, ha, os⟩ := D.own _ _ _ _ _ _ _ h2
  refine ⟨a, vs, h1, ha, fun hf => ?_⟩
  have z := os.flat hf
  subst z
  exact os
/-- d.get(k, x) -/
def get2P (D : DK κ) (o : Option (List κ × List PV)) (q z : PV) : Option PV := o.bind fun d => if flatO d.2 = true then (D.key q).map fun k => (findG (d.1.zip d.2) k).getD z else none
def dGet2 (D : DK κ) (i : Nat) (g h : Env → R PV) : Env → R PV := fun env => match dkAt D env i with
  | none => .stk
  | some _ => (dFrz g env).bind fun q e1 => (dFrz h e1).bind fun z e2 => o1 (get2P D (dkAt D e2 i) q z) e2
theorem ev_dget2 {D : DK κ} {pn : Pos} (hu : X.A.units + 64 < cLine) (hN : X.N[i]? = some x) (hv : Vis X.env.scope x) (ha : Ev X W io m1 a g) (hb : Ev X W io m2 b h) (hd : (x == ("__debug__" : Str)) = false := by decide) (hcd : (x == ("__classdict__" : Str)) = false := by decide)
    (m : M2 X (.Name x pn) "get" p1 a b pos := by exact ⟨rfl, rfl, rfl, rfl⟩) : Ev X W io (m1 || m2) (.Call (.Attribute (.Name x pn) "get" p1) [a, b] [] pos) (dGet2 D i g h) := by
  refine ⟨(pe_dget2 (Nat.lt_of_le_of_lt (Nat.add_le_add_left (by decide) _) hu) (pe_var hN hv hd hcd) ha.frz.pe hb.frz.pe m).imp fun σ H Q q => ?_, ?_⟩
  · obtain ⟨S, env, fp, C, G, q⟩ := q
    unfold dGet2 at q
    cases ed : dkAt D env i with
    | none => rw [ed] at q; exact q.elim
    | some d0 =>
      rw [ed] at q
      obtain ⟨r, vs0, h1, h2, _⟩ := dk_at C ed
      refine ⟨.ref r, h1, r, rfl, D.isD _ _ _ h2, ?_⟩
      refine Post.bind (ft := []) C Owns.nil G or_l q fun p y S1 H1 env1 fv fp1 o1' _ C1 G1 e1 _ _ h3 => ?_
      have z := dFrz_nil e1 o1'
      subst z
      refine Post.bind (ft := []) C1 (Owns.one o1') G1 or_r h3 fun p2 y2 S2 H2 env2 fv2 fp2 o2 T2 C2 G2 e2 _ _ h4 => ?_
      have z := dFrz_nil e2 o2
      subst z
      have ok := T2.inv.1
      cases eg : get2P D (dkAt D env2 i) p p2 with
      | none => rw [eg] at h4; exact h4.elim
      | some w =>
        rw [eg] at h4
        unfold get2P at eg
        cases ed2 : dkAt D env2 i with
        | none => rw [ed2] at eg; cases eg
        | some d =>
          rw [ed2] at eg
          have eg : (if flatO d.2 = true then (D.key p).map fun k => (findG (d.1.zip d.2) k).getD p2 else none) = some w := eg
          by_cases hf : flatO d.2 = true
          · rw [if_pos hf] at eg
            cases ek : D.key p with
            | none => rw [ek] at eg; cases eg
            | some k =>
              rw [ek] at eg
              cases eg
              obtain ⟨r2, vs, k1, k2, k3⟩ := dk_at C2 ed2
              rw [h1] at k1
              cases k1
              have rel := RelG.zip (ks := d.1) (k3 hf)
              have ff := rel.find (k := k)
              refine ⟨_, D.get _ _ _ _ _ _ _ _ ok ek k2, ?_⟩
              have h4 : Post (RV X.K) X W io (m1 || m2) S2 H2 σ fp2 fp2 (.ok ((findG (d.1.zip d.2) k).getD p2) env2) Q := h4
              cases efd : findG (d.1.zip d.2) k with
              | none =>
                rw [efd] at ff h4
                have ff : valV (d.1.zip vs) k = none := ff
                rw [ff]
                exact Post.fin (ft := []) C2 G2 h4 o2 (New.refl G2.dm)
              | some w =>
                rw [efd] at ff h4
                obtain ⟨v, f1, f2⟩ := ff
                rw [f1]
                exact Post.fin (ft := []) C2 G2 h4 f2 (New.refl G2.dm)
          · rw [if_neg hf] at eg; cases eg
  · intro hm env p env' e
    unfold dGet2 at e
    split at e
    · cases e
    · exact Still.bind (m2 := m1 || m2) ha.st.frz (fun q => Still.bind (m2 := m1 || m2) hb.st.frz (fun z => by intro _ env p env' e; exact (o1_eq e).1) or_r id) or_l id hm env p env' e
/-- d[k], d a name -/
def getNP (D : DK κ) (o : Option (List κ × List PV)) (q : PV) : Option PV := o.bind fun d => if flatO d.2 = true then (D.key q).bind fun k => findG (d.1.zip d.2) k else none
def dGetN (D : DK κ) (i : Nat) (g : Env → R PV) : Env → R PV := fun env => match dkAt D env i with
  | none => .stk
  | some _ => (dFrz g env).bind fun q e1 => o1 (getNP D (dkAt D e1 i) q) e1
theorem ev_dgetN {D : DK κ} {pn : Pos} (hu : X.A.units + 64 < cLine) (hN : X.N[i]? = some x) (hv : Vis X.env.scope x) (ha : Ev X W io m1 a g) (hd : (x == ("__debug__" : Str)) = false := by decide) (hcd : (x == ("__classdict__" : Str)) = false := by decide)
    (hs : NoSl a := by exact fun _ _ => rfl) : Ev X W io m1 (.Subscript (.Name x pn) a pos) (dGetN D i g) := by
  refine ⟨(pe_dget (Nat.lt_of_le_of_lt (Nat.add_le_add_left (by decide) _) hu) (pe_var hN hv hd hcd) ha.frz.pe hs).imp fun σ H Q q => ?_, ?_⟩
  · obtain ⟨S, env, fp, C, G, q⟩ := q
    unfold dGetN at q
    cases ed : dkAt D env i with
    | none => rw [ed] at q; exact q.elim
    | some d0 =>
      rw [ed] at q
      obtain ⟨r, vs0, h1, h2, _⟩ := dk_at C ed
      refine ⟨.ref r, h1, ?_⟩
      refine Post.bind (ft := []) C Owns.nil G id q fun p y S1 H1 env1 fv fp1 o1' _ C1 G1 e1 _ _ h3 => ?_
      have z := dFrz_nil e1 o1'
      subst z
      cases eg : getNP D (dkAt D env1 i) p with
      | none => rw [eg] at h3; exact h3.elim
      | some w =>
        rw [eg] at h3
        unfold getNP at eg
        cases ed2 : dkAt D env1 i with
        | none => rw [ed2] at eg; cases eg
        | some d =>
          rw [ed2] at eg
          have eg : (if flatO d.2 = true then (D.key p).bind fun k => findG (d.1.zip d.2) k else none) = some w := eg
          by_cases hf : flatO d.2 = true
          · rw [if_pos hf] at eg
            cases ek : D.key p with
            | none => rw [ek] at eg; cases eg
            | some k =>
              rw [ek] at eg
              have eg : findG (d.1.zip d.2) k = some w := eg
              obtain ⟨r2, vs, k1, k2, k3⟩ := dk_at C1 ed2
              rw [h1] at k1
              cases k1
              have rel := RelG.zip (ks := d.1) (k3 hf)
              have ff := rel.find (k := k)
              rw [eg] at ff
              obtain ⟨v, f1, f2⟩ := ff
              refine ⟨r, v, rfl, ?_, Post.fin (ft := []) C1 G1 h3 f2 (New.refl G1.dm)⟩
              rw [← f1]
              exact D.get _ _ _ _ _ _ _ _ o1' ek k2
          · rw [if_neg hf] at eg; cases eg
  · intro hm env p env' e
    unfold dGetN at e
    split at e
    · cases e
    · exact Still.bind (m2 := m1) ha.st.frz (fun q => by intro _ env p env' e; exact (o1_eq e).1) id id hm env p env' e
/-- d[k] = v -/
def putDP (D : DK κ) (o : Option (List κ × List PV)) (q p : PV) : Option PV := o.bind fun d => if flatO d.2 = true ∧ d.2.length < 16000000 then (D.key q).map fun k => D.pv ((putG (d.1.zip d.2) k p).map (·.1)) ((putG (d.1.zip d.2) k p).map (·.2)) else none
def sPutD (D : DK κ) (i : Nat) (g f : Env → R PV) : Env → RS := fun env => (dFrz f env).toS fun p e1 => match dkAt D e1 i with
  | none => .stk
  | some _ => (dFrz g e1).toS fun q e2 => match putDP D (dkAt D e2 i) q p with
    | some z => .nx (e2.set i (some z))
    | none => .stk
theorem cl_mutF {p p' : PV} {R : Addr → Prop} {S : Addr → Prop} {H : Hp} {σ : L2.St} {env : Env} {fp fv : List Addr} (C : Cl X.K io S H σ env fp) (G : Good S H (fv ++ fp)) (e : slotP env i = some p) (hp : ∀ v f, Own X.K S H p v f → ∃ a, v = .ref a ∧ f = [a] ∧ R a) :
    ∃ a, σ[i]? = some (some (.ref a)) ∧ R a ∧ ¬ S a ∧ a ∉ fv ∧ ∀ o, Own X.K S (upd H a o) p' (.ref a) [a] → ∃ fp', Cl X.K io S (upd H a o) σ (env.set i (some p')) fp' ∧ Good S (upd H a o) fp' ∧ Step S H (fv ++ fp) S (upd H a o) fp' := by
  obtain ⟨v, f1, f2, h1, h2, h3, h4⟩ := C.own.take (slotP_some e)
  obtain ⟨a, rfl, rfl, hR⟩ := hp v f1 h2
  have pm : (fv ++ fp).Perm (fv ++ ([a] ++ f2)) := List.Perm.append_left fv h4
  have G2 := G.perm pm
  have G3 : Good S H ([a] ++ f2) := G2.right
  have na : a ∉ f2 := fun z => G3.apart a (by simp) z
  have nS : ¬ S a := G3.dj a (by simp)
  have nv : a ∉ fv := fun z => G2.apart a z (by simp)
  refine ⟨a, h1, hR, nS, nv, fun o ow => ?_⟩
  have keep : ∀ b u, b ≠ a → H b = some u → upd H a o b = some u := fun b u n e => by rw [upd_ne n]; exact e
  have o3 : OwnE X.K S (upd H a o) (env.set i none) σ f2 := OwnE.stay (fun b u s e => keep b u (fun z => nS (by rw [← z]; exact s)) e) (fun _ h => h) _ _ _ (fun b u h e => keep b u (fun z => na (by rw [← z]; exact h)) e) h3
  have hi : i < env.length := (List.getElem?_eq_some_iff.mp (slotP_some e)).1
  obtain ⟨f', h5, h6⟩ := OwnE.put (i := i) (p := p') o3 (by rw [List.getElem?_set_self hi]) h1 (f1 := [a]) ow
  rw [List.set_set] at h5
  have al : ∀ b, H b ≠ none → upd H a o b ≠ none := fun b h => by
    by_cases z : b = a
    · rw [z, upd_same]; simp
    · rw [upd_ne z]; exact h
  have G4 : Good S (upd H a o) ([a] ++ f2) := ⟨G3.nd, G3.dj, fun x s => al x (G3.dm x s), fun x z => al x (G3.al x z)⟩
  refine ⟨f', ⟨h5, C.io.stay (fun b u s e => keep b u (fun z => nS (by rw [← z]; exact s)) e) (fun _ h => h)⟩, G4.perm h6.symm, ⟨fun b u e n => ?_, fun _ h => h, fun _ h => .inl h, fun x z => .inl (pm.mem_iff.mpr (List.mem_append_right _ (h6.mem_iff.mp z))), al⟩⟩
  refine keep b u (fun z => n (pm.mem_iff.mpr ?_)) e
  rw [z]
  simp
theorem es_putD {D : DK κ} {pn : Pos} (hu : X.A.units + 64 < cLine) (hN : X.N[i]? = some x) (hv : Vis X.env.scope x) (hb : Ev X W io m2 b g) (ha : Ev X W io m1 a f) (hs : swapsWith a (some (.Subscript (.Name x pn) b p2)) pos.line X.env = pure false := by rfl)
    (hd : (x == ("__debug__" : Str)) = false := by decide) (hcd : (x == ("__classdict__" : Str)) = false := by decide) : Es X W io (.Assign [.Subscript (.Name x pn) b p2] a pos) (sPutD D i g f) := by
  refine ⟨(ps_dput (Nat.lt_of_le_of_lt (Nat.add_le_add_left (by decide) _) hu) (pe_var hN hv hd hcd) hb.frz.pe ha.frz.pe hs).imp fun E σ H q => ?_⟩
  obtain ⟨S, env, fp, C, G, q⟩ := q
  refine PostS.bind C G q fun p v S1 H1 env1 fv fp1 o1 C1 G1 e1 h1 => ?_
  have z := dFrz_nil e1 o1
  subst z
  cases ep : dkAt D env1 i with
  | none => rw [ep] at h1; exact h1.elim
  | some d0 =>
    rw [ep] at h1
    obtain ⟨r, vs0, k1, k2, _⟩ := dk_at C1 ep
    refine ⟨.ref r, k1, ?_⟩
    refine PostS.bindT (ft := []) (Owns.one o1) C1 G1 h1 fun q y S2 H2 env2 fv2 fp2 o2 T2 C2 G2 e2 h2 => ?_
    have z := dFrz_nil e2 o2
    subst z
    have ov := T2.inv.1
    have G2 : Good S2 H2 ([] ++ fp2) := G2
    cases eg : putDP D (dkAt D env2 i) q p with
    | none => rw [eg] at h2; exact h2.elim
    | some z =>
      rw [eg] at h2
      unfold putDP at eg
      cases ed2 : dkAt D env2 i with
      | none => rw [ed2] at eg; cases eg
      | some d =>
        rw [ed2] at eg
        have eg : (if flatO d.2 = true ∧ d.2.length < 16000000 then (D.key q).map fun k => D.pv ((putG (d.1.zip d.2) k p).map (·.1)) ((putG (d.1.zip d.2) k p).map (·.2)) else none) = some z := eg
        by_cases hf : flatO d.2 = true ∧ d.2.length < 16000000
        · rw [if_pos hf] at eg
          cases ek : D.key q with
          | none => rw [ek] at eg; cases eg
          | some k =>
            rw [ek] at eg
            cases eg
            obtain ⟨r2, hs2, ⟨vs, hl, ha2, os⟩, nS, _, fin⟩ := cl_mutF (p' := D.pv ((putG (d.1.zip d.2) k p).map (·.1)) ((putG (d.1.zip d.2) k p).map (·.2))) (R := fun a => ∃ vs, d.1.length = vs.length ∧ H2 a = some (D.ho (d.1.zip vs)) ∧ Owns X.K S2 H2 d.2 vs []) (fv := []) C2 G2 (dkAt_some ed2) fun v f ow => by
              obtain ⟨a, vs, g, rfl, rfl, hl, ha, os⟩ := D.own _ _ _ _ _ _ _ ow
              have z := os.flat hf.1
              subst z
              exact ⟨a, rfl, rfl, vs, hl, ha, os⟩
            rw [k1] at hs2
            cases hs2
            have hlen : (d.1.zip vs).length < sizeLine := by
              rw [List.length_zip, hl, Nat.min_self, ← os.length]
              exact len_line hf.2
            have rel := RelG.zip (ks := d.1) (os)
            have rel2 := rel.put (k := k) (p := p) (v := v) ov
            obtain ⟨q1, q2⟩ := rel2.owns
            refine ⟨r, _, rfl, D.put _ _ _ _ _ _ _ _ _ o2 ek ha2 hlen, ?_⟩
            have st : ∀ {ps : List PV} {us : List V}, Owns X.K S2 H2 ps us [] → Owns X.K S2 (upd H2 r (D.ho (putK (d.1.zip vs) k v))) ps us [] := fun o => upd_stay o nS (fun h => nomatch h)
            obtain ⟨fp', c3, g3, s3⟩ := fin (D.ho (putK (d.1.zip vs) k v)) (D.ownR _ _ _ _ _ _ ((putK (d.1.zip vs) k v).map (·.2)) (by rw [q1]; simp) (by rw [q1, zip_fst_snd', upd_same]) (st q2))
            exact h2 σ S2 _ fp' c3 g3 s3
        · rw [if_neg hf] at eg; cases eg
end
end L3

namespace L3
open PySem PySem.Spec PyProof.Rows L2
/-! ### list(range(n)) -/
theorem owns_intsF {α : Type} {K : PySem.W.Frag} {S : Addr → Prop} {H : Hp} (g : α → Int) : ∀ l : List α, Owns K S H (l.map fun x => PV.int (g x)) (l.map fun x => V.int (g x)) []
  | [] => ⟨rfl, rfl⟩
  | x :: l => Owns.cons ⟨rfl, rfl⟩ (owns_intsF g l)
def lstRP : PV → Option PV
  | .int j => if 0 ≤ j ∧ j ≤ 16000000 then some (.mls (intsR 0 j.toNat)) else none
  | _ => none
def dLstR (f : Env → R PV) : Env → R PV := fun env => (dFrz f env).bind fun p e => o1 (lstRP p) e
section
variable {X : Cx} {W : WX} {io : Io} {m : Bool} {a : Expr} {f : Env → R PV} {pos p p2 pos2 : Pos}
theorem ev_lstR (hc : X.calm = true) (hg : Gl X "list") (hm : X.mg "list" = none) (hg2 : Gl X "range") (hm2 : X.mg "range" = none) (ha : Ev X W io m a f) (na : starEach [a] X.env = (false, eval a X.env) :: starEach [] X.env := by rfl)
    (nb : starEach [.Call (.Name "range" p2) [a] [] pos2] X.env = (false, eval (.Call (.Name "range" p2) [a] [] pos2) X.env) :: starEach [] X.env := by rfl) : Ev X W io m (.Call (.Name "list" p) [.Call (.Name "range" p2) [a] [] pos2] [] pos) (dLstR f) := by
  refine ⟨(pe_listRg hc hg hm (prg_1 hg2 hm2 ha.frz.pe na) nb).imp fun σ H Q q => ?_, Still.bind (m2 := m) ha.st.frz (fun _ => Still.o1) id id⟩
  obtain ⟨S, env, fp, C, G, q⟩ := q
  refine Post.bind (ft := []) C Owns.nil G id q fun p x S1 H1 env1 fv fp1 o1' _ C1 G1 e1 _ _ h1 => ?_
  have z := dFrz_nil e1 o1'
  subst z
  cases p with
  | int j =>
    obtain ⟨rfl, _⟩ := o1'
    have h1 : Post (RV X.K) X W io m S1 H1 σ fp1 fp1 (o1 (if 0 ≤ j ∧ j ≤ 16000000 then some (.mls (intsR 0 j.toNat)) else none) env1) Q := h1
    by_cases hj : 0 ≤ j ∧ j ≤ 16000000
    · rw [if_pos hj] at h1
      refine ⟨j, rfl, RgOk.of_le (by omega) (by omega) (by omega) (by omega), fun q hq => ?_⟩
      have n := New.own (o := .lst (rgV 0 j)) G1.dm hq
      refine Post.fin (ft := []) C1 G1 h1 ⟨q, rgV 0 j, [], rfl, rfl, upd_same, ?_⟩ n
      unfold intsR rgV
      rw [Int.sub_zero]
      exact owns_intsF (fun (i : Nat) => (0 : Int) + (i : Int)) _
    · rw [if_neg hj] at h1; exact h1.elim
  | _ => exact h1.elim
end
end L3

namespace L3
open PySem PySem.Spec PyProof.Rows L2
/-! ### parts of what a name holds -/
def pget : PV → List Nat → Option PV
  | p, [] => some p
  | .mls l, j :: ks => match l[j]? with
    | some q => pget q ks
    | none => none
  | _, _ :: _ => none
def pset : PV → List Nat → PV → PV
  | _, [], q => q
  | .mls l, j :: ks, q => .mls (match l[j]? with
    | some p => l.set j (pset p ks q)
    | none => l)
  | p, _ :: _, _ => p
def AtP (H : Hp) : V → List Nat → V → Prop
  | v, [], u => u = v
  | v, j :: ks, u => ∃ a vs w, v = .ref a ∧ H a = some (.lst vs) ∧ vs[j]? = some w ∧ AtP H w ks u
section
variable {K : PySem.W.Frag} {S S' : Addr → Prop} {H H' : Hp}
theorem AtP.same {H H' : Hp} (s : L2.Same H H') : ∀ {ks : List Nat} {v u : V}, AtP H v ks u → AtP H' v ks u
  | [], _, _, h => h
  | _ :: _, _, _, ⟨a, vs, w, e, h1, h2, h3⟩ => ⟨a, vs, w, e, s _ _ h1, h2, AtP.same s h3⟩
theorem AtP.eq {H : Hp} : ∀ {ks : List Nat} {v u u' : V}, AtP H v ks u → AtP H v ks u' → u = u'
  | [], _, _, _, h, h' => by cases h; cases h'; rfl
  | _ :: _, _, _, _, ⟨a, vs, w, e, h1, h2, h3⟩, ⟨a', vs', w', e', h1', h2', h3'⟩ => by
    subst e
    cases e'
    rw [h1] at h1'
    cases h1'
    rw [h2] at h2'
    cases h2'
    exact AtP.eq h3 h3'
theorem AtP.snoc {H : Hp} {a : Addr} {vs : List V} {j : Nat} {w : V} (h1 : H a = some (.lst vs)) (h2 : vs[j]? = some w) : ∀ {ks : List Nat} {v : V}, AtP H v ks (.ref a) → AtP H v (ks ++ [j]) w
  | [], _, h => ⟨a, vs, w, h.symm, h1, h2, rfl⟩
  | _ :: _, _, ⟨b, us, u, e, g1, g2, g3⟩ => ⟨b, us, u, e, g1, g2, AtP.snoc h1 h2 g3⟩
theorem pget_snoc {l : List PV} {j : Nat} {q : PV} (hj : l[j]? = some q) : ∀ {ks : List Nat} {p : PV}, pget p ks = some (.mls l) → pget p (ks ++ [j]) = some q
  | [], p, h => by
    have e : p = .mls l := by cases p <;> (cases h; try rfl)
    subst e
    show (match l[j]? with
      | some q => pget q []
      | none => none) = some q
    rw [hj]
    cases q <;> rfl
  | k :: ks, .mls m, h => by
    have h : (match m[k]? with
      | some q => pget q ks
      | none => none) = some (.mls l) := h
    show (match m[k]? with
      | some q => pget q (ks ++ [j])
      | none => none) = some q
    cases e : m[k]? with
    | none => rw [e] at h; cases h
    | some r => rw [e] at h; exact pget_snoc hj h
  | _ :: _, .non, h => nomatch h
  | _ :: _, .bl _, h => nomatch h
  | _ :: _, .int _, h => nomatch h
  | _ :: _, .str _, h => nomatch h
  | _ :: _, .tup _, h => nomatch h
  | _ :: _, .lst _, h => nomatch h
  | _ :: _, .scr _, h => nomatch h
  | _ :: _, .mdk _ _, h => nomatch h
  | _ :: _, .mdt _ _, h => nomatch h
  | _ :: _, .dck _ _, h => nomatch h
  | _ :: _, .dct _ _, h => nomatch h
/-- one part of a list taken out, and something put in its place -/
theorem Owns.hole : ∀ {ps : List PV} {vs : List V} {g : List Addr} {j : Nat} {p : PV}, Owns K S H ps vs g → ps[j]? = some p → ∃ w gj gr, vs[j]? = some w ∧ Own K S H p w gj ∧ g.Perm (gj ++ gr) ∧
    ∀ (S' : Addr → Prop) (H' : Hp) (p' : PV) (gj' : List Addr), (∀ b o, b ∈ gr → H b = some o → H' b = some o) → (∀ b o, S b → H b = some o → H' b = some o) → (∀ b, S b → S' b) → Own K S' H' p' w gj' → ∃ g', Owns K S' H' (ps.set j p') vs g' ∧ g'.Perm (gj' ++ gr)
  | [], _, _, _, _, _, e => by simp at e
  | q :: ps, _, _, 0, p, h, e => by
    obtain ⟨w, r, g1, g2, rfl, rfl, a1, a2⟩ := h
    have e : q = p := by simpa using e
    subst e
    refine ⟨w, g1, g2, rfl, a1, List.Perm.refl _, fun S' H' p' gj' fr sf su o => ⟨gj' ++ g2, ⟨w, r, gj', g2, rfl, rfl, o, Owns.stay sf su _ _ _ fr a2⟩, List.Perm.refl _⟩⟩
  | q :: ps, _, _, j + 1, p, h, e => by
    obtain ⟨w, r, g1, g2, rfl, rfl, a1, a2⟩ := h
    obtain ⟨u, gj, gr, h1, h2, h3, h4⟩ := Owns.hole a2 (j := j) (p := p) (by simpa using e)
    refine ⟨u, gj, g1 ++ gr, by simpa using h1, h2, ?_, fun S' H' p' gj' fr sf su o => ?_⟩
    · refine (List.Perm.append_left g1 h3).trans ?_
      rw [← List.append_assoc, ← List.append_assoc]
      exact List.Perm.append_right gr List.perm_append_comm
    · obtain ⟨g', o', pm⟩ := h4 S' H' p' gj' (fun b ob hb => fr b ob (List.mem_append_right _ hb)) sf su o
      refine ⟨g1 ++ g', ⟨w, r, g1, g', rfl, rfl, Own.stay sf su _ _ _ (fun b ob hb => fr b ob (List.mem_append_left _ hb)) a1, o'⟩, ?_⟩
      refine (List.Perm.append_left g1 pm).trans ?_
      rw [← List.append_assoc, ← List.append_assoc]
      exact List.Perm.append_right gr List.perm_append_comm
theorem Own.hole : ∀ {ks : List Nat} {p q : PV} {v : V} {f : List Addr}, Own K S H p v f → pget p ks = some q → ∃ u g r, AtP H v ks u ∧ Own K S H q u g ∧ f.Perm (g ++ r) ∧
    ∀ (S' : Addr → Prop) (H' : Hp) (q' : PV) (g' : List Addr), (∀ b o, b ∈ r → H b = some o → H' b = some o) → (∀ b o, S b → H b = some o → H' b = some o) → (∀ b, S b → S' b) → Own K S' H' q' u g' → ∃ f', Own K S' H' (pset p ks q') v f' ∧ f'.Perm (g' ++ r)
  | [], p, q, v, f, h, e => by
    have e : p = q := by cases p <;> (cases e; try rfl)
    subst e
    refine ⟨v, f, [], rfl, h, by rw [List.append_nil], fun S' H' q' g' _ _ _ o => ⟨g', ?_, by rw [List.append_nil]⟩⟩
    have z : pset p [] q' = q' := by cases p <;> rfl
    rw [z]
    exact o
  | j :: ks, .mls l, q, v, f, h, e => by
    obtain ⟨a, vs, g0, rfl, rfl, ha, os⟩ := h
    have e : (match l[j]? with
      | some q => pget q ks
      | none => none) = some q := e
    cases el : l[j]? with
    | none => rw [el] at e; cases e
    | some pj =>
      rw [el] at e
      obtain ⟨w, gj, gr, h1, h2, h3, h4⟩ := Owns.hole os el
      obtain ⟨u, g, r, k1, k2, k3, k4⟩ := Own.hole h2 e
      refine ⟨u, g, a :: (r ++ gr), ⟨a, vs, w, rfl, ha, h1, k1⟩, k2, ?_, fun S' H' q' g' fr sf su o => ?_⟩
      · refine (List.Perm.cons a (h3.trans (List.Perm.append_right gr k3))).trans ?_
        rw [List.append_assoc]
        exact List.perm_middle.symm
      · obtain ⟨gj', o', pm⟩ := k4 S' H' q' g' (fun b ob hb => fr b ob (List.mem_cons_of_mem _ (List.mem_append_left _ hb))) sf su o
        obtain ⟨gg, oo, pm2⟩ := h4 S' H' (pset pj ks q') gj' (fun b ob hb => fr b ob (List.mem_cons_of_mem _ (List.mem_append_right _ hb))) sf su o'
        have z : pset (.mls l) (j :: ks) q' = .mls (l.set j (pset pj ks q')) := by
          show PV.mls (match l[j]? with
            | some p => l.set j (pset p ks q')
            | none => l) = _
          rw [el]
        rw [z]
        refine ⟨a :: gg, ⟨a, vs, gg, rfl, rfl, fr a _ List.mem_cons_self ha, oo⟩, ?_⟩
        refine (List.Perm.cons a (pm2.trans (List.Perm.append_right gr pm))).trans ?_
        rw [List.append_assoc]
        exact List.perm_middle.symm
  | _ :: _, .non, _, _, _, _, h => nomatch h
  | _ :: _, .bl _, _, _, _, _, h => nomatch h
  | _ :: _, .int _, _, _, _, _, h => nomatch h
  | _ :: _, .str _, _, _, _, _, h => nomatch h
  | _ :: _, .tup _, _, _, _, _, h => nomatch h
  | _ :: _, .lst _, _, _, _, _, h => nomatch h
  | _ :: _, .scr _, _, _, _, _, h => nomatch h
  | _ :: _, .mdk _ _, _, _, _, _, h => nomatch h
  | _ :: _, .mdt _ _, _, _, _, _, h => nomatch h
  | _ :: _, .dck _ _, _, _, _, _, h => nomatch h
  | _ :: _, .dct _ _, _, _, _, _, h => nomatch h
/-- THE CHANGE of a part -/
theorem cl_mutP {σ : L2.St} {io : Io} {env : Env} {fp fv : List Addr} {i : Nat} {ks : List Nat} {p0 : PV} {l : List PV} (C : Cl K io S H σ env fp) (G : Good S H (fv ++ fp)) (e : slotP env i = some p0) (ek : pget p0 ks = some (.mls l)) :
    ∃ v0 a vs g, σ[i]? = some (some v0) ∧ AtP H v0 ks (.ref a) ∧ H a = some (.lst vs) ∧ Owns K S H l vs g ∧ (¬ S a ∧ a ∉ g ∧ a ∉ fv ∧ g.Nodup ∧ fv.Nodup ∧ (∀ x, x ∈ g → x ∉ fv)) ∧ ∀ l' vs' g', Owns K S (upd H a (.lst vs')) l' vs' g' → (∀ x, x ∈ g' → x ∈ g ∨ x ∈ fv) → g'.Nodup →
      ∃ fp', Cl K io S (upd H a (.lst vs')) σ (env.set i (some (pset p0 ks (.mls l')))) fp' ∧ Good S (upd H a (.lst vs')) fp' ∧ Step S H (fv ++ fp) S (upd H a (.lst vs')) fp' := by
  obtain ⟨v, f1, f2, h1, h2, h3, h4⟩ := C.own.take (slotP_some e)
  obtain ⟨u, g1, r, k1, k2, k3, k4⟩ := Own.hole h2 ek
  obtain ⟨a, vs, g, rfl, rfl, ha, os⟩ := k2
  have pm0 : fp.Perm (a :: g ++ (r ++ f2)) := (h4.trans (List.Perm.append_right f2 k3)).trans (by rw [List.append_assoc])
  have pm : (fv ++ fp).Perm (fv ++ (a :: g ++ (r ++ f2))) := List.Perm.append_left fv pm0
  have G2 := G.perm pm
  have G3 : Good S H (a :: g ++ (r ++ f2)) := G2.right
  have na : a ∉ r ++ f2 := fun z => G3.apart a List.mem_cons_self z
  have nS : ¬ S a := G3.dj a (List.mem_append_left _ List.mem_cons_self)
  have nd3 := (List.nodup_append.mp G3.nd).1
  refine ⟨v, a, vs, g, h1, k1, ha, os, ⟨nS, (List.nodup_cons.mp nd3).1, fun z => G2.apart a z (List.mem_append_left _ List.mem_cons_self), (List.nodup_cons.mp nd3).2, G2.left.nd, fun x hx z => G2.apart x z (List.mem_append_left _ (List.mem_cons_of_mem _ hx))⟩, fun l' vs' g' o' sg nd => ?_⟩
  have sS : ∀ b o, S b → H b = some o → upd H a (.lst vs') b = some o := fun b o s e => by rw [upd_ne fun z => nS (by rw [← z]; exact s)]; exact e
  have o3 : OwnE K S (upd H a (.lst vs')) (env.set i none) σ f2 := OwnE.stay sS (fun _ h => h) _ _ _ (fun b o h e => by rw [upd_ne fun z => na (by rw [← z]; exact List.mem_append_right _ h)]; exact e) h3
  have hi : i < env.length := (List.getElem?_eq_some_iff.mp (slotP_some e)).1
  obtain ⟨f1', o4, pm4⟩ := k4 S (upd H a (.lst vs')) (.mls l') (a :: g') (fun b o h e => by rw [upd_ne fun z => na (by rw [← z]; exact List.mem_append_left _ h)]; exact e) sS (fun _ h => h) ⟨a, vs', g', rfl, rfl, upd_same, o'⟩
  obtain ⟨f', h5, h6⟩ := OwnE.put (i := i) (p := pset p0 ks (.mls l')) o3 (by rw [List.getElem?_set_self hi]) h1 (f1 := f1') o4
  rw [List.set_set] at h5
  have ng : a ∉ g' := fun z => by
    rcases sg a z with z | z
    · exact (List.nodup_cons.mp nd3).1 z
    · exact G2.apart a z (List.mem_append_left _ List.mem_cons_self)
  have gf : ∀ x, x ∈ g' → x ∈ r ++ f2 → False := fun x z1 z2 => by
    rcases sg x z1 with z | z
    · exact G3.apart x (List.mem_cons_of_mem _ z) z2
    · exact G2.apart x z (List.mem_append_right _ z2)
  have al : ∀ b, H b ≠ none → upd H a (.lst vs') b ≠ none := fun b h => by
    by_cases z : b = a
    · rw [z, upd_same]; simp
    · rw [upd_ne z]; exact h
  have old : ∀ x, x ∈ a :: (g' ++ (r ++ f2)) → x ∈ fv ++ (a :: g ++ (r ++ f2)) := fun x z => by
    rcases List.mem_cons.mp z with z | z
    · exact List.mem_append_right _ (List.mem_append_left _ (by rw [z]; exact List.mem_cons_self))
    · rcases List.mem_append.mp z with z | z
      · rcases sg x z with q | q
        · exact List.mem_append_right _ (List.mem_append_left _ (List.mem_cons_of_mem _ q))
        · exact List.mem_append_left _ q
      · exact List.mem_append_right _ (List.mem_append_right _ z)
  have G4 : Good S (upd H a (.lst vs')) (a :: (g' ++ (r ++ f2))) := by
    refine ⟨List.nodup_cons.mpr ⟨fun z => (List.mem_append.mp z).elim ng na, List.nodup_append.mpr ⟨nd, (List.nodup_append.mp G3.nd).2.1, fun x h y h' e => gf x h (by rw [e]; exact h')⟩⟩, fun x z => G2.dj x (old x z), fun x s => al x (G2.dm x s), fun x z => al x (G2.al x (old x z))⟩
  have h7 : f'.Perm (a :: (g' ++ (r ++ f2))) := (h6.trans (List.Perm.append_right f2 pm4)).trans (by rw [List.append_assoc]; exact List.Perm.refl _)
  refine ⟨f', ⟨h5, C.io.stay sS (fun _ h => h)⟩, G4.perm h7.symm, ⟨fun b o e n => ?_, fun _ h => h, fun _ h => .inl h, fun x z => .inl (pm.mem_iff.mpr (old x (h7.mem_iff.mp z))), al⟩⟩
  rw [upd_ne]
  · exact e
  · intro z
    exact n (pm.mem_iff.mpr (by rw [z]; exact List.mem_append_right _ (List.mem_append_left _ List.mem_cons_self)))
/-- an item in the place of another; it brings what it owns -/
theorem Owns.setG {p : PV} {v : V} {fv : List Addr} (ov : Own K S H p v fv) (nf : fv.Nodup) : ∀ {ps : List PV} {vs : List V} {g : List Addr} (j : Nat), g.Nodup → (∀ x, x ∈ g → x ∉ fv) → Owns K S H ps vs g → ∃ g', Owns K S H (ps.set j p) (vs.set j v) g' ∧ (∀ x, x ∈ g' → x ∈ g ∨ x ∈ fv) ∧ g'.Nodup
  | [], _, g, j, ng, dj, h => by
    obtain ⟨rfl, rfl⟩ := h
    exact ⟨[], ⟨rfl, rfl⟩, (by intro x hx; cases hx), List.nodup_nil⟩
  | q :: ps, _, _, 0, ng, dj, h => by
    obtain ⟨w, r, g1, g2, rfl, rfl, a1, a2⟩ := h
    refine ⟨fv ++ g2, ⟨v, r, fv, g2, rfl, rfl, ov, a2⟩, fun x hx => (List.mem_append.mp hx).elim .inr fun z => .inl (List.mem_append_right _ z), ?_⟩
    exact List.nodup_append.mpr ⟨nf, (List.nodup_append.mp ng).2.1, fun x h y h' e => dj x (List.mem_append_right _ (by rw [e]; exact h')) h⟩
  | q :: ps, _, _, j + 1, ng, dj, h => by
    obtain ⟨w, r, g1, g2, rfl, rfl, a1, a2⟩ := h
    obtain ⟨g', h1, h2, h3⟩ := Owns.setG ov nf j (List.nodup_append.mp ng).2.1 (fun x hx => dj x (List.mem_append_right _ hx)) a2
    refine ⟨g1 ++ g', ⟨w, r.set j v, g1, g', rfl, rfl, a1, h1⟩, fun x hx => ?_, List.nodup_append.mpr ⟨(List.nodup_append.mp ng).1, h3, fun x hx y hy e => ?_⟩⟩
    · rcases List.mem_append.mp hx with z | z
      · exact .inl (List.mem_append_left _ z)
      · exact (h2 x z).imp (List.mem_append_right _) id
    · subst e
      rcases h2 x hy with z | z
      · exact (List.nodup_append.mp ng).2.2 x hx x z rfl
      · exact dj x (List.mem_append_left _ hx) z
end
end L3

namespace L3
open PySem PySem.Spec PyProof.Rows L2
/-! ### a part that is only looked at -/
abbrev RWk (K : PySem.W.Frag) : Rl PV V := fun S H p v f => f = [] ∧ ∃ g, Own K S H p v g
structure Eq1 (X : Cx) (W : WX) (io : Io) (e : Expr) (f : Env → R PV) : Prop where
  pe : PE X e (sem (RWk X.K) X W io false f)
  st : Still false f
def idxW (p q : PV) : Option PV := match q with
  | .int k => match p with
    | .mls l => L2.atI l k
    | _ => idxP p q
  | _ => none
def dW (i : Nat) : Env → R PV := fun env => match slotP env i with
  | some p => .ok p env
  | none => .stk
def dIdxW (f g : Env → R PV) : Env → R PV := fun env => (f env).bind fun p e1 => (dFrz g e1).bind fun q e2 => o1 (idxW p q) e2
/-- a part's value -/
def dUW (f : Env → R PV) : Env → R PV := fun env => (f env).bind fun p e => if isOwn p = true then .stk else .ok p e
theorem ixN_lt {n : Nat} {k : Int} {j : Nat} (h : ixN n k = some j) : j < n := by
  unfold ixN at h
  by_cases h0 : 0 ≤ k
  · simp only [h0, if_true] at h
    by_cases h1 : k < n
    · simp only [h1, if_true] at h
      injection h with h
      omega
    · simp [h1] at h
  · simp only [h0, if_false] at h
    by_cases h1 : -(n : Int) ≤ k
    · simp only [h1, if_true] at h
      injection h with h
      omega
    · simp [h1] at h
theorem at_atI {α : Type} {xs : List α} {i : Int} {j : Nat} {x : α} (h : ixN xs.length i = some j) (e : xs[j]? = some x) : L2.atI xs i = some x := by
  unfold L2.atI
  rw [h]
  exact e
section
variable {K : PySem.W.Frag} {S : Addr → Prop} {H : Hp}
theorem rd_idxW {p q z : PV} {v w : V} {g : List Addr} {Q : VK} (o1 : Own K S H p v g) (o2 : Own K S H q w []) (e : idxW p q = some z) (k : ∀ u f, Own K S H z u f → Q u H) : rIx K v w H Q := by
  cases q with
  | int i =>
    obtain ⟨rfl, _⟩ := o2
    cases p with
    | mls l =>
      obtain ⟨a, vs, g0, rfl, rfl, ha, os⟩ := o1
      have e : L2.atI l i = some z := e
      obtain ⟨j, h1, h2⟩ := atI_at e
      obtain ⟨u, fu, h3, h4⟩ := os.getG h2
      refine .inl ⟨a, vs, i, u, rfl, rfl, SqL.of ha, ?_, k u fu h4⟩
      rw [os.length] at h1
      exact at_atI h1 h3
    | tup l => have z := o1.nonown rfl; subst z; exact rd_idx (q := .int i) o1 ⟨rfl, rfl⟩ e fun u o => k u [] o
    | lst l => have z := o1.nonown rfl; subst z; exact rd_idx (q := .int i) o1 ⟨rfl, rfl⟩ e fun u o => k u [] o
    | scr l => have z := o1.nonown rfl; subst z; exact rd_idx (q := .int i) o1 ⟨rfl, rfl⟩ e fun u o => k u [] o
    | str l => have z := o1.nonown rfl; subst z; exact rd_idx (q := .int i) o1 ⟨rfl, rfl⟩ e fun u o => k u [] o
    | _ => cases e
  | _ => cases e
end
section
variable {X : Cx} {W : WX} {io : Io} {m m1 m2 m3 : Bool} {a b c : Expr} {f g h : Env → R PV} {pos : Pos} {i : Nat} {x : Str}
theorem eq_name (hN : X.N[i]? = some x) (hv : Vis X.env.scope x) (hd : (x == ("__debug__" : Str)) = false := by decide) (hcd : (x == ("__classdict__" : Str)) = false := by decide) : Eq1 X W io (.Name x pos) (dW i) := by
  refine ⟨(pe_var hN hv hd hcd).imp fun σ H Q q => ?_, fun _ env p env' e => ?_⟩
  · obtain ⟨S, env, fp, C, G, q⟩ := q
    unfold dW at q
    cases ep : slotP env i with
    | none => rw [ep] at q; exact q.elim
    | some p =>
      rw [ep] at q
      obtain ⟨v, f, h1, h2, h3⟩ := C.own.get (slotP_some ep)
      exact ⟨v, h1, q v S H [] fp ⟨rfl, f, h2⟩ C G Step.refl fun _ => ⟨fun _ _ e => e, rfl⟩⟩
  · unfold dW at e
    cases ep : slotP env i with
    | none => rw [ep] at e; cases e
    | some p => rw [ep] at e; cases e; rfl
theorem eq_ix (ha : Eq1 X W io a f) (hb : Ev X W io false b g) (hs : PlainIx b := by exact fun _ _ => rfl) : Eq1 X W io (.Subscript a b pos) (dIdxW f g) := by
  refine ⟨(pe_ix ix_seq ha.pe hb.frz.pe hs).imp fun σ H Q q => ?_, Still.bind (m2 := false) ha.st (fun _ => Still.bind (m2 := false) hb.frz.st (fun _ => Still.o1) id id) id id⟩
  obtain ⟨S, env, fp, C, G, q⟩ := q
  refine Post.bind (ft := []) C Owns.nil G id q fun p v S1 H1 env1 fv fp1 o1' _ C1 G1 e1 _ _ h1 => ?_
  obtain ⟨rfl, gp, o1'⟩ := o1'
  have G1 : Good S1 H1 fp1 := G1
  refine Post.bind (ft := []) C1 Owns.nil G1 id h1 fun q y S2 H2 env2 fv2 fp2 o2 _ C2 G2 e2 su hm2 h2 => ?_
  have z := dFrz_nil e2 o2
  subst z
  have sm := (hm2 rfl).1
  have o1' : Own X.K S2 H2 p v gp := Own.stay (fun b o _ e => sm b o e) su _ _ _ (fun b o _ e => sm b o e) o1'
  cases ei : idxW p q with
  | none => rw [ei] at h2; exact h2.elim
  | some z =>
    rw [ei] at h2
    exact rd_idxW o1' o2 ei fun u fu ou => Post.fin (ft := []) C2 G2 h2 ⟨rfl, fu, ou⟩ (New.refl G2.dm)
theorem ev_ofW (ha : Eq1 X W io a f) : Ev X W io false a (dUW f) := by
  refine ⟨ha.pe.imp fun σ H Q q => ?_, Still.bind (m2 := false) ha.st (fun p => ?_) id id⟩
  · obtain ⟨S, env, fp, C, G, q⟩ := q
    refine Post.bind (ft := []) C Owns.nil G id q fun p v S1 H1 env1 fv fp1 o1' _ C1 G1 e1 _ _ h1 => ?_
    obtain ⟨rfl, gp, o1'⟩ := o1'
    have h1 : Post (RV X.K) X W io false S1 H1 σ fp1 ([] ++ ([] ++ fp1)) (if isOwn p = true then .stk else .ok p env1) Q := h1
    by_cases no : isOwn p = true
    · rw [if_pos no] at h1; exact h1.elim
    · rw [if_neg no] at h1
      have z := o1'.nonown (by simpa using no)
      subst z
      exact Post.fin (ft := []) C1 G1 h1 o1' (New.refl G1.dm)
  · intro _ env p' env' e
    have e : (if isOwn p = true then R.stk else .ok p env) = R.ok p' env' := e
    by_cases no : isOwn p = true
    · rw [if_pos no] at e; cases e
    · rw [if_neg no] at e; cases e; rfl
/-- len of a part -/
def lenW : PV → Option PV
  | .mls l => some (.int l.length)
  | p => lenP p
end
/-! ### a place in what a name holds -/
abbrev RP (σ : L2.St) (i : Nat) : Rl (List Nat) V := fun _ H ks v f => f = [] ∧ ∃ v0, σ[i]? = some (some v0) ∧ AtP H v0 ks v
structure Ep (X : Cx) (W : WX) (io : Io) (i : Nat) (e : Expr) (f : Env → R (List Nat)) : Prop where
  pe : PE X e fun σ H Q => sem (RP σ i) X W io false f σ H Q
  st : Still false f
def pN (i : Nat) : Env → R (List Nat) := fun env => match slotP env i with
  | some _ => .ok [] env
  | none => .stk
def pIx (i : Nat) (f : Env → R (List Nat)) (g : Env → R PV) : Env → R (List Nat) := fun env => (f env).bind fun ks e1 => (dFrz g e1).bind fun q e2 => match q, (slotP e2 i).bind (pget · ks) with
  | .int k, some (.mls l) => o1 ((ixN l.length k).map fun j => ks ++ [j]) e2
  | _, _ => .stk
def sPutP (i : Nat) (π : Env → R (List Nat)) (g f : Env → R PV) : Env → RS := fun env => (f env).toS fun p e1 => (π e1).toS fun ks e2 => (dFrz g e2).toS fun q e3 => match q, slotP e3 i with
  | .int k, some p0 => match pget p0 ks with
    | some (.mls l) => match ixN l.length k with
      | some j => .nx (e3.set i (some (pset p0 ks (.mls (l.set j p)))))
      | none => .stk
    | _ => .stk
  | _, _ => .stk
section
variable {X : Cx} {W : WX} {io : Io} {m m1 m2 m3 : Bool} {a b c : Expr} {f g h : Env → R PV} {pos p2 : Pos} {i : Nat} {x : Str} {π : Env → R (List Nat)}
theorem ep_name (hN : X.N[i]? = some x) (hv : Vis X.env.scope x) (hd : (x == ("__debug__" : Str)) = false := by decide) (hcd : (x == ("__classdict__" : Str)) = false := by decide) : Ep X W io i (.Name x pos) (pN i) := by
  refine ⟨(pe_var hN hv hd hcd).imp fun σ H Q q => ?_, fun _ env p env' e => ?_⟩
  · obtain ⟨S, env, fp, C, G, q⟩ := q
    unfold pN at q
    cases ep : slotP env i with
    | none => rw [ep] at q; exact q.elim
    | some p =>
      rw [ep] at q
      obtain ⟨v, f, h1, h2, h3⟩ := C.own.get (slotP_some ep)
      exact ⟨v, h1, q v S H [] fp ⟨rfl, v, h1, rfl⟩ C G Step.refl fun _ => ⟨fun _ _ e => e, rfl⟩⟩
  · unfold pN at e
    cases ep : slotP env i with
    | none => rw [ep] at e; cases e
    | some p => rw [ep] at e; cases e; rfl
theorem ep_ix (ha : Ep X W io i a π) (hb : Ev X W io false b g) (hs : PlainIx b := by exact fun _ _ => rfl) : Ep X W io i (.Subscript a b pos) (pIx i π g) := by
  refine ⟨(pe_ix ix_seq ha.pe hb.frz.pe hs).imp fun σ H Q q => ?_, Still.bind (m2 := false) ha.st (fun ks => Still.bind (m2 := false) hb.frz.st (fun q => ?_) id id) id id⟩
  · obtain ⟨S, env, fp, C, G, q⟩ := q
    refine Post.bind (ft := []) C Owns.nil G id q fun ks v S1 H1 env1 fv fp1 o1' _ C1 G1 e1 _ _ h1 => ?_
    obtain ⟨rfl, v0, hv0, at1⟩ := o1'
    have G1 : Good S1 H1 fp1 := G1
    refine Post.bind (ft := []) C1 Owns.nil G1 id h1 fun q y S2 H2 env2 fv2 fp2 o2 _ C2 G2 e2 su hm2 h2 => ?_
    have z := dFrz_nil e2 o2
    subst z
    have G2 : Good S2 H2 fp2 := G2
    have at2 := at1.same (hm2 rfl).1
    cases q with
    | int k =>
      obtain ⟨rfl, _⟩ := o2
      cases es : slotP env2 i with
      | none => rw [es] at h2; exact h2.elim
      | some p0 =>
        rw [es] at h2
        have h2 : Post (RP σ i) X W io false S2 H2 σ fp2 fp2 (match (PV.int k), pget p0 ks with
          | .int k, some (.mls l) => o1 ((ixN l.length k).map fun j => ks ++ [j]) env2
          | _, _ => .stk) Q := h2
        cases ek : pget p0 ks with
        | none => rw [ek] at h2; exact h2.elim
        | some w =>
          rw [ek] at h2
          cases w with
          | mls l =>
            obtain ⟨v1, a1, vs, g1, h5, h6, h7, h8, _, _⟩ := cl_mutP (fv := []) C2 G2 es ek
            rw [hv0] at h5
            cases h5
            have z := AtP.eq at2 h6
            subst z
            have h2 : Post (RP σ i) X W io false S2 H2 σ fp2 fp2 (o1 ((ixN l.length k).map fun j => ks ++ [j]) env2) Q := h2
            cases ei : ixN l.length k with
            | none => rw [ei] at h2; exact h2.elim
            | some j =>
              rw [ei] at h2
              have hj : j < l.length := ixN_lt ei
              obtain ⟨u, fu, h9, h10⟩ := h8.getG (i := j) (List.getElem?_eq_getElem hj)
              refine .inl ⟨a1, vs, k, u, rfl, rfl, SqL.of h7, ?_, Post.fin (ft := []) C2 G2 h2 ⟨rfl, v0, hv0, AtP.snoc h7 h9 at2⟩ (New.refl G2.dm)⟩
              rw [h8.length] at ei
              exact at_atI ei h9
          | _ => exact h2.elim
    | _ => exact h2.elim
  · intro _ env p' env' e
    cases q with
    | int k =>
      have e : (match (PV.int k), (slotP env i).bind (pget · ks) with
        | .int k, some (.mls l) => o1 ((ixN l.length k).map fun j => ks ++ [j]) env
        | _, _ => .stk) = R.ok p' env' := e
      cases es : (slotP env i).bind (pget · ks) with
      | none => rw [es] at e; cases e
      | some w =>
        rw [es] at e
        cases w with
        | mls l => exact (o1_eq e).1
        | _ => cases e
    | _ => cases e
theorem PostS.bindM {α β : Type} {rel1 : Rl α β} {S : Addr → Prop} {H : Hp} {σ : L2.St} {env : Env} {fp ft : List Addr} {D : Ends} {f : Env → R α} {k : α → Env → RS} {P : β → Hp → Prop} {ps : List PV} {vs : List V} (T : Owns X.K S H ps vs ft)
    (C : Cl X.K io S H σ env fp) (G : Good S H (ft ++ fp)) (h : PostS X W io S H (ft ++ fp) ((f env).toS k) D)
    (hk : ∀ p b S1 H1 env1 fv fp1, rel1 S1 H1 p b fv → Owns X.K S1 H1 ps vs ft → Cl X.K io S1 H1 σ env1 fp1 → Good S1 H1 (fv ++ (ft ++ fp1)) → f env = .ok p env1 → (∀ a, S a → S1 a) → L2.Same H H1 →
      PostS X W io S1 H1 (fv ++ (ft ++ fp1)) (k p env1) D → P b H1) : sem rel1 X W io false f σ H P := by
  refine ⟨S, env, fp, C, G.right, ?_⟩
  unfold Post
  cases e : f env with
  | stk => rw [e] at h; exact h
  | ex x env1 =>
    rw [e] at h
    exact fun cls d S' H' fp' a b c z => h cls d σ S' H' fp' a b c (z.sup fun x q => List.mem_append_right _ q)
  | ok p env1 =>
    rw [e] at h
    intro v S1 H1 fv fp1 r1 C1 G1 st hm1
    exact hk p v S1 H1 env1 fv fp1 r1 (st.owns G T) C1 (st.good G G1) e st.su (hm1 rfl).1 (PostS.move h st.wide)
theorem Owns.one1 {K : PySem.W.Frag} {S : Addr → Prop} {H : Hp} {p : PV} {v : V} {f : List Addr} (o : Own K S H p v f) : Owns K S H [p] [v] f := ⟨v, [], f, [], rfl, (List.append_nil f).symm, o, rfl, rfl⟩
theorem Owns.inv1 {K : PySem.W.Frag} {S : Addr → Prop} {H : Hp} {p : PV} {v : V} {f : List Addr} (h : Owns K S H [p] [v] f) : Own K S H p v f := by
  obtain ⟨w, r, f1, f2, e, rfl, o, h2⟩ := h
  obtain ⟨rfl, rfl⟩ := h2
  cases e
  rw [List.append_nil]
  exact o
/-- x[..]..[b] = a -/
theorem es_putP {t : Expr} (ht : Ep X W io i t π) (hb : Ev X W io m2 b g) (ha : Ev X W io m1 a f) (hs : swapsWithSole [.Subscript t b p2] a pos.line X.env = pure false := by rfl) (hw : swappedStores [.Subscript t b p2] a X.env = pure none := by rfl)
    (h1 : (assignEach [.Subscript t b p2] X.env).map (·.2) = [assign (.Subscript t b p2) X.env] := by rfl)
    (hx : ∀ v, assign (.Subscript t b p2) X.env v = (do
      let ov ← holding [v] (eval t X.env)
      let iv ← holding [v, ov] (eval b X.env)
      standAt p2
      holding [v, ov, iv] (setItem ov iv v)
      release [v, ov, iv] []) := by intro _; rfl) (hmm : m2 = false := by rfl) :
    Es X W io (.Assign [.Subscript t b p2] a pos) (sPutP i π g f) := by
  subst hmm
  refine ⟨(ps_asg ha.pe (pg_sub ht.pe hb.frz.pe set_list hx) hs hw h1).imp fun D σ H q => ?_⟩
  obtain ⟨S, env, fp, C, G, q⟩ := q
  refine PostS.bind C G q fun p v S1 H1 env1 fv fp1 o1 C1 G1 e1 h1 => ?_
  refine PostS.bindT (ft := fv) (Owns.one1 o1) C1 G1 h1 fun ks u S2 H2 env2 fv2 fp2 o2 T2 C2 G2 e2 h2 => ?_
  obtain ⟨rfl, v0, hv0, at2⟩ := o2
  have G2 : Good S2 H2 (fv ++ fp2) := G2
  refine PostS.bindM (ft := fv) T2 C2 G2 h2 fun q y S3 H3 env3 fv3 fp3 o3 T3 C3 G3 e3 su sm h3 => ?_
  have z := dFrz_nil e3 o3
  subst z
  have G3 : Good S3 H3 (fv ++ fp3) := G3
  have at3 := at2.same sm
  cases q with
  | int k =>
    obtain ⟨rfl, _⟩ := o3
    cases es : slotP env3 i with
    | none => rw [es] at h3; exact h3.elim
    | some p0 =>
      rw [es] at h3
      have h3 : PostS X W io S3 H3 (fv ++ fp3) (match pget p0 ks with
        | some (.mls l) => match ixN l.length k with
          | some j => .nx (env3.set i (some (pset p0 ks (.mls (l.set j p)))))
          | none => .stk
        | _ => .stk) D := h3
      cases ek : pget p0 ks with
      | none => rw [ek] at h3; exact h3.elim
      | some w =>
        rw [ek] at h3
        cases w with
        | mls l =>
          obtain ⟨v1, a1, vs, g1, h5, h6, h7, h8, ⟨n1, n2, n3, n4, n5, n6⟩, h9⟩ := cl_mutP C3 G3 es ek
          rw [hv0] at h5
          cases h5
          have z := AtP.eq at3 h6
          subst z
          have h3 : PostS X W io S3 H3 (fv ++ fp3) (match ixN l.length k with
            | some j => .nx (env3.set i (some (pset p0 ks (.mls (l.set j p)))))
            | none => .stk) D := h3
          cases ei : ixN l.length k with
          | none => rw [ei] at h3; exact h3.elim
          | some j =>
            rw [ei] at h3
            refine ⟨a1, vs, k, j, rfl, rfl, h7, by rw [← h8.length]; exact ei, ?_⟩
            obtain ⟨g', w1, w2, w3⟩ := Owns.setG (upd_stay1 (o := .lst (vs.set j v)) T3.inv1 n1 n3) n5 j n4 n6 (upd_stay h8 n1 n2)
            obtain ⟨fp', c2, gg, s2⟩ := h9 _ _ _ w1 w2 w3
            exact h3 σ S3 _ fp' c2 gg s2
        | _ => exact h3.elim
  | _ => exact h3.elim
end
end L3

namespace L3
open PySem PySem.Spec PyProof.Rows L2
/-! ### calls with keywords -/
/-- the positional values and the keywords' values in the parameters' order -/
def gP {α : Type} (n1 n2 : Nat) (π : List Nat) (us ws : List α) : List α := if us.length = n1 ∧ ws.length = n2 then π.filterMap ((us ++ ws)[·]?) else []
abbrev KBOk (name qual : Str) (st : Stmt) (ps ks : List Str) (n1 n2 : Nat) (π : List Nat) : Prop := ∀ (kV doc pm : Value) (an : Option Addr) (cdv ct : Value) (us ws : List Value), us.length = n1 → ws.length = n2 → bindArgs (PySem.W.fnOf name qual (defArgs st) (defBody st) (defScope st) .none kV doc pm an cdv ct) ⟨us, ks.zip ws⟩ = pure (ps.zip (π.filterMap ((us ++ ws)[·]?)))
theorem vals_at : ∀ {vs : List V} {us : List Value}, Vals vs us → ∀ i : Nat, (vs[i]? = none ∧ us[i]? = none) ∨ ∃ v u, vs[i]? = some v ∧ us[i]? = some u ∧ RelV v u
  | _, _, .nil, i => .inl ⟨rfl, rfl⟩
  | _, _, .cons r q, 0 => .inr ⟨_, _, rfl, rfl, r⟩
  | _, _, .cons r q, i + 1 => by simpa using vals_at q i
theorem vals_pick {vs : List V} {us : List Value} (h : Vals vs us) : ∀ π : List Nat, Vals (π.filterMap (vs[·]?)) (π.filterMap (us[·]?))
  | [] => .nil
  | i :: π => by
    rcases vals_at h i with ⟨e1, e2⟩ | ⟨v, u, e1, e2, r⟩
    · rw [List.filterMap_cons_none e1, List.filterMap_cons_none e2]
      exact vals_pick h π
    · rw [List.filterMap_cons_some e1, List.filterMap_cons_some e2]
      exact .cons r (vals_pick h π)
theorem kbinds_mk {K : PySem.W.Frag} {x qual : Str} {st : Stmt} {f : Addr} {fd : FuncData} {ps ks : List Str} {n1 n2 : Nat} {π : List Nat} (F : L2.Fun K x qual st f fd) (b : KBOk x qual st ps ks n1 n2 π) (hp : ps.length ≠ 0) : L2.KBinds K fd ps ks (gP n1 n2 π) (gP n1 n2 π) where
  to := fun s us ws _ hl => by
    obtain ⟨oc, od, kV, doc, pm, an, cdv, ct, osl, rfl, _, _⟩ := F.ex
    unfold gP at hl ⊢
    by_cases h : us.length = n1 ∧ ws.length = n2
    · rw [if_pos h]
      exact .of_eq (b _ _ _ _ _ _ us ws h.1 h.2)
    · rw [if_neg h] at hl
      exact absurd hl.symm hp
  rel := fun {vs us zs ws} r rz => by
    unfold gP
    rw [r.length, rz.length]
    by_cases h : us.length = n1 ∧ ws.length = n2
    · rw [if_pos h, if_pos h]
      exact vals_pick (r.append rz) π
    · rw [if_neg h, if_neg h]
      exact .nil
structure Ekw (X : Cx) (W : WX) (io : Io) (m : Bool) (kws : List Keyword) (f : Env → R (List PV)) : Prop where
  pe : L2.PK X kws (sem (RL X.K) X W io m f)
  st : Still m f
  nf : ∀ env ps e, f env = .ok ps e → ∀ K S H vs fv, Owns K S H ps vs fv → fv = []
theorem _root_.L2.PK.imp {X : Cx} {e : List Keyword} {t u : TA} (h : PK X e t) (i : ∀ σ H Q, u σ H Q → t σ H Q) : PK X e u := ⟨fun pos pins s σ H Q I q => h.run pos pins s σ H Q I (i σ H Q q)⟩
section
variable {X : Cx} {W : WX} {io : Io} {m m1 m2 : Bool} {a : Expr} {es : List Expr} {f : Env → R PV} {fs gs : Env → R (List PV)} {pos kpos : Pos} {kws : List Keyword} {nm : Option Str}
theorem ekw_nil : Ekw X W io false [] dNil := ⟨pk_nil.imp fun σ H Q q => sem_nil q, Still.pure, fun env ps e h K S H vs fv o => by cases h; exact o.2⟩
theorem ekw_cons (ha : Ev X W io m1 a f) (hr : Ekw X W io m2 kws fs) : Ekw X W io (m1 || m2) (⟨nm, a, kpos⟩ :: kws) (dCons f fs) :=
  ⟨(pk_cons ha.frz.pe hr.pe).imp fun σ H Q q => sem_cons (f := dFrz f) q, Still.cons ha.frz.st hr.st, fun env ps e h K S H vs fv o => by
    obtain ⟨p, e1, qs, h1, h2, h3⟩ := dConsO_inv (f := dFrz f) h
    subst h3
    obtain ⟨v, r, f1, f2, e3, e4, o3, o4⟩ := o
    rw [e4, dFrz_nil h1 o3, hr.nf _ _ _ h2 _ _ _ _ _ o4]
    rfl⟩
/-- the arguments in the parameters' order -/
def aKw (n1 n2 : Nat) (π : List Nat) (fs gs : Env → R (List PV)) : Env → R (List AI) := fun env => (fs env).bind fun ps e1 => (gs e1).bind fun qs e2 => if ps.length = n1 ∧ qs.length = n2 ∧ (∀ i, i ∈ π → i < n1 + n2) then .ok ((π.filterMap ((ps ++ qs)[·]?)).map .inl) e2 else .stk
theorem patOf_inl : ∀ l : List PV, patOf (l.map .inl) = List.replicate l.length none
  | [] => rfl
  | _ :: l => congrArg (none :: ·) (patOf_inl l)
theorem pick_len {α : Type} {l : List α} : ∀ {π : List Nat}, (∀ i, i ∈ π → i < l.length) → (π.filterMap (l[·]?)).length = π.length
  | [], _ => rfl
  | i :: π, h => by
    rw [List.filterMap_cons_some (List.getElem?_eq_getElem (h i List.mem_cons_self)), List.length_cons, List.length_cons, pick_len fun j hj => h j (List.mem_cons_of_mem _ hj)]
theorem anyIo_rep : ∀ n : Nat, anyIo (List.replicate n none) = false
  | 0 => rfl
  | n + 1 => anyIo_rep n
theorem argRel_inl {K : PySem.W.Frag} {S : Addr → Prop} {H : Hp} {σ : L2.St} : ∀ {l : List PV} {vs : List V}, Owns K S H l vs [] → ArgRel K σ S H (l.map .inl) vs []
  | [], vs, h => h
  | p :: l, vs, h => by
    obtain ⟨v, r, f1, f2, rfl, e, o1, o2⟩ := h
    obtain ⟨rfl, rfl⟩ := app_nil e
    exact ⟨v, r, rfl, o1, argRel_inl o2⟩
theorem Owns.pick {K : PySem.W.Frag} {S : Addr → Prop} {H : Hp} {l : List PV} {vs : List V} (o : Owns K S H l vs []) : ∀ π : List Nat, Owns K S H (π.filterMap (l[·]?)) (π.filterMap (vs[·]?)) []
  | [] => ⟨rfl, rfl⟩
  | i :: π => by
    cases e : l[i]? with
    | none =>
      have e2 : vs[i]? = none := by rw [List.getElem?_eq_none_iff] at e ⊢; rw [← o.length]; exact e
      rw [List.filterMap_cons_none e, List.filterMap_cons_none e2]
      exact Owns.pick o π
    | some p =>
      obtain ⟨v, f, e2, o2⟩ := o.getG e
      obtain ⟨_, _, _, e3, h3, h4, _⟩ := Owns.hole o e
      have z := List.append_eq_nil_iff.mp (List.Perm.eq_nil h4.symm)
      rw [z.1] at h3
      rw [List.filterMap_cons_some e, List.filterMap_cons_some e3]
      exact Owns.cons h3 (Owns.pick o π)
theorem sem_callK {n n1 n2 : Nat} {π : List Nat} {F : List PV → RF} (hπ : π.length = n) (nf1 : ∀ env ps e, fs env = .ok ps e → ∀ K S H vs fv, Owns K S H ps vs fv → fv = []) (nf2 : ∀ env ps e, gs env = .ok ps e → ∀ K S H vs fv, Owns K S H ps vs fv → fv = []) {σ : L2.St} {H : Hp} {Q : VK}
    (q : sem (RV X.K) X W io (m1 || m2) (callD [] F (aKw n1 n2 π fs gs)) σ H Q) : sem (RL X.K) X W io m1 fs σ H fun vs H1 => sem (RL X.K) X W io m2 gs σ H1 fun zs H2 => spF X.K X.mg n [] F (gP n1 n2 π vs zs) H2 Q (WE W σ) := by
  have hp : ∀ env its e, aKw n1 n2 π fs gs env = .ok its e → patOf its = List.replicate n none := by
    intro env its e h
    unfold aKw at h
    cases q1 : fs env with
    | stk => rw [q1] at h; cases h
    | ex x _ => rw [q1] at h; cases h
    | ok ps e1 =>
      rw [q1] at h
      have h : (gs e1).bind (fun qs e2 => if ps.length = n1 ∧ qs.length = n2 ∧ (∀ i, i ∈ π → i < n1 + n2) then R.ok ((π.filterMap ((ps ++ qs)[·]?)).map Sum.inl) e2 else .stk) = .ok its e := h
      cases q2 : gs e1 with
      | stk => rw [q2] at h; cases h
      | ex x _ => rw [q2] at h; cases h
      | ok qs e2 =>
        rw [q2] at h
        have h : (if ps.length = n1 ∧ qs.length = n2 ∧ (∀ i, i ∈ π → i < n1 + n2) then R.ok ((π.filterMap ((ps ++ qs)[·]?)).map Sum.inl) e2 else .stk) = R.ok its e := h
        by_cases hc : ps.length = n1 ∧ qs.length = n2 ∧ (∀ i, i ∈ π → i < n1 + n2)
        · rw [if_pos hc] at h
          cases h
          rw [patOf_inl, pick_len (by rw [List.length_append, hc.1, hc.2.1]; exact hc.2.2), hπ]
        · rw [if_neg hc] at h; cases h
  have q' : sem (RV X.K) X W io ((m1 || m2) || anyIo (List.replicate n none)) (callD (slotIo (List.replicate n none)) F (aKw n1 n2 π fs gs)) σ H Q := by
    rw [anyIo_rep, Bool.or_false, slotIo_nil (anyIo_rep n)]
    exact q
  have q1 := sem_call (n := n) (ios := []) hp (by rw [List.length_replicate]) (posIo_nil (anyIo_rep n)) q'
  obtain ⟨S, env, fp, C, G, q1⟩ := q1
  refine Post.bind (ft := []) C Owns.nil G or_l q1 fun ps vs S1 H1 env1 fv fp1 o1 _ C1 G1 e1 _ _ h1 => ?_
  have z := nf1 _ _ _ e1 _ _ _ _ _ o1
  subst z
  refine Post.bind (ft := []) C1 o1 G1 or_r h1 fun qs zs S2 H2 env2 fv2 fp2 o2 T2 C2 G2 e2 _ _ h2 => ?_
  have z := nf2 _ _ _ e2 _ _ _ _ _ o2
  subst z
  have h2 : Post (ArgRel X.K σ) X W io (m1 || m2) S2 H2 σ fp2 ([] ++ ([] ++ fp2)) (if ps.length = n1 ∧ qs.length = n2 ∧ (∀ i, i ∈ π → i < n1 + n2) then .ok ((π.filterMap ((ps ++ qs)[·]?)).map Sum.inl) env2 else .stk) (fun vs H1 => spF X.K X.mg n [] F vs H1 Q (WE W σ)) := h2
  by_cases hc : ps.length = n1 ∧ qs.length = n2 ∧ (∀ i, i ∈ π → i < n1 + n2)
  · rw [if_pos hc] at h2
    have hl1 : vs.length = n1 := by rw [← T2.length]; exact hc.1
    have hl2 : zs.length = n2 := by rw [← o2.length]; exact hc.2.1
    have e : gP n1 n2 π vs zs = π.filterMap ((vs ++ zs)[·]?) := by unfold gP; rw [if_pos ⟨hl1, hl2⟩]
    rw [e]
    exact Post.fin (ft := []) C2 G2 h2 (argRel_inl (Owns.pick (Owns.appG T2 o2) π)) (New.refl G2.dm)
  · rw [if_neg hc] at h2; exact h2.elim
variable {CX : CXT} {k : Nat} {fa : Addr} {fd : FuncData} {ps ks : List Str} {sp : Sp} {E : L2.St → XK} {x : Str} {p : Pos} {t tk : TA} {g : List Value → List Value → List Value} {gV : List V → List V → List V}
theorem run_fnKS {pins : List (Addr × Obj)} {σ : L2.St} {H : Hp} {s : Shared} {Q : VK} {us ws : List Value} {vs zs : List V} (F : FnOk X.prog X.w X.K X.mg X.base CX k fa fd ps sp) (hr : Room k X.A) (hb : KBinds X.K fd ps ks g gV) (hx : PassesAt CX X σ (E σ))
    (I : Inv X pins σ H s) (r : Vals vs us) (rz : Vals zs ws) (h : sp (gV vs zs) H Q (E σ)) : wpAny (model X.prog X.w) X.A (call (.ref fa) us (ks.zip ws)) (EP X pins σ Q) X.xe s := by
  have r2 := hb.rel r rz
  have hl : (g us ws).length = ps.length := by rw [← r2.length]; exact F.len _ _ _ _ h
  refine wpAny_call (codeAny_mono (F.run X.A X.stack s H ⟨us, ks.zip ws⟩ (g us ws) (gV vs zs) Q (E σ) hr I.env0 (hb.to s us ws I.kIn hl) r2 h) fun r s' hq => ?_)
  cases r with
  | error e => exact hx pins H s e s' I hq
  | ok fl =>
    cases fl with
    | ret u => exact I.after hq
    | next => exact False.elim hq
    | brk => exact False.elim hq
    | cont => exact False.elim hq
def tCallKS (sp : Sp) (gV : List V → List V → List V) (E : L2.St → XK) (t tk : TA) : TE := fun σ H Q => t σ H fun vs H1 => tk σ H1 fun zs H2 => sp (gV vs zs) H2 Q (E σ)
theorem pe_callKS (F : FnOk X.prog X.w X.K X.mg X.base CX k fa fd ps sp) (hr : Room k X.A) (hg : Gl X x) (hm : X.mg x = some (.ref fa)) (hk : PySem.W.keepIn X.K (.ref fa) = true) (hb : KBinds X.K fd ps ks g gV) (hx : ∀ σ, PassesAt CX X σ (E σ))
    (ha : PA X (a :: es) t) (hkw : PK X kws tk) (hall : (backToKw pos (keywordEach kws X.env)).all (·.1.isSome) = true := by rfl) (hks : (backToKw pos (keywordEach kws X.env)).filterMap (·.1) = ks := by rfl)
    (hdb : (x == ("__debug__" : Str)) = false := by decide) (he : starEach (a :: es) X.env = (false, eval a X.env) :: starEach es X.env := by rfl)
    (hpl : ((backTo pos (starEach (a :: es) X.env)).any (·.1) || (backToKw pos (keywordEach kws X.env)).any (·.1.isNone)) = false := by rfl) :
    PE X (.Call (.Name x p) (a :: es) kws pos) (tCallKS sp gV E t tk) := by
  refine ⟨fun pins s σ H Q I h => ?_⟩
  refine wpAny_Call_Name_kw (ld_glob I hg hm ?_ hdb)
  refine PySem.W.callWith_KW (h₀ := X.base) I.ok.mod.kin hk hall (thn (ha.run pos pins s σ H _ I h) fun us s1 ⟨vs, H1, I1, r, q⟩ => ?_) hpl he
  refine thn (hkw.run pos pins s1 σ H1 _ I1 q) fun ws s2 ⟨zs, H2, I2, rz, q2⟩ => ⟨I2.kIn, ?_⟩
  rw [hks]
  exact run_fnKS F hr hb (hx σ) I2 r rz q2
theorem pe_callKS0 (F : FnOk X.prog X.w X.K X.mg X.base CX k fa fd ps sp) (hr : Room k X.A) (hg : Gl X x) (hm : X.mg x = some (.ref fa)) (hk : PySem.W.keepIn X.K (.ref fa) = true) (hb : KBinds X.K fd ps ks g gV) (hx : ∀ σ, PassesAt CX X σ (E σ))
    (hkw : PK X kws tk) (hall : (backToKw pos (keywordEach kws X.env)).all (·.1.isSome) = true := by rfl) (hks : (backToKw pos (keywordEach kws X.env)).filterMap (·.1) = ks := by rfl)
    (hdb : (x == ("__debug__" : Str)) = false := by decide)
    (hpl : ((backTo pos (starEach [] X.env)).any (·.1) || (backToKw pos (keywordEach kws X.env)).any (·.1.isNone)) = false := by rfl) :
    PE X (.Call (.Name x p) [] kws pos) (tCallKS sp gV E tNil tk) := by
  refine ⟨fun pins s σ H Q I h => ?_⟩
  refine wpAny_Call_Name_kw (ld_glob I hg hm ?_ hdb)
  refine PySem.W.callWith_KW0 (h₀ := X.base) I.ok.mod.kin hk hall (thn (hkw.run pos pins s σ H _ I h) fun ws s2 ⟨zs, H2, I2, rz, q2⟩ => ⟨I2.kIn, ?_⟩) hpl
  rw [hks]
  exact run_fnKS (us := []) (vs := []) F hr hb (hx σ) I2 .nil rz q2
theorem aKw_still {n1 n2 : Nat} {π : List Nat} (h1 : Still m1 fs) (h2 : Still m2 gs) : Still (m1 || m2) (aKw n1 n2 π fs gs) :=
  Still.bind (m2 := m1 || m2) h1 (fun ps => Still.bind (m2 := m1 || m2) h2 (fun qs => fun _ env p env' e => by
    have e : (if ps.length = n1 ∧ qs.length = n2 ∧ (∀ i, i ∈ π → i < n1 + n2) then R.ok ((π.filterMap ((ps ++ qs)[·]?)).map Sum.inl) env else .stk) = R.ok p env' := e
    by_cases hc : ps.length = n1 ∧ qs.length = n2 ∧ (∀ i, i ∈ π → i < n1 + n2)
    · rw [if_pos hc] at e; cases e; rfl
    · rw [if_neg hc] at e; cases e) or_r id) or_l id
theorem aKw_pat {n n1 n2 : Nat} {π : List Nat} (hπ : π.length = n) : ∀ env its e, aKw n1 n2 π fs gs env = .ok its e → patOf its = List.replicate n none := by
  intro env its e h
  unfold aKw at h
  cases q1 : fs env with
  | stk => rw [q1] at h; cases h
  | ex x _ => rw [q1] at h; cases h
  | ok ps e1 =>
    rw [q1] at h
    have h : (gs e1).bind (fun qs e2 => if ps.length = n1 ∧ qs.length = n2 ∧ (∀ i, i ∈ π → i < n1 + n2) then R.ok ((π.filterMap ((ps ++ qs)[·]?)).map Sum.inl) e2 else .stk) = .ok its e := h
    cases q2 : gs e1 with
    | stk => rw [q2] at h; cases h
    | ex x _ => rw [q2] at h; cases h
    | ok qs e2 =>
      rw [q2] at h
      have h : (if ps.length = n1 ∧ qs.length = n2 ∧ (∀ i, i ∈ π → i < n1 + n2) then R.ok ((π.filterMap ((ps ++ qs)[·]?)).map Sum.inl) e2 else .stk) = R.ok its e := h
      by_cases hc : ps.length = n1 ∧ qs.length = n2 ∧ (∀ i, i ∈ π → i < n1 + n2)
      · rw [if_pos hc] at h
        cases h
        rw [patOf_inl, pick_len (by rw [List.length_append, hc.1, hc.2.1]; exact hc.2.2), hπ]
      · rw [if_neg hc] at h; cases h
theorem stillK {n n1 n2 : Nat} {π : List Nat} {F : List PV → RF} (hπ : π.length = n) (h1 : Still m1 fs) (h2 : Still m2 gs) : Still (m1 || m2) (callD [] F (aKw n1 n2 π fs gs)) := by
  have z := Still.call (pat := List.replicate n none) (F := F) (aKw_pat (n1 := n1) (n2 := n2) hπ) (slotIo_nil (anyIo_rep n)).symm (aKw_still (n1 := n1) (n2 := n2) (π := π) h1 h2)
  rw [anyIo_rep, Bool.or_false] at z
  exact z
theorem ev_callK {n n1 n2 : Nat} {π : List Nat} {F : List PV → RF} (G : FnOk X.prog X.w X.K X.mg X.base (L2.CX X.prog X.w) k fa fd ps (spF X.K X.mg n [] F)) (hr : Room k X.A) (hg : Gl X x) (hm : X.mg x = some (.ref fa)) (hk : PySem.W.keepIn X.K (.ref fa) = true) (hb : L2.KBinds X.K fd ps ks (gP n1 n2 π) (gP n1 n2 π)) (tk : Takes X W)
    (ha : Ef X W io m1 (a :: es) fs) (hkw : Ekw X W io m2 kws gs) (hπ : π.length = n := by rfl) (hall : (backToKw pos (keywordEach kws X.env)).all (·.1.isSome) = true := by rfl) (hks : (backToKw pos (keywordEach kws X.env)).filterMap (·.1) = ks := by rfl)
    (hdb : (x == ("__debug__" : Str)) = false := by decide) (he : starEach (a :: es) X.env = (false, eval a X.env) :: starEach es X.env := by rfl)
    (hpl : ((backTo pos (starEach (a :: es) X.env)).any (·.1) || (backToKw pos (keywordEach kws X.env)).any (·.1.isNone)) = false := by rfl) :
    Ev X W io (m1 || m2) (.Call (.Name x p) (a :: es) kws pos) (callD [] F (aKw n1 n2 π fs gs)) :=
  ⟨(pe_callKS G hr hg hm hk hb (fun σ => passAt tk σ) ha.pe hkw.pe hall hks hdb he hpl).imp fun σ H Q q => sem_callK hπ ha.nf hkw.nf q, stillK hπ ha.st hkw.st⟩
theorem ev_callK0 {n n2 : Nat} {π : List Nat} {F : List PV → RF} (G : FnOk X.prog X.w X.K X.mg X.base (L2.CX X.prog X.w) k fa fd ps (spF X.K X.mg n [] F)) (hr : Room k X.A) (hg : Gl X x) (hm : X.mg x = some (.ref fa)) (hk : PySem.W.keepIn X.K (.ref fa) = true) (hb : L2.KBinds X.K fd ps ks (gP 0 n2 π) (gP 0 n2 π)) (tk : Takes X W)
    (hkw : Ekw X W io m2 kws gs) (hπ : π.length = n := by rfl) (hall : (backToKw pos (keywordEach kws X.env)).all (·.1.isSome) = true := by rfl) (hks : (backToKw pos (keywordEach kws X.env)).filterMap (·.1) = ks := by rfl)
    (hdb : (x == ("__debug__" : Str)) = false := by decide)
    (hpl : ((backTo pos (starEach [] X.env)).any (·.1) || (backToKw pos (keywordEach kws X.env)).any (·.1.isNone)) = false := by rfl) :
    Ev X W io m2 (.Call (.Name x p) [] kws pos) (callD [] F (aKw 0 n2 π dNil gs)) :=
  ⟨(pe_callKS0 G hr hg hm hk hb (fun σ => passAt tk σ) hkw.pe hall hks hdb hpl).imp fun σ H Q q => by
    obtain ⟨S, env, fp, C, G0, z⟩ := sem_callK (m1 := false) (m2 := m2) (fs := dNil) hπ (fun env ps e h K S H vs fv o => by cases h; exact o.2) hkw.nf q
    exact Post.fin (ft := []) C G0 z Owns.nil (New.refl G0.dm), stillK (m1 := false) hπ Still.pure hkw.st⟩
end
end L3

namespace L3
open PySem PySem.Spec PyProof.Rows L2
/-! ### t[::-1], t a tuple -/
theorem all_at {α : Type} : ∀ l : List α, (List.range l.length).filterMap (fun i => l[i]?) = l
  | [] => rfl
  | a :: l => by
    rw [List.length_cons, List.range_succ_eq_map, List.filterMap_cons_some (f := fun i => (a :: l)[i]?) (a := 0) (b := a) rfl, List.filterMap_map]
    exact congrArg (a :: ·) (all_at l)
theorem fm_congr {α β : Type} {f g : α → Option β} : ∀ {l : List α}, (∀ a, a ∈ l → f a = g a) → l.filterMap f = l.filterMap g
  | [], _ => rfl
  | a :: l, h => by
    rw [List.filterMap_cons, List.filterMap_cons, h a List.mem_cons_self, fm_congr fun b hb => h b (List.mem_cons_of_mem _ hb)]
theorem pick_rev {α : Type} (l : List α) : (List.range l.length).filterMap (fun m => l[l.length - 1 - m]?) = l.reverse := by
  have h := all_at l.reverse
  rw [List.length_reverse] at h
  refine Eq.trans (fm_congr fun m hm => ?_) h
  rw [List.getElem?_reverse (List.mem_range.mp hm)]
section
variable {prog : Program} {w : World} {A : Around} {s : Shared} {E : Value → Shared → Prop}
theorem sliceApplied_rev {sl : Addr} {vl vu vs : Value} {n : Nat} {Q : Int × Int × Nat → Shared → Prop} (hs : s.heap.IsSliceOf sl vl vu vs) (pl : IsPart vl none) (pu : IsPart vu none) (ps : IsPart vs (some (-1)))
    (h : Q ((n : Int) - 1, -1, n) s) : wpAny (model prog w) A (Builtin.Slice.sliceApplied (.ref sl) (pure (n : Int))) Q E s := by
  obtain ⟨os, hos, hcs, hds⟩ := id hs
  unfold Builtin.Slice.sliceApplied Builtin.Slice.sliceFields
  refine wpAny_bind (wpAny_bind (wpAny_field hos hds (x := vl) rfl (wpAny_bind (wpAny_field hos hds (x := vu) rfl (wpAny_bind (wpAny_field hos hds (x := vs) rfl (wpAny_pure ?_)))))))
  refine wpAny_bind (HT.slicePart_ ps ?_)
  show wpAny _ _ (if ((-1 : Int) == 0) = true then _ else _) _ _ s
  rw [if_neg (by decide)]
  refine wpAny_bind (HT.slicePart_ pl (wpAny_bind (HT.slicePart_ pu (wpAny_bind (wpAny_pure ?_)))))
  show wpAny _ _ (match Builtin.Slice.sliceAdjust none none (-1) (n : Int) with | (lo, hi) => pure (lo, (-1 : Int), Builtin.Slice.slicePlaces lo hi (-1))) _ _ s
  have e : Builtin.Slice.sliceAdjust none none (-1) (n : Int) = ((n : Int) - 1, -1) := rfl
  rw [e]
  have e2 : Builtin.Slice.slicePlaces ((n : Int) - 1) (-1) (-1) = n := by
    unfold Builtin.Slice.slicePlaces
    simp
    omega
  show wpAny _ _ (pure ((n : Int) - 1, (-1 : Int), Builtin.Slice.slicePlaces ((n : Int) - 1) (-1) (-1))) _ _ s
  rw [e2]
  exact wpAny_pure h
theorem getItem_tuple_rev {t sl : Addr} {items : Array Value} {vl vu vs : Value} {Q : Value → Shared → Prop} (ht : IsTup s.heap t items) (hs : s.heap.IsSliceOf sl vl vu vs) (pl : IsPart vl none) (pu : IsPart vu none) (ps : IsPart vs (some (-1)))
    (h : Q (.ref s.heap.objs.size) { s with heap := s.heap.push { cls := .type "tuple", data := .seq items.toList.reverse.toArray } })
    (hsz : items.size ≤ sizeLine) : wpAny (model prog w) A (getItem (.ref t) (.ref sl)) Q E s := by
  have htake : sizeOk (.seq items.toList.reverse.toArray) := by
    show items.toList.reverse.toArray.size ≤ sizeLine
    rw [List.size_toArray, List.length_reverse, Array.length_toList]
    omega
  obtain ⟨os, hos, hcs, hds⟩ := id hs
  have hTs : s.TypeIs (.ref sl) "slice" := ⟨os, hos, hcs⟩
  unfold getItem
  try with_reducible refine wpAny_holding ?_
  first | refine wpAny_bind (wpAny_pure ?_) | skip
  refine wpAny_bind (wpAny_sequenceKey ht.typeIs (by decide) ?_)
  refine wpAny_bind (wpAny_callSpecial?_slot (name := Str.ofString "__getitem__") ht.typeIs PyProof.Rows.slot_tuple_getitem
    (wpAny_call_entry PyProof.Rows.slot_tuple_getitem ht.typeIs entry_tuple_getitem ?_ (args_tuple_getitem _ _)))
  show wpAny _ _ (Builtin.Tuple.tupleItemsOf (.ref t) >>= _) _ _ s
  refine wpAny_bind (tupleItemsOf_ ht ?_)
  refine wpAny_bind (wpAny_typeOf hTs ?_)
  rw [if_pos (by decide)]
  refine wpAny_bind (sliceApplied_rev hs pl pu ps ?_)
  have hno : ¬ ((((items.size : Int) - 1) == 0 && (-1 : Int) == 1 && items.size == items.size) = true) := by
    intro q
    rw [Bool.and_eq_true, Bool.and_eq_true] at q
    exact absurd (eq_of_beq q.1.2) (by decide)
  show wpAny _ _ (if (((items.size : Int) - 1) == 0 && (-1 : Int) == 1 && items.size == items.size) = true then _ else _) _ _ s
  rw [if_neg hno]
  have pick : ((List.range items.size).filterMap fun (m : Nat) => items[(((items.size : Int) - 1) + (m : Int) * -1).toNat]?).toArray = items.toList.reverse.toArray := by
    have e : (fun (m : Nat) => items[(((items.size : Int) - 1) + (m : Int) * -1).toNat]?) = fun m => items.toList[items.toList.length - 1 - m]? := by
      funext m
      have : (((items.size : Int) - 1) + (m : Int) * -1).toNat = items.toList.length - 1 - m := by rw [Array.length_toList]; omega
      rw [this, Array.getElem?_toList]
    rw [e, ← Array.length_toList, pick_rev]
  rw [pick]
  first
    | exact wpAny_bind (m := Builtin.Tuple.tupleExact _) (wpAny_newObj_type (wpAny_pure ⟨_, rfl, wpAny_pure h⟩) htake)
    | exact wpAny_bind (m := Builtin.Tuple.tupleExact _) (wpAny_newObj_type (wpAny_bind (wpAny_pure (wpAny_pure ⟨_, rfl, wpAny_pure h⟩))) htake)
    | exact wpAny_bind (wpAny_bind (m := Builtin.Tuple.tupleExact _) (wpAny_newObj_type (wpAny_pure (wpAny_pure ⟨_, rfl, wpAny_pure h⟩)) htake))
    | exact wpAny_bind (wpAny_bind (m := Builtin.Tuple.tupleExact _) (wpAny_newObj_type (wpAny_pure ⟨_, rfl, wpAny_pure h⟩) htake))
end
end L3
namespace L3
open PySem PySem.Spec PyProof.Rows L2
def tRevT (K : PySem.W.Frag) (te : TE) : TE := fun σ H Q => te σ H fun x H1 => ∃ a xs, x = .ref a ∧ SqT K H1 a xs ∧ ∀ p, H1 p = none → Q (.ref p) (upd H1 p (.tup xs.reverse))
section
variable {X : Cx} {W : WX} {io : Io} {m : Bool} {a : Expr} {f : Env → R PV}
theorem pe_revT {e : Expr} {te : TE} {k : Nat} {p1 p2 p3 pos : Pos} (he : PE X e te) : PE X (.Subscript e (.Slice none none (some (.UnaryOp .USub (.Constant (.int 1) k p1) p2)) p3) pos) (tRevT X.K te) := by
  refine ⟨fun pins s σ H Q I h => ?_⟩
  refine Subscript_ (thn (he.run pins s σ H _ I h) fun v s1 ⟨x, H1, I1, r1, q1⟩ => ?_)
  obtain ⟨a, xs, ex, hx, q⟩ := q1
  subst ex
  cases r1
  have hst : PO X (some (.UnaryOp .USub (.Constant (.int 1) k p1) p2)) (tPart (tUn (rU fun i => .int (-i)) (tC (.int 1)))) := po_some (pe_un un_neg pe_int)
  refine wpAny_Slice (thn (po_none.run pins s1 σ H1 (fun o H2 => o = none ∧ H2 = H1) I1 ⟨rfl, rfl⟩) fun vl s2 ⟨l, H2, I2, pl, el, e2⟩ => ?_)
  subst el e2
  refine thn (po_none.run pins s2 σ H2 (fun o H3 => o = none ∧ H3 = H2) I2 ⟨rfl, rfl⟩) fun vu s3 ⟨u, H3, I3, pu, eu, e3⟩ => ?_
  subst eu e3
  refine thn (hst.run pins s3 σ H3 (fun o H4 => o = some (-1) ∧ H4 = H3) I3 ⟨1, rfl, -1, rfl, rfl, rfl⟩) fun vs s4 ⟨o, H4, I4, ps, eo, e4⟩ => ?_
  subst eo e4
  have I5 : Inv X pins σ H4 { s4 with heap := s4.heap.push { cls := .type "slice", data := .fields #[vl, vu, vs] } } := I4.kept (t' := s4.toks) fun b ob q => Heap.get?_push_of_some _ q
  obtain ⟨its, r, ht, hz⟩ := I5.tuple hx
  have hlen := r.length
  show wpAny (model X.prog X.w) X.A (subscriptTail e (.Slice none none (some (.UnaryOp .USub (.Constant (.int 1) k p1) p2)) p3) (.ref a) (.ref s4.heap.objs.size)) (EP X pins σ Q) X.xe { s4 with heap := s4.heap.push { cls := .type "slice", data := .fields #[vl, vu, vs] } }
  refine tail_any (ops := [.ref a, .ref s4.heap.objs.size]) ht.typeIs (PyProof.Rows.slot_tuple_getitem.lookup) ?_ (by with_unfolding_all rfl)
  refine getItem_tuple_rev ht (Heap.IsSliceOf.new _ vl vu vs) pl pu ps ?_ (by rw [List.size_toArray]; omega)
  refine ⟨.ref _, _, I5.laid (t' := s4.toks) (o := .tup xs.reverse) (fun b ob q => Heap.get?_push_of_some _ q) (Nat.le_refl _) ?_, rfl, q _ (I5.hok.fresh (Nat.le_refl _))⟩
  exact ⟨by rw [List.length_reverse]; exact hz, _, r.reverse, IsTup.new _ _⟩
def revT : PV → Option PV
  | .tup l => some (.tup l.reverse)
  | _ => none
theorem Owns.rev {K : PySem.W.Frag} {S : Addr → Prop} {H : Hp} : ∀ {l : List PV} {vs : List V}, Owns K S H l vs [] → Owns K S H l.reverse vs.reverse []
  | [], vs, h => by obtain ⟨rfl, _⟩ := h; exact ⟨rfl, rfl⟩
  | p :: l, vs, h => by
    obtain ⟨v, r, f1, f2, rfl, e, o1, o2⟩ := h
    obtain ⟨rfl, rfl⟩ := app_nil e
    rw [List.reverse_cons, List.reverse_cons]
    exact Owns.snoc o1 (Owns.rev o2)
def dRevT (f : Env → R PV) : Env → R PV := fun env => (dFrz f env).bind fun p e => o1 (revT p) e
theorem ev_revT {k : Nat} {p1 p2 p3 pos : Pos} (ha : Ev X W io m a f) : Ev X W io m (.Subscript a (.Slice none none (some (.UnaryOp .USub (.Constant (.int 1) k p1) p2)) p3) pos) (dRevT f) := by
  refine ⟨(pe_revT ha.frz.pe).imp fun σ H Q q => ?_, Still.bind (m2 := m) ha.frz.st (fun _ => Still.o1) id id⟩
  obtain ⟨S, env, fp, C, G, q⟩ := q
  refine Post.bind (ft := []) C Owns.nil G id q fun p v S1 H1 env1 fv fp1 o1' _ C1 G1 e1 _ _ h1 => ?_
  have z := dFrz_nil e1 o1'
  subst z
  cases p with
  | tup l =>
    obtain ⟨a, vs, rfl, _, fr, os⟩ := o1'
    refine ⟨a, vs, rfl, fr.sq, fun p hp => new_tup G1.dm hp os.rev fun u S' H' f ou n => Post.fin (ft := []) C1 G1 h1 ou n⟩
  | _ => exact h1.elim
end
end L3

namespace L3
open PySem PySem.Spec PyProof.Rows L2
/-! # what a run of the functions gives, by steps -/
def R.satD {α : Type} (r : R α) (P : α → Env → Prop) (E : XV → Env → Prop) : Prop := match r with
  | .ok a e => P a e
  | .ex x e => E x e
  | .stk => False
structure SD where
  nx : Env → Prop
  rt : PV → Env → Prop
  ex : XV → Env → Prop
  bk : Env → Prop
  ct : Env → Prop
abbrev SD.thn (D : SD) (N : Env → Prop) : SD := ⟨N, D.rt, D.ex, D.bk, D.ct⟩
abbrev SD.lp (D : SD) (N : Env → Prop) : SD := ⟨N, D.rt, D.ex, D.nx, N⟩
abbrev SD.onx (D : SD) (N : XV → Env → Prop) : SD := ⟨D.nx, D.rt, N, D.bk, D.ct⟩
def RS.satD (r : RS) (D : SD) : Prop := match r with
  | .nx e => D.nx e
  | .rt p e => D.rt p e
  | .ex x e => D.ex x e
  | .bk e => D.bk e
  | .ct e => D.ct e
  | .stk => False
def RF.satD (r : RF) (P : PV → List PV → Prop) (E : XV → List PV → Prop) : Prop := match r with
  | .ok p o => P p o
  | .ex x o => E x o
  | .stk => False
def OsatD {α : Type} (o : Option α) (P : α → Prop) : Prop := match o with
  | some z => P z
  | none => False
theorem OsatD.of {α : Type} {o : Option α} {z : α} {P : α → Prop} (h : o = some z) (k : P z) : OsatD o P := by subst h; exact k
theorem OsatD.get {α : Type} {o : Option α} {P : α → Prop} (h : OsatD o P) : ∃ z, o = some z ∧ P z := by
  cases o with
  | none => exact h.elim
  | some z => exact ⟨z, rfl, h⟩
abbrev E0 : XV → Env → Prop := fun _ _ => False
abbrev F0 : XV → List PV → Prop := fun _ _ => False
theorem R.satD.mono {α : Type} {r : R α} {P P' : α → Env → Prop} {E E' : XV → Env → Prop} (h : r.satD P E) (h1 : ∀ a e, P a e → P' a e) (h2 : ∀ x e, E x e → E' x e) : r.satD P' E' := by
  cases r with
  | ok a e => exact h1 _ _ h
  | ex x e => exact h2 _ _ h
  | stk => exact h
theorem RF.satD.mono {r : RF} {P P' : PV → List PV → Prop} {E E' : XV → List PV → Prop} (h : r.satD P E) (h1 : ∀ a e, P a e → P' a e) (h2 : ∀ x e, E x e → E' x e) : r.satD P' E' := by
  cases r with
  | ok a e => exact h1 _ _ h
  | ex x e => exact h2 _ _ h
  | stk => exact h
theorem RS.satD.mono {r : RS} {D D' : SD} (h : r.satD D) (h1 : ∀ e, D.nx e → D'.nx e) (h2 : ∀ p e, D.rt p e → D'.rt p e) (h3 : ∀ x e, D.ex x e → D'.ex x e) (h4 : ∀ e, D.bk e → D'.bk e) (h5 : ∀ e, D.ct e → D'.ct e) : r.satD D' := by
  cases r with
  | nx e => exact h1 _ h
  | rt p e => exact h2 _ _ h
  | ex x e => exact h3 _ _ h
  | bk e => exact h4 _ h
  | ct e => exact h5 _ h
  | stk => exact h
theorem RF.satD.eq {r : RF} {p : PV} {o : List PV} (h : r.satD (fun q q2 => q = p ∧ q2 = o) F0) : r = .ok p o := by
  cases r with
  | ok a e => obtain ⟨rfl, rfl⟩ := h; rfl
  | ex x e => exact h.elim
  | stk => exact h.elim
theorem RF.satD.of {r : RF} {p : PV} {o : List PV} {P : PV → List PV → Prop} {E : XV → List PV → Prop} (e : r = .ok p o) (h : P p o) : r.satD P E := by subst e; exact h
theorem RF.satD.ofX {r : RF} {x : XV} {o : List PV} {P : PV → List PV → Prop} {E : XV → List PV → Prop} (e : r = .ex x o) (h : E x o) : r.satD P E := by subst e; exact h
theorem R.bind_sat {α β : Type} {r : R α} {k : α → Env → R β} {P : β → Env → Prop} {E : XV → Env → Prop} (h : r.satD (fun a e => (k a e).satD P E) E) : (r.bind k).satD P E := by
  cases r with
  | ok a e => exact h
  | ex x e => exact h
  | stk => exact h
theorem R.toS_sat {α : Type} {r : R α} {k : α → Env → RS} {D : SD} (h : r.satD (fun a e => (k a e).satD D) D.ex) : (r.toS k).satD D := by
  cases r with
  | ok a e => exact h
  | ex x e => exact h
  | stk => exact h
theorem o1_sat_D {α : Type} {o : Option α} {env : Env} {P : α → Env → Prop} {E : XV → Env → Prop} (h : OsatD o fun z => P z env) : (o1 o env).satD P E := by
  cases o with
  | some z => exact h
  | none => exact h
section
variable {α : Type} {P : PV → Env → Prop} {E : XV → Env → Prop} {env : Env} {f g h : Env → R PV} {F F' : PV → PV → Option PV} {i j : Nat} {p q : PV} {fs : Env → R (List PV)} {D : SD} {s t : Env → RS} {tf tg : Env → R Bool} {PB : Bool → Env → Prop} {PL : List PV → Env → Prop}
theorem w_c_D (k : P p env) : (dC p env).satD P E := k
theorem w_v_D (e : env[i]? = some (some p)) (o : isOwn p = false) (k : P p env) : (dV i env).satD P E := by
  unfold dV
  rw [e]
  show R.satD (if isOwn p = true then .stk else .ok p env) P E
  rw [o, if_neg Bool.false_ne_true]
  exact k
theorem w_frz_D (k : (f env).satD (fun p e => P (frzP p) e) E) : (dFrz f env).satD P E := R.bind_sat k
theorem w_2_D (k : (f env).satD (fun p e1 => (g e1).satD (fun q e2 => OsatD (F (frzP p) (frzP q)) fun z => P z e2) E) E) : (d2 F f g env).satD P E :=
  R.bind_sat (w_frz_D (k.mono (fun _ _ h => R.bind_sat (w_frz_D (h.mono (fun _ _ h => o1_sat_D h) fun _ _ h => h))) fun _ _ h => h))
theorem w_t2_D {F : PV → PV → Option Bool} (k : (f env).satD (fun p e1 => (g e1).satD (fun q e2 => OsatD (F (frzP p) (frzP q)) fun z => PB z e2) E) E) : (t2 F f g env).satD PB E :=
  R.bind_sat (w_frz_D (k.mono (fun _ _ h => R.bind_sat (w_frz_D (h.mono (fun _ _ h => o1_sat_D h) fun _ _ h => h))) fun _ _ h => h))
theorem w_of_D (k : (f env).satD (fun p e => ∃ b, p = .bl b ∧ PB b e) E) : (tOf f env).satD PB E := R.bind_sat (k.mono (fun p e ⟨b, h1, h2⟩ => by subst h1; exact h2) fun _ _ h => h)
theorem w_tand_D (k : (tf env).satD (fun b e => if b = true then (tg e).satD PB E else PB false e) E) : (tAndD tf tg env).satD PB E := R.bind_sat (k.mono (fun b e h => by
  cases b with
  | true => exact h
  | false => exact h) fun _ _ h => h)
theorem w_tor_D (k : (tf env).satD (fun b e => if b = true then PB true e else (tg e).satD PB E) E) : (tOrD tf tg env).satD PB E := R.bind_sat (k.mono (fun b e h => by
  cases b with
  | true => exact h
  | false => exact h) fun _ _ h => h)
theorem w_tnot_D (k : (tf env).satD (fun b e => PB (!b) e) E) : (tNotD tf env).satD PB E := R.bind_sat k
theorem w_and_D (k : (f env).satD (fun p e => ∃ b, p = .bl b ∧ if b = true then (g e).satD P E else P (.bl false) e) E) : (dAnd f g env).satD P E := R.bind_sat (k.mono (fun p e ⟨b, h1, h⟩ => by
  subst h1
  cases b with
  | true => exact h
  | false => exact h) fun _ _ h => h)
theorem w_or_D (k : (f env).satD (fun p e => ∃ b, p = .bl b ∧ if b = true then P (.bl true) e else (g e).satD P E) E) : (dOr f g env).satD P E := R.bind_sat (k.mono (fun p e ⟨b, h1, h⟩ => by
  subst h1
  cases b with
  | true => exact h
  | false => exact h) fun _ _ h => h)
theorem w_not_D (k : (f env).satD (fun p e => ∃ b, p = .bl b ∧ P (.bl !b) e) E) : (dNot f env).satD P E := R.bind_sat (k.mono (fun p e ⟨b, h1, h⟩ => by subst h1; exact h) fun _ _ h => h)
theorem w_ifx_D (k : (tf env).satD (fun b e => if b = true then (f e).satD P E else (g e).satD P E) E) : (dIf tf f g env).satD P E := R.bind_sat (k.mono (fun b e h => by
  cases b with
  | true => exact h
  | false => exact h) fun _ _ h => h)
theorem w_nil_D (k : PL [] env) : (dNil env).satD PL E := k
theorem w_cons_D (k : (f env).satD (fun p e1 => (fs e1).satD (fun ps e2 => PL (frzP p :: ps) e2) E) E) : (dCons f fs env).satD PL E := R.bind_sat (w_frz_D (k.mono (fun _ _ h => R.bind_sat h) fun _ _ h => h))
theorem w_consO_D (k : (f env).satD (fun p e1 => (fs e1).satD (fun ps e2 => PL (p :: ps) e2) E) E) : (dConsO f fs env).satD PL E := R.bind_sat (k.mono (fun _ _ h => R.bind_sat h) fun _ _ h => h)
theorem w_tup_D (k : (fs env).satD (fun ps e => P (.tup ps) e) E) : (dTup fs env).satD P E := R.bind_sat k
theorem w_lst_D (k : (fs env).satD (fun ps e => P (.mls ps) e) E) : (dLst fs env).satD P E := R.bind_sat k
theorem w_n_D {F : List PV → Option PV} (k : (fs env).satD (fun ps e => OsatD (F ps) fun z => P z e) E) : (dN F fs env).satD P E := R.bind_sat (k.mono (fun _ _ h => o1_sat_D h) fun _ _ h => h)
theorem w_n1v_D {F : PV → Option PV} (e : env[i]? = some (some p)) (k : OsatD (F p) fun z => P z env) : (dN1V F i env).satD P E := by
  unfold dN1V slotP
  rw [e]
  exact o1_sat_D k
theorem w_isi_D {T : String} (k : (f env).satD (fun p e => P (.bl (isTy T (frzP p))) e) E) : (dIsi T f env).satD P E := R.bind_sat (w_frz_D k)
theorem w_neg_D (k : (f env).satD (fun p e => ∃ i, p = .int i ∧ P (.int (-i)) e) E) : (dNeg f env).satD P E := R.bind_sat (k.mono (fun p e ⟨i, h1, h⟩ => by subst h1; exact h) fun _ _ h => h)
theorem w_chain_D (k : (f env).satD (fun p e1 => (g e1).satD (fun q e2 => OsatD (blO (F (frzP p) (frzP q))) fun b => if b = true then (h e2).satD (fun z e3 => OsatD (F' (frzP q) (frzP z)) fun z => P z e3) E else P (.bl false) e2) E) E) : (dChain F F' f g h env).satD P E := by
  refine R.bind_sat (w_frz_D (k.mono (fun p e1 k => R.bind_sat (w_frz_D (k.mono (fun q e2 k => ?_) fun _ _ h => h))) fun _ _ h => h))
  obtain ⟨b, e, k⟩ := k.get
  rw [e]
  cases b with
  | true => exact R.bind_sat (w_frz_D (k.mono (fun _ _ h => o1_sat_D h) fun _ _ h => h))
  | false => exact k
theorem slot_of (e : env[i]? = some (some p)) : slotP env i = some p := by unfold slotP; rw [e]
theorem mls_of {l : List PV} (e : env[i]? = some (some (.mls l))) : mlsAt env i = some l := by unfold mlsAt; rw [slot_of e]
theorem w_ixv_D (e : env[i]? = some (some p)) (k : (g env).satD (fun q e => OsatD (slotP e i) fun p => OsatD (idxV p (frzP q)) fun z => P z e) E) : (dIdxV i g env).satD P E := by
  unfold dIdxV
  rw [slot_of e]
  refine R.bind_sat (w_frz_D (k.mono (fun q e1 h => o1_sat_D ?_) fun _ _ h => h))
  obtain ⟨p1, e1, h⟩ := h.get
  rw [e1]
  exact h
theorem w_fz_D (e : env[i]? = some (some p)) (k : P (frzP p) (env.set i (some (frzP p)))) : (dFz i env).satD P E := by
  unfold dFz
  rw [slot_of e]
  exact k
theorem w_mv_D (e : env[i]? = some (some p)) (k : P p (env.set i none)) : (dMv i env).satD P E := by
  unfold dMv
  rw [slot_of e]
  exact k
theorem w_app_D {l : List PV} (e : env[i]? = some (some (.mls l))) (k : (f env).satD (fun p e => OsatD (mlsAt e i) fun l => l.length < 16000000 ∧ P .non (e.set i (some (.mls (l ++ [p]))))) E) : (dApp i f env).satD P E := by
  unfold dApp
  rw [mls_of e]
  refine R.bind_sat (k.mono (fun p e1 h => ?_) fun _ _ h => h)
  obtain ⟨l1, e1, h1, h2⟩ := h.get
  rw [e1]
  show R.satD (if l1.length < 16000000 then _ else _) P E
  rw [if_pos h1]
  exact h2
theorem w_ext_D {l : List PV} (e : env[i]? = some (some (.mls l))) (k : (f env).satD (fun p e => ∃ z, frzP p = .lst z ∧ OsatD (mlsAt e i) fun l => l.length + z.length < 16000000 ∧ P .non (e.set i (some (.mls (l ++ z))))) E) : (dExt i f env).satD P E := by
  unfold dExt
  rw [mls_of e]
  refine R.bind_sat (w_frz_D (k.mono (fun p e1 h => ?_) fun _ _ h => h))
  obtain ⟨z, ez, h⟩ := h
  obtain ⟨l1, e1, h1, h2⟩ := h.get
  rw [ez]
  show R.satD (match mlsAt _ i with | some l => if l.length + z.length < 16000000 then _ else _ | none => _) P E
  rw [e1]
  show R.satD (if l1.length + z.length < 16000000 then _ else _) P E
  rw [if_pos h1]
  exact h2
theorem w_popAt_D {l : List PV} (e : env[i]? = some (some (.mls l))) (k : (f env).satD (fun q e => ∃ z, frzP q = .int z ∧ OsatD (mlsAt e i) fun l => 0 ≤ z ∧ z < 2 ^ 63 ∧ OsatD l[z.toNat]? fun p => isOwn p = false ∧ P p (e.set i (some (.mls (l.eraseIdx z.toNat))))) E) : (dPopAt i f env).satD P E := by
  unfold dPopAt
  rw [mls_of e]
  refine R.bind_sat (w_frz_D (k.mono (fun p e1 h => ?_) fun _ _ h => h))
  obtain ⟨z, ez, h⟩ := h
  obtain ⟨l1, e1, h1, h2, h⟩ := h.get
  obtain ⟨p1, e2, h3, h4⟩ := h.get
  rw [ez, e1]
  show R.satD (if -(2 ^ 63) ≤ z ∧ z < 2 ^ 63 then _ else _) P E
  rw [if_pos ⟨by omega, h2⟩]
  have hl : z.toNat < l1.length := (List.getElem?_eq_some_iff.mp e2).1
  have e3 : seqIndex? z l1.length = some z.toNat := by
    unfold seqIndex?
    first
      | (rw [if_pos (by omega)]; try rw [if_pos (by omega)])
      | (simp; omega)
  rw [e3]
  show R.satD (match l1[z.toNat]? with | some p => if isOwn p = true then .stk else _ | none => .stk) P E
  rw [e2]
  show R.satD (if isOwn p1 = true then _ else _) P E
  rw [h3, if_neg Bool.false_ne_true]
  exact h4
end
end L3

namespace L3
open PySem PySem.Spec PyProof.Rows L2
section
variable {α : Type} {P : PV → Env → Prop} {E : XV → Env → Prop} {env : Env} {f g h : Env → R PV} {F F' : PV → PV → Option PV} {i j : Nat} {p q : PV} {fs : Env → R (List PV)} {D : SD} {s t : Env → RS} {tf tg : Env → R Bool} {PB : Bool → Env → Prop} {PL : List PV → Env → Prop}
/-! ### calls -/
theorem w_anil_D {PA : List AI → Env → Prop} (k : PA [] env) : (aNil env).satD PA E := k
theorem w_acons_D {ga : Env → R (List AI)} {PA : List AI → Env → Prop} (k : (f env).satD (fun p e1 => (ga e1).satD (fun ps e2 => PA (.inl (frzP p) :: ps) e2) E) E) : (aCons f ga env).satD PA E := R.bind_sat (w_frz_D (k.mono (fun _ _ h => R.bind_sat h) fun _ _ h => h))
theorem w_aio_D {ga : Env → R (List AI)} {PA : List AI → Env → Prop} (e : env[i]? = some (some p)) (k : (ga env).satD (fun ps e2 => PA (.inr i :: ps) e2) E) : (aIo i ga env).satD PA E := by
  unfold aIo
  rw [e]
  exact R.bind_sat k
theorem w_call_D {sl : List Nat} {FF : List PV → RF} {ga : Env → R (List AI)} (k : (ga env).satD (fun its e => OsatD (fill its e) fun q => (FF q.1).satD (fun p o => OsatD (putB sl o q.2) fun e3 => P p e3) (fun x o => OsatD (putB sl o q.2) fun e3 => E x e3)) E) : (callD sl FF ga env).satD P E := by
  refine R.bind_sat (k.mono (fun its e h => ?_) fun _ _ h => h)
  obtain ⟨q, e1, h⟩ := h.get
  rw [e1]
  show R.satD (match FF q.1 with | .ok p outs => _ | .ex x outs => _ | .stk => _) P E
  cases e2 : FF q.1 with
  | stk => rw [e2] at h; exact h
  | ok p o =>
    rw [e2] at h
    obtain ⟨e3, e4, h⟩ := OsatD.get (show OsatD (putB sl o q.2) fun e3 => P p e3 from h)
    show R.satD (match putB sl o q.2 with | some e3 => .ok p e3 | none => .stk) P E
    rw [e4]
    exact h
  | ex x o =>
    rw [e2] at h
    obtain ⟨e3, e4, h⟩ := OsatD.get (show OsatD (putB sl o q.2) fun e3 => E x e3 from h)
    show R.satD (match putB sl o q.2 with | some e3 => .ex x e3 | none => .stk) P E
    rw [e4]
    exact h
theorem w_run_D {n : Nat} {io : List Nat} {b : Env → RS} {ps : List PV} {PF : PV → List PV → Prop} {EF : XV → List PV → Prop}
    (k : (b (ps.map some ++ List.replicate (n - ps.length) none)).satD { nx := fun e => OsatD (outsOf io e) fun o => PF .non o, rt := fun p e => OsatD (outsOf io e) fun o => PF p o, ex := fun x e => OsatD (outsOf io e) fun o => EF x o, bk := fun _ => False, ct := fun _ => False }) : (runF n io b ps).satD PF EF := by
  unfold runF
  cases e : b (ps.map some ++ List.replicate (n - ps.length) none) with
  | stk => rw [e] at k; exact k
  | bk _ => rw [e] at k; exact k
  | ct _ => rw [e] at k; exact k
  | nx e1 =>
    rw [e] at k
    obtain ⟨o, h1, h2⟩ := OsatD.get (show OsatD (outsOf io e1) fun o => PF .non o from k)
    show RF.satD (match outsOf io e1 with | some o => .ok .non o | none => .stk) PF EF
    rw [h1]; exact h2
  | rt p e1 =>
    rw [e] at k
    obtain ⟨o, h1, h2⟩ := OsatD.get (show OsatD (outsOf io e1) fun o => PF p o from k)
    show RF.satD (match outsOf io e1 with | some o => .ok p o | none => .stk) PF EF
    rw [h1]; exact h2
  | ex p e1 =>
    rw [e] at k
    obtain ⟨o, h1, h2⟩ := OsatD.get (show OsatD (outsOf io e1) fun o => EF p o from k)
    show RF.satD (match outsOf io e1 with | some o => .ex p o | none => .stk) PF EF
    rw [h1]; exact h2
/-! ### statements -/
theorem w_nx_D (k : D.nx env) : (sNx env).satD D := k
theorem w_seq_D (k : (s env).satD (D.thn fun e => (t e).satD D)) : (sSeq s t env).satD D := by
  unfold sSeq
  cases e : s env with
  | nx e1 => rw [e] at k; exact k
  | _ => rw [e] at k; exact k
theorem w_ret_D (k : (f env).satD (fun p e => D.rt p e) D.ex) : (sRet f env).satD D := R.toS_sat k
theorem w_retn_D (k : D.rt .non env) : (sRetN env).satD D := k
theorem w_drop_D (k : (f env).satD (fun _ e => D.nx e) D.ex) : (sDrop f env).satD D := R.toS_sat k
theorem w_if_D (k : (tf env).satD (fun b e => if b = true then (s e).satD D else (t e).satD D) D.ex) : (sIf tf s t env).satD D := R.toS_sat (k.mono (fun b e h => by
  cases b with
  | true => exact h
  | false => exact h) fun _ _ h => h)
theorem w_set_D (k : (f env).satD (fun p e => i < e.length ∧ D.nx (e.set i (some p))) D.ex) : (sSet i f env).satD D := R.toS_sat (k.mono (fun p e h => by
  rw [if_pos h.1]
  exact h.2) fun _ _ h => h)
theorem w_put_D {l : List PV} (k : (f env).satD (fun p e1 => (∃ l, mlsAt e1 i = some l) ∧ (g e1).satD (fun q e2 => ∃ z, frzP q = .int z ∧ OsatD (mlsAt e2 i) fun l => OsatD (ixN l.length z) fun j => D.nx (e2.set i (some (.mls (l.set j (frzP p)))))) D.ex) D.ex) : (sPut i g f env).satD D := by
  refine R.toS_sat (w_frz_D (k.mono (fun p e1 h => ?_) fun _ _ h => h))
  obtain ⟨⟨l0, e0⟩, h⟩ := h
  show RS.satD (match mlsAt e1 i with | none => .stk | some _ => _) D
  rw [e0]
  refine R.toS_sat (w_frz_D (h.mono (fun q e2 h => ?_) fun _ _ h => h))
  obtain ⟨z, ez, h⟩ := h
  obtain ⟨l1, e3, h⟩ := h.get
  obtain ⟨j, e4, h⟩ := h.get
  show RS.satD (match frzP q, mlsAt e2 i with | .int k, some l => _ | _, _ => .stk) D
  rw [ez, e3]
  show RS.satD (match ixN l1.length z with | some j => _ | none => .stk) D
  rw [e4]
  exact h
theorem w_aug_D (e : env[i]? = some (some p)) (o : isOwn p = false) (k : (f env).satD (fun q e => OsatD (F p (frzP q)) fun z => isOwn z = false ∧ i < e.length ∧ D.nx (e.set i (some z))) D.ex) : (sAug F i f env).satD D := by
  unfold sAug
  rw [slot_of e]
  show RS.satD (if isOwn p = true then .stk else _) D
  rw [o, if_neg Bool.false_ne_true]
  refine R.toS_sat (w_frz_D (k.mono (fun q e1 h => ?_) fun _ _ h => h))
  obtain ⟨z, ez, h1, h2, h3⟩ := h.get
  show RS.satD (match F p (frzP q) with | some z => if isOwn z = true then .stk else if i < e1.length then .nx (e1.set i (some z)) else .stk | none => .stk) D
  rw [ez]
  show RS.satD (if isOwn z = true then .stk else if i < e1.length then .nx (e1.set i (some z)) else .stk) D
  rw [h1, if_neg Bool.false_ne_true, if_pos h2]
  exact h3
theorem w_augix_D {l : List PV} (e : env[i]? = some (some (.mls l))) (k : (g env).satD (fun q e1 => ∃ z, frzP q = .int z ∧ OsatD (mlsAt e1 i) fun l1 => OsatD (atI l1 z) fun old => isOwn old = false ∧ (f e1).satD (fun p e2 => OsatD (F old (frzP p)) fun y => OsatD (mlsAt e2 i) fun l2 => OsatD (ixN l2.length z) fun j => isOwn y = false ∧ D.nx (e2.set i (some (.mls (l2.set j y))))) D.ex) D.ex) : (sAugIx F i g f env).satD D := by
  unfold sAugIx
  rw [mls_of e]
  refine R.toS_sat (w_frz_D (k.mono (fun q e1 h => ?_) fun _ _ h => h))
  obtain ⟨z, ez, h⟩ := h
  obtain ⟨l1, e3, h⟩ := h.get
  obtain ⟨old, e4, ho, h⟩ := h.get
  show RS.satD (match frzP q, mlsAt e1 i with | .int k, some l1 => _ | _, _ => .stk) D
  rw [ez, e3]
  show RS.satD (match atI l1 z with | some old => _ | none => .stk) D
  rw [e4]
  show RS.satD (if isOwn old = true then .stk else _) D
  rw [ho, if_neg Bool.false_ne_true]
  refine R.toS_sat (w_frz_D (h.mono (fun q e2 h => ?_) fun _ _ h => h))
  obtain ⟨y, e5, h⟩ := h.get
  obtain ⟨l2, e6, h⟩ := h.get
  obtain ⟨j, e7, hy, h⟩ := h.get
  show RS.satD (match F old (frzP q), mlsAt e2 i with | some z', some l2 => _ | _, _ => .stk) D
  rw [e5, e6]
  show RS.satD (match ixN l2.length z with | some j => _ | none => .stk) D
  rw [e7]
  show RS.satD (if isOwn y = true then .stk else _) D
  rw [hy, if_neg Bool.false_ne_true]
  exact h
theorem w_asg_D {tg : Tg} (k : (f env).satD (fun p e => OsatD (tg (frzP p) e) fun e' => D.nx e') D.ex) : (sAsg tg f env).satD D := by
  refine R.toS_sat (w_frz_D (k.mono (fun q e1 h => ?_) fun _ _ h => h))
  obtain ⟨e', e2, h⟩ := h.get
  show RS.satD (tgS (tg (frzP q) e1) fun e' => .nx e') D
  rw [e2]
  exact h
theorem w_par_D (k : (fs env).satD (fun ps e => ∃ p q, ps = [p, q] ∧ i < e.length ∧ j < e.length ∧ D.nx ((e.set i (some p)).set j (some q))) D.ex) : (sPar i j fs env).satD D := by
  refine R.toS_sat (k.mono (fun q e1 h => ?_) fun _ _ h => h)
  obtain ⟨p, q', rfl, h1, h2, h3⟩ := h
  show RS.satD (if i < e1.length ∧ j < e1.length then _ else _) D
  rw [if_pos ⟨h1, h2⟩]
  exact h3
theorem w_raise_D {x : Str} {ks : List Str} (k : (fs env).satD (fun ps e => D.ex ⟨x, ks.zip ps⟩ e) D.ex) : (sRaise x ks fs env).satD D := R.toS_sat k
theorem w_try_D {cl : List Str} {hs : List HD} (k : (s env).satD (D.onx fun x e => cl.contains x.c = true ∧ (runH hs x e).satD D)) : (sTry s cl hs env).satD D := by
  unfold sTry
  cases e : s env with
  | ex x e1 =>
    rw [e] at k
    obtain ⟨h1, h2⟩ := (show cl.contains x.c = true ∧ (runH hs x e1).satD D from k)
    show RS.satD (if cl.contains x.c = true then runH hs x e1 else .stk) D
    rw [if_pos h1]
    exact h2
  | _ => rw [e] at k; exact k
theorem w_hd_D {cs : List Str} {h : XV → Env → RS} {r : List HD} {x : XV} (k : if cs.contains x.c = true then (h x env).satD (D.onx fun _ _ => False) else (runH r x env).satD D) : (runH ((cs, none, h) :: r) x env).satD D := by
  show RS.satD (if cs.contains x.c = true then (h x env).nox else runH r x env) D
  by_cases c : cs.contains x.c = true
  · rw [if_pos c] at k ⊢
    cases e : h x env <;> rw [e] at k <;> exact k
  · rw [if_neg c] at k ⊢; exact k
theorem w_hdN_D {cs : List Str} {h : XV → Env → RS} {r : List HD} {x : XV} (k : if cs.contains x.c = true then i < env.length ∧ (h x (env.set i none)).satD { nx := fun e => D.nx (e.set i none), rt := D.rt, ex := fun _ _ => False, bk := fun e => D.bk (e.set i none), ct := fun e => D.ct (e.set i none) } else (runH r x env).satD D) : (runH ((cs, some i, h) :: r) x env).satD D := by
  show RS.satD (if cs.contains x.c = true then (if i < env.length then (h x (env.set i none)).nox.out i else .stk) else runH r x env) D
  by_cases c : cs.contains x.c = true
  · rw [if_pos c] at k ⊢
    rw [if_pos k.1]
    have k := k.2
    cases e : h x (env.set i none) <;> rw [e] at k <;> exact k
  · rw [if_neg c] at k ⊢; exact k
theorem w_fld_D {x : XV} {n : Str} (e : x.fs.lookup n = some p) (o : scP p = true) (k : P p env) : (dFld x n env).satD P E := by
  unfold dFld
  rw [e]
  show R.satD (if scP p = true then _ else _) P E
  rw [if_pos o]
  exact k
/-! ### what is walked -/
theorem w_iv_D (k : (f env).satD (fun p e => OsatD (itemsOf (frzP p)) fun l => PL l e) E) : (iV f env).satD PL E := R.bind_sat (w_frz_D (k.mono (fun _ _ h => o1_sat_D h) fun _ _ h => h))
theorem w_ir_D (k : (fs env).satD (fun ps e => OsatD (rngOf ps) fun l => PL l e) E) : (iR fs env).satD PL E := R.bind_sat (k.mono (fun _ _ h => o1_sat_D h) fun _ _ h => h)
theorem w_ien_D (k : (fs env).satD (fun ps e => OsatD (enumOf ps) fun l => PL l e) E) : (iEn fs env).satD PL E := R.bind_sat (k.mono (fun _ _ h => o1_sat_D h) fun _ _ h => h)
/-- a for, by an invariant over what is behind -/
theorem forD_inv_D {tg : Tg} {body : Env → RS} {items : List PV} (Iv : Nat → Env → Prop) (hs : ∀ i p e, items[i]? = some p → Iv i e → OsatD (tg p e) fun e1 => (body e1).satD (D.lp (Iv (i + 1)))) (hend : ∀ e, Iv items.length e → D.nx e) :
    ∀ (n : Nat) (e : Env), n ≤ items.length → Iv n e → (forD tg body (items.drop n) e).satD D := by
  intro n
  generalize hk : items.length - n = k
  induction k generalizing n with
  | zero =>
    intro e hn h
    rw [List.drop_eq_nil_of_le (by omega)]
    exact hend e (by rw [show items.length = n by omega]; exact h)
  | succ k ih =>
    intro e hn h
    have hl : n < items.length := by omega
    rw [List.drop_eq_getElem_cons hl]
    obtain ⟨e1, h1, h2⟩ := (hs n items[n] e (List.getElem?_eq_getElem hl) h).get
    show RS.satD ((tgS (tg items[n] e) body).turn (forD tg body (items.drop (n + 1)))) D
    rw [h1]
    show RS.satD ((body e1).turn (forD tg body (items.drop (n + 1)))) D
    cases e2 : body e1 with
    | nx e3 => rw [e2] at h2; exact ih (n + 1) (by omega) e3 (by omega) h2
    | ct e3 => rw [e2] at h2; exact ih (n + 1) (by omega) e3 (by omega) h2
    | bk e3 => rw [e2] at h2; exact h2
    | rt p e3 => rw [e2] at h2; exact h2
    | ex p e3 => rw [e2] at h2; exact h2
    | stk => rw [e2] at h2; exact h2
theorem w_for_D {tg : Tg} {body : Env → RS} (k : (fs env).satD (fun items e => ∃ Iv : Nat → Env → Prop, Iv 0 e ∧ (∀ i p e, items[i]? = some p → Iv i e → OsatD (tg p e) fun e1 => (body e1).satD (D.lp (Iv (i + 1)))) ∧ ∀ e, Iv items.length e → D.nx e) D.ex) : (sFor fs tg body env).satD D :=
  R.toS_sat (k.mono (fun items e ⟨Iv, h0, hs, hend⟩ => by
    have := forD_inv_D Iv hs hend 0 e (Nat.zero_le _) h0
    exact this) fun _ _ h => h)
/-- a for over the items one by one -/
theorem w_for1_D {tg : Tg} {body : Env → RS} (k : (fs env).satD (fun items e => (forD tg body items e).satD D) D.ex) : (sFor fs tg body env).satD D := R.toS_sat k
theorem w_fnil_D {tg : Tg} {body : Env → RS} (k : D.nx env) : (forD tg body [] env).satD D := k
theorem w_fcons_D {tg : Tg} {body : Env → RS} {ps : List PV} (k : OsatD (tg p env) fun e1 => (body e1).satD (D.lp fun e => (forD tg body ps e).satD D)) : (forD tg body (p :: ps) env).satD D := by
  obtain ⟨e1, h1, h2⟩ := k.get
  show RS.satD ((tgS (tg p env) body).turn (forD tg body ps)) D
  rw [h1]
  show RS.satD ((body e1).turn (forD tg body ps)) D
  cases e2 : body e1 with
  | nx e3 => rw [e2] at h2; exact h2
  | ct e3 => rw [e2] at h2; exact h2
  | bk e3 => rw [e2] at h2; exact h2
  | rt p e3 => rw [e2] at h2; exact h2
  | ex p e3 => rw [e2] at h2; exact h2
  | stk => rw [e2] at h2; exact h2
/-! ### comprehensions -/
/-- by an invariant over what is collected -/
theorem lcN_inv_D {own : List Nat} {tg : Tg} {cond : Env → R Bool} {elt : Env → R PV} {items : List PV} (Iv : Nat → List PV → Env → Prop)
    (hs : ∀ i p acc e, items[i]? = some p → Iv i acc e → OsatD (tg p e) fun e1 => (cond e1).satD (fun b e2 => if b = true then (elt e2).satD (fun q e3 => Iv (i + 1) (acc ++ [q]) (wipeE e3 own)) E0 else Iv (i + 1) acc (wipeE e2 own)) E0) (hend : ∀ acc e, Iv items.length acc e → PL acc e) :
    ∀ (n : Nat) (acc : List PV) (e : Env), n ≤ items.length → Iv n acc e → (lcN own tg cond elt (items.drop n) e).satD (fun qs e => PL (acc ++ qs) e) E0 := by
  intro n
  generalize hk : items.length - n = k
  induction k generalizing n with
  | zero =>
    intro acc e hn h
    rw [List.drop_eq_nil_of_le (by omega)]
    show PL (acc ++ []) e
    rw [List.append_nil]
    exact hend acc e (by rw [show items.length = n by omega]; exact h)
  | succ k ih =>
    intro acc e hn h
    have hl : n < items.length := by omega
    rw [List.drop_eq_getElem_cons hl]
    obtain ⟨e1, h1, h2⟩ := (hs n items[n] acc e (List.getElem?_eq_getElem hl) h).get
    show R.satD (match tg items[n] e with | none => .stk | some e1 => _) _ _
    rw [h1]
    refine R.bind_sat (h2.mono (fun b e2 h => ?_) fun _ _ h => h)
    cases b with
    | true =>
      rw [if_pos rfl] at h ⊢
      refine R.bind_sat (h.mono (fun q e3 h => R.bind_sat ?_) fun _ _ h => h)
      have := ih (n + 1) (by omega) (acc ++ [q]) (wipeE e3 own) (by omega) h
      refine this.mono (fun qs e4 h => ?_) fun _ _ h => h
      show PL (acc ++ q :: qs) e4
      rw [List.append_assoc] at h
      exact h
    | false =>
      rw [if_neg Bool.false_ne_true] at h ⊢
      exact ih (n + 1) (by omega) acc (wipeE e2 own) (by omega) h
theorem w_lc_D {own : List Nat} {tg : Tg} {cond : Env → R Bool} {elt : Env → R PV}
    (k : (fs env).satD (fun items e => items.length < 16000000 ∧ ∃ Iv : Nat → List PV → Env → Prop, Iv 0 [] (wipeE e own) ∧ (∀ i p acc e, items[i]? = some p → Iv i acc e → OsatD (tg p e) fun e1 => (cond e1).satD (fun b e2 => if b = true then (elt e2).satD (fun q e3 => Iv (i + 1) (acc ++ [q]) (wipeE e3 own)) E0 else Iv (i + 1) acc (wipeE e2 own)) E0) ∧
      ∀ acc e1, Iv items.length acc e1 → OsatD (backE e own e1) fun e2 => P (.mls acc) e2) E) : (dLc own fs tg cond elt env).satD P E := by
  refine R.bind_sat (k.mono (fun items e h => ?_) fun _ _ h => h)
  obtain ⟨hl, Iv, h0, hs, hend⟩ := h
  rw [if_pos hl]
  have := lcN_inv_D (PL := fun acc e1 => OsatD (backE e own e1) fun e2 => P (.mls acc) e2) Iv hs hend 0 [] (wipeE e own) (Nat.zero_le _) h0
  refine R.bind_sat ?_
  have z : (items.drop 0) = items := rfl
  rw [z] at this
  cases e1 : lcN own tg cond elt items (wipeE e own) with
  | stk => rw [e1] at this; exact this
  | ex x e2 => rw [e1] at this; exact this.elim
  | ok qs e2 =>
    rw [e1] at this
    obtain ⟨e3, e4, h⟩ := OsatD.get (show OsatD (backE e own e2) fun e2 => P (.mls ([] ++ qs)) e2 from this)
    show R.satD (match backE e own e2 with | some e2 => _ | none => .stk) P E
    rw [e4]
    exact h
theorem w_yes_D (k : PB true env) : (tYesD env).satD PB E := k
/-! ### slices -/
theorem w_bno_D {PO : Option Int → Env → Prop} (k : PO none env) : (bNo env).satD PO E := k
theorem w_bso_D {PO : Option Int → Env → Prop} (k : (f env).satD (fun p e => ∃ i, p = .int i ∧ PO (some i) e) E) : (bSo f env).satD PO E := R.bind_sat (k.mono (fun p e ⟨i, h1, h⟩ => by subst h1; exact h) fun _ _ h => h)
theorem w_sl_D {lo hi : Env → R (Option Int)} (k : (f env).satD (fun p e1 => (lo e1).satD (fun l e2 => (hi e2).satD (fun h e3 => OsatD (slP (frzP p) l h) fun z => P z e3) E) E) E) : (dSl f lo hi env).satD P E :=
  R.bind_sat (w_frz_D (k.mono (fun _ _ k => R.bind_sat (k.mono (fun _ _ k => R.bind_sat (k.mono (fun _ _ k => o1_sat_D k) fun _ _ h => h)) fun _ _ h => h)) fun _ _ h => h))
theorem w_slv_D {lo hi : Env → R (Option Int)} (e : env[i]? = some (some p)) (k : (lo env).satD (fun l e2 => (hi e2).satD (fun h e3 => OsatD (slotP e3 i) fun p => OsatD (slP p l h) fun z => P z e3) E) E) : (dSlV i lo hi env).satD P E := by
  unfold dSlV
  rw [slot_of e]
  refine R.bind_sat (k.mono (fun _ _ k => R.bind_sat (k.mono (fun l e3 k => o1_sat_D ?_) fun _ _ h => h)) fun _ _ h => h)
  obtain ⟨p1, e1, h⟩ := k.get
  rw [e1]
  exact h
end
end L3

namespace L3
open PySem PySem.Spec PyProof.Rows L2
def asBl : PV → Option Bool
  | .bl b => some b
  | _ => none
def asInt : PV → Option Int
  | .int b => some b
  | _ => none
def asLst : PV → Option (List PV)
  | .lst b => some b
  | _ => none
theorem asBl_get_D {p : PV} {N : Bool → Prop} (h : OsatD (asBl p) N) : ∃ b, p = .bl b ∧ N b := by
  cases p <;> first
    | exact ⟨_, rfl, h⟩
    | exact h.elim
theorem asInt_get_D {p : PV} {N : Int → Prop} (h : OsatD (asInt p) N) : ∃ b, p = .int b ∧ N b := by
  cases p <;> first
    | exact ⟨_, rfl, h⟩
    | exact h.elim
theorem asLst_get_D {p : PV} {N : List PV → Prop} (h : OsatD (asLst p) N) : ∃ b, p = .lst b ∧ N b := by
  cases p <;> first
    | exact ⟨_, rfl, h⟩
    | exact h.elim
section
variable {α : Type} {P : PV → Env → Prop} {E : XV → Env → Prop} {env : Env} {f g h : Env → R PV} {F F' : PV → PV → Option PV} {i j : Nat} {p q : PV} {fs : Env → R (List PV)} {D : SD} {s t : Env → RS} {tf tg : Env → R Bool} {PB : Bool → Env → Prop} {PL : List PV → Env → Prop}
theorem u_of_D (k : (f env).satD (fun p e => OsatD (asBl p) fun b => PB b e) E) : (tOf f env).satD PB E := w_of_D (k.mono (fun _ _ h => asBl_get_D h) fun _ _ h => h)
theorem u_and_D (k : (f env).satD (fun p e => OsatD (asBl p) fun b => if b = true then (g e).satD P E else P (.bl false) e) E) : (dAnd f g env).satD P E := w_and_D (k.mono (fun _ _ h => asBl_get_D h) fun _ _ h => h)
theorem u_or_D (k : (f env).satD (fun p e => OsatD (asBl p) fun b => if b = true then P (.bl true) e else (g e).satD P E) E) : (dOr f g env).satD P E := w_or_D (k.mono (fun _ _ h => asBl_get_D h) fun _ _ h => h)
theorem u_not_D (k : (f env).satD (fun p e => OsatD (asBl p) fun b => P (.bl !b) e) E) : (dNot f env).satD P E := w_not_D (k.mono (fun _ _ h => asBl_get_D h) fun _ _ h => h)
theorem u_neg_D (k : (f env).satD (fun p e => OsatD (asInt p) fun i => P (.int (-i)) e) E) : (dNeg f env).satD P E := w_neg_D (k.mono (fun _ _ h => asInt_get_D h) fun _ _ h => h)
theorem u_bso_D {PO : Option Int → Env → Prop} (k : (f env).satD (fun p e => OsatD (asInt p) fun i => PO (some i) e) E) : (bSo f env).satD PO E := w_bso_D (k.mono (fun _ _ h => asInt_get_D h) fun _ _ h => h)
def setQ (i : Nat) (p : PV) (e : Env) : Option Env := if i < e.length then some (e.set i (some p)) else none
theorem setQ_get_D {i : Nat} {p : PV} {e : Env} {N : Env → Prop} (h : OsatD (setQ i p e) N) : i < e.length ∧ N (e.set i (some p)) := by
  unfold setQ at h
  by_cases c : i < e.length
  · rw [if_pos c] at h; exact ⟨c, h⟩
  · rw [if_neg c] at h; exact h.elim
theorem slotP_get {e : Env} {i : Nat} {p : PV} (h : slotP e i = some p) : e[i]? = some (some p) := slotP_some h
/-- a value that may be read -/
def noOwn (p : PV) : Option PV := if isOwn p = true then none else some p
theorem noOwn_get_D {p : PV} {N : PV → Prop} (h : OsatD (noOwn p) N) : isOwn p = false ∧ N p := by
  unfold noOwn at h
  cases e : isOwn p with
  | true => rw [e, if_pos rfl] at h; exact h.elim
  | false => rw [e, if_neg Bool.false_ne_true] at h; exact ⟨rfl, h⟩
def slotN (e : Env) (i : Nat) : Option PV := (slotP e i).bind noOwn
theorem u_v_D (k : OsatD (slotN env i) fun p => P p env) : (dV i env).satD P E := by
  obtain ⟨p, e, h⟩ := k.get
  unfold slotN at e
  cases e1 : slotP env i with
  | none => rw [e1] at e; cases e
  | some q =>
    rw [e1] at e
    have e : noOwn q = some p := e
    obtain ⟨o, e3⟩ := noOwn_get_D (N := fun z => z = p) (show OsatD (noOwn q) _ by rw [e]; rfl)
    subst e3
    exact w_v_D (slotP_get e1) o h
theorem u_aio_D {ga : Env → R (List AI)} {PA : List AI → Env → Prop} (k : OsatD (slotP env i) fun _ => (ga env).satD (fun ps e2 => PA (.inr i :: ps) e2) E) : (aIo i ga env).satD PA E := by
  obtain ⟨p, e, h⟩ := k.get
  exact w_aio_D (slotP_get e) h
theorem u_n1v_D {F : PV → Option PV} (k : OsatD ((slotP env i).bind F) fun z => P z env) : (dN1V F i env).satD P E := o1_sat_D k
theorem u_ixv_D (k : OsatD (slotP env i) fun _ => (g env).satD (fun q e => OsatD ((slotP e i).bind fun p => idxV p (frzP q)) fun z => P z e) E) : (dIdxV i g env).satD P E := by
  obtain ⟨p, e, h⟩ := k.get
  refine w_ixv_D (slotP_get e) (h.mono (fun q e h => ?_) fun _ _ h => h)
  obtain ⟨z, e1, h⟩ := h.get
  cases e2 : slotP _ i with
  | none => rw [e2] at e1; cases e1
  | some q => rw [e2] at e1; exact OsatD.of (z := q) rfl (OsatD.of e1 h)
theorem u_fz_D (k : OsatD (slotP env i) fun p => P (frzP p) (env.set i (some (frzP p)))) : (dFz i env).satD P E := by
  obtain ⟨p, e, h⟩ := k.get
  exact w_fz_D (slotP_get e) h
theorem u_mv_D (k : OsatD (slotP env i) fun p => P p (env.set i none)) : (dMv i env).satD P E := by
  obtain ⟨p, e, h⟩ := k.get
  exact w_mv_D (slotP_get e) h
theorem mlsAt_get {e : Env} {l : List PV} (h : mlsAt e i = some l) : e[i]? = some (some (.mls l)) := slotP_get (mlsAt_some h)
theorem u_app_D (k : OsatD (mlsAt env i) fun _ => (f env).satD (fun p e => OsatD (mlsAt e i) fun l => l.length < 16000000 ∧ P .non (e.set i (some (.mls (l ++ [p]))))) E) : (dApp i f env).satD P E := by
  obtain ⟨l, e, h⟩ := k.get
  exact w_app_D (mlsAt_get e) h
theorem u_ext_D (k : OsatD (mlsAt env i) fun _ => (f env).satD (fun p e => OsatD (asLst (frzP p)) fun z => OsatD (mlsAt e i) fun l => l.length + z.length < 16000000 ∧ P .non (e.set i (some (.mls (l ++ z))))) E) : (dExt i f env).satD P E := by
  obtain ⟨l, e, h⟩ := k.get
  exact w_ext_D (mlsAt_get e) (h.mono (fun _ _ h => asLst_get_D h) fun _ _ h => h)
theorem u_popAt_D (k : OsatD (mlsAt env i) fun _ => (f env).satD (fun q e => OsatD (asInt (frzP q)) fun z => OsatD (mlsAt e i) fun l => 0 ≤ z ∧ z < 2 ^ 63 ∧ OsatD l[z.toNat]? fun p => isOwn p = false ∧ P p (e.set i (some (.mls (l.eraseIdx z.toNat))))) E) : (dPopAt i f env).satD P E := by
  obtain ⟨l, e, h⟩ := k.get
  exact w_popAt_D (mlsAt_get e) (h.mono (fun _ _ h => asInt_get_D h) fun _ _ h => h)
theorem u_set_D (k : (f env).satD (fun p e => OsatD (setQ i p e) D.nx) D.ex) : (sSet i f env).satD D := w_set_D (k.mono (fun _ _ h => setQ_get_D h) fun _ _ h => h)
theorem u_aug_D (k : OsatD (slotN env i) fun p => (f env).satD (fun q e => OsatD (F p (frzP q)) fun z => OsatD (noOwn z) fun z => OsatD (setQ i z e) D.nx) D.ex) : (sAug F i f env).satD D := by
  obtain ⟨p, e, h⟩ := k.get
  unfold slotN at e
  cases e1 : slotP env i with
  | none => rw [e1] at e; cases e
  | some q =>
    rw [e1] at e
    have e : noOwn q = some p := e
    obtain ⟨o, e3⟩ := noOwn_get_D (N := fun z => z = p) (show OsatD (noOwn q) _ by rw [e]; rfl)
    subst e3
    refine w_aug_D (slotP_get e1) o (h.mono (fun q e h => ?_) fun _ _ h => h)
    obtain ⟨z, e4, h⟩ := h.get
    obtain ⟨o2, h⟩ := noOwn_get_D h
    exact OsatD.of e4 ⟨o2, setQ_get_D h⟩
theorem u_augix_D (k : OsatD (mlsAt env i) fun _ => (g env).satD (fun q e1 => OsatD (asInt (frzP q)) fun z => OsatD ((mlsAt e1 i).bind fun l1 => atI l1 z) fun old => OsatD (noOwn old) fun old => (f e1).satD (fun p e2 => OsatD (F old (frzP p)) fun y => OsatD (mlsAt e2 i) fun l2 => OsatD (ixN l2.length z) fun j => OsatD (noOwn y) fun y => D.nx (e2.set i (some (.mls (l2.set j y))))) D.ex) D.ex) : (sAugIx F i g f env).satD D := by
  obtain ⟨l, e, h⟩ := k.get
  refine w_augix_D (mlsAt_get e) (h.mono (fun q e1 h => ?_) fun _ _ h => h)
  obtain ⟨z, ez, h⟩ := asInt_get_D h
  obtain ⟨old, e2, h⟩ := h.get
  obtain ⟨o1, h⟩ := noOwn_get_D h
  have h2 := h.mono (P' := fun p e2 => OsatD (F old (frzP p)) fun y => OsatD (mlsAt e2 i) fun l2 => OsatD (ixN l2.length z) fun j => isOwn y = false ∧ D.nx (e2.set i (some (.mls (l2.set j y))))) (fun p e2 h => by
    obtain ⟨y, k1, h⟩ := h.get
    obtain ⟨l2, k2, h⟩ := h.get
    obtain ⟨j, k3, h⟩ := h.get
    exact OsatD.of k1 (OsatD.of k2 (OsatD.of k3 (noOwn_get_D h)))) fun _ _ h => h
  refine ⟨z, ez, ?_⟩
  cases e3 : mlsAt e1 i with
  | none => rw [e3] at e2; cases e2
  | some l1 => rw [e3] at e2; exact OsatD.of (α := List PV) rfl (OsatD.of e2 ⟨o1, h2⟩)
/-! ### operators -/
theorem o_mod_D {a b : Int} {N : PV → Prop} (h : 0 < b) (k : N (.int (a % b))) : OsatD (modP (.int a) (.int b)) N := by
  show OsatD (if 0 < b then some (PV.int (a % b)) else none) N
  rw [if_pos h]
  exact k
theorem o_fdiv_D {a b : Int} {N : PV → Prop} (h : 0 < b) (h2 : b < 2 ^ 64) (k : N (.int (a / b))) : OsatD (fdivP (.int a) (.int b)) N := by
  show OsatD (if CDivW a b then some (PV.int (a / b)) else none) N
  have h4 : b.natAbs < 2 ^ 64 := by omega
  have h3 : b.natAbs.log2 < 9000 := by
    have := (Nat.log2_lt (n := b.natAbs) (k := 64) (by omega)).mpr h4
    exact Nat.lt_trans this (by decide)
  have c : CDivW a b := ⟨h, h3⟩
  rw [if_pos c]
  exact k
theorem o_mul_D {a b : Int} {N : PV → Prop} (h : -(2 ^ 64) < b ∧ b < 2 ^ 64) (k : N (.int (a * b))) : OsatD (repP (.int a) (.int b)) N := by
  show OsatD (if CMul a b ∨ CMulW a b then some (PV.int (a * b)) else none) N
  rw [if_pos (.inl (.inr h))]
  exact k
theorem o_mul'_D {a b : Int} {N : PV → Prop} (h : -(2 ^ 64) < a ∧ a < 2 ^ 64) (k : N (.int (a * b))) : OsatD (repP (.int a) (.int b)) N := by
  show OsatD (if CMul a b ∨ CMulW a b then some (PV.int (a * b)) else none) N
  rw [if_pos (.inl (.inl h))]
  exact k
theorem o_catT_D {a b : List PV} {N : PV → Prop} (h : a.length + b.length ≤ 16000000) (k : N (.tup (a ++ b))) : OsatD (addP (.tup a) (.tup b)) N := by
  show OsatD (if a.length + b.length ≤ sizeLine then some (PV.tup (a ++ b)) else none) N
  rw [if_pos (Nat.le_trans h (by decide))]
  exact k
theorem o_catL_D {a b : List PV} {N : PV → Prop} (h : a.length + b.length ≤ 16000000) (k : N (.mls (a ++ b))) : OsatD (addP (.lst a) (.lst b)) N := by
  show OsatD (if a.length + b.length ≤ sizeLine then some (PV.mls (a ++ b)) else none) N
  rw [if_pos (Nat.le_trans h (by decide))]
  exact k
theorem ixN_of {n j : Nat} {z : Int} (e : z = j) (h : j < n) : ixN n z = some j := by
  subst e
  unfold ixN
  rw [if_pos (Int.natCast_nonneg j), if_pos (by omega), Int.toNat_natCast]
theorem atI_of {α : Type} {l : List α} {z : Int} {j : Nat} {x : α} (e : z = j) (h : l[j]? = some x) : atI l z = some x := by
  unfold atI
  rw [ixN_of e (List.getElem?_eq_some_iff.mp h).1]
  exact h
theorem atI_neg1 {α : Type} {l : List α} (h : l ≠ []) : atI l (-1) = some (l.getLast h) := by
  unfold atI ixN
  have : 0 < l.length := List.length_pos_iff.mpr h
  rw [if_neg (by decide), if_pos (by omega)]
  show l[((-1 : Int) + l.length).toNat]? = _
  rw [show ((-1 : Int) + l.length).toNat = l.length - 1 by omega, List.getLast_eq_getElem, List.getElem?_eq_getElem (by omega)]
end
end L3
namespace L3
open PySem PySem.Spec PyProof.Rows L2
theorem of_int {i : Int} {N : Int → Prop} (k : N i) : ∃ z, PV.int i = .int z ∧ N z := ⟨i, rfl, k⟩
theorem of_bl {b : Bool} {N : Bool → Prop} (k : N b) : ∃ z, PV.bl b = .bl z ∧ N z := ⟨b, rfl, k⟩
section
variable {P : PV → Env → Prop} {E : XV → Env → Prop} {env : Env} {f g : Env → R PV} {i : Nat} {D : SD}
theorem u_slv_D {lo hi : Env → R (Option Int)} (k : OsatD (slotP env i) fun _ => (lo env).satD (fun l e2 => (hi e2).satD (fun h e3 => OsatD ((slotP e3 i).bind fun p => slP p l h) fun z => P z e3) E) E) : (dSlV i lo hi env).satD P E := by
  obtain ⟨p, e, h⟩ := k.get
  refine w_slv_D (slotP_get e) (h.mono (fun l e2 h => h.mono (fun hh e3 h => ?_) fun _ _ h => h) fun _ _ h => h)
  obtain ⟨z, e1, h⟩ := h.get
  cases e2 : slotP e3 i with
  | none => rw [e2] at e1; cases e1
  | some q => rw [e2] at e1; exact OsatD.of (z := q) rfl (OsatD.of e1 h)
theorem u_put_D (k : (f env).satD (fun p e1 => OsatD (mlsAt e1 i) fun _ => (g e1).satD (fun q e2 => OsatD (asInt (frzP q)) fun z => OsatD (mlsAt e2 i) fun l => OsatD (ixN l.length z) fun j => D.nx (e2.set i (some (.mls (l.set j (frzP p)))))) D.ex) D.ex) : (sPut i g f env).satD D :=
  w_put_D (l := []) (k.mono (fun p e1 h => by
    obtain ⟨l, e, h⟩ := h.get
    exact ⟨⟨l, e⟩, h.mono (fun _ _ h => asInt_get_D h) fun _ _ h => h⟩) fun _ _ h => h)
end
end L3
namespace L3
open PySem PySem.Spec PyProof.Rows L2
theorem intsR_len : ∀ (n : Nat) (a : Int), (intsR a n).length = n := by
  intro n
  induction n with
  | zero => intro a; simp [intsR]
  | succ n ih => intro a; simp [intsR, ih]
theorem intsR_get : ∀ {n : Nat} {a : Int} {i : Nat} {p : PV}, (intsR a n)[i]? = some p → i < n ∧ p = .int (a + i) := by
  intro n a i p h
  have hl : i < n := by
    have := (List.getElem?_eq_some_iff.mp h).1
    rw [intsR_len] at this
    exact this
  refine ⟨hl, ?_⟩
  unfold intsR at h
  rw [List.getElem?_map, List.getElem?_range hl] at h
  cases h
  rfl
theorem o_rng_D {j : Int} {N : List PV → Prop} (h : 0 ≤ j) (h2 : j < 2 ^ 62) (k : N (intsR 0 j.toNat)) : OsatD (rngOf [.int j]) N := by
  show OsatD (if -(2 ^ 62) ≤ j ∧ j < 2 ^ 62 then some (intsR 0 j.toNat) else none) N
  rw [if_pos ⟨by omega, h2⟩]
  exact k
theorem o_rng2_D {i j : Int} {N : List PV → Prop} (h0 : 0 ≤ i) (h1 : i < 2 ^ 62) (h : 0 ≤ j) (h2 : j < 2 ^ 62) (k : N (intsR i (j - i).toNat)) : OsatD (rngOf [.int i, .int j]) N := by
  show OsatD (if -(2 ^ 62) ≤ i ∧ i < 2 ^ 62 ∧ -(2 ^ 62) ≤ j ∧ j < 2 ^ 62 then some (intsR i (j - i).toNat) else none) N
  rw [if_pos ⟨by omega, h1, by omega, h2⟩]
  exact k
section
variable {P : PV → Env → Prop} {E : XV → Env → Prop} {env : Env} {fs : Env → R (List PV)} {elt : Env → R PV}
/-- a comprehension whose element is a function of the item -/
theorem u_lcm_D {v : Nat} (k : (fs env).satD (fun items e => items.length < 16000000 ∧ v < e.length ∧ ∃ φ : PV → PV, (∀ p, p ∈ items → (elt ((e.set v none).set v (some p))).satD (fun q e3 => q = φ p ∧ e3.set v none = e.set v none) E0) ∧ OsatD (backE e [v] (e.set v none)) fun e2 => P (.mls (items.map φ)) e2) E) : (dLc [v] fs (tgN v) tYesD elt env).satD P E := by
  refine w_lc_D (k.mono (fun items e h => ?_) fun _ _ h => h)
  obtain ⟨hl, hv, φ, h1, h2⟩ := h
  refine ⟨hl, fun i acc e1 => e1 = e.set v none ∧ acc = (items.take i).map φ, ⟨rfl, rfl⟩, fun i p acc e1 hi h => ?_, fun acc e1 h => ?_⟩
  · obtain ⟨rfl, rfl⟩ := h
    have hm : p ∈ items := List.mem_of_getElem? hi
    refine OsatD.of (z := (e.set v none).set v (some p)) ?_ ?_
    · show (if v < (e.set v none).length then _ else _) = _
      rw [if_pos (by simpa using hv)]
    · refine w_yes_D ?_
      rw [if_pos rfl]
      refine (h1 p hm).mono (fun q e3 h => ?_) fun _ _ h => h
      obtain ⟨rfl, h⟩ := h
      refine ⟨h, ?_⟩
      rw [List.take_succ, hi]
      simp
  · obtain ⟨rfl, rfl⟩ := h
    rw [List.take_length]
    exact h2
/-- an if, both ways -/
theorem if_b {b : Bool} {A B : Prop} (h1 : b = true → A) (h2 : b = false → B) : if b = true then A else B := by
  cases b with
  | true => rw [if_pos rfl]; exact h1 rfl
  | false => rw [if_neg Bool.false_ne_true]; exact h2 rfl
theorem if_t {b : Bool} {A B : Prop} (h : b = true) (k : A) : if b = true then A else B := by rw [if_pos h]; exact k
theorem if_f {b : Bool} {A B : Prop} (h : b = false) (k : B) : if b = true then A else B := by rw [h, if_neg Bool.false_ne_true]; exact k
end
/-- a list of ints -/
def tI (l : List Int) : PV := .tup (l.map .int)
theorem ints_get {l : List Int} {i : Nat} {p : PV} (h : (l.map PV.int)[i]? = some p) : ∃ n, l[i]? = some n ∧ p = .int n := by
  rw [List.getElem?_map] at h
  cases e : l[i]? with
  | none => rw [e] at h; cases h
  | some n => rw [e] at h; cases h; exact ⟨n, rfl, rfl⟩
theorem ints_set (l : List Int) (i : Nat) (n : Int) : (l.map PV.int).set i (.int n) = (l.set i n).map PV.int := by rw [List.map_set]
theorem ints_flat (l : List Int) : flatO (l.map PV.int) = true := by
  unfold flatO
  rw [List.all_eq_true]
  intro p hp
  obtain ⟨n, _, rfl⟩ := List.mem_map.mp hp
  rfl
theorem o_tupM_D {l : List PV} {N : PV → Prop} (h : flatO l = true) (k : N (.tup l)) : OsatD (tupP (.mls l)) N := by
  show OsatD (if flatO l = true then some (PV.tup l) else none) N
  rw [if_pos h]
  exact k
theorem enum_get {l : List PV} {i : Nat} {p : PV} (h : (enumL l)[i]? = some p) : ∃ q, l[i]? = some q ∧ p = .tup [.int i, q] := by
  unfold enumL at h
  rw [List.getElem?_mapIdx] at h
  cases e : l[i]? with
  | none => rw [e] at h; cases h
  | some q => rw [e] at h; cases h; exact ⟨q, rfl, rfl⟩
theorem atI_ints {l : List Int} {z : Int} (h0 : 0 ≤ z) (h1 : z < l.length) : ∃ n, n ∈ l ∧ l[z.toNat]? = some n ∧ atI (l.map PV.int) z = some (.int n) := by
  have hl : z.toNat < l.length := by omega
  refine ⟨l[z.toNat], List.getElem_mem hl, List.getElem?_eq_getElem hl, atI_of (j := z.toNat) (by omega) ?_⟩
  rw [List.getElem?_map, List.getElem?_eq_getElem hl]
  rfl
end L3
namespace L3
theorem RS.satD.mid {r : RS} {D : SD} {N : Env → Prop} (Mid : Env → Prop) (h : r.satD (D.thn Mid)) (hm : ∀ e, Mid e → N e) : r.satD (D.thn N) := RS.satD.mono h hm (fun _ _ h => h) (fun _ _ h => h) (fun _ h => h) fun _ h => h
/-- an if whose two ways meet again -/
theorem if_mid_D {b : Bool} {r1 r2 : RS} {D : SD} {N : Env → Prop} (Mid : Env → Prop) (h1 : b = true → r1.satD (D.thn Mid)) (h2 : b = false → r2.satD (D.thn Mid)) (hm : ∀ e, Mid e → N e) : if b = true then r1.satD (D.thn N) else r2.satD (D.thn N) :=
  if_b (fun h => (h1 h).mid Mid hm) (fun h => (h2 h).mid Mid hm)
theorem o_idx_D {l : List PV} {z : Int} {j : Nat} {p : PV} {N : PV → Prop} (e : z = j) (h : l[j]? = some p) (k : N p) : OsatD (idxP (.tup l) (.int z)) N := OsatD.of (atI_of e h) k
end L3
namespace L3
section
variable {D : SD} {env : Env} {f g : Env → R PV} {i : Nat}
theorem u_augI_D {l : List Int} (h : mlsAt env i = some (l.map .int)) (k : (g env).satD (fun q e1 => OsatD (asInt (frzP q)) fun z => mlsAt e1 i = some (l.map .int) ∧ 0 ≤ z ∧ z < l.length ∧ (f e1).satD (fun p e2 => OsatD (asInt (frzP p)) fun y => mlsAt e2 i = some (l.map .int) ∧ ∀ l' : List Int, l'.length = l.length → D.nx (e2.set i (some (.mls (l'.map .int))))) D.ex) D.ex) : (sAugIx addI i g f env).satD D := by
  refine u_augix_D (OsatD.of h (k.mono (fun q e1 h => ?_) fun _ _ h => h))
  obtain ⟨z, e, h1, h2, h3, h4⟩ := h.get
  obtain ⟨n, _, e2, e3⟩ := atI_ints h2 h3
  refine OsatD.of e (OsatD.of (by rw [h1]; exact e3) (OsatD.of (z := .int n) rfl (h4.mono (fun p e4 h => ?_) fun _ _ h => h)))
  obtain ⟨y, e5, h6, h7⟩ := h.get
  obtain ⟨w, e8⟩ : ∃ w, frzP p = .int w := by
    obtain ⟨w, e9, _⟩ := asInt_get_D (N := fun _ => True) (show OsatD (asInt (frzP p)) _ by rw [e5]; trivial)
    exact ⟨w, e9⟩
  rw [e8]
  refine OsatD.of (z := .int (n + w)) rfl (OsatD.of h6 (OsatD.of (ixN_of (j := z.toNat) (by omega) (by rw [List.length_map]; omega)) (OsatD.of (z := .int (n + w)) rfl ?_)))
  rw [ints_set]
  exact h7 _ (List.length_set ..)
end
end L3
namespace L3
open PySem PySem.Spec PyProof.Rows L2
theorem set_self {α : Type} {l : List α} {s : Nat} {j : α} (h : l[s]? = some j) : l.set s j = l := by
  refine List.ext_getElem? fun i => ?_
  by_cases e : s = i
  · subst e
    rw [h, List.getElem?_set_self (List.getElem?_eq_some_iff.mp h).1]
  · rw [List.getElem?_set_ne e]
theorem frzP_no {p : PV} (h : isOwn p = false) : frzP p = p := by
  cases p <;> first
    | rfl
    | cases h
theorem frzL_no : ∀ {l : List PV}, flatO l = true → frzL l = l
  | [], _ => rfl
  | p :: l, h => by
    have h : (!isOwn p && flatO l) = true := h
    rw [Bool.and_eq_true] at h
    show frzP p :: frzL l = p :: l
    rw [frzP_no (by simpa using h.1), frzL_no h.2]
theorem frzL_ints (l : List Int) : frzL (l.map PV.int) = l.map PV.int := frzL_no (ints_flat l)
theorem flatO_of {l : List PV} (h : ∀ p, p ∈ l → isOwn p = false) : flatO l = true := by
  unfold flatO
  rw [List.all_eq_true]
  intro p hp
  rw [h p hp]
  rfl
theorem all_map {α : Type} {φ : α → PV} {R : α → Prop} : ∀ {qs : List PV}, (∀ q, q ∈ qs → ∃ x, q = φ x ∧ R x) → ∃ xs : List α, qs = xs.map φ ∧ ∀ x, x ∈ xs → R x
  | [], _ => ⟨[], rfl, fun _ h => nomatch h⟩
  | q :: qs, h => by
    obtain ⟨x, rfl, hx⟩ := h q List.mem_cons_self
    obtain ⟨xs, rfl, hs⟩ := all_map (qs := qs) fun p hp => h p (List.mem_cons_of_mem _ hp)
    exact ⟨x :: xs, rfl, fun y hy => (List.mem_cons.mp hy).elim (fun e => by rw [e]; exact hx) (hs y)⟩
theorem cut_ints {l : List Int} {a b : Int} (h0 : 0 ≤ a) (h1 : a ≤ b) (h2 : b ≤ l.length) : cutL (l.map PV.int) (some a) (some b) = ((l.drop a.toNat).take (b - a).toNat).map PV.int := by
  unfold cutL HT.sIx
  rw [List.length_map]
  simp only []
  rw [if_neg (by omega), if_neg (by omega), ← List.map_drop, ← List.map_take]
  congr 2
  · rw [show min a.toNat l.length = a.toNat by omega, show min b.toNat l.length = b.toNat by omega]
    omega
  · rw [show min a.toNat l.length = a.toNat by omega]
section
variable {P : PV → Env → Prop} {E : XV → Env → Prop} {env : Env} {fs : Env → R (List PV)} {elt : Env → R PV}
/-- a comprehension that draws from what slot s holds -/
theorem u_lcj_D (s : Nat) (J : PV → Prop) (Q : PV → Prop) {v : Nat} (k : (fs env).satD (fun items e => items.length < 16000000 ∧ v < e.length ∧ (∃ j, e[s]? = some (some j) ∧ J j) ∧
      (∀ p, p ∈ items → ∀ j, J j → (elt (((e.set s (some j)).set v none).set v (some p))).satD (fun q e3 => Q q ∧ ∃ j', J j' ∧ e3.set v none = (e.set s (some j')).set v none) E0) ∧
      ∀ j' qs, J j' → qs.length = items.length → (∀ q, q ∈ qs → Q q) → OsatD (backE e [v] ((e.set s (some j')).set v none)) fun e2 => P (.mls qs) e2) E) : (dLc [v] fs (tgN v) tYesD elt env).satD P E := by
  refine w_lc_D (k.mono (fun items e h => ?_) fun _ _ h => h)
  obtain ⟨hl, hv, ⟨j, hj, jj⟩, h1, h2⟩ := h
  refine ⟨hl, fun i acc e1 => (∃ j, J j ∧ e1 = (e.set s (some j)).set v none) ∧ acc.length = i ∧ ∀ q, q ∈ acc → Q q, ⟨⟨j, jj, ?_⟩, rfl, fun _ h => nomatch h⟩, fun i p acc e1 hi h => ?_, fun acc e1 h => ?_⟩
  · show e.set v none = _
    congr 1
    exact (set_self hj).symm
  · obtain ⟨⟨j1, jj1, rfl⟩, ha, hq⟩ := h
    have hm : p ∈ items := List.mem_of_getElem? hi
    refine OsatD.of (z := ((e.set s (some j1)).set v none).set v (some p)) ?_ ?_
    · show (if v < ((e.set s (some j1)).set v none).length then _ else _) = _
      rw [if_pos (by simpa using hv)]
    · refine w_yes_D ?_
      rw [if_pos rfl]
      refine (h1 p hm j1 jj1).mono (fun q e3 h => ?_) fun _ _ h => h
      obtain ⟨hq1, j', jj', h⟩ := h
      refine ⟨⟨j', jj', h⟩, by simp [ha], fun q' hq' => ?_⟩
      rcases List.mem_append.mp hq' with z | z
      · exact hq q' z
      · rw [List.mem_singleton.mp z]; exact hq1
  · obtain ⟨⟨j1, jj1, rfl⟩, ha, hq⟩ := h
    exact h2 j1 acc jj1 ha hq
/-- a comprehension without draws, what its elements are -/
theorem u_lcq_D (Q : PV → Prop) {v : Nat} (k : (fs env).satD (fun items e => items.length < 16000000 ∧ v < e.length ∧
      (∀ p, p ∈ items → (elt ((e.set v none).set v (some p))).satD (fun q e3 => Q q ∧ e3.set v none = e.set v none) E0) ∧
      ∀ qs, qs.length = items.length → (∀ q, q ∈ qs → Q q) → OsatD (backE e [v] (e.set v none)) fun e2 => P (.mls qs) e2) E) : (dLc [v] fs (tgN v) tYesD elt env).satD P E := by
  refine w_lc_D (k.mono (fun items e h => ?_) fun _ _ h => h)
  obtain ⟨hl, hv, h1, h2⟩ := h
  refine ⟨hl, fun i acc e1 => e1 = e.set v none ∧ acc.length = i ∧ ∀ q, q ∈ acc → Q q, ⟨rfl, rfl, fun _ h => nomatch h⟩, fun i p acc e1 hi h => ?_, fun acc e1 h => ?_⟩
  · obtain ⟨rfl, ha, hq⟩ := h
    have hm : p ∈ items := List.mem_of_getElem? hi
    refine OsatD.of (z := (e.set v none).set v (some p)) ?_ ?_
    · show (if v < (e.set v none).length then _ else _) = _
      rw [if_pos (by simpa using hv)]
    · refine w_yes_D ?_
      rw [if_pos rfl]
      refine (h1 p hm).mono (fun q e3 h => ?_) fun _ _ h => h
      obtain ⟨hq1, h⟩ := h
      refine ⟨h, by simp [ha], fun q' hq' => ?_⟩
      rcases List.mem_append.mp hq' with z | z
      · exact hq q' z
      · rw [List.mem_singleton.mp z]; exact hq1
  · obtain ⟨rfl, ha, hq⟩ := h
    exact h2 acc ha hq
end
end L3
namespace L3
section
variable {P : PV → Env → Prop} {E : XV → Env → Prop} {env : Env} {fs : Env → R (List PV)} {elt : Env → R PV} {D : SD}
/-- a comprehension over things told by xs -/
theorem u_lcx_D {α : Type} (xs : List α) (ψ φ : α → PV) {v : Nat} (k : (fs env).satD (fun items e => items = xs.map ψ ∧ xs.length < 16000000 ∧ v < e.length ∧ (∀ x, x ∈ xs → (elt ((e.set v none).set v (some (ψ x)))).satD (fun q e3 => q = φ x ∧ e3.set v none = e.set v none) E0) ∧ OsatD (backE e [v] (e.set v none)) fun e2 => P (.mls (xs.map φ)) e2) E) : (dLc [v] fs (tgN v) tYesD elt env).satD P E := by
  refine w_lc_D (k.mono (fun items e h => ?_) fun _ _ h => h)
  obtain ⟨rfl, hl, hv, h1, h2⟩ := h
  refine ⟨by rw [List.length_map]; exact hl, fun i acc e1 => e1 = e.set v none ∧ acc = (xs.take i).map φ, ⟨rfl, rfl⟩, fun i p acc e1 hi h => ?_, fun acc e1 h => ?_⟩
  · obtain ⟨rfl, rfl⟩ := h
    rw [List.getElem?_map] at hi
    cases ex : xs[i]? with
    | none => rw [ex] at hi; cases hi
    | some x =>
      rw [ex] at hi
      cases hi
      have hm : x ∈ xs := List.mem_of_getElem? ex
      refine OsatD.of (z := (e.set v none).set v (some (ψ x))) ?_ ?_
      · show (if v < (e.set v none).length then _ else _) = _
        rw [if_pos (by simpa using hv)]
      · refine w_yes_D ?_
        rw [if_pos rfl]
        refine (h1 x hm).mono (fun q e3 h => ?_) fun _ _ h => h
        obtain ⟨rfl, h⟩ := h
        refine ⟨h, ?_⟩
        rw [List.take_succ, ex]
        simp
  · obtain ⟨rfl, rfl⟩ := h
    rw [List.length_map, List.take_length]
    exact h2
/-- a for over things told by xs -/
theorem w_forx_D {α : Type} (xs : List α) (ψ : α → PV) (Iv : Nat → Env → Prop) {tg : Tg} {body : Env → RS} (k : (fs env).satD (fun items e => items = xs.map ψ ∧ Iv 0 e ∧ (∀ i x e, xs[i]? = some x → Iv i e → OsatD (tg (ψ x) e) fun e1 => (body e1).satD (D.lp (Iv (i + 1)))) ∧ ∀ e, Iv xs.length e → D.nx e) D.ex) : (sFor fs tg body env).satD D := by
  refine w_for_D (k.mono (fun items e h => ?_) fun _ _ h => h)
  obtain ⟨rfl, h0, h1, h2⟩ := h
  refine ⟨Iv, h0, fun i p e1 hi h => ?_, fun e1 h => h2 e1 (by rw [List.length_map] at h; exact h)⟩
  rw [List.getElem?_map] at hi
  cases ex : xs[i]? with
  | none => rw [ex] at hi; cases hi
  | some x =>
    rw [ex] at hi
    cases hi
    exact h1 i x e1 ex h
end
theorem frzL_map_no {α : Type} {φ : α → PV} (h : ∀ x, isOwn (φ x) = false) (xs : List α) : frzL (xs.map φ) = xs.map φ := frzL_no (flatO_of fun p hp => by
  obtain ⟨x, _, rfl⟩ := List.mem_map.mp hp
  exact h x)
theorem intsR_map (n : Nat) : intsR 0 n = (List.range n).map fun (i : Nat) => PV.int (i : Int) := by
  unfold intsR
  congr 1
  funext i
  rw [Int.zero_add]
end L3
namespace L3
theorem o_slotN_D {env : Env} {i : Nat} {p : PV} {N : PV → Prop} (e : slotP env i = some p) (h : isOwn p = false) (k : N p) : OsatD (slotN env i) N := by
  unfold slotN
  rw [e]
  show OsatD (noOwn p) N
  unfold noOwn
  rw [h, if_neg Bool.false_ne_true]
  exact k
end L3
namespace L3
open PySem PySem.Spec PyProof.Rows L2
theorem o_ixm1_D {n : Nat} {N : Nat → Prop} (h : 0 < n) (k : N (n - 1)) : OsatD (ixN n (-1)) N := by
  unfold ixN
  rw [if_neg (by decide), if_pos (by omega)]
  show N ((-1 : Int) + n).toNat
  rw [show ((-1 : Int) + n).toNat = n - 1 by omega]
  exact k
theorem o_ix_D {n j : Nat} {N : Nat → Prop} (h : j < n) (k : N j) : OsatD (ixN n (j : Int)) N := OsatD.of (ixN_of rfl h) k
theorem getD_some' {α : Type} {l : List α} {s : Nat} (d : α) (h : s < l.length) : l[s]? = some (l.getD s d) := by
  rw [List.getD_eq_getElem?_getD, List.getElem?_eq_getElem h]; rfl
theorem o_ixML_D {env : Env} {i : Nat} {q : PV} {l : List Int} {s : Nat} {N : PV → Prop} (e : slotP env i = some (.mls (l.map .int))) (eq : q = .int s) (h : s < l.length) (k : N (.int (l.getD s 0))) : OsatD ((slotP env i).bind fun p => idxV p q) N := by
  rw [e, eq]
  refine OsatD.of ?_ k
  show (atI (l.map PV.int) (s : Int)).bind _ = _
  rw [atI_of rfl (by rw [List.getElem?_map, getD_some' 0 h]; rfl : (l.map PV.int)[s]? = some (.int (l.getD s 0)))]
  rfl
/-- x[s], x a tuple of things -/
theorem o_ixT_D {α : Type} {env : Env} {i : Nat} {q : PV} {l : List α} {φ : α → PV} {s : Nat} {N : PV → Prop} (d : α) (e : slotP env i = some (.tup (l.map φ))) (eq : q = .int s) (h : s < l.length) (k : N (φ (l.getD s d))) : OsatD ((slotP env i).bind fun p => idxV p q) N := by
  rw [e, eq]
  refine OsatD.of ?_ k
  show atI (l.map φ) (s : Int) = _
  rw [atI_of rfl (by rw [List.getElem?_map, getD_some' d h]; rfl : (l.map φ)[s]? = some (φ (l.getD s d)))]
theorem o_idT_D {α : Type} {l : List α} {φ : α → PV} {s : Nat} {N : PV → Prop} (d : α) (h : s < l.length) (k : N (φ (l.getD s d))) : OsatD (idxP (.tup (l.map φ)) (.int s)) N :=
  OsatD.of (show atI (l.map φ) (s : Int) = _ from atI_of rfl (by rw [List.getElem?_map, getD_some' d h]; rfl : (l.map φ)[s]? = some (φ (l.getD s d)))) k
theorem o_catLI_D {a b : List Int} {p q : PV} {N : PV → Prop} (ep : p = .lst (a.map .int)) (eq : q = .lst (b.map .int)) (h : a.length + b.length ≤ 16000000) (k : N (.mls ((a ++ b).map .int))) : OsatD (addP p q) N := by
  subst ep eq
  refine o_catL_D (by rw [List.length_map, List.length_map]; exact h) ?_
  rw [← List.map_append]
  exact k
theorem o_catTI_D {α : Type} {φ : α → PV} {a b : List α} {p q : PV} {N : PV → Prop} (ep : p = .tup (a.map φ)) (eq : q = .tup (b.map φ)) (h : a.length + b.length ≤ 16000000) (k : N (.tup ((a ++ b).map φ))) : OsatD (addP p q) N := by
  subst ep eq
  refine o_catT_D (by rw [List.length_map, List.length_map]; exact h) ?_
  rw [← List.map_append]
  exact k
theorem frz_mls_ints (l : List Int) : frzP (.mls (l.map .int)) = .lst (l.map .int) := congrArg PV.lst (frzL_ints l)
end L3
namespace L3
section
variable {P : PV → Env → Prop} {E : XV → Env → Prop} {env : Env} {g : Env → R PV} {i : Nat}
theorem u_ixc_D {q : PV} (k : OsatD ((slotP env i).bind fun p => idxV p (frzP q)) fun z => P z env) : (dIdxV i (dC q) env).satD P E := by
  obtain ⟨z, e, h⟩ := k.get
  cases e2 : slotP env i with
  | none => rw [e2] at e; cases e
  | some q2 =>
    rw [e2] at e
    refine u_ixv_D (OsatD.of e2 (w_c_D (OsatD.of (z := z) ?_ h)))
    rw [e2]
    exact e
theorem u_ixs_D (k : OsatD (slotP env i) fun _ => (g env).satD (fun q e => OsatD (slotP e i) fun p => OsatD (idxV p (frzP q)) fun z => P z e) E) : (dIdxV i g env).satD P E := by
  refine u_ixv_D ?_
  obtain ⟨p, e, h⟩ := k.get
  refine OsatD.of e (h.mono (fun q e1 h => ?_) fun _ _ h => h)
  obtain ⟨p2, e2, h⟩ := h.get
  rw [e2]
  exact h
end
theorem o_vxT_D {α : Type} {q : PV} {l : List α} {φ : α → PV} {s : Nat} {N : PV → Prop} (d : α) (eq : q = .int s) (h : s < l.length) (k : N (φ (l.getD s d))) : OsatD (idxV (.tup (l.map φ)) q) N := by
  rw [eq]
  exact o_idT_D d h k
theorem o_vxM_D {q : PV} {l : List Int} {s : Nat} {N : PV → Prop} (eq : q = .int s) (h : s < l.length) (k : N (.int (l.getD s 0))) : OsatD (idxV (.mls (l.map .int)) q) N :=
  o_ixML_D (env := [some (.mls (l.map .int))]) (i := 0) rfl eq h k
end L3
namespace L3
theorem frz_mls {α : Type} {φ : α → PV} (h : ∀ x, isOwn (φ x) = false) (l : List α) : frzP (.mls (l.map φ)) = .lst (l.map φ) := congrArg PV.lst (frzL_map_no h l)
theorem o_catLG_D {α : Type} {φ : α → PV} {a b : List α} {p q : PV} {N : PV → Prop} (ep : p = .lst (a.map φ)) (eq : q = .lst (b.map φ)) (h : a.length + b.length ≤ 16000000) (k : N (.mls ((a ++ b).map φ))) : OsatD (addP p q) N := by
  subst ep eq
  refine o_catL_D (by rw [List.length_map, List.length_map]; exact h) ?_
  rw [← List.map_append]
  exact k
theorem tI_no (l : List Int) : isOwn (tI l) = false := rfl
theorem map_two {α β : Type} (f : α → β) (φ : β → PV) (l : List α) : l.map (fun x => φ (f x)) = (l.map f).map φ := by rw [List.map_map]; rfl
end L3
namespace L3
open PySem PySem.Spec PyProof.Rows L2
theorem cut_to {α : Type} (φ : α → PV) (l : List α) (s : Nat) : cutL (l.map φ) none (some (s : Int)) = (l.take s).map φ := by
  unfold cutL
  rw [List.length_map, HT.sIx_nat, HT.sIx_none, List.drop_zero, Nat.sub_zero, ← List.map_take]
  exact congrArg (List.map φ) (List.take_eq_take_iff.mpr (by omega))
theorem cut_from {α : Type} (φ : α → PV) (l : List α) (s : Nat) : cutL (l.map φ) (some (s : Int)) none = (l.drop s).map φ := by
  unfold cutL
  rw [List.length_map, HT.sIx_nat, HT.sIx_none, ← List.map_drop, ← List.map_take, List.take_of_length_le (by rw [List.length_drop]; omega)]
  by_cases h : s ≤ l.length
  · rw [Nat.min_eq_left h]
  · rw [Nat.min_eq_right (by omega), List.drop_of_length_le (Nat.le_refl _), List.drop_of_length_le (by omega)]
theorem cut_mid {α : Type} (φ : α → PV) (l : List α) (s t : Nat) : cutL (l.map φ) (some (s : Int)) (some (t : Int)) = ((l.take t).drop s).map φ := by
  unfold cutL
  rw [List.length_map, HT.sIx_nat, HT.sIx_nat, ← List.map_drop, ← List.map_take]
  refine congrArg (List.map φ) ?_
  rw [List.drop_take]
  by_cases h : s ≤ l.length
  · rw [Nat.min_eq_left h]
    refine List.take_eq_take_iff.mpr ?_
    rw [List.length_drop]
    omega
  · have e1 : List.drop (min s l.length) l = [] := List.drop_of_length_le (by omega)
    have e2 : List.drop s l = [] := List.drop_of_length_le (by omega)
    rw [e1, e2, List.take_nil, List.take_nil]
theorem o_slTo'_D {α : Type} {φ : α → PV} {p : PV} {l : List α} {z : Int} {N : PV → Prop} (s : Nat) (e : p = .tup (l.map φ)) (ez : z = s) (k : N (.tup ((l.take s).map φ))) : OsatD (slP p none (some z)) N := by
  subst ez
  subst e
  exact OsatD.of (congrArg (fun t => some (PV.tup t)) (cut_to φ l s)) k
theorem o_slFrom'_D {α : Type} {φ : α → PV} {p : PV} {l : List α} {z : Int} {N : PV → Prop} (s : Nat) (e : p = .tup (l.map φ)) (ez : z = s) (k : N (.tup ((l.drop s).map φ))) : OsatD (slP p (some z) none) N := by
  subst ez
  subst e
  exact OsatD.of (congrArg (fun t => some (PV.tup t)) (cut_from φ l s)) k
theorem o_slMid'_D {α : Type} {φ : α → PV} {p : PV} {l : List α} {z y : Int} {N : PV → Prop} (s t : Nat) (e : p = .tup (l.map φ)) (ez : z = s) (ey : y = t) (k : N (.tup (((l.take t).drop s).map φ))) : OsatD (slP p (some z) (some y)) N := by
  subst ez
  subst ey
  subst e
  exact OsatD.of (congrArg (fun t => some (PV.tup t)) (cut_mid φ l s t)) k
theorem o_slTo_D {α : Type} {φ : α → PV} {env : Env} {i : Nat} {l : List α} {z : Int} {s : Nat} {N : PV → Prop} (e : slotP env i = some (.tup (l.map φ))) (ez : z = s) (h : s < l.length) (k : N (.tup ((l.take s).map φ))) : OsatD ((slotP env i).bind fun p => slP p none (some z)) N := by
  rw [e]
  exact o_slTo'_D s rfl ez k
theorem o_slFrom_D {α : Type} {φ : α → PV} {env : Env} {i : Nat} {l : List α} {z : Int} {s : Nat} {N : PV → Prop} (e : slotP env i = some (.tup (l.map φ))) (ez : z = s) (h0 : 0 < s) (h : s ≤ l.length) (k : N (.tup ((l.drop s).map φ))) : OsatD ((slotP env i).bind fun p => slP p (some z) none) N := by
  rw [e]
  exact o_slFrom'_D s rfl ez k
end L3
namespace L3
theorem flat_map {α : Type} {φ : α → PV} (h : ∀ x, isOwn (φ x) = false) (l : List α) : flatO (l.map φ) = true := flatO_of fun p hp => by
  obtain ⟨x, _, rfl⟩ := List.mem_map.mp hp
  exact h x
theorem map_snoc {α : Type} (φ : α → PV) (l : List α) (x : α) : l.map φ ++ [φ x] = (l ++ [x]).map φ := by rw [List.map_append]; rfl
theorem take_snoc {α β : Type} {f : α → β} {l : List α} {i : Nat} {x : α} (h : l[i]? = some x) : (l.take i).map f ++ [f x] = (l.take (i + 1)).map f := by
  rw [List.take_succ, h, List.map_append]
  rfl
theorem o_tupS_D {env : Env} {i : Nat} {l : List PV} {N : PV → Prop} (e : slotP env i = some (.mls l)) (h : flatO l = true) (k : N (.tup l)) : OsatD ((slotP env i).bind tupP) N := by
  rw [e]
  exact o_tupM_D h k
end L3
namespace L3
open PySem PySem.Spec PyProof.Rows L2
theorem rep_flat (k : Nat) (p : PV) : (List.replicate k [p]).flatten = List.replicate k p := by
  induction k with
  | zero => rfl
  | succ k ih => rw [List.replicate_succ, List.flatten_cons, ih, List.replicate_succ]; rfl
theorem o_rep0_D {z n : Int} {k : Nat} {p q : PV} {N : PV → Prop} (ep : p = .tup [.int n]) (eq : q = .int z) (ez : z = k) (h0 : 1 ≤ k) (h1 : k ≤ 1000) (kk : N (tI (List.replicate k n))) : OsatD (repP p q) N := by
  subst ep eq ez
  have e : tI (List.replicate k n) = .tup (List.replicate k (.int n)) := by unfold tI; rw [List.map_replicate]
  by_cases h : k = 1
  · subst h
    exact kk
  · refine OsatD.of (z := tI (List.replicate k n)) ?_ kk
    show (if (k : Int) = 1 then some (PV.tup [.int n]) else if [PV.int n] ≠ [] ∧ 2 ≤ (k : Int) ∧ (k : Int) ≤ 1000 ∧ [PV.int n].length ≤ 1000 then some (PV.tup (List.replicate (k : Int).toNat [.int n]).flatten) else none) = _
    rw [if_neg (by omega), if_pos ⟨by simp, by omega, by omega, by show 1 ≤ 1000; decide⟩, Int.toNat_natCast, rep_flat, e]
theorem o_vxR_D {l : List PV} {q x : PV} {s : Nat} {N : PV → Prop} (eq : q = .int s) (h : l[s]? = some x) (k : N x) : OsatD (idxV (.tup l) q) N := by
  subst eq
  exact OsatD.of (show atI l (s : Int) = _ from atI_of rfl h) k
theorem eqB_3 {a b c a' b' c' : Int} : eqB (.tup [.int a, .int b, .int c]) (.tup [.int a', .int b', .int c']) = some (a == a' && (b == b' && c == c')) := by
  have h1 : ∀ x y z : Int, SeqAt.shaped (PyData.tuple [PyData.int x, PyData.int y, PyData.int z]) = true := fun x y z => by
    unfold SeqAt.shaped
    rw [Bool.and_eq_true]
    exact ⟨rfl, rfl⟩
  show (if SeqAt.shaped (PyData.tuple [PyData.int a, PyData.int b, PyData.int c]) = true ∧ SeqAt.shaped (PyData.tuple [PyData.int a', PyData.int b', PyData.int c']) = true then some (PyData.eqv (PyData.tuple [PyData.int a, PyData.int b, PyData.int c]) (PyData.tuple [PyData.int a', PyData.int b', PyData.int c'])) else none) = _
  rw [if_pos ⟨h1 a b c, h1 a' b' c'⟩]
  show some ((a == a') && ((b == b') && ((c == c') && true))) = _
  rw [Bool.and_true]
end L3
namespace L3
theorem frzP_own (p : PV) : isOwn (frzP p) = false := by cases p <;> rfl
theorem o_vxAny_D {l : List PV} {q : PV} {r : Int} {N : PV → Prop} (eq : q = .int r) (h0 : 0 ≤ r) (h1 : r < l.length) (k : ∀ p, p ∈ l → N p) : OsatD (idxV (.tup l) q) N := by
  have hl : r.toNat < l.length := by omega
  exact o_vxR_D (s := r.toNat) (by rw [eq, Int.toNat_of_nonneg h0]) (List.getElem?_eq_getElem hl) (k _ (List.getElem_mem hl))
end L3
namespace L3
theorem ifx_mid_D {α : Type} {b : Bool} {r1 r2 : R α} {P : α → Env → Prop} {E : XV → Env → Prop} (Mid : α → Env → Prop) (h1 : b = true → r1.satD Mid E) (h2 : b = false → r2.satD Mid E) (hm : ∀ p e, Mid p e → P p e) : if b = true then r1.satD P E else r2.satD P E :=
  if_b (fun h => (h1 h).mono hm fun _ _ h => h) (fun h => (h2 h).mono hm fun _ _ h => h)
end L3

namespace L3
open PySem PySem.Spec PyProof.Rows L2
section
variable {α : Type} {P : PV → Env → Prop} {E : XV → Env → Prop} {env : Env} {f g h : Env → R PV} {i j : Nat} {p q : PV} {fs : Env → R (List PV)} {D : SD} {PL : List PV → Env → Prop}
theorem w_ien2_D (k : (fs env).satD (fun ps e => OsatD (enumOf2 ps) fun l => PL l e) E) : (iEn2 fs env).satD PL E := R.bind_sat (k.mono (fun _ _ h => o1_sat_D h) fun _ _ h => h)
theorem u_augS_D {l : List Int} (h : mlsAt env i = some (l.map .int)) (k : (g env).satD (fun q e1 => OsatD (asInt (frzP q)) fun z => mlsAt e1 i = some (l.map .int) ∧ 0 ≤ z ∧ z < l.length ∧ (f e1).satD (fun p e2 => OsatD (asInt (frzP p)) fun y => mlsAt e2 i = some (l.map .int) ∧ D.nx (e2.set i (some (.mls ((l.set z.toNat (l.getD z.toNat 0 + y)).map .int))))) D.ex) D.ex) : (sAugIx addI i g f env).satD D := by
  refine u_augix_D (OsatD.of h (k.mono (fun q e1 h => ?_) fun _ _ h => h))
  obtain ⟨z, e, h1, h2, h3, h4⟩ := h.get
  obtain ⟨n, _, e1, e3⟩ := atI_ints h2 h3
  refine OsatD.of e (OsatD.of (by rw [h1]; exact e3) (OsatD.of (z := .int n) rfl (h4.mono (fun p e4 h => ?_) fun _ _ h => h)))
  obtain ⟨y, e5, h6, h7⟩ := h.get
  obtain ⟨w, e8⟩ : ∃ w, frzP p = .int w := by
    obtain ⟨w, e9, _⟩ := asInt_get_D (N := fun _ => True) (show OsatD (asInt (frzP p)) _ by rw [e5]; trivial)
    exact ⟨w, e9⟩
  rw [e8] at e5 ⊢
  have ey : w = y := Option.some.inj e5
  subst ey
  have en : l.getD z.toNat 0 = n := by rw [List.getD_eq_getElem?_getD, e1]; rfl
  rw [en] at h7
  refine OsatD.of (z := .int (n + w)) rfl (OsatD.of h6 (OsatD.of (ixN_of (j := z.toNat) (by omega) (by rw [List.length_map]; omega)) (OsatD.of (z := .int (n + w)) rfl ?_)))
  rw [ints_set]
  exact h7
end
theorem findK_snoc {kvs : List (Key × PV)} {k j : Key} {v : PV} (h : findK kvs k = none) : findK (kvs ++ [(k, v)]) j = if j = k then some v else findK kvs j := by
  unfold findK at *
  rw [List.find?_append]
  by_cases e : j = k
  · subst e
    have z : List.find? (fun kv => decide (kv.1 = j)) kvs = none := by
      cases q : List.find? (fun kv => decide (kv.1 = j)) kvs with
      | none => rfl
      | some x => rw [q] at h; cases h
    simp [z]
  · cases q : List.find? (fun kv => decide (kv.1 = j)) kvs with
    | none => simp [e, Ne.symm e]
    | some x => simp [e]
theorem findK_map {k j : Key} {v : PV} : ∀ kvs : List (Key × PV), findK (kvs.map fun kv => if kv.1 = k then (kv.1, v) else kv) j = (findK kvs j).map fun x => if j = k then v else x
  | [] => rfl
  | (k0, p0) :: r => by
    have ih := findK_map (k := k) (j := j) (v := v) r
    unfold findK at ih ⊢
    by_cases e : k0 = j
    · subst e
      by_cases e2 : k0 = k <;> simp [e2]
    · by_cases e2 : k0 = k
      · subst e2
        simp [List.find?_cons, e]
        simpa using ih
      · simp [List.find?_cons, e, e2]
        simpa using ih
theorem findK_any (k : Key) : ∀ kvs : List (Key × PV), (kvs.any fun kv => decide (kv.1 = k)) = (findK kvs k).isSome
  | [] => rfl
  | (k0, p0) :: r => by
    have ih := findK_any k r
    unfold findK at ih ⊢
    by_cases e : k0 = k
    · simp [e]
    · simp only [List.any_cons, List.find?_cons]
      simp [e]
      simpa using ih
theorem findK_put {kvs : List (Key × PV)} {k j : Key} {v : PV} : findK (putP kvs k v) j = if j = k then some v else findK kvs j := by
  unfold putP
  rw [findK_any]
  cases e : findK kvs k with
  | none => exact findK_snoc e
  | some x =>
    show findK (kvs.map _) j = _
    rw [findK_map]
    by_cases h : j = k
    · subst h
      simp [e]
    · simp [h]
theorem o_slToT_D {α : Type} {φ : α → PV} {p : PV} {l : List α} {z : Int} {s : Nat} {N : PV → Prop} (ep : p = .tup (l.map φ)) (ez : z = s) (h : s < l.length) (k : N (.tup ((l.take s).map φ))) : OsatD (slP p none (some z)) N := by
  subst ep
  exact o_slTo_D (env := [some (.tup (l.map φ))]) (i := 0) rfl ez h k
theorem o_slFromT_D {α : Type} {φ : α → PV} {p : PV} {l : List α} {z : Int} {s : Nat} {N : PV → Prop} (ep : p = .tup (l.map φ)) (ez : z = s) (h0 : 0 < s) (h : s ≤ l.length) (k : N (.tup ((l.drop s).map φ))) : OsatD (slP p (some z) none) N := by
  subst ep
  exact o_slFrom_D (env := [some (.tup (l.map φ))]) (i := 0) rfl ez h0 h k
theorem pairsP_map {α : Type} (f : α → Int) (g : α → PV) : ∀ xs : List α, pairsP (xs.map fun x => .tup [.int (f x), g x]) = some (xs.map fun x => (Sum.inl (f x), g x))
  | [] => rfl
  | x :: xs => by
    have ih := pairsP_map f g xs
    show (pairP (.tup [.int (f x), g x])).bind (fun kv => (pairsP (xs.map fun x => .tup [.int (f x), g x])).map fun t => kv :: t) = _
    rw [ih]
    rfl
theorem putP_all {R : PV → Prop} {kvs : List (Key × PV)} {k : Key} {v : PV} (h : ∀ kv, kv ∈ kvs → R kv.2) (hv : R v) : ∀ kv, kv ∈ putP kvs k v → R kv.2 := by
  intro kv hk
  unfold putP at hk
  split at hk
  · obtain ⟨kv0, h0, rfl⟩ := List.mem_map.mp hk
    by_cases e : kv0.1 = k
    · rw [if_pos e]; exact hv
    · rw [if_neg e]; exact h _ h0
  · rcases List.mem_append.mp hk with z | z
    · exact h _ z
    · rw [List.mem_singleton.mp z]; exact hv
theorem mergeP_all {R : PV → Prop} : ∀ {more kvs : List (Key × PV)}, (∀ kv, kv ∈ kvs → R kv.2) → (∀ kv, kv ∈ more → R kv.2) → ∀ kv, kv ∈ mergeP kvs more → R kv.2
  | [], _, h, _ => h
  | kv :: r, kvs, h, h2 => by
    have z := mergeP_all (kvs := putP kvs kv.1 kv.2) (more := r) (putP_all h (h2 _ List.mem_cons_self)) fun x hx => h2 x (List.mem_cons_of_mem _ hx)
    exact z
theorem mergeP_snoc (kvs more : List (Key × PV)) (kv : Key × PV) : mergeP kvs (more ++ [kv]) = putP (mergeP kvs more) kv.1 kv.2 := by
  unfold mergeP
  rw [List.foldl_append]
  rfl
/-- where each thing stands last -/
def bk (l : List Nat) : Nat → Nat → Nat
  | 0, _ => 0
  | i + 1, s => if s = l.getD i 0 then i else bk l i s
theorem bk_set {l : List Nat} {n i p : Nat} (h : l[i]? = some p) (hp : p < n) : ((List.range n).map fun (s : Nat) => PV.int ((bk l i s : Nat) : Int)).set p (.int (i : Int)) = (List.range n).map fun (s : Nat) => PV.int ((bk l (i + 1) s : Nat) : Int) := by
  have e : l.getD i 0 = p := by rw [List.getD_eq_getElem?_getD, h]; rfl
  refine List.ext_getElem? fun j => ?_
  rw [List.getElem?_set]
  by_cases hj : j < n
  · rw [List.getElem?_map, List.getElem?_map, List.getElem?_range hj]
    by_cases ej : p = j
    · subst ej
      rw [if_pos rfl, List.length_map, List.length_range, if_pos hj]
      have z : bk l (i + 1) p = i := by show (if p = l.getD i 0 then i else _) = i; rw [e, if_pos rfl]
      simp only [Option.map_some, z]
    · rw [if_neg ej]
      have z : bk l (i + 1) j = bk l i j := by show (if j = l.getD i 0 then i else _) = _; rw [e, if_neg (Ne.symm ej)]
      simp only [Option.map_some, z]
  · rw [if_neg (by omega), List.getElem?_eq_none (by simp; omega), List.getElem?_eq_none (by simp; omega)]
def bkD (l : List Nat) (k : Nat) : List (Key × PV) := mergeP [] ((List.range k).map fun (i : Nat) => ((Sum.inl ((l.getD i 0 : Nat) : Int) : Key), PV.int (i : Int)))
theorem bkD_find {l : List Nat} {s : Nat} : ∀ k : Nat, k ≤ l.length → findK (bkD l k) (Sum.inl (s : Int)) = if s ∈ l.take k then some (PV.int ((bk l k s : Nat) : Int)) else none
  | 0, _ => by simp [bkD, mergeP, findK]
  | k + 1, h => by
    have ih := bkD_find (l := l) (s := s) k (by omega)
    unfold bkD at ih ⊢
    rw [List.range_succ, List.map_append, List.map_cons, List.map_nil, mergeP_snoc, findK_put, ih]
    have e : l.getD k 0 = l[k] := by rw [List.getD_eq_getElem?_getD, List.getElem?_eq_getElem (by omega : k < l.length)]; rfl
    rw [e]
    have e2 : bk l (k + 1) s = if s = l[k] then k else bk l k s := by show (if s = l.getD k 0 then k else _) = _; rw [e]
    have e3 : s ∈ l.take (k + 1) ↔ s ∈ l.take k ∨ s = l[k] := by
      rw [List.take_succ, List.getElem?_eq_getElem (by omega : k < l.length), List.mem_append]
      show s ∈ l.take k ∨ s ∈ [l[k]] ↔ _
      rw [List.mem_singleton]
    by_cases h1 : s = l[k]
    · rw [if_pos (by rw [h1]), if_pos (e3.mpr (.inr h1)), e2, if_pos h1]
    · have h2 : ¬ (Sum.inl (s : Int) : Key) = Sum.inl ((l[k] : Nat) : Int) := by
        intro z
        have z2 : (s : Int) = (l[k] : Nat) := Sum.inl.inj z
        omega
      rw [if_neg h2, e2, if_neg h1]
      by_cases h3 : s ∈ l.take k
      · rw [if_pos h3, if_pos (e3.mpr (.inl h3))]
      · rw [if_neg h3, if_neg (fun z => (e3.mp z).elim h3 h1)]
theorem bkD_own {l : List Nat} {k : Nat} : frzL ((bkD l k).map (·.2)) = (bkD l k).map (·.2) := by
  refine frzL_no (flatO_of fun p hp => ?_)
  obtain ⟨kv, h, rfl⟩ := List.mem_map.mp hp
  refine mergeP_all (R := fun p => isOwn p = false) (kvs := []) (fun _ h => nomatch h) (fun x hx => ?_) kv h
  obtain ⟨i, _, rfl⟩ := List.mem_map.mp hx
  rfl
def bkV (l : List Nat) : PV := .dck ((bkD l l.length).map (·.1)) ((bkD l l.length).map (·.2))
theorem o_dict_D {l : List Nat} {p : PV} {N : PV → Prop} (ep : p = .lst ((List.range l.length).map fun (i : Nat) => PV.tup [.int ((l.getD i 0 : Nat) : Int), .int (i : Int)])) (k : ∀ z, frzP z = bkV l → N z) : OsatD (dictP [p]) N := by
  subst ep
  refine OsatD.of (z := .mdk ((bkD l l.length).map (·.1)) ((bkD l l.length).map (·.2))) ?_ (k _ ?_)
  · show (pairsP _).map _ = _
    rw [pairsP_map (fun (i : Nat) => ((l.getD i 0 : Nat) : Int)) (fun (i : Nat) => PV.int (i : Int))]
    rfl
  · show PV.dck _ (frzL _) = _
    rw [bkD_own]
    rfl
theorem o_dget_D {l : List Nat} {s : Nat} {p q : PV} {N : PV → Prop} (ep : p = bkV l) (eq : q = .int (s : Int)) (h : s ∈ l) (k : N (.int ((bk l l.length s : Nat) : Int))) : OsatD (dgetP p q) N := by
  subst ep eq
  refine OsatD.of (z := .int ((bk l l.length s : Nat) : Int)) ?_ k
  show findK (((bkD l l.length).map (·.1)).zip ((bkD l l.length).map (·.2))) (Sum.inl (s : Int)) = _
  rw [zip_fst_snd, bkD_find _ (Nat.le_refl _), List.take_length, if_pos h]
end L3

namespace L3
open PySem PySem.Spec PyProof.Rows L2
section
variable {P : PV → Env → Prop} {E : XV → Env → Prop} {env : Env} {f g h : Env → R PV} {i j : Nat} {p q x : PV} {fs : Env → R (List PV)} {D : SD} {PL : List PV → Env → Prop} {elt : Env → R PV} {cond : Env → R Bool}
theorem w_bits_D (k : (f env).satD (fun p e => OsatD (asInt p) fun z => P (.int (Builtin.Int.intBits z : Nat)) e) E) : (dBits f env).satD P E := by
  unfold dBits
  refine R.bind_sat (k.mono (fun p e h => ?_) fun _ _ h => h)
  obtain ⟨z, rfl, h⟩ := asInt_get_D h
  exact h
theorem w_isx_D {cs : List Str} {x : XV} (k : P (.bl (cs.contains x.c)) env) : (dIsX cs x env).satD P E := k
theorem w_isx2_D {c1 c2 : List Str} {x : XV} (k : P (.bl (c1.contains x.c || c2.contains x.c)) env) : (dIsX2 c1 c2 x env).satD P E := k
theorem u_putI_D {l : List Int} (k : (f env).satD (fun p e1 => OsatD (asInt (frzP p)) fun y => mlsAt e1 i = some (l.map .int) ∧ (g e1).satD (fun q e2 => OsatD (asInt (frzP q)) fun z => mlsAt e2 i = some (l.map .int) ∧ 0 ≤ z ∧ z < l.length ∧ D.nx (e2.set i (some (.mls ((l.set z.toNat y).map .int))))) D.ex) D.ex) : (sPut i g f env).satD D := by
  refine u_put_D (k.mono (fun p e1 h => ?_) fun _ _ h => h)
  obtain ⟨y, ep, h1, h2⟩ := asInt_get_D h
  refine OsatD.of h1 (h2.mono (fun q e2 h => ?_) fun _ _ h => h)
  obtain ⟨z, eq, h3, h4, h5, h6⟩ := h.get
  refine OsatD.of eq (OsatD.of h3 (OsatD.of (ixN_of (j := z.toNat) (by omega) (by rw [List.length_map]; omega)) ?_))
  rw [ep, ints_set]
  exact h6
theorem u_lcf_D {α : Type} (xs : List α) (ψ φ : α → PV) (c : α → Bool) {v : Nat} (k : (fs env).satD (fun items e => items = xs.map ψ ∧ xs.length < 16000000 ∧ v < e.length ∧ (∀ x, x ∈ xs → (cond ((e.set v none).set v (some (ψ x)))).satD (fun b e2 => b = c x ∧ e2 = (e.set v none).set v (some (ψ x))) E0 ∧
      (c x = true → (elt ((e.set v none).set v (some (ψ x)))).satD (fun q e3 => q = φ x ∧ e3.set v none = e.set v none) E0)) ∧ OsatD (backE e [v] (e.set v none)) fun e2 => P (.mls ((xs.filter c).map φ)) e2) E) : (dLc [v] fs (tgN v) cond elt env).satD P E := by
  refine w_lc_D (k.mono (fun items e h => ?_) fun _ _ h => h)
  obtain ⟨rfl, hl, hv, h1, h2⟩ := h
  refine ⟨by rw [List.length_map]; exact hl, fun i acc e1 => e1 = e.set v none ∧ acc = ((xs.take i).filter c).map φ, ⟨rfl, rfl⟩, fun i p acc e1 hi h => ?_, fun acc e1 h => ?_⟩
  · obtain ⟨rfl, rfl⟩ := h
    rw [List.getElem?_map] at hi
    cases ex : xs[i]? with
    | none => rw [ex] at hi; cases hi
    | some x =>
      rw [ex] at hi
      cases hi
      have hm : x ∈ xs := List.mem_of_getElem? ex
      obtain ⟨h3, h4⟩ := h1 x hm
      refine OsatD.of (z := (e.set v none).set v (some (ψ x))) ?_ (h3.mono (fun b e2 hb => ?_) fun _ _ h => h)
      · show (if v < (e.set v none).length then _ else _) = _
        rw [if_pos (by simpa using hv)]
      · obtain ⟨rfl, rfl⟩ := hb
        have et : xs.take (i + 1) = xs.take i ++ [x] := by rw [List.take_succ, ex]; rfl
        by_cases hc : c x = true
        · rw [if_pos hc]
          refine (h4 hc).mono (fun q e3 h => ?_) fun _ _ h => h
          obtain ⟨rfl, h⟩ := h
          refine ⟨h, ?_⟩
          rw [et, List.filter_append, List.map_append, List.filter_cons_of_pos hc]
          rfl
        · rw [if_neg hc]
          refine ⟨?_, ?_⟩
          · show (((e.set v none).set v (some (ψ x))).set v none) = _
            rw [List.set_set, List.set_set]
          · rw [et, List.filter_append, List.filter_cons_of_neg hc, List.filter_nil, List.append_nil]
  · obtain ⟨rfl, rfl⟩ := h
    rw [List.length_map, List.take_length]
    exact h2
end
theorem o_vxZ_D {q : PV} {l : List Int} {z : Int} {N : PV → Prop} (eq : q = .int z) (h0 : 0 ≤ z) (h : z < l.length) (k : N (.int (l.getD z.toNat 0))) : OsatD (idxV (.mls (l.map .int)) q) N :=
  o_vxM_D (s := z.toNat) (by rw [eq, Int.toNat_of_nonneg h0]) (by omega) k
theorem o_ixZ_D {n : Nat} {z : Int} {N : Nat → Prop} (h0 : 0 ≤ z) (h : z < n) (k : N z.toNat) : OsatD (ixN n z) N := OsatD.of (ixN_of (j := z.toNat) (by omega) (by omega)) k
theorem atI_z {l : List PV} {r : Int} {x : PV} (h0 : 0 ≤ r) (h : l[r.toNat]? = some x) : atI l r = some x := by
  have z : (r.toNat : Int) = r := Int.toNat_of_nonneg h0
  rw [← z]
  exact atI_of rfl h
theorem o_ixL_D {l : List PV} {p q x : PV} {r : Int} {N : PV → Prop} (ep : p = .lst l) (eq : q = .int r) (h0 : 0 ≤ r) (h : l[r.toNat]? = some x) (k : N x) : OsatD (idxP p q) N := by
  subst ep eq
  exact OsatD.of (show atI l r = _ from atI_z h0 h) k
theorem o_ixTz_D {l : List PV} {p q x : PV} {r : Int} {N : PV → Prop} (ep : p = .tup l) (eq : q = .int r) (h0 : 0 ≤ r) (h : l[r.toNat]? = some x) (k : N x) : OsatD (idxP p q) N := by
  subst ep eq
  exact OsatD.of (show atI l r = _ from atI_z h0 h) k
theorem o_vxL_D {l : List PV} {p q x : PV} {r : Int} {N : PV → Prop} (ep : p = .lst l) (eq : q = .int r) (h0 : 0 ≤ r) (h : l[r.toNat]? = some x) (k : N x) : OsatD (idxV p q) N := by
  subst ep eq
  exact OsatD.of (show atI l r = _ from atI_z h0 h) k
theorem o_vxTz_D {l : List PV} {p q x : PV} {r : Int} {N : PV → Prop} (ep : p = .tup l) (eq : q = .int r) (h0 : 0 ≤ r) (h : l[r.toNat]? = some x) (k : N x) : OsatD (idxV p q) N := by
  subst ep eq
  exact OsatD.of (show atI l r = _ from atI_z h0 h) k
theorem o_idE_D {α : Type} {p q : PV} {l : List α} {φ : α → PV} {s : Nat} {N : PV → Prop} (d : α) (ep : p = .tup (l.map φ)) (eq : q = .int (s : Int)) (h : s < l.length) (k : N (φ (l.getD s d))) : OsatD (idxP p q) N := by
  subst ep eq
  exact o_idT_D d h k
theorem o_vxE_D {α : Type} {p q : PV} {l : List α} {φ : α → PV} {s : Nat} {N : PV → Prop} (d : α) (ep : p = .tup (l.map φ) ∨ p = .lst (l.map φ)) (eq : q = .int (s : Int)) (h : s < l.length) (k : N (φ (l.getD s d))) : OsatD (idxV p q) N := by
  have e : (l.map φ)[(s : Int).toNat]? = some (φ (l.getD s d)) := by rw [Int.toNat_natCast, List.getElem?_map, getD_some' d h]; rfl
  rcases ep with ep | ep
  · exact o_vxTz_D ep eq (by omega) e k
  · exact o_vxL_D ep eq (by omega) e k
theorem o_ixAny_D {l : List PV} {p q : PV} {r : Int} {N : PV → Prop} (ep : p = .lst l ∨ p = .tup l) (eq : q = .int r) (h0 : 0 ≤ r) (h : r < l.length) (k : ∀ x, x ∈ l → N x) : OsatD (idxP p q) N := by
  have hl : r.toNat < l.length := by omega
  rcases ep with ep | ep
  · exact o_ixL_D ep eq h0 (List.getElem?_eq_getElem hl) (k _ (List.getElem_mem hl))
  · exact o_ixTz_D ep eq h0 (List.getElem?_eq_getElem hl) (k _ (List.getElem_mem hl))
theorem intsP_ints : ∀ l : List Int, intsP (l.map .int) = some l
  | [] => rfl
  | n :: l => by
    show (intsP (l.map .int)).map (n :: ·) = _
    rw [intsP_ints l]
    rfl
theorem o_sumT_D {l : List Int} {p : PV} {N : PV → Prop} (ep : p = .tup (l.map .int)) (k : N (.int l.sum)) : OsatD (F1 sumP [p]) N := by
  subst ep
  refine OsatD.of (z := .int l.sum) ?_ k
  show (intsP (l.map .int)).map (fun ns => PV.int ns.sum) = _
  rw [intsP_ints]
  rfl
theorem o_sumL_D {l : List Int} {p : PV} {N : PV → Prop} (ep : p = .lst (l.map .int)) (k : N (.int l.sum)) : OsatD (F1 sumP [p]) N := by
  subst ep
  refine OsatD.of (z := .int l.sum) ?_ k
  show (intsP (l.map .int)).map (fun ns => PV.int ns.sum) = _
  rw [intsP_ints]
  rfl
theorem o_fdivW_D {a b : Int} {N : PV → Prop} (h : 0 < b) (h2 : b.natAbs < 2 ^ 8999) (k : N (.int (a / b))) : OsatD (fdivP (.int a) (.int b)) N := by
  show OsatD (if CDivW a b then some (PV.int (a / b)) else none) N
  have h3 : b.natAbs.log2 < 9000 := by
    have := (Nat.log2_lt (n := b.natAbs) (k := 8999) (by omega)).mpr h2
    omega
  have c : CDivW a b := ⟨h, h3⟩
  rw [if_pos c]
  exact k
theorem eqB_2 {a b a' b' : Int} : eqB (.tup [.int a, .int b]) (.tup [.int a', .int b']) = some (a == a' && b == b') := by
  have h1 : ∀ x y : Int, SeqAt.shaped (PyData.tuple [PyData.int x, PyData.int y]) = true := fun x y => by
    unfold SeqAt.shaped
    rw [Bool.and_eq_true]
    exact ⟨rfl, rfl⟩
  show (if SeqAt.shaped (PyData.tuple [PyData.int a, PyData.int b]) = true ∧ SeqAt.shaped (PyData.tuple [PyData.int a', PyData.int b']) = true then some (PyData.eqv (PyData.tuple [PyData.int a, PyData.int b]) (PyData.tuple [PyData.int a', PyData.int b'])) else none) = _
  rw [if_pos ⟨h1 a b, h1 a' b'⟩]
  show some ((a == a') && ((b == b') && true)) = _
  rw [Bool.and_true]
theorem lex_2 {a b a' b' : Int} : HT.lexLt [a, b] [a', b'] = decide (a < a' ∨ (a = a' ∧ b < b')) := by
  unfold HT.lexLt HT.lexLt HT.lexLt
  by_cases h : a = a' <;> by_cases h2 : b = b' <;> simp [h, h2] <;> omega
theorem lt_2 {a b a' b' : Int} : ltT (.tup [.int a, .int b]) (.tup [.int a', .int b']) = some (.bl (decide (a < a' ∨ (a = a' ∧ b < b')))) := by
  show some (PV.bl (HT.lexLt [a, b] [a', b'])) = _
  congr 2
  unfold HT.lexLt HT.lexLt HT.lexLt
  by_cases h : a = a' <;> by_cases h2 : b = b' <;> simp [h, h2] <;> omega
/-- sums of lists -/
theorem sum_setL {l : List Int} {n : Nat} {y : Int} (h : n < l.length) : (l.set n (l.getD n 0 + y)).sum = l.sum + y := by
  induction l generalizing n with
  | nil => simp at h
  | cons a l ih =>
    cases n with
    | zero => simp; omega
    | succ n =>
      have := ih (n := n) (by simpa using h)
      simp only [List.set_cons_succ, List.sum_cons, List.getD_cons_succ, this]
      omega
theorem le_sum {l : List Int} (h : ∀ x, x ∈ l → 0 ≤ x) : 0 ≤ l.sum ∧ ∀ x, x ∈ l → x ≤ l.sum := by
  induction l with
  | nil => exact ⟨by simp, fun x hx => nomatch hx⟩
  | cons a l ih =>
    obtain ⟨h1, h2⟩ := ih fun x hx => h x (List.mem_cons_of_mem _ hx)
    have h3 := h a List.mem_cons_self
    refine ⟨by simp only [List.sum_cons]; omega, fun x hx => ?_⟩
    simp only [List.sum_cons]
    rcases List.mem_cons.mp hx with rfl | hx
    · omega
    · have := h2 x hx; omega
theorem sum_pos {l : List Int} (h : 0 < l.sum) : ∃ i, i < l.length ∧ 0 < l.getD i 0 := by
  induction l with
  | nil => simp at h
  | cons a l ih =>
    by_cases ha : 0 < a
    · exact ⟨0, by simp, by simpa using ha⟩
    · simp only [List.sum_cons] at h
      obtain ⟨i, h1, h2⟩ := ih (by omega)
      exact ⟨i + 1, by simp; exact h1, by simpa using h2⟩
end L3

namespace L3
open PySem PySem.Spec PyProof.Rows L2
section
variable {κ : Type} [DecidableEq κ] {P : PV → Env → Prop} {E : XV → Env → Prop} {env : Env} {f g h : Env → R PV} {i : Nat} {p : PV} {D : SD}
theorem w_dnew_D (k : P p env) : (dNew p env).satD P E := k
theorem w_lstR_D (k : (f env).satD (fun p e => OsatD (lstRP (frzP p)) fun z => P z e) E) : (dLstR f env).satD P E := R.bind_sat (w_frz_D (k.mono (fun _ _ h => o1_sat_D h) fun _ _ h => h))
theorem u_dget2_D {K : DK κ} (k : OsatD (dkAt K env i) fun _ => (g env).satD (fun q e1 => (h e1).satD (fun z e2 => OsatD (get2P K (dkAt K e2 i) (frzP q) (frzP z)) fun y => P y e2) E) E) : (dGet2 K i g h env).satD P E := by
  obtain ⟨d, e, h⟩ := k.get
  unfold dGet2
  rw [e]
  exact R.bind_sat (w_frz_D (h.mono (fun _ _ h => R.bind_sat (w_frz_D (h.mono (fun _ _ h => o1_sat_D h) fun _ _ h => h))) fun _ _ h => h))
theorem u_dgetn_D {K : DK κ} (k : OsatD (dkAt K env i) fun _ => (g env).satD (fun q e1 => OsatD (getNP K (dkAt K e1 i) (frzP q)) fun y => P y e1) E) : (dGetN K i g env).satD P E := by
  obtain ⟨d, e, h⟩ := k.get
  unfold dGetN
  rw [e]
  exact R.bind_sat (w_frz_D (h.mono (fun _ _ h => o1_sat_D h) fun _ _ h => h))
theorem u_putD_D {K : DK κ} (k : (f env).satD (fun p e1 => OsatD (dkAt K e1 i) fun _ => (g e1).satD (fun q e2 => OsatD (putDP K (dkAt K e2 i) (frzP q) (frzP p)) fun z => D.nx (e2.set i (some z))) D.ex) D.ex) : (sPutD K i g f env).satD D := by
  unfold sPutD
  refine R.toS_sat (w_frz_D (k.mono (fun p e1 h => ?_) fun _ _ h => h))
  obtain ⟨d, e, h⟩ := h.get
  rw [e]
  refine R.toS_sat (w_frz_D (h.mono (fun q e2 h => ?_) fun _ _ h => h))
  obtain ⟨z, e, h⟩ := h.get
  rw [e]
  exact h
end
end L3

namespace L3
open PySem PySem.Spec PyProof.Rows L2
def T2 (l : List (List Int)) : PV := .mls (l.map fun r => .mls (r.map .int))
def T3 (t : List (List (List Int))) : PV := .mls (t.map T2)
def get2 (t : List (List Int)) (a b : Int) : Int := (t.getD a.toNat []).getD b.toNat 0
def get3 (t : List (List (List Int))) (a b c : Int) : Int := get2 (t.getD a.toNat []) b c
def set2 (t : List (List Int)) (a b : Int) (v : Int) : List (List Int) := t.set a.toNat ((t.getD a.toNat []).set b.toNat v)
def set3 (t : List (List (List Int))) (a b c : Int) (v : Int) : List (List (List Int)) := t.set a.toNat (set2 (t.getD a.toNat []) b c v)
section
variable {P : PV → Env → Prop} {E : XV → Env → Prop} {env : Env} {f g h g1 g2 g3 : Env → R PV} {i : Nat} {p : PV} {D : SD} {fs gs : Env → R (List PV)} {π : Env → R (List Nat)} {PN : List Nat → Env → Prop} {PA : List AI → Env → Prop}
theorem w_uw_D (k : (f env).satD (fun p e => isOwn p = false ∧ P p e) E) : (dUW f env).satD P E := R.bind_sat (k.mono (fun p e h => by
  show (if isOwn p = true then R.stk else R.ok p e).satD P E
  rw [h.1]
  exact h.2) fun _ _ h => h)
theorem w_ixw_D (k : (f env).satD (fun p e1 => (g e1).satD (fun q e2 => OsatD (idxW p (frzP q)) fun z => P z e2) E) E) : (dIdxW f g env).satD P E := R.bind_sat (k.mono (fun _ _ h => R.bind_sat (w_frz_D (h.mono (fun _ _ h => o1_sat_D h) fun _ _ h => h))) fun _ _ h => h)
theorem w_w_D (k : OsatD (slotP env i) fun p => P p env) : (dW i env).satD P E := by
  obtain ⟨p, e, h⟩ := k.get
  unfold dW
  rw [e]
  exact h
theorem w_revT_D (k : (f env).satD (fun p e => OsatD (revT (frzP p)) fun z => P z e) E) : (dRevT f env).satD P E := R.bind_sat (w_frz_D (k.mono (fun _ _ h => o1_sat_D h) fun _ _ h => h))
theorem w_akw_D {n1 n2 : Nat} {ρ : List Nat} (k : (fs env).satD (fun ps e1 => (gs e1).satD (fun qs e2 => ps.length = n1 ∧ qs.length = n2 ∧ (∀ i, i ∈ ρ → i < n1 + n2) ∧ ∃ l, ρ.filterMap ((ps ++ qs)[·]?) = l ∧ PA (l.map .inl) e2) E) E) : (aKw n1 n2 ρ fs gs env).satD PA E :=
  R.bind_sat (k.mono (fun ps e1 h => R.bind_sat (h.mono (fun qs e2 h => by
    obtain ⟨h1, h2, h3, l, h4, h5⟩ := h
    show (if ps.length = n1 ∧ qs.length = n2 ∧ (∀ i, i ∈ ρ → i < n1 + n2) then R.ok ((ρ.filterMap ((ps ++ qs)[·]?)).map Sum.inl) e2 else .stk).satD PA E
    rw [if_pos ⟨h1, h2, h3⟩, h4]
    exact h5) fun _ _ h => h)) fun _ _ h => h)
theorem p_n_D (k : OsatD (slotP env i) fun _ => PN [] env) : (pN i env).satD PN E := by
  obtain ⟨p, e, h⟩ := k.get
  unfold pN
  rw [e]
  exact h
theorem p_ix_D (k : (π env).satD (fun ks e1 => (g e1).satD (fun q e2 => ∃ z p0 l j, frzP q = .int z ∧ slotP e2 i = some p0 ∧ pget p0 ks = some (.mls l) ∧ ixN l.length z = some j ∧ PN (ks ++ [j]) e2) E) E) : (pIx i π g env).satD PN E :=
  R.bind_sat (k.mono (fun ks e1 h => R.bind_sat (w_frz_D (h.mono (fun q e2 h => by
    obtain ⟨z, p0, l, j, h1, h2, h3, h4, h5⟩ := h
    have e : (slotP e2 i).bind (pget · ks) = some (.mls l) := by rw [h2]; exact h3
    show (match frzP q, (slotP e2 i).bind (pget · ks) with
      | .int k, some (.mls l) => o1 ((ixN l.length k).map fun j => ks ++ [j]) e2
      | _, _ => .stk).satD PN E
    rw [h1, e]
    show (o1 ((ixN l.length z).map fun j => ks ++ [j]) e2).satD PN E
    rw [h4]
    exact h5) fun _ _ h => h))) fun _ _ h => h)
theorem p_put_D (k : (f env).satD (fun p e1 => (π e1).satD (fun ks e2 => (g e2).satD (fun q e3 => ∃ z p0 l j, frzP q = .int z ∧ slotP e3 i = some p0 ∧ pget p0 ks = some (.mls l) ∧ ixN l.length z = some j ∧ D.nx (e3.set i (some (pset p0 ks (.mls (l.set j p)))))) D.ex) D.ex) D.ex) : (sPutP i π g f env).satD D :=
  R.toS_sat (k.mono (fun p e1 h => R.toS_sat (h.mono (fun ks e2 h => R.toS_sat (w_frz_D (h.mono (fun q e3 h => by
    obtain ⟨z, p0, l, j, h1, h2, h3, h4, h5⟩ := h
    show (match frzP q, slotP e3 i with
      | .int k, some p0 => match pget p0 ks with
        | some (.mls l) => match ixN l.length k with
          | some j => .nx (e3.set i (some (pset p0 ks (.mls (l.set j p)))))
          | none => .stk
        | _ => .stk
      | _, _ => .stk : RS).satD D
    rw [h1, h2]
    show (match pget p0 ks with
        | some (.mls l) => match ixN l.length z with
          | some j => .nx (e3.set i (some (pset p0 ks (.mls (l.set j p)))))
          | none => .stk
        | _ => .stk : RS).satD D
    rw [h3]
    show (match ixN l.length z with
          | some j => .nx (e3.set i (some (pset p0 ks (.mls (l.set j p)))))
          | none => .stk : RS).satD D
    rw [h4]
    exact h5) fun _ _ h => h))) fun _ _ h => h)) fun _ _ h => h)
theorem getD_map {α β : Type} {φ : α → β} {l : List α} {j : Nat} {d : α} (h : j < l.length) : (l.map φ)[j]? = some (φ (l.getD j d)) := by
  rw [List.getElem?_map, List.getElem?_eq_getElem h, List.getD_eq_getElem?_getD, List.getElem?_eq_getElem h]
  rfl
theorem atI_ofZ {l : List PV} {z : Int} {p : PV} (h0 : 0 ≤ z) (h : l[z.toNat]? = some p) : L2.atI l z = some p := by
  have hj : z.toNat < l.length := (List.getElem?_eq_some_iff.mp h).1
  exact at_atI (ixN_of (by omega) hj) h
theorem T2_at {t : List (List Int)} {z : Int} (h0 : 0 ≤ z) (h : z < t.length) : idxW (T2 t) (.int z) = some (.mls ((t.getD z.toNat []).map .int)) := atI_ofZ h0 (getD_map (φ := fun r : List Int => PV.mls (r.map .int)) (by omega))
theorem T3_at {t : List (List (List Int))} {z : Int} (h0 : 0 ≤ z) (h : z < t.length) : idxW (T3 t) (.int z) = some (T2 (t.getD z.toNat [])) := atI_ofZ h0 (getD_map (φ := T2) (by omega))
theorem T1_at {t : List Int} {z : Int} (h0 : 0 ≤ z) (h : z < t.length) : idxW (.mls (t.map .int)) (.int z) = some (.int (t.getD z.toNat 0)) := atI_ofZ h0 (getD_map (φ := PV.int) (by omega))
/-- x[a][b] -/
theorem u_ix2_D {t : List (List Int)} (hs : slotP env i = some (T2 t)) (k : (g1 env).satD (fun q e1 => OsatD (asInt (frzP q)) fun a => e1 = env ∧ 0 ≤ a ∧ a < t.length ∧ (g2 e1).satD (fun q e2 => OsatD (asInt (frzP q)) fun b => 0 ≤ b ∧ b < (t.getD a.toNat []).length ∧ P (.int (get2 t a b)) e2) E) E) : (dUW (dIdxW (dIdxW (dW i) g1) g2) env).satD P E := by
  refine w_uw_D (w_ixw_D (w_ixw_D (w_w_D (OsatD.of hs (k.mono (fun q e1 h => ?_) fun _ _ h => h)))))
  obtain ⟨a, e, rfl, h0, h1, h⟩ := asInt_get_D h
  rw [e]
  refine OsatD.of (T2_at h0 h1) (h.mono (fun q e2 h => ?_) fun _ _ h => h)
  obtain ⟨b, e, h2, h3, h⟩ := asInt_get_D h
  rw [e]
  exact OsatD.of (T1_at h2 h3) ⟨rfl, h⟩
/-- x[a][b][c] -/
theorem u_ix3_D {t : List (List (List Int))} (hs : slotP env i = some (T3 t)) (k : (g1 env).satD (fun q e1 => OsatD (asInt (frzP q)) fun a => e1 = env ∧ 0 ≤ a ∧ a < t.length ∧ (g2 e1).satD (fun q e2 => OsatD (asInt (frzP q)) fun b => e2 = env ∧ 0 ≤ b ∧ b < (t.getD a.toNat []).length ∧ (g3 e2).satD (fun q e3 => OsatD (asInt (frzP q)) fun c => 0 ≤ c ∧ c < ((t.getD a.toNat []).getD b.toNat []).length ∧ P (.int (get3 t a b c)) e3) E) E) E) : (dUW (dIdxW (dIdxW (dIdxW (dW i) g1) g2) g3) env).satD P E := by
  refine w_uw_D (w_ixw_D (w_ixw_D (w_ixw_D (w_w_D (OsatD.of hs (k.mono (fun q e1 h => ?_) fun _ _ h => h))))))
  obtain ⟨a, e, rfl, h0, h1, h⟩ := asInt_get_D h
  rw [e]
  refine OsatD.of (T3_at h0 h1) (h.mono (fun q e2 h => ?_) fun _ _ h => h)
  obtain ⟨b, e, rfl, h2, h3, h⟩ := asInt_get_D h
  rw [e]
  refine OsatD.of (T2_at h2 h3) (h.mono (fun q e3 h => ?_) fun _ _ h => h)
  obtain ⟨c, e, h4, h5, h⟩ := asInt_get_D h
  rw [e]
  exact OsatD.of (T1_at h4 h5) ⟨rfl, h⟩
theorem pset_T2 {t : List (List Int)} {a b : Int} {v : Int} (h1 : a.toNat < t.length) : pset (T2 t) [a.toNat] (.mls (((t.getD a.toNat []).map .int).set b.toNat (.int v))) = T2 (set2 t a b v) := by
  have e : (t.map fun r : List Int => PV.mls (r.map .int))[a.toNat]? = some (.mls ((t.getD a.toNat []).map .int)) := getD_map (φ := fun r : List Int => PV.mls (r.map .int)) h1
  show PV.mls (match (t.map fun r : List Int => PV.mls (r.map .int))[a.toNat]? with
    | some p => (t.map fun r : List Int => PV.mls (r.map .int)).set a.toNat (pset p [] (.mls (((t.getD a.toNat []).map .int).set b.toNat (.int v))))
    | none => _) = _
  rw [e]
  show PV.mls ((t.map fun r : List Int => PV.mls (r.map .int)).set a.toNat (.mls (((t.getD a.toNat []).map .int).set b.toNat (.int v)))) = _
  unfold T2 set2
  rw [List.map_set, List.map_set]
theorem pget_T2 {t : List (List Int)} {a : Int} (h1 : a.toNat < t.length) : pget (T2 t) [a.toNat] = some (.mls ((t.getD a.toNat []).map .int)) := by
  show (match (t.map fun r : List Int => PV.mls (r.map .int))[a.toNat]? with
    | some q => pget q []
    | none => none) = _
  rw [getD_map (d := []) (φ := fun r : List Int => PV.mls (r.map .int)) h1]
  rfl
theorem pget_T3 {t : List (List (List Int))} {a : Int} {ks : List Nat} (h1 : a.toNat < t.length) : pget (T3 t) (a.toNat :: ks) = pget (T2 (t.getD a.toNat [])) ks := by
  show (match (t.map T2)[a.toNat]? with
    | some q => pget q ks
    | none => none) = _
  rw [getD_map (d := []) (φ := T2) h1]
theorem pset_T3 {t : List (List (List Int))} {a b c : Int} {v : Int} (h1 : a.toNat < t.length) (h2 : b.toNat < (t.getD a.toNat []).length) : pset (T3 t) [a.toNat, b.toNat] (.mls ((((t.getD a.toNat []).getD b.toNat []).map .int).set c.toNat (.int v))) = T3 (set3 t a b c v) := by
  have e : (t.map T2)[a.toNat]? = some (T2 (t.getD a.toNat [])) := getD_map (φ := T2) h1
  show PV.mls (match (t.map T2)[a.toNat]? with
    | some p => (t.map T2).set a.toNat (pset p [b.toNat] (.mls ((((t.getD a.toNat []).getD b.toNat []).map .int).set c.toNat (.int v))))
    | none => _) = _
  rw [e]
  show PV.mls ((t.map T2).set a.toNat (pset (T2 (t.getD a.toNat [])) [b.toNat] (.mls ((((t.getD a.toNat []).getD b.toNat []).map .int).set c.toNat (.int v))))) = _
  rw [pset_T2 h2]
  unfold T3 set3
  rw [List.map_set]
/-- x[a][b] = v -/
theorem u_put2_D {t : List (List Int)} (k : (f env).satD (fun p e0 => OsatD (asInt p) fun v => slotP e0 i = some (T2 t) ∧ (g1 e0).satD (fun q e1 => OsatD (asInt (frzP q)) fun a => e1 = e0 ∧ 0 ≤ a ∧ a < t.length ∧ (g2 e1).satD (fun q e2 => OsatD (asInt (frzP q)) fun b => e2 = e0 ∧ 0 ≤ b ∧ b < (t.getD a.toNat []).length ∧ D.nx (e2.set i (some (T2 (set2 t a b v))))) D.ex) D.ex) D.ex) : (sPutP i (pIx i (pN i) g1) g2 f env).satD D := by
  refine p_put_D (k.mono (fun p e0 h => ?_) fun _ _ h => h)
  obtain ⟨v, rfl, hs, h⟩ := asInt_get_D h
  refine p_ix_D (p_n_D (OsatD.of hs (h.mono (fun q e1 h => ?_) fun _ _ h => h)))
  obtain ⟨a, e, rfl, h0, h1, h⟩ := asInt_get_D h
  have ha : a.toNat < t.length := by omega
  refine ⟨a, T2 t, t.map fun r => .mls (r.map .int), a.toNat, e, hs, rfl, ixN_of (by omega) (by rw [List.length_map]; omega), h.mono (fun q e2 h => ?_) fun _ _ h => h⟩
  obtain ⟨b, e, rfl, h2, h3, h⟩ := asInt_get_D h
  refine ⟨b, T2 t, (t.getD a.toNat []).map .int, b.toNat, e, hs, pget_T2 ha, ixN_of (by omega) (by rw [List.length_map]; omega), ?_⟩
  show D.nx (e2.set i (some (pset (T2 t) [a.toNat] _)))
  rw [pset_T2 ha]
  exact h
/-- x[a][b][c] = v -/
theorem u_put3_D {t : List (List (List Int))} (k : (f env).satD (fun p e0 => OsatD (asInt p) fun v => slotP e0 i = some (T3 t) ∧ (g1 e0).satD (fun q e1 => OsatD (asInt (frzP q)) fun a => e1 = e0 ∧ 0 ≤ a ∧ a < t.length ∧ (g2 e1).satD (fun q e2 => OsatD (asInt (frzP q)) fun b => e2 = e0 ∧ 0 ≤ b ∧ b < (t.getD a.toNat []).length ∧ (g3 e2).satD (fun q e3 => OsatD (asInt (frzP q)) fun c => e3 = e0 ∧ 0 ≤ c ∧ c < ((t.getD a.toNat []).getD b.toNat []).length ∧ D.nx (e3.set i (some (T3 (set3 t a b c v))))) D.ex) D.ex) D.ex) D.ex) : (sPutP i (pIx i (pIx i (pN i) g1) g2) g3 f env).satD D := by
  refine p_put_D (k.mono (fun p e0 h => ?_) fun _ _ h => h)
  obtain ⟨v, rfl, hs, h⟩ := asInt_get_D h
  refine p_ix_D (p_ix_D (p_n_D (OsatD.of hs (h.mono (fun q e1 h => ?_) fun _ _ h => h))))
  obtain ⟨a, e, rfl, h0, h1, h⟩ := asInt_get_D h
  have ha : a.toNat < t.length := by omega
  refine ⟨a, T3 t, t.map T2, a.toNat, e, hs, rfl, ixN_of (by omega) (by rw [List.length_map]; omega), h.mono (fun q e2 h => ?_) fun _ _ h => h⟩
  obtain ⟨b, e, rfl, h2, h3, h⟩ := asInt_get_D h
  have hb : b.toNat < (t.getD a.toNat []).length := by omega
  refine ⟨b, T3 t, (t.getD a.toNat []).map fun r => .mls (r.map .int), b.toNat, e, hs, (pget_T3 (ks := []) ha).trans rfl, ixN_of (by omega) (by rw [List.length_map]; omega), h.mono (fun q e3 h => ?_) fun _ _ h => h⟩
  obtain ⟨c, e, rfl, h4, h5, h⟩ := asInt_get_D h
  refine ⟨c, T3 t, ((t.getD a.toNat []).getD b.toNat []).map .int, c.toNat, e, hs, (pget_T3 ha).trans (pget_T2 hb), ixN_of (by omega) (by rw [List.length_map]; omega), ?_⟩
  show D.nx (e3.set i (some (pset (T3 t) [a.toNat, b.toNat] _)))
  rw [pset_T3 ha hb]
  exact h
end
theorem w_bk_D {env : Env} {D : SD} (k : D.bk env) : (RS.bk env).satD D := k
theorem w_ct_D {env : Env} {D : SD} (k : D.ct env) : (RS.ct env).satD D := k
def pairQ : List PV → Option (PV × PV)
  | [p, q] => some (p, q)
  | _ => none
theorem u_par_D {env : Env} {fs : Env → R (List PV)} {i j : Nat} {D : SD} (k : (fs env).satD (fun ps e => OsatD (pairQ ps) fun q => OsatD (setQ i q.1 e) fun e1 => OsatD (setQ j q.2 e1) D.nx) D.ex) : (sPar i j fs env).satD D :=
  w_par_D (k.mono (fun ps e h => by
    obtain ⟨z, e1, h⟩ := h.get
    obtain ⟨h1, h2⟩ := setQ_get_D h
    obtain ⟨h3, h4⟩ := setQ_get_D h2
    rw [List.length_set] at h3
    refine ⟨z.1, z.2, ?_, h1, h3, h4⟩
    unfold pairQ at e1
    split at e1
    · cases e1; rfl
    · cases e1) fun _ _ h => h)
theorem log2_lt {x : Int} (h : x.natAbs < 2 ^ 8999) : x.natAbs.log2 < 9000 := by
  by_cases h0 : x.natAbs = 0
  · rw [h0]; decide
  · have := (Nat.log2_lt h0).mpr h
    omega
theorem o_mulW_D {a b : Int} {N : PV → Prop} (h1 : a.natAbs < 2 ^ 8999) (h2 : b.natAbs < 2 ^ 8999) (k : N (.int (a * b))) : OsatD (repP (.int a) (.int b)) N := by
  have h : CMulW a b := by
    have := log2_lt h1
    have := log2_lt h2
    unfold CMulW
    omega
  show OsatD (if CMul a b ∨ CMulW a b then some (PV.int (a * b)) else none) N
  rw [if_pos (.inr h)]
  exact k
theorem o_revT_D {α : Type} {φ : α → PV} {p : PV} {l : List α} {N : PV → Prop} (e : p = .tup (l.map φ)) (k : N (.tup (l.reverse.map φ))) : OsatD (revT p) N := by
  subst e
  refine OsatD.of (z := .tup (l.map φ).reverse) rfl ?_
  rw [← List.map_reverse]
  exact k
end L3

namespace L3
open PySem PySem.Spec PyProof.Rows L2
/-! the same predicates, told so that they do not unfold -/
structure R.sat {α : Type} (r : R α) (P : α → Env → Prop) (E : XV → Env → Prop) : Prop where
  run : r.satD P E
structure RS.sat (r : RS) (D : SD) : Prop where
  run : r.satD D
structure RF.sat (r : RF) (P : PV → List PV → Prop) (E : XV → List PV → Prop) : Prop where
  run : r.satD P E
structure Osat {α : Type} (o : Option α) (P : α → Prop) : Prop where
  run : OsatD o P
theorem R.sat_eq : @R.sat = @R.satD := by funext α r P E; exact propext ⟨fun h => h.run, fun h => ⟨h⟩⟩
theorem RS.sat_eq : @RS.sat = @RS.satD := by funext r D; exact propext ⟨fun h => h.run, fun h => ⟨h⟩⟩
theorem RF.sat_eq : @RF.sat = @RF.satD := by funext r P E; exact propext ⟨fun h => h.run, fun h => ⟨h⟩⟩
theorem Osat_eq : @Osat = @OsatD := by funext α o P; exact propext ⟨fun h => h.run, fun h => ⟨h⟩⟩
theorem Osat.of {α : Type} {o : Option α} {z : α} {P : α → Prop} (h : o = some z) (k : P z) : Osat o P := by
  simp only [R.sat_eq, RS.sat_eq, RF.sat_eq, Osat_eq] at *
  first | exact OsatD.of ‹_› | exact OsatD.of ‹_› ‹_› | exact OsatD.of ‹_› ‹_› ‹_› | (apply OsatD.of <;> assumption)
theorem Osat.get {α : Type} {o : Option α} {P : α → Prop} (h : Osat o P) : ∃ z, o = some z ∧ P z := by
  simp only [R.sat_eq, RS.sat_eq, RF.sat_eq, Osat_eq] at *
  first | exact OsatD.get ‹_› | exact OsatD.get ‹_› ‹_› | exact OsatD.get ‹_› ‹_› ‹_› | (apply OsatD.get <;> assumption)
theorem R.sat.mono {α : Type} {r : R α} {P P' : α → Env → Prop} {E E' : XV → Env → Prop} (h : r.sat P E) (h1 : ∀ a e, P a e → P' a e) (h2 : ∀ x e, E x e → E' x e) : r.sat P' E' := by
  simp only [R.sat_eq, RS.sat_eq, RF.sat_eq, Osat_eq] at *
  first | exact R.satD.mono ‹_› | exact R.satD.mono ‹_› ‹_› | exact R.satD.mono ‹_› ‹_› ‹_› | (apply R.satD.mono <;> assumption)
theorem RF.sat.mono {r : RF} {P P' : PV → List PV → Prop} {E E' : XV → List PV → Prop} (h : r.sat P E) (h1 : ∀ a e, P a e → P' a e) (h2 : ∀ x e, E x e → E' x e) : r.sat P' E' := by
  simp only [R.sat_eq, RS.sat_eq, RF.sat_eq, Osat_eq] at *
  first | exact RF.satD.mono ‹_› | exact RF.satD.mono ‹_› ‹_› | exact RF.satD.mono ‹_› ‹_› ‹_› | (apply RF.satD.mono <;> assumption)
theorem RS.sat.mono {r : RS} {D D' : SD} (h : r.sat D) (h1 : ∀ e, D.nx e → D'.nx e) (h2 : ∀ p e, D.rt p e → D'.rt p e) (h3 : ∀ x e, D.ex x e → D'.ex x e) (h4 : ∀ e, D.bk e → D'.bk e) (h5 : ∀ e, D.ct e → D'.ct e) : r.sat D' := by
  simp only [R.sat_eq, RS.sat_eq, RF.sat_eq, Osat_eq] at *
  first | exact RS.satD.mono ‹_› | exact RS.satD.mono ‹_› ‹_› | exact RS.satD.mono ‹_› ‹_› ‹_› | (apply RS.satD.mono <;> assumption)
theorem RF.sat.eq {r : RF} {p : PV} {o : List PV} (h : r.sat (fun q q2 => q = p ∧ q2 = o) F0) : r = .ok p o := by
  simp only [R.sat_eq, RS.sat_eq, RF.sat_eq, Osat_eq] at *
  first | exact RF.satD.eq ‹_› | exact RF.satD.eq ‹_› ‹_› | exact RF.satD.eq ‹_› ‹_› ‹_› | (apply RF.satD.eq <;> assumption)
theorem RF.sat.of {r : RF} {p : PV} {o : List PV} {P : PV → List PV → Prop} {E : XV → List PV → Prop} (e : r = .ok p o) (h : P p o) : r.sat P E := by
  simp only [R.sat_eq, RS.sat_eq, RF.sat_eq, Osat_eq] at *
  first | exact RF.satD.of ‹_› | exact RF.satD.of ‹_› ‹_› | exact RF.satD.of ‹_› ‹_› ‹_› | (apply RF.satD.of <;> assumption)
theorem RF.sat.ofX {r : RF} {x : XV} {o : List PV} {P : PV → List PV → Prop} {E : XV → List PV → Prop} (e : r = .ex x o) (h : E x o) : r.sat P E := by
  simp only [R.sat_eq, RS.sat_eq, RF.sat_eq, Osat_eq] at *
  first | exact RF.satD.ofX ‹_› | exact RF.satD.ofX ‹_› ‹_› | exact RF.satD.ofX ‹_› ‹_› ‹_› | (apply RF.satD.ofX <;> assumption)
theorem o1_sat {α : Type} {o : Option α} {env : Env} {P : α → Env → Prop} {E : XV → Env → Prop} (h : Osat o fun z => P z env) : (o1 o env).sat P E := by
  simp only [R.sat_eq, RS.sat_eq, RF.sat_eq, Osat_eq] at *
  first | exact o1_sat_D ‹_› | exact o1_sat_D ‹_› ‹_› | exact o1_sat_D ‹_› ‹_› ‹_› | (apply o1_sat_D <;> assumption)
section
variable {α : Type} {P : PV → Env → Prop} {E : XV → Env → Prop} {env : Env} {f g h : Env → R PV} {F F' : PV → PV → Option PV} {i j : Nat} {p q : PV} {fs : Env → R (List PV)} {D : SD} {s t : Env → RS} {tf tg : Env → R Bool} {PB : Bool → Env → Prop} {PL : List PV → Env → Prop}
theorem w_c (k : P p env) : (dC p env).sat P E := by
  simp only [R.sat_eq, RS.sat_eq, RF.sat_eq, Osat_eq] at *
  first | exact w_c_D ‹_› | exact w_c_D ‹_› ‹_› | exact w_c_D ‹_› ‹_› ‹_› | (apply w_c_D <;> assumption)
theorem w_v (e : env[i]? = some (some p)) (o : isOwn p = false) (k : P p env) : (dV i env).sat P E := by
  simp only [R.sat_eq, RS.sat_eq, RF.sat_eq, Osat_eq] at *
  first | exact w_v_D ‹_› | exact w_v_D ‹_› ‹_› | exact w_v_D ‹_› ‹_› ‹_› | (apply w_v_D <;> assumption)
theorem w_frz (k : (f env).sat (fun p e => P (frzP p) e) E) : (dFrz f env).sat P E := by
  simp only [R.sat_eq, RS.sat_eq, RF.sat_eq, Osat_eq] at *
  first | exact w_frz_D ‹_› | exact w_frz_D ‹_› ‹_› | exact w_frz_D ‹_› ‹_› ‹_› | (apply w_frz_D <;> assumption)
theorem w_2 (k : (f env).sat (fun p e1 => (g e1).sat (fun q e2 => Osat (F (frzP p) (frzP q)) fun z => P z e2) E) E) : (d2 F f g env).sat P E := by
  simp only [R.sat_eq, RS.sat_eq, RF.sat_eq, Osat_eq] at *
  first | exact w_2_D ‹_› | exact w_2_D ‹_› ‹_› | exact w_2_D ‹_› ‹_› ‹_› | (apply w_2_D <;> assumption)
theorem w_t2 {F : PV → PV → Option Bool} (k : (f env).sat (fun p e1 => (g e1).sat (fun q e2 => Osat (F (frzP p) (frzP q)) fun z => PB z e2) E) E) : (t2 F f g env).sat PB E := by
  simp only [R.sat_eq, RS.sat_eq, RF.sat_eq, Osat_eq] at *
  first | exact w_t2_D ‹_› | exact w_t2_D ‹_› ‹_› | exact w_t2_D ‹_› ‹_› ‹_› | (apply w_t2_D <;> assumption)
theorem w_of (k : (f env).sat (fun p e => ∃ b, p = .bl b ∧ PB b e) E) : (tOf f env).sat PB E := by
  simp only [R.sat_eq, RS.sat_eq, RF.sat_eq, Osat_eq] at *
  first | exact w_of_D ‹_› | exact w_of_D ‹_› ‹_› | exact w_of_D ‹_› ‹_› ‹_› | (apply w_of_D <;> assumption)
theorem w_tand (k : (tf env).sat (fun b e => if b = true then (tg e).sat PB E else PB false e) E) : (tAndD tf tg env).sat PB E := by
  simp only [R.sat_eq, RS.sat_eq, RF.sat_eq, Osat_eq] at *
  first | exact w_tand_D ‹_› | exact w_tand_D ‹_› ‹_› | exact w_tand_D ‹_› ‹_› ‹_› | (apply w_tand_D <;> assumption)
theorem w_tor (k : (tf env).sat (fun b e => if b = true then PB true e else (tg e).sat PB E) E) : (tOrD tf tg env).sat PB E := by
  simp only [R.sat_eq, RS.sat_eq, RF.sat_eq, Osat_eq] at *
  first | exact w_tor_D ‹_› | exact w_tor_D ‹_› ‹_› | exact w_tor_D ‹_› ‹_› ‹_› | (apply w_tor_D <;> assumption)
theorem w_tnot (k : (tf env).sat (fun b e => PB (!b) e) E) : (tNotD tf env).sat PB E := by
  simp only [R.sat_eq, RS.sat_eq, RF.sat_eq, Osat_eq] at *
  first | exact w_tnot_D ‹_› | exact w_tnot_D ‹_› ‹_› | exact w_tnot_D ‹_› ‹_› ‹_› | (apply w_tnot_D <;> assumption)
theorem w_and (k : (f env).sat (fun p e => ∃ b, p = .bl b ∧ if b = true then (g e).sat P E else P (.bl false) e) E) : (dAnd f g env).sat P E := by
  simp only [R.sat_eq, RS.sat_eq, RF.sat_eq, Osat_eq] at *
  first | exact w_and_D ‹_› | exact w_and_D ‹_› ‹_› | exact w_and_D ‹_› ‹_› ‹_› | (apply w_and_D <;> assumption)
theorem w_or (k : (f env).sat (fun p e => ∃ b, p = .bl b ∧ if b = true then P (.bl true) e else (g e).sat P E) E) : (dOr f g env).sat P E := by
  simp only [R.sat_eq, RS.sat_eq, RF.sat_eq, Osat_eq] at *
  first | exact w_or_D ‹_› | exact w_or_D ‹_› ‹_› | exact w_or_D ‹_› ‹_› ‹_› | (apply w_or_D <;> assumption)
theorem w_not (k : (f env).sat (fun p e => ∃ b, p = .bl b ∧ P (.bl !b) e) E) : (dNot f env).sat P E := by
  simp only [R.sat_eq, RS.sat_eq, RF.sat_eq, Osat_eq] at *
  first | exact w_not_D ‹_› | exact w_not_D ‹_› ‹_› | exact w_not_D ‹_› ‹_› ‹_› | (apply w_not_D <;> assumption)
theorem w_ifx (k : (tf env).sat (fun b e => if b = true then (f e).sat P E else (g e).sat P E) E) : (dIf tf f g env).sat P E := by
  simp only [R.sat_eq, RS.sat_eq, RF.sat_eq, Osat_eq] at *
  first | exact w_ifx_D ‹_› | exact w_ifx_D ‹_› ‹_› | exact w_ifx_D ‹_› ‹_› ‹_› | (apply w_ifx_D <;> assumption)
theorem w_nil (k : PL [] env) : (dNil env).sat PL E := by
  simp only [R.sat_eq, RS.sat_eq, RF.sat_eq, Osat_eq] at *
  first | exact w_nil_D ‹_› | exact w_nil_D ‹_› ‹_› | exact w_nil_D ‹_› ‹_› ‹_› | (apply w_nil_D <;> assumption)
theorem w_cons (k : (f env).sat (fun p e1 => (fs e1).sat (fun ps e2 => PL (frzP p :: ps) e2) E) E) : (dCons f fs env).sat PL E := by
  simp only [R.sat_eq, RS.sat_eq, RF.sat_eq, Osat_eq] at *
  first | exact w_cons_D ‹_› | exact w_cons_D ‹_› ‹_› | exact w_cons_D ‹_› ‹_› ‹_› | (apply w_cons_D <;> assumption)
theorem w_consO (k : (f env).sat (fun p e1 => (fs e1).sat (fun ps e2 => PL (p :: ps) e2) E) E) : (dConsO f fs env).sat PL E := by
  simp only [R.sat_eq, RS.sat_eq, RF.sat_eq, Osat_eq] at *
  first | exact w_consO_D ‹_› | exact w_consO_D ‹_› ‹_› | exact w_consO_D ‹_› ‹_› ‹_› | (apply w_consO_D <;> assumption)
theorem w_tup (k : (fs env).sat (fun ps e => P (.tup ps) e) E) : (dTup fs env).sat P E := by
  simp only [R.sat_eq, RS.sat_eq, RF.sat_eq, Osat_eq] at *
  first | exact w_tup_D ‹_› | exact w_tup_D ‹_› ‹_› | exact w_tup_D ‹_› ‹_› ‹_› | (apply w_tup_D <;> assumption)
theorem w_lst (k : (fs env).sat (fun ps e => P (.mls ps) e) E) : (dLst fs env).sat P E := by
  simp only [R.sat_eq, RS.sat_eq, RF.sat_eq, Osat_eq] at *
  first | exact w_lst_D ‹_› | exact w_lst_D ‹_› ‹_› | exact w_lst_D ‹_› ‹_› ‹_› | (apply w_lst_D <;> assumption)
theorem w_n {F : List PV → Option PV} (k : (fs env).sat (fun ps e => Osat (F ps) fun z => P z e) E) : (dN F fs env).sat P E := by
  simp only [R.sat_eq, RS.sat_eq, RF.sat_eq, Osat_eq] at *
  first | exact w_n_D ‹_› | exact w_n_D ‹_› ‹_› | exact w_n_D ‹_› ‹_› ‹_› | (apply w_n_D <;> assumption)
theorem w_n1v {F : PV → Option PV} (e : env[i]? = some (some p)) (k : Osat (F p) fun z => P z env) : (dN1V F i env).sat P E := by
  simp only [R.sat_eq, RS.sat_eq, RF.sat_eq, Osat_eq] at *
  first | exact w_n1v_D ‹_› | exact w_n1v_D ‹_› ‹_› | exact w_n1v_D ‹_› ‹_› ‹_› | (apply w_n1v_D <;> assumption)
theorem w_isi {T : String} (k : (f env).sat (fun p e => P (.bl (isTy T (frzP p))) e) E) : (dIsi T f env).sat P E := by
  simp only [R.sat_eq, RS.sat_eq, RF.sat_eq, Osat_eq] at *
  first | exact w_isi_D ‹_› | exact w_isi_D ‹_› ‹_› | exact w_isi_D ‹_› ‹_› ‹_› | (apply w_isi_D <;> assumption)
theorem w_neg (k : (f env).sat (fun p e => ∃ i, p = .int i ∧ P (.int (-i)) e) E) : (dNeg f env).sat P E := by
  simp only [R.sat_eq, RS.sat_eq, RF.sat_eq, Osat_eq] at *
  first | exact w_neg_D ‹_› | exact w_neg_D ‹_› ‹_› | exact w_neg_D ‹_› ‹_› ‹_› | (apply w_neg_D <;> assumption)
theorem w_chain (k : (f env).sat (fun p e1 => (g e1).sat (fun q e2 => Osat (blO (F (frzP p) (frzP q))) fun b => if b = true then (h e2).sat (fun z e3 => Osat (F' (frzP q) (frzP z)) fun z => P z e3) E else P (.bl false) e2) E) E) : (dChain F F' f g h env).sat P E := by
  simp only [R.sat_eq, RS.sat_eq, RF.sat_eq, Osat_eq] at *
  first | exact w_chain_D ‹_› | exact w_chain_D ‹_› ‹_› | exact w_chain_D ‹_› ‹_› ‹_› | (apply w_chain_D <;> assumption)
theorem w_ixv (e : env[i]? = some (some p)) (k : (g env).sat (fun q e => Osat (slotP e i) fun p => Osat (idxV p (frzP q)) fun z => P z e) E) : (dIdxV i g env).sat P E := by
  simp only [R.sat_eq, RS.sat_eq, RF.sat_eq, Osat_eq] at *
  first | exact w_ixv_D ‹_› | exact w_ixv_D ‹_› ‹_› | exact w_ixv_D ‹_› ‹_› ‹_› | (apply w_ixv_D <;> assumption)
theorem w_fz (e : env[i]? = some (some p)) (k : P (frzP p) (env.set i (some (frzP p)))) : (dFz i env).sat P E := by
  simp only [R.sat_eq, RS.sat_eq, RF.sat_eq, Osat_eq] at *
  first | exact w_fz_D ‹_› | exact w_fz_D ‹_› ‹_› | exact w_fz_D ‹_› ‹_› ‹_› | (apply w_fz_D <;> assumption)
theorem w_mv (e : env[i]? = some (some p)) (k : P p (env.set i none)) : (dMv i env).sat P E := by
  simp only [R.sat_eq, RS.sat_eq, RF.sat_eq, Osat_eq] at *
  first | exact w_mv_D ‹_› | exact w_mv_D ‹_› ‹_› | exact w_mv_D ‹_› ‹_› ‹_› | (apply w_mv_D <;> assumption)
theorem w_app {l : List PV} (e : env[i]? = some (some (.mls l))) (k : (f env).sat (fun p e => Osat (mlsAt e i) fun l => l.length < 16000000 ∧ P .non (e.set i (some (.mls (l ++ [p]))))) E) : (dApp i f env).sat P E := by
  simp only [R.sat_eq, RS.sat_eq, RF.sat_eq, Osat_eq] at *
  first | exact w_app_D ‹_› | exact w_app_D ‹_› ‹_› | exact w_app_D ‹_› ‹_› ‹_› | (apply w_app_D <;> assumption)
theorem w_ext {l : List PV} (e : env[i]? = some (some (.mls l))) (k : (f env).sat (fun p e => ∃ z, frzP p = .lst z ∧ Osat (mlsAt e i) fun l => l.length + z.length < 16000000 ∧ P .non (e.set i (some (.mls (l ++ z))))) E) : (dExt i f env).sat P E := by
  simp only [R.sat_eq, RS.sat_eq, RF.sat_eq, Osat_eq] at *
  first | exact w_ext_D ‹_› | exact w_ext_D ‹_› ‹_› | exact w_ext_D ‹_› ‹_› ‹_› | (apply w_ext_D <;> assumption)
theorem w_popAt {l : List PV} (e : env[i]? = some (some (.mls l))) (k : (f env).sat (fun q e => ∃ z, frzP q = .int z ∧ Osat (mlsAt e i) fun l => 0 ≤ z ∧ z < 2 ^ 63 ∧ Osat l[z.toNat]? fun p => isOwn p = false ∧ P p (e.set i (some (.mls (l.eraseIdx z.toNat))))) E) : (dPopAt i f env).sat P E := by
  simp only [R.sat_eq, RS.sat_eq, RF.sat_eq, Osat_eq] at *
  first | exact w_popAt_D ‹_› | exact w_popAt_D ‹_› ‹_› | exact w_popAt_D ‹_› ‹_› ‹_› | (apply w_popAt_D <;> assumption)
end
section
variable {α : Type} {P : PV → Env → Prop} {E : XV → Env → Prop} {env : Env} {f g h : Env → R PV} {F F' : PV → PV → Option PV} {i j : Nat} {p q : PV} {fs : Env → R (List PV)} {D : SD} {s t : Env → RS} {tf tg : Env → R Bool} {PB : Bool → Env → Prop} {PL : List PV → Env → Prop}
theorem w_anil {PA : List AI → Env → Prop} (k : PA [] env) : (aNil env).sat PA E := by
  simp only [R.sat_eq, RS.sat_eq, RF.sat_eq, Osat_eq] at *
  first | exact w_anil_D ‹_› | exact w_anil_D ‹_› ‹_› | exact w_anil_D ‹_› ‹_› ‹_› | (apply w_anil_D <;> assumption)
theorem w_acons {ga : Env → R (List AI)} {PA : List AI → Env → Prop} (k : (f env).sat (fun p e1 => (ga e1).sat (fun ps e2 => PA (.inl (frzP p) :: ps) e2) E) E) : (aCons f ga env).sat PA E := by
  simp only [R.sat_eq, RS.sat_eq, RF.sat_eq, Osat_eq] at *
  first | exact w_acons_D ‹_› | exact w_acons_D ‹_› ‹_› | exact w_acons_D ‹_› ‹_› ‹_› | (apply w_acons_D <;> assumption)
theorem w_aio {ga : Env → R (List AI)} {PA : List AI → Env → Prop} (e : env[i]? = some (some p)) (k : (ga env).sat (fun ps e2 => PA (.inr i :: ps) e2) E) : (aIo i ga env).sat PA E := by
  simp only [R.sat_eq, RS.sat_eq, RF.sat_eq, Osat_eq] at *
  first | exact w_aio_D ‹_› | exact w_aio_D ‹_› ‹_› | exact w_aio_D ‹_› ‹_› ‹_› | (apply w_aio_D <;> assumption)
theorem w_call {sl : List Nat} {FF : List PV → RF} {ga : Env → R (List AI)} (k : (ga env).sat (fun its e => Osat (fill its e) fun q => (FF q.1).sat (fun p o => Osat (putB sl o q.2) fun e3 => P p e3) (fun x o => Osat (putB sl o q.2) fun e3 => E x e3)) E) : (callD sl FF ga env).sat P E := by
  simp only [R.sat_eq, RS.sat_eq, RF.sat_eq, Osat_eq] at *
  first | exact w_call_D ‹_› | exact w_call_D ‹_› ‹_› | exact w_call_D ‹_› ‹_› ‹_› | (apply w_call_D <;> assumption)
theorem w_run {n : Nat} {io : List Nat} {b : Env → RS} {ps : List PV} {PF : PV → List PV → Prop} {EF : XV → List PV → Prop}
    (k : (b (ps.map some ++ List.replicate (n - ps.length) none)).sat { nx := fun e => Osat (outsOf io e) fun o => PF .non o, rt := fun p e => Osat (outsOf io e) fun o => PF p o, ex := fun x e => Osat (outsOf io e) fun o => EF x o, bk := fun _ => False, ct := fun _ => False }) : (runF n io b ps).sat PF EF := by
  simp only [R.sat_eq, RS.sat_eq, RF.sat_eq, Osat_eq] at *
  first | exact w_run_D ‹_› | exact w_run_D ‹_› ‹_› | exact w_run_D ‹_› ‹_› ‹_› | (apply w_run_D <;> assumption)
theorem w_nx (k : D.nx env) : (sNx env).sat D := by
  simp only [R.sat_eq, RS.sat_eq, RF.sat_eq, Osat_eq] at *
  first | exact w_nx_D ‹_› | exact w_nx_D ‹_› ‹_› | exact w_nx_D ‹_› ‹_› ‹_› | (apply w_nx_D <;> assumption)
theorem w_seq (k : (s env).sat (D.thn fun e => (t e).sat D)) : (sSeq s t env).sat D := by
  simp only [R.sat_eq, RS.sat_eq, RF.sat_eq, Osat_eq] at *
  first | exact w_seq_D ‹_› | exact w_seq_D ‹_› ‹_› | exact w_seq_D ‹_› ‹_› ‹_› | (apply w_seq_D <;> assumption)
theorem w_ret (k : (f env).sat (fun p e => D.rt p e) D.ex) : (sRet f env).sat D := by
  simp only [R.sat_eq, RS.sat_eq, RF.sat_eq, Osat_eq] at *
  first | exact w_ret_D ‹_› | exact w_ret_D ‹_› ‹_› | exact w_ret_D ‹_› ‹_› ‹_› | (apply w_ret_D <;> assumption)
theorem w_retn (k : D.rt .non env) : (sRetN env).sat D := by
  simp only [R.sat_eq, RS.sat_eq, RF.sat_eq, Osat_eq] at *
  first | exact w_retn_D ‹_› | exact w_retn_D ‹_› ‹_› | exact w_retn_D ‹_› ‹_› ‹_› | (apply w_retn_D <;> assumption)
theorem w_drop (k : (f env).sat (fun _ e => D.nx e) D.ex) : (sDrop f env).sat D := by
  simp only [R.sat_eq, RS.sat_eq, RF.sat_eq, Osat_eq] at *
  first | exact w_drop_D ‹_› | exact w_drop_D ‹_› ‹_› | exact w_drop_D ‹_› ‹_› ‹_› | (apply w_drop_D <;> assumption)
theorem w_if (k : (tf env).sat (fun b e => if b = true then (s e).sat D else (t e).sat D) D.ex) : (sIf tf s t env).sat D := by
  simp only [R.sat_eq, RS.sat_eq, RF.sat_eq, Osat_eq] at *
  first | exact w_if_D ‹_› | exact w_if_D ‹_› ‹_› | exact w_if_D ‹_› ‹_› ‹_› | (apply w_if_D <;> assumption)
theorem w_set (k : (f env).sat (fun p e => i < e.length ∧ D.nx (e.set i (some p))) D.ex) : (sSet i f env).sat D := by
  simp only [R.sat_eq, RS.sat_eq, RF.sat_eq, Osat_eq] at *
  first | exact w_set_D ‹_› | exact w_set_D ‹_› ‹_› | exact w_set_D ‹_› ‹_› ‹_› | (apply w_set_D <;> assumption)
theorem w_put {l : List PV} (k : (f env).sat (fun p e1 => (∃ l, mlsAt e1 i = some l) ∧ (g e1).sat (fun q e2 => ∃ z, frzP q = .int z ∧ Osat (mlsAt e2 i) fun l => Osat (ixN l.length z) fun j => D.nx (e2.set i (some (.mls (l.set j (frzP p)))))) D.ex) D.ex) : (sPut i g f env).sat D := by
  simp only [R.sat_eq, RS.sat_eq, RF.sat_eq, Osat_eq] at *
  first | exact w_put_D ‹_› | exact w_put_D ‹_› ‹_› | exact w_put_D ‹_› ‹_› ‹_› | (apply w_put_D <;> assumption)
theorem w_aug (e : env[i]? = some (some p)) (o : isOwn p = false) (k : (f env).sat (fun q e => Osat (F p (frzP q)) fun z => isOwn z = false ∧ i < e.length ∧ D.nx (e.set i (some z))) D.ex) : (sAug F i f env).sat D := by
  simp only [R.sat_eq, RS.sat_eq, RF.sat_eq, Osat_eq] at *
  first | exact w_aug_D ‹_› | exact w_aug_D ‹_› ‹_› | exact w_aug_D ‹_› ‹_› ‹_› | (apply w_aug_D <;> assumption)
theorem w_augix {l : List PV} (e : env[i]? = some (some (.mls l))) (k : (g env).sat (fun q e1 => ∃ z, frzP q = .int z ∧ Osat (mlsAt e1 i) fun l1 => Osat (atI l1 z) fun old => isOwn old = false ∧ (f e1).sat (fun p e2 => Osat (F old (frzP p)) fun y => Osat (mlsAt e2 i) fun l2 => Osat (ixN l2.length z) fun j => isOwn y = false ∧ D.nx (e2.set i (some (.mls (l2.set j y))))) D.ex) D.ex) : (sAugIx F i g f env).sat D := by
  simp only [R.sat_eq, RS.sat_eq, RF.sat_eq, Osat_eq] at *
  first | exact w_augix_D ‹_› | exact w_augix_D ‹_› ‹_› | exact w_augix_D ‹_› ‹_› ‹_› | (apply w_augix_D <;> assumption)
theorem w_asg {tg : Tg} (k : (f env).sat (fun p e => Osat (tg (frzP p) e) fun e' => D.nx e') D.ex) : (sAsg tg f env).sat D := by
  simp only [R.sat_eq, RS.sat_eq, RF.sat_eq, Osat_eq] at *
  first | exact w_asg_D ‹_› | exact w_asg_D ‹_› ‹_› | exact w_asg_D ‹_› ‹_› ‹_› | (apply w_asg_D <;> assumption)
theorem w_par (k : (fs env).sat (fun ps e => ∃ p q, ps = [p, q] ∧ i < e.length ∧ j < e.length ∧ D.nx ((e.set i (some p)).set j (some q))) D.ex) : (sPar i j fs env).sat D := by
  simp only [R.sat_eq, RS.sat_eq, RF.sat_eq, Osat_eq] at *
  first | exact w_par_D ‹_› | exact w_par_D ‹_› ‹_› | exact w_par_D ‹_› ‹_› ‹_› | (apply w_par_D <;> assumption)
theorem w_raise {x : Str} {ks : List Str} (k : (fs env).sat (fun ps e => D.ex ⟨x, ks.zip ps⟩ e) D.ex) : (sRaise x ks fs env).sat D := by
  simp only [R.sat_eq, RS.sat_eq, RF.sat_eq, Osat_eq] at *
  first | exact w_raise_D ‹_› | exact w_raise_D ‹_› ‹_› | exact w_raise_D ‹_› ‹_› ‹_› | (apply w_raise_D <;> assumption)
theorem w_try {cl : List Str} {hs : List HD} (k : (s env).sat (D.onx fun x e => cl.contains x.c = true ∧ (runH hs x e).sat D)) : (sTry s cl hs env).sat D := by
  simp only [R.sat_eq, RS.sat_eq, RF.sat_eq, Osat_eq] at *
  first | exact w_try_D ‹_› | exact w_try_D ‹_› ‹_› | exact w_try_D ‹_› ‹_› ‹_› | (apply w_try_D <;> assumption)
theorem w_hd {cs : List Str} {h : XV → Env → RS} {r : List HD} {x : XV} (k : if cs.contains x.c = true then (h x env).sat (D.onx fun _ _ => False) else (runH r x env).sat D) : (runH ((cs, none, h) :: r) x env).sat D := by
  simp only [R.sat_eq, RS.sat_eq, RF.sat_eq, Osat_eq] at *
  first | exact w_hd_D ‹_› | exact w_hd_D ‹_› ‹_› | exact w_hd_D ‹_› ‹_› ‹_› | (apply w_hd_D <;> assumption)
theorem w_hdN {cs : List Str} {h : XV → Env → RS} {r : List HD} {x : XV} (k : if cs.contains x.c = true then i < env.length ∧ (h x (env.set i none)).sat { nx := fun e => D.nx (e.set i none), rt := D.rt, ex := fun _ _ => False, bk := fun e => D.bk (e.set i none), ct := fun e => D.ct (e.set i none) } else (runH r x env).sat D) : (runH ((cs, some i, h) :: r) x env).sat D := by
  simp only [R.sat_eq, RS.sat_eq, RF.sat_eq, Osat_eq] at *
  first | exact w_hdN_D ‹_› | exact w_hdN_D ‹_› ‹_› | exact w_hdN_D ‹_› ‹_› ‹_› | (apply w_hdN_D <;> assumption)
theorem w_fld {x : XV} {n : Str} (e : x.fs.lookup n = some p) (o : scP p = true) (k : P p env) : (dFld x n env).sat P E := by
  simp only [R.sat_eq, RS.sat_eq, RF.sat_eq, Osat_eq] at *
  first | exact w_fld_D ‹_› | exact w_fld_D ‹_› ‹_› | exact w_fld_D ‹_› ‹_› ‹_› | (apply w_fld_D <;> assumption)
theorem w_iv (k : (f env).sat (fun p e => Osat (itemsOf (frzP p)) fun l => PL l e) E) : (iV f env).sat PL E := by
  simp only [R.sat_eq, RS.sat_eq, RF.sat_eq, Osat_eq] at *
  first | exact w_iv_D ‹_› | exact w_iv_D ‹_› ‹_› | exact w_iv_D ‹_› ‹_› ‹_› | (apply w_iv_D <;> assumption)
theorem w_ir (k : (fs env).sat (fun ps e => Osat (rngOf ps) fun l => PL l e) E) : (iR fs env).sat PL E := by
  simp only [R.sat_eq, RS.sat_eq, RF.sat_eq, Osat_eq] at *
  first | exact w_ir_D ‹_› | exact w_ir_D ‹_› ‹_› | exact w_ir_D ‹_› ‹_› ‹_› | (apply w_ir_D <;> assumption)
theorem w_ien (k : (fs env).sat (fun ps e => Osat (enumOf ps) fun l => PL l e) E) : (iEn fs env).sat PL E := by
  simp only [R.sat_eq, RS.sat_eq, RF.sat_eq, Osat_eq] at *
  first | exact w_ien_D ‹_› | exact w_ien_D ‹_› ‹_› | exact w_ien_D ‹_› ‹_› ‹_› | (apply w_ien_D <;> assumption)
theorem forD_inv {tg : Tg} {body : Env → RS} {items : List PV} (Iv : Nat → Env → Prop) (hs : ∀ i p e, items[i]? = some p → Iv i e → Osat (tg p e) fun e1 => (body e1).sat (D.lp (Iv (i + 1)))) (hend : ∀ e, Iv items.length e → D.nx e) :
    ∀ (n : Nat) (e : Env), n ≤ items.length → Iv n e → (forD tg body (items.drop n) e).sat D := by
  simp only [R.sat_eq, RS.sat_eq, RF.sat_eq, Osat_eq] at *
  first | exact forD_inv_D ‹_› | exact forD_inv_D ‹_› ‹_› | exact forD_inv_D ‹_› ‹_› ‹_› | (apply forD_inv_D <;> assumption)
theorem w_for {tg : Tg} {body : Env → RS} (k : (fs env).sat (fun items e => ∃ Iv : Nat → Env → Prop, Iv 0 e ∧ (∀ i p e, items[i]? = some p → Iv i e → Osat (tg p e) fun e1 => (body e1).sat (D.lp (Iv (i + 1)))) ∧ ∀ e, Iv items.length e → D.nx e) D.ex) : (sFor fs tg body env).sat D := by
  simp only [R.sat_eq, RS.sat_eq, RF.sat_eq, Osat_eq] at *
  first | exact w_for_D ‹_› | exact w_for_D ‹_› ‹_› | exact w_for_D ‹_› ‹_› ‹_› | (apply w_for_D <;> assumption)
theorem w_for1 {tg : Tg} {body : Env → RS} (k : (fs env).sat (fun items e => (forD tg body items e).sat D) D.ex) : (sFor fs tg body env).sat D := by
  simp only [R.sat_eq, RS.sat_eq, RF.sat_eq, Osat_eq] at *
  first | exact w_for1_D ‹_› | exact w_for1_D ‹_› ‹_› | exact w_for1_D ‹_› ‹_› ‹_› | (apply w_for1_D <;> assumption)
theorem w_fnil {tg : Tg} {body : Env → RS} (k : D.nx env) : (forD tg body [] env).sat D := by
  simp only [R.sat_eq, RS.sat_eq, RF.sat_eq, Osat_eq] at *
  first | exact w_fnil_D ‹_› | exact w_fnil_D ‹_› ‹_› | exact w_fnil_D ‹_› ‹_› ‹_› | (apply w_fnil_D <;> assumption)
theorem w_fcons {tg : Tg} {body : Env → RS} {ps : List PV} (k : Osat (tg p env) fun e1 => (body e1).sat (D.lp fun e => (forD tg body ps e).sat D)) : (forD tg body (p :: ps) env).sat D := by
  simp only [R.sat_eq, RS.sat_eq, RF.sat_eq, Osat_eq] at *
  first | exact w_fcons_D ‹_› | exact w_fcons_D ‹_› ‹_› | exact w_fcons_D ‹_› ‹_› ‹_› | (apply w_fcons_D <;> assumption)
theorem lcN_inv {own : List Nat} {tg : Tg} {cond : Env → R Bool} {elt : Env → R PV} {items : List PV} (Iv : Nat → List PV → Env → Prop)
    (hs : ∀ i p acc e, items[i]? = some p → Iv i acc e → Osat (tg p e) fun e1 => (cond e1).sat (fun b e2 => if b = true then (elt e2).sat (fun q e3 => Iv (i + 1) (acc ++ [q]) (wipeE e3 own)) E0 else Iv (i + 1) acc (wipeE e2 own)) E0) (hend : ∀ acc e, Iv items.length acc e → PL acc e) :
    ∀ (n : Nat) (acc : List PV) (e : Env), n ≤ items.length → Iv n acc e → (lcN own tg cond elt (items.drop n) e).sat (fun qs e => PL (acc ++ qs) e) E0 := by
  simp only [R.sat_eq, RS.sat_eq, RF.sat_eq, Osat_eq] at *
  first | exact lcN_inv_D ‹_› | exact lcN_inv_D ‹_› ‹_› | exact lcN_inv_D ‹_› ‹_› ‹_› | (apply lcN_inv_D <;> assumption)
theorem w_lc {own : List Nat} {tg : Tg} {cond : Env → R Bool} {elt : Env → R PV}
    (k : (fs env).sat (fun items e => items.length < 16000000 ∧ ∃ Iv : Nat → List PV → Env → Prop, Iv 0 [] (wipeE e own) ∧ (∀ i p acc e, items[i]? = some p → Iv i acc e → Osat (tg p e) fun e1 => (cond e1).sat (fun b e2 => if b = true then (elt e2).sat (fun q e3 => Iv (i + 1) (acc ++ [q]) (wipeE e3 own)) E0 else Iv (i + 1) acc (wipeE e2 own)) E0) ∧
      ∀ acc e1, Iv items.length acc e1 → Osat (backE e own e1) fun e2 => P (.mls acc) e2) E) : (dLc own fs tg cond elt env).sat P E := by
  simp only [R.sat_eq, RS.sat_eq, RF.sat_eq, Osat_eq] at *
  first | exact w_lc_D ‹_› | exact w_lc_D ‹_› ‹_› | exact w_lc_D ‹_› ‹_› ‹_› | (apply w_lc_D <;> assumption)
theorem w_yes (k : PB true env) : (tYesD env).sat PB E := by
  simp only [R.sat_eq, RS.sat_eq, RF.sat_eq, Osat_eq] at *
  first | exact w_yes_D ‹_› | exact w_yes_D ‹_› ‹_› | exact w_yes_D ‹_› ‹_› ‹_› | (apply w_yes_D <;> assumption)
theorem w_bno {PO : Option Int → Env → Prop} (k : PO none env) : (bNo env).sat PO E := by
  simp only [R.sat_eq, RS.sat_eq, RF.sat_eq, Osat_eq] at *
  first | exact w_bno_D ‹_› | exact w_bno_D ‹_› ‹_› | exact w_bno_D ‹_› ‹_› ‹_› | (apply w_bno_D <;> assumption)
theorem w_bso {PO : Option Int → Env → Prop} (k : (f env).sat (fun p e => ∃ i, p = .int i ∧ PO (some i) e) E) : (bSo f env).sat PO E := by
  simp only [R.sat_eq, RS.sat_eq, RF.sat_eq, Osat_eq] at *
  first | exact w_bso_D ‹_› | exact w_bso_D ‹_› ‹_› | exact w_bso_D ‹_› ‹_› ‹_› | (apply w_bso_D <;> assumption)
theorem w_sl {lo hi : Env → R (Option Int)} (k : (f env).sat (fun p e1 => (lo e1).sat (fun l e2 => (hi e2).sat (fun h e3 => Osat (slP (frzP p) l h) fun z => P z e3) E) E) E) : (dSl f lo hi env).sat P E := by
  simp only [R.sat_eq, RS.sat_eq, RF.sat_eq, Osat_eq] at *
  first | exact w_sl_D ‹_› | exact w_sl_D ‹_› ‹_› | exact w_sl_D ‹_› ‹_› ‹_› | (apply w_sl_D <;> assumption)
theorem w_slv {lo hi : Env → R (Option Int)} (e : env[i]? = some (some p)) (k : (lo env).sat (fun l e2 => (hi e2).sat (fun h e3 => Osat (slotP e3 i) fun p => Osat (slP p l h) fun z => P z e3) E) E) : (dSlV i lo hi env).sat P E := by
  simp only [R.sat_eq, RS.sat_eq, RF.sat_eq, Osat_eq] at *
  first | exact w_slv_D ‹_› | exact w_slv_D ‹_› ‹_› | exact w_slv_D ‹_› ‹_› ‹_› | (apply w_slv_D <;> assumption)
end
theorem asBl_get {p : PV} {N : Bool → Prop} (h : Osat (asBl p) N) : ∃ b, p = .bl b ∧ N b := by
  simp only [R.sat_eq, RS.sat_eq, RF.sat_eq, Osat_eq] at *
  first | exact asBl_get_D ‹_› | exact asBl_get_D ‹_› ‹_› | exact asBl_get_D ‹_› ‹_› ‹_› | (apply asBl_get_D <;> assumption)
theorem asInt_get {p : PV} {N : Int → Prop} (h : Osat (asInt p) N) : ∃ b, p = .int b ∧ N b := by
  simp only [R.sat_eq, RS.sat_eq, RF.sat_eq, Osat_eq] at *
  first | exact asInt_get_D ‹_› | exact asInt_get_D ‹_› ‹_› | exact asInt_get_D ‹_› ‹_› ‹_› | (apply asInt_get_D <;> assumption)
theorem asLst_get {p : PV} {N : List PV → Prop} (h : Osat (asLst p) N) : ∃ b, p = .lst b ∧ N b := by
  simp only [R.sat_eq, RS.sat_eq, RF.sat_eq, Osat_eq] at *
  first | exact asLst_get_D ‹_› | exact asLst_get_D ‹_› ‹_› | exact asLst_get_D ‹_› ‹_› ‹_› | (apply asLst_get_D <;> assumption)
section
variable {α : Type} {P : PV → Env → Prop} {E : XV → Env → Prop} {env : Env} {f g h : Env → R PV} {F F' : PV → PV → Option PV} {i j : Nat} {p q : PV} {fs : Env → R (List PV)} {D : SD} {s t : Env → RS} {tf tg : Env → R Bool} {PB : Bool → Env → Prop} {PL : List PV → Env → Prop}
theorem u_of (k : (f env).sat (fun p e => Osat (asBl p) fun b => PB b e) E) : (tOf f env).sat PB E := by
  simp only [R.sat_eq, RS.sat_eq, RF.sat_eq, Osat_eq] at *
  first | exact u_of_D ‹_› | exact u_of_D ‹_› ‹_› | exact u_of_D ‹_› ‹_› ‹_› | (apply u_of_D <;> assumption)
theorem u_and (k : (f env).sat (fun p e => Osat (asBl p) fun b => if b = true then (g e).sat P E else P (.bl false) e) E) : (dAnd f g env).sat P E := by
  simp only [R.sat_eq, RS.sat_eq, RF.sat_eq, Osat_eq] at *
  first | exact u_and_D ‹_› | exact u_and_D ‹_› ‹_› | exact u_and_D ‹_› ‹_› ‹_› | (apply u_and_D <;> assumption)
theorem u_or (k : (f env).sat (fun p e => Osat (asBl p) fun b => if b = true then P (.bl true) e else (g e).sat P E) E) : (dOr f g env).sat P E := by
  simp only [R.sat_eq, RS.sat_eq, RF.sat_eq, Osat_eq] at *
  first | exact u_or_D ‹_› | exact u_or_D ‹_› ‹_› | exact u_or_D ‹_› ‹_› ‹_› | (apply u_or_D <;> assumption)
theorem u_not (k : (f env).sat (fun p e => Osat (asBl p) fun b => P (.bl !b) e) E) : (dNot f env).sat P E := by
  simp only [R.sat_eq, RS.sat_eq, RF.sat_eq, Osat_eq] at *
  first | exact u_not_D ‹_› | exact u_not_D ‹_› ‹_› | exact u_not_D ‹_› ‹_› ‹_› | (apply u_not_D <;> assumption)
theorem u_neg (k : (f env).sat (fun p e => Osat (asInt p) fun i => P (.int (-i)) e) E) : (dNeg f env).sat P E := by
  simp only [R.sat_eq, RS.sat_eq, RF.sat_eq, Osat_eq] at *
  first | exact u_neg_D ‹_› | exact u_neg_D ‹_› ‹_› | exact u_neg_D ‹_› ‹_› ‹_› | (apply u_neg_D <;> assumption)
theorem u_bso {PO : Option Int → Env → Prop} (k : (f env).sat (fun p e => Osat (asInt p) fun i => PO (some i) e) E) : (bSo f env).sat PO E := by
  simp only [R.sat_eq, RS.sat_eq, RF.sat_eq, Osat_eq] at *
  first | exact u_bso_D ‹_› | exact u_bso_D ‹_› ‹_› | exact u_bso_D ‹_› ‹_› ‹_› | (apply u_bso_D <;> assumption)
theorem setQ_get {i : Nat} {p : PV} {e : Env} {N : Env → Prop} (h : Osat (setQ i p e) N) : i < e.length ∧ N (e.set i (some p)) := by
  simp only [R.sat_eq, RS.sat_eq, RF.sat_eq, Osat_eq] at *
  first | exact setQ_get_D ‹_› | exact setQ_get_D ‹_› ‹_› | exact setQ_get_D ‹_› ‹_› ‹_› | (apply setQ_get_D <;> assumption)
theorem noOwn_get {p : PV} {N : PV → Prop} (h : Osat (noOwn p) N) : isOwn p = false ∧ N p := by
  simp only [R.sat_eq, RS.sat_eq, RF.sat_eq, Osat_eq] at *
  first | exact noOwn_get_D ‹_› | exact noOwn_get_D ‹_› ‹_› | exact noOwn_get_D ‹_› ‹_› ‹_› | (apply noOwn_get_D <;> assumption)
theorem u_v (k : Osat (slotN env i) fun p => P p env) : (dV i env).sat P E := by
  simp only [R.sat_eq, RS.sat_eq, RF.sat_eq, Osat_eq] at *
  first | exact u_v_D ‹_› | exact u_v_D ‹_› ‹_› | exact u_v_D ‹_› ‹_› ‹_› | (apply u_v_D <;> assumption)
theorem u_aio {ga : Env → R (List AI)} {PA : List AI → Env → Prop} (k : Osat (slotP env i) fun _ => (ga env).sat (fun ps e2 => PA (.inr i :: ps) e2) E) : (aIo i ga env).sat PA E := by
  simp only [R.sat_eq, RS.sat_eq, RF.sat_eq, Osat_eq] at *
  first | exact u_aio_D ‹_› | exact u_aio_D ‹_› ‹_› | exact u_aio_D ‹_› ‹_› ‹_› | (apply u_aio_D <;> assumption)
theorem u_n1v {F : PV → Option PV} (k : Osat ((slotP env i).bind F) fun z => P z env) : (dN1V F i env).sat P E := by
  simp only [R.sat_eq, RS.sat_eq, RF.sat_eq, Osat_eq] at *
  first | exact u_n1v_D ‹_› | exact u_n1v_D ‹_› ‹_› | exact u_n1v_D ‹_› ‹_› ‹_› | (apply u_n1v_D <;> assumption)
theorem u_ixv (k : Osat (slotP env i) fun _ => (g env).sat (fun q e => Osat ((slotP e i).bind fun p => idxV p (frzP q)) fun z => P z e) E) : (dIdxV i g env).sat P E := by
  simp only [R.sat_eq, RS.sat_eq, RF.sat_eq, Osat_eq] at *
  first | exact u_ixv_D ‹_› | exact u_ixv_D ‹_› ‹_› | exact u_ixv_D ‹_› ‹_› ‹_› | (apply u_ixv_D <;> assumption)
theorem u_fz (k : Osat (slotP env i) fun p => P (frzP p) (env.set i (some (frzP p)))) : (dFz i env).sat P E := by
  simp only [R.sat_eq, RS.sat_eq, RF.sat_eq, Osat_eq] at *
  first | exact u_fz_D ‹_› | exact u_fz_D ‹_› ‹_› | exact u_fz_D ‹_› ‹_› ‹_› | (apply u_fz_D <;> assumption)
theorem u_mv (k : Osat (slotP env i) fun p => P p (env.set i none)) : (dMv i env).sat P E := by
  simp only [R.sat_eq, RS.sat_eq, RF.sat_eq, Osat_eq] at *
  first | exact u_mv_D ‹_› | exact u_mv_D ‹_› ‹_› | exact u_mv_D ‹_› ‹_› ‹_› | (apply u_mv_D <;> assumption)
theorem u_app (k : Osat (mlsAt env i) fun _ => (f env).sat (fun p e => Osat (mlsAt e i) fun l => l.length < 16000000 ∧ P .non (e.set i (some (.mls (l ++ [p]))))) E) : (dApp i f env).sat P E := by
  simp only [R.sat_eq, RS.sat_eq, RF.sat_eq, Osat_eq] at *
  first | exact u_app_D ‹_› | exact u_app_D ‹_› ‹_› | exact u_app_D ‹_› ‹_› ‹_› | (apply u_app_D <;> assumption)
theorem u_ext (k : Osat (mlsAt env i) fun _ => (f env).sat (fun p e => Osat (asLst (frzP p)) fun z => Osat (mlsAt e i) fun l => l.length + z.length < 16000000 ∧ P .non (e.set i (some (.mls (l ++ z))))) E) : (dExt i f env).sat P E := by
  simp only [R.sat_eq, RS.sat_eq, RF.sat_eq, Osat_eq] at *
  first | exact u_ext_D ‹_› | exact u_ext_D ‹_› ‹_› | exact u_ext_D ‹_› ‹_› ‹_› | (apply u_ext_D <;> assumption)
theorem u_popAt (k : Osat (mlsAt env i) fun _ => (f env).sat (fun q e => Osat (asInt (frzP q)) fun z => Osat (mlsAt e i) fun l => 0 ≤ z ∧ z < 2 ^ 63 ∧ Osat l[z.toNat]? fun p => isOwn p = false ∧ P p (e.set i (some (.mls (l.eraseIdx z.toNat))))) E) : (dPopAt i f env).sat P E := by
  simp only [R.sat_eq, RS.sat_eq, RF.sat_eq, Osat_eq] at *
  first | exact u_popAt_D ‹_› | exact u_popAt_D ‹_› ‹_› | exact u_popAt_D ‹_› ‹_› ‹_› | (apply u_popAt_D <;> assumption)
theorem u_set (k : (f env).sat (fun p e => Osat (setQ i p e) D.nx) D.ex) : (sSet i f env).sat D := by
  simp only [R.sat_eq, RS.sat_eq, RF.sat_eq, Osat_eq] at *
  first | exact u_set_D ‹_› | exact u_set_D ‹_› ‹_› | exact u_set_D ‹_› ‹_› ‹_› | (apply u_set_D <;> assumption)
theorem u_aug (k : Osat (slotN env i) fun p => (f env).sat (fun q e => Osat (F p (frzP q)) fun z => Osat (noOwn z) fun z => Osat (setQ i z e) D.nx) D.ex) : (sAug F i f env).sat D := by
  simp only [R.sat_eq, RS.sat_eq, RF.sat_eq, Osat_eq] at *
  first | exact u_aug_D ‹_› | exact u_aug_D ‹_› ‹_› | exact u_aug_D ‹_› ‹_› ‹_› | (apply u_aug_D <;> assumption)
theorem u_augix (k : Osat (mlsAt env i) fun _ => (g env).sat (fun q e1 => Osat (asInt (frzP q)) fun z => Osat ((mlsAt e1 i).bind fun l1 => atI l1 z) fun old => Osat (noOwn old) fun old => (f e1).sat (fun p e2 => Osat (F old (frzP p)) fun y => Osat (mlsAt e2 i) fun l2 => Osat (ixN l2.length z) fun j => Osat (noOwn y) fun y => D.nx (e2.set i (some (.mls (l2.set j y))))) D.ex) D.ex) : (sAugIx F i g f env).sat D := by
  simp only [R.sat_eq, RS.sat_eq, RF.sat_eq, Osat_eq] at *
  first | exact u_augix_D ‹_› | exact u_augix_D ‹_› ‹_› | exact u_augix_D ‹_› ‹_› ‹_› | (apply u_augix_D <;> assumption)
theorem o_mod {a b : Int} {N : PV → Prop} (h : 0 < b) (k : N (.int (a % b))) : Osat (modP (.int a) (.int b)) N := by
  simp only [R.sat_eq, RS.sat_eq, RF.sat_eq, Osat_eq] at *
  first | exact o_mod_D ‹_› | exact o_mod_D ‹_› ‹_› | exact o_mod_D ‹_› ‹_› ‹_› | (apply o_mod_D <;> assumption)
theorem o_fdiv {a b : Int} {N : PV → Prop} (h : 0 < b) (h2 : b < 2 ^ 64) (k : N (.int (a / b))) : Osat (fdivP (.int a) (.int b)) N := by
  simp only [R.sat_eq, RS.sat_eq, RF.sat_eq, Osat_eq] at *
  first | exact o_fdiv_D ‹_› | exact o_fdiv_D ‹_› ‹_› | exact o_fdiv_D ‹_› ‹_› ‹_› | (apply o_fdiv_D <;> assumption)
theorem o_mul {a b : Int} {N : PV → Prop} (h : -(2 ^ 64) < b ∧ b < 2 ^ 64) (k : N (.int (a * b))) : Osat (repP (.int a) (.int b)) N := by
  simp only [R.sat_eq, RS.sat_eq, RF.sat_eq, Osat_eq] at *
  first | exact o_mul_D ‹_› | exact o_mul_D ‹_› ‹_› | exact o_mul_D ‹_› ‹_› ‹_› | (apply o_mul_D <;> assumption)
theorem o_mul' {a b : Int} {N : PV → Prop} (h : -(2 ^ 64) < a ∧ a < 2 ^ 64) (k : N (.int (a * b))) : Osat (repP (.int a) (.int b)) N := by
  simp only [R.sat_eq, RS.sat_eq, RF.sat_eq, Osat_eq] at *
  first | exact o_mul'_D ‹_› | exact o_mul'_D ‹_› ‹_› | exact o_mul'_D ‹_› ‹_› ‹_› | (apply o_mul'_D <;> assumption)
theorem o_catT {a b : List PV} {N : PV → Prop} (h : a.length + b.length ≤ 16000000) (k : N (.tup (a ++ b))) : Osat (addP (.tup a) (.tup b)) N := by
  simp only [R.sat_eq, RS.sat_eq, RF.sat_eq, Osat_eq] at *
  first | exact o_catT_D ‹_› | exact o_catT_D ‹_› ‹_› | exact o_catT_D ‹_› ‹_› ‹_› | (apply o_catT_D <;> assumption)
theorem o_catL {a b : List PV} {N : PV → Prop} (h : a.length + b.length ≤ 16000000) (k : N (.mls (a ++ b))) : Osat (addP (.lst a) (.lst b)) N := by
  simp only [R.sat_eq, RS.sat_eq, RF.sat_eq, Osat_eq] at *
  first | exact o_catL_D ‹_› | exact o_catL_D ‹_› ‹_› | exact o_catL_D ‹_› ‹_› ‹_› | (apply o_catL_D <;> assumption)
end
section
variable {P : PV → Env → Prop} {E : XV → Env → Prop} {env : Env} {f g : Env → R PV} {i : Nat} {D : SD}
theorem u_slv {lo hi : Env → R (Option Int)} (k : Osat (slotP env i) fun _ => (lo env).sat (fun l e2 => (hi e2).sat (fun h e3 => Osat ((slotP e3 i).bind fun p => slP p l h) fun z => P z e3) E) E) : (dSlV i lo hi env).sat P E := by
  simp only [R.sat_eq, RS.sat_eq, RF.sat_eq, Osat_eq] at *
  first | exact u_slv_D ‹_› | exact u_slv_D ‹_› ‹_› | exact u_slv_D ‹_› ‹_› ‹_› | (apply u_slv_D <;> assumption)
theorem u_put (k : (f env).sat (fun p e1 => Osat (mlsAt e1 i) fun _ => (g e1).sat (fun q e2 => Osat (asInt (frzP q)) fun z => Osat (mlsAt e2 i) fun l => Osat (ixN l.length z) fun j => D.nx (e2.set i (some (.mls (l.set j (frzP p)))))) D.ex) D.ex) : (sPut i g f env).sat D := by
  simp only [R.sat_eq, RS.sat_eq, RF.sat_eq, Osat_eq] at *
  first | exact u_put_D ‹_› | exact u_put_D ‹_› ‹_› | exact u_put_D ‹_› ‹_› ‹_› | (apply u_put_D <;> assumption)
end
theorem o_rng {j : Int} {N : List PV → Prop} (h : 0 ≤ j) (h2 : j < 2 ^ 62) (k : N (intsR 0 j.toNat)) : Osat (rngOf [.int j]) N := by
  simp only [R.sat_eq, RS.sat_eq, RF.sat_eq, Osat_eq] at *
  first | exact o_rng_D ‹_› | exact o_rng_D ‹_› ‹_› | exact o_rng_D ‹_› ‹_› ‹_› | (apply o_rng_D <;> assumption)
theorem o_rng2 {i j : Int} {N : List PV → Prop} (h0 : 0 ≤ i) (h1 : i < 2 ^ 62) (h : 0 ≤ j) (h2 : j < 2 ^ 62) (k : N (intsR i (j - i).toNat)) : Osat (rngOf [.int i, .int j]) N := by
  simp only [R.sat_eq, RS.sat_eq, RF.sat_eq, Osat_eq] at *
  first | exact o_rng2_D ‹_› | exact o_rng2_D ‹_› ‹_› | exact o_rng2_D ‹_› ‹_› ‹_› | (apply o_rng2_D <;> assumption)
section
variable {P : PV → Env → Prop} {E : XV → Env → Prop} {env : Env} {fs : Env → R (List PV)} {elt : Env → R PV}
theorem u_lcm {v : Nat} (k : (fs env).sat (fun items e => items.length < 16000000 ∧ v < e.length ∧ ∃ φ : PV → PV, (∀ p, p ∈ items → (elt ((e.set v none).set v (some p))).sat (fun q e3 => q = φ p ∧ e3.set v none = e.set v none) E0) ∧ Osat (backE e [v] (e.set v none)) fun e2 => P (.mls (items.map φ)) e2) E) : (dLc [v] fs (tgN v) tYesD elt env).sat P E := by
  simp only [R.sat_eq, RS.sat_eq, RF.sat_eq, Osat_eq] at *
  first | exact u_lcm_D ‹_› | exact u_lcm_D ‹_› ‹_› | exact u_lcm_D ‹_› ‹_› ‹_› | (apply u_lcm_D <;> assumption)
end
theorem o_tupM {l : List PV} {N : PV → Prop} (h : flatO l = true) (k : N (.tup l)) : Osat (tupP (.mls l)) N := by
  simp only [R.sat_eq, RS.sat_eq, RF.sat_eq, Osat_eq] at *
  first | exact o_tupM_D ‹_› | exact o_tupM_D ‹_› ‹_› | exact o_tupM_D ‹_› ‹_› ‹_› | (apply o_tupM_D <;> assumption)
theorem RS.sat.mid {r : RS} {D : SD} {N : Env → Prop} (Mid : Env → Prop) (h : r.sat (D.thn Mid)) (hm : ∀ e, Mid e → N e) : r.sat (D.thn N) := by
  simp only [R.sat_eq, RS.sat_eq, RF.sat_eq, Osat_eq] at *
  first | exact RS.satD.mid ‹_› | exact RS.satD.mid ‹_› ‹_› | exact RS.satD.mid ‹_› ‹_› ‹_› | (apply RS.satD.mid <;> assumption)
theorem if_mid {b : Bool} {r1 r2 : RS} {D : SD} {N : Env → Prop} (Mid : Env → Prop) (h1 : b = true → r1.sat (D.thn Mid)) (h2 : b = false → r2.sat (D.thn Mid)) (hm : ∀ e, Mid e → N e) : if b = true then r1.sat (D.thn N) else r2.sat (D.thn N) := by
  simp only [R.sat_eq, RS.sat_eq, RF.sat_eq, Osat_eq] at *
  first | exact if_mid_D ‹_› | exact if_mid_D ‹_› ‹_› | exact if_mid_D ‹_› ‹_› ‹_› | (apply if_mid_D <;> assumption)
theorem o_idx {l : List PV} {z : Int} {j : Nat} {p : PV} {N : PV → Prop} (e : z = j) (h : l[j]? = some p) (k : N p) : Osat (idxP (.tup l) (.int z)) N := by
  simp only [R.sat_eq, RS.sat_eq, RF.sat_eq, Osat_eq] at *
  first | exact o_idx_D ‹_› | exact o_idx_D ‹_› ‹_› | exact o_idx_D ‹_› ‹_› ‹_› | (apply o_idx_D <;> assumption)
section
variable {D : SD} {env : Env} {f g : Env → R PV} {i : Nat}
theorem u_augI {l : List Int} (h : mlsAt env i = some (l.map .int)) (k : (g env).sat (fun q e1 => Osat (asInt (frzP q)) fun z => mlsAt e1 i = some (l.map .int) ∧ 0 ≤ z ∧ z < l.length ∧ (f e1).sat (fun p e2 => Osat (asInt (frzP p)) fun y => mlsAt e2 i = some (l.map .int) ∧ ∀ l' : List Int, l'.length = l.length → D.nx (e2.set i (some (.mls (l'.map .int))))) D.ex) D.ex) : (sAugIx addI i g f env).sat D := by
  simp only [R.sat_eq, RS.sat_eq, RF.sat_eq, Osat_eq] at *
  first | exact u_augI_D ‹_› | exact u_augI_D ‹_› ‹_› | exact u_augI_D ‹_› ‹_› ‹_› | (apply u_augI_D <;> assumption)
end
section
variable {P : PV → Env → Prop} {E : XV → Env → Prop} {env : Env} {fs : Env → R (List PV)} {elt : Env → R PV}
theorem u_lcj (s : Nat) (J : PV → Prop) (Q : PV → Prop) {v : Nat} (k : (fs env).sat (fun items e => items.length < 16000000 ∧ v < e.length ∧ (∃ j, e[s]? = some (some j) ∧ J j) ∧
      (∀ p, p ∈ items → ∀ j, J j → (elt (((e.set s (some j)).set v none).set v (some p))).sat (fun q e3 => Q q ∧ ∃ j', J j' ∧ e3.set v none = (e.set s (some j')).set v none) E0) ∧
      ∀ j' qs, J j' → qs.length = items.length → (∀ q, q ∈ qs → Q q) → Osat (backE e [v] ((e.set s (some j')).set v none)) fun e2 => P (.mls qs) e2) E) : (dLc [v] fs (tgN v) tYesD elt env).sat P E := by
  simp only [R.sat_eq, RS.sat_eq, RF.sat_eq, Osat_eq] at *
  first | exact u_lcj_D ‹_› | exact u_lcj_D ‹_› ‹_› | exact u_lcj_D ‹_› ‹_› ‹_› | (apply u_lcj_D <;> assumption)
theorem u_lcq (Q : PV → Prop) {v : Nat} (k : (fs env).sat (fun items e => items.length < 16000000 ∧ v < e.length ∧
      (∀ p, p ∈ items → (elt ((e.set v none).set v (some p))).sat (fun q e3 => Q q ∧ e3.set v none = e.set v none) E0) ∧
      ∀ qs, qs.length = items.length → (∀ q, q ∈ qs → Q q) → Osat (backE e [v] (e.set v none)) fun e2 => P (.mls qs) e2) E) : (dLc [v] fs (tgN v) tYesD elt env).sat P E := by
  simp only [R.sat_eq, RS.sat_eq, RF.sat_eq, Osat_eq] at *
  first | exact u_lcq_D ‹_› | exact u_lcq_D ‹_› ‹_› | exact u_lcq_D ‹_› ‹_› ‹_› | (apply u_lcq_D <;> assumption)
end
section
variable {P : PV → Env → Prop} {E : XV → Env → Prop} {env : Env} {fs : Env → R (List PV)} {elt : Env → R PV} {D : SD}
theorem u_lcx {α : Type} (xs : List α) (ψ φ : α → PV) {v : Nat} (k : (fs env).sat (fun items e => items = xs.map ψ ∧ xs.length < 16000000 ∧ v < e.length ∧ (∀ x, x ∈ xs → (elt ((e.set v none).set v (some (ψ x)))).sat (fun q e3 => q = φ x ∧ e3.set v none = e.set v none) E0) ∧ Osat (backE e [v] (e.set v none)) fun e2 => P (.mls (xs.map φ)) e2) E) : (dLc [v] fs (tgN v) tYesD elt env).sat P E := by
  simp only [R.sat_eq, RS.sat_eq, RF.sat_eq, Osat_eq] at *
  first | exact u_lcx_D ‹_› | exact u_lcx_D ‹_› ‹_› | exact u_lcx_D ‹_› ‹_› ‹_› | (apply u_lcx_D <;> assumption)
theorem w_forx {α : Type} (xs : List α) (ψ : α → PV) (Iv : Nat → Env → Prop) {tg : Tg} {body : Env → RS} (k : (fs env).sat (fun items e => items = xs.map ψ ∧ Iv 0 e ∧ (∀ i x e, xs[i]? = some x → Iv i e → Osat (tg (ψ x) e) fun e1 => (body e1).sat (D.lp (Iv (i + 1)))) ∧ ∀ e, Iv xs.length e → D.nx e) D.ex) : (sFor fs tg body env).sat D := by
  simp only [R.sat_eq, RS.sat_eq, RF.sat_eq, Osat_eq] at *
  first | exact w_forx_D ‹_› | exact w_forx_D ‹_› ‹_› | exact w_forx_D ‹_› ‹_› ‹_› | (apply w_forx_D <;> assumption)
end
theorem o_slotN {env : Env} {i : Nat} {p : PV} {N : PV → Prop} (e : slotP env i = some p) (h : isOwn p = false) (k : N p) : Osat (slotN env i) N := by
  simp only [R.sat_eq, RS.sat_eq, RF.sat_eq, Osat_eq] at *
  first | exact o_slotN_D ‹_› | exact o_slotN_D ‹_› ‹_› | exact o_slotN_D ‹_› ‹_› ‹_› | (apply o_slotN_D <;> assumption)
theorem o_ixm1 {n : Nat} {N : Nat → Prop} (h : 0 < n) (k : N (n - 1)) : Osat (ixN n (-1)) N := by
  simp only [R.sat_eq, RS.sat_eq, RF.sat_eq, Osat_eq] at *
  first | exact o_ixm1_D ‹_› | exact o_ixm1_D ‹_› ‹_› | exact o_ixm1_D ‹_› ‹_› ‹_› | (apply o_ixm1_D <;> assumption)
theorem o_ix {n j : Nat} {N : Nat → Prop} (h : j < n) (k : N j) : Osat (ixN n (j : Int)) N := by
  simp only [R.sat_eq, RS.sat_eq, RF.sat_eq, Osat_eq] at *
  first | exact o_ix_D ‹_› | exact o_ix_D ‹_› ‹_› | exact o_ix_D ‹_› ‹_› ‹_› | (apply o_ix_D <;> assumption)
theorem o_ixML {env : Env} {i : Nat} {q : PV} {l : List Int} {s : Nat} {N : PV → Prop} (e : slotP env i = some (.mls (l.map .int))) (eq : q = .int s) (h : s < l.length) (k : N (.int (l.getD s 0))) : Osat ((slotP env i).bind fun p => idxV p q) N := by
  simp only [R.sat_eq, RS.sat_eq, RF.sat_eq, Osat_eq] at *
  first | exact o_ixML_D ‹_› | exact o_ixML_D ‹_› ‹_› | exact o_ixML_D ‹_› ‹_› ‹_› | (apply o_ixML_D <;> assumption)
theorem o_ixT {α : Type} {env : Env} {i : Nat} {q : PV} {l : List α} {φ : α → PV} {s : Nat} {N : PV → Prop} (d : α) (e : slotP env i = some (.tup (l.map φ))) (eq : q = .int s) (h : s < l.length) (k : N (φ (l.getD s d))) : Osat ((slotP env i).bind fun p => idxV p q) N := by
  simp only [R.sat_eq, RS.sat_eq, RF.sat_eq, Osat_eq] at *
  first | exact o_ixT_D ‹_› | exact o_ixT_D ‹_› ‹_› | exact o_ixT_D ‹_› ‹_› ‹_› | (apply o_ixT_D <;> assumption)
theorem o_idT {α : Type} {l : List α} {φ : α → PV} {s : Nat} {N : PV → Prop} (d : α) (h : s < l.length) (k : N (φ (l.getD s d))) : Osat (idxP (.tup (l.map φ)) (.int s)) N := by
  simp only [R.sat_eq, RS.sat_eq, RF.sat_eq, Osat_eq] at *
  first | exact o_idT_D ‹_› | exact o_idT_D ‹_› ‹_› | exact o_idT_D ‹_› ‹_› ‹_› | (apply o_idT_D <;> assumption)
theorem o_catLI {a b : List Int} {p q : PV} {N : PV → Prop} (ep : p = .lst (a.map .int)) (eq : q = .lst (b.map .int)) (h : a.length + b.length ≤ 16000000) (k : N (.mls ((a ++ b).map .int))) : Osat (addP p q) N := by
  simp only [R.sat_eq, RS.sat_eq, RF.sat_eq, Osat_eq] at *
  first | exact o_catLI_D ‹_› | exact o_catLI_D ‹_› ‹_› | exact o_catLI_D ‹_› ‹_› ‹_› | (apply o_catLI_D <;> assumption)
theorem o_catTI {α : Type} {φ : α → PV} {a b : List α} {p q : PV} {N : PV → Prop} (ep : p = .tup (a.map φ)) (eq : q = .tup (b.map φ)) (h : a.length + b.length ≤ 16000000) (k : N (.tup ((a ++ b).map φ))) : Osat (addP p q) N := by
  simp only [R.sat_eq, RS.sat_eq, RF.sat_eq, Osat_eq] at *
  first | exact o_catTI_D ‹_› | exact o_catTI_D ‹_› ‹_› | exact o_catTI_D ‹_› ‹_› ‹_› | (apply o_catTI_D <;> assumption)
section
variable {P : PV → Env → Prop} {E : XV → Env → Prop} {env : Env} {g : Env → R PV} {i : Nat}
theorem u_ixc {q : PV} (k : Osat ((slotP env i).bind fun p => idxV p (frzP q)) fun z => P z env) : (dIdxV i (dC q) env).sat P E := by
  simp only [R.sat_eq, RS.sat_eq, RF.sat_eq, Osat_eq] at *
  first | exact u_ixc_D ‹_› | exact u_ixc_D ‹_› ‹_› | exact u_ixc_D ‹_› ‹_› ‹_› | (apply u_ixc_D <;> assumption)
theorem u_ixs (k : Osat (slotP env i) fun _ => (g env).sat (fun q e => Osat (slotP e i) fun p => Osat (idxV p (frzP q)) fun z => P z e) E) : (dIdxV i g env).sat P E := by
  simp only [R.sat_eq, RS.sat_eq, RF.sat_eq, Osat_eq] at *
  first | exact u_ixs_D ‹_› | exact u_ixs_D ‹_› ‹_› | exact u_ixs_D ‹_› ‹_› ‹_› | (apply u_ixs_D <;> assumption)
end
theorem o_vxT {α : Type} {q : PV} {l : List α} {φ : α → PV} {s : Nat} {N : PV → Prop} (d : α) (eq : q = .int s) (h : s < l.length) (k : N (φ (l.getD s d))) : Osat (idxV (.tup (l.map φ)) q) N := by
  simp only [R.sat_eq, RS.sat_eq, RF.sat_eq, Osat_eq] at *
  first | exact o_vxT_D ‹_› | exact o_vxT_D ‹_› ‹_› | exact o_vxT_D ‹_› ‹_› ‹_› | (apply o_vxT_D <;> assumption)
theorem o_vxM {q : PV} {l : List Int} {s : Nat} {N : PV → Prop} (eq : q = .int s) (h : s < l.length) (k : N (.int (l.getD s 0))) : Osat (idxV (.mls (l.map .int)) q) N := by
  simp only [R.sat_eq, RS.sat_eq, RF.sat_eq, Osat_eq] at *
  first | exact o_vxM_D ‹_› | exact o_vxM_D ‹_› ‹_› | exact o_vxM_D ‹_› ‹_› ‹_› | (apply o_vxM_D <;> assumption)
theorem o_catLG {α : Type} {φ : α → PV} {a b : List α} {p q : PV} {N : PV → Prop} (ep : p = .lst (a.map φ)) (eq : q = .lst (b.map φ)) (h : a.length + b.length ≤ 16000000) (k : N (.mls ((a ++ b).map φ))) : Osat (addP p q) N := by
  simp only [R.sat_eq, RS.sat_eq, RF.sat_eq, Osat_eq] at *
  first | exact o_catLG_D ‹_› | exact o_catLG_D ‹_› ‹_› | exact o_catLG_D ‹_› ‹_› ‹_› | (apply o_catLG_D <;> assumption)
theorem o_slTo' {α : Type} {φ : α → PV} {p : PV} {l : List α} {z : Int} {N : PV → Prop} (s : Nat) (e : p = .tup (l.map φ)) (ez : z = s) (k : N (.tup ((l.take s).map φ))) : Osat (slP p none (some z)) N := by
  simp only [R.sat_eq, RS.sat_eq, RF.sat_eq, Osat_eq] at *
  first | exact o_slTo'_D ‹_› | exact o_slTo'_D ‹_› ‹_› | exact o_slTo'_D ‹_› ‹_› ‹_› | (apply o_slTo'_D <;> assumption)
theorem o_slFrom' {α : Type} {φ : α → PV} {p : PV} {l : List α} {z : Int} {N : PV → Prop} (s : Nat) (e : p = .tup (l.map φ)) (ez : z = s) (k : N (.tup ((l.drop s).map φ))) : Osat (slP p (some z) none) N := by
  simp only [R.sat_eq, RS.sat_eq, RF.sat_eq, Osat_eq] at *
  first | exact o_slFrom'_D ‹_› | exact o_slFrom'_D ‹_› ‹_› | exact o_slFrom'_D ‹_› ‹_› ‹_› | (apply o_slFrom'_D <;> assumption)
theorem o_slMid' {α : Type} {φ : α → PV} {p : PV} {l : List α} {z y : Int} {N : PV → Prop} (s t : Nat) (e : p = .tup (l.map φ)) (ez : z = s) (ey : y = t) (k : N (.tup (((l.take t).drop s).map φ))) : Osat (slP p (some z) (some y)) N := by
  simp only [R.sat_eq, RS.sat_eq, RF.sat_eq, Osat_eq] at *
  first | exact o_slMid'_D ‹_› | exact o_slMid'_D ‹_› ‹_› | exact o_slMid'_D ‹_› ‹_› ‹_› | (apply o_slMid'_D <;> assumption)
theorem o_slTo {α : Type} {φ : α → PV} {env : Env} {i : Nat} {l : List α} {z : Int} {s : Nat} {N : PV → Prop} (e : slotP env i = some (.tup (l.map φ))) (ez : z = s) (h : s < l.length) (k : N (.tup ((l.take s).map φ))) : Osat ((slotP env i).bind fun p => slP p none (some z)) N := by
  simp only [R.sat_eq, RS.sat_eq, RF.sat_eq, Osat_eq] at *
  first | exact o_slTo_D ‹_› | exact o_slTo_D ‹_› ‹_› | exact o_slTo_D ‹_› ‹_› ‹_› | (apply o_slTo_D <;> assumption)
theorem o_slFrom {α : Type} {φ : α → PV} {env : Env} {i : Nat} {l : List α} {z : Int} {s : Nat} {N : PV → Prop} (e : slotP env i = some (.tup (l.map φ))) (ez : z = s) (h0 : 0 < s) (h : s ≤ l.length) (k : N (.tup ((l.drop s).map φ))) : Osat ((slotP env i).bind fun p => slP p (some z) none) N := by
  simp only [R.sat_eq, RS.sat_eq, RF.sat_eq, Osat_eq] at *
  first | exact o_slFrom_D ‹_› | exact o_slFrom_D ‹_› ‹_› | exact o_slFrom_D ‹_› ‹_› ‹_› | (apply o_slFrom_D <;> assumption)
theorem o_tupS {env : Env} {i : Nat} {l : List PV} {N : PV → Prop} (e : slotP env i = some (.mls l)) (h : flatO l = true) (k : N (.tup l)) : Osat ((slotP env i).bind tupP) N := by
  simp only [R.sat_eq, RS.sat_eq, RF.sat_eq, Osat_eq] at *
  first | exact o_tupS_D ‹_› | exact o_tupS_D ‹_› ‹_› | exact o_tupS_D ‹_› ‹_› ‹_› | (apply o_tupS_D <;> assumption)
theorem o_rep0 {z n : Int} {k : Nat} {p q : PV} {N : PV → Prop} (ep : p = .tup [.int n]) (eq : q = .int z) (ez : z = k) (h0 : 1 ≤ k) (h1 : k ≤ 1000) (kk : N (tI (List.replicate k n))) : Osat (repP p q) N := by
  simp only [R.sat_eq, RS.sat_eq, RF.sat_eq, Osat_eq] at *
  first | exact o_rep0_D ‹_› | exact o_rep0_D ‹_› ‹_› | exact o_rep0_D ‹_› ‹_› ‹_› | (apply o_rep0_D <;> assumption)
theorem o_vxR {l : List PV} {q x : PV} {s : Nat} {N : PV → Prop} (eq : q = .int s) (h : l[s]? = some x) (k : N x) : Osat (idxV (.tup l) q) N := by
  simp only [R.sat_eq, RS.sat_eq, RF.sat_eq, Osat_eq] at *
  first | exact o_vxR_D ‹_› | exact o_vxR_D ‹_› ‹_› | exact o_vxR_D ‹_› ‹_› ‹_› | (apply o_vxR_D <;> assumption)
theorem o_vxAny {l : List PV} {q : PV} {r : Int} {N : PV → Prop} (eq : q = .int r) (h0 : 0 ≤ r) (h1 : r < l.length) (k : ∀ p, p ∈ l → N p) : Osat (idxV (.tup l) q) N := by
  simp only [R.sat_eq, RS.sat_eq, RF.sat_eq, Osat_eq] at *
  first | exact o_vxAny_D ‹_› | exact o_vxAny_D ‹_› ‹_› | exact o_vxAny_D ‹_› ‹_› ‹_› | (apply o_vxAny_D <;> assumption)
theorem ifx_mid {α : Type} {b : Bool} {r1 r2 : R α} {P : α → Env → Prop} {E : XV → Env → Prop} (Mid : α → Env → Prop) (h1 : b = true → r1.sat Mid E) (h2 : b = false → r2.sat Mid E) (hm : ∀ p e, Mid p e → P p e) : if b = true then r1.sat P E else r2.sat P E := by
  simp only [R.sat_eq, RS.sat_eq, RF.sat_eq, Osat_eq] at *
  first | exact ifx_mid_D ‹_› | exact ifx_mid_D ‹_› ‹_› | exact ifx_mid_D ‹_› ‹_› ‹_› | (apply ifx_mid_D <;> assumption)
section
variable {α : Type} {P : PV → Env → Prop} {E : XV → Env → Prop} {env : Env} {f g h : Env → R PV} {i j : Nat} {p q : PV} {fs : Env → R (List PV)} {D : SD} {PL : List PV → Env → Prop}
theorem w_ien2 (k : (fs env).sat (fun ps e => Osat (enumOf2 ps) fun l => PL l e) E) : (iEn2 fs env).sat PL E := by
  simp only [R.sat_eq, RS.sat_eq, RF.sat_eq, Osat_eq] at *
  first | exact w_ien2_D ‹_› | exact w_ien2_D ‹_› ‹_› | exact w_ien2_D ‹_› ‹_› ‹_› | (apply w_ien2_D <;> assumption)
theorem u_augS {l : List Int} (h : mlsAt env i = some (l.map .int)) (k : (g env).sat (fun q e1 => Osat (asInt (frzP q)) fun z => mlsAt e1 i = some (l.map .int) ∧ 0 ≤ z ∧ z < l.length ∧ (f e1).sat (fun p e2 => Osat (asInt (frzP p)) fun y => mlsAt e2 i = some (l.map .int) ∧ D.nx (e2.set i (some (.mls ((l.set z.toNat (l.getD z.toNat 0 + y)).map .int))))) D.ex) D.ex) : (sAugIx addI i g f env).sat D := by
  simp only [R.sat_eq, RS.sat_eq, RF.sat_eq, Osat_eq] at *
  first | exact u_augS_D ‹_› | exact u_augS_D ‹_› ‹_› | exact u_augS_D ‹_› ‹_› ‹_› | (apply u_augS_D <;> assumption)
end
theorem o_slToT {α : Type} {φ : α → PV} {p : PV} {l : List α} {z : Int} {s : Nat} {N : PV → Prop} (ep : p = .tup (l.map φ)) (ez : z = s) (h : s < l.length) (k : N (.tup ((l.take s).map φ))) : Osat (slP p none (some z)) N := by
  simp only [R.sat_eq, RS.sat_eq, RF.sat_eq, Osat_eq] at *
  first | exact o_slToT_D ‹_› | exact o_slToT_D ‹_› ‹_› | exact o_slToT_D ‹_› ‹_› ‹_› | (apply o_slToT_D <;> assumption)
theorem o_slFromT {α : Type} {φ : α → PV} {p : PV} {l : List α} {z : Int} {s : Nat} {N : PV → Prop} (ep : p = .tup (l.map φ)) (ez : z = s) (h0 : 0 < s) (h : s ≤ l.length) (k : N (.tup ((l.drop s).map φ))) : Osat (slP p (some z) none) N := by
  simp only [R.sat_eq, RS.sat_eq, RF.sat_eq, Osat_eq] at *
  first | exact o_slFromT_D ‹_› | exact o_slFromT_D ‹_› ‹_› | exact o_slFromT_D ‹_› ‹_› ‹_› | (apply o_slFromT_D <;> assumption)
theorem o_dict {l : List Nat} {p : PV} {N : PV → Prop} (ep : p = .lst ((List.range l.length).map fun (i : Nat) => PV.tup [.int ((l.getD i 0 : Nat) : Int), .int (i : Int)])) (k : ∀ z, frzP z = bkV l → N z) : Osat (dictP [p]) N := by
  simp only [R.sat_eq, RS.sat_eq, RF.sat_eq, Osat_eq] at *
  first | exact o_dict_D ‹_› | exact o_dict_D ‹_› ‹_› | exact o_dict_D ‹_› ‹_› ‹_› | (apply o_dict_D <;> assumption)
theorem o_dget {l : List Nat} {s : Nat} {p q : PV} {N : PV → Prop} (ep : p = bkV l) (eq : q = .int (s : Int)) (h : s ∈ l) (k : N (.int ((bk l l.length s : Nat) : Int))) : Osat (dgetP p q) N := by
  simp only [R.sat_eq, RS.sat_eq, RF.sat_eq, Osat_eq] at *
  first | exact o_dget_D ‹_› | exact o_dget_D ‹_› ‹_› | exact o_dget_D ‹_› ‹_› ‹_› | (apply o_dget_D <;> assumption)
section
variable {P : PV → Env → Prop} {E : XV → Env → Prop} {env : Env} {f g h : Env → R PV} {i j : Nat} {p q x : PV} {fs : Env → R (List PV)} {D : SD} {PL : List PV → Env → Prop} {elt : Env → R PV} {cond : Env → R Bool}
theorem w_bits (k : (f env).sat (fun p e => Osat (asInt p) fun z => P (.int (Builtin.Int.intBits z : Nat)) e) E) : (dBits f env).sat P E := by
  simp only [R.sat_eq, RS.sat_eq, RF.sat_eq, Osat_eq] at *
  first | exact w_bits_D ‹_› | exact w_bits_D ‹_› ‹_› | exact w_bits_D ‹_› ‹_› ‹_› | (apply w_bits_D <;> assumption)
theorem w_isx {cs : List Str} {x : XV} (k : P (.bl (cs.contains x.c)) env) : (dIsX cs x env).sat P E := by
  simp only [R.sat_eq, RS.sat_eq, RF.sat_eq, Osat_eq] at *
  first | exact w_isx_D ‹_› | exact w_isx_D ‹_› ‹_› | exact w_isx_D ‹_› ‹_› ‹_› | (apply w_isx_D <;> assumption)
theorem w_isx2 {c1 c2 : List Str} {x : XV} (k : P (.bl (c1.contains x.c || c2.contains x.c)) env) : (dIsX2 c1 c2 x env).sat P E := by
  simp only [R.sat_eq, RS.sat_eq, RF.sat_eq, Osat_eq] at *
  first | exact w_isx2_D ‹_› | exact w_isx2_D ‹_› ‹_› | exact w_isx2_D ‹_› ‹_› ‹_› | (apply w_isx2_D <;> assumption)
theorem u_putI {l : List Int} (k : (f env).sat (fun p e1 => Osat (asInt (frzP p)) fun y => mlsAt e1 i = some (l.map .int) ∧ (g e1).sat (fun q e2 => Osat (asInt (frzP q)) fun z => mlsAt e2 i = some (l.map .int) ∧ 0 ≤ z ∧ z < l.length ∧ D.nx (e2.set i (some (.mls ((l.set z.toNat y).map .int))))) D.ex) D.ex) : (sPut i g f env).sat D := by
  simp only [R.sat_eq, RS.sat_eq, RF.sat_eq, Osat_eq] at *
  first | exact u_putI_D ‹_› | exact u_putI_D ‹_› ‹_› | exact u_putI_D ‹_› ‹_› ‹_› | (apply u_putI_D <;> assumption)
theorem u_lcf {α : Type} (xs : List α) (ψ φ : α → PV) (c : α → Bool) {v : Nat} (k : (fs env).sat (fun items e => items = xs.map ψ ∧ xs.length < 16000000 ∧ v < e.length ∧ (∀ x, x ∈ xs → (cond ((e.set v none).set v (some (ψ x)))).sat (fun b e2 => b = c x ∧ e2 = (e.set v none).set v (some (ψ x))) E0 ∧
      (c x = true → (elt ((e.set v none).set v (some (ψ x)))).sat (fun q e3 => q = φ x ∧ e3.set v none = e.set v none) E0)) ∧ Osat (backE e [v] (e.set v none)) fun e2 => P (.mls ((xs.filter c).map φ)) e2) E) : (dLc [v] fs (tgN v) cond elt env).sat P E := by
  simp only [R.sat_eq, RS.sat_eq, RF.sat_eq, Osat_eq] at *
  first | exact u_lcf_D ‹_› | exact u_lcf_D ‹_› ‹_› | exact u_lcf_D ‹_› ‹_› ‹_› | (apply u_lcf_D <;> assumption)
end
theorem o_vxZ {q : PV} {l : List Int} {z : Int} {N : PV → Prop} (eq : q = .int z) (h0 : 0 ≤ z) (h : z < l.length) (k : N (.int (l.getD z.toNat 0))) : Osat (idxV (.mls (l.map .int)) q) N := by
  simp only [R.sat_eq, RS.sat_eq, RF.sat_eq, Osat_eq] at *
  first | exact o_vxZ_D ‹_› | exact o_vxZ_D ‹_› ‹_› | exact o_vxZ_D ‹_› ‹_› ‹_› | (apply o_vxZ_D <;> assumption)
theorem o_ixZ {n : Nat} {z : Int} {N : Nat → Prop} (h0 : 0 ≤ z) (h : z < n) (k : N z.toNat) : Osat (ixN n z) N := by
  simp only [R.sat_eq, RS.sat_eq, RF.sat_eq, Osat_eq] at *
  first | exact o_ixZ_D ‹_› | exact o_ixZ_D ‹_› ‹_› | exact o_ixZ_D ‹_› ‹_› ‹_› | (apply o_ixZ_D <;> assumption)
theorem o_ixL {l : List PV} {p q x : PV} {r : Int} {N : PV → Prop} (ep : p = .lst l) (eq : q = .int r) (h0 : 0 ≤ r) (h : l[r.toNat]? = some x) (k : N x) : Osat (idxP p q) N := by
  simp only [R.sat_eq, RS.sat_eq, RF.sat_eq, Osat_eq] at *
  first | exact o_ixL_D ‹_› | exact o_ixL_D ‹_› ‹_› | exact o_ixL_D ‹_› ‹_› ‹_› | (apply o_ixL_D <;> assumption)
theorem o_ixTz {l : List PV} {p q x : PV} {r : Int} {N : PV → Prop} (ep : p = .tup l) (eq : q = .int r) (h0 : 0 ≤ r) (h : l[r.toNat]? = some x) (k : N x) : Osat (idxP p q) N := by
  simp only [R.sat_eq, RS.sat_eq, RF.sat_eq, Osat_eq] at *
  first | exact o_ixTz_D ‹_› | exact o_ixTz_D ‹_› ‹_› | exact o_ixTz_D ‹_› ‹_› ‹_› | (apply o_ixTz_D <;> assumption)
theorem o_vxL {l : List PV} {p q x : PV} {r : Int} {N : PV → Prop} (ep : p = .lst l) (eq : q = .int r) (h0 : 0 ≤ r) (h : l[r.toNat]? = some x) (k : N x) : Osat (idxV p q) N := by
  simp only [R.sat_eq, RS.sat_eq, RF.sat_eq, Osat_eq] at *
  first | exact o_vxL_D ‹_› | exact o_vxL_D ‹_› ‹_› | exact o_vxL_D ‹_› ‹_› ‹_› | (apply o_vxL_D <;> assumption)
theorem o_vxTz {l : List PV} {p q x : PV} {r : Int} {N : PV → Prop} (ep : p = .tup l) (eq : q = .int r) (h0 : 0 ≤ r) (h : l[r.toNat]? = some x) (k : N x) : Osat (idxV p q) N := by
  simp only [R.sat_eq, RS.sat_eq, RF.sat_eq, Osat_eq] at *
  first | exact o_vxTz_D ‹_› | exact o_vxTz_D ‹_› ‹_› | exact o_vxTz_D ‹_› ‹_› ‹_› | (apply o_vxTz_D <;> assumption)
theorem o_idE {α : Type} {p q : PV} {l : List α} {φ : α → PV} {s : Nat} {N : PV → Prop} (d : α) (ep : p = .tup (l.map φ)) (eq : q = .int (s : Int)) (h : s < l.length) (k : N (φ (l.getD s d))) : Osat (idxP p q) N := by
  simp only [R.sat_eq, RS.sat_eq, RF.sat_eq, Osat_eq] at *
  first | exact o_idE_D ‹_› | exact o_idE_D ‹_› ‹_› | exact o_idE_D ‹_› ‹_› ‹_› | (apply o_idE_D <;> assumption)
theorem o_vxE {α : Type} {p q : PV} {l : List α} {φ : α → PV} {s : Nat} {N : PV → Prop} (d : α) (ep : p = .tup (l.map φ) ∨ p = .lst (l.map φ)) (eq : q = .int (s : Int)) (h : s < l.length) (k : N (φ (l.getD s d))) : Osat (idxV p q) N := by
  simp only [R.sat_eq, RS.sat_eq, RF.sat_eq, Osat_eq] at *
  first | exact o_vxE_D ‹_› | exact o_vxE_D ‹_› ‹_› | exact o_vxE_D ‹_› ‹_› ‹_› | (apply o_vxE_D <;> assumption)
theorem o_ixAny {l : List PV} {p q : PV} {r : Int} {N : PV → Prop} (ep : p = .lst l ∨ p = .tup l) (eq : q = .int r) (h0 : 0 ≤ r) (h : r < l.length) (k : ∀ x, x ∈ l → N x) : Osat (idxP p q) N := by
  simp only [R.sat_eq, RS.sat_eq, RF.sat_eq, Osat_eq] at *
  first | exact o_ixAny_D ‹_› | exact o_ixAny_D ‹_› ‹_› | exact o_ixAny_D ‹_› ‹_› ‹_› | (apply o_ixAny_D <;> assumption)
theorem o_sumT {l : List Int} {p : PV} {N : PV → Prop} (ep : p = .tup (l.map .int)) (k : N (.int l.sum)) : Osat (F1 sumP [p]) N := by
  simp only [R.sat_eq, RS.sat_eq, RF.sat_eq, Osat_eq] at *
  first | exact o_sumT_D ‹_› | exact o_sumT_D ‹_› ‹_› | exact o_sumT_D ‹_› ‹_› ‹_› | (apply o_sumT_D <;> assumption)
theorem o_sumL {l : List Int} {p : PV} {N : PV → Prop} (ep : p = .lst (l.map .int)) (k : N (.int l.sum)) : Osat (F1 sumP [p]) N := by
  simp only [R.sat_eq, RS.sat_eq, RF.sat_eq, Osat_eq] at *
  first | exact o_sumL_D ‹_› | exact o_sumL_D ‹_› ‹_› | exact o_sumL_D ‹_› ‹_› ‹_› | (apply o_sumL_D <;> assumption)
theorem o_fdivW {a b : Int} {N : PV → Prop} (h : 0 < b) (h2 : b.natAbs < 2 ^ 8999) (k : N (.int (a / b))) : Osat (fdivP (.int a) (.int b)) N := by
  simp only [R.sat_eq, RS.sat_eq, RF.sat_eq, Osat_eq] at *
  first | exact o_fdivW_D ‹_› | exact o_fdivW_D ‹_› ‹_› | exact o_fdivW_D ‹_› ‹_› ‹_› | (apply o_fdivW_D <;> assumption)
section
variable {κ : Type} [DecidableEq κ] {P : PV → Env → Prop} {E : XV → Env → Prop} {env : Env} {f g h : Env → R PV} {i : Nat} {p : PV} {D : SD}
theorem w_dnew (k : P p env) : (dNew p env).sat P E := by
  simp only [R.sat_eq, RS.sat_eq, RF.sat_eq, Osat_eq] at *
  first | exact w_dnew_D ‹_› | exact w_dnew_D ‹_› ‹_› | exact w_dnew_D ‹_› ‹_› ‹_› | (apply w_dnew_D <;> assumption)
theorem w_lstR (k : (f env).sat (fun p e => Osat (lstRP (frzP p)) fun z => P z e) E) : (dLstR f env).sat P E := by
  simp only [R.sat_eq, RS.sat_eq, RF.sat_eq, Osat_eq] at *
  first | exact w_lstR_D ‹_› | exact w_lstR_D ‹_› ‹_› | exact w_lstR_D ‹_› ‹_› ‹_› | (apply w_lstR_D <;> assumption)
theorem u_dget2 {K : DK κ} (k : Osat (dkAt K env i) fun _ => (g env).sat (fun q e1 => (h e1).sat (fun z e2 => Osat (get2P K (dkAt K e2 i) (frzP q) (frzP z)) fun y => P y e2) E) E) : (dGet2 K i g h env).sat P E := by
  simp only [R.sat_eq, RS.sat_eq, RF.sat_eq, Osat_eq] at *
  first | exact u_dget2_D ‹_› | exact u_dget2_D ‹_› ‹_› | exact u_dget2_D ‹_› ‹_› ‹_› | (apply u_dget2_D <;> assumption)
theorem u_dgetn {K : DK κ} (k : Osat (dkAt K env i) fun _ => (g env).sat (fun q e1 => Osat (getNP K (dkAt K e1 i) (frzP q)) fun y => P y e1) E) : (dGetN K i g env).sat P E := by
  simp only [R.sat_eq, RS.sat_eq, RF.sat_eq, Osat_eq] at *
  first | exact u_dgetn_D ‹_› | exact u_dgetn_D ‹_› ‹_› | exact u_dgetn_D ‹_› ‹_› ‹_› | (apply u_dgetn_D <;> assumption)
theorem u_putD {K : DK κ} (k : (f env).sat (fun p e1 => Osat (dkAt K e1 i) fun _ => (g e1).sat (fun q e2 => Osat (putDP K (dkAt K e2 i) (frzP q) (frzP p)) fun z => D.nx (e2.set i (some z))) D.ex) D.ex) : (sPutD K i g f env).sat D := by
  simp only [R.sat_eq, RS.sat_eq, RF.sat_eq, Osat_eq] at *
  first | exact u_putD_D ‹_› | exact u_putD_D ‹_› ‹_› | exact u_putD_D ‹_› ‹_› ‹_› | (apply u_putD_D <;> assumption)
end
section
variable {P : PV → Env → Prop} {E : XV → Env → Prop} {env : Env} {f g h g1 g2 g3 : Env → R PV} {i : Nat} {p : PV} {D : SD} {fs gs : Env → R (List PV)} {π : Env → R (List Nat)} {PN : List Nat → Env → Prop} {PA : List AI → Env → Prop}
theorem w_uw (k : (f env).sat (fun p e => isOwn p = false ∧ P p e) E) : (dUW f env).sat P E := by
  simp only [R.sat_eq, RS.sat_eq, RF.sat_eq, Osat_eq] at *
  first | exact w_uw_D ‹_› | exact w_uw_D ‹_› ‹_› | exact w_uw_D ‹_› ‹_› ‹_› | (apply w_uw_D <;> assumption)
theorem w_ixw (k : (f env).sat (fun p e1 => (g e1).sat (fun q e2 => Osat (idxW p (frzP q)) fun z => P z e2) E) E) : (dIdxW f g env).sat P E := by
  simp only [R.sat_eq, RS.sat_eq, RF.sat_eq, Osat_eq] at *
  first | exact w_ixw_D ‹_› | exact w_ixw_D ‹_› ‹_› | exact w_ixw_D ‹_› ‹_› ‹_› | (apply w_ixw_D <;> assumption)
theorem w_w (k : Osat (slotP env i) fun p => P p env) : (dW i env).sat P E := by
  simp only [R.sat_eq, RS.sat_eq, RF.sat_eq, Osat_eq] at *
  first | exact w_w_D ‹_› | exact w_w_D ‹_› ‹_› | exact w_w_D ‹_› ‹_› ‹_› | (apply w_w_D <;> assumption)
theorem w_revT (k : (f env).sat (fun p e => Osat (revT (frzP p)) fun z => P z e) E) : (dRevT f env).sat P E := by
  simp only [R.sat_eq, RS.sat_eq, RF.sat_eq, Osat_eq] at *
  first | exact w_revT_D ‹_› | exact w_revT_D ‹_› ‹_› | exact w_revT_D ‹_› ‹_› ‹_› | (apply w_revT_D <;> assumption)
theorem w_akw {n1 n2 : Nat} {ρ : List Nat} (k : (fs env).sat (fun ps e1 => (gs e1).sat (fun qs e2 => ps.length = n1 ∧ qs.length = n2 ∧ (∀ i, i ∈ ρ → i < n1 + n2) ∧ ∃ l, ρ.filterMap ((ps ++ qs)[·]?) = l ∧ PA (l.map .inl) e2) E) E) : (aKw n1 n2 ρ fs gs env).sat PA E := by
  simp only [R.sat_eq, RS.sat_eq, RF.sat_eq, Osat_eq] at *
  first | exact w_akw_D ‹_› | exact w_akw_D ‹_› ‹_› | exact w_akw_D ‹_› ‹_› ‹_› | (apply w_akw_D <;> assumption)
theorem p_n (k : Osat (slotP env i) fun _ => PN [] env) : (pN i env).sat PN E := by
  simp only [R.sat_eq, RS.sat_eq, RF.sat_eq, Osat_eq] at *
  first | exact p_n_D ‹_› | exact p_n_D ‹_› ‹_› | exact p_n_D ‹_› ‹_› ‹_› | (apply p_n_D <;> assumption)
theorem p_ix (k : (π env).sat (fun ks e1 => (g e1).sat (fun q e2 => ∃ z p0 l j, frzP q = .int z ∧ slotP e2 i = some p0 ∧ pget p0 ks = some (.mls l) ∧ ixN l.length z = some j ∧ PN (ks ++ [j]) e2) E) E) : (pIx i π g env).sat PN E := by
  simp only [R.sat_eq, RS.sat_eq, RF.sat_eq, Osat_eq] at *
  first | exact p_ix_D ‹_› | exact p_ix_D ‹_› ‹_› | exact p_ix_D ‹_› ‹_› ‹_› | (apply p_ix_D <;> assumption)
theorem p_put (k : (f env).sat (fun p e1 => (π e1).sat (fun ks e2 => (g e2).sat (fun q e3 => ∃ z p0 l j, frzP q = .int z ∧ slotP e3 i = some p0 ∧ pget p0 ks = some (.mls l) ∧ ixN l.length z = some j ∧ D.nx (e3.set i (some (pset p0 ks (.mls (l.set j p)))))) D.ex) D.ex) D.ex) : (sPutP i π g f env).sat D := by
  simp only [R.sat_eq, RS.sat_eq, RF.sat_eq, Osat_eq] at *
  first | exact p_put_D ‹_› | exact p_put_D ‹_› ‹_› | exact p_put_D ‹_› ‹_› ‹_› | (apply p_put_D <;> assumption)
theorem u_ix2 {t : List (List Int)} (hs : slotP env i = some (T2 t)) (k : (g1 env).sat (fun q e1 => Osat (asInt (frzP q)) fun a => e1 = env ∧ 0 ≤ a ∧ a < t.length ∧ (g2 e1).sat (fun q e2 => Osat (asInt (frzP q)) fun b => 0 ≤ b ∧ b < (t.getD a.toNat []).length ∧ P (.int (get2 t a b)) e2) E) E) : (dUW (dIdxW (dIdxW (dW i) g1) g2) env).sat P E := by
  simp only [R.sat_eq, RS.sat_eq, RF.sat_eq, Osat_eq] at *
  first | exact u_ix2_D ‹_› | exact u_ix2_D ‹_› ‹_› | exact u_ix2_D ‹_› ‹_› ‹_› | (apply u_ix2_D <;> assumption)
theorem u_ix3 {t : List (List (List Int))} (hs : slotP env i = some (T3 t)) (k : (g1 env).sat (fun q e1 => Osat (asInt (frzP q)) fun a => e1 = env ∧ 0 ≤ a ∧ a < t.length ∧ (g2 e1).sat (fun q e2 => Osat (asInt (frzP q)) fun b => e2 = env ∧ 0 ≤ b ∧ b < (t.getD a.toNat []).length ∧ (g3 e2).sat (fun q e3 => Osat (asInt (frzP q)) fun c => 0 ≤ c ∧ c < ((t.getD a.toNat []).getD b.toNat []).length ∧ P (.int (get3 t a b c)) e3) E) E) E) : (dUW (dIdxW (dIdxW (dIdxW (dW i) g1) g2) g3) env).sat P E := by
  simp only [R.sat_eq, RS.sat_eq, RF.sat_eq, Osat_eq] at *
  first | exact u_ix3_D ‹_› | exact u_ix3_D ‹_› ‹_› | exact u_ix3_D ‹_› ‹_› ‹_› | (apply u_ix3_D <;> assumption)
theorem u_put2 {t : List (List Int)} (k : (f env).sat (fun p e0 => Osat (asInt p) fun v => slotP e0 i = some (T2 t) ∧ (g1 e0).sat (fun q e1 => Osat (asInt (frzP q)) fun a => e1 = e0 ∧ 0 ≤ a ∧ a < t.length ∧ (g2 e1).sat (fun q e2 => Osat (asInt (frzP q)) fun b => e2 = e0 ∧ 0 ≤ b ∧ b < (t.getD a.toNat []).length ∧ D.nx (e2.set i (some (T2 (set2 t a b v))))) D.ex) D.ex) D.ex) : (sPutP i (pIx i (pN i) g1) g2 f env).sat D := by
  simp only [R.sat_eq, RS.sat_eq, RF.sat_eq, Osat_eq] at *
  first | exact u_put2_D ‹_› | exact u_put2_D ‹_› ‹_› | exact u_put2_D ‹_› ‹_› ‹_› | (apply u_put2_D <;> assumption)
theorem u_put3 {t : List (List (List Int))} (k : (f env).sat (fun p e0 => Osat (asInt p) fun v => slotP e0 i = some (T3 t) ∧ (g1 e0).sat (fun q e1 => Osat (asInt (frzP q)) fun a => e1 = e0 ∧ 0 ≤ a ∧ a < t.length ∧ (g2 e1).sat (fun q e2 => Osat (asInt (frzP q)) fun b => e2 = e0 ∧ 0 ≤ b ∧ b < (t.getD a.toNat []).length ∧ (g3 e2).sat (fun q e3 => Osat (asInt (frzP q)) fun c => e3 = e0 ∧ 0 ≤ c ∧ c < ((t.getD a.toNat []).getD b.toNat []).length ∧ D.nx (e3.set i (some (T3 (set3 t a b c v))))) D.ex) D.ex) D.ex) D.ex) : (sPutP i (pIx i (pIx i (pN i) g1) g2) g3 f env).sat D := by
  simp only [R.sat_eq, RS.sat_eq, RF.sat_eq, Osat_eq] at *
  first | exact u_put3_D ‹_› | exact u_put3_D ‹_› ‹_› | exact u_put3_D ‹_› ‹_› ‹_› | (apply u_put3_D <;> assumption)
end
theorem w_bk {env : Env} {D : SD} (k : D.bk env) : (RS.bk env).sat D := by
  simp only [R.sat_eq, RS.sat_eq, RF.sat_eq, Osat_eq] at *
  first | exact w_bk_D ‹_› | exact w_bk_D ‹_› ‹_› | exact w_bk_D ‹_› ‹_› ‹_› | (apply w_bk_D <;> assumption)
theorem w_ct {env : Env} {D : SD} (k : D.ct env) : (RS.ct env).sat D := by
  simp only [R.sat_eq, RS.sat_eq, RF.sat_eq, Osat_eq] at *
  first | exact w_ct_D ‹_› | exact w_ct_D ‹_› ‹_› | exact w_ct_D ‹_› ‹_› ‹_› | (apply w_ct_D <;> assumption)
theorem u_par {env : Env} {fs : Env → R (List PV)} {i j : Nat} {D : SD} (k : (fs env).sat (fun ps e => Osat (pairQ ps) fun q => Osat (setQ i q.1 e) fun e1 => Osat (setQ j q.2 e1) D.nx) D.ex) : (sPar i j fs env).sat D := by
  simp only [R.sat_eq, RS.sat_eq, RF.sat_eq, Osat_eq] at *
  first | exact u_par_D ‹_› | exact u_par_D ‹_› ‹_› | exact u_par_D ‹_› ‹_› ‹_› | (apply u_par_D <;> assumption)
theorem o_mulW {a b : Int} {N : PV → Prop} (h1 : a.natAbs < 2 ^ 8999) (h2 : b.natAbs < 2 ^ 8999) (k : N (.int (a * b))) : Osat (repP (.int a) (.int b)) N := by
  simp only [R.sat_eq, RS.sat_eq, RF.sat_eq, Osat_eq] at *
  first | exact o_mulW_D ‹_› | exact o_mulW_D ‹_› ‹_› | exact o_mulW_D ‹_› ‹_› ‹_› | (apply o_mulW_D <;> assumption)
theorem o_revT {α : Type} {φ : α → PV} {p : PV} {l : List α} {N : PV → Prop} (e : p = .tup (l.map φ)) (k : N (.tup (l.reverse.map φ))) : Osat (revT p) N := by
  simp only [R.sat_eq, RS.sat_eq, RF.sat_eq, Osat_eq] at *
  first | exact o_revT_D ‹_› | exact o_revT_D ‹_› ‹_› | exact o_revT_D ‹_› ‹_› ‹_› | (apply o_revT_D <;> assumption)
end L3

set_option maxHeartbeats 4000000
namespace G
open PySem PySem.Spec PyProof.Rows L2 L3
def top (i : Nat) : Stmt := PySem.Challenge.pw_everyprior_k15_chances_of_rows.main.body.getD i (.Pass ⟨0, 0, 0, 0⟩)
theorem bt_bool : bootBuiltins ("bool" : Str) = some (.type "bool") := by decide +kernel
theorem bt_int : bootBuiltins ("int" : Str) = some (.type "int") := by decide +kernel
theorem bt_isinstance : bootBuiltins ("isinstance" : Str) = some (.builtin "isinstance") := by decide +kernel
theorem bt_len : bootBuiltins ("len" : Str) = some (.builtin "len") := by decide +kernel
theorem bt_max : bootBuiltins ("max" : Str) = some (.builtin "max") := by decide +kernel
theorem bt_sum : bootBuiltins ("sum" : Str) = some (.builtin "sum") := by decide +kernel
theorem bt_tuple : bootBuiltins ("tuple" : Str) = some (.type "tuple") := by decide +kernel
abbrev s_lowest : Stmt := top 2
def N_lowest : List Str := [("above" : Str), ("below" : Str), ("common" : Str)]
theorem sc_lowest : FnScope N_lowest [("above" : Str), ("below" : Str)] (defScope s_lowest) := ⟨rfl, rfl, rfl, by decide +kernel, rfl, by decide +kernel, by decide +kernel⟩
def b_lowest : L3.Env → RS := (sSeq (sSet 2 (dN gcdP (dCons (dV 0) (dCons (dV 1) dNil))))
  (sRet (dTup (dCons (d2 fdivP (dV 0) (dV 2)) (dCons (d2 fdivP (dV 1) (dV 2)) dNil)))))
def d_lowest : List PV → RF := runF 3 [] b_lowest
abbrev s_power : Stmt := top 3
def N_power : List Str := [("number" : Str), ("many" : Str), ("told" : Str), ("lap" : Str)]
theorem sc_power : FnScope N_power [("number" : Str), ("many" : Str)] (defScope s_power) := ⟨rfl, rfl, rfl, by decide +kernel, rfl, by decide +kernel, by decide +kernel⟩
def b_power : L3.Env → RS := (sSeq (sSet 2 (dC (.int 1)))
  (sSeq (sFor (iR (dCons (dV 1) dNil)) (tgN 3) (sSet 2 (d2 repP (dV 2) (dV 0))))
  (sRet (dV 2))))
def d_power : List PV → RF := runF 4 [] b_power
abbrev s_start_weights : Stmt := top 5
def N_start_weights : List Str := [("keeper" : Str), ("prior" : Str), ("weights" : Str), ("report" : Str), ("case" : Str)]
theorem sc_start_weights : FnScope N_start_weights [("keeper" : Str), ("prior" : Str)] (defScope s_start_weights) := ⟨rfl, rfl, rfl, by decide +kernel, rfl, by decide +kernel, by decide +kernel⟩
def b_start_weights : L3.Env → RS := (sSeq (sSet 2 (dLc [3] (iV (dIdxV 0 (dC (.int 4)))) (tgN 3) tYesD (dC (.int 0))))
  (sSeq (sFor (iR (dCons (dN (F1 lenP) (dCons (dIdxV 0 (dC (.int 2))) dNil)) dNil)) (tgN 4) (sAugIx addI 2 (d2 idxP (dIdxV 0 (dC (.int 2))) (dV 4)) (dIdxV 1 (dV 4))))
  (sRet (dN1V tupP 2))))
def d_start_weights : List PV → RF := runF 5 [] b_start_weights
abbrev s_next_weights : Stmt := top 6
def N_next_weights : List Str := [("keeper" : Str), ("weights" : Str), ("reading" : Str), ("states" : Str), ("table" : Str), ("other" : Str), ("one" : Str)]
theorem sc_next_weights : FnScope N_next_weights [("keeper" : Str), ("weights" : Str), ("reading" : Str)] (defScope s_next_weights) := ⟨rfl, rfl, rfl, by decide +kernel, rfl, by decide +kernel, by decide +kernel⟩
def b_next_weights : L3.Env → RS := (sSeq (sSet 3 (dN1V lenP 1))
  (sSeq (sSet 4 (d2 idxP (dIdxV 0 (dC (.int 3))) (dV 2)))
  (sRet (dN (F1 tupP) (dCons (dLc [5] (iR (dCons (dV 3) dNil)) (tgN 5) tYesD (dN (F1 sumP) (dCons (dLc [6] (iR (dCons (dV 3) dNil)) (tgN 6) tYesD (d2 repP (dIdxV 1 (dV 6)) (d2 idxP (dIdxV 4 (dV 6)) (dV 5)))) dNil))) dNil)))))
def d_next_weights : List PV → RF := runF 7 [] b_next_weights
abbrev s_weights_behind : Stmt := top 7
def N_weights_behind : List Str := [("keeper" : Str), ("prior" : Str), ("row" : Str), ("weights" : Str), ("reading" : Str)]
theorem sc_weights_behind : FnScope N_weights_behind [("keeper" : Str), ("prior" : Str), ("row" : Str)] (defScope s_weights_behind) := ⟨rfl, rfl, rfl, by decide +kernel, rfl, by decide +kernel, by decide +kernel⟩
def b_weights_behind : L3.Env → RS := (sSeq (sSet 3 (callD [] d_start_weights (aCons (dV 0) (aCons (dV 1) aNil))))
  (sSeq (sFor (iV (dV 2)) (tgN 4) (sSet 3 (callD [] d_next_weights (aCons (dV 0) (aCons (dV 3) (aCons (dV 4) aNil))))))
  (sRet (dV 3))))
def d_weights_behind : List PV → RF := runF 5 [] b_weights_behind
abbrev s_row_chance : Stmt := top 8
def N_row_chance : List Str := [("keeper" : Str), ("prior" : Str), ("row" : Str)]
theorem sc_row_chance : FnScope N_row_chance [("keeper" : Str), ("prior" : Str), ("row" : Str)] (defScope s_row_chance) := ⟨rfl, rfl, rfl, by decide +kernel, rfl, by decide +kernel, by decide +kernel⟩
def b_row_chance : L3.Env → RS := (sRet (callD [] d_lowest (aCons (dN (F1 sumP) (dCons (callD [] d_weights_behind (aCons (dV 0) (aCons (dV 1) (aCons (dV 2) aNil)))) dNil)) (aCons (d2 repP (dN1V sumP 1) (callD [] d_power (aCons (dIdxV 0 (dC (.int 0))) (aCons (dN1V lenP 2) aNil)))) aNil))))
def d_row_chance : List PV → RF := runF 3 [] b_row_chance
abbrev s_next_chances : Stmt := top 9
def N_next_chances : List Str := [("keeper" : Str), ("prior" : Str), ("row" : Str), ("weights" : Str), ("total" : Str), ("told" : Str), ("reading" : Str), ("weight" : Str)]
theorem sc_next_chances : FnScope N_next_chances [("keeper" : Str), ("prior" : Str), ("row" : Str)] (defScope s_next_chances) := ⟨rfl, rfl, rfl, by decide +kernel, rfl, by decide +kernel, by decide +kernel⟩
def b_next_chances : L3.Env → RS := (sSeq (sSet 3 (callD [] d_weights_behind (aCons (dV 0) (aCons (dV 1) (aCons (dV 2) aNil)))))
  (sSeq (sSet 4 (d2 repP (dN1V sumP 3) (dIdxV 0 (dC (.int 0)))))
  (sSeq (sIf (t2 (fun p q => blO (eqP p q)) (dV 4) (dC (.int 0))) (sRet (dC .non)) sNx)
  (sSeq (sSet 5 (dFrz (dLc [6] (iR (dCons (dN (F1 lenP) (dCons (dIdxV 0 (dC (.int 3))) dNil)) dNil)) (tgN 6) tYesD (dN (F1 sumP) (dCons (callD [] d_next_weights (aCons (dV 0) (aCons (dV 3) (aCons (dV 6) aNil)))) dNil)))))
  (sRet (dN (F1 tupP) (dCons (dLc [7] (iV (dV 5)) (tgN 7) tYesD (callD [] d_lowest (aCons (dV 7) (aCons (dV 4) aNil)))) dNil)))))))
def d_next_chances : List PV → RF := runF 8 [] b_next_chances
abbrev s_law_jug : Stmt := top 11
def N_law_jug : List Str := [("script" : Str), ("cells" : Str), ("cell" : Str), ("state" : Str)]
theorem sc_law_jug : FnScope N_law_jug [("script" : Str)] (defScope s_law_jug) := ⟨rfl, rfl, rfl, by decide +kernel, rfl, by decide +kernel, by decide +kernel⟩
def b_law_jug : L3.Env → RS := (sSeq (sSet 1 (dFrz (d2 addP (dLc [2] (iV (dV 0)) (tgN 2) tYesD (d2 modP (dN1V intP 2) (dC (.int 30011)))) (dLst (dConsO (dC (.int 2)) dNil)))))
  (sSeq (sSet 3 (dC (.int 21)))
  (sSeq (sFor (iV (dV 1)) (tgN 2) (sSet 3 (d2 modP (dN (F1 intP) (dCons (d2 addP (d2 addP (d2 repP (dV 3) (dC (.int 701))) (d2 repP (dV 2) (dC (.int 13)))) (dC (.int 1))) dNil)) (dC (.int 30011)))))
  (sRet (dLst (dConsO (dV 3) (dConsO (dC (.int 0)) (dConsO (dV 1) dNil))))))))
def d_law_jug : List PV → RF := runF 4 [] b_law_jug
abbrev s_law_pour : Stmt := top 12
def N_law_pour : List Str := [("jug" : Str), ("many" : Str), ("cell" : Str)]
theorem sc_law_pour : FnScope N_law_pour [("jug" : Str), ("many" : Str)] (defScope s_law_pour) := ⟨rfl, rfl, rfl, by decide +kernel, rfl, by decide +kernel, by decide +kernel⟩
def b_law_pour : L3.Env → RS := (sSeq (sPut 0 (dC (.int 1)) (d2 addP (dIdxV 0 (dC (.int 1))) (dC (.int 1))))
  (sSeq (sSet 2 (d2 idxP (dIdxV 0 (dC (.int 2))) (d2 modP (dN (F1 intP) (dCons (dIdxV 0 (dC (.int 1))) dNil)) (dN (F1 lenP) (dCons (dIdxV 0 (dC (.int 2))) dNil)))))
  (sSeq (sPut 0 (dC (.int 0)) (d2 modP (dN (F1 intP) (dCons (d2 addP (d2 addP (d2 addP (d2 repP (dIdxV 0 (dC (.int 0))) (dC (.int 1019))) (d2 repP (dV 2) (dC (.int 37)))) (d2 repP (dIdxV 0 (dC (.int 1))) (dC (.int 11)))) (dC (.int 6))) dNil)) (dC (.int 30011))))
  (sRet (d2 modP (dN (F1 intP) (dCons (d2 fdivP (dIdxV 0 (dC (.int 0))) (dC (.int 5))) dNil)) (dN maxP (dCons (dC (.int 1)) (dCons (dV 1) dNil))))))))
def d_law_pour : List PV → RF := runF 3 [0] b_law_pour
abbrev s_law_tilt : Stmt := top 13
def N_law_tilt : List Str := [("jug" : Str), ("place" : Str), ("many" : Str), ("way" : Str)]
theorem sc_law_tilt : FnScope N_law_tilt [("jug" : Str), ("place" : Str), ("many" : Str)] (defScope s_law_tilt) := ⟨rfl, rfl, rfl, by decide +kernel, rfl, by decide +kernel, by decide +kernel⟩
def b_law_tilt : L3.Env → RS := (sSeq (sSet 3 (d2 modP (dN (F1 intP) (dCons (d2 addP (d2 addP (d2 fdivP (d2 idxP (dIdxV 0 (dC (.int 2))) (dC (.int 0))) (d2 addP (dV 1) (dC (.int 2)))) (d2 idxP (dIdxV 0 (dC (.int 2))) (dN (F1 intP) (dCons (d2 fdivP (dN (F1 lenP) (dCons (dIdxV 0 (dC (.int 2))) dNil)) (dC (.int 3))) dNil)))) (d2 repP (dV 1) (dC (.int 3)))) dNil)) (dC (.int 7))))
  (sRet (dIf (t2 (fun p q => blO (ltT p q)) (dV 3) (dC (.int 2))) (d2 idxP (dTup (dCons (dC (.int 0)) (dCons (d2 subP (dN maxP (dCons (dC (.int 1)) (dCons (dV 2) dNil))) (dC (.int 1))) dNil))) (dV 3)) (callD [0] d_law_pour (aIo 0 (aCons (dV 2) aNil))))))
def d_law_tilt : List PV → RF := runF 4 [0] b_law_tilt
abbrev s_law_made : Stmt := top 14
def N_law_made : List Str := [("jug" : Str), ("many" : Str), ("readings" : Str), ("d" : Str), ("tables" : Str), ("reading" : Str), ("state" : Str), ("to" : Str), ("left" : Str), ("portion" : Str), ("some" : Str), ("moves" : Str), ("table" : Str), ("row" : Str), ("starts" : Str), ("case" : Str)]
theorem sc_law_made : FnScope N_law_made [("jug" : Str)] (defScope s_law_made) := ⟨rfl, rfl, rfl, by decide +kernel, rfl, by decide +kernel, by decide +kernel⟩
def b_law_made : L3.Env → RS := (sSeq (sSet 1 (dIf (t2 (fun p q => blO (gtP p q)) (callD [0] d_law_pour (aIo 0 (aCons (dC (.int 7)) aNil))) (dC (.int 0))) (d2 idxP (dTup (dCons (dC (.int 2)) (dCons (dC (.int 1)) (dCons (dC (.int 3)) (dCons (dC (.int 4)) (dCons (dC (.int 6)) (dCons (dC (.int 5)) dNil))))))) (callD [0] d_law_tilt (aIo 0 (aCons (dC (.int 1)) (aCons (dC (.int 6)) aNil))))) (dC (.int 8))))
  (sSeq (sSet 2 (d2 addP (dC (.int 1)) (callD [0] d_law_tilt (aIo 0 (aCons (dC (.int 2)) (aCons (dC (.int 4)) aNil))))))
  (sSeq (sSet 3 (d2 idxP (dTup (dCons (dC (.int 2)) (dCons (dC (.int 1)) (dCons (dC (.int 10)) (dCons (dC (.int 3)) (dCons (dC (.int 5)) (dCons (dC (.int 8)) (dCons (dC (.int 999999)) dNil)))))))) (callD [0] d_law_tilt (aIo 0 (aCons (dC (.int 3)) (aCons (dC (.int 7)) aNil))))))
  (sSeq (sSet 4 (dLc [5] (iR (dCons (dV 2) dNil)) (tgN 5) tYesD (dLc [6] (iR (dCons (dV 1) dNil)) (tgN 6) tYesD (dLc [7] (iR (dCons (dV 1) dNil)) (tgN 7) tYesD (dC (.int 0))))))
  (sSeq (sFor (iR (dCons (dV 1) dNil)) (tgN 6) (sSeq (sSet 8 (dV 3))
  (sSeq (sFor (iR (dCons (d2 addP (dC (.int 1)) (callD [0] d_law_tilt (aIo 0 (aCons (dC (.int 4)) (aCons (dC (.int 5)) aNil))))) dNil)) (tgN 9) (sSeq (sSet 10 (callD [0] d_law_pour (aIo 0 (aCons (d2 addP (dV 8) (dC (.int 1))) aNil))))
  (sSeq (sPar 5 7 (dCons (callD [0] d_law_pour (aIo 0 (aCons (dV 2) aNil))) (dCons (callD [0] d_law_pour (aIo 0 (aCons (dV 1) aNil))) dNil)))
  (sSeq (sPutP 4 (pIx 4 (pIx 4 (pN 4) (dV 5)) (dV 6)) (dV 7) (d2 addP (dUW (dIdxW (dIdxW (dIdxW (dW 4) (dV 5)) (dV 6)) (dV 7))) (dV 10)))
  (sSet 8 (d2 subP (dV 8) (dV 10)))))))
  (sSeq (sPar 5 7 (dCons (callD [0] d_law_pour (aIo 0 (aCons (dV 2) aNil))) (dCons (callD [0] d_law_pour (aIo 0 (aCons (dV 1) aNil))) dNil)))
  (sPutP 4 (pIx 4 (pIx 4 (pN 4) (dV 5)) (dV 6)) (dV 7) (d2 addP (dUW (dIdxW (dIdxW (dIdxW (dW 4) (dV 5)) (dV 6)) (dV 7))) (dV 8)))))))
  (sSeq (sSet 11 (dN (F1 tupP) (dCons (dLc [12] (iV (dFz 4)) (tgN 12) tYesD (dN (F1 tupP) (dCons (dLc [13] (iV (dV 12)) (tgN 13) tYesD (dN1V tupP 13)) dNil))) dNil)))
  (sSeq (sSet 14 (dN (F1 tupP) (dCons (dLc [15] (iR (dCons (d2 addP (dC (.int 1)) (callD [0] d_law_tilt (aIo 0 (aCons (dC (.int 5)) (aCons (dC (.int 5)) aNil))))) dNil)) (tgN 15) tYesD (callD [0] d_law_pour (aIo 0 (aCons (dV 1) aNil)))) dNil)))
  (sRet (dTup (dCons (dV 3) (dCons (d2 addP (dC (.int 1)) (callD [0] d_law_pour (aIo 0 (aCons (dC (.int 2)) aNil)))) (dCons (dV 14) (dCons (dV 11) (dCons (dN (F1 tupP) (dCons (dLc [6] (iR (dCons (dV 1) dNil)) (tgN 6) tYesD (dC (.int 0))) dNil)) dNil))))))))))))))
def d_law_made : List PV → RF := runF 16 [0] b_law_made
abbrev s_law_before : Stmt := top 15
def N_law_before : List Str := [("jug" : Str), ("cases" : Str), ("told" : Str), ("case" : Str), ("lap" : Str), ("at" : Str)]
theorem sc_law_before : FnScope N_law_before [("jug" : Str), ("cases" : Str)] (defScope s_law_before) := ⟨rfl, rfl, rfl, by decide +kernel, rfl, by decide +kernel, by decide +kernel⟩
def b_law_before : L3.Env → RS := (sSeq (sSet 2 (dLc [3] (iR (dCons (dV 1) dNil)) (tgN 3) tYesD (dC (.int 0))))
  (sSeq (sFor (iR (dCons (d2 idxP (dTup (dCons (dC (.int 1)) (dCons (dC (.int 2)) (dCons (dC (.int 9)) dNil)))) (callD [0] d_law_tilt (aIo 0 (aCons (dC (.int 6)) (aCons (dC (.int 3)) aNil))))) dNil)) (tgN 4) (sSeq (sSet 5 (callD [0] d_law_pour (aIo 0 (aCons (dV 1) aNil))))
  (sPut 2 (dV 5) (d2 idxP (dTup (dCons (dC (.int 1)) (dCons (dC (.int 1000)) (dCons (dC (.int 3)) dNil)))) (callD [0] d_law_pour (aIo 0 (aCons (dC (.int 3)) aNil)))))))
  (sRet (dN1V tupP 2))))
def d_law_before : List PV → RF := runF 6 [0] b_law_before
abbrev s_law_worths : Stmt := top 16
def N_law_worths : List Str := [("keeper" : Str), ("row" : Str), ("worth" : Str), ("state" : Str), ("reading" : Str), ("table" : Str), ("line" : Str), ("to" : Str)]
theorem sc_law_worths : FnScope N_law_worths [("keeper" : Str), ("row" : Str)] (defScope s_law_worths) := ⟨rfl, rfl, rfl, by decide +kernel, rfl, by decide +kernel, by decide +kernel⟩
def b_law_worths : L3.Env → RS := (sSeq (sSet 2 (dFrz (dLc [3] (iV (dIdxV 0 (dC (.int 4)))) (tgN 3) tYesD (dC (.int 1)))))
  (sSeq (sFor (iV (dRevT (dV 1))) (tgN 4) (sSeq (sSet 5 (d2 idxP (dIdxV 0 (dC (.int 3))) (dV 4)))
  (sSet 2 (dFrz (dLc [6] (iV (dV 5)) (tgN 6) tYesD (dN (F1 sumP) (dCons (dLc [7] (iR (dCons (dN1V lenP 6) dNil)) (tgN 7) (t2 (fun p q => blO (gtP p q)) (dIdxV 6 (dV 7)) (dC (.int 0))) (d2 repP (dIdxV 6 (dV 7)) (dIdxV 2 (dV 7)))) dNil)))))))
  (sRet (dV 2))))
def d_law_worths : List PV → RF := runF 8 [] b_law_worths
abbrev s_law_above : Stmt := top 17
def N_law_above : List Str := [("keeper" : Str), ("prior" : Str), ("row" : Str), ("worth" : Str), ("case" : Str)]
theorem sc_law_above : FnScope N_law_above [("keeper" : Str), ("prior" : Str), ("row" : Str)] (defScope s_law_above) := ⟨rfl, rfl, rfl, by decide +kernel, rfl, by decide +kernel, by decide +kernel⟩
def b_law_above : L3.Env → RS := (sSeq (sSet 3 (callD [] d_law_worths (aCons (dV 0) (aCons (dV 2) aNil))))
  (sRet (dN (F1 sumP) (dCons (dLc [4] (iR (dCons (dN1V lenP 1) dNil)) (tgN 4) tYesD (d2 repP (dIdxV 1 (dV 4)) (dIdxV 3 (d2 idxP (dIdxV 0 (dC (.int 2))) (dV 4))))) dNil))))
def d_law_above : List PV → RF := runF 5 [] b_law_above
abbrev s_law_lowest : Stmt := top 18
def N_law_lowest : List Str := [("above" : Str), ("below" : Str), ("one" : Str), ("other" : Str), ("lap" : Str)]
theorem sc_law_lowest : FnScope N_law_lowest [("above" : Str), ("below" : Str)] (defScope s_law_lowest) := ⟨rfl, rfl, rfl, by decide +kernel, rfl, by decide +kernel, by decide +kernel⟩
def b_law_lowest : L3.Env → RS := (sSeq (sPar 2 3 (dCons (dV 0) (dCons (dV 1) dNil)))
  (sSeq (sFor (iR (dCons (dC (.int 200000)) dNil)) (tgN 4) (sSeq (sIf (t2 (fun p q => blO (eqP p q)) (dV 3) (dC (.int 0))) (fun env => .bk env) sNx)
  (sPar 2 3 (dCons (dV 3) (dCons (d2 modP (dN1V intP 2) (dV 3)) dNil)))))
  (sRet (dTup (dCons (d2 fdivP (dV 0) (dV 2)) (dCons (d2 fdivP (dV 1) (dV 2)) dNil))))))
def d_law_lowest : List PV → RF := runF 5 [] b_law_lowest
abbrev s_law_due : Stmt := top 19
def N_law_due : List Str := [("keeper" : Str), ("prior" : Str), ("row" : Str), ("above" : Str), ("below" : Str), ("reading" : Str), ("parts" : Str), ("part" : Str)]
theorem sc_law_due : FnScope N_law_due [("keeper" : Str), ("prior" : Str), ("row" : Str)] (defScope s_law_due) := ⟨rfl, rfl, rfl, by decide +kernel, rfl, by decide +kernel, by decide +kernel⟩
def b_law_due : L3.Env → RS := (sSeq (sSet 3 (callD [] d_law_above (aCons (dV 0) (aCons (dV 1) (aCons (dV 2) aNil)))))
  (sSeq (sSet 4 (dN1V sumP 1))
  (sSeq (sFor (iV (dV 2)) (tgN 5) (sSet 4 (d2 repP (dV 4) (dIdxV 0 (dC (.int 0))))))
  (sSeq (sIf (t2 (fun p q => blO (eqP p q)) (dV 3) (dC (.int 0))) (sRet (dTup (dCons (dTup (dCons (dC (.int 0)) (dCons (dC (.int 1)) dNil))) (dCons (dC .non) dNil)))) sNx)
  (sSeq (sSet 6 (dFrz (dLc [5] (iR (dCons (dN (F1 lenP) (dCons (dIdxV 0 (dC (.int 3))) dNil)) dNil)) (tgN 5) tYesD (callD [] d_law_above (aCons (dV 0) (aCons (dV 1) (aCons (d2 addP (dV 2) (dTup (dCons (dV 5) dNil))) aNil)))))))
  (sRet (dTup (dCons (callD [] d_law_lowest (aCons (dV 3) (aCons (dV 4) aNil))) (dCons (dN (F1 tupP) (dCons (dLc [7] (iV (dV 6)) (tgN 7) tYesD (callD [] d_law_lowest (aCons (dV 7) (aCons (d2 repP (dV 3) (dIdxV 0 (dC (.int 0)))) aNil)))) dNil)) dNil)))))))))
def d_law_due : List PV → RF := runF 8 [] b_law_due
abbrev s_law_fraction : Stmt := top 20
def N_law_fraction : List Str := [("told" : Str), ("due" : Str), ("number" : Str)]
theorem sc_law_fraction : FnScope N_law_fraction [("told" : Str), ("due" : Str)] (defScope s_law_fraction) := ⟨rfl, rfl, rfl, by decide +kernel, rfl, by decide +kernel, by decide +kernel⟩
def b_law_fraction : L3.Env → RS := (sRet (dAnd (dIsi "tuple" (dV 0)) (dAnd (d2 eqP (dN1V lenP 0) (dC (.int 2))) (dAnd (d2 eqP (dN (F1 lenP) (dCons (dLc [2] (iV (dV 0)) (tgN 2) (tOrD (tOf (dIsi "bool" (dV 2))) (tNotD (tOf (dIsi "int" (dV 2))))) (dC (.int 1))) dNil)) (dC (.int 0))) (d2 eqP (dV 0) (dV 1))))))
def d_law_fraction : List PV → RF := runF 3 [] b_law_fraction
abbrev s_law_asked : Stmt := top 21
def N_law_asked : List Str := [("keeper" : Str), ("prior" : Str), ("row" : Str), ("chance" : Str), ("parts" : Str), ("told" : Str), ("at" : Str)]
theorem sc_law_asked : FnScope N_law_asked [("keeper" : Str), ("prior" : Str), ("row" : Str)] (defScope s_law_asked) := ⟨rfl, rfl, rfl, by decide +kernel, rfl, by decide +kernel, by decide +kernel⟩
def b_law_asked : L3.Env → RS := (sSeq (sAsg (tgT (tgCons (tgN 3) (tgCons (tgN 4) tgNil))) (callD [] d_law_due (aCons (dV 0) (aCons (dV 1) (aCons (dV 2) aNil)))))
  (sSeq (sIf (tNotD (tOf (callD [] d_law_fraction (aCons (callD [] d_row_chance (aKw 0 3 [1, 2, 0] dNil (dCons (dV 2) (dCons (dV 0) (dCons (dV 1) dNil))))) (aCons (dV 3) aNil))))) (sRet (dNeg (dC (.int 1)))) sNx)
  (sSeq (sSet 5 (callD [] d_next_chances (aCons (dV 0) (aCons (dV 1) (aCons (dV 2) aNil)))))
  (sSeq (sIf (t2 (fun p q => blO (isP p q)) (dV 4) (dC .non)) (sRet (dIf (t2 (fun p q => blO (isP p q)) (dV 5) (dC .non)) (dC (.int 0)) (dNeg (dC (.int 1))))) sNx)
  (sSeq (sIf (tOrD (tNotD (tOf (dIsi "tuple" (dV 5)))) (tOrD (t2 (fun p q => blO (neP p q)) (dN1V lenP 5) (dN1V lenP 4)) (t2 (fun p q => blO (gtP p q)) (dN (F1 lenP) (dCons (dLc [6] (iR (dCons (dN1V lenP 4) dNil)) (tgN 6) (tNotD (tOf (callD [] d_law_fraction (aCons (dIdxV 5 (dV 6)) (aCons (dIdxV 4 (dV 6)) aNil))))) (dC (.int 1))) dNil)) (dC (.int 0))))) (sRet (dNeg (dC (.int 1)))) sNx)
  (sRet (dC (.int 1))))))))
def d_law_asked : List PV → RF := runF 7 [] b_law_asked
abbrev s_law_rows : Stmt := top 22
def N_law_rows : List Str := [("keeper" : Str), ("many" : Str), ("rows" : Str), ("lap" : Str), ("longer" : Str), ("row" : Str), ("reading" : Str)]
theorem sc_law_rows : FnScope N_law_rows [("keeper" : Str), ("many" : Str)] (defScope s_law_rows) := ⟨rfl, rfl, rfl, by decide +kernel, rfl, by decide +kernel, by decide +kernel⟩
def b_law_rows : L3.Env → RS := (sSeq (sSet 2 (dFrz (dLst (dConsO (dTup dNil) dNil))))
  (sSeq (sFor (iR (dCons (dV 1) dNil)) (tgN 3) (sSeq (sSet 4 (dFrz (dLst dNil)))
  (sSeq (sFor (iV (dV 2)) (tgN 5) (sSet 4 (dFrz (d2 addP (dV 4) (dLc [6] (iR (dCons (dN (F1 lenP) (dCons (dIdxV 0 (dC (.int 3))) dNil)) dNil)) (tgN 6) tYesD (d2 addP (dV 5) (dTup (dCons (dV 6) dNil))))))))
  (sSet 2 (dV 4)))))
  (sRet (dV 2))))
def d_law_rows : List PV → RF := runF 7 [] b_law_rows
abbrev s_law_whole : Stmt := top 23
def N_law_whole : List Str := [("keeper" : Str), ("prior" : Str), ("many" : Str), ("below" : Str), ("lap" : Str), ("above" : Str), ("row" : Str), ("told" : Str)]
theorem sc_law_whole : FnScope N_law_whole [("keeper" : Str), ("prior" : Str), ("many" : Str)] (defScope s_law_whole) := ⟨rfl, rfl, rfl, by decide +kernel, rfl, by decide +kernel, by decide +kernel⟩
def b_law_whole : L3.Env → RS := (sSeq (sSet 3 (dN1V sumP 1))
  (sSeq (sFor (iR (dCons (dV 2) dNil)) (tgN 4) (sSet 3 (d2 repP (dV 3) (dIdxV 0 (dC (.int 0))))))
  (sSeq (sSet 5 (dC (.int 0)))
  (sSeq (sFor (iV (callD [] d_law_rows (aCons (dV 0) (aCons (dV 2) aNil)))) (tgN 6) (sSeq (sSet 7 (callD [] d_row_chance (aCons (dV 0) (aCons (dV 1) (aCons (dV 6) aNil)))))
  (sSeq (sIf (tOrD (tNotD (tOf (dIsi "tuple" (dV 7)))) (tOrD (t2 (fun p q => blO (neP p q)) (dN1V lenP 7) (dC (.int 2))) (tNotD (tOf (callD [] d_law_fraction (aCons (dV 7) (aCons (d2 idxP (callD [] d_law_due (aCons (dV 0) (aCons (dV 1) (aCons (dV 6) aNil)))) (dC (.int 0))) aNil))))))) (sRet (dC (.bl false))) sNx)
  (sSet 5 (d2 addP (dV 5) (d2 repP (dIdxV 7 (dC (.int 0))) (d2 fdivP (dV 3) (dIdxV 7 (dC (.int 1))))))))))
  (sRet (d2 eqP (dV 5) (dV 3)))))))
def d_law_whole : List PV → RF := runF 8 [] b_law_whole
abbrev s_law_step : Stmt := top 24
def N_law_step : List Str := [("jug" : Str), ("keeper" : Str), ("prior" : Str), ("many" : Str), ("row" : Str), ("lot" : Str), ("case" : Str), ("lap" : Str), ("first" : Str), ("some" : Str), ("reading" : Str), ("turn" : Str), ("to" : Str), ("at" : Str), ("state" : Str)]
theorem sc_law_step : FnScope N_law_step [("jug" : Str), ("keeper" : Str), ("prior" : Str), ("many" : Str)] (defScope s_law_step) := ⟨rfl, rfl, rfl, by decide +kernel, rfl, by decide +kernel, by decide +kernel⟩
def b_law_step : L3.Env → RS := (sSeq (sSet 4 (dTup dNil))
  (sSeq (sSet 5 (dFrz (dLc [6] (iR (dCons (dN1V lenP 2) dNil)) (tgN 6) (t2 (fun p q => blO (gtP p q)) (dIdxV 2 (dV 6)) (dC (.int 0))) (d2 idxP (dIdxV 1 (dC (.int 2))) (dV 6)))))
  (sSeq (sFor (iR (dCons (dV 3) dNil)) (tgN 7) (sSeq (sSet 8 (callD [0] d_law_pour (aIo 0 (aCons (dN (F1 lenP) (dCons (dIdxV 1 (dC (.int 3))) dNil)) aNil))))
  (sSeq (sSet 9 (dFrz (dLc [11] (iR (dCons (dN (F1 lenP) (dCons (dIdxV 1 (dC (.int 3))) dNil)) dNil)) (tgN 11) tYesD (d2 modP (dN (F1 intP) (dCons (d2 addP (dV 8) (dV 11)) dNil)) (dN (F1 lenP) (dCons (dIdxV 1 (dC (.int 3))) dNil))))))
  (sSeq (sSet 10 (d2 idxP (dLc [13] (iV (dV 9)) (tgN 13) (t2 (fun p q => blO (gtP p q)) (dN (F1 lenP) (dCons (dLc [14] (iV (dV 5)) (tgN 14) (t2 (fun p q => blO (gtP p q)) (dN (F1 sumP) (dCons (d2 idxP (d2 idxP (dIdxV 1 (dC (.int 3))) (dV 13)) (dV 14)) dNil)) (dC (.int 0))) (dC (.int 1))) dNil)) (dC (.int 0))) (dV 13)) (dC (.int 0))))
  (sSeq (sSet 5 (dFrz (dLc [12] (iR (dCons (dN (F1 lenP) (dCons (dIdxV 1 (dC (.int 4))) dNil)) dNil)) (tgN 12) (t2 (fun p q => blO (gtP p q)) (dN (F1 lenP) (dCons (dLc [14] (iV (dV 5)) (tgN 14) (t2 (fun p q => blO (gtP p q)) (d2 idxP (d2 idxP (d2 idxP (dIdxV 1 (dC (.int 3))) (dV 10)) (dV 14)) (dV 12)) (dC (.int 0))) (dC (.int 1))) dNil)) (dC (.int 0))) (dV 12))))
  (sSet 4 (d2 addP (dV 4) (dTup (dCons (dV 10) dNil)))))))))
  (sRet (dV 4)))))
def d_law_step : List PV → RF := runF 15 [0] b_law_step
abbrev s_law : Stmt := top 25
def N_law : List Str := [("script" : Str), ("jug" : Str), ("met" : Str), ("lap" : Str), ("keeper" : Str), ("prior" : Str), ("row" : Str), ("drawn" : Str), ("at" : Str), ("many" : Str), ("some" : Str), ("hand" : Str), ("told" : Str), ("due" : Str)]
theorem sc_law : FnScope N_law [("script" : Str)] (defScope s_law) := ⟨rfl, rfl, rfl, by decide +kernel, rfl, by decide +kernel, by decide +kernel⟩
def b_law : L3.Env → RS := (sSeq (sSet 1 (callD [] d_law_jug (aCons (dV 0) aNil)))
  (sSeq (sSet 2 (dC (.int 0)))
  (sSeq (sFor (iR (dCons (dC (.int 3)) dNil)) (tgN 3) (sSeq (sSet 4 (callD [1] d_law_made (aIo 1 aNil)))
  (sSeq (sSet 5 (callD [1] d_law_before (aIo 1 (aCons (dN (F1 lenP) (dCons (dIdxV 4 (dC (.int 2))) dNil)) aNil))))
  (sSeq (sSet 6 (callD [1] d_law_step (aIo 1 (aCons (dV 4) (aCons (dV 5) (aCons (callD [1] d_law_tilt (aIo 1 (aCons (d2 addP (dC (.int 7)) (dV 3)) (aCons (dC (.int 7)) aNil)))) aNil))))))
  (sSeq (sSet 7 (dN (F1 tupP) (dCons (dLc [8] (iR (dCons (callD [1] d_law_pour (aIo 1 (aCons (dC (.int 6)) aNil))) dNil)) (tgN 8) tYesD (callD [1] d_law_pour (aIo 1 (aCons (dN (F1 lenP) (dCons (dIdxV 4 (dC (.int 3))) dNil)) aNil)))) dNil)))
  (sSeq (sIf (tOrD (t2 (fun p q => blO (neP p q)) (callD [] d_law_asked (aCons (dV 4) (aCons (dV 5) (aCons (dV 6) aNil)))) (dC (.int 1))) (t2 (fun p q => blO (neP p q)) (callD [] d_law_asked (aCons (dV 4) (aCons (dV 5) (aCons (dTup dNil) aNil)))) (dC (.int 1)))) (sRet (dC (.bl false))) sNx)
  (sSeq (sIf (tOrD (t2 (fun p q => blO (ltT p q)) (callD [] d_law_asked (aCons (dV 4) (aCons (dV 5) (aCons (dV 7) aNil)))) (dC (.int 0))) (t2 (fun p q => blO (ltT p q)) (callD [] d_law_asked (aCons (dV 4) (aCons (dV 5) (aCons (d2 addP (d2 addP (dSlV 6 bNo (bSo (dC (.int 2)))) (dSlV 7 bNo (bSo (dC (.int 3))))) (dSlV 6 (bSo (dC (.int 2))) (bSo (dC (.int 4))))) aNil)))) (dC (.int 0)))) (sRet (dC (.bl false))) sNx)
  (sSeq (sSet 2 (d2 addP (dV 2) (dC (.int 1))))
  (sIf (tAndD (t2 (fun p q => blO (eqP p q)) (dV 3) (dC (.int 0))) (tNotD (tOf (callD [] d_law_whole (aCons (dV 4) (aCons (dV 5) (aCons (d2 idxP (dTup (dCons (dC (.int 5)) (dCons (dC (.int 4)) (dCons (dC (.int 3)) (dCons (dC (.int 2)) dNil))))) (d2 subP (dN (F1 lenP) (dCons (dIdxV 4 (dC (.int 3))) dNil)) (dC (.int 1)))) aNil))))))) (sRet (dC (.bl false))) sNx)))))))))
  (sSeq (sSet 9 (dIf (t2 (fun p q => blO (eqP p q)) (callD [1] d_law_pour (aIo 1 (aCons (dC (.int 31)) aNil))) (dC (.int 4))) (dC (.int 300)) (dIf (t2 (fun p q => blO (eqP p q)) (callD [1] d_law_pour (aIo 1 (aCons (dC (.int 13)) aNil))) (dC (.int 7))) (dC (.int 45)) (dC (.int 10)))))
  (sSeq (sSet 4 (callD [1] d_law_made (aIo 1 aNil)))
  (sSeq (sSet 5 (callD [1] d_law_before (aIo 1 (aCons (dN (F1 lenP) (dCons (dIdxV 4 (dC (.int 2))) dNil)) aNil))))
  (sSeq (sIf (t2 (fun p q => blO (neP p q)) (callD [] d_law_asked (aCons (dV 4) (aCons (dV 5) (aCons (callD [1] d_law_step (aIo 1 (aCons (dV 4) (aCons (dV 5) (aCons (dV 9) aNil))))) aNil)))) (dC (.int 1))) (sRet (dC (.bl false))) sNx)
  (sSeq (sSet 10 (d2 addP (dC (.int 1)) (callD [1] d_law_pour (aIo 1 (aCons (dC (.int 99)) aNil)))))
  (sSeq (sSet 11 (dTup (dCons (dC (.int 6)) (dCons (dC (.int 1)) (dCons (dTup (dCons (dC (.int 0)) (dCons (dC (.int 1)) dNil))) (dCons (dTup (dCons (dTup (dCons (dTup (dCons (dC (.int 6)) (dCons (dC (.int 0)) dNil))) (dCons (dTup (dCons (dC (.int 0)) (dCons (dC (.int 4)) dNil))) dNil))) (dCons (dTup (dCons (dTup (dCons (dC (.int 0)) (dCons (dC (.int 0)) dNil))) (dCons (dTup (dCons (dC (.int 0)) (dCons (dC (.int 2)) dNil))) dNil))) dNil))) (dCons (dTup (dCons (dC (.int 0)) (dCons (dC (.int 0)) dNil))) dNil)))))))
  (sSeq (sSet 12 (dTup (dCons (callD [] d_row_chance (aCons (dV 11) (aCons (dTup (dCons (dV 10) (dCons (dV 10) dNil))) (aCons (dTup (dCons (dC (.int 1)) (dCons (dC (.int 1)) dNil))) aNil)))) (dCons (callD [] d_next_chances (aCons (dV 11) (aCons (dTup (dCons (dV 10) (dCons (dC (.int 0)) dNil))) (aCons (dTup (dCons (dC (.int 0)) dNil)) aNil)))) (dCons (callD [] d_next_chances (aCons (dV 11) (aCons (dTup (dCons (dC (.int 0)) (dCons (dV 10) dNil))) (aCons (dTup (dCons (dC (.int 1)) dNil)) aNil)))) (dCons (callD [] d_row_chance (aCons (dV 11) (aCons (dTup (dCons (dC (.int 0)) (dCons (dC (.int 3)) dNil))) (aCons (dTup (dCons (dC (.int 0)) (dCons (dC (.int 1)) (dCons (dC (.int 0)) dNil)))) aNil)))) dNil))))))
  (sSeq (sFor (iV (dTup (dCons (dTup (dCons (dC (.int 0)) (dCons (dTup (dCons (dC (.int 1)) (dCons (dC (.int 18)) dNil))) dNil))) (dCons (dTup (dCons (dC (.int 3)) (dCons (dTup (dCons (dC (.int 4)) (dCons (dC (.int 27)) dNil))) dNil))) dNil)))) (tgT (tgCons (tgN 8) (tgCons (tgN 13) tgNil))) (sIf (tNotD (tOf (callD [] d_law_fraction (aCons (dIdxV 12 (dV 8)) (aCons (dV 13) aNil))))) (sRet (dC (.bl false))) sNx))
  (sSeq (sFor (iV (dTup (dCons (dTup (dCons (dC (.int 1)) (dCons (dTup (dCons (dTup (dCons (dC (.int 1)) (dCons (dC (.int 1)) dNil))) (dCons (dTup (dCons (dC (.int 0)) (dCons (dC (.int 1)) dNil))) dNil))) dNil))) (dCons (dTup (dCons (dC (.int 2)) (dCons (dTup (dCons (dTup (dCons (dC (.int 2)) (dCons (dC (.int 3)) dNil))) (dCons (dTup (dCons (dC (.int 1)) (dCons (dC (.int 3)) dNil))) dNil))) dNil))) dNil)))) (tgT (tgCons (tgN 8) (tgCons (tgN 13) tgNil))) (sIf (tOrD (tNotD (tOf (dIsi "tuple" (dIdxV 12 (dV 8))))) (tOrD (t2 (fun p q => blO (neP p q)) (dN (F1 lenP) (dCons (dIdxV 12 (dV 8)) dNil)) (dC (.int 2))) (tOrD (tNotD (tOf (callD [] d_law_fraction (aCons (d2 idxP (dIdxV 12 (dV 8)) (dC (.int 0))) (aCons (dIdxV 13 (dC (.int 0))) aNil))))) (tNotD (tOf (callD [] d_law_fraction (aCons (d2 idxP (dIdxV 12 (dV 8)) (dC (.int 1))) (aCons (dIdxV 13 (dC (.int 1))) aNil)))))))) (sRet (dC (.bl false))) sNx))
  (sSeq (sIf (tOrD (t2 (fun p q => blO (neP p q)) (callD [] d_law_asked (aCons (dV 11) (aCons (dTup (dCons (dV 10) (dCons (dC (.int 0)) dNil))) (aCons (dTup (dCons (dC (.int 0)) (dCons (dC (.int 1)) dNil))) aNil)))) (dC (.int 0))) (tOrD (t2 (fun p q => blO (neP p q)) (callD [] d_law_asked (aCons (dV 11) (aCons (dTup (dCons (dV 10) (dCons (dC (.int 0)) dNil))) (aCons (dTup (dCons (dC (.int 1)) dNil)) aNil)))) (dC (.int 0))) (t2 (fun p q => blO (neP p q)) (callD [] d_law_asked (aCons (dV 11) (aCons (dTup (dCons (dV 10) (dCons (dC (.int 2)) dNil))) (aCons (dTup (dCons (dC (.int 0)) (dCons (dC (.int 1)) (dCons (dC (.int 1)) dNil)))) aNil)))) (dC (.int 1))))) (sRet (dC (.bl false))) sNx)
  (sRet (d2 eqP (dV 2) (dC (.int 3)))))))))))))))))
def d_law : List PV → RF := runF 14 [] b_law
end G

set_option maxHeartbeats 4000000
namespace G
open PySem PySem.Spec PyProof.Rows L2 L3
structure Txt (K : PySem.W.Frag) (mg : Str → Option Value) : Prop where
  b_bool : mg ("bool" : Str) = none
  b_int : mg ("int" : Str) = none
  b_isinstance : mg ("isinstance" : Str) = none
  b_len : mg ("len" : Str) = none
  b_max : mg ("max" : Str) = none
  b_range : mg ("range" : Str) = none
  b_sum : mg ("sum" : Str) = none
  b_tuple : mg ("tuple" : Str) = none
  m_gcd : mg ("gcd" : Str) = some (.builtin "math.gcd")
  f_lowest : ∃ f fd, DefAt K mg ("lowest" : Str) ("lowest" : Str) s_lowest [("above" : Str), ("below" : Str)] f fd
  f_power : ∃ f fd, DefAt K mg ("power" : Str) ("power" : Str) s_power [("number" : Str), ("many" : Str)] f fd
  f_start_weights : ∃ f fd, DefAt K mg ("start_weights" : Str) ("start_weights" : Str) s_start_weights [("keeper" : Str), ("prior" : Str)] f fd
  f_next_weights : ∃ f fd, DefAt K mg ("next_weights" : Str) ("next_weights" : Str) s_next_weights [("keeper" : Str), ("weights" : Str), ("reading" : Str)] f fd
  f_weights_behind : ∃ f fd, DefAt K mg ("weights_behind" : Str) ("weights_behind" : Str) s_weights_behind [("keeper" : Str), ("prior" : Str), ("row" : Str)] f fd
  f_row_chance : ∃ f fd, DefAt K mg ("row_chance" : Str) ("row_chance" : Str) s_row_chance [("keeper" : Str), ("prior" : Str), ("row" : Str)] f fd
  f_next_chances : ∃ f fd, DefAt K mg ("next_chances" : Str) ("next_chances" : Str) s_next_chances [("keeper" : Str), ("prior" : Str), ("row" : Str)] f fd
  f_law_jug : ∃ f fd, DefAt K mg ("_law_jug" : Str) ("_law_jug" : Str) s_law_jug [("script" : Str)] f fd
  f_law_pour : ∃ f fd, DefAt K mg ("_law_pour" : Str) ("_law_pour" : Str) s_law_pour [("jug" : Str), ("many" : Str)] f fd
  f_law_tilt : ∃ f fd, DefAt K mg ("_law_tilt" : Str) ("_law_tilt" : Str) s_law_tilt [("jug" : Str), ("place" : Str), ("many" : Str)] f fd
  f_law_made : ∃ f fd, DefAt K mg ("_law_made" : Str) ("_law_made" : Str) s_law_made [("jug" : Str)] f fd
  f_law_before : ∃ f fd, DefAt K mg ("_law_before" : Str) ("_law_before" : Str) s_law_before [("jug" : Str), ("cases" : Str)] f fd
  f_law_worths : ∃ f fd, DefAt K mg ("_law_worths" : Str) ("_law_worths" : Str) s_law_worths [("keeper" : Str), ("row" : Str)] f fd
  f_law_above : ∃ f fd, DefAt K mg ("_law_above" : Str) ("_law_above" : Str) s_law_above [("keeper" : Str), ("prior" : Str), ("row" : Str)] f fd
  f_law_lowest : ∃ f fd, DefAt K mg ("_law_lowest" : Str) ("_law_lowest" : Str) s_law_lowest [("above" : Str), ("below" : Str)] f fd
  f_law_due : ∃ f fd, DefAt K mg ("_law_due" : Str) ("_law_due" : Str) s_law_due [("keeper" : Str), ("prior" : Str), ("row" : Str)] f fd
  f_law_fraction : ∃ f fd, DefAt K mg ("_law_fraction" : Str) ("_law_fraction" : Str) s_law_fraction [("told" : Str), ("due" : Str)] f fd
  f_law_asked : ∃ f fd, DefAt K mg ("_law_asked" : Str) ("_law_asked" : Str) s_law_asked [("keeper" : Str), ("prior" : Str), ("row" : Str)] f fd
  f_law_rows : ∃ f fd, DefAt K mg ("_law_rows" : Str) ("_law_rows" : Str) s_law_rows [("keeper" : Str), ("many" : Str)] f fd
  f_law_whole : ∃ f fd, DefAt K mg ("_law_whole" : Str) ("_law_whole" : Str) s_law_whole [("keeper" : Str), ("prior" : Str), ("many" : Str)] f fd
  f_law_step : ∃ f fd, DefAt K mg ("_law_step" : Str) ("_law_step" : Str) s_law_step [("jug" : Str), ("keeper" : Str), ("prior" : Str), ("many" : Str)] f fd
  f_law : ∃ f fd, DefAt K mg ("law" : Str) ("law" : Str) s_law [("script" : Str)] f fd
  xf : ∀ n, ([] : List Str).contains n = true → ∀ C, mg n = some (.ref C) → XfC K C ∧ ∀ f, f ∈ ([] : List Str) → PySem.W.findIn K (.ref C) f = some none
theorem kb_row_chance_0 : KBOk ("row_chance" : Str) ("row_chance" : Str) s_row_chance [("keeper" : Str), ("prior" : Str), ("row" : Str)] [("row" : Str), ("keeper" : Str), ("prior" : Str)] 0 3 [1, 2, 0] := fun _ _ _ _ _ _ us ws h1 h2 => match us, ws, h1, h2 with | [], [_, _, _], _, _ => rfl
section
variable {P : Program} {w : World} {K : PySem.W.Frag} {mg : Str → Option Value} {base : Heap}
theorem ok_lowest {f : Addr} {fd : FuncData} (T : Txt K mg) (F : L2.Fun K ("lowest" : Str) ("lowest" : Str) s_lowest f fd) : FnOk P w K mg base (L2.CX P w) 1 f fd [("above" : Str), ("below" : Str)] (spF K mg 2 [] d_lowest) := by
  refine fn_okT (k := 0) (N := N_lowest) F sc_lowest rfl (by decide) (fun cdv A outer s H E vv hr tk pp => ?_)
  exact (ess_cons (es_set sc_lowest.nd rfl (.inl rfl) (ev_callM cr_gcd prim_gcd (by rfl) T.m_gcd (ef_cons (ev_var rfl (.inl rfl)) (ef_cons (ev_var rfl (.inl rfl)) ef_nil))) rfl)
  (ess_one (es_ret (ev_tup (ef_cons (ev_op op_fdivW prim_fdiv (ev_var rfl (.inl rfl)) (ev_var rfl (.inl rfl))) (ef_cons (ev_op op_fdivW prim_fdiv (ev_var rfl (.inl rfl)) (ev_var rfl (.inl rfl))) ef_nil))))))
theorem ok_power {f : Addr} {fd : FuncData} (T : Txt K mg) (F : L2.Fun K ("power" : Str) ("power" : Str) s_power f fd) : FnOk P w K mg base (L2.CX P w) 1 f fd [("number" : Str), ("many" : Str)] (spF K mg 2 [] d_power) := by
  refine fn_okT (k := 0) (N := N_power) F sc_power rfl (by decide) (fun cdv A outer s H E vv hr tk pp => ?_)
  exact (ess_cons (es_set sc_power.nd rfl (.inl rfl) ev_int rfl)
  (ess_cons (es_for pp rfl (ei_rng1 (by rfl) T.b_range (ef_cons (ev_var rfl (.inl rfl)) ef_nil)) (eg_name sc_power.nd rfl (.inl rfl) rfl) (ess_one (es_set sc_power.nd rfl (.inl rfl) (ev_op op_mulT prim_mulT (ev_var rfl (.inl rfl)) (ev_var rfl (.inl rfl))) rfl)))
  (ess_one (es_ret (ev_var rfl (.inl rfl))))))
theorem ok_start_weights {f : Addr} {fd : FuncData} (T : Txt K mg) (F : L2.Fun K ("start_weights" : Str) ("start_weights" : Str) s_start_weights f fd) : FnOk P w K mg base (L2.CX P w) 1 f fd [("keeper" : Str), ("prior" : Str)] (spF K mg 2 [] d_start_weights) := by
  refine fn_okT (k := 0) (N := N_start_weights) F sc_start_weights rfl (by decide) (fun cdv A outer s H E vv hr tk pp => ?_)
  exact (ess_cons (es_setLc (own := [(("report" : Str), 3)]) rfl sc_start_weights.nd rfl rfl (sw_true rfl rfl rfl (by decide +kernel)) (ei_val (ev_ixV rfl (.inl rfl) ev_int)) (blkOk_by (N := N_start_weights) (sc := defScope s_start_weights) (by decide +kernel)) (fun _ _ _ _ _ => (eg_name sc_start_weights.nd rfl (by first | exact .inl rfl | exact .inr rfl) rfl)) (fun _ _ _ _ _ => ets_nil) (fun _ _ _ _ _ => ev_int) (hioOk rfl) (by decide) rfl)
  (ess_cons (es_for pp rfl (ei_rng1 (by rfl) T.b_range (ef_cons (ev_callB call_lenA prim_len.N (by rfl) T.b_len bt_len (ef_cons (ev_ixV rfl (.inl rfl) ev_int) ef_nil)) ef_nil)) (eg_name sc_start_weights.nd rfl (.inl rfl) rfl) (ess_one (es_augIx rfl (.inl rfl) ip_add prim_ipadd (ev_ix (ev_ixV rfl (.inl rfl) ev_int) (ev_var rfl (.inl rfl))) (ev_ixV rfl (.inl rfl) (ev_var rfl (.inl rfl))))))
  (ess_one (es_ret (ev_callTyV call_tuple_of prim_tup (by rfl) T.b_tuple bt_tuple rfl (.inl rfl))))))
theorem ok_next_weights {f : Addr} {fd : FuncData} (T : Txt K mg) (F : L2.Fun K ("next_weights" : Str) ("next_weights" : Str) s_next_weights f fd) : FnOk P w K mg base (L2.CX P w) 1 f fd [("keeper" : Str), ("weights" : Str), ("reading" : Str)] (spF K mg 3 [] d_next_weights) := by
  refine fn_okT (k := 0) (N := N_next_weights) F sc_next_weights rfl (by decide) (fun cdv A outer s H E vv hr tk pp => ?_)
  exact (ess_cons (es_set sc_next_weights.nd rfl (.inr rfl) (ev_callBV call_lenA prim_len (by rfl) T.b_len bt_len rfl (.inr (.inl rfl))) rfl)
  (ess_cons (es_set sc_next_weights.nd rfl (.inr rfl) (ev_ix (ev_ixV rfl (.inl rfl) ev_int) (ev_var rfl (.inl rfl))) rfl)
  (ess_one (es_ret (ev_callTy call_tuple_of prim_tup.N (by rfl) T.b_tuple bt_tuple (ef_cons (ev_lc (own := [(("other" : Str), 5)]) rfl sc_next_weights.nd (ei_rng1 (by rfl) T.b_range (ef_cons (ev_var rfl (.inr (.inl rfl))) ef_nil)) (blkOk_by (N := N_next_weights) (sc := defScope s_next_weights) (by decide +kernel)) (fun _ _ _ _ _ => (eg_name sc_next_weights.nd rfl (by first | exact .inl rfl | exact .inr rfl) rfl)) (fun _ _ _ _ _ => ets_nil) (fun _ _ _ _ _ => (ev_callB (call_sumA rfl) prim_sum.N (by rfl) T.b_sum bt_sum (ef_cons (ev_lc (own := [(("one" : Str), 6)]) rfl sc_next_weights.nd (ei_rng1 (by rfl) T.b_range (ef_cons (ev_var rfl (.inr (.inl rfl))) ef_nil)) (blkOk_by (by with_unfolding_all rfl)) (fun _ _ _ _ _ => (eg_name sc_next_weights.nd rfl (by first | exact .inl rfl | exact .inr rfl) rfl)) (fun _ _ _ _ _ => ets_nil) (fun _ _ _ _ _ => (ev_op op_mulT prim_mulT (ev_ixV rfl (.inr (.inl rfl)) (ev_var rfl ((by first | exact .inl rfl | exact .inr (.inl rfl))))) (ev_ix (ev_ixV rfl (.inr (.inl rfl)) (ev_var rfl ((by first | exact .inl rfl | exact .inr (.inl rfl))))) (ev_var rfl (.inr (.inl rfl)))))) (hioOk rfl) (by decide)) ef_nil))) (hioOk rfl) (by decide)) ef_nil))))))
theorem ok_weights_behind {f : Addr} {fd : FuncData} (T : Txt K mg) (F : L2.Fun K ("weights_behind" : Str) ("weights_behind" : Str) s_weights_behind f fd) : FnOk P w K mg base (L2.CX P w) 2 f fd [("keeper" : Str), ("prior" : Str), ("row" : Str)] (spF K mg 3 [] d_weights_behind) := by
  obtain ⟨f_next_weights, fd_next_weights, g_next_weights⟩ := T.f_next_weights
  have G_next_weights := ok_next_weights (P := P) (w := w) (base := base) T g_next_weights.F
  obtain ⟨f_start_weights, fd_start_weights, g_start_weights⟩ := T.f_start_weights
  have G_start_weights := ok_start_weights (P := P) (w := w) (base := base) T g_start_weights.F
  refine fn_okT (k := 1) (N := N_weights_behind) F sc_weights_behind rfl (by decide) (fun cdv A outer s H E vv hr tk pp => ?_)
  exact (ess_cons (es_set sc_weights_behind.nd rfl (.inl rfl) (ev_call G_start_weights (hr.mono (by decide)) (by rfl) g_start_weights.gm g_start_weights.kp g_start_weights.bd tk (er_cons (ev_var rfl (.inl rfl)) (er_cons (ev_var rfl (.inl rfl)) er_nil)) rfl rfl) rfl)
  (ess_cons (es_for pp rfl (ei_val (ev_var rfl (.inl rfl))) (eg_name sc_weights_behind.nd rfl (.inl rfl) rfl) (ess_one (es_set sc_weights_behind.nd rfl (.inl rfl) (ev_call G_next_weights (hr.mono (by decide)) (by rfl) g_next_weights.gm g_next_weights.kp g_next_weights.bd tk (er_cons (ev_var rfl (.inl rfl)) (er_cons (ev_var rfl (.inl rfl)) (er_cons (ev_var rfl (.inl rfl)) er_nil))) rfl rfl) rfl)))
  (ess_one (es_ret (ev_var rfl (.inl rfl))))))
theorem ok_row_chance {f : Addr} {fd : FuncData} (T : Txt K mg) (F : L2.Fun K ("row_chance" : Str) ("row_chance" : Str) s_row_chance f fd) : FnOk P w K mg base (L2.CX P w) 3 f fd [("keeper" : Str), ("prior" : Str), ("row" : Str)] (spF K mg 3 [] d_row_chance) := by
  obtain ⟨f_lowest, fd_lowest, g_lowest⟩ := T.f_lowest
  have G_lowest := ok_lowest (P := P) (w := w) (base := base) T g_lowest.F
  obtain ⟨f_power, fd_power, g_power⟩ := T.f_power
  have G_power := ok_power (P := P) (w := w) (base := base) T g_power.F
  obtain ⟨f_weights_behind, fd_weights_behind, g_weights_behind⟩ := T.f_weights_behind
  have G_weights_behind := ok_weights_behind (P := P) (w := w) (base := base) T g_weights_behind.F
  refine fn_okT (k := 2) (N := N_row_chance) F sc_row_chance rfl (by decide) (fun cdv A outer s H E vv hr tk pp => ?_)
  exact (ess_one (es_ret (ev_call G_lowest (hr.mono (by decide)) (by rfl) g_lowest.gm g_lowest.kp g_lowest.bd tk (er_cons (ev_callB (call_sumA rfl) prim_sum.N (by rfl) T.b_sum bt_sum (ef_cons (ev_call G_weights_behind (hr.mono (by decide)) (by rfl) g_weights_behind.gm g_weights_behind.kp g_weights_behind.bd tk (er_cons (ev_var rfl (.inl rfl)) (er_cons (ev_var rfl (.inl rfl)) (er_cons (ev_var rfl (.inl rfl)) er_nil))) rfl rfl) ef_nil)) (er_cons (ev_op op_mulT prim_mulT (ev_callBV (call_sumA rfl) prim_sum (by rfl) T.b_sum bt_sum rfl (.inl rfl)) (ev_call G_power (hr.mono (by decide)) (by rfl) g_power.gm g_power.kp g_power.bd tk (er_cons (ev_ixV rfl (.inl rfl) ev_int) (er_cons (ev_callBV call_lenA prim_len (by rfl) T.b_len bt_len rfl (.inl rfl)) er_nil)) rfl rfl)) er_nil)) rfl rfl)))
theorem ok_next_chances {f : Addr} {fd : FuncData} (T : Txt K mg) (F : L2.Fun K ("next_chances" : Str) ("next_chances" : Str) s_next_chances f fd) : FnOk P w K mg base (L2.CX P w) 3 f fd [("keeper" : Str), ("prior" : Str), ("row" : Str)] (spF K mg 3 [] d_next_chances) := by
  obtain ⟨f_lowest, fd_lowest, g_lowest⟩ := T.f_lowest
  have G_lowest := ok_lowest (P := P) (w := w) (base := base) T g_lowest.F
  obtain ⟨f_next_weights, fd_next_weights, g_next_weights⟩ := T.f_next_weights
  have G_next_weights := ok_next_weights (P := P) (w := w) (base := base) T g_next_weights.F
  obtain ⟨f_weights_behind, fd_weights_behind, g_weights_behind⟩ := T.f_weights_behind
  have G_weights_behind := ok_weights_behind (P := P) (w := w) (base := base) T g_weights_behind.F
  refine fn_okT (k := 2) (N := N_next_chances) F sc_next_chances rfl (by decide) (fun cdv A outer s H E vv hr tk pp => ?_)
  exact (ess_cons (es_set sc_next_chances.nd rfl (.inr rfl) (ev_call G_weights_behind (hr.mono (by decide)) (by rfl) g_weights_behind.gm g_weights_behind.kp g_weights_behind.bd tk (er_cons (ev_var rfl (.inr (.inl rfl))) (er_cons (ev_var rfl (.inl rfl)) (er_cons (ev_var rfl (.inl rfl)) er_nil))) rfl rfl) rfl)
  (ess_cons (es_set sc_next_chances.nd rfl (.inr rfl) (ev_op op_mulT prim_mulT (ev_callBV (call_sumA rfl) prim_sum (by rfl) T.b_sum bt_sum rfl (.inr (.inl rfl))) (ev_ixV rfl (.inr (.inl rfl)) ev_int)) rfl)
  (ess_cons (es_if (et_cmp (op_eqA hr.units) prim_eq (ev_var rfl (.inr (.inl rfl))) ev_int (nomark _)) (ess_one (es_ret ev_non)) ess_nil)
  (ess_cons (es_setLcF (own := [(("reading" : Str), 6)]) rfl sc_next_chances.nd rfl rfl (sw_true rfl rfl rfl (by decide +kernel)) (ei_rng1 (by rfl) T.b_range (ef_cons (ev_callB call_lenA prim_len.N (by rfl) T.b_len bt_len (ef_cons (ev_ixV rfl (.inr (.inl rfl)) ev_int) ef_nil)) ef_nil)) (blkOk_by (N := N_next_chances) (sc := defScope s_next_chances) (by decide +kernel)) (fun _ _ _ _ _ => (eg_name sc_next_chances.nd rfl (by first | exact .inl rfl | exact .inr rfl) rfl)) (fun _ _ _ _ _ => ets_nil) (fun _ _ _ _ _ => (ev_callB (call_sumA rfl) prim_sum.N (by rfl) T.b_sum bt_sum (ef_cons (ev_call G_next_weights (hr.mono (by decide)) (by rfl) g_next_weights.gm g_next_weights.kp g_next_weights.bd takes_none5 (er_cons (ev_var rfl (.inr (.inl rfl))) (er_cons (ev_var rfl (.inr (.inl rfl))) (er_cons (ev_var rfl ((by first | exact .inl rfl | exact .inr (.inl rfl)))) er_nil))) rfl rfl) ef_nil))) (hioOk rfl) (by decide) rfl)
  (ess_one (es_ret (ev_callTy call_tuple_of prim_tup.N (by rfl) T.b_tuple bt_tuple (ef_cons (ev_lc (own := [(("weight" : Str), 7)]) rfl sc_next_chances.nd (ei_val (ev_var rfl (.inl rfl))) (blkOk_by (N := N_next_chances) (sc := defScope s_next_chances) (by decide +kernel)) (fun _ _ _ _ _ => (eg_name sc_next_chances.nd rfl (by first | exact .inl rfl | exact .inr rfl) rfl)) (fun _ _ _ _ _ => ets_nil) (fun _ _ _ _ _ => (ev_call G_lowest (hr.mono (by decide)) (by rfl) g_lowest.gm g_lowest.kp g_lowest.bd takes_none5 (er_cons (ev_var rfl ((by first | exact .inl rfl | exact .inr (.inl rfl)))) (er_cons (ev_var rfl (.inr (.inl rfl))) er_nil)) rfl rfl)) (hioOk rfl) (by decide)) ef_nil))))))))
theorem ok_law_jug {f : Addr} {fd : FuncData} (T : Txt K mg) (F : L2.Fun K ("_law_jug" : Str) ("_law_jug" : Str) s_law_jug f fd) : FnOk P w K mg base (L2.CX P w) 1 f fd [("script" : Str)] (spF K mg 1 [] d_law_jug) := by
  refine fn_okT (k := 0) (N := N_law_jug) F sc_law_jug rfl (by decide) (fun cdv A outer s H E vv hr tk pp => ?_)
  exact (ess_cons (es_set sc_law_jug.nd rfl (.inl rfl) ((ev_op op_addA prim_add (ev_lc (own := [(("cell" : Str), 2)]) rfl sc_law_jug.nd (ei_val (ev_var rfl (.inl rfl))) (blkOk_by (N := N_law_jug) (sc := defScope s_law_jug) (by decide +kernel)) (fun _ _ _ _ _ => (eg_name sc_law_jug.nd rfl (by first | exact .inl rfl | exact .inr rfl) rfl)) (fun _ _ _ _ _ => ets_nil) (fun _ _ _ _ _ => (ev_op op_mod prim_mod (ev_callTyV call_int1 prim_int (by rfl) T.b_int bt_int rfl ((by first | exact .inl rfl | exact .inr (.inl rfl)))) ev_int)) (hioOk rfl) (by decide)) (ev_lst (eo_cons ev_int eo_nil)))).frz rfl)
  (ess_cons (es_set sc_law_jug.nd rfl (.inl rfl) ev_int rfl)
  (ess_cons (es_for pp rfl (ei_val (ev_var rfl (.inl rfl))) (eg_name sc_law_jug.nd rfl (.inl rfl) rfl) (ess_one (es_set sc_law_jug.nd rfl (.inl rfl) (ev_op op_mod prim_mod (ev_callTy call_int1 prim_int.N (by rfl) T.b_int bt_int (ef_cons (ev_op op_addA prim_add (ev_op op_addA prim_add (ev_op op_mulT prim_mulT (ev_var rfl (.inl rfl)) ev_int) (ev_op op_mulT prim_mulT (ev_var rfl (.inl rfl)) ev_int)) ev_int) ef_nil)) ev_int) rfl)))
  (ess_one (es_ret (ev_lst (eo_cons (ev_var rfl (.inl rfl)) (eo_cons ev_int (eo_cons (ev_var rfl (.inl rfl)) eo_nil)))))))))
theorem ok_law_pour {f : Addr} {fd : FuncData} (T : Txt K mg) (F : L2.Fun K ("_law_pour" : Str) ("_law_pour" : Str) s_law_pour f fd) : FnOk P w K mg base (L2.CX P w) 1 f fd [("jug" : Str), ("many" : Str)] (spF K mg 2 [0] d_law_pour) := by
  refine fn_okT (k := 0) (N := N_law_pour) F sc_law_pour rfl (by decide) (fun cdv A outer s H E vv hr tk pp => ?_)
  exact (ess_cons (es_put rfl (.inl rfl) ev_int (ev_op op_addA prim_add (ev_ixV rfl (.inl rfl) ev_int) ev_int))
  (ess_cons (es_set sc_law_pour.nd rfl (.inl rfl) (ev_ix (ev_ixV rfl (.inl rfl) ev_int) (ev_op op_mod prim_mod (ev_callTy call_int1 prim_int.N (by rfl) T.b_int bt_int (ef_cons (ev_ixV rfl (.inl rfl) ev_int) ef_nil)) (ev_callB call_lenA prim_len.N (by rfl) T.b_len bt_len (ef_cons (ev_ixV rfl (.inl rfl) ev_int) ef_nil)))) rfl)
  (ess_cons (es_put rfl (.inl rfl) ev_int (ev_op op_mod prim_mod (ev_callTy call_int1 prim_int.N (by rfl) T.b_int bt_int (ef_cons (ev_op op_addA prim_add (ev_op op_addA prim_add (ev_op op_addA prim_add (ev_op op_mulT prim_mulT (ev_ixV rfl (.inl rfl) ev_int) ev_int) (ev_op op_mulT prim_mulT (ev_var rfl (.inl rfl)) ev_int)) (ev_op op_mulT prim_mulT (ev_ixV rfl (.inl rfl) ev_int) ev_int)) ev_int) ef_nil)) ev_int))
  (ess_one (es_ret (ev_op op_mod prim_mod (ev_callTy call_int1 prim_int.N (by rfl) T.b_int bt_int (ef_cons (ev_op op_fdivW prim_fdiv (ev_ixV rfl (.inl rfl) ev_int) ev_int) ef_nil)) (ev_callB (call_maxA rfl) prim_max (by rfl) T.b_max bt_max (ef_cons ev_int (ef_cons (ev_var rfl (.inl rfl)) ef_nil)))))))))
theorem ok_law_tilt {f : Addr} {fd : FuncData} (T : Txt K mg) (F : L2.Fun K ("_law_tilt" : Str) ("_law_tilt" : Str) s_law_tilt f fd) : FnOk P w K mg base (L2.CX P w) 2 f fd [("jug" : Str), ("place" : Str), ("many" : Str)] (spF K mg 3 [0] d_law_tilt) := by
  obtain ⟨f_law_pour, fd_law_pour, g_law_pour⟩ := T.f_law_pour
  have G_law_pour := ok_law_pour (P := P) (w := w) (base := base) T g_law_pour.F
  refine fn_okT (k := 1) (N := N_law_tilt) F sc_law_tilt rfl (by decide) (fun cdv A outer s H E vv hr tk pp => ?_)
  exact (ess_cons (es_set sc_law_tilt.nd rfl (.inl rfl) (ev_op op_mod prim_mod (ev_callTy call_int1 prim_int.N (by rfl) T.b_int bt_int (ef_cons (ev_op op_addA prim_add (ev_op op_addA prim_add (ev_op op_fdivW prim_fdiv (ev_ix (ev_ixV rfl (.inl rfl) ev_int) ev_int) (ev_op op_addA prim_add (ev_var rfl (.inl rfl)) ev_int)) (ev_ix (ev_ixV rfl (.inl rfl) ev_int) (ev_callTy call_int1 prim_int.N (by rfl) T.b_int bt_int (ef_cons (ev_op op_fdivW prim_fdiv (ev_callB call_lenA prim_len.N (by rfl) T.b_len bt_len (ef_cons (ev_ixV rfl (.inl rfl) ev_int) ef_nil)) ev_int) ef_nil)))) (ev_op op_mulT prim_mulT (ev_var rfl (.inl rfl)) ev_int)) ef_nil)) ev_int) rfl)
  (ess_one (es_ret (ev_if (et_cmp (op_ltA hr.units0) prim_ltT (ev_var rfl (.inl rfl)) ev_int (nomark _)) (ev_ix (ev_tup (ef_cons ev_int (ef_cons (ev_op op_sub prim_sub (ev_callB (call_maxA rfl) prim_max (by rfl) T.b_max bt_max (ef_cons ev_int (ef_cons (ev_var rfl (.inl rfl)) ef_nil))) ev_int) ef_nil))) (ev_var rfl (.inl rfl))) (ev_call G_law_pour (hr.mono (by decide)) (by rfl) g_law_pour.gm g_law_pour.kp g_law_pour.bd tk (er_io rfl (.inl rfl) (er_cons (ev_var rfl (.inl rfl)) er_nil)) rfl rfl)))))
theorem ok_law_made {f : Addr} {fd : FuncData} (T : Txt K mg) (F : L2.Fun K ("_law_made" : Str) ("_law_made" : Str) s_law_made f fd) : FnOk P w K mg base (L2.CX P w) 3 f fd [("jug" : Str)] (spF K mg 1 [0] d_law_made) := by
  obtain ⟨f_law_pour, fd_law_pour, g_law_pour⟩ := T.f_law_pour
  have G_law_pour := ok_law_pour (P := P) (w := w) (base := base) T g_law_pour.F
  obtain ⟨f_law_tilt, fd_law_tilt, g_law_tilt⟩ := T.f_law_tilt
  have G_law_tilt := ok_law_tilt (P := P) (w := w) (base := base) T g_law_tilt.F
  refine fn_okT (k := 2) (N := N_law_made) F sc_law_made rfl (by decide) (fun cdv A outer s H E vv hr tk pp => ?_)
  exact (ess_cons (es_set sc_law_made.nd rfl (.inr rfl) (ev_if (et_cmp op_gt prim_gt (ev_call G_law_pour (hr.mono (by decide)) (by rfl) g_law_pour.gm g_law_pour.kp g_law_pour.bd tk (er_io rfl (.inr (.inl rfl)) (er_cons ev_int er_nil)) rfl rfl) ev_int (nomark _)) (ev_ix (ev_tup (ef_cons ev_int (ef_cons ev_int (ef_cons ev_int (ef_cons ev_int (ef_cons ev_int (ef_cons ev_int ef_nil))))))) (ev_call G_law_tilt (hr.mono (by decide)) (by rfl) g_law_tilt.gm g_law_tilt.kp g_law_tilt.bd tk (er_io rfl (.inr (.inl rfl)) (er_cons ev_int (er_cons ev_int er_nil))) rfl rfl)) ev_int) rfl)
  (ess_cons (es_set sc_law_made.nd rfl (.inl rfl) (ev_op op_addA prim_add ev_int (ev_call G_law_tilt (hr.mono (by decide)) (by rfl) g_law_tilt.gm g_law_tilt.kp g_law_tilt.bd tk (er_io rfl (.inr (.inl rfl)) (er_cons ev_int (er_cons ev_int er_nil))) rfl rfl)) rfl)
  (ess_cons (es_set sc_law_made.nd rfl (.inl rfl) (ev_ix (ev_tup (ef_cons ev_int (ef_cons ev_int (ef_cons ev_int (ef_cons ev_int (ef_cons ev_int (ef_cons ev_int (ef_cons ev_int ef_nil)))))))) (ev_call G_law_tilt (hr.mono (by decide)) (by rfl) g_law_tilt.gm g_law_tilt.kp g_law_tilt.bd tk (er_io rfl (.inr (.inl rfl)) (er_cons ev_int (er_cons ev_int er_nil))) rfl rfl)) rfl)
  (ess_cons (es_setLc (own := [(("reading" : Str), 5)]) rfl sc_law_made.nd rfl rfl (sw_true rfl rfl rfl (by decide +kernel)) (ei_rng1 (by rfl) T.b_range (ef_cons (ev_var rfl (.inl rfl)) ef_nil)) (blkOk_by (N := N_law_made) (sc := defScope s_law_made) (by decide +kernel)) (fun _ _ _ _ _ => (eg_name sc_law_made.nd rfl (by first | exact .inl rfl | exact .inr rfl) rfl)) (fun _ _ _ _ _ => ets_nil) (fun _ _ _ _ _ => (ev_lc (own := [(("state" : Str), 6)]) rfl sc_law_made.nd (ei_rng1 (by rfl) T.b_range (ef_cons (ev_var rfl (.inr (.inl rfl))) ef_nil)) (blkOk_by (by with_unfolding_all rfl)) (fun _ _ _ _ _ => (eg_name sc_law_made.nd rfl (by first | exact .inl rfl | exact .inr rfl) rfl)) (fun _ _ _ _ _ => ets_nil) (fun _ _ _ _ _ => (ev_lc (own := [(("to" : Str), 7)]) rfl sc_law_made.nd (ei_rng1 (by rfl) T.b_range (ef_cons (ev_var rfl (.inr (.inl rfl))) ef_nil)) (blkOk_by (by with_unfolding_all rfl)) (fun _ _ _ _ _ => (eg_name sc_law_made.nd rfl (by first | exact .inl rfl | exact .inr rfl) rfl)) (fun _ _ _ _ _ => ets_nil) (fun _ _ _ _ _ => ev_int) (hioOk rfl) (by decide))) (hioOk rfl) (by decide))) (hioOk rfl) (by decide) rfl)
  (ess_cons (es_for pp rfl (ei_rng1 (by rfl) T.b_range (ef_cons (ev_var rfl (.inr (.inl rfl))) ef_nil)) (eg_name sc_law_made.nd rfl (.inl rfl) rfl) (ess_cons (es_set sc_law_made.nd rfl (.inl rfl) (ev_var rfl (.inl rfl)) rfl)
  (ess_cons (es_for pp rfl (ei_rng1 (by rfl) T.b_range (ef_cons (ev_op op_addA prim_add ev_int (ev_call G_law_tilt (hr.mono (by decide)) (by rfl) g_law_tilt.gm g_law_tilt.kp g_law_tilt.bd tk (er_io rfl (.inr (.inl rfl)) (er_cons ev_int (er_cons ev_int er_nil))) rfl rfl)) ef_nil)) (eg_name sc_law_made.nd rfl (.inl rfl) rfl) (ess_cons (es_set sc_law_made.nd rfl (.inl rfl) (ev_call G_law_pour (hr.mono (by decide)) (by rfl) g_law_pour.gm g_law_pour.kp g_law_pour.bd tk (er_io rfl (.inr (.inl rfl)) (er_cons (ev_op op_addA prim_add (ev_var rfl (.inl rfl)) ev_int) er_nil)) rfl rfl) rfl)
  (ess_cons (es_par rfl sc_law_made.nd rfl rfl (by decide) rfl rfl (ef_cons (ev_call G_law_pour (hr.mono (by decide)) (by rfl) g_law_pour.gm g_law_pour.kp g_law_pour.bd tk (er_io rfl (.inr (.inl rfl)) (er_cons (ev_var rfl (.inl rfl)) er_nil)) rfl rfl) (ef_cons (ev_call G_law_pour (hr.mono (by decide)) (by rfl) g_law_pour.gm g_law_pour.kp g_law_pour.bd tk (er_io rfl (.inr (.inl rfl)) (er_cons (ev_var rfl (.inr (.inl rfl))) er_nil)) rfl rfl) ef_nil)) rfl rfl (by rfl))
  (ess_cons (es_putP (ep_ix (ep_ix (ep_name rfl (.inl rfl)) (ev_var rfl (.inl rfl))) (ev_var rfl (.inl rfl))) (ev_var rfl (.inl rfl)) (ev_op op_addA prim_add (ev_ofW (eq_ix (eq_ix (eq_ix (eq_name rfl (.inl rfl)) (ev_var rfl (.inl rfl))) (ev_var rfl (.inl rfl))) (ev_var rfl (.inl rfl)))) (ev_var rfl (.inl rfl))))
  (ess_one (es_set sc_law_made.nd rfl (.inl rfl) (ev_op op_sub prim_sub (ev_var rfl (.inl rfl)) (ev_var rfl (.inl rfl))) rfl))))))
  (ess_cons (es_par rfl sc_law_made.nd rfl rfl (by decide) rfl rfl (ef_cons (ev_call G_law_pour (hr.mono (by decide)) (by rfl) g_law_pour.gm g_law_pour.kp g_law_pour.bd tk (er_io rfl (.inr (.inl rfl)) (er_cons (ev_var rfl (.inl rfl)) er_nil)) rfl rfl) (ef_cons (ev_call G_law_pour (hr.mono (by decide)) (by rfl) g_law_pour.gm g_law_pour.kp g_law_pour.bd tk (er_io rfl (.inr (.inl rfl)) (er_cons (ev_var rfl (.inr (.inl rfl))) er_nil)) rfl rfl) ef_nil)) rfl rfl (by rfl))
  (ess_one (es_putP (ep_ix (ep_ix (ep_name rfl (.inl rfl)) (ev_var rfl (.inl rfl))) (ev_var rfl (.inl rfl))) (ev_var rfl (.inl rfl)) (ev_op op_addA prim_add (ev_ofW (eq_ix (eq_ix (eq_ix (eq_name rfl (.inl rfl)) (ev_var rfl (.inl rfl))) (ev_var rfl (.inl rfl))) (ev_var rfl (.inl rfl)))) (ev_var rfl (.inl rfl)))))))))
  (ess_cons (es_set sc_law_made.nd rfl (.inl rfl) (ev_callTy call_tuple_of prim_tup.N (by rfl) T.b_tuple bt_tuple (ef_cons (ev_lc (own := [(("table" : Str), 12)]) rfl sc_law_made.nd (ei_val (ev_fz rfl (.inl rfl))) (blkOk_by (N := N_law_made) (sc := defScope s_law_made) (by decide +kernel)) (fun _ _ _ _ _ => (eg_name sc_law_made.nd rfl (by first | exact .inl rfl | exact .inr rfl) rfl)) (fun _ _ _ _ _ => ets_nil) (fun _ _ _ _ _ => (ev_callTy call_tuple_of prim_tup.N (by rfl) T.b_tuple bt_tuple (ef_cons (ev_lc (own := [(("row" : Str), 13)]) rfl sc_law_made.nd (ei_val (ev_var rfl ((by first | exact .inl rfl | exact .inr (.inl rfl))))) (blkOk_by (by with_unfolding_all rfl)) (fun _ _ _ _ _ => (eg_name sc_law_made.nd rfl (by first | exact .inl rfl | exact .inr rfl) rfl)) (fun _ _ _ _ _ => ets_nil) (fun _ _ _ _ _ => (ev_callTyV call_tuple_of prim_tup (by rfl) T.b_tuple bt_tuple rfl ((by first | exact .inl rfl | exact .inr (.inl rfl))))) (hioOk rfl) (by decide)) ef_nil))) (hioOk rfl) (by decide)) ef_nil)) rfl)
  (ess_cons (es_set sc_law_made.nd rfl (.inl rfl) (ev_callTy call_tuple_of prim_tup.N (by rfl) T.b_tuple bt_tuple (ef_cons (ev_lc (own := [(("case" : Str), 15)]) rfl sc_law_made.nd (ei_rng1 (by rfl) T.b_range (ef_cons (ev_op op_addA prim_add ev_int (ev_call G_law_tilt (hr.mono (by decide)) (by rfl) g_law_tilt.gm g_law_tilt.kp g_law_tilt.bd tk (er_io rfl (.inr (.inl rfl)) (er_cons ev_int (er_cons ev_int er_nil))) rfl rfl)) ef_nil)) (blkOk_by (N := N_law_made) (sc := defScope s_law_made) (by decide +kernel)) (fun _ _ _ _ _ => (eg_name sc_law_made.nd rfl (by first | exact .inl rfl | exact .inr rfl) rfl)) (fun _ _ _ _ _ => ets_nil) (fun _ _ _ _ _ => (ev_call G_law_pour (hr.mono (by decide)) (by rfl) g_law_pour.gm g_law_pour.kp g_law_pour.bd takes_none5 (er_io rfl (.inr (.inl rfl)) (er_cons (ev_var rfl (.inr (.inl rfl))) er_nil)) rfl rfl)) (hioOk rfl) (by decide)) ef_nil)) rfl)
  (ess_one (es_ret (ev_tup (ef_cons (ev_var rfl (.inl rfl)) (ef_cons (ev_op op_addA prim_add ev_int (ev_call G_law_pour (hr.mono (by decide)) (by rfl) g_law_pour.gm g_law_pour.kp g_law_pour.bd tk (er_io rfl (.inr (.inl rfl)) (er_cons ev_int er_nil)) rfl rfl)) (ef_cons (ev_var rfl (.inl rfl)) (ef_cons (ev_var rfl (.inl rfl)) (ef_cons (ev_callTy call_tuple_of prim_tup.N (by rfl) T.b_tuple bt_tuple (ef_cons (ev_lc (own := [(("state" : Str), 6)]) rfl sc_law_made.nd (ei_rng1 (by rfl) T.b_range (ef_cons (ev_var rfl (.inr (.inl rfl))) ef_nil)) (blkOk_by (N := N_law_made) (sc := defScope s_law_made) (by decide +kernel)) (fun _ _ _ _ _ => (eg_name sc_law_made.nd rfl (by first | exact .inl rfl | exact .inr rfl) rfl)) (fun _ _ _ _ _ => ets_nil) (fun _ _ _ _ _ => ev_int) (hioOk rfl) (by decide)) ef_nil)) ef_nil)))))))))))))))
theorem ok_law_before {f : Addr} {fd : FuncData} (T : Txt K mg) (F : L2.Fun K ("_law_before" : Str) ("_law_before" : Str) s_law_before f fd) : FnOk P w K mg base (L2.CX P w) 3 f fd [("jug" : Str), ("cases" : Str)] (spF K mg 2 [0] d_law_before) := by
  obtain ⟨f_law_pour, fd_law_pour, g_law_pour⟩ := T.f_law_pour
  have G_law_pour := ok_law_pour (P := P) (w := w) (base := base) T g_law_pour.F
  obtain ⟨f_law_tilt, fd_law_tilt, g_law_tilt⟩ := T.f_law_tilt
  have G_law_tilt := ok_law_tilt (P := P) (w := w) (base := base) T g_law_tilt.F
  refine fn_okT (k := 2) (N := N_law_before) F sc_law_before rfl (by decide) (fun cdv A outer s H E vv hr tk pp => ?_)
  exact (ess_cons (es_setLc (own := [(("case" : Str), 3)]) rfl sc_law_before.nd rfl rfl (sw_true rfl rfl rfl (by decide +kernel)) (ei_rng1 (by rfl) T.b_range (ef_cons (ev_var rfl (.inl rfl)) ef_nil)) (blkOk_by (N := N_law_before) (sc := defScope s_law_before) (by decide +kernel)) (fun _ _ _ _ _ => (eg_name sc_law_before.nd rfl (by first | exact .inl rfl | exact .inr rfl) rfl)) (fun _ _ _ _ _ => ets_nil) (fun _ _ _ _ _ => ev_int) (hioOk rfl) (by decide) rfl)
  (ess_cons (es_for pp rfl (ei_rng1 (by rfl) T.b_range (ef_cons (ev_ix (ev_tup (ef_cons ev_int (ef_cons ev_int (ef_cons ev_int ef_nil)))) (ev_call G_law_tilt (hr.mono (by decide)) (by rfl) g_law_tilt.gm g_law_tilt.kp g_law_tilt.bd tk (er_io rfl (.inl rfl) (er_cons ev_int (er_cons ev_int er_nil))) rfl rfl)) ef_nil)) (eg_name sc_law_before.nd rfl (.inl rfl) rfl) (ess_cons (es_set sc_law_before.nd rfl (.inl rfl) (ev_call G_law_pour (hr.mono (by decide)) (by rfl) g_law_pour.gm g_law_pour.kp g_law_pour.bd tk (er_io rfl (.inl rfl) (er_cons (ev_var rfl (.inl rfl)) er_nil)) rfl rfl) rfl)
  (ess_one (es_put rfl (.inl rfl) (ev_var rfl (.inl rfl)) (ev_ix (ev_tup (ef_cons ev_int (ef_cons ev_int (ef_cons ev_int ef_nil)))) (ev_call G_law_pour (hr.mono (by decide)) (by rfl) g_law_pour.gm g_law_pour.kp g_law_pour.bd tk (er_io rfl (.inl rfl) (er_cons ev_int er_nil)) rfl rfl))))))
  (ess_one (es_ret (ev_callTyV call_tuple_of prim_tup (by rfl) T.b_tuple bt_tuple rfl (.inl rfl))))))
theorem ok_law_worths {f : Addr} {fd : FuncData} (T : Txt K mg) (F : L2.Fun K ("_law_worths" : Str) ("_law_worths" : Str) s_law_worths f fd) : FnOk P w K mg base (L2.CX P w) 1 f fd [("keeper" : Str), ("row" : Str)] (spF K mg 2 [] d_law_worths) := by
  refine fn_okT (k := 0) (N := N_law_worths) F sc_law_worths rfl (by decide) (fun cdv A outer s H E vv hr tk pp => ?_)
  exact (ess_cons (es_set sc_law_worths.nd rfl (.inr rfl) ((ev_lc (own := [(("state" : Str), 3)]) rfl sc_law_worths.nd (ei_val (ev_ixV rfl (.inl rfl) ev_int)) (blkOk_by (N := N_law_worths) (sc := defScope s_law_worths) (by decide +kernel)) (fun _ _ _ _ _ => (eg_name sc_law_worths.nd rfl (by first | exact .inl rfl | exact .inr rfl) rfl)) (fun _ _ _ _ _ => ets_nil) (fun _ _ _ _ _ => ev_int) (hioOk rfl) (by decide))).frz rfl)
  (ess_cons (es_for pp rfl (ei_val (ev_revT (ev_var rfl (.inl rfl)))) (eg_name sc_law_worths.nd rfl (.inl rfl) rfl) (ess_cons (es_set sc_law_worths.nd rfl (.inl rfl) (ev_ix (ev_ixV rfl (.inl rfl) ev_int) (ev_var rfl (.inl rfl))) rfl)
  (ess_one (es_set sc_law_worths.nd rfl (.inr rfl) ((ev_lc (own := [(("line" : Str), 6)]) rfl sc_law_worths.nd (ei_val (ev_var rfl (.inl rfl))) (blkOk_by (N := N_law_worths) (sc := defScope s_law_worths) (by decide +kernel)) (fun _ _ _ _ _ => (eg_name sc_law_worths.nd rfl (by first | exact .inl rfl | exact .inr rfl) rfl)) (fun _ _ _ _ _ => ets_nil) (fun _ _ _ _ _ => (ev_callB (call_sumA rfl) prim_sum.N (by rfl) T.b_sum bt_sum (ef_cons (ev_lc (own := [(("to" : Str), 7)]) rfl sc_law_worths.nd (ei_rng1 (by rfl) T.b_range (ef_cons (ev_callBV call_lenA prim_len (by rfl) T.b_len bt_len rfl ((by first | exact .inl rfl | exact .inr (.inl rfl)))) ef_nil)) (blkOk_by (by with_unfolding_all rfl)) (fun _ _ _ _ _ => (eg_name sc_law_worths.nd rfl (by first | exact .inl rfl | exact .inr rfl) rfl)) (fun _ _ _ _ _ => (ets_one (et_cmp op_gt prim_gt (ev_ixV rfl (.inr (.inl rfl)) (ev_var rfl ((by first | exact .inl rfl | exact .inr (.inl rfl))))) ev_int (nomark _)))) (fun _ _ _ _ _ => (ev_op op_mulT prim_mulT (ev_ixV rfl (.inr (.inl rfl)) (ev_var rfl ((by first | exact .inl rfl | exact .inr (.inl rfl))))) (ev_ixV rfl (.inr (.inl rfl)) (ev_var rfl ((by first | exact .inl rfl | exact .inr (.inl rfl))))))) (hioOk rfl) (by decide)) ef_nil))) (hioOk rfl) (by decide))).frz rfl))))
  (ess_one (es_ret (ev_var rfl (.inr (.inl rfl)))))))
theorem ok_law_above {f : Addr} {fd : FuncData} (T : Txt K mg) (F : L2.Fun K ("_law_above" : Str) ("_law_above" : Str) s_law_above f fd) : FnOk P w K mg base (L2.CX P w) 2 f fd [("keeper" : Str), ("prior" : Str), ("row" : Str)] (spF K mg 3 [] d_law_above) := by
  obtain ⟨f_law_worths, fd_law_worths, g_law_worths⟩ := T.f_law_worths
  have G_law_worths := ok_law_worths (P := P) (w := w) (base := base) T g_law_worths.F
  refine fn_okT (k := 1) (N := N_law_above) F sc_law_above rfl (by decide) (fun cdv A outer s H E vv hr tk pp => ?_)
  exact (ess_cons (es_set sc_law_above.nd rfl (.inr rfl) (ev_call G_law_worths (hr.mono (by decide)) (by rfl) g_law_worths.gm g_law_worths.kp g_law_worths.bd tk (er_cons (ev_var rfl (.inr (.inl rfl))) (er_cons (ev_var rfl (.inl rfl)) er_nil)) rfl rfl) rfl)
  (ess_one (es_ret (ev_callB (call_sumA rfl) prim_sum.N (by rfl) T.b_sum bt_sum (ef_cons (ev_lc (own := [(("case" : Str), 4)]) rfl sc_law_above.nd (ei_rng1 (by rfl) T.b_range (ef_cons (ev_callBV call_lenA prim_len (by rfl) T.b_len bt_len rfl (.inr (.inl rfl))) ef_nil)) (blkOk_by (N := N_law_above) (sc := defScope s_law_above) (by decide +kernel)) (fun _ _ _ _ _ => (eg_name sc_law_above.nd rfl (by first | exact .inl rfl | exact .inr rfl) rfl)) (fun _ _ _ _ _ => ets_nil) (fun _ _ _ _ _ => (ev_op op_mulT prim_mulT (ev_ixV rfl (.inr (.inl rfl)) (ev_var rfl ((by first | exact .inl rfl | exact .inr (.inl rfl))))) (ev_ixV rfl (.inr (.inl rfl)) (ev_ix (ev_ixV rfl (.inr (.inl rfl)) ev_int) (ev_var rfl ((by first | exact .inl rfl | exact .inr (.inl rfl)))))))) (hioOk rfl) (by decide)) ef_nil)))))
theorem ok_law_lowest {f : Addr} {fd : FuncData} (T : Txt K mg) (F : L2.Fun K ("_law_lowest" : Str) ("_law_lowest" : Str) s_law_lowest f fd) : FnOk P w K mg base (L2.CX P w) 1 f fd [("above" : Str), ("below" : Str)] (spF K mg 2 [] d_law_lowest) := by
  refine fn_okT (k := 0) (N := N_law_lowest) F sc_law_lowest rfl (by decide) (fun cdv A outer s H E vv hr tk pp => ?_)
  exact (ess_cons (es_par rfl sc_law_lowest.nd rfl rfl (by decide) rfl rfl (ef_cons (ev_var rfl (.inl rfl)) (ef_cons (ev_var rfl (.inl rfl)) ef_nil)) rfl rfl (by rfl))
  (ess_cons (es_for pp rfl (ei_rng1 (by rfl) T.b_range (ef_cons ev_int ef_nil)) (eg_name sc_law_lowest.nd rfl (.inl rfl) rfl) (ess_cons (es_if (et_cmp (op_eqA hr.units) prim_eq (ev_var rfl (.inl rfl)) ev_int (nomark _)) (ess_one es_break) ess_nil)
  (ess_one (es_par rfl sc_law_lowest.nd rfl rfl (by decide) rfl rfl (ef_cons (ev_var rfl (.inl rfl)) (ef_cons (ev_op op_mod prim_mod (ev_callTyV call_int1 prim_int (by rfl) T.b_int bt_int rfl (.inl rfl)) (ev_var rfl (.inl rfl))) ef_nil)) rfl rfl (by rfl)))))
  (ess_one (es_ret (ev_tup (ef_cons (ev_op op_fdivW prim_fdiv (ev_var rfl (.inl rfl)) (ev_var rfl (.inl rfl))) (ef_cons (ev_op op_fdivW prim_fdiv (ev_var rfl (.inl rfl)) (ev_var rfl (.inl rfl))) ef_nil)))))))
theorem ok_law_due {f : Addr} {fd : FuncData} (T : Txt K mg) (F : L2.Fun K ("_law_due" : Str) ("_law_due" : Str) s_law_due f fd) : FnOk P w K mg base (L2.CX P w) 3 f fd [("keeper" : Str), ("prior" : Str), ("row" : Str)] (spF K mg 3 [] d_law_due) := by
  obtain ⟨f_law_above, fd_law_above, g_law_above⟩ := T.f_law_above
  have G_law_above := ok_law_above (P := P) (w := w) (base := base) T g_law_above.F
  obtain ⟨f_law_lowest, fd_law_lowest, g_law_lowest⟩ := T.f_law_lowest
  have G_law_lowest := ok_law_lowest (P := P) (w := w) (base := base) T g_law_lowest.F
  refine fn_okT (k := 2) (N := N_law_due) F sc_law_due rfl (by decide) (fun cdv A outer s H E vv hr tk pp => ?_)
  exact (ess_cons (es_set sc_law_due.nd rfl (.inr rfl) (ev_call G_law_above (hr.mono (by decide)) (by rfl) g_law_above.gm g_law_above.kp g_law_above.bd tk (er_cons (ev_var rfl (.inr (.inl rfl))) (er_cons (ev_var rfl (.inr (.inl rfl))) (er_cons (ev_var rfl (.inr (.inl rfl))) er_nil))) rfl rfl) rfl)
  (ess_cons (es_set sc_law_due.nd rfl (.inl rfl) (ev_callBV (call_sumA rfl) prim_sum (by rfl) T.b_sum bt_sum rfl (.inr (.inl rfl))) rfl)
  (ess_cons (es_for pp rfl (ei_val (ev_var rfl (.inr (.inl rfl)))) (eg_name sc_law_due.nd rfl (.inl rfl) rfl) (ess_one (es_set sc_law_due.nd rfl (.inl rfl) (ev_op op_mulT prim_mulT (ev_var rfl (.inl rfl)) (ev_ixV rfl (.inr (.inl rfl)) ev_int)) rfl)))
  (ess_cons (es_if (et_cmp (op_eqA hr.units) prim_eq (ev_var rfl (.inr (.inl rfl))) ev_int (nomark _)) (ess_one (es_ret (ev_tup (ef_cons (ev_tup (ef_cons ev_int (ef_cons ev_int ef_nil))) (ef_cons ev_non ef_nil))))) ess_nil)
  (ess_cons (es_setLcF (own := [(("reading" : Str), 5)]) rfl sc_law_due.nd rfl rfl (sw_true rfl rfl rfl (by decide +kernel)) (ei_rng1 (by rfl) T.b_range (ef_cons (ev_callB call_lenA prim_len.N (by rfl) T.b_len bt_len (ef_cons (ev_ixV rfl (.inr (.inl rfl)) ev_int) ef_nil)) ef_nil)) (blkOk_by (N := N_law_due) (sc := defScope s_law_due) (by decide +kernel)) (fun _ _ _ _ _ => (eg_name sc_law_due.nd rfl (by first | exact .inl rfl | exact .inr rfl) rfl)) (fun _ _ _ _ _ => ets_nil) (fun _ _ _ _ _ => (ev_call G_law_above (hr.mono (by decide)) (by rfl) g_law_above.gm g_law_above.kp g_law_above.bd takes_none5 (er_cons (ev_var rfl (.inr (.inl rfl))) (er_cons (ev_var rfl (.inr (.inl rfl))) (er_cons (ev_op op_addA prim_add (ev_var rfl (.inr (.inl rfl))) (ev_tup (ef_cons (ev_var rfl ((by first | exact .inl rfl | exact .inr (.inl rfl)))) ef_nil))) er_nil))) rfl rfl)) (hioOk rfl) (by decide) rfl)
  (ess_one (es_ret (ev_tup (ef_cons (ev_call G_law_lowest (hr.mono (by decide)) (by rfl) g_law_lowest.gm g_law_lowest.kp g_law_lowest.bd tk (er_cons (ev_var rfl (.inr (.inl rfl))) (er_cons (ev_var rfl (.inl rfl)) er_nil)) rfl rfl) (ef_cons (ev_callTy call_tuple_of prim_tup.N (by rfl) T.b_tuple bt_tuple (ef_cons (ev_lc (own := [(("part" : Str), 7)]) rfl sc_law_due.nd (ei_val (ev_var rfl (.inl rfl))) (blkOk_by (N := N_law_due) (sc := defScope s_law_due) (by decide +kernel)) (fun _ _ _ _ _ => (eg_name sc_law_due.nd rfl (by first | exact .inl rfl | exact .inr rfl) rfl)) (fun _ _ _ _ _ => ets_nil) (fun _ _ _ _ _ => (ev_call G_law_lowest (hr.mono (by decide)) (by rfl) g_law_lowest.gm g_law_lowest.kp g_law_lowest.bd takes_none5 (er_cons (ev_var rfl ((by first | exact .inl rfl | exact .inr (.inl rfl)))) (er_cons (ev_op op_mulT prim_mulT (ev_var rfl (.inr (.inl rfl))) (ev_ixV rfl (.inr (.inl rfl)) ev_int)) er_nil)) rfl rfl)) (hioOk rfl) (by decide)) ef_nil)) ef_nil))))))))))
theorem ok_law_fraction {f : Addr} {fd : FuncData} (T : Txt K mg) (F : L2.Fun K ("_law_fraction" : Str) ("_law_fraction" : Str) s_law_fraction f fd) : FnOk P w K mg base (L2.CX P w) 1 f fd [("told" : Str), ("due" : Str)] (spF K mg 2 [] d_law_fraction) := by
  refine fn_okT (k := 0) (N := N_law_fraction) F sc_law_fraction rfl (by decide) (fun cdv A outer s H E vv hr tk pp => ?_)
  exact (ess_one (es_ret (ev_and (ev_isi (by decide) (by rfl) T.b_isinstance (by rfl) T.b_tuple bt_tuple (ev_var rfl (.inl rfl))) (ev_and (ev_cmp (op_eqA hr.units) prim_eq (ev_callBV call_lenA prim_len (by rfl) T.b_len bt_len rfl (.inl rfl)) ev_int (nomark _)) (ev_and (ev_cmp (op_eqA hr.units) prim_eq (ev_callB call_lenA prim_len.N (by rfl) T.b_len bt_len (ef_cons (ev_lc (own := [(("number" : Str), 2)]) rfl sc_law_fraction.nd (ei_val (ev_var rfl (.inl rfl))) (blkOk_by (N := N_law_fraction) (sc := defScope s_law_fraction) (by decide +kernel)) (fun _ _ _ _ _ => (eg_name sc_law_fraction.nd rfl (by first | exact .inl rfl | exact .inr rfl) rfl)) (fun _ _ _ _ _ => (ets_one (Ew.et (ew_or (et_val (ev_isi (by decide) (by rfl) T.b_isinstance (by rfl) T.b_bool bt_bool (ev_var rfl ((by first | exact .inl rfl | exact .inr (.inl rfl)))))) (ew_or1 (et_not (et_val (ev_isi (by decide) (by rfl) T.b_isinstance (by rfl) T.b_int bt_int (ev_var rfl ((by first | exact .inl rfl | exact .inr (.inl rfl)))))))))))) (fun _ _ _ _ _ => ev_int) (hioOk rfl) (by decide)) ef_nil)) ev_int (nomark _)) (ev_one (ev_cmp (op_eqA hr.units) prim_eq (ev_var rfl (.inl rfl)) (ev_var rfl (.inl rfl)) (nomark _))))))))
theorem ok_law_asked {f : Addr} {fd : FuncData} (T : Txt K mg) (F : L2.Fun K ("_law_asked" : Str) ("_law_asked" : Str) s_law_asked f fd) : FnOk P w K mg base (L2.CX P w) 4 f fd [("keeper" : Str), ("prior" : Str), ("row" : Str)] (spF K mg 3 [] d_law_asked) := by
  obtain ⟨f_law_due, fd_law_due, g_law_due⟩ := T.f_law_due
  have G_law_due := ok_law_due (P := P) (w := w) (base := base) T g_law_due.F
  obtain ⟨f_law_fraction, fd_law_fraction, g_law_fraction⟩ := T.f_law_fraction
  have G_law_fraction := ok_law_fraction (P := P) (w := w) (base := base) T g_law_fraction.F
  obtain ⟨f_next_chances, fd_next_chances, g_next_chances⟩ := T.f_next_chances
  have G_next_chances := ok_next_chances (P := P) (w := w) (base := base) T g_next_chances.F
  obtain ⟨f_row_chance, fd_row_chance, g_row_chance⟩ := T.f_row_chance
  have G_row_chance := ok_row_chance (P := P) (w := w) (base := base) T g_row_chance.F
  refine fn_okT (k := 3) (N := N_law_asked) F sc_law_asked rfl (by decide) (fun cdv A outer s H E vv hr tk pp => ?_)
  exact (ess_cons (es_asg (ev_call G_law_due (hr.mono (by decide)) (by rfl) g_law_due.gm g_law_due.kp g_law_due.bd tk (er_cons (ev_var rfl (.inl rfl)) (er_cons (ev_var rfl (.inl rfl)) (er_cons (ev_var rfl (.inl rfl)) er_nil))) rfl rfl) (eg_tup rfl (egs_cons (eg_name sc_law_asked.nd rfl (.inl rfl) rfl) (egs_cons (eg_name sc_law_asked.nd rfl (.inr rfl) rfl) egs_nil)) rfl))
  (ess_cons (es_if (et_not (et_val (ev_call G_law_fraction (hr.mono (by decide)) (by rfl) g_law_fraction.gm g_law_fraction.kp g_law_fraction.bd tk (er_cons (ev_callK0 G_row_chance (hr.mono (by decide)) (by rfl) g_row_chance.gm g_row_chance.kp (kbinds_mk g_row_chance.F kb_row_chance_0 (by decide)) tk (ekw_cons (ev_var rfl (.inl rfl)) (ekw_cons (ev_var rfl (.inl rfl)) (ekw_cons (ev_var rfl (.inl rfl)) ekw_nil)))) (er_cons (ev_var rfl (.inl rfl)) er_nil)) rfl rfl))) (ess_one (es_ret (ev_neg ev_int))) ess_nil)
  (ess_cons (es_set sc_law_asked.nd rfl (.inr rfl) (ev_call G_next_chances (hr.mono (by decide)) (by rfl) g_next_chances.gm g_next_chances.kp g_next_chances.bd tk (er_cons (ev_var rfl (.inl rfl)) (er_cons (ev_var rfl (.inl rfl)) (er_cons (ev_var rfl (.inl rfl)) er_nil))) rfl rfl) rfl)
  (ess_cons (es_if (et_cmp op_isN prim_is (ev_var rfl (.inr (.inl rfl))) ev_non (nomark _)) (ess_one (es_ret (ev_if (et_cmp op_isN prim_is (ev_var rfl (.inr (.inl rfl))) ev_non (nomark _)) ev_int (ev_neg ev_int)))) ess_nil)
  (ess_cons (es_if (Ew.et (ew_or (et_not (et_val (ev_isi (by decide) (by rfl) T.b_isinstance (by rfl) T.b_tuple bt_tuple (ev_var rfl (.inr (.inl rfl)))))) (ew_or (et_cmp (op_neA hr.units) prim_ne (ev_callBV call_lenA prim_len (by rfl) T.b_len bt_len rfl (.inr (.inl rfl))) (ev_callBV call_lenA prim_len (by rfl) T.b_len bt_len rfl (.inr (.inl rfl))) (nomark _)) (ew_or1 (et_cmp op_gt prim_gt (ev_callB call_lenA prim_len.N (by rfl) T.b_len bt_len (ef_cons (ev_lc (own := [(("at" : Str), 6)]) rfl sc_law_asked.nd (ei_rng1 (by rfl) T.b_range (ef_cons (ev_callBV call_lenA prim_len (by rfl) T.b_len bt_len rfl (.inr (.inl rfl))) ef_nil)) (blkOk_by (N := N_law_asked) (sc := defScope s_law_asked) (by decide +kernel)) (fun _ _ _ _ _ => (eg_name sc_law_asked.nd rfl (by first | exact .inl rfl | exact .inr rfl) rfl)) (fun _ _ _ _ _ => (ets_one (et_not (et_val (ev_call G_law_fraction (hr.mono (by decide)) (by rfl) g_law_fraction.gm g_law_fraction.kp g_law_fraction.bd takes_none5 (er_cons (ev_ixV rfl (.inr (.inl rfl)) (ev_var rfl ((by first | exact .inl rfl | exact .inr (.inl rfl))))) (er_cons (ev_ixV rfl (.inr (.inl rfl)) (ev_var rfl ((by first | exact .inl rfl | exact .inr (.inl rfl))))) er_nil)) rfl rfl))))) (fun _ _ _ _ _ => ev_int) (hioOk rfl) (by decide)) ef_nil)) ev_int (nomark _)))))) (ess_one (es_ret (ev_neg ev_int))) ess_nil)
  (ess_one (es_ret ev_int)))))))
theorem ok_law_rows {f : Addr} {fd : FuncData} (T : Txt K mg) (F : L2.Fun K ("_law_rows" : Str) ("_law_rows" : Str) s_law_rows f fd) : FnOk P w K mg base (L2.CX P w) 1 f fd [("keeper" : Str), ("many" : Str)] (spF K mg 2 [] d_law_rows) := by
  refine fn_okT (k := 0) (N := N_law_rows) F sc_law_rows rfl (by decide) (fun cdv A outer s H E vv hr tk pp => ?_)
  exact (ess_cons (es_set sc_law_rows.nd rfl (.inl rfl) ((ev_lst (eo_cons (ev_tup ef_nil) eo_nil))).frz rfl)
  (ess_cons (es_for pp rfl (ei_rng1 (by rfl) T.b_range (ef_cons (ev_var rfl (.inl rfl)) ef_nil)) (eg_name sc_law_rows.nd rfl (.inl rfl) rfl) (ess_cons (es_set sc_law_rows.nd rfl (.inl rfl) ((ev_lst eo_nil)).frz rfl)
  (ess_cons (es_for pp rfl (ei_val (ev_var rfl (.inl rfl))) (eg_name sc_law_rows.nd rfl (.inr rfl) rfl) (ess_one (es_set sc_law_rows.nd rfl (.inl rfl) ((ev_op op_addA prim_add (ev_var rfl (.inl rfl)) (ev_lc (own := [(("reading" : Str), 6)]) rfl sc_law_rows.nd (ei_rng1 (by rfl) T.b_range (ef_cons (ev_callB call_lenA prim_len.N (by rfl) T.b_len bt_len (ef_cons (ev_ixV rfl (.inl rfl) ev_int) ef_nil)) ef_nil)) (blkOk_by (N := N_law_rows) (sc := defScope s_law_rows) (by decide +kernel)) (fun _ _ _ _ _ => (eg_name sc_law_rows.nd rfl (by first | exact .inl rfl | exact .inr rfl) rfl)) (fun _ _ _ _ _ => ets_nil) (fun _ _ _ _ _ => (ev_op op_addA prim_add (ev_var rfl (.inr (.inl rfl))) (ev_tup (ef_cons (ev_var rfl ((by first | exact .inl rfl | exact .inr (.inl rfl)))) ef_nil)))) (hioOk rfl) (by decide)))).frz rfl)))
  (ess_one (es_set sc_law_rows.nd rfl (.inl rfl) (ev_var rfl (.inl rfl)) rfl)))))
  (ess_one (es_ret (ev_var rfl (.inl rfl))))))
theorem ok_law_whole {f : Addr} {fd : FuncData} (T : Txt K mg) (F : L2.Fun K ("_law_whole" : Str) ("_law_whole" : Str) s_law_whole f fd) : FnOk P w K mg base (L2.CX P w) 4 f fd [("keeper" : Str), ("prior" : Str), ("many" : Str)] (spF K mg 3 [] d_law_whole) := by
  obtain ⟨f_law_due, fd_law_due, g_law_due⟩ := T.f_law_due
  have G_law_due := ok_law_due (P := P) (w := w) (base := base) T g_law_due.F
  obtain ⟨f_law_fraction, fd_law_fraction, g_law_fraction⟩ := T.f_law_fraction
  have G_law_fraction := ok_law_fraction (P := P) (w := w) (base := base) T g_law_fraction.F
  obtain ⟨f_law_rows, fd_law_rows, g_law_rows⟩ := T.f_law_rows
  have G_law_rows := ok_law_rows (P := P) (w := w) (base := base) T g_law_rows.F
  obtain ⟨f_row_chance, fd_row_chance, g_row_chance⟩ := T.f_row_chance
  have G_row_chance := ok_row_chance (P := P) (w := w) (base := base) T g_row_chance.F
  refine fn_okT (k := 3) (N := N_law_whole) F sc_law_whole rfl (by decide) (fun cdv A outer s H E vv hr tk pp => ?_)
  exact (ess_cons (es_set sc_law_whole.nd rfl (.inl rfl) (ev_callBV (call_sumA rfl) prim_sum (by rfl) T.b_sum bt_sum rfl (.inl rfl)) rfl)
  (ess_cons (es_for pp rfl (ei_rng1 (by rfl) T.b_range (ef_cons (ev_var rfl (.inl rfl)) ef_nil)) (eg_name sc_law_whole.nd rfl (.inl rfl) rfl) (ess_one (es_set sc_law_whole.nd rfl (.inl rfl) (ev_op op_mulT prim_mulT (ev_var rfl (.inl rfl)) (ev_ixV rfl (.inl rfl) ev_int)) rfl)))
  (ess_cons (es_set sc_law_whole.nd rfl (.inl rfl) ev_int rfl)
  (ess_cons (es_for pp rfl (ei_val (ev_call G_law_rows (hr.mono (by decide)) (by rfl) g_law_rows.gm g_law_rows.kp g_law_rows.bd tk (er_cons (ev_var rfl (.inl rfl)) (er_cons (ev_var rfl (.inl rfl)) er_nil)) rfl rfl)) (eg_name sc_law_whole.nd rfl (.inl rfl) rfl) (ess_cons (es_set sc_law_whole.nd rfl (.inl rfl) (ev_call G_row_chance (hr.mono (by decide)) (by rfl) g_row_chance.gm g_row_chance.kp g_row_chance.bd tk (er_cons (ev_var rfl (.inl rfl)) (er_cons (ev_var rfl (.inl rfl)) (er_cons (ev_var rfl (.inl rfl)) er_nil))) rfl rfl) rfl)
  (ess_cons (es_if (Ew.et (ew_or (et_not (et_val (ev_isi (by decide) (by rfl) T.b_isinstance (by rfl) T.b_tuple bt_tuple (ev_var rfl (.inl rfl))))) (ew_or (et_cmp (op_neA hr.units) prim_ne (ev_callBV call_lenA prim_len (by rfl) T.b_len bt_len rfl (.inl rfl)) ev_int (nomark _)) (ew_or1 (et_not (et_val (ev_call G_law_fraction (hr.mono (by decide)) (by rfl) g_law_fraction.gm g_law_fraction.kp g_law_fraction.bd tk (er_cons (ev_var rfl (.inl rfl)) (er_cons (ev_ix (ev_call G_law_due (hr.mono (by decide)) (by rfl) g_law_due.gm g_law_due.kp g_law_due.bd tk (er_cons (ev_var rfl (.inl rfl)) (er_cons (ev_var rfl (.inl rfl)) (er_cons (ev_var rfl (.inl rfl)) er_nil))) rfl rfl) ev_int) er_nil)) rfl rfl))))))) (ess_one (es_ret ev_bl)) ess_nil)
  (ess_one (es_set sc_law_whole.nd rfl (.inl rfl) (ev_op op_addA prim_add (ev_var rfl (.inl rfl)) (ev_op op_mulT prim_mulT (ev_ixV rfl (.inl rfl) ev_int) (ev_op op_fdivW prim_fdiv (ev_var rfl (.inl rfl)) (ev_ixV rfl (.inl rfl) ev_int)))) rfl)))))
  (ess_one (es_ret (ev_cmp (op_eqA hr.units) prim_eq (ev_var rfl (.inl rfl)) (ev_var rfl (.inl rfl)) (nomark _))))))))
theorem ok_law_step {f : Addr} {fd : FuncData} (T : Txt K mg) (F : L2.Fun K ("_law_step" : Str) ("_law_step" : Str) s_law_step f fd) : FnOk P w K mg base (L2.CX P w) 2 f fd [("jug" : Str), ("keeper" : Str), ("prior" : Str), ("many" : Str)] (spF K mg 4 [0] d_law_step) := by
  obtain ⟨f_law_pour, fd_law_pour, g_law_pour⟩ := T.f_law_pour
  have G_law_pour := ok_law_pour (P := P) (w := w) (base := base) T g_law_pour.F
  refine fn_okT (k := 1) (N := N_law_step) F sc_law_step rfl (by decide) (fun cdv A outer s H E vv hr tk pp => ?_)
  exact (ess_cons (es_set sc_law_step.nd rfl (.inl rfl) (ev_tup ef_nil) rfl)
  (ess_cons (es_set sc_law_step.nd rfl (.inr rfl) ((ev_lc (own := [(("case" : Str), 6)]) rfl sc_law_step.nd (ei_rng1 (by rfl) T.b_range (ef_cons (ev_callBV call_lenA prim_len (by rfl) T.b_len bt_len rfl (.inr (.inl rfl))) ef_nil)) (blkOk_by (N := N_law_step) (sc := defScope s_law_step) (by decide +kernel)) (fun _ _ _ _ _ => (eg_name sc_law_step.nd rfl (by first | exact .inl rfl | exact .inr rfl) rfl)) (fun _ _ _ _ _ => (ets_one (et_cmp op_gt prim_gt (ev_ixV rfl (.inr (.inl rfl)) (ev_var rfl ((by first | exact .inl rfl | exact .inr (.inl rfl))))) ev_int (nomark _)))) (fun _ _ _ _ _ => (ev_ix (ev_ixV rfl (.inr (.inl rfl)) ev_int) (ev_var rfl ((by first | exact .inl rfl | exact .inr (.inl rfl)))))) (hioOk rfl) (by decide))).frz rfl)
  (ess_cons (es_for pp rfl (ei_rng1 (by rfl) T.b_range (ef_cons (ev_var rfl (.inl rfl)) ef_nil)) (eg_name sc_law_step.nd rfl (.inl rfl) rfl) (ess_cons (es_set sc_law_step.nd rfl (.inr rfl) (ev_call G_law_pour (hr.mono (by decide)) (by rfl) g_law_pour.gm g_law_pour.kp g_law_pour.bd tk (er_io rfl (.inl rfl) (er_cons (ev_callB call_lenA prim_len.N (by rfl) T.b_len bt_len (ef_cons (ev_ixV rfl (.inr (.inl rfl)) ev_int) ef_nil)) er_nil)) rfl rfl) rfl)
  (ess_cons (es_setLcF (own := [(("turn" : Str), 11)]) rfl sc_law_step.nd rfl rfl (sw_true rfl rfl rfl (by decide +kernel)) (ei_rng1 (by rfl) T.b_range (ef_cons (ev_callB call_lenA prim_len.N (by rfl) T.b_len bt_len (ef_cons (ev_ixV rfl (.inr (.inl rfl)) ev_int) ef_nil)) ef_nil)) (blkOk_by (N := N_law_step) (sc := defScope s_law_step) (by decide +kernel)) (fun _ _ _ _ _ => (eg_name sc_law_step.nd rfl (by first | exact .inl rfl | exact .inr rfl) rfl)) (fun _ _ _ _ _ => ets_nil) (fun _ _ _ _ _ => (ev_op op_mod prim_mod (ev_callTy call_int1 prim_int.N (by rfl) T.b_int bt_int (ef_cons (ev_op op_addA prim_add (ev_var rfl (.inr (.inl rfl))) (ev_var rfl ((by first | exact .inl rfl | exact .inr (.inl rfl))))) ef_nil)) (ev_callB call_lenA prim_len.N (by rfl) T.b_len bt_len (ef_cons (ev_ixV rfl (.inr (.inl rfl)) ev_int) ef_nil)))) (hioOk rfl) (by decide) rfl)
  (ess_cons (es_set sc_law_step.nd rfl (.inr rfl) (ev_ix (ev_lc (own := [(("at" : Str), 13)]) rfl sc_law_step.nd (ei_val (ev_var rfl (.inl rfl))) (blkOk_by (N := N_law_step) (sc := defScope s_law_step) (by decide +kernel)) (fun _ _ _ _ _ => (eg_name sc_law_step.nd rfl (by first | exact .inl rfl | exact .inr rfl) rfl)) (fun _ _ _ _ _ => (ets_one (et_cmp op_gt prim_gt (ev_callB call_lenA prim_len.N (by rfl) T.b_len bt_len (ef_cons (ev_lc (own := [(("state" : Str), 14)]) rfl sc_law_step.nd (ei_val (ev_var rfl (.inr (.inl rfl)))) (blkOk_by (by with_unfolding_all rfl)) (fun _ _ _ _ _ => (eg_name sc_law_step.nd rfl (by first | exact .inl rfl | exact .inr rfl) rfl)) (fun _ _ _ _ _ => (ets_one (et_cmp op_gt prim_gt (ev_callB (call_sumA rfl) prim_sum.N (by rfl) T.b_sum bt_sum (ef_cons (ev_ix (ev_ix (ev_ixV rfl (.inr (.inl rfl)) ev_int) (ev_var rfl (.inr (.inl rfl)))) (ev_var rfl ((by first | exact .inl rfl | exact .inr (.inl rfl))))) ef_nil)) ev_int (nomark _)))) (fun _ _ _ _ _ => ev_int) (hioOk rfl) (by decide)) ef_nil)) ev_int (nomark _)))) (fun _ _ _ _ _ => (ev_var rfl ((by first | exact .inl rfl | exact .inr (.inl rfl))))) (hioOk rfl) (by decide)) ev_int) rfl)
  (ess_cons (es_set sc_law_step.nd rfl (.inr rfl) ((ev_lc (own := [(("to" : Str), 12)]) rfl sc_law_step.nd (ei_rng1 (by rfl) T.b_range (ef_cons (ev_callB call_lenA prim_len.N (by rfl) T.b_len bt_len (ef_cons (ev_ixV rfl (.inr (.inl rfl)) ev_int) ef_nil)) ef_nil)) (blkOk_by (N := N_law_step) (sc := defScope s_law_step) (by decide +kernel)) (fun _ _ _ _ _ => (eg_name sc_law_step.nd rfl (by first | exact .inl rfl | exact .inr rfl) rfl)) (fun _ _ _ _ _ => (ets_one (et_cmp op_gt prim_gt (ev_callB call_lenA prim_len.N (by rfl) T.b_len bt_len (ef_cons (ev_lc (own := [(("state" : Str), 14)]) rfl sc_law_step.nd (ei_val (ev_var rfl (.inr (.inl rfl)))) (blkOk_by (by with_unfolding_all rfl)) (fun _ _ _ _ _ => (eg_name sc_law_step.nd rfl (by first | exact .inl rfl | exact .inr rfl) rfl)) (fun _ _ _ _ _ => (ets_one (et_cmp op_gt prim_gt (ev_ix (ev_ix (ev_ix (ev_ixV rfl (.inr (.inl rfl)) ev_int) (ev_var rfl (.inr (.inl rfl)))) (ev_var rfl ((by first | exact .inl rfl | exact .inr (.inl rfl))))) (ev_var rfl (.inr (.inl rfl)))) ev_int (nomark _)))) (fun _ _ _ _ _ => ev_int) (hioOk rfl) (by decide)) ef_nil)) ev_int (nomark _)))) (fun _ _ _ _ _ => (ev_var rfl ((by first | exact .inl rfl | exact .inr (.inl rfl))))) (hioOk rfl) (by decide))).frz rfl)
  (ess_one (es_set sc_law_step.nd rfl (.inl rfl) (ev_op op_addA prim_add (ev_var rfl (.inl rfl)) (ev_tup (ef_cons (ev_var rfl (.inr (.inl rfl))) ef_nil))) rfl)))))))
  (ess_one (es_ret (ev_var rfl (.inl rfl)))))))
theorem ok_law {f : Addr} {fd : FuncData} (T : Txt K mg) (F : L2.Fun K ("law" : Str) ("law" : Str) s_law f fd) : FnOk P w K mg base (L2.CX P w) 5 f fd [("script" : Str)] (spF K mg 1 [] d_law) := by
  obtain ⟨f_law_asked, fd_law_asked, g_law_asked⟩ := T.f_law_asked
  have G_law_asked := ok_law_asked (P := P) (w := w) (base := base) T g_law_asked.F
  obtain ⟨f_law_before, fd_law_before, g_law_before⟩ := T.f_law_before
  have G_law_before := ok_law_before (P := P) (w := w) (base := base) T g_law_before.F
  obtain ⟨f_law_fraction, fd_law_fraction, g_law_fraction⟩ := T.f_law_fraction
  have G_law_fraction := ok_law_fraction (P := P) (w := w) (base := base) T g_law_fraction.F
  obtain ⟨f_law_jug, fd_law_jug, g_law_jug⟩ := T.f_law_jug
  have G_law_jug := ok_law_jug (P := P) (w := w) (base := base) T g_law_jug.F
  obtain ⟨f_law_made, fd_law_made, g_law_made⟩ := T.f_law_made
  have G_law_made := ok_law_made (P := P) (w := w) (base := base) T g_law_made.F
  obtain ⟨f_law_pour, fd_law_pour, g_law_pour⟩ := T.f_law_pour
  have G_law_pour := ok_law_pour (P := P) (w := w) (base := base) T g_law_pour.F
  obtain ⟨f_law_step, fd_law_step, g_law_step⟩ := T.f_law_step
  have G_law_step := ok_law_step (P := P) (w := w) (base := base) T g_law_step.F
  obtain ⟨f_law_tilt, fd_law_tilt, g_law_tilt⟩ := T.f_law_tilt
  have G_law_tilt := ok_law_tilt (P := P) (w := w) (base := base) T g_law_tilt.F
  obtain ⟨f_law_whole, fd_law_whole, g_law_whole⟩ := T.f_law_whole
  have G_law_whole := ok_law_whole (P := P) (w := w) (base := base) T g_law_whole.F
  obtain ⟨f_next_chances, fd_next_chances, g_next_chances⟩ := T.f_next_chances
  have G_next_chances := ok_next_chances (P := P) (w := w) (base := base) T g_next_chances.F
  obtain ⟨f_row_chance, fd_row_chance, g_row_chance⟩ := T.f_row_chance
  have G_row_chance := ok_row_chance (P := P) (w := w) (base := base) T g_row_chance.F
  refine fn_okT (k := 4) (N := N_law) F sc_law rfl (by decide) (fun cdv A outer s H E vv hr tk pp => ?_)
  exact (ess_cons (es_set sc_law.nd rfl (.inr rfl) (ev_call G_law_jug (hr.mono (by decide)) (by rfl) g_law_jug.gm g_law_jug.kp g_law_jug.bd tk (er_cons (ev_var rfl (.inl rfl)) er_nil) rfl rfl) rfl)
  (ess_cons (es_set sc_law.nd rfl (.inl rfl) ev_int rfl)
  (ess_cons (es_for pp rfl (ei_rng1 (by rfl) T.b_range (ef_cons ev_int ef_nil)) (eg_name sc_law.nd rfl (.inl rfl) rfl) (ess_cons (es_set sc_law.nd rfl (.inr rfl) (ev_call G_law_made (hr.mono (by decide)) (by rfl) g_law_made.gm g_law_made.kp g_law_made.bd tk (er_io rfl (.inr (.inl rfl)) er_nil) rfl rfl) rfl)
  (ess_cons (es_set sc_law.nd rfl (.inl rfl) (ev_call G_law_before (hr.mono (by decide)) (by rfl) g_law_before.gm g_law_before.kp g_law_before.bd tk (er_io rfl (.inr (.inl rfl)) (er_cons (ev_callB call_lenA prim_len.N (by rfl) T.b_len bt_len (ef_cons (ev_ixV rfl (.inr (.inl rfl)) ev_int) ef_nil)) er_nil)) rfl rfl) rfl)
  (ess_cons (es_set sc_law.nd rfl (.inl rfl) (ev_call G_law_step (hr.mono (by decide)) (by rfl) g_law_step.gm g_law_step.kp g_law_step.bd tk (er_io rfl (.inr (.inl rfl)) (er_cons (ev_var rfl (.inr (.inl rfl))) (er_cons (ev_var rfl (.inl rfl)) (er_cons (ev_call G_law_tilt (hr.mono (by decide)) (by rfl) g_law_tilt.gm g_law_tilt.kp g_law_tilt.bd tk (er_io rfl (.inr (.inl rfl)) (er_cons (ev_op op_addA prim_add ev_int (ev_var rfl (.inl rfl))) (er_cons ev_int er_nil))) rfl rfl) er_nil)))) rfl rfl) rfl)
  (ess_cons (es_set sc_law.nd rfl (.inl rfl) (ev_callTy call_tuple_of prim_tup.N (by rfl) T.b_tuple bt_tuple (ef_cons (ev_lc (own := [(("at" : Str), 8)]) rfl sc_law.nd (ei_rng1 (by rfl) T.b_range (ef_cons (ev_call G_law_pour (hr.mono (by decide)) (by rfl) g_law_pour.gm g_law_pour.kp g_law_pour.bd tk (er_io rfl (.inr (.inl rfl)) (er_cons ev_int er_nil)) rfl rfl) ef_nil)) (blkOk_by (N := N_law) (sc := defScope s_law) (by decide +kernel)) (fun _ _ _ _ _ => (eg_name sc_law.nd rfl (by first | exact .inl rfl | exact .inr rfl) rfl)) (fun _ _ _ _ _ => ets_nil) (fun _ _ _ _ _ => (ev_call G_law_pour (hr.mono (by decide)) (by rfl) g_law_pour.gm g_law_pour.kp g_law_pour.bd takes_none5 (er_io rfl (.inr (.inl rfl)) (er_cons (ev_callB call_lenA prim_len.N (by rfl) T.b_len bt_len (ef_cons (ev_ixV rfl (.inr (.inl rfl)) ev_int) ef_nil)) er_nil)) rfl rfl)) (hioOk rfl) (by decide)) ef_nil)) rfl)
  (ess_cons (es_if (Ew.et (ew_or (et_cmp (op_neA hr.units) prim_ne (ev_call G_law_asked (hr.mono (by decide)) (by rfl) g_law_asked.gm g_law_asked.kp g_law_asked.bd tk (er_cons (ev_var rfl (.inr (.inl rfl))) (er_cons (ev_var rfl (.inl rfl)) (er_cons (ev_var rfl (.inl rfl)) er_nil))) rfl rfl) ev_int (nomark _)) (ew_or1 (et_cmp (op_neA hr.units) prim_ne (ev_call G_law_asked (hr.mono (by decide)) (by rfl) g_law_asked.gm g_law_asked.kp g_law_asked.bd tk (er_cons (ev_var rfl (.inr (.inl rfl))) (er_cons (ev_var rfl (.inl rfl)) (er_cons (ev_tup ef_nil) er_nil))) rfl rfl) ev_int (nomark _))))) (ess_one (es_ret ev_bl)) ess_nil)
  (ess_cons (es_if (Ew.et (ew_or (et_cmp (op_ltA hr.units0) prim_ltT (ev_call G_law_asked (hr.mono (by decide)) (by rfl) g_law_asked.gm g_law_asked.kp g_law_asked.bd tk (er_cons (ev_var rfl (.inr (.inl rfl))) (er_cons (ev_var rfl (.inl rfl)) (er_cons (ev_var rfl (.inl rfl)) er_nil))) rfl rfl) ev_int (nomark _)) (ew_or1 (et_cmp (op_ltA hr.units0) prim_ltT (ev_call G_law_asked (hr.mono (by decide)) (by rfl) g_law_asked.gm g_law_asked.kp g_law_asked.bd tk (er_cons (ev_var rfl (.inr (.inl rfl))) (er_cons (ev_var rfl (.inl rfl)) (er_cons (ev_op op_addA prim_add (ev_op op_addA prim_add (ev_slV rfl (.inl rfl) eb_none (eb_some ev_int)) (ev_slV rfl (.inl rfl) eb_none (eb_some ev_int))) (ev_slV rfl (.inl rfl) (eb_some ev_int) (eb_some ev_int))) er_nil))) rfl rfl) ev_int (nomark _))))) (ess_one (es_ret ev_bl)) ess_nil)
  (ess_cons (es_set sc_law.nd rfl (.inl rfl) (ev_op op_addA prim_add (ev_var rfl (.inl rfl)) ev_int) rfl)
  (ess_one (es_if (Ew.et (ew_and (et_cmp (op_eqA hr.units) prim_eq (ev_var rfl (.inl rfl)) ev_int (nomark _)) (ew_and1 (et_not (et_val (ev_call G_law_whole (hr.mono (by decide)) (by rfl) g_law_whole.gm g_law_whole.kp g_law_whole.bd tk (er_cons (ev_var rfl (.inr (.inl rfl))) (er_cons (ev_var rfl (.inl rfl)) (er_cons (ev_ix (ev_tup (ef_cons ev_int (ef_cons ev_int (ef_cons ev_int (ef_cons ev_int ef_nil))))) (ev_op op_sub prim_sub (ev_callB call_lenA prim_len.N (by rfl) T.b_len bt_len (ef_cons (ev_ixV rfl (.inr (.inl rfl)) ev_int) ef_nil)) ev_int)) er_nil))) rfl rfl)))))) (ess_one (es_ret ev_bl)) ess_nil))))))))))
  (ess_cons (es_set sc_law.nd rfl (.inl rfl) (ev_if (et_cmp (op_eqA hr.units) prim_eq (ev_call G_law_pour (hr.mono (by decide)) (by rfl) g_law_pour.gm g_law_pour.kp g_law_pour.bd tk (er_io rfl (.inr (.inl rfl)) (er_cons ev_int er_nil)) rfl rfl) ev_int (nomark _)) ev_int (ev_if (et_cmp (op_eqA hr.units) prim_eq (ev_call G_law_pour (hr.mono (by decide)) (by rfl) g_law_pour.gm g_law_pour.kp g_law_pour.bd tk (er_io rfl (.inr (.inl rfl)) (er_cons ev_int er_nil)) rfl rfl) ev_int (nomark _)) ev_int ev_int)) rfl)
  (ess_cons (es_set sc_law.nd rfl (.inr rfl) (ev_call G_law_made (hr.mono (by decide)) (by rfl) g_law_made.gm g_law_made.kp g_law_made.bd tk (er_io rfl (.inr (.inl rfl)) er_nil) rfl rfl) rfl)
  (ess_cons (es_set sc_law.nd rfl (.inl rfl) (ev_call G_law_before (hr.mono (by decide)) (by rfl) g_law_before.gm g_law_before.kp g_law_before.bd tk (er_io rfl (.inr (.inl rfl)) (er_cons (ev_callB call_lenA prim_len.N (by rfl) T.b_len bt_len (ef_cons (ev_ixV rfl (.inr (.inl rfl)) ev_int) ef_nil)) er_nil)) rfl rfl) rfl)
  (ess_cons (es_if (et_cmp (op_neA hr.units) prim_ne (ev_call G_law_asked (hr.mono (by decide)) (by rfl) g_law_asked.gm g_law_asked.kp g_law_asked.bd tk (er_cons (ev_var rfl (.inr (.inl rfl))) (er_cons (ev_var rfl (.inl rfl)) (er_cons (ev_call G_law_step (hr.mono (by decide)) (by rfl) g_law_step.gm g_law_step.kp g_law_step.bd tk (er_io rfl (.inr (.inl rfl)) (er_cons (ev_var rfl (.inr (.inl rfl))) (er_cons (ev_var rfl (.inl rfl)) (er_cons (ev_var rfl (.inl rfl)) er_nil)))) rfl rfl) er_nil))) rfl rfl) ev_int (nomark _)) (ess_one (es_ret ev_bl)) ess_nil)
  (ess_cons (es_set sc_law.nd rfl (.inl rfl) (ev_op op_addA prim_add ev_int (ev_call G_law_pour (hr.mono (by decide)) (by rfl) g_law_pour.gm g_law_pour.kp g_law_pour.bd tk (er_io rfl (.inr (.inl rfl)) (er_cons ev_int er_nil)) rfl rfl)) rfl)
  (ess_cons (es_set sc_law.nd rfl (.inl rfl) (ev_tup (ef_cons ev_int (ef_cons ev_int (ef_cons (ev_tup (ef_cons ev_int (ef_cons ev_int ef_nil))) (ef_cons (ev_tup (ef_cons (ev_tup (ef_cons (ev_tup (ef_cons ev_int (ef_cons ev_int ef_nil))) (ef_cons (ev_tup (ef_cons ev_int (ef_cons ev_int ef_nil))) ef_nil))) (ef_cons (ev_tup (ef_cons (ev_tup (ef_cons ev_int (ef_cons ev_int ef_nil))) (ef_cons (ev_tup (ef_cons ev_int (ef_cons ev_int ef_nil))) ef_nil))) ef_nil))) (ef_cons (ev_tup (ef_cons ev_int (ef_cons ev_int ef_nil))) ef_nil)))))) rfl)
  (ess_cons (es_set sc_law.nd rfl (.inl rfl) (ev_tup (ef_cons (ev_call G_row_chance (hr.mono (by decide)) (by rfl) g_row_chance.gm g_row_chance.kp g_row_chance.bd tk (er_cons (ev_var rfl (.inl rfl)) (er_cons (ev_tup (ef_cons (ev_var rfl (.inl rfl)) (ef_cons (ev_var rfl (.inl rfl)) ef_nil))) (er_cons (ev_tup (ef_cons ev_int (ef_cons ev_int ef_nil))) er_nil))) rfl rfl) (ef_cons (ev_call G_next_chances (hr.mono (by decide)) (by rfl) g_next_chances.gm g_next_chances.kp g_next_chances.bd tk (er_cons (ev_var rfl (.inl rfl)) (er_cons (ev_tup (ef_cons (ev_var rfl (.inl rfl)) (ef_cons ev_int ef_nil))) (er_cons (ev_tup (ef_cons ev_int ef_nil)) er_nil))) rfl rfl) (ef_cons (ev_call G_next_chances (hr.mono (by decide)) (by rfl) g_next_chances.gm g_next_chances.kp g_next_chances.bd tk (er_cons (ev_var rfl (.inl rfl)) (er_cons (ev_tup (ef_cons ev_int (ef_cons (ev_var rfl (.inl rfl)) ef_nil))) (er_cons (ev_tup (ef_cons ev_int ef_nil)) er_nil))) rfl rfl) (ef_cons (ev_call G_row_chance (hr.mono (by decide)) (by rfl) g_row_chance.gm g_row_chance.kp g_row_chance.bd tk (er_cons (ev_var rfl (.inl rfl)) (er_cons (ev_tup (ef_cons ev_int (ef_cons ev_int ef_nil))) (er_cons (ev_tup (ef_cons ev_int (ef_cons ev_int (ef_cons ev_int ef_nil)))) er_nil))) rfl rfl) ef_nil))))) rfl)
  (ess_cons (es_for pp rfl (ei_val (ev_tup (ef_cons (ev_tup (ef_cons ev_int (ef_cons (ev_tup (ef_cons ev_int (ef_cons ev_int ef_nil))) ef_nil))) (ef_cons (ev_tup (ef_cons ev_int (ef_cons (ev_tup (ef_cons ev_int (ef_cons ev_int ef_nil))) ef_nil))) ef_nil)))) (eg_tup rfl (egs_cons (eg_name sc_law.nd rfl (.inl rfl) rfl) (egs_cons (eg_name sc_law.nd rfl (.inl rfl) rfl) egs_nil)) rfl) (ess_one (es_if (et_not (et_val (ev_call G_law_fraction (hr.mono (by decide)) (by rfl) g_law_fraction.gm g_law_fraction.kp g_law_fraction.bd tk (er_cons (ev_ixV rfl (.inl rfl) (ev_var rfl (.inl rfl))) (er_cons (ev_var rfl (.inl rfl)) er_nil)) rfl rfl))) (ess_one (es_ret ev_bl)) ess_nil)))
  (ess_cons (es_for pp rfl (ei_val (ev_tup (ef_cons (ev_tup (ef_cons ev_int (ef_cons (ev_tup (ef_cons (ev_tup (ef_cons ev_int (ef_cons ev_int ef_nil))) (ef_cons (ev_tup (ef_cons ev_int (ef_cons ev_int ef_nil))) ef_nil))) ef_nil))) (ef_cons (ev_tup (ef_cons ev_int (ef_cons (ev_tup (ef_cons (ev_tup (ef_cons ev_int (ef_cons ev_int ef_nil))) (ef_cons (ev_tup (ef_cons ev_int (ef_cons ev_int ef_nil))) ef_nil))) ef_nil))) ef_nil)))) (eg_tup rfl (egs_cons (eg_name sc_law.nd rfl (.inl rfl) rfl) (egs_cons (eg_name sc_law.nd rfl (.inl rfl) rfl) egs_nil)) rfl) (ess_one (es_if (Ew.et (ew_or (et_not (et_val (ev_isi (by decide) (by rfl) T.b_isinstance (by rfl) T.b_tuple bt_tuple (ev_ixV rfl (.inl rfl) (ev_var rfl (.inl rfl)))))) (ew_or (et_cmp (op_neA hr.units) prim_ne (ev_callB call_lenA prim_len.N (by rfl) T.b_len bt_len (ef_cons (ev_ixV rfl (.inl rfl) (ev_var rfl (.inl rfl))) ef_nil)) ev_int (nomark _)) (ew_or (et_not (et_val (ev_call G_law_fraction (hr.mono (by decide)) (by rfl) g_law_fraction.gm g_law_fraction.kp g_law_fraction.bd tk (er_cons (ev_ix (ev_ixV rfl (.inl rfl) (ev_var rfl (.inl rfl))) ev_int) (er_cons (ev_ixV rfl (.inl rfl) ev_int) er_nil)) rfl rfl))) (ew_or1 (et_not (et_val (ev_call G_law_fraction (hr.mono (by decide)) (by rfl) g_law_fraction.gm g_law_fraction.kp g_law_fraction.bd tk (er_cons (ev_ix (ev_ixV rfl (.inl rfl) (ev_var rfl (.inl rfl))) ev_int) (er_cons (ev_ixV rfl (.inl rfl) ev_int) er_nil)) rfl rfl)))))))) (ess_one (es_ret ev_bl)) ess_nil)))
  (ess_cons (es_if (Ew.et (ew_or (et_cmp (op_neA hr.units) prim_ne (ev_call G_law_asked (hr.mono (by decide)) (by rfl) g_law_asked.gm g_law_asked.kp g_law_asked.bd tk (er_cons (ev_var rfl (.inl rfl)) (er_cons (ev_tup (ef_cons (ev_var rfl (.inl rfl)) (ef_cons ev_int ef_nil))) (er_cons (ev_tup (ef_cons ev_int (ef_cons ev_int ef_nil))) er_nil))) rfl rfl) ev_int (nomark _)) (ew_or (et_cmp (op_neA hr.units) prim_ne (ev_call G_law_asked (hr.mono (by decide)) (by rfl) g_law_asked.gm g_law_asked.kp g_law_asked.bd tk (er_cons (ev_var rfl (.inl rfl)) (er_cons (ev_tup (ef_cons (ev_var rfl (.inl rfl)) (ef_cons ev_int ef_nil))) (er_cons (ev_tup (ef_cons ev_int ef_nil)) er_nil))) rfl rfl) ev_int (nomark _)) (ew_or1 (et_cmp (op_neA hr.units) prim_ne (ev_call G_law_asked (hr.mono (by decide)) (by rfl) g_law_asked.gm g_law_asked.kp g_law_asked.bd tk (er_cons (ev_var rfl (.inl rfl)) (er_cons (ev_tup (ef_cons (ev_var rfl (.inl rfl)) (ef_cons ev_int ef_nil))) (er_cons (ev_tup (ef_cons ev_int (ef_cons ev_int (ef_cons ev_int ef_nil)))) er_nil))) rfl rfl) ev_int (nomark _)))))) (ess_one (es_ret ev_bl)) ess_nil)
  (ess_one (es_ret (ev_cmp (op_eqA hr.units) prim_eq (ev_var rfl (.inl rfl)) ev_int (nomark _)))))))))))))))))
end
end G

set_option maxHeartbeats 4000000
namespace G
open PySem PySem.Spec PyProof.Rows L2 L3
local macro_rules | `(tactic| walk_at "l3 step") => `(tactic| (first | (with_reducible first | refine w_bk ?_ | refine w_ct ?_ | refine u_par ?_ | refine w_akw ?_ | refine w_revT ?_ | refine w_ien2 ?_ | refine w_bits ?_ | refine w_isx ?_ | refine w_isx2 ?_ | refine w_dnew ?_ | refine w_lstR ?_ | refine u_dget2 ?_ | refine u_dgetn ?_ | refine u_putD ?_ | refine w_seq ?_ | refine u_set ?_ | refine w_ret ?_ | refine w_if ?_ | refine w_drop ?_ | refine w_nx ?_ | refine w_retn ?_ | refine w_2 ?_ | refine w_t2 ?_ | refine w_c ?_ | refine u_v ?_ | refine u_of ?_ | refine w_tand ?_ | refine w_tor ?_ | refine w_tnot ?_ | refine u_and ?_ | refine u_or ?_ | refine u_not ?_ | refine w_ifx ?_ | refine w_nil ?_ | refine w_cons ?_ | refine w_consO ?_ | refine w_tup ?_ | refine w_lst ?_ | refine w_n ?_ | refine u_n1v ?_ | refine w_isi ?_ | refine u_neg ?_ | refine w_chain ?_ | refine u_ixc ?_ | refine u_ixs ?_ | refine u_fz ?_ | refine u_mv ?_ | refine w_anil ?_ | refine w_acons ?_ | refine u_aio ?_ | refine w_call ?_ | refine u_aug ?_ | refine w_asg ?_ | refine w_iv ?_ | refine w_ir ?_ | refine w_ien ?_ | refine w_yes ?_ | refine w_bno ?_ | refine u_bso ?_ | refine w_sl ?_ | refine u_slv ?_ | refine w_frz ?_ | refine u_app ?_ | refine u_ext ?_ | refine u_popAt ?_ | refine u_put ?_ | refine w_raise ?_ | refine w_try ?_ | refine w_fnil ?_ | refine w_fcons ?_) | ((with_reducible show Osat (rngOf _) _); first | ((with_reducible show Osat (rngOf [_]) _); refine o_rng (by omega) (by first | omega | (rw [List.length_map]; omega)) ?_) | ((with_reducible show Osat (rngOf [_, _]) _); refine o_rng2 (by omega) (by omega) (by omega) (by omega) ?_)) | ((with_reducible show Osat (repP _ _) _); first | refine o_mul (by omega) ?_ | refine o_mul' (by omega) ?_) | ((with_reducible show Osat (modP _ _) _); refine o_mod (by omega) ?_) | ((with_reducible show Osat (fdivP _ _) _); refine o_fdiv (by omega) (by omega) ?_) | ((fail_if_success with_reducible show Osat (rngOf _) _); (fail_if_success with_reducible show Osat (repP _ _) _); (fail_if_success with_reducible show Osat (idxV _ _) _); (first | (with_reducible show Osat (idxP _ (frzP (PV.int (OfNat.ofNat _)))) _) | (fail_if_success with_reducible show Osat (idxP _ _) _)); (first | (with_reducible show Osat (ixN _ (OfNat.ofNat _)) _) | (fail_if_success with_reducible show Osat (ixN _ _) _)); (with_reducible show Osat _ _); first | (apply Osat.of; rfl) | refine o_slotN rfl (by assumption) ?_ | refine o_tupM (ints_flat _) ?_) | ((with_reducible show ite (_ = true) _ _); first | refine if_t rfl ?_ | refine if_f rfl ?_)))
local macro_rules | `(tactic| walk_at "l3 norm") => `(tactic| (try simp only [List.set_cons_zero, List.set_cons_succ, List.map_cons, List.map_nil, List.replicate_zero, List.replicate_succ, List.length_cons, List.length_nil, frzP, List.cons_append, List.nil_append, Nat.reduceAdd, Nat.reduceSub, Nat.zero_add]))
def Jug (j : PV) : Prop := ∃ (s c : Int) (l : List Int), j = .mls [.int s, .int c, .lst (l.map .int)] ∧ l ≠ []
theorem max_one {m : Int} (h : 0 < m) : (if m > 1 then m else 1) = m := by split <;> omega
theorem pour_wp {j : PV} {m : Int} {P : PV → List PV → Prop} {E : XV → List PV → Prop} (hj : Jug j) (hm : 0 < m) (k : ∀ r j', Jug j' → 0 ≤ r → r < m → P (.int r) [j']) : (d_law_pour [j, .int m]).sat P E := by
  obtain ⟨s, c, l, rfl, hl⟩ := hj
  have hlen : 0 < (l.map PV.int).length := by rw [List.length_map]; exact List.length_pos_iff.mpr hl
  refine w_run ?_
  (walk_at "l3 norm")
  unfold b_law_pour
  (repeat walk_at "l3 step")
  refine o_ixAny (l := l.map .int) (.inl rfl) rfl (Int.emod_nonneg _ (by omega)) (Int.emod_lt_of_pos _ (by omega)) fun x hx => ?_
  obtain ⟨n, _, rfl⟩ := List.mem_map.mp hx
  (repeat walk_at "l3 step")
  rw [max_one hm]
  (repeat walk_at "l3 step")
  exact k _ _ ⟨_, _, _, rfl, hl⟩ (Int.emod_nonneg _ (by omega)) (Int.emod_lt_of_pos _ hm)
theorem tilt_wp {j : PV} {p : Nat} {m : Int} {P : PV → List PV → Prop} {E : XV → List PV → Prop} (hj : Jug j) (hp : p ≤ 100) (hm : 0 < m) (k : ∀ r j', Jug j' → 0 ≤ r → r < m → P (.int r) [j']) : (d_law_tilt [j, .int (p : Int), .int m]).sat P E := by
  have hj0 := hj
  obtain ⟨s, c, l, rfl, hl⟩ := hj
  have hlen : 0 < (l.map PV.int).length := by rw [List.length_map]; exact List.length_pos_iff.mpr hl
  refine w_run ?_
  (walk_at "l3 norm")
  unfold b_law_tilt
  (repeat walk_at "l3 step")
  refine o_ixAny (l := l.map .int) (.inl rfl) rfl (Int.le_refl 0) (by omega) fun x hx => ?_
  obtain ⟨n, _, rfl⟩ := List.mem_map.mp hx
  (repeat walk_at "l3 step")
  refine o_ixAny (l := l.map .int) (r := (((l.map PV.int).length : Nat) : Int) / 3) (.inl rfl) rfl (by omega) (by omega) fun x hx => ?_
  obtain ⟨n2, _, rfl⟩ := List.mem_map.mp hx
  (repeat walk_at "l3 step")
  (walk_at "l3 norm")
  generalize hw : (n / ((p : Int) + 2) + n2 + (p : Int) * 3) % 7 = w
  have w0 : 0 ≤ w := by rw [← hw]; exact Int.emod_nonneg _ (by omega)
  (repeat walk_at "l3 step")
  refine if_b (fun hb => ?_) (fun hb => ?_)
  · have hb : decide (w < 2) = true := hb
    rw [decide_eq_true_eq] at hb
    (repeat walk_at "l3 step")
    rw [max_one hm]
    (repeat walk_at "l3 step")
    have h2 : w = 0 ∨ w = 1 := by omega
    rcases h2 with rfl | rfl
    · (repeat walk_at "l3 step")
      exact k _ _ hj0 (by omega) (by omega)
    · (repeat walk_at "l3 step")
      exact k _ _ hj0 (by omega) (by omega)
  · (repeat walk_at "l3 step")
    refine pour_wp hj0 hm fun r j' hj' q1 q2 => ?_
    (repeat walk_at "l3 step")
    exact k _ _ hj' q1 q2
theorem jug_wp {ns : List Int} {P : PV → List PV → Prop} {E : XV → List PV → Prop} (hns : ns.length ≤ 63) (k : ∀ j', Jug j' → P j' []) : (d_law_jug [.scr (ns.map .int)]).sat P E := by
  refine w_run ?_
  (walk_at "l3 norm")
  unfold b_law_jug
  (repeat walk_at "l3 step")
  refine u_lcx ns PV.int (fun n => .int (n % 30011)) ?_
  (repeat walk_at "l3 step")
  refine ⟨rfl, by omega, by show 2 < 4; decide, fun x hx => by (repeat walk_at "l3 step"); exact ⟨rfl, rfl⟩, ?_⟩
  (repeat walk_at "l3 step")
  refine o_catLI (a := ns.map fun n => n % 30011) (b := [2]) ?_ rfl (by rw [List.length_map]; show _ + 1 ≤ _; omega) ?_
  · show PV.lst (frzL _) = _
    rw [map_two (fun (n : Int) => n % 30011) PV.int, frzL_ints]
  (repeat walk_at "l3 step")
  generalize hl : (ns.map (fun n => n % 30011) ++ [2]) = l
  have hl0 : l ≠ [] := by rw [← hl]; simp
  (walk_at "l3 norm")
  rw [frzL_ints]
  (repeat walk_at "l3 step")
  refine w_for ?_
  (repeat walk_at "l3 step")
  refine ⟨fun i e => ∃ (s : Int) (a : Option PV), e = [some (.scr (ns.map .int)), some (.lst (l.map .int)), a, some (.int s)], ⟨_, _, rfl⟩, ?_, ?_⟩
  · rintro i p e hi ⟨s, a, rfl⟩
    obtain ⟨n, _, rfl⟩ := ints_get hi
    (repeat walk_at "l3 step")
    exact ⟨_, _, rfl⟩
  · rintro e ⟨s, a, rfl⟩
    (repeat walk_at "l3 step")
    exact k _ ⟨_, _, _, rfl, hl0⟩
end G

set_option maxHeartbeats 4000000
namespace G
open PySem PySem.Spec PyProof.Rows L2 L3
local macro_rules | `(tactic| walk_at "l3 step") => `(tactic| (first | (with_reducible first | refine w_bk ?_ | refine w_ct ?_ | refine u_par ?_ | refine w_akw ?_ | refine w_revT ?_ | refine w_ien2 ?_ | refine w_bits ?_ | refine w_isx ?_ | refine w_isx2 ?_ | refine w_dnew ?_ | refine w_lstR ?_ | refine u_dget2 ?_ | refine u_dgetn ?_ | refine u_putD ?_ | refine w_seq ?_ | refine u_set ?_ | refine w_ret ?_ | refine w_if ?_ | refine w_drop ?_ | refine w_nx ?_ | refine w_retn ?_ | refine w_2 ?_ | refine w_t2 ?_ | refine w_c ?_ | refine u_v ?_ | refine u_of ?_ | refine w_tand ?_ | refine w_tor ?_ | refine w_tnot ?_ | refine u_and ?_ | refine u_or ?_ | refine u_not ?_ | refine w_ifx ?_ | refine w_nil ?_ | refine w_cons ?_ | refine w_consO ?_ | refine w_tup ?_ | refine w_lst ?_ | refine w_n ?_ | refine u_n1v ?_ | refine w_isi ?_ | refine u_neg ?_ | refine w_chain ?_ | refine u_ixc ?_ | refine u_ixs ?_ | refine u_fz ?_ | refine u_mv ?_ | refine w_anil ?_ | refine w_acons ?_ | refine u_aio ?_ | refine w_call ?_ | refine u_aug ?_ | refine w_asg ?_ | refine w_iv ?_ | refine w_ir ?_ | refine w_ien ?_ | refine w_yes ?_ | refine w_bno ?_ | refine u_bso ?_ | refine w_sl ?_ | refine u_slv ?_ | refine w_frz ?_ | refine u_app ?_ | refine u_ext ?_ | refine u_popAt ?_ | refine u_put ?_ | refine w_raise ?_ | refine w_try ?_ | refine w_fnil ?_ | refine w_fcons ?_) | ((with_reducible show Osat (rngOf _) _); first | ((with_reducible show Osat (rngOf [_]) _); refine o_rng (by omega) (by first | omega | (rw [List.length_map]; omega)) ?_) | ((with_reducible show Osat (rngOf [_, _]) _); refine o_rng2 (by omega) (by omega) (by omega) (by omega) ?_)) | ((with_reducible show Osat (repP _ _) _); first | refine o_mul (by omega) ?_ | refine o_mul' (by omega) ?_) | ((with_reducible show Osat (modP _ _) _); refine o_mod (by omega) ?_) | ((with_reducible show Osat (fdivP _ _) _); refine o_fdiv (by omega) (by omega) ?_) | ((fail_if_success with_reducible show Osat (rngOf _) _); (fail_if_success with_reducible show Osat (repP _ _) _); (fail_if_success with_reducible show Osat (idxV _ _) _); (first | (with_reducible show Osat (idxP _ (frzP (PV.int (OfNat.ofNat _)))) _) | (fail_if_success with_reducible show Osat (idxP _ _) _)); (first | (with_reducible show Osat (ixN _ (OfNat.ofNat _)) _) | (fail_if_success with_reducible show Osat (ixN _ _) _)); (with_reducible show Osat _ _); first | (apply Osat.of; rfl) | refine o_slotN rfl (by assumption) ?_ | refine o_tupM (ints_flat _) ?_) | ((with_reducible show ite (_ = true) _ _); first | refine if_t rfl ?_ | refine if_f rfl ?_)))
local macro_rules | `(tactic| walk_at "l3 norm") => `(tactic| (try simp only [List.set_cons_zero, List.set_cons_succ, List.map_cons, List.map_nil, List.replicate_zero, List.replicate_succ, List.length_cons, List.length_nil, frzP, List.cons_append, List.nil_append, Nat.reduceAdd, Nat.reduceSub, Nat.zero_add]))
/-! ### sums -/
def sumF (g : Nat → Int) (n : Nat) : Int := ((List.range n).map g).sum
theorem sumF_succ (g : Nat → Int) (n : Nat) : sumF g (n + 1) = sumF g n + g n := by
  unfold sumF
  rw [List.range_succ, List.map_append, List.sum_append]
  simp
theorem sumF_zero' (g : Nat → Int) : sumF g 0 = 0 := rfl
theorem sumF_ext {g h : Nat → Int} : ∀ n, (∀ i, i < n → g i = h i) → sumF g n = sumF h n
  | 0, _ => rfl
  | n + 1, e => by rw [sumF_succ, sumF_succ, sumF_ext n fun i hi => e i (by omega), e n (by omega)]
theorem sumF_getD {l : List Int} : ∀ n, n ≤ l.length → sumF (fun t => l.getD t 0) n = (l.take n).sum
  | 0, _ => rfl
  | n + 1, h => by
    rw [sumF_succ, sumF_getD n (by omega), List.take_succ, List.getElem?_eq_getElem (by omega : n < l.length), List.sum_append, List.getD_eq_getElem?_getD, List.getElem?_eq_getElem (by omega : n < l.length)]
    simp
theorem sumF_all {l : List Int} {n : Nat} (h : l.length = n) : sumF (fun t => l.getD t 0) n = l.sum := by
  rw [sumF_getD n (by omega), List.take_of_length_le (by omega)]
theorem sumF_add {f g : Nat → Int} : ∀ n, sumF (fun i => f i + g i) n = sumF f n + sumF g n
  | 0 => rfl
  | n + 1 => by rw [sumF_succ, sumF_succ, sumF_succ, sumF_add n]; omega
theorem sumF_mul {c : Int} {g : Nat → Int} : ∀ n, sumF (fun i => c * g i) n = c * sumF g n
  | 0 => by rw [sumF_zero', sumF_zero', Int.mul_zero]
  | n + 1 => by rw [sumF_succ, sumF_succ, sumF_mul n, Int.mul_add]
theorem sumF_mulr {c : Int} {g : Nat → Int} (n : Nat) : sumF (fun i => g i * c) n = sumF g n * c := by
  rw [Int.mul_comm, ← sumF_mul]
  exact sumF_ext n fun i _ => Int.mul_comm _ _
theorem sumF_zero : ∀ n, sumF (fun _ => 0) n = 0
  | 0 => rfl
  | n + 1 => by rw [sumF_succ, sumF_zero n]; rfl
theorem sumF_swap {f : Nat → Nat → Int} {m : Nat} : ∀ n, sumF (fun i => sumF (fun j => f i j) m) n = sumF (fun j => sumF (fun i => f i j) n) m
  | 0 => (sumF_zero m).symm
  | n + 1 => by
    rw [sumF_succ, sumF_swap n, ← sumF_add]
    exact sumF_ext m fun j _ => (sumF_succ (fun i => f i j) n).symm
theorem sumF_pos {g : Nat → Int} : ∀ n, (∀ i, i < n → 0 ≤ g i) → 0 ≤ sumF g n
  | 0, _ => Int.le_refl 0
  | n + 1, h => by
    rw [sumF_succ]
    have := sumF_pos n fun i hi => h i (by omega)
    have := h n (by omega)
    omega
theorem sumF_le {g : Nat → Int} : ∀ n, (∀ i, i < n → 0 ≤ g i) → ∀ j, j < n → g j ≤ sumF g n
  | 0, _, j, hj => by omega
  | n + 1, h, j, hj => by
    rw [sumF_succ]
    have h1 := sumF_pos n fun i hi => h i (by omega)
    have h2 := h n (by omega)
    by_cases e : j = n
    · subst e; omega
    · have := sumF_le n (fun i hi => h i (by omega)) j (by omega)
      omega
theorem sumF_mono {f g : Nat → Int} : ∀ n, (∀ i, i < n → f i ≤ g i) → sumF f n ≤ sumF g n
  | 0, _ => Int.le_refl 0
  | n + 1, h => by
    rw [sumF_succ, sumF_succ]
    have := sumF_mono n fun i hi => h i (by omega)
    have := h n (by omega)
    omega
theorem sumF_some {g : Nat → Int} : ∀ n, 0 < sumF g n → ∃ i, i < n ∧ 0 < g i
  | 0, h => by rw [sumF_zero'] at h; omega
  | n + 1, h => by
    rw [sumF_succ] at h
    by_cases e : 0 < g n
    · exact ⟨n, by omega, e⟩
    · obtain ⟨i, h1, h2⟩ := sumF_some (g := g) n (by omega)
      exact ⟨i, by omega, h2⟩
theorem sumF_one {a : Nat} {v : Int} : ∀ n, sumF (fun i => if a = i then v else 0) n = if a < n then v else 0
  | 0 => by rw [if_neg (by omega)]; rfl
  | n + 1 => by
    rw [sumF_succ, sumF_one n]
    by_cases h : a = n
    · rw [if_pos h, if_neg (by omega), if_pos (by omega)]; omega
    · rw [if_neg h]
      by_cases h2 : a < n
      · rw [if_pos h2, if_pos (by omega)]; omega
      · rw [if_neg h2, if_neg (by omega)]; rfl
/-! ### keepers -/
theorem tI_no' (l : List Int) : isOwn (tI l) = false := rfl
def tTab (t : List (List Int)) : PV := .tup (t.map tI)
theorem tTab_no (l : List (List Int)) : isOwn (tTab l) = false := rfl
structure KData where
  d : Int
  kd : Int
  starts : List Int
  moves : List (List (List Int))
  reports : List Int
def KData.pv (K : KData) : PV := .tup [.int K.d, .int K.kd, tI K.starts, .tup (K.moves.map tTab), tI K.reports]
def num (K : KData) (i s t : Nat) : Int := ((K.moves.getD i []).getD s []).getD t 0
structure KOk (K : KData) (n r : Nat) : Prop where
  hn : K.reports.length = n
  hr : K.moves.length = r
  n0 : 1 ≤ n
  n8 : n ≤ 8
  r1 : 1 ≤ r
  r4 : r ≤ 4
  c0 : 1 ≤ K.starts.length
  c8 : K.starts.length ≤ 8
  d0 : 1 ≤ K.d
  d6 : K.d ≤ 1000000
  tab : ∀ t, t ∈ K.moves → t.length = n ∧ ∀ row, row ∈ t → row.length = n ∧ ∀ x, x ∈ row → 0 ≤ x
  st : ∀ x, x ∈ K.starts → 0 ≤ x ∧ x < n
  rows : ∀ s, s < n → sumF (fun i => sumF (num K i s) n) r = K.d
theorem start_at {K : KData} {n r c : Nat} (hK : KOk K n r) (hc : c < K.starts.length) : ∃ s : Nat, K.starts.getD c 0 = (s : Int) ∧ s < n := by
  have h := hK.st (K.starts.getD c 0) (by rw [List.getD_eq_getElem?_getD, List.getElem?_eq_getElem hc]; exact List.getElem_mem hc)
  exact ⟨(K.starts.getD c 0).toNat, by omega, by omega⟩
theorem mv_at {K : KData} {n r i s : Nat} (hK : KOk K n r) (hi : i < r) (hs : s < n) : i < K.moves.length ∧ (K.moves.getD i []).length = n ∧ ((K.moves.getD i []).getD s []).length = n ∧ ∀ x, x ∈ (K.moves.getD i []).getD s [] → 0 ≤ x := by
  have hr := hK.hr
  have h1 : i < K.moves.length := by omega
  obtain ⟨h2, h3⟩ := hK.tab (K.moves.getD i []) (by rw [List.getD_eq_getElem?_getD, List.getElem?_eq_getElem h1]; exact List.getElem_mem h1)
  have h4 : s < (K.moves.getD i []).length := by omega
  obtain ⟨h5, h6⟩ := h3 ((K.moves.getD i []).getD s []) (by rw [List.getD_eq_getElem?_getD (l := K.moves.getD i []), List.getElem?_eq_getElem h4]; exact List.getElem_mem h4)
  exact ⟨h1, h2, h5, h6⟩
theorem num_pos {K : KData} {n r i s t : Nat} (hK : KOk K n r) (hi : i < r) (hs : s < n) (ht : t < n) : 0 ≤ num K i s t := by
  obtain ⟨_, _, h3, h4⟩ := mv_at hK hi hs
  have h5 : t < ((K.moves.getD i []).getD s []).length := by omega
  exact h4 _ (by unfold num; rw [List.getD_eq_getElem?_getD (l := (K.moves.getD i []).getD s []), List.getElem?_eq_getElem h5]; exact List.getElem_mem h5)
theorem num_le {K : KData} {n r i s t : Nat} (hK : KOk K n r) (hi : i < r) (hs : s < n) (ht : t < n) : num K i s t ≤ 1000000 := by
  have h1 := sumF_le n (fun t ht => num_pos hK hi hs ht) t ht
  have h2 := sumF_le r (fun i hi => sumF_pos n (fun t ht => num_pos hK hi hs ht)) i hi
  rw [hK.rows s hs] at h2
  have := hK.d6
  omega
/-! ### weights ahead and worths -/
def fw (K : KData) (n : Nat) (w : Nat → Int) (i : Nat) : Nat → Int := fun t => sumF (fun s => w s * num K i s t) n
def fwd (K : KData) (n : Nat) : (Nat → Int) → List Nat → Nat → Int
  | w, [] => w
  | w, i :: row => fwd K n (fw K n w i) row
def worth (K : KData) (n : Nat) : List Nat → Nat → Int
  | [], _ => 1
  | i :: row, s => sumF (fun t => num K i s t * worth K n row t) n
theorem fwd_snoc {K : KData} {n : Nat} : ∀ {row : List Nat} {w : Nat → Int} {i : Nat}, fwd K n w (row ++ [i]) = fw K n (fwd K n w row) i
  | [], _, _ => rfl
  | _ :: row, _, _ => fwd_snoc (row := row)
theorem dual {K : KData} {n : Nat} : ∀ (row : List Nat) (w : Nat → Int), sumF (fwd K n w row) n = sumF (fun s => w s * worth K n row s) n
  | [], w => sumF_ext n fun s _ => (Int.mul_one _).symm
  | i :: row, w => by
    show sumF (fwd K n (fw K n w i) row) n = _
    rw [dual row (fw K n w i)]
    have e1 : sumF (fun t => fw K n w i t * worth K n row t) n = sumF (fun t => sumF (fun s => w s * num K i s t * worth K n row t) n) n := sumF_ext n fun t _ => (sumF_mulr n).symm
    rw [e1, sumF_swap]
    refine sumF_ext n fun s _ => ?_
    show _ = w s * sumF (fun t => num K i s t * worth K n row t) n
    rw [← sumF_mul]
    exact sumF_ext n fun t _ => Int.mul_assoc _ _ _
def Row (r : Nat) (row : List Nat) : Prop := ∀ i, i ∈ row → i < r
theorem fw_pos {K : KData} {n r i : Nat} {w : Nat → Int} (hK : KOk K n r) (hi : i < r) (hw : ∀ s, s < n → 0 ≤ w s) : ∀ t, t < n → 0 ≤ fw K n w i t := fun t ht =>
  sumF_pos n fun s hs => Int.mul_nonneg (hw s hs) (num_pos hK hi hs ht)
theorem fwd_pos {K : KData} {n r : Nat} (hK : KOk K n r) : ∀ {row : List Nat} {w : Nat → Int}, Row r row → (∀ s, s < n → 0 ≤ w s) → ∀ s, s < n → 0 ≤ fwd K n w row s
  | [], _, _, hw => hw
  | i :: row, _, hr, hw => fwd_pos hK (row := row) (fun j hj => hr j (List.mem_cons_of_mem _ hj)) (fw_pos hK (hr i List.mem_cons_self) hw)
theorem fw_total {K : KData} {n r : Nat} {w : Nat → Int} (hK : KOk K n r) : sumF (fun i => sumF (fw K n w i) n) r = sumF w n * K.d := by
  have e1 : ∀ i, i < r → sumF (fw K n w i) n = sumF (fun s => w s * sumF (num K i s) n) n := fun i _ => by
    show sumF (fun t => sumF (fun s => w s * num K i s t) n) n = _
    rw [sumF_swap]
    exact sumF_ext n fun s _ => sumF_mul n
  rw [sumF_ext r e1, sumF_swap, ← sumF_mulr]
  refine sumF_ext n fun s hs => ?_
  show sumF (fun i => w s * sumF (num K i s) n) r = w s * K.d
  rw [sumF_mul, hK.rows s hs]
theorem fw_le {K : KData} {n r i : Nat} {w : Nat → Int} (hK : KOk K n r) (hi : i < r) (hw : ∀ s, s < n → 0 ≤ w s) : sumF (fw K n w i) n ≤ sumF w n * K.d := by
  rw [← fw_total hK]
  exact sumF_le r (fun i hi => sumF_pos n (fw_pos hK hi hw)) i hi
def pw (d : Nat) : Nat → Nat
  | 0 => 1
  | i + 1 => pw d i * d
theorem fwd_le {K : KData} {n r : Nat} (hK : KOk K n r) : ∀ {row : List Nat} {w : Nat → Int}, Row r row → (∀ s, s < n → 0 ≤ w s) → sumF (fwd K n w row) n ≤ sumF w n * (pw K.d.toNat row.length : Nat)
  | [], _, _, hw => by show _ ≤ _ * ((1 : Nat) : Int); rw [Int.natCast_one, Int.mul_one]; exact Int.le_refl _
  | i :: row, w, hr, hw => by
    have hi := hr i List.mem_cons_self
    have h1 := fwd_le hK (row := row) (fun j hj => hr j (List.mem_cons_of_mem _ hj)) (fw_pos hK hi hw)
    have h2 := fw_le hK hi hw
    have hd := hK.d0
    refine Int.le_trans h1 ?_
    show _ ≤ _ * ((pw K.d.toNat row.length * K.d.toNat : Nat) : Int)
    rw [Int.natCast_mul, show ((K.d.toNat : Nat) : Int) = K.d by omega, ← Int.mul_assoc, Int.mul_assoc, Int.mul_comm _ K.d, ← Int.mul_assoc]
    exact Int.mul_le_mul_of_nonneg_right h2 (by omega)
def w0 (K : KData) (p : List Int) : Nat → Int := fun s => sumF (fun c => if (K.starts.getD c 0).toNat = s then p.getD c 0 else 0) K.starts.length
structure POk (K : KData) (p : List Int) : Prop where
  len : p.length = K.starts.length
  pos : ∀ x, x ∈ p → 0 ≤ x ∧ x ≤ 1000000
  one : 0 < p.sum
theorem p_at {K : KData} {p : List Int} {c : Nat} (hp : POk K p) (hc : c < K.starts.length) : 0 ≤ p.getD c 0 ∧ p.getD c 0 ≤ 1000000 := by
  have h : c < p.length := by rw [hp.len]; exact hc
  exact hp.pos _ (by rw [List.getD_eq_getElem?_getD, List.getElem?_eq_getElem h]; exact List.getElem_mem h)
theorem w0_dual {K : KData} {n r : Nat} {p : List Int} (hK : KOk K n r) (g : Nat → Int) : sumF (fun s => w0 K p s * g s) n = sumF (fun c => p.getD c 0 * g (K.starts.getD c 0).toNat) K.starts.length := by
  have e1 : ∀ s, s < n → w0 K p s * g s = sumF (fun c => (if (K.starts.getD c 0).toNat = s then p.getD c 0 else 0) * g s) K.starts.length := fun s _ => (sumF_mulr _).symm
  rw [sumF_ext n e1, sumF_swap]
  refine sumF_ext _ fun c hc => ?_
  obtain ⟨s, h1, h2⟩ := start_at hK hc
  have e2 : ∀ t, t < n → (if (K.starts.getD c 0).toNat = t then p.getD c 0 else 0) * g t = if s = t then p.getD c 0 * g s else 0 := fun t _ => by
    rw [h1, Int.toNat_natCast]
    by_cases e : s = t
    · rw [if_pos e, if_pos e, e]
    · rw [if_neg e, if_neg e, Int.zero_mul]
  rw [sumF_ext n e2, sumF_one, if_pos h2, h1, Int.toNat_natCast]
theorem w0_pos {K : KData} {p : List Int} (hp : POk K p) (s : Nat) : 0 ≤ w0 K p s := sumF_pos _ fun c hc => by
  split
  · exact (p_at hp hc).1
  · exact Int.le_refl 0
theorem w0_sum {K : KData} {n r : Nat} {p : List Int} (hK : KOk K n r) (hp : POk K p) : sumF (w0 K p) n = p.sum := by
  have h := w0_dual (p := p) hK (fun _ => 1)
  simp only [Int.mul_one] at h
  rw [h]
  exact sumF_all hp.len
/-- the weight of a row -/
def W (K : KData) (n : Nat) (p : List Int) (row : List Nat) : Int := sumF (fwd K n (w0 K p) row) n
theorem W_above {K : KData} {n r : Nat} {p : List Int} (hK : KOk K n r) (row : List Nat) : W K n p row = sumF (fun c => p.getD c 0 * worth K n row (K.starts.getD c 0).toNat) K.starts.length := by
  unfold W
  rw [dual, w0_dual hK]
theorem W_pos {K : KData} {n r : Nat} {p : List Int} {row : List Nat} (hK : KOk K n r) (hp : POk K p) (hr : Row r row) : 0 ≤ W K n p row := sumF_pos n (fwd_pos hK hr fun s _ => w0_pos hp s)
theorem W_le {K : KData} {n r : Nat} {p : List Int} {row : List Nat} (hK : KOk K n r) (hp : POk K p) (hr : Row r row) : W K n p row ≤ p.sum * (pw K.d.toNat row.length : Nat) := by
  have h := fwd_le hK (w := w0 K p) hr fun s _ => w0_pos hp s
  rw [w0_sum hK hp] at h
  exact h
theorem W_nil {K : KData} {n r : Nat} {p : List Int} (hK : KOk K n r) (hp : POk K p) : W K n p [] = p.sum := w0_sum hK hp
theorem W_all {K : KData} {n r : Nat} {p : List Int} {row : List Nat} (hK : KOk K n r) : sumF (fun i => W K n p (row ++ [i])) r = W K n p row * K.d := by
  have e : ∀ i, i < r → W K n p (row ++ [i]) = sumF (fw K n (fwd K n (w0 K p) row) i) n := fun i _ => by
    unfold W
    rw [fwd_snoc]
  rw [sumF_ext r e, fw_total hK]
  rfl
def rowsL (r : Nat) : Nat → List (List Nat)
  | 0 => [[]]
  | m + 1 => (rowsL r m).flatMap fun row => (List.range r).map fun i => row ++ [i]
theorem rowsL_sum {K : KData} {n r : Nat} {p : List Int} (hK : KOk K n r) (hp : POk K p) : ∀ m, ((rowsL r m).map (W K n p)).sum = p.sum * (pw K.d.toNat m : Nat)
  | 0 => by
    show W K n p [] + 0 = p.sum * ((1 : Nat) : Int)
    rw [W_nil hK hp]
    omega
  | m + 1 => by
    have hd := hK.d0
    have ih := rowsL_sum hK hp m
    have e : ∀ L : List (List Nat), ((L.flatMap fun row => (List.range r).map fun i => row ++ [i]).map (W K n p)).sum = (L.map (W K n p)).sum * K.d := by
      intro L
      induction L with
      | nil => simp
      | cons row L ihL =>
        rw [List.flatMap_cons, List.map_append, List.sum_append, ihL, List.map_cons, List.sum_cons, Int.add_mul, ← W_all hK (row := row), List.map_map]
        rfl
    show (((rowsL r m).flatMap fun row => (List.range r).map fun i => row ++ [i]).map (W K n p)).sum = p.sum * ((pw K.d.toNat m * K.d.toNat : Nat) : Int)
    rw [e, ih, Int.natCast_mul, show ((K.d.toNat : Nat) : Int) = K.d by omega, Int.mul_assoc]
theorem rowsL_ok {r : Nat} : ∀ m row, row ∈ rowsL r m → Row r row ∧ row.length = m
  | 0, row, h => by
    rw [List.mem_singleton.mp h]
    exact ⟨(by intro i hi; cases hi), rfl⟩
  | m + 1, row, h => by
    obtain ⟨row0, h0, h1⟩ := List.mem_flatMap.mp h
    obtain ⟨i, hi, rfl⟩ := List.mem_map.mp h1
    obtain ⟨h2, h3⟩ := rowsL_ok m row0 h0
    have hi := List.mem_range.mp hi
    exact ⟨fun j hj => (List.mem_append.mp hj).elim (h2 j) fun z => by rw [List.mem_singleton.mp z]; exact hi, by rw [List.length_append, h3]; rfl⟩
theorem fw_some {K : KData} {n r i s t : Nat} {w : Nat → Int} (hK : KOk K n r) (hi : i < r) (hw : ∀ s, s < n → 0 ≤ w s) (hs : s < n) (ht : t < n) (h1 : 0 < w s) (h2 : 0 < num K i s t) : 0 < fw K n w i t := by
  have h := sumF_le n (g := fun s => w s * num K i s t) (fun s hs => Int.mul_nonneg (hw s hs) (num_pos hK hi hs ht)) s hs
  have h3 : 0 < w s * num K i s t := Int.mul_pos h1 h2
  exact Int.lt_of_lt_of_le h3 h
end G

set_option maxHeartbeats 4000000
namespace G
open PySem PySem.Spec PyProof.Rows L2 L3
local macro_rules | `(tactic| walk_at "l3 step") => `(tactic| (first | (with_reducible first | refine w_bk ?_ | refine w_ct ?_ | refine u_par ?_ | refine w_akw ?_ | refine w_revT ?_ | refine w_ien2 ?_ | refine w_bits ?_ | refine w_isx ?_ | refine w_isx2 ?_ | refine w_dnew ?_ | refine w_lstR ?_ | refine u_dget2 ?_ | refine u_dgetn ?_ | refine u_putD ?_ | refine w_seq ?_ | refine u_set ?_ | refine w_ret ?_ | refine w_if ?_ | refine w_drop ?_ | refine w_nx ?_ | refine w_retn ?_ | refine w_2 ?_ | refine w_t2 ?_ | refine w_c ?_ | refine u_v ?_ | refine u_of ?_ | refine w_tand ?_ | refine w_tor ?_ | refine w_tnot ?_ | refine u_and ?_ | refine u_or ?_ | refine u_not ?_ | refine w_ifx ?_ | refine w_nil ?_ | refine w_cons ?_ | refine w_consO ?_ | refine w_tup ?_ | refine w_lst ?_ | refine w_n ?_ | refine u_n1v ?_ | refine w_isi ?_ | refine u_neg ?_ | refine w_chain ?_ | refine u_ixc ?_ | refine u_ixs ?_ | refine u_fz ?_ | refine u_mv ?_ | refine w_anil ?_ | refine w_acons ?_ | refine u_aio ?_ | refine w_call ?_ | refine u_aug ?_ | refine w_asg ?_ | refine w_iv ?_ | refine w_ir ?_ | refine w_ien ?_ | refine w_yes ?_ | refine w_bno ?_ | refine u_bso ?_ | refine w_sl ?_ | refine u_slv ?_ | refine w_frz ?_ | refine u_app ?_ | refine u_ext ?_ | refine u_popAt ?_ | refine u_put ?_ | refine w_raise ?_ | refine w_try ?_ | refine w_fnil ?_ | refine w_fcons ?_) | ((with_reducible show Osat (rngOf _) _); first | ((with_reducible show Osat (rngOf [_]) _); refine o_rng (by omega) (by first | omega | (rw [List.length_map]; omega)) ?_) | ((with_reducible show Osat (rngOf [_, _]) _); refine o_rng2 (by omega) (by omega) (by omega) (by omega) ?_)) | ((with_reducible show Osat (repP _ _) _); first | refine o_mul (by omega) ?_ | refine o_mul' (by omega) ?_) | ((with_reducible show Osat (modP _ _) _); refine o_mod (by omega) ?_) | ((with_reducible show Osat (fdivP _ _) _); refine o_fdiv (by omega) (by omega) ?_) | ((fail_if_success with_reducible show Osat (rngOf _) _); (fail_if_success with_reducible show Osat (repP _ _) _); (fail_if_success with_reducible show Osat (idxV _ _) _); (first | (with_reducible show Osat (idxP _ (frzP (PV.int (OfNat.ofNat _)))) _) | (fail_if_success with_reducible show Osat (idxP _ _) _)); (first | (with_reducible show Osat (ixN _ (OfNat.ofNat _)) _) | (fail_if_success with_reducible show Osat (ixN _ _) _)); (with_reducible show Osat _ _); first | (apply Osat.of; rfl) | refine o_slotN rfl (by assumption) ?_ | refine o_tupM (ints_flat _) ?_) | ((with_reducible show ite (_ = true) _ _); first | refine if_t rfl ?_ | refine if_f rfl ?_)))
local macro_rules | `(tactic| walk_at "l3 norm") => `(tactic| (try simp only [List.set_cons_zero, List.set_cons_succ, List.map_cons, List.map_nil, List.replicate_zero, List.replicate_succ, List.length_cons, List.length_nil, frzP, List.cons_append, List.nil_append, Nat.reduceAdd, Nat.reduceSub, Nat.zero_add]))
/-! ### divisors -/
def eu (A B : Nat) : Nat → Nat × Nat
  | 0 => (A, B)
  | i + 1 => if 0 < (eu A B i).2 then ((eu A B i).2, (eu A B i).1 % (eu A B i).2) else eu A B i
theorem eu_gcd {A B : Nat} : ∀ i, Nat.gcd (eu A B i).1 (eu A B i).2 = Nat.gcd A B
  | 0 => rfl
  | i + 1 => by
    have ih := eu_gcd (A := A) (B := B) i
    unfold eu
    split
    · rw [← ih]
      show Nat.gcd (eu A B i).2 ((eu A B i).1 % (eu A B i).2) = Nat.gcd (eu A B i).1 (eu A B i).2
      rw [Nat.gcd_comm _ ((eu A B i).1 % (eu A B i).2), ← Nat.gcd_rec (eu A B i).2 (eu A B i).1, Nat.gcd_comm]
    · exact ih
theorem eu_two {A B : Nat} (i : Nat) : 2 * (eu A B (i + 2)).2 ≤ (eu A B i).2 := by
  have e1 : eu A B (i + 1) = if 0 < (eu A B i).2 then ((eu A B i).2, (eu A B i).1 % (eu A B i).2) else eu A B i := rfl
  have e2 : eu A B (i + 2) = if 0 < (eu A B (i + 1)).2 then ((eu A B (i + 1)).2, (eu A B (i + 1)).1 % (eu A B (i + 1)).2) else eu A B (i + 1) := rfl
  generalize eu A B i = p at e1
  rw [e2, e1]
  by_cases h : 0 < p.2
  · rw [if_pos h]
    by_cases h2 : 0 < p.1 % p.2
    · rw [if_pos h2]
      show 2 * (p.2 % (p.1 % p.2)) ≤ p.2
      have h3 : p.1 % p.2 < p.2 := Nat.mod_lt _ h
      have h4 := Nat.mod_lt p.2 h2
      have h5 := Nat.div_add_mod p.2 (p.1 % p.2)
      have h6 : 1 ≤ p.2 / (p.1 % p.2) := (Nat.one_le_div_iff h2).mpr (Nat.le_of_lt h3)
      have h7 : (p.1 % p.2) * 1 ≤ (p.1 % p.2) * (p.2 / (p.1 % p.2)) := Nat.mul_le_mul_left _ h6
      omega
    · rw [if_neg h2]
      show 2 * (p.1 % p.2) ≤ p.2
      omega
  · rw [if_neg h, if_neg h]
    omega
theorem eu_half {A B : Nat} : ∀ k, (eu A B (2 * k)).2 * 2 ^ k ≤ B
  | 0 => by show B * 2 ^ 0 ≤ B; omega
  | k + 1 => by
    have ih := eu_half (A := A) (B := B) k
    have h := eu_two (A := A) (B := B) (2 * k)
    rw [Nat.mul_succ, Nat.pow_succ]
    have e : (eu A B (2 * k + 2)).2 * (2 ^ k * 2) = 2 * (eu A B (2 * k + 2)).2 * 2 ^ k := by rw [Nat.mul_comm (2 ^ k) 2, ← Nat.mul_assoc, Nat.mul_comm _ 2]
    rw [e]
    exact Nat.le_trans (Nat.mul_le_mul_right _ h) ih
theorem eu_end {A B k : Nat} (h : B < 2 ^ k) : (eu A B (2 * k + 2)).2 = 0 := by
  have h1 := eu_half (A := A) (B := B) k
  have h2 := eu_two (A := A) (B := B) (2 * k)
  have h3 : (eu A B (2 * k)).2 = 0 := by
    cases e : (eu A B (2 * k)).2 with
    | zero => rfl
    | succ m =>
      rw [e] at h1
      have : 1 * 2 ^ k ≤ (m + 1) * 2 ^ k := Nat.mul_le_mul_right _ (by omega)
      omega
  omega
def lowV (a b : Nat) : PV := .tup [.int ((a : Int) / (Nat.gcd a b : Nat)), .int ((b : Int) / (Nat.gcd a b : Nat))]
theorem gcd_lt {a b : Nat} (h : 0 < b) (h2 : b < 2 ^ 8999) : 0 < ((Nat.gcd a b : Nat) : Int) ∧ ((Nat.gcd a b : Nat) : Int).natAbs < 2 ^ 8999 := by
  have h3 := Nat.gcd_pos_of_pos_right a h
  have h4 := Nat.gcd_le_right a h
  refine ⟨by omega, ?_⟩
  rw [Int.natAbs_natCast]
  exact Nat.lt_of_le_of_lt h4 h2
theorem lowest_wp {a b : Nat} {P : PV → List PV → Prop} {E : XV → List PV → Prop} (h : 0 < b) (h2 : b < 2 ^ 8999) (k : P (lowV a b) []) : (d_lowest [.int (a : Int), .int (b : Int)]).sat P E := by
  obtain ⟨g1, g2⟩ := gcd_lt (a := a) h h2
  refine w_run ?_
  (walk_at "l3 norm")
  unfold b_lowest
  (repeat walk_at "l3 step")
  rw [Int.natAbs_natCast, Int.natAbs_natCast]
  refine o_fdivW g1 g2 ?_
  (repeat walk_at "l3 step")
  refine o_fdivW g1 g2 ?_
  (repeat walk_at "l3 step")
  exact k
theorem law_lowest_wp {a b : Nat} {P : PV → List PV → Prop} {E : XV → List PV → Prop} (h : 0 < b) (h2 : b < 2 ^ 8999) (k : P (lowV a b) []) : (d_law_lowest [.int (a : Int), .int (b : Int)]).sat P E := by
  obtain ⟨g1, g2⟩ := gcd_lt (a := a) h h2
  refine w_run ?_
  (walk_at "l3 norm")
  unfold b_law_lowest
  (repeat walk_at "l3 step")
  refine w_for ?_
  (repeat walk_at "l3 step")
  refine ⟨fun i e => ∃ x4, e = [some (.int (a : Int)), some (.int (b : Int)), some (.int ((eu a b i).1 : Nat)), some (.int ((eu a b i).2 : Nat)), x4], ⟨none, rfl⟩, ?_, ?_⟩
  · rintro i p e hi ⟨x4, rfl⟩
    have hi2 := (intsR_get hi).2
    subst hi2
    clear hi
    have e1 : eu a b (i + 1) = if 0 < (eu a b i).2 then ((eu a b i).2, (eu a b i).1 % (eu a b i).2) else eu a b i := rfl
    (repeat walk_at "l3 step")
    refine if_b (fun hb => ?_) (fun hb => ?_)
    · have hb : decide ((((eu a b i).2 : Nat) : Int) = 0) = true := hb
      rw [decide_eq_true_eq] at hb
      have hb2 : (eu a b i).2 = 0 := by omega
      have eg := eu_gcd (A := a) (B := b) i
      rw [hb2, Nat.gcd_zero_right] at eg
      rw [eg]
      (repeat walk_at "l3 step")
      refine o_fdivW g1 g2 ?_
      (repeat walk_at "l3 step")
      refine o_fdivW g1 g2 ?_
      (repeat walk_at "l3 step")
      exact k
    · have hb : decide ((((eu a b i).2 : Nat) : Int) = 0) = false := hb
      rw [decide_eq_false_iff_not] at hb
      have hb2 : 0 < (eu a b i).2 := by omega
      (repeat walk_at "l3 step")
      show ∃ x4 : Option PV, _ = ([some (PV.int (a : Int)), some (PV.int (b : Int)), some (PV.int ((eu a b (i + 1)).1 : Nat)), some (PV.int ((eu a b (i + 1)).2 : Nat)), x4] : L3.Env)
      rw [e1, if_pos hb2]
      exact ⟨_, rfl⟩
  · rintro e ⟨x4, rfl⟩
    rw [intsR_len]
    have e0 := eu_end (A := a) (B := b) (k := 99999) (Nat.lt_of_lt_of_le h2 (Nat.pow_le_pow_right (by omega) (by omega)))
    have eq : (200000 : Int).toNat = 2 * 99999 + 2 := by omega
    rw [eq]
    have eg := eu_gcd (A := a) (B := b) (2 * 99999 + 2)
    rw [e0, Nat.gcd_zero_right] at eg
    rw [eg]
    clear e0 eg eq
    (repeat walk_at "l3 step")
    refine o_fdivW g1 g2 ?_
    (repeat walk_at "l3 step")
    refine o_fdivW g1 g2 ?_
    (repeat walk_at "l3 step")
    exact k
theorem pw_le {d : Nat} (h1 : 1 ≤ d) (h : d ≤ 1000000) : ∀ i, 1 ≤ pw d i ∧ pw d i ≤ 2 ^ (20 * i)
  | 0 => ⟨Nat.le_refl _, Nat.le_refl _⟩
  | i + 1 => by
    obtain ⟨h2, h3⟩ := pw_le h1 h i
    refine ⟨Nat.mul_pos h2 h1, ?_⟩
    show pw d i * d ≤ 2 ^ (20 * i + 20)
    rw [Nat.pow_add]
    exact Nat.mul_le_mul h3 (Nat.le_trans h (by decide))
theorem big_lt {i : Nat} (h : i ≤ 400) : 2 ^ (20 * i) < 2 ^ 8999 := Nat.pow_lt_pow_right (by decide) (by omega)
theorem power_wp {d m : Nat} {P : PV → List PV → Prop} {E : XV → List PV → Prop} (h : d ≤ 1000000) (hm : m ≤ 400) (k : P (.int (pw d m : Nat)) []) : (d_power [.int (d : Int), .int (m : Int)]).sat P E := by
  refine w_run ?_
  (walk_at "l3 norm")
  unfold b_power
  (repeat walk_at "l3 step")
  refine w_for ?_
  (repeat walk_at "l3 step")
  refine ⟨fun i e => ∃ x, e = [some (.int (d : Int)), some (.int (m : Int)), some (.int (pw d i : Nat)), x], ⟨_, rfl⟩, ?_, ?_⟩
  · rintro i p e hi ⟨x, rfl⟩
    (repeat walk_at "l3 step")
    rw [show ((pw d i : Nat) : Int) * (d : Int) = ((pw d (i + 1) : Nat) : Int) from (Int.natCast_mul _ _).symm]
    exact ⟨_, rfl⟩
  · rintro e ⟨x, rfl⟩
    rw [intsR_len]
    (repeat walk_at "l3 step")
    rw [Int.toNat_natCast]
    exact k
def lowI (a b : Int) : PV := lowV a.toNat b.toNat
theorem lowestI_wp {a b : Int} {P : PV → List PV → Prop} {E : XV → List PV → Prop} (h0 : 0 ≤ a) (h : 0 < b) (h2 : b < 2 ^ 8999) (k : P (lowI a b) []) : (d_lowest [.int a, .int b]).sat P E := by
  have e1 : a = (a.toNat : Int) := by omega
  have e2 : b = (b.toNat : Int) := by omega
  unfold lowI at k
  generalize a.toNat = x at *
  generalize b.toNat = y at *
  subst e1
  subst e2
  refine lowest_wp (by omega) ?_ k
  have e3 : ((2 ^ 8999 : Nat) : Int) = (2 : Int) ^ 8999 := Int.natCast_pow _ _
  rw [← e3] at h2
  exact Int.ofNat_lt.mp h2
theorem law_lowestI_wp {a b : Int} {P : PV → List PV → Prop} {E : XV → List PV → Prop} (h0 : 0 ≤ a) (h : 0 < b) (h2 : b < 2 ^ 8999) (k : P (lowI a b) []) : (d_law_lowest [.int a, .int b]).sat P E := by
  have e1 : a = (a.toNat : Int) := by omega
  have e2 : b = (b.toNat : Int) := by omega
  unfold lowI at k
  generalize a.toNat = x at *
  generalize b.toNat = y at *
  subst e1
  subst e2
  refine law_lowest_wp (by omega) ?_ k
  have e3 : ((2 ^ 8999 : Nat) : Int) = (2 : Int) ^ 8999 := Int.natCast_pow _ _
  rw [← e3] at h2
  exact Int.ofNat_lt.mp h2
end G

set_option maxHeartbeats 4000000
namespace G
open PySem PySem.Spec PyProof.Rows L2 L3
local macro_rules | `(tactic| walk_at "l3 step") => `(tactic| (first | (with_reducible first | refine w_bk ?_ | refine w_ct ?_ | refine u_par ?_ | refine w_akw ?_ | refine w_revT ?_ | refine w_ien2 ?_ | refine w_bits ?_ | refine w_isx ?_ | refine w_isx2 ?_ | refine w_dnew ?_ | refine w_lstR ?_ | refine u_dget2 ?_ | refine u_dgetn ?_ | refine u_putD ?_ | refine w_seq ?_ | refine u_set ?_ | refine w_ret ?_ | refine w_if ?_ | refine w_drop ?_ | refine w_nx ?_ | refine w_retn ?_ | refine w_2 ?_ | refine w_t2 ?_ | refine w_c ?_ | refine u_v ?_ | refine u_of ?_ | refine w_tand ?_ | refine w_tor ?_ | refine w_tnot ?_ | refine u_and ?_ | refine u_or ?_ | refine u_not ?_ | refine w_ifx ?_ | refine w_nil ?_ | refine w_cons ?_ | refine w_consO ?_ | refine w_tup ?_ | refine w_lst ?_ | refine w_n ?_ | refine u_n1v ?_ | refine w_isi ?_ | refine u_neg ?_ | refine w_chain ?_ | refine u_ixc ?_ | refine u_ixs ?_ | refine u_fz ?_ | refine u_mv ?_ | refine w_anil ?_ | refine w_acons ?_ | refine u_aio ?_ | refine w_call ?_ | refine u_aug ?_ | refine w_asg ?_ | refine w_iv ?_ | refine w_ir ?_ | refine w_ien ?_ | refine w_yes ?_ | refine w_bno ?_ | refine u_bso ?_ | refine w_sl ?_ | refine u_slv ?_ | refine w_frz ?_ | refine u_app ?_ | refine u_ext ?_ | refine u_popAt ?_ | refine u_put ?_ | refine w_raise ?_ | refine w_try ?_ | refine w_fnil ?_ | refine w_fcons ?_) | ((with_reducible show Osat (rngOf _) _); first | ((with_reducible show Osat (rngOf [_]) _); refine o_rng (by omega) (by first | omega | (rw [List.length_map]; omega)) ?_) | ((with_reducible show Osat (rngOf [_, _]) _); refine o_rng2 (by omega) (by omega) (by omega) (by omega) ?_)) | ((with_reducible show Osat (repP _ _) _); first | refine o_mul (by omega) ?_ | refine o_mul' (by omega) ?_) | ((with_reducible show Osat (modP _ _) _); refine o_mod (by omega) ?_) | ((with_reducible show Osat (fdivP _ _) _); refine o_fdiv (by omega) (by omega) ?_) | ((fail_if_success with_reducible show Osat (rngOf _) _); (fail_if_success with_reducible show Osat (repP _ _) _); (fail_if_success with_reducible show Osat (idxV _ _) _); (first | (with_reducible show Osat (idxP _ (frzP (PV.int (OfNat.ofNat _)))) _) | (fail_if_success with_reducible show Osat (idxP _ _) _)); (first | (with_reducible show Osat (ixN _ (OfNat.ofNat _)) _) | (fail_if_success with_reducible show Osat (ixN _ _) _)); (with_reducible show Osat _ _); first | (apply Osat.of; rfl) | refine o_slotN rfl (by assumption) ?_ | refine o_tupM (ints_flat _) ?_) | ((with_reducible show ite (_ = true) _ _); first | refine if_t rfl ?_ | refine if_f rfl ?_)))
local macro_rules | `(tactic| walk_at "l3 norm") => `(tactic| (try simp only [List.set_cons_zero, List.set_cons_succ, List.map_cons, List.map_nil, List.replicate_zero, List.replicate_succ, List.length_cons, List.length_nil, frzP, List.cons_append, List.nil_append, Nat.reduceAdd, Nat.reduceSub, Nat.zero_add]))
def nI (n : Nat) : PV := .int (n : Int)
def tabF (f : Nat → Int) (n : Nat) : List Int := (List.range n).map f
theorem tabF_len {f : Nat → Int} {n : Nat} : (tabF f n).length = n := by unfold tabF; rw [List.length_map, List.length_range]
theorem tabF_getD {f : Nat → Int} {n i : Nat} (h : i < n) : (tabF f n).getD i 0 = f i := by
  unfold tabF
  rw [List.getD_eq_getElem?_getD, List.getElem?_map, List.getElem?_range h]
  rfl
theorem tabF_sum {f : Nat → Int} {n : Nat} : (tabF f n).sum = sumF f n := rfl
theorem tabF_ext {f g : Nat → Int} {n : Nat} (h : ∀ i, i < n → f i = g i) : tabF f n = tabF g n := by
  unfold tabF
  exact List.map_congr_left fun i hi => h i (List.mem_range.mp hi)
theorem tabF_at {f : Nat → Int} {n i : Nat} : (tabF f n)[i]? = if i < n then some (f i) else none := by
  unfold tabF
  rw [List.getElem?_map]
  by_cases h : i < n
  · rw [List.getElem?_range h, if_pos h]; rfl
  · rw [List.getElem?_eq_none_iff.mpr (by rw [List.length_range]; omega), if_neg h]; rfl
theorem tabF_set {f : Nat → Int} {n s : Nat} {v : Int} (h : s < n) : (tabF f n).set s v = tabF (fun t => if s = t then v else f t) n := by
  refine List.ext_getElem? fun i => ?_
  rw [List.getElem?_set, tabF_at, tabF_at, tabF_len]
  by_cases e : s = i
  · subst e
    rw [if_pos rfl, if_pos h, if_pos h, if_pos rfl]
  · rw [if_neg e, if_neg e]
theorem tabF_zero {n : Nat} : List.replicate n (0 : Int) = tabF (fun _ => 0) n := by
  unfold tabF
  rw [List.map_const', List.length_range]
theorem map_nI {f : Nat → Int} {n : Nat} : (List.range n).map (fun i => PV.int (f i)) = (tabF f n).map PV.int := by
  unfold tabF
  rw [List.map_map]
  rfl
theorem range_at {r i v : Nat} (hi : (List.range r)[i]? = some v) : i < r ∧ v = i := by
  have h1 := (List.getElem?_eq_some_iff.mp hi).1
  rw [List.length_range] at h1
  rw [List.getElem?_range h1] at hi
  exact ⟨h1, (Option.some.inj hi).symm⟩
theorem start_wp {K : KData} {n r : Nat} {p : List Int} {P : PV → List PV → Prop} {E : XV → List PV → Prop} (hK : KOk K n r) (hp : POk K p) (k : P (tI (tabF (w0 K p) n)) []) : (d_start_weights [K.pv, tI p]).sat P E := by
  have h8 := hK.n8
  have hn := hK.hn
  have hc8 := hK.c8
  have hpl := hp.len
  refine w_run ?_
  (walk_at "l3 norm")
  unfold b_start_weights
  (repeat walk_at "l3 step")
  refine u_lcx K.reports PV.int (fun _ => .int 0) ?_
  (repeat walk_at "l3 step")
  refine ⟨rfl, by omega, by show 3 < 5; decide, fun x hx => by (repeat walk_at "l3 step"); exact ⟨rfl, rfl⟩, ?_⟩
  (repeat walk_at "l3 step")
  have e0 : K.reports.map (fun _ => PV.int 0) = (tabF (fun _ => 0) n).map PV.int := by
    rw [List.map_const', hn, ← tabF_zero, List.map_replicate]
  rw [e0]
  (walk_at "l3 norm")
  refine w_forx (List.range K.starts.length) nI (fun i e => ∃ a, e = [some K.pv, some (tI p), some (.mls ((tabF (fun s => sumF (fun c => if (K.starts.getD c 0).toNat = s then p.getD c 0 else 0) i) n).map .int)), none, a]) ?_
  (repeat walk_at "l3 step")
  refine ⟨by rw [Int.toNat_natCast, List.length_map, intsR_map]; rfl, ⟨none, rfl⟩, ?_, ?_⟩
  · rintro i v e hi ⟨a, rfl⟩
    obtain ⟨hi', rfl⟩ := range_at hi
    clear hi
    obtain ⟨s, h1, h2⟩ := start_at hK hi'
    generalize hl : tabF (fun s => sumF (fun c => if (K.starts.getD c 0).toNat = s then p.getD c 0 else 0) v) n = l
    have hll : l.length = n := by rw [← hl]; exact tabF_len
    (repeat walk_at "l3 step")
    refine u_augS (l := l) rfl ?_
    (repeat walk_at "l3 step")
    refine o_idE (l := K.starts) (φ := PV.int) (s := v) 0 rfl rfl hi' ?_
    (repeat walk_at "l3 step")
    rw [h1]
    refine ⟨rfl, by omega, by omega, ?_⟩
    (repeat walk_at "l3 step")
    refine o_vxE (l := p) (φ := PV.int) (s := v) 0 (.inl rfl) rfl (by omega) ?_
    (repeat walk_at "l3 step")
    refine ⟨rfl, ?_⟩
    (repeat walk_at "l3 step")
    show ∃ a : Option PV, _ = ([some K.pv, some (tI p), some (PV.mls ((tabF (fun s => sumF (fun c => if (K.starts.getD c 0).toNat = s then p.getD c 0 else 0) (v + 1)) n).map .int)), none, a] : L3.Env)
    have e1 : l.set (s : Int).toNat (l.getD (s : Int).toNat 0 + p.getD v 0) = tabF (fun s => sumF (fun c => if (K.starts.getD c 0).toNat = s then p.getD c 0 else 0) (v + 1)) n := by
      rw [Int.toNat_natCast, ← hl, tabF_getD h2, tabF_set h2]
      refine tabF_ext fun t ht => ?_
      rw [sumF_succ, h1, Int.toNat_natCast]
      by_cases e : s = t
      · rw [if_pos e, if_pos e, e]
      · rw [if_neg e, if_neg e, Int.add_zero]
    rw [← e1]
    exact ⟨_, rfl⟩
  · rintro e ⟨a, rfl⟩
    rw [List.length_range]
    (repeat walk_at "l3 step")
    exact k
end G

set_option maxHeartbeats 4000000
namespace G
open PySem PySem.Spec PyProof.Rows L2 L3
local macro_rules | `(tactic| walk_at "l3 step") => `(tactic| (first | (with_reducible first | refine w_bk ?_ | refine w_ct ?_ | refine u_par ?_ | refine w_akw ?_ | refine w_revT ?_ | refine w_ien2 ?_ | refine w_bits ?_ | refine w_isx ?_ | refine w_isx2 ?_ | refine w_dnew ?_ | refine w_lstR ?_ | refine u_dget2 ?_ | refine u_dgetn ?_ | refine u_putD ?_ | refine w_seq ?_ | refine u_set ?_ | refine w_ret ?_ | refine w_if ?_ | refine w_drop ?_ | refine w_nx ?_ | refine w_retn ?_ | refine w_2 ?_ | refine w_t2 ?_ | refine w_c ?_ | refine u_v ?_ | refine u_of ?_ | refine w_tand ?_ | refine w_tor ?_ | refine w_tnot ?_ | refine u_and ?_ | refine u_or ?_ | refine u_not ?_ | refine w_ifx ?_ | refine w_nil ?_ | refine w_cons ?_ | refine w_consO ?_ | refine w_tup ?_ | refine w_lst ?_ | refine w_n ?_ | refine u_n1v ?_ | refine w_isi ?_ | refine u_neg ?_ | refine w_chain ?_ | refine u_ixc ?_ | refine u_ixs ?_ | refine u_fz ?_ | refine u_mv ?_ | refine w_anil ?_ | refine w_acons ?_ | refine u_aio ?_ | refine w_call ?_ | refine u_aug ?_ | refine w_asg ?_ | refine w_iv ?_ | refine w_ir ?_ | refine w_ien ?_ | refine w_yes ?_ | refine w_bno ?_ | refine u_bso ?_ | refine w_sl ?_ | refine u_slv ?_ | refine w_frz ?_ | refine u_app ?_ | refine u_ext ?_ | refine u_popAt ?_ | refine u_put ?_ | refine w_raise ?_ | refine w_try ?_ | refine w_fnil ?_ | refine w_fcons ?_) | ((with_reducible show Osat (rngOf _) _); first | ((with_reducible show Osat (rngOf [_]) _); refine o_rng (by omega) (by first | omega | (rw [List.length_map]; omega)) ?_) | ((with_reducible show Osat (rngOf [_, _]) _); refine o_rng2 (by omega) (by omega) (by omega) (by omega) ?_)) | ((with_reducible show Osat (repP _ _) _); first | refine o_mul (by omega) ?_ | refine o_mul' (by omega) ?_) | ((with_reducible show Osat (modP _ _) _); refine o_mod (by omega) ?_) | ((with_reducible show Osat (fdivP _ _) _); refine o_fdiv (by omega) (by omega) ?_) | ((fail_if_success with_reducible show Osat (rngOf _) _); (fail_if_success with_reducible show Osat (repP _ _) _); (fail_if_success with_reducible show Osat (idxV _ _) _); (first | (with_reducible show Osat (idxP _ (frzP (PV.int (OfNat.ofNat _)))) _) | (fail_if_success with_reducible show Osat (idxP _ _) _)); (first | (with_reducible show Osat (ixN _ (OfNat.ofNat _)) _) | (fail_if_success with_reducible show Osat (ixN _ _) _)); (with_reducible show Osat _ _); first | (apply Osat.of; rfl) | refine o_slotN rfl (by assumption) ?_ | refine o_tupM (ints_flat _) ?_) | ((with_reducible show ite (_ = true) _ _); first | refine if_t rfl ?_ | refine if_f rfl ?_)))
local macro_rules | `(tactic| walk_at "l3 norm") => `(tactic| (try simp only [List.set_cons_zero, List.set_cons_succ, List.map_cons, List.map_nil, List.replicate_zero, List.replicate_succ, List.length_cons, List.length_nil, frzP, List.cons_append, List.nil_append, Nat.reduceAdd, Nat.reduceSub, Nat.zero_add]))
theorem next_wp {K : KData} {n r i : Nat} {w : Nat → Int} {P : PV → List PV → Prop} {E : XV → List PV → Prop} (hK : KOk K n r) (hi : i < r) (k : P (tI (tabF (fw K n w i) n)) []) : (d_next_weights [K.pv, tI (tabF w n), .int (i : Int)]).sat P E := by
  have h8 := hK.n8
  have hr := hK.hr
  refine w_run ?_
  (walk_at "l3 norm")
  unfold b_next_weights
  (repeat walk_at "l3 step")
  rw [List.length_map, tabF_len]
  (repeat walk_at "l3 step")
  refine o_idE (l := K.moves) (φ := tTab) (s := i) [] rfl rfl (by omega) ?_
  (repeat walk_at "l3 step")
  refine u_lcx (List.range n) nI (fun t => .int (fw K n w i t)) ?_
  (repeat walk_at "l3 step")
  refine ⟨by rw [Int.toNat_natCast, intsR_map]; rfl, by rw [List.length_range]; omega, by show 5 < 7; decide, fun t ht => ?_, ?_⟩
  · have ht := List.mem_range.mp ht
    (repeat walk_at "l3 step")
    refine u_lcx (List.range n) nI (fun s => .int (w s * num K i s t)) ?_
    (repeat walk_at "l3 step")
    refine ⟨by rw [Int.toNat_natCast, intsR_map]; rfl, by rw [List.length_range]; omega, by show 6 < 7; decide, fun s hs => ?_, ?_⟩
    · have hs := List.mem_range.mp hs
      obtain ⟨m1, m2, m3, _⟩ := mv_at hK hi hs
      have b1 := num_pos hK hi hs ht
      have b2 := num_le hK hi hs ht
      (repeat walk_at "l3 step")
      refine o_vxE (l := tabF w n) (φ := PV.int) (s := s) 0 (.inl rfl) rfl (by rw [tabF_len]; exact hs) ?_
      rw [tabF_getD hs]
      (repeat walk_at "l3 step")
      refine o_vxE (l := K.moves.getD i []) (φ := tI) (s := s) [] (.inl rfl) rfl (by omega) ?_
      (repeat walk_at "l3 step")
      refine o_idE (l := (K.moves.getD i []).getD s []) (φ := PV.int) (s := t) 0 rfl rfl (by omega) ?_
      rw [show ((K.moves.getD i []).getD s []).getD t 0 = num K i s t from rfl]
      refine o_mul (by omega) ?_
      (repeat walk_at "l3 step")
      exact ⟨rfl, rfl⟩
    · (repeat walk_at "l3 step")
      refine o_sumL (l := tabF (fun s => w s * num K i s t) n) ?_ ?_
      · show PV.lst (frzL _) = _
        rw [map_nI, frzL_ints]
      · (repeat walk_at "l3 step")
        exact ⟨rfl, rfl⟩
  · (repeat walk_at "l3 step")
    rw [map_nI, frzL_ints]
    exact k
def rowV (row : List Nat) : PV := .tup (row.map nI)
theorem behind_wp {K : KData} {n r : Nat} {p : List Int} {row : List Nat} {P : PV → List PV → Prop} {E : XV → List PV → Prop} (hK : KOk K n r) (hp : POk K p) (hr : Row r row) (k : P (tI (tabF (fwd K n (w0 K p) row) n)) []) : (d_weights_behind [K.pv, tI p, rowV row]).sat P E := by
  refine w_run ?_
  (walk_at "l3 norm")
  unfold b_weights_behind
  (repeat walk_at "l3 step")
  refine start_wp hK hp ?_
  (repeat walk_at "l3 step")
  refine w_forx row nI (fun i e => ∃ a, e = [some K.pv, some (tI p), some (rowV row), some (tI (tabF (fwd K n (w0 K p) (row.take i)) n)), a]) ?_
  (repeat walk_at "l3 step")
  refine ⟨rfl, ⟨none, rfl⟩, ?_, ?_⟩
  · rintro i x e hi ⟨a, rfl⟩
    have hx : x < r := hr x (List.mem_of_getElem? hi)
    have ht : row.take (i + 1) = row.take i ++ [x] := by rw [List.take_succ, hi]; rfl
    (repeat walk_at "l3 step")
    refine (show (d_next_weights [K.pv, tI (tabF (fwd K n (w0 K p) (row.take i)) n), .int (x : Int)]).sat _ _ from ?_)
    refine next_wp hK hx ?_
    (repeat walk_at "l3 step")
    show ∃ a : Option PV, _ = ([some K.pv, some (tI p), some (rowV row), some (tI (tabF (fwd K n (w0 K p) (row.take (i + 1))) n)), a] : L3.Env)
    rw [ht, fwd_snoc]
    exact ⟨_, rfl⟩
  · rintro e ⟨a, rfl⟩
    rw [List.take_length]
    (repeat walk_at "l3 step")
    exact k
theorem sum_le {K : KData} {p : List Int} (hp : POk K p) (hc : K.starts.length ≤ 8) : p.sum ≤ 8000000 := by
  have h1 : ∀ l : List Int, (∀ x, x ∈ l → x ≤ 1000000) → l.sum ≤ l.length * 1000000 := by
    intro l
    induction l with
    | nil => intro _; simp
    | cons a l ih =>
      intro h
      have := ih fun x hx => h x (List.mem_cons_of_mem _ hx)
      have := h a List.mem_cons_self
      rw [List.sum_cons, List.length_cons]
      omega
  have h2 := h1 p fun x hx => (hp.pos x hx).2
  have := hp.len
  omega
theorem big_of {a : Int} {m : Nat} {d : Nat} (h0 : 0 ≤ a) (h1 : a ≤ 10 ^ 15) (d1 : 1 ≤ d) (d6 : d ≤ 1000000) (hm : m ≤ 400) : a * (pw d m : Nat) < 2 ^ 8999 ∧ 0 < ((pw d m : Nat) : Int) := by
  obtain ⟨h3, h4⟩ := pw_le d1 d6 m
  have h5 : pw d m ≤ 2 ^ 8000 := Nat.le_trans h4 (Nat.pow_le_pow_right (by omega) (by omega))
  have h6 : ((pw d m : Nat) : Int) ≤ (2 : Int) ^ 8000 := by
    have := Int.ofNat_le.mpr h5
    rw [Int.natCast_pow] at this
    exact this
  refine ⟨?_, by omega⟩
  have h7 : a * (pw d m : Nat) ≤ (2 : Int) ^ 50 * (2 : Int) ^ 8000 := by
    refine Int.mul_le_mul ?_ h6 (by omega) ?_
    · exact Int.le_trans h1 (by decide)
    · exact Int.pow_nonneg (by decide)
  refine Int.lt_of_le_of_lt h7 ?_
  rw [← Int.pow_add]
  have : ((2 ^ 8050 : Nat) : Int) < ((2 ^ 8999 : Nat) : Int) := Int.ofNat_lt.mpr (Nat.pow_lt_pow_right (by decide) (by decide))
  rw [Int.natCast_pow, Int.natCast_pow] at this
  exact this
theorem rowV_len {row : List Nat} : (row.map nI).length = row.length := List.length_map ..
theorem row_chance_wp {K : KData} {n r : Nat} {p : List Int} {row : List Nat} {P : PV → List PV → Prop} {E : XV → List PV → Prop} (hK : KOk K n r) (hp : POk K p) (hr : Row r row) (hl : row.length ≤ 400) (k : P (lowI (W K n p row) (p.sum * (pw K.d.toNat row.length : Nat))) []) : (d_row_chance [K.pv, tI p, rowV row]).sat P E := by
  have hd0 := hK.d0
  have hd6 := hK.d6
  have hs := sum_le hp hK.c8
  have hs0 := hp.one
  obtain ⟨b1, b2⟩ := big_of (a := p.sum) (m := row.length) (d := K.d.toNat) (by omega) (Int.le_trans hs (by decide)) (by omega) (by omega) hl
  refine w_run ?_
  (walk_at "l3 norm")
  unfold b_row_chance
  (repeat walk_at "l3 step")
  refine behind_wp hK hp hr ?_
  (repeat walk_at "l3 step")
  refine o_sumT (l := tabF (fwd K n (w0 K p) row) n) rfl ?_
  (repeat walk_at "l3 step")
  refine o_sumT (l := p) rfl ?_
  (repeat walk_at "l3 step")
  have ed : K.d = (K.d.toNat : Int) := by omega
  rw [rowV_len]
  refine (show (d_power [.int K.d, .int (row.length : Int)]).sat _ _ from ?_)
  rw [ed]
  refine power_wp (by omega) hl ?_
  (repeat walk_at "l3 step")
  refine lowestI_wp (W_pos hK hp hr) (Int.mul_pos hs0 b2) b1 ?_
  (repeat walk_at "l3 step")
  exact k
theorem row_snoc {r i : Nat} {row : List Nat} (hr : Row r row) (hi : i < r) : Row r (row ++ [i]) := fun j hj => (List.mem_append.mp hj).elim (hr j) fun z => by rw [List.mem_singleton.mp z]; exact hi
theorem W_big {K : KData} {n r : Nat} {p : List Int} {row : List Nat} (hK : KOk K n r) (hp : POk K p) (hr : Row r row) (hl : row.length ≤ 399) : W K n p row * K.d < 2 ^ 8999 := by
  have hd0 := hK.d0
  have hd6 := hK.d6
  have hs := sum_le hp hK.c8
  have hs0 := hp.one
  obtain ⟨b1, b2⟩ := big_of (a := p.sum) (m := row.length + 1) (d := K.d.toNat) (by omega) (Int.le_trans hs (by decide)) (by omega) (by omega) (by omega)
  refine Int.lt_of_le_of_lt ?_ b1
  show _ ≤ p.sum * ((pw K.d.toNat row.length * K.d.toNat : Nat) : Int)
  rw [Int.natCast_mul, show ((K.d.toNat : Nat) : Int) = K.d by omega, ← Int.mul_assoc]
  exact Int.mul_le_mul_of_nonneg_right (W_le hK hp hr) (by omega)
def nextV (K : KData) (n r : Nat) (p : List Int) (row : List Nat) : PV := .tup ((List.range r).map fun i => lowI (W K n p (row ++ [i])) (W K n p row * K.d))
theorem next_chances_wp {K : KData} {n r : Nat} {p : List Int} {row : List Nat} {P : PV → List PV → Prop} {E : XV → List PV → Prop} (hK : KOk K n r) (hp : POk K p) (hr : Row r row) (hl : row.length ≤ 399) (k1 : W K n p row = 0 → P .non []) (k2 : 0 < W K n p row → P (nextV K n r p row) []) : (d_next_chances [K.pv, tI p, rowV row]).sat P E := by
  have hd0 := hK.d0
  have hd6 := hK.d6
  have hm := hK.hr
  have h4 := hK.r4
  have hw := W_pos hK hp hr
  have hb := W_big hK hp hr hl
  refine w_run ?_
  (walk_at "l3 norm")
  unfold b_next_chances
  (repeat walk_at "l3 step")
  refine behind_wp hK hp hr ?_
  (repeat walk_at "l3 step")
  refine o_sumT (l := tabF (fwd K n (w0 K p) row) n) rfl ?_
  rw [tabF_sum, show sumF (fwd K n (w0 K p) row) n = W K n p row from rfl]
  (repeat walk_at "l3 step")
  refine if_b (fun hc => ?_) (fun hc => ?_)
  · have hc : decide (W K n p row * K.d = 0) = true := hc
    rw [decide_eq_true_eq] at hc
    (repeat walk_at "l3 step")
    exact k1 ((Int.mul_eq_zero.mp hc).resolve_right (by omega))
  · have hc : decide (W K n p row * K.d = 0) = false := hc
    rw [decide_eq_false_iff_not] at hc
    have hne : W K n p row ≠ 0 := fun e => hc (by rw [e, Int.zero_mul])
    have hw1 : 0 < W K n p row := by omega
    have hw2 : 0 < W K n p row * K.d := Int.mul_pos hw1 (by omega)
    (repeat walk_at "l3 step")
    refine u_lcx (List.range r) nI (fun i => .int (W K n p (row ++ [i]))) ?_
    (repeat walk_at "l3 step")
    refine ⟨by rw [Int.toNat_natCast, List.length_map, hm, intsR_map]; rfl, by rw [List.length_range]; omega, by show 6 < 8; decide, fun i hi => ?_, ?_⟩
    · have hi := List.mem_range.mp hi
      (repeat walk_at "l3 step")
      refine (show (d_next_weights [K.pv, tI (tabF (fwd K n (w0 K p) row) n), .int (i : Int)]).sat _ _ from ?_)
      refine next_wp hK hi ?_
      (repeat walk_at "l3 step")
      refine o_sumT (l := tabF (fw K n (fwd K n (w0 K p) row) i) n) rfl ?_
      rw [tabF_sum, ← fwd_snoc]
      (repeat walk_at "l3 step")
      exact ⟨rfl, rfl⟩
    · (repeat walk_at "l3 step")
      (walk_at "l3 norm")
      rw [map_nI, frzL_ints]
      refine u_lcx (tabF (fun i => W K n p (row ++ [i])) r) PV.int (fun a => lowI a (W K n p row * K.d)) ?_
      (repeat walk_at "l3 step")
      refine ⟨rfl, by rw [tabF_len]; omega, by show 7 < 8; decide, fun a ha => ?_, ?_⟩
      · obtain ⟨i, hi, rfl⟩ := List.mem_map.mp ha
        have hi := List.mem_range.mp hi
        (repeat walk_at "l3 step")
        refine lowestI_wp (W_pos hK hp (row_snoc hr hi)) hw2 hb ?_
        (repeat walk_at "l3 step")
        exact ⟨rfl, rfl⟩
      · (repeat walk_at "l3 step")
        have e : frzL ((tabF (fun i => W K n p (row ++ [i])) r).map fun a => lowI a (W K n p row * K.d)) = (List.range r).map fun i => lowI (W K n p (row ++ [i])) (W K n p row * K.d) := by
          rw [frzL_map, List.map_map]
          unfold tabF
          rw [List.map_map]
          rfl
        rw [e]
        exact k2 hw1
end G

set_option maxHeartbeats 4000000
namespace G
open PySem PySem.Spec PyProof.Rows L2 L3
local macro_rules | `(tactic| walk_at "l3 step") => `(tactic| (first | (with_reducible first | refine w_bk ?_ | refine w_ct ?_ | refine u_par ?_ | refine w_akw ?_ | refine w_revT ?_ | refine w_ien2 ?_ | refine w_bits ?_ | refine w_isx ?_ | refine w_isx2 ?_ | refine w_dnew ?_ | refine w_lstR ?_ | refine u_dget2 ?_ | refine u_dgetn ?_ | refine u_putD ?_ | refine w_seq ?_ | refine u_set ?_ | refine w_ret ?_ | refine w_if ?_ | refine w_drop ?_ | refine w_nx ?_ | refine w_retn ?_ | refine w_2 ?_ | refine w_t2 ?_ | refine w_c ?_ | refine u_v ?_ | refine u_of ?_ | refine w_tand ?_ | refine w_tor ?_ | refine w_tnot ?_ | refine u_and ?_ | refine u_or ?_ | refine u_not ?_ | refine w_ifx ?_ | refine w_nil ?_ | refine w_cons ?_ | refine w_consO ?_ | refine w_tup ?_ | refine w_lst ?_ | refine w_n ?_ | refine u_n1v ?_ | refine w_isi ?_ | refine u_neg ?_ | refine w_chain ?_ | refine u_ixc ?_ | refine u_ixs ?_ | refine u_fz ?_ | refine u_mv ?_ | refine w_anil ?_ | refine w_acons ?_ | refine u_aio ?_ | refine w_call ?_ | refine u_aug ?_ | refine w_asg ?_ | refine w_iv ?_ | refine w_ir ?_ | refine w_ien ?_ | refine w_yes ?_ | refine w_bno ?_ | refine u_bso ?_ | refine w_sl ?_ | refine u_slv ?_ | refine w_frz ?_ | refine u_app ?_ | refine u_ext ?_ | refine u_popAt ?_ | refine u_put ?_ | refine w_raise ?_ | refine w_try ?_ | refine w_fnil ?_ | refine w_fcons ?_) | ((with_reducible show Osat (rngOf _) _); first | ((with_reducible show Osat (rngOf [_]) _); refine o_rng (by omega) (by first | omega | (rw [List.length_map]; omega)) ?_) | ((with_reducible show Osat (rngOf [_, _]) _); refine o_rng2 (by omega) (by omega) (by omega) (by omega) ?_)) | ((with_reducible show Osat (repP _ _) _); first | refine o_mul (by omega) ?_ | refine o_mul' (by omega) ?_) | ((with_reducible show Osat (modP _ _) _); refine o_mod (by omega) ?_) | ((with_reducible show Osat (fdivP _ _) _); refine o_fdiv (by omega) (by omega) ?_) | ((fail_if_success with_reducible show Osat (rngOf _) _); (fail_if_success with_reducible show Osat (repP _ _) _); (fail_if_success with_reducible show Osat (idxV _ _) _); (first | (with_reducible show Osat (idxP _ (frzP (PV.int (OfNat.ofNat _)))) _) | (fail_if_success with_reducible show Osat (idxP _ _) _)); (first | (with_reducible show Osat (ixN _ (OfNat.ofNat _)) _) | (fail_if_success with_reducible show Osat (ixN _ _) _)); (with_reducible show Osat _ _); first | (apply Osat.of; rfl) | refine o_slotN rfl (by assumption) ?_ | refine o_tupM (ints_flat _) ?_) | ((with_reducible show ite (_ = true) _ _); first | refine if_t rfl ?_ | refine if_f rfl ?_)))
local macro_rules | `(tactic| walk_at "l3 norm") => `(tactic| (try simp only [List.set_cons_zero, List.set_cons_succ, List.map_cons, List.map_nil, List.replicate_zero, List.replicate_succ, List.length_cons, List.length_nil, frzP, List.cons_append, List.nil_append, Nat.reduceAdd, Nat.reduceSub, Nat.zero_add]))
def rL (l : List Int) : PV := .lst (l.map .int)
theorem rL_no (l : List Int) : isOwn (rL l) = false := rfl
theorem filt_sum {c : Nat → Bool} {g : Nat → Int} : ∀ m, (((List.range m).filter c).map g).sum = sumF (fun t => if c t = true then g t else 0) m
  | 0 => rfl
  | m + 1 => by
    rw [List.range_succ, List.filter_append, List.map_append, List.sum_append, filt_sum m, sumF_succ]
    congr 1
    by_cases h : c m = true
    · rw [if_pos h, List.filter_cons_of_pos h]; simp
    · rw [if_neg h, List.filter_cons_of_neg h]; rfl
theorem worths_wp {K : KData} {n r : Nat} {row : List Nat} {P : PV → List PV → Prop} {E : XV → List PV → Prop} (hK : KOk K n r) (hr : Row r row) (k : P (rL (tabF (worth K n row) n)) []) : (d_law_worths [K.pv, rowV row]).sat P E := by
  have h8 := hK.n8
  have hn := hK.hn
  have hm := hK.hr
  refine w_run ?_
  (walk_at "l3 norm")
  unfold b_law_worths
  (repeat walk_at "l3 step")
  refine u_lcx K.reports PV.int (fun _ => .int 1) ?_
  (repeat walk_at "l3 step")
  refine ⟨rfl, by omega, by show 3 < 8; decide, fun x hx => by (repeat walk_at "l3 step"); exact ⟨rfl, rfl⟩, ?_⟩
  (repeat walk_at "l3 step")
  have e0 : K.reports.map (fun _ => PV.int 1) = (tabF (worth K n []) n).map PV.int := by
    show _ = (tabF (fun _ => 1) n).map PV.int
    unfold tabF
    rw [List.map_const', hn, List.map_const', List.length_range, List.map_replicate]
  rw [e0]
  (walk_at "l3 norm")
  rw [frzL_ints]
  refine w_forx row.reverse nI (fun i e => ∃ a b, e = [some K.pv, some (rowV row), some (rL (tabF (worth K n (row.reverse.take i).reverse) n)), none, a, b, none, none]) ?_
  (repeat walk_at "l3 step")
  refine ⟨List.map_reverse.symm, ⟨none, none, rfl⟩, ?_, ?_⟩
  · rintro i x e hi ⟨a, b, rfl⟩
    have hx : x < r := hr x (List.mem_reverse.mp (List.mem_of_getElem? hi))
    have ht : (row.reverse.take (i + 1)).reverse = x :: (row.reverse.take i).reverse := by
      rw [List.take_succ, hi, List.reverse_append]
      rfl
    generalize (row.reverse.take i).reverse = suf at ht
    (repeat walk_at "l3 step")
    refine o_idE (l := K.moves) (φ := tTab) (s := x) [] rfl rfl (by omega) ?_
    (repeat walk_at "l3 step")
    obtain ⟨_, mlen, _, _⟩ := mv_at hK hx (show 0 < n by have := hK.n0; omega)
    refine u_lcx (K.moves.getD x []) tI (fun line => .int (sumF (fun t => line.getD t 0 * worth K n suf t) n)) ?_
    (repeat walk_at "l3 step")
    refine ⟨rfl, by omega, by show 6 < 8; decide, fun line hline => ?_, ?_⟩
    · obtain ⟨s, hs, rfl⟩ := List.mem_iff_getElem.mp hline
      have hs' : s < n := by omega
      obtain ⟨_, _, m3, m4⟩ := mv_at hK hx hs'
      have el : (K.moves.getD x [])[s] = (K.moves.getD x []).getD s [] := by rw [List.getD_eq_getElem?_getD (l := K.moves.getD x []), List.getElem?_eq_getElem hs]; rfl
      rw [el]
      have hnum : ∀ t, t < n → 0 ≤ ((K.moves.getD x []).getD s []).getD t 0 ∧ ((K.moves.getD x []).getD s []).getD t 0 ≤ 1000000 := fun t ht => ⟨num_pos hK hx hs' ht, num_le hK hx hs' ht⟩
      generalize (K.moves.getD x []).getD s [] = line at m3 m4 hnum
      (repeat walk_at "l3 step")
      refine u_lcf (List.range n) nI (fun t => .int (line.getD t 0 * worth K n suf t)) (fun t => decide (line.getD t 0 > 0)) ?_
      (repeat walk_at "l3 step")
      refine ⟨by rw [Int.toNat_natCast, List.length_map, m3, intsR_map]; rfl, by rw [List.length_range]; omega, by show 7 < 8; decide, fun t ht => ⟨?_, fun hc => ?_⟩, ?_⟩
      · have ht := List.mem_range.mp ht
        (repeat walk_at "l3 step")
        refine o_vxE (l := line) (φ := PV.int) (s := t) 0 (.inl rfl) rfl (by omega) ?_
        (repeat walk_at "l3 step")
        exact ⟨rfl, rfl⟩
      · have ht := List.mem_range.mp ht
        obtain ⟨c1, c2⟩ := hnum t ht
        (repeat walk_at "l3 step")
        refine o_vxE (l := line) (φ := PV.int) (s := t) 0 (.inl rfl) rfl (by omega) ?_
        (repeat walk_at "l3 step")
        refine o_vxE (l := tabF (worth K n suf) n) (φ := PV.int) (s := t) 0 (.inr rfl) rfl (by rw [tabF_len]; exact ht) ?_
        rw [tabF_getD ht]
        refine o_mul' (by omega) ?_
        (repeat walk_at "l3 step")
        exact ⟨rfl, rfl⟩
      · (repeat walk_at "l3 step")
        refine o_sumL (l := ((List.range n).filter fun t => decide (line.getD t 0 > 0)).map fun t => line.getD t 0 * worth K n suf t) ?_ ?_
        · show PV.lst (frzL _) = _
          rw [map_two (fun t => line.getD t 0 * worth K n suf t) PV.int, frzL_ints]
        · rw [filt_sum]
          have e1 : sumF (fun t => if decide (line.getD t 0 > 0) = true then line.getD t 0 * worth K n suf t else 0) n = sumF (fun t => line.getD t 0 * worth K n suf t) n := sumF_ext n fun t ht => by
            by_cases h : line.getD t 0 > 0
            · rw [if_pos (decide_eq_true h)]
            · have := (hnum t ht).1
              have e : line.getD t 0 = 0 := by omega
              rw [if_neg (by rw [decide_eq_true_eq]; exact h), e, Int.zero_mul]
          rw [e1]
          (repeat walk_at "l3 step")
          exact ⟨rfl, rfl⟩
    · (repeat walk_at "l3 step")
      (walk_at "l3 norm")
      show ∃ a b : Option PV, _ = ([some K.pv, some (rowV row), some (rL (tabF (worth K n (row.reverse.take (i + 1)).reverse) n)), none, a, b, none, none] : L3.Env)
      rw [ht]
      have e2 : (K.moves.getD x []).map (fun line => sumF (fun t => line.getD t 0 * worth K n suf t) n) = tabF (worth K n (x :: suf)) n := by
        refine List.ext_getElem? fun s => ?_
        rw [List.getElem?_map, tabF_at]
        by_cases hs : s < n
        · rw [if_pos hs, List.getElem?_eq_getElem (by omega)]
          show some _ = some _
          have el : (K.moves.getD x [])[s]'(by omega) = (K.moves.getD x []).getD s [] := by rw [List.getD_eq_getElem?_getD (l := K.moves.getD x []), List.getElem?_eq_getElem (by omega)]; rfl
          rw [el]
          rfl
        · rw [if_neg hs, List.getElem?_eq_none_iff.mpr (by omega)]
          rfl
      rw [map_two (fun (line : List Int) => sumF (fun t => line.getD t 0 * worth K n suf t) n) PV.int, e2, frzL_ints]
      exact ⟨_, _, rfl⟩
  · rintro e ⟨a, b, rfl⟩
    rw [List.take_length, List.reverse_reverse]
    (repeat walk_at "l3 step")
    exact k
theorem above_wp {K : KData} {n r : Nat} {p : List Int} {row : List Nat} {P : PV → List PV → Prop} {E : XV → List PV → Prop} (hK : KOk K n r) (hp : POk K p) (hr : Row r row) (k : P (.int (W K n p row)) []) : (d_law_above [K.pv, tI p, rowV row]).sat P E := by
  have hl := hp.len
  have hc8 := hK.c8
  refine w_run ?_
  (walk_at "l3 norm")
  unfold b_law_above
  (repeat walk_at "l3 step")
  refine worths_wp hK hr ?_
  (repeat walk_at "l3 step")
  refine u_lcx (List.range K.starts.length) nI (fun c => .int (p.getD c 0 * worth K n row (K.starts.getD c 0).toNat)) ?_
  (repeat walk_at "l3 step")
  refine ⟨by rw [Int.toNat_natCast, List.length_map, hl, intsR_map]; rfl, by rw [List.length_range]; omega, by show 4 < 5; decide, fun c hc => ?_, ?_⟩
  · have hc := List.mem_range.mp hc
    obtain ⟨s, h1, h2⟩ := start_at hK hc
    obtain ⟨p1, p2⟩ := p_at hp hc
    (repeat walk_at "l3 step")
    refine o_vxE (l := p) (φ := PV.int) (s := c) 0 (.inl rfl) rfl (by omega) ?_
    (repeat walk_at "l3 step")
    refine o_idE (l := K.starts) (φ := PV.int) (s := c) 0 rfl rfl hc ?_
    rw [h1]
    (repeat walk_at "l3 step")
    refine o_vxE (l := tabF (worth K n row) n) (φ := PV.int) (s := s) 0 (.inr rfl) rfl (by rw [tabF_len]; exact h2) ?_
    rw [tabF_getD h2]
    refine o_mul' (by omega) ?_
    (repeat walk_at "l3 step")
    exact ⟨rfl, rfl⟩
  · (repeat walk_at "l3 step")
    refine o_sumL (l := tabF (fun c => p.getD c 0 * worth K n row (K.starts.getD c 0).toNat) K.starts.length) ?_ ?_
    · show PV.lst (frzL _) = _
      rw [map_nI, frzL_ints]
    · rw [tabF_sum, ← W_above hK]
      (repeat walk_at "l3 step")
      exact k
end G

set_option maxHeartbeats 4000000
namespace G
open PySem PySem.Spec PyProof.Rows L2 L3
local macro_rules | `(tactic| walk_at "l3 step") => `(tactic| (first | (with_reducible first | refine w_bk ?_ | refine w_ct ?_ | refine u_par ?_ | refine w_akw ?_ | refine w_revT ?_ | refine w_ien2 ?_ | refine w_bits ?_ | refine w_isx ?_ | refine w_isx2 ?_ | refine w_dnew ?_ | refine w_lstR ?_ | refine u_dget2 ?_ | refine u_dgetn ?_ | refine u_putD ?_ | refine w_seq ?_ | refine u_set ?_ | refine w_ret ?_ | refine w_if ?_ | refine w_drop ?_ | refine w_nx ?_ | refine w_retn ?_ | refine w_2 ?_ | refine w_t2 ?_ | refine w_c ?_ | refine u_v ?_ | refine u_of ?_ | refine w_tand ?_ | refine w_tor ?_ | refine w_tnot ?_ | refine u_and ?_ | refine u_or ?_ | refine u_not ?_ | refine w_ifx ?_ | refine w_nil ?_ | refine w_cons ?_ | refine w_consO ?_ | refine w_tup ?_ | refine w_lst ?_ | refine w_n ?_ | refine u_n1v ?_ | refine w_isi ?_ | refine u_neg ?_ | refine w_chain ?_ | refine u_ixc ?_ | refine u_ixs ?_ | refine u_fz ?_ | refine u_mv ?_ | refine w_anil ?_ | refine w_acons ?_ | refine u_aio ?_ | refine w_call ?_ | refine u_aug ?_ | refine w_asg ?_ | refine w_iv ?_ | refine w_ir ?_ | refine w_ien ?_ | refine w_yes ?_ | refine w_bno ?_ | refine u_bso ?_ | refine w_sl ?_ | refine u_slv ?_ | refine w_frz ?_ | refine u_app ?_ | refine u_ext ?_ | refine u_popAt ?_ | refine u_put ?_ | refine w_raise ?_ | refine w_try ?_ | refine w_fnil ?_ | refine w_fcons ?_) | ((with_reducible show Osat (rngOf _) _); first | ((with_reducible show Osat (rngOf [_]) _); refine o_rng (by omega) (by first | omega | (rw [List.length_map]; omega)) ?_) | ((with_reducible show Osat (rngOf [_, _]) _); refine o_rng2 (by omega) (by omega) (by omega) (by omega) ?_)) | ((with_reducible show Osat (repP _ _) _); first | refine o_mul (by omega) ?_ | refine o_mul' (by omega) ?_) | ((with_reducible show Osat (modP _ _) _); refine o_mod (by omega) ?_) | ((with_reducible show Osat (fdivP _ _) _); refine o_fdiv (by omega) (by omega) ?_) | ((fail_if_success with_reducible show Osat (rngOf _) _); (fail_if_success with_reducible show Osat (repP _ _) _); (fail_if_success with_reducible show Osat (idxV _ _) _); (first | (with_reducible show Osat (idxP _ (frzP (PV.int (OfNat.ofNat _)))) _) | (fail_if_success with_reducible show Osat (idxP _ _) _)); (first | (with_reducible show Osat (ixN _ (OfNat.ofNat _)) _) | (fail_if_success with_reducible show Osat (ixN _ _) _)); (with_reducible show Osat _ _); first | (apply Osat.of; rfl) | refine o_slotN rfl (by assumption) ?_ | refine o_tupM (ints_flat _) ?_) | ((with_reducible show ite (_ = true) _ _); first | refine if_t rfl ?_ | refine if_f rfl ?_)))
local macro_rules | `(tactic| walk_at "l3 norm") => `(tactic| (try simp only [List.set_cons_zero, List.set_cons_succ, List.map_cons, List.map_nil, List.replicate_zero, List.replicate_succ, List.length_cons, List.length_nil, frzP, List.cons_append, List.nil_append, Nat.reduceAdd, Nat.reduceSub, Nat.zero_add]))
theorem frac_wp {x y : Int} {P : PV → List PV → Prop} {E : XV → List PV → Prop} (k : P (.bl true) []) : (d_law_fraction [tI [x, y], tI [x, y]]).sat P E := by
  refine w_run ?_
  (walk_at "l3 norm")
  unfold b_law_fraction
  (repeat walk_at "l3 step")
  refine u_lcf [x, y] PV.int (fun _ => .int 1) (fun _ => false) ?_
  (repeat walk_at "l3 step")
  refine ⟨rfl, by simp, by show 2 < 3; decide, fun t ht => ⟨?_, fun hc => nomatch hc⟩, ?_⟩
  · (repeat walk_at "l3 step")
    exact ⟨rfl, rfl⟩
  · (repeat walk_at "l3 step")
    have e : (PyData.tuple [PyData.int x, PyData.int y]).eqv (PyData.tuple [PyData.int x, PyData.int y]) = true := by
      have h := eqB_2 (a := x) (b := y) (a' := x) (b' := y)
      rw [beq_self_eq_true, beq_self_eq_true] at h
      exact Option.some.inj h
    show P (.bl ((PyData.tuple [PyData.int x, PyData.int y]).eqv (PyData.tuple [PyData.int x, PyData.int y]))) []
    rw [e]
    exact k
def dueV (K : KData) (n r : Nat) (p : List Int) (row : List Nat) : PV := .tup [lowI (W K n p row) (p.sum * (pw K.d.toNat row.length : Nat)), nextV K n r p row]
theorem due_wp {K : KData} {n r : Nat} {p : List Int} {row : List Nat} {P : PV → List PV → Prop} {E : XV → List PV → Prop} (hK : KOk K n r) (hp : POk K p) (hr : Row r row) (hl : row.length ≤ 399) (k1 : W K n p row = 0 → P (.tup [tI [0, 1], .non]) []) (k2 : 0 < W K n p row → P (dueV K n r p row) []) : (d_law_due [K.pv, tI p, rowV row]).sat P E := by
  have hd0 := hK.d0
  have hd6 := hK.d6
  have hm := hK.hr
  have h4 := hK.r4
  have hw := W_pos hK hp hr
  have hb := W_big hK hp hr hl
  have hs := sum_le hp hK.c8
  have hs0 := hp.one
  obtain ⟨b1, b2⟩ := big_of (a := p.sum) (m := row.length) (d := K.d.toNat) (by omega) (Int.le_trans hs (by decide)) (by omega) (by omega) (by omega)
  refine w_run ?_
  (walk_at "l3 norm")
  unfold b_law_due
  (repeat walk_at "l3 step")
  refine above_wp hK hp hr ?_
  (repeat walk_at "l3 step")
  refine o_sumT (l := p) rfl ?_
  (repeat walk_at "l3 step")
  refine w_forx row nI (fun i e => ∃ a : Option PV, (a = none ∨ ∃ z, a = some (.int z)) ∧ e = [some K.pv, some (tI p), some (rowV row), some (.int (W K n p row)), some (.int (p.sum * (pw K.d.toNat i : Nat))), a, none, none]) ?_
  (repeat walk_at "l3 step")
  refine ⟨rfl, ⟨none, .inl rfl, by show _ = ([_, _, _, _, some (PV.int (p.sum * ((1 : Nat) : Int))), _, _, _] : L3.Env); rw [Int.natCast_one, Int.mul_one]; rfl⟩, ?_, ?_⟩
  · rintro i x e hi ⟨a, _, rfl⟩
    (repeat walk_at "l3 step")
    show ∃ a : Option PV, (a = none ∨ ∃ z, a = some (PV.int z)) ∧ _ = ([some K.pv, some (tI p), some (rowV row), some (.int (W K n p row)), some (.int (p.sum * ((pw K.d.toNat i * K.d.toNat : Nat) : Int))), a, none, none] : L3.Env)
    rw [Int.natCast_mul, show ((K.d.toNat : Nat) : Int) = K.d by omega, ← Int.mul_assoc]
    exact ⟨_, .inr ⟨_, rfl⟩, rfl⟩
  · rintro e ⟨a, ha, rfl⟩
    rcases ha with rfl | ⟨z, rfl⟩
    all_goals
      (repeat walk_at "l3 step")
      refine if_b (fun hc => ?_) (fun hc => ?_)
      · have hc : decide (W K n p row = 0) = true := hc
        rw [decide_eq_true_eq] at hc
        (repeat walk_at "l3 step")
        exact k1 hc
      · have hc : decide (W K n p row = 0) = false := hc
        rw [decide_eq_false_iff_not] at hc
        have hw1 : 0 < W K n p row := by omega
        have hw2 : 0 < W K n p row * K.d := Int.mul_pos hw1 (by omega)
        (repeat walk_at "l3 step")
        refine u_lcx (List.range r) nI (fun i => .int (W K n p (row ++ [i]))) ?_
        (repeat walk_at "l3 step")
        refine ⟨by rw [Int.toNat_natCast, List.length_map, hm, intsR_map]; rfl, by rw [List.length_range]; omega, by show 5 < 8; decide, fun i hi => ?_, ?_⟩
        · have hi := List.mem_range.mp hi
          (repeat walk_at "l3 step")
          refine o_catTI (φ := nI) (a := row) (b := [i]) rfl rfl (by show row.length + 1 ≤ _; omega) ?_
          (repeat walk_at "l3 step")
          refine (show (d_law_above [K.pv, tI p, rowV (row ++ [i])]).sat _ _ from ?_)
          refine above_wp hK hp (row_snoc hr hi) ?_
          (repeat walk_at "l3 step")
          exact ⟨rfl, rfl⟩
        · (repeat walk_at "l3 step")
          (walk_at "l3 norm")
          rw [map_nI, frzL_ints]
          (repeat walk_at "l3 step")
          refine law_lowestI_wp hw (Int.mul_pos hs0 b2) b1 ?_
          (repeat walk_at "l3 step")
          refine u_lcx (tabF (fun i => W K n p (row ++ [i])) r) PV.int (fun a => lowI a (W K n p row * K.d)) ?_
          (repeat walk_at "l3 step")
          refine ⟨rfl, by rw [tabF_len]; omega, by show 7 < 8; decide, fun a ha => ?_, ?_⟩
          · obtain ⟨i, hi, rfl⟩ := List.mem_map.mp ha
            have hi := List.mem_range.mp hi
            (repeat walk_at "l3 step")
            refine law_lowestI_wp (W_pos hK hp (row_snoc hr hi)) hw2 hb ?_
            (repeat walk_at "l3 step")
            exact ⟨rfl, rfl⟩
          · (repeat walk_at "l3 step")
            have e : frzL ((tabF (fun i => W K n p (row ++ [i])) r).map fun a => lowI a (W K n p row * K.d)) = (List.range r).map fun i => lowI (W K n p (row ++ [i])) (W K n p row * K.d) := by
              rw [frzL_map, List.map_map]
              unfold tabF
              rw [List.map_map]
              rfl
            rw [e]
            exact k2 hw1
end G

set_option maxHeartbeats 4000000
namespace G
open PySem PySem.Spec PyProof.Rows L2 L3
local macro_rules | `(tactic| walk_at "l3 step") => `(tactic| (first | (with_reducible first | refine w_bk ?_ | refine w_ct ?_ | refine u_par ?_ | refine w_akw ?_ | refine w_revT ?_ | refine w_ien2 ?_ | refine w_bits ?_ | refine w_isx ?_ | refine w_isx2 ?_ | refine w_dnew ?_ | refine w_lstR ?_ | refine u_dget2 ?_ | refine u_dgetn ?_ | refine u_putD ?_ | refine w_seq ?_ | refine u_set ?_ | refine w_ret ?_ | refine w_if ?_ | refine w_drop ?_ | refine w_nx ?_ | refine w_retn ?_ | refine w_2 ?_ | refine w_t2 ?_ | refine w_c ?_ | refine u_v ?_ | refine u_of ?_ | refine w_tand ?_ | refine w_tor ?_ | refine w_tnot ?_ | refine u_and ?_ | refine u_or ?_ | refine u_not ?_ | refine w_ifx ?_ | refine w_nil ?_ | refine w_cons ?_ | refine w_consO ?_ | refine w_tup ?_ | refine w_lst ?_ | refine w_n ?_ | refine u_n1v ?_ | refine w_isi ?_ | refine u_neg ?_ | refine w_chain ?_ | refine u_ixc ?_ | refine u_ixs ?_ | refine u_fz ?_ | refine u_mv ?_ | refine w_anil ?_ | refine w_acons ?_ | refine u_aio ?_ | refine w_call ?_ | refine u_aug ?_ | refine w_asg ?_ | refine w_iv ?_ | refine w_ir ?_ | refine w_ien ?_ | refine w_yes ?_ | refine w_bno ?_ | refine u_bso ?_ | refine w_sl ?_ | refine u_slv ?_ | refine w_frz ?_ | refine u_app ?_ | refine u_ext ?_ | refine u_popAt ?_ | refine u_put ?_ | refine w_raise ?_ | refine w_try ?_ | refine w_fnil ?_ | refine w_fcons ?_) | ((with_reducible show Osat (rngOf _) _); first | ((with_reducible show Osat (rngOf [_]) _); refine o_rng (by omega) (by first | omega | (rw [List.length_map]; omega)) ?_) | ((with_reducible show Osat (rngOf [_, _]) _); refine o_rng2 (by omega) (by omega) (by omega) (by omega) ?_)) | ((with_reducible show Osat (repP _ _) _); first | refine o_mul (by omega) ?_ | refine o_mul' (by omega) ?_) | ((with_reducible show Osat (modP _ _) _); refine o_mod (by omega) ?_) | ((with_reducible show Osat (fdivP _ _) _); refine o_fdiv (by omega) (by omega) ?_) | ((fail_if_success with_reducible show Osat (rngOf _) _); (fail_if_success with_reducible show Osat (repP _ _) _); (fail_if_success with_reducible show Osat (idxV _ _) _); (first | (with_reducible show Osat (idxP _ (frzP (PV.int (OfNat.ofNat _)))) _) | (fail_if_success with_reducible show Osat (idxP _ _) _)); (first | (with_reducible show Osat (ixN _ (OfNat.ofNat _)) _) | (fail_if_success with_reducible show Osat (ixN _ _) _)); (with_reducible show Osat _ _); first | (apply Osat.of; rfl) | refine o_slotN rfl (by assumption) ?_ | refine o_tupM (ints_flat _) ?_) | ((with_reducible show ite (_ = true) _ _); first | refine if_t rfl ?_ | refine if_f rfl ?_)))
local macro_rules | `(tactic| walk_at "l3 norm") => `(tactic| (try simp only [List.set_cons_zero, List.set_cons_succ, List.map_cons, List.map_nil, List.replicate_zero, List.replicate_succ, List.length_cons, List.length_nil, frzP, List.cons_append, List.nil_append, Nat.reduceAdd, Nat.reduceSub, Nat.zero_add]))
theorem frac_low {a b : Int} {P : PV → List PV → Prop} {E : XV → List PV → Prop} (k : P (.bl true) []) : (d_law_fraction [lowI a b, lowI a b]).sat P E :=
  frac_wp (x := (a.toNat : Int) / (Nat.gcd a.toNat b.toNat : Nat)) (y := (b.toNat : Int) / (Nat.gcd a.toNat b.toNat : Nat)) k
theorem low_zero {b : Int} (h : 0 < b) : lowI 0 b = tI [0, 1] := by
  show PV.tup [.int (((0 : Int).toNat : Int) / (Nat.gcd (0 : Int).toNat b.toNat : Nat)), .int ((b.toNat : Int) / (Nat.gcd (0 : Int).toNat b.toNat : Nat))] = _
  rw [Int.toNat_zero, Nat.gcd_zero_left, Int.ediv_self (by omega)]
  simp [tI]
theorem asked_wp {K : KData} {n r : Nat} {p : List Int} {row : List Nat} {P : PV → List PV → Prop} {E : XV → List PV → Prop} (hK : KOk K n r) (hp : POk K p) (hr : Row r row) (hl : row.length ≤ 399) (k1 : W K n p row = 0 → P (.int 0) []) (k2 : 0 < W K n p row → P (.int 1) []) : (d_law_asked [K.pv, tI p, rowV row]).sat P E := by
  have hd0 := hK.d0
  have hd6 := hK.d6
  have h4 := hK.r4
  have hs := sum_le hp hK.c8
  have hs0 := hp.one
  obtain ⟨b1, b2⟩ := big_of (a := p.sum) (m := row.length) (d := K.d.toNat) (by omega) (Int.le_trans hs (by decide)) (by omega) (by omega) (by omega)
  refine w_run ?_
  (walk_at "l3 norm")
  unfold b_law_asked
  (repeat walk_at "l3 step")
  refine due_wp hK hp hr hl (fun hw => ?_) (fun hw => ?_)
  · (repeat walk_at "l3 step")
    refine ⟨rfl, rfl, by decide, [_, _, _], rfl, ?_⟩
    (repeat walk_at "l3 step")
    refine row_chance_wp hK hp hr (by omega) ?_
    (repeat walk_at "l3 step")
    rw [hw, low_zero (Int.mul_pos hs0 b2)]
    refine frac_wp ?_
    (repeat walk_at "l3 step")
    refine next_chances_wp hK hp hr hl (fun _ => ?_) (fun h => by omega)
    (repeat walk_at "l3 step")
    exact k1 hw
  · unfold dueV
    (repeat walk_at "l3 step")
    refine ⟨rfl, rfl, by decide, [_, _, _], rfl, ?_⟩
    (repeat walk_at "l3 step")
    refine row_chance_wp hK hp hr (by omega) ?_
    (repeat walk_at "l3 step")
    refine frac_low ?_
    (repeat walk_at "l3 step")
    refine next_chances_wp hK hp hr hl (fun h => by omega) (fun _ => ?_)
    (repeat walk_at "l3 step")
    rw [List.length_map, List.length_range, show ((r : Int) == (r : Int)) = true from beq_self_eq_true _]
    (repeat walk_at "l3 step")
    refine u_lcf (List.range r) nI (fun _ => .int 1) (fun _ => false) ?_
    (repeat walk_at "l3 step")
    rw [List.length_map, List.length_range]
    (repeat walk_at "l3 step")
    refine ⟨by rw [Int.toNat_natCast, intsR_map]; rfl, by first | omega | (rw [List.length_range]; omega), by show 6 < 7; decide, fun i hi => ⟨?_, fun hc => nomatch hc⟩, ?_⟩
    · have hi := List.mem_range.mp hi
      (repeat walk_at "l3 step")
      refine o_vxE (l := List.range r) (φ := fun i => lowI (W K n p (row ++ [i])) (W K n p row * K.d)) (s := i) 0 (.inl rfl) rfl (by rw [List.length_range]; exact hi) ?_
      (repeat walk_at "l3 step")
      refine o_vxE (l := List.range r) (φ := fun i => lowI (W K n p (row ++ [i])) (W K n p row * K.d)) (s := i) 0 (.inl rfl) rfl (by rw [List.length_range]; exact hi) ?_
      (repeat walk_at "l3 step")
      refine frac_low ?_
      (repeat walk_at "l3 step")
      exact ⟨rfl, rfl⟩
    · (repeat walk_at "l3 step")
      have ef : (List.range r).filter (fun _ => false) = [] := List.filter_eq_nil_iff.mpr fun _ _ h => nomatch h
      rw [ef]
      (repeat walk_at "l3 step")
      exact k2 hw
end G

set_option maxHeartbeats 4000000
namespace G
open PySem PySem.Spec PyProof.Rows L2 L3
local macro_rules | `(tactic| walk_at "l3 step") => `(tactic| (first | (with_reducible first | refine w_bk ?_ | refine w_ct ?_ | refine u_par ?_ | refine w_akw ?_ | refine w_revT ?_ | refine w_ien2 ?_ | refine w_bits ?_ | refine w_isx ?_ | refine w_isx2 ?_ | refine w_dnew ?_ | refine w_lstR ?_ | refine u_dget2 ?_ | refine u_dgetn ?_ | refine u_putD ?_ | refine w_seq ?_ | refine u_set ?_ | refine w_ret ?_ | refine w_if ?_ | refine w_drop ?_ | refine w_nx ?_ | refine w_retn ?_ | refine w_2 ?_ | refine w_t2 ?_ | refine w_c ?_ | refine u_v ?_ | refine u_of ?_ | refine w_tand ?_ | refine w_tor ?_ | refine w_tnot ?_ | refine u_and ?_ | refine u_or ?_ | refine u_not ?_ | refine w_ifx ?_ | refine w_nil ?_ | refine w_cons ?_ | refine w_consO ?_ | refine w_tup ?_ | refine w_lst ?_ | refine w_n ?_ | refine u_n1v ?_ | refine w_isi ?_ | refine u_neg ?_ | refine w_chain ?_ | refine u_ixc ?_ | refine u_ixs ?_ | refine u_fz ?_ | refine u_mv ?_ | refine w_anil ?_ | refine w_acons ?_ | refine u_aio ?_ | refine w_call ?_ | refine u_aug ?_ | refine w_asg ?_ | refine w_iv ?_ | refine w_ir ?_ | refine w_ien ?_ | refine w_yes ?_ | refine w_bno ?_ | refine u_bso ?_ | refine w_sl ?_ | refine u_slv ?_ | refine w_frz ?_ | refine u_app ?_ | refine u_ext ?_ | refine u_popAt ?_ | refine u_put ?_ | refine w_raise ?_ | refine w_try ?_ | refine w_fnil ?_ | refine w_fcons ?_) | ((with_reducible show Osat (rngOf _) _); first | ((with_reducible show Osat (rngOf [_]) _); refine o_rng (by omega) (by first | omega | (rw [List.length_map]; omega)) ?_) | ((with_reducible show Osat (rngOf [_, _]) _); refine o_rng2 (by omega) (by omega) (by omega) (by omega) ?_)) | ((with_reducible show Osat (repP _ _) _); first | refine o_mul (by omega) ?_ | refine o_mul' (by omega) ?_) | ((with_reducible show Osat (modP _ _) _); refine o_mod (by omega) ?_) | ((with_reducible show Osat (fdivP _ _) _); refine o_fdiv (by omega) (by omega) ?_) | ((fail_if_success with_reducible show Osat (rngOf _) _); (fail_if_success with_reducible show Osat (repP _ _) _); (fail_if_success with_reducible show Osat (idxV _ _) _); (first | (with_reducible show Osat (idxP _ (frzP (PV.int (OfNat.ofNat _)))) _) | (fail_if_success with_reducible show Osat (idxP _ _) _)); (first | (with_reducible show Osat (ixN _ (OfNat.ofNat _)) _) | (fail_if_success with_reducible show Osat (ixN _ _) _)); (with_reducible show Osat _ _); first | (apply Osat.of; rfl) | refine o_slotN rfl (by assumption) ?_ | refine o_tupM (ints_flat _) ?_) | ((with_reducible show ite (_ = true) _ _); first | refine if_t rfl ?_ | refine if_f rfl ?_)))
local macro_rules | `(tactic| walk_at "l3 norm") => `(tactic| (try simp only [List.set_cons_zero, List.set_cons_succ, List.map_cons, List.map_nil, List.replicate_zero, List.replicate_succ, List.length_cons, List.length_nil, frzP, List.cons_append, List.nil_append, Nat.reduceAdd, Nat.reduceSub, Nat.zero_add]))
theorem rowV_no (l : List Nat) : isOwn (rowV l) = false := rfl
theorem rowsL_len {r : Nat} (h : r ≤ 4) : ∀ m, (rowsL r m).length ≤ 4 ^ m
  | 0 => Nat.le_refl 1
  | m + 1 => by
    have ih := rowsL_len h m
    have e : ∀ L : List (List Nat), (L.flatMap fun row => (List.range r).map fun i => row ++ [i]).length = L.length * r := by
      intro L
      induction L with
      | nil => simp
      | cons a L ihL => rw [List.flatMap_cons, List.length_append, ihL, List.length_map, List.length_range, List.length_cons, Nat.add_mul, Nat.one_mul, Nat.add_comm]
    show ((rowsL r m).flatMap fun row => (List.range r).map fun i => row ++ [i]).length ≤ 4 ^ m * 4
    rw [e]
    exact Nat.mul_le_mul ih h
def ext (r : Nat) (L : List (List Nat)) : List (List Nat) := L.flatMap fun row => (List.range r).map fun i => row ++ [i]
theorem ext_snoc {r : Nat} {L : List (List Nat)} {row : List Nat} : ext r (L ++ [row]) = ext r L ++ (List.range r).map fun i => row ++ [i] := by
  unfold ext
  rw [List.flatMap_append, List.flatMap_cons, List.flatMap_nil, List.append_nil]
theorem ext_len {r : Nat} : ∀ L : List (List Nat), (ext r L).length = L.length * r := by
  intro L
  induction L with
  | nil => simp [ext]
  | cons a L ihL => unfold ext at ihL ⊢; rw [List.flatMap_cons, List.length_append, ihL, List.length_map, List.length_range, List.length_cons, Nat.add_mul, Nat.one_mul, Nat.add_comm]
theorem rows_wp {K : KData} {n r m : Nat} {P : PV → List PV → Prop} {E : XV → List PV → Prop} (hK : KOk K n r) (hm5 : m ≤ 5) (k : P (.lst ((rowsL r m).map rowV)) []) : (d_law_rows [K.pv, .int (m : Int)]).sat P E := by
  have h4 := hK.r4
  have hm := hK.hr
  refine w_run ?_
  (walk_at "l3 norm")
  unfold b_law_rows
  (repeat walk_at "l3 step")
  (walk_at "l3 norm")
  refine w_for ?_
  (repeat walk_at "l3 step")
  refine ⟨fun i e => ∃ a b c : Option PV, e = [some K.pv, some (.int (m : Int)), some (.lst ((rowsL r i).map rowV)), a, b, c, none], ⟨none, none, none, rfl⟩, ?_, ?_⟩
  · rintro i q e hi ⟨a, b, c, rfl⟩
    obtain ⟨hi, rfl⟩ := intsR_get hi
    have hi5 : i < 5 := by omega
    have hL : (rowsL r i).length ≤ 4 ^ 5 := Nat.le_trans (rowsL_len h4 i) (Nat.pow_le_pow_right (by omega) (by omega))
    (repeat walk_at "l3 step")
    refine w_forx (rowsL r i) rowV (fun j e => ∃ a c : Option PV, e = [some K.pv, some (.int (m : Int)), some (.lst ((rowsL r i).map rowV)), a, some (.lst ((ext r ((rowsL r i).take j)).map rowV)), c, none]) ?_
    (repeat walk_at "l3 step")
    refine ⟨rfl, ⟨_, _, rfl⟩, ?_, ?_⟩
    · rintro j row e hj ⟨a, c, rfl⟩
      have hj1 := (List.getElem?_eq_some_iff.mp hj).1
      have ht : (rowsL r i).take (j + 1) = (rowsL r i).take j ++ [row] := by rw [List.take_succ, hj]; rfl
      have hrl := (rowsL_ok i row (List.mem_of_getElem? hj)).2
      clear hj
      (repeat walk_at "l3 step")
      refine u_lcx (List.range r) nI (fun i => rowV (row ++ [i])) ?_
      (repeat walk_at "l3 step")
      refine ⟨by rw [Int.toNat_natCast, List.length_map, hm, intsR_map]; rfl, by rw [List.length_range]; omega, by show 6 < 7; decide, fun i hi => ?_, ?_⟩
      · (repeat walk_at "l3 step")
        refine o_catTI (φ := nI) (a := row) (b := [i]) rfl rfl (by show row.length + 1 ≤ _; omega) ?_
        (repeat walk_at "l3 step")
        exact ⟨rfl, rfl⟩
      · (repeat walk_at "l3 step")
        have hlen : ((rowsL r i).take j).length * r ≤ 4 ^ 5 * 4 := Nat.mul_le_mul (by rw [List.length_take]; omega) h4
        refine o_catLG (φ := rowV) (a := ext r ((rowsL r i).take j)) (b := (List.range r).map fun i => row ++ [i]) rfl ?_ (by rw [ext_len, List.length_map, List.length_range]; omega) ?_
        · show PV.lst (frzL _) = _
          rw [map_two (fun i => row ++ [i]) rowV, frzL_map_no rowV_no]
        · (repeat walk_at "l3 step")
          (walk_at "l3 norm")
          rw [frzL_map_no rowV_no, ← ext_snoc, ← ht]
          exact ⟨_, _, rfl⟩
    · rintro e ⟨a, c, rfl⟩
      rw [List.take_length]
      (repeat walk_at "l3 step")
      exact ⟨_, _, _, rfl⟩
  · rintro e ⟨a, b, c, rfl⟩
    rw [intsR_len, Int.toNat_natCast]
    (repeat walk_at "l3 step")
    exact k
theorem low_back {a b : Int} (h0 : 0 ≤ a) (h : 0 < b) : ((a.toNat : Int) / (Nat.gcd a.toNat b.toNat : Nat)) * (b / ((b.toNat : Int) / (Nat.gcd a.toNat b.toNat : Nat))) = a := by
  have e1 : a = (a.toNat : Int) := by omega
  have e2 : b = (b.toNat : Int) := by omega
  generalize a.toNat = x at *
  generalize b.toNat = y at *
  subst e1
  subst e2
  have hg : Nat.gcd x y ∣ y := Nat.gcd_dvd_right x y
  have hg1 : Nat.gcd x y ∣ x := Nat.gcd_dvd_left x y
  have e3 : y / (y / Nat.gcd x y) = Nat.gcd x y := Nat.div_div_self hg (by omega)
  rw [← Int.natCast_ediv, ← Int.natCast_ediv, ← Int.natCast_ediv, ← Int.natCast_mul, e3, Nat.div_mul_cancel hg1]
theorem nat_lt {x : Nat} {b : Int} (h : (x : Int) ≤ b) (hb : b < 2 ^ 8999) : x < 2 ^ 8999 := by
  have h1 : (x : Int) < 2 ^ 8999 := Int.lt_of_le_of_lt h hb
  have e3 : ((2 ^ 8999 : Nat) : Int) = (2 : Int) ^ 8999 := Int.natCast_pow _ _
  rw [← e3] at h1
  exact Int.ofNat_lt.mp h1
theorem low_bounds {a b : Int} (h0 : 0 ≤ a) (h : 0 < b) (ha : a < 2 ^ 8999) (hb : b < 2 ^ 8999) : 0 < (b.toNat : Int) / (Nat.gcd a.toNat b.toNat : Nat) ∧ ((b.toNat : Int) / (Nat.gcd a.toNat b.toNat : Nat)).natAbs < 2 ^ 8999 ∧ ((a.toNat : Int) / (Nat.gcd a.toNat b.toNat : Nat)).natAbs < 2 ^ 8999 ∧ (b / ((b.toNat : Int) / (Nat.gcd a.toNat b.toNat : Nat))).natAbs < 2 ^ 8999 := by
  have e1 : a = (a.toNat : Int) := by omega
  have e2 : b = (b.toNat : Int) := by omega
  generalize a.toNat = x at *
  generalize b.toNat = y at *
  subst e1
  subst e2
  have hy : 0 < y := by omega
  have hg : 0 < Nat.gcd x y := Nat.gcd_pos_of_pos_right x hy
  have hgd : Nat.gcd x y ∣ y := Nat.gcd_dvd_right x y
  have h1 : 0 < y / Nat.gcd x y := Nat.div_pos (Nat.le_of_dvd hy hgd) hg
  have h2 : y / Nat.gcd x y ≤ y := Nat.div_le_self _ _
  have h3 : x / Nat.gcd x y ≤ x := Nat.div_le_self _ _
  have h4 : y / (y / Nat.gcd x y) ≤ y := Nat.div_le_self _ _
  rw [← Int.natCast_ediv, ← Int.natCast_ediv, ← Int.natCast_ediv, Int.natAbs_natCast, Int.natAbs_natCast, Int.natAbs_natCast]
  exact ⟨by omega, nat_lt (Int.ofNat_le.mpr h2) hb, nat_lt (Int.ofNat_le.mpr h3) ha, nat_lt (Int.ofNat_le.mpr h4) hb⟩
theorem whole_wp {K : KData} {n r m : Nat} {p : List Int} {P : PV → List PV → Prop} {E : XV → List PV → Prop} (hK : KOk K n r) (hp : POk K p) (hm5 : m ≤ 5) (k : P (.bl true) []) : (d_law_whole [K.pv, tI p, .int (m : Int)]).sat P E := by
  have hd0 := hK.d0
  have hd6 := hK.d6
  have h4 := hK.r4
  have hs := sum_le hp hK.c8
  have hs0 := hp.one
  obtain ⟨b1, b2⟩ := big_of (a := p.sum) (m := m) (d := K.d.toNat) (by omega) (Int.le_trans hs (by decide)) (by omega) (by omega) (by omega)
  have b3 := Int.mul_pos hs0 b2
  refine w_run ?_
  (walk_at "l3 norm")
  unfold b_law_whole
  (repeat walk_at "l3 step")
  refine o_sumT (l := p) rfl ?_
  (repeat walk_at "l3 step")
  refine w_for ?_
  (repeat walk_at "l3 step")
  refine ⟨fun i e => ∃ a, e = [some K.pv, some (tI p), some (.int (m : Int)), some (.int (p.sum * (pw K.d.toNat i : Nat))), a, none, none, none], ⟨none, by show _ = ([_, _, _, some (PV.int (p.sum * ((1 : Nat) : Int))), _, _, _, _] : L3.Env); rw [Int.natCast_one, Int.mul_one]; rfl⟩, ?_, ?_⟩
  · rintro i x e hi ⟨a, rfl⟩
    (repeat walk_at "l3 step")
    show ∃ a : Option PV, _ = ([some K.pv, some (tI p), some (.int (m : Int)), some (.int (p.sum * ((pw K.d.toNat i * K.d.toNat : Nat) : Int))), a, none, none, none] : L3.Env)
    rw [Int.natCast_mul, show ((K.d.toNat : Nat) : Int) = K.d by omega, ← Int.mul_assoc]
    exact ⟨_, rfl⟩
  · rintro e ⟨a, rfl⟩
    rw [intsR_len, Int.toNat_natCast]
    (repeat walk_at "l3 step")
    refine w_forx (rowsL r m) rowV (fun j e => ∃ a b c : Option PV, e = [some K.pv, some (tI p), some (.int (m : Int)), some (.int (p.sum * (pw K.d.toNat m : Nat))), a, some (.int (((rowsL r m).take j).map (W K n p)).sum), b, c]) ?_
    (repeat walk_at "l3 step")
    refine rows_wp hK hm5 ?_
    (repeat walk_at "l3 step")
    refine ⟨rfl, ⟨_, none, none, rfl⟩, ?_, ?_⟩
    · rintro j row e hj ⟨a, b, c, rfl⟩
      obtain ⟨hr, hrl⟩ := rowsL_ok m row (List.mem_of_getElem? hj)
      have ht : ((rowsL r m).take (j + 1)).map (W K n p) = ((rowsL r m).take j).map (W K n p) ++ [W K n p row] := by rw [List.take_succ, hj, List.map_append]; rfl
      have hs1 : (((rowsL r m).take (j + 1)).map (W K n p)).sum = (((rowsL r m).take j).map (W K n p)).sum + W K n p row := by rw [ht, List.sum_append, List.sum_cons, List.sum_nil, Int.add_zero]
      clear hj ht
      have hw := W_pos hK hp hr
      have hwb := W_le hK hp hr
      rw [hrl] at hwb
      have hwb2 := Int.lt_of_le_of_lt hwb b1
      obtain ⟨l1, l2, l3, l4⟩ := low_bounds hw b3 hwb2 b1
      have lb := low_back hw b3
      (repeat walk_at "l3 step")
      refine row_chance_wp hK hp hr (by omega) ?_
      rw [hrl]
      (repeat walk_at "l3 step")
      refine due_wp hK hp hr (by omega) (fun hw0 => ?_) (fun hw0 => ?_)
      · (repeat walk_at "l3 step")
        rw [hw0, low_zero b3]
        refine frac_wp ?_
        (repeat walk_at "l3 step")
        rw [Int.zero_mul, Int.add_zero]
        show ∃ a b c : Option PV, _ = ([some K.pv, some (tI p), some (PV.int (m : Int)), some (PV.int (p.sum * (pw K.d.toNat m : Nat))), a, some (PV.int (((rowsL r m).take (j + 1)).map (W K n p)).sum), b, c] : L3.Env)
        rw [hs1, hw0, Int.add_zero]
        exact ⟨_, _, _, rfl⟩
      · unfold dueV
        rw [hrl]
        (repeat walk_at "l3 step")
        refine frac_low ?_
        (repeat walk_at "l3 step")
        refine o_fdivW l1 l2 ?_
        (repeat walk_at "l3 step")
        refine o_mulW l3 l4 ?_
        rw [lb]
        (repeat walk_at "l3 step")
        show ∃ a b c : Option PV, _ = ([some K.pv, some (tI p), some (PV.int (m : Int)), some (PV.int (p.sum * (pw K.d.toNat m : Nat))), a, some (PV.int (((rowsL r m).take (j + 1)).map (W K n p)).sum), b, c] : L3.Env)
        rw [hs1]
        exact ⟨_, _, _, rfl⟩
    · rintro e ⟨a, b, c, rfl⟩
      rw [List.take_length, rowsL_sum hK hp]
      (repeat walk_at "l3 step")
      show P (.bl (p.sum * (pw K.d.toNat m : Nat) == p.sum * (pw K.d.toNat m : Nat))) []
      rw [beq_self_eq_true]
      exact k
end G

set_option maxHeartbeats 4000000
namespace G
open PySem PySem.Spec PyProof.Rows L2 L3
local macro_rules | `(tactic| walk_at "l3 step") => `(tactic| (first | (with_reducible first | refine w_bk ?_ | refine w_ct ?_ | refine u_par ?_ | refine w_akw ?_ | refine w_revT ?_ | refine w_ien2 ?_ | refine w_bits ?_ | refine w_isx ?_ | refine w_isx2 ?_ | refine w_dnew ?_ | refine w_lstR ?_ | refine u_dget2 ?_ | refine u_dgetn ?_ | refine u_putD ?_ | refine w_seq ?_ | refine u_set ?_ | refine w_ret ?_ | refine w_if ?_ | refine w_drop ?_ | refine w_nx ?_ | refine w_retn ?_ | refine w_2 ?_ | refine w_t2 ?_ | refine w_c ?_ | refine u_v ?_ | refine u_of ?_ | refine w_tand ?_ | refine w_tor ?_ | refine w_tnot ?_ | refine u_and ?_ | refine u_or ?_ | refine u_not ?_ | refine w_ifx ?_ | refine w_nil ?_ | refine w_cons ?_ | refine w_consO ?_ | refine w_tup ?_ | refine w_lst ?_ | refine w_n ?_ | refine u_n1v ?_ | refine w_isi ?_ | refine u_neg ?_ | refine w_chain ?_ | refine u_ixc ?_ | refine u_ixs ?_ | refine u_fz ?_ | refine u_mv ?_ | refine w_anil ?_ | refine w_acons ?_ | refine u_aio ?_ | refine w_call ?_ | refine u_aug ?_ | refine w_asg ?_ | refine w_iv ?_ | refine w_ir ?_ | refine w_ien ?_ | refine w_yes ?_ | refine w_bno ?_ | refine u_bso ?_ | refine w_sl ?_ | refine u_slv ?_ | refine w_frz ?_ | refine u_app ?_ | refine u_ext ?_ | refine u_popAt ?_ | refine u_put ?_ | refine w_raise ?_ | refine w_try ?_ | refine w_fnil ?_ | refine w_fcons ?_) | ((with_reducible show Osat (rngOf _) _); first | ((with_reducible show Osat (rngOf [_]) _); refine o_rng (by omega) (by first | omega | (rw [List.length_map]; omega)) ?_) | ((with_reducible show Osat (rngOf [_, _]) _); refine o_rng2 (by omega) (by omega) (by omega) (by omega) ?_)) | ((with_reducible show Osat (repP _ _) _); first | refine o_mul (by omega) ?_ | refine o_mul' (by omega) ?_) | ((with_reducible show Osat (modP _ _) _); refine o_mod (by omega) ?_) | ((with_reducible show Osat (fdivP _ _) _); refine o_fdiv (by omega) (by omega) ?_) | ((fail_if_success with_reducible show Osat (rngOf _) _); (fail_if_success with_reducible show Osat (repP _ _) _); (fail_if_success with_reducible show Osat (idxV _ _) _); (first | (with_reducible show Osat (idxP _ (frzP (PV.int (OfNat.ofNat _)))) _) | (fail_if_success with_reducible show Osat (idxP _ _) _)); (first | (with_reducible show Osat (ixN _ (OfNat.ofNat _)) _) | (fail_if_success with_reducible show Osat (ixN _ _) _)); (with_reducible show Osat _ _); first | (apply Osat.of; rfl) | refine o_slotN rfl (by assumption) ?_ | refine o_tupM (ints_flat _) ?_) | ((with_reducible show ite (_ = true) _ _); first | refine if_t rfl ?_ | refine if_f rfl ?_)))
local macro_rules | `(tactic| walk_at "l3 norm") => `(tactic| (try simp only [List.set_cons_zero, List.set_cons_succ, List.map_cons, List.map_nil, List.replicate_zero, List.replicate_succ, List.length_cons, List.length_nil, frzP, List.cons_append, List.nil_append, Nat.reduceAdd, Nat.reduceSub, Nat.zero_add]))
theorem nI_no (x : Nat) : isOwn (nI x) = false := rfl
def rs (K : KData) (i s : Nat) : Int := ((K.moves.getD i []).getD s []).sum
theorem rs_eq {K : KData} {n r i s : Nat} (hK : KOk K n r) (hi : i < r) (hs : s < n) : rs K i s = sumF (num K i s) n := by
  obtain ⟨_, _, m3, _⟩ := mv_at hK hi hs
  exact (sumF_all m3).symm
/-- how many of the lot have it -/
def anyL (lot : List Nat) (f : Nat → Int) : Bool := decide ((((lot.filter fun s => decide (f s > 0)).map fun _ => PV.int 1).length : Int) > 0)
theorem anyL_frz {lot : List Nat} {f : Nat → Int} : decide (0 < ((frzL ((lot.filter fun s => decide (f s > 0)).map fun _ => PV.int 1)).length : Int)) = anyL lot f := by
  unfold anyL
  rw [frzL_map, List.length_map]
theorem anyL_iff {lot : List Nat} {f : Nat → Int} : anyL lot f = true ↔ ∃ s, s ∈ lot ∧ 0 < f s := by
  unfold anyL
  rw [decide_eq_true_eq, List.length_map]
  constructor
  · intro h
    have h2 : (lot.filter fun s => decide (f s > 0)) ≠ [] := fun e => by rw [e] at h; simp at h
    obtain ⟨s, hs⟩ := List.exists_mem_of_ne_nil _ h2
    obtain ⟨h3, h4⟩ := List.mem_filter.mp hs
    exact ⟨s, h3, of_decide_eq_true h4⟩
  · rintro ⟨s, hs, h⟩
    have h2 := List.length_pos_of_mem (List.mem_filter.mpr ⟨hs, decide_eq_true h⟩ : s ∈ lot.filter fun s => decide (f s > 0))
    omega
def cyc (z : Int) (r : Nat) : List Nat := (List.range r).map fun (t : Nat) => ((z + (t : Int)) % (r : Int)).toNat
theorem cyc_lt {z : Int} {r i : Nat} (h : i ∈ cyc z r) : i < r := by
  obtain ⟨t, ht, rfl⟩ := List.mem_map.mp h
  have ht := List.mem_range.mp ht
  have h1 := Int.emod_lt_of_pos (z + (t : Int)) (show 0 < (r : Int) by omega)
  have h2 := Int.emod_nonneg (z + (t : Int)) (show (r : Int) ≠ 0 by omega)
  omega
theorem cyc_mem {z : Int} {r i : Nat} (h0 : 0 ≤ z) (h1 : z < r) (hi : i < r) : i ∈ cyc z r := by
  by_cases h : z ≤ i
  · refine List.mem_map.mpr ⟨((i : Int) - z).toNat, List.mem_range.mpr (by omega), ?_⟩
    have e : z + ((((i : Int) - z).toNat : Nat) : Int) = (i : Int) := by omega
    rw [e, Int.emod_eq_of_lt (by omega) (by omega)]
    omega
  · refine List.mem_map.mpr ⟨((i : Int) - z + r).toNat, List.mem_range.mpr (by omega), ?_⟩
    have e : z + ((((i : Int) - z + r).toNat : Nat) : Int) = (i : Int) + r := by omega
    rw [e, Int.add_emod_right, Int.emod_eq_of_lt (by omega) (by omega)]
    omega
theorem step_wp {K : KData} {n r m : Nat} {p : List Int} {j : PV} {P : PV → List PV → Prop} {E : XV → List PV → Prop} (hj : Jug j) (hK : KOk K n r) (hp : POk K p) (hm4 : m ≤ 310) (k : ∀ row j', Jug j' → Row r row → row.length = m → 0 < W K n p row → P (rowV row) [j']) : (d_law_step [j, K.pv, tI p, .int (m : Int)]).sat P E := by
  have h8 := hK.n8
  have h0 := hK.n0
  have h1 := hK.r1
  have h4 := hK.r4
  have hn := hK.hn
  have hm := hK.hr
  have hc8 := hK.c8
  have hl := hp.len
  refine w_run ?_
  (walk_at "l3 norm")
  unfold b_law_step
  (repeat walk_at "l3 step")
  refine u_lcf (List.range K.starts.length) nI (fun c => nI (K.starts.getD c 0).toNat) (fun c => decide (p.getD c 0 > 0)) ?_
  (repeat walk_at "l3 step")
  refine ⟨by rw [Int.toNat_natCast, List.length_map, hl, intsR_map]; rfl, by rw [List.length_range]; omega, by show 6 < 15; decide, fun c hc => ⟨?_, fun hcc => ?_⟩, ?_⟩
  · have hc := List.mem_range.mp hc
    (repeat walk_at "l3 step")
    refine o_vxE (l := p) (φ := PV.int) (s := c) 0 (.inl rfl) rfl (by omega) ?_
    (repeat walk_at "l3 step")
    exact ⟨rfl, rfl⟩
  · have hc := List.mem_range.mp hc
    obtain ⟨s, h1, h2⟩ := start_at hK hc
    (repeat walk_at "l3 step")
    refine o_idE (l := K.starts) (φ := PV.int) (s := c) 0 rfl rfl hc ?_
    rw [h1]
    (repeat walk_at "l3 step")
    exact ⟨rfl, rfl⟩
  (repeat walk_at "l3 step")
  (walk_at "l3 norm")
  rw [map_two (fun c => (K.starts.getD c 0).toNat) nI, frzL_map_no nI_no]
  refine w_for ?_
  (repeat walk_at "l3 step")
  refine ⟨fun i e => ∃ (j : PV) (row lot : List Nat) (a b c d : Option PV), Jug j ∧ Row r row ∧ row.length = i ∧ lot ≠ [] ∧ lot.length ≤ 8 ∧ (∀ s, s ∈ lot → s < n ∧ 0 < fwd K n (w0 K p) row s) ∧ e = [some j, some K.pv, some (tI p), some (.int (m : Int)), some (rowV row), some (.lst (lot.map nI)), none, a, b, c, d, none, none, none, none], ?_, ?_, ?_⟩
  · refine ⟨j, [], _, none, none, none, none, hj, (by intro i hi; cases hi), rfl, ?_, ?_, ?_, rfl⟩
    · have h3 : 0 < sumF (fun c => p.getD c 0) K.starts.length := by rw [sumF_all hl]; exact hp.one
      obtain ⟨c, hc, hpc⟩ := sumF_some _ h3
      intro e
      have : c ∈ (List.range K.starts.length).filter fun c => decide (p.getD c 0 > 0) := List.mem_filter.mpr ⟨List.mem_range.mpr hc, decide_eq_true hpc⟩
      rw [List.map_eq_nil_iff.mp e] at this
      cases this
    · rw [List.length_map]
      exact Nat.le_trans (List.length_filter_le _ _) (by rw [List.length_range]; exact hc8)
    · intro s hs
      obtain ⟨c, hc, rfl⟩ := List.mem_map.mp hs
      obtain ⟨hc1, hc2⟩ := List.mem_filter.mp hc
      have hc1 := List.mem_range.mp hc1
      have hc2 : p.getD c 0 > 0 := of_decide_eq_true hc2
      obtain ⟨t, e1, e2⟩ := start_at hK hc1
      refine ⟨by rw [e1]; omega, ?_⟩
      show 0 < w0 K p (K.starts.getD c 0).toNat
      have h5 := sumF_le K.starts.length (g := fun c' => if (K.starts.getD c' 0).toNat = (K.starts.getD c 0).toNat then p.getD c' 0 else 0) (fun c' hc' => by
        split
        · exact (p_at hp hc').1
        · exact Int.le_refl 0) c hc1
      simp only [if_true] at h5
      exact Int.lt_of_lt_of_le hc2 h5
  · rintro i q e hi ⟨j, row, lot, a, b, c, d, hj, hrow, hlen, hne, hl8, hlot, rfl⟩
    obtain ⟨hi, rfl⟩ := intsR_get hi
    (repeat walk_at "l3 step")
    refine pour_wp hj (by rw [List.length_map]; omega) fun z j1 hj1 z0 z1 => ?_
    rw [List.length_map, hm] at z1
    (repeat walk_at "l3 step")
    refine u_lcx (List.range r) nI (fun t => nI ((z + (t : Int)) % (r : Int)).toNat) ?_
    (repeat walk_at "l3 step")
    refine ⟨by rw [Int.toNat_natCast, List.length_map, hm, intsR_map]; rfl, by rw [List.length_range]; omega, by show 11 < 15; decide, fun t ht => ?_, ?_⟩
    · (repeat walk_at "l3 step")
      rw [List.length_map, hm]
      refine o_mod (by omega) ?_
      (repeat walk_at "l3 step")
      have h2 := Int.emod_nonneg (z + (t : Int)) (show (r : Int) ≠ 0 by omega)
      exact ⟨by unfold nI; congr 1; omega, rfl⟩
    (repeat walk_at "l3 step")
    (walk_at "l3 norm")
    rw [map_two (fun (t : Nat) => ((z + (t : Int)) % (r : Int)).toNat) nI, frzL_map_no nI_no, show (List.range r).map (fun (t : Nat) => ((z + (t : Int)) % (r : Int)).toNat) = cyc z r from rfl]
    refine u_lcf (cyc z r) nI nI (fun i => anyL lot (rs K i)) ?_
    (repeat walk_at "l3 step")
    refine ⟨rfl, by unfold cyc; rw [List.length_map, List.length_range]; omega, by show 13 < 15; decide, fun x hx => ⟨?_, fun _ => ?_⟩, ?_⟩
    · have hx := cyc_lt hx
      (repeat walk_at "l3 step")
      refine u_lcf lot nI (fun _ => .int 1) (fun s => decide (rs K x s > 0)) ?_
      (repeat walk_at "l3 step")
      refine ⟨rfl, by omega, by show 14 < 15; decide, fun s hs => ⟨?_, fun _ => ?_⟩, ?_⟩
      · obtain ⟨hs1, _⟩ := hlot s hs
        obtain ⟨m1, m2, m3, _⟩ := mv_at hK hx hs1
        (repeat walk_at "l3 step")
        refine o_idE (l := K.moves) (φ := tTab) (s := x) [] rfl rfl (by omega) ?_
        (repeat walk_at "l3 step")
        refine o_idE (l := K.moves.getD x []) (φ := tI) (s := s) [] rfl rfl (by omega) ?_
        (repeat walk_at "l3 step")
        refine o_sumT (l := (K.moves.getD x []).getD s []) rfl ?_
        (repeat walk_at "l3 step")
        exact ⟨rfl, rfl⟩
      · (repeat walk_at "l3 step")
        exact ⟨rfl, rfl⟩
      · (repeat walk_at "l3 step")
        exact ⟨anyL_frz, rfl⟩
    · (repeat walk_at "l3 step")
      exact ⟨rfl, rfl⟩
    have hex : ∃ y rest, (cyc z r).filter (fun i => anyL lot (rs K i)) = y :: rest := by
      obtain ⟨s, hs⟩ := List.exists_mem_of_ne_nil _ hne
      obtain ⟨h5, _⟩ := hlot s hs
      have h6 : 0 < sumF (fun i => sumF (num K i s) n) r := by rw [hK.rows s h5]; have := hK.d0; omega
      obtain ⟨i', hi', h7⟩ := sumF_some _ h6
      have h9 : i' ∈ (cyc z r).filter (fun i => anyL lot (rs K i)) := List.mem_filter.mpr ⟨cyc_mem z0 z1 hi', anyL_iff.mpr ⟨s, hs, by rw [rs_eq hK hi' h5]; exact h7⟩⟩
      exact List.exists_cons_of_ne_nil (List.ne_nil_of_mem h9)
    obtain ⟨y, rest, hf⟩ := hex
    have hy : y ∈ (cyc z r).filter (fun i => anyL lot (rs K i)) := by rw [hf]; exact List.mem_cons_self
    obtain ⟨hy1, hy2⟩ := List.mem_filter.mp hy
    have hyr := cyc_lt hy1
    obtain ⟨s1, hs1, hs2⟩ := anyL_iff.mp hy2
    obtain ⟨hs3, hs4⟩ := hlot s1 hs1
    rw [rs_eq hK hyr hs3] at hs2
    obtain ⟨t1, ht1, ht2⟩ := sumF_some _ hs2
    rw [hf]
    clear hf hy hy1 hy2
    (repeat walk_at "l3 step")
    refine o_ixL (l := (y :: rest).map nI) (r := 0) (x := nI y) (by show PV.lst (frzL _) = _; rw [frzL_map_no nI_no]) rfl (by omega) rfl ?_
    (repeat walk_at "l3 step")
    refine u_lcf (List.range n) nI nI (fun t => anyL lot (fun s => num K y s t)) ?_
    (repeat walk_at "l3 step")
    refine ⟨by rw [Int.toNat_natCast, List.length_map, hn, intsR_map]; rfl, by rw [List.length_range]; omega, by show 12 < 15; decide, fun t ht => ⟨?_, fun _ => ?_⟩, ?_⟩
    · have ht := List.mem_range.mp ht
      (repeat walk_at "l3 step")
      refine u_lcf lot nI (fun _ => .int 1) (fun s => decide (num K y s t > 0)) ?_
      (repeat walk_at "l3 step")
      refine ⟨rfl, by omega, by show 14 < 15; decide, fun s hs => ⟨?_, fun _ => ?_⟩, ?_⟩
      · obtain ⟨hs1, _⟩ := hlot s hs
        obtain ⟨m1, m2, m3, _⟩ := mv_at hK hyr hs1
        (repeat walk_at "l3 step")
        refine o_idE (l := K.moves) (φ := tTab) (s := y) [] rfl rfl (by omega) ?_
        (repeat walk_at "l3 step")
        refine o_idE (l := K.moves.getD y []) (φ := tI) (s := s) [] rfl rfl (by omega) ?_
        (repeat walk_at "l3 step")
        refine o_idE (l := (K.moves.getD y []).getD s []) (φ := PV.int) (s := t) 0 rfl rfl (by omega) ?_
        (repeat walk_at "l3 step")
        exact ⟨rfl, rfl⟩
      · (repeat walk_at "l3 step")
        exact ⟨rfl, rfl⟩
      · (repeat walk_at "l3 step")
        exact ⟨anyL_frz (f := fun s => num K y s t), rfl⟩
    · (repeat walk_at "l3 step")
      exact ⟨rfl, rfl⟩
    (repeat walk_at "l3 step")
    (walk_at "l3 norm")
    rw [frzL_map_no nI_no]
    (repeat walk_at "l3 step")
    refine o_catTI (φ := nI) (a := row) (b := [y]) rfl rfl (by show row.length + 1 ≤ _; omega) ?_
    (repeat walk_at "l3 step")
    refine ⟨j1, row ++ [y], (List.range n).filter (fun t => anyL lot (fun s => num K y s t)), _, _, _, _, hj1, row_snoc hrow hyr, by rw [List.length_append, hlen]; rfl, ?_, ?_, ?_, rfl⟩
    · exact List.ne_nil_of_mem (List.mem_filter.mpr ⟨List.mem_range.mpr ht1, anyL_iff.mpr ⟨s1, hs1, ht2⟩⟩)
    · exact Nat.le_trans (List.length_filter_le _ _) (by rw [List.length_range]; exact h8)
    · intro t ht
      obtain ⟨ht3, ht4⟩ := List.mem_filter.mp ht
      have ht3 := List.mem_range.mp ht3
      obtain ⟨s, hs5, hs6⟩ := anyL_iff.mp ht4
      obtain ⟨hs7, hs8⟩ := hlot s hs5
      refine ⟨ht3, ?_⟩
      rw [fwd_snoc]
      exact fw_some hK hyr (fwd_pos hK hrow fun s _ => w0_pos hp s) hs7 ht3 hs8 hs6
  · rintro e ⟨j, row, lot, a, b, c, d, hj, hrow, hlen, hne, hl8, hlot, rfl⟩
    rw [intsR_len, Int.toNat_natCast] at hlen
    (repeat walk_at "l3 step")
    refine k row j hj hrow hlen ?_
    obtain ⟨s, hs⟩ := List.exists_mem_of_ne_nil _ hne
    obtain ⟨h5, h6⟩ := hlot s hs
    exact Int.lt_of_lt_of_le h6 (sumF_le n (fwd_pos hK hrow fun s _ => w0_pos hp s) s h5)
end G

set_option maxHeartbeats 4000000
namespace G
open PySem PySem.Spec PyProof.Rows L2 L3
local macro_rules | `(tactic| walk_at "l3 step") => `(tactic| (first | (with_reducible first | refine w_bk ?_ | refine w_ct ?_ | refine u_par ?_ | refine w_akw ?_ | refine w_revT ?_ | refine w_ien2 ?_ | refine w_bits ?_ | refine w_isx ?_ | refine w_isx2 ?_ | refine w_dnew ?_ | refine w_lstR ?_ | refine u_dget2 ?_ | refine u_dgetn ?_ | refine u_putD ?_ | refine w_seq ?_ | refine u_set ?_ | refine w_ret ?_ | refine w_if ?_ | refine w_drop ?_ | refine w_nx ?_ | refine w_retn ?_ | refine w_2 ?_ | refine w_t2 ?_ | refine w_c ?_ | refine u_v ?_ | refine u_of ?_ | refine w_tand ?_ | refine w_tor ?_ | refine w_tnot ?_ | refine u_and ?_ | refine u_or ?_ | refine u_not ?_ | refine w_ifx ?_ | refine w_nil ?_ | refine w_cons ?_ | refine w_consO ?_ | refine w_tup ?_ | refine w_lst ?_ | refine w_n ?_ | refine u_n1v ?_ | refine w_isi ?_ | refine u_neg ?_ | refine w_chain ?_ | refine u_ixc ?_ | refine u_ixs ?_ | refine u_fz ?_ | refine u_mv ?_ | refine w_anil ?_ | refine w_acons ?_ | refine u_aio ?_ | refine w_call ?_ | refine u_aug ?_ | refine w_asg ?_ | refine w_iv ?_ | refine w_ir ?_ | refine w_ien ?_ | refine w_yes ?_ | refine w_bno ?_ | refine u_bso ?_ | refine w_sl ?_ | refine u_slv ?_ | refine w_frz ?_ | refine u_app ?_ | refine u_ext ?_ | refine u_popAt ?_ | refine u_put ?_ | refine w_raise ?_ | refine w_try ?_ | refine w_fnil ?_ | refine w_fcons ?_) | ((with_reducible show Osat (rngOf _) _); first | ((with_reducible show Osat (rngOf [_]) _); refine o_rng (by omega) (by first | omega | (rw [List.length_map]; omega)) ?_) | ((with_reducible show Osat (rngOf [_, _]) _); refine o_rng2 (by omega) (by omega) (by omega) (by omega) ?_)) | ((with_reducible show Osat (repP _ _) _); first | refine o_mul (by omega) ?_ | refine o_mul' (by omega) ?_) | ((with_reducible show Osat (modP _ _) _); refine o_mod (by omega) ?_) | ((with_reducible show Osat (fdivP _ _) _); refine o_fdiv (by omega) (by omega) ?_) | ((fail_if_success with_reducible show Osat (rngOf _) _); (fail_if_success with_reducible show Osat (repP _ _) _); (fail_if_success with_reducible show Osat (idxV _ _) _); (first | (with_reducible show Osat (idxP _ (frzP (PV.int (OfNat.ofNat _)))) _) | (fail_if_success with_reducible show Osat (idxP _ _) _)); (first | (with_reducible show Osat (ixN _ (OfNat.ofNat _)) _) | (fail_if_success with_reducible show Osat (ixN _ _) _)); (with_reducible show Osat _ _); first | (apply Osat.of; rfl) | refine o_slotN rfl (by assumption) ?_ | refine o_tupM (ints_flat _) ?_) | ((with_reducible show ite (_ = true) _ _); first | refine if_t rfl ?_ | refine if_f rfl ?_)))
local macro_rules | `(tactic| walk_at "l3 norm") => `(tactic| (try simp only [List.set_cons_zero, List.set_cons_succ, List.map_cons, List.map_nil, List.replicate_zero, List.replicate_succ, List.length_cons, List.length_nil, frzP, List.cons_append, List.nil_append, Nat.reduceAdd, Nat.reduceSub, Nat.zero_add]))
theorem zeros {m : Nat} : (intsR 0 m).map (fun _ => PV.int 0) = (List.replicate m (0 : Int)).map PV.int := by
  rw [List.map_const', intsR_len, List.map_replicate]
theorem before_wp {j : PV} {C : Nat} {P : PV → List PV → Prop} {E : XV → List PV → Prop} (hj : Jug j) (h1 : 1 ≤ C) (h8 : C ≤ 8) (k : ∀ l j', Jug j' → l.length = C → (∀ x, x ∈ l → 0 ≤ x ∧ x ≤ 1000000) → 0 < l.sum → P (tI l) [j']) : (d_law_before [j, .int (C : Int)]).sat P E := by
  refine w_run ?_
  (walk_at "l3 norm")
  unfold b_law_before
  (repeat walk_at "l3 step")
  refine u_lcm ?_
  (repeat walk_at "l3 step")
  refine ⟨by rw [intsR_len]; omega, by show 3 < 6; decide, fun _ => .int 0, fun p hp => by (repeat walk_at "l3 step"); exact ⟨rfl, rfl⟩, ?_⟩
  (repeat walk_at "l3 step")
  rw [Int.toNat_natCast, zeros]
  (walk_at "l3 norm")
  refine w_for ?_
  (repeat walk_at "l3 step")
  refine (show (d_law_tilt [j, .int ((6 : Nat) : Int), .int 3]).sat _ _ from ?_)
  refine tilt_wp hj (by omega) (by decide) fun z1 j1 hj1 z10 z11 => ?_
  (repeat walk_at "l3 step")
  have hp : ∃ v : Nat, 1 ≤ v ∧ v ≤ 9 ∧ idxP (.tup [.int 1, .int 2, .int 9]) (.int z1) = some (.int (v : Int)) := by
    rcases (by omega : z1 = 0 ∨ z1 = 1 ∨ z1 = 2) with rfl | rfl | rfl
    · exact ⟨1, by omega, by omega, rfl⟩
    · exact ⟨2, by omega, by omega, rfl⟩
    · exact ⟨9, by omega, by omega, rfl⟩
  obtain ⟨v, hv1, hv2, ev⟩ := hp
  refine Osat.of ev ?_
  (repeat walk_at "l3 step")
  refine ⟨fun i e => ∃ (j : PV) (l : List Int) (a b : Option PV), Jug j ∧ l.length = C ∧ (∀ x, x ∈ l → 0 ≤ x ∧ x ≤ 1000000) ∧ (0 < i → 0 < l.sum) ∧ e = [some j, some (.int (C : Int)), some (.mls (l.map .int)), none, a, b], ⟨j1, List.replicate C 0, none, none, hj1, List.length_replicate, fun x hx => by rw [(List.mem_replicate.mp hx).2]; omega, fun h => by omega, rfl⟩, ?_, ?_⟩
  · rintro i q e hi ⟨j2, l, a, b, hj2, hl, hall, hsum, rfl⟩
    (repeat walk_at "l3 step")
    refine pour_wp hj2 (by omega) fun z2 j3 hj3 z20 z21 => ?_
    (repeat walk_at "l3 step")
    refine pour_wp hj3 (by decide) fun z3 j4 hj4 z30 z31 => ?_
    (repeat walk_at "l3 step")
    have hp : ∃ y : Int, 1 ≤ y ∧ y ≤ 1000 ∧ idxP (.tup [.int 1, .int 1000, .int 3]) (.int z3) = some (.int y) := by
      rcases (by omega : z3 = 0 ∨ z3 = 1 ∨ z3 = 2) with rfl | rfl | rfl
      · exact ⟨1, by omega, by omega, rfl⟩
      · exact ⟨1000, by omega, by omega, rfl⟩
      · exact ⟨3, by omega, by omega, rfl⟩
    obtain ⟨y, hy1, hy2, ey⟩ := hp
    refine Osat.of ey ?_
    (repeat walk_at "l3 step")
    refine o_ixZ z20 (by rw [List.length_map]; omega) ?_
    (repeat walk_at "l3 step")
    (walk_at "l3 norm")
    rw [ints_set]
    have hz : z2.toNat < l.length := by omega
    have hall2 : ∀ x, x ∈ l.set z2.toNat y → 0 ≤ x ∧ x ≤ 1000000 := fun x hx => by
      rcases List.mem_or_eq_of_mem_set hx with h | rfl
      · exact hall x h
      · omega
    refine ⟨j4, l.set z2.toNat y, _, _, hj4, by rw [List.length_set]; exact hl, hall2, fun _ => ?_, rfl⟩
    have h5 := (le_sum (l := l.set z2.toNat y) fun x hx => (hall2 x hx).1).2 y (List.mem_of_getElem? (List.getElem?_set_self hz))
    omega
  · rintro e ⟨j2, l, a, b, hj2, hl, hall, hsum, rfl⟩
    rw [intsR_len] at hsum
    (repeat walk_at "l3 step")
    exact k l j2 hj2 hl hall (hsum (by omega))
/-! ### tables that fill -/
def numT (T : List (List (List Int))) (i s t : Nat) : Int := ((T.getD i []).getD s []).getD t 0
structure Shape (T : List (List (List Int))) (r n : Nat) : Prop where
  len : T.length = r
  l1 : ∀ i, i < r → (T.getD i []).length = n
  l2 : ∀ i s, i < r → s < n → ((T.getD i []).getD s []).length = n
theorem getD_set {α : Type} {l : List α} {a i : Nat} {x d : α} (h : a < l.length) : (l.set a x).getD i d = if a = i then x else l.getD i d := by
  rw [List.getD_eq_getElem?_getD, List.getD_eq_getElem?_getD, List.getElem?_set]
  by_cases e : a = i
  · subst e
    rw [if_pos rfl, if_pos h, if_pos rfl]
    rfl
  · rw [if_neg e, if_neg e]
theorem set3_at {T : List (List (List Int))} {r n a b c : Nat} {v : Int} (h : Shape T r n) (ha : a < r) (hb : b < n) (hc : c < n) : Shape (set3 T a b c v) r n ∧ ∀ i s t, numT (set3 T a b c v) i s t = if a = i ∧ b = s ∧ c = t then v else numT T i s t := by
  have h1 := h.len
  have h2 := h.l1 a ha
  have h3 := h.l2 a b ha hb
  have e1 : ∀ i, (set3 T a b c v).getD i [] = if a = i then (T.getD a []).set b (((T.getD a []).getD b []).set c v) else T.getD i [] := fun i => by
    show (T.set (a : Int).toNat ((T.getD (a : Int).toNat []).set (b : Int).toNat (((T.getD (a : Int).toNat []).getD (b : Int).toNat []).set (c : Int).toNat v))).getD i [] = _
    rw [Int.toNat_natCast, Int.toNat_natCast, Int.toNat_natCast, getD_set (by omega)]
  have e2 : ∀ s, ((T.getD a []).set b (((T.getD a []).getD b []).set c v)).getD s [] = if b = s then ((T.getD a []).getD b []).set c v else (T.getD a []).getD s [] := fun s => getD_set (by omega)
  have e3 : ∀ t, (((T.getD a []).getD b []).set c v).getD t 0 = if c = t then v else ((T.getD a []).getD b []).getD t 0 := fun t => getD_set (by omega)
  refine ⟨⟨?_, fun i hi => ?_, fun i s hi hs => ?_⟩, fun i s t => ?_⟩
  · show (T.set _ _).length = r
    rw [List.length_set]
    exact h1
  · rw [e1]
    split
    · rw [List.length_set]; exact h2
    · exact h.l1 i hi
  · rw [e1]
    split
    · rw [e2]
      split
      · rw [List.length_set]; exact h3
      · exact h.l2 a s ha hs
    · exact h.l2 i s hi hs
  · unfold numT
    rw [e1]
    by_cases h5 : a = i
    · subst h5
      rw [if_pos rfl, e2]
      by_cases h6 : b = s
      · subst h6
        rw [if_pos rfl, e3]
        by_cases h7 : c = t
        · rw [if_pos h7, if_pos ⟨rfl, rfl, h7⟩]
        · rw [if_neg h7, if_neg fun z => h7 z.2.2]
      · rw [if_neg h6, if_neg fun z => h6 z.2.1]
    · rw [if_neg h5, if_neg fun z => h5 z.1]
def tot (T : List (List (List Int))) (r n s : Nat) : Int := sumF (fun i => sumF (fun t => numT T i s t) n) r
theorem tot_set {T : List (List (List Int))} {r n a b c : Nat} {v : Int} (h : Shape T r n) (ha : a < r) (hb : b < n) (hc : c < n) (s : Nat) : tot (set3 T a b c (numT T a b c + v)) r n s = tot T r n s + if b = s then v else 0 := by
  obtain ⟨_, e⟩ := set3_at (v := numT T a b c + v) h ha hb hc
  have e1 : ∀ i t, numT (set3 T a b c (numT T a b c + v)) i s t = numT T i s t + if c = t then (if a = i then (if b = s then v else 0) else 0) else 0 := fun i t => by
    rw [e]
    by_cases h1 : a = i
    · by_cases h2 : b = s
      · by_cases h3 : c = t
        · rw [if_pos ⟨h1, h2, h3⟩, if_pos h3, if_pos h1, if_pos h2, h1, h2, h3]
        · rw [if_neg fun z => h3 z.2.2, if_neg h3, Int.add_zero]
      · rw [if_neg fun z => h2 z.2.1, if_neg h2]
        simp
    · rw [if_neg fun z => h1 z.1, if_neg h1]
      simp
  unfold tot
  have e2 : ∀ i, i < r → sumF (fun t => numT (set3 T a b c (numT T a b c + v)) i s t) n = sumF (fun t => numT T i s t) n + if a = i then (if b = s then v else 0) else 0 := fun i _ => by
    rw [sumF_ext n fun t _ => e1 i t, sumF_add, sumF_one, if_pos hc]
  rw [sumF_ext r e2, sumF_add, sumF_one, if_pos ha]
def zeroT (r n : Nat) : List (List (List Int)) := List.replicate r (List.replicate n (List.replicate n 0))
theorem zeroT_ok {r n : Nat} : Shape (zeroT r n) r n ∧ ∀ i s t, numT (zeroT r n) i s t = 0 := by
  have e1 : ∀ i, i < r → (zeroT r n).getD i [] = List.replicate n (List.replicate n 0) := fun i hi => by
    unfold zeroT
    rw [List.getD_eq_getElem?_getD, List.getElem?_replicate, if_pos hi]
    rfl
  have e2 : ∀ s, s < n → (List.replicate n (List.replicate n (0 : Int))).getD s [] = List.replicate n 0 := fun s hs => by
    rw [List.getD_eq_getElem?_getD, List.getElem?_replicate, if_pos hs]
    rfl
  refine ⟨⟨List.length_replicate, fun i hi => by rw [e1 i hi, List.length_replicate], fun i s hi hs => by rw [e1 i hi, e2 s hs, List.length_replicate]⟩, fun i s t => ?_⟩
  unfold numT
  by_cases hi : i < r
  · rw [e1 i hi]
    by_cases hs : s < n
    · rw [e2 s hs, List.getD_eq_getElem?_getD, List.getElem?_replicate]
      split <;> rfl
    · have : (List.replicate n (List.replicate n (0 : Int))).getD s [] = [] := by rw [List.getD_eq_getElem?_getD, List.getElem?_replicate, if_neg hs]; rfl
      rw [this]; rfl
  · have : (zeroT r n).getD i [] = [] := by unfold zeroT; rw [List.getD_eq_getElem?_getD, List.getElem?_replicate, if_neg hi]; rfl
    rw [this]; rfl
end G

set_option maxHeartbeats 4000000
namespace G
open PySem PySem.Spec PyProof.Rows L2 L3
local macro_rules | `(tactic| walk_at "l3 step") => `(tactic| (first | (with_reducible first | refine w_bk ?_ | refine w_ct ?_ | refine u_par ?_ | refine w_akw ?_ | refine w_revT ?_ | refine w_ien2 ?_ | refine w_bits ?_ | refine w_isx ?_ | refine w_isx2 ?_ | refine w_dnew ?_ | refine w_lstR ?_ | refine u_dget2 ?_ | refine u_dgetn ?_ | refine u_putD ?_ | refine w_seq ?_ | refine u_set ?_ | refine w_ret ?_ | refine w_if ?_ | refine w_drop ?_ | refine w_nx ?_ | refine w_retn ?_ | refine w_2 ?_ | refine w_t2 ?_ | refine w_c ?_ | refine u_v ?_ | refine u_of ?_ | refine w_tand ?_ | refine w_tor ?_ | refine w_tnot ?_ | refine u_and ?_ | refine u_or ?_ | refine u_not ?_ | refine w_ifx ?_ | refine w_nil ?_ | refine w_cons ?_ | refine w_consO ?_ | refine w_tup ?_ | refine w_lst ?_ | refine w_n ?_ | refine u_n1v ?_ | refine w_isi ?_ | refine u_neg ?_ | refine w_chain ?_ | refine u_ixc ?_ | refine u_ixs ?_ | refine u_fz ?_ | refine u_mv ?_ | refine w_anil ?_ | refine w_acons ?_ | refine u_aio ?_ | refine w_call ?_ | refine u_aug ?_ | refine w_asg ?_ | refine w_iv ?_ | refine w_ir ?_ | refine w_ien ?_ | refine w_yes ?_ | refine w_bno ?_ | refine u_bso ?_ | refine w_sl ?_ | refine u_slv ?_ | refine w_frz ?_ | refine u_app ?_ | refine u_ext ?_ | refine u_popAt ?_ | refine u_put ?_ | refine w_raise ?_ | refine w_try ?_ | refine w_fnil ?_ | refine w_fcons ?_) | ((with_reducible show Osat (rngOf _) _); first | ((with_reducible show Osat (rngOf [_]) _); refine o_rng (by omega) (by first | omega | (rw [List.length_map]; omega)) ?_) | ((with_reducible show Osat (rngOf [_, _]) _); refine o_rng2 (by omega) (by omega) (by omega) (by omega) ?_)) | ((with_reducible show Osat (repP _ _) _); first | refine o_mul (by omega) ?_ | refine o_mul' (by omega) ?_) | ((with_reducible show Osat (modP _ _) _); refine o_mod (by omega) ?_) | ((with_reducible show Osat (fdivP _ _) _); refine o_fdiv (by omega) (by omega) ?_) | ((fail_if_success with_reducible show Osat (rngOf _) _); (fail_if_success with_reducible show Osat (repP _ _) _); (fail_if_success with_reducible show Osat (idxV _ _) _); (first | (with_reducible show Osat (idxP _ (frzP (PV.int (OfNat.ofNat _)))) _) | (fail_if_success with_reducible show Osat (idxP _ _) _)); (first | (with_reducible show Osat (ixN _ (OfNat.ofNat _)) _) | (fail_if_success with_reducible show Osat (ixN _ _) _)); (with_reducible show Osat _ _); first | (apply Osat.of; rfl) | refine o_slotN rfl (by assumption) ?_ | refine o_tupM (ints_flat _) ?_) | ((with_reducible show ite (_ = true) _ _); first | refine if_t rfl ?_ | refine if_f rfl ?_)))
local macro_rules | `(tactic| walk_at "l3 norm") => `(tactic| (try simp only [List.set_cons_zero, List.set_cons_succ, List.map_cons, List.map_nil, List.replicate_zero, List.replicate_succ, List.length_cons, List.length_nil, frzP, List.cons_append, List.nil_append, Nat.reduceAdd, Nat.reduceSub, Nat.zero_add]))
theorem get3_nat {T : List (List (List Int))} {a b c : Nat} : get3 T a b c = numT T a b c := rfl
theorem nat_of {z : Int} (h : 0 ≤ z) : ∃ n : Nat, z = (n : Int) := ⟨z.toNat, by omega⟩
theorem tilt_wp' {j : PV} {p : Int} {m : Int} {P : PV → List PV → Prop} {E : XV → List PV → Prop} (hj : Jug j) (h0 : 0 ≤ p) (hp : p ≤ 100) (hm : 0 < m) (k : ∀ r j', Jug j' → 0 ≤ r → r < m → P (.int r) [j']) : (d_law_tilt [j, .int p, .int m]).sat P E := by
  obtain ⟨q, rfl⟩ := nat_of h0
  exact tilt_wp hj (by omega) hm k
structure Fill (T : List (List (List Int))) (r n : Nat) (f : Nat → Int) : Prop where
  sh : Shape T r n
  pos : ∀ i s t, 0 ≤ numT T i s t
  tot : ∀ s, s < n → tot T r n s = f s
theorem Fill.put {T : List (List (List Int))} {r n a b c : Nat} {f g : Nat → Int} {v : Int} (h : Fill T r n f) (ha : a < r) (hb : b < n) (hc : c < n) (hv : 0 ≤ v) (hg : ∀ s, s < n → g s = f s + if b = s then v else 0) : Fill (set3 T a b c (numT T a b c + v)) r n g where
  sh := (set3_at h.sh ha hb hc).1
  pos := fun i s t => by
    rw [(set3_at h.sh ha hb hc).2]
    split
    · have := h.pos a b c; omega
    · exact h.pos i s t
  tot := fun s hs => by rw [tot_set h.sh ha hb hc, h.tot s hs, hg s hs]
def F2 (m : List (List Int)) : PV := .lst (m.map rL)
theorem F2_no (m : List (List Int)) : isOwn (F2 m) = false := rfl
theorem frz_T2 (m : List (List Int)) : frzP (T2 m) = F2 m := by
  show PV.lst (frzL (m.map fun r => .mls (r.map .int))) = _
  rw [frzL_map, List.map_map]
  refine congrArg PV.lst (List.map_congr_left fun r _ => ?_)
  show PV.lst (frzL (r.map .int)) = rL r
  rw [frzL_ints]
  rfl
theorem frz_T3 (T : List (List (List Int))) : frzL (T.map T2) = T.map F2 := by
  rw [frzL_map, List.map_map]
  exact List.map_congr_left fun m _ => frz_T2 m
theorem kok {T : List (List (List Int))} {r n : Nat} {d kd : Int} {starts : List Int} (hT : Fill T r n (fun s => if s < n then d else 0)) (n1 : 1 ≤ n) (n8 : n ≤ 8) (r1 : 1 ≤ r) (r4 : r ≤ 4) (d1 : 1 ≤ d) (d6 : d ≤ 1000000) (s1 : 1 ≤ starts.length) (s8 : starts.length ≤ 8) (hst : ∀ x, x ∈ starts → 0 ≤ x ∧ x < n) : KOk ⟨d, kd, starts, T, List.replicate n 0⟩ n r where
  hn := List.length_replicate
  hr := hT.sh.len
  n0 := n1
  n8 := n8
  r1 := r1
  r4 := r4
  c0 := s1
  c8 := s8
  d0 := d1
  d6 := d6
  tab := fun t ht => by
    obtain ⟨i, hi, rfl⟩ := List.mem_iff_getElem.mp ht
    have hi : i < T.length := hi
    have hr := hT.sh.len
    have e1 : T[i] = T.getD i [] := by rw [List.getD_eq_getElem?_getD, List.getElem?_eq_getElem hi]; rfl
    show (T[i]).length = n ∧ _
    rw [e1]
    have h1 := hT.sh.l1 i (by omega)
    refine ⟨h1, fun row hrow => ?_⟩
    obtain ⟨s, hs, rfl⟩ := List.mem_iff_getElem.mp hrow
    have e2 : (T.getD i [])[s] = (T.getD i []).getD s [] := by rw [List.getD_eq_getElem?_getD (l := T.getD i []), List.getElem?_eq_getElem hs]; rfl
    rw [e2]
    have h2 := hT.sh.l2 i s (by omega) (by omega)
    refine ⟨h2, fun x hx => ?_⟩
    obtain ⟨t, ht, rfl⟩ := List.mem_iff_getElem.mp hx
    have e3 : ((T.getD i []).getD s [])[t] = numT T i s t := by unfold numT; rw [List.getD_eq_getElem?_getD (l := (T.getD i []).getD s []), List.getElem?_eq_getElem ht]; rfl
    rw [e3]
    exact hT.pos i s t
  st := hst
  rows := fun s hs => by
    have h := hT.tot s hs
    rw [if_pos hs] at h
    exact h
theorem made_wp {j : PV} {P : PV → List PV → Prop} {E : XV → List PV → Prop} (hj : Jug j) (k : ∀ (K : KData) (n r : Nat) j', Jug j' → KOk K n r → P K.pv [j']) : (d_law_made [j]).sat P E := by
  refine w_run ?_
  (walk_at "l3 norm")
  unfold b_law_made
  (repeat walk_at "l3 step")
  refine pour_wp hj (by decide) fun z0 j0 hj0 _ _ => ?_
  (repeat walk_at "l3 step")
  refine ifx_mid (fun p e => ∃ (n : Nat) (j : PV), Jug j ∧ 1 ≤ n ∧ n ≤ 8 ∧ p = .int (n : Int) ∧ e = [some j, none, none, none, none, none, none, none, none, none, none, none, none, none, none, none]) (fun _ => ?_) (fun _ => ?_) (fun p e h => ?_)
  · (repeat walk_at "l3 step")
    refine tilt_wp' hj0 (by decide) (by decide) (by decide) fun z1 j1 hj1 a1 a2 => ?_
    (repeat walk_at "l3 step")
    have hp : ∃ v : Nat, 1 ≤ v ∧ v ≤ 8 ∧ idxP (.tup [.int 2, .int 1, .int 3, .int 4, .int 6, .int 5]) (.int z1) = some (.int (v : Int)) := by
      rcases (by omega : z1 = 0 ∨ z1 = 1 ∨ z1 = 2 ∨ z1 = 3 ∨ z1 = 4 ∨ z1 = 5) with rfl | rfl | rfl | rfl | rfl | rfl
      · exact ⟨2, by omega, by omega, rfl⟩
      · exact ⟨1, by omega, by omega, rfl⟩
      · exact ⟨3, by omega, by omega, rfl⟩
      · exact ⟨4, by omega, by omega, rfl⟩
      · exact ⟨6, by omega, by omega, rfl⟩
      · exact ⟨5, by omega, by omega, rfl⟩
    obtain ⟨v, hv1, hv2, ev⟩ := hp
    refine Osat.of ev ?_
    exact ⟨v, j1, hj1, hv1, hv2, rfl, rfl⟩
  · (repeat walk_at "l3 step")
    exact ⟨8, j0, hj0, by omega, by omega, rfl, rfl⟩
  obtain ⟨n, j1, hj1, hn1, hn8, rfl, rfl⟩ := h
  (repeat walk_at "l3 step")
  refine tilt_wp' hj1 (by decide) (by decide) (by decide) fun z2 j2 hj2 a1 a2 => ?_
  (repeat walk_at "l3 step")
  obtain ⟨r, hr⟩ : ∃ r : Nat, 1 + z2 = (r : Int) := ⟨(1 + z2).toNat, by omega⟩
  rw [hr]
  have hr1 : 1 ≤ r := by omega
  have hr4 : r ≤ 4 := by omega
  refine tilt_wp' hj2 (by decide) (by decide) (by decide) fun z3 j3 hj3 a3 a4 => ?_
  (repeat walk_at "l3 step")
  have hp : ∃ d : Int, 1 ≤ d ∧ d ≤ 1000000 ∧ idxP (.tup [.int 2, .int 1, .int 10, .int 3, .int 5, .int 8, .int 999999]) (.int z3) = some (.int d) := by
    rcases (by omega : z3 = 0 ∨ z3 = 1 ∨ z3 = 2 ∨ z3 = 3 ∨ z3 = 4 ∨ z3 = 5 ∨ z3 = 6) with rfl | rfl | rfl | rfl | rfl | rfl | rfl
    · exact ⟨2, by omega, by omega, rfl⟩
    · exact ⟨1, by omega, by omega, rfl⟩
    · exact ⟨10, by omega, by omega, rfl⟩
    · exact ⟨3, by omega, by omega, rfl⟩
    · exact ⟨5, by omega, by omega, rfl⟩
    · exact ⟨8, by omega, by omega, rfl⟩
    · exact ⟨999999, by omega, by omega, rfl⟩
  obtain ⟨d, hd1, hd2, ed⟩ := hp
  refine Osat.of ed ?_
  (repeat walk_at "l3 step")
  refine u_lcx (List.range r) nI (fun _ => T2 (List.replicate n (List.replicate n 0))) ?_
  (repeat walk_at "l3 step")
  refine ⟨by rw [Int.toNat_natCast, intsR_map]; rfl, by rw [List.length_range]; omega, by show 5 < 16; decide, fun x hx => ?_, ?_⟩
  · (repeat walk_at "l3 step")
    refine u_lcx (List.range n) nI (fun _ => .mls ((List.replicate n (0 : Int)).map .int)) ?_
    (repeat walk_at "l3 step")
    refine ⟨by rw [Int.toNat_natCast, intsR_map]; rfl, by rw [List.length_range]; omega, by show 6 < 16; decide, fun y hy => ?_, ?_⟩
    · (repeat walk_at "l3 step")
      refine u_lcx (List.range n) nI (fun _ => .int 0) ?_
      (repeat walk_at "l3 step")
      refine ⟨by rw [Int.toNat_natCast, intsR_map]; rfl, by rw [List.length_range]; omega, by show 7 < 16; decide, fun y hy => by (repeat walk_at "l3 step"); exact ⟨rfl, rfl⟩, ?_⟩
      (repeat walk_at "l3 step")
      exact ⟨by rw [List.map_const', List.length_range, List.map_replicate], rfl⟩
    · (repeat walk_at "l3 step")
      exact ⟨by unfold T2; rw [List.map_const', List.length_range, List.map_replicate, List.map_replicate, List.map_replicate], rfl⟩
  (repeat walk_at "l3 step")
  have e0 : PV.mls ((List.range r).map fun _ => T2 (List.replicate n (List.replicate n 0))) = T3 (zeroT r n) := by
    unfold T3 zeroT
    rw [List.map_const', List.length_range, List.map_replicate]
  rw [e0]
  refine w_forx (List.range n) nI (fun i e => ∃ (j : PV) (T : List (List (List Int))) (a b c d9 f g : Option PV), Jug j ∧ Fill T r n (fun s => if s < i then d else 0) ∧ (b = none ∨ ∃ z, b = some (.int z)) ∧ e = [some j, some (.int (n : Int)), some (.int (r : Int)), some (.int d), some (T3 T), a, b, c, d9, f, g, none, none, none, none, none]) ?_
  (repeat walk_at "l3 step")
  refine ⟨by rw [Int.toNat_natCast, intsR_map]; rfl, ⟨j3, zeroT r n, none, none, none, none, none, none, hj3, ⟨zeroT_ok.1, fun i s t => by rw [zeroT_ok.2]; omega, fun s hs => ?_⟩, .inl rfl, rfl⟩, ?_, ?_⟩
  · have e1 : ∀ i, i < r → sumF (fun t => numT (zeroT r n) i s t) n = 0 := fun i _ => by rw [sumF_ext n fun t _ => zeroT_ok.2 i s t, sumF_zero]
    show sumF _ r = _
    rw [sumF_ext r e1, sumF_zero, if_neg (by omega)]
  · rintro i s e hi ⟨j4, T, a, b, c, d9, f, g, hj4, hT, hb, rfl⟩
    obtain ⟨hsn, rfl⟩ := range_at hi
    clear hi
    (repeat walk_at "l3 step")
    refine w_for ?_
    (repeat walk_at "l3 step")
    refine tilt_wp' hj4 (by decide) (by decide) (by decide) fun z4 j5 hj5 a5 a6 => ?_
    (repeat walk_at "l3 step")
    refine ⟨fun i e => ∃ (j : PV) (T : List (List (List Int))) (left : Int) (a c f g : Option PV), Jug j ∧ 0 ≤ left ∧ left ≤ d ∧ Fill T r n (fun s' => if s' < s then d else if s = s' then d - left else 0) ∧ e = [some j, some (.int (n : Int)), some (.int (r : Int)), some (.int d), some (T3 T), a, some (nI s), c, some (.int left), f, g, none, none, none, none, none], ⟨j5, T, d, _, _, _, _, hj5, by omega, Int.le_refl _, ⟨hT.sh, hT.pos, fun s' hs' => ?_⟩, rfl⟩, ?_, ?_⟩
    · rw [hT.tot s' hs', Int.sub_self]
      split <;> first | rfl | (split <;> rfl)
    · rintro i2 q e _ ⟨j6, T, left, a, c, f, g, hj6, l0, l1, hT, rfl⟩
      (repeat walk_at "l3 step")
      refine pour_wp hj6 (by omega) fun z5 j7 hj7 b1 b2 => ?_
      (repeat walk_at "l3 step")
      refine pour_wp hj7 (by omega) fun z6 j8 hj8 b3 b4 => ?_
      (repeat walk_at "l3 step")
      refine pour_wp hj8 (by omega) fun z7 j9 hj9 b5 b6 => ?_
      (repeat walk_at "l3 step")
      obtain ⟨ra, rfl⟩ := nat_of b3
      obtain ⟨tc, rfl⟩ := nat_of b5
      have c1 := hT.sh.len
      have c2 := hT.sh.l1 ra (by omega)
      have c3 := hT.sh.l2 ra s (by omega) hsn
      refine u_put3 (t := T) ?_
      (repeat walk_at "l3 step")
      refine u_ix3 (t := T) rfl ?_
      (repeat walk_at "l3 step")
      refine ⟨rfl, by omega, by omega, ?_⟩
      (repeat walk_at "l3 step")
      refine ⟨rfl, by omega, by show (s : Int) < ((T.getD ra []).length : Int); omega, ?_⟩
      (repeat walk_at "l3 step")
      refine ⟨by omega, by show (tc : Int) < (((T.getD ra []).getD s []).length : Int); omega, ?_⟩
      (repeat walk_at "l3 step")
      refine ⟨rfl, ?_⟩
      (repeat walk_at "l3 step")
      refine ⟨rfl, by omega, by omega, ?_⟩
      (repeat walk_at "l3 step")
      refine ⟨rfl, by omega, by show (s : Int) < ((T.getD ra []).length : Int); omega, ?_⟩
      (repeat walk_at "l3 step")
      refine ⟨rfl, by omega, by show (tc : Int) < (((T.getD ra []).getD s []).length : Int); omega, ?_⟩
      (repeat walk_at "l3 step")
      refine ⟨j9, set3 T ra s tc (numT T ra s tc + z5), left - z5, _, _, _, _, hj9, by omega, by omega, hT.put (by omega) hsn (by omega) b1 fun s' hs' => ?_, rfl⟩
      by_cases h1 : s' < s
      · rw [if_pos h1, if_pos h1, if_neg (by omega)]; omega
      · by_cases h2 : s = s'
        · rw [if_neg h1, if_neg h1, if_pos h2, if_pos h2, if_pos h2]; omega
        · rw [if_neg h1, if_neg h1, if_neg h2, if_neg h2, if_neg h2]; omega
    · rintro e ⟨j6, T, left, a, c, f, g, hj6, l0, l1, hT, rfl⟩
      (repeat walk_at "l3 step")
      refine pour_wp hj6 (by omega) fun z6 j8 hj8 b3 b4 => ?_
      (repeat walk_at "l3 step")
      refine pour_wp hj8 (by omega) fun z7 j9 hj9 b5 b6 => ?_
      (repeat walk_at "l3 step")
      obtain ⟨ra, rfl⟩ := nat_of b3
      obtain ⟨tc, rfl⟩ := nat_of b5
      have c1 := hT.sh.len
      have c2 := hT.sh.l1 ra (by omega)
      have c3 := hT.sh.l2 ra s (by omega) hsn
      refine u_put3 (t := T) ?_
      (repeat walk_at "l3 step")
      refine u_ix3 (t := T) rfl ?_
      (repeat walk_at "l3 step")
      refine ⟨rfl, by omega, by omega, ?_⟩
      (repeat walk_at "l3 step")
      refine ⟨rfl, by omega, by show (s : Int) < ((T.getD ra []).length : Int); omega, ?_⟩
      (repeat walk_at "l3 step")
      refine ⟨by omega, by show (tc : Int) < (((T.getD ra []).getD s []).length : Int); omega, ?_⟩
      (repeat walk_at "l3 step")
      refine ⟨rfl, ?_⟩
      (repeat walk_at "l3 step")
      refine ⟨rfl, by omega, by omega, ?_⟩
      (repeat walk_at "l3 step")
      refine ⟨rfl, by omega, by show (s : Int) < ((T.getD ra []).length : Int); omega, ?_⟩
      (repeat walk_at "l3 step")
      refine ⟨rfl, by omega, by show (tc : Int) < (((T.getD ra []).getD s []).length : Int); omega, ?_⟩
      refine ⟨j9, set3 T ra s tc (numT T ra s tc + left), _, _, _, _, _, _, hj9, hT.put (by omega) hsn (by omega) l0 fun s' hs' => ?_, .inr ⟨_, rfl⟩, rfl⟩
      by_cases h1 : s' < s
      · rw [if_pos h1, if_pos (by omega), if_neg (by omega)]; omega
      · by_cases h2 : s = s'
        · rw [if_neg h1, if_pos (by omega), if_pos h2, if_pos h2]; omega
        · rw [if_neg h1, if_neg (by omega), if_neg h2, if_neg h2]; omega
  · rintro e ⟨j4, T, a, b, c, d9, f, g, hj4, hT, hb, rfl⟩
    rw [List.length_range] at hT
    rcases hb with rfl | ⟨zb, rfl⟩
    all_goals
      (repeat walk_at "l3 step")
      refine u_lcx T F2 tTab ?_
      (repeat walk_at "l3 step")
      refine ⟨by first | exact frz_T3 T | (rw [frz_T3, frzL_map_no F2_no]), by have := hT.sh.len; omega, by show 12 < 16; decide, fun m hm => ?_, ?_⟩
      · (repeat walk_at "l3 step")
        have hml : m.length = n := by
          obtain ⟨i, hi, rfl⟩ := List.mem_iff_getElem.mp hm
          have h5 := hT.sh.l1 i (by rw [← hT.sh.len]; exact hi)
          rw [List.getD_eq_getElem?_getD, List.getElem?_eq_getElem hi] at h5
          exact h5
        refine u_lcx m rL tI ?_
        (repeat walk_at "l3 step")
        refine ⟨rfl, by omega, by show 13 < 16; decide, fun row hrow => ?_, ?_⟩
        · (repeat walk_at "l3 step")
          exact ⟨rfl, rfl⟩
        · (repeat walk_at "l3 step")
          exact ⟨by rw [frzL_map_no tI_no']; rfl, rfl⟩
      (repeat walk_at "l3 step")
      rw [frzL_map_no tTab_no]
      refine u_lcj 0 Jug (fun q => ∃ z : Int, q = .int z ∧ 0 ≤ z ∧ z < n) ?_
      (repeat walk_at "l3 step")
      refine tilt_wp' hj4 (by decide) (by decide) (by decide) fun z1 j1 hj1 p1 p2 => ?_
      (repeat walk_at "l3 step")
      refine ⟨by rw [intsR_len]; omega, by show 15 < 16; decide, ⟨j1, rfl, hj1⟩, fun p hp j2 hj2 => ?_, fun j2 qs hj2 hl3 hq3 => ?_⟩
      · (repeat walk_at "l3 step")
        refine pour_wp hj2 (by omega) fun z j3 hj3 q1 q2 => ?_
        (repeat walk_at "l3 step")
        exact ⟨⟨z, rfl, q1, q2⟩, j3, hj3, rfl⟩
      obtain ⟨starts, rfl, hst⟩ := all_map hq3
      rw [List.length_map, intsR_len] at hl3
      (repeat walk_at "l3 step")
      rw [frzL_ints]
      refine pour_wp hj2 (by decide) fun z6 j6 hj6 _ _ => ?_
      (repeat walk_at "l3 step")
      refine u_lcx (List.range n) nI (fun _ => .int 0) ?_
      (repeat walk_at "l3 step")
      refine ⟨by rw [Int.toNat_natCast, intsR_map]; rfl, by rw [List.length_range]; omega, by show 6 < 16; decide, fun y hy => by (repeat walk_at "l3 step"); exact ⟨rfl, rfl⟩, ?_⟩
      (repeat walk_at "l3 step")
      rw [List.map_const', List.length_range, ← List.map_replicate, frzL_ints]
      refine k ⟨d, 1 + z6, starts, T, List.replicate n 0⟩ n r j6 hj6 (kok hT hn1 hn8 hr1 hr4 hd1 hd2 (by omega) (by omega) hst)
end G

set_option maxHeartbeats 4000000
namespace G
open PySem PySem.Spec PyProof.Rows L2 L3
local macro_rules | `(tactic| walk_at "l3 step") => `(tactic| (first | (with_reducible first | refine w_bk ?_ | refine w_ct ?_ | refine u_par ?_ | refine w_akw ?_ | refine w_revT ?_ | refine w_ien2 ?_ | refine w_bits ?_ | refine w_isx ?_ | refine w_isx2 ?_ | refine w_dnew ?_ | refine w_lstR ?_ | refine u_dget2 ?_ | refine u_dgetn ?_ | refine u_putD ?_ | refine w_seq ?_ | refine u_set ?_ | refine w_ret ?_ | refine w_if ?_ | refine w_drop ?_ | refine w_nx ?_ | refine w_retn ?_ | refine w_2 ?_ | refine w_t2 ?_ | refine w_c ?_ | refine u_v ?_ | refine u_of ?_ | refine w_tand ?_ | refine w_tor ?_ | refine w_tnot ?_ | refine u_and ?_ | refine u_or ?_ | refine u_not ?_ | refine w_ifx ?_ | refine w_nil ?_ | refine w_cons ?_ | refine w_consO ?_ | refine w_tup ?_ | refine w_lst ?_ | refine w_n ?_ | refine u_n1v ?_ | refine w_isi ?_ | refine u_neg ?_ | refine w_chain ?_ | refine u_ixc ?_ | refine u_ixs ?_ | refine u_fz ?_ | refine u_mv ?_ | refine w_anil ?_ | refine w_acons ?_ | refine u_aio ?_ | refine w_call ?_ | refine u_aug ?_ | refine w_asg ?_ | refine w_iv ?_ | refine w_ir ?_ | refine w_ien ?_ | refine w_yes ?_ | refine w_bno ?_ | refine u_bso ?_ | refine w_sl ?_ | refine u_slv ?_ | refine w_frz ?_ | refine u_app ?_ | refine u_ext ?_ | refine u_popAt ?_ | refine u_put ?_ | refine w_raise ?_ | refine w_try ?_ | refine w_fnil ?_ | refine w_fcons ?_) | ((with_reducible show Osat (rngOf _) _); first | ((with_reducible show Osat (rngOf [_]) _); refine o_rng (by omega) (by first | omega | (rw [List.length_map]; omega)) ?_) | ((with_reducible show Osat (rngOf [_, _]) _); refine o_rng2 (by omega) (by omega) (by omega) (by omega) ?_)) | ((with_reducible show Osat (repP _ _) _); first | refine o_mul (by omega) ?_ | refine o_mul' (by omega) ?_) | ((with_reducible show Osat (modP _ _) _); refine o_mod (by omega) ?_) | ((with_reducible show Osat (fdivP _ _) _); refine o_fdiv (by omega) (by omega) ?_) | ((fail_if_success with_reducible show Osat (rngOf _) _); (fail_if_success with_reducible show Osat (repP _ _) _); (fail_if_success with_reducible show Osat (idxV _ _) _); (first | (with_reducible show Osat (idxP _ (frzP (PV.int (OfNat.ofNat _)))) _) | (fail_if_success with_reducible show Osat (idxP _ _) _)); (first | (with_reducible show Osat (ixN _ (OfNat.ofNat _)) _) | (fail_if_success with_reducible show Osat (ixN _ _) _)); (with_reducible show Osat _ _); first | (apply Osat.of; rfl) | refine o_slotN rfl (by assumption) ?_ | refine o_tupM (ints_flat _) ?_) | ((with_reducible show ite (_ = true) _ _); first | refine if_t rfl ?_ | refine if_f rfl ?_)))
local macro_rules | `(tactic| walk_at "l3 norm") => `(tactic| (try simp only [List.set_cons_zero, List.set_cons_succ, List.map_cons, List.map_nil, List.replicate_zero, List.replicate_succ, List.length_cons, List.length_nil, frzP, List.cons_append, List.nil_append, Nat.reduceAdd, Nat.reduceSub, Nat.zero_add]))
def handK : KData := ⟨6, 1, [0, 1], [[[6, 0], [0, 4]], [[0, 0], [0, 2]]], [0, 0]⟩
theorem hand_ok : KOk handK 2 2 where
  hn := rfl
  hr := rfl
  n0 := by decide
  n8 := by decide
  r1 := by decide
  r4 := by decide
  c0 := by decide
  c8 := by decide
  d0 := by decide
  d6 := by decide
  tab := by decide
  st := by decide
  rows := fun s hs => by
    rcases (by omega : s = 0 ∨ s = 1) with rfl | rfl
    · rfl
    · rfl
theorem hand_p {x y : Int} (hx : 0 ≤ x) (hx2 : x ≤ 1000000) (hy : 0 ≤ y) (hy2 : y ≤ 1000000) (h : 0 < x + y) : POk handK [x, y] where
  len := rfl
  pos := fun z hz => by
    rcases List.mem_cons.mp hz with rfl | hz
    · exact ⟨hx, hx2⟩
    · rw [List.mem_singleton.mp hz]; exact ⟨hy, hy2⟩
  one := by show 0 < x + (y + 0); omega
theorem h00 {w : Nat → Int} : fw handK 2 w 0 0 = w 0 * 6 := by
  show w 0 * 6 + (w 1 * 0 + 0) = _
  omega
theorem h01 {w : Nat → Int} : fw handK 2 w 0 1 = w 1 * 4 := by
  show w 0 * 0 + (w 1 * 4 + 0) = _
  omega
theorem h10 {w : Nat → Int} : fw handK 2 w 1 0 = 0 := by
  show w 0 * 0 + (w 1 * 0 + 0) = _
  omega
theorem h11 {w : Nat → Int} : fw handK 2 w 1 1 = w 1 * 2 := by
  show w 0 * 0 + (w 1 * 2 + 0) = _
  omega
theorem hw0 {x y : Int} : w0 handK [x, y] 0 = x := by
  show x + (0 + 0) = x
  omega
theorem hw1 {x y : Int} : w0 handK [x, y] 1 = y := by
  show 0 + (y + 0) = y
  omega
theorem hW {x y : Int} {row : List Nat} : W handK 2 [x, y] row = fwd handK 2 (w0 handK [x, y]) row 0 + fwd handK 2 (w0 handK [x, y]) row 1 := by
  show _ + (_ + 0) = _
  rw [Int.add_zero]
theorem low_scale {a b s : Nat} (hs : 0 < s) : lowI ((a : Int) * (s : Int)) ((b : Int) * (s : Int)) = tI [((a / Nat.gcd a b : Nat) : Int), ((b / Nat.gcd a b : Nat) : Int)] := by
  rw [← Int.natCast_mul, ← Int.natCast_mul]
  show PV.tup [.int ((((a * s : Nat) : Int).toNat : Int) / (Nat.gcd ((a * s : Nat) : Int).toNat ((b * s : Nat) : Int).toNat : Nat)), .int ((((b * s : Nat) : Int).toNat : Int) / (Nat.gcd ((a * s : Nat) : Int).toNat ((b * s : Nat) : Int).toNat : Nat))] = _
  rw [Int.toNat_natCast, Int.toNat_natCast, Nat.gcd_mul_right, ← Int.natCast_ediv, ← Int.natCast_ediv, Nat.mul_div_mul_right _ _ hs, Nat.mul_div_mul_right _ _ hs]
  rfl
theorem t0 {s : Nat} (hs : 0 < s) : lowI (W handK 2 [(s : Int), (s : Int)] [1, 1]) ([(s : Int), (s : Int)].sum * (pw handK.d.toNat [1, 1].length : Nat)) = tI [1, 18] := by
  have e1 : W handK 2 [(s : Int), (s : Int)] [1, 1] = ((4 : Nat) : Int) * (s : Int) := by
    rw [hW]
    show fw handK 2 (fw handK 2 (w0 handK [(s : Int), (s : Int)]) 1) 1 0 + fw handK 2 (fw handK 2 (w0 handK [(s : Int), (s : Int)]) 1) 1 1 = _
    rw [h10, h11, h11, hw1]
    omega
  have e2 : [(s : Int), (s : Int)].sum * (pw handK.d.toNat [1, 1].length : Nat) = ((72 : Nat) : Int) * (s : Int) := by
    show ((s : Int) + ((s : Int) + 0)) * ((36 : Nat) : Int) = _
    omega
  rw [e1, e2, low_scale hs]
  rfl
theorem t1 {s : Nat} (hs : 0 < s) : 0 < W handK 2 [(s : Int), 0] [0] ∧ nextV handK 2 2 [(s : Int), 0] [0] = .tup [tI [1, 1], tI [0, 1]] := by
  have e0 : W handK 2 [(s : Int), 0] [0] = ((6 : Nat) : Int) * (s : Int) := by
    rw [hW]
    show fw handK 2 (w0 handK [(s : Int), 0]) 0 0 + fw handK 2 (w0 handK [(s : Int), 0]) 0 1 = _
    rw [h00, h01, hw0, hw1]
    omega
  have e1 : W handK 2 [(s : Int), 0] ([0] ++ [0]) = ((36 : Nat) : Int) * (s : Int) := by
    rw [hW]
    show fw handK 2 (fw handK 2 (w0 handK [(s : Int), 0]) 0) 0 0 + fw handK 2 (fw handK 2 (w0 handK [(s : Int), 0]) 0) 0 1 = _
    rw [h00, h01, h00, h01, hw0, hw1]
    omega
  have e2 : W handK 2 [(s : Int), 0] ([0] ++ [1]) = ((0 : Nat) : Int) * (s : Int) := by
    rw [hW]
    show fw handK 2 (fw handK 2 (w0 handK [(s : Int), 0]) 0) 1 0 + fw handK 2 (fw handK 2 (w0 handK [(s : Int), 0]) 0) 1 1 = _
    rw [h10, h11, h01, hw1]
    omega
  have e3 : W handK 2 [(s : Int), 0] [0] * handK.d = ((36 : Nat) : Int) * (s : Int) := by
    rw [e0]
    show _ * (6 : Int) = _
    omega
  refine ⟨by rw [e0]; omega, ?_⟩
  show PV.tup [lowI (W handK 2 [(s : Int), 0] ([0] ++ [0])) (W handK 2 [(s : Int), 0] [0] * handK.d), lowI (W handK 2 [(s : Int), 0] ([0] ++ [1])) (W handK 2 [(s : Int), 0] [0] * handK.d)] = _
  rw [e1, e2, e3, low_scale hs, low_scale hs]
  rfl
theorem t2 {s : Nat} (hs : 0 < s) : 0 < W handK 2 [0, (s : Int)] [1] ∧ nextV handK 2 2 [0, (s : Int)] [1] = .tup [tI [2, 3], tI [1, 3]] := by
  have e0 : W handK 2 [0, (s : Int)] [1] = ((2 : Nat) : Int) * (s : Int) := by
    rw [hW]
    show fw handK 2 (w0 handK [0, (s : Int)]) 1 0 + fw handK 2 (w0 handK [0, (s : Int)]) 1 1 = _
    rw [h10, h11, hw1]
    omega
  have e1 : W handK 2 [0, (s : Int)] ([1] ++ [0]) = ((8 : Nat) : Int) * (s : Int) := by
    rw [hW]
    show fw handK 2 (fw handK 2 (w0 handK [0, (s : Int)]) 1) 0 0 + fw handK 2 (fw handK 2 (w0 handK [0, (s : Int)]) 1) 0 1 = _
    rw [h00, h01, h10, h11, hw1]
    omega
  have e2 : W handK 2 [0, (s : Int)] ([1] ++ [1]) = ((4 : Nat) : Int) * (s : Int) := by
    rw [hW]
    show fw handK 2 (fw handK 2 (w0 handK [0, (s : Int)]) 1) 1 0 + fw handK 2 (fw handK 2 (w0 handK [0, (s : Int)]) 1) 1 1 = _
    rw [h10, h11, h11, hw1]
    omega
  have e3 : W handK 2 [0, (s : Int)] [1] * handK.d = ((12 : Nat) : Int) * (s : Int) := by
    rw [e0]
    show _ * (6 : Int) = _
    omega
  refine ⟨by rw [e0]; omega, ?_⟩
  show PV.tup [lowI (W handK 2 [0, (s : Int)] ([1] ++ [0])) (W handK 2 [0, (s : Int)] [1] * handK.d), lowI (W handK 2 [0, (s : Int)] ([1] ++ [1])) (W handK 2 [0, (s : Int)] [1] * handK.d)] = _
  rw [e1, e2, e3, low_scale hs, low_scale hs]
  rfl
theorem t3 : lowI (W handK 2 [0, 3] [0, 1, 0]) ([0, 3].sum * (pw handK.d.toNat [0, 1, 0].length : Nat)) = tI [4, 27] := by
  have e1 : W handK 2 [0, 3] [0, 1, 0] = ((32 : Nat) : Int) * ((3 : Nat) : Int) := by
    rw [hW]
    show fw handK 2 (fw handK 2 (fw handK 2 (w0 handK [0, 3]) 0) 1) 0 0 + fw handK 2 (fw handK 2 (fw handK 2 (w0 handK [0, 3]) 0) 1) 0 1 = _
    rw [h00, h01, h10, h11, h01, hw1]
    omega
  have e2 : ([0, 3] : List Int).sum * (pw handK.d.toNat [0, 1, 0].length : Nat) = ((216 : Nat) : Int) * ((3 : Nat) : Int) := by
    show ((0 : Int) + (3 + 0)) * ((216 : Nat) : Int) = _
    omega
  rw [e1, e2, low_scale (by decide)]
  rfl
theorem a1 {s : Nat} : W handK 2 [(s : Int), 0] [0, 1] = 0 := by
  rw [hW]
  show fw handK 2 (fw handK 2 (w0 handK [(s : Int), 0]) 0) 1 0 + fw handK 2 (fw handK 2 (w0 handK [(s : Int), 0]) 0) 1 1 = _
  rw [h10, h11, h01, hw1]
  omega
theorem a2 {s : Nat} : W handK 2 [(s : Int), 0] [1] = 0 := by
  rw [hW]
  show fw handK 2 (w0 handK [(s : Int), 0]) 1 0 + fw handK 2 (w0 handK [(s : Int), 0]) 1 1 = _
  rw [h10, h11, hw1]
  omega
theorem a3 {s : Nat} : 0 < W handK 2 [(s : Int), 2] [0, 1, 1] := by
  rw [hW]
  show 0 < fw handK 2 (fw handK 2 (fw handK 2 (w0 handK [(s : Int), 2]) 0) 1) 1 0 + fw handK 2 (fw handK 2 (fw handK 2 (w0 handK [(s : Int), 2]) 0) 1) 1 1
  rw [h10, h11, h11, h01, hw1]
  omega
end G

set_option maxHeartbeats 4000000
namespace G
open PySem PySem.Spec PyProof.Rows L2 L3
local macro_rules | `(tactic| walk_at "l3 step") => `(tactic| (first | (with_reducible first | refine w_bk ?_ | refine w_ct ?_ | refine u_par ?_ | refine w_akw ?_ | refine w_revT ?_ | refine w_ien2 ?_ | refine w_bits ?_ | refine w_isx ?_ | refine w_isx2 ?_ | refine w_dnew ?_ | refine w_lstR ?_ | refine u_dget2 ?_ | refine u_dgetn ?_ | refine u_putD ?_ | refine w_seq ?_ | refine u_set ?_ | refine w_ret ?_ | refine w_if ?_ | refine w_drop ?_ | refine w_nx ?_ | refine w_retn ?_ | refine w_2 ?_ | refine w_t2 ?_ | refine w_c ?_ | refine u_v ?_ | refine u_of ?_ | refine w_tand ?_ | refine w_tor ?_ | refine w_tnot ?_ | refine u_and ?_ | refine u_or ?_ | refine u_not ?_ | refine w_ifx ?_ | refine w_nil ?_ | refine w_cons ?_ | refine w_consO ?_ | refine w_tup ?_ | refine w_lst ?_ | refine w_n ?_ | refine u_n1v ?_ | refine w_isi ?_ | refine u_neg ?_ | refine w_chain ?_ | refine u_ixc ?_ | refine u_ixs ?_ | refine u_fz ?_ | refine u_mv ?_ | refine w_anil ?_ | refine w_acons ?_ | refine u_aio ?_ | refine w_call ?_ | refine u_aug ?_ | refine w_asg ?_ | refine w_iv ?_ | refine w_ir ?_ | refine w_ien ?_ | refine w_yes ?_ | refine w_bno ?_ | refine u_bso ?_ | refine w_sl ?_ | refine u_slv ?_ | refine w_frz ?_ | refine u_app ?_ | refine u_ext ?_ | refine u_popAt ?_ | refine u_put ?_ | refine w_raise ?_ | refine w_try ?_ | refine w_fnil ?_ | refine w_fcons ?_) | ((with_reducible show Osat (rngOf _) _); first | ((with_reducible show Osat (rngOf [_]) _); refine o_rng (by omega) (by first | omega | (rw [List.length_map]; omega)) ?_) | ((with_reducible show Osat (rngOf [_, _]) _); refine o_rng2 (by omega) (by omega) (by omega) (by omega) ?_)) | ((with_reducible show Osat (repP _ _) _); first | refine o_mul (by omega) ?_ | refine o_mul' (by omega) ?_) | ((with_reducible show Osat (modP _ _) _); refine o_mod (by omega) ?_) | ((with_reducible show Osat (fdivP _ _) _); refine o_fdiv (by omega) (by omega) ?_) | ((fail_if_success with_reducible show Osat (rngOf _) _); (fail_if_success with_reducible show Osat (repP _ _) _); (fail_if_success with_reducible show Osat (idxV _ _) _); (first | (with_reducible show Osat (idxP _ (frzP (PV.int (OfNat.ofNat _)))) _) | (fail_if_success with_reducible show Osat (idxP _ _) _)); (first | (with_reducible show Osat (ixN _ (OfNat.ofNat _)) _) | (fail_if_success with_reducible show Osat (ixN _ _) _)); (with_reducible show Osat _ _); first | (apply Osat.of; rfl) | refine o_slotN rfl (by assumption) ?_ | refine o_tupM (ints_flat _) ?_) | ((with_reducible show ite (_ = true) _ _); first | refine if_t rfl ?_ | refine if_f rfl ?_)))
local macro_rules | `(tactic| walk_at "l3 norm") => `(tactic| (try simp only [List.set_cons_zero, List.set_cons_succ, List.map_cons, List.map_nil, List.replicate_zero, List.replicate_succ, List.length_cons, List.length_nil, frzP, List.cons_append, List.nil_append, Nat.reduceAdd, Nat.reduceSub, Nat.zero_add]))
theorem asked_any {K : KData} {n r : Nat} {p : List Int} {row : List Nat} {P : PV → List PV → Prop} {E : XV → List PV → Prop} (hK : KOk K n r) (hp : POk K p) (hr : Row r row) (hl : row.length ≤ 399) (k : ∀ z : Int, 0 ≤ z → P (.int z) []) : (d_law_asked [K.pv, tI p, rowV row]).sat P E :=
  asked_wp hK hp hr hl (fun _ => k 0 (by decide)) (fun _ => k 1 (by decide))
theorem asked_one {K : KData} {n r : Nat} {p : List Int} {row : List Nat} {P : PV → List PV → Prop} {E : XV → List PV → Prop} (hK : KOk K n r) (hp : POk K p) (hr : Row r row) (hl : row.length ≤ 399) (hw : 0 < W K n p row) (k : P (.int 1) []) : (d_law_asked [K.pv, tI p, rowV row]).sat P E :=
  asked_wp hK hp hr hl (fun h => by omega) (fun _ => k)
theorem row_take {r k : Nat} {row : List Nat} (h : Row r row) : Row r (row.take k) := fun i hi => h i (List.mem_of_mem_take hi)
theorem row_drop {r k : Nat} {row : List Nat} (h : Row r row) : Row r (row.drop k) := fun i hi => h i (List.mem_of_mem_drop hi)
theorem row_app {r : Nat} {a b : List Nat} (h : Row r a) (h2 : Row r b) : Row r (a ++ b) := fun i hi => (List.mem_append.mp hi).elim (h i) (h2 i)
def toldV : PV := .tup [tI [1, 18], .tup [tI [1, 1], tI [0, 1]], .tup [tI [2, 3], tI [1, 3]], tI [4, 27]]
theorem a3' {s : Nat} : 0 < W handK 2 [(s : Int), 2] [0, 1, 1] := a3
theorem law_wp {ns : List Int} (hns : ns.length ≤ 63) : (d_law [.scr (ns.map .int)]).sat (fun p o => p = .bl true ∧ o = []) F0 := by
  refine w_run ?_
  (walk_at "l3 norm")
  unfold b_law
  (repeat walk_at "l3 step")
  refine jug_wp hns fun j hj => ?_
  (repeat walk_at "l3 step")
  (walk_at "l3 norm")
  refine w_for ?_
  (repeat walk_at "l3 step")
  refine ⟨fun i e => ∃ (j : PV) (a3 a4 a5 a6 a7 : Option PV), Jug j ∧ e = [some (.scr (ns.map .int)), some j, some (.int (i : Int)), a3, a4, a5, a6, a7, none, none, none, none, none, none], ⟨j, none, none, none, none, none, hj, rfl⟩, ?_, ?_⟩
  · rintro i q e hi ⟨j1, a3, a4, a5, a6, a7, hj1, rfl⟩
    obtain ⟨hi3, rfl⟩ := intsR_get hi
    clear hi
    have hi : i < 3 := by omega
    clear hi3
    (repeat walk_at "l3 step")
    (walk_at "l3 norm")
    refine made_wp hj1 fun K n r j2 hj2 hK => ?_
    have hc1 := hK.c0
    have hc8 := hK.c8
    have hr1 := hK.r1
    have hr4 := hK.r4
    have hmv := hK.hr
    (repeat walk_at "l3 step")
    (walk_at "l3 norm")
    rw [List.length_map]
    refine before_wp hj2 hc1 hc8 fun p j3 hj3 pl pa ps => ?_
    have hp : POk K p := ⟨pl, pa, ps⟩
    (repeat walk_at "l3 step")
    (walk_at "l3 norm")
    refine tilt_wp' hj3 (by omega) (by omega) (by decide) fun zm j4 hj4 m0 m1 => ?_
    (repeat walk_at "l3 step")
    obtain ⟨m, rfl⟩ := nat_of m0
    refine step_wp hj4 hK hp (by omega) fun row j5 hj5 hrow hrl hw => ?_
    (repeat walk_at "l3 step")
    (walk_at "l3 norm")
    refine u_lcj 1 Jug (fun q => ∃ i : Nat, q = nI i ∧ i < r) ?_
    (repeat walk_at "l3 step")
    (walk_at "l3 norm")
    refine pour_wp hj5 (by decide) fun zd j6 hj6 d0 d1 => ?_
    (repeat walk_at "l3 step")
    (walk_at "l3 norm")
    refine ⟨by rw [intsR_len]; omega, by show 8 < 14; decide, ⟨j6, rfl, hj6⟩, fun p hp j7 hj7 => ?_, fun j7 qs hj7 hl3 hq3 => ?_⟩
    · (repeat walk_at "l3 step")
      refine pour_wp hj7 (by rw [List.length_map]; omega) fun z j8 hj8 q1 q2 => ?_
      rw [List.length_map] at q2
      (repeat walk_at "l3 step")
      obtain ⟨x, rfl⟩ := nat_of q1
      exact ⟨⟨x, rfl, by omega⟩, j8, hj8, rfl⟩
    obtain ⟨drawn, rfl, hd⟩ := all_map hq3
    rw [List.length_map, intsR_len] at hl3
    have hdr : Row r drawn := hd
    have hdl : drawn.length ≤ 6 := by omega
    (repeat walk_at "l3 step")
    rw [frzL_map_no nI_no]
    refine asked_one hK hp hrow (by omega) hw ?_
    (repeat walk_at "l3 step")
    (walk_at "l3 norm")
    refine (show (d_law_asked [K.pv, tI p, rowV []]).sat _ _ from ?_)
    refine asked_one hK hp (by intro i hi; cases hi) (by decide) (by rw [W_nil hK hp]; exact ps) ?_
    (repeat walk_at "l3 step")
    (walk_at "l3 norm")
    refine (show (d_law_asked [K.pv, tI p, rowV drawn]).sat _ _ from ?_)
    refine asked_any hK hp hdr (by omega) fun z1 hz1 => ?_
    (repeat walk_at "l3 step")
    (walk_at "l3 norm")
    refine if_b (fun hb => ?_) (fun hb => ?_)
    · have hb : decide (z1 < 0) = true := hb
      rw [decide_eq_true_eq] at hb
      omega
    clear hb
    (repeat walk_at "l3 step")
    (walk_at "l3 norm")
    refine o_catTI (φ := nI) (a := row.take 2) (b := drawn.take 3) (congrArg PV.tup (cut_to nI row 2)) (congrArg PV.tup (cut_to nI drawn 3)) (by rw [List.length_take, List.length_take]; omega) ?_
    (repeat walk_at "l3 step")
    (walk_at "l3 norm")
    refine o_catTI (φ := nI) (a := row.take 2 ++ drawn.take 3) (b := (row.take 4).drop 2) rfl (congrArg PV.tup (cut_mid nI row 2 4)) (by rw [List.length_append, List.length_take, List.length_take, List.length_drop, List.length_take]; omega) ?_
    (repeat walk_at "l3 step")
    (walk_at "l3 norm")
    refine (show (d_law_asked [K.pv, tI p, rowV (row.take 2 ++ drawn.take 3 ++ (row.take 4).drop 2)]).sat _ _ from ?_)
    refine asked_any hK hp (row_app (row_app (row_take hrow) (row_take hdr)) (row_drop (row_take hrow))) (by rw [List.length_append, List.length_append, List.length_take, List.length_take, List.length_drop, List.length_take]; omega) fun z2 hz2 => ?_
    (repeat walk_at "l3 step")
    (walk_at "l3 norm")
    refine if_b (fun hb => ?_) (fun hb => ?_)
    · have hb : decide (z2 < 0) = true := hb
      rw [decide_eq_true_eq] at hb
      omega
    clear hb
    (repeat walk_at "l3 step")
    (walk_at "l3 norm")
    refine if_b (fun hb => ?_) (fun hb => ?_)
    · (repeat walk_at "l3 step")
      (walk_at "l3 norm")
      have hp4 : ∃ m : Nat, m ≤ 5 ∧ idxP (.tup [.int 5, .int 4, .int 3, .int 2]) (.int (((K.moves.map tTab).length : Int) - 1)) = some (.int (m : Int)) := by
        rw [List.length_map, hmv]
        rcases (by omega : r = 1 ∨ r = 2 ∨ r = 3 ∨ r = 4) with rfl | rfl | rfl | rfl
        · exact ⟨5, by omega, rfl⟩
        · exact ⟨4, by omega, rfl⟩
        · exact ⟨3, by omega, rfl⟩
        · exact ⟨2, by omega, rfl⟩
      obtain ⟨mm, hmm, em⟩ := hp4
      refine Osat.of em ?_
      (repeat walk_at "l3 step")
      (walk_at "l3 norm")
      refine whole_wp hK hp hmm ?_
      (repeat walk_at "l3 step")
      (walk_at "l3 norm")
      exact ⟨j7, _, _, _, _, _, hj7, rfl⟩
    · (repeat walk_at "l3 step")
      (walk_at "l3 norm")
      exact ⟨j7, _, _, _, _, _, hj7, rfl⟩
  · rintro e ⟨j1, a3, a4, a5, a6, a7, hj1, rfl⟩
    rw [intsR_len]
    (repeat walk_at "l3 step")
    (walk_at "l3 norm")
    refine pour_wp hj1 (by decide) fun z1 j2 hj2 b1 b2 => ?_
    (repeat walk_at "l3 step")
    (walk_at "l3 norm")
    refine ifx_mid (fun p e => ∃ (m : Nat) (j : PV), Jug j ∧ m ≤ 300 ∧ p = .int (m : Int) ∧ e = [some (.scr (ns.map .int)), some j, some (.int 3), a3, a4, a5, a6, a7, none, none, none, none, none, none]) (fun _ => ?_) (fun _ => ?_) (fun p e h => ?_)
    · (repeat walk_at "l3 step")
      exact ⟨300, j2, hj2, by omega, rfl, rfl⟩
    · (repeat walk_at "l3 step")
      (walk_at "l3 norm")
      refine pour_wp hj2 (by decide) fun z3 j3 hj3 b3 b4 => ?_
      (repeat walk_at "l3 step")
      (walk_at "l3 norm")
      refine if_b (fun _ => ?_) (fun _ => ?_)
      · (repeat walk_at "l3 step")
        exact ⟨45, j3, hj3, by omega, rfl, rfl⟩
      · (repeat walk_at "l3 step")
        exact ⟨10, j3, hj3, by omega, rfl, rfl⟩
    obtain ⟨m, j3, hj3, hm, rfl, rfl⟩ := h
    (repeat walk_at "l3 step")
    (walk_at "l3 norm")
    refine made_wp hj3 fun K n r j4 hj4 hK => ?_
    have hc1 := hK.c0
    have hc8 := hK.c8
    (repeat walk_at "l3 step")
    (walk_at "l3 norm")
    rw [List.length_map]
    refine before_wp hj4 hc1 hc8 fun p j5 hj5 pl pa ps => ?_
    have hp : POk K p := ⟨pl, pa, ps⟩
    (repeat walk_at "l3 step")
    (walk_at "l3 norm")
    refine step_wp hj5 hK hp (by omega) fun row j6 hj6 hrow hrl hw => ?_
    (repeat walk_at "l3 step")
    (walk_at "l3 norm")
    refine asked_one hK hp hrow (by omega) hw ?_
    (repeat walk_at "l3 step")
    (walk_at "l3 norm")
    clear hw hrow hp hK
    refine pour_wp hj6 (by decide) fun z7 j7 hj7 b5 b6 => ?_
    (repeat walk_at "l3 step")
    (walk_at "l3 norm")
    obtain ⟨x, hx⟩ := nat_of (z := 1 + z7) (by omega)
    rw [hx]
    have hx1 : 0 < x := by omega
    have hx2 : x ≤ 99 := by omega
    refine (show (d_row_chance [handK.pv, tI [(x : Int), (x : Int)], rowV [1, 1]]).sat _ _ from ?_)
    refine row_chance_wp hand_ok (hand_p (by omega) (by omega) (by omega) (by omega) (by omega)) (by unfold Row; decide) (by decide) ?_
    rw [t0 hx1]
    (repeat walk_at "l3 step")
    (walk_at "l3 norm")
    refine (show (d_next_chances [handK.pv, tI [(x : Int), 0], rowV [0]]).sat _ _ from ?_)
    refine next_chances_wp hand_ok (hand_p (by omega) (by omega) (by omega) (by omega) (by omega)) (by unfold Row; decide) (by decide) (fun h => absurd (t1 hx1).1 (by rw [h]; decide)) (fun _ => ?_)
    rw [(t1 hx1).2]
    (repeat walk_at "l3 step")
    (walk_at "l3 norm")
    refine (show (d_next_chances [handK.pv, tI [0, (x : Int)], rowV [1]]).sat _ _ from ?_)
    refine next_chances_wp hand_ok (hand_p (by omega) (by omega) (by omega) (by omega) (by omega)) (by unfold Row; decide) (by decide) (fun h => absurd (t2 hx1).1 (by rw [h]; decide)) (fun _ => ?_)
    rw [(t2 hx1).2]
    (repeat walk_at "l3 step")
    (walk_at "l3 norm")
    refine (show (d_row_chance [handK.pv, tI [0, 3], rowV [0, 1, 0]]).sat _ _ from ?_)
    refine row_chance_wp hand_ok (hand_p (by omega) (by omega) (by omega) (by omega) (by omega)) (by unfold Row; decide) (by decide) ?_
    rw [t3]
    (repeat walk_at "l3 step")
    (walk_at "l3 norm")
    refine w_for ?_
    (repeat walk_at "l3 step")
    refine ⟨fun _ e => ∃ a b : Option PV, e = [some (.scr (ns.map .int)), some j7, some (.int 3), a3, some K.pv, some (tI p), a6, a7, a, some (.int (m : Int)), some (.int (x : Int)), some handK.pv, some toldV, b], ⟨none, none, rfl⟩, ?_, ?_⟩
    · rintro i q e hi ⟨a, b, rfl⟩
      rcases i with _ | _ | i
      · obtain rfl := Option.some.inj hi
        clear hi
        (repeat walk_at "l3 step")
        refine Osat.of (z := tI [1, 18]) rfl ?_
        (repeat walk_at "l3 step")
        refine (show (d_law_fraction [tI [1, 18], tI [1, 18]]).sat _ _ from ?_)
        refine frac_wp ?_
        (repeat walk_at "l3 step")
        (walk_at "l3 norm")
        exact ⟨_, _, rfl⟩
      · obtain rfl := Option.some.inj hi
        clear hi
        (repeat walk_at "l3 step")
        refine Osat.of (z := tI [4, 27]) rfl ?_
        (repeat walk_at "l3 step")
        refine (show (d_law_fraction [tI [4, 27], tI [4, 27]]).sat _ _ from ?_)
        refine frac_wp ?_
        (repeat walk_at "l3 step")
        (walk_at "l3 norm")
        exact ⟨_, _, rfl⟩
      · cases hi
    rintro e ⟨a, b, rfl⟩
    (repeat walk_at "l3 step")
    (walk_at "l3 norm")
    refine w_for ?_
    (repeat walk_at "l3 step")
    refine ⟨fun _ e => ∃ a b : Option PV, e = [some (.scr (ns.map .int)), some j7, some (.int 3), a3, some K.pv, some (tI p), a6, a7, a, some (.int (m : Int)), some (.int (x : Int)), some handK.pv, some toldV, b], ⟨_, _, rfl⟩, ?_, ?_⟩
    · rintro i q e hi ⟨a, b, rfl⟩
      rcases i with _ | _ | i
      · obtain rfl := Option.some.inj hi
        clear hi
        (repeat walk_at "l3 step")
        refine Osat.of (z := .tup [tI [1, 1], tI [0, 1]]) rfl ?_
        (repeat walk_at "l3 step")
        refine Osat.of (z := .tup [tI [1, 1], tI [0, 1]]) rfl ?_
        (repeat walk_at "l3 step")
        refine Osat.of (z := .tup [tI [1, 1], tI [0, 1]]) rfl ?_
        (repeat walk_at "l3 step")
        refine (show (d_law_fraction [tI [1, 1], tI [1, 1]]).sat _ _ from ?_)
        refine frac_wp ?_
        (repeat walk_at "l3 step")
        refine Osat.of (z := .tup [tI [1, 1], tI [0, 1]]) rfl ?_
        (repeat walk_at "l3 step")
        refine (show (d_law_fraction [tI [0, 1], tI [0, 1]]).sat _ _ from ?_)
        refine frac_wp ?_
        (repeat walk_at "l3 step")
        exact ⟨_, _, rfl⟩
      · obtain rfl := Option.some.inj hi
        clear hi
        (repeat walk_at "l3 step")
        refine Osat.of (z := .tup [tI [2, 3], tI [1, 3]]) rfl ?_
        (repeat walk_at "l3 step")
        refine Osat.of (z := .tup [tI [2, 3], tI [1, 3]]) rfl ?_
        (repeat walk_at "l3 step")
        refine Osat.of (z := .tup [tI [2, 3], tI [1, 3]]) rfl ?_
        (repeat walk_at "l3 step")
        refine (show (d_law_fraction [tI [2, 3], tI [2, 3]]).sat _ _ from ?_)
        refine frac_wp ?_
        (repeat walk_at "l3 step")
        refine Osat.of (z := .tup [tI [2, 3], tI [1, 3]]) rfl ?_
        (repeat walk_at "l3 step")
        refine (show (d_law_fraction [tI [1, 3], tI [1, 3]]).sat _ _ from ?_)
        refine frac_wp ?_
        (repeat walk_at "l3 step")
        exact ⟨_, _, rfl⟩
      · cases hi
    rintro e ⟨a, b, rfl⟩
    (repeat walk_at "l3 step")
    (walk_at "l3 norm")
    refine (show (d_law_asked [handK.pv, tI [(x : Int), 0], rowV [0, 1]]).sat _ _ from ?_)
    refine asked_wp hand_ok (hand_p (by omega) (by omega) (by omega) (by omega) (by omega)) (by unfold Row; decide) (by decide) (fun _ => ?_) (fun h => absurd h (by rw [a1]; decide))
    (repeat walk_at "l3 step")
    (walk_at "l3 norm")
    refine (show (d_law_asked [handK.pv, tI [(x : Int), 0], rowV [1]]).sat _ _ from ?_)
    refine asked_wp hand_ok (hand_p (by omega) (by omega) (by omega) (by omega) (by omega)) (by unfold Row; decide) (by decide) (fun _ => ?_) (fun h => absurd h (by rw [a2]; decide))
    (repeat walk_at "l3 step")
    (walk_at "l3 norm")
    refine (show (d_law_asked [handK.pv, tI [(x : Int), 2], rowV [0, 1, 1]]).sat _ _ from ?_)
    refine asked_one hand_ok (hand_p (by omega) (by omega) (by omega) (by omega) (by omega)) (by unfold Row; decide) (by decide) a3' ?_
    (repeat walk_at "l3 step")
    exact ⟨rfl, rfl⟩
theorem law_true (ns : List Int) (h : ns.length ≤ 63) : d_law [.scr (ns.map PV.int)] = .ok (.bl true) [] := RF.sat.eq (law_wp h)
end G

set_option maxHeartbeats 4000000
namespace G
open PySem PySem.Spec PyProof.Rows L2 L3
theorem bn_lowest : BindOk ("lowest" : Str) ("lowest" : Str) s_lowest [("above" : Str), ("below" : Str)] := fun _ _ _ _ _ _ us hl => match us, hl with | [_, _], _ => rfl
theorem bn_power : BindOk ("power" : Str) ("power" : Str) s_power [("number" : Str), ("many" : Str)] := fun _ _ _ _ _ _ us hl => match us, hl with | [_, _], _ => rfl
theorem bn_start_weights : BindOk ("start_weights" : Str) ("start_weights" : Str) s_start_weights [("keeper" : Str), ("prior" : Str)] := fun _ _ _ _ _ _ us hl => match us, hl with | [_, _], _ => rfl
theorem bn_next_weights : BindOk ("next_weights" : Str) ("next_weights" : Str) s_next_weights [("keeper" : Str), ("weights" : Str), ("reading" : Str)] := fun _ _ _ _ _ _ us hl => match us, hl with | [_, _, _], _ => rfl
theorem bn_weights_behind : BindOk ("weights_behind" : Str) ("weights_behind" : Str) s_weights_behind [("keeper" : Str), ("prior" : Str), ("row" : Str)] := fun _ _ _ _ _ _ us hl => match us, hl with | [_, _, _], _ => rfl
theorem bn_row_chance : BindOk ("row_chance" : Str) ("row_chance" : Str) s_row_chance [("keeper" : Str), ("prior" : Str), ("row" : Str)] := fun _ _ _ _ _ _ us hl => match us, hl with | [_, _, _], _ => rfl
theorem bn_next_chances : BindOk ("next_chances" : Str) ("next_chances" : Str) s_next_chances [("keeper" : Str), ("prior" : Str), ("row" : Str)] := fun _ _ _ _ _ _ us hl => match us, hl with | [_, _, _], _ => rfl
theorem bn_law_jug : BindOk ("_law_jug" : Str) ("_law_jug" : Str) s_law_jug [("script" : Str)] := fun _ _ _ _ _ _ us hl => match us, hl with | [_], _ => rfl
theorem bn_law_pour : BindOk ("_law_pour" : Str) ("_law_pour" : Str) s_law_pour [("jug" : Str), ("many" : Str)] := fun _ _ _ _ _ _ us hl => match us, hl with | [_, _], _ => rfl
theorem bn_law_tilt : BindOk ("_law_tilt" : Str) ("_law_tilt" : Str) s_law_tilt [("jug" : Str), ("place" : Str), ("many" : Str)] := fun _ _ _ _ _ _ us hl => match us, hl with | [_, _, _], _ => rfl
theorem bn_law_made : BindOk ("_law_made" : Str) ("_law_made" : Str) s_law_made [("jug" : Str)] := fun _ _ _ _ _ _ us hl => match us, hl with | [_], _ => rfl
theorem bn_law_before : BindOk ("_law_before" : Str) ("_law_before" : Str) s_law_before [("jug" : Str), ("cases" : Str)] := fun _ _ _ _ _ _ us hl => match us, hl with | [_, _], _ => rfl
theorem bn_law_worths : BindOk ("_law_worths" : Str) ("_law_worths" : Str) s_law_worths [("keeper" : Str), ("row" : Str)] := fun _ _ _ _ _ _ us hl => match us, hl with | [_, _], _ => rfl
theorem bn_law_above : BindOk ("_law_above" : Str) ("_law_above" : Str) s_law_above [("keeper" : Str), ("prior" : Str), ("row" : Str)] := fun _ _ _ _ _ _ us hl => match us, hl with | [_, _, _], _ => rfl
theorem bn_law_lowest : BindOk ("_law_lowest" : Str) ("_law_lowest" : Str) s_law_lowest [("above" : Str), ("below" : Str)] := fun _ _ _ _ _ _ us hl => match us, hl with | [_, _], _ => rfl
theorem bn_law_due : BindOk ("_law_due" : Str) ("_law_due" : Str) s_law_due [("keeper" : Str), ("prior" : Str), ("row" : Str)] := fun _ _ _ _ _ _ us hl => match us, hl with | [_, _, _], _ => rfl
theorem bn_law_fraction : BindOk ("_law_fraction" : Str) ("_law_fraction" : Str) s_law_fraction [("told" : Str), ("due" : Str)] := fun _ _ _ _ _ _ us hl => match us, hl with | [_, _], _ => rfl
theorem bn_law_asked : BindOk ("_law_asked" : Str) ("_law_asked" : Str) s_law_asked [("keeper" : Str), ("prior" : Str), ("row" : Str)] := fun _ _ _ _ _ _ us hl => match us, hl with | [_, _, _], _ => rfl
theorem bn_law_rows : BindOk ("_law_rows" : Str) ("_law_rows" : Str) s_law_rows [("keeper" : Str), ("many" : Str)] := fun _ _ _ _ _ _ us hl => match us, hl with | [_, _], _ => rfl
theorem bn_law_whole : BindOk ("_law_whole" : Str) ("_law_whole" : Str) s_law_whole [("keeper" : Str), ("prior" : Str), ("many" : Str)] := fun _ _ _ _ _ _ us hl => match us, hl with | [_, _, _], _ => rfl
theorem bn_law_step : BindOk ("_law_step" : Str) ("_law_step" : Str) s_law_step [("jug" : Str), ("keeper" : Str), ("prior" : Str), ("many" : Str)] := fun _ _ _ _ _ _ us hl => match us, hl with | [_, _, _, _], _ => rfl
theorem bn_law : BindOk ("law" : Str) ("law" : Str) s_law [("script" : Str)] := fun _ _ _ _ _ _ us hl => match us, hl with | [_], _ => rfl
theorem fin {l : PySem.W.OpenLaw} {w : World} {K : PySem.W.Frag} {mg : Str → Option Value} {fa : Addr} (T : Txt K mg) (hfa : mg "law" = some (.ref fa)) :
    ∃ fd : FuncData, (∀ (s : Shared) (u : Value), BindsTo s fd ⟨[u], []⟩ [("script", u)]) ∧ ∀ base : Heap, FnOk l.prog w K mg base (L2.CX l.prog w) 5 fa fd ["script"] (spLaw K) := by
  obtain ⟨f, fd, D⟩ := T.f_law
  have e := hfa.symm.trans D.gm
  cases e
  exact ⟨fd, fun s u => D.bt s [u] rfl, fun base => law_sp (ok_law T D.F) law_true⟩
end G
open PySem PySem.W PyProof.Rows
set_option maxRecDepth 100000 in
set_option maxHeartbeats 0 in
theorem PySem.Challenge.cw_everyprior_k15_chances_of_rows_holds : PySem.Challenge.rw_everyprior_k15_chances_of_rows.Holds := by
  w_on; o_law; k_head; (case hw => w_witness2)
  k_fill
  refine L3.walkL (l := PySem.Challenge.rw_everyprior_k15_chances_of_rows) (k := 5) ⟨rfl, by decide, by decide⟩ rfl rfl (fun w h Y => PySem.W.kIn_of Y) ?F
  case F =>
    intro w mg fa h X1 X2 hmg
    have T : G.Txt _ mg := ⟨
      (by refine' PySem.W.mg_none_of X1 X2 ?a; (case a => k_is)),
      (by refine' PySem.W.mg_none_of X1 X2 ?a; (case a => k_is)),
      (by refine' PySem.W.mg_none_of X1 X2 ?a; (case a => k_is)),
      (by refine' PySem.W.mg_none_of X1 X2 ?a; (case a => k_is)),
      (by refine' PySem.W.mg_none_of X1 X2 ?a; (case a => k_is)),
      (by refine' PySem.W.mg_none_of X1 X2 ?a; (case a => k_is)),
      (by refine' PySem.W.mg_none_of X1 X2 ?a; (case a => k_is)),
      (by refine' PySem.W.mg_none_of X1 X2 ?a; (case a => k_is)),
      (by refine' L3.blt_mk X1 X2 ?a; (case a => k_is)),
      (by refine' L3.def_mk X1 X2 G.bn_lowest ?a ?l ?c ?k; (case a => k_is); (case l => k_is); (case c => k_is); (case k => k_is)),
      (by refine' L3.def_mk X1 X2 G.bn_power ?a ?l ?c ?k; (case a => k_is); (case l => k_is); (case c => k_is); (case k => k_is)),
      (by refine' L3.def_mk X1 X2 G.bn_start_weights ?a ?l ?c ?k; (case a => k_is); (case l => k_is); (case c => k_is); (case k => k_is)),
      (by refine' L3.def_mk X1 X2 G.bn_next_weights ?a ?l ?c ?k; (case a => k_is); (case l => k_is); (case c => k_is); (case k => k_is)),
      (by refine' L3.def_mk X1 X2 G.bn_weights_behind ?a ?l ?c ?k; (case a => k_is); (case l => k_is); (case c => k_is); (case k => k_is)),
      (by refine' L3.def_mk X1 X2 G.bn_row_chance ?a ?l ?c ?k; (case a => k_is); (case l => k_is); (case c => k_is); (case k => k_is)),
      (by refine' L3.def_mk X1 X2 G.bn_next_chances ?a ?l ?c ?k; (case a => k_is); (case l => k_is); (case c => k_is); (case k => k_is)),
      (by refine' L3.def_mk X1 X2 G.bn_law_jug ?a ?l ?c ?k; (case a => k_is); (case l => k_is); (case c => k_is); (case k => k_is)),
      (by refine' L3.def_mk X1 X2 G.bn_law_pour ?a ?l ?c ?k; (case a => k_is); (case l => k_is); (case c => k_is); (case k => k_is)),
      (by refine' L3.def_mk X1 X2 G.bn_law_tilt ?a ?l ?c ?k; (case a => k_is); (case l => k_is); (case c => k_is); (case k => k_is)),
      (by refine' L3.def_mk X1 X2 G.bn_law_made ?a ?l ?c ?k; (case a => k_is); (case l => k_is); (case c => k_is); (case k => k_is)),
      (by refine' L3.def_mk X1 X2 G.bn_law_before ?a ?l ?c ?k; (case a => k_is); (case l => k_is); (case c => k_is); (case k => k_is)),
      (by refine' L3.def_mk X1 X2 G.bn_law_worths ?a ?l ?c ?k; (case a => k_is); (case l => k_is); (case c => k_is); (case k => k_is)),
      (by refine' L3.def_mk X1 X2 G.bn_law_above ?a ?l ?c ?k; (case a => k_is); (case l => k_is); (case c => k_is); (case k => k_is)),
      (by refine' L3.def_mk X1 X2 G.bn_law_lowest ?a ?l ?c ?k; (case a => k_is); (case l => k_is); (case c => k_is); (case k => k_is)),
      (by refine' L3.def_mk X1 X2 G.bn_law_due ?a ?l ?c ?k; (case a => k_is); (case l => k_is); (case c => k_is); (case k => k_is)),
      (by refine' L3.def_mk X1 X2 G.bn_law_fraction ?a ?l ?c ?k; (case a => k_is); (case l => k_is); (case c => k_is); (case k => k_is)),
      (by refine' L3.def_mk X1 X2 G.bn_law_asked ?a ?l ?c ?k; (case a => k_is); (case l => k_is); (case c => k_is); (case k => k_is)),
      (by refine' L3.def_mk X1 X2 G.bn_law_rows ?a ?l ?c ?k; (case a => k_is); (case l => k_is); (case c => k_is); (case k => k_is)),
      (by refine' L3.def_mk X1 X2 G.bn_law_whole ?a ?l ?c ?k; (case a => k_is); (case l => k_is); (case c => k_is); (case k => k_is)),
      (by refine' L3.def_mk X1 X2 G.bn_law_step ?a ?l ?c ?k; (case a => k_is); (case l => k_is); (case c => k_is); (case k => k_is)),
      (by refine' L3.def_mk X1 X2 G.bn_law ?a ?l ?c ?k; (case a => k_is); (case l => k_is); (case c => k_is); (case k => k_is)),
      (by refine L3.xfS (cl := []) (fs := []) ?_;  exact L3.xfS_nil)⟩
    obtain ⟨fd, hb, hF⟩ := G.fin (l := PySem.Challenge.rw_everyprior_k15_chances_of_rows) (w := w) T hmg
    exact ⟨fd, hb, fun base _ _ => hF base⟩
#print axioms PySem.Challenge.cw_everyprior_k15_chances_of_rows_holds

