import PyProof.Rows.All
import Wide.All
import OpenK.AllK
import Wide.FinOn
import HandS.ForMost
import HandS.IsInst
import HandS.Conv
import HandS.Zip
import HandS.NoneIn
import HandS.TupAny
import HandS.Flow
import HandS.Style
import KE.KDictKeyed
import KE.SortData
import KE.SortKeyHeap
import KE.DataMinMax
import KE.KTupSum
import PyProof.DictRoadsH
import HandS.TupLen
import HandS.TupMul
import HandS.Wide
import HandS.SortInts
import HandS.TupLe
import HandS.AnyAll
import KE.GoesMore
import HandS.More
import HandS.Remove
import HandS.SetFor
import PySem.Challenge.RW_roomsemptied_k82_whole_blocked_rings
set_option Elab.async false
set_option linter.all false
set_option autoImplicit false
set_option maxRecDepth 100000
/-! Sv1: plain data D, the heap's picture of them (Rp), the running state (Rel). -/
namespace Sv
open PySem L2

/-- plain data: what a Python value is worth, apart from where it stands -/
inductive D where
  | non | bl (b : Bool) | int (i : Int) | str (s : Str) | tup (xs : List D) | lst (xs : List D) | dct (kvs : List (D × D)) | tok (n : Nat)
  deriving Inhabited

namespace D
mutual
def beq : D → D → Bool
  | .non, .non => true
  | .bl a, .bl b => decide (a = b)
  | .int a, .int b => decide (a = b)
  | .str a, .str b => decide (a = b)
  | .tup a, .tup b => beqL a b
  | .lst a, .lst b => beqL a b
  | .dct a, .dct b => beqK a b
  | .tok a, .tok b => decide (a = b)
  | _, _ => false
def beqL : List D → List D → Bool
  | [], [] => true
  | a :: as, b :: bs => beq a b && beqL as bs
  | _, _ => false
def beqK : List (D × D) → List (D × D) → Bool
  | [], [] => true
  | (a, x) :: as, (b, y) :: bs => beq a b && (beq x y && beqK as bs)
  | _, _ => false
end
mutual
theorem beq_self : ∀ a : D, beq a a = true
  | .non => by simp [beq]
  | .bl _ => by simp [beq]
  | .int _ => by simp [beq]
  | .str _ => by simp [beq]
  | .tup a => by rw [beq]; exact beqL_self a
  | .lst a => by rw [beq]; exact beqL_self a
  | .dct a => by rw [beq]; exact beqK_self a
  | .tok _ => by simp [beq]
theorem beqL_self : ∀ a : List D, beqL a a = true
  | [] => by simp [beqL]
  | a :: as => by rw [beqL, beq_self a, beqL_self as]; rfl
theorem beqK_self : ∀ a : List (D × D), beqK a a = true
  | [] => by simp [beqK]
  | (a, x) :: as => by rw [beqK, beq_self a, beq_self x, beqK_self as]; rfl
end
mutual
theorem eq_of_beq : ∀ a b : D, beq a b = true → a = b
  | .non, b, h => by cases b <;> simp_all [beq]
  | .bl _, b, h => by cases b <;> simp_all [beq]
  | .int _, b, h => by cases b <;> simp_all [beq]
  | .str _, b, h => by cases b <;> simp_all [beq]
  | .tup a, b, h => by
    cases b with
    | tup b => rw [beq] at h; rw [eq_of_beqL a b h]
    | _ => simp [beq] at h
  | .lst a, b, h => by
    cases b with
    | lst b => rw [beq] at h; rw [eq_of_beqL a b h]
    | _ => simp [beq] at h
  | .dct a, b, h => by
    cases b with
    | dct b => rw [beq] at h; rw [eq_of_beqK a b h]
    | _ => simp [beq] at h
  | .tok _, b, h => by cases b <;> simp_all [beq]
theorem eq_of_beqL : ∀ a b : List D, beqL a b = true → a = b
  | [], b, h => by cases b <;> simp_all [beqL]
  | a :: as, b, h => by
    cases b with
    | nil => simp [beqL] at h
    | cons b bs =>
      rw [beqL, Bool.and_eq_true] at h
      rw [eq_of_beq a b h.1, eq_of_beqL as bs h.2]
theorem eq_of_beqK : ∀ a b : List (D × D), beqK a b = true → a = b
  | [], b, h => by cases b <;> simp_all [beqK]
  | (a, x) :: as, b, h => by
    cases b with
    | nil => simp [beqK] at h
    | cons b bs =>
      obtain ⟨b, y⟩ := b
      rw [beqK, Bool.and_eq_true, Bool.and_eq_true] at h
      rw [eq_of_beq a b h.1, eq_of_beq x y h.2.1, eq_of_beqK as bs h.2.2]
end
instance : DecidableEq D := fun a b => if h : beq a b = true then isTrue (eq_of_beq a b h) else isFalse fun e => h (e ▸ beq_self a)

mutual
/-- as the library's data -/
def py : D → PyData
  | .non => .none
  | .bl b => .bool b
  | .int i => .int i
  | .str s => .str s
  | .tup xs => .tuple (pyL xs)
  | .lst xs => .list (pyL xs)
  | .dct _ => .none
  | .tok _ => .none
def pyL : List D → List PyData
  | [] => []
  | d :: ds => py d :: pyL ds
end
mutual
/-- no dicts, no tokens -/
def plain : D → Bool
  | .non => true
  | .bl _ => true
  | .int _ => true
  | .str s => s.cps.all (· < 0x110000)
  | .tup xs => plainL xs
  | .lst xs => plainL xs
  | .dct _ => false
  | .tok _ => false
def plainL : List D → Bool
  | [] => true
  | d :: ds => plain d && plainL ds
end
mutual
def dep : D → Nat
  | .non => 0
  | .bl _ => 0
  | .int _ => 0
  | .str _ => 0
  | .tup xs => depL xs + 1
  | .lst xs => depL xs + 1
  | .dct _ => 0
  | .tok _ => 0
def depL : List D → Nat
  | [] => 0
  | d :: ds => max (dep d) (depL ds)
end
/-- data that == and < are asked of -/
def sm (d : D) : Bool := plain d && decide (dep d ≤ 50)
mutual
/-- nothing in it that can be changed -/
def flat : D → Bool
  | .non => true
  | .bl _ => true
  | .int _ => true
  | .str _ => true
  | .tup xs => flatL xs
  | .lst _ => false
  | .dct _ => false
  | .tok _ => true
def flatL : List D → Bool
  | [] => true
  | d :: ds => flat d && flatL ds
end
mutual
/-- a key: numbers, texts, None, tuples of such -/
def kok : D → Bool
  | .non => true
  | .bl _ => false
  | .int _ => true
  | .str _ => true
  | .tup xs => kokL xs
  | .lst _ => false
  | .dct _ => false
  | .tok _ => false
def kokL : List D → Bool
  | [] => true
  | d :: ds => kok d && kokL ds
end
mutual
theorem kok_flat : ∀ d : D, kok d = true → flat d = true
  | .non, _ => rfl
  | .bl _, h => by simp [kok] at h
  | .int _, _ => rfl
  | .str _, _ => rfl
  | .tup xs, h => by simp only [kok] at h; simp only [flat]; exact kokL_flat xs h
  | .lst _, h => by simp [kok] at h
  | .dct _, h => by simp [kok] at h
  | .tok _, h => by simp [kok] at h
theorem kokL_flat : ∀ d : List D, kokL d = true → flatL d = true
  | [], _ => rfl
  | d :: ds, h => by
    rw [kokL, Bool.and_eq_true] at h
    rw [flatL, kok_flat d h.1, kokL_flat ds h.2]; rfl
end
mutual
/-- as a key of a dict (True is 1) -/
def nk : D → Option NestedKey
  | .non => some .none
  | .bl b => some (.num (if b then 1 else 0))
  | .int i => some (.num i)
  | .str s => some (.text s)
  | .tup xs => (nkL xs).map .tup
  | .lst _ => none
  | .dct _ => none
  | .tok _ => none
def nkL : List D → Option (List NestedKey)
  | [] => some []
  | d :: ds => match nk d, nkL ds with
    | some k, some ks => some (k :: ks)
    | _, _ => none
end
end D

namespace D
mutual
theorem kok_nk : ∀ d : D, kok d = true → ∃ k, nk d = some k ∧ k.depth = dep d
  | .non, _ => ⟨_, rfl, rfl⟩
  | .bl _, h => by simp [kok] at h
  | .int _, _ => ⟨_, rfl, rfl⟩
  | .str _, _ => ⟨_, rfl, rfl⟩
  | .tup xs, h => by
    simp only [kok] at h
    obtain ⟨ks, e, he⟩ := kokL_nk xs h
    exact ⟨.tup ks, by rw [nk, e]; rfl, by rw [NestedKey.depth, he, dep]⟩
  | .lst _, h => by simp [kok] at h
  | .dct _, h => by simp [kok] at h
  | .tok _, h => by simp [kok] at h
theorem kokL_nk : ∀ d : List D, kokL d = true → ∃ k, nkL d = some k ∧ NestedKey.depthAll k = depL d
  | [], _ => ⟨_, rfl, rfl⟩
  | d :: ds, h => by
    rw [kokL, Bool.and_eq_true] at h
    obtain ⟨k, e, he⟩ := kok_nk d h.1
    obtain ⟨ks, e2, he2⟩ := kokL_nk ds h.2
    exact ⟨k :: ks, by rw [nkL, e, e2], by rw [NestedKey.depthAll, he, he2, depL]⟩
end
mutual
theorem nk_inj : ∀ a b : D, kok a = true → kok b = true → nk a = nk b → a = b
  | .non, b, _, hb, e => by
    cases b with
    | tup ys => simp only [nk] at e; cases h : nkL ys <;> rw [h] at e <;> simp at e
    | _ => simp_all [nk, kok]
  | .bl _, _, h, _, _ => by simp [kok] at h
  | .int _, b, _, hb, e => by
    cases b with
    | tup ys => simp only [nk] at e; cases h : nkL ys <;> rw [h] at e <;> simp at e
    | _ => simp_all [nk, kok]
  | .str _, b, _, hb, e => by
    cases b with
    | tup ys => simp only [nk] at e; cases h : nkL ys <;> rw [h] at e <;> simp at e
    | _ => simp_all [nk, kok]
  | .tup xs, b, ha, hb, e => by
    simp only [kok] at ha
    obtain ⟨ks, ek, _⟩ := kokL_nk xs ha
    cases b with
    | tup ys =>
      simp only [kok] at hb
      obtain ⟨ls, el, _⟩ := kokL_nk ys hb
      simp only [nk, ek, el, Option.map_some, Option.some.injEq, NestedKey.tup.injEq] at e
      rw [nkL_inj xs ys ha hb (by rw [ek, el, e])]
    | _ => simp only [nk, ek, Option.map_some] at e; simp at e
  | .lst _, _, h, _, _ => by simp [kok] at h
  | .dct _, _, h, _, _ => by simp [kok] at h
  | .tok _, _, h, _, _ => by simp [kok] at h
theorem nkL_inj : ∀ a b : List D, kokL a = true → kokL b = true → nkL a = nkL b → a = b
  | [], b, _, hb, e => by
    cases b with
    | nil => rfl
    | cons y ys =>
      rw [kokL, Bool.and_eq_true] at hb
      obtain ⟨k, e1, _⟩ := kok_nk y hb.1
      obtain ⟨ks, e2, _⟩ := kokL_nk ys hb.2
      simp [nkL, e1, e2] at e
  | x :: xs, b, ha, hb, e => by
    rw [kokL, Bool.and_eq_true] at ha
    obtain ⟨k, e1, _⟩ := kok_nk x ha.1
    obtain ⟨ks, e2, _⟩ := kokL_nk xs ha.2
    cases b with
    | nil => simp [nkL, e1, e2] at e
    | cons y ys =>
      rw [kokL, Bool.and_eq_true] at hb
      obtain ⟨l, f1, _⟩ := kok_nk y hb.1
      obtain ⟨ls, f2, _⟩ := kokL_nk ys hb.2
      simp only [nkL, e1, e2, f1, f2, Option.some.injEq, List.cons.injEq] at e
      rw [nk_inj x y ha.1 hb.1 (by rw [e1, f1, e.1]), nkL_inj xs ys ha.2 hb.2 (by rw [e2, f2, e.2])]
end
end D
/-- the law's random source: cells, two numbers -/
structure Bx where
  cs : List Int
  x : Int
  y : Int

abbrev Bo := Option (Addr × Addr)
def inBox : Bo → Addr → Prop
  | none, _ => False
  | some (p, q), a => a = p ∨ a = q

/-- what is fixed through a law -/
structure Pm where
  P : Program
  w : World
  K : PySem.W.Frag
  fn : Nat → Option V

/-- what a token stands for: 0 the random source, k + 1 the k-th function -/
def Tk (m : Pm) (bo : Bo) : Nat → V → Prop
  | 0, v => ∃ p q, bo = some (p, q) ∧ v = .ref p
  | n + 1, v => m.fn n = some v

/-- a dict object with just these entries (keys: tuples) -/
def DicO (m : Pm) (a : Addr) (es : List (NestedKey × Addr × Value)) : HO :=
  .ext fun h => ∃ o arr ep, h.get? a = some o ∧ o.ExactDict ∧ o.data = .dict arr ep ∧ arr.toList = es.map (entryOfKey (nestedKind m.P m.w)) ∧ (es.map (·.1)).Nodup ∧ es.length ≤ sizeLine ∧ (a == sysModules) = false

def keyD : Key → D
  | .inl i => .int i
  | .inr x => .str x

section
variable (m : Pm) (bo : Bo) (F : Addr → Prop) (H : Hp)
mutual
/-- the value v is the datum d; its lists and dicts stand at places of F -/
def Rp : D → V → Prop
  | .non, v => v = .non
  | .bl b, v => v = .bl b
  | .int i, v => v = .int i
  | .str s, v => v = .str s
  | .tup ds, v => ∃ a vs, v = .ref a ∧ SqT m.K H a vs ∧ vs.length ≤ sizeLine ∧ RpL ds vs
  | .lst ds, v => ∃ a vs, v = .ref a ∧ F a ∧ H a = some (.lst vs) ∧ vs.length ≤ sizeLine ∧ RpL ds vs
  | .dct kvs, v => ∃ a, v = .ref a ∧ F a ∧ ((∃ ws, H a = some (.dK ws) ∧ RpA kvs ws) ∨ ∃ es, H a = some (DicO m a es) ∧ RpB kvs es)
  | .tok n, v => Tk m bo n v
def RpL : List D → List V → Prop
  | [], vs => vs = []
  | d :: ds, vs => ∃ v r, vs = v :: r ∧ Rp d v ∧ RpL ds r
def RpA : List (D × D) → List (Key × V) → Prop
  | [], vs => vs = []
  | (k, d) :: ds, vs => ∃ k' v r, vs = (k', v) :: r ∧ k = keyD k' ∧ Rp d v ∧ RpA ds r
/-- a dict whose keys are tuples: its first row is (tok 0, None), which is no entry -/
def RpB : List (D × D) → List (NestedKey × Addr × Value) → Prop
  | [], _ => False
  | (k, d) :: ds, vs => k = .tok 0 ∧ d = .non ∧ RpC ds vs
def RpC : List (D × D) → List (NestedKey × Addr × Value) → Prop
  | [], vs => vs = []
  | (k, d) :: ds, vs => ∃ k' a u r, vs = (k', a, u) :: r ∧ k.nk = some k' ∧ k.kok = true ∧ k'.depth ≤ 8 ∧ Rp k (.ref a) ∧ (∃ v, RelV v u ∧ Rp d v) ∧ RpC ds r
end
/-- the content of a list or dict of one's own -/
def Own : D → Addr → Prop
  | .lst ds, a => ∃ vs, H a = some (.lst vs) ∧ vs.length ≤ sizeLine ∧ RpL m bo F H ds vs
  | .dct kvs, a => (∃ ws, H a = some (.dK ws) ∧ RpA m bo F H kvs ws) ∨ ∃ es, H a = some (DicO m a es) ∧ RpB m bo F H kvs es
  | _, _ => False
/-- an operand: as Rp, or a thing of one's own -/
def RpO (d : D) (v : V) : Prop := Rp m bo F H d v ∨ ∃ a, v = .ref a ∧ ¬ inBox bo a ∧ ¬ F a ∧ Own m bo F H d a
end

/-- what is written in place -/
def MutO : HO → Prop
  | .lst _ => True
  | .dK _ => True
  | .dT _ => True
  | .set _ _ => True
  | .ins _ _ _ => True
  | .ext _ => True
  | _ => False

/-- F's objects and all tuples stay -/
structure FK (F : Addr → Prop) (H : Hp) (F' : Addr → Prop) (H' : Hp) : Prop where
  sub : ∀ a, F a → F' a
  at_ : ∀ a, F a → H' a = H a
  imm : ∀ a o, H a = some o → ¬ MutO o → H' a = some o
theorem FK.refl (F : Addr → Prop) (H : Hp) : FK F H F H := ⟨fun _ h => h, fun _ _ => rfl, fun _ _ h _ => h⟩
theorem FK.trans {F F1 F2 : Addr → Prop} {H H1 H2 : Hp} (a : FK F H F1 H1) (b : FK F1 H1 F2 H2) : FK F H F2 H2 :=
  ⟨fun c h => b.sub c (a.sub c h), fun c h => (b.at_ c (a.sub c h)).trans (a.at_ c h), fun c o h n => b.imm c o (a.imm c o h n) n⟩

theorem SqT.fk {K : PySem.W.Frag} {F F' : Addr → Prop} {H H' : Hp} {a : Addr} {vs : List V} (k : FK F H F' H') (h : SqT K H a vs) : SqT K H' a vs := by
  rcases h with (h | ⟨o, h⟩) | h
  · exact .inl (.inl (k.imm _ _ h (by simp [MutO])))
  · exact .inl (.inr ⟨o, k.imm _ _ h (by simp [MutO])⟩)
  · exact .inr h

section
variable {m : Pm} {bo bo' : Bo} {F F' : Addr → Prop} {H H' : Hp}
mutual
theorem Rp.mono (kT : ∀ n v, Tk m bo n v → Tk m bo' n v) (k : FK F H F' H') : ∀ (d : D) (v : V), Rp m bo F H d v → Rp m bo' F' H' d v
  | .non, v, h => by simpa [Rp] using h
  | .bl _, v, h => by simpa [Rp] using h
  | .int _, v, h => by simpa [Rp] using h
  | .str _, v, h => by simpa [Rp] using h
  | .tup ds, v, h => by
    simp only [Rp] at h ⊢
    obtain ⟨a, vs, e, s, z, r⟩ := h
    exact ⟨a, vs, e, Sv.SqT.fk k s, z, RpL.mono kT k ds vs r⟩
  | .lst ds, v, h => by
    simp only [Rp] at h ⊢
    obtain ⟨a, vs, e, f, s, z, r⟩ := h
    exact ⟨a, vs, e, k.sub a f, (k.at_ a f).trans s, z, RpL.mono kT k ds vs r⟩
  | .dct kvs, v, h => by
    simp only [Rp] at h ⊢
    obtain ⟨a, e, f, ⟨ws, s, r⟩ | ⟨es, s, r⟩⟩ := h
    · exact ⟨a, e, k.sub a f, .inl ⟨ws, (k.at_ a f).trans s, RpA.mono kT k kvs ws r⟩⟩
    · exact ⟨a, e, k.sub a f, .inr ⟨es, (k.at_ a f).trans s, RpB.mono kT k kvs es r⟩⟩
  | .tok n, v, h => by
    simp only [Rp] at h ⊢
    exact kT n v h
theorem RpL.mono (kT : ∀ n v, Tk m bo n v → Tk m bo' n v) (k : FK F H F' H') : ∀ (ds : List D) (vs : List V), RpL m bo F H ds vs → RpL m bo' F' H' ds vs
  | [], vs, h => by simpa [RpL] using h
  | d :: ds, vs, h => by
    simp only [RpL] at h ⊢
    obtain ⟨v, r, e, h1, h2⟩ := h
    exact ⟨v, r, e, Rp.mono kT k d v h1, RpL.mono kT k ds r h2⟩
theorem RpA.mono (kT : ∀ n v, Tk m bo n v → Tk m bo' n v) (k : FK F H F' H') : ∀ (ds : List (D × D)) (vs : List (Key × V)), RpA m bo F H ds vs → RpA m bo' F' H' ds vs
  | [], vs, h => by simpa [RpA] using h
  | (x, d) :: ds, vs, h => by
    simp only [RpA] at h ⊢
    obtain ⟨k', v, r, e, ek, h1, h2⟩ := h
    exact ⟨k', v, r, e, ek, Rp.mono kT k d v h1, RpA.mono kT k ds r h2⟩
theorem RpB.mono (kT : ∀ n v, Tk m bo n v → Tk m bo' n v) (k : FK F H F' H') : ∀ (ds : List (D × D)) (vs : List (NestedKey × Addr × Value)), RpB m bo F H ds vs → RpB m bo' F' H' ds vs
  | [], vs, h => by simp [RpB] at h
  | (x, d) :: ds, vs, h => by
    simp only [RpB] at h ⊢
    exact ⟨h.1, h.2.1, RpC.mono kT k ds vs h.2.2⟩
theorem RpC.mono (kT : ∀ n v, Tk m bo n v → Tk m bo' n v) (k : FK F H F' H') : ∀ (ds : List (D × D)) (vs : List (NestedKey × Addr × Value)), RpC m bo F H ds vs → RpC m bo' F' H' ds vs
  | [], vs, h => by simpa [RpC] using h
  | (x, d) :: ds, vs, h => by
    simp only [RpC] at h ⊢
    obtain ⟨k', a, u, r, e, ek, fl, dp, hk, ⟨v, rv, h1⟩, h2⟩ := h
    exact ⟨k', a, u, r, e, ek, fl, dp, Rp.mono kT k x _ hk, ⟨v, rv, Rp.mono kT k d v h1⟩, RpC.mono kT k ds r h2⟩
end
theorem Rp.fk (k : FK F H F' H') {d : D} {v : V} (h : Rp m bo F H d v) : Rp m bo F' H' d v := Rp.mono (fun _ _ h => h) k d v h
theorem RpL.fk (k : FK F H F' H') {d : List D} {v : List V} (h : RpL m bo F H d v) : RpL m bo F' H' d v := RpL.mono (fun _ _ h => h) k d v h
theorem RpA.fk (k : FK F H F' H') {d : List (D × D)} {v : List (Key × V)} (h : RpA m bo F H d v) : RpA m bo F' H' d v := RpA.mono (fun _ _ h => h) k d v h
theorem RpC.fk (k : FK F H F' H') {d : List (D × D)} {v : List (NestedKey × Addr × Value)} (h : RpC m bo F H d v) : RpC m bo F' H' d v := RpC.mono (fun _ _ h => h) k d v h
theorem RpB.fk (k : FK F H F' H') {d : List (D × D)} {v : List (NestedKey × Addr × Value)} (h : RpB m bo F H d v) : RpB m bo F' H' d v := RpB.mono (fun _ _ h => h) k d v h
theorem Own.fk (k : FK F H F' H') {d : D} {a : Addr} (e : H' a = H a) (h : Own m bo F H d a) : Own m bo F' H' d a := by
  cases d with
  | lst ds => obtain ⟨vs, s, z, r⟩ := h; exact ⟨vs, e.trans s, z, r.fk k⟩
  | dct kvs =>
    rcases h with ⟨ws, s, r⟩ | ⟨es, s, r⟩
    · exact .inl ⟨ws, e.trans s, r.fk k⟩
    · exact .inr ⟨es, e.trans s, r.fk k⟩
  | _ => exact (show False from h).elim
end

section
variable {m : Pm} {bo : Bo} {F : Addr → Prop} {H : Hp}
theorem RpL.length : ∀ {ds : List D} {vs : List V}, RpL m bo F H ds vs → vs.length = ds.length
  | [], vs, h => by simp only [RpL] at h; simp [h]
  | d :: ds, vs, h => by
    simp only [RpL] at h
    obtain ⟨v, r, rfl, _, h2⟩ := h
    simp [RpL.length h2]
theorem RpL.nil : RpL m bo F H [] [] := by simp [RpL]
theorem RpL.cons {d : D} {v : V} {ds : List D} {vs : List V} (h : Rp m bo F H d v) (t : RpL m bo F H ds vs) : RpL m bo F H (d :: ds) (v :: vs) := by
  simp only [RpL]
  exact ⟨v, vs, rfl, h, t⟩
theorem RpL.head {d : D} {v : V} {ds : List D} {vs : List V} (h : RpL m bo F H (d :: ds) (v :: vs)) : Rp m bo F H d v ∧ RpL m bo F H ds vs := by
  simp only [RpL] at h
  obtain ⟨v', r, e, h1, h2⟩ := h
  cases e
  exact ⟨h1, h2⟩
theorem RpL.append : ∀ {ds es : List D} {vs us : List V}, RpL m bo F H ds vs → RpL m bo F H es us → RpL m bo F H (ds ++ es) (vs ++ us)
  | [], es, vs, us, h, t => by simp only [RpL] at h; subst h; exact t
  | d :: ds, es, vs, us, h, t => by
    simp only [RpL] at h
    obtain ⟨v, r, rfl, h1, h2⟩ := h
    exact RpL.cons h1 (RpL.append h2 t)
theorem RpL.get : ∀ {ds : List D} {vs : List V} {i : Nat} {d : D}, RpL m bo F H ds vs → ds[i]? = some d → ∃ v, vs[i]? = some v ∧ Rp m bo F H d v
  | [], _, _, _, _, e => by simp at e
  | d :: ds, vs, 0, x, h, e => by
    simp only [RpL] at h
    obtain ⟨v, r, rfl, h1, h2⟩ := h
    simp at e; subst e
    exact ⟨v, rfl, h1⟩
  | d :: ds, vs, i + 1, x, h, e => by
    simp only [RpL] at h
    obtain ⟨v, r, rfl, h1, h2⟩ := h
    obtain ⟨u, q, z⟩ := RpL.get (i := i) h2 (by simpa using e)
    exact ⟨u, by simpa using q, z⟩
theorem RpL.of_get : ∀ {ds : List D} {vs : List V} {i : Nat} {v : V}, RpL m bo F H ds vs → vs[i]? = some v → ∃ d, ds[i]? = some d ∧ Rp m bo F H d v := fun {ds vs i v} h e => by
  have hl := h.length
  have hi := (List.getElem?_eq_some_iff.mp e).1
  have hi' : i < ds.length := by omega
  obtain ⟨u, q, z⟩ := h.get (List.getElem?_eq_getElem hi')
  rw [e] at q; cases q
  exact ⟨_, List.getElem?_eq_getElem hi', z⟩
theorem RpL.take : ∀ {ds : List D} {vs : List V} (n : Nat), RpL m bo F H ds vs → RpL m bo F H (ds.take n) (vs.take n)
  | _, _, 0, _ => by simp [RpL]
  | [], _, n + 1, h => by simp only [RpL] at h; subst h; simp [RpL]
  | d :: ds, vs, n + 1, h => by
    simp only [RpL] at h
    obtain ⟨v, r, rfl, h1, h2⟩ := h
    exact RpL.cons h1 (RpL.take n h2)
theorem RpL.drop : ∀ {ds : List D} {vs : List V} (n : Nat), RpL m bo F H ds vs → RpL m bo F H (ds.drop n) (vs.drop n)
  | _, _, 0, h => h
  | [], _, n + 1, h => by simp only [RpL] at h; subst h; simp [RpL]
  | d :: ds, vs, n + 1, h => by
    simp only [RpL] at h
    obtain ⟨v, r, rfl, h1, h2⟩ := h
    exact RpL.drop n h2
theorem RpL.set : ∀ {ds : List D} {vs : List V} (i : Nat) {d : D} {v : V}, RpL m bo F H ds vs → Rp m bo F H d v → RpL m bo F H (ds.set i d) (vs.set i v)
  | [], _, i, _, _, h, _ => by simp only [RpL] at h; subst h; simp [RpL]
  | x :: ds, vs, 0, d, v, h, q => by
    simp only [RpL] at h
    obtain ⟨u, r, rfl, h1, h2⟩ := h
    exact RpL.cons q h2
  | x :: ds, vs, i + 1, d, v, h, q => by
    simp only [RpL] at h
    obtain ⟨u, r, rfl, h1, h2⟩ := h
    exact RpL.cons h1 (RpL.set i h2 q)
theorem RpL.reverse : ∀ {ds : List D} {vs : List V}, RpL m bo F H ds vs → RpL m bo F H ds.reverse vs.reverse
  | [], _, h => by simp only [RpL] at h; subst h; simp [RpL]
  | x :: ds, vs, h => by
    simp only [RpL] at h
    obtain ⟨u, r, rfl, h1, h2⟩ := h
    rw [List.reverse_cons, List.reverse_cons]
    exact RpL.append (RpL.reverse h2) (RpL.cons h1 RpL.nil)
theorem RpL.eraseIdx : ∀ {ds : List D} {vs : List V} (i : Nat), RpL m bo F H ds vs → RpL m bo F H (ds.eraseIdx i) (vs.eraseIdx i)
  | [], _, i, h => by simp only [RpL] at h; subst h; simp [RpL]
  | x :: ds, vs, 0, h => by
    simp only [RpL] at h
    obtain ⟨u, r, rfl, h1, h2⟩ := h
    exact h2
  | x :: ds, vs, i + 1, h => by
    simp only [RpL] at h
    obtain ⟨u, r, rfl, h1, h2⟩ := h
    exact RpL.cons h1 (RpL.eraseIdx i h2)
theorem RpL.replicate {d : D} {v : V} (h : Rp m bo F H d v) : ∀ n, RpL m bo F H (List.replicate n d) (List.replicate n v)
  | 0 => by simp [RpL]
  | n + 1 => RpL.cons h (RpL.replicate h n)
/-- ints, bools, texts read off -/
theorem RpL.ints : ∀ {is : List Int} {vs : List V}, RpL m bo F H (is.map .int) vs → vs = is.map .int
  | [], vs, h => by simpa [RpL] using h
  | i :: is, vs, h => by
    simp only [RpL, List.map_cons, Rp] at h
    obtain ⟨v, r, rfl, rfl, h2⟩ := h
    rw [RpL.ints h2]; rfl
theorem RpL.bools : ∀ {is : List Bool} {vs : List V}, RpL m bo F H (is.map .bl) vs → vs = is.map .bl
  | [], vs, h => by simpa [RpL] using h
  | i :: is, vs, h => by
    simp only [RpL, List.map_cons, Rp] at h
    obtain ⟨v, r, rfl, rfl, h2⟩ := h
    rw [RpL.bools h2]; rfl
theorem RpL.strs : ∀ {is : List Str} {vs : List V}, RpL m bo F H (is.map .str) vs → vs = is.map .str
  | [], vs, h => by simpa [RpL] using h
  | i :: is, vs, h => by
    simp only [RpL, List.map_cons, Rp] at h
    obtain ⟨v, r, rfl, rfl, h2⟩ := h
    rw [RpL.strs h2]; rfl
end

/-! a flat datum's picture does not lean on F -/
mutual
theorem Rp.flat {m : Pm} {bo : Bo} {F F' : Addr → Prop} {H : Hp} : ∀ (d : D) (v : V), d.flat = true → Rp m bo F H d v → Rp m bo F' H d v
  | .non, v, _, h => by simpa [Rp] using h
  | .bl _, v, _, h => by simpa [Rp] using h
  | .int _, v, _, h => by simpa [Rp] using h
  | .str _, v, _, h => by simpa [Rp] using h
  | .tup ds, v, e, h => by
    simp only [Rp] at h ⊢
    obtain ⟨a, vs, e1, s, z, r⟩ := h
    exact ⟨a, vs, e1, s, z, RpL.flat ds vs (by simpa [D.flat] using e) r⟩
  | .lst _, _, e, _ => by simp [D.flat] at e
  | .dct _, _, e, _ => by simp [D.flat] at e
  | .tok n, v, _, h => by simpa [Rp] using h
theorem RpL.flat {m : Pm} {bo : Bo} {F F' : Addr → Prop} {H : Hp} : ∀ (d : List D) (v : List V), D.flatL d = true → RpL m bo F H d v → RpL m bo F' H d v
  | [], v, _, h => by simpa [RpL] using h
  | d :: ds, v, e, h => by
    simp only [RpL] at h ⊢
    rw [D.flatL, Bool.and_eq_true] at e
    obtain ⟨x, r, e1, h1, h2⟩ := h
    exact ⟨x, r, e1, Rp.flat d x e.1 h1, RpL.flat ds r e.2 h2⟩
end

/-- the random source at its place -/
def BoxOk (bo : Bo) (F : Addr → Prop) (H : Hp) (b : Bx) : Prop :=
  match bo with
  | none => True
  | some (p, q) => p ≠ q ∧ ¬ F p ∧ ¬ F q ∧ H p = some (.lst [.ref q, .int b.x, .int b.y]) ∧ H q = some (.lst (b.cs.map .int))

/-- the heap has grown; all but the random source is as it was -/
structure Grow (bo : Bo) (F : Addr → Prop) (H : Hp) (F' : Addr → Prop) (H' : Hp) : Prop where
  keep : ∀ a o, H a = some o → ¬ inBox bo a → H' a = some o
  free : ∀ a, H' a = none → H a = none
  sub : ∀ a, F a → F' a
  new : ∀ a, F' a → F a ∨ H a = none
  dom : ∀ a, F' a → H' a ≠ none
theorem Grow.refl {bo : Bo} {F : Addr → Prop} {H : Hp} (d : ∀ a, F a → H a ≠ none) : Grow bo F H F H := ⟨fun _ _ h _ => h, fun _ h => h, fun _ h => h, fun _ h => .inl h, d⟩
theorem Grow.trans {bo : Bo} {F F1 F2 : Addr → Prop} {H H1 H2 : Hp} (a : Grow bo F H F1 H1) (b : Grow bo F1 H1 F2 H2) : Grow bo F H F2 H2 :=
  ⟨fun c o h n => b.keep c o (a.keep c o h n) n, fun c h => a.free c (b.free c h), fun c h => b.sub c (a.sub c h), fun c h => (b.new c h).elim (fun q => a.new c q) fun q => .inr (a.free c q), b.dom⟩

structure Core (H0 : Hp) (F0 : Addr → Prop) (bo : Bo) (F : Addr → Prop) (H : Hp) (b : Bx) : Prop where
  box : BoxOk bo F H b
  keep : ∀ a o, H0 a = some o → ¬ inBox bo a → H a = some o
  free : ∀ a, H a = none → H0 a = none
  sub : ∀ a, F0 a → F a
  new : ∀ a, F a → F0 a ∨ H0 a = none
  dom : ∀ a, F a → H a ≠ none

/-- a slot of a def: empty, a datum that stays, a list or dict of one's own -/
inductive Sl where
  | emp | frz (d : D) | own (d : D)
  deriving Inhabited
abbrev Rho := List Sl

structure Rel (m : Pm) (H0 : Hp) (F0 : Addr → Prop) (bo : Bo) (σ : St) (ρ : Rho) (F : Addr → Prop) (H : Hp) (b : Bx) : Prop where
  core : Core H0 F0 bo F H b
  len : σ.length = ρ.length
  frz : ∀ (i : Nat) (d : D), ρ[i]? = some (Sl.frz d) → ∃ v, σ[i]? = some (some v) ∧ Rp m bo F H d v
  own : ∀ (i : Nat) (d : D), ρ[i]? = some (Sl.own d) → ∃ a, σ[i]? = some (some (V.ref a)) ∧ ¬ F a ∧ ¬ inBox bo a ∧ H0 a = none ∧ Own m bo F H d a
  dis : ∀ (i j : Nat) (di dj : D) (a : Addr), i ≠ j → ρ[i]? = some (Sl.own di) → ρ[j]? = some (Sl.own dj) → σ[i]? = some (some (V.ref a)) → σ[j]? = some (some (V.ref a)) → False

theorem inBox_some {bo : Bo} {F : Addr → Prop} {H : Hp} {b : Bx} (h : BoxOk bo F H b) {a : Addr} (n : inBox bo a) : ¬ F a ∧ ∃ vs, H a = some (.lst vs) := by
  match bo, h, n with
  | some (p, q), ⟨_, h1, h2, h3, h4⟩, n =>
    rcases n with rfl | rfl
    · exact ⟨h1, _, h3⟩
    · exact ⟨h2, _, h4⟩
theorem Grow.fk {bo : Bo} {F F' : Addr → Prop} {H H' : Hp} {b : Bx} (g : Grow bo F H F' H') (hb : BoxOk bo F H b) (dom : ∀ a, F a → H a ≠ none) : FK F H F' H' where
  sub := g.sub
  at_ := fun a f => by
    cases q : H a with
    | none => exact absurd q (dom a f)
    | some o => exact g.keep a o q fun n => (inBox_some hb n).1 f
  imm := fun a o h n => g.keep a o h fun z => by
    obtain ⟨_, vs, e⟩ := inBox_some hb z
    rw [h] at e; cases e
    exact n trivial

theorem Core.grow {H0 : Hp} {F0 : Addr → Prop} {bo : Bo} {F F' : Addr → Prop} {H H' : Hp} {b b' : Bx} (c : Core H0 F0 bo F H b) (g : Grow bo F H F' H') (hb : BoxOk bo F' H' b') : Core H0 F0 bo F' H' b' :=
  ⟨hb, fun a o h n => g.keep a o (c.keep a o h n) n, fun a h => c.free a (g.free a h), fun a h => g.sub a (c.sub a h), fun a h => (g.new a h).elim (fun q => c.new a q) fun q => .inr (c.free a q), g.dom⟩

section
variable {m : Pm} {H0 : Hp} {F0 : Addr → Prop} {bo : Bo} {σ : St} {ρ : Rho} {F F' : Addr → Prop} {H H' : Hp} {b b' : Bx}
theorem Rel.fkg (R : Rel m H0 F0 bo σ ρ F H b) (g : Grow bo F H F' H') : FK F H F' H' := g.fk R.core.box R.core.dom
theorem Own.some {d : D} {a : Addr} (h : Own m bo F H d a) : ∃ o, H a = some o ∧ MutO o := by
  cases d with
  | lst ds => obtain ⟨vs, s, z, r⟩ := h; exact ⟨_, s, trivial⟩
  | dct kvs =>
    rcases h with ⟨ws, s, r⟩ | ⟨es, s, r⟩
    · exact ⟨_, s, trivial⟩
    · exact ⟨_, s, trivial⟩
  | _ => exact (show False from h).elim
theorem Rel.grow (R : Rel m H0 F0 bo σ ρ F H b) (g : Grow bo F H F' H') (hb : BoxOk bo F' H' b') : Rel m H0 F0 bo σ ρ F' H' b' where
  core := R.core.grow g hb
  len := R.len
  frz := fun i d e => by
    obtain ⟨v, h1, h2⟩ := R.frz i d e
    exact ⟨v, h1, h2.fk (R.fkg g)⟩
  own := fun i d e => by
    obtain ⟨a, h1, h2, h3, h4, h5⟩ := R.own i d e
    obtain ⟨o, q, _⟩ := h5.some
    refine ⟨a, h1, fun z => ?_, h3, h4, h5.fk (R.fkg g) ((g.keep a o q h3).trans q.symm)⟩
    rcases g.new a z with z | z
    · exact h2 z
    · rw [q] at z; cases z
  dis := R.dis
/-- the heap at hand -/
structure Wo (bo : Bo) (F : Addr → Prop) (H : Hp) (b : Bx) : Prop where
  box : BoxOk bo F H b
  dom : ∀ a, F a → H a ≠ none
theorem Rel.wo (R : Rel m H0 F0 bo σ ρ F H b) : Wo bo F H b := ⟨R.core.box, R.core.dom⟩
/-- an operand stays one while the heap grows -/
theorem RpO.grow {d : D} {v : V} (W : Wo bo F H b) (g : Grow bo F H F' H') (h : RpO m bo F H d v) : RpO m bo F' H' d v := by
  rcases h with h | ⟨a, rfl, n, f, h⟩
  · exact .inl (h.fk (g.fk W.box W.dom))
  · obtain ⟨o, q, _⟩ := h.some
    refine .inr ⟨a, rfl, n, fun z => ?_, h.fk (g.fk W.box W.dom) ((g.keep a o q n).trans q.symm)⟩
    rcases g.new a z with z | z
    · exact f z
    · rw [q] at z; cases z
theorem inBox_new (W : Wo bo F H b) {a : Addr} (h : H a = none) : ¬ inBox bo a := fun z => by
  obtain ⟨_, vs, e⟩ := inBox_some W.box z
  rw [h] at e; cases e
theorem BoxOk.alloc {p : Addr} {o : HO} (W : Wo bo F H b) (hp : H p = none) (sub : ∀ a, F' a → F a ∨ a = p) : BoxOk bo F' (upd H p o) b := by
  have hb := W.box
  match bo, hb with
  | none, _ => trivial
  | some (x, y), ⟨h1, h2, h3, h4, h5⟩ =>
    have nx : x ≠ p := ne_of_none h4 hp
    have ny : y ≠ p := ne_of_none h5 hp
    refine ⟨h1, fun z => (sub x z).elim h2 nx, fun z => (sub y z).elim h3 ny, by rw [upd_ne nx]; exact h4, by rw [upd_ne ny]; exact h5⟩
/-- a new object -/
theorem Grow.alloc {p : Addr} {o : HO} (W : Wo bo F H b) (hp : H p = none) : Grow bo F H F (upd H p o) where
  keep := fun a u e _ => by rw [upd_ne (ne_of_none e hp)]; exact e
  free := fun a e => by
    by_cases h : a = p
    · rw [h]; exact hp
    · rw [upd_ne h] at e; exact e
  sub := fun _ h => h
  new := fun _ h => .inl h
  dom := fun a f e => by
    by_cases h : a = p
    · rw [h, upd_same] at e; cases e
    · rw [upd_ne h] at e; exact W.dom a f e
/-- .. that stays as it is -/
theorem Grow.allocF {p : Addr} {o : HO} (W : Wo bo F H b) (hp : H p = none) : Grow bo F H (fun a => F a ∨ a = p) (upd H p o) where
  keep := fun a u e _ => by rw [upd_ne (ne_of_none e hp)]; exact e
  free := fun a e => by
    by_cases h : a = p
    · rw [h]; exact hp
    · rw [upd_ne h] at e; exact e
  sub := fun _ h => .inl h
  new := fun a h => h.elim .inl fun e => .inr (by rw [e]; exact hp)
  dom := fun a f e => by
    by_cases h : a = p
    · rw [h, upd_same] at e; cases e
    · rw [upd_ne h] at e
      rcases f with f | f
      · exact W.dom a f e
      · exact h f
theorem Wo.grow (W : Wo bo F H b) (g : Grow bo F H F' H') (hb : BoxOk bo F' H' b') : Wo bo F' H' b' := ⟨hb, g.dom⟩
theorem Wo.fk (W : Wo bo F H b) (g : Grow bo F H F' H') : FK F H F' H' := g.fk W.box W.dom
/-- a new tuple -/
theorem new_tup {p : Addr} {ds : List D} {vs : List V} (W : Wo bo F H b) (hp : H p = none) (r : RpL m bo F H ds vs) (z : vs.length ≤ sizeLine) :
    Grow bo F H F (upd H p (.tup vs)) ∧ BoxOk bo F (upd H p (.tup vs)) b ∧ Rp m bo F (upd H p (.tup vs)) (.tup ds) (.ref p) := by
  have g : Grow bo F H F (upd H p (.tup vs)) := Grow.alloc W hp
  refine ⟨g, BoxOk.alloc W hp fun _ h => .inl h, ?_⟩
  simp only [Rp]
  exact ⟨p, vs, rfl, SqT.of upd_same, z, r.fk (W.fk g)⟩
/-- a new list, to stay as it is -/
theorem new_lst {p : Addr} {ds : List D} {vs : List V} (W : Wo bo F H b) (hp : H p = none) (r : RpL m bo F H ds vs) (z : vs.length ≤ sizeLine) :
    Grow bo F H (fun a => F a ∨ a = p) (upd H p (.lst vs)) ∧ BoxOk bo (fun a => F a ∨ a = p) (upd H p (.lst vs)) b ∧ Rp m bo (fun a => F a ∨ a = p) (upd H p (.lst vs)) (.lst ds) (.ref p) := by
  have g : Grow bo F H (fun a => F a ∨ a = p) (upd H p (.lst vs)) := Grow.allocF W hp
  refine ⟨g, BoxOk.alloc W hp fun _ h => h, ?_⟩
  simp only [Rp]
  exact ⟨p, vs, rfl, .inr rfl, upd_same, z, r.fk (W.fk g)⟩
/-- .. to be changed -/
theorem new_own {p : Addr} {ds : List D} {vs : List V} (W : Wo bo F H b) (hp : H p = none) (r : RpL m bo F H ds vs) (z : vs.length ≤ sizeLine) :
    Grow bo F H F (upd H p (.lst vs)) ∧ BoxOk bo F (upd H p (.lst vs)) b ∧ ¬ F p ∧ Own m bo F (upd H p (.lst vs)) (.lst ds) p := by
  have g : Grow bo F H F (upd H p (.lst vs)) := Grow.alloc W hp
  exact ⟨g, BoxOk.alloc W hp fun _ h => .inl h, fun f => W.dom p f hp, vs, upd_same, z, r.fk (W.fk g)⟩
/-- a thing of one's own, left to stay as it is -/
theorem freeze {d : D} {a : Addr} (W : Wo bo F H b) (nb : ¬ inBox bo a) (h : Own m bo F H d a) :
    FK F H (fun c => F c ∨ c = a) H ∧ BoxOk bo (fun c => F c ∨ c = a) H b ∧ (∀ c, (F c ∨ c = a) → H c ≠ none) ∧ Rp m bo (fun c => F c ∨ c = a) H d (.ref a) := by
  obtain ⟨o, q, _⟩ := h.some
  have k : FK F H (fun c => F c ∨ c = a) H := ⟨fun _ h => .inl h, fun _ _ => rfl, fun _ _ h _ => h⟩
  refine ⟨k, ?_, fun c f e => ?_, ?_⟩
  · have hb := W.box
    match bo, hb, nb with
    | none, _, _ => trivial
    | some (x, y), ⟨h1, h2, h3, h4, h5⟩, nb =>
      exact ⟨h1, fun z => z.elim h2 fun e => nb (.inl e.symm), fun z => z.elim h3 fun e => nb (.inr e.symm), h4, h5⟩
  · rcases f with f | f
    · exact W.dom c f e
    · rw [f, q] at e; cases e
  · have h' := h.fk (F' := fun c => F c ∨ c = a) k rfl
    cases d with
    | lst ds => obtain ⟨vs, s, z, r⟩ := h'; simp only [Rp]; exact ⟨a, vs, rfl, .inr rfl, s, z, r⟩
    | dct kvs => simp only [Rp]; exact ⟨a, rfl, .inr rfl, h'⟩
    | _ => exact (show False from h).elim
end
end Sv

/-! Sv2: what the constructs compute, on plain data. -/
namespace Sv
open PySem L2

/-! ### operators -/
/-- how large a number may grow -/
def bigOk (i : Int) : Bool := decide (i.natAbs < 2 ^ 30000)
def mulOk (i j : Int) : Bool := decide (i.natAbs < 2 ^ 63) || decide (j.natAbs < 2 ^ 63) || (bigOk i && bigOk j)
def opAdd : D → D → Option D
  | .int i, .int j => some (.int (i + j))
  | .str x, .str y => if x.length + y.length ≤ sizeLine then some (.str (x ++ y)) else none
  | .tup xs, .tup ys => if xs.length + ys.length ≤ sizeLine then some (.tup (xs ++ ys)) else none
  | .lst xs, .lst ys => if xs.length + ys.length ≤ sizeLine then some (.lst (xs ++ ys)) else none
  | _, _ => none
def opSub : D → D → Option D
  | .int i, .int j => some (.int (i - j))
  | _, _ => none
def opMul : D → D → Option D
  | .int i, .int j => if mulOk i j = true then some (.int (i * j)) else none
  | .lst xs, .int k => if k < 2 ^ 62 ∧ -(2 ^ 62) < k ∧ xs.length * k.toNat ≤ sizeLine then some (.lst (List.replicate k.toNat xs).flatten) else none
  | .tup xs, .int k => if k ≤ 1000 ∧ -1000 ≤ k ∧ xs.length ≤ 1000 then some (.tup (List.replicate k.toNat xs).flatten) else none
  | _, _ => none
def opFdiv : D → D → Option D
  | .int i, .int j => if j ≠ 0 ∧ j.natAbs < 2 ^ 30 then some (.int (i.fdiv j)) else none
  | _, _ => none
def opMod : D → D → Option D
  | .int i, .int j => if j ≠ 0 then some (.int (i.fmod j)) else none
  | _, _ => none
def opNeg : D → Option D
  | .int i => some (.int (-i))
  | _ => none

/-! ### truth, comparisons -/
def truthD : D → Option Bool
  | .non => some false
  | .bl b => some b
  | .int i => some (i != 0)
  | .str s => if s.length ≤ sizeLine then some (s.length != 0) else none
  | .tup xs => some (!xs.isEmpty)
  | .lst xs => some (!xs.isEmpty)
  | _ => none
def eqD (d e : D) : Option Bool := if d.sm = true ∧ e.sm = true then some (PyData.eqv d.py e.py) else none
def opEq (d e : D) : Option D := (eqD d e).map .bl
def opNe (d e : D) : Option D := (eqD d e).map fun k => .bl (!k)
def ltD : D → D → Option Bool
  | .int i, .int j => some (decide (i < j))
  | d, e => if d.sm = true ∧ e.sm = true ∧ d ≠ .non ∧ PySem.W.alike d.py e.py = true then some (PySem.W.dataLt d.py e.py) else none
def opLt (d e : D) : Option D := (ltD d e).map .bl
def opGt (d e : D) : Option D := (ltD e d).map .bl
def opLe (d e : D) : Option D := (ltD e d).map fun k => .bl (!k)
def opGe (d e : D) : Option D := (ltD d e).map fun k => .bl (!k)
def opIsN : D → Option D
  | .tok _ => none
  | .non => some (.bl true)
  | _ => some (.bl false)
def opNotN (d : D) : Option D := match d with
  | .tok _ => none
  | .non => some (.bl false)
  | _ => some (.bl true)
def opIsB : D → D → Option D
  | .bl a, .bl b => some (.bl (decide (a = b)))
  | _, _ => none
def opIsntB : D → D → Option D
  | .bl a, .bl b => some (.bl (!decide (a = b)))
  | _, _ => none
/-! ### dicts: the rows, a key asked for, a key put; where the keys are tuples the first row is t0 -/
def keyS : D → Bool
  | .int _ => true
  | .str _ => true
  | _ => false
def keyT : D → Bool
  | .tup xs => D.kokL xs && decide (D.depL xs ≤ 7)
  | _ => false
def t0 : D × D := (.tok 0, .non)
def isT0 : List (D × D) → Bool
  | kv :: _ => decide (kv = t0)
  | [] => false
def lkD (rows : List (D × D)) (k : D) : Option D := (rows.find? fun kv => decide (kv.1 = k)).map (·.2)
def ptD (rows : List (D × D)) (k v : D) : List (D × D) := if (lkD rows k).isSome then rows.map (fun kv => if kv.1 = k then (kv.1, v) else kv) else rows ++ [(k, v)]
def drD (rows : List (D × D)) (k : D) : List (D × D) := rows.filter fun kv => decide (kv.1 ≠ k)
def rowsD (kvs : List (D × D)) : List (D × D) := if isT0 kvs = true then kvs.tail else kvs
def keyOk (kvs : List (D × D)) (k : D) : Bool := if isT0 kvs = true then keyT k else keyS k
def dGet (kvs : List (D × D)) (k : D) : Option (Option D) := if keyOk kvs k = true then some (lkD (rowsD kvs) k) else none
def dPut (kvs : List (D × D)) (k v : D) : Option (List (D × D)) := if keyOk kvs k = true ∧ (rowsD kvs).length < sizeLine then some (if isT0 kvs = true then t0 :: ptD kvs.tail k v else ptD kvs k v) else none
def inD (x y : D) : Option Bool := match y with
  | .dct kvs => (dGet kvs x).map Option.isSome
  | .lst ds => if x.sm = true ∧ D.sm (.lst ds) = true then some (ds.any fun z => PyData.eqv z.py x.py) else none
  | .tup ds => if x.sm = true ∧ D.sm (.tup ds) = true then some (ds.any fun z => PyData.eqv z.py x.py) else none
  | _ => none
def opIn (x y : D) : Option D := (inD x y).map .bl
def opNotIn (x y : D) : Option D := (inD x y).map fun k => .bl (!k)

/-! ### subscripts, slices -/
def ixD : D → D → Option D
  | .tup xs, .int i => atI xs i
  | .lst xs, .int i => atI xs i
  | .str z, .int i => if z.length ≤ sizeLine then (atI z.cps.toList i).map fun c => .str ⟨#[c]⟩ else none
  | .dct kvs, k => (dGet kvs k).join
  | _, _ => none
def cutD (xs : List D) (lo hi : Option Int) : List D := (xs.drop (HT.sIx xs.length 0 lo)).take (HT.sIx xs.length xs.length hi - HT.sIx xs.length 0 lo)
def sliceD (x : D) (lo hi : Option Int) : Option D := match x with
  | .tup xs => some (.tup (cutD xs lo hi))
  | .lst xs => some (.lst (cutD xs lo hi))
  | .str z => if z.length ≤ sizeLine then some (.str (cutS z lo hi)) else none
  | _ => none
def revD : D → Option D
  | .tup xs => some (.tup xs.reverse)
  | .lst xs => some (.lst xs.reverse)
  | _ => none

/-! ### built-ins -/
def lenD : List D → Option D
  | [.dct kvs] => some (.int (rowsD kvs).length)
  | [.tup xs] => some (.int xs.length)
  | [.lst xs] => some (.int xs.length)
  | [.str z] => if z.length ≤ sizeLine then some (.int z.length) else none
  | _ => none
def boolsD : List D → Option (List Bool)
  | [] => some []
  | .bl b :: r => (boolsD r).map (b :: ·)
  | _ :: _ => none
def intsD : List D → Option (List Int)
  | [] => some []
  | .int b :: r => (intsD r).map (b :: ·)
  | _ :: _ => none
def strsD : List D → Option (List Str)
  | [] => some []
  | .str b :: r => (strsD r).map (b :: ·)
  | _ :: _ => none
def anyD : List D → Option D
  | [.lst xs] => (boolsD xs).map fun bs => .bl (bs.any id)
  | _ => none
def allD : List D → Option D
  | [.lst xs] => (boolsD xs).map fun bs => .bl (bs.all id)
  | _ => none
/-- d.get(k, x) -/
def getD3 : List D → Option D
  | [.dct kvs, k, x] => (dGet kvs k).map fun o => o.getD x
  | _ => none
def sumD : List D → Option D
  | [.lst xs] => (intsD xs).map fun is => .int is.sum
  | [.tup xs] => (intsD xs).map fun is => .int is.sum
  | _ => none
def absD : List D → Option D
  | [.int i] => some (.int (if i < 0 then -i else i))
  | _ => none
def max2D : List D → Option D
  | [.int i, .int j] => some (.int (if j > i then j else i))
  | _ => none
def min2D : List D → Option D
  | [.int i, .int j] => some (.int (if j < i then j else i))
  | _ => none
def minI : List Int → Int
  | [] => 0
  | x :: xs => xs.foldl min x
def maxI : List Int → Int
  | [] => 0
  | x :: xs => xs.foldl max x
def intD : List D → Option D
  | [.int i] => some (.int i)
  | [.bl b] => some (.int (if b then 1 else 0))
  | _ => none
def strD : List D → Option D
  | [.int i] => if i.natAbs.log2 < 1920 then some (.str (toString i : String)) else none
  | _ => none
def tupleD : List D → Option D
  | [.lst xs] => some (.tup xs)
  | [.tup xs] => some (.tup xs)
  | _ => none
def listD : List D → Option D
  | [.lst xs] => some (.lst xs)
  | [.tup xs] => some (.lst xs)
  | _ => none
/-- all data alike: numbers, truth values, texts, tuples and lists of these -/
def sortOk (xs : List D) : Bool := xs.all (·.sm) && (xs.all fun d => xs.all fun e => PySem.W.alike d.py e.py) && ((xs.all fun d => match d with | .tup (_ :: _) => true | _ => false) || (xs.all fun d => match d with | .tup _ => false | .non => false | _ => true))
def sortL (xs : List D) : List D := xs.mergeSort (PySem.W.dataLe false D.py)
def sortedD : List D → Option D
  | [.lst xs] => if sortOk xs = true then some (.lst (sortL xs)) else none
  | [.tup xs] => if sortOk xs = true then some (.lst (sortL xs)) else none
  | _ => none
/-- the built-in classes that isinstance is asked of -/
inductive Ty where
  | int | bool | str | tuple | list
  deriving DecidableEq
def isT : D → Ty → Option Bool
  | .non, _ => some false
  | .bl _, t => some (decide (t = .int ∨ t = .bool))
  | .int _, t => some (decide (t = .int))
  | .str _, t => some (decide (t = .str))
  | .tup _, t => some (decide (t = .tuple))
  | .lst _, t => some (decide (t = .list))
  | _, _ => none
/-- the turns of a range -/
def rangeD (lo hi : Int) : Option (List D) := if hi - lo ≤ 16777216 ∧ -(2 ^ 62) ≤ lo ∧ lo < 2 ^ 62 ∧ -(2 ^ 62) ≤ hi ∧ hi < 2 ^ 62 then some ((List.range (hi - lo).toNat).map fun k => .int (lo + (k : Nat))) else none
/-- list(range(..)), tuple(range(..)) -/
def rlD : List D → Option D
  | [.int j] => (rangeD 0 j).map .lst
  | [.int i, .int j] => (rangeD i j).map .lst
  | _ => none
def rtD : List D → Option D
  | [.int j] => (rangeD 0 j).map .tup
  | [.int i, .int j] => (rangeD i j).map .tup
  | _ => none
def enumD : Nat → List D → List D
  | _, [] => []
  | k, d :: ds => .tup [.int k, d] :: enumD (k + 1) ds
def zipD : List D → List D → List D
  | d :: ds, e :: es => .tup [d, e] :: zipD ds es
  | _, _ => []

/-! ### expressions -/
abbrev Ex := Rho → Bx → Option (D × Bx)
abbrev Tx := Rho → Bx → Option (Bool × Bx)
abbrev As := Rho → Bx → Option (List D × Bx)
def eVar (i : Nat) : Ex := fun ρ b => match ρ[i]? with
  | some (.frz d) => some (d, b)
  | _ => none
/-- a name that is only looked at -/
def eBor (i : Nat) : Ex := fun ρ b => match ρ[i]? with
  | some (.frz d) => some (d, b)
  | some (.own d) => some (d, b)
  | _ => none
def eCon (d : D) : Ex := fun _ b => some (d, b)
def eUn (g : D → Option D) (f : Ex) : Ex := fun ρ b => match f ρ b with
  | some (d, b1) => match g d with
    | some r => some (r, b1)
    | none => none
  | none => none
def eBin (g : D → D → Option D) (f f' : Ex) : Ex := fun ρ b => match f ρ b with
  | some (d, b1) => match f' ρ b1 with
    | some (e, b2) => match g d e with
      | some r => some (r, b2)
      | none => none
    | none => none
  | none => none
def aNil : As := fun _ b => some ([], b)
def aCons (f : Ex) (g : As) : As := fun ρ b => match f ρ b with
  | some (d, b1) => match g ρ b1 with
    | some (ds, b2) => some (d :: ds, b2)
    | none => none
  | none => none
def eFn (g : List D → Option D) (f : As) : Ex := fun ρ b => match f ρ b with
  | some (ds, b1) => match g ds with
    | some r => some (r, b1)
    | none => none
  | none => none
def eTup (f : As) : Ex := eFn (fun ds => some (.tup ds)) f
def eLst (f : As) : Ex := eFn (fun ds => some (.lst ds)) f
def eIf (t : Tx) (f g : Ex) : Ex := fun ρ b => match t ρ b with
  | some (true, b1) => f ρ b1
  | some (false, b1) => g ρ b1
  | none => none
def tOf (f : Ex) : Tx := fun ρ b => match f ρ b with
  | some (d, b1) => match truthD d with
    | some k => some (k, b1)
    | none => none
  | none => none
/-- a test whose value is a bool -/
def tBl (f : Ex) : Tx := fun ρ b => match f ρ b with
  | some (.bl k, b1) => some (k, b1)
  | _ => none
def tNot (f : Tx) : Tx := fun ρ b => match f ρ b with
  | some (k, b1) => some (!k, b1)
  | none => none
def tAnd (f g : Tx) : Tx := fun ρ b => match f ρ b with
  | some (true, b1) => g ρ b1
  | some (false, b1) => some (false, b1)
  | none => none
def tOr (f g : Tx) : Tx := fun ρ b => match f ρ b with
  | some (true, b1) => some (true, b1)
  | some (false, b1) => g ρ b1
  | none => none
/-- and, or, not as values, by truth -/
def eAnd (f g : Ex) : Ex := fun ρ b => match f ρ b with
  | some (d, b1) => match truthD d with
    | some true => g ρ b1
    | some false => some (d, b1)
    | none => none
  | none => none
def eOr (f g : Ex) : Ex := fun ρ b => match f ρ b with
  | some (d, b1) => match truthD d with
    | some true => some (d, b1)
    | some false => g ρ b1
    | none => none
  | none => none
def eNot (f : Ex) : Ex := eUn (fun d => (truthD d).map fun k => .bl (!k)) f
/-- a < b < c -/
def eChain (g g' : D → D → Option D) (f f' f'' : Ex) : Ex := fun ρ b => match f ρ b with
  | some (d, b1) => match f' ρ b1 with
    | some (e, b2) => match g d e with
      | some (.bl true) => match f'' ρ b2 with
        | some (c, b3) => match g' e c with
          | some r => some (r, b3)
          | none => none
        | none => none
      | some (.bl false) => some (.bl false, b2)
      | _ => none
    | none => none
  | none => none
/-- a[lo:hi] -/
def eOpt : Option Ex → Rho → Bx → Option (Option Int × Bx)
  | none, _, b => some (none, b)
  | some f, ρ, b => match f ρ b with
    | some (.int i, b1) => some (some i, b1)
    | _ => none
def eSlice (f : Ex) (lo hi : Option Ex) : Ex := fun ρ b => match f ρ b with
  | some (d, b1) => match eOpt lo ρ b1 with
    | some (l, b2) => match eOpt hi ρ b2 with
      | some (h, b3) => match sliceD d l h with
        | some r => some (r, b3)
        | none => none
      | none => none
    | none => none
  | none => none
/-- a call of a def of the text -/
abbrev Fn := List D → Bx → Option (D × Bx)
def eCall (F : Fn) (f : As) : Ex := fun ρ b => match f ρ b with
  | some (ds, b1) => F ds b1
  | none => none
/-- .. with things of one's own among the arguments -/
def eCallO (F : Fn) (f : As) : Ex := fun ρ b => match f ρ b with
  | some (ds, b1) => match F ds b1 with
    | some (d, b2) => if d.flat = true then some (d, b2) else none
    | none => none
  | none => none

/-! ### what is walked -/
abbrev It := Rho → Bx → Option (List D × Bx)
def itemsD : D → Option (List D)
  | .lst xs => some xs
  | .tup xs => some xs
  | _ => none
def iSeq (f : Ex) : It := fun ρ b => match f ρ b with
  | some (d, b1) => match itemsD d with
    | some xs => some (xs, b1)
    | none => none
  | none => none
def iStr (f : Ex) : It := fun ρ b => match f ρ b with
  | some (.str z, b1) => if z.length ≤ sizeLine then some (z.cps.toList.map fun c => .str ⟨#[c]⟩, b1) else none
  | _ => none
def iRange (f : As) : It := fun ρ b => match f ρ b with
  | some ([.int j], b1) => match rangeD 0 j with
    | some xs => some (xs, b1)
    | none => none
  | some ([.int i, .int j], b1) => match rangeD i j with
    | some xs => some (xs, b1)
    | none => none
  | _ => none
def iEnum (f : Ex) : It := fun ρ b => match f ρ b with
  | some (d, b1) => match itemsD d with
    | some xs => some (enumD 0 xs, b1)
    | none => none
  | none => none
def zipDD : D → D → Option (List D)
  | .lst xs, .lst ys => some (zipD xs ys)
  | .tup xs, .tup ys => some (zipD xs ys)
  | _, _ => none
def iZip (f g : Ex) : It := fun ρ b => match f ρ b with
  | some (d, b1) => match g ρ b1 with
    | some (e, b2) => match zipDD d e with
      | some zs => some (zs, b2)
      | none => none
    | none => none
  | none => none
/-- targets -/
abbrev Tg := D → Rho → Option Rho
def gNm (i : Nat) : Tg := fun d ρ => some (ρ.set i (.frz d))
def gNone : List D → Rho → Option Rho
  | [], ρ => some ρ
  | _ :: _, _ => none
def gMore (g : Tg) (h : List D → Rho → Option Rho) : List D → Rho → Option Rho
  | d :: ds, ρ => match g d ρ with
    | some ρ1 => h ds ρ1
    | none => none
  | [], _ => none
def gTp (h : List D → Rho → Option Rho) : Tg := fun d ρ => match d with
  | .tup ds => h ds ρ
  | _ => none

/-! ### comprehensions -/
def wipeR (ρ : Rho) : List Nat → Rho
  | [] => ρ
  | v :: vs => (wipeR ρ vs).set v .emp
def lcGo (g : Tg) (t : Tx) (f : Ex) (ρ : Rho) : List D → Bx → Option (List D × Bx)
  | [], b => some ([], b)
  | d :: ds, b => match g d ρ with
    | some ρ1 => match t ρ1 b with
      | some (true, b1) => match f ρ1 b1 with
        | some (r, b2) => match lcGo g t f ρ ds b2 with
          | some (rs, b3) => some (r :: rs, b3)
          | none => none
        | none => none
      | some (false, b1) => lcGo g t f ρ ds b1
      | none => none
    | none => none
def eLc (it : It) (g : Tg) (t : Tx) (f : Ex) (vs : List Nat) : Ex := fun ρ b => match it ρ b with
  | some (ds, b1) => match lcGo g t f (wipeR ρ vs) ds b1 with
    | some (rs, b2) => some (.lst rs, b2)
    | none => none
  | none => none
def tYes' : Tx := fun _ b => some (true, b)

/-! ### statements -/
inductive Fl where
  | nx | bk | ct | rt (d : D)
abbrev SS := Rho → Bx → Option (Fl × Rho × Bx)
def sNx : SS := fun ρ b => some (.nx, ρ, b)
def sBk : SS := fun ρ b => some (.bk, ρ, b)
def sCt : SS := fun ρ b => some (.ct, ρ, b)
def sSeq (s t : SS) : SS := fun ρ b => match s ρ b with
  | some (.nx, ρ1, b1) => t ρ1 b1
  | r => r
def sRet (f : Ex) : SS := fun ρ b => match f ρ b with
  | some (d, b1) => some (.rt d, ρ, b1)
  | none => none
def sIf (t : Tx) (s s' : SS) : SS := fun ρ b => match t ρ b with
  | some (true, b1) => s ρ b1
  | some (false, b1) => s' ρ b1
  | none => none
/-- name = e -/
def sSet (i : Nat) (f : Ex) : SS := fun ρ b => match f ρ b with
  | some (d, b1) => some (.nx, ρ.set i (.frz d), b1)
  | none => none
/-- name = a new list or dict, to be changed -/
def sNew (i : Nat) (f : Ex) : SS := fun ρ b => match f ρ b with
  | some (d, b1) => some (.nx, ρ.set i (.own d), b1)
  | none => none
/-- target = e -/
def sAsg (g : Tg) (f : Ex) : SS := fun ρ b => match f ρ b with
  | some (d, b1) => match g d ρ with
    | some ρ1 => some (.nx, ρ1, b1)
    | none => none
  | none => none
/-- a thing of one's own is left to stay as it is -/
def sFz (i : Nat) : SS := fun ρ b => match ρ[i]? with
  | some (.own d) => some (.nx, ρ.set i (.frz d), b)
  | _ => none
def sExpr (f : Ex) : SS := fun ρ b => match f ρ b with
  | some (_, b1) => some (.nx, ρ, b1)
  | none => none
/-- xs.append(e) -/
def sApp (i : Nat) (f : Ex) : SS := fun ρ b => match ρ[i]? with
  | some (.own (.lst xs)) => match f ρ b with
    | some (d, b1) => if xs.length < sizeLine then some (.nx, ρ.set i (.own (.lst (xs ++ [d]))), b1) else none
    | none => none
  | _ => none
def sExt (i : Nat) (f : Ex) : SS := fun ρ b => match ρ[i]? with
  | some (.own (.lst xs)) => match f ρ b with
    | some (.lst ys, b1) => if xs.length + ys.length ≤ sizeLine then some (.nx, ρ.set i (.own (.lst (xs ++ ys))), b1) else none
    | _ => none
  | _ => none
def forGo (g : Tg) (s : SS) : List D → SS
  | [], ρ, b => some (.nx, ρ, b)
  | d :: ds, ρ, b => match g d ρ with
    | some ρ1 => match s ρ1 b with
      | some (.nx, ρ2, b2) => forGo g s ds ρ2 b2
      | some (.ct, ρ2, b2) => forGo g s ds ρ2 b2
      | some (.bk, ρ2, b2) => some (.nx, ρ2, b2)
      | some (.rt r, ρ2, b2) => some (.rt r, ρ2, b2)
      | none => none
    | none => none
def sFor (it : It) (g : Tg) (s : SS) : SS := fun ρ b => match it ρ b with
  | some (ds, b1) => forGo g s ds ρ b1
  | none => none
def whGo (t : Tx) (s : SS) : Nat → SS
  | 0, _, _ => none
  | n + 1, ρ, b => match t ρ b with
    | some (false, b1) => some (.nx, ρ, b1)
    | some (true, b1) => match s ρ b1 with
      | some (.nx, ρ2, b2) => whGo t s n ρ2 b2
      | some (.ct, ρ2, b2) => whGo t s n ρ2 b2
      | some (.bk, ρ2, b2) => some (.nx, ρ2, b2)
      | some (.rt r, ρ2, b2) => some (.rt r, ρ2, b2)
      | none => none
    | none => none
/-- a while, of at most so many turns -/
def sWh (t : Tx) (s : SS) : SS := whGo t s 100000
/-- a def's body at its arguments: n names -/
def runF (n : Nat) (s : SS) : Fn := fun ds b => match s (ds.map Sl.frz ++ List.replicate (n - ds.length) .emp) b with
  | some (.rt d, _, b1) => some (d, b1)
  | some (.nx, _, b1) => some (.non, b1)
  | _ => none
end Sv

set_option maxHeartbeats 4000000
/-! SvD: dicts: what the library does, and the data. -/
namespace Sv
open PySem L2
open PyProof.Rows (IsTup)

section
variable {m : Pm} {bo : Bo} {F : Addr → Prop} {H : Hp}
theorem keyD_inj {a b : Key} (h : keyD a = keyD b) : a = b := by
  cases a <;> cases b <;> simp_all [keyD]
theorem keyS_of {k : D} (h : keyS k = true) : ∃ k', k = keyD k' := by
  cases k with
  | int i => exact ⟨.inl i, rfl⟩
  | str x => exact ⟨.inr x, rfl⟩
  | _ => cases h
/-! ### rows with plain keys -/
theorem RpA.noT : ∀ {kvs : List (D × D)} {ws : List (Key × V)}, RpA m bo F H kvs ws → isT0 kvs = false
  | [], _, _ => rfl
  | (k, d) :: ds, ws, h => by
    simp only [RpA] at h
    obtain ⟨k', v, r, _, ek, _⟩ := h
    have : ¬ ((k, d) = t0) := fun z => by
      have := congrArg Prod.fst z
      rw [ek] at this
      cases k' <;> cases this
    exact decide_eq_false this
theorem RpA.lk : ∀ {kvs : List (D × D)} {ws : List (Key × V)}, RpA m bo F H kvs ws → ∀ k : Key, (lkD kvs (keyD k) = none ∧ valV ws k = none) ∨ ∃ d v, lkD kvs (keyD k) = some d ∧ valV ws k = some v ∧ Rp m bo F H d v
  | [], ws, h, k => by
    simp only [RpA] at h; subst h
    exact .inl ⟨rfl, rfl⟩
  | (x, d) :: ds, ws, h, k => by
    simp only [RpA] at h
    obtain ⟨k', v, r, rfl, rfl, h1, h2⟩ := h
    by_cases e : k' = k
    · subst e
      refine .inr ⟨d, v, ?_, valV_pos rfl, h1⟩
      simp [lkD, List.find?_cons]
    · have e2 : ¬ keyD k' = keyD k := fun z => e (keyD_inj z)
      have l1 : lkD ((keyD k', d) :: ds) (keyD k) = lkD ds (keyD k) := by simp [lkD, List.find?_cons, e2]
      rw [l1, valV_neg e]
      exact RpA.lk h2 k
theorem RpA.len : ∀ {kvs : List (D × D)} {ws : List (Key × V)}, RpA m bo F H kvs ws → ws.length = kvs.length
  | [], ws, h => by simp only [RpA] at h; subst h; rfl
  | (x, d) :: ds, ws, h => by
    simp only [RpA] at h
    obtain ⟨k', v, r, rfl, rfl, h1, h2⟩ := h
    simp [RpA.len h2]
theorem RpA.app : ∀ {kvs : List (D × D)} {ws : List (Key × V)} {k : Key} {d : D} {v : V}, RpA m bo F H kvs ws → Rp m bo F H d v → RpA m bo F H (kvs ++ [(keyD k, d)]) (ws ++ [(k, v)])
  | [], ws, k, d, v, h, hd => by
    simp only [RpA] at h; subst h
    simp only [List.nil_append, RpA]
    exact ⟨k, v, [], rfl, rfl, hd, rfl⟩
  | (x, e) :: ds, ws, k, d, v, h, hd => by
    simp only [RpA] at h
    obtain ⟨k', v', r, rfl, rfl, h1, h2⟩ := h
    simp only [List.cons_append, RpA]
    exact ⟨k', v', _, rfl, rfl, h1, RpA.app h2 hd⟩
theorem RpA.repl : ∀ {kvs : List (D × D)} {ws : List (Key × V)} {k : Key} {d : D} {v : V}, RpA m bo F H kvs ws → Rp m bo F H d v → RpA m bo F H (kvs.map fun kv => if kv.1 = keyD k then (kv.1, d) else kv) (ws.map fun kv => if kv.1 = k then (kv.1, v) else kv)
  | [], ws, k, d, v, h, hd => by
    simp only [RpA] at h; subst h
    simp [RpA]
  | (x, e) :: ds, ws, k, d, v, h, hd => by
    simp only [RpA] at h
    obtain ⟨k', v', r, rfl, rfl, h1, h2⟩ := h
    by_cases z : k' = k
    · subst z
      simp only [List.map_cons, if_true, RpA]
      exact ⟨k', v, _, rfl, rfl, hd, RpA.repl h2 hd⟩
    · have z2 : ¬ keyD k' = keyD k := fun y => z (keyD_inj y)
      simp only [List.map_cons, z, z2, if_false, RpA]
      exact ⟨k', v', _, rfl, rfl, h1, RpA.repl h2 hd⟩
theorem putK_eq (ws : List (Key × V)) (k : Key) (v : V) : putK ws k v = if (valV ws k).isSome then ws.map (fun kv => if kv.1 = k then (kv.1, v) else kv) else ws ++ [(k, v)] := by
  unfold putK
  rw [valV_any]
theorem RpA.put {kvs : List (D × D)} {ws : List (Key × V)} {k : Key} {d : D} {v : V} (h : RpA m bo F H kvs ws) (hd : Rp m bo F H d v) : RpA m bo F H (ptD kvs (keyD k) d) (putK ws k v) := by
  rw [putK_eq]
  unfold ptD
  rcases h.lk k with ⟨e1, e2⟩ | ⟨d', v', e1, e2, _⟩
  · rw [e1, e2]; exact h.app hd
  · rw [e1, e2]; exact h.repl hd
/-! ### rows with tuples as keys -/
theorem RpB.cut {kvs : List (D × D)} {es : List (NestedKey × Addr × Value)} (h : RpB m bo F H kvs es) : isT0 kvs = true ∧ RpC m bo F H kvs.tail es ∧ kvs = t0 :: kvs.tail := by
  cases kvs with
  | nil => simp [RpB] at h
  | cons kv ds =>
    obtain ⟨k, d⟩ := kv
    simp only [RpB] at h
    obtain ⟨rfl, rfl, h⟩ := h
    exact ⟨decide_eq_true (p := ((D.tok 0, D.non) = t0)) rfl, h, rfl⟩
theorem RpC.lk : ∀ {rows : List (D × D)} {es : List (NestedKey × Addr × Value)}, RpC m bo F H rows es → ∀ {k : D} {n : NestedKey}, k.kok = true → k.nk = some n → (lkD rows k = none ∧ atKey es n = none) ∨ ∃ d a u v, lkD rows k = some d ∧ atKey es n = some (a, u) ∧ RelV v u ∧ Rp m bo F H d v
  | [], es, h, k, n, hk, hn => by
    simp only [RpC] at h; subst h
    exact .inl ⟨rfl, rfl⟩
  | (x, d) :: ds, es, h, k, n, hk, hn => by
    simp only [RpC] at h
    obtain ⟨k', a, u, r, rfl, ek, fl, dp, hka, ⟨v, rv, h1⟩, h2⟩ := h
    by_cases e : x = k
    · subst e
      rw [hn] at ek
      cases ek
      exact .inr ⟨d, a, u, v, by simp [lkD, List.find?_cons], by simp [atKey, List.find?_cons], rv, h1⟩
    · have e2 : ¬ k' = n := fun z => e (D.nk_inj x k fl hk (by rw [ek, hn, z]))
      have l1 : lkD ((x, d) :: ds) k = lkD ds k := by simp [lkD, List.find?_cons, e]
      have l2 : atKey ((k', a, u) :: r) n = atKey r n := by simp [atKey, List.find?_cons, e2]
      rw [l1, l2]
      exact RpC.lk h2 hk hn
theorem RpC.len : ∀ {rows : List (D × D)} {es : List (NestedKey × Addr × Value)}, RpC m bo F H rows es → es.length = rows.length
  | [], es, h => by simp only [RpC] at h; subst h; rfl
  | (x, d) :: ds, es, h => by
    simp only [RpC] at h
    obtain ⟨k', a, u, r, rfl, _, _, _, _, _, h2⟩ := h
    simp [RpC.len h2]
theorem RpC.app : ∀ {rows : List (D × D)} {es : List (NestedKey × Addr × Value)} {k d : D} {n : NestedKey} {a : Addr} {u : Value} {v : V}, RpC m bo F H rows es → k.nk = some n → k.kok = true → n.depth ≤ 8 → Rp m bo F H k (.ref a) → RelV v u → Rp m bo F H d v → RpC m bo F H (rows ++ [(k, d)]) (es ++ [(n, a, u)])
  | [], es, k, d, n, a, u, v, h, h1, h2, h3, h4, h5, h6 => by
    simp only [RpC] at h; subst h
    simp only [List.nil_append, RpC]
    exact ⟨n, a, u, [], rfl, h1, h2, h3, h4, ⟨v, h5, h6⟩, rfl⟩
  | (x, e) :: ds, es, k, d, n, a, u, v, h, h1, h2, h3, h4, h5, h6 => by
    simp only [RpC] at h
    obtain ⟨k', a', u', r, rfl, g1, g2, g3, g4, g5, g6⟩ := h
    simp only [List.cons_append, RpC]
    exact ⟨k', a', u', _, rfl, g1, g2, g3, g4, g5, RpC.app g6 h1 h2 h3 h4 h5 h6⟩
theorem RpC.repl : ∀ {rows : List (D × D)} {es : List (NestedKey × Addr × Value)} {k d : D} {n : NestedKey} {u : Value} {v : V}, RpC m bo F H rows es → k.nk = some n → k.kok = true → RelV v u → Rp m bo F H d v → RpC m bo F H (rows.map fun kv => if kv.1 = k then (kv.1, d) else kv) (es.map (putAt n u))
  | [], es, k, d, n, u, v, h, h1, h2, h5, h6 => by
    simp only [RpC] at h; subst h
    simp [RpC]
  | (x, e) :: ds, es, k, d, n, u, v, h, h1, h2, h5, h6 => by
    simp only [RpC] at h
    obtain ⟨k', a', u', r, rfl, g1, g2, g3, g4, g5, g6⟩ := h
    by_cases z : x = k
    · subst z
      rw [h1] at g1; cases g1
      simp only [List.map_cons, if_true, RpC, putAt]
      exact ⟨n, a', u, _, rfl, h1, g2, g3, g4, ⟨v, h5, h6⟩, RpC.repl g6 h1 h2 h5 h6⟩
    · have z2 : ¬ k' = n := fun y => z (D.nk_inj x k g2 h2 (by rw [g1, h1, y]))
      simp only [List.map_cons, z, z2, if_false, RpC, putAt]
      exact ⟨k', a', u', _, rfl, g1, g2, g3, g4, g5, RpC.repl g6 h1 h2 h5 h6⟩
theorem RpC.put {rows : List (D × D)} {es : List (NestedKey × Addr × Value)} {k d : D} {n : NestedKey} {a : Addr} {u : Value} {v : V} (h : RpC m bo F H rows es) (h1 : k.nk = some n) (h2 : k.kok = true) (h3 : n.depth ≤ 8) (h4 : Rp m bo F H k (.ref a)) (h5 : RelV v u) (h6 : Rp m bo F H d v) : RpC m bo F H (ptD rows k d) (storedH es n a u) := by
  unfold ptD storedH
  rcases h.lk h2 h1 with ⟨e1, e2⟩ | ⟨d', a', u', v', e1, e2, _⟩
  · rw [e1, e2]; exact h.app h1 h2 h3 h4 h5 h6
  · rw [e1, e2]; exact h.repl h1 h2 h5 h6
end
/-! ### in the library's words -/
section
variable {X : Cx} {pins : List (Addr × Obj)} {σ : St} {H : Hp} {s : Shared} {A : Around} {E : Value → Shared → Prop} {bo : Bo} {F : Addr → Prop} {fn : Nat → Option V}
abbrev pmD (X : Cx) (fn : Nat → Option V) : Pm := ⟨X.prog, X.w, X.K, fn⟩
mutual
theorem nested_of (I : Inv X pins σ H s) : ∀ (d : D) (v : V) (u : Value) (k : NestedKey), d.kok = true → d.nk = some k → Rp (pmD X fn) bo F H d v → RelV v u → NestedIs s.heap k u
  | .non, v, u, k, _, hn, h, r => by
    simp only [Rp] at h; subst h
    simp only [D.nk, Option.some.injEq] at hn; subst hn
    cases r; exact .none
  | .bl _, _, _, _, h, _, _, _ => by simp [D.kok] at h
  | .int i, v, u, k, _, hn, h, r => by
    simp only [Rp] at h; subst h
    simp only [D.nk, Option.some.injEq] at hn; subst hn
    obtain ⟨t, rfl⟩ := r; exact .int _ _
  | .str x, v, u, k, _, hn, h, r => by
    simp only [Rp] at h; subst h
    simp only [D.nk, Option.some.injEq] at hn; subst hn
    obtain ⟨t, rfl⟩ := r; exact .text _ _
  | .tup xs, v, u, k, hk, hn, h, r => by
    simp only [Rp] at h
    obtain ⟨a, vs, rfl, hs, hz, hr⟩ := h
    simp only [D.kok] at hk
    obtain ⟨ks, e, _⟩ := D.kokL_nk xs hk
    simp only [D.nk, e, Option.map_some, Option.some.injEq] at hn
    subst hn
    obtain ⟨its, rv, ⟨o, ho, hc, n, hd⟩, _⟩ := I.tuple hs
    cases r
    exact .tup ho hc hd (nestedL_of I xs vs its ks hk e hr rv)
  | .lst _, _, _, _, h, _, _, _ => by simp [D.kok] at h
  | .dct _, _, _, _, h, _, _, _ => by simp [D.kok] at h
  | .tok _, _, _, _, h, _, _, _ => by simp [D.kok] at h
theorem nestedL_of (I : Inv X pins σ H s) : ∀ (ds : List D) (vs : List V) (us : List Value) (ks : List NestedKey), D.kokL ds = true → D.nkL ds = some ks → RpL (pmD X fn) bo F H ds vs → Vals vs us → NestedAll s.heap ks us
  | [], vs, us, ks, _, hn, h, r => by
    simp only [RpL] at h; subst h
    simp only [D.nkL, Option.some.injEq] at hn; subst hn
    cases r; exact .nil
  | d :: ds, vs, us, ks, hk, hn, h, r => by
    simp only [RpL] at h
    obtain ⟨v, t, rfl, h1, h2⟩ := h
    rw [D.kokL, Bool.and_eq_true] at hk
    obtain ⟨k, e, _⟩ := D.kok_nk d hk.1
    obtain ⟨ls, e2, _⟩ := D.kokL_nk ds hk.2
    simp only [D.nkL, e, e2, Option.some.injEq] at hn
    subst hn
    cases r with
    | cons r1 r2 => exact .cons (nested_of I d v _ k hk.1 e h1 r1) (nestedL_of I ds t _ ls hk.2 e2 h2 r2)
end
theorem keyT_of {k : D} (h : keyT k = true) : ∃ n, k.kok = true ∧ k.nk = some n ∧ n.depth ≤ 8 := by
  cases k with
  | tup xs =>
    simp only [keyT, Bool.and_eq_true, decide_eq_true_iff] at h
    have hk : (D.tup xs).kok = true := by simp only [D.kok]; exact h.1
    obtain ⟨n, e, hd⟩ := D.kok_nk (.tup xs) hk
    exact ⟨n, hk, e, by rw [hd, D.dep]; omega⟩
  | _ => cases h
theorem keyT_ref {m : Pm} {k : D} {y : V} (h : keyT k = true) (hy : RpO m bo F H k y) : Rp m bo F H k y ∧ ∃ b, y = .ref b := by
  cases k with
  | tup xs =>
    rcases hy with hy | ⟨a, rfl, _, _, ow⟩
    · refine ⟨hy, ?_⟩
      simp only [Rp] at hy
      obtain ⟨a, _, rfl, _⟩ := hy
      exact ⟨a, rfl⟩
    · exact (show False from ow).elim
  | _ => cases h
theorem RpC.keys (I : Inv X pins σ H s) : ∀ {rows : List (D × D)} {es : List (NestedKey × Addr × Value)}, RpC (pmD X fn) bo F H rows es → ∀ x ∈ es, (nestedKind X.prog X.w).is s.heap x.1 x.2.1
  | [], es, h => by
    simp only [RpC] at h; subst h
    simp
  | (y, d) :: ds, es, h => by
    simp only [RpC] at h
    obtain ⟨k', a, u, r, rfl, ek, fl, dp, hk, _, h2⟩ := h
    intro x hx
    rcases List.mem_cons.mp hx with e | e
    · subst e
      exact ⟨nested_of I y _ _ k' fl ek hk rfl, dp⟩
    · exact RpC.keys I h2 x e
/-- the dict at a: of plain keys, of tuples -/
inductive DAt (m : Pm) (bo : Bo) (F : Addr → Prop) (H : Hp) (kvs : List (D × D)) (a : Addr) : Prop
  | k {ws : List (Key × V)} : H a = some (.dK ws) → RpA m bo F H kvs ws → DAt m bo F H kvs a
  | t {es : List (NestedKey × Addr × Value)} : H a = some (DicO m a es) → RpB m bo F H kvs es → DAt m bo F H kvs a
theorem RpO.dct {m : Pm} {kvs : List (D × D)} {v : V} (h : RpO m bo F H (.dct kvs) v) : ∃ a, v = .ref a ∧ DAt m bo F H kvs a := by
  rcases h with h | ⟨a, rfl, _, _, h⟩
  · simp only [Rp] at h
    obtain ⟨a, rfl, _, ⟨ws, h1, h2⟩ | ⟨es, h1, h2⟩⟩ := h
    · exact ⟨a, rfl, .k h1 h2⟩
    · exact ⟨a, rfl, .t h1 h2⟩
  · rcases h with ⟨ws, h1, h2⟩ | ⟨es, h1, h2⟩
    · exact ⟨a, rfl, .k h1 h2⟩
    · exact ⟨a, rfl, .t h1 h2⟩
theorem dic_of {a : Addr} {es : List (NestedKey × Addr × Value)} {rows : List (D × D)} (I : Inv X pins σ H s) (e : H a = some (DicO (pmD X fn) a es)) (r : RpC (pmD X fn) bo F H rows es) :
    es.length ≤ sizeLine ∧ (a == sysModules) = false ∧ s.heap.DictOfH (nestedKind X.prog X.w) a es := by
  obtain ⟨⟨o, arr, ep, h1, h2, h3, h4, h5, h6, h7⟩, _, _⟩ : ObjOk X.prog X.w H s.heap a (DicO (pmD X fn) a es) := I.hok a _ e
  exact ⟨h6, h7, o, arr, ep, h1, h2, h3, h4, r.keys I, h5⟩
theorem dic_ok {P : Program} {w : World} {a : Addr} {h : Heap} {es : List (NestedKey × Addr × Value)} {H : Hp} {K : PySem.W.Frag} (z : es.length ≤ sizeLine) (hd : (a == sysModules) = false) (dd : h.DictOfH (nestedKind P w) a es) : ObjOk P w H h a (DicO ⟨P, w, K, fn⟩ a es) := by
  obtain ⟨o, arr, ep, h1, h2, h3, h4, _, h5⟩ := dd
  exact ⟨⟨o, arr, ep, h1, h2, h3, h4, h5, z, hd⟩, ⟨o, h1⟩, fun h1' h2' ⟨o, arr, ep, g1, g2, g3, g4, g5, g6, g7⟩ st => ⟨o, arr, ep, st o g1, g2, g3, g4, g5, g6, g7⟩⟩
theorem DAt.type {kvs : List (D × D)} {a : Addr} (I : Inv X pins σ H s) (d : DAt (pmD X fn) bo F H kvs a) : s.TypeIs (.ref a) "dict" ∧ (∀ b, Value.ref a = .ref b → ∃ ob, s.heap.get? b = some ob ∧ ob.dict = none) := by
  rcases d with ⟨e, r⟩ | ⟨e, r⟩
  · obtain ⟨_, hd, vs, _, dd⟩ := dk_of I.hok e
    refine ⟨dd.typeIs, fun b q => ?_⟩
    cases q
    obtain ⟨ob, _, _, h1, h2, _⟩ := dd
    exact ⟨ob, h1, h2.2.1⟩
  · obtain ⟨_, hd, dd⟩ := dic_of I e r.cut.2.1
    refine ⟨dd.typeIs, fun b q => ?_⟩
    cases q
    obtain ⟨ob, _, _, h1, h2, _⟩ := dd
    exact ⟨ob, h1, h2.2.1⟩
theorem rowsD_k {m : Pm} {kvs : List (D × D)} {ws : List (Key × V)} (r : RpA m bo F H kvs ws) : rowsD kvs = kvs := by unfold rowsD; rw [r.noT]; rfl
theorem rowsD_t {m : Pm} {kvs : List (D × D)} {es : List (NestedKey × Addr × Value)} (r : RpB m bo F H kvs es) : rowsD kvs = kvs.tail := by unfold rowsD; rw [r.cut.1]; rfl
theorem keyS_V {m : Pm} {k : Key} {y : V} (hy : RpO m bo F H (keyD k) y) : y = kV k := by
  cases k with
  | inl i =>
    rcases hy with hy | ⟨a, _, _, _, ow⟩
    · simpa [Rp, keyD, kV] using hy
    · exact (show False from ow).elim
  | inr i =>
    rcases hy with hy | ⟨a, _, _, _, ow⟩
    · simpa [Rp, keyD, kV] using hy
    · exact (show False from ow).elim
theorem dGet_k {kvs : List (D × D)} {k : D} (h : isT0 kvs = false) : dGet kvs k = if keyS k = true then some (lkD kvs k) else none := by
  unfold dGet keyOk rowsD; rw [h]; rfl
theorem dGet_t {kvs : List (D × D)} {k : D} (h : isT0 kvs = true) : dGet kvs k = if keyT k = true then some (lkD kvs.tail k) else none := by
  unfold dGet keyOk rowsD; rw [h]; rfl
/-- d[y] .. there -/
theorem dd_get {kvs : List (D × D)} {a : Addr} {k d : D} {y : V} {u : Value} {Q : Value → Shared → Prop} (hu : A.units + 10 < cLine) (I : Inv X pins σ H s) (g : DAt (pmD X fn) bo F H kvs a) (hy : RpO (pmD X fn) bo F H k y) (ry : RelV y u) (hk : dGet kvs k = some (some d))
    (h : ∀ v w' s', Inv X pins σ H s' → RelV v w' → Rp (pmD X fn) bo F H d v → Q w' s') : wpAny (model X.prog X.w) A (getItem (.ref a) u) Q E s := by
  rcases g with ⟨e, r⟩ | ⟨e, r⟩
  · rename_i ws
    rw [dGet_k r.noT] at hk
    split at hk
    · rename_i hs
      obtain ⟨k', rfl⟩ := keyS_of hs
      obtain rfl := keyS_V hy
      rcases r.lk k' with ⟨e1, e2⟩ | ⟨d', v, e1, e2, rp⟩
      · rw [e1] at hk; cases hk
      · rw [e1] at hk; cases hk
        exact d_getItem (by omega) I (by rw [← e2]; exact DGet.k e) ry fun w' s' I' rw' => h v w' s' I' rw' rp
    · cases hk
  · rename_i es
    rw [dGet_t r.cut.1] at hk
    split at hk
    · rename_i hs
      obtain ⟨n, h1, h2, h3⟩ := keyT_of hs
      obtain ⟨hy, b, rfl⟩ := keyT_ref hs hy
      cases (show u = Value.ref b from ry)
      obtain ⟨z, hd, dd⟩ := dic_of I e r.cut.2.1
      rcases r.cut.2.1.lk h1 h2 with ⟨e1, e2⟩ | ⟨d', a', u', v, e1, e2, rv, rp⟩
      · rw [e1] at hk; cases hk
      · rw [e1] at hk; cases hk
        exact wpAny_getItem_heap (knd := nestedKind X.prog X.w) (show A.in1.units + 8 < cLine from by show A.units + 1 + 8 < cLine; omega) ⟨nested_of I k _ _ n h1 h2 hy rfl, h3⟩ dd e2 (h v _ _ (I.tok _) rv rp)
    · cases hk
/-- y in d, y not in d, by one rule -/
theorem dd_in {kvs : List (D × D)} {a : Addr} {k : D} {o : Option D} {y : V} {u : Value} {Q : Value → Shared → Prop} (hu : A.units + 10 < cLine) (I : Inv X pins σ H s) (g : DAt (pmD X fn) bo F H kvs a) (hy : RpO (pmD X fn) bo F H k y) (ry : RelV y u) (hk : dGet kvs k = some o) :
    ((∀ s', Inv X pins σ H s' → Q (.bool o.isSome) s') → wpAny (model X.prog X.w) A (compareOp .In u (.ref a)) Q E s) ∧
    ((∀ s', Inv X pins σ H s' → Q (.bool (!o.isSome)) s') → wpAny (model X.prog X.w) A (compareOp .NotIn u (.ref a)) Q E s) := by
  rcases g with ⟨e, r⟩ | ⟨e, r⟩
  · rename_i ws
    rw [dGet_k r.noT] at hk
    split at hk
    · rename_i hs
      obtain ⟨k', rfl⟩ := keyS_of hs
      obtain rfl := keyS_V hy
      have eo : o.isSome = (valV ws k').isSome := by
        cases hk
        rcases r.lk k' with ⟨e1, e2⟩ | ⟨d', v, e1, e2, rp⟩ <;> rw [e1, e2] <;> rfl
      rw [eo]
      exact ⟨fun h => L2.d_in (by omega) I (DGet.k e) ry h, fun h => L2.d_notIn (by omega) I (DGet.k e) ry h⟩
    · cases hk
  · rename_i es
    rw [dGet_t r.cut.1] at hk
    split at hk
    · rename_i hs
      obtain ⟨n, h1, h2, h3⟩ := keyT_of hs
      obtain ⟨hy, b, rfl⟩ := keyT_ref hs hy
      cases (show u = Value.ref b from ry)
      obtain ⟨z, hd, dd⟩ := dic_of I e r.cut.2.1
      have eo : o.isSome = (atKey es n).isSome := by
        cases hk
        rcases r.cut.2.1.lk h1 h2 with ⟨e1, e2⟩ | ⟨d', a', u', v, e1, e2, rv, rp⟩ <;> rw [e1, e2] <;> rfl
      rw [eo]
      have room : (nestedKind X.prog X.w).room A.in1 := show A.units + 1 + 8 < cLine by omega
      exact ⟨fun h => wpAny_in_heap (knd := nestedKind X.prog X.w) room ⟨nested_of I k _ _ n h1 h2 hy rfl, h3⟩ hd dd (h _ (I.tok _)), fun h => PyProof.Rows.wpAny_notIn_heap (knd := nestedKind X.prog X.w) room ⟨nested_of I k _ _ n h1 h2 hy rfl, h3⟩ hd dd (h _ (I.tok _))⟩
    · cases hk
theorem dPut_k {kvs : List (D × D)} {k d : D} (h : isT0 kvs = false) : dPut kvs k d = if keyS k = true ∧ kvs.length < sizeLine then some (ptD kvs k d) else none := by
  unfold dPut keyOk rowsD; rw [h]; rfl
theorem dPut_t {kvs : List (D × D)} {k d : D} (h : isT0 kvs = true) : dPut kvs k d = if keyT k = true ∧ kvs.tail.length < sizeLine then some (t0 :: ptD kvs.tail k d) else none := by
  unfold dPut keyOk rowsD; rw [h]; rfl
theorem storedH_len (es : List (NestedKey × Addr × Value)) (k : NestedKey) (a : Addr) (u : Value) : (storedH es k a u).length ≤ es.length + 1 := by
  unfold storedH
  split
  · simp
  · simp
/-- d[y] = v -/
theorem dd_put {kvs kvs' : List (D × D)} {a : Addr} {k d : D} {y v : V} {u r : Value} {Q : Unit → Shared → Prop} (hu : A.units + 10 < cLine) (I : Inv X pins σ H s) (g : DAt (pmD X fn) bo F H kvs a) (hy : RpO (pmD X fn) bo F H k y) (ry : RelV y u) (hv : Rp (pmD X fn) bo F H d v) (rv : RelV v r) (hk : dPut kvs k d = some kvs')
    (h : ∀ ob s', (FK F H F (L2.upd H a ob) → Own (pmD X fn) bo F (L2.upd H a ob) (.dct kvs') a) → Inv X pins σ (L2.upd H a ob) s' → Q () s') : wpAny (model X.prog X.w) A (setItem (.ref a) u r) Q E s := by
  rcases g with ⟨e, ra⟩ | ⟨e, rb⟩
  · rename_i ws
    rw [dPut_k ra.noT] at hk
    split at hk
    · rename_i hs
      obtain ⟨k', rfl⟩ := keyS_of hs.1
      obtain rfl := keyS_V hy
      cases hk
      refine d_setItem (by omega) I (DPut.k e (by rw [ra.len]; exact hs.2)) ry rv fun s' I' => h (.dK (putK ws k' v)) s' (fun kk => .inl ⟨_, upd_same, (ra.put hv).fk kk⟩) I'
    · cases hk
  · rename_i es
    rw [dPut_t rb.cut.1] at hk
    split at hk
    · rename_i hs
      obtain ⟨n, h1, h2, h3⟩ := keyT_of hs.1
      obtain ⟨hy, b, rfl⟩ := keyT_ref hs.1 hy
      cases (show u = Value.ref b from ry)
      cases hk
      obtain ⟨z, hd, dd⟩ := dic_of I e rb.cut.2.1
      have hl : (storedH es n b r).length ≤ sizeLine := by
        have := storedH_len es n b r
        have := rb.cut.2.1.len
        omega
      refine wpAny_setItem_heap (knd := nestedKind X.prog X.w) (hsz := z) (show A.units + 1 + 8 < cLine by omega) ⟨nested_of I k _ _ n h1 h2 hy rfl, h3⟩ dd fun h' dd' hs' => ?_
      obtain ⟨q, es', ep, hq, _⟩ := id dd'
      refine h (DicO (pmD X fn) a (storedH es n b r)) _ (fun kk => .inr ⟨_, upd_same, ?_⟩) (d_write I (by rw [e]; exact True.intro) hs' ⟨q, hq⟩ (dic_ok hl hd dd'))
      simp only [RpB, t0]
      exact ⟨trivial, trivial, (rb.cut.2.1.put h2 h1 h3 hy rv hv).fk kk⟩
    · cases hk
/-- the same, below the subscript -/
theorem dd_dset {kvs kvs' : List (D × D)} {a : Addr} {k d : D} {y v : V} {u r : Value} {Q : Unit → Shared → Prop} (hu : A.units + 10 < cLine) (I : Inv X pins σ H s) (g : DAt (pmD X fn) bo F H kvs a) (hy : RpO (pmD X fn) bo F H k y) (ry : RelV y u) (hv : Rp (pmD X fn) bo F H d v) (rv : RelV v r) (hk : dPut kvs k d = some kvs')
    (h : ∀ ob s', (FK F H F (L2.upd H a ob) → Own (pmD X fn) bo F (L2.upd H a ob) (.dct kvs') a) → Inv X pins σ (L2.upd H a ob) s' → Q () s') : wpAny (model X.prog X.w) A (dictSet a u r) Q E s := by
  rcases g with ⟨e, ra⟩ | ⟨e, rb⟩
  · rename_i ws
    rw [dPut_k ra.noT] at hk
    split at hk
    · rename_i hs
      obtain ⟨k', rfl⟩ := keyS_of hs.1
      obtain rfl := keyS_V hy
      cases hk
      obtain ⟨z, hd, vs, rel, dd⟩ := dk_of I.hok e
      have hz : vs.length ≤ sizeLine := by rw [← rel.length]; exact z
      have hl : (putK ws k' v).length ≤ sizeLine := by have := length_putK ws k' v; have := ra.len; omega
      refine wpAny_dictSet_pairs (hsz := hz) (kV_is ry) dd fun h' dd' hs' => ?_
      have he : ∃ q, h'.get? a = some q := let ⟨q, _, _, hq, _⟩ := dd'; ⟨q, hq⟩
      exact h (.dK (putK ws k' v)) _ (fun kk => .inl ⟨_, upd_same, (ra.put hv).fk kk⟩) (d_write I (by rw [e]; exact True.intro) hs' he (dk_new hl hd (rel.put k' rv) dd'))
    · cases hk
  · rename_i es
    rw [dPut_t rb.cut.1] at hk
    split at hk
    · rename_i hs
      obtain ⟨n, h1, h2, h3⟩ := keyT_of hs.1
      obtain ⟨hy, b, rfl⟩ := keyT_ref hs.1 hy
      cases (show u = Value.ref b from ry)
      cases hk
      obtain ⟨z, hd, dd⟩ := dic_of I e rb.cut.2.1
      have hl : (storedH es n b r).length ≤ sizeLine := by
        have := storedH_len es n b r
        have := rb.cut.2.1.len
        omega
      refine wpAny_dictSet_heap (knd := nestedKind X.prog X.w) (hsz := z) (show A.units + 8 < cLine by omega) ⟨nested_of I k _ _ n h1 h2 hy rfl, h3⟩ dd fun h' dd' hs' => ?_
      obtain ⟨q, es', ep, hq, _⟩ := id dd'
      refine h (DicO (pmD X fn) a (storedH es n b r)) _ (fun kk => .inr ⟨_, upd_same, ?_⟩) (d_write I (by rw [e]; exact True.intro) hs' ⟨q, hq⟩ (dic_ok hl hd dd'))
      simp only [RpB, t0]
      exact ⟨trivial, trivial, (rb.cut.2.1.put h2 h1 h3 hy rv hv).fk kk⟩
    · cases hk
/-- d.get(y, x) -/
theorem dd_get2 {kvs : List (D × D)} {a : Addr} {k x : D} {o : Option D} {y z : V} {u r : Value} {Q : Value → Shared → Prop} (hu : A.units + 10 < cLine) (I : Inv X pins σ H s) (g : DAt (pmD X fn) bo F H kvs a) (hy : RpO (pmD X fn) bo F H k y) (ry : RelV y u) (hx : Rp (pmD X fn) bo F H x z) (rz : RelV z r) (hk : dGet kvs k = some o)
    (h : ∀ v w' s', Inv X pins σ H s' → RelV v w' → Rp (pmD X fn) bo F H (o.getD x) v → Q w' s') : wpAny (model X.prog X.w) A (call (.builtin "dict.get") [.ref a, u, r]) Q E s := by
  rcases g with ⟨e, ra⟩ | ⟨e, rb⟩
  · rename_i ws
    rw [dGet_k ra.noT] at hk
    split at hk
    · rename_i hs
      obtain ⟨k', rfl⟩ := keyS_of hs
      obtain rfl := keyS_V hy
      cases hk
      refine d_get2 (by omega) I (DGet.k e) ry rz fun w' s' I' rw' => h _ w' s' I' rw' ?_
      rcases ra.lk k' with ⟨e1, e2⟩ | ⟨d', v', e1, e2, rp⟩
      · rw [e1, e2]; exact hx
      · rw [e1, e2]; exact rp
    · cases hk
  · rename_i es
    rw [dGet_t rb.cut.1] at hk
    split at hk
    · rename_i hs
      obtain ⟨n, h1, h2, h3⟩ := keyT_of hs
      obtain ⟨hy, b, rfl⟩ := keyT_ref hs hy
      cases (show u = Value.ref b from ry)
      cases hk
      obtain ⟨_, hd, dd⟩ := dic_of I e rb.cut.2.1
      refine call_meetsIn PySem.F.slot_dict_get dd.typeIs PySem.F.entry_dict_get (PySem.F.args_dict_get_3 _ _ _) (meetsH_dict_get_default (nestedKind X.prog X.w) a b hd r) ⟨show A.units + 1 + 8 < cLine by omega, n, es, ⟨nested_of I k _ _ n h1 h2 hy rfl, h3⟩, dd, ?_⟩
      rcases rb.cut.2.1.lk h1 h2 with ⟨e1, e2⟩ | ⟨d', a', u', v', e1, e2, rv, rp⟩
      · rw [e2]
        exact h z _ _ (I.tok _) rz (by rw [e1]; exact hx)
      · rw [e2]
        exact h v' _ _ (I.tok _) rv (by rw [e1]; exact rp)
    · cases hk
/-- len(d) -/
theorem dd_len {kvs : List (D × D)} {a : Addr} {Q : Value → Shared → Prop} (I : Inv X pins σ H s) (g : DAt (pmD X fn) bo F H kvs a) (h : ∀ t s', Inv X pins σ H s' → Q (.int (rowsD kvs).length t) s') : wpAny (model X.prog X.w) A (call (.builtin "len") [.ref a]) Q E s := by
  rcases g with ⟨e, ra⟩ | ⟨e, rb⟩
  · rw [rowsD_k ra, ← ra.len] at h
    exact L2.d_len I (.inl e) h
  · obtain ⟨z, hd, dd⟩ := dic_of I e rb.cut.2.1
    rw [rowsD_t rb, ← rb.cut.2.1.len] at h
    exact call_len_dictH hd dd (by rw [sizeLine_eq] at z; omega) (h _ _ (I.tok _))
open PySem.Spec PyProof.Rows in
theorem tail_of {prog : Program} {w : World} {A : Around} {E : Value → Shared → Prop} {s : Shared} {value slice : Expr} {o i : Value} {T id : String} {Q : Value → Shared → Prop}
    (hl : typeLookup (.type T) "__getitem__" = pure (some (.builtin id))) (hs : subscripted slice false o i = operate [o, i] (getItem o i)) (hT : s.TypeIs o T)
    (h : wpAny (model prog w) A (getItem o i) Q E s) : wpAny (model prog w) A (subscriptTail value slice o i) Q E s := by
  unfold subscriptTail
  refine wpAny_bind ?_
  rw [getitemInPython_of_ne hT.not_modules]
  refine wpAny_bind (wpAny_specialOf hT hl ?_)
  have fin : wpAny (model prog w) A (subscripted slice false o i) (fun r s₃ => wpAny (model prog w) A (letTemporaryGo value o r >>= fun _ => pure r) Q E s₃) E s := by
    rw [hs]
    exact wpAny_operating (wpAny_mono h (fun r s₃ h₃ => wpAny_bind (wpAny_letTemporaryGo (wpAny_pure h₃))) fun _ _ x => x)
  first
    | exact wpAny_pure (wpAny_bind fin)
    | exact wpAny_bind (wpAny_pure (wpAny_bind fin))
    | exact wpAny_bind fin
theorem RpO.of_o {m : Pm} {k : D} {y : V} (h : RpO m bo F H k y) : RpO m bo F H k y := h
end
end Sv

/-! Sv3: the judgements over plain data, expressions. -/
namespace Sv
open PySem L2

abbrev pm (X : Cx) (fn : Nat → Option V) : Pm := ⟨X.prog, X.w, X.K, fn⟩

/-! ### readings -/
def tEx (m : Pm) (f : Ex) : TE := fun σ H Q => ∃ H0 F0 bo ρ F b, Rel m H0 F0 bo σ ρ F H b ∧ ∃ d b', f ρ b = some (d, b') ∧
  ∀ v F' H', Grow bo F H F' H' → BoxOk bo F' H' b' → Rp m bo F' H' d v → Q v H'
def tEo (m : Pm) (f : Ex) : TE := fun σ H Q => ∃ H0 F0 bo ρ F b, Rel m H0 F0 bo σ ρ F H b ∧ ∃ d b', f ρ b = some (d, b') ∧
  ∀ v F' H', Grow bo F H F' H' → BoxOk bo F' H' b' → RpO m bo F' H' d v → Q v H'
def tEn (m : Pm) (f : Ex) : TE := fun σ H Q => ∃ H0 F0 bo ρ F b, Rel m H0 F0 bo σ ρ F H b ∧ ∃ d b', f ρ b = some (d, b') ∧
  ∀ a F' H', Grow bo F H F' H' → BoxOk bo F' H' b' → H a = none → ¬ F' a → Own m bo F' H' d a → Q (.ref a) H'
def tTx (m : Pm) (f : Tx) : TT := fun σ H Q => ∃ H0 F0 bo ρ F b, Rel m H0 F0 bo σ ρ F H b ∧ ∃ d b', f ρ b = some (d, b') ∧
  ∀ F' H', Grow bo F H F' H' → BoxOk bo F' H' b' → Q d H'
section
variable (m : Pm) (bo : Bo) (F : Addr → Prop) (H : Hp)
def RpOL : List D → List V → Prop
  | [], vs => vs = []
  | d :: ds, vs => ∃ v r, vs = v :: r ∧ RpO m bo F H d v ∧ RpOL ds r
end
theorem RpOL.grow {m : Pm} {bo : Bo} {F F' : Addr → Prop} {H H' : Hp} {b : Bx} (W : Wo bo F H b) (g : Grow bo F H F' H') : ∀ {ds : List D} {vs : List V}, RpOL m bo F H ds vs → RpOL m bo F' H' ds vs
  | [], vs, h => by simpa [RpOL] using h
  | d :: ds, vs, h => by
    simp only [RpOL] at h ⊢
    obtain ⟨v, r, e, h1, h2⟩ := h
    exact ⟨v, r, e, RpO.grow W g h1, RpOL.grow W g h2⟩
theorem RpL.o {m : Pm} {bo : Bo} {F : Addr → Prop} {H : Hp} : ∀ {ds : List D} {vs : List V}, RpL m bo F H ds vs → RpOL m bo F H ds vs
  | [], vs, h => by simpa [RpOL, RpL] using h
  | d :: ds, vs, h => by
    simp only [RpOL, RpL] at h ⊢
    obtain ⟨v, r, e, h1, h2⟩ := h
    exact ⟨v, r, e, .inl h1, RpL.o h2⟩
def tAs (m : Pm) (f : As) : TA := fun σ H Q => ∃ H0 F0 bo ρ F b, Rel m H0 F0 bo σ ρ F H b ∧ ∃ d b', f ρ b = some (d, b') ∧
  ∀ v F' H', Grow bo F H F' H' → BoxOk bo F' H' b' → RpL m bo F' H' d v → Q v H'
def tAo (m : Pm) (f : As) : TA := fun σ H Q => ∃ H0 F0 bo ρ F b, Rel m H0 F0 bo σ ρ F H b ∧ ∃ d b', f ρ b = some (d, b') ∧
  ∀ v F' H', Grow bo F H F' H' → BoxOk bo F' H' b' → RpOL m bo F' H' d v → Q v H'

/-! ### judgements -/
section
variable (fn : Nat → Option V) (X : Cx)
abbrev PEx (e : Expr) (f : Ex) : Prop := PE X e (tEx (pm X fn) f)
abbrev PEo (e : Expr) (f : Ex) : Prop := PE X e (tEo (pm X fn) f)
abbrev PEn (e : Expr) (f : Ex) : Prop := PE X e (tEn (pm X fn) f)
abbrev PTx (e : Expr) (f : Tx) : Prop := PT X e (tTx (pm X fn) f)
abbrev PWx (e : Expr) (f : Tx) : Prop := PW X e (tTx (pm X fn) f)
structure PAs (es : List Expr) (f : As) : Prop where
  pa : PA X es (tAs (pm X fn) f)
  len : ∀ ρ b ds b', f ρ b = some (ds, b') → ds.length = es.length
structure PAo (es : List Expr) (f : As) : Prop where
  pa : PA X es (tAo (pm X fn) f)
  len : ∀ ρ b ds b', f ρ b = some (ds, b') → ds.length = es.length
end

theorem PE.imp {X : Cx} {e : Expr} {t t' : TE} (h : PE X e t) (i : ∀ σ H Q, t' σ H Q → t σ H Q) : PE X e t' := ⟨fun pins s σ H Q I q => h.run pins s σ H Q I (i σ H Q q)⟩
theorem PT.imp {X : Cx} {e : Expr} {t t' : TT} (h : PT X e t) (i : ∀ σ H Q, t' σ H Q → t σ H Q) : PT X e t' := ⟨fun pins s σ H Q I q => h.run pins s σ H Q I (i σ H Q q)⟩
theorem PW.imp {X : Cx} {e : Expr} {t t' : TT} (h : PW X e t) (i : ∀ σ H Q, t' σ H Q → t σ H Q) : PW X e t' := ⟨fun wh pins s σ H Q I q => h.run wh pins s σ H Q I (i σ H Q q)⟩
theorem PA.imp {X : Cx} {e : List Expr} {t t' : TA} (h : PA X e t) (i : ∀ σ H Q, t' σ H Q → t σ H Q) : PA X e t' := ⟨fun p pins s σ H Q I q => h.run p pins s σ H Q I (i σ H Q q)⟩

section
variable {fn : Nat → Option V} {X : Cx} {e a c : Expr} {es rest : List Expr} {pos : Pos} {f g h : Ex} {t u : Tx}

theorem PEx.o (p : PEx fn X e f) : PEo fn X e f := PE.imp p fun σ H Q ⟨H0, F0, bo, ρ, F, b, R, d, b', e, q⟩ => ⟨H0, F0, bo, ρ, F, b, R, d, b', e, fun v F' H' g hb r => q v F' H' g hb (.inl r)⟩
theorem PAs.o {g : As} (p : PAs fn X es g) : PAo fn X es g := ⟨PA.imp p.pa fun σ H Q ⟨H0, F0, bo, ρ, F, b, R, d, b', e, q⟩ => ⟨H0, F0, bo, ρ, F, b, R, d, b', e, fun v F' H' g hb r => q v F' H' g hb r.o⟩, p.len⟩
/-- a new thing, left to stay as it is -/
theorem PEn.x (p : PEn fn X e f) : PEx fn X e f := PE.imp p fun σ H Q ⟨H0, F0, bo, ρ, F, b, R, d, b', e, q⟩ => ⟨H0, F0, bo, ρ, F, b, R, d, b', e, fun a F' H' g hb ha nf ow => by
  have W' : Wo bo F' H' b' := ⟨hb, g.dom⟩
  have nb : ¬ inBox bo a := inBox_new R.wo ha
  obtain ⟨k, hb', dm, r⟩ := freeze W' nb ow
  refine q _ (fun c => F' c ∨ c = a) H' ⟨g.keep, g.free, fun c h => .inl (g.sub c h), fun c h => h.elim (g.new c) fun e => .inr (by rw [e]; exact ha), dm⟩ hb' r⟩

theorem px_var {i : Nat} (p : PE X e (tVar i)) : PEx fn X e (eVar i) := PE.imp p fun σ H Q ⟨H0, F0, bo, ρ, F, b, R, d, b', e, q⟩ => by
  unfold eVar at e
  split at e
  · rename_i d' he
    cases e
    obtain ⟨v, h1, h2⟩ := R.frz i _ he
    exact ⟨v, h1, q v F H (Grow.refl R.core.dom) R.core.box h2⟩
  · cases e
theorem po_bor {i : Nat} (p : PE X e (tVar i)) : PEo fn X e (eBor i) := PE.imp p fun σ H Q ⟨H0, F0, bo, ρ, F, b, R, d, b', e, q⟩ => by
  unfold eBor at e
  split at e
  · rename_i d' he
    cases e
    obtain ⟨v, h1, h2⟩ := R.frz i _ he
    exact ⟨v, h1, q v F H (Grow.refl R.core.dom) R.core.box (.inl h2)⟩
  · rename_i d' he
    cases e
    obtain ⟨a, h1, h2, h3, _, h4⟩ := R.own i _ he
    exact ⟨_, h1, q _ F H (Grow.refl R.core.dom) R.core.box (.inr ⟨a, rfl, h3, h2, h4⟩)⟩
  · cases e
theorem px_con {v : V} {d : D} (p : PE X e (tC v)) (hv : ∀ bo F H, Rp (pm X fn) bo F H d v) : PEx fn X e (eCon d) := PE.imp p fun σ H Q ⟨H0, F0, bo, ρ, F, b, R, d', b', e, q⟩ => by
  cases e
  exact q v F H (Grow.refl R.core.dom) R.core.box (hv _ _ _)
theorem px_int {i j pos} : PEx fn X (.Constant (.int i) j pos) (eCon (.int i)) := px_con pe_int fun _ _ _ => by simp [Rp]
theorem px_bl {i j pos} : PEx fn X (.Constant (.bool i) j pos) (eCon (.bl i)) := px_con pe_bl fun _ _ _ => by simp [Rp]
theorem px_non {j pos} : PEx fn X (.Constant .none j pos) (eCon .non) := px_con pe_non fun _ _ _ => by simp [Rp]
theorem px_str {i j pos} : PEx fn X (.Constant (.str i) j pos) (eCon (.str i)) := px_con pe_str fun _ _ _ => by simp [Rp]

/-- an operation on two operands -/
def rD2 (m : Pm) (g : D → D → Option D) : R2 := fun x y H Q => ∃ bo F b, Wo bo F H b ∧ ∃ d e r, RpO m bo F H d x ∧ RpO m bo F H e y ∧ g d e = some r ∧
  ∀ v F' H', Grow bo F H F' H' → BoxOk bo F' H' b → Rp m bo F' H' r v → Q v H'
theorem two_o {m : Pm} {σ : St} {H : Hp} {Q : VK} {g : D → D → Option D} {f f' : Ex} (h : tEx m (eBin g f f') σ H Q) : tOp (rD2 m g) (tEo m f) (tEo m f') σ H Q := by
  obtain ⟨H0, F0, bo, ρ, F, b, R, r, b', e, q⟩ := h
  unfold eBin at e
  split at e
  · rename_i d b1 e1
    split at e
    · rename_i d2 b2 e2
      split at e
      · rename_i r' e3
        cases e
        refine ⟨H0, F0, bo, ρ, F, b, R, d, b1, e1, fun v1 F1 H1 g1 hb1 r1 => ?_⟩
        have R1 := R.grow g1 hb1
        refine ⟨H0, F0, bo, ρ, F1, b1, R1, d2, _, e2, fun v2 F2 H2 g2 hb2 r2 => ?_⟩
        exact ⟨bo, F2, _, ⟨hb2, g2.dom⟩, d, d2, r, RpO.grow R1.wo g2 r1, r2, e3, fun v F' H' g3 hb3 r3 => q v F' H' ((g1.trans g2).trans g3) hb3 r3⟩
      · cases e
    · cases e
  · cases e
theorem px_bin {op : Operator} {g' : D → D → Option D} (ho : OpR X (binaryOp op) (rD2 (pm X fn) g')) (ha : PEo fn X a f) (hb : PEo fn X c g) : PEx fn X (.BinOp a op c pos) (eBin g' f g) :=
  PE.imp (pe_op ho ha hb) fun _ _ _ h => two_o h
theorem px_cmp {op : CmpOp} {g' : D → D → Option D} (ho : OpR X (compareOp op) (rD2 (pm X fn) g')) (ha : PEo fn X a f) (hb : PEo fn X c g) (hm : behindInMarks op c = false) : PEx fn X (.Compare a [op] [c] pos) (eBin g' f g) :=
  PE.imp (pe_cmpR ho ha hb hm) fun _ _ _ h => two_o h
theorem two_t {m : Pm} {σ : St} {H : Hp} {Q : Bool → Hp → Prop} {g : D → D → Option D} {f f' : Ex} (h : tTx m (tBl (eBin g f f')) σ H Q) : tTest (tOp (rD2 m g) (tEo m f) (tEo m f')) σ H Q := by
  obtain ⟨H0, F0, bo, ρ, F, b, R, r, b', e, q⟩ := h
  unfold tBl at e
  split at e
  · rename_i k b1 e1
    cases e
    refine two_o ⟨H0, F0, bo, ρ, F, b, R, .bl r, b', e1, fun v F' H' g hb rv => ?_⟩
    simp only [Rp] at rv
    exact ⟨r, rv, q F' H' g hb⟩
  · cases e
theorem pt_cmp' {op : CmpOp} {g' : D → D → Option D} (ho : OpR X (compareOp op) (rD2 (pm X fn) g')) (ha : PEo fn X a f) (hb : PEo fn X c g) (hm : behindInMarks op c = false) : PTx fn X (.Compare a [op] [c] pos) (tBl (eBin g' f g)) :=
  PT.imp (pt_cmpR ho ha hb hm) fun _ _ _ h => two_t h
theorem chain_o {m : Pm} {σ : St} {H : Hp} {Q : VK} {g g' : D → D → Option D} {f f' f'' : Ex} (h : tEx m (eChain g g' f f' f'') σ H Q) : tChain (rD2 m g) (rD2 m g') (tEo m f) (tEo m f') (tEo m f'') σ H Q := by
  obtain ⟨H0, F0, bo, ρ, F, b, R, r, b', e, q⟩ := h
  unfold eChain at e
  split at e
  · rename_i d b1 e1
    split at e
    · rename_i d2 b2 e2
      refine ⟨H0, F0, bo, ρ, F, b, R, d, b1, e1, fun v1 F1 H1 g1 hb1 r1 => ?_⟩
      have R1 := R.grow g1 hb1
      refine ⟨H0, F0, bo, ρ, F1, b1, R1, d2, b2, e2, fun v2 F2 H2 g2 hb2 r2 => ?_⟩
      have R2 := R1.grow g2 hb2
      split at e
      · rename_i e3
        split at e
        · rename_i d3 b3 e4
          split at e
          · rename_i r' e5
            cases e
            refine ⟨bo, F2, b2, R2.wo, d, d2, _, RpO.grow R1.wo g2 r1, r2, e3, fun v F3 H3 g3 hb3 r3 => ?_⟩
            simp only [Rp] at r3
            refine ⟨true, r3, ?_⟩
            refine iteT ?_
            have R3 := R2.grow g3 hb3
            refine ⟨H0, F0, bo, ρ, F3, b2, R3, d3, _, e4, fun v4 F4 H4 g4 hb4 r4 => ?_⟩
            exact ⟨bo, F4, _, ⟨hb4, g4.dom⟩, d2, d3, _, RpO.grow R3.wo g4 (RpO.grow R2.wo g3 r2), r4, e5, fun v5 F5 H5 g5 hb5 r5 => q v5 F5 H5 ((((g1.trans g2).trans g3).trans g4).trans g5) hb5 r5⟩
          · cases e
        · cases e
      · rename_i e3
        cases e
        refine ⟨bo, F2, _, R2.wo, d, d2, _, RpO.grow R1.wo g2 r1, r2, e3, fun v F3 H3 g3 hb3 r3 => ?_⟩
        simp only [Rp] at r3
        refine ⟨false, r3, ?_⟩
        refine iteF ?_
        exact q _ F3 H3 ((g1.trans g2).trans g3) hb3 (by simp [Rp])
      · cases e
    · cases e
  · cases e
theorem px_chain {op op' : CmpOp} {k k' : D → D → Option D} {c' : Expr} (ho : OpR X (compareOp op) (rD2 (pm X fn) k)) (ho' : OpR X (compareOp op') (rD2 (pm X fn) k')) (ha : PEo fn X a f) (hb : PEo fn X c g) (hc : PEo fn X c' h)
    (hm : lastMarks [op, op'] [c, c'] = false := by with_unfolding_all rfl) : PEx fn X (.Compare a [op, op'] [c, c'] pos) (eChain k k' f g h) := PE.imp (pe_chain ho ho' ha hb hc hm) fun _ _ _ h => chain_o h
theorem pt_chain' {op op' : CmpOp} {k k' : D → D → Option D} {c' : Expr} (ho : OpR X (compareOp op) (rD2 (pm X fn) k)) (ho' : OpR X (compareOp op') (rD2 (pm X fn) k')) (ha : PEo fn X a f) (hb : PEo fn X c g) (hc : PEo fn X c' h)
    (hm : lastMarks [op, op'] [c, c'] = false := by with_unfolding_all rfl) : PTx fn X (.Compare a [op, op'] [c, c'] pos) (tBl (eChain k k' f g h)) := PT.imp (pt_chain ho ho' ha hb hc hm) fun σ H Q h' => by
  obtain ⟨H0, F0, bo, ρ, F, b, R, r, b', e, q⟩ := h'
  unfold tBl at e
  split at e
  · rename_i k b1 e1
    cases e
    refine chain_o ⟨H0, F0, bo, ρ, F, b, R, .bl r, b', e1, fun v F' H' g hb rv => ?_⟩
    simp only [Rp] at rv
    exact ⟨r, rv, q F' H' g hb⟩
  · cases e
/-- .. on one -/
def rD1 (m : Pm) (g : D → Option D) : V → Hp → VK → Prop := fun x H Q => ∃ bo F b, Wo bo F H b ∧ ∃ d r, RpO m bo F H d x ∧ g d = some r ∧
  ∀ v F' H', Grow bo F H F' H' → BoxOk bo F' H' b → Rp m bo F' H' r v → Q v H'
theorem one_o {m : Pm} {σ : St} {H : Hp} {Q : VK} {g : D → Option D} {f : Ex} (h : tEx m (eUn g f) σ H Q) : tEo m f σ H (fun x H1 => rD1 m g x H1 Q) := by
  obtain ⟨H0, F0, bo, ρ, F, b, R, r, b', e, q⟩ := h
  unfold eUn at e
  split at e
  · rename_i d b1 e1
    split at e
    · rename_i r' e3
      cases e
      refine ⟨H0, F0, bo, ρ, F, b, R, d, _, e1, fun v1 F1 H1 g1 hb1 r1 => ?_⟩
      have R1 := R.grow g1 hb1
      exact ⟨bo, F1, _, R1.wo, d, r, r1, e3, fun v F' H' g3 hb3 r3 => q v F' H' (g1.trans g3) hb3 r3⟩
    · cases e
  · cases e
theorem px_un {op : UnaryOp} {g' : D → Option D} (ho : UnR X (unaryOp op) (rD1 (pm X fn) g')) (ha : PEo fn X a f) : PEx fn X (.UnaryOp op a pos) (eUn g' f) :=
  PE.imp (pe_un ho ha) fun _ _ _ h => one_o h

/-! ### argument lists -/
theorem ps_nil' : PAs fn X [] aNil := by
  refine ⟨PA.imp pa_nil fun σ H Q ⟨H0, F0, bo, ρ, F, b, R, d, b', e, q⟩ => ?_, fun _ _ _ _ e => by cases e; rfl⟩
  cases e
  exact q [] F H (Grow.refl R.core.dom) R.core.box RpL.nil
theorem aCons_len {g : As} {n : Nat} (hl : ∀ ρ b ds b', g ρ b = some (ds, b') → ds.length = n) : ∀ ρ b ds b', aCons f g ρ b = some (ds, b') → ds.length = n + 1 := fun ρ b ds b' e => by
  unfold aCons at e
  split at e
  · split at e
    · rename_i e2
      cases e
      simp [hl _ _ _ _ e2]
    · cases e
  · cases e
theorem ps_cons' {g : As} (ha : PEx fn X a f) (hr : PAs fn X es g) (hs : starEach (a :: es) X.env = (false, eval a X.env) :: starEach es X.env := by rfl) : PAs fn X (a :: es) (aCons f g) := by
  refine ⟨PA.imp (pa_cons ha hr.pa hs) fun σ H Q ⟨H0, F0, bo, ρ, F, b, R, r, b', e, q⟩ => ?_, aCons_len hr.len⟩
  unfold aCons at e
  split at e
  · rename_i d b1 e1
    split at e
    · rename_i d2 b2 e2
      cases e
      refine ⟨H0, F0, bo, ρ, F, b, R, d, b1, e1, fun v1 F1 H1 g1 hb1 r1 => ?_⟩
      have R1 := R.grow g1 hb1
      exact ⟨H0, F0, bo, ρ, F1, b1, R1, d2, _, e2, fun v2 F2 H2 g2 hb2 r2 => q _ F2 H2 (g1.trans g2) hb2 (RpL.cons (r1.fk (R1.fkg g2)) r2)⟩
    · cases e
  · cases e
theorem pao_nil : PAo fn X [] aNil := ps_nil'.o
theorem pao_cons {g : As} (ha : PEo fn X a f) (hr : PAo fn X es g) (hs : starEach (a :: es) X.env = (false, eval a X.env) :: starEach es X.env := by rfl) : PAo fn X (a :: es) (aCons f g) := by
  refine ⟨PA.imp (pa_cons ha hr.pa hs) fun σ H Q ⟨H0, F0, bo, ρ, F, b, R, r, b', e, q⟩ => ?_, aCons_len hr.len⟩
  unfold aCons at e
  split at e
  · rename_i d b1 e1
    split at e
    · rename_i d2 b2 e2
      cases e
      refine ⟨H0, F0, bo, ρ, F, b, R, d, b1, e1, fun v1 F1 H1 g1 hb1 r1 => ?_⟩
      have R1 := R.grow g1 hb1
      exact ⟨H0, F0, bo, ρ, F1, b1, R1, d2, _, e2, fun v2 F2 H2 g2 hb2 r2 => q _ F2 H2 (g1.trans g2) hb2 ⟨_, _, rfl, RpO.grow R1.wo g2 r1, r2⟩⟩
    · cases e
  · cases e

/-! ### displays -/
theorem px_tup {g : As} {k : Nat} (p : PAs fn X es g) (hl : es.length ≤ 1000 := by decide) : PEx fn X (.Tuple es k pos) (eTup g) := PE.imp (pe_tup p.pa) fun σ H Q ⟨H0, F0, bo, ρ, F, b, R, r, b', e, q⟩ => by
  unfold eTup eFn at e
  split at e
  · rename_i ds b1 e1
    cases e
    refine ⟨H0, F0, bo, ρ, F, b, R, ds, _, e1, fun v1 F1 H1 g1 hb1 r1 => ?_⟩
    have z1 : v1.length ≤ sizeLine := by rw [r1.length, p.len _ _ _ _ e1, sizeLine_eq]; omega
    refine ⟨z1, fun x hx => ?_⟩
    · have R1 := R.grow g1 hb1
      obtain ⟨g2, hb2, r2⟩ := new_tup R1.wo hx r1 z1
      exact q _ _ _ (g1.trans g2) hb2 r2
  · cases e
theorem pn_lst {g : As} (p : PAs fn X es g) (hl : es.length ≤ 1000 := by decide) : PEn fn X (.List es pos) (eLst g) := PE.imp (pe_lst p.pa) fun σ H Q ⟨H0, F0, bo, ρ, F, b, R, r, b', e, q⟩ => by
  unfold eLst eFn at e
  split at e
  · rename_i ds b1 e1
    cases e
    refine ⟨H0, F0, bo, ρ, F, b, R, ds, _, e1, fun v1 F1 H1 g1 hb1 r1 => ?_⟩
    have z1 : v1.length ≤ sizeLine := by rw [r1.length, p.len _ _ _ _ e1, sizeLine_eq]; omega
    refine ⟨z1, fun x hx => ?_⟩
    · have R1 := R.grow g1 hb1
      obtain ⟨g2, hb2, nf, r2⟩ := new_own R1.wo hx r1 z1
      exact q _ _ _ (g1.trans g2) hb2 (g1.free x hx) nf r2
  · cases e

/-! ### tests -/
theorem truD {m : Pm} {bo : Bo} {F : Addr → Prop} {H : Hp} {d : D} {v : V} {k : Bool} (r : RpO m bo F H d v) (e : truthD d = some k) : TruV m.K v H k := by
  have len0 : ∀ {ds : List D} {vs : List V}, vs.length = ds.length → (!vs.isEmpty) = !ds.isEmpty := fun {ds vs} h => by
    cases ds <;> cases vs <;> simp_all
  rcases r with r | ⟨a, rfl, nb, nf, ow⟩
  · cases d with
    | non => simp only [Rp, truthD] at r e; subst r; cases e; rfl
    | bl b => simp only [Rp, truthD] at r e; subst r; cases e; rfl
    | int i => simp only [Rp, truthD] at r e; subst r; cases e; rfl
    | str z =>
      simp only [Rp, truthD] at r e; subst r
      split at e
      · rename_i hz
        cases e
        refine ⟨hz, ?_⟩
        rw [Bool.eq_iff_iff]
        simp
      · cases e
    | tup ds =>
      simp only [Rp, truthD] at r e
      obtain ⟨a, vs, rfl, s, z, r⟩ := r
      cases e
      exact .inr (.inl ⟨vs, s, (len0 r.length).symm⟩)
    | lst ds =>
      simp only [Rp, truthD] at r e
      obtain ⟨a, vs, rfl, f, s, z, r⟩ := r
      cases e
      exact .inl ⟨vs, SqL.of s, (len0 r.length).symm⟩
    | _ => simp [truthD] at e
  · cases d with
    | lst ds =>
      simp only [truthD] at e
      obtain ⟨vs, s, z, r⟩ := ow
      cases e
      exact .inl ⟨vs, SqL.of s, (len0 r.length).symm⟩
    | dct _ => simp [truthD] at e
    | _ => exact (show False from ow).elim
theorem pt_of (p : PEo fn X e f) (he : ∀ whole, isTrue e X.env whole = (do let v ← whole; standAt e.pos; holding [v] (truthy v)) := by intro _; rfl) : PTx fn X e (tOf f) :=
  PT.imp (pt_truth p he) fun σ H Q ⟨H0, F0, bo, ρ, F, b, R, r, b', e, q⟩ => by
    unfold tOf at e
    split at e
    · rename_i d b1 e1
      split at e
      · rename_i k e2
        cases e
        exact ⟨H0, F0, bo, ρ, F, b, R, d, _, e1, fun v F' H' g hb rv => ⟨r, truD rv e2, q F' H' g hb⟩⟩
      · cases e
    · cases e
theorem pt_not' (p : PTx fn X a t) : PTx fn X (.UnaryOp .Not a pos) (tNot t) := PT.imp (pt_not p) fun σ H Q ⟨H0, F0, bo, ρ, F, b, R, r, b', e, q⟩ => by
  unfold tNot at e
  split at e
  · rename_i k b1 e1
    cases e
    exact ⟨H0, F0, bo, ρ, F, b, R, k, _, e1, fun F' H' g hb => q F' H' g hb⟩
  · cases e
theorem pw_one_and (p : PTx fn X a t) : PWx fn X (.BoolOp .And [a] pos) t := pw_and1 p
theorem pw_one_or (p : PTx fn X a t) : PWx fn X (.BoolOp .Or [a] pos) t := pw_or1 p
theorem pw_and' (p : PTx fn X a t) (p' : PWx fn X (.BoolOp .And (c :: rest) pos) u) : PWx fn X (.BoolOp .And (a :: c :: rest) pos) (tAnd t u) := PW.imp (pw_and p p') fun σ H Q ⟨H0, F0, bo, ρ, F, b, R, r, b', e, q⟩ => by
  unfold tAnd at e
  split at e
  · rename_i b1 e1
    refine ⟨H0, F0, bo, ρ, F, b, R, true, b1, e1, fun F' H' g hb => ?_⟩
    refine iteT ?_
    exact ⟨H0, F0, bo, ρ, F', b1, R.grow g hb, r, b', e, fun F2 H2 g2 hb2 => q F2 H2 (g.trans g2) hb2⟩
  · rename_i b1 e1
    cases e
    refine ⟨H0, F0, bo, ρ, F, b, R, false, _, e1, fun F' H' g hb => ?_⟩
    refine iteF ?_
    exact q F' H' g hb
  · cases e
theorem pw_or' (p : PTx fn X a t) (p' : PWx fn X (.BoolOp .Or (c :: rest) pos) u) : PWx fn X (.BoolOp .Or (a :: c :: rest) pos) (tOr t u) := PW.imp (pw_or p p') fun σ H Q ⟨H0, F0, bo, ρ, F, b, R, r, b', e, q⟩ => by
  unfold tOr at e
  split at e
  · rename_i b1 e1
    cases e
    refine ⟨H0, F0, bo, ρ, F, b, R, true, _, e1, fun F' H' g hb => ?_⟩
    refine iteT ?_
    exact q F' H' g hb
  · rename_i b1 e1
    refine ⟨H0, F0, bo, ρ, F, b, R, false, b1, e1, fun F' H' g hb => ?_⟩
    refine iteF ?_
    exact ⟨H0, F0, bo, ρ, F', b1, R.grow g hb, r, b', e, fun F2 H2 g2 hb2 => q F2 H2 (g.trans g2) hb2⟩
  · cases e
theorem px_if {t : Tx} {c : Expr} (pc : PTx fn X c t) (pa : PEx fn X a f) (pb : PEx fn X e g) : PEx fn X (.IfExp c a e pos) (eIf t f g) := PE.imp (pe_ifExp pc pa pb) fun σ H Q ⟨H0, F0, bo, ρ, F, b, R, r, b', e, q⟩ => by
  unfold eIf at e
  split at e
  · rename_i b1 e1
    refine ⟨H0, F0, bo, ρ, F, b, R, true, b1, e1, fun F' H' g hb => ?_⟩
    refine iteT ?_
    exact ⟨H0, F0, bo, ρ, F', b1, R.grow g hb, r, b', e, fun v F2 H2 g2 hb2 rv => q v F2 H2 (g.trans g2) hb2 rv⟩
  · rename_i b1 e1
    refine ⟨H0, F0, bo, ρ, F, b, R, false, b1, e1, fun F' H' g hb => ?_⟩
    refine iteF ?_
    exact ⟨H0, F0, bo, ρ, F', b1, R.grow g hb, r, b', e, fun v F2 H2 g2 hb2 rv => q v F2 H2 (g.trans g2) hb2 rv⟩
  · cases e
theorem px_one {op : BoolOp} (p : PEx fn X a f) : PEx fn X (.BoolOp op [a] pos) f := pe_one p
theorem px_and (pa : PEx fn X a f) (pb : PEx fn X (.BoolOp .And (c :: rest) pos) g) : PEx fn X (.BoolOp .And (a :: c :: rest) pos) (eAnd f g) := PE.imp (pe_andT pa pb) fun σ H Q ⟨H0, F0, bo, ρ, F, b, R, r, b', e, q⟩ => by
  unfold eAnd at e
  split at e
  · rename_i d b1 e1
    split at e
    · rename_i e2
      refine ⟨H0, F0, bo, ρ, F, b, R, d, b1, e1, fun v F' H' g hb rv => ⟨true, truD (.inl rv) e2, ?_⟩⟩
      refine iteT ?_
      exact ⟨H0, F0, bo, ρ, F', b1, R.grow g hb, r, b', e, fun v F2 H2 g2 hb2 rv => q v F2 H2 (g.trans g2) hb2 rv⟩
    · rename_i e2
      cases e
      refine ⟨H0, F0, bo, ρ, F, b, R, _, _, e1, fun v F' H' g hb rv => ⟨false, truD (.inl rv) e2, ?_⟩⟩
      refine iteF ?_
      exact q v F' H' g hb rv
    · cases e
  · cases e
theorem px_or (pa : PEx fn X a f) (pb : PEx fn X (.BoolOp .Or (c :: rest) pos) g) : PEx fn X (.BoolOp .Or (a :: c :: rest) pos) (eOr f g) := PE.imp (pe_orT pa pb) fun σ H Q ⟨H0, F0, bo, ρ, F, b, R, r, b', e, q⟩ => by
  unfold eOr at e
  split at e
  · rename_i d b1 e1
    split at e
    · rename_i e2
      cases e
      refine ⟨H0, F0, bo, ρ, F, b, R, _, _, e1, fun v F' H' g hb rv => ⟨true, truD (.inl rv) e2, ?_⟩⟩
      refine iteT ?_
      exact q v F' H' g hb rv
    · rename_i e2
      refine ⟨H0, F0, bo, ρ, F, b, R, d, b1, e1, fun v F' H' g hb rv => ⟨false, truD (.inl rv) e2, ?_⟩⟩
      refine iteF ?_
      exact ⟨H0, F0, bo, ρ, F', b1, R.grow g hb, r, b', e, fun v F2 H2 g2 hb2 rv => q v F2 H2 (g.trans g2) hb2 rv⟩
    · cases e
  · cases e
theorem px_not (p : PEo fn X a f) : PEx fn X (.UnaryOp .Not a pos) (eNot f) := PE.imp (pe_notT p) fun σ H Q h => by
  have h' : tEx (pm X fn) (eUn (fun d => (truthD d).map fun k => .bl (!k)) f) σ H Q := h
  obtain ⟨H0, F0, bo, ρ, F, b, R, d, b1, e1, k⟩ := one_o h'
  refine ⟨H0, F0, bo, ρ, F, b, R, d, b1, e1, fun v F' H' g hb rv => ?_⟩
  obtain ⟨bo', F2, b2, W, d', r, rd, er, q⟩ := k v F' H' g hb rv
  have er' : Option.map (fun k => D.bl !k) (truthD d') = some r := er
  cases ek : truthD d' with
  | none => rw [ek] at er'; cases er'
  | some k =>
    rw [ek] at er'; cases er'
    exact ⟨k, truD rd ek, q _ F2 H' (Grow.refl W.dom) W.box (by simp [Rp])⟩

/-! ### built-in functions -/
def rDn (m : Pm) (g : List D → Option D) : List V → Hp → VK → Prop := fun xs H Q => ∃ bo F b, Wo bo F H b ∧ ∃ ds r, RpOL m bo F H ds xs ∧ g ds = some r ∧
  ∀ v F' H', Grow bo F H F' H' → BoxOk bo F' H' b → Rp m bo F' H' r v → Q v H'
def rDnN (m : Pm) (g : List D → Option D) : List V → Hp → VK → Prop := fun xs H Q => ∃ bo F b, Wo bo F H b ∧ ∃ ds r, RpOL m bo F H ds xs ∧ g ds = some r ∧
  ∀ a F' H', Grow bo F H F' H' → BoxOk bo F' H' b → H a = none → ¬ F' a → Own m bo F' H' r a → Q (.ref a) H'
theorem fn_o {m : Pm} {σ : St} {H : Hp} {Q : VK} {g : List D → Option D} {f : As} (h : tEx m (eFn g f) σ H Q) : tAo m f σ H (fun xs H1 => rDn m g xs H1 Q) := by
  obtain ⟨H0, F0, bo, ρ, F, b, R, r, b', e, q⟩ := h
  unfold eFn at e
  split at e
  · rename_i d b1 e1
    split at e
    · rename_i r' e3
      cases e
      refine ⟨H0, F0, bo, ρ, F, b, R, d, _, e1, fun v1 F1 H1 g1 hb1 r1 => ?_⟩
      have R1 := R.grow g1 hb1
      exact ⟨bo, F1, _, R1.wo, d, r, r1, e3, fun v F' H' g3 hb3 r3 => q v F' H' (g1.trans g3) hb3 r3⟩
    · cases e
  · cases e
theorem fn_n {m : Pm} {σ : St} {H : Hp} {Q : VK} {g : List D → Option D} {f : As} (h : tEn m (eFn g f) σ H Q) : tAo m f σ H (fun xs H1 => rDnN m g xs H1 Q) := by
  obtain ⟨H0, F0, bo, ρ, F, b, R, r, b', e, q⟩ := h
  unfold eFn at e
  split at e
  · rename_i d b1 e1
    split at e
    · rename_i r' e3
      cases e
      refine ⟨H0, F0, bo, ρ, F, b, R, d, _, e1, fun v1 F1 H1 g1 hb1 r1 => ?_⟩
      have R1 := R.grow g1 hb1
      exact ⟨bo, F1, _, R1.wo, d, r, r1, e3, fun v F' H' g3 hb3 hn nf r3 => q v F' H' (g1.trans g3) hb3 (g1.free _ hn) nf r3⟩
    · cases e
  · cases e
variable {x : Str} {p : Pos} {id T : String} {ag : As} {gd : List D → Option D}
theorem px_fn (hc : CallR X (.builtin id) (rDn (pm X fn) gd)) (hg : Gl X x) (hm : X.mg x = none) (hv : bootBuiltins x = some (.builtin id)) (ha : PAo fn X (e :: es) ag) (hn : x ≠ "__name__" := by decide) (hdb : (x == ("__debug__" : Str)) = false := by decide)
    (he : starEach (e :: es) X.env = (false, eval e X.env) :: starEach es X.env := by rfl) (hpl : (backTo pos (starEach es X.env)).any (·.1) = false := by rfl) : PEx fn X (.Call (.Name x p) (e :: es) [] pos) (eFn gd ag) :=
  PE.imp (pe_callB hc hg hm hv ha.pa hn hdb he hpl) fun _ _ _ h => fn_o h
theorem pn_fn (hc : CallR X (.builtin id) (rDnN (pm X fn) gd)) (hg : Gl X x) (hm : X.mg x = none) (hv : bootBuiltins x = some (.builtin id)) (ha : PAo fn X (e :: es) ag) (hn : x ≠ "__name__" := by decide) (hdb : (x == ("__debug__" : Str)) = false := by decide)
    (he : starEach (e :: es) X.env = (false, eval e X.env) :: starEach es X.env := by rfl) (hpl : (backTo pos (starEach es X.env)).any (·.1) = false := by rfl) : PEn fn X (.Call (.Name x p) (e :: es) [] pos) (eFn gd ag) :=
  PE.imp (pe_callB hc hg hm hv ha.pa hn hdb he hpl) fun _ _ _ h => fn_n h
theorem px_ty (hc : CallR X (.type T) (rDn (pm X fn) gd)) (hg : Gl X x) (hm : X.mg x = none) (hv : bootBuiltins x = some (.type T)) (ha : PAo fn X (e :: es) ag) (hn : x ≠ "__name__" := by decide) (hdb : (x == ("__debug__" : Str)) = false := by decide)
    (he : starEach (e :: es) X.env = (false, eval e X.env) :: starEach es X.env := by rfl) (hpl : (backTo pos (starEach es X.env)).any (·.1) = false := by rfl) : PEx fn X (.Call (.Name x p) (e :: es) [] pos) (eFn gd ag) :=
  PE.imp (pe_callTy hc hg hm hv ha.pa hn hdb he hpl) fun _ _ _ h => fn_o h
theorem pn_ty (hc : CallR X (.type T) (rDnN (pm X fn) gd)) (hg : Gl X x) (hm : X.mg x = none) (hv : bootBuiltins x = some (.type T)) (ha : PAo fn X (e :: es) ag) (hn : x ≠ "__name__" := by decide) (hdb : (x == ("__debug__" : Str)) = false := by decide)
    (he : starEach (e :: es) X.env = (false, eval e X.env) :: starEach es X.env := by rfl) (hpl : (backTo pos (starEach es X.env)).any (·.1) = false := by rfl) : PEn fn X (.Call (.Name x p) (e :: es) [] pos) (eFn gd ag) :=
  PE.imp (pe_callTy hc hg hm hv ha.pa hn hdb he hpl) fun _ _ _ h => fn_n h

/-! ### slices, subscripts -/
def rSl (m : Pm) : V → Option Int → Option Int → Hp → VK → Prop := fun x lo hi H Q => ∃ bo F b, Wo bo F H b ∧ ∃ d r, RpO m bo F H d x ∧ sliceD d lo hi = some r ∧
  ∀ v F' H', Grow bo F H F' H' → BoxOk bo F' H' b → Rp m bo F' H' r v → Q v H'
/-- a part of a slice -/
abbrev tOpt (m : Pm) (o : Option Ex) : St → Hp → (Option Int → Hp → Prop) → Prop := fun σ H Q => ∃ H0 F0 bo ρ F b, Rel m H0 F0 bo σ ρ F H b ∧ ∃ d b', eOpt o ρ b = some (d, b') ∧
  ∀ F' H', Grow bo F H F' H' → BoxOk bo F' H' b' → Q d H'
def POx (fn : Nat → Option V) (X : Cx) (lo : Option Expr) (o : Option Ex) : Prop := ∃ t, PO X lo t ∧ ∀ σ H Q, tOpt (pm X fn) o σ H Q → t σ H Q
theorem pox_none : POx fn X none none := ⟨_, po_none, fun σ H Q ⟨H0, F0, bo, ρ, F, b, R, d, b', e, q⟩ => by
  cases e
  exact q F H (Grow.refl R.core.dom) R.core.box⟩
theorem pox_some (pa : PEx fn X a f) : POx fn X (some a) (some f) := ⟨_, po_some pa, fun σ H Q ⟨H0, F0, bo, ρ, F, b, R, d, b', e, q⟩ => by
  have e : (match f ρ b with | some (.int i, b1) => some (some i, b1) | _ => none) = some (d, b') := e
  split at e
  · rename_i i b1 e1
    cases e
    refine ⟨H0, F0, bo, ρ, F, b, R, .int i, _, e1, fun v F' H' g hb rv => ?_⟩
    simp only [Rp] at rv
    exact ⟨i, rv, q F' H' g hb⟩
  · cases e⟩
theorem px_slice {lo hi : Option Expr} {l u : Option Ex} {p2 : Pos} (hr : SlR X (rSl (pm X fn))) (pa : PEo fn X a f) (pl : POx fn X lo l) (pu : POx fn X hi u) : PEx fn X (.Subscript a (.Slice lo hi none p2) pos) (eSlice f l u) := by
  obtain ⟨tl, ql, il⟩ := pl
  obtain ⟨tu, qu, iu⟩ := pu
  refine PE.imp (pe_slice hr pa ql qu) fun σ H Q ⟨H0, F0, bo, ρ, F, b, R, r, b', e, q⟩ => ?_
  unfold eSlice at e
  split at e
  · rename_i d b1 e1
    split at e
    · rename_i l' b2 e2
      split at e
      · rename_i u' b3 e3
        split at e
        · rename_i r' e4
          cases e
          refine ⟨H0, F0, bo, ρ, F, b, R, d, b1, e1, fun v1 F1 H1 g1 hb1 r1 => ?_⟩
          have R1 := R.grow g1 hb1
          refine il _ _ _ ⟨H0, F0, bo, ρ, F1, b1, R1, l', b2, e2, fun F2 H2 g2 hb2 => ?_⟩
          have R2 := R1.grow g2 hb2
          refine iu _ _ _ ⟨H0, F0, bo, ρ, F2, b2, R2, u', _, e3, fun F3 H3 g3 hb3 => ?_⟩
          have R3 := R2.grow g3 hb3
          exact ⟨bo, F3, _, R3.wo, d, r, RpO.grow R2.wo g3 (RpO.grow R1.wo g2 r1), e4, fun v F4 H4 g4 hb4 rv => q v F4 H4 (((g1.trans g2).trans g3).trans g4) hb4 rv⟩
        · cases e
      · cases e
    · cases e
  · cases e
theorem px_ix (hr : IxR X (rD2 (pm X fn) ixD)) (pa : PEo fn X a f) (pc : PEx fn X c g) (hs : PlainIx c := by intro _ _; rfl) : PEx fn X (.Subscript a c pos) (eBin ixD f g) :=
  PE.imp (pe_ix hr pa (PEx.o pc) hs) fun _ _ _ h => two_o h
end
end Sv

set_option maxHeartbeats 4000000
/-! Sv4: operators and built-ins keep the promises of plain data. -/
namespace Sv
open PySem L2

/-! ### data read off the heap -/
section
variable {m : Pm} {bo : Bo} {F : Addr → Prop} {H : Hp}
mutual
theorem Rp.dp : ∀ (d : D) (v : V), d.plain = true → Rp m bo F H d v → Dp m.K H v d.py
  | .non, v, _, h => by simp only [Rp] at h; subst h; simp only [D.py]; exact .non
  | .bl b, v, _, h => by simp only [Rp] at h; subst h; simp only [D.py]; exact .bl b
  | .int b, v, _, h => by simp only [Rp] at h; subst h; simp only [D.py]; exact .int b
  | .str b, v, _, h => by simp only [Rp] at h; subst h; simp only [D.py]; exact .str b
  | .tup ds, v, e, h => by
    simp only [Rp] at h
    obtain ⟨a, vs, rfl, s, z, r⟩ := h
    simp only [D.py]
    exact .tup s (RpL.dp ds vs (by simpa [D.plain] using e) r)
  | .lst ds, v, e, h => by
    simp only [Rp] at h
    obtain ⟨a, vs, rfl, f, s, z, r⟩ := h
    simp only [D.py]
    exact .lst (SqL.of s) (RpL.dp ds vs (by simpa [D.plain] using e) r)
  | .dct _, _, e, _ => by simp [D.plain] at e
  | .tok _, _, e, _ => by simp [D.plain] at e
theorem RpL.dp : ∀ (ds : List D) (vs : List V), D.plainL ds = true → RpL m bo F H ds vs → DpAll m.K H vs (D.pyL ds)
  | [], vs, _, h => by simp only [RpL] at h; subst h; simp only [D.pyL]; exact .nil
  | d :: ds, vs, e, h => by
    simp only [RpL] at h
    rw [D.plainL, Bool.and_eq_true] at e
    obtain ⟨v, r, rfl, h1, h2⟩ := h
    simp only [D.pyL]
    exact .cons (Rp.dp d v e.1 h1) (RpL.dp ds r e.2 h2)
end
theorem RpO.dp {d : D} {v : V} (e : d.plain = true) (h : RpO m bo F H d v) : Dp m.K H v d.py := by
  rcases h with h | ⟨a, rfl, _, _, h⟩
  · exact Rp.dp d v e h
  · cases d with
    | lst ds =>
      obtain ⟨vs, s, z, r⟩ := h
      simp only [D.py]
      exact .lst (SqL.of s) (RpL.dp ds vs (by simpa [D.plain] using e) r)
    | dct _ => simp [D.plain] at e
    | _ => exact (show False from h).elim
/-- a list, a tuple that is read -/
theorem RpO.lst {ds : List D} {v : V} (h : RpO m bo F H (.lst ds) v) : ∃ a vs, v = .ref a ∧ H a = some (.lst vs) ∧ vs.length ≤ sizeLine ∧ RpL m bo F H ds vs := by
  rcases h with h | ⟨a, rfl, _, _, h⟩
  · simp only [Rp] at h
    obtain ⟨a, vs, rfl, f, s, z, r⟩ := h
    exact ⟨a, vs, rfl, s, z, r⟩
  · obtain ⟨vs, s, z, r⟩ := h
    exact ⟨a, vs, rfl, s, z, r⟩
theorem RpO.tup {ds : List D} {v : V} (h : RpO m bo F H (.tup ds) v) : ∃ a vs, v = .ref a ∧ SqT m.K H a vs ∧ vs.length ≤ sizeLine ∧ RpL m bo F H ds vs := by
  rcases h with h | ⟨a, rfl, _, _, h⟩
  · simpa only [Rp] using h
  · exact (show False from h).elim
theorem RpO.int {i : Int} {v : V} (h : RpO m bo F H (.int i) v) : v = .int i := by
  rcases h with h | ⟨a, rfl, _, _, h⟩
  · simpa only [Rp] using h
  · exact (show False from h).elim
theorem RpO.bl {i : Bool} {v : V} (h : RpO m bo F H (.bl i) v) : v = .bl i := by
  rcases h with h | ⟨a, rfl, _, _, h⟩
  · simpa only [Rp] using h
  · exact (show False from h).elim
theorem RpO.str {i : Str} {v : V} (h : RpO m bo F H (.str i) v) : v = .str i := by
  rcases h with h | ⟨a, rfl, _, _, h⟩
  · simpa only [Rp] using h
  · exact (show False from h).elim
theorem RpO.non {v : V} (h : RpO m bo F H .non v) : v = .non := by
  rcases h with h | ⟨a, rfl, _, _, h⟩
  · simpa only [Rp] using h
  · exact (show False from h).elim
theorem RpOL.one {d : D} {vs : List V} (h : RpOL m bo F H [d] vs) : ∃ v, vs = [v] ∧ RpO m bo F H d v := by
  simp only [RpOL] at h
  obtain ⟨v, r, rfl, h1, rfl⟩ := h
  exact ⟨v, rfl, h1⟩
theorem RpOL.two {d e : D} {vs : List V} (h : RpOL m bo F H [d, e] vs) : ∃ v u, vs = [v, u] ∧ RpO m bo F H d v ∧ RpO m bo F H e u := by
  simp only [RpOL] at h
  obtain ⟨v, r, rfl, h1, v', r', rfl, h2, rfl⟩ := h
  exact ⟨v, v', rfl, h1, h2⟩
end
mutual
theorem D.py_lay : ∀ d : D, d.plain = true → d.py.canLay0 = true
  | .non, _ => by simp [D.py, PyData.canLay0]
  | .bl _, _ => by simp [D.py, PyData.canLay0]
  | .int _, _ => by simp [D.py, PyData.canLay0]
  | .str s, h => by simpa [D.py, PyData.canLay0, D.plain, PyData.strOk] using h
  | .tup xs, h => by simp only [D.py, PyData.canLay0]; exact D.py_layL xs (by simpa [D.plain] using h)
  | .lst xs, h => by simp only [D.py, PyData.canLay0]; exact D.py_layL xs (by simpa [D.plain] using h)
  | .dct _, h => by simp [D.plain] at h
  | .tok _, h => by simp [D.plain] at h
theorem D.py_layL : ∀ d : List D, D.plainL d = true → PyData.canLayAll0 (D.pyL d) = true
  | [], _ => by simp [D.pyL, PyData.canLayAll0]
  | d :: ds, h => by
    rw [D.plainL, Bool.and_eq_true] at h
    simp only [D.pyL, PyData.canLayAll0, D.py_lay d h.1, D.py_layL ds h.2, Bool.and_self]
end
mutual
theorem D.py_dep : ∀ d : D, d.py.depth = d.dep
  | .non => by simp [D.py, PyData.depth, D.dep]
  | .bl _ => by simp [D.py, PyData.depth, D.dep]
  | .int _ => by simp [D.py, PyData.depth, D.dep]
  | .str s => by simp [D.py, PyData.depth, D.dep]
  | .tup xs => by simp only [D.py, PyData.depth, D.dep, D.py_depL xs]
  | .lst xs => by simp only [D.py, PyData.depth, D.dep, D.py_depL xs]
  | .dct _ => by simp [D.py, PyData.depth, D.dep]
  | .tok _ => by simp [D.py, PyData.depth, D.dep]
theorem D.py_depL : ∀ d : List D, PyData.depthAll (D.pyL d) = D.depL d
  | [] => by simp [D.pyL, PyData.depthAll, D.depL]
  | d :: ds => by simp only [D.pyL, PyData.depthAll, D.depL, D.py_dep d, D.py_depL ds]
end
theorem D.pyL_map : ∀ ds : List D, D.pyL ds = ds.map D.py
  | [] => rfl
  | d :: ds => by simp only [D.pyL, List.map_cons, D.pyL_map ds]
theorem D.sm_plain {d : D} (h : d.sm = true) : d.plain = true := by unfold D.sm at h; rw [Bool.and_eq_true] at h; exact h.1
theorem D.sm_dep {d : D} (h : d.sm = true) : d.dep ≤ 50 := by unfold D.sm at h; rw [Bool.and_eq_true] at h; exact of_decide_eq_true h.2
theorem D.sm_shaped {d : D} (h : d.sm = true) : SeqAt.shaped d.py = true := by
  unfold SeqAt.shaped
  rw [Bool.and_eq_true]
  have h2 := D.sm_dep h
  exact ⟨D.py_lay d (D.sm_plain h), decide_eq_true (by rw [D.py_dep]; omega)⟩

section
variable {fn : Nat → Option V} {X : Cx}

/-! ### arithmetic -/
theorem bigOk_lt {i : Int} (h : bigOk i = true) : i.natAbs < 2 ^ 30000 := of_decide_eq_true h
theorem d_add : OpR X (binaryOp .Add) (rD2 (pm X fn) opAdd) := by
  intro pins s σ H x y v u Q I rx ry h
  obtain ⟨bo, F, b, W, d, e, r, hd, he, hg, q⟩ := h
  unfold opAdd at hg
  split at hg
  · cases hg
    rw [hd.int] at rx; rw [he.int] at ry
    exact op_add pins s σ H _ _ v u Q I rx ry ⟨_, _, rfl, rfl, q _ F H (Grow.refl W.dom) W.box (by simp [Rp])⟩
  · split at hg
    · rename_i hz
      cases hg
      rw [hd.str] at rx; rw [he.str] at ry
      exact op_add_str pins s σ H _ _ v u Q I rx ry ⟨_, _, rfl, rfl, hz, q _ F H (Grow.refl W.dom) W.box (by simp [Rp])⟩
    · cases hg
  · split at hg
    · rename_i xs ys hz
      cases hg
      obtain ⟨a, vs, rfl, s1, z1, r1⟩ := hd.tup
      obtain ⟨a', vs', rfl, s2, z2, r2⟩ := he.tup
      refine op_catA pins s σ H _ _ v u Q I rx ry ⟨a, a', vs, vs', rfl, rfl, s1, s2, by rw [r1.length, r2.length]; exact hz, fun e => ?_, fun _ e => ?_, fun _ _ p hp => ?_⟩
      · have e0 : xs = [] := by have := r1.length; rw [e] at this; exact List.eq_nil_of_length_eq_zero this.symm
        refine q _ F H (Grow.refl W.dom) W.box ?_
        simp only [Rp]
        exact ⟨a', vs', rfl, s2, z2, by rw [e0]; exact r2⟩
      · have e0 : ys = [] := by have := r2.length; rw [e] at this; exact List.eq_nil_of_length_eq_zero this.symm
        refine q _ F H (Grow.refl W.dom) W.box ?_
        simp only [Rp]
        exact ⟨a, vs, rfl, s1, z1, by rw [e0, List.append_nil]; exact r1⟩
      · obtain ⟨g, hb, rr⟩ := new_tup W hp (r1.append r2) (by rw [List.length_append, r1.length, r2.length]; exact hz)
        exact q _ _ _ g hb rr
    · cases hg
  · split at hg
    · rename_i hz
      cases hg
      obtain ⟨a, vs, rfl, s1, z1, r1⟩ := hd.lst
      obtain ⟨a', vs', rfl, s2, z2, r2⟩ := he.lst
      refine op_cat pins s σ H _ _ v u Q I rx ry ⟨a, a', vs, vs', rfl, rfl, s1, s2, by rw [r1.length, r2.length]; exact hz, fun p hp => ?_⟩
      obtain ⟨g, hb, rr⟩ := new_lst W hp (r1.append r2) (by rw [List.length_append, r1.length, r2.length]; exact hz)
      exact q _ _ _ g hb rr
    · cases hg
  · cases hg
theorem d_sub : OpR X (binaryOp .Sub) (rD2 (pm X fn) opSub) := by
  intro pins s σ H x y v u Q I rx ry h
  obtain ⟨bo, F, b, W, d, e, r, hd, he, hg, q⟩ := h
  unfold opSub at hg
  split at hg
  · cases hg
    rw [hd.int] at rx; rw [he.int] at ry
    exact op_sub pins s σ H _ _ v u Q I rx ry ⟨_, _, rfl, rfl, q _ F H (Grow.refl W.dom) W.box (by simp [Rp])⟩
  · cases hg
theorem d_fdiv : OpR X (binaryOp .FloorDiv) (rD2 (pm X fn) opFdiv) := by
  intro pins s σ H x y v u Q I rx ry h
  obtain ⟨bo, F, b, W, d, e, r, hd, he, hg, q⟩ := h
  unfold opFdiv at hg
  split at hg
  · split at hg
    · rename_i hz
      cases hg
      rw [hd.int] at rx; rw [he.int] at ry
      exact op_fdivN pins s σ H _ _ v u Q I rx ry ⟨_, _, rfl, rfl, hz, q _ F H (Grow.refl W.dom) W.box (by simp [Rp])⟩
    · cases hg
  · cases hg
theorem d_mod : OpR X (binaryOp .Mod) (rD2 (pm X fn) opMod) := by
  intro pins s σ H x y v u Q I rx ry h
  obtain ⟨bo, F, b, W, d, e, r, hd, he, hg, q⟩ := h
  unfold opMod at hg
  split at hg
  · split at hg
    · rename_i hz
      cases hg
      rw [hd.int] at rx; rw [he.int] at ry
      exact op_modN pins s σ H _ _ v u Q I rx ry ⟨_, _, rfl, rfl, hz, q _ F H (Grow.refl W.dom) W.box (by simp [Rp])⟩
    · cases hg
  · cases hg
theorem d_neg : UnR X (unaryOp .USub) (rD1 (pm X fn) opNeg) := by
  intro pins s σ H x v Q I rx h
  obtain ⟨bo, F, b, W, d, r, hd, hg, q⟩ := h
  unfold opNeg at hg
  split at hg
  · cases hg
    rw [hd.int] at rx
    exact un_neg pins s σ H _ v Q I rx ⟨_, rfl, q _ F H (Grow.refl W.dom) W.box (by simp [Rp])⟩
  · cases hg
/-! #### products -/
theorem RpL.flatten {m : Pm} {bo : Bo} {F : Addr → Prop} {H : Hp} {ds : List D} {vs : List V} (h : RpL m bo F H ds vs) : ∀ n, RpL m bo F H (List.replicate n ds).flatten (List.replicate n vs).flatten
  | 0 => by simp [RpL]
  | n + 1 => by
    rw [List.replicate_succ, List.flatten_cons, List.replicate_succ, List.flatten_cons]
    exact h.append (RpL.flatten h n)
theorem tuple_mulSame (l : Addr) (items : Array Value) (n : Nat) (x : Int) (u : Tok) (c0 : (decide (x < -(2 ^ 63)) || decide (x ≥ 2 ^ 63)) = false) (c1 : (items.isEmpty || x == 1) = true) (dd : Option Addr) (sl : Array (Option Value)) :
    Meets (Builtin.«tuple.__mul__» ⟨[.ref l, .int x u], []⟩) (fun _ R s => s.heap.get? l = some { cls := .type "tuple", dict := dd, data := .seq items n, slots := sl } ∧
      R (.ok (.ret (Value.ref l))) s) :=
  .of_wp fun prog w A R s h => by
    obtain ⟨hp, g, d, tk, os⟩ := s
    obtain ⟨hl, h⟩ := h
    have f1 := AutoSeq1.idx_int
    wp_walk using AutoSeq1.wpAny_loadPart' hl
    repeat (first
      | (refine wpAny_ite_false (decide_eq_false (by rw [c0]; exact Bool.false_ne_true)) ?_; wp_walk using AutoSeq1.wpAny_loadPart' hl)
      | (refine wpAny_ite_true (decide_eq_true (by rw [c1])) ?_; wp_walk using AutoSeq1.wpAny_loadPart' hl))
    exact ⟨_, rfl, h⟩
theorem tuple_mulNone (l : Addr) (items : Array Value) (n : Nat) (x : Int) (u : Tok) (c0 : (decide (x < -(2 ^ 63)) || decide (x ≥ 2 ^ 63)) = false) (c1 : (items.isEmpty || x == 1) = false) (c2 : (decide (x ≤ 0) || items.isEmpty) = true) (dd : Option Addr) (sl : Array (Option Value)) :
    Meets (Builtin.«tuple.__mul__» ⟨[.ref l, .int x u], []⟩) (fun _ R s => s.heap.get? l = some { cls := .type "tuple", dict := dd, data := .seq items n, slots := sl } ∧
      R (.ok (.ret (Value.ref s.heap.objs.size))) { s with heap := s.heap.push { cls := Value.type "tuple", data := Data.seq #[] }, toks := s.toks }) :=
  .of_wp fun prog w A R s h => by
    obtain ⟨hp, g, d, tk, os⟩ := s
    obtain ⟨hl, h⟩ := h
    have f1 := AutoSeq1.idx_int
    wp_walk using AutoSeq1.wpAny_loadPart' hl
    repeat (first
      | (refine wpAny_ite_false (decide_eq_false (by rw [c0]; exact Bool.false_ne_true)) ?_; wp_walk using AutoSeq1.wpAny_loadPart' hl)
      | (refine wpAny_ite_false (decide_eq_false (by rw [c1]; exact Bool.false_ne_true)) ?_; wp_walk using AutoSeq1.wpAny_loadPart' hl)
      | (refine wpAny_ite_true (decide_eq_true (by rw [c2])) ?_; wp_walk using AutoSeq1.wpAny_loadPart' hl)
      | (refine wpAny_ite_false (by decide) ?_; wp_walk using AutoSeq1.wpAny_loadPart' hl))
    exact ⟨_, rfl, h⟩
theorem d_mul : OpR X (binaryOp .Mult) (rD2 (pm X fn) opMul) := by
  intro pins s σ H x y v u Q I rx ry h
  obtain ⟨bo, F, b, W, d, e, r, hd, he, hg, q⟩ := h
  unfold opMul at hg
  split at hg
  · split at hg
    · rename_i i j hz
      cases hg
      rw [hd.int] at rx; rw [he.int] at ry
      have q' := q (.int (i * j)) F H (Grow.refl W.dom) W.box (by simp [Rp])
      unfold mulOk at hz
      rw [Bool.or_eq_true, Bool.or_eq_true] at hz
      rcases hz with (hz | hz) | hz
      · have hz := of_decide_eq_true hz
        exact op_mul pins s σ H _ _ v u Q I rx ry ⟨_, _, rfl, rfl, .inl ⟨by omega, by omega⟩, q'⟩
      · have hz := of_decide_eq_true hz
        exact op_mul pins s σ H _ _ v u Q I rx ry ⟨_, _, rfl, rfl, .inr ⟨by omega, by omega⟩, q'⟩
      · rw [Bool.and_eq_true] at hz
        exact op_mulW pins s σ H _ _ v u Q I rx ry ⟨_, _, rfl, rfl, wide_mul (bigOk_lt hz.1) (bigOk_lt hz.2) (by decide) (by decide) (by decide), q'⟩
    · cases hg
  · split at hg
    · rename_i xs k hz
      cases hg
      obtain ⟨a, vs, rfl, s1, z1, r1⟩ := hd.lst
      rw [he.int] at ry
      refine op_rep pins s σ H _ _ v u Q I rx ry ⟨a, k, vs, rfl, rfl, s1, by omega, by omega, by rw [r1.length]; exact hz.2.2, fun p hp => ?_⟩
      obtain ⟨g, hb, rr⟩ := new_lst W hp (r1.flatten k.toNat) (by rw [PyProof.Rows.lm_len_rep_flat, r1.length, Nat.mul_comm]; exact hz.2.2)
      exact q _ _ _ g hb rr
    · cases hg
  · split at hg
    · rename_i xs k hz
      cases hg
      obtain ⟨a, vs, rfl, s1, z1, r1⟩ := hd.tup
      rw [he.int] at ry
      obtain ⟨hz1, hz2, hz3⟩ := hz
      have fresh : H s.heap.objs.size = none := I.hok.fresh (Nat.le_refl _)
      by_cases h2 : vs ≠ [] ∧ 2 ≤ k
      · refine op_repT pins s σ H _ _ v u Q I rx ry ⟨a, k, vs, rfl, rfl, s1, h2.1, h2.2, hz1, by rw [r1.length]; exact hz3, fun p hp => ?_⟩
        obtain ⟨g, hb, rr⟩ := new_tup W hp (r1.flatten k.toNat) (by rw [PyProof.Rows.lm_len_rep_flat, r1.length, sizeLine_eq]; have a1 : k.toNat * xs.length ≤ 1000 * 1000 := Nat.mul_le_mul (by omega) hz3; omega)
        exact q _ _ _ g hb rr
      · cases rx
        obtain ⟨t, rfl⟩ := ry
        obtain ⟨its, ri, ⟨⟨cls, dd, data, sl⟩, ho, hc, n, hd'⟩, hs⟩ := I.tuple s1
        simp only at hc hd'
        subst hc hd'
        have hle : its.length = vs.length := ri.length.symm
        have c0 : (decide (k < -(2 ^ 63)) || decide (k ≥ 2 ^ 63)) = false := by
          rw [decide_eq_false (by omega), decide_eq_false (by omega)] <;> rfl
        have emp : its.toArray.isEmpty = vs.isEmpty := by
          cases its <;> cases vs <;> simp_all
        by_cases c1 : (its.toArray.isEmpty || k == 1) = true
        · refine wpAny_binaryOp_repeat_ref (T := "tuple") (U := "int") (by decide) ⟨_, ho, rfl⟩ (fun s' => typeIs_int s' k t) noFill_tuple_mul PySem.F.fills_int_mul PySem.F.slot_int_rmul repeat_tuple PySem.F.slot_int_index.lookup
            (call_meets PySem.F.slot_int_rmul (typeIs_int s k t) PySem.F.entry_int_rmul (PySem.F.args_int_rmul_2 _ _) (int_rmul_tuple k t a its.toArray n dd sl)
              ⟨ho, rfl, ⟨_, ho, rfl⟩, call_meets PySem.F.slot_tuple_mul ⟨_, ho, rfl⟩ PySem.F.entry_tuple_mul (PySem.F.args_tuple_mul_2 _ _) (tuple_mulSame a its.toArray n k t c0 c1 dd sl) ⟨ho, ?_⟩⟩)
          refine ⟨.ref a, H, I, rfl, q _ F H (Grow.refl W.dom) W.box ?_⟩
          simp only [Rp]
          refine ⟨a, vs, rfl, s1, z1, ?_⟩
          rw [Bool.or_eq_true] at c1
          rcases c1 with c1 | c1
          · rw [emp, List.isEmpty_iff] at c1
            have := r1.length
            rw [c1] at this
            have e0 : xs = [] := List.eq_nil_of_length_eq_zero this.symm
            subst e0
            simp [RpL, c1]
          · have e1 : k = 1 := by simpa using c1
            subst e1
            simpa using r1
        · have c1' : (its.toArray.isEmpty || k == 1) = false := by simpa using c1
          have k0 : k ≤ 0 := by
            rw [Bool.or_eq_false_iff] at c1'
            have hv : vs ≠ [] := fun e => by rw [emp, e] at c1'; simp at c1'
            have hk : k ≠ 1 := by simpa using c1'.2
            have : ¬ 2 ≤ k := fun z => h2 ⟨hv, z⟩
            omega
          have c2 : (decide (k ≤ 0) || its.toArray.isEmpty) = true := by rw [decide_eq_true k0]; rfl
          refine wpAny_binaryOp_repeat_ref (T := "tuple") (U := "int") (by decide) ⟨_, ho, rfl⟩ (fun s' => typeIs_int s' k t) noFill_tuple_mul PySem.F.fills_int_mul PySem.F.slot_int_rmul repeat_tuple PySem.F.slot_int_index.lookup
            (call_meets PySem.F.slot_int_rmul (typeIs_int s k t) PySem.F.entry_int_rmul (PySem.F.args_int_rmul_2 _ _) (int_rmul_tuple k t a its.toArray n dd sl)
              ⟨ho, rfl, ⟨_, ho, rfl⟩, call_meets PySem.F.slot_tuple_mul ⟨_, ho, rfl⟩ PySem.F.entry_tuple_mul (PySem.F.args_tuple_mul_2 _ _) (tuple_mulNone a its.toArray n k t c0 c1' c2 dd sl) ⟨ho, ?_⟩⟩)
          have e0 : (List.replicate k.toNat xs).flatten = [] := by rw [Int.toNat_of_nonpos k0]; rfl
          obtain ⟨g, hb, rr⟩ := new_tup (m := pm X fn) W fresh (ds := []) (vs := []) RpL.nil (by simp)
          refine ⟨.ref s.heap.objs.size, _, I.laid (t' := s.toks) (o := .tup []) (fun b ob q => Heap.get?_push_of_some _ q) (Nat.le_refl _) ?_, rfl, q _ _ _ g hb (by rw [e0]; exact rr)⟩
          exact ⟨by simp, [], .nil, ⟨_, Heap.get?_push_size _ rfl, rfl, _, rfl⟩⟩
    · cases hg
  · cases hg

/-! ### comparisons -/
theorem o_bl {Q : VK} {bo : Bo} {F : Addr → Prop} {H : Hp} {b : Bx} {m : Pm} {k : Bool} (W : Wo bo F H b) (q : ∀ v F' H', Grow bo F H F' H' → BoxOk bo F' H' b → Rp m bo F' H' (.bl k) v → Q v H') : Q (.bl k) H :=
  q _ F H (Grow.refl W.dom) W.box (by simp [Rp])
theorem d_eq (hu : X.A.units + 64 < cLine) : OpR X (compareOp .Eq) (rD2 (pm X fn) opEq) := by
  intro pins s σ H x y v u Q I rx ry h
  obtain ⟨bo, F, b, W, d, e, r, hd, he, hg, q⟩ := h
  unfold opEq eqD at hg
  split at hg
  · rename_i hz
    cases hg
    exact op_eqD hu pins s σ H x y v u Q I rx ry ⟨_, _, hd.dp (D.sm_plain hz.1), he.dp (D.sm_plain hz.2), D.sm_shaped hz.1, D.sm_shaped hz.2, o_bl W q⟩
  · cases hg
theorem d_ne (hu : X.A.units + 64 < cLine) : OpR X (compareOp .NotEq) (rD2 (pm X fn) opNe) := by
  intro pins s σ H x y v u Q I rx ry h
  obtain ⟨bo, F, b, W, d, e, r, hd, he, hg, q⟩ := h
  unfold opNe eqD at hg
  split at hg
  · rename_i hz
    cases hg
    exact op_neD hu pins s σ H x y v u Q I rx ry ⟨_, _, hd.dp (D.sm_plain hz.1), he.dp (D.sm_plain hz.2), D.sm_shaped hz.1, D.sm_shaped hz.2, o_bl W q⟩
  · cases hg
theorem ltD_cases {d e : D} {k : Bool} (h : ltD d e = some k) : (∃ i j, d = .int i ∧ e = .int j ∧ k = decide (i < j)) ∨ (d.sm = true ∧ e.sm = true ∧ d ≠ .non ∧ PySem.W.alike d.py e.py = true ∧ k = PySem.W.dataLt d.py e.py) := by
  unfold ltD at h
  split at h
  · cases h; exact .inl ⟨_, _, rfl, rfl, rfl⟩
  · split at h
    · rename_i hz
      cases h
      exact .inr ⟨hz.1, hz.2.1, hz.2.2.1, hz.2.2.2, rfl⟩
    · cases h
theorem D.py_non {d : D} (h : d.plain = true) (n : d ≠ .non) : d.py ≠ .none := by
  cases d <;> simp_all [D.py, D.plain]
theorem alike_non {d : D} {e : PyData} (h : PySem.W.alike d.py e = true) (n : e ≠ .none) : d.py ≠ .none := by
  intro z
  rw [z] at h
  cases e <;> simp_all [PySem.W.alike]
theorem RpO.reads {pins : List (Addr × Obj)} {s : Shared} {σ : St} {H : Hp} {bo : Bo} {F : Addr → Prop} {d : D} {v : V} {u : Value} (I : Inv X pins σ H s) (hd : RpO (pm X fn) bo F H d v) (h : d.sm = true) (r : RelV v u) : ∃ as, Reads s.heap u d.py as :=
  Dp.reads I d.py v u (hd.dp (D.sm_plain h)) r
theorem min_dep {X : Cx} {d e : D} (hu : X.A.units + 64 < cLine) (h : d.sm = true) : X.A.units + min d.py.depth e.py.depth < cLine := by
  have := D.sm_dep h
  rw [D.py_dep]
  have h2 : min d.dep e.py.depth ≤ d.dep := Nat.min_le_left _ _
  omega
theorem d_lt (hu : X.A.units + 64 < cLine) : OpR X (compareOp .Lt) (rD2 (pm X fn) opLt) := by
  intro pins s σ H x y v u Q I rx ry h
  obtain ⟨bo, F, b, W, d, e, r, hd, he, hg, q⟩ := h
  unfold opLt at hg
  cases hk : ltD d e with
  | none => rw [hk] at hg; cases hg
  | some k =>
    rw [hk] at hg; cases hg
    rcases ltD_cases hk with ⟨i, j, rfl, rfl, rfl⟩ | ⟨h1, h2, h3, h4, rfl⟩
    · rw [hd.int] at rx; rw [he.int] at ry
      exact op_lt pins s σ H _ _ v u Q I rx ry ⟨_, _, rfl, rfl, o_bl W q⟩
    · obtain ⟨as, ra⟩ := hd.reads I h1 rx
      obtain ⟨bs, rb⟩ := he.reads I h2 ry
      exact PySem.W.lt_data ra rb h4 (D.py_non (D.sm_plain h1) h3) (min_dep hu h1) ⟨.bl _, H, I, rfl, o_bl W q⟩
theorem d_ge (hu : X.A.units + 64 < cLine) : OpR X (compareOp .GtE) (rD2 (pm X fn) opGe) := by
  intro pins s σ H x y v u Q I rx ry h
  obtain ⟨bo, F, b, W, d, e, r, hd, he, hg, q⟩ := h
  unfold opGe at hg
  cases hk : ltD d e with
  | none => rw [hk] at hg; cases hg
  | some k =>
    rw [hk] at hg; cases hg
    rcases ltD_cases hk with ⟨i, j, rfl, rfl, rfl⟩ | ⟨h1, h2, h3, h4, rfl⟩
    · rw [hd.int] at rx; rw [he.int] at ry
      have e1 : decide (j ≤ i) = !decide (i < j) := by rw [← decide_not]; exact decide_eq_decide.mpr (by omega)
      exact op_ge pins s σ H _ _ v u Q I rx ry ⟨_, _, rfl, rfl, by show Q (.bl (decide (j ≤ i))) H; rw [e1]; exact o_bl W q⟩
    · obtain ⟨as, ra⟩ := hd.reads I h1 rx
      obtain ⟨bs, rb⟩ := he.reads I h2 ry
      exact PySem.W.ge_data ra rb h4 (D.py_non (D.sm_plain h1) h3) (min_dep hu h1) ⟨.bl _, H, I, rfl, o_bl W q⟩
theorem d_gt (hu : X.A.units + 64 < cLine) : OpR X (compareOp .Gt) (rD2 (pm X fn) opGt) := by
  intro pins s σ H x y v u Q I rx ry h
  obtain ⟨bo, F, b, W, d, e, r, hd, he, hg, q⟩ := h
  unfold opGt at hg
  cases hk : ltD e d with
  | none => rw [hk] at hg; cases hg
  | some k =>
    rw [hk] at hg; cases hg
    rcases ltD_cases hk with ⟨i, j, rfl, rfl, rfl⟩ | ⟨h1, h2, h3, h4, rfl⟩
    · rw [hd.int] at rx; rw [he.int] at ry
      exact op_gt pins s σ H _ _ v u Q I rx ry ⟨_, _, rfl, rfl, o_bl W q⟩
    · obtain ⟨as, ra⟩ := hd.reads I h2 rx
      obtain ⟨bs, rb⟩ := he.reads I h1 ry
      have h5 : PySem.W.alike d.py e.py = true := (PySem.W.alike_comm _ _).trans h4
      exact PySem.W.gt_data ra rb h5 (alike_non h5 (D.py_non (D.sm_plain h1) h3)) (min_dep hu h2) ⟨.bl _, H, I, rfl, o_bl W q⟩
theorem d_le (hu : X.A.units + 64 < cLine) : OpR X (compareOp .LtE) (rD2 (pm X fn) opLe) := by
  intro pins s σ H x y v u Q I rx ry h
  obtain ⟨bo, F, b, W, d, e, r, hd, he, hg, q⟩ := h
  unfold opLe at hg
  cases hk : ltD e d with
  | none => rw [hk] at hg; cases hg
  | some k =>
    rw [hk] at hg; cases hg
    rcases ltD_cases hk with ⟨i, j, rfl, rfl, rfl⟩ | ⟨h1, h2, h3, h4, rfl⟩
    · rw [hd.int] at rx; rw [he.int] at ry
      have e1 : decide (j ≤ i) = !decide (i < j) := by rw [← decide_not]; exact decide_eq_decide.mpr (by omega)
      exact op_le pins s σ H _ _ v u Q I rx ry ⟨_, _, rfl, rfl, by show Q (.bl (decide (j ≤ i))) H; rw [e1]; exact o_bl W q⟩
    · obtain ⟨as, ra⟩ := hd.reads I h2 rx
      obtain ⟨bs, rb⟩ := he.reads I h1 ry
      have h5 : PySem.W.alike d.py e.py = true := (PySem.W.alike_comm _ _).trans h4
      exact PySem.W.le_data ra rb h5 (alike_non h5 (D.py_non (D.sm_plain h1) h3)) (min_dep hu h2) ⟨.bl _, H, I, rfl, o_bl W q⟩
/-! #### is -/
theorem Rp.not_non {m : Pm} {bo : Bo} {F : Addr → Prop} {H : Hp} {d : D} {v : V} (h : RpO m bo F H d v) (n : d ≠ .non) (t : ∀ k, d ≠ .tok k) : v ≠ .non := by
  rcases h with h | ⟨a, rfl, _⟩
  · cases d with
    | non => exact absurd rfl n
    | bl b => simp only [Rp] at h; subst h; exact fun z => nomatch z
    | int b => simp only [Rp] at h; subst h; exact fun z => nomatch z
    | str b => simp only [Rp] at h; subst h; exact fun z => nomatch z
    | tup ds => simp only [Rp] at h; obtain ⟨a, vs, rfl, _⟩ := h; exact fun z => nomatch z
    | lst ds => simp only [Rp] at h; obtain ⟨a, vs, rfl, _⟩ := h; exact fun z => nomatch z
    | dct ds => simp only [Rp] at h; obtain ⟨a, rfl, _⟩ := h; exact fun z => nomatch z
    | tok k => exact absurd rfl (t k)
  · exact fun z => nomatch z
theorem isN_dec {m : Pm} {bo : Bo} {F : Addr → Prop} {H : Hp} {d : D} {v : V} {r : D} (h : RpO m bo F H d v) (e : opIsN d = some r) : r = .bl (decide (v = .non)) := by
  unfold opIsN at e
  split at e
  · cases e
  · cases e
    have := h.non
    subst this
    simp
  · rename_i n2 n1
    cases e
    have := Rp.not_non h n1 n2
    simp [this]
theorem notN_dec {m : Pm} {bo : Bo} {F : Addr → Prop} {H : Hp} {d : D} {v : V} {r : D} (h : RpO m bo F H d v) (e : opNotN d = some r) : r = .bl (!decide (v = .non)) := by
  unfold opNotN at e
  split at e
  · cases e
  · cases e
    have := h.non
    subst this
    simp
  · rename_i n2 n1
    cases e
    have := Rp.not_non h n1 n2
    simp [this]
def opIsN2 (d e : D) : Option D := match e with
  | .non => opIsN d
  | _ => none
def opNotN2 (d e : D) : Option D := match e with
  | .non => opNotN d
  | _ => none
theorem d_isN : OpR X (compareOp .Is) (rD2 (pm X fn) opIsN2) := by
  intro pins s σ H x y v u Q I rx ry h
  obtain ⟨bo, F, b, W, d, e, r, hd, he, hg, q⟩ := h
  unfold opIsN2 at hg
  split at hg
  · have e1 := isN_dec hd hg
    subst e1
    exact op_isN pins s σ H x y v u Q I rx ry ⟨he.non, o_bl W q⟩
  · cases hg
theorem d_notN : OpR X (compareOp .IsNot) (rD2 (pm X fn) opNotN2) := by
  intro pins s σ H x y v u Q I rx ry h
  obtain ⟨bo, F, b, W, d, e, r, hd, he, hg, q⟩ := h
  unfold opNotN2 at hg
  split at hg
  · have e1 := notN_dec hd hg
    subst e1
    exact op_notN pins s σ H x y v u Q I rx ry ⟨he.non, o_bl W q⟩
  · cases hg
theorem d_isB : OpR X (compareOp .Is) (rD2 (pm X fn) opIsB) := by
  intro pins s σ H x y v u Q I rx ry h
  obtain ⟨bo, F, b, W, d, e, r, hd, he, hg, q⟩ := h
  unfold opIsB at hg
  split at hg
  · cases hg
    rw [hd.bl] at rx; rw [he.bl] at ry
    exact op_isBl pins s σ H _ _ v u Q I rx ry ⟨_, _, rfl, rfl, o_bl W q⟩
  · cases hg
theorem d_isntB : OpR X (compareOp .IsNot) (rD2 (pm X fn) opIsntB) := by
  intro pins s σ H x y v u Q I rx ry h
  obtain ⟨bo, F, b, W, d, e, r, hd, he, hg, q⟩ := h
  unfold opIsntB at hg
  split at hg
  · cases hg
    rw [hd.bl] at rx; rw [he.bl] at ry
    exact op_isnot_bl pins s σ H _ _ v u Q I rx ry ⟨_, _, rfl, rfl, o_bl W q⟩
  · cases hg
/-! #### in -/
theorem any_py {ds : List D} {x : D} : (D.pyL ds).any (fun z => PyData.eqv z x.py) = ds.any fun z => PyData.eqv z.py x.py := by
  rw [D.pyL_map, List.any_map]
  rfl
theorem in_room {X : Cx} {ds : List D} {x : D} (hu : X.A.units + 65 < cLine) (h : x.sm = true) : X.A.units + 1 + min (PyData.depthAll (D.pyL ds)) x.py.depth < cLine := by
  have := D.sm_dep h
  rw [D.py_dep x]
  have h2 : min (PyData.depthAll (D.pyL ds)) x.dep ≤ x.dep := Nat.min_le_right _ _
  omega
theorem d_in (hu : X.A.units + 65 < cLine) : OpR X (compareOp .In) (rD2 (pm X fn) opIn) := by
  intro pins s σ H x y v u Q I rx ry h
  obtain ⟨bo, F, b, W, d, e, r, hd, he, hg, q⟩ := h
  unfold opIn inD at hg
  cases e with
  | lst ds =>
    dsimp only at hg
    split at hg
    · rename_i hz
      cases hg
      obtain ⟨as, ra⟩ := hd.reads I hz.1 rx
      obtain ⟨bs, rb⟩ := he.reads I hz.2 ry
      have pl := D.py_layL ds (by simpa [D.plain] using D.sm_plain hz.2)
      exact SeqAt.in_list_reads (by simpa only [D.py] using rb) ra pl (D.py_lay d (D.sm_plain hz.1)) (in_room hu hz.1) ⟨.bl _, H, I, rfl, by rw [any_py]; exact o_bl W q⟩
    · cases hg
  | tup ds =>
    dsimp only at hg
    split at hg
    · rename_i hz
      cases hg
      obtain ⟨as, ra⟩ := hd.reads I hz.1 rx
      obtain ⟨bs, rb⟩ := he.reads I hz.2 ry
      have pl := D.py_layL ds (by simpa [D.plain] using D.sm_plain hz.2)
      exact SeqAt.in_tuple_reads (by simpa only [D.py] using rb) ra pl (D.py_lay d (D.sm_plain hz.1)) (in_room hu hz.1) ⟨.bl _, H, I, rfl, by rw [any_py]; exact o_bl W q⟩
    · cases hg
  | dct kvs =>
    obtain ⟨a, rfl, g⟩ := he.dct
    cases (show u = Value.ref a from ry)
    dsimp only at hg
    cases hk : dGet kvs d with
    | none => rw [hk] at hg; cases hg
    | some o =>
      rw [hk] at hg
      cases hg
      exact (dd_in (by omega) I g hd rx hk).1 fun s' I' => ⟨.bl _, H, I', rfl, o_bl W q⟩
  | _ => cases hg
theorem d_notIn (hu : X.A.units + 65 < cLine) : OpR X (compareOp .NotIn) (rD2 (pm X fn) opNotIn) := by
  intro pins s σ H x y v u Q I rx ry h
  obtain ⟨bo, F, b, W, d, e, r, hd, he, hg, q⟩ := h
  unfold opNotIn inD at hg
  cases e with
  | lst ds =>
    dsimp only at hg
    split at hg
    · rename_i hz
      cases hg
      obtain ⟨as, ra⟩ := hd.reads I hz.1 rx
      obtain ⟨bs, rb⟩ := he.reads I hz.2 ry
      have pl := D.py_layL ds (by simpa [D.plain] using D.sm_plain hz.2)
      exact SeqAt.notIn_list_reads (by simpa only [D.py] using rb) ra pl (D.py_lay d (D.sm_plain hz.1)) (in_room hu hz.1) ⟨.bl _, H, I, rfl, by rw [any_py]; exact o_bl W q⟩
    · cases hg
  | tup ds =>
    dsimp only at hg
    split at hg
    · rename_i hz
      cases hg
      obtain ⟨as, ra⟩ := hd.reads I hz.1 rx
      obtain ⟨bs, rb⟩ := he.reads I hz.2 ry
      have pl := D.py_layL ds (by simpa [D.plain] using D.sm_plain hz.2)
      exact SeqAt.notIn_tuple_reads (by simpa only [D.py] using rb) ra pl (D.py_lay d (D.sm_plain hz.1)) (in_room hu hz.1) ⟨.bl _, H, I, rfl, by rw [any_py]; exact o_bl W q⟩
    · cases hg
  | dct kvs =>
    obtain ⟨a, rfl, g⟩ := he.dct
    cases (show u = Value.ref a from ry)
    dsimp only at hg
    cases hk : dGet kvs d with
    | none => rw [hk] at hg; cases hg
    | some o =>
      rw [hk] at hg
      cases hg
      exact (dd_in (by omega) I g hd rx hk).2 fun s' I' => ⟨.bl _, H, I', rfl, o_bl W q⟩
  | _ => cases hg

/-! ### subscripts, slices -/
theorem RpL.atI {m : Pm} {bo : Bo} {F : Addr → Prop} {H : Hp} {ds : List D} {vs : List V} {i : Int} {d : D} (r : RpL m bo F H ds vs) (h : L2.atI ds i = some d) : ∃ v, L2.atI vs i = some v ∧ Rp m bo F H d v := by
  unfold L2.atI at h ⊢
  rw [r.length]
  cases hj : ixN ds.length i with
  | none => rw [hj] at h; cases h
  | some j =>
    rw [hj] at h
    exact r.get (by simpa using h)
theorem d_ix (hu : X.A.units + 64 < cLine) : IxR X (rD2 (pm X fn) ixD) := by
  intro value slice pins s σ H x y v u Q I rx ry h hs
  obtain ⟨bo, F, b, W, d, e, r, hd, he, hg, q⟩ := h
  unfold ixD at hg
  split at hg
  · obtain ⟨a, vs, rfl, s1, z1, r1⟩ := hd.tup
    rw [he.int] at ry
    obtain ⟨w, hw, rw'⟩ := r1.atI hg
    exact ix_tup value slice pins s σ H _ _ v u Q I rx ry ⟨a, vs, _, w, rfl, rfl, s1, hw, q _ F H (Grow.refl W.dom) W.box rw'⟩ hs
  · obtain ⟨a, vs, rfl, s1, z1, r1⟩ := hd.lst
    rw [he.int] at ry
    obtain ⟨w, hw, rw'⟩ := r1.atI hg
    exact ix_list value slice pins s σ H _ _ v u Q I rx ry ⟨a, vs, _, w, rfl, rfl, SqL.of s1, hw, q _ F H (Grow.refl W.dom) W.box rw'⟩ hs
  · split at hg
    · rename_i z i hz
      rw [hd.str] at rx; rw [he.int] at ry
      cases hc : L2.atI z.cps.toList i with
      | none => rw [hc] at hg; cases hg
      | some c =>
        rw [hc] at hg; cases hg
        exact ix_str value slice pins s σ H _ _ v u Q I rx ry ⟨z, i, c, rfl, rfl, hz, hc, q _ F H (Grow.refl W.dom) W.box (by simp [Rp])⟩ hs
    · cases hg
  · rename_i kvs
    obtain ⟨a, rfl, g⟩ := hd.dct
    cases (show v = Value.ref a from rx)
    cases hk : dGet kvs e with
    | none => rw [hk] at hg; cases hg
    | some o =>
      rw [hk] at hg
      obtain rfl : o = some r := hg
      refine tail_of PySem.F.slot_dict_getitem.lookup hs (g.type I).1 (dd_get (by omega) I g he ry hk fun v' w' s' I' rw' rp => ⟨v', H, I', rw', q _ F H (Grow.refl W.dom) W.box rp⟩)
  · cases hg
theorem RpL.cut {m : Pm} {bo : Bo} {F : Addr → Prop} {H : Hp} {ds : List D} {vs : List V} (r : RpL m bo F H ds vs) (lo hi : Option Int) : RpL m bo F H (cutD ds lo hi) (cutV vs lo hi) := by
  unfold cutD cutV
  rw [r.length]
  exact (r.drop _).take _
theorem d_sl : SlR X (rSl (pm X fn)) := by
  intro pins s σ H x v vl vu lo hi sl Q I rx hs pl pu h
  obtain ⟨bo, F, b, W, d, r, hd, hg, q⟩ := h
  unfold sliceD at hg
  split at hg
  · rename_i xs
    cases hg
    obtain ⟨a, vs, rfl, s1, z1, r1⟩ := hd.tup
    refine sl_tupA pins s σ H _ v vl vu lo hi sl Q I rx hs pl pu ⟨a, vs, s1 |> fun _ => rfl, s1, fun hw => ?_, fun _ p hp => ?_⟩
    · refine q _ F H (Grow.refl W.dom) W.box ?_
      simp only [Rp]
      refine ⟨a, vs, rfl, s1, z1, ?_⟩
      have e : cutV vs lo hi = vs := by
        unfold cutV
        rw [hw.1, hw.2, List.drop_zero, Nat.sub_zero, List.take_length]
      have := r1.cut lo hi
      rw [e] at this
      exact this
    · obtain ⟨g, hb, rr⟩ := new_tup W hp (r1.cut lo hi) (Nat.le_trans (cutV_length _ _ _) z1)
      exact q _ _ _ g hb rr
  · cases hg
    obtain ⟨a, vs, rfl, s1, z1, r1⟩ := hd.lst
    refine sl_list pins s σ H _ v vl vu lo hi sl Q I rx hs pl pu ⟨a, vs, rfl, SqL.of s1, fun p hp => ?_⟩
    obtain ⟨g, hb, rr⟩ := new_lst W hp (r1.cut lo hi) (Nat.le_trans (cutV_length _ _ _) z1)
    exact q _ _ _ g hb rr
  · split at hg
    · rename_i z hz
      cases hg
      rw [hd.str] at rx
      exact sl_str pins s σ H _ v vl vu lo hi sl Q I rx hs pl pu ⟨z, rfl, hz, q _ F H (Grow.refl W.dom) W.box (by simp [Rp])⟩
    · cases hg
  · cases hg
end
end Sv

set_option maxHeartbeats 4000000
/-! Sv5: built-in functions, isinstance, x[::-1], sorted. -/
namespace Sv
open PySem L2
open PyProof.Rows (IsTup Subscript_ subscriptTail tail_any)

/-! ### t[::-1] -/
theorem adjust_rev (n : Nat) : Builtin.Slice.sliceAdjust none none (-1) (n : Int) = ((n : Int) - 1, -1) := by
  unfold Builtin.Slice.sliceAdjust
  simp
theorem places_rev (n : Nat) : Builtin.Slice.slicePlaces ((n : Int) - 1) (-1) (-1) = n := by
  unfold Builtin.Slice.slicePlaces
  rw [if_neg (by omega)]
  split
  · rw [show -(-1 : Int) = 1 from rfl, Int.ediv_one]; omega
  · omega
theorem pick_rev (xs : List Value) : ((List.range xs.length).filterMap fun (k : Nat) => xs[(((xs.length : Int) - 1) + (k : Int) * (-1)).toNat]?) = xs.reverse := by
  apply List.ext_getElem?
  intro i
  have key : ∀ (m : Nat), m ≤ xs.length → ((List.range m).filterMap fun (k : Nat) => xs[(((xs.length : Int) - 1) + (k : Int) * (-1)).toNat]?) = (xs.reverse).take m := by
    intro m
    induction m with
    | zero => intro _; simp
    | succ m ih =>
      intro hm
      rw [List.range_succ, List.filterMap_append, ih (by omega)]
      have e : (((xs.length : Int) - 1) + (m : Int) * (-1)).toNat = xs.length - 1 - m := by omega
      have hlt : xs.length - 1 - m < xs.length := by omega
      simp only [List.filterMap_cons, List.filterMap_nil, e, List.getElem?_eq_getElem hlt]
      rw [List.take_succ, List.getElem?_reverse (by omega), List.getElem?_eq_getElem hlt]
      rfl
  rw [key _ (Nat.le_refl _)]
  rw [List.take_of_length_le (by simp)]
section
variable {prog : Program} {w : World} {A : Around} {E : Value → Shared → Prop} {s : Shared}
theorem sliceApplied_rev {sl : Addr} {t : Tok} {n : Nat} {Q : Int × Int × Nat → Shared → Prop} (hs : s.heap.IsSliceOf sl .none .none (.int (-1) t))
    (h : Q ((n : Int) - 1, -1, n) s) : wpAny (model prog w) A (Builtin.Slice.sliceApplied (.ref sl) (pure (n : Int))) Q E s := by
  obtain ⟨os, hos, hcs, hds⟩ := id hs
  unfold Builtin.Slice.sliceApplied Builtin.Slice.sliceFields
  refine wpAny_bind (wpAny_bind (wpAny_field hos hds (x := .none) rfl (wpAny_bind (wpAny_field hos hds (x := .none) rfl (wpAny_bind (wpAny_field hos hds (x := .int (-1) t) rfl (wpAny_pure ?_)))))))
  refine wpAny_bind (HT.slicePart_ (.int (-1) t) ?_)
  show wpAny _ _ (if ((-1 : Int) == 0) = true then _ else _) _ _ s
  rw [if_neg (by decide)]
  refine wpAny_bind (HT.slicePart_ .none (wpAny_bind (HT.slicePart_ .none (wpAny_bind (wpAny_pure ?_)))))
  show wpAny _ _ (match Builtin.Slice.sliceAdjust none none (-1) (n : Int) with | (lo, hi) => pure (lo, (-1 : Int), Builtin.Slice.slicePlaces lo hi (-1))) _ _ s
  rw [adjust_rev]
  show wpAny _ _ (pure ((n : Int) - 1, (-1 : Int), Builtin.Slice.slicePlaces ((n : Int) - 1) (-1) (-1))) _ _ s
  rw [places_rev]
  exact wpAny_pure h
/-- behind t[::-1] stands a new tuple, or t itself where it is empty .. it is not told which -/
theorem getItem_tuple_rev {t sl : Addr} {items : List Value} {tk : Tok} {Q : Value → Shared → Prop} (ht : IsTup s.heap t items.toArray) (hs : s.heap.IsSliceOf sl .none .none (.int (-1) tk))
    (h : Q (.ref s.heap.objs.size) { s with heap := s.heap.push { cls := .type "tuple", data := .seq items.reverse.toArray } }) (hsz : items.length ≤ sizeLine) : wpAny (model prog w) A (getItem (.ref t) (.ref sl)) Q E s := by
  have htake : sizeOk (.seq items.reverse.toArray) := by
    show items.reverse.toArray.size ≤ sizeLine
    rw [List.size_toArray, List.length_reverse]; exact hsz
  obtain ⟨os, hos, hcs, hds⟩ := id hs
  have hTs : s.TypeIs (.ref sl) "slice" := ⟨os, hos, hcs⟩
  unfold getItem
  try with_reducible refine wpAny_holding ?_
  first | refine wpAny_bind (wpAny_pure ?_) | skip
  refine wpAny_bind (wpAny_sequenceKey ht.typeIs (by decide) ?_)
  refine wpAny_bind (wpAny_callSpecial?_slot (name := Str.ofString "__getitem__") ht.typeIs PyProof.Rows.slot_tuple_getitem (wpAny_call_entry PyProof.Rows.slot_tuple_getitem ht.typeIs PyProof.Rows.entry_tuple_getitem ?_ (PyProof.Rows.args_tuple_getitem _ _)))
  show wpAny _ _ (Builtin.Tuple.tupleItemsOf (.ref t) >>= _) _ _ s
  refine wpAny_bind (PyProof.Rows.tupleItemsOf_ ht ?_)
  refine wpAny_bind (wpAny_typeOf hTs ?_)
  rw [if_pos (by decide)]
  have e0 : ((items.toArray.size : Nat) : Int) = ((items.length : Nat) : Int) := by simp
  refine wpAny_bind (sliceApplied_rev (n := items.toArray.size) hs ?_)
  show wpAny _ _ (if (((((items.toArray.size : Nat) : Int) - 1) == 0 && (-1 : Int) == 1) && items.toArray.size == items.toArray.size) = true then _ else _) _ _ s
  rw [if_neg (by rw [show ((-1 : Int) == 1) = false from rfl]; simp)]
  have e1 : ((List.range items.toArray.size).filterMap fun (k : Nat) => items.toArray[((((items.toArray.size : Nat) : Int) - 1) + (k : Int) * (-1)).toNat]?).toArray = items.reverse.toArray := by
    have := pick_rev items
    simp only [List.size_toArray, List.getElem?_toArray]
    rw [this]
  rw [e1]
  first
    | exact wpAny_bind (m := Builtin.Tuple.tupleExact _) (wpAny_newObj_type (wpAny_pure ⟨_, rfl, wpAny_pure h⟩) htake)
    | exact wpAny_bind (m := Builtin.Tuple.tupleExact _) (wpAny_newObj_type (wpAny_bind (wpAny_pure (wpAny_pure ⟨_, rfl, wpAny_pure h⟩))) htake)
    | exact wpAny_bind (wpAny_bind (m := Builtin.Tuple.tupleExact _) (wpAny_newObj_type (wpAny_pure (wpAny_pure ⟨_, rfl, wpAny_pure h⟩)) htake))
    | exact wpAny_bind (wpAny_bind (m := Builtin.Tuple.tupleExact _) (wpAny_newObj_type (wpAny_pure ⟨_, rfl, wpAny_pure h⟩) htake))
end
section
variable {fn : Nat → Option V} {X : Cx} {e a : Expr} {es : List Expr} {f g : Ex} {pos : Pos}
/-- x[::-1] -/
theorem px_rev {k : Nat} {p1 p2 p3 : Pos} (he : PEo fn X e f) : PEx fn X (.Subscript e (.Slice none none (some (.UnaryOp .USub (.Constant (.int 1) k p1) p2)) p3) pos) (eUn revD f) := by
  refine ⟨fun pins s σ H Q I h => ?_⟩
  refine Subscript_ (thn (he.run pins s σ H _ I (one_o h)) fun v s1 ⟨x, H1, I1, r1, q1⟩ => ?_)
  obtain ⟨bo, F, b, W, d, r, hd, hg, q⟩ := q1
  have hst : PO X (some (.UnaryOp .USub (.Constant (.int 1) k p1) p2)) (tPart (tUn (rU fun i => .int (-i)) (tC (.int 1)))) := po_some (pe_un un_neg pe_int)
  refine wpAny_Slice (thn (po_none.run pins s1 σ H1 (fun o H2 => o = none ∧ H2 = H1) I1 ⟨rfl, rfl⟩) fun vl s2 ⟨l, H2, I2, pl, el, e2⟩ => ?_)
  subst el e2
  refine thn (po_none.run pins s2 σ H2 (fun o H3 => o = none ∧ H3 = H2) I2 ⟨rfl, rfl⟩) fun vu s3 ⟨u, H3, I3, pu, eu, e3⟩ => ?_
  subst eu e3
  refine thn (hst.run pins s3 σ H3 (fun o H4 => o = some (-1) ∧ H4 = H3) I3 ⟨1, rfl, -1, rfl, rfl, rfl⟩) fun vs s4 ⟨o, H4, I4, ps, eo, e4⟩ => ?_
  subst eo e4
  have I5 : Inv X pins σ H4 { s4 with heap := s4.heap.push { cls := .type "slice", data := .fields #[vl, vu, vs] } } := I4.kept (t' := s4.toks) fun b ob q => Heap.get?_push_of_some _ q
  have fresh := I5.hok.fresh (Nat.le_refl _)
  unfold revD at hg
  split at hg
  · cases hg
    obtain ⟨p, ws, rfl, s1', z1', r1'⟩ := hd.tup
    cases r1
    obtain ⟨its, r, ht, hz⟩ := I5.tuple s1'
    have hlen := r.length
    cases pl
    cases pu
    obtain ⟨tk, rfl⟩ : ∃ t, vs = .int (-1) t := by cases ps; exact ⟨_, rfl⟩
    show wpAny (model X.prog X.w) X.A (subscriptTail e (.Slice none none (some (.UnaryOp .USub (.Constant (.int 1) k p1) p2)) p3) (.ref p) (.ref s4.heap.objs.size)) (EP X pins σ Q) X.xe { s4 with heap := s4.heap.push { cls := .type "slice", data := .fields #[.none, .none, .int (-1) tk] } }
    refine tail_any (ops := [.ref p, .ref s4.heap.objs.size]) ht.typeIs (PyProof.Rows.slot_tuple_getitem.lookup) ?_ (by with_unfolding_all rfl)
    refine getItem_tuple_rev ht (Heap.IsSliceOf.new _ .none .none (.int (-1) tk)) ?_ (by omega)
    obtain ⟨g', hb', rr⟩ := new_tup W fresh r1'.reverse (by rw [List.length_reverse]; exact z1')
    refine ⟨.ref _, _, I5.laid (t' := s4.toks) (o := .tup ws.reverse) (fun b ob q => Heap.get?_push_of_some _ q) (Nat.le_refl _) ?_, rfl, q _ _ _ g' hb' rr⟩
    exact ⟨by rw [List.length_reverse]; exact hz, _, r.reverse, ⟨_, Heap.get?_push_size _ rfl, rfl, _, rfl⟩⟩
  · cases hg
    obtain ⟨p, ws, rfl, s1', z1', r1'⟩ := hd.lst
    cases r1
    obtain ⟨its, r, ht, hz⟩ := I5.list (SqL.of s1')
    have hlen := r.length
    show wpAny (model X.prog X.w) X.A (subscriptTail e (.Slice none none (some (.UnaryOp .USub (.Constant (.int 1) k p1) p2)) p3) (.ref p) (.ref s4.heap.objs.size)) (EP X pins σ Q) X.xe { s4 with heap := s4.heap.push { cls := .type "slice", data := .fields #[vl, vu, vs] } }
    refine tail_any (ops := [.ref p, .ref s4.heap.objs.size]) ht.isList.typeIs (PySem.slot_list_getitem.lookup) ?_ (by with_unfolding_all rfl)
    refine wpAny_getItem_list_slice ht.isList (Heap.IsSliceOf.new _ vl vu vs) pl pu ps (by decide) ?_ (by rw [List.size_toArray]; omega)
    rw [PySem.W.krv_pick]
    obtain ⟨g', hb', rr⟩ := new_lst W fresh r1'.reverse (by rw [List.length_reverse]; exact z1')
    refine ⟨.ref _, _, I5.laid (t' := s4.toks) (o := .lst ws.reverse) (fun b ob q => Heap.get?_push_of_some _ q) (Nat.le_refl _) ?_, rfl, q _ _ _ g' hb' rr⟩
    exact ⟨by rw [List.length_reverse]; exact hz, _, 0, r.reverse, Heap.get?_push_size _ rfl⟩
  · cases hg

/-! ### isinstance -/
def tyN : Ty → String
  | .int => "int"
  | .bool => "bool"
  | .str => "str"
  | .tuple => "tuple"
  | .list => "list"
theorem isT_key {m : Pm} {H : Hp} {d : D} {v : V} {t : Ty} {k : Bool} (T : String) (e : isT d t = some k) (a : TyX m.K H v (.type T)) (b : ∀ t', kitB T (tyN t') = isT d t') : ∃ T : String, TyX m.K H v (.type T) ∧ kitB T (tyN t) = some k :=
  ⟨T, a, (b t).trans e⟩
theorem isT_ty {m : Pm} {bo : Bo} {F : Addr → Prop} {H : Hp} {d : D} {v : V} {t : Ty} {k : Bool} (h : RpO m bo F H d v) (e : isT d t = some k) : ∃ T : String, TyX m.K H v (.type T) ∧ kitB T (tyN t) = some k := by
  rcases h with h | ⟨p, rfl, _, _, h⟩
  · cases d with
    | non => simp only [Rp] at h; subst h; exact isT_key "NoneType" e (.base .non) fun t' => by cases t' <;> decide +kernel
    | bl b => simp only [Rp] at h; subst h; exact isT_key "bool" e (.base (.bl b)) fun t' => by cases t' <;> rfl
    | int b => simp only [Rp] at h; subst h; exact isT_key "int" e (.base (.int b)) fun t' => by cases t' <;> rfl
    | str b => simp only [Rp] at h; subst h; exact isT_key "str" e (.base (.str b)) fun t' => by cases t' <;> rfl
    | tup ds =>
      simp only [Rp] at h
      obtain ⟨p, vs, rfl, s, z, r⟩ := h
      have e2 : TyX m.K H (.ref p) (.type "tuple") := by
        rcases s with (s | ⟨o, s⟩) | ⟨o, its, n, s, c, _⟩
        · exact .base (.tup s)
        · exact .fTuple s
        · exact .kTuple s c
      exact isT_key "tuple" e e2 fun t' => by cases t' <;> rfl
    | lst ds =>
      simp only [Rp] at h
      obtain ⟨p, vs, rfl, f, s, z, r⟩ := h
      exact isT_key "list" e (.base (.lst s)) fun t' => by cases t' <;> rfl
    | dct _ => simp [isT] at e
    | tok _ => simp [isT] at e
  · cases d with
    | lst ds => obtain ⟨vs, s, z, r⟩ := h; exact isT_key "list" e (.base (.lst s)) fun t' => by cases t' <;> rfl
    | dct _ => simp [isT] at e
    | _ => exact (show False from h).elim
theorem px_isi {t : Ty} {x : Str} {p p2 : Pos} (he : PEo fn X e f) (hg : Gl X "isinstance") (hm : X.mg "isinstance" = none) (hg2 : Gl X x) (hm2 : X.mg x = none) (hv2 : bootBuiltins x = some (.type (tyN t))) (hn : x ≠ "__name__" := by decide) (hd : (x == ("__debug__" : Str)) = false := by decide)
    (hs : starEach (e :: [.Name x p2]) X.env = (false, eval e X.env) :: starEach [.Name x p2] X.env := by rfl) (hpl : (backTo pos (starEach [.Name x p2] X.env)).any (·.1) = false := by rfl) :
    PEx fn X (.Call (.Name "isinstance" p) [e, .Name x p2] [] pos) (eUn (fun d => (isT d t).map .bl) f) := by
  refine PE.imp (pe_callB call_isi hg hm (by decide +kernel) (pa_cons he (pa_cons (pe_bltn (v := .ty (tyN t)) hg2 hm2 hv2 rfl hn hd) pa_nil) hs) (by decide) (by decide) hs hpl) fun σ H Q h => ?_
  obtain ⟨H0, F0, bo, ρ, F, b, R, d, b1, e1, k⟩ := one_o h
  refine ⟨H0, F0, bo, ρ, F, b, R, d, b1, e1, fun v F' H' g hb rv => ?_⟩
  obtain ⟨bo', F2, b2, W, d', r, rd, er, q⟩ := k v F' H' g hb rv
  have er' : Option.map D.bl (isT d' t) = some r := er
  cases ek : isT d' t with
  | none => rw [ek] at er'; cases er'
  | some k =>
    rw [ek] at er'; cases er'
    obtain ⟨T, h1, h2⟩ := isT_ty rd ek
    refine ⟨_, _, .type T, .type (tyN t), k, rfl, .ty _, h1, kit_ty h2, ?_⟩
    exact q _ F2 H' (Grow.refl W.dom) W.box (by simp [Rp])

/-! ### len, any, all, sum .. -/
theorem same_o {Q : VK} {bo : Bo} {F : Addr → Prop} {H : Hp} {b : Bx} {m : Pm} {d : D} {w : V} (W : Wo bo F H b) (q : ∀ v F' H', Grow bo F H F' H' → BoxOk bo F' H' b → Rp m bo F' H' d v → Q v H') (h : Rp m bo F H d w) : Q w H :=
  q _ F H (Grow.refl W.dom) W.box h
theorem d_len : CallR X (.builtin "len") (rDn (pm X fn) lenD) := by
  intro pins s σ H xs us Q I r h
  obtain ⟨bo, F, b, W, ds, d, hr, hg, q⟩ := h
  unfold lenD at hg
  split at hg
  · cases hg
    obtain ⟨v, rfl, h1⟩ := hr.one
    obtain ⟨a, rfl, g⟩ := h1.dct
    rw [Vals.ref1 r]
    exact dd_len I g fun t s' I' => ⟨.int _, H, I', ⟨t, rfl⟩, same_o W q (by simp [Rp])⟩
  · cases hg
    obtain ⟨v, rfl, h1⟩ := hr.one
    obtain ⟨p, vs, rfl, s1, z1, r1⟩ := h1.tup
    exact call_len_seq pins s σ H _ us Q I r ⟨p, vs, rfl, .inr s1, by rw [r1.length]; exact same_o W q (by simp [Rp])⟩
  · cases hg
    obtain ⟨v, rfl, h1⟩ := hr.one
    obtain ⟨p, vs, rfl, s1, z1, r1⟩ := h1.lst
    exact call_len_seq pins s σ H _ us Q I r ⟨p, vs, rfl, .inl (SqL.of s1), by rw [r1.length]; exact same_o W q (by simp [Rp])⟩
  · split at hg
    · rename_i z hz
      cases hg
      obtain ⟨v, rfl, h1⟩ := hr.one
      have := h1.str
      subst this
      exact call_len_str pins s σ H _ us Q I r ⟨z, rfl, hz, same_o W q (by simp [Rp])⟩
    · cases hg
  · cases hg
theorem boolsD_map : ∀ {ds : List D} {bs : List Bool}, boolsD ds = some bs → ds = bs.map .bl
  | [], bs, h => by cases h; rfl
  | d :: ds, bs, h => by
    cases d with
    | bl b =>
      simp only [boolsD] at h
      cases e : boolsD ds with
      | none => rw [e] at h; cases h
      | some r => rw [e] at h; cases h; rw [boolsD_map e]; rfl
    | _ => simp [boolsD] at h
theorem intsD_map : ∀ {ds : List D} {bs : List Int}, intsD ds = some bs → ds = bs.map .int
  | [], bs, h => by cases h; rfl
  | d :: ds, bs, h => by
    cases d with
    | int b =>
      simp only [intsD] at h
      cases e : intsD ds with
      | none => rw [e] at h; cases h
      | some r => rw [e] at h; cases h; rw [intsD_map e]; rfl
    | _ => simp [intsD] at h
theorem strsD_map : ∀ {ds : List D} {bs : List Str}, strsD ds = some bs → ds = bs.map .str
  | [], bs, h => by cases h; rfl
  | d :: ds, bs, h => by
    cases d with
    | str b =>
      simp only [strsD] at h
      cases e : strsD ds with
      | none => rw [e] at h; cases h
      | some r => rw [e] at h; cases h; rw [strsD_map e]; rfl
    | _ => simp [strsD] at h
theorem d_any (hc : X.calm = true) : CallR X (.builtin "any") (rDn (pm X fn) anyD) := by
  intro pins s σ H xs us Q I r h
  obtain ⟨bo, F, b, W, ds, d, hr, hg, q⟩ := h
  unfold anyD at hg
  split at hg
  · rename_i ds
    cases e : boolsD ds with
    | none => rw [e] at hg; cases hg
    | some bs =>
      rw [e] at hg; cases hg
      obtain ⟨v, rfl, h1⟩ := hr.one
      obtain ⟨p, vs, rfl, s1, z1, r1⟩ := h1.lst
      rw [boolsD_map e] at r1
      have := r1.bools
      subst this
      exact cr_any hc pins s σ H _ us Q I r ⟨p, bs, rfl, SqL.of s1, same_o W q (by simp [Rp])⟩
  · cases hg
theorem d_all (hc : X.calm = true) : CallR X (.builtin "all") (rDn (pm X fn) allD) := by
  intro pins s σ H xs us Q I r h
  obtain ⟨bo, F, b, W, ds, d, hr, hg, q⟩ := h
  unfold allD at hg
  split at hg
  · rename_i ds
    cases e : boolsD ds with
    | none => rw [e] at hg; cases hg
    | some bs =>
      rw [e] at hg; cases hg
      obtain ⟨v, rfl, h1⟩ := hr.one
      obtain ⟨p, vs, rfl, s1, z1, r1⟩ := h1.lst
      rw [boolsD_map e] at r1
      have := r1.bools
      subst this
      exact cr_all hc pins s σ H _ us Q I r ⟨p, bs, rfl, SqL.of s1, same_o W q (by simp [Rp])⟩
  · cases hg
theorem sum_rawT {prog : Program} {w : World} {A : Around} {E : Value → Shared → Prop} {s : Shared} {l : Addr} {its : List Value} {ns : List Int} {Q : Value → Shared → Prop} (hh : A.handled = none) (hl : PyProof.Rows.IsTup s.heap l its.toArray) (hi : PyProof.Rows.IntsAre its ns)
    (h : ∀ h' tk t', (∀ b o, s.heap.get? b = some o → h'.get? b = some o) → Q (.int ns.sum t') { s with heap := h', toks := tk }) : wpAny (model prog w) A (call (.builtin "sum") [.ref l]) Q E s := by
  obtain ⟨xs, e⟩ := hi.allInts.items
  have hn : PySem.numsOf (intItems xs).toList = ns := by rw [← e]; exact hi.numsOf
  rw [nums_intItems] at hn
  rw [e] at hl
  refine PySem.W.ktm_sumG hh hl fun h' tk t' hk => ?_
  have := h h' tk t' hk
  rw [preSum_eq, List.take_of_length_le (by simp), hn]; exact this
theorem d_sum (hc : X.calm = true) : CallR X (.builtin "sum") (rDn (pm X fn) sumD) := by
  intro pins s σ H xs us Q I r h
  obtain ⟨bo, F, b, W, ds, d, hr, hg, q⟩ := h
  unfold sumD at hg
  split at hg
  · rename_i ds
    cases e : intsD ds with
    | none => rw [e] at hg; cases hg
    | some bs =>
      rw [e] at hg; cases hg
      obtain ⟨v, rfl, h1⟩ := hr.one
      obtain ⟨p, vs, rfl, s1, z1, r1⟩ := h1.lst
      rw [intsD_map e] at r1
      have := r1.ints
      subst this
      exact cr_sum hc pins s σ H _ us Q I r ⟨p, bs, rfl, SqL.of s1, same_o W q (by simp [Rp])⟩
  · rename_i ds
    cases e : intsD ds with
    | none => rw [e] at hg; cases hg
    | some bs =>
      rw [e] at hg; cases hg
      obtain ⟨v, rfl, h1⟩ := hr.one
      obtain ⟨p, vs, rfl, s1, z1, r1⟩ := h1.tup
      rw [intsD_map e] at r1
      have := r1.ints
      subst this
      obtain ⟨its, rv, hl, _⟩ := I.tuple s1
      rw [Vals.ref1 r]
      exact sum_rawT (I.ok.hd hc) hl rv.ints fun h' tk t' hk => ⟨.int _, H, I.kept hk, ⟨_, rfl⟩, same_o W q (by simp [Rp])⟩
  · cases hg
theorem d_abs : CallR X (.builtin "abs") (rDn (pm X fn) absD) := by
  intro pins s σ H xs us Q I r h
  obtain ⟨bo, F, b, W, ds, d, hr, hg, q⟩ := h
  unfold absD at hg
  split at hg
  · cases hg
    obtain ⟨v, rfl, h1⟩ := hr.one
    have := h1.int
    subst this
    exact call_abs pins s σ H _ us Q I r ⟨_, rfl, same_o W q (by simp [Rp])⟩
  · cases hg
theorem d_max2 (hc : X.calm = true) : CallR X (.builtin "max") (rDn (pm X fn) max2D) := by
  intro pins s σ H xs us Q I r h
  obtain ⟨bo, F, b, W, ds, d, hr, hg, q⟩ := h
  unfold max2D at hg
  split at hg
  · cases hg
    obtain ⟨v, u, rfl, h1, h2⟩ := hr.two
    have e1 := h1.int
    have e2 := h2.int
    subst e1 e2
    exact call_max2 hc pins s σ H _ us Q I r ⟨_, _, rfl, same_o W q (by simp [Rp])⟩
  · cases hg
theorem d_min2 (hc : X.calm = true) : CallR X (.builtin "min") (rDn (pm X fn) min2D) := by
  intro pins s σ H xs us Q I r h
  obtain ⟨bo, F, b, W, ds, d, hr, hg, q⟩ := h
  unfold min2D at hg
  split at hg
  · cases hg
    obtain ⟨v, u, rfl, h1, h2⟩ := hr.two
    have e1 := h1.int
    have e2 := h2.int
    subst e1 e2
    exact call_min2 hc pins s σ H _ us Q I r ⟨_, _, rfl, same_o W q (by simp [Rp])⟩
  · cases hg
theorem d_int : CallR X (.type "int") (rDn (pm X fn) intD) := by
  intro pins s σ H xs us Q I r h
  obtain ⟨bo, F, b, W, ds, d, hr, hg, q⟩ := h
  unfold intD at hg
  split at hg
  · cases hg
    obtain ⟨v, rfl, h1⟩ := hr.one
    have := h1.int
    subst this
    exact call_int1 pins s σ H _ us Q I r (.inl ⟨_, rfl, same_o W q (by simp [Rp])⟩)
  · cases hg
    obtain ⟨v, rfl, h1⟩ := hr.one
    have := h1.bl
    subst this
    exact call_int1 pins s σ H _ us Q I r (.inr ⟨_, rfl, same_o W q (by simp [Rp])⟩)
  · cases hg
theorem d_str : CallR X (.type "str") (rDn (pm X fn) strD) := by
  intro pins s σ H xs us Q I r h
  obtain ⟨bo, F, b, W, ds, d, hr, hg, q⟩ := h
  unfold strD at hg
  split at hg
  · split at hg
    · rename_i i hz
      cases hg
      obtain ⟨v, rfl, h1⟩ := hr.one
      have := h1.int
      subst this
      exact call_str_int pins s σ H _ us Q I r ⟨i, rfl, hz, same_o W q (by simp [Rp])⟩
    · cases hg
  · cases hg
theorem d_tuple : CallR X (.type "tuple") (rDn (pm X fn) tupleD) := by
  intro pins s σ H xs us Q I r h
  obtain ⟨bo, F, b, W, ds, d, hr, hg, q⟩ := h
  unfold tupleD at hg
  split at hg
  · cases hg
    obtain ⟨v, rfl, h1⟩ := hr.one
    obtain ⟨p, vs, rfl, s1, z1, r1⟩ := h1.lst
    refine call_tuple_of pins s σ H _ us Q I r ⟨p, vs, rfl, .inl ⟨SqL.of s1, fun l hl => ?_⟩⟩
    obtain ⟨g', hb', rr⟩ := new_tup W hl r1 z1
    exact q _ _ _ g' hb' rr
  · cases hg
    obtain ⟨v, rfl, h1⟩ := hr.one
    obtain ⟨p, vs, rfl, s1, z1, r1⟩ := h1.tup
    refine call_tuple_of pins s σ H _ us Q I r ⟨p, vs, rfl, .inr ⟨s1, same_o W q ?_⟩⟩
    simp only [Rp]
    exact ⟨p, vs, rfl, s1, z1, r1⟩
  · cases hg
theorem d_list : CallR X (.type "list") (rDnN (pm X fn) listD) := by
  intro pins s σ H xs us Q I r h
  obtain ⟨bo, F, b, W, ds, d, hr, hg, q⟩ := h
  unfold listD at hg
  split at hg
  · cases hg
    obtain ⟨v, rfl, h1⟩ := hr.one
    obtain ⟨p, vs, rfl, s1, z1, r1⟩ := h1.lst
    refine call_list_of pins s σ H _ us Q I r ⟨p, vs, rfl, .inl (SqL.of s1), fun l hl => ?_⟩
    obtain ⟨g', hb', nf, rr⟩ := new_own W hl r1 z1
    exact q _ _ _ g' hb' hl nf rr
  · cases hg
    obtain ⟨v, rfl, h1⟩ := hr.one
    obtain ⟨p, vs, rfl, s1, z1, r1⟩ := h1.tup
    refine call_list_of pins s σ H _ us Q I r ⟨p, vs, rfl, .inr s1, fun l hl => ?_⟩
    obtain ⟨g', hb', nf, rr⟩ := new_own W hl r1 z1
    exact q _ _ _ g' hb' hl nf rr
  · cases hg
end
end Sv

set_option maxHeartbeats 4000000
/-! Sv6: sorted of lists and tuples of alike data. -/
namespace Sv
open PySem L2 PySem.W
open PyProof.Rows (seqObj)

section
variable {prog : Program} {w : World} {A : Around} {E : Value → Shared → Prop} {s : Shared}
theorem collect_seq {l : Addr} {vs : List Value} {o : Obj} {n : Nat} {Q : List Value → Shared → Prop} (ho : s.heap.get? l = some o) (hc : o.cls = .type "list" ∨ o.cls = .type "tuple") (hd : o.data = .seq vs.toArray n)
    (h : Q vs { s with heap := (s.heap.push (seqObj "list" #[] 0)).update s.heap.objs.size (Obj.mapSeq (· ++ vs.toArray)) }) (hsz : vs.length ≤ sizeLine) :
    wpAny (model prog w) A (collect (.ref l)) Q E s := by
  unfold collect
  refine wpAny_bind (wpAny_runValue (codeAny_builtin PyProof.Rows.entry_proto_collect' ?_))
  show wpAny _ _ (do again (.builtin "list.__iadd__" ⟨[← newList [], .ref l], []⟩)) _ _ s
  refine wpAny_bind (wpAny_newList (wpAny_pure ⟨Code.quiet_builtin _ (by decide +kernel), codeAny_builtin PyProof.Rows.entry_list_iadd' ?_⟩))
  show wpAny _ _ (Builtin.List.listExtendWith (.ref s.heap.objs.size) (.ref l) (.ref s.heap.objs.size)) _ _ { s with heap := s.heap.push (seqObj "list" #[] 0) }
  unfold Builtin.List.listExtendWith
  have ho' : (s.heap.push (seqObj "list" #[] 0)).get? l = some o := Heap.get?_push_of_some _ ho
  have hb : ∀ T, o.cls = .type T → (T = "list" ∨ T = "tuple") → (Builtin.List.listSameRef (.ref s.heap.objs.size) (.ref l) || Value.type T == Value.type "list" || Value.type T == Value.type "tuple") = true := fun T _ e => by
    rcases e with rfl | rfl
    · rw [show (Value.type "list" == Value.type "list") = true from rfl]; simp
    · rw [show (Value.type "tuple" == Value.type "tuple") = true from rfl]; simp
  obtain ⟨T, hT, hT2⟩ : ∃ T, o.cls = .type T ∧ (T = "list" ∨ T = "tuple") := by
    rcases hc with h | h
    · exact ⟨_, h, .inl rfl⟩
    · exact ⟨_, h, .inr rfl⟩
  refine wpAny_bind (wpAny_typeOf (T := T) ⟨o, ho', hT⟩ ?_)
  rw [if_pos (hb T hT hT2)]
  refine wpAny_bind (PyProof.Rows.listItems_at ho' hd ?_)
  refine wpAny_bind (PyProof.Rows.listItems_at (xs := #[]) (n := 0) (Heap.get?_push_size _ rfl) rfl ?_)
  rw [if_neg (by simp)]
  refine wpAny_bind (PyProof.Rows.listUpdate_at (xs := #[]) (n := 0) (Heap.get?_push_size _ rfl) rfl ?_ (Nat.zero_le _) (by simp only [Array.size_append, List.size_toArray, List.length_nil]; omega))
  refine wpAny_pure ?_
  show wpAny (model prog w) A (do
      let o ← load s.heap.objs.size
      match o.data with
      | .seq xs _ => pure xs.toList
      | _ => unsupported "internal:collect") Q E { s with heap := (s.heap.push (seqObj "list" #[] 0)).update s.heap.objs.size (Obj.mapSeq (· ++ vs.toArray)) }
  refine wpAny_bind (wpAny_load (PyProof.Rows.get?_update_seq (Heap.get?_push_size _ rfl) _) ?_)
  show wpAny _ _ (pure ((#[] : Array Value) ++ vs.toArray).toList) Q E _
  rw [show ((#[] : Array Value) ++ vs.toArray).toList = vs by simp]
  exact wpAny_pure h
theorem sorted_seq {l : Addr} {vs : List Value} {o : Obj} {n : Nat} {kw : List (Str × Value)} {Q : Value → Shared → Prop} (ho : s.heap.get? l = some o) (hc : o.cls = .type "list" ∨ o.cls = .type "tuple") (hd : o.data = .seq vs.toArray n) (hL : vs.length ≤ sizeLine)
    (ha1 : argsOk "sorted" ⟨[.ref l], kw⟩) (ha2 : ∀ x, argsOk "list.sort" ⟨[.ref x], kw⟩)
    (body : ∀ E' : Value → Shared → Prop, wpAny (model prog w) A.in1.in1 (Builtin.«list.sort» ⟨[.ref (s.heap.objs.size + 1)], kw⟩) (fun f s' => f = .done (.ret .none) ∧ Q (.ref (s.heap.objs.size + 1)) s') E' { s with heap := copyHeap s.heap vs }) :
    wpAny (model prog w) A (call (.builtin "sorted") [.ref l] kw) Q E s := by
  refine PyProof.Rows.call_function_entry_kw PyProof.Rows.kind_sorted PyProof.Rows.plain_sorted PyProof.Rows.entry_sorted ha1 ?_
  unfold Builtin.«sorted»
  refine wpAny_bind (m := checkCount "sorted" 1 1 _) (wpAny_pure ?_)
  refine wpAny_bind (collect_seq ho hc hd ?_ hL)
  refine wpAny_bind (wpAny_newList ?_ hL)
  have hsz : ((s.heap.push (seqObj "list" #[] 0)).update s.heap.objs.size (Obj.mapSeq (· ++ vs.toArray))).objs.size = s.heap.objs.size + 1 := by
    rw [Heap.size_update, PyProof.Rows.size_push']
  show wpAny _ _ _ _ _ { s with heap := copyHeap s.heap vs }
  rw [hsz]
  refine wpAny_bind (wpAny_holding (PyProof.Rows.wpAny_call_entry_kw PyProof.Rows.slot_list_sort ⟨_, copyHeap_at s.heap vs, rfl⟩ PyProof.Rows.entry_list_sort ?body (ha2 _)))
  case body =>
    show wpAny (model prog w) A.in1.in1 (Builtin.«list.sort» ⟨[.ref (s.heap.objs.size + 1)], kw⟩) _ _ _
    refine wpAny_mono (body _) (fun f s' hf => ?_) fun _ _ e => e
    obtain ⟨rfl, hq⟩ := hf
    exact ⟨_, rfl, wpAny_pure ⟨_, rfl, hq⟩⟩
end

theorem each_of {α β : Type} {R : α → β → Prop} : ∀ {as : List α} {bs : List β}, as.length = bs.length → (∀ (i : Nat) a b, as[i]? = some a → bs[i]? = some b → R a b) → EachIs R as bs
  | [], [], _, _ => .nil
  | [], _ :: _, h, _ => by simp at h
  | _ :: _, [], h, _ => by simp at h
  | a :: as, b :: bs, h, k => .cons (k 0 a b rfl rfl) (each_of (by simpa using h) fun i a b e1 e2 => k (i + 1) a b (by simpa using e1) (by simpa using e2))
theorem each_get {α β : Type} {R : α → β → Prop} : ∀ {as : List α} {bs : List β}, EachIs R as bs → as.length = bs.length ∧ ∀ (i : Nat) a, as[i]? = some a → ∃ b, bs[i]? = some b ∧ R a b
  | _, _, .nil => ⟨rfl, fun i a h => by simp at h⟩
  | _, _, .cons h t => by
    obtain ⟨l, g⟩ := each_get t
    refine ⟨by simp [l], fun i a e => ?_⟩
    cases i with
    | zero => simp at e; subst e; exact ⟨_, rfl, h⟩
    | succ i => obtain ⟨b, h1, h2⟩ := g i a (by simpa using e); exact ⟨b, by simpa using h1, h2⟩
theorem vals_of_each {m : Pm} {bo : Bo} {F : Addr → Prop} {H : Hp} : ∀ {us : List Value} {ds : List D}, EachIs (fun u d => ∃ v, RelV v u ∧ Rp m bo F H d v) us ds → ∃ vs, Vals vs us ∧ RpL m bo F H ds vs
  | _, _, .nil => ⟨[], .nil, RpL.nil⟩
  | _, _, .cons ⟨v, r, p⟩ t => by
    obtain ⟨vs, h1, h2⟩ := vals_of_each t
    exact ⟨v :: vs, .cons r h1, RpL.cons p h2⟩
theorem each_of_vals {m : Pm} {bo : Bo} {F : Addr → Prop} {H : Hp} : ∀ {us : List Value} {vs : List V} {ds : List D}, Vals vs us → RpL m bo F H ds vs → EachIs (fun u d => ∃ v, RelV v u ∧ Rp m bo F H d v) us ds
  | _, _, [], .nil, _ => .nil
  | _, _, [], .cons _ _, h => by simp [RpL] at h
  | _, _, d :: ds, .nil, h => by simp [RpL] at h
  | _, _, d :: ds, .cons r t, h => .cons ⟨_, r, h.head.1⟩ (each_of_vals t h.head.2)

section
variable {fn : Nat → Option V} {X : Cx}
theorem sortOk_facts {ds : List D} (h : sortOk ds = true) : (∀ d ∈ ds, d.sm = true) ∧ AllAlike (ds.map D.py) ∧ Sortable (ds.map D.py) := by
  unfold sortOk at h
  rw [Bool.and_eq_true, Bool.and_eq_true] at h
  obtain ⟨⟨h1, h2⟩, h3⟩ := h
  have h1 := List.all_eq_true.mp h1
  have h2 := List.all_eq_true.mp h2
  refine ⟨h1, ?_, ?_⟩
  · intro d hd d' hd'
    obtain ⟨a, ha, rfl⟩ := List.mem_map.mp hd
    obtain ⟨b, hb, rfl⟩ := List.mem_map.mp hd'
    exact List.all_eq_true.mp (h2 a ha) b hb
  · rw [Bool.or_eq_true] at h3
    rcases h3 with h3 | h3
    · refine .inl fun d hd => ?_
      obtain ⟨a, ha, rfl⟩ := List.mem_map.mp hd
      have := List.all_eq_true.mp h3 a ha
      cases a with
      | tup xs =>
        cases xs with
        | nil => simp at this
        | cons x xs => exact ⟨x.py, D.pyL xs, by simp [D.py, D.pyL]⟩
      | _ => simp at this
    · refine .inr fun d hd => ?_
      obtain ⟨a, ha, rfl⟩ := List.mem_map.mp hd
      have h4 := List.all_eq_true.mp h3 a ha
      have h5 := D.sm_plain (h1 a ha)
      cases a <;> simp_all [D.py, D.plain]
theorem sorted_run {pins : List (Addr × Obj)} {s : Shared} {σ : St} {H : Hp} {Q : VK} {bo : Bo} {F : Addr → Prop} {b : Bx} {ds : List D} {vs : List V} {p : Addr} {its : List Value} {o : Obj} {n : Nat} (hu : X.A.units + 64 < cLine) (I : Inv X pins σ H s) (W : Wo bo F H b)
    (r1 : RpL (pm X fn) bo F H ds vs) (rv : Vals vs its) (hz : vs.length ≤ sizeLine) (ho : s.heap.get? p = some o) (hc : o.cls = .type "list" ∨ o.cls = .type "tuple") (hd : o.data = .seq its.toArray n) (ok : sortOk ds = true)
    (q : ∀ a F' H', Grow bo F H F' H' → BoxOk bo F' H' b → H a = none → ¬ F' a → Own (pm X fn) bo F' H' (.lst (sortL ds)) a → Q (.ref a) H') :
    wpAny (model X.prog X.w) X.A (call (.builtin "sorted") [.ref p]) (EP X pins σ Q) X.xe s := by
  obtain ⟨sm, al, so⟩ := sortOk_facts ok
  have hlen : its.length = ds.length := by rw [← rv.length]; exact r1.length
  have hL : its.length ≤ sizeLine := by rw [← rv.length]; exact hz
  have fresh : H (s.heap.objs.size + 1) = none := I.hok.fresh (Nat.le_succ _)
  have e0 := each_of_vals rv r1
  have er : EachIs (fun v (d : D) => ∃ as, Reads s.heap v d.py as) its ds := by
    refine each_of hlen fun i a d ea ed => ?_
    obtain ⟨d', e1, v, rr, rp⟩ := (each_get e0).2 i a ea
    rw [ed] at e1; cases e1
    have hm : d ∈ ds := List.mem_of_getElem? ed
    exact RpO.reads (fn := fn) I (.inl rp) (sm d hm) rr
  have er' : EachIs (fun v (d : D) => ∃ as, Reads (sortingHeap (copyHeap s.heap its) (s.heap.objs.size + 1) its) v d.py as) its ds := er.mono fun _ _ ⟨as, r⟩ => ⟨as, PyProof.Rows.Reads.keeps (fun _ _ => sorting_copy_old) r⟩
  have room : ∀ d, d ∈ ds → X.A.in1.in1.units + d.py.depth < cLine := fun d hd => by
    have := D.sm_dep (sm d hd)
    rw [D.py_dep]
    show X.A.units + 1 + 1 + d.dep < cLine
    omega
  refine sorted_seq ho hc hd hL (PyProof.Rows.args_sorted1 _) (fun _ => PyProof.Rows.args_list_sort _) fun E' => ?_
  refine list_sort_vals (s := { s with heap := copyHeap s.heap its }) (κ := dataKind (sortingHeap (copyHeap s.heap its) (s.heap.objs.size + 1) its) (ds.map D.py)) (copyHeap_at s.heap its)
    (SortsAt.data (s := { s with heap := sortingHeap (copyHeap s.heap its) (s.heap.objs.size + 1) its }) (each_map (R := fun v d => ∃ as, Reads (sortingHeap (copyHeap s.heap its) (s.heap.objs.size + 1) its) v d as) D.py er') al so (bound_map (A := X.A.in1.in1) room)) hL ⟨rfl, ?_⟩
  have eo := sortVals_data (enc := D.py) false e0 er' al
  obtain ⟨ws, hv, hr⟩ := vals_of_each eo
  obtain ⟨ep, he'⟩ := PyProof.Rows.sortedAll_at s.heap its (sortVals (dataKind (sortingHeap (copyHeap s.heap its) (s.heap.objs.size + 1) its) (ds.map D.py)) false its its).toArray
  have hws : ws.length ≤ sizeLine := by
    rw [hr.length]
    rw [List.length_mergeSort, ← hlen]
    exact hL
  obtain ⟨g, hb, nf, ow⟩ := new_own W fresh hr hws
  exact ⟨.ref _, upd H (s.heap.objs.size + 1) (.lst ws), I.laid (t' := s.toks) (fun _ _ => PyProof.Rows.sortedAll_old) (Nat.le_succ _) (show ObjOk X.prog X.w _ _ _ (.lst ws) from ⟨hws, _, ep, hv, he'⟩), rfl, q _ _ _ g hb fresh nf ow⟩
theorem d_sorted (hu : X.A.units + 64 < cLine) : CallR X (.builtin "sorted") (rDnN (pm X fn) sortedD) := by
  intro pins s σ H xs us Q I r h
  obtain ⟨bo, F, b, W, ds, d, hr, hg, q⟩ := h
  unfold sortedD at hg
  split at hg
  · split at hg
    · rename_i hz
      cases hg
      obtain ⟨v, rfl, h1⟩ := hr.one
      obtain ⟨p, vs, rfl, s1, z1, r1⟩ := h1.lst
      obtain ⟨its, rv, ⟨o, n, ho, hc, _, hd⟩, hsz⟩ := I.list (SqL.of s1)
      cases r with
      | cons ra rb =>
        cases rb
        cases ra
        exact sorted_run hu I W r1 rv hsz ho (.inl hc) hd hz q
    · cases hg
  · split at hg
    · rename_i hz
      cases hg
      obtain ⟨v, rfl, h1⟩ := hr.one
      obtain ⟨p, vs, rfl, s1, z1, r1⟩ := h1.tup
      obtain ⟨its, rv, ⟨o, ho, hc, n, hd⟩, hsz⟩ := I.tuple s1
      cases r with
      | cons ra rb =>
        cases rb
        cases ra
        exact sorted_run hu I W r1 rv hsz ho (.inr hc) hd hz q
    · cases hg
  · cases hg
end
end Sv

set_option maxHeartbeats 4000000
/-! Sv7: what is walked, targets. -/
namespace Sv
open PySem L2
open PyProof.Rows (IsTup)

/-! ### enumerate of a tuple -/
theorem meets_enumerate_newT (l : Addr) (items : Array Value) (n : Nat) (dct : Option Addr) (sl : Array (Option Value)) :
    Meets (Builtin.«enumerate.__new__» ⟨[.type "enumerate", .ref l], []⟩) (fun _ R s => s.heap.get? l = some { cls := .type "tuple", dict := dct, data := .seq items n, slots := sl } ∧
      R (.ok (.ret (.ref (s.heap.push { cls := .type "tuple_iterator", data := .fields #[.ref l, .int 0 0] }).objs.size)))
        { s with heap := (s.heap.push { cls := .type "tuple_iterator", data := .fields #[.ref l, .int 0 0] }).push { cls := .type "enumerate", data := .fields #[.none, .bool false, .ref s.heap.objs.size, rawInt 0, .none, .none] } }) :=
  .of_wp fun prog w A R s h => by
    obtain ⟨hp, g, d, tk, os⟩ := s; obtain ⟨hl, h⟩ := h
    have hsub := sub_enumerate
    have hL : Heap.IsTuple (Shared.heap ⟨hp, g, d, tk, os⟩) l items := ⟨_, hl, rfl, n, rfl⟩
    wp_walk using AutoSeq1.wpAny_loadPart' hl
    refine wpAny_stack_any fun st => wpAny_pure ?_
    split
    · rename_i c _ _ _ _ _
      cases (c == Value.type "enumerate")
      · wp_walk using AutoSeq1.wpAny_loadPart' hl, wpAny_pyIter_tuple hL
        exact ⟨_, rfl, h⟩
      · wp_walk using AutoSeq1.wpAny_loadPart' hl, wpAny_pyIter_tuple hL
        exact ⟨_, rfl, h⟩
    · wp_walk using AutoSeq1.wpAny_loadPart' hl, wpAny_pyIter_tuple hL
      exact ⟨_, rfl, h⟩
theorem call_enumerate_tup {prog : Program} {w : World} {A : Around} {E : Value → Shared → Prop} {s : Shared} {l : Addr} {items : Array Value} {Q : Value → Shared → Prop} (hL : s.heap.IsTuple l items)
    (h : ∀ h', IsEnum h' (s.heap.objs.size + 1) s.heap.objs.size 0 .none → h'.IsTupleIter s.heap.objs.size l 0 → (∀ b o, s.heap.get? b = some o → h'.get? b = some o) → Q (.ref (s.heap.objs.size + 1)) { s with heap := h' }) :
    wpAny (model prog w) A (call (.type "enumerate") [.ref l]) Q E s := by
  obtain ⟨⟨c, dct, dt, sl⟩, hl, hc, n, hd⟩ := hL
  replace hc : c = .type "tuple" := hc
  replace hd : dt = .seq items n := hd
  subst hc hd
  refine callType_new PySem.F.called_enumerate (by decide) (PySem.F.typeCall_enumerate_1 _) (PySem.F.newCall_enumerate_1 _) (fun obj => PySem.F.args_object_init_2 obj _) PySem.F.entry_enumerate_new (meets_enumerate_newT l items n dct sl) ⟨hl, ?_⟩
  have hz : (s.heap.push { cls := .type "tuple_iterator", data := .fields #[.ref l, .int 0 0] }).objs.size = s.heap.objs.size + 1 := Heap.size_push ..
  show _ ∧ _
  rw [hz]
  have he : IsEnum ((s.heap.push { cls := .type "tuple_iterator", data := .fields #[.ref l, .int 0 0] }).push { cls := .type "enumerate", data := .fields #[.none, .bool false, .ref s.heap.objs.size, rawInt 0, .none, .none] }) (s.heap.objs.size + 1) s.heap.objs.size 0 .none := by
    have := Heap.get?_push_size (s.heap.push { cls := .type "tuple_iterator", data := .fields #[.ref l, .int 0 0] }) (o := { cls := .type "enumerate", data := .fields #[.none, .bool false, .ref s.heap.objs.size, rawInt 0, .none, .none] }) rfl
    rw [hz] at this
    exact this
  have hi : ((s.heap.push { cls := .type "tuple_iterator", data := .fields #[.ref l, .int 0 0] }).push { cls := .type "enumerate", data := .fields #[.none, .bool false, .ref s.heap.objs.size, rawInt 0, .none, .none] }).IsTupleIter s.heap.objs.size l 0 :=
    ⟨_, Heap.get?_push_of_some _ (Heap.get?_push_size _ rfl), rfl, rfl⟩
  exact ⟨⟨_, he, rfl⟩, h _ he hi fun b o x => Heap.get?_push_of_some _ (Heap.get?_push_of_some _ x)⟩
/-- the tuple at t, each item in a new pair -/
def IteT (K : PySem.W.Frag) (t : Addr) : L2.It :=
  ⟨fun i H => ∃ (xs : List V) (x : V), SqT K H t xs ∧ xs[i]? = some x, fun i H v H' => ∃ T x, v = .ref T ∧ H T = none ∧ H' = upd H T (.tup [.int (i : Nat), x]) ∧ ∀ xs, SqT K H t xs → xs[i]? = some x, fun i H => ∃ xs : List V, SqT K H t xs ∧ xs.length = i⟩
theorem turn_enumT {P : Program} {w : World} {K : PySem.W.Frag} {elts : List Expr} {kk : Nat} {tpos : Pos} (a e it : Addr) (hne : e ≠ it) (hae : a ≠ e) (hai : a ≠ it) :
    Turn P w K (.Tuple elts kk tpos) (IteT K a) [e, it] e (fun i h => (∃ old, IsEnum h e it ((i : Nat) : Int) old) ∧ h.IsTupleIter it a i) where
  mem := by simp
  obj := fun i h st b hb => by
    obtain ⟨⟨old, he⟩, o, ho, hc, hd⟩ := st
    have e' : b = e ∨ b = it := by simpa using hb
    rcases e' with z | z
    · rw [z]; exact ⟨_, he, fun v q => nomatch q⟩
    · rw [z]; exact ⟨o, ho, fun v q => by rw [hd] at q; cases q⟩
  keep := fun i h h' st k => let ⟨⟨old, he⟩, hi⟩ := st; ⟨⟨old, k e (by simp) _ he⟩, hi.at fun o q => k it (by simp) o q⟩
  item := by
    intro X hP hw hK hc i pins s σ H E I hf st hg
    subst hP hw hK
    obtain ⟨⟨old, he⟩, hit⟩ := st
    obtain ⟨xs, x, hq, hx⟩ := hg
    obtain ⟨its, rv, p, hz⟩ := I.tuple hq
    obtain ⟨u, hu, ru⟩ := rv.get hx
    have hel : e < s.heap.objs.size := Heap.lt_size he
    have hil : it < s.heap.objs.size := by obtain ⟨_, q, _⟩ := hit; exact Heap.lt_size q
    have W := WalksT.enumerateD (Draws.tuple (prog := X.prog) (w := X.w) (A := X.A.in1) (I.ok.hd hc) it a hai its.toArray) e hne (by simp [hne, Ne.symm hae]) (by simp)
    have hlt : i < its.toArray.size := by
      have := (List.getElem?_eq_some_iff.mp hu).1
      simpa using this
    refine W.item i s _ _ hlt ⟨⟨old, he⟩, hit, show s.heap.IsTuple a its.toArray from p⟩ fun T vals h' tk hP' hT hTup hMid hk => ⟨_, rfl, ?_⟩
    refine W.go elts kk tpos i T { s with heap := h', toks := tk } _ _ hMid fun h'' hSt hk2 => ?_
    obtain ⟨tk', x', hx', rfl⟩ := hP'
    have ex : x' = u := by
      have hu2 : its.toArray[i]? = some u := by simpa using hu
      rw [hu2] at hx'; cases hx'; rfl
    subst ex
    have hTn := W.apart i T h' hMid
    have hTup2 : h''.IsTuple T #[.int i tk', x'] := by
      obtain ⟨o, ho, r⟩ := hTup
      exact ⟨o, hk2 T o hTn ho, r⟩
    have new : ObjOk X.prog X.w (upd H T (.tup [.int (i : Nat), x])) h'' T (.tup [.int (i : Nat), x]) :=
      ⟨by show 2 ≤ sizeLine; decide, [.int i tk', x'], .cons ⟨_, rfl⟩ (.cons ru .nil), hTup2⟩
    have I1 : Inv X pins σ (upd H T (.tup [.int (i : Nat), x])) { s with heap := h'', toks := tk } :=
      I.turnedNew (ch := [e, it]) (fun b ob hb q => hk2 b ob hb (hk b ob hb q)) hf hT new
    refine ⟨.ref T, _, I1, rfl, ⟨T, x, rfl, I.hok.fresh hT, rfl, fun ys hy => by rw [I.tuple_inj hy hq]; exact hx⟩, ⟨?_, hSt.2.1⟩, fun b hb => ?_⟩
    · obtain ⟨⟨old', he'⟩, _⟩ := hSt
      exact ⟨old', by simpa using he'⟩
    · have hb' : b < s.heap.objs.size := by
        have e' : b = e ∨ b = it := by simpa using hb
        rcases e' with z | z
        · rw [z]; exact hel
        · rw [z]; exact hil
      rw [upd_ne (Nat.ne_of_lt (Nat.lt_of_lt_of_le hb' hT))]
      exact (hf b hb).1
  done := by
    intro X hP hw hK hc i pins s σ H E I hf st hg
    subst hP hw hK
    obtain ⟨⟨old, he⟩, hit⟩ := st
    obtain ⟨xs, hq, hx⟩ := hg
    obtain ⟨its, rv, p, hz⟩ := I.tuple hq
    have hl := rv.length
    have W := WalksT.enumerateD (Draws.tuple (prog := X.prog) (w := X.w) (A := X.A.in1) (I.ok.hd hc) it a hai its.toArray) e hne (by simp [hne, Ne.symm hae]) (by simp)
    have ei : i = its.toArray.size := by rw [List.size_toArray]; omega
    subst ei
    obtain ⟨f0, f1, f2, f3, f4, f5⟩ := hf it (by simp)
    exact wpAny_pyNext_enum_endD (Draws.tuple (prog := X.prog) (w := X.w) (A := X.A.in1) (I.ok.hd hc) it a hai its.toArray) he ⟨hit, show s.heap.IsTuple a its.toArray from p⟩
      fun h' eb => ⟨rfl, I.turned (t' := s.toks) (fun b o hb e => eb b o hb e) f0 f1 f3 f4 f5⟩
  self := fun A i s Q E st h => by
    obtain ⟨⟨old, he⟩, _⟩ := st
    exact wpAny_pyIter_enum he h

/-! ### what is walked -/
/-- from any later state in which F's objects stand the walk gives the data ds -/
def Yields (m : Pm) (bo : Bo) (J : L2.It) (ds : List D) (F : Addr → Prop) (H : Hp) : Prop := ∀ F' H' b, FK F H F' H' → Wo bo F' H' b →
  (∀ (i : Nat) d, ds[i]? = some d → J.go i H' ∧ ∀ x H2, J.yld i H' x H2 → Grow bo F' H' F' H2 ∧ BoxOk bo F' H2 b ∧ Rp m bo F' H2 d x) ∧ J.stop ds.length H'
def iEx (m : Pm) (f : It) : TI := fun σ H R => ∃ H0 F0 bo ρ F b, Rel m H0 F0 bo σ ρ F H b ∧ ∃ ds b', f ρ b = some (ds, b') ∧
  ∀ J F' H', Grow bo F H F' H' → BoxOk bo F' H' b' → ds.length ≤ sizeLine → Yields m bo J ds F' H' → R J H'
/-- .. in any later state of the walk of a comprehension: what stood stands -/
def YieldsG (m : Pm) (bo : Bo) (J : L2.It) (ds : List D) (F : Addr → Prop) (H : Hp) : Prop := ∀ F' H' b, Grow bo F H F' H' → Wo bo F' H' b →
  (∀ (i : Nat) d, ds[i]? = some d → J.go i H' ∧ ∀ x H2, J.yld i H' x H2 → Grow bo F' H' F' H2 ∧ BoxOk bo F' H2 b ∧ Rp m bo F' H2 d x) ∧ J.stop ds.length H'
def iEo (m : Pm) (f : It) : TI := fun σ H R => ∃ H0 F0 bo ρ F b, Rel m H0 F0 bo σ ρ F H b ∧ ∃ ds b', f ρ b = some (ds, b') ∧
  ∀ J F' H', Grow bo F H F' H' → BoxOk bo F' H' b' → ds.length ≤ sizeLine → YieldsG m bo J ds F' H' → R J H'
abbrev PIx (fn : Nat → Option V) (X : Cx) (tg e : Expr) (f : It) : Prop := PI X tg e (iEx (pm X fn) f)
abbrev PIo (fn : Nat → Option V) (X : Cx) (tg e : Expr) (f : It) : Prop := PI X tg e (iEo (pm X fn) f)
theorem PI.imp {X : Cx} {tg e : Expr} {t t' : TI} (h : PI X tg e t) (i : ∀ σ H Q, t' σ H Q → t σ H Q) : PI X tg e t' := ⟨fun pins s σ H Q I q => h.run pins s σ H Q I (i σ H Q q)⟩

section
variable {fn : Nat → Option V} {X : Cx} {tg e e' : Expr} {f g : Ex} {pos p : Pos}
theorem iEx_o {m : Pm} {f : It} {σ : St} {H : Hp} {R : L2.It → Hp → Prop} (h : iEo m f σ H R) : iEx m f σ H R := by
  obtain ⟨H0, F0, bo, ρ, F, b, R', ds, b', e, q⟩ := h
  refine ⟨H0, F0, bo, ρ, F, b, R', ds, b', e, fun J F' H' g hb hz y => q J F' H' g hb hz fun F2 H2 b2 g2 W => y F2 H2 b2 (g2.fk hb g.dom) W⟩
theorem PIx.o {f : It} (h : PIx fn X tg e f) : PIo fn X tg e f := PI.imp h fun _ _ _ h => iEx_o h
/-- a list, a tuple -/
theorem pi_any {l : Expr} {tl : TE} (hl : PE X l tl) : PI X tg l (fun σ H R => tl σ H fun x H1 => ∃ a, x = .ref a ∧ ((∃ xs, SqL X.K H1 a xs) ∧ R (Itl X.K a) H1 ∨ (∃ xs, SqT X.K H1 a xs) ∧ R (Itt X.K a) H1)) := by
  refine ⟨fun pins s σ H R I h => ?_⟩
  refine thn (hl.run pins s σ H _ I h) fun v s1 ⟨x, H1, I1, r1, a, e, q⟩ => ?_
  subst e
  cases r1
  have fresh : ∀ b ∈ [s1.heap.objs.size], FpOk X pins H1 b := fun b hb => by
    have e : b = s1.heap.objs.size := by simpa using hb
    subst e
    exact I1.fpOk (Nat.le_refl _) (I1.hok.fresh (Nat.le_refl _))
  rcases q with ⟨⟨xs, hq⟩, q⟩ | ⟨⟨xs, hq⟩, q⟩
  · obtain ⟨its, rv, p, hz⟩ := I1.list hq
    exact wpAny_pyIter_list p.isList ⟨s1.heap.objs.size, [s1.heap.objs.size], _, _, H1, rfl, I1.kept (t' := s1.toks) fun b o e => Heap.get?_push_of_some _ e, turn_list a _, ⟨_, Heap.get?_push_size _ rfl, rfl, rfl⟩, fresh, q⟩
  · obtain ⟨its, rv, p, hz⟩ := I1.tuple hq
    exact wpAny_pyIter_tuple (show s1.heap.IsTuple a its.toArray from p) ⟨s1.heap.objs.size, [s1.heap.objs.size], _, _, H1, rfl, I1.kept (t' := s1.toks) fun b o e => Heap.get?_push_of_some _ e, turn_tuple a _, ⟨_, Heap.get?_push_size _ rfl, rfl, rfl⟩, fresh, q⟩
theorem yield_same {m : Pm} {bo : Bo} {F : Addr → Prop} {H : Hp} {b : Bx} {d : D} {x : V} (W : Wo bo F H b) (h : Rp m bo F H d x) : Grow bo F H F H ∧ BoxOk bo F H b ∧ Rp m bo F H d x := ⟨Grow.refl W.dom, W.box, h⟩
theorem yields_list {m : Pm} {bo : Bo} {F : Addr → Prop} {H : Hp} {b : Bx} {a : Addr} {vs : List V} {ds : List D} (W : Wo bo F H b) (r : RpL m bo F H ds vs) (s : SqL m.K H a vs) :
    (∀ (i : Nat) d, ds[i]? = some d → (Itl m.K a).go i H ∧ ∀ x H2, (Itl m.K a).yld i H x H2 → Grow bo F H F H2 ∧ BoxOk bo F H2 b ∧ Rp m bo F H2 d x) ∧ (Itl m.K a).stop ds.length H := by
  refine ⟨fun i d e => ?_, vs, s, by rw [r.length]; exact Nat.le_refl _⟩
  obtain ⟨v, hv, rv⟩ := r.get e
  refine ⟨⟨vs, v, s, hv⟩, fun x H2 ⟨e1, e2⟩ => ?_⟩
  subst e1
  have := e2 vs s
  rw [hv] at this; cases this
  exact yield_same W rv
theorem yields_tup {m : Pm} {bo : Bo} {F : Addr → Prop} {H : Hp} {b : Bx} {a : Addr} {vs : List V} {ds : List D} (W : Wo bo F H b) (r : RpL m bo F H ds vs) (s : SqT m.K H a vs) :
    (∀ (i : Nat) d, ds[i]? = some d → (Itt m.K a).go i H ∧ ∀ x H2, (Itt m.K a).yld i H x H2 → Grow bo F H F H2 ∧ BoxOk bo F H2 b ∧ Rp m bo F H2 d x) ∧ (Itt m.K a).stop ds.length H := by
  refine ⟨fun i d e => ?_, vs, s, by rw [r.length]; exact Nat.le_refl _⟩
  obtain ⟨v, hv, rv⟩ := r.get e
  refine ⟨⟨vs, v, s, hv⟩, fun x H2 ⟨e1, e2⟩ => ?_⟩
  subst e1
  have := e2 vs s
  rw [hv] at this; cases this
  exact yield_same W rv
theorem pi_seq (pe : PEx fn X e f) : PIx fn X tg e (iSeq f) := PI.imp (pi_any pe) fun σ H R ⟨H0, F0, bo, ρ, F, b, R', ds, b', e, q⟩ => by
  unfold iSeq at e
  split at e
  · rename_i d b1 e1
    split at e
    · rename_i xs e2
      cases e
      refine ⟨H0, F0, bo, ρ, F, b, R', d, _, e1, fun v F' H' g hb rv => ?_⟩
      unfold itemsD at e2
      split at e2
      · cases e2
        simp only [Rp] at rv
        obtain ⟨a, vs, rfl, f1, s, z, r⟩ := rv
        refine ⟨a, rfl, .inl ⟨⟨vs, SqL.of s⟩, q _ F' H' g hb (by rw [← r.length]; exact z) fun F2 H2 b2 k W => ?_⟩⟩
        exact yields_list W (r.fk k) (SqL.of ((k.at_ a f1).trans s))
      · cases e2
        simp only [Rp] at rv
        obtain ⟨a, vs, rfl, s, z, r⟩ := rv
        refine ⟨a, rfl, .inr ⟨⟨vs, s⟩, q _ F' H' g hb (by rw [← r.length]; exact z) fun F2 H2 b2 k W => ?_⟩⟩
        exact yields_tup W (r.fk k) (Sv.SqT.fk k s)
      · cases e2
    · cases e
  · cases e
theorem pio_seq (pe : PEo fn X e f) : PIo fn X tg e (iSeq f) := PI.imp (pi_any pe) fun σ H R ⟨H0, F0, bo, ρ, F, b, R', ds, b', e, q⟩ => by
  unfold iSeq at e
  split at e
  · rename_i d b1 e1
    split at e
    · rename_i xs e2
      cases e
      refine ⟨H0, F0, bo, ρ, F, b, R', d, _, e1, fun v F' H' g hb rv => ?_⟩
      unfold itemsD at e2
      split at e2
      · cases e2
        have nb : ∀ a vs, v = .ref a → H' a = some (.lst vs) → ¬ inBox bo a := fun a vs ev es => by
          rcases rv with rv | ⟨a', e', nb, _⟩
          · simp only [Rp] at rv
            obtain ⟨a', vs', e', f1, s, z, r⟩ := rv
            rw [ev] at e'; cases e'
            exact fun z => (inBox_some hb z).1 f1
          · rw [ev] at e'; cases e'
            exact nb
        obtain ⟨a, vs, rfl, s, z, r⟩ := rv.lst
        refine ⟨a, rfl, .inl ⟨⟨vs, SqL.of s⟩, q _ F' H' g hb (by rw [← r.length]; exact z) fun F2 H2 b2 k W => ?_⟩⟩
        exact yields_list W (r.fk (k.fk hb g.dom)) (SqL.of (k.keep a _ s (nb a vs rfl s)))
      · cases e2
        obtain ⟨a, vs, rfl, s, z, r⟩ := rv.tup
        refine ⟨a, rfl, .inr ⟨⟨vs, s⟩, q _ F' H' g hb (by rw [← r.length]; exact z) fun F2 H2 b2 k W => ?_⟩⟩
        exact yields_tup W (r.fk (k.fk hb g.dom)) (Sv.SqT.fk (k.fk hb g.dom) s)
      · cases e2
    · cases e
  · cases e
/-- range(n), range(a, b) -/
theorem rangeD_get {lo hi : Int} {ds : List D} (h : rangeD lo hi = some ds) : ds.length = (hi - lo).toNat ∧ (∀ (i : Nat) d, ds[i]? = some d → d = .int (lo + (i : Nat)) ∧ i < (hi - lo).toNat) ∧ (-(2 ^ 62) ≤ lo ∧ lo < 2 ^ 62 ∧ -(2 ^ 62) ≤ hi ∧ hi < 2 ^ 62) ∧ ds.length ≤ sizeLine := by
  unfold rangeD at h
  split at h
  · rename_i hz
    cases h
    refine ⟨by simp, fun i d e => ?_, hz.2, by rw [sizeLine_eq]; simp; omega⟩
    rw [List.getElem?_map] at e
    cases hi' : (List.range (hi - lo).toNat)[i]? with
    | none => rw [hi'] at e; cases e
    | some k =>
      rw [hi'] at e; cases e
      obtain ⟨h1, h2⟩ := List.getElem?_eq_some_iff.mp hi'
      rw [List.getElem_range] at h2
      rw [List.length_range] at h1
      subst h2
      exact ⟨rfl, h1⟩
  · cases h
theorem yields_range {m : Pm} {bo : Bo} {F : Addr → Prop} {H : Hp} {lo hi : Int} {ds : List D} (h : rangeD lo hi = some ds) : Yields m bo (Itr lo (hi - lo).toNat) ds F H := fun F' H' b k W => by
  obtain ⟨h1, h2, _⟩ := rangeD_get h
  refine ⟨fun i d e => ?_, by show (hi - lo).toNat ≤ ds.length; omega⟩
  obtain ⟨rfl, h3⟩ := h2 i d e
  refine ⟨h3, fun x H2 ⟨e1, e2⟩ => ?_⟩
  subst e1 e2
  exact yield_same W (by simp [Rp])
theorem pi_range {ag : As} (hg : Gl X "range") (hm : X.mg "range" = none) (ha : PAs fn X [e] ag) (hs : starEach [e] X.env = [(false, eval e X.env)] := by rfl) : PIx fn X tg (.Call (.Name "range" p) [e] [] pos) (iRange ag) := PI.imp (pi_range1 hg hm ha.pa hs) fun σ H R ⟨H0, F0, bo, ρ, F, b, R', ds, b', e, q⟩ => by
  unfold iRange at e
  split at e
  · rename_i j b1 e1
    split at e
    · rename_i xs e2
      cases e
      refine ⟨H0, F0, bo, ρ, F, b, R', _, _, e1, fun vs F' H' g hb rv => ?_⟩
      have ev : vs = [.int j] := RpL.ints (is := [j]) rv
      obtain ⟨_, _, ⟨h3, h4, h5, h6⟩, hz⟩ := rangeD_get e2
      exact ⟨j, ev, h5, h6, q _ F' H' g hb hz (by have := yields_range (m := pm X fn) (bo := bo) (F := F') (H := H') e2; rwa [Int.sub_zero] at this)⟩
    · cases e
  · rename_i i j b1 e1
    have := ha.len _ _ _ _ e1
    simp at this
  · cases e
theorem pi_rangeT {ag : As} (hg : Gl X "range") (hm : X.mg "range" = none) (ha : PAs fn X [e, e'] ag) (hs : starEach [e, e'] X.env = [(false, eval e X.env), (false, eval e' X.env)] := by rfl) (hs2 : starEach [e'] X.env = [(false, eval e' X.env)] := by rfl) :
    PIx fn X tg (.Call (.Name "range" p) [e, e'] [] pos) (iRange ag) := PI.imp (pi_range2 hg hm ha.pa hs hs2) fun σ H R ⟨H0, F0, bo, ρ, F, b, R', ds, b', e, q⟩ => by
  unfold iRange at e
  split at e
  · rename_i j b1 e1
    have := ha.len _ _ _ _ e1
    simp at this
  · rename_i i j b1 e1
    split at e
    · rename_i xs e2
      cases e
      refine ⟨H0, F0, bo, ρ, F, b, R', _, _, e1, fun vs F' H' g hb rv => ?_⟩
      have ev : vs = [.int i, .int j] := RpL.ints (is := [i, j]) rv
      obtain ⟨_, _, h3, hz⟩ := rangeD_get e2
      exact ⟨i, j, ev, h3, q _ F' H' g hb hz (yields_range e2)⟩
    · cases e
  · cases e
/-- a text, sign by sign -/
theorem pi_str' (pe : PEo fn X e f) : PIx fn X tg e (iStr f) := PI.imp (pi_str pe) fun σ H R ⟨H0, F0, bo, ρ, F, b, R', ds, b', e, q⟩ => by
  unfold iStr at e
  split at e
  · rename_i z b1 e1
    split at e
    · rename_i hz
      cases e
      refine ⟨H0, F0, bo, ρ, F, b, R', _, _, e1, fun v F' H' g hb rv => ⟨z, rv.str, q _ F' H' g hb (by simpa [Str.length] using hz) fun F2 H2 b2 k W => ?_⟩⟩
      refine ⟨fun i d e => ?_, ?_⟩
      · rw [List.getElem?_map] at e
        cases hc : z.cps.toList[i]? with
        | none => rw [hc] at e; cases e
        | some c =>
          rw [hc] at e; cases e
          have hlt : i < z.cps.size := by
            have := (List.getElem?_eq_some_iff.mp hc).1
            simpa using this
          refine ⟨hlt, fun x H3 ⟨e1, c', e2, e3⟩ => ?_⟩
          subst e1 e3
          have : c' = c := by
            rw [Array.getElem?_toList, e2] at hc
            cases hc; rfl
          subst this
          exact yield_same W (by simp [Rp])
      · show z.cps.size ≤ _
        simp
    · cases e
  · cases e
/-! #### enumerate, zip: new pairs -/
theorem pi_enumA {ta : TA} {tpos : Pos} {elts : List Expr} {kk : Nat} (hg : Gl X "enumerate") (hm : X.mg "enumerate" = none) (ha : PA X [e] ta) (hs : starEach [e] X.env = [(false, eval e X.env)] := by rfl) :
    PI X (.Tuple elts kk tpos) (.Call (.Name "enumerate" p) [e] [] pos) (fun σ H R => ta σ H fun vs H1 => ∃ a xs, vs = [.ref a] ∧ (SqL X.K H1 a xs ∧ R (Ite X.K a) H1 ∨ SqT X.K H1 a xs ∧ R (IteT X.K a) H1)) := by
  refine ⟨fun pins s σ H R I h => ?_⟩
  refine PyProof.Rows.Call_ (ld_blt I hg hm PyProof.Rows.boot_enumerate (PyProof.Rows.callWith_type1 (thn (ha.run pos pins s σ H _ I h) fun us s1 ⟨vs, H1, I1, r1, a, xs, ex, q⟩ => ?_) hs rfl))
  subst ex
  have fp : ∀ (h' : Heap) (I2 : Inv X pins σ H1 { s1 with heap := h' }), ∀ b ∈ [s1.heap.objs.size + 1, s1.heap.objs.size], FpOk X pins H1 b := fun h' I2 b hb => by
    have e' : b = s1.heap.objs.size + 1 ∨ b = s1.heap.objs.size := by simpa using hb
    have hle : s1.heap.objs.size ≤ b := by
      rcases e' with z | z
      · rw [z]; exact Nat.le_succ _
      · rw [z]; exact Nat.le_refl _
    exact I1.fpOk hle (I1.hok.fresh hle)
  cases r1 with
  | cons r rr =>
    cases rr
    cases r
    rcases q with ⟨hq, q⟩ | ⟨hq, q⟩
    · obtain ⟨its, rv, p', hz⟩ := I1.list hq
      refine call_enumerate_list p'.isList fun h' he hit hsz hk => wpAny_pyIter_enum he ?_
      have I2 : Inv X pins σ H1 { s1 with heap := h' } := I1.kept (t' := s1.toks) hk
      exact ⟨s1.heap.objs.size + 1, [s1.heap.objs.size + 1, s1.heap.objs.size], _, _, H1, rfl, I2, turn_enum a (s1.heap.objs.size + 1) s1.heap.objs.size, ⟨⟨.none, he⟩, hit, Nat.succ_ne_self _⟩, fp h' I2, q⟩
    · obtain ⟨its, rv, p', hz⟩ := I1.tuple hq
      have hp : s1.heap.IsTuple a its.toArray := p'
      have hlt : a < s1.heap.objs.size := by obtain ⟨o, ho, _⟩ := hp; exact Heap.lt_size ho
      refine call_enumerate_tup hp fun h' he hit hk => wpAny_pyIter_enum he ?_
      have I2 : Inv X pins σ H1 { s1 with heap := h' } := I1.kept (t' := s1.toks) hk
      exact ⟨s1.heap.objs.size + 1, [s1.heap.objs.size + 1, s1.heap.objs.size], _, _, H1, rfl, I2, turn_enumT a (s1.heap.objs.size + 1) s1.heap.objs.size (Nat.succ_ne_self _) (Nat.ne_of_lt (Nat.lt_succ_of_lt hlt)) (Nat.ne_of_lt hlt), ⟨⟨.none, he⟩, hit⟩, fp h' I2, q⟩
theorem enumD_get : ∀ {k : Nat} {ds : List D}, (enumD k ds).length = ds.length ∧ ∀ (i : Nat) d, (enumD k ds)[i]? = some d → ∃ x, ds[i]? = some x ∧ d = .tup [.int ((k + i : Nat) : Int), x]
  | k, [] => ⟨rfl, fun i d e => by simp [enumD] at e⟩
  | k, x :: ds => by
    obtain ⟨h1, h2⟩ := enumD_get (k := k + 1) (ds := ds)
    refine ⟨by simp [enumD, h1], fun i d e => ?_⟩
    cases i with
    | zero => simp [enumD] at e; exact ⟨x, rfl, by rw [← e]; rfl⟩
    | succ i =>
      obtain ⟨y, e1, e2⟩ := h2 i d (by simpa [enumD] using e)
      exact ⟨y, by simpa using e1, by rw [e2, show k + 1 + i = k + (i + 1) by omega]⟩
theorem new_pair {m : Pm} {bo : Bo} {F : Addr → Prop} {H : Hp} {b : Bx} {T : Addr} {d e : D} {x y : V} (W : Wo bo F H b) (hT : H T = none) (h1 : Rp m bo F H d x) (h2 : Rp m bo F H e y) :
    Grow bo F H F (upd H T (.tup [x, y])) ∧ BoxOk bo F (upd H T (.tup [x, y])) b ∧ Rp m bo F (upd H T (.tup [x, y])) (.tup [d, e]) (.ref T) := new_tup W hT (RpL.cons h1 (RpL.cons h2 RpL.nil)) (by show 2 ≤ sizeLine; decide)
theorem yields_enumL {m : Pm} {bo : Bo} {F : Addr → Prop} {H : Hp} {b : Bx} {a : Addr} {vs : List V} {ds : List D} (W : Wo bo F H b) (r : RpL m bo F H ds vs) (s : SqL m.K H a vs) :
    (∀ (i : Nat) d, (enumD 0 ds)[i]? = some d → (Ite m.K a).go i H ∧ ∀ x H2, (Ite m.K a).yld i H x H2 → Grow bo F H F H2 ∧ BoxOk bo F H2 b ∧ Rp m bo F H2 d x) ∧ (Ite m.K a).stop (enumD 0 ds).length H := by
  obtain ⟨k1, k2⟩ := enumD_get (k := 0) (ds := ds)
  refine ⟨fun i d e => ?_, vs, s, by rw [r.length, k1]; exact Nat.le_refl _⟩
  obtain ⟨y, e1, rfl⟩ := k2 i d e
  obtain ⟨v, hv, rv⟩ := r.get e1
  refine ⟨⟨vs, v, s, hv⟩, fun x H2 ⟨T, x', h1, h2, h3, h4⟩ => ?_⟩
  subst h1 h3
  have := h4 vs s
  rw [hv] at this; cases this
  exact new_pair W h2 (by simp [Rp]) rv
theorem yields_enumT {m : Pm} {bo : Bo} {F : Addr → Prop} {H : Hp} {b : Bx} {a : Addr} {vs : List V} {ds : List D} (W : Wo bo F H b) (r : RpL m bo F H ds vs) (s : SqT m.K H a vs) :
    (∀ (i : Nat) d, (enumD 0 ds)[i]? = some d → (IteT m.K a).go i H ∧ ∀ x H2, (IteT m.K a).yld i H x H2 → Grow bo F H F H2 ∧ BoxOk bo F H2 b ∧ Rp m bo F H2 d x) ∧ (IteT m.K a).stop (enumD 0 ds).length H := by
  obtain ⟨k1, k2⟩ := enumD_get (k := 0) (ds := ds)
  refine ⟨fun i d e => ?_, vs, s, by rw [r.length, k1]⟩
  obtain ⟨y, e1, rfl⟩ := k2 i d e
  obtain ⟨v, hv, rv⟩ := r.get e1
  refine ⟨⟨vs, v, s, hv⟩, fun x H2 ⟨T, x', h1, h2, h3, h4⟩ => ?_⟩
  subst h1 h3
  have := h4 vs s
  rw [hv] at this; cases this
  exact new_pair W h2 (by simp [Rp]) rv
theorem pi_enum' {tpos : Pos} {elts : List Expr} {kk : Nat} (hg : Gl X "enumerate") (hm : X.mg "enumerate" = none) (pe : PEx fn X e f) (hs : starEach [e] X.env = [(false, eval e X.env)] := by rfl) :
    PIx fn X (.Tuple elts kk tpos) (.Call (.Name "enumerate" p) [e] [] pos) (iEnum f) := PI.imp (pi_enumA hg hm (pa_cons pe pa_nil hs) hs) fun σ H R ⟨H0, F0, bo, ρ, F, b, R', ds, b', e, q⟩ => by
  unfold iEnum at e
  split at e
  · rename_i d b1 e1
    split at e
    · rename_i xs e2
      cases e
      refine ⟨H0, F0, bo, ρ, F, b, R', d, _, e1, fun v F' H' g hb rv => ?_⟩
      unfold itemsD at e2
      split at e2
      · cases e2
        simp only [Rp] at rv
        obtain ⟨a, vs, rfl, f1, s, z, r⟩ := rv
        exact ⟨a, vs, rfl, .inl ⟨SqL.of s, q _ F' H' g hb (by rw [(enumD_get (k := 0)).1, ← r.length]; exact z) fun F2 H2 b2 k W => yields_enumL W (r.fk k) (SqL.of ((k.at_ a f1).trans s))⟩⟩
      · cases e2
        simp only [Rp] at rv
        obtain ⟨a, vs, rfl, s, z, r⟩ := rv
        exact ⟨a, vs, rfl, .inr ⟨s, q _ F' H' g hb (by rw [(enumD_get (k := 0)).1, ← r.length]; exact z) fun F2 H2 b2 k W => yields_enumT W (r.fk k) (Sv.SqT.fk k s)⟩⟩
      · cases e2
    · cases e
  · cases e
theorem zipD_get : ∀ {ds es : List D}, (zipD ds es).length = min ds.length es.length ∧ ∀ (i : Nat) d, (zipD ds es)[i]? = some d → ∃ x y, ds[i]? = some x ∧ es[i]? = some y ∧ d = .tup [x, y]
  | [], es => by simp [zipD]
  | x :: ds, [] => by simp [zipD]
  | x :: ds, y :: es => by
    obtain ⟨h1, h2⟩ := zipD_get (ds := ds) (es := es)
    refine ⟨by simp [zipD, h1], fun i d e => ?_⟩
    cases i with
    | zero => simp [zipD] at e; exact ⟨x, y, rfl, rfl, e.symm⟩
    | succ i => simpa using h2 i d (by simpa [zipD] using e)
theorem yields_zipL {m : Pm} {bo : Bo} {F : Addr → Prop} {H : Hp} {b : Bx} {a a' : Addr} {vs us : List V} {ds es : List D} (W : Wo bo F H b) (r : RpL m bo F H ds vs) (s : SqL m.K H a vs) (r' : RpL m bo F H es us) (s' : SqL m.K H a' us) :
    (∀ (i : Nat) d, (zipD ds es)[i]? = some d → (Itz m.K a a').go i H ∧ ∀ x H2, (Itz m.K a a').yld i H x H2 → Grow bo F H F H2 ∧ BoxOk bo F H2 b ∧ Rp m bo F H2 d x) ∧ (Itz m.K a a').stop (zipD ds es).length H := by
  obtain ⟨k1, k2⟩ := zipD_get (ds := ds) (es := es)
  refine ⟨fun i d e => ?_, vs, us, s, s', by rw [r.length, r'.length, k1]; omega⟩
  obtain ⟨y, z, e1, e2, rfl⟩ := k2 i d e
  obtain ⟨v, hv, rv⟩ := r.get e1
  obtain ⟨u, hu, ru⟩ := r'.get e2
  refine ⟨⟨vs, us, v, u, s, s', hv, hu⟩, fun x H2 ⟨T, x', y', h1, h2, h3, h4, h5⟩ => ?_⟩
  subst h1 h3
  have q1 := h4 vs s
  have q2 := h5 us s'
  rw [hv] at q1; cases q1
  rw [hu] at q2; cases q2
  exact new_pair W h2 rv ru
theorem yields_zipT {m : Pm} {bo : Bo} {F : Addr → Prop} {H : Hp} {b : Bx} {a a' : Addr} {vs us : List V} {ds es : List D} (W : Wo bo F H b) (r : RpL m bo F H ds vs) (s : SqT m.K H a vs) (r' : RpL m bo F H es us) (s' : SqT m.K H a' us) :
    (∀ (i : Nat) d, (zipD ds es)[i]? = some d → (RZ.ItzT m.K a a').go i H ∧ ∀ x H2, (RZ.ItzT m.K a a').yld i H x H2 → Grow bo F H F H2 ∧ BoxOk bo F H2 b ∧ Rp m bo F H2 d x) ∧ (RZ.ItzT m.K a a').stop (zipD ds es).length H := by
  obtain ⟨k1, k2⟩ := zipD_get (ds := ds) (es := es)
  refine ⟨fun i d e => ?_, vs, us, s, s', by rw [r.length, r'.length, k1]; omega⟩
  obtain ⟨y, z, e1, e2, rfl⟩ := k2 i d e
  obtain ⟨v, hv, rv⟩ := r.get e1
  obtain ⟨u, hu, ru⟩ := r'.get e2
  refine ⟨⟨vs, us, v, u, s, s', hv, hu⟩, fun x H2 ⟨T, x', y', h1, h2, h3, h4, h5⟩ => ?_⟩
  subst h1 h3
  have q1 := h4 vs s
  have q2 := h5 us s'
  rw [hv] at q1; cases q1
  rw [hu] at q2; cases q2
  exact new_pair W h2 rv ru
theorem pi_zip' {tpos : Pos} {elts : List Expr} {kk : Nat} (hg : Gl X "zip") (hm : X.mg "zip" = none) (pe : PEx fn X e f) (pe' : PEx fn X e' g) (hs : starEach [e, e'] X.env = (false, eval e X.env) :: starEach [e'] X.env := by rfl) (hs2 : starEach [e'] X.env = [(false, eval e' X.env)] := by rfl) (hpl : (backTo pos (starEach [e'] X.env)).any (·.1) = false := by rfl) :
    PIx fn X (.Tuple elts kk tpos) (.Call (.Name "zip" p) [e, e'] [] pos) (iZip f g) := PI.imp (RZ.pi_zipA hg hm (pa_cons pe (pa_cons pe' pa_nil hs2) hs) hs hpl) fun σ H R ⟨H0, F0, bo, ρ, F, b, R', ds, b', e, q⟩ => by
  unfold iZip at e
  split at e
  · rename_i d b1 e1
    split at e
    · rename_i d2 b2 e2
      split at e
      · rename_i zs e3
        cases e
        refine ⟨H0, F0, bo, ρ, F, b, R', d, b1, e1, fun v F1 H1 g1 hb1 rv => ?_⟩
        have R1 := R'.grow g1 hb1
        refine ⟨H0, F0, bo, ρ, F1, b1, R1, d2, _, e2, fun u F2 H2 g2 hb2 ru => ?_⟩
        have rv := rv.fk (R1.fkg g2)
        unfold zipDD at e3
        split at e3
        · cases e3
          simp only [Rp] at rv ru
          obtain ⟨a, vs, rfl, f1, s, z, r⟩ := rv
          obtain ⟨a', us, rfl, f1', s', z', r'⟩ := ru
          exact ⟨a, a', vs, us, rfl, .inl ⟨SqL.of s, SqL.of s', q _ F2 H2 (g1.trans g2) hb2 (by rw [zipD_get.1, ← r.length]; exact Nat.le_trans (Nat.min_le_left _ _) z) fun F3 H3 b3 k W => yields_zipL W (r.fk k) (SqL.of ((k.at_ a f1).trans s)) (r'.fk k) (SqL.of ((k.at_ a' f1').trans s'))⟩⟩
        · cases e3
          simp only [Rp] at rv ru
          obtain ⟨a, vs, rfl, s, z, r⟩ := rv
          obtain ⟨a', us, rfl, s', z', r'⟩ := ru
          exact ⟨a, a', vs, us, rfl, .inr ⟨s, s', q _ F2 H2 (g1.trans g2) hb2 (by rw [zipD_get.1, ← r.length]; exact Nat.le_trans (Nat.min_le_left _ _) z) fun F3 H3 b3 k W => yields_zipT W (r.fk k) (Sv.SqT.fk k s) (r'.fk k) (Sv.SqT.fk k s')⟩⟩
        · cases e3
      · cases e
    · cases e
  · cases e
end
end Sv

set_option maxHeartbeats 4000000
/-! Sv8: targets, comprehensions. -/
namespace Sv
open PySem L2

/-! ### slots -/
section
variable {m : Pm} {H0 : Hp} {F0 : Addr → Prop} {bo : Bo} {σ : St} {ρ : Rho} {F F' : Addr → Prop} {H H' : Hp} {b b' : Bx}
theorem Rel.set_frz (R : Rel m H0 F0 bo σ ρ F H b) {i : Nat} {d : D} {v : V} (h : Rp m bo F H d v) : Rel m H0 F0 bo (σ.set i (some v)) (ρ.set i (Sl.frz d)) F H b where
  core := R.core
  len := by simp [R.len]
  frz := fun j e hj => by
    by_cases hij : i = j
    · subst hij
      have hl : i < ρ.length := by
        have := (List.getElem?_eq_some_iff.mp hj).1
        simpa using this
      rw [List.getElem?_set_self hl] at hj
      cases hj
      exact ⟨v, by rw [List.getElem?_set_self (by rw [R.len]; exact hl)], h⟩
    · rw [List.getElem?_set_ne hij] at hj
      obtain ⟨u, h1, h2⟩ := R.frz j e hj
      exact ⟨u, by rw [List.getElem?_set_ne hij]; exact h1, h2⟩
  own := fun j e hj => by
    by_cases hij : i = j
    · subst hij
      have hl : i < ρ.length := by
        have := (List.getElem?_eq_some_iff.mp hj).1
        simpa using this
      rw [List.getElem?_set_self hl] at hj
      cases hj
    · rw [List.getElem?_set_ne hij] at hj
      obtain ⟨u, h1, h2⟩ := R.own j e hj
      exact ⟨u, by rw [List.getElem?_set_ne hij]; exact h1, h2⟩
  dis := fun j k dj dk a hjk hj hk h1 h2 => by
    have nj : i ≠ j := fun e => by
      subst e
      have hl : i < ρ.length := by
        have := (List.getElem?_eq_some_iff.mp hj).1
        simpa using this
      rw [List.getElem?_set_self hl] at hj
      cases hj
    have nk : i ≠ k := fun e => by
      subst e
      have hl : i < ρ.length := by
        have := (List.getElem?_eq_some_iff.mp hk).1
        simpa using this
      rw [List.getElem?_set_self hl] at hk
      cases hk
    rw [List.getElem?_set_ne nj] at hj h1
    rw [List.getElem?_set_ne nk] at hk h2
    exact R.dis j k dj dk a hjk hj hk h1 h2
theorem Rel.set_emp (R : Rel m H0 F0 bo σ ρ F H b) {i : Nat} {v : Option V} : Rel m H0 F0 bo (σ.set i v) (ρ.set i Sl.emp) F H b where
  core := R.core
  len := by simp [R.len]
  frz := fun j e hj => by
    by_cases hij : i = j
    · subst hij
      have hl : i < ρ.length := by
        have := (List.getElem?_eq_some_iff.mp hj).1
        simpa using this
      rw [List.getElem?_set_self hl] at hj
      cases hj
    · rw [List.getElem?_set_ne hij] at hj
      obtain ⟨u, h1, h2⟩ := R.frz j e hj
      exact ⟨u, by rw [List.getElem?_set_ne hij]; exact h1, h2⟩
  own := fun j e hj => by
    by_cases hij : i = j
    · subst hij
      have hl : i < ρ.length := by
        have := (List.getElem?_eq_some_iff.mp hj).1
        simpa using this
      rw [List.getElem?_set_self hl] at hj
      cases hj
    · rw [List.getElem?_set_ne hij] at hj
      obtain ⟨u, h1, h2⟩ := R.own j e hj
      exact ⟨u, by rw [List.getElem?_set_ne hij]; exact h1, h2⟩
  dis := fun j k dj dk a hjk hj hk h1 h2 => by
    have nj : i ≠ j := fun e => by
      subst e
      have hl : i < ρ.length := by
        have := (List.getElem?_eq_some_iff.mp hj).1
        simpa using this
      rw [List.getElem?_set_self hl] at hj
      cases hj
    have nk : i ≠ k := fun e => by
      subst e
      have hl : i < ρ.length := by
        have := (List.getElem?_eq_some_iff.mp hk).1
        simpa using this
      rw [List.getElem?_set_self hl] at hk
      cases hk
    rw [List.getElem?_set_ne nj] at hj h1
    rw [List.getElem?_set_ne nk] at hk h2
    exact R.dis j k dj dk a hjk hj hk h1 h2
/-- a slot of one's own, its place new or that of no other -/
theorem Rel.set_own (R : Rel m H0 F0 bo σ ρ F H b) {i : Nat} {d : D} {a : Addr} (nf : ¬ F a) (nb : ¬ inBox bo a) (h0 : H0 a = none) (h : Own m bo F H d a)
    (hd : ∀ j dj, j ≠ i → ρ[j]? = some (Sl.own dj) → σ[j]? = some (some (V.ref a)) → False) : Rel m H0 F0 bo (σ.set i (some (V.ref a))) (ρ.set i (Sl.own d)) F H b where
  core := R.core
  len := by simp [R.len]
  frz := fun j e hj => by
    by_cases hij : i = j
    · subst hij
      have hl : i < ρ.length := by
        have := (List.getElem?_eq_some_iff.mp hj).1
        simpa using this
      rw [List.getElem?_set_self hl] at hj
      cases hj
    · rw [List.getElem?_set_ne hij] at hj
      obtain ⟨u, h1, h2⟩ := R.frz j e hj
      exact ⟨u, by rw [List.getElem?_set_ne hij]; exact h1, h2⟩
  own := fun j e hj => by
    by_cases hij : i = j
    · subst hij
      have hl : i < ρ.length := by
        have := (List.getElem?_eq_some_iff.mp hj).1
        simpa using this
      rw [List.getElem?_set_self hl] at hj
      cases hj
      exact ⟨a, by rw [List.getElem?_set_self (by rw [R.len]; exact hl)], nf, nb, h0, h⟩
    · rw [List.getElem?_set_ne hij] at hj
      obtain ⟨u, h1, h2⟩ := R.own j e hj
      exact ⟨u, by rw [List.getElem?_set_ne hij]; exact h1, h2⟩
  dis := fun j k dj dk c hjk hj hk h1 h2 => by
    by_cases ej : i = j
    · subst ej
      have hl : i < ρ.length := by
        have := (List.getElem?_eq_some_iff.mp hj).1
        simpa using this
      rw [List.getElem?_set_self (by rw [R.len]; exact hl)] at h1
      cases h1
      rw [List.getElem?_set_ne hjk] at hk h2
      exact hd k dk (Ne.symm hjk) hk h2
    · by_cases ek : i = k
      · subst ek
        have hl : i < ρ.length := by
          have := (List.getElem?_eq_some_iff.mp hk).1
          simpa using this
        rw [List.getElem?_set_self (by rw [R.len]; exact hl)] at h2
        cases h2
        rw [List.getElem?_set_ne ej] at hj h1
        exact hd j dj hjk hj h1
      · rw [List.getElem?_set_ne ej] at hj h1
        rw [List.getElem?_set_ne ek] at hk h2
        exact R.dis j k dj dk c hjk hj hk h1 h2
theorem Rel.wipe (R : Rel m H0 F0 bo σ ρ F H b) : ∀ vs : List Nat, Rel m H0 F0 bo (L2.wipe σ vs) (wipeR ρ vs) F H b
  | [] => R
  | v :: vs => (Rel.wipe R vs).set_emp
end

/-! ### targets -/
/-- the slots a target stores to are of sl -/
def wipeEq (sl : List Nat) (σ σ' : St) : Prop := ∀ vs : List Nat, (∀ i ∈ sl, i ∈ vs) → L2.wipe σ' vs = L2.wipe σ vs
theorem wipeEq.refl {sl : List Nat} {σ : St} : wipeEq sl σ σ := fun _ _ => rfl
theorem wipe_set {σ : St} {i : Nat} {v : Option V} : ∀ {vs : List Nat}, i ∈ vs → L2.wipe (σ.set i v) vs = L2.wipe σ vs
  | w :: vs, h => by
    show (L2.wipe (σ.set i v) vs).set w none = (L2.wipe σ vs).set w none
    by_cases hi : i ∈ vs
    · rw [wipe_set hi]
    · have hw : i = w := by
        rcases List.mem_cons.mp h with h | h
        · exact h
        · exact absurd h hi
      subst hw
      apply List.ext_getElem?
      intro j
      by_cases hj : i = j
      · subst hj
        rw [List.getElem?_set, List.getElem?_set]
        simp [wipe_length]
      · rw [List.getElem?_set_ne hj, List.getElem?_set_ne hj]
        by_cases hjv : j ∈ vs
        · have p : ∀ σ : St, j < σ.length → (L2.wipe σ vs)[j]? = some none := fun σ hl => by
            cases q : (L2.wipe σ vs)[j]? with
            | none =>
              rw [List.getElem?_eq_none_iff, wipe_length] at q
              omega
            | some o =>
              cases o with
              | none => rfl
              | some x => exact absurd hjv (wipe_some q).2
          by_cases hl : j < σ.length
          · rw [p _ (by simpa using hl), p _ hl]
          · rw [List.getElem?_eq_none (by rw [wipe_length]; simp; omega), List.getElem?_eq_none (by rw [wipe_length]; omega)]
        · rw [wipe_out hjv, wipe_out hjv, List.getElem?_set_ne hj]
theorem wipe_wipe {σ : St} {us : List Nat} : ∀ {vs : List Nat}, (∀ i ∈ vs, i ∈ us) → L2.wipe (L2.wipe σ vs) us = L2.wipe σ us
  | [], _ => rfl
  | v :: vs, h => by
    show L2.wipe ((L2.wipe σ vs).set v none) us = _
    rw [wipe_set (h v (by simp)), wipe_wipe fun i hi => h i (List.mem_cons_of_mem _ hi)]
def gEx (m : Pm) (sl : List Nat) (g : Tg) : TG := fun v σ H Q => ∃ H0 F0 bo ρ F b, Rel m H0 F0 bo σ ρ F H b ∧ ∃ d ρ', Rp m bo F H d v ∧ g d ρ = some ρ' ∧
  ∀ σ', Rel m H0 F0 bo σ' ρ' F H b → wipeEq sl σ σ' → Q σ' H
def gExs (m : Pm) (sl : List Nat) (g : List D → Rho → Option Rho) : TGs := fun vs σ H Q => ∃ H0 F0 bo ρ F b, Rel m H0 F0 bo σ ρ F H b ∧ ∃ ds ρ', RpL m bo F H ds vs ∧ g ds ρ = some ρ' ∧
  ∀ σ', Rel m H0 F0 bo σ' ρ' F H b → wipeEq sl σ σ' → Q σ' H
abbrev PGx (fn : Nat → Option V) (X : Cx) (tg : Expr) (sl : List Nat) (g : Tg) : Prop := PG X tg (gEx (pm X fn) sl g)
structure PGxs (fn : Nat → Option V) (X : Cx) (ts : List Expr) (sl : List Nat) (g : List D → Rho → Option Rho) : Prop where
  pg : PGs X ts (gExs (pm X fn) sl g)
  len : ∀ ds ρ ρ', g ds ρ = some ρ' → ds.length = ts.length
theorem PG.imp {X : Cx} {e : Expr} {t t' : TG} (h : PG X e t) (i : ∀ v σ H Q, t' v σ H Q → t v σ H Q) : PG X e t' := ⟨fun pins s σ H v u Q I r q => h.run pins s σ H v u Q I r (i v σ H Q q)⟩
theorem PGs.imp {X : Cx} {e : List Expr} {t t' : TGs} (h : PGs X e t) (i : ∀ v σ H Q, t' v σ H Q → t v σ H Q) : PGs X e t' := ⟨fun pins s σ H v u Q I r q => h.run pins s σ H v u Q I r (i v σ H Q q)⟩
section
variable {fn : Nat → Option V} {X : Cx} {pos : Pos}
theorem pgx_nm {i : Nat} {x : Str} (hN : X.N.Nodup) (hi : X.N[i]? = some x) (hx : Loc X.env.scope x) (hf : X.fn x = true ∨ X.env.scope.names.lookup x = some .local := by first | exact .inl rfl | exact .inr rfl | assumption) : PGx fn X (.Name x pos) [i] (gNm i) :=
  PG.imp (pg_name hN hi hx hf) fun v σ H Q ⟨H0, F0, bo, ρ, F, b, R, d, ρ', r, e, q⟩ => by
    cases e
    exact q _ (R.set_frz r) fun vs h => wipe_set (h i (by simp))
theorem gNone_len : ∀ ds ρ ρ', gNone ds ρ = some ρ' → ds.length = 0 := fun ds ρ ρ' e => by
  unfold gNone at e
  split at e
  · rfl
  · cases e
theorem gMore_len {g : Tg} {h : List D → Rho → Option Rho} {n : Nat} (hl : ∀ ds ρ ρ', h ds ρ = some ρ' → ds.length = n) : ∀ ds ρ ρ', gMore g h ds ρ = some ρ' → ds.length = n + 1 := fun ds ρ ρ' e => by
  unfold gMore at e
  split at e
  · split at e
    · have := hl _ _ _ e
      simp [this]
    · cases e
  · cases e
theorem pgx_nil : PGxs fn X [] [] gNone := by
  refine ⟨PGs.imp pgs_nil fun v σ H Q ⟨H0, F0, bo, ρ, F, b, R, ds, ρ', r, e, q⟩ => ?_, gNone_len⟩
  unfold gNone at e
  split at e
  · cases e
    simp only [RpL] at r
    exact ⟨r, q _ R wipeEq.refl⟩
  · cases e
theorem pgx_cons {t : Expr} {ts : List Expr} {sl sl' : List Nat} {g : Tg} {h : List D → Rho → Option Rho} (h1 : PGx fn X t sl g) (h2 : PGxs fn X ts sl' h)
    (hs : (assignEach (t :: ts) X.env).map (·.2) = assign t X.env :: (assignEach ts X.env).map (·.2) := by rfl) : PGxs fn X (t :: ts) (sl ++ sl') (gMore g h) := by
  refine ⟨PGs.imp (pgs_cons h1 h2.pg hs) fun v σ H Q ⟨H0, F0, bo, ρ, F, b, R, ds, ρ', r, e, q⟩ => ?_, gMore_len h2.len⟩
  unfold gMore at e
  split at e
  · rename_i d ds'
    split at e
    · rename_i ρ1 e1
      simp only [RpL] at r
      obtain ⟨v1, vr, rfl, r1, r2⟩ := r
      refine ⟨v1, vr, rfl, H0, F0, bo, ρ, F, b, R, d, ρ1, r1, e1, fun σ1 R1 w1 => ?_⟩
      exact ⟨H0, F0, bo, ρ1, F, b, R1, ds', ρ', r2, e, fun σ2 R2 w2 => q σ2 R2 fun vs hv => (w2 vs fun i hi => hv i (List.mem_append_right _ hi)).trans (w1 vs fun i hi => hv i (List.mem_append_left _ hi))⟩
    · cases e
  · cases e
theorem pgx_tup {ts : List Expr} {k : Nat} {sl : List Nat} {h : List D → Rho → Option Rho} (hc : X.calm = true) (p : PGxs fn X ts sl h) (hn : (assignEach ts X.env).length = ts.length := by rfl) (hst : (assignEach ts X.env).findIdx? (·.1) = none := by rfl) :
    PGx fn X (.Tuple ts k pos) sl (gTp h) := PG.imp (pg_tup hc p.pg hn hst) fun v σ H Q ⟨H0, F0, bo, ρ, F, b, R, d, ρ', r, e, q⟩ => by
  unfold gTp at e
  split at e
  · rename_i ds
    simp only [Rp] at r
    obtain ⟨a, vs, rfl, s, z, r⟩ := r
    exact ⟨a, vs, rfl, s, by rw [r.length, p.len _ _ _ e], H0, F0, bo, ρ, F, b, R, ds, ρ', r, e, q⟩
  · cases e

/-! ### list comprehensions -/
abbrev PTsx (fn : Nat → Option V) (X : Cx) (ifs : List Expr) (t : Tx) : Prop := PTs X ifs (tTx (pm X fn) t)
theorem PTs.imp {X : Cx} {e : List Expr} {t t' : TT} (h : PTs X e t) (i : ∀ σ H Q, t' σ H Q → t σ H Q) : PTs X e t' := ⟨fun pins s σ H Q I q => h.run pins s σ H Q I (i σ H Q q)⟩
theorem ptx_nil : PTsx fn X [] tYes' := PTs.imp pts_nil fun σ H Q ⟨H0, F0, bo, ρ, F, b, R, d, b', e, q⟩ => by
  cases e
  exact q F H (Grow.refl R.core.dom) R.core.box
theorem ptx_one {c : Expr} {t : Tx} (h : PTx fn X c t) : PTsx fn X [c] t := pts_one h
theorem lcGo_len {g : Tg} {t : Tx} {f : Ex} {ρ : Rho} : ∀ {ds : List D} {b : Bx} {rs : List D} {b' : Bx}, lcGo g t f ρ ds b = some (rs, b') → rs.length ≤ ds.length
  | [], b, rs, b', e => by cases e; simp
  | d :: ds, b, rs, b', e => by
    unfold lcGo at e
    split at e
    · split at e
      · split at e
        · split at e
          · rename_i e3
            cases e
            have := lcGo_len e3
            simp; omega
          · cases e
        · cases e
      · have := lcGo_len e
        simp; omega
      · cases e
    · cases e
theorem lc_o {m : Pm} {it : It} {g : Tg} {t : Tx} {f : Ex} {sl vs : List Nat} (hsl : ∀ i ∈ sl, i ∈ vs) {σ : St} {H : Hp} {Q : VK} (h : tEn m (eLc it g t f vs) σ H Q) : tLc (iEo m it) (gEx m sl g) (tTx m t) (tEx m f) vs σ H Q := by
  obtain ⟨H0, F0, bo, ρ, F, b, R, r, b', e, q⟩ := h
  unfold eLc at e
  split at e
  · rename_i ds b1 e1
    split at e
    · rename_i rs b2 e2
      cases e
      refine ⟨H0, F0, bo, ρ, F, b, R, ds, b1, e1, fun J F1 H1 g1 hb1 hz y D hD => ?_⟩
      have R1 := R.grow g1 hb1
      have W1 : Wo bo F1 H1 b1 := R1.wo
      have nD : ¬ inBox bo D := inBox_new W1 hD
      refine ⟨fun i mm H2 => mm = ds.length - i ∧ i ≤ ds.length ∧ ∃ F2 bb acc accD rs2, Grow bo F1 H1 F2 H2 ∧ BoxOk bo F2 H2 bb ∧ H2 D = some (.lst acc) ∧ ¬ F2 D ∧ RpL m bo F2 H2 accD acc ∧ acc.length ≤ i ∧ lcGo g t f (wipeR ρ vs) (ds.drop i) bb = some (rs2, b') ∧ accD ++ rs2 = rs,
        ⟨_, rfl, Nat.zero_le _, F1, b1, [], [], rs, Grow.alloc W1 hD, BoxOk.alloc W1 hD fun _ h => .inl h, upd_same, fun z => W1.dom D z hD, RpL.nil, Nat.zero_le _, e2, rfl⟩, ?_⟩
      rintro i mm H2 ⟨rfl, hi, F2, bb, acc, accD, rs2, g2, hb2, hD2, nF, ra, hal, eg, er⟩
      obtain ⟨yy, yst⟩ := y F2 H2 bb g2 ⟨hb2, g2.dom⟩
      by_cases hlt : i < ds.length
      · refine .inr ?_
        obtain ⟨ygo, yyl⟩ := yy i ds[i] (List.getElem?_eq_getElem hlt)
        rw [List.drop_eq_getElem_cons hlt] at eg
        refine ⟨ygo, fun H3 => ∃ F2 bb acc accD rs2, Grow bo F1 H1 F2 H3 ∧ BoxOk bo F2 H3 bb ∧ H3 D = some (.lst acc) ∧ ¬ F2 D ∧ RpL m bo F2 H3 accD acc ∧ acc.length ≤ i + 1 ∧ lcGo g t f (wipeR ρ vs) (ds.drop (i + 1)) bb = some (rs2, b') ∧ accD ++ rs2 = rs, fun H' hh => ⟨_, by omega, rfl, hlt, hh⟩, fun x H3 hy => ?_⟩
        obtain ⟨g3, hb3, rx⟩ := yyl x H3 hy
        have W2 : Wo bo F2 H2 bb := ⟨hb2, g2.dom⟩
        have R3 := ((R1.grow g2 hb2).grow g3 hb3).wipe vs
        have hD3 : H3 D = some (.lst acc) := g3.keep D _ hD2 nD
        have ra3 := ra.fk (W2.fk g3)
        unfold lcGo at eg
        split at eg
        · rename_i ρ1 e3
          refine ⟨H0, F0, bo, _, F2, bb, R3, _, ρ1, rx, e3, fun σ4 R4 w4 => ⟨w4 vs hsl |>.trans ?_, ?_⟩⟩
          · exact wipe_wipe fun i h => h
          split at eg
          · rename_i b3 e4
            refine ⟨H0, F0, bo, ρ1, F2, bb, R4, true, b3, e4, fun F5 H5 g5 hb5 => iteT ?_⟩
            split at eg
            · rename_i z b4 e5
              split at eg
              · rename_i zs b5 e6
                cases eg
                refine ⟨H0, F0, bo, ρ1, F5, b3, R4.grow g5 hb5, z, b4, e5, fun v F6 H6 g6 hb6 rv => ?_⟩
                have g36 := (g3.trans g5).trans g6
                have W3 : Wo bo F2 H3 bb := ⟨hb3, g3.dom⟩
                have W5 : Wo bo F5 H5 b3 := ⟨hb5, g5.dom⟩
                have hD6 : H6 D = some (.lst acc) := g36.keep D _ hD2 nD
                have nF6 : ¬ F6 D := fun hf => by
                  rcases g36.new D hf with k | k
                  · exact nF k
                  · rw [hD2] at k; cases k
                have kk : FK F6 H6 F6 (upd H6 D (.lst (acc ++ [v]))) := by
                  refine ⟨fun _ h => h, fun c hc => upd_ne fun e => nF6 (e ▸ hc), fun c o ho hm => ?_⟩
                  by_cases hcD : c = D
                  · subst hcD
                    rw [hD6] at ho; cases ho
                    exact absurd trivial hm
                  · rw [upd_ne hcD]; exact ho
                have g16 := g2.trans g36
                have ra6 := ra.fk (W2.fk g36)
                refine ⟨acc, hD6, by omega, F6, b4, acc ++ [v], accD ++ [z], zs, ⟨fun c o ho hn => ?_, fun c ho => ?_, g16.sub, g16.new, fun c hc ho => ?_⟩, ?_, upd_same, nF6, RpL.append (ra6.fk kk) (RpL.cons (rv.fk kk) RpL.nil), by simp; omega, e6, by simpa using er⟩
                · by_cases hcD : c = D
                  · subst hcD; rw [hD] at ho; cases ho
                  · rw [upd_ne hcD]; exact g16.keep c o ho hn
                · by_cases hcD : c = D
                  · subst hcD; exact hD
                  · rw [upd_ne hcD] at ho; exact g16.free c ho
                · by_cases hcD : c = D
                  · subst hcD; rw [upd_same] at ho; cases ho
                  · rw [upd_ne hcD] at ho; exact g16.dom c hc ho
                · cases bo with
                  | none => trivial
                  | some pq =>
                    obtain ⟨p, q'⟩ := pq
                    obtain ⟨a1, a2, a3, a4, a5⟩ := hb6
                    exact ⟨a1, a2, a3, by rw [upd_ne fun e => nD (.inl e.symm)]; exact a4, by rw [upd_ne fun e => nD (.inr e.symm)]; exact a5⟩
              · cases eg
            · cases eg
          · rename_i b3 e4
            refine ⟨H0, F0, bo, ρ1, F2, bb, R4, false, b3, e4, fun F5 H5 g5 hb5 => iteF ?_⟩
            have g35 := g3.trans g5
            have nF5 : ¬ F5 D := fun hf => by
              rcases g35.new D hf with k | k
              · exact nF k
              · rw [hD2] at k; cases k
            exact ⟨F5, b3, acc, accD, rs2, g2.trans g35, hb5, g35.keep D _ hD2 nD, nF5, ra.fk (W2.fk g35), by omega, eg, er⟩
          · cases eg
        · cases eg
      · have ei : i = ds.length := by omega
        subst ei
        rw [List.drop_length] at eg
        cases eg
        refine .inl ⟨yst, ?_⟩
        rw [List.append_nil] at er
        subst er
        have : accD.length ≤ sizeLine := by rw [← ra.length]; omega
        exact q D F2 H2 (g1.trans g2) hb2 (g1.free D hD) nF ⟨acc, hD2, by omega, ra⟩
    · cases e
  · cases e
theorem pn_lc {elt tg iter : Expr} {ifs : List Expr} {scope : Scope} {own : List (Str × Nat)} {it : It} {g : Tg} {t : Tx} {f : Ex} {sl : List Nat} (hc : X.calm = true) (hN : X.N.Nodup) (hi : PIo fn X tg iter it) (ok : BlkOk X.N X.env.scope scope own)
    (hg : ∀ (s : Shared) (H : Hp) (C : Addr) (cl : List (Str × Addr)) (fp : List Addr), PGx fn (X.blk s H scope (compEnvC scope cl C X.env) fp) tg sl g)
    (ht : ∀ (s : Shared) (H : Hp) (C : Addr) (cl : List (Str × Addr)) (fp : List Addr), PTsx fn (X.blk s H scope (compEnvC scope cl C X.env) fp) ifs t)
    (he : ∀ (s : Shared) (H : Hp) (C : Addr) (cl : List (Str × Addr)) (fp : List Addr), PEx fn (X.blk s H scope (compEnvC scope cl C X.env) fp) elt f)
    (hsl : ∀ i ∈ sl, i ∈ own.map (·.2) := by decide) (hs : ∀ x, foldedSetIterable iter X.env x = pure x := by intro _; rfl) :
    PEn fn X (.ListComp elt [⟨tg, iter, ifs, 0⟩] scope pos) (eLc it g t f (own.map (·.2))) :=
  PE.imp (pe_lc hc hN hi ok hg ht he hs) fun _ _ _ h => lc_o hsl h
end
end Sv

set_option maxHeartbeats 4000000
/-! Sv9: statements. -/
namespace Sv
open PySem L2

/-- what is reached at an end -/
def PostS (m : Pm) (H0 : Hp) (F0 : Addr → Prop) (bo : Bo) (F : Addr → Prop) (H : Hp) (D : Ends) : Fl → Rho → Bx → Prop
  | .nx, ρ, b => ∀ σ' F' H', Rel m H0 F0 bo σ' ρ F' H' b → FK F H F' H' → D.nx σ' H'
  | .bk, ρ, b => ∀ σ' F' H', Rel m H0 F0 bo σ' ρ F' H' b → FK F H F' H' → D.bk σ' H'
  | .ct, ρ, b => ∀ σ' F' H', Rel m H0 F0 bo σ' ρ F' H' b → FK F H F' H' → D.ct σ' H'
  | .rt d, _, b => ∀ v F' H', Core H0 F0 bo F' H' b → Rp m bo F' H' d v → D.rt v H'
theorem PostS.fk {m : Pm} {H0 : Hp} {F0 : Addr → Prop} {bo : Bo} {F F1 : Addr → Prop} {H H1 : Hp} {D : Ends} (k : FK F H F1 H1) : ∀ {fl : Fl} {ρ : Rho} {b : Bx}, PostS m H0 F0 bo F H D fl ρ b → PostS m H0 F0 bo F1 H1 D fl ρ b
  | .nx, _, _, h => fun σ' F' H' R k' => h σ' F' H' R (k.trans k')
  | .bk, _, _, h => fun σ' F' H' R k' => h σ' F' H' R (k.trans k')
  | .ct, _, _, h => fun σ' F' H' R k' => h σ' F' H' R (k.trans k')
  | .rt _, _, _, h => h
def tSs (m : Pm) (s : SS) : TS := fun D σ H => ∃ H0 F0 bo ρ F b, Rel m H0 F0 bo σ ρ F H b ∧ ∃ fl ρ' b', s ρ b = some (fl, ρ', b') ∧ PostS m H0 F0 bo F H D fl ρ' b'
abbrev PSx (fn : Nat → Option V) (X : Cx) (st : Stmt) (s : SS) : Prop := PS X st (tSs (pm X fn) s)
abbrev PSsx (fn : Nat → Option V) (X : Cx) (st : List Stmt) (s : SS) : Prop := PSs X st (tSs (pm X fn) s)
theorem PS.imp {X : Cx} {e : Stmt} {t t' : TS} (h : PS X e t) (i : ∀ D σ H, t' D σ H → t D σ H) : PS X e t' := ⟨fun pins s σ H D I q => h.run pins s σ H D I (i D σ H q)⟩
theorem PSs.imp {X : Cx} {e : List Stmt} {t t' : TS} (h : PSs X e t) (i : ∀ D σ H, t' D σ H → t D σ H) : PSs X e t' := ⟨fun pins s σ H D I q => h.run pins s σ H D I (i D σ H q)⟩

section
variable {m : Pm} {D : Ends} {σ : St} {H : Hp} {Q : VK}
theorem en_of_ex {f : Ex} (h : tEx m f σ H Q) : tEn m f σ H Q := by
  obtain ⟨H0, F0, bo, ρ, F, b, R, d, b', e, q⟩ := h
  refine ⟨H0, F0, bo, ρ, F, b, R, d, b', e, fun a F' H' g hb ha nf ow => ?_⟩
  have W' : Wo bo F' H' b' := ⟨hb, g.dom⟩
  have nb : ¬ inBox bo a := inBox_new R.wo ha
  obtain ⟨k, hb', dm, r⟩ := freeze W' nb ow
  exact q _ (fun c => F' c ∨ c = a) H' ⟨g.keep, g.free, fun c h => .inl (g.sub c h), fun c h => h.elim (g.new c) fun e => .inr (by rw [e]; exact ha), dm⟩ hb' r
theorem seq_o {s t : SS} (h : tSs m (sSeq s t) D σ H) : tSeq (tSs m s) (tSs m t) D σ H := by
  obtain ⟨H0, F0, bo, ρ, F, b, R, fl, ρ', b', e, q⟩ := h
  unfold sSeq at e
  split at e
  · rename_i ρ1 b1 e1
    exact ⟨H0, F0, bo, ρ, F, b, R, .nx, ρ1, b1, e1, fun σ1 F1 H1 R1 k1 => ⟨H0, F0, bo, ρ1, F1, b1, R1, fl, ρ', b', e, q.fk k1⟩⟩
  · rename_i hn
    refine ⟨H0, F0, bo, ρ, F, b, R, fl, ρ', b', e, ?_⟩
    cases fl with
    | nx => exact absurd e (hn _ _)
    | bk => exact q
    | ct => exact q
    | rt d => exact q
theorem set_o {i : Nat} {f : Ex} (h : tSs m (sSet i f) D σ H) : tEx m f σ H fun x H1 => D.nx (σ.set i (some x)) H1 := by
  obtain ⟨H0, F0, bo, ρ, F, b, R, fl, ρ', b', e, q⟩ := h
  unfold sSet at e
  split at e
  · rename_i d b1 e1
    cases e
    exact ⟨H0, F0, bo, ρ, F, b, R, d, _, e1, fun v F' H' g hb r => q _ F' H' ((R.grow g hb).set_frz r) (R.fkg g)⟩
  · cases e
theorem ne_own {bo : Bo} {F F' : Addr → Prop} {H H' : Hp} {σ : St} {ρ : Rho} {H0 : Hp} {F0 : Addr → Prop} {b : Bx} (R : Rel m H0 F0 bo σ ρ F H b) {a : Addr} (ha : H a = none) : ∀ (j : Nat) dj, ρ[j]? = some (Sl.own dj) → σ[j]? = some (some (V.ref a)) → False := fun j dj hj hs => by
  obtain ⟨c, h1, h2, h3, h4, h5⟩ := R.own j dj hj
  rw [hs] at h1
  cases h1
  obtain ⟨o, q, _⟩ := h5.some
  rw [ha] at q; cases q
theorem new_o {i : Nat} {f : Ex} (h : tSs m (sNew i f) D σ H) : tEn m f σ H fun x H1 => D.nx (σ.set i (some x)) H1 := by
  obtain ⟨H0, F0, bo, ρ, F, b, R, fl, ρ', b', e, q⟩ := h
  unfold sNew at e
  split at e
  · rename_i d b1 e1
    cases e
    refine ⟨H0, F0, bo, ρ, F, b, R, d, _, e1, fun a F' H' g hb ha nf ow => q _ F' H' ((R.grow g hb).set_own nf (inBox_new R.wo ha) (R.core.free a ha) ow fun j dj _ hj hs => ?_) (R.fkg g)⟩
    exact ne_own (F' := F) (H' := H) R ha j dj hj hs
  · cases e
end

/-! ### several names at once -/
abbrev Ks := Rho → Bx → Option (List Sl × Bx)
def kNil : Ks := fun _ b => some ([], b)
def kFrz (f : Ex) (g : Ks) : Ks := fun ρ b => match f ρ b with
  | some (d, b1) => match g ρ b1 with
    | some (ss, b2) => some (.frz d :: ss, b2)
    | none => none
  | none => none
def kNew (f : Ex) (g : Ks) : Ks := fun ρ b => match f ρ b with
  | some (d, b1) => match g ρ b1 with
    | some (ss, b2) => some (.own d :: ss, b2)
    | none => none
  | none => none
def setK : Rho → List Nat → List Sl → Rho
  | ρ, i :: is, s :: ss => setK (ρ.set i s) is ss
  | ρ, _, _ => ρ
def setV : St → List Nat → List V → St
  | σ, i :: is, v :: vs => setV (σ.set i (some v)) is vs
  | σ, _, _ => σ
def sPar (is : List Nat) (f : Ks) : SS := fun ρ b => match f ρ b with
  | some (ss, b1) => some (.nx, setK ρ is ss, b1)
  | none => none
section
variable (m : Pm) (bo : Bo) (Hs : Hp) (F : Addr → Prop) (H : Hp)
def RpK : List Sl → List V → Prop
  | [], vs => vs = []
  | .frz d :: ss, vs => ∃ v r, vs = v :: r ∧ Rp m bo F H d v ∧ RpK ss r
  | .own d :: ss, vs => ∃ a r, vs = V.ref a :: r ∧ ¬ F a ∧ Hs a = none ∧ Own m bo F H d a ∧ (∀ (k : Nat) d', ss[k]? = some (Sl.own d') → r[k]? = some (V.ref a) → False) ∧ RpK ss r
  | .emp :: _, _ => False
end
def tKs (m : Pm) (f : Ks) : TA := fun σ H Q => ∃ H0 F0 bo ρ F b, Rel m H0 F0 bo σ ρ F H b ∧ ∃ d b', f ρ b = some (d, b') ∧
  ∀ v F' H', Grow bo F H F' H' → BoxOk bo F' H' b' → RpK m bo H F' H' d v → Q v H'
structure PKs (fn : Nat → Option V) (X : Cx) (es : List Expr) (f : Ks) : Prop where
  pa : PA X es (tKs (pm X fn) f)
  len : ∀ ρ b ds b', f ρ b = some (ds, b') → ds.length = es.length
section
variable {m : Pm} {bo : Bo} {Hs : Hp} {F : Addr → Prop} {H : Hp}
theorem RpK.length : ∀ {ss : List Sl} {vs : List V}, RpK m bo Hs F H ss vs → vs.length = ss.length
  | [], vs, h => by
    have : vs = [] := h
    subst this; rfl
  | .frz d :: ss, vs, h => by
    obtain ⟨v, r, rfl, _, h2⟩ := h
    simp [RpK.length h2]
  | .own d :: ss, vs, h => by
    obtain ⟨v, r, rfl, _, _, _, _, h2⟩ := h
    simp [RpK.length h2]
  | .emp :: ss, vs, h => h.elim
theorem RpK.mono {Hs' : Hp} (hh : ∀ a, Hs' a = none → Hs a = none) : ∀ {ss : List Sl} {vs : List V}, RpK m bo Hs' F H ss vs → RpK m bo Hs F H ss vs
  | [], vs, h => h
  | .frz d :: ss, vs, h => by
    obtain ⟨v, r, rfl, h1, h2⟩ := h
    exact ⟨v, r, rfl, h1, RpK.mono hh h2⟩
  | .own d :: ss, vs, h => by
    obtain ⟨a, r, rfl, h1, h2, h3, h4, h5⟩ := h
    exact ⟨a, r, rfl, h1, hh a h2, h3, h4, RpK.mono hh h5⟩
  | .emp :: ss, vs, h => h
theorem RpK.fresh : ∀ {ss : List Sl} {vs : List V}, RpK m bo Hs F H ss vs → ∀ (k : Nat) d a, ss[k]? = some (Sl.own d) → vs[k]? = some (V.ref a) → Hs a = none
  | [], vs, h, k, d, a, e, _ => by simp at e
  | .frz d :: ss, vs, h, 0, _, a, e, _ => by simp at e
  | .frz d :: ss, vs, h, k + 1, d', a, e, e2 => by
    obtain ⟨v, r, rfl, h1, h2⟩ := h
    exact RpK.fresh h2 k d' a (by simpa using e) (by simpa using e2)
  | .own d :: ss, vs, h, 0, _, a, e, e2 => by
    obtain ⟨c, r, rfl, h1, h2, h3, h4, h5⟩ := h
    simp at e2
    subst e2
    exact h2
  | .own d :: ss, vs, h, k + 1, d', a, e, e2 => by
    obtain ⟨c, r, rfl, h1, h2, h3, h4, h5⟩ := h
    exact RpK.fresh h5 k d' a (by simpa using e) (by simpa using e2)
  | .emp :: ss, vs, h, _, _, _, _, _ => h.elim
theorem Rel.setK {H0 : Hp} {F0 : Addr → Prop} {b : Bx} (hb : ∀ a, Hs a = none → ¬ inBox bo a) (h0 : ∀ a, Hs a = none → H0 a = none) : ∀ {is : List Nat} {ss : List Sl} {vs : List V} {σ : St} {ρ : Rho}, Rel m H0 F0 bo σ ρ F H b → RpK m bo Hs F H ss vs →
    (∀ (j : Nat) dj a, ρ[j]? = some (Sl.own dj) → σ[j]? = some (some (V.ref a)) → ∀ (k : Nat) d', ss[k]? = some (Sl.own d') → vs[k]? = some (V.ref a) → False) → Rel m H0 F0 bo (setV σ is vs) (Sv.setK ρ is ss) F H b
  | [], [], vs, σ, ρ, R, r, hd => by
    have : vs = [] := r
    subst this; exact R
  | [], s :: ss, vs, σ, ρ, R, r, hd => by cases vs <;> exact R
  | i :: is, [], vs, σ, ρ, R, r, hd => by
    have : vs = [] := r
    subst this; exact R
  | i :: is, .frz d :: ss, vs, σ, ρ, R, r, hd => by
    obtain ⟨v, r, rfl, h1, h2⟩ := r
    refine Rel.setK hb h0 (is := is) (R.set_frz h1) h2 fun j dj a hj hs k d' e1 e2 => ?_
    by_cases hij : i = j
    · subst hij
      have hl : i < ρ.length := by
        have := (List.getElem?_eq_some_iff.mp hj).1
        simpa using this
      rw [List.getElem?_set_self hl] at hj
      cases hj
    · rw [List.getElem?_set_ne hij] at hj hs
      exact hd j dj a hj hs (k + 1) d' (by simpa using e1) (by simpa using e2)
  | i :: is, .own d :: ss, vs, σ, ρ, R, r, hd => by
    obtain ⟨c, r, rfl, h1, h2, h3, h4, h5⟩ := r
    refine Rel.setK hb h0 (is := is) (R.set_own h1 (hb c h2) (h0 c h2) h3 fun j dj _ hj hs => hd j dj c hj hs 0 d rfl rfl) h5 fun j dj a hj hs k d' e1 e2 => ?_
    by_cases hij : i = j
    · subst hij
      have hl : i < ρ.length := by
        have := (List.getElem?_eq_some_iff.mp hj).1
        simpa using this
      rw [List.getElem?_set_self (by rw [R.len]; exact hl)] at hs
      cases hs
      exact h4 k d' e1 e2
    · rw [List.getElem?_set_ne hij] at hj hs
      exact hd j dj a hj hs (k + 1) d' (by simpa using e1) (by simpa using e2)
  | i :: is, .emp :: ss, vs, σ, ρ, R, r, hd => r.elim
end
theorem par_o {m : Pm} {D : Ends} {σ : St} {H : Hp} {is : List Nat} {f : Ks} (h : tSs m (sPar is f) D σ H) : tKs m f σ H fun vs H1 => D.nx (setV σ is vs) H1 := by
  obtain ⟨H0, F0, bo, ρ, F, b, R, fl, ρ', b', e, q⟩ := h
  unfold sPar at e
  split at e
  · rename_i d b1 e1
    cases e
    refine ⟨H0, F0, bo, ρ, F, b, R, d, _, e1, fun v F' H' g hb r => q _ F' H' (Rel.setK (fun a ha => inBox_new R.wo ha) (fun a ha => R.core.free a ha) (R.grow g hb) r fun j dj a hj hs k d' e1 e2 => ?_) (R.fkg g)⟩
    exact ne_own (F' := F) (H' := H) R (r.fresh k d' a e1 e2) j dj hj hs
  · cases e
section
variable {fn : Nat → Option V} {X : Cx} {a c e : Expr} {es rest : List Expr} {st : Stmt} {sts : List Stmt} {pos : Pos} {f g h : Ex} {t u : Tx} {s s' : SS}
theorem pks_nil : PKs fn X [] kNil := by
  refine ⟨PA.imp pa_nil fun σ H Q ⟨H0, F0, bo, ρ, F, b, R, d, b', e, q⟩ => ?_, fun _ _ _ _ e => by cases e; rfl⟩
  cases e
  exact q [] F H (Grow.refl R.core.dom) R.core.box rfl
theorem kFrz_len {g : Ks} {n : Nat} (hl : ∀ ρ b ds b', g ρ b = some (ds, b') → ds.length = n) : ∀ ρ b ds b', kFrz f g ρ b = some (ds, b') → ds.length = n + 1 := fun ρ b ds b' e => by
  unfold kFrz at e
  split at e
  · split at e
    · rename_i e2
      cases e
      simp [hl _ _ _ _ e2]
    · cases e
  · cases e
theorem kNew_len {g : Ks} {n : Nat} (hl : ∀ ρ b ds b', g ρ b = some (ds, b') → ds.length = n) : ∀ ρ b ds b', kNew f g ρ b = some (ds, b') → ds.length = n + 1 := fun ρ b ds b' e => by
  unfold kNew at e
  split at e
  · split at e
    · rename_i e2
      cases e
      simp [hl _ _ _ _ e2]
    · cases e
  · cases e
theorem pks_frz {g : Ks} (ha : PEx fn X a f) (hr : PKs fn X es g) (hs : starEach (a :: es) X.env = (false, eval a X.env) :: starEach es X.env := by rfl) : PKs fn X (a :: es) (kFrz f g) := by
  refine ⟨PA.imp (pa_cons ha hr.pa hs) fun σ H Q ⟨H0, F0, bo, ρ, F, b, R, r, b', e, q⟩ => ?_, kFrz_len hr.len⟩
  unfold kFrz at e
  split at e
  · rename_i d b1 e1
    split at e
    · rename_i d2 b2 e2
      cases e
      refine ⟨H0, F0, bo, ρ, F, b, R, d, b1, e1, fun v1 F1 H1 g1 hb1 r1 => ?_⟩
      have R1 := R.grow g1 hb1
      exact ⟨H0, F0, bo, ρ, F1, b1, R1, d2, _, e2, fun v2 F2 H2 g2 hb2 r2 => q _ F2 H2 (g1.trans g2) hb2 ⟨v1, v2, rfl, r1.fk (R1.fkg g2), r2.mono g1.free⟩⟩
    · cases e
  · cases e
theorem pks_new {g : Ks} (ha : PEn fn X a f) (hr : PKs fn X es g) (hs : starEach (a :: es) X.env = (false, eval a X.env) :: starEach es X.env := by rfl) : PKs fn X (a :: es) (kNew f g) := by
  refine ⟨PA.imp (pa_cons ha hr.pa hs) fun σ H Q ⟨H0, F0, bo, ρ, F, b, R, r, b', e, q⟩ => ?_, kNew_len hr.len⟩
  unfold kNew at e
  split at e
  · rename_i d b1 e1
    split at e
    · rename_i d2 b2 e2
      cases e
      refine ⟨H0, F0, bo, ρ, F, b, R, d, b1, e1, fun a1 F1 H1 g1 hb1 ha1 nf1 ow1 => ?_⟩
      have R1 := R.grow g1 hb1
      refine ⟨H0, F0, bo, ρ, F1, b1, R1, d2, _, e2, fun v2 F2 H2 g2 hb2 r2 => q _ F2 H2 (g1.trans g2) hb2 ?_⟩
      obtain ⟨o, hq, _⟩ := ow1.some
      have hk := g2.keep a1 o hq (inBox_new R.wo ha1)
      refine ⟨a1, v2, rfl, fun z => ?_, ha1, ow1.fk (R1.fkg g2) (hk.trans hq.symm), fun k d' e1 e2 => ?_, r2.mono g1.free⟩
      · rcases g2.new a1 z with z | z
        · exact nf1 z
        · rw [hq] at z; cases z
      · have := r2.fresh k d' a1 e1 e2
        rw [hq] at this; cases this
    · cases e
  · cases e

/-! ### rules -/
theorem psx_nil : PSsx fn X [] sNx := PSs.imp pss_nil fun D σ H ⟨H0, F0, bo, ρ, F, b, R, fl, ρ', b', e, q⟩ => by
  cases e
  exact q σ F H R (FK.refl _ _)
theorem psx_cons (h1 : PSx fn X st s) (h2 : PSsx fn X sts s') : PSsx fn X (st :: sts) (sSeq s s') := PSs.imp (pss_cons h1 h2) fun _ _ _ h => seq_o h
theorem psx_one (h1 : PSx fn X st s) : PSsx fn X [st] s := pss_one h1
theorem fz_o {m : Pm} {D : Ends} {σ : St} {H : Hp} {i : Nat} (h : tSs m (sSeq (sFz i) s) D σ H) : tSs m s D σ H := by
  obtain ⟨H0, F0, bo, ρ, F, b, R, fl, ρ', b', e, q⟩ := h
  unfold sSeq at e
  split at e
  · rename_i ρ1 b1 e1
    unfold sFz at e1
    split at e1
    · rename_i d hi
      cases e1
      obtain ⟨a, h1, h2, h3, h4, h5⟩ := R.own i d hi
      obtain ⟨k, hb, dm, r⟩ := freeze R.wo h3 h5
      have R1 : Rel m H0 F0 bo σ (ρ.set i (Sl.frz d)) (fun c => F c ∨ c = a) H b := by
        refine ⟨⟨hb, R.core.keep, R.core.free, fun c h => .inl (R.core.sub c h), fun c h => h.elim (R.core.new c) fun e => .inr (by rw [e]; exact h4), dm⟩, by simp [R.len], fun j e hj => ?_, fun j e hj => ?_, fun j k dj dk c hjk hj hk x1 x2 => ?_⟩
        · by_cases hij : i = j
          · subst hij
            have hl : i < ρ.length := by
              have := (List.getElem?_eq_some_iff.mp hj).1
              simpa using this
            rw [List.getElem?_set_self hl] at hj
            cases hj
            exact ⟨_, h1, r⟩
          · rw [List.getElem?_set_ne hij] at hj
            obtain ⟨v, z1, z2⟩ := R.frz j e hj
            exact ⟨v, z1, z2.fk k⟩
        · by_cases hij : i = j
          · subst hij
            have hl : i < ρ.length := by
              have := (List.getElem?_eq_some_iff.mp hj).1
              simpa using this
            rw [List.getElem?_set_self hl] at hj
            cases hj
          · rw [List.getElem?_set_ne hij] at hj
            obtain ⟨c, z1, z2, z3, z4, z5⟩ := R.own j e hj
            refine ⟨c, z1, fun z => ?_, z3, z4, z5.fk k rfl⟩
            rcases z with z | z
            · exact z2 z
            · subst z; exact R.dis i j d e c hij hi hj h1 z1
        · by_cases hij : i = j
          · subst hij
            have hl : i < ρ.length := by
              have := (List.getElem?_eq_some_iff.mp hj).1
              simpa using this
            rw [List.getElem?_set_self hl] at hj
            cases hj
          · by_cases hik : i = k
            · subst hik
              have hl : i < ρ.length := by
                have := (List.getElem?_eq_some_iff.mp hk).1
                simpa using this
              rw [List.getElem?_set_self hl] at hk
              cases hk
            · rw [List.getElem?_set_ne hij] at hj
              rw [List.getElem?_set_ne hik] at hk
              exact R.dis j k dj dk c hjk hj hk x1 x2
      exact ⟨H0, F0, bo, _, _, _, R1, fl, ρ', b', e, q.fk k⟩
    · cases e1
  · rename_i hn
    exfalso
    unfold sFz at e hn
    split at e
    · rename_i d hi
      rw [hi] at hn
      exact hn _ _ rfl
    · cases e
theorem psx_fz {i : Nat} (h : PSx fn X st s) : PSx fn X st (sSeq (sFz i) s) := PS.imp h fun _ _ _ h => fz_o h
theorem pssx_fz {i : Nat} (h : PSsx fn X sts s) : PSsx fn X sts (sSeq (sFz i) s) := PSs.imp h fun _ _ _ h => fz_o h
theorem psx_ret (h : PEx fn X e f) : PSx fn X (.Return (some e) pos) (sRet f) := PS.imp (ps_ret h) fun D σ H ⟨H0, F0, bo, ρ, F, b, R, fl, ρ', b', e, q⟩ => by
  unfold sRet at e
  split at e
  · rename_i d b1 e1
    cases e
    exact ⟨H0, F0, bo, ρ, F, b, R, d, _, e1, fun v F' H' g hb r => q v F' H' (R.core.grow g hb) r⟩
  · cases e
theorem psx_retN : PSx fn X (.Return none pos) (sRet (eCon .non)) := PS.imp ps_retN fun D σ H ⟨H0, F0, bo, ρ, F, b, R, fl, ρ', b', e, q⟩ => by
  cases e
  exact q .non F H R.core (by simp [Rp])
theorem psx_if {p q : List Stmt} (hc : PTx fn X c t) (ha : PSsx fn X p s) (hb : PSsx fn X q s') : PSx fn X (.If c p q pos) (sIf t s s') := PS.imp (ps_if hc ha hb) fun D σ H ⟨H0, F0, bo, ρ, F, b, R, fl, ρ', b', e, q⟩ => by
  unfold sIf at e
  split at e
  · rename_i b1 e1
    refine ⟨H0, F0, bo, ρ, F, b, R, true, b1, e1, fun F' H' g hb => iteT ?_⟩
    exact ⟨H0, F0, bo, ρ, F', b1, R.grow g hb, fl, ρ', b', e, q.fk (R.fkg g)⟩
  · rename_i b1 e1
    refine ⟨H0, F0, bo, ρ, F, b, R, false, b1, e1, fun F' H' g hb => iteF ?_⟩
    exact ⟨H0, F0, bo, ρ, F', b1, R.grow g hb, fl, ρ', b', e, q.fk (R.fkg g)⟩
  · cases e
theorem psx_pass : PSx fn X (.Pass pos) sNx := PS.imp ps_pass fun D σ H ⟨H0, F0, bo, ρ, F, b, R, fl, ρ', b', e, q⟩ => by
  cases e
  exact q σ F H R (FK.refl _ _)
theorem psx_doc {x j pos'} : PSx fn X (.Expr (.Constant (.str x) j pos) pos') sNx := PS.imp ps_doc fun D σ H ⟨H0, F0, bo, ρ, F, b, R, fl, ρ', b', e, q⟩ => by
  cases e
  exact q σ F H R (FK.refl _ _)
theorem psx_break : PSx fn X (.Break pos) sBk := PS.imp ps_break fun D σ H ⟨H0, F0, bo, ρ, F, b, R, fl, ρ', b', e, q⟩ => by
  cases e
  exact q σ F H R (FK.refl _ _)
theorem psx_continue : PSx fn X (.Continue pos) sCt := PS.imp ps_continue fun D σ H ⟨H0, F0, bo, ρ, F, b, R, fl, ρ', b', e, q⟩ => by
  cases e
  exact q σ F H R (FK.refl _ _)
theorem psx_set {i : Nat} {x : Str} {pos' : Pos} (hN : X.N.Nodup) (hi : X.N[i]? = some x) (hx : Loc X.env.scope x) (he : PEx fn X e f) (hs : swapsWith e (some (.Name x pos')) pos.line X.env = pure false := by rfl) (hf : X.fn x = true ∨ X.env.scope.names.lookup x = some .local := by first | exact .inl rfl | exact .inr rfl | assumption) :
    PSx fn X (.Assign [.Name x pos'] e pos) (sSet i f) := PS.imp (ps_set hN hi hx he hs hf) fun _ _ _ h => set_o h
theorem psx_new {i : Nat} {x : Str} {pos' : Pos} (hN : X.N.Nodup) (hi : X.N[i]? = some x) (hx : Loc X.env.scope x) (he : PEn fn X e f) (hs : swapsWith e (some (.Name x pos')) pos.line X.env = pure false := by rfl) (hf : X.fn x = true ∨ X.env.scope.names.lookup x = some .local := by first | exact .inl rfl | exact .inr rfl | assumption) :
    PSx fn X (.Assign [.Name x pos'] e pos) (sNew i f) := PS.imp (ps_set hN hi hx he hs hf) fun _ _ _ h => new_o h
/-- target = e -/
theorem psx_asg {tg : Expr} {sl : List Nat} {g : Tg} (he : PEx fn X e f) (hg : PGx fn X tg sl g) (hs : swapsWithSole [tg] e pos.line X.env = pure false := by rfl) (hw : swappedStores [tg] e X.env = pure none := by rfl)
    (h1 : (assignEach [tg] X.env).map (·.2) = [assign tg X.env] := by rfl) : PSx fn X (.Assign [tg] e pos) (sAsg g f) := PS.imp (ps_asg he hg hs hw h1) fun D σ H ⟨H0, F0, bo, ρ, F, b, R, fl, ρ', b', e, q⟩ => by
  unfold sAsg at e
  split at e
  · rename_i d b1 e1
    split at e
    · rename_i ρ1 e2
      cases e
      refine ⟨H0, F0, bo, ρ, F, b, R, d, _, e1, fun v F' H' g hb r => ?_⟩
      exact ⟨H0, F0, bo, ρ, F', _, R.grow g hb, d, _, r, e2, fun σ' R' _ => q σ' F' H' R' (R.fkg g)⟩
    · cases e
  · cases e
theorem psx_expr (he : PEx fn X e f) (hs : swapsWith e none pos.line X.env = pure false := by rfl) : PSx fn X (.Expr e pos) (sExpr f) := PS.imp (ps_expr he hs) fun D σ H ⟨H0, F0, bo, ρ, F, b, R, fl, ρ', b', e, q⟩ => by
  unfold sExpr at e
  split at e
  · rename_i d b1 e1
    cases e
    exact ⟨H0, F0, bo, ρ, F, b, R, _, _, e1, fun v F' H' g hb r => q σ F' H' (R.grow g hb) (R.fkg g)⟩
  · cases e
/-- name = [..] on one line, the name a local -/
theorem psx_setLc {i : Nat} {y : Str} {py : Pos} {elt tg iter : Expr} {ifs : List Expr} {scope : Scope} {own : List (Str × Nat)} {spos : Pos} {it : It} {g : Tg} {sl : List Nat} (hc : X.calm = true) (hN : X.N.Nodup) (hy : X.N[i]? = some y) (hyl : X.env.scope.names.lookup y = some .local)
    (hsw : swapsWith (.ListComp elt [⟨tg, iter, ifs, 0⟩] scope pos) (some (.Name y py)) spos.line X.env = pure true) (hi : PIo fn X tg iter it) (ok : BlkOk X.N X.env.scope scope own)
    (hg : ∀ (s : Shared) (H : Hp) (C : Addr) (cl : List (Str × Addr)) (fp : List Addr), PGx fn (X.blk s H scope (compEnvC scope cl C X.env) fp) tg sl g)
    (ht : ∀ (s : Shared) (H : Hp) (C : Addr) (cl : List (Str × Addr)) (fp : List Addr), PTsx fn (X.blk s H scope (compEnvC scope cl C X.env) fp) ifs t)
    (he : ∀ (s : Shared) (H : Hp) (C : Addr) (cl : List (Str × Addr)) (fp : List Addr), PEx fn (X.blk s H scope (compEnvC scope cl C X.env) fp) elt f)
    (hsl : ∀ i ∈ sl, i ∈ own.map (·.2) := by decide) (hs : ∀ x, foldedSetIterable iter X.env x = pure x := by intro _; rfl) :
    PSx fn X (.Assign [.Name y py] (.ListComp elt [⟨tg, iter, ifs, 0⟩] scope pos) spos) (sNew i (eLc it g t f (own.map (·.2)))) :=
  PS.imp (ps_setLc hc hN hy hyl hsw hi ok hg ht he hs) fun _ _ _ h => lc_o hsl (new_o h)
theorem psx_setLcF {i : Nat} {y : Str} {py : Pos} {elt tg iter : Expr} {ifs : List Expr} {scope : Scope} {own : List (Str × Nat)} {spos : Pos} {it : It} {g : Tg} {sl : List Nat} (hc : X.calm = true) (hN : X.N.Nodup) (hy : X.N[i]? = some y) (hyl : X.env.scope.names.lookup y = some .local)
    (hsw : swapsWith (.ListComp elt [⟨tg, iter, ifs, 0⟩] scope pos) (some (.Name y py)) spos.line X.env = pure true) (hi : PIo fn X tg iter it) (ok : BlkOk X.N X.env.scope scope own)
    (hg : ∀ (s : Shared) (H : Hp) (C : Addr) (cl : List (Str × Addr)) (fp : List Addr), PGx fn (X.blk s H scope (compEnvC scope cl C X.env) fp) tg sl g)
    (ht : ∀ (s : Shared) (H : Hp) (C : Addr) (cl : List (Str × Addr)) (fp : List Addr), PTsx fn (X.blk s H scope (compEnvC scope cl C X.env) fp) ifs t)
    (he : ∀ (s : Shared) (H : Hp) (C : Addr) (cl : List (Str × Addr)) (fp : List Addr), PEx fn (X.blk s H scope (compEnvC scope cl C X.env) fp) elt f)
    (hsl : ∀ i ∈ sl, i ∈ own.map (·.2) := by decide) (hs : ∀ x, foldedSetIterable iter X.env x = pure x := by intro _; rfl) :
    PSx fn X (.Assign [.Name y py] (.ListComp elt [⟨tg, iter, ifs, 0⟩] scope pos) spos) (sSet i (eLc it g t f (own.map (·.2)))) :=
  PS.imp (ps_setLc hc hN hy hyl hsw hi ok hg ht he hs) fun _ _ _ h => lc_o hsl (en_of_ex (set_o h))

/-! ### for, while -/
theorem psx_for {iter tg : Expr} {body : List Stmt} {it : It} {g : Tg} {sl : List Nat} (hp : PassesOwn (model X.prog X.w) X.A X.env X.xe) (hc : X.calm = true) (hi : PIx fn X tg iter it) (hg : PGx fn X tg sl g) (hb : PSsx fn X body s)
    (hs : ∀ x, foldedSetIterable iter X.env x = pure x := by intro _; rfl) : PSx fn X (.For tg iter body [] pos) (sFor it g s) := PS.imp (ps_for hp hc hi hg hb hs) fun D σ H ⟨H0, F0, bo, ρ, F, b, R, fl, ρ', b', e, q⟩ => by
  unfold sFor at e
  split at e
  · rename_i ds b1 e1
    refine ⟨H0, F0, bo, ρ, F, b, R, ds, b1, e1, fun J F1 H1 g1 hb1 hz y => ?_⟩
    have R1 := R.grow g1 hb1
    have q1 := q.fk (R.fkg g1)
    refine ⟨fun i mm σ H => mm = ds.length - i ∧ i ≤ ds.length ∧ ∃ ρ F b, Rel (pm X fn) H0 F0 bo σ ρ F H b ∧ FK F1 H1 F H ∧ forGo g s (ds.drop i) ρ b = some (fl, ρ', b'), ⟨_, rfl, Nat.zero_le _, ρ, F1, b1, R1, FK.refl _ _, e⟩, ?_⟩
    rintro i mm σ2 H2 ⟨rfl, hi, ρ2, F2, b2, R2, k2, e2⟩
    obtain ⟨yy, yst⟩ := y F2 H2 b2 k2 R2.wo
    by_cases hlt : i < ds.length
    · obtain ⟨ygo, yyl⟩ := yy i ds[i] (List.getElem?_eq_getElem hlt)
      rw [List.drop_eq_getElem_cons hlt] at e2
      refine .inr ⟨ygo, fun σ H => ∃ ρ F b, Rel (pm X fn) H0 F0 bo σ ρ F H b ∧ FK F1 H1 F H ∧ forGo g s (ds.drop (i + 1)) ρ b = some (fl, ρ', b'), fun σ' H' hh => ⟨_, by omega, rfl, hlt, hh⟩, fun x H3 hy => ?_⟩
      obtain ⟨g3, hb3, rx⟩ := yyl x H3 hy
      have R3 := R2.grow g3 hb3
      have k3 := k2.trans (R2.fkg g3)
      unfold forGo at e2
      split at e2
      · rename_i ρ3 e3
        refine ⟨H0, F0, bo, ρ2, F2, b2, R3, _, ρ3, rx, e3, fun σ4 R4 _ => ?_⟩
        split at e2
        · rename_i ρ4 b4 e4
          exact ⟨H0, F0, bo, ρ3, F2, b2, R4, .nx, ρ4, b4, e4, fun σ5 F5 H5 R5 k5 => ⟨ρ4, F5, b4, R5, k3.trans k5, e2⟩⟩
        · rename_i ρ4 b4 e4
          exact ⟨H0, F0, bo, ρ3, F2, b2, R4, .ct, ρ4, b4, e4, fun σ5 F5 H5 R5 k5 => ⟨ρ4, F5, b4, R5, k3.trans k5, e2⟩⟩
        · rename_i ρ4 b4 e4
          cases e2
          exact ⟨H0, F0, bo, ρ3, F2, b2, R4, .bk, _, _, e4, fun σ5 F5 H5 R5 k5 => q1 σ5 F5 H5 R5 (k3.trans k5)⟩
        · rename_i r ρ4 b4 e4
          cases e2
          exact ⟨H0, F0, bo, ρ3, F2, b2, R4, .rt r, _, _, e4, q1⟩
        · cases e2
      · cases e2
    · have ei : i = ds.length := by omega
      subst ei
      rw [List.drop_length] at e2
      cases e2
      exact .inl ⟨yst, q1 σ2 F2 H2 R2 k2⟩
  · cases e
theorem psx_while {body : List Stmt} (hp : PassesOwn (model X.prog X.w) X.A X.env X.xe) (hc : PTx fn X c t) (hb : PSsx fn X body s) : PSx fn X (.While c body [] pos) (sWh t s) := PS.imp (ps_while hp hc hb) fun D σ H ⟨H0, F0, bo, ρ, F, b, R, fl, ρ', b', e, q⟩ => by
  have e : whGo t s 100000 ρ b = some (fl, ρ', b') := e
  generalize 100000 = n at e
  refine ⟨fun mm σ H2 => ∃ ρ F2 b, Rel (pm X fn) H0 F0 bo σ ρ F2 H2 b ∧ FK F H F2 H2 ∧ whGo t s mm ρ b = some (fl, ρ', b'), ⟨n, ρ, F, b, R, FK.refl _ _, e⟩, ?_⟩
  rintro mm σ2 H2 ⟨ρ2, F2, b2, R2, k2, e2⟩
  cases mm with
  | zero => cases e2
  | succ mm =>
    unfold whGo at e2
    split at e2
    · rename_i b3 e3
      cases e2
      refine ⟨H0, F0, bo, _, F2, b2, R2, false, _, e3, fun F3 H3 g3 hb3 => iteF ?_⟩
      exact q σ2 F3 H3 (R2.grow g3 hb3) (k2.trans (R2.fkg g3))
    · rename_i b3 e3
      refine ⟨H0, F0, bo, ρ2, F2, b2, R2, true, b3, e3, fun F3 H3 g3 hb3 => iteT ?_⟩
      have R3 := R2.grow g3 hb3
      have k3 := k2.trans (R2.fkg g3)
      refine ⟨fun σ H4 => ∃ ρ F2 b, Rel (pm X fn) H0 F0 bo σ ρ F2 H4 b ∧ FK F H F2 H4 ∧ whGo t s mm ρ b = some (fl, ρ', b'), fun σ' H' hh => ⟨mm, Nat.lt_succ_self _, hh⟩, ?_⟩
      split at e2
      · rename_i ρ4 b4 e4
        exact ⟨H0, F0, bo, ρ2, F3, b3, R3, .nx, ρ4, b4, e4, fun σ5 F5 H5 R5 k5 => ⟨ρ4, F5, b4, R5, k3.trans k5, e2⟩⟩
      · rename_i ρ4 b4 e4
        exact ⟨H0, F0, bo, ρ2, F3, b3, R3, .ct, ρ4, b4, e4, fun σ5 F5 H5 R5 k5 => ⟨ρ4, F5, b4, R5, k3.trans k5, e2⟩⟩
      · rename_i ρ4 b4 e4
        cases e2
        exact ⟨H0, F0, bo, ρ2, F3, b3, R3, .bk, _, _, e4, fun σ5 F5 H5 R5 k5 => q σ5 F5 H5 R5 (k3.trans k5)⟩
      · rename_i r ρ4 b4 e4
        cases e2
        exact ⟨H0, F0, bo, ρ2, F3, b3, R3, .rt r, _, _, e4, q⟩
      · cases e2
    · cases e2

/-! ### several names -/
theorem psx_par2 {i j : Nat} {x y : Str} {k : Ks} {px py pt : Pos} {kt k2 pt2} (hc : X.calm = true) (hN : X.N.Nodup) (hi : X.N[i]? = some x) (hj : X.N[j]? = some y) (hij : i ≠ j)
    (hx : X.env.scope.names.lookup x = some .local) (hy : X.env.scope.names.lookup y = some .local) (ha : PKs fn X [a, c] k)
    (hw : swappedStores [.Tuple [.Name x px, .Name y py] kt pt] (.Tuple [a, c] k2 pt2) X.env = pure (some [x, y]))
    (hs : swapsWithSole [.Tuple [.Name x px, .Name y py] kt pt] (.Tuple [a, c] k2 pt2) pos.line X.env = pure false := by rfl) :
    PSx fn X (.Assign [.Tuple [.Name x px, .Name y py] kt pt] (.Tuple [a, c] k2 pt2) pos) (sPar [i, j] k) := PS.imp (ps_par hc hN hi hj hij hx hy ha.pa hw hs) fun D σ H h => by
  obtain ⟨H0, F0, bo, ρ, F, b, R, d, b', e, q⟩ := par_o h
  refine ⟨H0, F0, bo, ρ, F, b, R, d, b', e, fun v F' H' g hb r => ?_⟩
  have hl : v.length = 2 := by rw [r.length]; exact ha.len _ _ _ _ e
  match v, hl with
  | [v, w], _ => exact ⟨v, w, rfl, q _ F' H' g hb r⟩
theorem psx_par3 {i j l : Nat} {x y z : Str} {k : Ks} {px py pz pt : Pos} {kt k2 pt2} (hc : X.calm = true) (hN : X.N.Nodup) (hi : X.N[i]? = some x) (hj : X.N[j]? = some y) (hl : X.N[l]? = some z) (hij : i ≠ j) (hil : i ≠ l) (hjl : j ≠ l)
    (hx : X.env.scope.names.lookup x = some .local) (hy : X.env.scope.names.lookup y = some .local) (hz : X.env.scope.names.lookup z = some .local) (ha : PKs fn X [a, c, e] k)
    (hw : swappedStores [.Tuple [.Name x px, .Name y py, .Name z pz] kt pt] (.Tuple [a, c, e] k2 pt2) X.env = pure (some [x, y, z]))
    (hs : swapsWithSole [.Tuple [.Name x px, .Name y py, .Name z pz] kt pt] (.Tuple [a, c, e] k2 pt2) pos.line X.env = pure false := by rfl) :
    PSx fn X (.Assign [.Tuple [.Name x px, .Name y py, .Name z pz] kt pt] (.Tuple [a, c, e] k2 pt2) pos) (sPar [i, j, l] k) := PS.imp (ps_par3 hc hN hi hj hl hij hil hjl hx hy hz ha.pa hw hs) fun D σ H h => by
  obtain ⟨H0, F0, bo, ρ, F, b, R, d, b', e, q⟩ := par_o h
  refine ⟨H0, F0, bo, ρ, F, b, R, d, b', e, fun v F' H' g hb r => ?_⟩
  have hl : v.length = 3 := by rw [r.length]; exact ha.len _ _ _ _ e
  match v, hl with
  | [u, v, w], _ => exact ⟨u, v, w, rfl, q _ F' H' g hb r⟩
/-- names of any kind -/
def gSetV (is : List Nat) : TGs := fun vs σ H Q => vs.length = is.length ∧ Q (setV σ is vs) H
theorem pgv_nil : PGs X [] (gSetV []) := PGs.imp pgs_nil fun v σ H Q ⟨hl, q⟩ => by
  match v, hl with
  | [], _ => exact ⟨rfl, q⟩
theorem pgv_cons {i : Nat} {is : List Nat} {x : Str} {px : Pos} (hN : X.N.Nodup) (hi : X.N[i]? = some x) (hx : Loc X.env.scope x) (h2 : PGs X es (gSetV is)) (hf : X.fn x = true ∨ X.env.scope.names.lookup x = some .local := by first | exact .inl rfl | exact .inr rfl | assumption)
    (hs : (assignEach (.Name x px :: es) X.env).map (·.2) = assign (.Name x px) X.env :: (assignEach es X.env).map (·.2) := by rfl) : PGs X (.Name x px :: es) (gSetV (i :: is)) := PGs.imp (pgs_cons (pg_name hN hi hx hf) h2 hs) fun v σ H Q ⟨hl, q⟩ => by
  match v, hl with
  | v :: vs, hl => exact ⟨v, vs, rfl, by simpa using hl, q⟩
theorem psx_parT {ts : List Expr} {is : List Nat} {k : Ks} {k1 k2 : Nat} {pt pt2 : Pos} (hc : X.calm = true) (ha : PKs fn X es k) (hg : PGs X ts (gSetV is)) (he : es.length = ts.length := by rfl) (hi : is.length = ts.length := by rfl) (hl : es.length ≤ 1000 := by decide)
    (hs : swapsWithSole [.Tuple ts k1 pt] (.Tuple es k2 pt2) pos.line X.env = pure false := by rfl) (hw : swappedStores [.Tuple ts k1 pt] (.Tuple es k2 pt2) X.env = pure none := by rfl)
    (h1 : (assignEach [.Tuple ts k1 pt] X.env).map (·.2) = [assign (.Tuple ts k1 pt) X.env] := by rfl) (hn : (assignEach ts X.env).length = ts.length := by rfl) (hst : (assignEach ts X.env).findIdx? (·.1) = none := by rfl) :
    PSx fn X (.Assign [.Tuple ts k1 pt] (.Tuple es k2 pt2) pos) (sPar is k) := PS.imp (ps_asg (pe_tup ha.pa) (pg_tup hc hg hn hst) hs hw h1) fun D σ H h => by
  obtain ⟨H0, F0, bo, ρ, F, b, R, fl, ρ', b', e, q⟩ := h
  unfold sPar at e
  split at e
  · rename_i ss b1 e1
    cases e
    refine ⟨H0, F0, bo, ρ, F, b, R, ss, _, e1, fun v F1 H1 g1 hb1 r => ?_⟩
    have hz : v.length = es.length := by rw [r.length]; exact ha.len _ _ _ _ e1
    refine ⟨by rw [hz, sizeLine_eq]; omega, fun p hp => ?_⟩
    have R1 := R.grow g1 hb1
    have g2 : Grow bo F1 H1 F1 (upd H1 p (.tup v)) := Grow.alloc R1.wo hp
    have hb2 : BoxOk bo F1 (upd H1 p (.tup v)) _ := BoxOk.alloc R1.wo hp fun _ h => .inl h
    have R2 := R1.grow g2 hb2
    refine ⟨p, v, rfl, SqT.of upd_same, by rw [hz, he], by rw [hz, he, hi], ?_⟩
    have rk : RpK (pm X fn) bo H F1 (upd H1 p (.tup v)) ss v := by
      have : ∀ {ss : List Sl} {v' : List V}, RpK (pm X fn) bo H F1 H1 ss v' → RpK (pm X fn) bo H F1 (upd H1 p (.tup v)) ss v' := by
        intro ss
        induction ss with
        | nil => intro v' h; exact h
        | cons s ss ih =>
          intro v' h
          cases s with
          | emp => exact h
          | frz d =>
            obtain ⟨v, r, rfl, h1, h2⟩ := h
            exact ⟨v, r, rfl, h1.fk (R1.fkg g2), ih h2⟩
          | own d =>
            obtain ⟨a, r, rfl, h1, h2, h3, h4, h5⟩ := h
            obtain ⟨o, hq, _⟩ := h3.some
            refine ⟨a, r, rfl, h1, h2, h3.fk (R1.fkg g2) ?_, h4, ih h5⟩
            exact upd_ne (ne_of_none hq hp)
      exact this r
    exact q _ F1 _ (Rel.setK (fun a ha => inBox_new R.wo ha) (fun a ha => R.core.free a ha) R2 rk fun j dj a hj hs k d' e1 e2 => ne_own (F' := F) (H' := H) R (r.fresh k d' a e1 e2) j dj hj hs) ((R.fkg g1).trans (R1.fkg g2))
  · cases e
end
end Sv

set_option maxHeartbeats 4000000
/-! Sv10: lists of one's own, changed in place. -/
namespace Sv
open PySem L2

section
variable {m : Pm} {H0 : Hp} {F0 : Addr → Prop} {bo : Bo} {σ : St} {ρ : Rho} {F F' : Addr → Prop} {H H' : Hp} {b b' : Bx}
theorem BoxOk.upd {a : Addr} {o : HO} (nb : ¬ inBox bo a) (h : BoxOk bo F H b) : BoxOk bo F (L2.upd H a o) b := by
  cases bo with
  | none => trivial
  | some pq =>
    obtain ⟨p, q'⟩ := pq
    obtain ⟨a1, a2, a3, a4, a5⟩ := h
    exact ⟨a1, a2, a3, by rw [upd_ne fun e => nb (.inl e.symm)]; exact a4, by rw [upd_ne fun e => nb (.inr e.symm)]; exact a5⟩
theorem FK.upd {a : Addr} {o : HO} (nf : ¬ F a) (hm : ∀ u, H a = some u → MutO u) : FK F H F (L2.upd H a o) := by
  refine ⟨fun _ h => h, fun c hc => upd_ne fun e => nf (e ▸ hc), fun c u hu hn => ?_⟩
  by_cases hca : c = a
  · subst hca
    exact absurd (hm u hu) hn
  · rw [upd_ne hca]; exact hu
/-- a thing of one's own changed in place -/
theorem Rel.mut (R : Rel m H0 F0 bo σ ρ F H b) {i : Nat} {d d' : D} {a : Addr} {o : HO} (hi : ρ[i]? = some (Sl.own d)) (ha : σ[i]? = some (some (V.ref a))) (ow : FK F H F (L2.upd H a o) → Own m bo F (L2.upd H a o) d' a) :
    Rel m H0 F0 bo σ (ρ.set i (Sl.own d')) F (L2.upd H a o) b ∧ FK F H F (L2.upd H a o) := by
  obtain ⟨a', h1, nf, nb, h0, hw⟩ := R.own i d hi
  rw [ha] at h1
  cases h1
  obtain ⟨u, hu, um⟩ := hw.some
  have k : FK F H F (L2.upd H a o) := FK.upd nf fun u' hu' => by rw [hu] at hu'; cases hu'; exact um
  refine ⟨⟨⟨R.core.box.upd nb, fun c v hc hn => ?_, fun c hc => ?_, R.core.sub, R.core.new, fun c hc => ?_⟩, by simp [R.len], fun j e hj => ?_, fun j e hj => ?_, fun j l dj dl c hjl hj hl x1 x2 => ?_⟩, k⟩
  · have nca : c ≠ a := ne_of_none hc h0
    rw [upd_ne nca]; exact R.core.keep c v hc hn
  · by_cases hca : c = a
    · subst hca; exact h0
    · rw [upd_ne hca] at hc; exact R.core.free c hc
  · by_cases hca : c = a
    · subst hca; exact absurd hc nf
    · rw [upd_ne hca]; exact R.core.dom c hc
  · by_cases hij : i = j
    · subst hij
      have hl : i < ρ.length := by
        have := (List.getElem?_eq_some_iff.mp hj).1
        simpa using this
      rw [List.getElem?_set_self hl] at hj
      cases hj
    · rw [List.getElem?_set_ne hij] at hj
      obtain ⟨v, z1, z2⟩ := R.frz j e hj
      exact ⟨v, z1, z2.fk k⟩
  · by_cases hij : i = j
    · subst hij
      have hl : i < ρ.length := by
        have := (List.getElem?_eq_some_iff.mp hj).1
        simpa using this
      rw [List.getElem?_set_self hl] at hj
      cases hj
      exact ⟨a, ha, nf, nb, h0, ow k⟩
    · rw [List.getElem?_set_ne hij] at hj
      obtain ⟨c, z1, z2, z3, z4, z5⟩ := R.own j e hj
      have nca : c ≠ a := fun e => by subst e; exact R.dis i j _ _ c hij hi hj ha z1
      exact ⟨c, z1, z2, z3, z4, z5.fk k (upd_ne nca)⟩
  · have back : ∀ (j : Nat) dj, (ρ.set i (Sl.own d'))[j]? = some (Sl.own dj) → ∃ dj', ρ[j]? = some (Sl.own dj') := fun j dj hj => by
      by_cases hij : i = j
      · subst hij; exact ⟨d, hi⟩
      · rw [List.getElem?_set_ne hij] at hj; exact ⟨dj, hj⟩
    obtain ⟨_, y1⟩ := back j dj hj
    obtain ⟨_, y2⟩ := back l dl hl
    exact R.dis j l _ _ c hjl y1 y2 x1 x2
end

/-! ### expressions that change a slot's list -/
abbrev Mx := Rho → Bx → Option (D × Rho × Bx)
abbrev MAs := Rho → Bx → Option (List D × Rho × Bx)
def mUp (f : Ex) : Mx := fun ρ b => match f ρ b with
  | some (d, b1) => some (d, ρ, b1)
  | none => none
def mUpA (f : As) : MAs := fun ρ b => match f ρ b with
  | some (d, b1) => some (d, ρ, b1)
  | none => none
def mOne (f : Mx) : MAs := fun ρ b => match f ρ b with
  | some (d, ρ1, b1) => some ([d], ρ1, b1)
  | none => none
/-- xs.m(..) -/
def mMeth (i : Nat) (k : List D → List D → Option (D × List D)) (g : MAs) : Mx := fun ρ b => match ρ[i]? with
  | some (.own (.lst _)) => match g ρ b with
    | some (ds, ρ1, b1) => match ρ1[i]? with
      | some (.own (.lst xs)) => match k xs ds with
        | some (r, ys) => some (r, ρ1.set i (.own (.lst ys)), b1)
        | none => none
      | _ => none
    | none => none
  | _ => none
def kApp (xs : List D) : List D → Option (D × List D)
  | [d] => if xs.length < sizeLine then some (.non, xs ++ [d]) else none
  | _ => none
def kExt (xs : List D) : List D → Option (D × List D)
  | [.lst ys] => if xs.length + ys.length ≤ sizeLine then some (.non, xs ++ ys) else none
  | _ => none
def kPop (xs : List D) : List D → Option (D × List D)
  | [] => match xs[xs.length - 1]? with
    | some d => some (d, xs.dropLast)
    | none => none
  | _ => none
def kPopAt (xs : List D) : List D → Option (D × List D)
  | [.int i] => match ixN xs.length i with
    | some k => match xs[k]? with
      | some d => some (d, xs.eraseIdx k)
      | none => none
    | none => none
  | _ => none
def kIns (xs : List D) : List D → Option (D × List D)
  | [.int i, d] => if xs.length < sizeLine ∧ 0 ≤ i ∧ i < 2 ^ 63 then some (.non, xs.take i.toNat ++ [d] ++ xs.drop i.toNat) else none
  | _ => none
def kRem (xs : List D) : List D → Option (D × List D)
  | [.int k] => match intsD xs with
    | some ns => if k ∈ ns then some (.non, (ns.erase k).map .int) else none
    | none => none
  | _ => none
def tMx (m : Pm) (f : Mx) : TE := fun σ H Q => ∃ H0 F0 bo ρ F b, Rel m H0 F0 bo σ ρ F H b ∧ ∃ d ρ' b', f ρ b = some (d, ρ', b') ∧
  ∀ v F' H', Rel m H0 F0 bo σ ρ' F' H' b' → FK F H F' H' → Rp m bo F' H' d v → Q v H'
def tMAs (m : Pm) (f : MAs) : TA := fun σ H Q => ∃ H0 F0 bo ρ F b, Rel m H0 F0 bo σ ρ F H b ∧ ∃ d ρ' b', f ρ b = some (d, ρ', b') ∧
  ∀ v F' H', Rel m H0 F0 bo σ ρ' F' H' b' → FK F H F' H' → RpL m bo F' H' d v → Q v H'
abbrev PMx (fn : Nat → Option V) (X : Cx) (e : Expr) (f : Mx) : Prop := PE X e (tMx (pm X fn) f)
abbrev PMAs (fn : Nat → Option V) (X : Cx) (es : List Expr) (f : MAs) : Prop := PA X es (tMAs (pm X fn) f)
/-- a method of a list, by values -/
def rM (m : Pm) (k : List D → List D → Option (D × List D)) : V → List V → Hp → VK → Prop := fun x vs H Q => ∃ bo F b, Wo bo F H b ∧ ∃ a xs ds us r ys, x = .ref a ∧ ¬ F a ∧ ¬ inBox bo a ∧ H a = some (.lst us) ∧ us.length ≤ sizeLine ∧ RpL m bo F H xs us ∧ RpL m bo F H ds vs ∧ k xs ds = some (r, ys) ∧
  ∀ v ws, RpL m bo F H ys ws → ws.length ≤ sizeLine → Rp m bo F H r v → Q v (upd H a (.lst ws))
section
variable {fn : Nat → Option V} {X : Cx} {a c e : Expr} {es rest : List Expr} {st : Stmt} {sts : List Stmt} {pos p : Pos} {f g h : Ex} {t u : Tx} {s s' : SS}
theorem pmx_up (h : PEx fn X e f) : PMx fn X e (mUp f) := PE.imp h fun σ H Q ⟨H0, F0, bo, ρ, F, b, R, d, ρ', b', e, q⟩ => by
  unfold mUp at e
  split at e
  · rename_i d b1 e1
    cases e
    exact ⟨H0, F0, bo, _, F, b, R, d, _, e1, fun v F' H' g hb r => q v F' H' (R.grow g hb) (R.fkg g) r⟩
  · cases e
theorem pmas_up {g : As} (h : PAs fn X es g) : PMAs fn X es (mUpA g) := PA.imp h.pa fun σ H Q ⟨H0, F0, bo, ρ, F, b, R, d, ρ', b', e, q⟩ => by
  unfold mUpA at e
  split at e
  · rename_i d b1 e1
    cases e
    exact ⟨H0, F0, bo, _, F, b, R, d, _, e1, fun v F' H' g hb r => q v F' H' (R.grow g hb) (R.fkg g) r⟩
  · cases e
theorem pmas_one {g : Mx} (h : PMx fn X e g) (hs : starEach [e] X.env = (false, eval e X.env) :: starEach [] X.env := by rfl) : PMAs fn X [e] (mOne g) := PA.imp (pa_cons h pa_nil hs) fun σ H Q ⟨H0, F0, bo, ρ, F, b, R, d, ρ', b', e, q⟩ => by
  unfold mOne at e
  split at e
  · rename_i d ρ1 b1 e1
    cases e
    exact ⟨H0, F0, bo, ρ, F, b, R, d, ρ', b', e1, fun v F' H' R' k r => q [v] F' H' R' k (RpL.cons r RpL.nil)⟩
  · cases e

/-! #### the methods by values -/
theorem m_app : MtR X "list.append" (rM (pm X fn) kApp) := by
  intro pins s σ H x vs v us Q I rx rv ⟨bo, F, b, W, a, xs, ds, ws, r, ys, ex, nf, nb, ha, hz, r1, r2, ek, q⟩
  subst ex
  unfold kApp at ek
  split at ek
  · rename_i d
    split at ek
    · rename_i hlt
      cases ek
      have r2' := r2
      simp only [RpL] at r2'
      obtain ⟨v1, _, rfl, r3, rfl⟩ := r2'
      exact mt_append pins s σ H _ _ _ _ _ I rx rv ⟨a, ws, v1, rfl, rfl, ha, by rw [r1.length]; exact hlt, q .non _ (RpL.append r1 r2) (by have := r1.length; simp; omega) (by simp [Rp])⟩
    · cases ek
  · cases ek
theorem m_ext : MtR X "list.extend" (rM (pm X fn) kExt) := by
  intro pins s σ H x vs v us Q I rx rv ⟨bo, F, b, W, a, xs, ds, ws, r, ys, ex, nf, nb, ha, hz, r1, r2, ek, q⟩
  subst ex
  unfold kExt at ek
  split at ek
  · rename_i d
    split at ek
    · rename_i hlt
      cases ek
      simp only [RpL, Rp] at r2
      obtain ⟨v1, _, rfl, ⟨a2, us2, rfl, f2, h2, z2, r3⟩, rfl⟩ := r2
      have l1 := r1.length
      have l2 := r3.length
      exact mt_extend pins s σ H _ _ _ _ _ I rx rv ⟨a, a2, ws, us2, rfl, rfl, ha, h2, by omega, q .non _ (RpL.append r1 r3) (by simp; omega) (by simp [Rp])⟩
    · cases ek
  · cases ek
theorem RpL.dropLast {m : Pm} {bo : Bo} {F : Addr → Prop} {H : Hp} {ds : List D} {vs : List V} (h : RpL m bo F H ds vs) : RpL m bo F H ds.dropLast vs.dropLast := by
  rw [List.dropLast_eq_take, List.dropLast_eq_take, h.length]
  exact h.take _
theorem m_pop : MtR X "list.pop" (rM (pm X fn) kPop) := by
  intro pins s σ H x vs v us Q I rx rv ⟨bo, F, b, W, a, xs, ds, ws, r, ys, ex, nf, nb, ha, hz, r1, r2, ek, q⟩
  subst ex
  unfold kPop at ek
  split at ek
  · split at ek
    · rename_i d hd
      cases ek
      simp only [RpL] at r2
      subst r2
      obtain ⟨v1, e1, r3⟩ := r1.get hd
      exact mt_pop pins s σ H _ _ _ _ _ I rx rv ⟨a, ws, v1, rfl, rfl, ha, by rw [r1.length]; exact e1, q v1 _ r1.dropLast (by rw [List.length_dropLast]; omega) r3⟩
    · cases ek
  · cases ek
theorem m_popAt : MtR X "list.pop" (rM (pm X fn) kPopAt) := by
  intro pins s σ H x vs v us Q I rx rv ⟨bo, F, b, W, a, xs, ds, ws, r, ys, ex, nf, nb, ha, hz, r1, r2, ek, q⟩
  subst ex
  unfold kPopAt at ek
  split at ek
  · rename_i i
    split at ek
    · rename_i k hk
      split at ek
      · rename_i d hd
        cases ek
        simp only [RpL, Rp] at r2
        obtain ⟨_, _, rfl, rfl, rfl⟩ := r2
        obtain ⟨v1, e1, r3⟩ := r1.get hd
        obtain ⟨h1, h2, h3, h4⟩ := ixN_seq hk
        have l1 := r1.length
        have hn := line63
        exact mt_popAt pins s σ H _ _ _ _ _ I rx rv ⟨a, ws, i, k, v1, rfl, rfl, ha, by omega, by omega, by rw [l1]; exact h1, e1, q v1 _ (r1.eraseIdx k) (Nat.le_trans (len_erase ws k) hz) r3⟩
      · cases ek
    · cases ek
  · cases ek
theorem m_ins : MtR X "list.insert" (rM (pm X fn) kIns) := by
  intro pins s σ H x vs v us Q I rx rv ⟨bo, F, b, W, a, xs, ds, ws, r, ys, ex, nf, nb, ha, hz, r1, r2, ek, q⟩
  subst ex
  unfold kIns at ek
  split at ek
  · rename_i i d
    split at ek
    · rename_i hc
      obtain ⟨hlt, h0, h1⟩ := hc
      cases ek
      simp only [RpL, Rp] at r2
      obtain ⟨_, _, rfl, rfl, v1, _, rfl, r3, rfl⟩ := r2
      have l1 := r1.length
      refine mt_insert pins s σ H _ _ _ _ _ I rx rv ⟨a, ws, i, v1, rfl, rfl, ha, by omega, h0, h1, q .non _ (RpL.append (RpL.append (r1.take _) (RpL.cons r3 RpL.nil)) (r1.drop _)) ?_ (by simp [Rp])⟩
      simp only [List.length_append, List.length_take, List.length_drop, List.length_singleton]
      omega
    · cases ek
  · cases ek

/-! #### .. as expressions -/
theorem meth_o {m : Pm} {K : PySem.W.Frag} {i : Nat} {k : List D → List D → Option (D × List D)} {g : MAs} {σ : St} {H : Hp} {Q : VK} (h : tMx m (mMeth i k g) σ H Q) : tBM K "list" (rM m k) (tVar i) (tMAs m g) σ H Q := by
  obtain ⟨H0, F0, bo, ρ, F, b, R, r, ρ', b', e, q⟩ := h
  unfold mMeth at e
  split at e
  · rename_i xs0 hi
    split at e
    · rename_i ds ρ1 b1 e1
      split at e
      · rename_i xs hi1
        split at e
        · rename_i r' ys ek
          cases e
          obtain ⟨a, h1, nf, nb, h0, us0, hu0, hz0, ru0⟩ := R.own i _ hi
          refine ⟨_, h1, .inl ⟨rfl, us0, SqL.of hu0⟩, H0, F0, bo, ρ, F, b, R, ds, ρ1, _, e1, fun vs F' H' R' k' rv => ?_⟩
          obtain ⟨a', h1', nf', nb', h0', us, hu, hz, ru⟩ := R'.own i _ hi1
          rw [h1] at h1'; cases h1'
          refine ⟨bo, F', _, R'.wo, a, xs, ds, us, r, ys, rfl, nf', nb', hu, hz, ru, rv, ek, fun v ws rw' zw rr => ?_⟩
          obtain ⟨R2, k2⟩ := R'.mut hi1 h1 (d' := .lst ys) (o := .lst ws) fun k2 => ⟨ws, upd_same, zw, rw'.fk k2⟩
          exact q v F' _ R2 (k'.trans k2) (rr.fk k2)
        · cases e
      · cases e
    · cases e
  · cases e
variable {o : Expr} {name : Str} {apos cpos : Pos} {T id : String} {i : Nat} {k : List D → List D → Option (D × List D)} {ga : MAs}
theorem pmx_meth (pa : PlainAttrs "list") (slot : Slot "list" name id) (hty : typeOf (.builtin id) = pure (.type "method_descriptor")) (hm : MtR X id (rM (pm X fn) k)) (ho : PE X o (tVar i)) (ha : PMAs fn X (e :: es) ga)
    (hbase : attributeBase o name X.env (eval o X.env) = eval o X.env := by rfl)
    (hfew : ((backTo cpos (starEach (e :: es) X.env)).all (fun x => !x.1) && (backToKw cpos (keywordEach [] X.env)).all (fun x => x.1.isSome)
      && decide ((e :: es).length + ([] : List Keyword).length + (if ([] : List Keyword).isEmpty then 0 else 1) < 30)) = true := by rfl)
    (hline : (apos.endLine == cpos.line) = true := by rfl) (hs : starEach (e :: es) X.env = (false, eval e X.env) :: starEach es X.env := by rfl) (hplain : (backTo cpos (starEach es X.env)).any (·.1) = false := by rfl) :
    PMx fn X (.Call (.Attribute o name apos) (e :: es) [] cpos) (mMeth i k ga) :=
  PE.imp (pe_bm pa slot hty hm ho ha hbase hfew hline hs hplain) fun _ _ _ h => meth_o h
def mNil : MAs := fun ρ b => some ([], ρ, b)
theorem pmx_meth0 (pa : PlainAttrs "list") (slot : Slot "list" name id) (hty : typeOf (.builtin id) = pure (.type "method_descriptor")) (hm : MtR X id (rM (pm X fn) k)) (ho : PE X o (tVar i))
    (hbase : attributeBase o name X.env (eval o X.env) = eval o X.env := by rfl) (hline : (apos.endLine == cpos.line) = true := by rfl) :
    PMx fn X (.Call (.Attribute o name apos) [] [] cpos) (mMeth i k mNil) :=
  PE.imp (pe_bm0 pa slot hty hm ho hbase hline) fun σ H Q h => by
    obtain ⟨v, h1, ty, H0, F0, bo, ρ, F, b, R, d, ρ', b', e, q⟩ := meth_o (K := X.K) h
    cases e
    exact ⟨v, h1, ty, q [] F H R (FK.refl _ _) RpL.nil⟩
theorem pmx_app (ho : PE X o (tVar i)) (ha : PMAs fn X [e] ga) (hbase : attributeBase o "append" X.env (eval o X.env) = eval o X.env := by rfl)
    (hfew : ((backTo cpos (starEach [e] X.env)).all (fun x => !x.1) && (backToKw cpos (keywordEach [] X.env)).all (fun x => x.1.isSome)
      && decide ([e].length + ([] : List Keyword).length + (if ([] : List Keyword).isEmpty then 0 else 1) < 30)) = true := by rfl)
    (hline : (apos.endLine == cpos.line) = true := by rfl) (hs : starEach [e] X.env = (false, eval e X.env) :: starEach [] X.env := by rfl) (hplain : (backTo cpos (starEach [] X.env)).any (·.1) = false := by rfl) :
    PMx fn X (.Call (.Attribute o "append" apos) [e] [] cpos) (mMeth i kApp ga) := pmx_meth PySem.F.plainAttrs_list PySem.F.slot_list_append PySem.F.type_list_append m_app ho ha hbase hfew hline hs hplain
theorem pmx_ext (ho : PE X o (tVar i)) (ha : PMAs fn X [e] ga) (hbase : attributeBase o "extend" X.env (eval o X.env) = eval o X.env := by rfl)
    (hfew : ((backTo cpos (starEach [e] X.env)).all (fun x => !x.1) && (backToKw cpos (keywordEach [] X.env)).all (fun x => x.1.isSome)
      && decide ([e].length + ([] : List Keyword).length + (if ([] : List Keyword).isEmpty then 0 else 1) < 30)) = true := by rfl)
    (hline : (apos.endLine == cpos.line) = true := by rfl) (hs : starEach [e] X.env = (false, eval e X.env) :: starEach [] X.env := by rfl) (hplain : (backTo cpos (starEach [] X.env)).any (·.1) = false := by rfl) :
    PMx fn X (.Call (.Attribute o "extend" apos) [e] [] cpos) (mMeth i kExt ga) := pmx_meth PySem.F.plainAttrs_list PySem.F.slot_list_extend PySem.F.type_list_extend m_ext ho ha hbase hfew hline hs hplain
theorem pmx_pop (ho : PE X o (tVar i)) (hbase : attributeBase o "pop" X.env (eval o X.env) = eval o X.env := by rfl) (hline : (apos.endLine == cpos.line) = true := by rfl) :
    PMx fn X (.Call (.Attribute o "pop" apos) [] [] cpos) (mMeth i kPop mNil) := pmx_meth0 PySem.F.plainAttrs_list PySem.F.slot_list_pop PySem.F.type_list_pop m_pop ho hbase hline
theorem pmx_popAt (ho : PE X o (tVar i)) (ha : PMAs fn X [e] ga) (hbase : attributeBase o "pop" X.env (eval o X.env) = eval o X.env := by rfl)
    (hfew : ((backTo cpos (starEach [e] X.env)).all (fun x => !x.1) && (backToKw cpos (keywordEach [] X.env)).all (fun x => x.1.isSome)
      && decide ([e].length + ([] : List Keyword).length + (if ([] : List Keyword).isEmpty then 0 else 1) < 30)) = true := by rfl)
    (hline : (apos.endLine == cpos.line) = true := by rfl) (hs : starEach [e] X.env = (false, eval e X.env) :: starEach [] X.env := by rfl) (hplain : (backTo cpos (starEach [] X.env)).any (·.1) = false := by rfl) :
    PMx fn X (.Call (.Attribute o "pop" apos) [e] [] cpos) (mMeth i kPopAt ga) := pmx_meth PySem.F.plainAttrs_list PySem.F.slot_list_pop PySem.F.type_list_pop m_popAt ho ha hbase hfew hline hs hplain
theorem pmx_ins {e' : Expr} (ho : PE X o (tVar i)) (ha : PMAs fn X [e, e'] ga) (hbase : attributeBase o "insert" X.env (eval o X.env) = eval o X.env := by rfl)
    (hfew : ((backTo cpos (starEach [e, e'] X.env)).all (fun x => !x.1) && (backToKw cpos (keywordEach [] X.env)).all (fun x => x.1.isSome)
      && decide ([e, e'].length + ([] : List Keyword).length + (if ([] : List Keyword).isEmpty then 0 else 1) < 30)) = true := by rfl)
    (hline : (apos.endLine == cpos.line) = true := by rfl) (hs : starEach [e, e'] X.env = (false, eval e X.env) :: starEach [e'] X.env := by rfl) (hplain : (backTo cpos (starEach [e'] X.env)).any (·.1) = false := by rfl) :
    PMx fn X (.Call (.Attribute o "insert" apos) [e, e'] [] cpos) (mMeth i kIns ga) := pmx_meth PySem.F.plainAttrs_list PySem.F.slot_list_insert PySem.F.type_list_insert m_ins ho ha hbase hfew hline hs hplain
theorem intsD_eq : ∀ {xs : List D} {ns : List Int}, intsD xs = some ns → xs = ns.map .int
  | [], ns, e => by cases e; rfl
  | .int i :: xs, ns, e => by
    unfold intsD at e
    cases h : intsD xs with
    | none => rw [h] at e; cases e
    | some r => rw [h] at e; cases e; rw [intsD_eq h]; rfl
  | .non :: _, _, e => by cases e
  | .bl _ :: _, _, e => by cases e
  | .str _ :: _, _, e => by cases e
  | .tup _ :: _, _, e => by cases e
  | .lst _ :: _, _, e => by cases e
  | .dct _ :: _, _, e => by cases e
  | .tok _ :: _, _, e => by cases e
theorem RpL.mk_ints {m : Pm} {bo : Bo} {F : Addr → Prop} {H : Hp} : ∀ (ns : List Int), RpL m bo F H (ns.map .int) (ns.map V.int)
  | [] => RpL.nil
  | n :: ns => RpL.cons (by simp [Rp]) (RpL.mk_ints ns)
/-- the remove that finds it; noV: no exception goes out -/
theorem pmx_rem {W : WX} (hc : X.calm = true) (tk : Takes X W) (ho : PE X o (tVar i)) (ha : PEx fn X e f) (hbase : attributeBase o "remove" X.env (eval o X.env) = eval o X.env := by rfl)
    (hfew : ((backTo cpos (starEach [e] X.env)).all (fun x => !x.1) && (backToKw cpos (keywordEach [] X.env)).all (fun x => x.1.isSome)
      && decide (([e] : List Expr).length + ([] : List Keyword).length + (if ([] : List Keyword).isEmpty then 0 else 1) < 30)) = true := by rfl)
    (hline : (apos.endLine == cpos.line) = true := by rfl) (hs : starEach [e] X.env = (false, eval e X.env) :: starEach [] X.env := by rfl) (hplain : (backTo cpos (starEach [] X.env)).any (·.1) = false := by rfl) :
    PMx fn X (.Call (.Attribute o "remove" apos) [e] [] cpos) (mMeth i kRem (mOne (mUp f))) := PE.imp (pe_remX hc tk ho ha hbase hfew hline hs hplain) fun σ H Q ⟨H0, F0, bo, ρ, F, b, R, r, ρ', b', e, q⟩ => by
  unfold mMeth mOne mUp at e
  split at e
  · rename_i xs0 hi
    split at e
    · rename_i ds ρ1 b1 e1
      split at e1
      · rename_i d ρ2 b2 e2
        cases e1
        split at e2
        · rename_i d3 b3 e3
          cases e2
          split at e
          · rename_i xs hi1
            split at e
            · rename_i r' ys ek
              cases e
              unfold kRem at ek
              split at ek
              · rename_i kk hkk
                cases hkk
                split at ek
                · rename_i ns hns
                  split at ek
                  · rename_i hmem
                    cases ek
                    obtain ⟨a, h1, nf, nb, h0, us0, hu0, hz0, ru0⟩ := R.own i _ hi
                    refine ⟨_, h1, .inl ⟨rfl, us0, SqL.of hu0⟩, H0, F0, bo, _, F, b, R, _, _, e3, fun v F' H' g hb rv => ?_⟩
                    have R' := R.grow g hb
                    obtain ⟨a', h1', nf', nb', h0', us, hu, hz, ru⟩ := R'.own i _ hi1
                    rw [h1] at h1'; cases h1'
                    rw [intsD_eq hns] at ru
                    have eu := ru.ints
                    subst eu
                    simp only [Rp] at rv
                    refine ⟨a, ns, kk, rfl, rv, hu, fun _ => ?_, fun hn => absurd hmem hn⟩
                    have hzz : ((ns.erase kk).map V.int).length ≤ sizeLine := by
                      rw [List.length_map]
                      have := List.length_erase_le (a := kk) (l := ns)
                      rw [List.length_map] at hz
                      omega
                    obtain ⟨R2, k2⟩ := R'.mut hi1 h1 (d' := .lst ((ns.erase kk).map .int)) (o := .lst ((ns.erase kk).map V.int)) fun k2 => ⟨_, upd_same, hzz, RpL.mk_ints _⟩
                    exact q .non F' _ R2 ((R.fkg g).trans k2) (by simp [Rp])
                  · cases ek
                · cases ek
              · cases ek
            · cases e
          · cases e
        · cases e2
      · cases e1
    · cases e
  · cases e

/-! ### statements -/
def sExprM (f : Mx) : SS := fun ρ b => match f ρ b with
  | some (_, ρ1, b1) => some (.nx, ρ1, b1)
  | none => none
def sSetM (i : Nat) (f : Mx) : SS := fun ρ b => match f ρ b with
  | some (d, ρ1, b1) => some (.nx, ρ1.set i (.frz d), b1)
  | none => none
def sAsgM (g : Tg) (f : Mx) : SS := fun ρ b => match f ρ b with
  | some (d, ρ1, b1) => match g d ρ1 with
    | some ρ2 => some (.nx, ρ2, b1)
    | none => none
  | none => none
theorem psx_exprM {f : Mx} (he : PMx fn X e f) (hs : swapsWith e none pos.line X.env = pure false := by rfl) : PSx fn X (.Expr e pos) (sExprM f) := PS.imp (ps_expr he hs) fun D σ H ⟨H0, F0, bo, ρ, F, b, R, fl, ρ', b', e, q⟩ => by
  unfold sExprM at e
  split at e
  · rename_i d ρ1 b1 e1
    cases e
    exact ⟨H0, F0, bo, ρ, F, b, R, _, _, _, e1, fun v F' H' R' k r => q σ F' H' R' k⟩
  · cases e
theorem psx_setM {f : Mx} {i : Nat} {x : Str} {pos' : Pos} (hN : X.N.Nodup) (hi : X.N[i]? = some x) (hx : Loc X.env.scope x) (he : PMx fn X e f) (hs : swapsWith e (some (.Name x pos')) pos.line X.env = pure false := by rfl) (hf : X.fn x = true ∨ X.env.scope.names.lookup x = some .local := by first | exact .inl rfl | exact .inr rfl | assumption) :
    PSx fn X (.Assign [.Name x pos'] e pos) (sSetM i f) := PS.imp (ps_set hN hi hx he hs hf) fun D σ H ⟨H0, F0, bo, ρ, F, b, R, fl, ρ', b', e, q⟩ => by
  unfold sSetM at e
  split at e
  · rename_i d ρ1 b1 e1
    cases e
    exact ⟨H0, F0, bo, ρ, F, b, R, _, _, _, e1, fun v F' H' R' k r => q _ F' H' (R'.set_frz r) k⟩
  · cases e
theorem psx_asgM {f : Mx} {tg : Expr} {sl : List Nat} {g : Tg} (he : PMx fn X e f) (hg : PGx fn X tg sl g) (hs : swapsWithSole [tg] e pos.line X.env = pure false := by rfl) (hw : swappedStores [tg] e X.env = pure none := by rfl)
    (h1 : (assignEach [tg] X.env).map (·.2) = [assign tg X.env] := by rfl) : PSx fn X (.Assign [tg] e pos) (sAsgM g f) := PS.imp (ps_asg he hg hs hw h1) fun D σ H ⟨H0, F0, bo, ρ, F, b, R, fl, ρ', b', e, q⟩ => by
  unfold sAsgM at e
  split at e
  · rename_i d ρ1 b1 e1
    split at e
    · rename_i ρ2 e2
      cases e
      refine ⟨H0, F0, bo, ρ, F, b, R, _, _, _, e1, fun v F' H' R' k r => ?_⟩
      exact ⟨H0, F0, bo, ρ1, F', _, R', d, _, r, e2, fun σ' R2 _ => q σ' F' H' R2 k⟩
    · cases e
  · cases e
/-- xs[i] = e, xs a slot's list -/
def sStore (i : Nat) (fi fe : Ex) : SS := fun ρ b => match fe ρ b with
  | some (d, b1) => match ρ[i]? with
    | some (.own (.lst xs)) => match fi ρ b1 with
      | some (.int k, b2) => match ixN xs.length k with
        | some j => some (.nx, ρ.set i (.own (.lst (xs.set j d))), b2)
        | none => none
      | _ => none
    | _ => none
  | none => none
theorem psx_store {tpos : Pos} (ho : PE X o (tVar i)) (hi : PEx fn X c g) (he : PEx fn X e f)
    (ha : ∀ v, assign (.Subscript o c tpos) X.env v = (do
      let ov ← holding [v] (eval o X.env)
      let iv ← holding [v, ov] (eval c X.env)
      standAt tpos
      holding [v, ov, iv] (setItem ov iv v)
      release [v, ov, iv] []) := by intro _; rfl) (hs : swapsWithSole [.Subscript o c tpos] e pos.line X.env = pure false := by rfl) (hw : swappedStores [.Subscript o c tpos] e X.env = pure none := by rfl)
    (h1 : (assignEach [.Subscript o c tpos] X.env).map (·.2) = [assign (.Subscript o c tpos) X.env] := by rfl) :
    PSx fn X (.Assign [.Subscript o c tpos] e pos) (sStore i g f) := PS.imp (ps_asg he (pg_sub ho hi set_list ha) hs hw h1) fun D σ H ⟨H0, F0, bo, ρ, F, b, R, fl, ρ', b', e, q⟩ => by
  unfold sStore at e
  split at e
  · rename_i d b1 e1
    split at e
    · rename_i xs hi
      split at e
      · rename_i k b2 e2
        split at e
        · rename_i j hj
          cases e
          refine ⟨H0, F0, bo, ρ, F, b, R, d, b1, e1, fun v F1 H1 g1 hb1 r1 => ?_⟩
          have R1 := R.grow g1 hb1
          obtain ⟨a, h1, nf, nb, h0, us, hu, hz, ru⟩ := R1.own i _ hi
          refine ⟨_, h1, H0, F0, bo, ρ, F1, b1, R1, .int k, _, e2, fun iv F2 H2 g2 hb2 r2 => ?_⟩
          simp only [Rp] at r2
          have R2 := R1.grow g2 hb2
          obtain ⟨a', h1', nf', nb', h0', us, hu, hz, ru⟩ := R2.own i _ hi
          rw [h1] at h1'; cases h1'
          refine ⟨a, us, k, j, rfl, r2, hu, by rw [ru.length]; exact hj, ?_⟩
          obtain ⟨R3, k3⟩ := R2.mut hi h1 (d' := .lst (xs.set j d)) (o := .lst (us.set j v)) fun k3 => ⟨_, upd_same, by simpa using hz, (ru.set j (r1.fk (R1.fkg g2))).fk k3⟩
          exact q σ F2 _ R3 (((R.fkg g1).trans (R1.fkg g2)).trans k3)
        · cases e
      · cases e
    · cases e
  · cases e
/-- name op= e, numbers -/
def sAugI (i : Nat) (k : Int → Int → Int) (f : Ex) : SS := fun ρ b => match ρ[i]? with
  | some (.frz (.int x)) => match f ρ b with
    | some (.int y, b1) => some (.nx, ρ.set i (.frz (.int (k x y))), b1)
    | _ => none
  | _ => none
theorem psx_augI {op : Operator} {k : Int → Int → Int} {x : Str} {pos' : Pos} (ho : PIp X op (ipI k)) (hN : X.N.Nodup) (hi : X.N[i]? = some x) (hx : Loc X.env.scope x) (he : PEx fn X e f) (hf : X.fn x = true ∨ X.env.scope.names.lookup x = some .local := by first | exact .inl rfl | exact .inr rfl | assumption) :
    PSx fn X (.AugAssign (.Name x pos') op e pos) (sAugI i k f) := PS.imp (ps_aug hN hi hx he ho hf) fun D σ H ⟨H0, F0, bo, ρ, F, b, R, fl, ρ', b', e, q⟩ => by
  unfold sAugI at e
  split at e
  · rename_i x hx
    split at e
    · rename_i y b1 e1
      cases e
      obtain ⟨v, h1, h2⟩ := R.frz i _ hx
      simp only [Rp] at h2
      refine ⟨v, h1, H0, F0, bo, ρ, F, b, R, _, _, e1, fun w F1 H1 g1 hb1 r1 => ?_⟩
      simp only [Rp] at r1
      exact ⟨x, y, h2, r1, q _ F1 H1 ((R.grow g1 hb1).set_frz (by simp [Rp])) (R.fkg g1)⟩
    · cases e
  · cases e
/-- xs[i] op= e, xs a slot's list of numbers -/
def sAugS (i : Nat) (k : Int → Int → Int) (fi fe : Ex) : SS := fun ρ b => match ρ[i]? with
  | some (.own (.lst xs)) => match fi ρ b with
    | some (.int z, b1) => match ixN xs.length z with
      | some j => match xs[j]? with
        | some (.int x) => match fe ρ b1 with
          | some (.int y, b2) => some (.nx, ρ.set i (.own (.lst (xs.set j (.int (k x y))))), b2)
          | _ => none
        | _ => none
      | none => none
    | _ => none
  | _ => none
def rGetL : V → V → Hp → VK → Prop := fun o i H Q => ∃ p us z j v, o = .ref p ∧ i = .int z ∧ H p = some (.lst us) ∧ ixN us.length z = some j ∧ us[j]? = some v ∧ Q v H
theorem get_list : PGet X rGetL := by
  intro pins s σ H o i ov iv Q I ro ri ⟨p, us, z, j, v, e1, e2, hp, hj, hv, q⟩
  subst e1 e2
  cases ro
  obtain ⟨t, rfl⟩ := ri
  obtain ⟨its, n, r, ho, hz⟩ := I.lst hp
  obtain ⟨h1, h2, h3, h4⟩ := ixN_seq hj
  obtain ⟨w, ew, rw'⟩ := r.get hv
  have hl := r.length
  have hn := line63
  have pl : s.heap.IsList p its.toArray := PySem.IsL.isList ho
  by_cases h0 : 0 ≤ z
  · have hk : z.toNat = j := by
      rw [seqIndex_of h0 h4] at h1
      exact Option.some.inj h1
    exact wpAny_getItem_list pl h0 (by omega) (x := w) (by rw [hk]; simpa using ew) ⟨v, H, I, rw', q⟩
  · have hk : (z + (its.toArray.size : Int)).toNat = j := by
      rw [seqIndex_neg (by omega) h3] at h1
      rw [List.size_toArray, ← hl]
      exact Option.some.inj h1
    exact wpAny_getItem_list_neg pl (by omega) (by rw [List.size_toArray] <;> omega) (by omega) (x := w) (by rw [hk]; simpa using ew) ⟨v, H, I, rw', q⟩
theorem psx_augS {op : Operator} {k : Int → Int → Int} {tpos : Pos} (hp : PIp X op (ipI k)) (ho : PE X o (tVar i)) (hi : PEx fn X c g) (he : PEx fn X e f)
    (ha : ∀ ov iv new, augStore c ov iv new = (do holding [new, ov, iv] (setItem ov iv new); release [new, ov, iv] []; pure .next) := by intros; rfl) :
    PSx fn X (.AugAssign (.Subscript o c tpos) op e pos) (sAugS i k g f) := PS.imp (ps_augS ho hi get_list he hp set_list ha) fun D σ H ⟨H0, F0, bo, ρ, F, b, R, fl, ρ', b', e, q⟩ => by
  unfold sAugS at e
  split at e
  · rename_i xs hi
    split at e
    · rename_i z b1 e1
      split at e
      · rename_i j hj
        split at e
        · rename_i x hx
          split at e
          · rename_i y b2 e2
            cases e
            obtain ⟨a, h1, nf, nb, h0, us, hu, hz, ru⟩ := R.own i _ hi
            refine ⟨_, h1, H0, F0, bo, ρ, F, b, R, _, _, e1, fun iv F1 H1 g1 hb1 r1 => ?_⟩
            simp only [Rp] at r1
            have R1 := R.grow g1 hb1
            obtain ⟨a', h1', nf', nb', h0', us, hu, hz, ru⟩ := R1.own i _ hi
            rw [h1] at h1'; cases h1'
            obtain ⟨w, hw, rw'⟩ := ru.get hx
            simp only [Rp] at rw'
            refine ⟨a, us, z, j, w, rfl, r1, hu, by rw [ru.length]; exact hj, hw, H0, F0, bo, ρ, F1, b1, R1, _, _, e2, fun u F2 H2 g2 hb2 r2 => ?_⟩
            simp only [Rp] at r2
            have R2 := R1.grow g2 hb2
            obtain ⟨a', h1', nf', nb', h0', us, hu, hz, ru⟩ := R2.own i _ hi
            rw [h1] at h1'; cases h1'
            refine ⟨x, y, rw', r2, a, us, z, j, rfl, r1, hu, by rw [ru.length]; exact hj, ?_⟩
            obtain ⟨R3, k3⟩ := R2.mut hi h1 (d' := .lst (xs.set j (.int (k x y)))) (o := .lst (us.set j (.int (k x y)))) fun k3 => ⟨_, upd_same, by simpa using hz, (ru.set j (by simp [Rp])).fk k3⟩
            exact q σ F2 _ R3 (((R.fkg g1).trans (R1.fkg g2)).trans k3)
          · cases e
        · cases e
      · cases e
    · cases e
  · cases e
end
end Sv

set_option maxHeartbeats 4000000
/-! Sv11: what a def promises, calls. -/
namespace Sv
open PySem L2
open PyProof.Rows (envOfC)

/-- the promise of a def of n parameters that computes F -/
def spD (m : Pm) (n : Nat) (Fs : Fn) : Sp := fun vs H Q _ => ∃ bo F b, Wo bo F H b ∧ ∃ ds d b', RpL m bo F H ds vs ∧ ds.length = n ∧ Fs ds b = some (d, b') ∧
  ∀ v F' H', Grow bo F H F' H' → BoxOk bo F' H' b' → Rp m bo F' H' d v → Q v H'
theorem spD_len {m : Pm} {n : Nat} {Fs : Fn} (vs : List V) (H : Hp) (Q : VK) (E : XK) (h : spD m n Fs vs H Q E) : vs.length = n := by
  obtain ⟨bo, F, b, W, ds, d, b', r, hl, _⟩ := h
  rw [r.length, hl]
/-- a def with no promise kept: never called -/
def noFn : Fn := fun _ _ => none
theorem fn_none {P : Program} {w : World} {K : PySem.W.Frag} {mg : Str → Option Value} {base : Heap} {k : Nat} {f : Addr} {fd : FuncData} {ps : List Str} {m : Pm} (n : Nat) (hn : ps.length = n) : FnOk P w K mg base CX0 k f fd ps (spD m n noFn) :=
  ⟨fun vs H Q E h => (spD_len vs H Q E h).trans hn.symm, fun A outer s H args us vs Q E _ _ _ _ h => by
    obtain ⟨_, _, _, _, _, _, _, _, _, e, _⟩ := h
    cases e⟩
/-- the names at the entry -/
theorem rel_start {m : Pm} {bo : Bo} {F : Addr → Prop} {H : Hp} {b : Bx} {N : List Str} {ds : List D} {vs : List V} (W : Wo bo F H b) (r : RpL m bo F H ds vs) : Rel m H F bo (L2.start N vs) (ds.map Sl.frz ++ List.replicate (N.length - ds.length) Sl.emp) F H b := by
  have hl := r.length
  refine ⟨⟨W.box, fun a o e _ => e, fun a e => e, fun _ h => h, fun _ h => .inl h, W.dom⟩, ?_, fun i d e => ?_, fun i d e => ?_, fun i j di dj a _ e => ?_⟩
  · unfold L2.start
    simp [hl]
  · by_cases hi : i < ds.length
    · rw [List.getElem?_append_left (by simpa using hi), List.getElem?_map] at e
      cases ed : ds[i]? with
      | none => rw [ed] at e; cases e
      | some d' =>
        rw [ed] at e; cases e
        obtain ⟨v, e1, e2⟩ := r.get ed
        refine ⟨v, ?_, e2⟩
        unfold L2.start
        rw [List.getElem?_append_left (by simp; omega), List.getElem?_map, e1]
        rfl
    · rw [List.getElem?_append_right (by simpa using hi), List.getElem?_replicate] at e
      split at e <;> cases e
  · exfalso
    by_cases hi : i < ds.length
    · rw [List.getElem?_append_left (by simpa using hi), List.getElem?_map] at e
      cases ed : ds[i]? with
      | none => rw [ed] at e; cases e
      | some d' => rw [ed] at e; cases e
    · rw [List.getElem?_append_right (by simpa using hi), List.getElem?_replicate] at e
      split at e <;> cases e
  · exfalso
    by_cases hi : i < ds.length
    · rw [List.getElem?_append_left (by simpa using hi), List.getElem?_map] at e
      cases ed : ds[i]? with
      | none => rw [ed] at e; cases e
      | some d' => rw [ed] at e; cases e
    · rw [List.getElem?_append_right (by simpa using hi), List.getElem?_replicate] at e
      split at e <;> cases e
/-- THE RULE for a def -/
theorem fn_sv {P : Program} {w : World} {K : PySem.W.Frag} {mg : Str → Option Value} {base : Heap} {k : Nat} {f : Addr} {fd : FuncData} {x qual : Str} {st : Stmt} {N ps : List Str} {fn : Nat → Option V} {n : Nat} (F : Fun K x qual st f fd) (S : FnScope N ps (defScope st)) (hn : ps.length = n) (s : SS)
    (hb : ∀ (cdv : Value) (A : Around) (outer : List Env) (s0 : Shared) (H : Hp) (E : XK), Room k (A.deeper (envOfC qual (defScope st) s0.heap.objs.size f cdv)) →
      PSsx fn (cxOf CX0 P w K mg base N qual (defScope st) f cdv A outer s0 H E).nox (defBody st) s) : FnOk P w K mg base CX0 (k + 1) f fd ps (spD ⟨P, w, K, fn⟩ n (runF N.length s)) := by
  refine F.ok S (fun vs H Q E h => (spD_len vs H Q E h).trans hn.symm) fun cdv A outer s0 H vs Q E hr ⟨bo, F, b, W, ds, d, b', r, hl, e, q⟩ => ⟨_, hb cdv A outer s0 H E hr, ?_⟩
  have R : Rel ⟨P, w, K, fn⟩ H F bo (L2.start N vs) (ds.map Sl.frz ++ List.replicate (N.length - ds.length) Sl.emp) F H b := rel_start W r
  unfold runF at e
  split at e
  · rename_i d' ρ1 b1 e1
    cases e
    exact ⟨H, F, bo, _, F, b, R, _, _, _, e1, fun v F' H' c r => q v F' H' ⟨c.keep, c.free, c.sub, c.new, c.dom⟩ c.box r⟩
  · rename_i ρ1 b1 e1
    cases e
    exact ⟨H, F, bo, _, F, b, R, _, _, _, e1, fun σ' F' H' R' _ => q .non F' H' ⟨R'.core.keep, R'.core.free, R'.core.sub, R'.core.new, R'.core.dom⟩ R'.core.box (by simp [Rp])⟩
  · cases e

/-! ### calls -/
/-- a def that may be called by its name -/
structure Cal (P : Program) (w : World) (K : PySem.W.Frag) (mg : Str → Option Value) (base : Heap) (A : Around) (fn : Nat → Option V) (x : Str) (n : Nat) (Fs : Fn) : Prop where
  ex : ∃ (k : Nat) (f : Addr) (fd : FuncData) (ps : List Str), FnOk P w K mg base CX0 k f fd ps (spD ⟨P, w, K, fn⟩ n Fs) ∧ Room k A ∧ mg x = some (.ref f) ∧ PySem.W.keepIn K (.ref f) = true ∧ Binds K fd ps []
/-- a def of the text -/
structure Df (K : PySem.W.Frag) (mg : Str → Option Value) (x : Str) (st : Stmt) (ps : List Str) (f : Addr) (fd : FuncData) : Prop where
  fu : L2.Fun K x x st f fd
  mg : mg x = some (.ref f)
  bi : Binds K fd ps []
theorem Df.cal {P : Program} {w : World} {K : PySem.W.Frag} {mg : Str → Option Value} {base : Heap} {A : Around} {fn : Nat → Option V} {x : Str} {n : Nat} {Fs : Fn} {st : Stmt} {ps : List Str} {f : Addr} {fd : FuncData} {k j : Nat} (d : Df K mg x st ps f fd)
    (F : FnOk P w K mg base CX0 k f fd ps (spD ⟨P, w, K, fn⟩ n Fs)) (hr : Room j A) (h : k ≤ j := by omega) : Cal P w K mg base A fn x n Fs := ⟨k, f, fd, ps, F, hr.mono h, d.mg, d.fu.kp, d.bi⟩
section
variable {fn : Nat → Option V} {X : Cx} {e : Expr} {es : List Expr} {x : Str} {p pos : Pos} {n : Nat} {Fs : Fn} {ag : As}
theorem call_o {m : Pm} {σ : St} {H : Hp} {Q : VK} (hl : ∀ ρ b ds b', ag ρ b = some (ds, b') → ds.length = n) (h : tEx m (eCall Fs ag) σ H Q) : tCall (spD m n Fs) [] E0 (tAs m ag) σ H Q := by
  obtain ⟨H0, F0, bo, ρ, F, b, R, d, b', e, q⟩ := h
  unfold eCall at e
  split at e
  · rename_i ds b1 e1
    refine ⟨H0, F0, bo, ρ, F, b, R, ds, b1, e1, fun vs F1 H1 g1 hb1 r1 => ?_⟩
    show spD m n Fs (vs ++ []) H1 Q E0
    rw [List.append_nil]
    exact ⟨bo, F1, b1, ⟨hb1, g1.dom⟩, ds, d, b', r1, hl _ _ _ _ e1, e, fun v F' H' g hb r => q v F' H' (g1.trans g) hb r⟩
  · cases e
theorem px_call (c : Cal X.prog X.w X.K X.mg X.base X.A fn x n Fs) (hg : Gl X x) (ha : PAs fn X (e :: es) ag) (hn : (e :: es).length = n := by rfl) (hdb : (x == ("__debug__" : Str)) = false := by decide) (he : starEach (e :: es) X.env = (false, eval e X.env) :: starEach es X.env := by rfl) (hpl : (backTo pos (starEach es X.env)).any (·.1) = false := by rfl) :
    PEx fn X (.Call (.Name x p) (e :: es) [] pos) (eCall Fs ag) := by
  obtain ⟨k, f, fd, ps, F, hr, hm, hk, hb⟩ := c.ex
  exact PE.imp (pe_call F hr hg hm hk hb .nil pass0 ha.pa hdb he hpl) fun _ _ _ h => call_o (fun ρ b ds b' e => (ha.len ρ b ds b' e).trans hn) h
theorem px_call0 (c : Cal X.prog X.w X.K X.mg X.base X.A fn x 0 Fs) (hg : Gl X x) (hdb : (x == ("__debug__" : Str)) = false := by decide) : PEx fn X (.Call (.Name x p) [] [] pos) (eCall Fs aNil) := by
  obtain ⟨k, f, fd, ps, F, hr, hm, hk, hb⟩ := c.ex
  refine PE.imp (pe_call0 F hr hg hm hk hb .nil pass0 hdb) fun σ H Q h => ?_
  obtain ⟨H0, F0, bo, ρ, F, b, R, d, b', e, q⟩ := h
  exact ⟨bo, F, b, R.wo, [], d, b', RpL.nil, rfl, e, fun v F' H' g hb r => q v F' H' g hb r⟩
/-- .. things of one's own lent -/
theorem lend {m : Pm} {bo : Bo} {H : Hp} {b : Bx} : ∀ {ds : List D} {vs : List V} {F : Addr → Prop}, Wo bo F H b → RpOL m bo F H ds vs → ∃ F2 : Addr → Prop, (∀ a, F a → F2 a) ∧ Wo bo F2 H b ∧ RpL m bo F2 H ds vs
  | [], vs, F, W, h => ⟨F, fun _ h => h, W, by simpa [RpL, RpOL] using h⟩
  | d :: ds, vs, F, W, h => by
    simp only [RpOL] at h
    obtain ⟨v, r, rfl, h1, h2⟩ := h
    have key : ∀ F1 : Addr → Prop, (∀ a, F a → F1 a) → FK F H F1 H → Wo bo F1 H b → Rp m bo F1 H d v → ∃ F2 : Addr → Prop, (∀ a, F a → F2 a) ∧ Wo bo F2 H b ∧ RpL m bo F2 H (d :: ds) (v :: r) := fun F1 hs k W1 r1 => by
      -- the others too
      have h2' : RpOL m bo F1 H ds r := by
        clear h1
        have : ∀ {ds : List D} {r : List V}, RpOL m bo F H ds r → RpOL m bo F1 H ds r := by
          intro ds
          induction ds with
          | nil => intro r h; exact h
          | cons d ds ih =>
            intro r h
            simp only [RpOL] at h ⊢
            obtain ⟨v, r, rfl, q1, q2⟩ := h
            refine ⟨v, r, rfl, ?_, ih q2⟩
            rcases q1 with q1 | ⟨a, rfl, nb, nf, ow⟩
            · exact .inl (q1.fk k)
            · by_cases hf : F1 a
              · refine .inl ?_
                have ow' := ow.fk (F' := F1) k rfl
                cases d with
                | lst xs => obtain ⟨us, s, z, r⟩ := ow'; simp only [Rp]; exact ⟨a, us, rfl, hf, s, z, r⟩
                | dct kvs => simp only [Rp]; exact ⟨a, rfl, hf, ow'⟩
                | _ => exact (show False from ow').elim
              · exact .inr ⟨a, rfl, nb, hf, ow.fk k rfl⟩
        exact this h2
      obtain ⟨F2, s2, W2, r2⟩ := lend (F := F1) W1 h2'
      have k2 : FK F1 H F2 H := ⟨s2, fun _ _ => rfl, fun _ _ h _ => h⟩
      exact ⟨F2, fun a h => s2 a (hs a h), W2, RpL.cons (r1.fk k2) r2⟩
    rcases h1 with h1 | ⟨a, rfl, nb, nf, ow⟩
    · exact key F (fun _ h => h) (FK.refl _ _) W h1
    · obtain ⟨k, hb, dm, r1⟩ := freeze W nb ow
      exact key _ (fun _ h => .inl h) k ⟨hb, dm⟩ r1
theorem callO_o {m : Pm} {σ : St} {H : Hp} {Q : VK} (hl : ∀ ρ b ds b', ag ρ b = some (ds, b') → ds.length = n) (h : tEx m (eCallO Fs ag) σ H Q) : tCall (spD m n Fs) [] E0 (tAo m ag) σ H Q := by
  obtain ⟨H0, F0, bo, ρ, F, b, R, d, b', e, q⟩ := h
  unfold eCallO at e
  split at e
  · rename_i ds b1 e1
    split at e
    · rename_i d2 b2 e2
      split at e
      · rename_i hfl
        cases e
        refine ⟨H0, F0, bo, ρ, F, b, R, ds, b1, e1, fun vs F1 H1 g1 hb1 r1 => ?_⟩
        show spD m n Fs (vs ++ []) H1 Q E0
        rw [List.append_nil]
        have R1 := R.grow g1 hb1
        obtain ⟨F2, s2, W2, r2⟩ := lend R1.wo r1
        refine ⟨bo, F2, b1, W2, ds, d, _, r2, hl _ _ _ _ e1, e2, fun v F' H' g hb r => ?_⟩
        have g2 : Grow bo F1 H1 F1 H' := ⟨g.keep, g.free, fun _ h => h, fun _ h => .inl h, fun a f => g.dom a (g.sub a (s2 a f))⟩
        refine q v F1 H' (g1.trans g2) ?_ (Rp.flat d v hfl r)
        cases bo with
        | none => trivial
        | some pq =>
          obtain ⟨p, q'⟩ := pq
          obtain ⟨a1, a2, a3, a4, a5⟩ := hb
          exact ⟨a1, fun z => a2 (g.sub _ (s2 _ z)), fun z => a3 (g.sub _ (s2 _ z)), a4, a5⟩
      · cases e
    · cases e
  · cases e
theorem px_callO (c : Cal X.prog X.w X.K X.mg X.base X.A fn x n Fs) (hg : Gl X x) (ha : PAo fn X (e :: es) ag) (hn : (e :: es).length = n := by rfl) (hdb : (x == ("__debug__" : Str)) = false := by decide) (he : starEach (e :: es) X.env = (false, eval e X.env) :: starEach es X.env := by rfl) (hpl : (backTo pos (starEach es X.env)).any (·.1) = false := by rfl) :
    PEx fn X (.Call (.Name x p) (e :: es) [] pos) (eCallO Fs ag) := by
  obtain ⟨k, f, fd, ps, F, hr, hm, hk, hb⟩ := c.ex
  exact PE.imp (pe_call F hr hg hm hk hb .nil pass0 ha.pa hdb he hpl) fun _ _ _ h => callO_o (fun ρ b ds b' e => (ha.len ρ b ds b' e).trans hn) h
end
end Sv

set_option maxHeartbeats 4000000
/-! Sv12: the law's random source. -/
namespace Sv
open PySem L2
open PyProof.Rows (envOfC)

def restB (b : Bx) : Int × Bx :=
  let first := (b.y * 48271 + 17).fmod 2147483629
  let second := (first * 69621 + 5).fmod 2147483587
  let y := (second * 40692 + 3).fmod 2147483563
  (first * 4611686014132420609 + second * 2147483647 + y, ⟨b.cs, b.x, y⟩)
def sizeB (c : Int) : Int := if 0 ≤ c then 2 * c else -2 * c - 1
def loadB (b : Bx) : Int × Bx := match b.cs with
  | c :: cs => if 1000000000000000000 ≤ sizeB c then (sizeB c, ⟨cs, b.x, b.y⟩) else restB ⟨cs, b.x, (b.y * 69621 + sizeB c * 48271 + 11).fmod 2147483647⟩
  | [] => restB b
def fillB (b : Bx) (many : Int) : Bx := if b.x < many then ⟨(loadB b).2.cs, (loadB b).1, (loadB b).2.y⟩ else b
def drawB (b : Bx) (many : Int) : Int × Bx := ((fillB b many).x.fmod many, ⟨(fillB b many).cs, (fillB b many).x.fdiv many, (fillB b many).y⟩)
/-- _law_draw -/
def drawF : Fn := fun ds b => match ds with
  | [.tok 0, .int many] => if many ≠ 0 ∧ many.natAbs < 2 ^ 30 then some (.int (drawB b many).1, (drawB b many).2) else none
  | _ => none
/-- the source stands at p, its cells at q -/
def BSt (p q : Addr) (b : Bx) (H : Hp) : Prop := p ≠ q ∧ H p = some (.lst [.ref q, .int b.x, .int b.y]) ∧ H q = some (.lst (b.cs.map .int))
def Off (p q : Addr) (H H' : Hp) : Prop := ∀ a, a ≠ p → a ≠ q → H' a = H a
theorem Off.refl {p q : Addr} {H : Hp} : Off p q H H := fun _ _ _ => rfl
theorem Off.trans {p q : Addr} {H H1 H2 : Hp} (a : Off p q H H1) (b : Off p q H1 H2) : Off p q H H2 := fun c h1 h2 => (b c h1 h2).trans (a c h1 h2)
theorem Off.updp {p q : Addr} {H : Hp} {o : HO} : Off p q H (upd H p o) := fun _ h _ => upd_ne h
theorem Off.updq {p q : Addr} {H : Hp} {o : HO} : Off p q H (upd H q o) := fun _ _ h => upd_ne h
def spBox (K : PySem.W.Frag) : Sp := fun vs H Q _ => ∃ (a : Addr) (ns : List Int), vs = [.ref a] ∧ SqL K H a (ns.map V.int) ∧ ns.length ≤ 63 ∧ ∀ p q H', BSt p q ⟨ns, 0, 4711 + ns.length⟩ H' → Q (.ref p) H'
def spLoad : Sp := fun vs H Q _ => ∃ p q b, vs = [.ref p] ∧ BSt p q b H ∧ ∀ H', Off p q H H' → BSt p q (loadB b).2 H' → Q (.int (loadB b).1) H'
def spDraw : Sp := fun vs H Q _ => ∃ p q b many, vs = [.ref p, .int many] ∧ many ≠ 0 ∧ many.natAbs < 2 ^ 30 ∧ BSt p q b H ∧ ∀ H', Off p q H H' → BSt p q (drawB b many).2 H' → Q (.int (drawB b many).1) H'
theorem draw_imp {m : Pm} (vs : List V) (H : Hp) (Q : VK) (E : XK) (h : spD m 2 drawF vs H Q E) : spDraw vs H Q E := by
  obtain ⟨bo, F, b, W, ds, d, b', r, hl, e, k⟩ := h
  unfold drawF at e
  split at e
  · rename_i many
    split at e
    · rename_i hm
      cases e
      simp only [RpL, Rp, Tk] at r
      obtain ⟨_, _, rfl, ⟨p, q, hbo, rfl⟩, _, _, rfl, rfl, rfl⟩ := r
      subst hbo
      obtain ⟨b1, b2, b3, b4, b5⟩ := W.box
      refine ⟨p, q, b, many, rfl, hm.1, hm.2, ⟨b1, b4, b5⟩, fun H' o s => k _ F H' ⟨fun a u e n => ?_, fun a e => ?_, fun _ h => h, fun _ h => .inl h, fun a f => ?_⟩ ⟨b1, b2, b3, s.2.1, s.2.2⟩ (by simp [Rp])⟩
      · rw [o a (fun z => n (.inl z)) (fun z => n (.inr z))]; exact e
      · by_cases h1 : a = p
        · subst h1; rw [s.2.1] at e; cases e
        · by_cases h2 : a = q
          · subst h2; rw [s.2.2] at e; cases e
          · rw [o a h1 h2] at e; exact e
      · rw [o a (fun z => b2 (z ▸ f)) (fun z => b3 (z ▸ f))]; exact W.dom a f
    · cases e
  · cases e
/-- the entry of a law behind its first row -/
theorem rel_law {m : Pm} {σ : St} {p q : Addr} {H : Hp} {b : Bx} {n : Nat} (s : BSt p q b H) (hl : σ.length = n + 2) (h1 : σ[1]? = some (some (V.ref p))) :
    Rel m H (fun _ => False) (some (p, q)) σ (Sl.emp :: Sl.frz (.tok 0) :: List.replicate n Sl.emp) (fun _ => False) H b := by
  refine ⟨⟨⟨s.1, fun h => h, fun h => h, s.2.1, s.2.2⟩, fun a o e _ => e, fun a e => e, fun _ h => h, fun _ h => .inl h, fun _ h => h.elim⟩, by simp [hl], fun i d e => ?_, fun i d e => ?_, fun i j di dj a _ e => ?_⟩
  · match i, e with
    | 1, e => cases e; exact ⟨_, h1, by simp only [Rp, Tk]; exact ⟨p, q, rfl, rfl⟩⟩
    | i + 2, e =>
      exfalso
      simp only [List.getElem?_cons_succ, List.getElem?_replicate] at e
      split at e <;> cases e
  · exfalso
    match i, e with
    | i + 2, e =>
      simp only [List.getElem?_cons_succ, List.getElem?_replicate] at e
      split at e <;> cases e
  · exfalso
    match i, e with
    | i + 2, e =>
      simp only [List.getElem?_cons_succ, List.getElem?_replicate] at e
      split at e <;> cases e
end Sv

set_option maxHeartbeats 4000000
/-! Sv13: the rules in short, for printed derivations. -/
namespace Sv
open PySem L2

theorem rangeD_rg {i j : Int} {xs : List D} (h : rangeD i j = some xs) : RgOk i j ∧ ∀ (m : Pm) (bo : Bo) (F : Addr → Prop) (H : Hp), RpL m bo F H xs (rgV i j) ∧ (rgV i j).length ≤ sizeLine := by
  unfold rangeD at h
  split at h
  · rename_i hc
    cases h
    refine ⟨⟨hc.2.1, hc.2.2.1, hc.2.2.2.1, hc.2.2.2.2, by omega⟩, fun m bo F H => ⟨?_, ?_⟩⟩
    · unfold rgV
      have : ∀ l : List Nat, RpL m bo F H (l.map fun k => D.int (i + (k : Nat))) (l.map fun k => V.int (i + (k : Nat))) := by
        intro l
        induction l with
        | nil => exact RpL.nil
        | cons k l ih => exact RpL.cons (by simp [Rp]) ih
      exact this _
    · rw [rgV_length, sizeLine_eq]; omega
  · cases h
section
variable {fn : Nat → Option V} {X : Cx} {a c e e' : Expr} {es rest : List Expr} {pos p p' p2 : Pos} {f g h : Ex} {t u : Tx} {ag : As} {x : Str} {i : Nat}
theorem pn_lr1 (hm : X.mg "list" = none) (hm2 : X.mg "range" = none) (he : PEx fn X e f) (hc : X.calm = true := by rfl) (hg : Gl X "list" := by rfl) (hg2 : Gl X "range" := by rfl) (na : starEach [e] X.env = (false, eval e X.env) :: starEach [] X.env := by rfl)
    (nb : starEach [.Call (.Name "range" p2) [e] [] p'] X.env = (false, eval (.Call (.Name "range" p2) [e] [] p') X.env) :: starEach [] X.env := by rfl) : PEn fn X (.Call (.Name "list" p) [.Call (.Name "range" p2) [e] [] p'] [] pos) (eFn rlD (aCons f aNil)) :=
  PE.imp (pe_listRg hc hg hm (prg_1 hg2 hm2 he na) nb) fun σ H Q ⟨H0, F0, bo, ρ, F, b, R, d, b', e, q⟩ => by
    unfold eFn aCons at e
    split at e
    · rename_i ds b1 e1
      split at e1
      · rename_i d1 b2 e2
        cases e1
        split at e
        · rename_i r er
          cases e
          unfold rlD at er
          split at er
          · rename_i j hj
            cases hj
            cases hx : rangeD 0 j with
            | none => rw [hx] at er; cases er
            | some xs =>
              rw [hx] at er; cases er
              obtain ⟨h1, h2⟩ := rangeD_rg hx
              refine ⟨H0, F0, bo, ρ, F, b, R, _, _, e2, fun v F' H' g hb r => ⟨j, by simpa [Rp] using r, h1, fun q' hq' => ?_⟩⟩
              obtain ⟨g2, hb2, nf, ow⟩ := new_own (m := pm X fn) (R.grow g hb).wo hq' (h2 (pm X fn) bo F' H').1 (h2 (pm X fn) bo F' H').2
              exact q q' F' _ (g.trans g2) hb2 (g.free q' hq') nf ow
          · rename_i h0; cases h0
          · cases er
        · cases e
      · cases e1
    · cases e
theorem px_tr1 (hm : X.mg "tuple" = none) (hm2 : X.mg "range" = none) (he : PEx fn X e f) (hc : X.calm = true := by rfl) (hg : Gl X "tuple" := by rfl) (hg2 : Gl X "range" := by rfl) (na : starEach [e] X.env = (false, eval e X.env) :: starEach [] X.env := by rfl)
    (nb : starEach [.Call (.Name "range" p2) [e] [] p'] X.env = (false, eval (.Call (.Name "range" p2) [e] [] p') X.env) :: starEach [] X.env := by rfl) : PEx fn X (.Call (.Name "tuple" p) [.Call (.Name "range" p2) [e] [] p'] [] pos) (eFn rtD (aCons f aNil)) :=
  PE.imp (pe_tupRg hc hg hm (prg_1 hg2 hm2 he na) nb) fun σ H Q ⟨H0, F0, bo, ρ, F, b, R, d, b', e, q⟩ => by
    unfold eFn aCons at e
    split at e
    · rename_i ds b1 e1
      split at e1
      · rename_i d1 b2 e2
        cases e1
        split at e
        · rename_i r er
          cases e
          unfold rtD at er
          split at er
          · rename_i j hj
            cases hj
            cases hx : rangeD 0 j with
            | none => rw [hx] at er; cases er
            | some xs =>
              rw [hx] at er; cases er
              obtain ⟨h1, h2⟩ := rangeD_rg hx
              refine ⟨H0, F0, bo, ρ, F, b, R, _, _, e2, fun v F' H' g hb r => ⟨j, by simpa [Rp] using r, h1, fun q' hq' => ?_⟩⟩
              obtain ⟨g2, hb2, r2⟩ := new_tup (m := pm X fn) (R.grow g hb).wo hq' (h2 (pm X fn) bo F' H').1 (h2 (pm X fn) bo F' H').2
              exact q _ F' _ (g.trans g2) hb2 r2
          · rename_i h0; cases h0
          · cases er
        · cases e
      · cases e1
    · cases e
theorem pn_lr2 (hm : X.mg "list" = none) (hm2 : X.mg "range" = none) (he : PEx fn X e f) (he' : PEx fn X e' g) (hc : X.calm = true := by rfl) (hg : Gl X "list" := by rfl) (hg2 : Gl X "range" := by rfl) (na : starEach [e, e'] X.env = (false, eval e X.env) :: starEach [e'] X.env := by rfl)
    (na2 : starEach [e'] X.env = (false, eval e' X.env) :: starEach [] X.env := by rfl) (hp : (backTo p' (starEach [e'] X.env)).any (·.1) = false := by rfl)
    (nb : starEach [.Call (.Name "range" p2) [e, e'] [] p'] X.env = (false, eval (.Call (.Name "range" p2) [e, e'] [] p') X.env) :: starEach [] X.env := by rfl) : PEn fn X (.Call (.Name "list" p) [.Call (.Name "range" p2) [e, e'] [] p'] [] pos) (eFn rlD (aCons f (aCons g aNil))) :=
  PE.imp (pe_listRg hc hg hm (prg_2 hg2 hm2 he he' na na2 hp) nb) fun σ H Q ⟨H0, F0, bo, ρ, F, b, R, d, b', e, q⟩ => by
    unfold eFn aCons at e
    split at e
    · rename_i ds b1 e1
      split at e1
      · rename_i d1 b2 e2
        split at e1
        · rename_i d2 b3 e3
          split at e3
          · rename_i d4 b4 e4
            cases e3
            cases e1
            split at e
            · rename_i r er
              cases e
              unfold rlD at er
              split at er
              · rename_i h0; cases h0
              · rename_i i j hj
                cases hj
                cases hx : rangeD i j with
                | none => rw [hx] at er; cases er
                | some xs =>
                  rw [hx] at er; cases er
                  obtain ⟨h1, h2⟩ := rangeD_rg hx
                  refine ⟨H0, F0, bo, ρ, F, b, R, _, _, e2, fun v F' H' g hb r => ⟨H0, F0, bo, ρ, F', _, R.grow g hb, _, _, e4, fun v2 F2 H2 g2 hb2 r2 => ⟨i, j, by simpa [Rp] using r, by simpa [Rp] using r2, h1, fun q' hq' => ?_⟩⟩⟩
                  obtain ⟨g3, hb3, nf, ow⟩ := new_own (m := pm X fn) ((R.grow g hb).grow g2 hb2).wo hq' (h2 (pm X fn) bo F2 H2).1 (h2 (pm X fn) bo F2 H2).2
                  exact q q' F2 _ ((g.trans g2).trans g3) hb3 ((g.trans g2).free q' hq') nf ow
              · cases er
            · cases e
          · cases e3
        · cases e1
      · cases e1
    · cases e

/-! ### names -/
theorem vx (i : Nat) (hN : X.N[i]? = some x := by rfl) (hv : Vis X.env.scope x := by first | exact Or.inl rfl | exact Or.inr (Or.inl rfl) | exact Or.inr (Or.inr rfl)) (hd : (x == ("__debug__" : Str)) = false := by decide)
    (hcd : (x == ("__classdict__" : Str)) = false := by decide) : PEx fn X (.Name x p) (eVar i) := px_var (pe_var hN hv hd hcd)
theorem vo (i : Nat) (hN : X.N[i]? = some x := by rfl) (hv : Vis X.env.scope x := by first | exact Or.inl rfl | exact Or.inr (Or.inl rfl) | exact Or.inr (Or.inr rfl)) (hd : (x == ("__debug__" : Str)) = false := by decide)
    (hcd : (x == ("__classdict__" : Str)) = false := by decide) : PEo fn X (.Name x p) (eBor i) := po_bor (pe_var hN hv hd hcd)
/-! ### built-ins by name -/
theorem b_len (hm : X.mg "len" = none) (ha : PEo fn X e f) (hg : Gl X "len" := by rfl) (he : starEach [e] X.env = (false, eval e X.env) :: starEach [] X.env := by rfl) : PEx fn X (.Call (.Name "len" p) [e] [] pos) (eFn lenD (aCons f aNil)) :=
  px_fn d_len hg hm (by decide +kernel) (pao_cons ha pao_nil he) (by decide) (by decide) he rfl
theorem b_any (hm : X.mg "any" = none) (ha : PEo fn X e f) (hg : Gl X "any" := by rfl) (hc : X.calm = true := by rfl) (he : starEach [e] X.env = (false, eval e X.env) :: starEach [] X.env := by rfl) : PEx fn X (.Call (.Name "any" p) [e] [] pos) (eFn anyD (aCons f aNil)) :=
  px_fn (d_any hc) hg hm (by decide +kernel) (pao_cons ha pao_nil he) (by decide) (by decide) he rfl
theorem b_all (hm : X.mg "all" = none) (ha : PEo fn X e f) (hg : Gl X "all" := by rfl) (hc : X.calm = true := by rfl) (he : starEach [e] X.env = (false, eval e X.env) :: starEach [] X.env := by rfl) : PEx fn X (.Call (.Name "all" p) [e] [] pos) (eFn allD (aCons f aNil)) :=
  px_fn (d_all hc) hg hm (by decide +kernel) (pao_cons ha pao_nil he) (by decide) (by decide) he rfl
theorem b_sum (hm : X.mg "sum" = none) (ha : PEo fn X e f) (hg : Gl X "sum" := by rfl) (hc : X.calm = true := by rfl) (he : starEach [e] X.env = (false, eval e X.env) :: starEach [] X.env := by rfl) : PEx fn X (.Call (.Name "sum" p) [e] [] pos) (eFn sumD (aCons f aNil)) :=
  px_fn (d_sum hc) hg hm (by decide +kernel) (pao_cons ha pao_nil he) (by decide) (by decide) he rfl
theorem b_abs (hm : X.mg "abs" = none) (ha : PEo fn X e f) (hg : Gl X "abs" := by rfl) (he : starEach [e] X.env = (false, eval e X.env) :: starEach [] X.env := by rfl) : PEx fn X (.Call (.Name "abs" p) [e] [] pos) (eFn absD (aCons f aNil)) :=
  px_fn d_abs hg hm (by decide +kernel) (pao_cons ha pao_nil he) (by decide) (by decide) he rfl
theorem b_max2 (hm : X.mg "max" = none) (ha : PEo fn X e f) (hb : PEo fn X e' g) (hg : Gl X "max" := by rfl) (hc : X.calm = true := by rfl) (he : starEach [e, e'] X.env = (false, eval e X.env) :: starEach [e'] X.env := by rfl) (he2 : starEach [e'] X.env = (false, eval e' X.env) :: starEach [] X.env := by rfl) (hpl : (backTo pos (starEach [e'] X.env)).any (·.1) = false := by rfl) :
    PEx fn X (.Call (.Name "max" p) [e, e'] [] pos) (eFn max2D (aCons f (aCons g aNil))) := px_fn (d_max2 hc) hg hm (by decide +kernel) (pao_cons ha (pao_cons hb pao_nil he2) he) (by decide) (by decide) he hpl
theorem b_min2 (hm : X.mg "min" = none) (ha : PEo fn X e f) (hb : PEo fn X e' g) (hg : Gl X "min" := by rfl) (hc : X.calm = true := by rfl) (he : starEach [e, e'] X.env = (false, eval e X.env) :: starEach [e'] X.env := by rfl) (he2 : starEach [e'] X.env = (false, eval e' X.env) :: starEach [] X.env := by rfl) (hpl : (backTo pos (starEach [e'] X.env)).any (·.1) = false := by rfl) :
    PEx fn X (.Call (.Name "min" p) [e, e'] [] pos) (eFn min2D (aCons f (aCons g aNil))) := px_fn (d_min2 hc) hg hm (by decide +kernel) (pao_cons ha (pao_cons hb pao_nil he2) he) (by decide) (by decide) he hpl
theorem b_int (hm : X.mg "int" = none) (ha : PEo fn X e f) (hg : Gl X "int" := by rfl) (he : starEach [e] X.env = (false, eval e X.env) :: starEach [] X.env := by rfl) : PEx fn X (.Call (.Name "int" p) [e] [] pos) (eFn intD (aCons f aNil)) :=
  px_ty d_int hg hm (by decide +kernel) (pao_cons ha pao_nil he) (by decide) (by decide) he rfl
theorem b_str (hm : X.mg "str" = none) (ha : PEo fn X e f) (hg : Gl X "str" := by rfl) (he : starEach [e] X.env = (false, eval e X.env) :: starEach [] X.env := by rfl) : PEx fn X (.Call (.Name "str" p) [e] [] pos) (eFn strD (aCons f aNil)) :=
  px_ty d_str hg hm (by decide +kernel) (pao_cons ha pao_nil he) (by decide) (by decide) he rfl
theorem b_tuple (hm : X.mg "tuple" = none) (ha : PEo fn X e f) (hg : Gl X "tuple" := by rfl) (he : starEach [e] X.env = (false, eval e X.env) :: starEach [] X.env := by rfl) : PEx fn X (.Call (.Name "tuple" p) [e] [] pos) (eFn tupleD (aCons f aNil)) :=
  px_ty d_tuple hg hm (by decide +kernel) (pao_cons ha pao_nil he) (by decide) (by decide) he rfl
theorem b_list (hm : X.mg "list" = none) (ha : PEo fn X e f) (hg : Gl X "list" := by rfl) (he : starEach [e] X.env = (false, eval e X.env) :: starEach [] X.env := by rfl) : PEn fn X (.Call (.Name "list" p) [e] [] pos) (eFn listD (aCons f aNil)) :=
  pn_ty d_list hg hm (by decide +kernel) (pao_cons ha pao_nil he) (by decide) (by decide) he rfl
theorem b_sorted (hm : X.mg "sorted" = none) (hu : X.A.units + 64 < cLine) (ha : PEo fn X e f) (hg : Gl X "sorted" := by rfl) (he : starEach [e] X.env = (false, eval e X.env) :: starEach [] X.env := by rfl) : PEn fn X (.Call (.Name "sorted" p) [e] [] pos) (eFn sortedD (aCons f aNil)) :=
  pn_fn (d_sorted hu) hg hm (by decide +kernel) (pao_cons ha pao_nil he) (by decide) (by decide) he rfl
end
/-- a global constant -/
theorem px_gc {X : Cx} {x : Str} {pos : Pos} {v : V} (hg : Gl X x) (h : ∃ u, X.mg x = some u ∧ RelV v u) (hd : (x == ("__debug__" : Str)) = false := by decide) : PE X (.Name x pos) (tC v) := by
  obtain ⟨u, h1, h2⟩ := h
  exact pe_glob hg h1 h2 hd
/-- no exception goes out -/
theorem tk0 {X : Cx} : Takes X fun _ _ _ _ => False := fun u s' ⟨a, B, sI, pins, σ, H, cls, d, e, I, nb, up, sky, na, os, ag, w⟩ => w.elim
/-- the law's own promise -/
def spLaw (K : PySem.W.Frag) : Sp := fun vs H Q _ => ∃ (a : Addr) (ns : List Int), vs = [.ref a] ∧ SqL K H a (ns.map V.int) ∧ ns.length ≤ 63 ∧ ∀ H', Q (.bl true) H'
theorem hu64 {A : Around} {k : Nat} (hr : Room k A) : A.units + 64 < cLine := by have := hr.un; omega
theorem hu65 {A : Around} {k : Nat} (hr : Room k A) : A.units + 65 < cLine := by have := hr.un; omega
end Sv

set_option maxHeartbeats 4000000
/-! Sv14: two fors in a comprehension, max and min of numbers, upper. -/
namespace Sv
open PySem L2

/-! ### max, min of a list of numbers -/
/-- the first of the least, the greatest -/
def bestL (mx : Bool) (x : D) (xs : List D) : D := xs.foldl (fun a y => if (if mx = true then PySem.W.dataLt a.py y.py else PySem.W.dataLt y.py a.py) = true then y else a) x
def bestOf (mx : Bool) (xs : List D) : Option D := match intsD xs with
  | some (n :: ns) => some (.int (if mx = true then maxI (n :: ns) else minI (n :: ns)))
  | _ => match xs with
    | x :: r => if sortOk (x :: r) = true then some (bestL mx x r) else none
    | [] => none
def maxLD : List D → Option D
  | [.lst xs] => bestOf true xs
  | [.tup xs] => bestOf true xs
  | _ => none
def minLD : List D → Option D
  | [.lst xs] => bestOf false xs
  | [.tup xs] => bestOf false xs
  | _ => none
theorem foldl_max_spec : ∀ (ns : List Int) (n : Int), (ns.foldl max n = n ∨ ns.foldl max n ∈ ns) ∧ n ≤ ns.foldl max n ∧ ∀ y ∈ ns, y ≤ ns.foldl max n
  | [], n => by simp
  | a :: ns, n => by
    obtain ⟨h1, h2, h3⟩ := foldl_max_spec ns (max n a)
    simp only [List.foldl_cons]
    refine ⟨?_, by omega, fun y hy => ?_⟩
    · rcases h1 with h | h
      · rcases Int.le_total n a with hl | hl
        · rw [Int.max_eq_right hl] at h ⊢; exact .inr (by rw [h]; exact List.mem_cons_self)
        · rw [Int.max_eq_left hl] at h ⊢; exact .inl h
      · exact .inr (List.mem_cons_of_mem _ h)
    · rcases List.mem_cons.mp hy with h | h
      · subst h; omega
      · exact h3 y h
theorem foldl_min_spec : ∀ (ns : List Int) (n : Int), (ns.foldl min n = n ∨ ns.foldl min n ∈ ns) ∧ ns.foldl min n ≤ n ∧ ∀ y ∈ ns, ns.foldl min n ≤ y
  | [], n => by simp
  | a :: ns, n => by
    obtain ⟨h1, h2, h3⟩ := foldl_min_spec ns (min n a)
    simp only [List.foldl_cons]
    refine ⟨?_, by omega, fun y hy => ?_⟩
    · rcases h1 with h | h
      · rcases Int.le_total n a with hl | hl
        · rw [Int.min_eq_left hl] at h ⊢; exact .inl h
        · rw [Int.min_eq_right hl] at h ⊢; exact .inr (by rw [h]; exact List.mem_cons_self)
      · exact .inr (List.mem_cons_of_mem _ h)
    · rcases List.mem_cons.mp hy with h | h
      · subst h; omega
      · exact h3 y h
theorem maxI_spec {n : Int} {ns : List Int} : maxI (n :: ns) ∈ n :: ns ∧ ∀ y ∈ n :: ns, y ≤ maxI (n :: ns) := by
  obtain ⟨h1, h2, h3⟩ := foldl_max_spec ns n
  refine ⟨?_, fun y hy => ?_⟩
  · rcases h1 with h | h
    · show ns.foldl max n ∈ _; rw [h]; exact List.mem_cons_self
    · exact List.mem_cons_of_mem _ h
  · rcases List.mem_cons.mp hy with h | h
    · subst h; exact h2
    · exact h3 y h
theorem minI_spec {n : Int} {ns : List Int} : minI (n :: ns) ∈ n :: ns ∧ ∀ y ∈ n :: ns, minI (n :: ns) ≤ y := by
  obtain ⟨h1, h2, h3⟩ := foldl_min_spec ns n
  refine ⟨?_, fun y hy => ?_⟩
  · rcases h1 with h | h
    · show ns.foldl min n ∈ _; rw [h]; exact List.mem_cons_self
    · exact List.mem_cons_of_mem _ h
  · rcases List.mem_cons.mp hy with h | h
    · subst h; exact h2
    · exact h3 y h
section
variable {fn : Nat → Option V} {X : Cx} {tg e e' : Expr} {f g : Ex} {pos p : Pos}
/-- a list, of any hold -/
theorem RpOL.lst1 {m : Pm} {bo : Bo} {F : Addr → Prop} {H : Hp} {xs : List D} {vs : List V} (h : RpOL m bo F H [.lst xs] vs) : ∃ a us, vs = [.ref a] ∧ H a = some (.lst us) ∧ RpL m bo F H xs us := by
  simp only [RpOL] at h
  obtain ⟨v, _, rfl, h, rfl⟩ := h
  rcases h with h | ⟨a, rfl, _, _, h⟩
  · simp only [Rp] at h
    obtain ⟨a, us, rfl, _, h1, _, h2⟩ := h
    exact ⟨a, us, rfl, h1, h2⟩
  · obtain ⟨us, h1, _, h2⟩ := h
    exact ⟨a, us, rfl, h1, h2⟩
open PySem.W
mutual
theorem py_inj : ∀ a b : D, a.plain = true → b.plain = true → a.py = b.py → a = b
  | .non, b, _, hb, e => by cases b <;> simp_all [D.py, D.plain]
  | .bl _, b, _, hb, e => by cases b <;> simp_all [D.py, D.plain]
  | .int _, b, _, hb, e => by cases b <;> simp_all [D.py, D.plain]
  | .str _, b, _, hb, e => by cases b <;> simp_all [D.py, D.plain]
  | .tup xs, b, ha, hb, e => by
    cases b with
    | tup ys =>
      simp only [D.plain] at ha hb
      simp only [D.py, PyData.tuple.injEq] at e
      rw [pyL_inj xs ys ha hb e]
    | _ => simp_all [D.py, D.plain]
  | .lst xs, b, ha, hb, e => by
    cases b with
    | lst ys =>
      simp only [D.plain] at ha hb
      simp only [D.py, PyData.list.injEq] at e
      rw [pyL_inj xs ys ha hb e]
    | _ => simp_all [D.py, D.plain]
  | .dct _, _, ha, _, _ => by simp [D.plain] at ha
  | .tok _, _, ha, _, _ => by simp [D.plain] at ha
theorem pyL_inj : ∀ a b : List D, D.plainL a = true → D.plainL b = true → D.pyL a = D.pyL b → a = b
  | [], b, _, _, e => by cases b <;> simp_all [D.pyL]
  | x :: xs, b, ha, hb, e => by
    cases b with
    | nil => simp [D.pyL] at e
    | cons y ys =>
      rw [D.plainL, Bool.and_eq_true] at ha hb
      simp only [D.pyL, List.cons.injEq] at e
      rw [py_inj x y ha.1 hb.1 e.1, pyL_inj xs ys ha.2 hb.2 e.2]
end
theorem bestL_mem (mx : Bool) : ∀ (xs : List D) (x : D), bestL mx x xs ∈ x :: xs
  | [], x => by simp [bestL]
  | y :: ys, x => by
    have := bestL_mem mx ys (if (if mx = true then PySem.W.dataLt x.py y.py else PySem.W.dataLt y.py x.py) = true then y else x)
    have e : bestL mx x (y :: ys) = bestL mx (if (if mx = true then PySem.W.dataLt x.py y.py else PySem.W.dataLt y.py x.py) = true then y else x) ys := rfl
    rw [e]
    rcases List.mem_cons.mp this with h | h
    · rw [h]
      by_cases c : (if mx = true then PySem.W.dataLt x.py y.py else PySem.W.dataLt y.py x.py) = true
      · rw [if_pos c]; exact List.mem_cons_of_mem _ List.mem_cons_self
      · rw [if_neg c]; exact List.mem_cons_self
    · exact List.mem_cons_of_mem _ (List.mem_cons_of_mem _ h)
theorem bestL_py (mx : Bool) : ∀ (xs : List D) (x : D), (bestL mx x xs).py = if mx = true then maxD x.py (xs.map D.py) else minD x.py (xs.map D.py)
  | [], x => by cases mx <;> rfl
  | y :: ys, x => by
    have e : bestL mx x (y :: ys) = bestL mx (if (if mx = true then PySem.W.dataLt x.py y.py else PySem.W.dataLt y.py x.py) = true then y else x) ys := rfl
    rw [e, bestL_py mx ys]
    cases mx with
    | true =>
      simp only [if_true, List.map_cons, maxD, List.foldl_cons]
      split <;> rfl
    | false =>
      simp only [Bool.false_eq_true, if_false, List.map_cons, minD, List.foldl_cons]
      split <;> rfl
theorem readsAll_of {h : Heap} : ∀ {us : List Value} {ds : List D}, EachIs (fun v (d : D) => ∃ as, Reads h v d.py as) us ds → ∃ as, ReadsAll h us (ds.map D.py) as
  | _, _, .nil => ⟨_, .nil⟩
  | _, _, .cons ⟨as, r⟩ t => by
    obtain ⟨bs, rs⟩ := readsAll_of t
    exact ⟨_, .cons r rs⟩
theorem best_run {pins : List (Addr × Obj)} {s : Shared} {σ : St} {H : Hp} {Q : VK} {bo : Bo} {F : Addr → Prop} {b : Bx} {x : D} {r : List D} {vs : List V} {p : Addr} {its : List Value} (mx : Bool) (hc : X.calm = true) (hu : X.A.units + 64 < cLine) (I : Inv X pins σ H s) (W : Wo bo F H b)
    (r1 : RpL (pm X fn) bo F H (x :: r) vs) (rv : Vals vs its) (pl : s.heap.IsList p its.toArray ∨ s.heap.IsTuple p its.toArray) (ok : sortOk (x :: r) = true)
    (q : ∀ v, Rp (pm X fn) bo F H (bestL mx x r) v → Q v H) : wpAny (model X.prog X.w) X.A (call (.builtin (if mx = true then "max" else "min")) [.ref p]) (EP X pins σ Q) X.xe s := by
  obtain ⟨sm, al, so⟩ := sortOk_facts ok
  have hlen : its.length = (x :: r).length := by rw [← rv.length]; exact r1.length
  have e0 := each_of_vals rv r1
  have er : EachIs (fun v (d : D) => ∃ as, Reads s.heap v d.py as) its (x :: r) := by
    refine each_of hlen fun i a d ea ed => ?_
    obtain ⟨d', e1, v, rr, rp⟩ := (each_get e0).2 i a ea
    rw [ed] at e1; cases e1
    exact RpO.reads (fn := fn) I (.inl rp) (sm d (List.mem_of_getElem? ed)) rr
  obtain ⟨as, ra⟩ := readsAll_of er
  rw [List.map_cons] at ra
  have ha : AlikeAll (x.py :: r.map D.py) := by
    refine ⟨fun a h1 b h2 => al a (by simpa using h1) b (by simpa using h2), fun a h1 => ?_⟩
    rcases so with so | so
    · obtain ⟨y, ys, e⟩ := so a (by simpa using h1)
      rw [e]; exact fun z => nomatch z
    · have := (so a (by simpa using h1))
      exact fun z => by subst z; simp at this
  have hdep : X.A.units + 1 + PyData.depthAll (x.py :: r.map D.py) < cLine := by
    have : PyData.depthAll (x.py :: r.map D.py) ≤ 50 := by
      have g : ∀ ds : List D, (∀ d ∈ ds, d.sm = true) → PyData.depthAll (ds.map D.py) ≤ 50 := by
        intro ds
        induction ds with
        | nil => intro _; simp [PyData.depthAll]
        | cons d ds ih =>
          intro h
          have h1 := D.sm_dep (h d List.mem_cons_self)
          have h2 := ih fun z hz => h z (List.mem_cons_of_mem _ hz)
          simp only [List.map_cons, PyData.depthAll, D.py_dep]
          omega
      exact g (x :: r) sm
    omega
  have fin : ∀ (i : Nat) v h' tk bs, its.toArray[i]? = some v → Reads h' v (bestL mx x r).py bs → (∀ b o, s.heap.get? b = some o → h'.get? b = some o) → EP X pins σ Q v { s with heap := h', toks := tk } := fun i v h' tk bs hv hr hk => by
    have hv' : its[i]? = some v := by simpa using hv
    obtain ⟨d, ed, w, rw', rp⟩ := (each_get e0).2 i v hv'
    obtain ⟨d2, ed2, as2, rd⟩ := (each_get er).2 i v hv'
    rw [ed] at ed2; cases ed2
    have e1 : d.py = (bestL mx x r).py := ((PyProof.Rows.Reads.keeps hk rd).unique _ _ hr).1
    have e2 : d = bestL mx x r := py_inj _ _ (D.sm_plain (sm d (List.mem_of_getElem? ed))) (D.sm_plain (sm _ (bestL_mem mx r x))) e1
    subst e2
    exact ⟨w, H, I.kept hk, rw', q w rp⟩
  cases mx with
  | true =>
    rcases pl with pl | pl
    · exact max_list_data (I.ok.hd hc) pl (by simpa using ra) ha hdep fun i v h' tk bs h1 h2 h3 => fin i v h' tk bs h1 (by rw [bestL_py]; exact h2) h3
    · exact max_tuple_data (I.ok.hd hc) pl (by simpa using ra) ha hdep fun i v h' tk bs h1 h2 h3 => fin i v h' tk bs h1 (by rw [bestL_py]; exact h2) h3
  | false =>
    rcases pl with pl | pl
    · exact min_list_data (I.ok.hd hc) pl (by simpa using ra) ha hdep fun i v h' tk bs h1 h2 h3 => fin i v h' tk bs h1 (by rw [bestL_py]; exact h2) h3
    · exact min_tuple_data (I.ok.hd hc) pl (by simpa using ra) ha hdep fun i v h' tk bs h1 h2 h3 => fin i v h' tk bs h1 (by rw [bestL_py]; exact h2) h3
theorem d_best (mx : Bool) (hc : X.calm = true) (hu : X.A.units + 64 < cLine) : CallR X (.builtin (if mx = true then "max" else "min")) (rDn (pm X fn) fun ds => match ds with | [.lst xs] => bestOf mx xs | [.tup xs] => bestOf mx xs | _ => none) := by
  intro pins s σ H xs us Q I r ⟨bo, F, b, W, ds, d, hr, hg, q⟩
  have run : ∀ {x : D} {r : List D} {vs : List V} {p : Addr} {its : List Value}, RpL (pm X fn) bo F H (x :: r) vs → Vals vs its → (s.heap.IsList p its.toArray ∨ s.heap.IsTuple p its.toArray) → bestOf mx (x :: r) = some d → wpAny (model X.prog X.w) X.A (call (.builtin (if mx = true then "max" else "min")) [.ref p]) (EP X pins σ Q) X.xe s := fun {x r vs p its} r1 rv pl hb => by
    unfold bestOf at hb
    split at hb
    · rename_i n ns hz
      cases hb
      have ez := intsD_eq hz
      have ok : sortOk (x :: r) = true := by
        rw [ez]
        simp only [sortOk, List.all_map, Bool.and_eq_true, Bool.or_eq_true, List.all_eq_true, Function.comp]
        exact ⟨⟨fun _ _ => rfl, fun _ _ _ _ => by simp [D.py, PySem.W.alike]⟩, .inr fun _ _ => trivial⟩
      refine best_run mx hc hu I W r1 rv pl ok fun v hv => q v F H (Grow.refl W.dom) W.box ?_
      have e1 : x = .int n ∧ r = ns.map .int := by
        simp only [List.map_cons, List.cons.injEq] at ez
        exact ez
      have e2 : bestL mx x r = .int (if mx = true then maxI (n :: ns) else minI (n :: ns)) := by
        refine py_inj _ _ (D.sm_plain ((sortOk_facts ok).1 _ (bestL_mem mx r x))) rfl ?_
        rw [bestL_py, e1.1, e1.2]
        have e3 : (ns.map D.int).map D.py = ns.map PyData.int := by rw [List.map_map]; rfl
        rw [e3]
        cases mx with
        | true => simp only [if_true, D.py]; exact maxD_ints n ns
        | false => simp only [Bool.false_eq_true, if_false, D.py]; exact minD_ints n ns
      rw [e2] at hv
      exact hv
    · split at hb
      · rename_i hne x' r' he
        cases he
        split at hb
        · rename_i ok
          cases hb
          exact best_run mx hc hu I W r1 rv pl ok fun v hv => q v F H (Grow.refl W.dom) W.box hv
        · cases hb
      · rename_i he; cases he
  dsimp only at hg
  split at hg
  · rename_i ds'
    obtain ⟨v, rfl, h1⟩ := hr.one
    obtain ⟨p, vs, rfl, s1, z1, r1⟩ := h1.lst
    rw [Vals.ref1 r]
    obtain ⟨its, rv, pl, hz⟩ := I.list (SqL.of s1)
    cases ds' with
    | nil => simp [bestOf, intsD] at hg
    | cons x r => exact run r1 rv (.inl pl.isList) hg
  · rename_i ds'
    obtain ⟨v, rfl, h1⟩ := hr.one
    obtain ⟨p, vs, rfl, s1, z1, r1⟩ := h1.tup
    rw [Vals.ref1 r]
    obtain ⟨its, rv, pl, hz⟩ := I.tuple s1
    cases ds' with
    | nil => simp [bestOf, intsD] at hg
    | cons x r => exact run r1 rv (.inr pl) hg
  · cases hg
theorem d_maxL (hc : X.calm = true) (hu : X.A.units + 64 < cLine) : CallR X (.builtin "max") (rDn (pm X fn) maxLD) := d_best true hc hu
theorem d_minL (hc : X.calm = true) (hu : X.A.units + 64 < cLine) : CallR X (.builtin "min") (rDn (pm X fn) minLD) := d_best false hc hu
theorem b_max1 (hm : X.mg "max" = none) (hu : X.A.units + 64 < cLine) (ha : PEo fn X e f) (hg : Gl X "max" := by rfl) (hc : X.calm = true := by rfl) (he : starEach [e] X.env = (false, eval e X.env) :: starEach [] X.env := by rfl) : PEx fn X (.Call (.Name "max" p) [e] [] pos) (eFn maxLD (aCons f aNil)) :=
  px_fn (d_maxL hc hu) hg hm (by decide +kernel) (pao_cons ha pao_nil he) (by decide) (by decide) he rfl
theorem b_min1 (hm : X.mg "min" = none) (hu : X.A.units + 64 < cLine) (ha : PEo fn X e f) (hg : Gl X "min" := by rfl) (hc : X.calm = true := by rfl) (he : starEach [e] X.env = (false, eval e X.env) :: starEach [] X.env := by rfl) : PEx fn X (.Call (.Name "min" p) [e] [] pos) (eFn minLD (aCons f aNil)) :=
  px_fn (d_minL hc hu) hg hm (by decide +kernel) (pao_cons ha pao_nil he) (by decide) (by decide) he rfl
end

/-! ### two fors -/
def lc2Go (g : Tg) (t : Tx) (it1 : It) (g1 : Tg) (t1 : Tx) (f : Ex) (vs1 : List Nat) (ρ : Rho) : List D → Bx → Option (List D × Bx)
  | [], b => some ([], b)
  | d :: ds, b => match g d ρ with
    | some ρ1 => match t ρ1 b with
      | some (true, b1) => match it1 ρ1 b1 with
        | some (ds1, b2) => match lcGo g1 t1 f (wipeR ρ1 vs1) ds1 b2 with
          | some (rs, b3) => match lc2Go g t it1 g1 t1 f vs1 ρ ds b3 with
            | some (rs2, b4) => some (rs ++ rs2, b4)
            | none => none
          | none => none
        | none => none
      | some (false, b1) => lc2Go g t it1 g1 t1 f vs1 ρ ds b1
      | none => none
    | none => none
def eLc2 (it : It) (g : Tg) (t : Tx) (it1 : It) (g1 : Tg) (t1 : Tx) (f : Ex) (vs vs1 : List Nat) : Ex := fun ρ b => match it ρ b with
  | some (ds, b1) => match lc2Go g t it1 g1 t1 f vs1 (wipeR ρ vs) ds b1 with
    | some (rs, b2) => if rs.length ≤ sizeLine then some (.lst rs, b2) else none
    | none => none
  | none => none
/-- grown, but at D -/
structure GrowX (D : Addr) (bo : Bo) (F : Addr → Prop) (H : Hp) (F' : Addr → Prop) (H' : Hp) : Prop where
  keep : ∀ a o, H a = some o → ¬ inBox bo a → a ≠ D → H' a = some o
  free : ∀ a, H' a = none → H a = none
  sub : ∀ a, F a → F' a
  new : ∀ a, F' a → F a ∨ H a = none
  dom : ∀ a, F' a → H' a ≠ none
theorem Grow.x {D : Addr} {bo : Bo} {F F' : Addr → Prop} {H H' : Hp} (g : Grow bo F H F' H') : GrowX D bo F H F' H' := ⟨fun a o h n _ => g.keep a o h n, g.free, g.sub, g.new, g.dom⟩
theorem GrowX.trans {D : Addr} {bo : Bo} {F F1 F2 : Addr → Prop} {H H1 H2 : Hp} (a : GrowX D bo F H F1 H1) (b : GrowX D bo F1 H1 F2 H2) : GrowX D bo F H F2 H2 :=
  ⟨fun c o h n nD => b.keep c o (a.keep c o h n nD) n nD, fun c h => a.free c (b.free c h), fun c h => b.sub c (a.sub c h), fun c h => (b.new c h).elim (fun q => a.new c q) fun q => .inr (a.free c q), b.dom⟩
theorem GrowX.updD {D : Addr} {bo : Bo} {F : Addr → Prop} {H : Hp} {o u : HO} (hD : H D = some u) (dom : ∀ a, F a → H a ≠ none) : GrowX D bo F H F (upd H D o) :=
  ⟨fun a v h _ nD => by rw [upd_ne nD]; exact h, fun a h => by
    by_cases e : a = D
    · subst e; rw [upd_same] at h; cases h
    · rw [upd_ne e] at h; exact h, fun _ h => h, fun _ h => .inl h, fun a f h => by
    by_cases e : a = D
    · subst e; rw [upd_same] at h; cases h
    · rw [upd_ne e] at h; exact dom a f h⟩
theorem GrowX.fk {D : Addr} {bo : Bo} {F F' : Addr → Prop} {H H' : Hp} {b : Bx} {u : HO} (g : GrowX D bo F H F' H') (hb : BoxOk bo F H b) (dom : ∀ a, F a → H a ≠ none) (nF : ¬ F D) (hD : H D = some u) (um : MutO u) : FK F H F' H' where
  sub := g.sub
  at_ := fun a f => by
    cases q : H a with
    | none => exact absurd q (dom a f)
    | some o => exact g.keep a o q (fun n => (inBox_some hb n).1 f) fun e => nF (e ▸ f)
  imm := fun a o h n => g.keep a o h (fun z => by
    obtain ⟨_, vs, e⟩ := inBox_some hb z
    rw [h] at e; cases e
    exact n trivial) fun e => by
      subst e
      rw [hD] at h; cases h
      exact n um
section
variable {m : Pm} {H0 : Hp} {F0 : Addr → Prop} {bo : Bo} {σ : St} {ρ : Rho} {F F' : Addr → Prop} {H H' : Hp} {b b' : Bx} {D : Addr}
/-- D counts as old -/
theorem Rel.base {H1 : Hp} {F1 : Addr → Prop} {b1 : Bx} (R : Rel m H0 F0 bo σ ρ F1 H1 b1) (g : Grow bo F1 H1 F H) (hb : BoxOk bo F H b) (hD1 : H1 D = none) {o : HO} (hD : H D = some o) (nF : ¬ F D) : Rel m (L2.upd H0 D o) F0 bo σ ρ F H b := by
  have R2 := R.grow g hb
  refine ⟨⟨hb, fun a u h n => ?_, fun a h => ?_, R2.core.sub, fun a h => ?_, R2.core.dom⟩, R2.len, R2.frz, fun i d e => ?_, R2.dis⟩
  · by_cases e : a = D
    · subst e; rw [upd_same] at h; cases h; exact hD
    · rw [upd_ne e] at h; exact R2.core.keep a u h n
  · have e : a ≠ D := fun e => by subst e; rw [hD] at h; cases h
    rw [upd_ne e]; exact R2.core.free a h
  · have e : a ≠ D := fun e => nF (e ▸ h)
    rw [upd_ne e]; exact R2.core.new a h
  · obtain ⟨a, h1, h2, h3, h4, h5⟩ := R.own i d e
    obtain ⟨u, hu, _⟩ := h5.some
    obtain ⟨a', h1', h2', h3', h4', h5'⟩ := R2.own i d e
    rw [h1] at h1'; cases h1'
    have e : a ≠ D := fun e => by subst e; rw [hD1] at hu; cases hu
    exact ⟨a, h1, h2', h3', by rw [upd_ne e]; exact h4', h5'⟩
theorem Rel.move {o o' : HO} (R : Rel m (L2.upd H0 D o) F0 bo σ ρ F H b) (hD : H D = some o) (um : MutO o) (nF : ¬ F D) (g : GrowX D bo F H F' H') (hb : BoxOk bo F' H' b') (hD' : H' D = some o') : Rel m (L2.upd H0 D o') F0 bo σ ρ F' H' b' := by
  have k := g.fk R.core.box R.core.dom nF hD um
  have nF' : ¬ F' D := fun h => by
    rcases g.new D h with z | z
    · exact nF z
    · rw [hD] at z; cases z
  refine ⟨⟨hb, fun a u h n => ?_, fun a h => ?_, fun a h => g.sub a (R.core.sub a h), fun a h => ?_, g.dom⟩, R.len, fun i d e => ?_, fun i d e => ?_, R.dis⟩
  · by_cases e : a = D
    · subst e; rw [upd_same] at h; cases h; exact hD'
    · rw [upd_ne e] at h
      exact g.keep a u (R.core.keep a u (by rw [upd_ne e]; exact h) n) n e
  · have e : a ≠ D := fun e => by subst e; rw [hD'] at h; cases h
    have := R.core.free a (g.free a h)
    rw [upd_ne e] at this ⊢; exact this
  · have e : a ≠ D := fun e => nF' (e ▸ h)
    rcases g.new a h with z | z
    · rcases R.core.new a z with z | z
      · exact .inl z
      · rw [upd_ne e] at z ⊢; exact .inr z
    · have := R.core.free a z
      rw [upd_ne e] at this ⊢; exact .inr this
  · obtain ⟨v, h1, h2⟩ := R.frz i d e
    exact ⟨v, h1, h2.fk k⟩
  · obtain ⟨a, h1, h2, h3, h4, h5⟩ := R.own i d e
    have e : a ≠ D := fun e => by subst e; rw [upd_same] at h4; cases h4
    obtain ⟨u, hu, _⟩ := h5.some
    rw [upd_ne e] at h4
    refine ⟨a, h1, fun z => ?_, h3, by rw [upd_ne e]; exact h4, h5.fk k ((g.keep a u hu h3 e).trans hu.symm)⟩
    rcases g.new a z with z | z
    · exact h2 z
    · rw [hu] at z; cases z
end

section
variable {fn : Nat → Option V} {X : Cx} {pos : Pos}
theorem lc2_o {m : Pm} {it it1 : It} {g g1 : Tg} {t t1 : Tx} {f : Ex} {sl sl1 vs vs1 : List Nat} (hsl : ∀ i ∈ sl, i ∈ vs) (hsl1 : ∀ i ∈ sl1, i ∈ vs1) {σ : St} {H : Hp} {Q : VK} (h : tEn m (eLc2 it g t it1 g1 t1 f vs vs1) σ H Q) :
    tLc2 (iEo m it) (gEx m sl g) (tTx m t) (iEx m it1) (gEx m sl1 g1) (tTx m t1) (tEx m f) vs vs1 σ H Q := by
  obtain ⟨H0, F0, bo, ρ, F, b, R, r, b', e, q⟩ := h
  unfold eLc2 at e
  split at e
  · rename_i ds b1 e1
    split at e
    · rename_i rs b2 e2
      split at e
      · rename_i hrs
        cases e
        refine ⟨H0, F0, bo, ρ, F, b, R, ds, b1, e1, fun J F1 H1 g0 hb1 hz y D hD => ?_⟩
        have R1 := R.grow g0 hb1
        have W1 : Wo bo F1 H1 b1 := R1.wo
        have nD : ¬ inBox bo D := inBox_new W1 hD
        refine ⟨fun i mm H2 => mm = ds.length - i ∧ i ≤ ds.length ∧ ∃ F2 bb acc accD rs2, Grow bo F1 H1 F2 H2 ∧ BoxOk bo F2 H2 bb ∧ H2 D = some (.lst acc) ∧ ¬ F2 D ∧ RpL m bo F2 H2 accD acc ∧ lc2Go g t it1 g1 t1 f vs1 (wipeR ρ vs) (ds.drop i) bb = some (rs2, b') ∧ accD ++ rs2 = rs,
          ⟨_, rfl, Nat.zero_le _, F1, b1, [], [], rs, Grow.alloc W1 hD, BoxOk.alloc W1 hD fun _ h => .inl h, upd_same, fun z => W1.dom D z hD, RpL.nil, e2, rfl⟩, ?_⟩
        rintro i mm H2 ⟨rfl, hi, F2, bb, acc, accD, rs2, g2, hb2, hD2, nF, ra, eg, er⟩
        obtain ⟨yy, yst⟩ := y F2 H2 bb g2 ⟨hb2, g2.dom⟩
        by_cases hlt : i < ds.length
        · refine .inr ?_
          obtain ⟨ygo, yyl⟩ := yy i ds[i] (List.getElem?_eq_getElem hlt)
          rw [List.drop_eq_getElem_cons hlt] at eg
          refine ⟨ygo, fun H3 => ∃ F2 bb acc accD rs2, Grow bo F1 H1 F2 H3 ∧ BoxOk bo F2 H3 bb ∧ H3 D = some (.lst acc) ∧ ¬ F2 D ∧ RpL m bo F2 H3 accD acc ∧ lc2Go g t it1 g1 t1 f vs1 (wipeR ρ vs) (ds.drop (i + 1)) bb = some (rs2, b') ∧ accD ++ rs2 = rs, fun H' hh => ⟨_, by omega, rfl, hlt, hh⟩, fun x H3 hy => ?_⟩
          obtain ⟨g3, hb3, rx⟩ := yyl x H3 hy
          have W2 : Wo bo F2 H2 bb := ⟨hb2, g2.dom⟩
          have hD3 : H3 D = some (.lst acc) := g3.keep D _ hD2 nD
          have R3 := (R1.base (g2.trans g3) hb3 hD hD3 nF).wipe vs
          have ra3 := ra.fk (W2.fk g3)
          unfold lc2Go at eg
          split at eg
          · rename_i ρ1 e3
            refine ⟨_, F0, bo, _, F2, bb, R3, _, ρ1, rx, e3, fun σ4 R4 w4 => ⟨w4 vs hsl |>.trans (wipe_wipe fun i h => h), ?_⟩⟩
            split at eg
            · rename_i b3 e4
              refine ⟨_, F0, bo, ρ1, F2, bb, R4, true, b3, e4, fun F5 H5 g5 hb5 => iteT ?_⟩
              split at eg
              · rename_i ds1 b4 e5
                split at eg
                · rename_i rs1 b5 e6
                  split at eg
                  · rename_i rest b6 e7
                    cases eg
                    refine ⟨_, F0, bo, ρ1, F5, b3, R4.grow g5 hb5, ds1, b4, e5, fun J1 F6 H6 g6 hb6 hz1 y1 => ?_⟩
                    have R6 := (R4.grow g5 hb5).grow g6 hb6
                    have g36 := (g3.trans g5).trans g6
                    have hD6 : H6 D = some (.lst acc) := g36.keep D _ hD2 nD
                    have nF6 : ¬ F6 D := fun hf => by
                      rcases g36.new D hf with k | k
                      · exact nF k
                      · rw [hD2] at k; cases k
                    have g16 := g2.trans g36
                    have ra6 := ra.fk (W2.fk g36)
                    have W6 : Wo bo F6 H6 b4 := ⟨hb6, g6.dom⟩
                    refine ⟨fun j kk H7 => kk = ds1.length - j ∧ j ≤ ds1.length ∧ ∃ F7 b7 acc7 accD7 rs7, GrowX D bo F6 H6 F7 H7 ∧ Grow bo F1 H1 F7 H7 ∧ BoxOk bo F7 H7 b7 ∧ H7 D = some (.lst acc7) ∧ ¬ F7 D ∧ RpL m bo F7 H7 accD7 acc7 ∧ lcGo g1 t1 f (wipeR ρ1 vs1) (ds1.drop j) b7 = some (rs7, b5) ∧ accD7 ++ (rs7 ++ rest) = rs,
                      ⟨_, rfl, Nat.zero_le _, F6, b4, acc, accD, rs1, (Grow.refl W6.dom).x, g16, hb6, hD6, nF6, ra6, e6, er⟩, ?_⟩
                    rintro j kk H7 ⟨rfl, hj, F7, b7, acc7, accD7, rs7, gx, g17, hb7, hD7, nF7, ra7, eg7, er7⟩
                    have k67 := gx.fk hb6 W6.dom nF6 hD6 trivial
                    obtain ⟨y1y, y1st⟩ := y1 F7 H7 b7 k67 ⟨hb7, gx.dom⟩
                    by_cases hlt1 : j < ds1.length
                    · refine .inr ?_
                      obtain ⟨y1go, y1yl⟩ := y1y j ds1[j] (List.getElem?_eq_getElem hlt1)
                      rw [List.drop_eq_getElem_cons hlt1] at eg7
                      refine ⟨y1go, fun H7 => ∃ F7 b7 acc7 accD7 rs7, GrowX D bo F6 H6 F7 H7 ∧ Grow bo F1 H1 F7 H7 ∧ BoxOk bo F7 H7 b7 ∧ H7 D = some (.lst acc7) ∧ ¬ F7 D ∧ RpL m bo F7 H7 accD7 acc7 ∧ lcGo g1 t1 f (wipeR ρ1 vs1) (ds1.drop (j + 1)) b7 = some (rs7, b5) ∧ accD7 ++ (rs7 ++ rest) = rs, fun H' hh => ⟨_, by omega, rfl, hlt1, hh⟩, fun x8 H8 hy8 => ?_⟩
                      obtain ⟨g8, hb8, rx8⟩ := y1yl x8 H8 hy8
                      have W7 : Wo bo F7 H7 b7 := ⟨hb7, gx.dom⟩
                      have hD8 : H8 D = some (.lst acc7) := g8.keep D _ hD7 nD
                      have R8 := (R6.move hD6 trivial nF6 (gx.trans g8.x) hb8 hD8).wipe vs1
                      unfold lcGo at eg7
                      split at eg7
                      · rename_i ρ9 e9
                        refine ⟨_, F0, bo, _, F7, b7, R8, _, ρ9, rx8, e9, fun σ9 R9 w9 => ⟨w9 vs1 hsl1 |>.trans (wipe_wipe fun i h => h), ?_⟩⟩
                        split at eg7
                        · rename_i b9 e10
                          refine ⟨_, F0, bo, ρ9, F7, b7, R9, true, b9, e10, fun F10 H10 g10 hb10 => iteT ?_⟩
                          split at eg7
                          · rename_i z b11 e11
                            split at eg7
                            · rename_i zs b12 e12
                              cases eg7
                              refine ⟨_, F0, bo, ρ9, F10, b9, R9.grow g10 hb10, z, b11, e11, fun v F13 H13 g13 hb13 rv => ?_⟩
                              have g713 := (g8.trans g10).trans g13
                              have hD13 : H13 D = some (.lst acc7) := g713.keep D _ hD7 nD
                              have nF13 : ¬ F13 D := fun hf => by
                                rcases g713.new D hf with k | k
                                · exact nF7 k
                                · rw [hD7] at k; cases k
                              have ra13 := ra7.fk (W7.fk g713)
                              have kk : FK F13 H13 F13 (upd H13 D (.lst (acc7 ++ [v]))) := FK.upd nF13 fun u hu => by rw [hD13] at hu; cases hu; trivial
                              have gxD : GrowX D bo F13 H13 F13 (upd H13 D (.lst (acc7 ++ [v]))) := GrowX.updD hD13 g713.dom
                              have g113 := g17.trans g713
                              refine ⟨acc7, hD13, ?_, F13, b11, acc7 ++ [v], accD7 ++ [z], zs, (gx.trans g713.x).trans gxD, ⟨fun c o ho hn => ?_, fun c ho => gxD.free c ho |> g113.free c, g113.sub, g113.new, gxD.dom⟩, hb13.upd nD, upd_same, nF13, RpL.append (ra13.fk kk) (RpL.cons (rv.fk kk) RpL.nil), e12, by simpa using er7⟩
                              · have h1 := ra7.length
                                have h2 := congrArg List.length er7
                                simp at h2
                                omega
                              · have e : c ≠ D := fun e => by subst e; rw [hD] at ho; cases ho
                                rw [upd_ne e]; exact g113.keep c o ho hn
                            · cases eg7
                          · cases eg7
                        · rename_i b9 e10
                          refine ⟨_, F0, bo, ρ9, F7, b7, R9, false, b9, e10, fun F10 H10 g10 hb10 => iteF ?_⟩
                          have g710 := g8.trans g10
                          have nF10 : ¬ F10 D := fun hf => by
                            rcases g710.new D hf with k | k
                            · exact nF7 k
                            · rw [hD7] at k; cases k
                          exact ⟨F10, b9, acc7, accD7, rs7, gx.trans g710.x, g17.trans g710, hb10, g710.keep D _ hD7 nD, nF10, ra7.fk (W7.fk g710), eg7, er7⟩
                        · cases eg7
                      · cases eg7
                    · have ej : j = ds1.length := by omega
                      subst ej
                      rw [List.drop_length] at eg7
                      cases eg7
                      exact .inl ⟨y1st, F7, b5, acc7, accD7, rest, g17, hb7, hD7, nF7, ra7, e7, er7⟩
                  · cases eg
                · cases eg
              · cases eg
            · rename_i b3 e4
              refine ⟨_, F0, bo, ρ1, F2, bb, R4, false, b3, e4, fun F5 H5 g5 hb5 => iteF ?_⟩
              have g35 := g3.trans g5
              have nF5 : ¬ F5 D := fun hf => by
                rcases g35.new D hf with k | k
                · exact nF k
                · rw [hD2] at k; cases k
              exact ⟨F5, b3, acc, accD, rs2, g2.trans g35, hb5, g35.keep D _ hD2 nD, nF5, ra.fk (W2.fk g35), eg, er⟩
            · cases eg
          · cases eg
        · have ei : i = ds.length := by omega
          subst ei
          rw [List.drop_length] at eg
          cases eg
          refine .inl ⟨yst, ?_⟩
          rw [List.append_nil] at er
          subst er
          exact q D F2 H2 (g0.trans g2) hb2 (g0.free D hD) nF ⟨acc, hD2, by rw [ra.length]; exact hrs, ra⟩
      · cases e
    · cases e
  · cases e
theorem pn_lc2 {elt tg iter tg1 iter1 : Expr} {ifs ifs1 : List Expr} {scope : Scope} {own : List (Str × Nat)} {vs1 : List Nat} {it it1 : It} {g g1 : Tg} {t t1 : Tx} {f : Ex} {sl sl1 : List Nat} (hc : X.calm = true) (hN : X.N.Nodup) (hi : PIo fn X tg iter it) (ok : BlkOk X.N X.env.scope scope own)
    (hg : ∀ (s : Shared) (H : Hp) (C : Addr) (cl : List (Str × Addr)) (fp : List Addr), PGx fn (X.blk s H scope (compEnvC scope cl C X.env) fp) tg sl g)
    (ht : ∀ (s : Shared) (H : Hp) (C : Addr) (cl : List (Str × Addr)) (fp : List Addr), PTsx fn (X.blk s H scope (compEnvC scope cl C X.env) fp) ifs t)
    (hi1 : ∀ (s : Shared) (H : Hp) (C : Addr) (cl : List (Str × Addr)) (fp : List Addr), PIx fn (X.blk s H scope (compEnvC scope cl C X.env) fp) tg1 iter1 it1)
    (hg1 : ∀ (s : Shared) (H : Hp) (C : Addr) (cl : List (Str × Addr)) (fp : List Addr), PGx fn (X.blk s H scope (compEnvC scope cl C X.env) fp) tg1 sl1 g1)
    (ht1 : ∀ (s : Shared) (H : Hp) (C : Addr) (cl : List (Str × Addr)) (fp : List Addr), PTsx fn (X.blk s H scope (compEnvC scope cl C X.env) fp) ifs1 t1)
    (he : ∀ (s : Shared) (H : Hp) (C : Addr) (cl : List (Str × Addr)) (fp : List Addr), PEx fn (X.blk s H scope (compEnvC scope cl C X.env) fp) elt f)
    (hv : ∀ i ∈ vs1, i ∈ own.map (·.2) := by decide) (hsl : ∀ i ∈ sl, i ∈ own.map (·.2) := by decide) (hsl1 : ∀ i ∈ sl1, i ∈ vs1 := by decide) (hs : ∀ x, foldedSetIterable iter X.env x = pure x := by intro _; rfl) (hs1 : ∀ env x, foldedSetIterable iter1 env x = pure x := by intro _ _; rfl) :
    PEn fn X (.ListComp elt [⟨tg, iter, ifs, 0⟩, ⟨tg1, iter1, ifs1, 0⟩] scope pos) (eLc2 it g t it1 g1 t1 f (own.map (·.2)) vs1) :=
  PE.imp (pe_lc2 hc hN hi ok hv hg ht hi1 hg1 ht1 he hs hs1) fun _ _ _ h => lc2_o hsl hsl1 h
end

section
variable {fn : Nat → Option V} {X : Cx} {pos : Pos}
theorem psx_setLc2 {i : Nat} {y : Str} {py : Pos} {elt tg iter tg1 iter1 : Expr} {ifs ifs1 : List Expr} {scope : Scope} {own : List (Str × Nat)} {spos : Pos} {vs1 : List Nat} {it it1 : It} {g g1 : Tg} {t t1 : Tx} {f : Ex} {sl sl1 : List Nat} (hc : X.calm = true) (hN : X.N.Nodup) (hy : X.N[i]? = some y) (hyl : X.env.scope.names.lookup y = some .local)
    (hsw : swapsWith (.ListComp elt [⟨tg, iter, ifs, 0⟩, ⟨tg1, iter1, ifs1, 0⟩] scope pos) (some (.Name y py)) spos.line X.env = pure true) (hi : PIo fn X tg iter it) (ok : BlkOk X.N X.env.scope scope own)
    (hg : ∀ (s : Shared) (H : Hp) (C : Addr) (cl : List (Str × Addr)) (fp : List Addr), PGx fn (X.blk s H scope (compEnvC scope cl C X.env) fp) tg sl g)
    (ht : ∀ (s : Shared) (H : Hp) (C : Addr) (cl : List (Str × Addr)) (fp : List Addr), PTsx fn (X.blk s H scope (compEnvC scope cl C X.env) fp) ifs t)
    (hi1 : ∀ (s : Shared) (H : Hp) (C : Addr) (cl : List (Str × Addr)) (fp : List Addr), PIx fn (X.blk s H scope (compEnvC scope cl C X.env) fp) tg1 iter1 it1)
    (hg1 : ∀ (s : Shared) (H : Hp) (C : Addr) (cl : List (Str × Addr)) (fp : List Addr), PGx fn (X.blk s H scope (compEnvC scope cl C X.env) fp) tg1 sl1 g1)
    (ht1 : ∀ (s : Shared) (H : Hp) (C : Addr) (cl : List (Str × Addr)) (fp : List Addr), PTsx fn (X.blk s H scope (compEnvC scope cl C X.env) fp) ifs1 t1)
    (he : ∀ (s : Shared) (H : Hp) (C : Addr) (cl : List (Str × Addr)) (fp : List Addr), PEx fn (X.blk s H scope (compEnvC scope cl C X.env) fp) elt f)
    (hv : ∀ i ∈ vs1, i ∈ own.map (·.2) := by decide) (hsl : ∀ i ∈ sl, i ∈ own.map (·.2) := by decide) (hsl1 : ∀ i ∈ sl1, i ∈ vs1 := by decide) (hs : ∀ x, foldedSetIterable iter X.env x = pure x := by intro _; rfl) (hs1 : ∀ env x, foldedSetIterable iter1 env x = pure x := by intro _ _; rfl) :
    PSx fn X (.Assign [.Name y py] (.ListComp elt [⟨tg, iter, ifs, 0⟩, ⟨tg1, iter1, ifs1, 0⟩] scope pos) spos) (sNew i (eLc2 it g t it1 g1 t1 f (own.map (·.2)) vs1)) :=
  PS.imp (ps_setLc2 hc hN hy hyl hsw hi ok hv hg ht hi1 hg1 ht1 he hs hs1) fun _ _ _ h => lc2_o hsl hsl1 (new_o h)
theorem psx_setLc2F {i : Nat} {y : Str} {py : Pos} {elt tg iter tg1 iter1 : Expr} {ifs ifs1 : List Expr} {scope : Scope} {own : List (Str × Nat)} {spos : Pos} {vs1 : List Nat} {it it1 : It} {g g1 : Tg} {t t1 : Tx} {f : Ex} {sl sl1 : List Nat} (hc : X.calm = true) (hN : X.N.Nodup) (hy : X.N[i]? = some y) (hyl : X.env.scope.names.lookup y = some .local)
    (hsw : swapsWith (.ListComp elt [⟨tg, iter, ifs, 0⟩, ⟨tg1, iter1, ifs1, 0⟩] scope pos) (some (.Name y py)) spos.line X.env = pure true) (hi : PIo fn X tg iter it) (ok : BlkOk X.N X.env.scope scope own)
    (hg : ∀ (s : Shared) (H : Hp) (C : Addr) (cl : List (Str × Addr)) (fp : List Addr), PGx fn (X.blk s H scope (compEnvC scope cl C X.env) fp) tg sl g)
    (ht : ∀ (s : Shared) (H : Hp) (C : Addr) (cl : List (Str × Addr)) (fp : List Addr), PTsx fn (X.blk s H scope (compEnvC scope cl C X.env) fp) ifs t)
    (hi1 : ∀ (s : Shared) (H : Hp) (C : Addr) (cl : List (Str × Addr)) (fp : List Addr), PIx fn (X.blk s H scope (compEnvC scope cl C X.env) fp) tg1 iter1 it1)
    (hg1 : ∀ (s : Shared) (H : Hp) (C : Addr) (cl : List (Str × Addr)) (fp : List Addr), PGx fn (X.blk s H scope (compEnvC scope cl C X.env) fp) tg1 sl1 g1)
    (ht1 : ∀ (s : Shared) (H : Hp) (C : Addr) (cl : List (Str × Addr)) (fp : List Addr), PTsx fn (X.blk s H scope (compEnvC scope cl C X.env) fp) ifs1 t1)
    (he : ∀ (s : Shared) (H : Hp) (C : Addr) (cl : List (Str × Addr)) (fp : List Addr), PEx fn (X.blk s H scope (compEnvC scope cl C X.env) fp) elt f)
    (hv : ∀ i ∈ vs1, i ∈ own.map (·.2) := by decide) (hsl : ∀ i ∈ sl, i ∈ own.map (·.2) := by decide) (hsl1 : ∀ i ∈ sl1, i ∈ vs1 := by decide) (hs : ∀ x, foldedSetIterable iter X.env x = pure x := by intro _; rfl) (hs1 : ∀ env x, foldedSetIterable iter1 env x = pure x := by intro _ _; rfl) :
    PSx fn X (.Assign [.Name y py] (.ListComp elt [⟨tg, iter, ifs, 0⟩, ⟨tg1, iter1, ifs1, 0⟩] scope pos) spos) (sSet i (eLc2 it g t it1 g1 t1 f (own.map (·.2)) vs1)) :=
  PS.imp (ps_setLc2 hc hN hy hyl hsw hi ok hv hg ht hi1 hg1 ht1 he hs hs1) fun _ _ _ h => lc2_o hsl hsl1 (en_of_ex (set_o h))
/-- s.upper() -/
def upD : D → Option D
  | .str z => if z.length ≤ 5592405 then some (.str (PySem.Txt.upper z)) else none
  | _ => none
theorem px_upper {o : Expr} {f : Ex} {apos : Pos} (ho : PEo fn X o f) (hbase : attributeBase o "upper" X.env (eval o X.env) = eval o X.env := by rfl) (hline : (apos.endLine == pos.line) = true := by rfl) : PEx fn X (.Call (.Attribute o "upper" apos) [] [] pos) (eUn upD f) :=
  PE.imp (pe_upper ho hbase hline) fun σ H Q h => by
    obtain ⟨H0, F0, bo, ρ, F, b, R, d, b', e, q⟩ := one_o h
    refine ⟨H0, F0, bo, ρ, F, b, R, d, b', e, fun v F' H' g hb rv => ?_⟩
    obtain ⟨bo', F2, b2, W, d', r, rd, er, q'⟩ := q v F' H' g hb rv
    unfold upD at er
    split at er
    · rename_i z
      split at er
      · rename_i hz
        cases er
        rcases rd with rd | ⟨a, rfl, _, _, ow⟩
        · have ev : v = .str z := by simpa [Rp] using rd
          subst ev
          exact ⟨⟨z, rfl⟩, z, rfl, rfl, hz, q' _ F2 H' (Grow.refl W.dom) W.box (by simp [Rp])⟩
        · exact (show False from ow).elim
      · cases er
    · cases er
end
end Sv

set_option maxHeartbeats 4000000
/-! Sv15: dicts made, changed, asked. -/
namespace Sv
open PySem L2

/-! ### what they compute -/
def eDic0 : Ex := fun _ b => some (.dct [], b)
def eDicT0 : Ex := fun _ b => some (.dct [t0], b)
def putAll (kvs : List (D × D)) : List (D × D) → Option (List (D × D))
  | [] => some kvs
  | (k, v) :: r => match dPut kvs k v with
    | some kvs' => putAll kvs' r
    | none => none
abbrev Pas := Rho → Bx → Option (List (D × D) × Bx)
def pNil : Pas := fun _ b => some ([], b)
def pCons (fk fv : Ex) (g : Pas) : Pas := fun ρ b => match fk ρ b with
  | some (k, b1) => match fv ρ b1 with
    | some (v, b2) => match g ρ b2 with
      | some (r, b3) => some ((k, v) :: r, b3)
      | none => none
    | none => none
  | none => none
/-- {k: v, ..}; tk: the keys are tuples -/
def eDisp (tk : Bool) (g : Pas) : Ex := fun ρ b => match g ρ b with
  | some (ps, b1) => match putAll (if tk = true then [t0] else []) ps with
    | some kvs => some (.dct kvs, b1)
    | none => none
  | none => none
/-- as set() takes them: each once, in order -/
def ddI (ns : List Int) : List Int := ns.foldl (fun acc x => if acc.any (· == x) then acc else acc ++ [x]) []
/-- len(set(xs)) of numbers -/
def lenSetD : List D → Option D
  | [.lst xs] => if xs.length ≤ 4000 then (intsD xs).map fun ns => .int (ddI ns).length else none
  | [.tup xs] => if xs.length ≤ 4000 then (intsD xs).map fun ns => .int (ddI ns).length else none
  | _ => none
/-- targets that may be places of lists of one's own -/
abbrev Tq := D → Rho → Bx → Option (Rho × Bx)
def qNm (i : Nat) : Tq := fun d ρ b => some (ρ.set i (.frz d), b)
def qSt (i : Nat) (fi : Ex) : Tq := fun d ρ b => match ρ[i]? with
  | some (.own (.lst xs)) => match fi ρ b with
    | some (.int k, b1) => match ixN xs.length k with
      | some j => some (ρ.set i (.own (.lst (xs.set j d))), b1)
      | none => none
    | _ => none
  | _ => none
def qAll : List Tq → List D → Rho → Bx → Option (Rho × Bx)
  | [], [], ρ, b => some (ρ, b)
  | q :: qs, d :: ds, ρ, b => match q d ρ b with
    | some (ρ1, b1) => qAll qs ds ρ1 b1
    | none => none
  | _, _, _, _ => none
/-- a, xs[i] = e, f -/
def sPq (k : As) (qs : List Tq) : SS := fun ρ b => match k ρ b with
  | some (ds, b1) => match qAll qs ds ρ b1 with
    | some (ρ1, b2) => some (.nx, ρ1, b2)
    | none => none
  | none => none
/-- d[k] = v, d a slot's dict -/
def sDPut (i : Nat) (fk fv : Ex) : SS := fun ρ b => match fv ρ b with
  | some (v, b1) => match ρ[i]? with
    | some (.own (.dct kvs)) => match fk ρ b1 with
      | some (k, b2) => match dPut kvs k v with
        | some kvs' => some (.nx, ρ.set i (.own (.dct kvs')), b2)
        | none => none
      | none => none
    | _ => none
  | none => none

section
variable {fn : Nat → Option V} {X : Cx} {o c e : Expr} {f g h : Ex} {pos p p2 : Pos}
/-! ### new ones -/
theorem new_dK {m : Pm} {bo : Bo} {F : Addr → Prop} {H : Hp} {b : Bx} {q : Addr} (W : Wo bo F H b) (hp : H q = none) :
    Grow bo F H F (upd H q (.dK [])) ∧ BoxOk bo F (upd H q (.dK [])) b ∧ ¬ F q ∧ Own m bo F (upd H q (.dK [])) (.dct []) q :=
  ⟨Grow.alloc W hp, BoxOk.alloc W hp fun _ h => .inl h, fun f => W.dom q f hp, .inl ⟨[], upd_same, by simp [RpA]⟩⟩
theorem new_dT {m : Pm} {bo : Bo} {F : Addr → Prop} {H : Hp} {b : Bx} {q : Addr} (W : Wo bo F H b) (hp : H q = none) :
    Grow bo F H F (upd H q (DicO m q [])) ∧ BoxOk bo F (upd H q (DicO m q [])) b ∧ ¬ F q ∧ Own m bo F (upd H q (DicO m q [])) (.dct [t0]) q :=
  ⟨Grow.alloc W hp, BoxOk.alloc W hp fun _ h => .inl h, fun f => W.dom q f hp, .inr ⟨[], upd_same, by simp [RpB, RpC, t0]⟩⟩
theorem dicT_empty {m : Pm} {H : Hp} (hm : m.P = X.prog) (hw : m.w = X.w) (h : Heap) (hb : sysModules < h.objs.size) : ObjOk X.prog X.w H (h.push { cls := .type "dict", data := .dict #[] }) h.objs.size (DicO m h.objs.size []) := by
  refine ⟨⟨_, #[], 0, Heap.get?_push_size _ rfl, ⟨rfl, rfl, rfl⟩, rfl, rfl, List.nodup_nil, Nat.zero_le _, beq_eq_false_iff_ne.mpr (Ne.symm (Nat.ne_of_lt hb))⟩, ⟨_, Heap.get?_push_size _ rfl⟩, fun h1 h2 ⟨o, arr, ep, g1, g2⟩ st => ⟨o, arr, ep, st o g1, g2⟩⟩
theorem pn_dicK : PEn fn X (.Dict [] [] pos) eDic0 := PE.imp pe_dnewK fun σ H Q ⟨H0, F0, bo, ρ, F, b, R, r, b', e, q⟩ q' hp => by
  cases e
  obtain ⟨g, hb, nf, ow⟩ := new_dK (m := pm X fn) R.wo hp
  exact q q' F _ g hb hp nf ow
theorem pn_dicT : PEn fn X (.Dict [] [] pos) eDicT0 := ⟨fun pins s σ H Q I ⟨H0, F0, bo, ρ, F, b, R, r, b', e, q⟩ => by
  cases e
  have hp := I.hok.fresh (Nat.le_refl s.heap.objs.size)
  obtain ⟨g, hb, nf, ow⟩ := new_dT (m := pm X fn) R.wo hp
  exact wpAny_Dict_empty ⟨.ref s.heap.objs.size, _, I.laid (a := s.heap.objs.size) (t' := s.toks) (fun _ _ q => Heap.get?_push_of_some _ q) (Nat.le_refl _) (dicT_empty rfl rfl s.heap I.big), rfl, q _ F _ g hb hp nf ow⟩⟩
/-! ### d.get(k, x) -/
theorem px_get2 {apos : Pos} (hu : X.A.units + 64 < cLine) (ho : PEo fn X o f) (hk : PEo fn X c g) (hx : PEx fn X e h) (mm : M2 X o "get" apos c e pos := by exact ⟨rfl, rfl, rfl, rfl⟩) : PEx fn X (.Call (.Attribute o "get" apos) [c, e] [] pos) (eFn getD3 (aCons f (aCons g (aCons h aNil)))) := by
  refine ⟨fun pins s σ H Q I ⟨H0, F0, bo, ρ, F, b, R, r, b', e, q⟩ => ?_⟩
  unfold eFn aCons aNil at e
  cases e1 : f ρ b with
  | none => simp [e1] at e
  | some p1 =>
    obtain ⟨d, b1⟩ := p1
    cases e2 : g ρ b1 with
    | none => simp [e1, e2] at e
    | some p2 =>
      obtain ⟨k, b2⟩ := p2
      cases e3 : h ρ b2 with
      | none => simp [e1, e2, e3] at e
      | some p3 =>
        obtain ⟨x, b3⟩ := p3
        cases d with
        | dct kvs =>
          simp only [e1, e2, e3, getD3] at e
          cases e4 : dGet kvs k with
          | none => rw [e4] at e; cases e
          | some od =>
            rw [e4] at e
            simp only [Option.map_some, Option.some.injEq, Prod.mk.injEq] at e
            obtain ⟨rfl, rfl⟩ := e
            refine wpAny_Call_method mm.base mm.few mm.line PySem.F.plainAttrs_dict PySem.F.slot_dict_get PySem.F.type_dict_get (thn (ho.run pins s σ H _ I ⟨H0, F0, bo, ρ, F, b, R, _, b1, e1, fun v1 F1 H1 g1 hb1 r1 => (⟨F1, g1, hb1, r1⟩ : ∃ F1, Grow bo F H F1 H1 ∧ BoxOk bo F1 H1 b1 ∧ RpO (pm X fn) bo F1 H1 (.dct kvs) v1)⟩) fun u s1 ⟨v1, H1, I1, rx, F1, g1, hb1, r1⟩ => ?_)
            obtain ⟨a, ea, gd⟩ := r1.dct
            subst ea
            obtain rfl : u = Value.ref a := rx
            have R1 := R.grow g1 hb1
            obtain ⟨t1, t2⟩ := gd.type I1
            refine ⟨t1, t2, ?_⟩
            rw [mm.trees]
            refine Calls.callWith_builtin rfl (Calls.evalArgs_plain (Calls.spliced_cons (thn (hk.run pins s1 σ H1 _ I1 ⟨H0, F0, bo, ρ, F1, b1, R1, _, b2, e2, fun v2 F2 H2 g2 hb2 r2 => (⟨F2, g2, hb2, r2⟩ : ∃ F2, Grow bo F1 H1 F2 H2 ∧ BoxOk bo F2 H2 b2 ∧ RpO (pm X fn) bo F2 H2 k v2)⟩) fun iv s2 ⟨v2, H2, I2, ry, F2, g2, hb2, r2⟩ =>
              Calls.spliced_cons (thn (hx.run pins s2 σ H2 _ I2 ⟨H0, F0, bo, ρ, F2, b2, R1.grow g2 hb2, _, b3, e3, fun v3 F3 H3 g3 hb3 r3 => (⟨F3, g3, hb3, r3⟩ : ∃ F3, Grow bo F2 H2 F3 H3 ∧ BoxOk bo F3 H3 b3 ∧ Rp (pm X fn) bo F3 H3 x v3)⟩) fun fv s3 ⟨v3, H3, I3, rz, F3, g3, hb3, r3⟩ => Calls.spliced_nil ?_))))
            have r1' := (r1.grow R1.wo (g2.trans g3))
            obtain ⟨a', ea, gd3⟩ := r1'.dct
            cases ea
            have r2' := r2.grow (R1.grow g2 hb2).wo g3
            exact dd_get2 (by omega) I3 gd3 r2' ry r3 rz e4 fun v w' s' I' rw' rp => ⟨v, H3, I', rw', q v F3 H3 ((g1.trans g2).trans g3) hb3 rp⟩
        | _ => simp [e1, e2, e3, getD3] at e
/-! ### d[k] = v -/
theorem psx_dput {i : Nat} {tpos : Pos} (hu : X.A.units + 64 < cLine) (ho : PE X o (tVar i)) (hi : PEo fn X c g) (he : PEx fn X e f) (hs : swapsWith e (some (.Subscript o c tpos)) pos.line X.env = pure false := by rfl) :
    PSx fn X (.Assign [.Subscript o c tpos] e pos) (sDPut i g f) := by
  refine ⟨fun pins s σ H D I ⟨H0, F0, bo, ρ, F, b, R, fl, ρ', b', ee, q⟩ => ?_⟩
  unfold sDPut at ee
  cases e1 : f ρ b with
  | none => simp [e1] at ee
  | some p1 =>
    obtain ⟨d, b1⟩ := p1
    cases hρ : ρ[i]? with
    | none => simp [e1, hρ] at ee
    | some sl =>
      cases sl with
      | own dd =>
        cases dd with
        | dct kvs =>
          cases e2 : g ρ b1 with
          | none => simp [e1, hρ, e2] at ee
          | some p2 =>
            obtain ⟨k, b2⟩ := p2
            cases e3 : dPut kvs k d with
            | none => simp [e1, hρ, e2, e3] at ee
            | some kvs' =>
              simp only [e1, hρ, e2, e3, Option.some.injEq, Prod.mk.injEq] at ee
              obtain ⟨rfl, rfl, rfl⟩ := ee
              refine wpAny_Assign_Subscript (thn (he.run pins s σ H _ I ⟨H0, F0, bo, ρ, F, b, R, _, b1, e1, fun v1 F1 H1 g1 hb1 r1 => (⟨F1, g1, hb1, r1⟩ : ∃ F1, Grow bo F H F1 H1 ∧ BoxOk bo F1 H1 b1 ∧ Rp (pm X fn) bo F1 H1 d v1)⟩) fun r s1 ⟨v, H1, I1, rv, F1, g1, hb1, r1⟩ => ?_) hs
              have R1 := R.grow g1 hb1
              obtain ⟨a, h1, nf, nb, h0, ow⟩ := R1.own i _ hρ
              refine thn (ho.run pins s1 σ H1 (fun x H' => x = .ref a ∧ H' = H1) I1 ⟨_, h1, rfl, rfl⟩) fun u s2 ⟨x, H2, I2, rx, ex, eH⟩ => ?_
              subst ex eH
              obtain rfl : u = Value.ref a := rx
              refine thn (hi.run pins s2 σ _ _ I2 ⟨H0, F0, bo, ρ, F1, b1, R1, _, b2, e2, fun v2 F2 H2 g2 hb2 r2 => (⟨F2, g2, hb2, r2⟩ : ∃ F2, Grow bo F1 _ F2 H2 ∧ BoxOk bo F2 H2 b2 ∧ RpO (pm X fn) bo F2 H2 k v2)⟩) fun iv s3 ⟨y, H3, I3, ry, F2, g2, hb2, r2⟩ => ?_
              have R2 := R1.grow g2 hb2
              obtain ⟨a', h1', nf', nb', h0', ow'⟩ := R2.own i _ hρ
              rw [h1] at h1'; cases h1'
              have gd : DAt (pm X fn) bo F2 H3 kvs a := by
                rcases ow' with ⟨ws, q1, q2⟩ | ⟨es, q1, q2⟩
                · exact .k q1 q2
                · exact .t q1 q2
              refine dd_put (by omega) I3 gd r2 ry (r1.fk (R1.fkg g2)) rv e3 fun ob s4 hob I4 => ?_
              obtain ⟨R3, k3⟩ := R2.mut hρ h1 (d' := .dct kvs') (o := ob) hob
              exact ⟨σ, _, I4, q σ F2 _ R3 (((R.fkg g1).trans (R1.fkg g2)).trans k3)⟩
        | _ => simp [e1, hρ] at ee
      | _ => simp [e1, hρ] at ee
/-! ### displays -/
def RpP (m : Pm) (bo : Bo) (F : Addr → Prop) (H : Hp) : List (D × D) → List (V × V) → Prop
  | [], vs => vs = []
  | (k, d) :: r, vs => ∃ x y t, vs = (x, y) :: t ∧ Rp m bo F H k x ∧ Rp m bo F H d y ∧ RpP m bo F H r t
theorem RpP.fk {m : Pm} {bo : Bo} {F F' : Addr → Prop} {H H' : Hp} (kk : FK F H F' H') : ∀ {ps : List (D × D)} {vs : List (V × V)}, RpP m bo F H ps vs → RpP m bo F' H' ps vs
  | [], vs, h => h
  | (k, d) :: r, vs, h => by
    obtain ⟨x, y, t, e, h1, h2, h3⟩ := h
    exact ⟨x, y, t, e, h1.fk kk, h2.fk kk, RpP.fk kk h3⟩
structure PPx (fn : Nat → Option V) (X : Cx) (pos : Pos) (keys : List (Option Expr)) (values : List Expr) (g : Pas) : Prop where
  run : ∀ (pins : List (Addr × Obj)) (s : Shared) (σ : St) (H : Hp) (Q : List (V × V) → Hp → Prop) (H0 : Hp) (F0 : Addr → Prop) (bo : Bo) (ρ : Rho) (F : Addr → Prop) (b : Bx), Inv X pins σ H s → Rel (pm X fn) H0 F0 bo σ ρ F H b → ∀ ps b', g ρ b = some (ps, b') →
    (∀ vs F' H', Grow bo F H F' H' → BoxOk bo F' H' b' → RpP (pm X fn) bo F' H' ps vs → Q vs H') →
    wpAny (model X.prog X.w) X.A (evalPairs (pairTrees keys values X.env pos)) (fun us s' => ∃ vs H', Inv X pins σ H' s' ∧ VV vs us ∧ Q vs H') X.xe s
theorem ppx_nil : PPx fn X pos [] [] pNil := ⟨fun pins s σ H Q H0 F0 bo ρ F b I R ps b' e q => by
  cases e
  exact pairTrees_nil_walk ⟨[], H, I, .nil, q [] F H (Grow.refl R.core.dom) R.core.box rfl⟩⟩
theorem ppx_cons {ks : List (Option Expr)} {vs : List Expr} {ga : Pas} (hk : PEx fn X c g) (hv : PEx fn X e f) (hr : PPx fn X pos ks vs ga) : PPx fn X pos (some c :: ks) (e :: vs) (pCons g f ga) := ⟨fun pins s σ H Q H0 F0 bo ρ F b I R ps b' ee q => by
  unfold pCons at ee
  cases e1 : g ρ b with
  | none => simp [e1] at ee
  | some p1 =>
    obtain ⟨k, b1⟩ := p1
    cases e2 : f ρ b1 with
    | none => simp [e1, e2] at ee
    | some p2 =>
      obtain ⟨d, b2⟩ := p2
      cases e3 : ga ρ b2 with
      | none => simp [e1, e2, e3] at ee
      | some p3 =>
        obtain ⟨r, b3⟩ := p3
        simp only [e1, e2, e3, Option.some.injEq, Prod.mk.injEq] at ee
        obtain ⟨rfl, rfl⟩ := ee
        refine pairTrees_cons_walk (thn (hk.run pins s σ H _ I ⟨H0, F0, bo, ρ, F, b, R, _, b1, e1, fun v1 F1 H1 g1 hb1 r1 => (⟨F1, g1, hb1, r1⟩ : ∃ F1, Grow bo F H F1 H1 ∧ BoxOk bo F1 H1 b1 ∧ Rp (pm X fn) bo F1 H1 k v1)⟩) fun u s1 ⟨x, H1, I1, rx, F1, g1, hb1, r1⟩ =>
          thn (hv.run pins s1 σ H1 _ I1 ⟨H0, F0, bo, ρ, F1, b1, R.grow g1 hb1, _, b2, e2, fun v2 F2 H2 g2 hb2 r2 => (⟨F2, g2, hb2, r2⟩ : ∃ F2, Grow bo F1 H1 F2 H2 ∧ BoxOk bo F2 H2 b2 ∧ Rp (pm X fn) bo F2 H2 d v2)⟩) fun w2 s2 ⟨y, H2, I2, ry, F2, g2, hb2, r2⟩ =>
          thn (hr.run pins s2 σ H2 (fun vs H3 => Q ((x, y) :: vs) H3) H0 F0 bo ρ F2 b2 I2 ((R.grow g1 hb1).grow g2 hb2) r b3 e3 fun vs F3 H3 g3 hb3 r3 => ?_) fun ws s3 ⟨vs, H3, I3, rel, q3⟩ => ⟨(x, y) :: vs, H3, I3, .cons ⟨rx, ry⟩ rel, q3⟩)
        have R1 := R.grow g1 hb1
        have R2 := R1.grow g2 hb2
        exact q _ F3 H3 ((g1.trans g2).trans g3) hb3 ⟨x, y, vs, rfl, (r1.fk (R1.fkg g2)).fk (R2.fkg g3), r2.fk (R2.fkg g3), r3⟩⟩
theorem stores {pins : List (Addr × Obj)} {σ : St} {bo : Bo} {F : Addr → Prop} {a : Addr} {E : Value → Shared → Prop} {A : Around} (hu : A.units + 10 < cLine) (nf : ¬ F a) : ∀ (ps : List (D × D)) (vs : List (V × V)) (us : List (Value × Value)) (kvs kvs' : List (D × D)) (s : Shared) (H : Hp) (Q : PUnit → Shared → Prop),
    Inv X pins σ H s → Own (pm X fn) bo F H (.dct kvs) a → RpP (pm X fn) bo F H ps vs → VV vs us → putAll kvs ps = some kvs' →
    (∀ H' s', Inv X pins σ H' s' → Own (pm X fn) bo F H' (.dct kvs') a → (∀ x, x ≠ a → H' x = H x) → Q PUnit.unit s') → wpAny (model X.prog X.w) A (storeAll a us) Q E s := by
  intro ps
  induction ps with
  | nil =>
    intro vs us kvs kvs' s H Q I ow r rv e h
    obtain rfl : vs = [] := r
    cases rv
    cases e
    unfold storeAll
    rw [List.forIn_nil]
    exact wpAny_pure (h H s I ow fun _ _ => rfl)
  | cons kd ps ih =>
    intro vs us kvs kvs' s H Q I ow r rv e h
    obtain ⟨k, d⟩ := kd
    obtain ⟨x, y, t, rfl, h1, h2, h3⟩ := r
    cases rv with
    | cons rxy rt =>
      rename_i uv ut
      obtain ⟨ux, uy⟩ := uv
      cases e3 : dPut kvs k d with
      | none => simp [putAll, e3] at e
      | some kvs1 =>
        simp only [putAll, e3] at e
        have gd : DAt (pm X fn) bo F H kvs a := by
          rcases ow with ⟨ws, q1, q2⟩ | ⟨es, q1, q2⟩
          · exact .k q1 q2
          · exact .t q1 q2
        unfold storeAll
        rw [List.forIn_cons]
        refine wpAny_bind (wpAny_bind (dd_dset hu I gd (.inl h1) rxy.1 h2 rxy.2 e3 fun ob s1 hob I1 => wpAny_pure ?_))
        have kk : FK F H F (L2.upd H a ob) := FK.upd nf fun u hu' => by
          obtain ⟨o, q, m⟩ := ow.some
          rw [hu'] at q; cases q; exact m
        exact ih t ut kvs1 kvs' s1 _ Q I1 (hob kk) (h3.fk kk) rt e fun H' s' I' ow' same => h H' s' I' ow' fun x hx => (same x hx).trans (upd_ne hx)
theorem pn_disp {keys : List (Option Expr)} {values : List Expr} {ga : Pas} (tk : Bool) (hu : X.A.units + 64 < cLine) (hp : PPx fn X pos keys values ga) (hall : keys.all (·.isSome) = true := by rfl) (hl : keys.length = values.length := by rfl) (h0 : keys ≠ [] := by simp) (h15 : keys.length ≤ 15 := by decide) :
    PEn fn X (.Dict keys values pos) (eDisp tk ga) := by
  refine ⟨fun pins s σ H Q I ⟨H0, F0, bo, ρ, F, b, R, r, b', e, q⟩ => ?_⟩
  unfold eDisp at e
  cases e1 : ga ρ b with
  | none => simp [e1] at e
  | some p1 =>
    obtain ⟨ps, b1⟩ := p1
    cases e2 : putAll (if tk = true then [t0] else []) ps with
    | none => simp [e1, e2] at e
    | some kvs =>
      simp only [e1, e2, Option.some.injEq, Prod.mk.injEq] at e
      obtain ⟨rfl, rfl⟩ := e
      have hn := I.hok.fresh (Nat.le_refl s.heap.objs.size)
      obtain ⟨o, g1, hb1, nf, ow, I1⟩ : ∃ o : HO, Grow bo F H F (upd H s.heap.objs.size o) ∧ BoxOk bo F (upd H s.heap.objs.size o) b ∧ ¬ F s.heap.objs.size ∧ Own (pm X fn) bo F (upd H s.heap.objs.size o) (.dct (if tk = true then [t0] else [])) s.heap.objs.size ∧ Inv X pins σ (upd H s.heap.objs.size o) { s with heap := s.heap.push { cls := .type "dict", data := .dict #[] } } := by
        cases tk with
        | false =>
          obtain ⟨g, hb, nf, ow⟩ := new_dK (m := pm X fn) R.wo hn
          exact ⟨_, g, hb, nf, ow, I.laid (a := s.heap.objs.size) (t' := s.toks) (fun _ _ q => Heap.get?_push_of_some _ q) (Nat.le_refl _) (dk_empty s.heap I.big)⟩
        | true =>
          obtain ⟨g, hb, nf, ow⟩ := new_dT (m := pm X fn) R.wo hn
          exact ⟨_, g, hb, nf, ow, I.laid (a := s.heap.objs.size) (t' := s.toks) (fun _ _ q => Heap.get?_push_of_some _ q) (Nat.le_refl _) (dicT_empty rfl rfl s.heap I.big)⟩
      have R1 := R.grow g1 hb1
      refine wpAny_Dict_any hall hl h0 h15 (thn (hp.run pins _ σ _ (fun vs H2 => ∃ F2, Grow bo F (upd H s.heap.objs.size o) F2 H2 ∧ BoxOk bo F2 H2 b1 ∧ RpP (pm X fn) bo F2 H2 ps vs) H0 F0 bo ρ F b I1 R1 ps b1 e1 fun vs F2 H2 g2 hb2 r2 => ⟨F2, g2, hb2, r2⟩) fun us s2 ⟨vs, H2, I2, rel, F2, g2, hb2, r2⟩ => ?_)
      have nb : ¬ inBox bo s.heap.objs.size := inBox_new R.wo hn
      have ow2 : Own (pm X fn) bo F2 H2 (.dct (if tk = true then [t0] else [])) s.heap.objs.size := ow.fk (R1.fkg g2) ((g2.keep _ _ upd_same nb).trans upd_same.symm)
      have nf2 : ¬ F2 s.heap.objs.size := fun z => by
        rcases g2.new _ z with z | z
        · exact nf z
        · rw [upd_same] at z; cases z
      refine stores (by omega) nf2 ps vs us _ kvs s2 H2 _ I2 ow2 r2 rel e2 fun H' s' I' ow' same => ⟨.ref s.heap.objs.size, H', I', rfl, ?_⟩
      have at2 : H2 s.heap.objs.size = some o := g2.keep _ _ upd_same nb
      obtain ⟨u', hu', mu'⟩ := ow'.some
      refine q _ F2 H' ⟨fun x v hx hnb => ?_, fun x hx => ?_, fun x hx => g2.sub x (g1.sub x hx), fun x hx => ?_, fun x hx => ?_⟩ ?_ hn nf2 ow'
      · have nx : x ≠ s.heap.objs.size := ne_of_none hx hn
        rw [same x nx]
        exact g2.keep x v (by rw [upd_ne nx]; exact hx) hnb
      · by_cases ex : x = s.heap.objs.size
        · rw [ex]; exact hn
        · rw [same x ex] at hx
          have := g2.free x hx
          rwa [upd_ne ex] at this
      · rcases g2.new x hx with z | z
        · exact .inl z
        · by_cases ex : x = s.heap.objs.size
          · exact .inr (by rw [ex]; exact hn)
          · rw [upd_ne ex] at z; exact .inr z
      · by_cases ex : x = s.heap.objs.size
        · rw [ex, hu']; exact fun z => nomatch z
        · rw [same x ex]; exact g2.dom x hx
      · have hbb := hb2
        match bo, hbb, nb with
        | none, _, _ => trivial
        | some (x, y), ⟨z1, z2, z3, z4, z5⟩, nb =>
          exact ⟨z1, z2, z3, by rw [same x fun e => nb (.inl e.symm)]; exact z4, by rw [same y fun e => nb (.inr e.symm)]; exact z5⟩
/-! ### len(set(xs)) -/
theorem firstMet_dd (ns : List Int) : PyProof.Rows.firstMet (fun i => ns.getD i 0) ns.length = ddI ns := by
  unfold PyProof.Rows.firstMet ddI
  congr 1
  apply List.ext_getElem
  · simp
  · intro k h1 h2
    simp only [List.length_map, List.length_range] at h1
    simp [List.getElem?_eq_getElem h1]
theorem ddI_go : ∀ (ns acc : List Int), acc.Nodup → (ns.foldl (fun acc x => if acc.any (· == x) then acc else acc ++ [x]) acc).Nodup ∧ ∀ k, k ∈ ns.foldl (fun acc x => if acc.any (· == x) then acc else acc ++ [x]) acc ↔ k ∈ acc ∨ k ∈ ns
  | [], acc, h => ⟨h, fun k => by simp⟩
  | x :: ns, acc, h => by
    rw [List.foldl_cons]
    by_cases hx : x ∈ acc
    · have e : acc.any (· == x) = true := List.any_eq_true.mpr ⟨x, hx, by simp⟩
      rw [if_pos e]
      obtain ⟨h1, h2⟩ := ddI_go ns acc h
      refine ⟨h1, fun k => ?_⟩
      rw [h2]
      constructor
      · rintro (z | z)
        · exact .inl z
        · exact .inr (List.mem_cons_of_mem _ z)
      · rintro (z | z)
        · exact .inl z
        · rcases List.mem_cons.mp z with z | z
          · exact .inl (z ▸ hx)
          · exact .inr z
    · have e : acc.any (· == x) = false := by
        cases q : acc.any (· == x) with
        | false => rfl
        | true =>
          obtain ⟨y, hy, e⟩ := List.any_eq_true.mp q
          exact absurd (eq_of_beq e ▸ hy) hx
      rw [if_neg (by rw [e]; decide)]
      have nd : (acc ++ [x]).Nodup := by
        rw [List.nodup_append]
        exact ⟨h, by simp, fun a ha b hb => by simp at hb; subst hb; exact fun z => hx (z ▸ ha)⟩
      obtain ⟨h1, h2⟩ := ddI_go ns _ nd
      refine ⟨h1, fun k => ?_⟩
      rw [h2, List.mem_append, List.mem_singleton, List.mem_cons]
      constructor
      · rintro ((z | z) | z)
        · exact .inl z
        · exact .inr (.inl z)
        · exact .inr (.inr z)
      · rintro (z | z | z)
        · exact .inl (.inl z)
        · exact .inl (.inr z)
        · exact .inr z
theorem ddI_nodup (ns : List Int) : (ddI ns).Nodup := (ddI_go ns [] List.nodup_nil).1
theorem ddI_mem (ns : List Int) (k : Int) : k ∈ ddI ns ↔ k ∈ ns := by
  have := (ddI_go ns [] List.nodup_nil).2 k
  simpa [ddI] using this
open PySem.Spec PyProof.Rows in
theorem px_lenset {a : Expr} {q : Pos} (hg : Gl X "len") (hm : X.mg "len" = none) (hg2 : Gl X "set") (hm2 : X.mg "set" = none) (ha : PEo fn X a f) (hc : X.calm = true := by rfl)
    (na : starEach [a] X.env = (false, eval a X.env) :: starEach [] X.env := by rfl) : PEx fn X (.Call (.Name "len" p) [.Call (.Name "set" p2) [a] [] q] [] pos) (eFn lenSetD (aCons f aNil)) := by
  refine ⟨fun pins s σ H Q I ⟨H0, F0, bo, ρ, F, b, R, r, b', e, k⟩ => ?_⟩
  unfold eFn aCons aNil at e
  cases e1 : f ρ b with
  | none => simp [e1] at e
  | some p1 =>
    obtain ⟨d, b1⟩ := p1
    simp only [e1] at e
    refine Call_ (ld_blt I hg hm PySem.boot_len ?_)
    refine PyProof.Rows.callWith_builtin1 (PyProof.Rows.args_cons ?_ rfl) rfl rfl
    refine Call_ (ld_blt I hg2 hm2 PyProof.Rows.boot_set ?_)
    refine PyProof.Rows.callWith_type1 (PyProof.Rows.args_cons (thn (ha.run pins s σ H _ I ⟨H0, F0, bo, ρ, F, b, R, _, b1, e1, fun v1 F1 H1 g1 hb1 r1 => (⟨F1, g1, hb1, r1⟩ : ∃ F1, Grow bo F H F1 H1 ∧ BoxOk bo F1 H1 b1 ∧ RpO (pm X fn) bo F1 H1 d v1)⟩) fun v s1 ⟨x, H1, I1, rx, F1, g1, hb1, r1⟩ => PyProof.Rows.args_nil ?_) na) na rfl
    have fin : ∀ (ns : List Int) (h' : Heap) (tk : Nat), ns.length ≤ 4000 → r = .int (ddI ns).length → b1 = b' → h'.SetOf (intKind X.prog X.w) s1.heap.objs.size (fun k' => (ddI ns).any (· == k')) (ddI ns).length → (ddI ns).length ≤ 4000 → (∀ b o, b < s1.heap.objs.size → s1.heap.get? b = some o → h'.get? b = some o) →
        wpAny (model X.prog X.w) X.A (spliced (backTo pos (starEach [] X.env))) (fun vs s₂ => wpAny (model X.prog X.w) X.A (call (.builtin "len") (Value.ref s1.heap.objs.size :: vs)) (EP X pins σ Q) X.xe s₂) X.xe { s1 with heap := h', toks := tk } := fun ns h' tk hn er eb hS hl hk => by
      subst er eb
      refine PyProof.Rows.args_nil ?_
      obtain ⟨o, es, ep, t, ho, hex, hd, _, _, _, hf, hn'⟩ := hS
      have I2 : Inv X pins σ H1 { s1 with heap := h', toks := tk } := I1.kept fun b o e => hk b o (Heap.lt_size e) e
      exact call_len_set ho hex hd hf (by rw [hn']; omega) ⟨.int (ddI ns).length, H1, I2.tok _, ⟨_, by rw [hn']⟩, k _ F1 H1 g1 hb1 (by simp [Rp])⟩
    have dl : ∀ ns : List Int, (ddI ns).length ≤ ns.length := fun ns => by
      rw [← firstMet_dd]; exact PyProof.Rows.firstMet_length_le _ _
    unfold lenSetD at e
    split at e
    · rename_i er
      simp only [Option.some.injEq, Prod.mk.injEq] at e
      obtain ⟨rfl, rfl⟩ := e
      split at er
      · rename_i xs exs
        cases exs
        split at er
        · rename_i hl
          cases hi : intsD xs with
          | none => rw [hi] at er; cases er
          | some ns =>
            rw [hi] at er; cases er
            obtain ⟨l, vs, rfl, s1', z1, r1'⟩ := r1.lst
            rw [intsD_map hi] at r1'
            have hlen : ns.length = xs.length := by rw [intsD_map hi, List.length_map]
            have := r1'.ints
            subst this
            cases rx
            obtain ⟨its, rv, pl, hz⟩ := I1.list (SqL.of s1')
            have hl2 : its.toArray.size = ns.length := by rw [List.size_toArray, ← rv.length, List.length_map]
            refine call_set_list (I1.ok.hd hc) pl.isList (ns := ns) (by simpa using rv.ints) (by unfold scanBound; omega) fun h' tk hS hk => ?_
            rw [hl2, firstMet_dd] at hS
            exact fin ns h' tk (by omega) rfl rfl hS (by have := dl ns; omega) hk
        · cases er
      · rename_i xs exs
        cases exs
        split at er
        · rename_i hl
          cases hi : intsD xs with
          | none => rw [hi] at er; cases er
          | some ns =>
            rw [hi] at er; cases er
            obtain ⟨l, vs, rfl, s1', z1, r1'⟩ := r1.tup
            rw [intsD_map hi] at r1'
            have hlen : ns.length = xs.length := by rw [intsD_map hi, List.length_map]
            have := r1'.ints
            subst this
            cases rx
            obtain ⟨its, rv, pl, hz⟩ := I1.tuple s1'
            refine call_set_tupI (P := X.prog) (w := X.w) ns (I1.ok.hd hc) pl (by simpa using rv.ints) (by unfold scanBound; omega) fun h' tk c hS hcl hk => ?_
            obtain ⟨o, es, ep, t, ho, hx, hd, g, nd, hm', hb, hf, hn, _⟩ := id hS
            have hlen2 : c = (ddI ns).length := by
              have pm : (es.toList.map keyOf).Perm (ddI ns) := (List.perm_ext_iff_of_nodup nd (ddI_nodup ns)).mpr fun k => by
                rw [← hm', ddI_mem, decide_eq_true_iff]
              have := pm.length_eq
              rw [List.length_map, Array.length_toList] at this
              omega
            subst hlen2
            have hS2 := (hS.setOf (P := X.prog))
            have eS : (fun j => decide (j ∈ ns)) = fun k' => (ddI ns).any (· == k') := funext fun j => by
              rw [Bool.eq_iff_iff, decide_eq_true_iff, List.any_eq_true]
              constructor
              · exact fun h => ⟨j, (ddI_mem ns j).mpr h, by simp⟩
              · rintro ⟨y, hy, e⟩
                exact eq_of_beq e ▸ (ddI_mem ns y).mp hy
            rw [eS] at hS2
            exact fin ns h' tk (by omega) rfl rfl hS2 (by have := dl ns; omega) fun b o _ e => hk b o e
        · cases er
      · cases er
    · cases e
/-! ### several targets, some of them places of a list -/
def tQs (m : Pm) (qs : List Tq) : TGs := fun vs σ H Q => ∃ H0 F0 bo ρ F b, Rel m H0 F0 bo σ ρ F H b ∧ ∃ ds ρ' b', RpL m bo F H ds vs ∧ qAll qs ds ρ b = some (ρ', b') ∧ ∀ σ' F' H', Rel m H0 F0 bo σ' ρ' F' H' b' → FK F H F' H' → Q σ' H'
theorem pqs_nil : PGs X [] (tQs (pm X fn) []) := PGs.imp pgs_nil fun vs σ H Q ⟨H0, F0, bo, ρ, F, b, R, ds, ρ', b', r, e, q⟩ => by
  cases ds with
  | nil =>
    simp only [RpL] at r
    simp only [qAll, Option.some.injEq, Prod.mk.injEq] at e
    obtain ⟨rfl, rfl⟩ := e
    exact ⟨r, q σ F H R (FK.refl _ _)⟩
  | cons _ _ => simp [qAll] at e
theorem pqs_nm {i : Nat} {qs : List Tq} {es : List Expr} {x : Str} {px : Pos} (hN : X.N.Nodup) (hi : X.N[i]? = some x) (hx : Loc X.env.scope x) (h2 : PGs X es (tQs (pm X fn) qs)) (hf : X.fn x = true ∨ X.env.scope.names.lookup x = some .local := by first | exact .inl rfl | exact .inr rfl | assumption)
    (hs : (assignEach (.Name x px :: es) X.env).map (·.2) = assign (.Name x px) X.env :: (assignEach es X.env).map (·.2) := by rfl) : PGs X (.Name x px :: es) (tQs (pm X fn) (qNm i :: qs)) := PGs.imp (pgs_cons (pg_name hN hi hx hf) h2 hs) fun vs σ H Q ⟨H0, F0, bo, ρ, F, b, R, ds, ρ', b', r, e, q⟩ => by
  cases ds with
  | nil => simp [qAll] at e
  | cons d ds =>
    simp only [RpL] at r
    obtain ⟨v, t, rfl, r1, r2⟩ := r
    simp only [qAll, qNm] at e
    exact ⟨v, t, rfl, H0, F0, bo, _, F, b, R.set_frz r1, ds, ρ', b', r2, e, q⟩
theorem pqs_st {i : Nat} {qs : List Tq} {es : List Expr} {tpos : Pos} (ho : PE X o (tVar i)) (hi : PEx fn X c g) (h2 : PGs X es (tQs (pm X fn) qs))
    (ha : ∀ v, assign (.Subscript o c tpos) X.env v = (do
      let ov ← holding [v] (eval o X.env)
      let iv ← holding [v, ov] (eval c X.env)
      standAt tpos
      holding [v, ov, iv] (setItem ov iv v)
      release [v, ov, iv] []) := by intro _; rfl)
    (hs : (assignEach (.Subscript o c tpos :: es) X.env).map (·.2) = assign (.Subscript o c tpos) X.env :: (assignEach es X.env).map (·.2) := by rfl) : PGs X (.Subscript o c tpos :: es) (tQs (pm X fn) (qSt i g :: qs)) := PGs.imp (pgs_cons (pg_sub ho hi set_list ha) h2 hs) fun vs σ H Q ⟨H0, F0, bo, ρ, F, b, R, ds, ρ', b', r, e, q⟩ => by
  cases ds with
  | nil => simp [qAll] at e
  | cons d ds =>
    simp only [RpL] at r
    obtain ⟨v, t, rfl, r1, r2⟩ := r
    unfold qAll at e
    split at e
    · rename_i ρ1 b1 eq
      unfold qSt at eq
      split at eq
      · rename_i xs hρ
        split at eq
        · rename_i k b2 e2
          split at eq
          · rename_i j hj
            simp only [Option.some.injEq, Prod.mk.injEq] at eq
            obtain ⟨rfl, rfl⟩ := eq
            obtain ⟨a, h1, nf, nb, h0, us, hu, hz, ru⟩ := R.own i _ hρ
            refine ⟨v, t, rfl, _, h1, H0, F0, bo, ρ, F, b, R, .int k, _, e2, fun iv F2 H2 g2 hb2 r3 => ?_⟩
            simp only [Rp] at r3
            have R2 := R.grow g2 hb2
            obtain ⟨a', h1', nf', nb', h0', us, hu, hz, ru⟩ := R2.own i _ hρ
            rw [h1] at h1'; cases h1'
            refine ⟨a, us, k, j, rfl, r3, hu, by rw [ru.length]; exact hj, ?_⟩
            obtain ⟨R3, k3⟩ := R2.mut hρ h1 (d' := .lst (xs.set j d)) (o := .lst (us.set j v)) fun k3 => ⟨_, upd_same, by simpa using hz, (ru.set j (r1.fk (R.fkg g2))).fk k3⟩
            exact ⟨H0, F0, bo, _, F2, _, R3, ds, ρ', b', (r2.fk (R.fkg g2)).fk k3, e, fun σ' F' H' R' k' => q σ' F' H' R' (((R.fkg g2).trans k3).trans k')⟩
          · cases eq
        · cases eq
      · cases eq
    · cases e
theorem psx_parQ {ts es : List Expr} {qs : List Tq} {k : As} {k1 k2 : Nat} {pt pt2 : Pos} (hc : X.calm = true) (ha : PAs fn X es k) (hg : PGs X ts (tQs (pm X fn) qs)) (he : es.length = ts.length := by rfl) (hl : es.length ≤ 1000 := by decide)
    (hs : swapsWithSole [.Tuple ts k1 pt] (.Tuple es k2 pt2) pos.line X.env = pure false := by rfl) (hw : swappedStores [.Tuple ts k1 pt] (.Tuple es k2 pt2) X.env = pure none := by rfl)
    (h1 : (assignEach [.Tuple ts k1 pt] X.env).map (·.2) = [assign (.Tuple ts k1 pt) X.env] := by rfl) (hn : (assignEach ts X.env).length = ts.length := by rfl) (hst : (assignEach ts X.env).findIdx? (·.1) = none := by rfl) :
    PSx fn X (.Assign [.Tuple ts k1 pt] (.Tuple es k2 pt2) pos) (sPq k qs) := PS.imp (ps_asg (pe_tup ha.pa) (pg_tup hc hg hn hst) hs hw h1) fun D σ H h => by
  obtain ⟨H0, F0, bo, ρ, F, b, R, fl, ρ', b', e, q⟩ := h
  unfold sPq at e
  split at e
  · rename_i ds b1 e1
    split at e
    · rename_i ρ1 b2 e2
      cases e
      refine ⟨H0, F0, bo, ρ, F, b, R, ds, _, e1, fun v F1 H1 g1 hb1 r => ?_⟩
      have hz : v.length = es.length := by rw [r.length]; exact ha.len _ _ _ _ e1
      refine ⟨by rw [hz, sizeLine_eq]; omega, fun p hp => ?_⟩
      have R1 := R.grow g1 hb1
      have g2 : Grow bo F1 H1 F1 (upd H1 p (.tup v)) := Grow.alloc R1.wo hp
      have hb2 : BoxOk bo F1 (upd H1 p (.tup v)) _ := BoxOk.alloc R1.wo hp fun _ h => .inl h
      have R2 := R1.grow g2 hb2
      exact ⟨p, v, rfl, SqT.of upd_same, by rw [hz, he], H0, F0, bo, ρ, F1, b1, R2, ds, _, _, r.fk (R1.fkg g2), e2, fun σ' F' H' R' k' => q σ' F' H' R' (((R.fkg g1).trans (R1.fkg g2)).trans k')⟩
    · cases e
  · cases e
end
end Sv

namespace K82
open Sv
abbrev s_is_number : SS := sRet (eAnd (eUn (fun d => (isT d .int).map .bl) (eBor 0)) (eAnd (eNot (eUn (fun d => (isT d .bool).map .bl) (eBor 0))) (eChain opLe opLe (eBor 1) (eBor 0) (eBor 2))))
def f_is_number : Fn := runF 3 s_is_number
abbrev s_are_wishes : SS := sSeq (sIf (tOr (tNot (tOf (eUn (fun d => (isT d .tuple).map .bl) (eBor 0)))) (tNot (tBl (eChain opLe opLe (eCon (.int 1)) (eFn lenD (aCons (eBor 0) aNil)) (eCon (.int 24)))))) (sRet (eCon (.bl false))) (sNx)) (sSeq (sIf (tNot (tOf (eFn allD (aCons (eLc (iSeq (eBor 0)) (gNm 2) (tYes') (eOr (eBin opIsN2 (eBor 2) (eCon .non)) (eCall f_is_number (aCons (eVar 2) (aCons (eUn opNeg (eCon (.int 1))) (aCons (eBin opSub (eFn lenD (aCons (eBor 0) aNil)) (eCon (.int 1))) (aNil)))))) [2]) aNil)))) (sRet (eCon (.bl false))) (sNx)) (sSeq (sSet 1 (eLc (iSeq (eBor 0)) (gNm 2) (tAnd (tBl (eBin opNotN2 (eBor 2) (eCon .non))) (tBl (eBin opGe (eBor 2) (eCon (.int 0))))) (eVar 2) [2])) (sRet (eBin opEq (eFn lenSetD (aCons (eBor 1) aNil)) (eFn lenD (aCons (eBor 1) aNil))))))
def f_are_wishes : Fn := runF 3 s_are_wishes
abbrev s_movers : SS := sRet (eLc (iEnum (eVar 0)) (gTp (gMore (gNm 1) (gMore (gNm 2) (gNone)))) (tAnd (tBl (eBin opNotN2 (eBor 2) (eCon .non))) (tBl (eBin opNe (eBor 2) (eBor 1)))) (eVar 1) [1, 2])
def f_movers : Fn := runF 3 s_movers
abbrev s_behind_going : SS := sSeq (sNew 2 (eFn listD (aCons (eBor 0) aNil))) (sSeq (sSet 3 (eBin ixD (eBor 2) (eVar 1))) (sSeq (sStore 2 (eVar 1) (eCon .non)) (sSeq (sIf (tBl (eBin opGe (eBor 3) (eCon (.int 0)))) (sStore 2 (eVar 3) (eVar 3)) (sNx)) (sRet (eFn tupleD (aCons (eBor 2) aNil))))))
def f_behind_going : Fn := runF 4 s_behind_going
abbrev s_can_go : SS := sSeq (sSet 2 (eBin ixD (eBor 0) (eVar 1))) (sRet (eAnd (eBin opNotN2 (eBor 2) (eCon .non)) (eAnd (eBin opNe (eBor 2) (eBor 1)) (eOr (eBin opLt (eBor 2) (eCon (.int 0))) (eBin opIsN2 (eBin ixD (eBor 0) (eVar 2)) (eCon .non))))))
def f_can_go : Fn := runF 3 s_can_go
abbrev s_rings_of : SS := sSeq (sNew 1 (eLst (aNil))) (sSeq (sFor (iSeq (eCall f_movers (aCons (eVar 0) (aNil)))) (gNm 2) (sSeq (sPar [3, 4] (kNew (eLst (aCons (eVar 2) (aNil))) (kFrz (eBin ixD (eBor 0) (eVar 2)) (kNil)))) (sSeq (sWh (tAnd (tBl (eBin opNotN2 (eBor 4) (eCon .non))) (tAnd (tBl (eBin opGt (eBor 4) (eBor 2))) (tBl (eBin opNotIn (eBor 4) (eBor 3))))) (sSeq (sExprM (mMeth 3 kApp (mOne (mUp (eVar 4))))) (sSet 4 (eBin ixD (eBor 0) (eVar 4))))) (sIf (tBl (eBin opEq (eBor 4) (eBor 2))) (sExprM (mMeth 1 kApp (mOne (mUp (eFn tupleD (aCons (eBor 3) aNil)))))) (sNx))))) (sRet (eFn tupleD (aCons (eBor 1) aNil))))
def f_rings_of : Fn := runF 5 s_rings_of
abbrev s_going : SS := sSeq (sSet 1 (eCall f_rings_of (aCons (eVar 0) (aNil)))) (sSeq (sIf (tOf (eBor 1)) (sRet (eTup (aCons (eCon (.str "rings")) (aCons (eVar 1) (aNil))))) (sNx)) (sSeq (sPar [2, 3] (kNew (eLst (aNil)) (kFrz (eVar 0) (kNil)))) (sSeq (sWh (tOf (eCall f_movers (aCons (eVar 3) (aNil)))) (sSeq (sSet 4 (eBin ixD (eLc (iSeq (eCall f_movers (aCons (eVar 3) (aNil)))) (gNm 4) (tOf (eCall f_can_go (aCons (eVar 3) (aCons (eVar 4) (aNil))))) (eVar 4) [4]) (eCon (.int 0)))) (sSeq (sExprM (mMeth 2 kApp (mOne (mUp (eVar 4))))) (sSet 3 (eCall f_behind_going (aCons (eVar 3) (aCons (eVar 4) (aNil)))))))) (sRet (eTup (aCons (eCon (.str "order")) (aCons (eFn tupleD (aCons (eBor 2) aNil)) (aNil))))))))
def f_going : Fn := runF 5 s_going
abbrev s_is_going : SS := sSeq (sIf (tOr (tNot (tOf (eUn (fun d => (isT d .tuple).map .bl) (eBor 1)))) (tNot (tOf (eFn allD (aCons (eLc (iSeq (eBor 1)) (gNm 3) (tYes') (eCall f_is_number (aCons (eVar 3) (aCons (eCon (.int 0)) (aCons (eBin opSub (eFn lenD (aCons (eBor 0) aNil)) (eCon (.int 1))) (aNil))))) [3]) aNil))))) (sRet (eCon (.bl false))) (sNx)) (sSeq (sSet 2 (eVar 0)) (sSeq (sFor (iSeq (eVar 1)) (gNm 3) (sSeq (sIf (tNot (tOf (eCall f_can_go (aCons (eVar 2) (aCons (eVar 3) (aNil)))))) (sRet (eCon (.bl false))) (sNx)) (sSet 2 (eCall f_behind_going (aCons (eVar 2) (aCons (eVar 3) (aNil))))))) (sRet (eNot (eCall f_movers (aCons (eVar 2) (aNil)))))))
def f_is_going : Fn := runF 4 s_is_going
abbrev s_is_ring : SS := sSeq (sIf (tOr (tNot (tOf (eUn (fun d => (isT d .tuple).map .bl) (eBor 1)))) (tBl (eBin opLt (eFn lenD (aCons (eBor 1) aNil)) (eCon (.int 2))))) (sRet (eCon (.bl false))) (sNx)) (sSeq (sIf (tNot (tOf (eFn allD (aCons (eLc (iSeq (eBor 1)) (gNm 3) (tYes') (eCall f_is_number (aCons (eVar 3) (aCons (eCon (.int 0)) (aCons (eBin opSub (eFn lenD (aCons (eBor 0) aNil)) (eCon (.int 1))) (aNil))))) [3]) aNil)))) (sRet (eCon (.bl false))) (sNx)) (sSeq (sIf (tOr (tBl (eBin opNe (eFn lenSetD (aCons (eBor 1) aNil)) (eFn lenD (aCons (eBor 1) aNil)))) (tBl (eBin opNe (eBin ixD (eBor 1) (eCon (.int 0))) (eFn minLD (aCons (eBor 1) aNil))))) (sRet (eCon (.bl false))) (sNx)) (sRet (eFn allD (aCons (eLc (iRange (aCons (eFn lenD (aCons (eBor 1) aNil)) (aNil))) (gNm 2) (tYes') (eBin opEq (eBin ixD (eBor 0) (eBin ixD (eBor 1) (eVar 2))) (eBin ixD (eBor 1) (eBin opMod (eBin opAdd (eBor 2) (eCon (.int 1))) (eFn lenD (aCons (eBor 1) aNil))))) [2]) aNil)))))
def f_is_ring : Fn := runF 4 s_is_ring
abbrev s_least_goings : SS := sSeq (sSet 1 (eCall f_rings_of (aCons (eVar 0) (aNil)))) (sSeq (sIf (tAnd (tOf (eBor 1)) (tAnd (tBl (eBin opNotIn (eCon .non) (eBor 0))) (tBl (eBin opNotIn (eUn opNeg (eCon (.int 1))) (eBor 0))))) (sRet (eCon .non)) (sNx)) (sRet (eBin opAdd (eFn lenD (aCons (eCall f_movers (aCons (eVar 0) (aNil))) aNil)) (eFn lenD (aCons (eBor 1) aNil)))))
def f_least_goings : Fn := runF 2 s_least_goings
abbrev s_law_same (rec : Fn) : SS := sSeq (sIf (tOr (tAnd (tOf (eUn (fun d => (isT d .tuple).map .bl) (eBor 0))) (tOf (eUn (fun d => (isT d .tuple).map .bl) (eBor 1)))) (tAnd (tOf (eUn (fun d => (isT d .list).map .bl) (eBor 0))) (tOf (eUn (fun d => (isT d .list).map .bl) (eBor 1))))) (sRet (eAnd (eBin opEq (eFn lenD (aCons (eBor 0) aNil)) (eFn lenD (aCons (eBor 1) aNil))) (eFn allD (aCons (eLc (iRange (aCons (eFn lenD (aCons (eBor 0) aNil)) (aNil))) (gNm 2) (tYes') (eCall rec (aCons (eBin ixD (eBor 0) (eVar 2)) (aCons (eBin ixD (eBor 1) (eVar 2)) (aNil)))) [2]) aNil)))) (sNx)) (sSeq (sIf (tOr (tOf (eUn (fun d => (isT d .bool).map .bl) (eBor 0))) (tOf (eUn (fun d => (isT d .bool).map .bl) (eBor 1)))) (sRet (eAnd (eUn (fun d => (isT d .bool).map .bl) (eBor 0)) (eAnd (eUn (fun d => (isT d .bool).map .bl) (eBor 1)) (eBin opEq (eBor 0) (eBor 1))))) (sNx)) (sSeq (sIf (tOr (tAnd (tOf (eUn (fun d => (isT d .int).map .bl) (eBor 0))) (tOf (eUn (fun d => (isT d .int).map .bl) (eBor 1)))) (tAnd (tOf (eUn (fun d => (isT d .str).map .bl) (eBor 0))) (tOf (eUn (fun d => (isT d .str).map .bl) (eBor 1))))) (sRet (eBin opEq (eBor 0) (eBor 1))) (sNx)) (sRet (eAnd (eBin opIsN2 (eBor 0) (eCon .non)) (eBin opIsN2 (eBor 1) (eCon .non))))))
def f_law_same : Nat → Fn
  | 0 => noFn
  | n + 1 => runF 3 (s_law_same (f_law_same n))
abbrev s_law_wishes : SS := sSeq (sPar [2, 3] (kNew (eFn rlD (aCons (eVar 1) (aNil))) (kNew (eLst (aNil)) (kNil)))) (sSeq (sFor (iRange (aCons (eVar 1) (aNil))) (gNm 4) (sSeq (sSet 5 (eCall drawF (aCons (eVar 0) (aCons (eCon (.int 8)) (aNil))))) (sIf (tBl (eBin opEq (eBor 5) (eCon (.int 0)))) (sExprM (mMeth 3 kApp (mOne (mUp (eCon .non))))) (sIf (tBl (eBin opEq (eBor 5) (eCon (.int 1)))) (sExprM (mMeth 3 kApp (mOne (mUp (eUn opNeg (eCon (.int 1))))))) (sExprM (mMeth 3 kApp (mOne (mMeth 2 kPopAt (mOne (mUp (eCall drawF (aCons (eVar 0) (aCons (eFn lenD (aCons (eBor 2) aNil)) (aNil)))))))))))))) (sRet (eFn tupleD (aCons (eBor 3) aNil))))
def f_law_wishes : Fn := runF 6 s_law_wishes
abbrev s_law_steps : SS := sRet (eLc (iRange (aCons (eFn lenD (aCons (eBor 0) aNil)) (aNil))) (gNm 1) (tAnd (tBl (eBin opNotN2 (eBin ixD (eBor 0) (eVar 1)) (eCon .non))) (tAnd (tBl (eBin opNe (eBin ixD (eBor 0) (eVar 1)) (eBor 1))) (tOr (tBl (eBin opEq (eBin ixD (eBor 0) (eVar 1)) (eUn opNeg (eCon (.int 1))))) (tBl (eBin opIsN2 (eBin ixD (eBor 0) (eBin ixD (eBor 0) (eVar 1))) (eCon .non)))))) (eVar 1) [1])
def f_law_steps : Fn := runF 2 s_law_steps
abbrev s_law_behind : SS := sSeq (sNew 2 (eFn listD (aCons (eBor 0) aNil))) (sSeq (sPq (aCons (eBin ixD (eBor 2) (eVar 1)) (aCons (eCon .non) (aNil))) (qNm 3 :: qSt 2 (eVar 1) :: [])) (sSeq (sIf (tBl (eBin opGe (eBor 3) (eCon (.int 0)))) (sStore 2 (eVar 3) (eVar 3)) (sNx)) (sRet (eFn tupleD (aCons (eBor 2) aNil)))))
def f_law_behind : Fn := runF 4 s_law_behind
abbrev s_law_done : SS := sRet (eFn allD (aCons (eLc (iEnum (eVar 0)) (gTp (gMore (gNm 1) (gMore (gNm 2) (gNone)))) (tYes') (eOr (eBin opIsN2 (eBor 2) (eCon .non)) (eBin opEq (eBor 2) (eBor 1))) [1, 2]) aNil))
def f_law_done : Fn := runF 3 s_law_done
abbrev s_law_any : SS := sSeq (sPar [1, 2] (kNew (eLst (aCons (eVar 0) (aNil))) (kNew (eDisp true (pCons (eVar 0) (eCon (.bl true)) (pNil))) (kNil)))) (sSeq (sWh (tBl (eBin opGt (eFn lenD (aCons (eBor 1) aNil)) (eCon (.int 0)))) (sSeq (sSetM 3 (mMeth 1 kPop mNil)) (sSeq (sIf (tOf (eCall f_law_done (aCons (eVar 3) (aNil)))) (sRet (eCon (.bl true))) (sNx)) (sFor (iSeq (eCall f_law_steps (aCons (eVar 3) (aNil)))) (gNm 4) (sSeq (sSet 5 (eCall f_law_behind (aCons (eVar 3) (aCons (eVar 4) (aNil))))) (sIf (tBl (eBin opNotIn (eBor 5) (eBor 2))) (sSeq (sDPut 2 (eBor 5) (eCon (.bl true))) (sExprM (mMeth 1 kApp (mOne (mUp (eVar 5)))))) (sNx))))))) (sRet (eCon (.bl false))))
def f_law_any : Fn := runF 6 s_law_any
abbrev s_law_rings : SS := sSeq (sNew 1 (eLst (aNil))) (sSeq (sFor (iRange (aCons (eFn lenD (aCons (eBor 0) aNil)) (aNil))) (gNm 2) (sSeq (sNew 3 (eLst (aCons (eVar 2) (aNil)))) (sSeq (sFor (iRange (aCons (eFn lenD (aCons (eBor 0) aNil)) (aNil))) (gNm 4) (sSeq (sSet 5 (eBin ixD (eBor 0) (eBin ixD (eBor 3) (eUn opNeg (eCon (.int 1)))))) (sSeq (sIf (tOr (tBl (eBin opIsN2 (eBor 5) (eCon .non))) (tOr (tBl (eBin opLt (eBor 5) (eCon (.int 0)))) (tBl (eBin opIn (eBor 5) (eBor 3))))) (sBk) (sNx)) (sExprM (mMeth 3 kApp (mOne (mUp (eVar 5)))))))) (sIf (tAnd (tBl (eBin opGt (eFn lenD (aCons (eBor 3) aNil)) (eCon (.int 1)))) (tAnd (tBl (eBin opEq (eBin ixD (eBor 0) (eBin ixD (eBor 3) (eUn opNeg (eCon (.int 1))))) (eBor 2))) (tBl (eBin opEq (eFn minLD (aCons (eBor 3) aNil)) (eBor 2))))) (sExprM (mMeth 1 kApp (mOne (mUp (eFn tupleD (aCons (eBor 3) aNil)))))) (sNx))))) (sRet (eFn tupleD (aCons (eBor 1) aNil))))
def f_law_rings : Fn := runF 6 s_law_rings
abbrev s_law_is_ring : SS := sSeq (sIf (tOr (tNot (tOf (eUn (fun d => (isT d .tuple).map .bl) (eBor 1)))) (tOr (tBl (eBin opLt (eFn lenD (aCons (eBor 1) aNil)) (eCon (.int 2)))) (tNot (tOf (eFn allD (aCons (eLc (iSeq (eBor 1)) (gNm 3) (tYes') (eAnd (eUn (fun d => (isT d .int).map .bl) (eBor 3)) (eAnd (eNot (eUn (fun d => (isT d .bool).map .bl) (eBor 3))) (eAnd (eBin opLe (eCon (.int 0)) (eBor 3)) (eBin opLt (eBor 3) (eFn lenD (aCons (eBor 0) aNil)))))) [3]) aNil)))))) (sRet (eCon (.bl false))) (sNx)) (sSeq (sSet 2 (eBin opAdd (eSlice (eBor 1) (some (eCon (.int 1))) none) (eSlice (eBor 1) none (some (eCon (.int 1)))))) (sRet (eAnd (eBin opEq (eFn lenSetD (aCons (eBor 1) aNil)) (eFn lenD (aCons (eBor 1) aNil))) (eAnd (eBin opEq (eFn minLD (aCons (eBor 1) aNil)) (eBin ixD (eBor 1) (eCon (.int 0)))) (eNot (eFn anyD (aCons (eLc (iRange (aCons (eFn lenD (aCons (eBor 1) aNil)) (aNil))) (gNm 4) (tYes') (eNot (eCall (f_law_same 40) (aCons (eBin ixD (eBor 0) (eBin ixD (eBor 1) (eVar 4))) (aCons (eBin ixD (eBor 2) (eVar 4)) (aNil))))) [4]) aNil)))))))
def f_law_is_ring : Fn := runF 5 s_law_is_ring
abbrev s_law_is_going : SS := sSeq (sIf (tOr (tNot (tOf (eUn (fun d => (isT d .tuple).map .bl) (eBor 1)))) (tNot (tOf (eFn allD (aCons (eLc (iSeq (eBor 1)) (gNm 4) (tYes') (eAnd (eUn (fun d => (isT d .int).map .bl) (eBor 4)) (eAnd (eNot (eUn (fun d => (isT d .bool).map .bl) (eBor 4))) (eAnd (eBin opLe (eCon (.int 0)) (eBor 4)) (eBin opLt (eBor 4) (eFn lenD (aCons (eBor 0) aNil)))))) [4]) aNil))))) (sRet (eCon (.bl false))) (sNx)) (sSeq (sSet 2 (eVar 0)) (sSeq (sFor (iSeq (eVar 1)) (gNm 3) (sSeq (sIf (tBl (eBin opNotIn (eBor 3) (eCall f_law_steps (aCons (eVar 2) (aNil))))) (sRet (eCon (.bl false))) (sNx)) (sSet 2 (eCall f_law_behind (aCons (eVar 2) (aCons (eVar 3) (aNil))))))) (sRet (eCall f_law_done (aCons (eVar 2) (aNil))))))
def f_law_is_going : Fn := runF 5 s_law_is_going
abbrev s_law_fewest : SS := sSeq (sSet 1 (eFn lenD (aCons (eBor 0) aNil))) (sSeq (sSet 2 (eFn tupleD (aCons (eLc (iRange (aCons (eVar 1) (aNil))) (gNm 9) (tYes') (eIf (tBl (eBin opNotN2 (eBin ixD (eBor 0) (eVar 9)) (eCon .non))) (eVar 9) (eCon .non)) [9]) aNil))) (sSeq (sPar [3, 4, 5] (kNew (eDisp true (pCons (eVar 2) (eCon (.bl true)) (pNil))) (kFrz (eLst (aCons (eVar 2) (aNil))) (kFrz (eCon (.int 0)) (kNil))))) (sSeq (sWh (tBl (eBin opGt (eFn lenD (aCons (eBor 4) aNil)) (eCon (.int 0)))) (sSeq (sNew 6 (eLst (aNil))) (sSeq (sFor (iSeq (eVar 4)) (gNm 7) (sSeq (sSet 8 (eLc (iSeq (eBor 7)) (gNm 13) (tBl (eBin opNotN2 (eBor 13) (eCon .non))) (eVar 13) [13])) (sSeq (sIf (tOf (eFn allD (aCons (eLc (iSeq (eBor 8)) (gNm 13) (tYes') (eAnd (eBin opGe (eBin ixD (eBor 0) (eVar 13)) (eCon (.int 0))) (eBin opEq (eBin ixD (eBor 7) (eBin ixD (eBor 0) (eVar 13))) (eBor 13))) [13]) aNil))) (sRet (eVar 5)) (sNx)) (sFor (iRange (aCons (eVar 1) (aNil))) (gNm 9) (sIf (tBl (eBin opNotN2 (eBin ixD (eBor 7) (eVar 9)) (eCon .non))) (sSeq (sSet 10 (eLc (iRange (aCons (eVar 1) (aNil))) (gNm 11) (tBl (eBin opIsN2 (eBin ixD (eBor 7) (eVar 11)) (eCon .non))) (eVar 11) [11])) (sFor (iSeq (eBin opAdd (eBor 10) (eIf (tBl (eBin opEq (eBin ixD (eBor 0) (eBin ixD (eBor 7) (eVar 9))) (eUn opNeg (eCon (.int 1))))) (eLst (aCons (eUn opNeg (eCon (.int 1))) (aNil))) (eLst (aNil))))) (gNm 11) (sSeq (sNew 12 (eFn listD (aCons (eBor 7) aNil))) (sSeq (sStore 12 (eVar 9) (eCon .non)) (sSeq (sIf (tBl (eBin opGe (eBor 11) (eCon (.int 0)))) (sStore 12 (eVar 11) (eBin ixD (eBor 7) (eVar 9))) (sNx)) (sIf (tBl (eBin opNotIn (eFn tupleD (aCons (eBor 12) aNil)) (eBor 3))) (sSeq (sDPut 3 (eFn tupleD (aCons (eBor 12) aNil)) (eCon (.bl true))) (sExprM (mMeth 6 kApp (mOne (mUp (eFn tupleD (aCons (eBor 12) aNil))))))) (sNx))))))) (sNx)))))) (sSeq (sFz 6) (sPar [4, 5] (kFrz (eVar 6) (kFrz (eBin opAdd (eBor 5) (eCon (.int 1))) (kNil)))))))) (sRet (eCon .non)))))
def f_law_fewest : Fn := runF 14 s_law_fewest
abbrev s_law_are : SS := sSeq (sIf (tOr (tNot (tOf (eUn (fun d => (isT d .tuple).map .bl) (eBor 0)))) (tNot (tBl (eChain opLe opLe (eCon (.int 1)) (eFn lenD (aCons (eBor 0) aNil)) (eCon (.int 24)))))) (sRet (eCon (.bl false))) (sNx)) (sSeq (sSet 1 (eLst (aNil))) (sSeq (sFor (iSeq (eVar 0)) (gNm 2) (sIf (tBl (eBin opNotN2 (eBor 2) (eCon .non))) (sSeq (sIf (tOr (tNot (tOf (eUn (fun d => (isT d .int).map .bl) (eBor 2)))) (tOr (tOf (eUn (fun d => (isT d .bool).map .bl) (eBor 2))) (tOr (tBl (eBin opLt (eBor 2) (eUn opNeg (eCon (.int 1))))) (tOr (tBl (eBin opGe (eBor 2) (eFn lenD (aCons (eBor 0) aNil)))) (tBl (eBin opIn (eBor 2) (eBor 1))))))) (sRet (eCon (.bl false))) (sNx)) (sSet 1 (eBin opAdd (eBor 1) (eIf (tBl (eBin opGe (eBor 2) (eCon (.int 0)))) (eLst (aCons (eVar 2) (aNil))) (eLst (aNil)))))) (sNx))) (sRet (eCon (.bl true)))))
def f_law_are : Fn := runF 3 s_law_are
abbrev s_law_bent (rec : Fn) : SS := sSeq (sIf (tAnd (tOf (eUn (fun d => (isT d .tuple).map .bl) (eBor 1))) (tAnd (tBl (eBin opGt (eFn lenD (aCons (eBor 1) aNil)) (eCon (.int 0)))) (tBl (eBin opGt (eCall drawF (aCons (eVar 0) (aCons (eCon (.int 5)) (aNil)))) (eCon (.int 0)))))) (sSeq (sSet 3 (eCall drawF (aCons (eVar 0) (aCons (eFn lenD (aCons (eBor 1) aNil)) (aNil))))) (sRet (eBin opAdd (eBin opAdd (eSlice (eBor 1) none (some (eVar 3))) (eTup (aCons (eCall rec (aCons (eVar 0) (aCons (eBin ixD (eBor 1) (eVar 3)) (aNil)))) (aNil)))) (eSlice (eBor 1) (some (eBin opAdd (eBor 3) (eCon (.int 1)))) none)))) (sNx)) (sSeq (sSet 2 (eCall drawF (aCons (eVar 0) (aCons (eCon (.int 8)) (aNil))))) (sSeq (sIf (tOf (eUn (fun d => (isT d .tuple).map .bl) (eBor 1))) (sRet (eBin ixD (eLst (aCons (eBin opAdd (eBor 1) (eSlice (eBor 1) none (some (eCon (.int 1))))) (aCons (eSlice (eBor 1) (some (eCon (.int 1))) none) (aCons (eUn revD (eBor 1)) (aCons (eBin opAdd (eBor 1) (eTup (aCons (eCon (.int 0)) (aNil)))) (aCons (eTup (aCons (eVar 1) (aNil))) (aCons (eSlice (eBor 1) none (some (eUn opNeg (eCon (.int 1))))) (aCons (eCon .non) (aCons (eBin opAdd (eBor 1) (eTup (aCons (eTup (aCons (eCon (.int 0)) (aCons (eCon (.int 1)) (aNil)))) (aNil)))) (aNil)))))))))) (eVar 2))) (sNx)) (sSeq (sIf (tAnd (tOf (eUn (fun d => (isT d .int).map .bl) (eBor 1))) (tNot (tOf (eUn (fun d => (isT d .bool).map .bl) (eBor 1))))) (sRet (eBin ixD (eLst (aCons (eBin opAdd (eBor 1) (eCon (.int 1))) (aCons (eBin opSub (eBor 1) (eCon (.int 1))) (aCons (eCon (.int 0)) (aCons (eBin opEq (eBor 1) (eCon (.int 1))) (aCons (eCon .non) (aCons (eFn strD (aCons (eBor 1) aNil)) (aCons (eTup (aCons (eVar 1) (aNil))) (aCons (eBin opAdd (eBor 1) (eCon (.int 2))) (aNil)))))))))) (eVar 2))) (sNx)) (sSeq (sIf (tOf (eUn (fun d => (isT d .str).map .bl) (eBor 1))) (sRet (eBin ixD (eLst (aCons (eBin opAdd (eBor 1) (eCon (.str "s"))) (aCons (eSlice (eBor 1) (some (eCon (.int 1))) none) (aCons (eCon (.str "jump")) (aCons (eCon (.str "open")) (aCons (eCon (.int 0)) (aCons (eCon .non) (aCons (eCon (.str "")) (aCons (eCon (.str "bent")) (aNil)))))))))) (eVar 2))) (sNx)) (sRet (eBin ixD (eLst (aCons (eCon (.int 0)) (aCons (eCon (.int 1)) (aCons (eCon .non) (aCons (eCon (.bl true)) (aCons (eCon (.str "a")) (aCons (eTup (aNil)) (aCons (eTup (aCons (eCon (.int 0)) (aNil))) (aCons (eCon (.str "point")) (aNil)))))))))) (eVar 2)))))))
def f_law_bent : Nat → Fn
  | 0 => noFn
  | n + 1 => runF 4 (s_law_bent (f_law_bent n))
abbrev L0 : SS := sSet 6 (eBin opAdd (eCon (.int 1)) (eCall drawF (aCons (eVar 1) (aCons (eCon (.int 7)) (aNil)))))
abbrev L1 : SS := sSet 7 (eCall f_law_wishes (aCons (eVar 1) (aCons (eVar 6) (aNil))))
abbrev L2 : SS := sIf (tBl (eBin opIsntB (eCall f_are_wishes (aCons (eVar 7) (aNil))) (eCon (.bl true)))) (sRet (eCon (.bl false))) (sNx)
abbrev L3 : SS := sPar [8, 9] (kFrz (eCall f_law_rings (aCons (eVar 7) (aNil))) (kFrz (eCall f_law_any (aCons (eVar 7) (aNil))) (kNil)))
abbrev L4 : SS := sIf (tBl (eBin opNe (eBin opEq (eFn lenD (aCons (eBor 8) aNil)) (eCon (.int 0))) (eBor 9))) (sRet (eCon (.bl false))) (sNx)
abbrev L5 : SS := sAsg (gTp (gMore (gNm 4) (gMore (gNm 5) (gNone)))) (eCall f_going (aCons (eVar 7) (aNil)))
abbrev L6 : SS := sExprM (mMeth 10 kApp (mOne (mUp (eFn minLD (aCons (eCall f_law_steps (aCons (eVar 11) (aNil))) aNil)))))
abbrev L7 : SS := sSet 11 (eCall f_law_behind (aCons (eVar 11) (aCons (eBin ixD (eBor 10) (eUn opNeg (eCon (.int 1)))) (aNil))))
abbrev L8 : SS := sWh (tAnd (tOf (eBor 9)) (tNot (tOf (eCall f_law_done (aCons (eVar 11) (aNil)))))) (sSeq (L6) (L7))
abbrev L9 : SS := sIf (tNot (tOf (eCall (f_law_same 40) (aCons (eTup (aCons (eVar 4) (aCons (eVar 5) (aNil)))) (aCons (eIf (tOf (eBor 9)) (eTup (aCons (eCon (.str "order")) (aCons (eFn tupleD (aCons (eBor 10) aNil)) (aNil)))) (eTup (aCons (eCon (.str "rings")) (aCons (eVar 8) (aNil))))) (aNil)))))) (sRet (eCon (.bl false))) (sNx)
abbrev L10 : SS := sSet 12 (eIf (tOf (eBor 9)) (eVar 5) (eFn tupleD (aCons (eLc (iRange (aCons (eVar 6) (aNil))) (gNm 18) (tAnd (tBl (eBin opNotN2 (eBin ixD (eBor 7) (eVar 18)) (eCon .non))) (tBl (eBin opNe (eBin ixD (eBor 7) (eVar 18)) (eBor 18)))) (eVar 18) [18]) aNil)))
abbrev L11 : SS := sSet 16 (eCall f_law_is_going (aCons (eVar 7) (aCons (eVar 13) (aNil))))
abbrev L12 : SS := sIf (tOr (tNot (tOf (eCall (f_law_same 40) (aCons (eCall f_is_going (aCons (eVar 7) (aCons (eVar 13) (aNil)))) (aCons (eVar 16) (aNil)))))) (tAnd (tOf (eBor 16)) (tNot (tOf (eBor 9))))) (sRet (eCon (.bl false))) (sNx)
abbrev L13 : SS := sFor (iSeq (eBin opAdd (eLst (aCons (eVar 12) (aCons (eUn revD (eBor 12)) (aCons (eSlice (eBor 12) (some (eCon (.int 1))) none) (aCons (eBin opAdd (eBor 12) (eSlice (eBor 12) none (some (eCon (.int 1))))) (aCons (eTup (aNil)) (aCons (eCon .non) (aCons (eCon (.int 0)) (aCons (eTup (aCons (eVar 6) (aNil))) (aCons (eTup (aCons (eCon (.bl true)) (aNil))) (aNil))))))))))) (eLc (iRange (aCons (eCon (.int 5)) (aNil))) (gNm 17) (tYes') (eCall (f_law_bent 40) (aCons (eVar 1) (aCons (eVar 12) (aNil)))) [17]))) (gNm 13) (sSeq (L11) (L12))
abbrev L14 : SS := sSet 14 (eIf (tBl (eBin opGt (eFn lenD (aCons (eBor 8) aNil)) (eCon (.int 0)))) (eBin ixD (eBor 8) (eCon (.int 0))) (eTup (aCons (eCon (.int 0)) (aCons (eCon (.int 1)) (aNil)))))
abbrev L15 : SS := sSet 16 (eCall f_law_is_ring (aCons (eVar 7) (aCons (eVar 13) (aNil))))
abbrev L16 : SS := sIf (tOr (tNot (tOf (eCall (f_law_same 40) (aCons (eCall f_is_ring (aCons (eVar 7) (aCons (eVar 13) (aNil)))) (aCons (eVar 16) (aNil)))))) (tAnd (tOf (eBor 16)) (tOr (tOf (eBor 9)) (tBl (eBin opNotIn (eBor 13) (eBor 8)))))) (sRet (eCon (.bl false))) (sNx)
abbrev L17 : SS := sFor (iSeq (eBin opAdd (eBin opAdd (eFn listD (aCons (eBor 8) aNil)) (eLst (aCons (eVar 14) (aCons (eUn revD (eBor 14)) (aCons (eBin opAdd (eSlice (eBor 14) (some (eCon (.int 1))) none) (eSlice (eBor 14) none (some (eCon (.int 1))))) (aCons (eSlice (eBor 14) (some (eCon (.int 1))) none) (aCons (eBin opAdd (eBor 14) (eSlice (eBor 14) none (some (eCon (.int 1))))) (aCons (eTup (aNil)) (aCons (eTup (aCons (eCon (.int 0)) (aNil))) (aCons (eCon .non) (aCons (eCon (.int 0)) (aCons (eFn rtD (aCons (eVar 6) (aNil))) (aNil))))))))))))) (eLc (iRange (aCons (eCon (.int 5)) (aNil))) (gNm 17) (tYes') (eCall (f_law_bent 40) (aCons (eVar 1) (aCons (eVar 14) (aNil)))) [17]))) (gNm 13) (sSeq (L15) (L16))
abbrev L18 : SS := sSet 15 (eCall f_law_wishes (aCons (eVar 1) (aCons (eBin opAdd (eCon (.int 1)) (eCall drawF (aCons (eVar 1) (aCons (eCon (.int 4)) (aNil))))) (aNil))))
abbrev L19 : SS := sIf (tNot (tOf (eCall (f_law_same 40) (aCons (eCall f_least_goings (aCons (eVar 15) (aNil))) (aCons (eCall f_law_fewest (aCons (eVar 15) (aNil))) (aNil)))))) (sRet (eCon (.bl false))) (sNx)
abbrev L20 : SS := sIf (tNot (tOf (eCall (f_law_same 40) (aCons (eCall f_are_wishes (aCons (eVar 13) (aNil))) (aCons (eCall f_law_are (aCons (eVar 13) (aNil))) (aNil)))))) (sRet (eCon (.bl false))) (sNx)
abbrev L21 : SS := sFor (iSeq (eBin opAdd (eLst (aCons (eVar 7) (aCons (eUn revD (eBor 7)) (aCons (eBin opAdd (eBor 7) (eTup (aCons (eCon (.int 0)) (aCons (eCon (.int 0)) (aNil))))) (aCons (eBin opAdd (eBor 7) (eTup (aCons (eUn opNeg (eCon (.int 1))) (aNil)))) (aCons (eBin opAdd (eBor 7) (eTup (aCons (eUn opNeg (eCon (.int 2))) (aNil)))) (aCons (eBin opMul (eTup (aCons (eCon .non) (aNil))) (eCon (.int 24))) (aCons (eBin opMul (eTup (aCons (eCon .non) (aNil))) (eCon (.int 25))) (aCons (eTup (aNil)) (aCons (eCon .non) (aCons (eCon (.int 5)) (aCons (eTup (aCons (eCon (.int 0)) (aCons (eCon (.int 0)) (aNil)))) (aCons (eTup (aCons (eCon (.bl true)) (aNil))) (aNil)))))))))))))) (eLc (iRange (aCons (eCon (.int 5)) (aNil))) (gNm 17) (tYes') (eCall (f_law_bent 40) (aCons (eVar 1) (aCons (eVar 7) (aNil)))) [17]))) (gNm 13) (L20)
abbrev L22 : SS := sFor (iRange (aCons (eCon (.int 4)) (aNil))) (gNm 2) (sSeq (L0) (sSeq (L1) (sSeq (L2) (sSeq (L3) (sSeq (L4) (sSeq (L5) (sSeq (sPar [10, 11] (kNew (eLst (aNil)) (kFrz (eVar 7) (kNil)))) (sSeq (L8) (sSeq (L9) (sSeq (L10) (sSeq (L13) (sSeq (L14) (sSeq (L17) (sSeq (L18) (sSeq (L19) (L21))))))))))))))))
abbrev L23 : SS := sSet 3 (eCall f_law_wishes (aCons (eVar 1) (aCons (eCon (.int 24)) (aNil))))
abbrev L24 : SS := sAsg (gTp (gMore (gNm 4) (gMore (gNm 5) (gNone)))) (eCall f_going (aCons (eVar 3) (aNil)))
abbrev L25 : SS := sIf (tOr (tAnd (tBl (eBin opEq (eBor 4) (eCon (.str "rings")))) (tNot (tOf (eCall (f_law_same 40) (aCons (eVar 5) (aCons (eCall f_law_rings (aCons (eVar 3) (aNil))) (aNil))))))) (tAnd (tBl (eBin opEq (eBor 4) (eCon (.str "order")))) (tNot (tOf (eCall f_law_is_going (aCons (eVar 3) (aCons (eVar 5) (aNil)))))))) (sRet (eCon (.bl false))) (sNx)
abbrev L26 : SS := sRet (eAnd (eCall (f_law_same 40) (aCons (eCall f_going (aCons (eTup (aCons (eCon (.int 1)) (aCons (eCon (.int 0)) (aCons (eUn opNeg (eCon (.int 1))) (aNil))))) (aNil))) (aCons (eTup (aCons (eCon (.str "rings")) (aCons (eTup (aCons (eTup (aCons (eCon (.int 0)) (aCons (eCon (.int 1)) (aNil)))) (aNil))) (aNil)))) (aNil)))) (eAnd (eCall (f_law_same 40) (aCons (eCall f_least_goings (aCons (eTup (aCons (eCon (.int 1)) (aCons (eCon (.int 0)) (aCons (eUn opNeg (eCon (.int 1))) (aNil))))) (aNil))) (aCons (eCon (.int 4)) (aNil)))) (eBin opIsN2 (eCall f_least_goings (aCons (eTup (aCons (eCon (.int 1)) (aCons (eCon (.int 0)) (aNil)))) (aNil))) (eCon .non))))
abbrev s_law : SS := sSeq (L22) (sSeq (L23) (sSeq (L24) (sSeq (L25) (L26))))
def lawAt (b : Bx) : Option (Fl × Rho × Bx) := s_law (Sl.emp :: Sl.frz (.tok 0) :: List.replicate 17 Sl.emp) b
end K82

set_option maxHeartbeats 8000000
namespace K82
open PySem L2 Sv
open PyProof.Rows (envOfC)
def top (i : Nat) : Stmt := PySem.Challenge.pw_roomsemptied_k82_whole_blocked_rings.main.body.getD i (.Pass ⟨0, 0, 0, 0⟩)
def ifThen : Stmt → List Stmt
  | .If (body := b) .. => b
  | _ => []
abbrev st_law_box : Stmt := top 14
abbrev st_law_load : Stmt := top 15
abbrev st_law_draw : Stmt := top 16
structure BtF (K : PySem.W.Frag) (mg : Str → Option Value) : Prop where
  len : mg "len" = none
  int : mg "int" = none
  list : mg "list" = none
theorem iteT' {c : Bool} {p q : Prop} (e : c = true) (h : p) : if c = true then p else q := by rw [if_pos e]; exact h
theorem iteF' {c : Bool} {p q : Prop} (e : c = false) (h : q) : if c = true then p else q := by rw [if_neg (by rw [e]; decide)]; exact h
section
variable {P : Program} {w : World} {K : PySem.W.Frag} {mg : Str → Option Value} {base : Heap}
theorem sc_box : FnScope ["script"] ["script"] (defScope st_law_box) := ⟨rfl, rfl, rfl, by decide +kernel, rfl, by decide +kernel, by decide +kernel⟩
theorem ok_box {f : Addr} {fd : FuncData} (F : L2.Fun K "_law_box" "_law_box" st_law_box f fd) (T : BtF K mg) : FnOk P w K mg base CX0 1 f fd ["script"] (spBox K) := by
  refine F.ok sc_box (fun vs H Q E h => ?_) (fun cdv A outer s H vs Q E hr h => ?_)
  · obtain ⟨a, ns, rfl, _⟩ := h
    rfl
  · obtain ⟨a, ns, rfl, hs, hn, k⟩ := h
    refine ⟨_, pss_one (ps_ret (pe_lst (pa_cons (pe_callTy call_list_of (by rfl) T.list (by decide +kernel) (pa_cons (pe_slice sl_list (pv 0) po_none (po_some pe_int)) pa_nil)) (pa_cons pe_int (pa_cons (pe_op op_add pe_int (pe_callB call_len_seq (by rfl) T.len PySem.boot_len (pa_cons (pv 0) pa_nil))) pa_nil))))), ?_⟩
    refine ⟨_, rfl, 63, rfl, a, _, rfl, hs, fun p hp => ?_⟩
    have hcut : cutV (ns.map V.int) none (some 63) = ns.map V.int := by
      have h1 : HT.sIx (ns.map V.int).length 0 none = 0 := by simp [HT.sIx]
      have h2 : HT.sIx (ns.map V.int).length (ns.map V.int).length (some 63) = (ns.map V.int).length := by
        simp [HT.sIx]; omega
      unfold cutV
      rw [h1, h2, List.drop_zero, Nat.sub_zero, List.take_length]
    rw [hcut]
    have s1 : Same H (upd H p (.lst (ns.map V.int))) := fun b o e => by rw [upd_ne (ne_of_none e hp)]; exact e
    refine ⟨p, _, rfl, .inl (SqL.of upd_same), fun q hq => ?_⟩
    have npq : p ≠ q := ne_of_none upd_same hq
    have s2 : Same H (upd (upd H p (.lst (ns.map V.int))) q (.lst (ns.map V.int))) := fun b o e => by rw [upd_ne (ne_of_none (s1 b o e) hq)]; exact s1 b o e
    refine ⟨_, rfl, a, _, rfl, .inl (s2.seq hs), _, _, rfl, rfl, ⟨by show 3 ≤ _; decide, fun r hr => ?_⟩⟩
    have nqr : q ≠ r := ne_of_none upd_same hr
    refine k r q _ ⟨nqr.symm, ?_, by rw [upd_ne nqr]; exact upd_same⟩
    rw [upd_same, List.length_map]
theorem sc_load : FnScope ["box", "cells", "cell", "size", "first", "second"] ["box"] (defScope st_law_load) := ⟨rfl, rfl, rfl, by decide +kernel, rfl, by decide +kernel, by decide +kernel⟩
theorem ok_load {f : Addr} {fd : FuncData} (F : L2.Fun K "_law_load" "_law_load" st_law_load f fd) (T : BtF K mg) : FnOk P w K mg base CX0 1 f fd ["box"] spLoad := by
  refine F.ok sc_load (fun vs H Q E h => ?_) (fun cdv A outer s H vs Q E hr h => ?_)
  · obtain ⟨p, q, b, rfl, _⟩ := h
    rfl
  · obtain ⟨p, q, b, rfl, hb, k⟩ := h
    have pint : ∀ {X : Cx} {e : Expr} {te : TE} {p pos : Pos}, Gl X "int" → X.mg "int" = none → PE X e te → starEach [e] X.env = (false, eval e X.env) :: starEach [] X.env → PE X (.Call (.Name "int" p) [e] [] pos) (tCB (fun xs H Q => (∃ i, xs = [.int i] ∧ Q (.int i) H) ∨ ∃ k, xs = [.bl k] ∧ Q (.int (if k then 1 else 0)) H) (tCons te tNil)) := fun hg hm he hs => pe_callTy call_int1 hg hm (by decide +kernel) (pa_cons he pa_nil hs) (by decide) (by decide) hs rfl
    obtain ⟨t2, h2, q2⟩ : ∃ t : TS, PSs (cxOf CX0 P w K mg base ["box", "cells", "cell", "size", "first", "second"] "_law_load" (defScope st_law_load) f cdv A outer s H E).nox ((defBody st_law_load).drop 2) t ∧
        ∀ (c z : Option V) (H1 : Hp) (b1 : Bx), BSt p q b1 H1 → Off p q H H1 → restB b1 = loadB b → t { nx := fun _ H' => Q .non H', rt := Q } [some (.ref p), some (.ref q), c, z, none, none] H1 :=
      ⟨_, pss_cons (ps_set (i := 4) sc_load.nd rfl (Or.inl rfl) (pe_op op_modN (pint (by rfl) T.int (pe_op op_add (pe_op op_mul (pe_ix ix_list (pv 0) pe_int (by intro _ _; rfl)) pe_int) pe_int) rfl) pe_int))
      (pss_cons (ps_set (i := 5) sc_load.nd rfl (Or.inl rfl) (pe_op op_modN (pint (by rfl) T.int (pe_op op_add (pe_op op_mul (pv 4) pe_int) pe_int) rfl) pe_int))
      (pss_cons (ps_asg (pe_op op_modN (pint (by rfl) T.int (pe_op op_add (pe_op op_mul (pv 5) pe_int) pe_int) rfl) pe_int) (pg_sub (pv 0) pe_int set_list))
      (pss_one (ps_ret (pe_op op_add (pe_op op_add (pe_op op_mul (pv 4) pe_int) (pe_op op_mul (pv 5) pe_int)) (pe_ix ix_list (pv 0) pe_int (by intro _ _; rfl))))))), fun c z H1 b1 ⟨npq, hp, hq⟩ off er => by
        refine ⟨_, rfl, p, _, 2, _, rfl, rfl, SqL.of hp, rfl, _, _, rfl, rfl, .inr ⟨by decide, by decide⟩, _, _, rfl, rfl, .inl ⟨_, rfl, _, _, rfl, rfl, (show (_ : Int) ≠ 0 by decide), ?_⟩⟩
        refine ⟨_, rfl, _, _, rfl, rfl, .inr ⟨by decide, by decide⟩, _, _, rfl, rfl, .inl ⟨_, rfl, _, _, rfl, rfl, (show (_ : Int) ≠ 0 by decide), ?_⟩⟩
        refine ⟨_, rfl, _, _, rfl, rfl, .inr ⟨by decide, by decide⟩, _, _, rfl, rfl, .inl ⟨_, rfl, _, _, rfl, rfl, (show (_ : Int) ≠ 0 by decide), ?_⟩⟩
        refine ⟨_, rfl, p, _, 2, 2, rfl, rfl, hp, rfl, ?_⟩
        refine ⟨_, rfl, _, _, rfl, rfl, .inr ⟨by decide, by decide⟩, _, rfl, _, _, rfl, rfl, .inr ⟨by decide, by decide⟩, _, _, rfl, rfl, ?_⟩
        refine ⟨_, rfl, p, _, 2, _, rfl, rfl, SqL.of upd_same, rfl, _, _, rfl, rfl, ?_⟩
        have e1 := congrArg Prod.fst er
        have e2 := congrArg Prod.snd er
        have k1 := k (upd H1 p (.lst [.ref q, .int b1.x, .int (restB b1).2.y])) (off.trans Off.updp) ?_
        · rw [← er] at k1; exact k1
        · rw [← er]
          exact ⟨npq, upd_same, by rw [upd_ne npq.symm]; exact hq⟩⟩
    obtain ⟨t3, h3, q3⟩ : ∃ t : TS, PSs (cxOf CX0 P w K mg base ["box", "cells", "cell", "size", "first", "second"] "_law_load" (defScope st_law_load) f cdv A outer s H E).nox ((ifThen ((defBody st_law_load).getD 1 (.Pass ⟨0, 0, 0, 0⟩))).drop 2) t ∧
        ∀ (c z : Int) (cs : List Int), b.cs = c :: cs → sizeB c = z → t { nx := t2 { nx := fun _ H' => Q .non H', rt := Q }, rt := Q } [some (.ref p), some (.ref q), some (.int c), some (.int z), none, none] (upd H q (.lst (cs.map V.int))) :=
      ⟨_, pss_cons (ps_if (pt_cmpR op_ge (pv 3) pe_int (nomark _)) (pss_one (ps_ret (pv 3))) pss_nil)
        (pss_one (ps_asg (pe_op op_modN (pint (by rfl) T.int (pe_op op_add (pe_op op_add (pe_op op_mul (pe_ix ix_list (pv 0) pe_int (by intro _ _; rfl)) pe_int) (pe_op op_mul (pv 3) pe_int)) pe_int) rfl) pe_int) (pg_sub (pv 0) pe_int set_list))), fun c z cs ec hz => by
        obtain ⟨npq, hp, hq⟩ := id hb
        obtain ⟨_, x, y⟩ := b
        obtain rfl : _ = c :: cs := ec
        have hq2 : ∀ H1, H1 = upd H q (.lst (cs.map V.int)) → BSt p q ⟨cs, x, y⟩ H1 := fun H1 e => by
          subst e
          exact ⟨npq, by rw [upd_ne npq]; exact hp, upd_same⟩
        obtain ⟨_, hp2, _⟩ := hq2 _ rfl
        refine ⟨_, rfl, _, _, rfl, rfl, _, rfl, ?_⟩
        by_cases h1 : 1000000000000000000 ≤ z
        · refine iteT' (decide_eq_true h1) ?_
          refine ⟨_, rfl, ?_⟩
          have el : loadB ⟨c :: cs, x, y⟩ = (sizeB c, ⟨cs, x, y⟩) := if_pos (by rw [hz]; exact h1)
          have k1 := k (upd H q (.lst (cs.map V.int))) Off.updq (by rw [el]; exact hq2 _ rfl)
          rw [el, hz] at k1
          exact k1
        · refine iteF' (decide_eq_false h1) ?_
          have el : loadB ⟨c :: cs, x, y⟩ = restB ⟨cs, x, (y * 69621 + sizeB c * 48271 + 11).fmod 2147483647⟩ := if_neg (by rw [hz]; exact h1)
          refine ⟨_, rfl, p, _, 2, _, rfl, rfl, SqL.of hp2, rfl, _, _, rfl, rfl, .inr ⟨by decide, by decide⟩, _, rfl, _, _, rfl, rfl, .inr ⟨by decide, by decide⟩, _, _, rfl, rfl, _, _, rfl, rfl, .inl ⟨_, rfl, _, _, rfl, rfl, (show (_ : Int) ≠ 0 by decide), ?_⟩⟩
          refine ⟨_, rfl, p, _, 2, 2, rfl, rfl, hp2, rfl, ?_⟩
          refine q2 (some (.int c)) (some (.int z)) _ ⟨cs, x, (y * 69621 + z * 48271 + 11).fmod 2147483647⟩ ⟨npq, upd_same, by rw [upd_ne npq.symm]; exact upd_same⟩ (Off.updq.trans Off.updp) ?_
          rw [el, hz]⟩
    refine ⟨_, pss_cons (ps_set (i := 1) sc_load.nd rfl (Or.inl rfl) (pe_ix ix_list (pv 0) pe_int (by intro _ _; rfl)))
      (pss_cons (ps_if (pt_cmpR op_gt (pe_callB call_len_seq (by rfl) T.len PySem.boot_len (pa_cons (pv 1) pa_nil)) pe_int (nomark _))
        (pss_cons (ps_set (i := 2) sc_load.nd rfl (Or.inl rfl) (pint (by rfl) T.int (pe_bm PySem.F.plainAttrs_list PySem.F.slot_list_pop PySem.F.type_list_pop mt_popAt (pv 1) (pa_cons pe_int pa_nil)) rfl))
        (pss_cons (ps_set (i := 3) sc_load.nd rfl (Or.inl rfl) (pe_ifExp (pt_cmpR op_ge (pv 2) pe_int (nomark _)) (pe_op op_mul pe_int (pv 2)) (pe_op op_sub (pe_op op_mul (pe_un un_neg pe_int) (pv 2)) pe_int)))
        h3)) pss_nil)
      h2), ?_⟩
    obtain ⟨npq, hp, hq⟩ := id hb
    refine ⟨_, rfl, p, _, 0, _, rfl, rfl, SqL.of hp, rfl, ?_⟩
    refine ⟨_, rfl, q, _, rfl, .inl (SqL.of hq), _, _, rfl, rfl, _, rfl, ?_⟩
    obtain ⟨cs, x, y⟩ := b
    cases cs with
    | nil =>
      refine iteF' rfl ?_
      exact q2 none none H _ hb Off.refl rfl
    | cons c cs =>
      refine iteT' (decide_eq_true (by simp)) ?_
      refine ⟨_, rfl, .inl ⟨rfl, _, SqL.of hq⟩, q, _, 0, 0, .int c, rfl, rfl, hq, by decide, by decide, ?_, rfl, .inl ⟨_, rfl, ?_⟩⟩
      · show seqIndex? 0 ((c :: cs).map V.int).length = some 0
        rw [seqIndex_of (by decide) (by simp)]; rfl
      refine ⟨_, rfl, _, _, rfl, rfl, _, rfl, ?_⟩
      by_cases h0 : 0 ≤ c
      · refine iteT' (decide_eq_true h0) ?_
        refine ⟨_, rfl, _, _, rfl, rfl, .inl ⟨by decide, by decide⟩, ?_⟩
        exact q3 c _ cs rfl (if_pos h0)
      · refine iteF' (decide_eq_false h0) ?_
        refine ⟨_, rfl, _, rfl, _, _, rfl, rfl, .inl ⟨by decide, by decide⟩, _, _, rfl, rfl, ?_⟩
        exact q3 c _ cs rfl (if_neg h0)
theorem sc_draw : FnScope ["box", "many", "digit"] ["box", "many"] (defScope st_law_draw) := ⟨rfl, rfl, rfl, by decide +kernel, rfl, by decide +kernel, by decide +kernel⟩
theorem ok_draw {f fL : Addr} {fd fdL : FuncData} (F : L2.Fun K "_law_draw" "_law_draw" st_law_draw f fd) (T : BtF K mg) (FL : FnOk P w K mg base CX0 1 fL fdL ["box"] spLoad) (ml : mg "_law_load" = some (.ref fL)) (kl : PySem.W.keepIn K (.ref fL) = true) (bl : Binds K fdL ["box"] []) : FnOk P w K mg base CX0 2 f fd ["box", "many"] spDraw := by
  refine F.ok sc_draw (fun vs H Q E h => ?_) (fun cdv A outer s H vs Q E hr h => ?_)
  · obtain ⟨p, q, b, many, rfl, _⟩ := h
    rfl
  · obtain ⟨p, q, b, many, rfl, hm, hn, hb, k⟩ := h
    have pint : ∀ {X : Cx} {e : Expr} {te : TE} {p pos : Pos}, Gl X "int" → X.mg "int" = none → PE X e te → starEach [e] X.env = (false, eval e X.env) :: starEach [] X.env → PE X (.Call (.Name "int" p) [e] [] pos) (tCB (fun xs H Q => (∃ i, xs = [.int i] ∧ Q (.int i) H) ∨ ∃ k, xs = [.bl k] ∧ Q (.int (if k then 1 else 0)) H) (tCons te tNil)) := fun hg hm he hs => pe_callTy call_int1 hg hm (by decide +kernel) (pa_cons he (pa_nil) hs) (by decide) (by decide) hs rfl
    obtain ⟨t2, h2, q2⟩ : ∃ t : TS, PSs (cxOf CX0 P w K mg base ["box", "many", "digit"] "_law_draw" (defScope st_law_draw) f cdv A outer s H E).nox ((defBody st_law_draw).drop 1) t ∧
        ∀ (H1 : Hp) (b1 : Bx), BSt p q b1 H1 → Off p q H H1 → b1 = fillB b many → t { nx := fun _ H' => Q .non H', rt := Q } [some (.ref p), some (.int many), none] H1 :=
      ⟨_, pss_cons (ps_set (i := 2) sc_draw.nd rfl (Or.inl rfl) (pe_op op_modN (pint (by rfl) T.int (pe_ix ix_list (pv 0) pe_int (by intro _ _; rfl)) rfl) (pv 1)))
        (pss_cons (ps_asg (pe_op op_fdivN (pe_ix ix_list (pv 0) pe_int (by intro _ _; rfl)) (pv 1)) (pg_sub (pv 0) pe_int set_list)) (pss_one (ps_ret (pv 2)))), fun H1 b1 ⟨npq, hp, hq⟩ off eb => by
        refine ⟨_, rfl, p, _, 1, _, rfl, rfl, SqL.of hp, rfl, .inl ⟨_, rfl, _, rfl, _, _, rfl, rfl, hm, ?_⟩⟩
        refine ⟨_, rfl, p, _, 1, _, rfl, rfl, SqL.of hp, rfl, _, rfl, _, _, rfl, rfl, ⟨hm, hn⟩, ?_⟩
        refine ⟨_, rfl, p, _, 1, 1, rfl, rfl, hp, rfl, _, rfl, ?_⟩
        have k1 := k (upd H1 p (.lst [.ref q, .int (b1.x.fdiv many), .int b1.y])) (off.trans Off.updp) ?_
        · unfold drawB at k1
          rw [← eb] at k1
          exact k1
        · unfold drawB
          rw [← eb]
          exact ⟨npq, upd_same, by rw [upd_ne npq.symm]; exact hq⟩⟩
    refine ⟨_, pss_cons (ps_if (pt_cmpR op_lt (pe_ix ix_list (pv 0) pe_int (by intro _ _; rfl)) (pv 1) (nomark _))
      (pss_one (ps_asg (pe_call FL hr (by rfl) ml kl bl .nil pass0 (pa_cons (pv 0) pa_nil)) (pg_sub (pv 0) pe_int set_list))) pss_nil) h2, ?_⟩
    obtain ⟨npq, hp, hq⟩ := id hb
    refine ⟨_, rfl, p, _, 1, _, rfl, rfl, SqL.of hp, rfl, _, rfl, _, _, rfl, rfl, _, rfl, ?_⟩
    by_cases h0 : b.x < many
    · refine iteT' (decide_eq_true h0) ?_
      refine ⟨_, rfl, p, q, b, rfl, hb, fun H' off bs => ?_⟩
      refine ⟨_, rfl, p, _, 1, 1, rfl, rfl, bs.2.1, rfl, ?_⟩
      refine q2 _ ⟨(loadB b).2.cs, (loadB b).1, (loadB b).2.y⟩ ⟨npq, upd_same, by rw [upd_ne npq.symm]; exact bs.2.2⟩ (off.trans Off.updp) ?_
      unfold fillB
      rw [if_pos h0]
    · refine iteF' (decide_eq_false h0) ?_
      refine q2 H b hb Off.refl ?_
      unfold fillB
      rw [if_neg h0]
end

structure Txt (K : PySem.W.Frag) (mg : Str → Option Value) (fa : Nat → Addr) (fd : Nat → FuncData) : Prop where
  d_is_number : Df K mg "is_number" (top 1) ["value", "least", "most"] (fa 1) (fd 1)
  d_are_wishes : Df K mg "are_wishes" (top 4) ["value"] (fa 4) (fd 4)
  d_movers : Df K mg "movers" (top 5) ["wishes"] (fa 5) (fd 5)
  d_behind_going : Df K mg "behind_going" (top 6) ["wishes", "room"] (fa 6) (fd 6)
  d_can_go : Df K mg "can_go" (top 7) ["wishes", "room"] (fa 7) (fd 7)
  d_rings_of : Df K mg "rings_of" (top 8) ["wishes"] (fa 8) (fd 8)
  d_going : Df K mg "going" (top 9) ["wishes"] (fa 9) (fd 9)
  d_is_going : Df K mg "is_going" (top 10) ["wishes", "value"] (fa 10) (fd 10)
  d_is_ring : Df K mg "is_ring" (top 11) ["wishes", "value"] (fa 11) (fd 11)
  d_least_goings : Df K mg "least_goings" (top 12) ["wishes"] (fa 12) (fd 12)
  d_law_box : Df K mg "_law_box" (top 14) ["script"] (fa 14) (fd 14)
  d_law_load : Df K mg "_law_load" (top 15) ["box"] (fa 15) (fd 15)
  d_law_draw : Df K mg "_law_draw" (top 16) ["box", "many"] (fa 16) (fd 16)
  d_law_same : Df K mg "_law_same" (top 17) ["a", "b"] (fa 17) (fd 17)
  d_law_wishes : Df K mg "_law_wishes" (top 18) ["box", "n"] (fa 18) (fd 18)
  d_law_steps : Df K mg "_law_steps" (top 19) ["here"] (fa 19) (fd 19)
  d_law_behind : Df K mg "_law_behind" (top 20) ["here", "room"] (fa 20) (fd 20)
  d_law_done : Df K mg "_law_done" (top 21) ["here"] (fa 21) (fd 21)
  d_law_any : Df K mg "_law_any" (top 22) ["wishes"] (fa 22) (fd 22)
  d_law_rings : Df K mg "_law_rings" (top 23) ["wishes"] (fa 23) (fd 23)
  d_law_is_ring : Df K mg "_law_is_ring" (top 24) ["wishes", "value"] (fa 24) (fd 24)
  d_law_is_going : Df K mg "_law_is_going" (top 25) ["wishes", "value"] (fa 25) (fd 25)
  d_law_fewest : Df K mg "_law_fewest" (top 26) ["wishes"] (fa 26) (fd 26)
  d_law_are : Df K mg "_law_are" (top 27) ["value"] (fa 27) (fd 27)
  d_law_bent : Df K mg "_law_bent" (top 28) ["box", "value"] (fa 28) (fd 28)
  d_law : Df K mg "law" (top 29) ["script"] (fa 29) (fd 29)
  b_all : mg "all" = none
  b_any : mg "any" = none
  b_bool : mg "bool" = none
  b_enumerate : mg "enumerate" = none
  b_int : mg "int" = none
  b_isinstance : mg "isinstance" = none
  b_len : mg "len" = none
  b_list : mg "list" = none
  b_min : mg "min" = none
  b_range : mg "range" = none
  b_set : mg "set" = none
  b_str : mg "str" = none
  b_tuple : mg "tuple" = none
  g_MAX_CELLS : ∃ u, mg "MAX_CELLS" = some u ∧ RelV (.int 24) u
theorem Txt.btF {K : PySem.W.Frag} {mg : Str → Option Value} {fa : Nat → Addr} {fd : Nat → FuncData} (T : Txt K mg fa fd) : BtF K mg := ⟨T.b_len, T.b_int, T.b_list⟩
section
variable {P : Program} {w : World} {K : PySem.W.Frag} {mg : Str → Option Value} {base : Heap} {fn : Nat → Option V} {fa : Nat → Addr} {fd : Nat → FuncData}
theorem okd_draw (T : Txt K mg fa fd) : FnOk P w K mg base CX0 2 (fa 16) (fd 16) ["box", "many"] (spD ⟨P, w, K, fn⟩ 2 drawF) :=
  (ok_draw T.d_law_draw.fu T.btF (ok_load T.d_law_load.fu T.btF) T.d_law_load.mg T.d_law_load.fu.kp T.d_law_load.bi).imp draw_imp
abbrev t_is_number : Stmt := top 1
theorem sc_is_number : FnScope ["value", "least", "most"] ["value", "least", "most"] (defScope t_is_number) := ⟨rfl, rfl, rfl, by decide +kernel, rfl, by decide +kernel, by decide +kernel⟩
theorem ok_is_number (T : Txt K mg fa fd) : FnOk P w K mg base CX0 1 (fa 1) (fd 1) ["value", "least", "most"] (spD ⟨P, w, K, fn⟩ 3 f_is_number) := by
    refine fn_sv (k := 0) T.d_is_number.fu sc_is_number rfl s_is_number fun cdv A outer s0 H E hr => ?_
    have nd := sc_is_number.nd
    have hu := hu64 hr
    have hu5 := hu65 hr
    exact psx_one (psx_ret (px_and (px_isi (t := .int) (vo 0) (by rfl) T.b_isinstance (by rfl) T.b_int (by decide +kernel)) (px_and (px_not ((px_isi (t := .bool) (vo 0) (by rfl) T.b_isinstance (by rfl) T.b_bool (by decide +kernel)).o)) (px_one (px_chain (d_le hu) (d_le hu) (vo 1) (vo 0) (vo 2))))))
abbrev t_are_wishes : Stmt := top 4
theorem sc_are_wishes : FnScope ["value", "rooms", "wish"] ["value"] (defScope t_are_wishes) := ⟨rfl, rfl, rfl, by decide +kernel, rfl, by decide +kernel, by decide +kernel⟩
theorem ok_are_wishes (T : Txt K mg fa fd) : FnOk P w K mg base CX0 2 (fa 4) (fd 4) ["value"] (spD ⟨P, w, K, fn⟩ 1 f_are_wishes) := by
    refine fn_sv (k := 1) T.d_are_wishes.fu sc_are_wishes rfl s_are_wishes fun cdv A outer s0 H E hr => ?_
    have nd := sc_are_wishes.nd
    have hu := hu64 hr
    have hu5 := hu65 hr
    have c_is_number := T.d_is_number.cal (ok_is_number (P := P) (w := w) (base := base) (fn := fn) T) hr
    exact psx_cons (psx_if ((pw_or' (pt_not' (pt_of ((px_isi (t := .tuple) (vo 0) (by rfl) T.b_isinstance (by rfl) T.b_tuple (by decide +kernel)).o))) (pw_one_or (pt_not' (pt_chain' (d_le hu) (d_le hu) ((px_int).o) ((b_len T.b_len (vo 0)).o) ((px_con (px_gc (by rfl) T.g_MAX_CELLS) (fun _ _ _ => by simp [Rp])).o))))).pt) (psx_one (psx_ret (px_bl))) (psx_nil)) (psx_cons (psx_if (pt_not' (pt_of ((b_all T.b_all (((pn_lc (own := [("wish", 2)]) (by rfl) nd (pio_seq (vo 0)) (blkOk_by (by kernel_rfl)) (fun _ _ _ _ _ => pgx_nm (i := 2) nd rfl (by first | exact Or.inl rfl | exact Or.inr rfl)) (fun _ _ _ _ _ => ptx_nil) (fun _ _ _ _ _ => px_or (px_cmp d_isN (vo 2) ((px_non).o) (nomark _)) (px_one (px_call c_is_number (by rfl) (ps_cons' (vx 2) (ps_cons' (px_un d_neg ((px_int).o)) (ps_cons' (px_bin d_sub ((b_len T.b_len (vo 0)).o) ((px_int).o)) (ps_nil')))))))).x).o)).o))) (psx_one (psx_ret (px_bl))) (psx_nil)) (psx_cons (psx_setLcF (i := 1) (own := [("wish", 2)]) (by rfl) nd rfl rfl (sw_true rfl rfl rfl (by decide +kernel)) (pio_seq (vo 0)) (blkOk_by (by kernel_rfl)) (fun _ _ _ _ _ => pgx_nm (i := 2) nd rfl (by first | exact Or.inl rfl | exact Or.inr rfl)) (fun _ _ _ _ _ => ptx_one ((pw_and' (pt_cmp' d_notN (vo 2) ((px_non).o) (nomark _)) (pw_one_and (pt_cmp' (d_ge hu) (vo 2) ((px_int).o) (nomark _)))).pt)) (fun _ _ _ _ _ => vx 2)) (psx_one (psx_ret (px_cmp (d_eq hu) ((px_lenset (by rfl) T.b_len (by rfl) T.b_set (vo 1)).o) ((b_len T.b_len (vo 1)).o) (nomark _))))))
abbrev t_movers : Stmt := top 5
theorem sc_movers : FnScope ["wishes", "room", "wish"] ["wishes"] (defScope t_movers) := ⟨rfl, rfl, rfl, by decide +kernel, rfl, by decide +kernel, by decide +kernel⟩
theorem ok_movers (T : Txt K mg fa fd) : FnOk P w K mg base CX0 1 (fa 5) (fd 5) ["wishes"] (spD ⟨P, w, K, fn⟩ 1 f_movers) := by
    refine fn_sv (k := 0) T.d_movers.fu sc_movers rfl s_movers fun cdv A outer s0 H E hr => ?_
    have nd := sc_movers.nd
    have hu := hu64 hr
    have hu5 := hu65 hr
    exact psx_one (psx_ret ((pn_lc (own := [("room", 1), ("wish", 2)]) (by rfl) nd ((pi_enum' (by rfl) T.b_enumerate (vx 0)).o) (blkOk_by (by kernel_rfl)) (fun _ _ _ _ _ => pgx_tup (by rfl) (pgx_cons (pgx_nm (i := 1) nd rfl (by first | exact Or.inl rfl | exact Or.inr rfl)) (pgx_cons (pgx_nm (i := 2) nd rfl (by first | exact Or.inl rfl | exact Or.inr rfl)) (pgx_nil)))) (fun _ _ _ _ _ => ptx_one ((pw_and' (pt_cmp' d_notN (vo 2) ((px_non).o) (nomark _)) (pw_one_and (pt_cmp' (d_ne hu) (vo 2) (vo 1) (nomark _)))).pt)) (fun _ _ _ _ _ => vx 1)).x))
abbrev t_behind_going : Stmt := top 6
theorem sc_behind_going : FnScope ["wishes", "room", "found", "there"] ["wishes", "room"] (defScope t_behind_going) := ⟨rfl, rfl, rfl, by decide +kernel, rfl, by decide +kernel, by decide +kernel⟩
theorem ok_behind_going (T : Txt K mg fa fd) : FnOk P w K mg base CX0 1 (fa 6) (fd 6) ["wishes", "room"] (spD ⟨P, w, K, fn⟩ 2 f_behind_going) := by
    refine fn_sv (k := 0) T.d_behind_going.fu sc_behind_going rfl s_behind_going fun cdv A outer s0 H E hr => ?_
    have nd := sc_behind_going.nd
    have hu := hu64 hr
    have hu5 := hu65 hr
    exact psx_cons (psx_new (i := 2) nd rfl (by first | exact Or.inl rfl | exact Or.inr rfl) (b_list T.b_list (vo 0))) (psx_cons (psx_set (i := 3) nd rfl (by first | exact Or.inl rfl | exact Or.inr rfl) (px_ix (d_ix hu) (vo 2) (vx 1))) (psx_cons (psx_store (pv 2) (vx 1) (px_non)) (psx_cons (psx_if (pt_cmp' (d_ge hu) (vo 3) ((px_int).o) (nomark _)) (psx_one (psx_store (pv 2) (vx 3) (vx 3))) (psx_nil)) (psx_one (psx_ret (b_tuple T.b_tuple (vo 2)))))))
abbrev t_can_go : Stmt := top 7
theorem sc_can_go : FnScope ["wishes", "room", "wish"] ["wishes", "room"] (defScope t_can_go) := ⟨rfl, rfl, rfl, by decide +kernel, rfl, by decide +kernel, by decide +kernel⟩
theorem ok_can_go (T : Txt K mg fa fd) : FnOk P w K mg base CX0 1 (fa 7) (fd 7) ["wishes", "room"] (spD ⟨P, w, K, fn⟩ 2 f_can_go) := by
    refine fn_sv (k := 0) T.d_can_go.fu sc_can_go rfl s_can_go fun cdv A outer s0 H E hr => ?_
    have nd := sc_can_go.nd
    have hu := hu64 hr
    have hu5 := hu65 hr
    exact psx_cons (psx_set (i := 2) nd rfl (by first | exact Or.inl rfl | exact Or.inr rfl) (px_ix (d_ix hu) (vo 0) (vx 1))) (psx_one (psx_ret (px_and (px_cmp d_notN (vo 2) ((px_non).o) (nomark _)) (px_and (px_cmp (d_ne hu) (vo 2) (vo 1) (nomark _)) (px_one (px_or (px_cmp (d_lt hu) (vo 2) ((px_int).o) (nomark _)) (px_one (px_cmp d_isN ((px_ix (d_ix hu) (vo 0) (vx 2)).o) ((px_non).o) (nomark _)))))))))
abbrev t_rings_of : Stmt := top 8
theorem sc_rings_of : FnScope ["wishes", "found", "room", "ring", "here"] ["wishes"] (defScope t_rings_of) := ⟨rfl, rfl, rfl, by decide +kernel, rfl, by decide +kernel, by decide +kernel⟩
theorem ok_rings_of (T : Txt K mg fa fd) : FnOk P w K mg base CX0 2 (fa 8) (fd 8) ["wishes"] (spD ⟨P, w, K, fn⟩ 1 f_rings_of) := by
    refine fn_sv (k := 1) T.d_rings_of.fu sc_rings_of rfl s_rings_of fun cdv A outer s0 H E hr => ?_
    have nd := sc_rings_of.nd
    have hu := hu64 hr
    have hu5 := hu65 hr
    have c_movers := T.d_movers.cal (ok_movers (P := P) (w := w) (base := base) (fn := fn) T) hr
    exact psx_cons (psx_new (i := 1) nd rfl (by first | exact Or.inl rfl | exact Or.inr rfl) (pn_lst (ps_nil'))) (psx_cons (psx_for PassesOwn.never (by rfl) (pi_seq (px_call c_movers (by rfl) (ps_cons' (vx 0) (ps_nil')))) (pgx_nm (i := 2) nd rfl (by first | exact Or.inl rfl | exact Or.inr rfl)) (psx_cons (psx_par2 (by rfl) nd rfl rfl  (by decide) rfl rfl  (pks_new (pn_lst (ps_cons' (vx 2) (ps_nil'))) (pks_frz (px_ix (d_ix hu) (vo 0) (vx 2)) (pks_nil))) (by kernel_rfl)) (psx_cons (psx_while PassesOwn.never ((pw_and' (pt_cmp' d_notN (vo 4) ((px_non).o) (nomark _)) (pw_and' (pt_cmp' (d_gt hu) (vo 4) (vo 2) (nomark _)) (pw_one_and (pt_cmp' (d_notIn hu5) (vo 4) (vo 3) (by rfl))))).pt) (psx_cons (psx_exprM (pmx_app (pv 3) (pmas_one (pmx_up (vx 4))))) (psx_one (psx_set (i := 4) nd rfl (by first | exact Or.inl rfl | exact Or.inr rfl) (px_ix (d_ix hu) (vo 0) (vx 4)))))) (psx_one (psx_if (pt_cmp' (d_eq hu) (vo 4) (vo 2) (nomark _)) (psx_one (psx_exprM (pmx_app (pv 1) (pmas_one (pmx_up (b_tuple T.b_tuple (vo 3))))))) (psx_nil)))))) (psx_one (psx_ret (b_tuple T.b_tuple (vo 1)))))
abbrev t_going : Stmt := top 9
theorem sc_going : FnScope ["wishes", "rings", "order", "here", "room"] ["wishes"] (defScope t_going) := ⟨rfl, rfl, rfl, by decide +kernel, rfl, by decide +kernel, by decide +kernel⟩
theorem ok_going (T : Txt K mg fa fd) : FnOk P w K mg base CX0 3 (fa 9) (fd 9) ["wishes"] (spD ⟨P, w, K, fn⟩ 1 f_going) := by
    refine fn_sv (k := 2) T.d_going.fu sc_going rfl s_going fun cdv A outer s0 H E hr => ?_
    have nd := sc_going.nd
    have hu := hu64 hr
    have hu5 := hu65 hr
    have c_behind_going := T.d_behind_going.cal (ok_behind_going (P := P) (w := w) (base := base) (fn := fn) T) hr
    have c_can_go := T.d_can_go.cal (ok_can_go (P := P) (w := w) (base := base) (fn := fn) T) hr
    have c_movers := T.d_movers.cal (ok_movers (P := P) (w := w) (base := base) (fn := fn) T) hr
    have c_rings_of := T.d_rings_of.cal (ok_rings_of (P := P) (w := w) (base := base) (fn := fn) T) hr
    exact psx_cons (psx_set (i := 1) nd rfl (by first | exact Or.inl rfl | exact Or.inr rfl) (px_call c_rings_of (by rfl) (ps_cons' (vx 0) (ps_nil')))) (psx_cons (psx_if (pt_of (vo 1)) (psx_one (psx_ret (px_tup (ps_cons' (px_str) (ps_cons' (vx 1) (ps_nil')))))) (psx_nil)) (psx_cons (psx_parT (by rfl) (pks_new (pn_lst (ps_nil')) (pks_frz (vx 0) (pks_nil))) (pgv_cons (i := 2) nd rfl (by first | exact Or.inl rfl | exact Or.inr rfl) (pgv_cons (i := 3) nd rfl (by first | exact Or.inl rfl | exact Or.inr rfl) (pgv_nil)))) (psx_cons (psx_while PassesOwn.never (pt_of ((px_call c_movers (by rfl) (ps_cons' (vx 3) (ps_nil'))).o)) (psx_cons (psx_set (i := 4) nd rfl (by first | exact Or.inl rfl | exact Or.inr rfl) (px_ix (d_ix hu) (((pn_lc (own := [("room", 4)]) (by rfl) nd (pio_seq ((px_call c_movers (by rfl) (ps_cons' (vx 3) (ps_nil'))).o)) (blkOk_by (by kernel_rfl)) (fun _ _ _ _ _ => pgx_nm (i := 4) nd rfl (by first | exact Or.inl rfl | exact Or.inr rfl)) (fun _ _ _ _ _ => ptx_one (pt_of ((px_call c_can_go (by rfl) (ps_cons' (vx 3) (ps_cons' (vx 4) (ps_nil')))).o))) (fun _ _ _ _ _ => vx 4)).x).o) (px_int))) (psx_cons (psx_exprM (pmx_app (pv 2) (pmas_one (pmx_up (vx 4))))) (psx_one (psx_set (i := 3) nd rfl (by first | exact Or.inl rfl | exact Or.inr rfl) (px_call c_behind_going (by rfl) (ps_cons' (vx 3) (ps_cons' (vx 4) (ps_nil'))))))))) (psx_one (psx_ret (px_tup (ps_cons' (px_str) (ps_cons' (b_tuple T.b_tuple (vo 2)) (ps_nil')))))))))
abbrev t_is_going : Stmt := top 10
theorem sc_is_going : FnScope ["wishes", "value", "here", "room"] ["wishes", "value"] (defScope t_is_going) := ⟨rfl, rfl, rfl, by decide +kernel, rfl, by decide +kernel, by decide +kernel⟩
theorem ok_is_going (T : Txt K mg fa fd) : FnOk P w K mg base CX0 2 (fa 10) (fd 10) ["wishes", "value"] (spD ⟨P, w, K, fn⟩ 2 f_is_going) := by
    refine fn_sv (k := 1) T.d_is_going.fu sc_is_going rfl s_is_going fun cdv A outer s0 H E hr => ?_
    have nd := sc_is_going.nd
    have hu := hu64 hr
    have hu5 := hu65 hr
    have c_behind_going := T.d_behind_going.cal (ok_behind_going (P := P) (w := w) (base := base) (fn := fn) T) hr
    have c_can_go := T.d_can_go.cal (ok_can_go (P := P) (w := w) (base := base) (fn := fn) T) hr
    have c_is_number := T.d_is_number.cal (ok_is_number (P := P) (w := w) (base := base) (fn := fn) T) hr
    have c_movers := T.d_movers.cal (ok_movers (P := P) (w := w) (base := base) (fn := fn) T) hr
    exact psx_cons (psx_if ((pw_or' (pt_not' (pt_of ((px_isi (t := .tuple) (vo 1) (by rfl) T.b_isinstance (by rfl) T.b_tuple (by decide +kernel)).o))) (pw_one_or (pt_not' (pt_of ((b_all T.b_all (((pn_lc (own := [("room", 3)]) (by rfl) nd (pio_seq (vo 1)) (blkOk_by (by kernel_rfl)) (fun _ _ _ _ _ => pgx_nm (i := 3) nd rfl (by first | exact Or.inl rfl | exact Or.inr rfl)) (fun _ _ _ _ _ => ptx_nil) (fun _ _ _ _ _ => px_call c_is_number (by rfl) (ps_cons' (vx 3) (ps_cons' (px_int) (ps_cons' (px_bin d_sub ((b_len T.b_len (vo 0)).o) ((px_int).o)) (ps_nil')))))).x).o)).o))))).pt) (psx_one (psx_ret (px_bl))) (psx_nil)) (psx_cons (psx_set (i := 2) nd rfl (by first | exact Or.inl rfl | exact Or.inr rfl) (vx 0)) (psx_cons (psx_for PassesOwn.never (by rfl) (pi_seq (vx 1)) (pgx_nm (i := 3) nd rfl (by first | exact Or.inl rfl | exact Or.inr rfl)) (psx_cons (psx_if (pt_not' (pt_of ((px_call c_can_go (by rfl) (ps_cons' (vx 2) (ps_cons' (vx 3) (ps_nil')))).o))) (psx_one (psx_ret (px_bl))) (psx_nil)) (psx_one (psx_set (i := 2) nd rfl (by first | exact Or.inl rfl | exact Or.inr rfl) (px_call c_behind_going (by rfl) (ps_cons' (vx 2) (ps_cons' (vx 3) (ps_nil')))))))) (psx_one (psx_ret (px_not ((px_call c_movers (by rfl) (ps_cons' (vx 2) (ps_nil'))).o))))))
abbrev t_is_ring : Stmt := top 11
theorem sc_is_ring : FnScope ["wishes", "value", "k", "room"] ["wishes", "value"] (defScope t_is_ring) := ⟨rfl, rfl, rfl, by decide +kernel, rfl, by decide +kernel, by decide +kernel⟩
theorem ok_is_ring (T : Txt K mg fa fd) : FnOk P w K mg base CX0 2 (fa 11) (fd 11) ["wishes", "value"] (spD ⟨P, w, K, fn⟩ 2 f_is_ring) := by
    refine fn_sv (k := 1) T.d_is_ring.fu sc_is_ring rfl s_is_ring fun cdv A outer s0 H E hr => ?_
    have nd := sc_is_ring.nd
    have hu := hu64 hr
    have hu5 := hu65 hr
    have c_is_number := T.d_is_number.cal (ok_is_number (P := P) (w := w) (base := base) (fn := fn) T) hr
    exact psx_cons (psx_if ((pw_or' (pt_not' (pt_of ((px_isi (t := .tuple) (vo 1) (by rfl) T.b_isinstance (by rfl) T.b_tuple (by decide +kernel)).o))) (pw_one_or (pt_cmp' (d_lt hu) ((b_len T.b_len (vo 1)).o) ((px_int).o) (nomark _)))).pt) (psx_one (psx_ret (px_bl))) (psx_nil)) (psx_cons (psx_if (pt_not' (pt_of ((b_all T.b_all (((pn_lc (own := [("room", 3)]) (by rfl) nd (pio_seq (vo 1)) (blkOk_by (by kernel_rfl)) (fun _ _ _ _ _ => pgx_nm (i := 3) nd rfl (by first | exact Or.inl rfl | exact Or.inr rfl)) (fun _ _ _ _ _ => ptx_nil) (fun _ _ _ _ _ => px_call c_is_number (by rfl) (ps_cons' (vx 3) (ps_cons' (px_int) (ps_cons' (px_bin d_sub ((b_len T.b_len (vo 0)).o) ((px_int).o)) (ps_nil')))))).x).o)).o))) (psx_one (psx_ret (px_bl))) (psx_nil)) (psx_cons (psx_if ((pw_or' (pt_cmp' (d_ne hu) ((px_lenset (by rfl) T.b_len (by rfl) T.b_set (vo 1)).o) ((b_len T.b_len (vo 1)).o) (nomark _)) (pw_one_or (pt_cmp' (d_ne hu) ((px_ix (d_ix hu) (vo 1) (px_int)).o) ((b_min1 T.b_min hu (vo 1)).o) (nomark _)))).pt) (psx_one (psx_ret (px_bl))) (psx_nil)) (psx_one (psx_ret (b_all T.b_all (((pn_lc (own := [("k", 2)]) (by rfl) nd ((pi_range (by rfl) T.b_range (ps_cons' (b_len T.b_len (vo 1)) (ps_nil'))).o) (blkOk_by (by kernel_rfl)) (fun _ _ _ _ _ => pgx_nm (i := 2) nd rfl (by first | exact Or.inl rfl | exact Or.inr rfl)) (fun _ _ _ _ _ => ptx_nil) (fun _ _ _ _ _ => px_cmp (d_eq hu) ((px_ix (d_ix hu) (vo 0) (px_ix (d_ix hu) (vo 1) (vx 2))).o) ((px_ix (d_ix hu) (vo 1) (px_bin d_mod ((px_bin d_add (vo 2) ((px_int).o)).o) ((b_len T.b_len (vo 1)).o))).o) (nomark _))).x).o))))))
abbrev t_least_goings : Stmt := top 12
theorem sc_least_goings : FnScope ["wishes", "rings"] ["wishes"] (defScope t_least_goings) := ⟨rfl, rfl, rfl, by decide +kernel, rfl, by decide +kernel, by decide +kernel⟩
theorem ok_least_goings (T : Txt K mg fa fd) : FnOk P w K mg base CX0 3 (fa 12) (fd 12) ["wishes"] (spD ⟨P, w, K, fn⟩ 1 f_least_goings) := by
    refine fn_sv (k := 2) T.d_least_goings.fu sc_least_goings rfl s_least_goings fun cdv A outer s0 H E hr => ?_
    have nd := sc_least_goings.nd
    have hu := hu64 hr
    have hu5 := hu65 hr
    have c_movers := T.d_movers.cal (ok_movers (P := P) (w := w) (base := base) (fn := fn) T) hr
    have c_rings_of := T.d_rings_of.cal (ok_rings_of (P := P) (w := w) (base := base) (fn := fn) T) hr
    exact psx_cons (psx_set (i := 1) nd rfl (by first | exact Or.inl rfl | exact Or.inr rfl) (px_call c_rings_of (by rfl) (ps_cons' (vx 0) (ps_nil')))) (psx_cons (psx_if ((pw_and' (pt_of (vo 1)) (pw_and' (pt_cmp' (d_notIn hu5) ((px_non).o) (vo 0) (by rfl)) (pw_one_and (pt_cmp' (d_notIn hu5) ((px_un d_neg ((px_int).o)).o) (vo 0) (by rfl))))).pt) (psx_one (psx_ret (px_non))) (psx_nil)) (psx_one (psx_ret (px_bin d_add ((b_len T.b_len ((px_call c_movers (by rfl) (ps_cons' (vx 0) (ps_nil'))).o)).o) ((b_len T.b_len (vo 1)).o)))))
abbrev t_law_same : Stmt := top 17
theorem sc_law_same : FnScope ["a", "b", "k"] ["a", "b"] (defScope t_law_same) := ⟨rfl, rfl, rfl, by decide +kernel, rfl, by decide +kernel, by decide +kernel⟩
theorem ok_law_same (T : Txt K mg fa fd) : ∀ n : Nat, FnOk P w K mg base CX0 (0 + n) (fa 17) (fd 17) ["a", "b"] (spD ⟨P, w, K, fn⟩ 2 (f_law_same n))
  | 0 => fn_none 2 rfl
  | n + 1 => by
    have ih := ok_law_same T n
    refine fn_sv (k := 0 + n) T.d_law_same.fu sc_law_same rfl (s_law_same (f_law_same n)) fun cdv A outer s0 H E hr => ?_
    have nd := sc_law_same.nd
    have hu := hu64 hr
    have hu5 := hu65 hr
    have c_law_same := T.d_law_same.cal ih hr
    exact psx_cons (psx_if ((pw_or' ((pw_and' (pt_of ((px_isi (t := .tuple) (vo 0) (by rfl) T.b_isinstance (by rfl) T.b_tuple (by decide +kernel)).o)) (pw_one_and (pt_of ((px_isi (t := .tuple) (vo 1) (by rfl) T.b_isinstance (by rfl) T.b_tuple (by decide +kernel)).o)))).pt) (pw_one_or ((pw_and' (pt_of ((px_isi (t := .list) (vo 0) (by rfl) T.b_isinstance (by rfl) T.b_list (by decide +kernel)).o)) (pw_one_and (pt_of ((px_isi (t := .list) (vo 1) (by rfl) T.b_isinstance (by rfl) T.b_list (by decide +kernel)).o)))).pt))).pt) (psx_one (psx_ret (px_and (px_cmp (d_eq hu) ((b_len T.b_len (vo 0)).o) ((b_len T.b_len (vo 1)).o) (nomark _)) (px_one (b_all T.b_all (((pn_lc (own := [("k", 2)]) (by rfl) nd ((pi_range (by rfl) T.b_range (ps_cons' (b_len T.b_len (vo 0)) (ps_nil'))).o) (blkOk_by (by kernel_rfl)) (fun _ _ _ _ _ => pgx_nm (i := 2) nd rfl (by first | exact Or.inl rfl | exact Or.inr rfl)) (fun _ _ _ _ _ => ptx_nil) (fun _ _ _ _ _ => px_call c_law_same (by rfl) (ps_cons' (px_ix (d_ix hu) (vo 0) (vx 2)) (ps_cons' (px_ix (d_ix hu) (vo 1) (vx 2)) (ps_nil'))))).x).o)))))) (psx_nil)) (psx_cons (psx_if ((pw_or' (pt_of ((px_isi (t := .bool) (vo 0) (by rfl) T.b_isinstance (by rfl) T.b_bool (by decide +kernel)).o)) (pw_one_or (pt_of ((px_isi (t := .bool) (vo 1) (by rfl) T.b_isinstance (by rfl) T.b_bool (by decide +kernel)).o)))).pt) (psx_one (psx_ret (px_and (px_isi (t := .bool) (vo 0) (by rfl) T.b_isinstance (by rfl) T.b_bool (by decide +kernel)) (px_and (px_isi (t := .bool) (vo 1) (by rfl) T.b_isinstance (by rfl) T.b_bool (by decide +kernel)) (px_one (px_cmp (d_eq hu) (vo 0) (vo 1) (nomark _))))))) (psx_nil)) (psx_cons (psx_if ((pw_or' ((pw_and' (pt_of ((px_isi (t := .int) (vo 0) (by rfl) T.b_isinstance (by rfl) T.b_int (by decide +kernel)).o)) (pw_one_and (pt_of ((px_isi (t := .int) (vo 1) (by rfl) T.b_isinstance (by rfl) T.b_int (by decide +kernel)).o)))).pt) (pw_one_or ((pw_and' (pt_of ((px_isi (t := .str) (vo 0) (by rfl) T.b_isinstance (by rfl) T.b_str (by decide +kernel)).o)) (pw_one_and (pt_of ((px_isi (t := .str) (vo 1) (by rfl) T.b_isinstance (by rfl) T.b_str (by decide +kernel)).o)))).pt))).pt) (psx_one (psx_ret (px_cmp (d_eq hu) (vo 0) (vo 1) (nomark _)))) (psx_nil)) (psx_one (psx_ret (px_and (px_cmp d_isN (vo 0) ((px_non).o) (nomark _)) (px_one (px_cmp d_isN (vo 1) ((px_non).o) (nomark _))))))))
abbrev t_law_wishes : Stmt := top 18
theorem sc_law_wishes : FnScope ["box", "n", "left", "found", "room", "pick"] ["box", "n"] (defScope t_law_wishes) := ⟨rfl, rfl, rfl, by decide +kernel, rfl, by decide +kernel, by decide +kernel⟩
theorem ok_law_wishes (T : Txt K mg fa fd) : FnOk P w K mg base CX0 3 (fa 18) (fd 18) ["box", "n"] (spD ⟨P, w, K, fn⟩ 2 f_law_wishes) := by
    refine fn_sv (k := 2) T.d_law_wishes.fu sc_law_wishes rfl s_law_wishes fun cdv A outer s0 H E hr => ?_
    have nd := sc_law_wishes.nd
    have hu := hu64 hr
    have hu5 := hu65 hr
    have c_law_draw := T.d_law_draw.cal (okd_draw (P := P) (w := w) (base := base) (fn := fn) T) hr
    exact psx_cons (psx_par2 (by rfl) nd rfl rfl  (by decide) rfl rfl  (pks_new (pn_lr1 T.b_list T.b_range (vx 1)) (pks_new (pn_lst (ps_nil')) (pks_nil))) (by kernel_rfl)) (psx_cons (psx_for PassesOwn.never (by rfl) (pi_range (by rfl) T.b_range (ps_cons' (vx 1) (ps_nil'))) (pgx_nm (i := 4) nd rfl (by first | exact Or.inl rfl | exact Or.inr rfl)) (psx_cons (psx_set (i := 5) nd rfl (by first | exact Or.inl rfl | exact Or.inr rfl) (px_call c_law_draw (by rfl) (ps_cons' (vx 0) (ps_cons' (px_int) (ps_nil'))))) (psx_one (psx_if (pt_cmp' (d_eq hu) (vo 5) ((px_int).o) (nomark _)) (psx_one (psx_exprM (pmx_app (pv 3) (pmas_one (pmx_up (px_non)))))) (psx_one (psx_if (pt_cmp' (d_eq hu) (vo 5) ((px_int).o) (nomark _)) (psx_one (psx_exprM (pmx_app (pv 3) (pmas_one (pmx_up (px_un d_neg ((px_int).o))))))) (psx_one (psx_exprM (pmx_app (pv 3) (pmas_one (pmx_popAt (pv 2) (pmas_one (pmx_up (px_call c_law_draw (by rfl) (ps_cons' (vx 0) (ps_cons' (b_len T.b_len (vo 2)) (ps_nil'))))))))))))))))) (psx_one (psx_ret (b_tuple T.b_tuple (vo 3)))))
abbrev t_law_steps : Stmt := top 19
theorem sc_law_steps : FnScope ["here", "room"] ["here"] (defScope t_law_steps) := ⟨rfl, rfl, rfl, by decide +kernel, rfl, by decide +kernel, by decide +kernel⟩
theorem ok_law_steps (T : Txt K mg fa fd) : FnOk P w K mg base CX0 1 (fa 19) (fd 19) ["here"] (spD ⟨P, w, K, fn⟩ 1 f_law_steps) := by
    refine fn_sv (k := 0) T.d_law_steps.fu sc_law_steps rfl s_law_steps fun cdv A outer s0 H E hr => ?_
    have nd := sc_law_steps.nd
    have hu := hu64 hr
    have hu5 := hu65 hr
    exact psx_one (psx_ret ((pn_lc (own := [("room", 1)]) (by rfl) nd ((pi_range (by rfl) T.b_range (ps_cons' (b_len T.b_len (vo 0)) (ps_nil'))).o) (blkOk_by (by kernel_rfl)) (fun _ _ _ _ _ => pgx_nm (i := 1) nd rfl (by first | exact Or.inl rfl | exact Or.inr rfl)) (fun _ _ _ _ _ => ptx_one ((pw_and' (pt_cmp' d_notN ((px_ix (d_ix hu) (vo 0) (vx 1)).o) ((px_non).o) (nomark _)) (pw_and' (pt_cmp' (d_ne hu) ((px_ix (d_ix hu) (vo 0) (vx 1)).o) (vo 1) (nomark _)) (pw_one_and ((pw_or' (pt_cmp' (d_eq hu) ((px_ix (d_ix hu) (vo 0) (vx 1)).o) ((px_un d_neg ((px_int).o)).o) (nomark _)) (pw_one_or (pt_cmp' d_isN ((px_ix (d_ix hu) (vo 0) (px_ix (d_ix hu) (vo 0) (vx 1))).o) ((px_non).o) (nomark _)))).pt)))).pt)) (fun _ _ _ _ _ => vx 1)).x))
abbrev t_law_behind : Stmt := top 20
theorem sc_law_behind : FnScope ["here", "room", "found", "there"] ["here", "room"] (defScope t_law_behind) := ⟨rfl, rfl, rfl, by decide +kernel, rfl, by decide +kernel, by decide +kernel⟩
theorem ok_law_behind (T : Txt K mg fa fd) : FnOk P w K mg base CX0 1 (fa 20) (fd 20) ["here", "room"] (spD ⟨P, w, K, fn⟩ 2 f_law_behind) := by
    refine fn_sv (k := 0) T.d_law_behind.fu sc_law_behind rfl s_law_behind fun cdv A outer s0 H E hr => ?_
    have nd := sc_law_behind.nd
    have hu := hu64 hr
    have hu5 := hu65 hr
    exact psx_cons (psx_new (i := 2) nd rfl (by first | exact Or.inl rfl | exact Or.inr rfl) (b_list T.b_list (vo 0))) (psx_cons (psx_parQ (by rfl) (ps_cons' (px_ix (d_ix hu) (vo 2) (vx 1)) (ps_cons' (px_non) (ps_nil'))) (pqs_nm (i := 3) nd rfl (by first | exact Or.inl rfl | exact Or.inr rfl) (pqs_st (pv 2) (vx 1) (pqs_nil)))) (psx_cons (psx_if (pt_cmp' (d_ge hu) (vo 3) ((px_int).o) (nomark _)) (psx_one (psx_store (pv 2) (vx 3) (vx 3))) (psx_nil)) (psx_one (psx_ret (b_tuple T.b_tuple (vo 2))))))
abbrev t_law_done : Stmt := top 21
theorem sc_law_done : FnScope ["here", "room", "wish"] ["here"] (defScope t_law_done) := ⟨rfl, rfl, rfl, by decide +kernel, rfl, by decide +kernel, by decide +kernel⟩
theorem ok_law_done (T : Txt K mg fa fd) : FnOk P w K mg base CX0 1 (fa 21) (fd 21) ["here"] (spD ⟨P, w, K, fn⟩ 1 f_law_done) := by
    refine fn_sv (k := 0) T.d_law_done.fu sc_law_done rfl s_law_done fun cdv A outer s0 H E hr => ?_
    have nd := sc_law_done.nd
    have hu := hu64 hr
    have hu5 := hu65 hr
    exact psx_one (psx_ret (b_all T.b_all (((pn_lc (own := [("room", 1), ("wish", 2)]) (by rfl) nd ((pi_enum' (by rfl) T.b_enumerate (vx 0)).o) (blkOk_by (by kernel_rfl)) (fun _ _ _ _ _ => pgx_tup (by rfl) (pgx_cons (pgx_nm (i := 1) nd rfl (by first | exact Or.inl rfl | exact Or.inr rfl)) (pgx_cons (pgx_nm (i := 2) nd rfl (by first | exact Or.inl rfl | exact Or.inr rfl)) (pgx_nil)))) (fun _ _ _ _ _ => ptx_nil) (fun _ _ _ _ _ => px_or (px_cmp d_isN (vo 2) ((px_non).o) (nomark _)) (px_one (px_cmp (d_eq hu) (vo 2) (vo 1) (nomark _))))).x).o)))
abbrev t_law_any : Stmt := top 22
theorem sc_law_any : FnScope ["wishes", "states", "seen", "here", "room", "there"] ["wishes"] (defScope t_law_any) := ⟨rfl, rfl, rfl, by decide +kernel, rfl, by decide +kernel, by decide +kernel⟩
theorem ok_law_any (T : Txt K mg fa fd) : FnOk P w K mg base CX0 2 (fa 22) (fd 22) ["wishes"] (spD ⟨P, w, K, fn⟩ 1 f_law_any) := by
    refine fn_sv (k := 1) T.d_law_any.fu sc_law_any rfl s_law_any fun cdv A outer s0 H E hr => ?_
    have nd := sc_law_any.nd
    have hu := hu64 hr
    have hu5 := hu65 hr
    have c_law_behind := T.d_law_behind.cal (ok_law_behind (P := P) (w := w) (base := base) (fn := fn) T) hr
    have c_law_done := T.d_law_done.cal (ok_law_done (P := P) (w := w) (base := base) (fn := fn) T) hr
    have c_law_steps := T.d_law_steps.cal (ok_law_steps (P := P) (w := w) (base := base) (fn := fn) T) hr
    exact psx_cons (psx_par2 (by rfl) nd rfl rfl  (by decide) rfl rfl  (pks_new (pn_lst (ps_cons' (vx 0) (ps_nil'))) (pks_new (pn_disp true hu (ppx_cons (vx 0) (px_bl) (ppx_nil))) (pks_nil))) (by kernel_rfl)) (psx_cons (psx_while PassesOwn.never (pt_cmp' (d_gt hu) ((b_len T.b_len (vo 1)).o) ((px_int).o) (nomark _)) (psx_cons (psx_setM (i := 3) nd rfl (by first | exact Or.inl rfl | exact Or.inr rfl) (pmx_pop (pv 1))) (psx_cons (psx_if (pt_of ((px_call c_law_done (by rfl) (ps_cons' (vx 3) (ps_nil'))).o)) (psx_one (psx_ret (px_bl))) (psx_nil)) (psx_one (psx_for PassesOwn.never (by rfl) (pi_seq (px_call c_law_steps (by rfl) (ps_cons' (vx 3) (ps_nil')))) (pgx_nm (i := 4) nd rfl (by first | exact Or.inl rfl | exact Or.inr rfl)) (psx_cons (psx_set (i := 5) nd rfl (by first | exact Or.inl rfl | exact Or.inr rfl) (px_call c_law_behind (by rfl) (ps_cons' (vx 3) (ps_cons' (vx 4) (ps_nil'))))) (psx_one (psx_if (pt_cmp' (d_notIn hu5) (vo 5) (vo 2) (by rfl)) (psx_cons (psx_dput hu (pv 2) (vo 5) (px_bl)) (psx_one (psx_exprM (pmx_app (pv 1) (pmas_one (pmx_up (vx 5))))))) (psx_nil))))))))) (psx_one (psx_ret (px_bl))))
abbrev t_law_rings : Stmt := top 23
theorem sc_law_rings : FnScope ["wishes", "found", "start", "row", "step", "wish"] ["wishes"] (defScope t_law_rings) := ⟨rfl, rfl, rfl, by decide +kernel, rfl, by decide +kernel, by decide +kernel⟩
theorem ok_law_rings (T : Txt K mg fa fd) : FnOk P w K mg base CX0 1 (fa 23) (fd 23) ["wishes"] (spD ⟨P, w, K, fn⟩ 1 f_law_rings) := by
    refine fn_sv (k := 0) T.d_law_rings.fu sc_law_rings rfl s_law_rings fun cdv A outer s0 H E hr => ?_
    have nd := sc_law_rings.nd
    have hu := hu64 hr
    have hu5 := hu65 hr
    exact psx_cons (psx_new (i := 1) nd rfl (by first | exact Or.inl rfl | exact Or.inr rfl) (pn_lst (ps_nil'))) (psx_cons (psx_for PassesOwn.never (by rfl) (pi_range (by rfl) T.b_range (ps_cons' (b_len T.b_len (vo 0)) (ps_nil'))) (pgx_nm (i := 2) nd rfl (by first | exact Or.inl rfl | exact Or.inr rfl)) (psx_cons (psx_new (i := 3) nd rfl (by first | exact Or.inl rfl | exact Or.inr rfl) (pn_lst (ps_cons' (vx 2) (ps_nil')))) (psx_cons (psx_for PassesOwn.never (by rfl) (pi_range (by rfl) T.b_range (ps_cons' (b_len T.b_len (vo 0)) (ps_nil'))) (pgx_nm (i := 4) nd rfl (by first | exact Or.inl rfl | exact Or.inr rfl)) (psx_cons (psx_set (i := 5) nd rfl (by first | exact Or.inl rfl | exact Or.inr rfl) (px_ix (d_ix hu) (vo 0) (px_ix (d_ix hu) (vo 3) (px_un d_neg ((px_int).o))))) (psx_cons (psx_if ((pw_or' (pt_cmp' d_isN (vo 5) ((px_non).o) (nomark _)) (pw_or' (pt_cmp' (d_lt hu) (vo 5) ((px_int).o) (nomark _)) (pw_one_or (pt_cmp' (d_in hu5) (vo 5) (vo 3) (by rfl))))).pt) (psx_one (psx_break)) (psx_nil)) (psx_one (psx_exprM (pmx_app (pv 3) (pmas_one (pmx_up (vx 5))))))))) (psx_one (psx_if ((pw_and' (pt_cmp' (d_gt hu) ((b_len T.b_len (vo 3)).o) ((px_int).o) (nomark _)) (pw_and' (pt_cmp' (d_eq hu) ((px_ix (d_ix hu) (vo 0) (px_ix (d_ix hu) (vo 3) (px_un d_neg ((px_int).o)))).o) (vo 2) (nomark _)) (pw_one_and (pt_cmp' (d_eq hu) ((b_min1 T.b_min hu (vo 3)).o) (vo 2) (nomark _))))).pt) (psx_one (psx_exprM (pmx_app (pv 1) (pmas_one (pmx_up (b_tuple T.b_tuple (vo 3))))))) (psx_nil)))))) (psx_one (psx_ret (b_tuple T.b_tuple (vo 1)))))
abbrev t_law_is_ring : Stmt := top 24
theorem sc_law_is_ring : FnScope ["wishes", "value", "turned_here", "x", "k"] ["wishes", "value"] (defScope t_law_is_ring) := ⟨rfl, rfl, rfl, by decide +kernel, rfl, by decide +kernel, by decide +kernel⟩
theorem ok_law_is_ring (T : Txt K mg fa fd) : FnOk P w K mg base CX0 41 (fa 24) (fd 24) ["wishes", "value"] (spD ⟨P, w, K, fn⟩ 2 f_law_is_ring) := by
    refine fn_sv (k := 40) T.d_law_is_ring.fu sc_law_is_ring rfl s_law_is_ring fun cdv A outer s0 H E hr => ?_
    have nd := sc_law_is_ring.nd
    have hu := hu64 hr
    have hu5 := hu65 hr
    have c_law_same := T.d_law_same.cal (ok_law_same (P := P) (w := w) (base := base) (fn := fn) T 40) hr
    exact psx_cons (psx_if ((pw_or' (pt_not' (pt_of ((px_isi (t := .tuple) (vo 1) (by rfl) T.b_isinstance (by rfl) T.b_tuple (by decide +kernel)).o))) (pw_or' (pt_cmp' (d_lt hu) ((b_len T.b_len (vo 1)).o) ((px_int).o) (nomark _)) (pw_one_or (pt_not' (pt_of ((b_all T.b_all (((pn_lc (own := [("x", 3)]) (by rfl) nd (pio_seq (vo 1)) (blkOk_by (by kernel_rfl)) (fun _ _ _ _ _ => pgx_nm (i := 3) nd rfl (by first | exact Or.inl rfl | exact Or.inr rfl)) (fun _ _ _ _ _ => ptx_nil) (fun _ _ _ _ _ => px_and (px_isi (t := .int) (vo 3) (by rfl) T.b_isinstance (by rfl) T.b_int (by decide +kernel)) (px_and (px_not ((px_isi (t := .bool) (vo 3) (by rfl) T.b_isinstance (by rfl) T.b_bool (by decide +kernel)).o)) (px_and (px_cmp (d_le hu) ((px_int).o) (vo 3) (nomark _)) (px_one (px_cmp (d_lt hu) (vo 3) ((b_len T.b_len (vo 0)).o) (nomark _))))))).x).o)).o)))))).pt) (psx_one (psx_ret (px_bl))) (psx_nil)) (psx_cons (psx_set (i := 2) nd rfl (by first | exact Or.inl rfl | exact Or.inr rfl) (px_bin d_add ((px_slice d_sl (vo 1) (pox_some (px_int)) pox_none).o) ((px_slice d_sl (vo 1) pox_none (pox_some (px_int))).o))) (psx_one (psx_ret (px_and (px_cmp (d_eq hu) ((px_lenset (by rfl) T.b_len (by rfl) T.b_set (vo 1)).o) ((b_len T.b_len (vo 1)).o) (nomark _)) (px_and (px_cmp (d_eq hu) ((b_min1 T.b_min hu (vo 1)).o) ((px_ix (d_ix hu) (vo 1) (px_int)).o) (nomark _)) (px_one (px_not ((b_any T.b_any (((pn_lc (own := [("k", 4)]) (by rfl) nd ((pi_range (by rfl) T.b_range (ps_cons' (b_len T.b_len (vo 1)) (ps_nil'))).o) (blkOk_by (by kernel_rfl)) (fun _ _ _ _ _ => pgx_nm (i := 4) nd rfl (by first | exact Or.inl rfl | exact Or.inr rfl)) (fun _ _ _ _ _ => ptx_nil) (fun _ _ _ _ _ => px_not ((px_call c_law_same (by rfl) (ps_cons' (px_ix (d_ix hu) (vo 0) (px_ix (d_ix hu) (vo 1) (vx 4))) (ps_cons' (px_ix (d_ix hu) (vo 2) (vx 4)) (ps_nil')))).o))).x).o)).o))))))))
abbrev t_law_is_going : Stmt := top 25
theorem sc_law_is_going : FnScope ["wishes", "value", "here", "room", "x"] ["wishes", "value"] (defScope t_law_is_going) := ⟨rfl, rfl, rfl, by decide +kernel, rfl, by decide +kernel, by decide +kernel⟩
theorem ok_law_is_going (T : Txt K mg fa fd) : FnOk P w K mg base CX0 2 (fa 25) (fd 25) ["wishes", "value"] (spD ⟨P, w, K, fn⟩ 2 f_law_is_going) := by
    refine fn_sv (k := 1) T.d_law_is_going.fu sc_law_is_going rfl s_law_is_going fun cdv A outer s0 H E hr => ?_
    have nd := sc_law_is_going.nd
    have hu := hu64 hr
    have hu5 := hu65 hr
    have c_law_behind := T.d_law_behind.cal (ok_law_behind (P := P) (w := w) (base := base) (fn := fn) T) hr
    have c_law_done := T.d_law_done.cal (ok_law_done (P := P) (w := w) (base := base) (fn := fn) T) hr
    have c_law_steps := T.d_law_steps.cal (ok_law_steps (P := P) (w := w) (base := base) (fn := fn) T) hr
    exact psx_cons (psx_if ((pw_or' (pt_not' (pt_of ((px_isi (t := .tuple) (vo 1) (by rfl) T.b_isinstance (by rfl) T.b_tuple (by decide +kernel)).o))) (pw_one_or (pt_not' (pt_of ((b_all T.b_all (((pn_lc (own := [("x", 4)]) (by rfl) nd (pio_seq (vo 1)) (blkOk_by (by kernel_rfl)) (fun _ _ _ _ _ => pgx_nm (i := 4) nd rfl (by first | exact Or.inl rfl | exact Or.inr rfl)) (fun _ _ _ _ _ => ptx_nil) (fun _ _ _ _ _ => px_and (px_isi (t := .int) (vo 4) (by rfl) T.b_isinstance (by rfl) T.b_int (by decide +kernel)) (px_and (px_not ((px_isi (t := .bool) (vo 4) (by rfl) T.b_isinstance (by rfl) T.b_bool (by decide +kernel)).o)) (px_and (px_cmp (d_le hu) ((px_int).o) (vo 4) (nomark _)) (px_one (px_cmp (d_lt hu) (vo 4) ((b_len T.b_len (vo 0)).o) (nomark _))))))).x).o)).o))))).pt) (psx_one (psx_ret (px_bl))) (psx_nil)) (psx_cons (psx_set (i := 2) nd rfl (by first | exact Or.inl rfl | exact Or.inr rfl) (vx 0)) (psx_cons (psx_for PassesOwn.never (by rfl) (pi_seq (vx 1)) (pgx_nm (i := 3) nd rfl (by first | exact Or.inl rfl | exact Or.inr rfl)) (psx_cons (psx_if (pt_cmp' (d_notIn hu5) (vo 3) ((px_call c_law_steps (by rfl) (ps_cons' (vx 2) (ps_nil'))).o) (by rfl)) (psx_one (psx_ret (px_bl))) (psx_nil)) (psx_one (psx_set (i := 2) nd rfl (by first | exact Or.inl rfl | exact Or.inr rfl) (px_call c_law_behind (by rfl) (ps_cons' (vx 2) (ps_cons' (vx 3) (ps_nil')))))))) (psx_one (psx_ret (px_call c_law_done (by rfl) (ps_cons' (vx 2) (ps_nil')))))))
abbrev t_law_fewest : Stmt := top 26
theorem sc_law_fewest : FnScope ["wishes", "n", "start", "seen", "level", "count", "more", "here", "present", "room", "goals", "there", "now", "who"] ["wishes"] (defScope t_law_fewest) := ⟨rfl, rfl, rfl, by decide +kernel, rfl, by decide +kernel, by decide +kernel⟩
theorem ok_law_fewest (T : Txt K mg fa fd) : FnOk P w K mg base CX0 1 (fa 26) (fd 26) ["wishes"] (spD ⟨P, w, K, fn⟩ 1 f_law_fewest) := by
    refine fn_sv (k := 0) T.d_law_fewest.fu sc_law_fewest rfl s_law_fewest fun cdv A outer s0 H E hr => ?_
    have nd := sc_law_fewest.nd
    have hu := hu64 hr
    have hu5 := hu65 hr
    exact psx_cons (psx_set (i := 1) nd rfl (by first | exact Or.inl rfl | exact Or.inr rfl) (b_len T.b_len (vo 0))) (psx_cons (psx_set (i := 2) nd rfl (by first | exact Or.inl rfl | exact Or.inr rfl) (b_tuple T.b_tuple (((pn_lc (own := [("room", 9)]) (by rfl) nd ((pi_range (by rfl) T.b_range (ps_cons' (vx 1) (ps_nil'))).o) (blkOk_by (by kernel_rfl)) (fun _ _ _ _ _ => pgx_nm (i := 9) nd rfl (by first | exact Or.inl rfl | exact Or.inr rfl)) (fun _ _ _ _ _ => ptx_nil) (fun _ _ _ _ _ => px_if (pt_cmp' d_notN ((px_ix (d_ix hu) (vo 0) (vx 9)).o) ((px_non).o) (nomark _)) (vx 9) (px_non))).x).o))) (psx_cons (psx_par3 (by rfl) nd rfl rfl rfl  (by decide) (by decide) (by decide) rfl rfl rfl  (pks_new (pn_disp true hu (ppx_cons (vx 2) (px_bl) (ppx_nil))) (pks_frz ((pn_lst (ps_cons' (vx 2) (ps_nil'))).x) (pks_frz (px_int) (pks_nil)))) (by kernel_rfl)) (psx_cons (psx_while PassesOwn.never (pt_cmp' (d_gt hu) ((b_len T.b_len (vo 4)).o) ((px_int).o) (nomark _)) (psx_cons (psx_new (i := 6) nd rfl (by first | exact Or.inl rfl | exact Or.inr rfl) (pn_lst (ps_nil'))) (psx_cons (psx_for PassesOwn.never (by rfl) (pi_seq (vx 4)) (pgx_nm (i := 7) nd rfl (by first | exact Or.inl rfl | exact Or.inr rfl)) (psx_cons (psx_setLcF (i := 8) (own := [("who", 13)]) (by rfl) nd rfl rfl (sw_true rfl rfl rfl (by decide +kernel)) (pio_seq (vo 7)) (blkOk_by (by kernel_rfl)) (fun _ _ _ _ _ => pgx_nm (i := 13) nd rfl (by first | exact Or.inl rfl | exact Or.inr rfl)) (fun _ _ _ _ _ => ptx_one (pt_cmp' d_notN (vo 13) ((px_non).o) (nomark _))) (fun _ _ _ _ _ => vx 13)) (psx_cons (psx_if (pt_of ((b_all T.b_all (((pn_lc (own := [("who", 13)]) (by rfl) nd (pio_seq (vo 8)) (blkOk_by (by kernel_rfl)) (fun _ _ _ _ _ => pgx_nm (i := 13) nd rfl (by first | exact Or.inl rfl | exact Or.inr rfl)) (fun _ _ _ _ _ => ptx_nil) (fun _ _ _ _ _ => px_and (px_cmp (d_ge hu) ((px_ix (d_ix hu) (vo 0) (vx 13)).o) ((px_int).o) (nomark _)) (px_one (px_cmp (d_eq hu) ((px_ix (d_ix hu) (vo 7) (px_ix (d_ix hu) (vo 0) (vx 13))).o) (vo 13) (nomark _))))).x).o)).o)) (psx_one (psx_ret (vx 5))) (psx_nil)) (psx_one (psx_for PassesOwn.never (by rfl) (pi_range (by rfl) T.b_range (ps_cons' (vx 1) (ps_nil'))) (pgx_nm (i := 9) nd rfl (by first | exact Or.inl rfl | exact Or.inr rfl)) (psx_one (psx_if (pt_cmp' d_notN ((px_ix (d_ix hu) (vo 7) (vx 9)).o) ((px_non).o) (nomark _)) (psx_cons (psx_setLcF (i := 10) (own := [("there", 11)]) (by rfl) nd rfl rfl (sw_true rfl rfl rfl (by decide +kernel)) ((pi_range (by rfl) T.b_range (ps_cons' (vx 1) (ps_nil'))).o) (blkOk_by (by kernel_rfl)) (fun _ _ _ _ _ => pgx_nm (i := 11) nd rfl (by first | exact Or.inl rfl | exact Or.inr rfl)) (fun _ _ _ _ _ => ptx_one (pt_cmp' d_isN ((px_ix (d_ix hu) (vo 7) (vx 11)).o) ((px_non).o) (nomark _))) (fun _ _ _ _ _ => vx 11)) (psx_one (psx_for PassesOwn.never (by rfl) (pi_seq (px_bin d_add (vo 10) ((px_if (pt_cmp' (d_eq hu) ((px_ix (d_ix hu) (vo 0) (px_ix (d_ix hu) (vo 7) (vx 9))).o) ((px_un d_neg ((px_int).o)).o) (nomark _)) ((pn_lst (ps_cons' (px_un d_neg ((px_int).o)) (ps_nil'))).x) ((pn_lst (ps_nil')).x)).o))) (pgx_nm (i := 11) nd rfl (by first | exact Or.inl rfl | exact Or.inr rfl)) (psx_cons (psx_new (i := 12) nd rfl (by first | exact Or.inl rfl | exact Or.inr rfl) (b_list T.b_list (vo 7))) (psx_cons (psx_store (pv 12) (vx 9) (px_non)) (psx_cons (psx_if (pt_cmp' (d_ge hu) (vo 11) ((px_int).o) (nomark _)) (psx_one (psx_store (pv 12) (vx 11) (px_ix (d_ix hu) (vo 7) (vx 9)))) (psx_nil)) (psx_one (psx_if (pt_cmp' (d_notIn hu5) ((b_tuple T.b_tuple (vo 12)).o) (vo 3) (by rfl)) (psx_cons (psx_dput hu (pv 3) ((b_tuple T.b_tuple (vo 12)).o) (px_bl)) (psx_one (psx_exprM (pmx_app (pv 6) (pmas_one (pmx_up (b_tuple T.b_tuple (vo 12)))))))) (psx_nil))))))))) (psx_nil)))))))) (psx_one (psx_fz (psx_par2 (by rfl) nd rfl rfl  (by decide) rfl rfl  (pks_frz (vx 6) (pks_frz (px_bin d_add (vo 5) ((px_int).o)) (pks_nil))) (by kernel_rfl))))))) (psx_one (psx_ret (px_non))))))
abbrev t_law_are : Stmt := top 27
theorem sc_law_are : FnScope ["value", "rooms", "wish"] ["value"] (defScope t_law_are) := ⟨rfl, rfl, rfl, by decide +kernel, rfl, by decide +kernel, by decide +kernel⟩
theorem ok_law_are (T : Txt K mg fa fd) : FnOk P w K mg base CX0 1 (fa 27) (fd 27) ["value"] (spD ⟨P, w, K, fn⟩ 1 f_law_are) := by
    refine fn_sv (k := 0) T.d_law_are.fu sc_law_are rfl s_law_are fun cdv A outer s0 H E hr => ?_
    have nd := sc_law_are.nd
    have hu := hu64 hr
    have hu5 := hu65 hr
    exact psx_cons (psx_if ((pw_or' (pt_not' (pt_of ((px_isi (t := .tuple) (vo 0) (by rfl) T.b_isinstance (by rfl) T.b_tuple (by decide +kernel)).o))) (pw_one_or (pt_not' (pt_chain' (d_le hu) (d_le hu) ((px_int).o) ((b_len T.b_len (vo 0)).o) ((px_int).o))))).pt) (psx_one (psx_ret (px_bl))) (psx_nil)) (psx_cons (psx_set (i := 1) nd rfl (by first | exact Or.inl rfl | exact Or.inr rfl) ((pn_lst (ps_nil')).x)) (psx_cons (psx_for PassesOwn.never (by rfl) (pi_seq (vx 0)) (pgx_nm (i := 2) nd rfl (by first | exact Or.inl rfl | exact Or.inr rfl)) (psx_one (psx_if (pt_cmp' d_notN (vo 2) ((px_non).o) (nomark _)) (psx_cons (psx_if ((pw_or' (pt_not' (pt_of ((px_isi (t := .int) (vo 2) (by rfl) T.b_isinstance (by rfl) T.b_int (by decide +kernel)).o))) (pw_or' (pt_of ((px_isi (t := .bool) (vo 2) (by rfl) T.b_isinstance (by rfl) T.b_bool (by decide +kernel)).o)) (pw_or' (pt_cmp' (d_lt hu) (vo 2) ((px_un d_neg ((px_int).o)).o) (nomark _)) (pw_or' (pt_cmp' (d_ge hu) (vo 2) ((b_len T.b_len (vo 0)).o) (nomark _)) (pw_one_or (pt_cmp' (d_in hu5) (vo 2) (vo 1) (by rfl))))))).pt) (psx_one (psx_ret (px_bl))) (psx_nil)) (psx_one (psx_set (i := 1) nd rfl (by first | exact Or.inl rfl | exact Or.inr rfl) (px_bin d_add (vo 1) ((px_if (pt_cmp' (d_ge hu) (vo 2) ((px_int).o) (nomark _)) ((pn_lst (ps_cons' (vx 2) (ps_nil'))).x) ((pn_lst (ps_nil')).x)).o))))) (psx_nil)))) (psx_one (psx_ret (px_bl)))))
abbrev t_law_bent : Stmt := top 28
theorem sc_law_bent : FnScope ["box", "value", "pick", "at"] ["box", "value"] (defScope t_law_bent) := ⟨rfl, rfl, rfl, by decide +kernel, rfl, by decide +kernel, by decide +kernel⟩
theorem ok_law_bent (T : Txt K mg fa fd) : ∀ n : Nat, FnOk P w K mg base CX0 (2 + n) (fa 28) (fd 28) ["box", "value"] (spD ⟨P, w, K, fn⟩ 2 (f_law_bent n))
  | 0 => fn_none 2 rfl
  | n + 1 => by
    have ih := ok_law_bent T n
    refine fn_sv (k := 2 + n) T.d_law_bent.fu sc_law_bent rfl (s_law_bent (f_law_bent n)) fun cdv A outer s0 H E hr => ?_
    have nd := sc_law_bent.nd
    have hu := hu64 hr
    have hu5 := hu65 hr
    have c_law_bent := T.d_law_bent.cal ih hr
    have c_law_draw := T.d_law_draw.cal (okd_draw (P := P) (w := w) (base := base) (fn := fn) T) hr
    exact psx_cons (psx_if ((pw_and' (pt_of ((px_isi (t := .tuple) (vo 1) (by rfl) T.b_isinstance (by rfl) T.b_tuple (by decide +kernel)).o)) (pw_and' (pt_cmp' (d_gt hu) ((b_len T.b_len (vo 1)).o) ((px_int).o) (nomark _)) (pw_one_and (pt_cmp' (d_gt hu) ((px_call c_law_draw (by rfl) (ps_cons' (vx 0) (ps_cons' (px_int) (ps_nil')))).o) ((px_int).o) (nomark _))))).pt) (psx_cons (psx_set (i := 3) nd rfl (by first | exact Or.inl rfl | exact Or.inr rfl) (px_call c_law_draw (by rfl) (ps_cons' (vx 0) (ps_cons' (b_len T.b_len (vo 1)) (ps_nil'))))) (psx_one (psx_ret (px_bin d_add ((px_bin d_add ((px_slice d_sl (vo 1) pox_none (pox_some (vx 3))).o) ((px_tup (ps_cons' (px_call c_law_bent (by rfl) (ps_cons' (vx 0) (ps_cons' (px_ix (d_ix hu) (vo 1) (vx 3)) (ps_nil')))) (ps_nil'))).o)).o) ((px_slice d_sl (vo 1) (pox_some (px_bin d_add (vo 3) ((px_int).o))) pox_none).o))))) (psx_nil)) (psx_cons (psx_set (i := 2) nd rfl (by first | exact Or.inl rfl | exact Or.inr rfl) (px_call c_law_draw (by rfl) (ps_cons' (vx 0) (ps_cons' (px_int) (ps_nil'))))) (psx_cons (psx_if (pt_of ((px_isi (t := .tuple) (vo 1) (by rfl) T.b_isinstance (by rfl) T.b_tuple (by decide +kernel)).o)) (psx_one (psx_ret (px_ix (d_ix hu) (((pn_lst (ps_cons' (px_bin d_add (vo 1) ((px_slice d_sl (vo 1) pox_none (pox_some (px_int))).o)) (ps_cons' (px_slice d_sl (vo 1) (pox_some (px_int)) pox_none) (ps_cons' (px_rev (vo 1)) (ps_cons' (px_bin d_add (vo 1) ((px_tup (ps_cons' (px_int) (ps_nil'))).o)) (ps_cons' (px_tup (ps_cons' (vx 1) (ps_nil'))) (ps_cons' (px_slice d_sl (vo 1) pox_none (pox_some (px_un d_neg ((px_int).o)))) (ps_cons' (px_non) (ps_cons' (px_bin d_add (vo 1) ((px_tup (ps_cons' (px_tup (ps_cons' (px_int) (ps_cons' (px_int) (ps_nil')))) (ps_nil'))).o)) (ps_nil')))))))))).x).o) (vx 2)))) (psx_nil)) (psx_cons (psx_if ((pw_and' (pt_of ((px_isi (t := .int) (vo 1) (by rfl) T.b_isinstance (by rfl) T.b_int (by decide +kernel)).o)) (pw_one_and (pt_not' (pt_of ((px_isi (t := .bool) (vo 1) (by rfl) T.b_isinstance (by rfl) T.b_bool (by decide +kernel)).o))))).pt) (psx_one (psx_ret (px_ix (d_ix hu) (((pn_lst (ps_cons' (px_bin d_add (vo 1) ((px_int).o)) (ps_cons' (px_bin d_sub (vo 1) ((px_int).o)) (ps_cons' (px_int) (ps_cons' (px_cmp (d_eq hu) (vo 1) ((px_int).o) (nomark _)) (ps_cons' (px_non) (ps_cons' (b_str T.b_str (vo 1)) (ps_cons' (px_tup (ps_cons' (vx 1) (ps_nil'))) (ps_cons' (px_bin d_add (vo 1) ((px_int).o)) (ps_nil')))))))))).x).o) (vx 2)))) (psx_nil)) (psx_cons (psx_if (pt_of ((px_isi (t := .str) (vo 1) (by rfl) T.b_isinstance (by rfl) T.b_str (by decide +kernel)).o)) (psx_one (psx_ret (px_ix (d_ix hu) (((pn_lst (ps_cons' (px_bin d_add (vo 1) ((px_str).o)) (ps_cons' (px_slice d_sl (vo 1) (pox_some (px_int)) pox_none) (ps_cons' (px_str) (ps_cons' (px_str) (ps_cons' (px_int) (ps_cons' (px_non) (ps_cons' (px_str) (ps_cons' (px_str) (ps_nil')))))))))).x).o) (vx 2)))) (psx_nil)) (psx_one (psx_ret (px_ix (d_ix hu) (((pn_lst (ps_cons' (px_int) (ps_cons' (px_int) (ps_cons' (px_non) (ps_cons' (px_bl) (ps_cons' (px_str) (ps_cons' (px_tup (ps_nil')) (ps_cons' (px_tup (ps_cons' (px_int) (ps_nil'))) (ps_cons' (px_str) (ps_nil')))))))))).x).o) (vx 2))))))))
abbrev t_law : Stmt := top 29
theorem sc_law : FnScope ["script", "box", "turn", "great", "word", "paper", "n", "wishes", "rings", "fine", "order", "here", "some", "value", "ring", "small", "right", "step", "room"] ["script"] (defScope t_law) := ⟨rfl, rfl, rfl, by decide +kernel, rfl, by decide +kernel, by decide +kernel⟩
theorem ok_law (T : Txt K mg fa fd) (hlaw : ∀ ns : List Int, ns.length ≤ 63 → ∃ ρ b, lawAt ⟨ns, 0, 4711 + ns.length⟩ = some (.rt (.bl true), ρ, b)) : FnOk P w K mg base CX0 43 (fa 29) (fd 29) ["script"] (spLaw K) := by
  refine T.d_law.fu.ok sc_law (fun vs H Q E h => ?_) (fun cdv A outer s H vs Q E hr h => ?_)
  · obtain ⟨a, ns, rfl, _⟩ := h
    rfl
  · obtain ⟨a, ns, rfl, hS, hlen, k⟩ := h
    have fn : Nat → Option V := fun _ => none
    obtain ⟨t2, h2, q2⟩ : ∃ t : TS, PSs (cxOf CX0 P w K mg base ["script", "box", "turn", "great", "word", "paper", "n", "wishes", "rings", "fine", "order", "here", "some", "value", "ring", "small", "right", "step", "room"] "law" (defScope t_law) (fa 29) cdv A outer s H E).nox ((defBody t_law).drop 1) t ∧
        ∀ (p q : Addr) (H1 : Hp), BSt p q ⟨ns, 0, 4711 + ns.length⟩ H1 → t { nx := fun _ H' => Q .non H', rt := Q } ((L2.start ["script", "box", "turn", "great", "word", "paper", "n", "wishes", "rings", "fine", "order", "here", "some", "value", "ring", "small", "right", "step", "room"] [V.ref a]).set 1 (some (.ref p))) H1 := by
      refine ⟨tSs ⟨P, w, K, fn⟩ s_law, ?_, fun p q H1 hb => ?_⟩
      · skip
        have nd := sc_law.nd
        have hu := hu64 hr
        have hu5 := hu65 hr
        have c_law_any := T.d_law_any.cal (ok_law_any (P := P) (w := w) (base := base) (fn := fn) T) hr
        have c_law_are := T.d_law_are.cal (ok_law_are (P := P) (w := w) (base := base) (fn := fn) T) hr
        have c_law_behind := T.d_law_behind.cal (ok_law_behind (P := P) (w := w) (base := base) (fn := fn) T) hr
        have c_law_bent := T.d_law_bent.cal (ok_law_bent (P := P) (w := w) (base := base) (fn := fn) T 40) hr
        have c_law_done := T.d_law_done.cal (ok_law_done (P := P) (w := w) (base := base) (fn := fn) T) hr
        have c_law_draw := T.d_law_draw.cal (okd_draw (P := P) (w := w) (base := base) (fn := fn) T) hr
        have c_law_fewest := T.d_law_fewest.cal (ok_law_fewest (P := P) (w := w) (base := base) (fn := fn) T) hr
        have c_law_is_going := T.d_law_is_going.cal (ok_law_is_going (P := P) (w := w) (base := base) (fn := fn) T) hr
        have c_law_is_ring := T.d_law_is_ring.cal (ok_law_is_ring (P := P) (w := w) (base := base) (fn := fn) T) hr
        have c_law_rings := T.d_law_rings.cal (ok_law_rings (P := P) (w := w) (base := base) (fn := fn) T) hr
        have c_law_same := T.d_law_same.cal (ok_law_same (P := P) (w := w) (base := base) (fn := fn) T 40) hr
        have c_law_steps := T.d_law_steps.cal (ok_law_steps (P := P) (w := w) (base := base) (fn := fn) T) hr
        have c_law_wishes := T.d_law_wishes.cal (ok_law_wishes (P := P) (w := w) (base := base) (fn := fn) T) hr
        have c_are_wishes := T.d_are_wishes.cal (ok_are_wishes (P := P) (w := w) (base := base) (fn := fn) T) hr
        have c_going := T.d_going.cal (ok_going (P := P) (w := w) (base := base) (fn := fn) T) hr
        have c_is_going := T.d_is_going.cal (ok_is_going (P := P) (w := w) (base := base) (fn := fn) T) hr
        have c_is_ring := T.d_is_ring.cal (ok_is_ring (P := P) (w := w) (base := base) (fn := fn) T) hr
        have c_least_goings := T.d_least_goings.cal (ok_least_goings (P := P) (w := w) (base := base) (fn := fn) T) hr
        exact psx_cons (psx_for PassesOwn.never (by rfl) (pi_range (by rfl) T.b_range (ps_cons' (px_int) (ps_nil'))) (pgx_nm (i := 2) nd rfl (by first | exact Or.inl rfl | exact Or.inr rfl)) (psx_cons (psx_set (i := 6) nd rfl (by first | exact Or.inl rfl | exact Or.inr rfl) (px_bin d_add ((px_int).o) ((px_call c_law_draw (by rfl) (ps_cons' (vx 1) (ps_cons' (px_int) (ps_nil')))).o))) (psx_cons (psx_set (i := 7) nd rfl (by first | exact Or.inl rfl | exact Or.inr rfl) (px_call c_law_wishes (by rfl) (ps_cons' (vx 1) (ps_cons' (vx 6) (ps_nil'))))) (psx_cons (psx_if (pt_cmp' d_isntB ((px_call c_are_wishes (by rfl) (ps_cons' (vx 7) (ps_nil'))).o) ((px_bl).o) (nomark _)) (psx_one (psx_ret (px_bl))) (psx_nil)) (psx_cons (psx_par2 (by rfl) nd rfl rfl  (by decide) rfl rfl  (pks_frz (px_call c_law_rings (by rfl) (ps_cons' (vx 7) (ps_nil'))) (pks_frz (px_call c_law_any (by rfl) (ps_cons' (vx 7) (ps_nil'))) (pks_nil))) (by kernel_rfl)) (psx_cons (psx_if (pt_cmp' (d_ne hu) ((px_cmp (d_eq hu) ((b_len T.b_len (vo 8)).o) ((px_int).o) (nomark _)).o) (vo 9) (nomark _)) (psx_one (psx_ret (px_bl))) (psx_nil)) (psx_cons (psx_asg (px_call c_going (by rfl) (ps_cons' (vx 7) (ps_nil'))) (pgx_tup (by rfl) (pgx_cons (pgx_nm (i := 4) nd rfl (by first | exact Or.inl rfl | exact Or.inr rfl)) (pgx_cons (pgx_nm (i := 5) nd rfl (by first | exact Or.inl rfl | exact Or.inr rfl)) (pgx_nil))))) (psx_cons (psx_par2 (by rfl) nd rfl rfl  (by decide) rfl rfl  (pks_new (pn_lst (ps_nil')) (pks_frz (vx 7) (pks_nil))) (by kernel_rfl)) (psx_cons (psx_while PassesOwn.never ((pw_and' (pt_of (vo 9)) (pw_one_and (pt_not' (pt_of ((px_call c_law_done (by rfl) (ps_cons' (vx 11) (ps_nil'))).o))))).pt) (psx_cons (psx_exprM (pmx_app (pv 10) (pmas_one (pmx_up (b_min1 T.b_min hu ((px_call c_law_steps (by rfl) (ps_cons' (vx 11) (ps_nil'))).o)))))) (psx_one (psx_set (i := 11) nd rfl (by first | exact Or.inl rfl | exact Or.inr rfl) (px_call c_law_behind (by rfl) (ps_cons' (vx 11) (ps_cons' (px_ix (d_ix hu) (vo 10) (px_un d_neg ((px_int).o))) (ps_nil')))))))) (psx_cons (psx_if (pt_not' (pt_of ((px_call c_law_same (by rfl) (ps_cons' (px_tup (ps_cons' (vx 4) (ps_cons' (vx 5) (ps_nil')))) (ps_cons' (px_if (pt_of (vo 9)) (px_tup (ps_cons' (px_str) (ps_cons' (b_tuple T.b_tuple (vo 10)) (ps_nil')))) (px_tup (ps_cons' (px_str) (ps_cons' (vx 8) (ps_nil'))))) (ps_nil')))).o))) (psx_one (psx_ret (px_bl))) (psx_nil)) (psx_cons (psx_set (i := 12) nd rfl (by first | exact Or.inl rfl | exact Or.inr rfl) (px_if (pt_of (vo 9)) (vx 5) (b_tuple T.b_tuple (((pn_lc (own := [("room", 18)]) (by rfl) nd ((pi_range (by rfl) T.b_range (ps_cons' (vx 6) (ps_nil'))).o) (blkOk_by (by kernel_rfl)) (fun _ _ _ _ _ => pgx_nm (i := 18) nd rfl (by first | exact Or.inl rfl | exact Or.inr rfl)) (fun _ _ _ _ _ => ptx_one ((pw_and' (pt_cmp' d_notN ((px_ix (d_ix hu) (vo 7) (vx 18)).o) ((px_non).o) (nomark _)) (pw_one_and (pt_cmp' (d_ne hu) ((px_ix (d_ix hu) (vo 7) (vx 18)).o) (vo 18) (nomark _)))).pt)) (fun _ _ _ _ _ => vx 18)).x).o)))) (psx_cons (psx_for PassesOwn.never (by rfl) (pi_seq (px_bin d_add (((pn_lst (ps_cons' (vx 12) (ps_cons' (px_rev (vo 12)) (ps_cons' (px_slice d_sl (vo 12) (pox_some (px_int)) pox_none) (ps_cons' (px_bin d_add (vo 12) ((px_slice d_sl (vo 12) pox_none (pox_some (px_int))).o)) (ps_cons' (px_tup (ps_nil')) (ps_cons' (px_non) (ps_cons' (px_int) (ps_cons' (px_tup (ps_cons' (vx 6) (ps_nil'))) (ps_cons' (px_tup (ps_cons' (px_bl) (ps_nil'))) (ps_nil'))))))))))).x).o) (((pn_lc (own := [("step", 17)]) (by rfl) nd ((pi_range (by rfl) T.b_range (ps_cons' (px_int) (ps_nil'))).o) (blkOk_by (by kernel_rfl)) (fun _ _ _ _ _ => pgx_nm (i := 17) nd rfl (by first | exact Or.inl rfl | exact Or.inr rfl)) (fun _ _ _ _ _ => ptx_nil) (fun _ _ _ _ _ => px_call c_law_bent (by rfl) (ps_cons' (vx 1) (ps_cons' (vx 12) (ps_nil'))))).x).o))) (pgx_nm (i := 13) nd rfl (by first | exact Or.inl rfl | exact Or.inr rfl)) (psx_cons (psx_set (i := 16) nd rfl (by first | exact Or.inl rfl | exact Or.inr rfl) (px_call c_law_is_going (by rfl) (ps_cons' (vx 7) (ps_cons' (vx 13) (ps_nil'))))) (psx_one (psx_if ((pw_or' (pt_not' (pt_of ((px_call c_law_same (by rfl) (ps_cons' (px_call c_is_going (by rfl) (ps_cons' (vx 7) (ps_cons' (vx 13) (ps_nil')))) (ps_cons' (vx 16) (ps_nil')))).o))) (pw_one_or ((pw_and' (pt_of (vo 16)) (pw_one_and (pt_not' (pt_of (vo 9))))).pt))).pt) (psx_one (psx_ret (px_bl))) (psx_nil))))) (psx_cons (psx_set (i := 14) nd rfl (by first | exact Or.inl rfl | exact Or.inr rfl) (px_if (pt_cmp' (d_gt hu) ((b_len T.b_len (vo 8)).o) ((px_int).o) (nomark _)) (px_ix (d_ix hu) (vo 8) (px_int)) (px_tup (ps_cons' (px_int) (ps_cons' (px_int) (ps_nil')))))) (psx_cons (psx_for PassesOwn.never (by rfl) (pi_seq (px_bin d_add ((px_bin d_add (((b_list T.b_list (vo 8)).x).o) (((pn_lst (ps_cons' (vx 14) (ps_cons' (px_rev (vo 14)) (ps_cons' (px_bin d_add ((px_slice d_sl (vo 14) (pox_some (px_int)) pox_none).o) ((px_slice d_sl (vo 14) pox_none (pox_some (px_int))).o)) (ps_cons' (px_slice d_sl (vo 14) (pox_some (px_int)) pox_none) (ps_cons' (px_bin d_add (vo 14) ((px_slice d_sl (vo 14) pox_none (pox_some (px_int))).o)) (ps_cons' (px_tup (ps_nil')) (ps_cons' (px_tup (ps_cons' (px_int) (ps_nil'))) (ps_cons' (px_non) (ps_cons' (px_int) (ps_cons' (px_tr1 T.b_tuple T.b_range (vx 6)) (ps_nil')))))))))))).x).o)).o) (((pn_lc (own := [("step", 17)]) (by rfl) nd ((pi_range (by rfl) T.b_range (ps_cons' (px_int) (ps_nil'))).o) (blkOk_by (by kernel_rfl)) (fun _ _ _ _ _ => pgx_nm (i := 17) nd rfl (by first | exact Or.inl rfl | exact Or.inr rfl)) (fun _ _ _ _ _ => ptx_nil) (fun _ _ _ _ _ => px_call c_law_bent (by rfl) (ps_cons' (vx 1) (ps_cons' (vx 14) (ps_nil'))))).x).o))) (pgx_nm (i := 13) nd rfl (by first | exact Or.inl rfl | exact Or.inr rfl)) (psx_cons (psx_set (i := 16) nd rfl (by first | exact Or.inl rfl | exact Or.inr rfl) (px_call c_law_is_ring (by rfl) (ps_cons' (vx 7) (ps_cons' (vx 13) (ps_nil'))))) (psx_one (psx_if ((pw_or' (pt_not' (pt_of ((px_call c_law_same (by rfl) (ps_cons' (px_call c_is_ring (by rfl) (ps_cons' (vx 7) (ps_cons' (vx 13) (ps_nil')))) (ps_cons' (vx 16) (ps_nil')))).o))) (pw_one_or ((pw_and' (pt_of (vo 16)) (pw_one_and ((pw_or' (pt_of (vo 9)) (pw_one_or (pt_cmp' (d_notIn hu5) (vo 13) (vo 8) (by rfl)))).pt))).pt))).pt) (psx_one (psx_ret (px_bl))) (psx_nil))))) (psx_cons (psx_set (i := 15) nd rfl (by first | exact Or.inl rfl | exact Or.inr rfl) (px_call c_law_wishes (by rfl) (ps_cons' (vx 1) (ps_cons' (px_bin d_add ((px_int).o) ((px_call c_law_draw (by rfl) (ps_cons' (vx 1) (ps_cons' (px_int) (ps_nil')))).o)) (ps_nil'))))) (psx_cons (psx_if (pt_not' (pt_of ((px_call c_law_same (by rfl) (ps_cons' (px_call c_least_goings (by rfl) (ps_cons' (vx 15) (ps_nil'))) (ps_cons' (px_call c_law_fewest (by rfl) (ps_cons' (vx 15) (ps_nil'))) (ps_nil')))).o))) (psx_one (psx_ret (px_bl))) (psx_nil)) (psx_one (psx_for PassesOwn.never (by rfl) (pi_seq (px_bin d_add (((pn_lst (ps_cons' (vx 7) (ps_cons' (px_rev (vo 7)) (ps_cons' (px_bin d_add (vo 7) ((px_tup (ps_cons' (px_int) (ps_cons' (px_int) (ps_nil')))).o)) (ps_cons' (px_bin d_add (vo 7) ((px_tup (ps_cons' (px_un d_neg ((px_int).o)) (ps_nil'))).o)) (ps_cons' (px_bin d_add (vo 7) ((px_tup (ps_cons' (px_un d_neg ((px_int).o)) (ps_nil'))).o)) (ps_cons' (px_bin d_mul ((px_tup (ps_cons' (px_non) (ps_nil'))).o) ((px_int).o)) (ps_cons' (px_bin d_mul ((px_tup (ps_cons' (px_non) (ps_nil'))).o) ((px_int).o)) (ps_cons' (px_tup (ps_nil')) (ps_cons' (px_non) (ps_cons' (px_int) (ps_cons' (px_tup (ps_cons' (px_int) (ps_cons' (px_int) (ps_nil')))) (ps_cons' (px_tup (ps_cons' (px_bl) (ps_nil'))) (ps_nil')))))))))))))).x).o) (((pn_lc (own := [("step", 17)]) (by rfl) nd ((pi_range (by rfl) T.b_range (ps_cons' (px_int) (ps_nil'))).o) (blkOk_by (by kernel_rfl)) (fun _ _ _ _ _ => pgx_nm (i := 17) nd rfl (by first | exact Or.inl rfl | exact Or.inr rfl)) (fun _ _ _ _ _ => ptx_nil) (fun _ _ _ _ _ => px_call c_law_bent (by rfl) (ps_cons' (vx 1) (ps_cons' (vx 7) (ps_nil'))))).x).o))) (pgx_nm (i := 13) nd rfl (by first | exact Or.inl rfl | exact Or.inr rfl)) (psx_one (psx_if (pt_not' (pt_of ((px_call c_law_same (by rfl) (ps_cons' (px_call c_are_wishes (by rfl) (ps_cons' (vx 13) (ps_nil'))) (ps_cons' (px_call c_law_are (by rfl) (ps_cons' (vx 13) (ps_nil'))) (ps_nil')))).o))) (psx_one (psx_ret (px_bl))) (psx_nil))))))))))))))))))))) (psx_cons (psx_set (i := 3) nd rfl (by first | exact Or.inl rfl | exact Or.inr rfl) (px_call c_law_wishes (by rfl) (ps_cons' (vx 1) (ps_cons' (px_int) (ps_nil'))))) (psx_cons (psx_asg (px_call c_going (by rfl) (ps_cons' (vx 3) (ps_nil'))) (pgx_tup (by rfl) (pgx_cons (pgx_nm (i := 4) nd rfl (by first | exact Or.inl rfl | exact Or.inr rfl)) (pgx_cons (pgx_nm (i := 5) nd rfl (by first | exact Or.inl rfl | exact Or.inr rfl)) (pgx_nil))))) (psx_cons (psx_if ((pw_or' ((pw_and' (pt_cmp' (d_eq hu) (vo 4) ((px_str).o) (nomark _)) (pw_one_and (pt_not' (pt_of ((px_call c_law_same (by rfl) (ps_cons' (vx 5) (ps_cons' (px_call c_law_rings (by rfl) (ps_cons' (vx 3) (ps_nil'))) (ps_nil')))).o))))).pt) (pw_one_or ((pw_and' (pt_cmp' (d_eq hu) (vo 4) ((px_str).o) (nomark _)) (pw_one_and (pt_not' (pt_of ((px_call c_law_is_going (by rfl) (ps_cons' (vx 3) (ps_cons' (vx 5) (ps_nil')))).o))))).pt))).pt) (psx_one (psx_ret (px_bl))) (psx_nil)) (psx_one (psx_ret (px_and (px_call c_law_same (by rfl) (ps_cons' (px_call c_going (by rfl) (ps_cons' (px_tup (ps_cons' (px_int) (ps_cons' (px_int) (ps_cons' (px_un d_neg ((px_int).o)) (ps_nil'))))) (ps_nil'))) (ps_cons' (px_tup (ps_cons' (px_str) (ps_cons' (px_tup (ps_cons' (px_tup (ps_cons' (px_int) (ps_cons' (px_int) (ps_nil')))) (ps_nil'))) (ps_nil')))) (ps_nil')))) (px_and (px_call c_law_same (by rfl) (ps_cons' (px_call c_least_goings (by rfl) (ps_cons' (px_tup (ps_cons' (px_int) (ps_cons' (px_int) (ps_cons' (px_un d_neg ((px_int).o)) (ps_nil'))))) (ps_nil'))) (ps_cons' (px_int) (ps_nil')))) (px_one (px_cmp d_isN ((px_call c_least_goings (by rfl) (ps_cons' (px_tup (ps_cons' (px_int) (ps_cons' (px_int) (ps_nil')))) (ps_nil'))).o) ((px_non).o) (nomark _))))))))))
      · obtain ⟨ρ', b', e⟩ := hlaw ns hlen
        refine ⟨_, _, _, _, _, _, rel_law (n := 17) hb rfl rfl, _, ρ', b', e, fun v F' H' _ r => ?_⟩
        simp only [Rp] at r
        rw [r]
        exact k _
    have okb := ok_box (P := P) (w := w) (base := base) T.d_law_box.fu T.btF
    refine ⟨_, pss_cons (ps_set (i := 1) sc_law.nd rfl (by first | exact Or.inl rfl | exact Or.inr rfl) (pe_call okb (hr.mono (by omega)) (by rfl) T.d_law_box.mg T.d_law_box.fu.kp T.d_law_box.bi .nil pass0 (pa_cons (pv 0) pa_nil))) h2, ?_⟩
    exact ⟨_, rfl, a, ns, rfl, hS, hlen, fun p q H1 hb => q2 p q H1 hb⟩
end
end K82

set_option maxHeartbeats 1000000
/-! Pl1: plain reasoning about what defs compute. W: it ends, and the wish holds. -/
namespace Sv
open PySem (Str PyData)

def Ew (f : Ex) (ρ : Rho) (Q : D → Prop) : Prop := ∀ b, ∃ d b', f ρ b = some (d, b') ∧ Q d
def Tw (f : Tx) (ρ : Rho) (Q : Bool → Prop) : Prop := ∀ b, ∃ d b', f ρ b = some (d, b') ∧ Q d
def Aw (f : As) (ρ : Rho) (Q : List D → Prop) : Prop := ∀ b, ∃ d b', f ρ b = some (d, b') ∧ Q d
def Fw (F : Fn) (ds : List D) (Q : D → Prop) : Prop := ∀ b, ∃ d b', F ds b = some (d, b') ∧ Q d
def Mw (f : Mx) (ρ : Rho) (Q : D → Rho → Prop) : Prop := ∀ b, ∃ d ρ' b', f ρ b = some (d, ρ', b') ∧ Q d ρ'
def MAw (f : MAs) (ρ : Rho) (Q : List D → Rho → Prop) : Prop := ∀ b, ∃ d ρ' b', f ρ b = some (d, ρ', b') ∧ Q d ρ'
def Kw (f : Ks) (ρ : Rho) (Q : List Sl → Prop) : Prop := ∀ b, ∃ d b', f ρ b = some (d, b') ∧ Q d
def Sw (s : SS) (ρ : Rho) (Q : Fl → Rho → Prop) : Prop := ∀ b, ∃ fl ρ' b', s ρ b = some (fl, ρ', b') ∧ Q fl ρ'
def OrW (o : Option D) (Q : D → Prop) : Prop := ∃ r, o = some r ∧ Q r

theorem Ew.mono {f : Ex} {ρ : Rho} {Q Q' : D → Prop} (h : Ew f ρ Q) (i : ∀ d, Q d → Q' d) : Ew f ρ Q' := fun b => let ⟨d, b', e, q⟩ := h b; ⟨d, b', e, i d q⟩
theorem Tw.mono {f : Tx} {ρ : Rho} {Q Q' : Bool → Prop} (h : Tw f ρ Q) (i : ∀ d, Q d → Q' d) : Tw f ρ Q' := fun b => let ⟨d, b', e, q⟩ := h b; ⟨d, b', e, i d q⟩
theorem Aw.mono {f : As} {ρ : Rho} {Q Q' : List D → Prop} (h : Aw f ρ Q) (i : ∀ d, Q d → Q' d) : Aw f ρ Q' := fun b => let ⟨d, b', e, q⟩ := h b; ⟨d, b', e, i d q⟩
theorem Fw.mono {F : Fn} {ds : List D} {Q Q' : D → Prop} (h : Fw F ds Q) (i : ∀ d, Q d → Q' d) : Fw F ds Q' := fun b => let ⟨d, b', e, q⟩ := h b; ⟨d, b', e, i d q⟩
theorem Sw.mono {s : SS} {ρ : Rho} {Q Q' : Fl → Rho → Prop} (h : Sw s ρ Q) (i : ∀ fl ρ', Q fl ρ' → Q' fl ρ') : Sw s ρ Q' := fun b => let ⟨d, ρ', b', e, q⟩ := h b; ⟨d, ρ', b', e, i d ρ' q⟩

section
variable {ρ : Rho} {Q : D → Prop} {f f' f'' : Ex} {t u : Tx} {ag : As}
/-! ### expressions -/
theorem ew_var {i : Nat} {d : D} (e : ρ[i]? = some (Sl.frz d)) (q : Q d) : Ew (eVar i) ρ Q := fun b => ⟨d, b, by unfold eVar; rw [e], q⟩
theorem ew_bor {i : Nat} {d : D} (e : ρ[i]? = some (Sl.frz d)) (q : Q d) : Ew (eBor i) ρ Q := fun b => ⟨d, b, by unfold eBor; rw [e], q⟩
theorem ew_borO {i : Nat} {d : D} (e : ρ[i]? = some (Sl.own d)) (q : Q d) : Ew (eBor i) ρ Q := fun b => ⟨d, b, by unfold eBor; rw [e], q⟩
theorem ew_con {d : D} (q : Q d) : Ew (eCon d) ρ Q := fun b => ⟨d, b, rfl, q⟩
theorem ew_un {g : D → Option D} (h : Ew f ρ fun d => OrW (g d) Q) : Ew (eUn g f) ρ Q := fun b => by
  obtain ⟨d, b', e, r, e2, q⟩ := h b
  exact ⟨r, b', by unfold eUn; rw [e]; simp only [e2], q⟩
theorem ew_bin {g : D → D → Option D} (h : Ew f ρ fun d => Ew f' ρ fun d' => OrW (g d d') Q) : Ew (eBin g f f') ρ Q := fun b => by
  obtain ⟨d, b1, e1, h2⟩ := h b
  obtain ⟨d2, b2, e2, r, e3, q⟩ := h2 b1
  exact ⟨r, b2, by unfold eBin; rw [e1]; simp only [e2, e3], q⟩
theorem ew_fn {g : List D → Option D} (h : Aw ag ρ fun ds => OrW (g ds) Q) : Ew (eFn g ag) ρ Q := fun b => by
  obtain ⟨d, b', e, r, e2, q⟩ := h b
  exact ⟨r, b', by unfold eFn; rw [e]; simp only [e2], q⟩
theorem ew_tup (h : Aw ag ρ fun ds => Q (.tup ds)) : Ew (eTup ag) ρ Q := ew_fn (h.mono fun ds q => ⟨_, rfl, q⟩)
theorem ew_lst (h : Aw ag ρ fun ds => Q (.lst ds)) : Ew (eLst ag) ρ Q := ew_fn (h.mono fun ds q => ⟨_, rfl, q⟩)
theorem ew_call {F : Fn} (h : Aw ag ρ fun ds => Fw F ds Q) : Ew (eCall F ag) ρ Q := fun b => by
  obtain ⟨d, b1, e1, h2⟩ := h b
  obtain ⟨d2, b2, e2, q⟩ := h2 b1
  exact ⟨d2, b2, by unfold eCall; rw [e1]; exact e2, q⟩
theorem ew_callO {F : Fn} (h : Aw ag ρ fun ds => Fw F ds fun d => d.flat = true ∧ Q d) : Ew (eCallO F ag) ρ Q := fun b => by
  obtain ⟨d, b1, e1, h2⟩ := h b
  obtain ⟨d2, b2, e2, fl, q⟩ := h2 b1
  exact ⟨d2, b2, by unfold eCallO; rw [e1]; simp only [e2, fl, if_true], q⟩
theorem ew_if (h : Tw t ρ fun k => (k = true → Ew f ρ Q) ∧ (k = false → Ew f' ρ Q)) : Ew (eIf t f f') ρ Q := fun b => by
  obtain ⟨k, b1, e1, h1, h2⟩ := h b
  cases k with
  | true =>
    obtain ⟨d, b2, e2, q⟩ := h1 rfl b1
    exact ⟨d, b2, by unfold eIf; rw [e1]; exact e2, q⟩
  | false =>
    obtain ⟨d, b2, e2, q⟩ := h2 rfl b1
    exact ⟨d, b2, by unfold eIf; rw [e1]; exact e2, q⟩
theorem ew_and (h : Ew f ρ fun d => ∃ k, truthD d = some k ∧ (k = true → Ew f' ρ Q) ∧ (k = false → Q d)) : Ew (eAnd f f') ρ Q := fun b => by
  obtain ⟨d, b1, e1, k, ek, h1, h2⟩ := h b
  cases k with
  | true =>
    obtain ⟨d2, b2, e2, q⟩ := h1 rfl b1
    exact ⟨d2, b2, by unfold eAnd; rw [e1]; simp only [ek, e2], q⟩
  | false => exact ⟨d, b1, by unfold eAnd; rw [e1]; simp only [ek], h2 rfl⟩
theorem ew_or (h : Ew f ρ fun d => ∃ k, truthD d = some k ∧ (k = true → Q d) ∧ (k = false → Ew f' ρ Q)) : Ew (eOr f f') ρ Q := fun b => by
  obtain ⟨d, b1, e1, k, ek, h1, h2⟩ := h b
  cases k with
  | true => exact ⟨d, b1, by unfold eOr; rw [e1]; simp only [ek], h1 rfl⟩
  | false =>
    obtain ⟨d2, b2, e2, q⟩ := h2 rfl b1
    exact ⟨d2, b2, by unfold eOr; rw [e1]; simp only [ek, e2], q⟩
theorem ew_not (h : Ew f ρ fun d => ∃ k, truthD d = some k ∧ Q (.bl (!k))) : Ew (eNot f) ρ Q := ew_un (h.mono fun d ⟨k, e, q⟩ => ⟨_, by rw [e]; rfl, q⟩)
/-- and, or of truth values: one way -/
theorem ew_andB {x y : Bool} (h : Ew f ρ fun d => d = .bl x) (h' : x = true → Ew f' ρ fun d => d = .bl y) (q : Q (.bl (x && y))) : Ew (eAnd f f') ρ Q := ew_and (h.mono fun d e => by
  subst e
  refine ⟨x, rfl, fun e => (h' e).mono fun d e' => ?_, fun e => ?_⟩
  · subst e; subst e'; simpa using q
  · subst e; simpa using q)
theorem ew_orB {x y : Bool} (h : Ew f ρ fun d => d = .bl x) (h' : x = false → Ew f' ρ fun d => d = .bl y) (q : Q (.bl (x || y))) : Ew (eOr f f') ρ Q := ew_or (h.mono fun d e => by
  subst e
  refine ⟨x, rfl, fun e => ?_, fun e => (h' e).mono fun d e' => ?_⟩
  · subst e; simpa using q
  · subst e; subst e'; simpa using q)
theorem ew_chain {g g' : D → D → Option D} (h : Ew f ρ fun d => Ew f' ρ fun e => ∃ k, g d e = some (.bl k) ∧ (k = true → Ew f'' ρ fun c => OrW (g' e c) Q) ∧ (k = false → Q (.bl false))) : Ew (eChain g g' f f' f'') ρ Q := fun b => by
  obtain ⟨d, b1, e1, h⟩ := h b
  obtain ⟨e, b2, e2, k, ek, h1, h2⟩ := h b1
  cases k with
  | true =>
    obtain ⟨c, b3, e3, r, er, q⟩ := h1 rfl b2
    exact ⟨r, b3, by unfold eChain; rw [e1]; simp only [e2, ek, e3, er], q⟩
  | false => exact ⟨_, b2, by unfold eChain; rw [e1]; simp only [e2, ek], h2 rfl⟩
def Ow (o : Option Ex) (ρ : Rho) (Q : Option Int → Prop) : Prop := ∀ b, ∃ d b', eOpt o ρ b = some (d, b') ∧ Q d
theorem ow_none {Q : Option Int → Prop} (q : Q none) : Ow none ρ Q := fun b => ⟨none, b, rfl, q⟩
theorem ow_some {Q : Option Int → Prop} (h : Ew f ρ fun d => ∃ i, d = .int i ∧ Q (some i)) : Ow (some f) ρ Q := fun b => by
  obtain ⟨d, b1, e1, i, rfl, q⟩ := h b
  exact ⟨some i, b1, by show (match f ρ b with | some (D.int i, b1) => some (some i, b1) | _ => none) = _; rw [e1], q⟩
theorem ew_slice {lo hi : Option Ex} (h : Ew f ρ fun d => Ow lo ρ fun l => Ow hi ρ fun u => OrW (sliceD d l u) Q) : Ew (eSlice f lo hi) ρ Q := fun b => by
  obtain ⟨d, b1, e1, h⟩ := h b
  obtain ⟨l, b2, e2, h⟩ := h b1
  obtain ⟨u, b3, e3, r, e4, q⟩ := h b2
  exact ⟨r, b3, by unfold eSlice; rw [e1]; simp only [e2, e3, e4], q⟩
/-! ### tests -/
theorem tw_bl {Q : Bool → Prop} (h : Ew f ρ fun d => ∃ k, d = .bl k ∧ Q k) : Tw (tBl f) ρ Q := fun b => by
  obtain ⟨d, b1, e1, k, rfl, q⟩ := h b
  exact ⟨k, b1, by unfold tBl; rw [e1], q⟩
theorem tw_of {Q : Bool → Prop} (h : Ew f ρ fun d => ∃ k, truthD d = some k ∧ Q k) : Tw (tOf f) ρ Q := fun b => by
  obtain ⟨d, b1, e1, k, e2, q⟩ := h b
  exact ⟨k, b1, by unfold tOf; rw [e1]; simp only [e2], q⟩
theorem tw_not {Q : Bool → Prop} (h : Tw t ρ fun k => Q (!k)) : Tw (tNot t) ρ Q := fun b => by
  obtain ⟨k, b1, e1, q⟩ := h b
  exact ⟨!k, b1, by unfold tNot; rw [e1], q⟩
theorem tw_and {Q : Bool → Prop} (h : Tw t ρ fun k => (k = true → Tw u ρ Q) ∧ (k = false → Q false)) : Tw (tAnd t u) ρ Q := fun b => by
  obtain ⟨k, b1, e1, h1, h2⟩ := h b
  cases k with
  | true =>
    obtain ⟨d, b2, e2, q⟩ := h1 rfl b1
    exact ⟨d, b2, by unfold tAnd; rw [e1]; exact e2, q⟩
  | false => exact ⟨false, b1, by unfold tAnd; rw [e1], h2 rfl⟩
theorem tw_or {Q : Bool → Prop} (h : Tw t ρ fun k => (k = true → Q true) ∧ (k = false → Tw u ρ Q)) : Tw (tOr t u) ρ Q := fun b => by
  obtain ⟨k, b1, e1, h1, h2⟩ := h b
  cases k with
  | true => exact ⟨true, b1, by unfold tOr; rw [e1], h1 rfl⟩
  | false =>
    obtain ⟨d, b2, e2, q⟩ := h2 rfl b1
    exact ⟨d, b2, by unfold tOr; rw [e1]; exact e2, q⟩
theorem tw_andB {Q : Bool → Prop} {x y : Bool} (h : Tw t ρ fun k => k = x) (h' : x = true → Tw u ρ fun k => k = y) (q : Q (x && y)) : Tw (tAnd t u) ρ Q := tw_and (h.mono fun k e => by
  subst e
  refine ⟨fun e => (h' e).mono fun d e' => ?_, fun e => ?_⟩
  · subst e; subst e'; simpa using q
  · subst e; simpa using q)
theorem tw_orB {Q : Bool → Prop} {x y : Bool} (h : Tw t ρ fun k => k = x) (h' : x = false → Tw u ρ fun k => k = y) (q : Q (x || y)) : Tw (tOr t u) ρ Q := tw_or (h.mono fun k e => by
  subst e
  refine ⟨fun e => ?_, fun e => (h' e).mono fun d e' => ?_⟩
  · subst e; simpa using q
  · subst e; subst e'; simpa using q)
theorem tw_yes {Q : Bool → Prop} (q : Q true) : Tw tYes' ρ Q := fun b => ⟨true, b, rfl, q⟩
/-! ### arguments -/
theorem aw_nil {Q : List D → Prop} (q : Q []) : Aw aNil ρ Q := fun b => ⟨[], b, rfl, q⟩
theorem aw_cons {Q : List D → Prop} (h : Ew f ρ fun d => Aw ag ρ fun ds => Q (d :: ds)) : Aw (aCons f ag) ρ Q := fun b => by
  obtain ⟨d, b1, e1, h⟩ := h b
  obtain ⟨ds, b2, e2, q⟩ := h b1
  exact ⟨_, b2, by unfold aCons; rw [e1]; simp only [e2], q⟩
/-! ### what is walked -/
def Iw (f : It) (ρ : Rho) (Q : List D → Prop) : Prop := ∀ b, ∃ d b', f ρ b = some (d, b') ∧ Q d
theorem iw_seq {Q : List D → Prop} (h : Ew f ρ fun d => ∃ xs, itemsD d = some xs ∧ Q xs) : Iw (iSeq f) ρ Q := fun b => by
  obtain ⟨d, b1, e1, xs, e2, q⟩ := h b
  exact ⟨xs, b1, by unfold iSeq; rw [e1]; simp only [e2], q⟩
theorem iw_str {Q : List D → Prop} (h : Ew f ρ fun d => ∃ z, d = .str z ∧ z.length ≤ PySem.sizeLine ∧ Q (z.cps.toList.map fun c => .str ⟨#[c]⟩)) : Iw (iStr f) ρ Q := fun b => by
  obtain ⟨d, b1, e1, z, rfl, hz, q⟩ := h b
  exact ⟨_, b1, by unfold iStr; rw [e1]; simp only [hz, if_true], q⟩
theorem iw_range {Q : List D → Prop} (h : Aw ag ρ fun ds => ∃ j xs, ds = [.int j] ∧ rangeD 0 j = some xs ∧ Q xs) : Iw (iRange ag) ρ Q := fun b => by
  obtain ⟨d, b1, e1, j, xs, rfl, e2, q⟩ := h b
  exact ⟨xs, b1, by unfold iRange; rw [e1]; simp only [e2], q⟩
theorem iw_range2 {Q : List D → Prop} (h : Aw ag ρ fun ds => ∃ i j xs, ds = [.int i, .int j] ∧ rangeD i j = some xs ∧ Q xs) : Iw (iRange ag) ρ Q := fun b => by
  obtain ⟨d, b1, e1, i, j, xs, rfl, e2, q⟩ := h b
  exact ⟨xs, b1, by unfold iRange; rw [e1]; simp only [e2], q⟩
theorem iw_enum {Q : List D → Prop} (h : Ew f ρ fun d => ∃ xs, itemsD d = some xs ∧ Q (enumD 0 xs)) : Iw (iEnum f) ρ Q := fun b => by
  obtain ⟨d, b1, e1, xs, e2, q⟩ := h b
  exact ⟨_, b1, by unfold iEnum; rw [e1]; simp only [e2], q⟩
theorem iw_zip {Q : List D → Prop} (h : Ew f ρ fun d => Ew f' ρ fun e => ∃ xs, zipDD d e = some xs ∧ Q xs) : Iw (iZip f f') ρ Q := fun b => by
  obtain ⟨d, b1, e1, h⟩ := h b
  obtain ⟨e, b2, e2, xs, e3, q⟩ := h b1
  exact ⟨xs, b2, by unfold iZip; rw [e1]; simp only [e2, e3], q⟩
/-! ### comprehensions -/
/-- R by the items done and what is made -/
theorem ew_lcI {it : It} {g : Tg} {vs : List Nat} (ds : List D) (R : Nat → List D → Prop) (hi : Iw it ρ fun xs => xs = ds) (h0 : R 0 [])
    (hs : ∀ i d acc, ds[i]? = some d → R i acc → ∃ ρ1, g d (wipeR ρ vs) = some ρ1 ∧ Tw t ρ1 fun k => (k = true → Ew f ρ1 fun r => R (i + 1) (acc ++ [r])) ∧ (k = false → R (i + 1) acc)) (q : ∀ acc, R ds.length acc → Q (.lst acc)) : Ew (eLc it g t f vs) ρ Q := fun b => by
  obtain ⟨_, b1, e1, rfl⟩ := hi b
  rename_i ds
  have go : ∀ (n i : Nat) (acc : List D) (b : Bx), n = ds.length - i → i ≤ ds.length → R i acc → ∃ rs b', lcGo g t f (wipeR ρ vs) (ds.drop i) b = some (rs, b') ∧ R ds.length (acc ++ rs) := by
    intro n
    induction n with
    | zero =>
      intro i acc b hn hi r
      have : i = ds.length := by omega
      subst this
      exact ⟨[], b, by rw [List.drop_length]; rfl, by simpa using r⟩
    | succ n ih =>
      intro i acc b hn hi r
      have hlt : i < ds.length := by omega
      obtain ⟨ρ1, e1, h⟩ := hs i ds[i] acc (List.getElem?_eq_getElem hlt) r
      obtain ⟨k, b1, e2, h1, h2⟩ := h b
      rw [List.drop_eq_getElem_cons hlt]
      cases k with
      | true =>
        obtain ⟨d, b2, e3, r'⟩ := h1 rfl b1
        obtain ⟨rs, b3, e4, r2⟩ := ih (i + 1) _ b2 (by omega) hlt r'
        exact ⟨d :: rs, b3, by unfold lcGo; simp only [e1, e2, e3, e4], by simpa using r2⟩
      | false =>
        obtain ⟨rs, b3, e4, r2⟩ := ih (i + 1) _ b1 (by omega) hlt (h2 rfl)
        exact ⟨rs, b3, by unfold lcGo; simp only [e1, e2, e4], r2⟩
  obtain ⟨rs, b2, e2, r⟩ := go _ 0 [] b1 rfl (Nat.zero_le _) h0
  rw [List.drop_zero] at e2
  exact ⟨.lst rs, b2, by unfold eLc; rw [e1]; simp only [e2], q rs (by simpa using r)⟩
/-- each item by itself, of typed items -/
theorem ew_lc {α : Type} {it : It} {g : Tg} {vs : List Nat} (xs : List α) (enc : α → D) (p : α → Bool) (res : α → D) (hi : Iw it ρ fun ds => ds = xs.map enc)
    (hs : ∀ x ∈ xs, ∃ ρ1, g (enc x) (wipeR ρ vs) = some ρ1 ∧ Tw t ρ1 fun k => k = p x ∧ (k = true → Ew f ρ1 fun r => r = res x)) (q : Q (.lst ((xs.filter p).map res))) : Ew (eLc it g t f vs) ρ Q := by
  refine ew_lcI (xs.map enc) (fun i acc => acc = ((xs.take i).filter p).map res) hi rfl (fun i d acc e r => ?_) fun acc r => ?_
  · rw [List.getElem?_map] at e
    cases ex : xs[i]? with
    | none => rw [ex] at e; cases e
    | some x =>
      rw [ex] at e; cases e
      obtain ⟨hl, hx⟩ := List.getElem?_eq_some_iff.mp ex
      obtain ⟨ρ1, e1, h⟩ := hs x (List.mem_of_getElem? ex)
      have ht : xs.take (i + 1) = xs.take i ++ [x] := by rw [List.take_succ, ex]; rfl
      refine ⟨ρ1, e1, h.mono fun k ⟨hk, h2⟩ => ⟨fun e => (h2 e).mono fun r' hr' => ?_, fun e => ?_⟩⟩
      · subst hr'
        rw [ht, List.filter_append, List.map_append, r]
        rw [hk] at e
        simp [e]
      · rw [ht, List.filter_append, List.map_append, r]
        rw [hk] at e
        simp [e]
  · rw [List.length_map, List.take_length] at r
    rw [r]; exact q
/-- .. no test -/
theorem ew_lcM {α : Type} {it : It} {g : Tg} {vs : List Nat} (xs : List α) (enc : α → D) (res : α → D) (hi : Iw it ρ fun ds => ds = xs.map enc)
    (hs : ∀ x ∈ xs, ∃ ρ1, g (enc x) (wipeR ρ vs) = some ρ1 ∧ Ew f ρ1 fun r => r = res x) (q : Q (.lst (xs.map res))) : Ew (eLc it g tYes' f vs) ρ Q :=
  ew_lc xs enc (fun _ => true) res hi (fun x hx => let ⟨ρ1, e, h⟩ := hs x hx; ⟨ρ1, e, tw_yes ⟨rfl, fun _ => h⟩⟩) (by rw [List.filter_eq_self.mpr fun _ _ => rfl]; exact q)
/-- .. what is made is of a kind -/
theorem ew_lcK {α β : Type} {it : It} {g : Tg} {vs : List Nat} (xs : List α) (enc : α → D) (enc' : β → D) (P : α → β → Prop) (hi : Iw it ρ fun ds => ds = xs.map enc)
    (hs : ∀ x ∈ xs, ∃ ρ1, g (enc x) (wipeR ρ vs) = some ρ1 ∧ Ew f ρ1 fun r => ∃ y, r = enc' y ∧ P x y) (q : ∀ ys : List β, ys.length = xs.length → (∀ (i : Nat) x y, xs[i]? = some x → ys[i]? = some y → P x y) → Q (.lst (ys.map enc'))) : Ew (eLc it g tYes' f vs) ρ Q := by
  refine ew_lcI (xs.map enc) (fun i acc => ∃ ys : List β, acc = ys.map enc' ∧ ys.length = i ∧ ∀ (j : Nat) x y, xs[j]? = some x → ys[j]? = some y → P x y) hi ⟨[], rfl, rfl, fun _ _ _ _ e => by simp at e⟩ (fun i d acc e r => ?_) fun acc r => ?_
  · rw [List.getElem?_map] at e
    cases ex : xs[i]? with
    | none => rw [ex] at e; cases e
    | some x =>
      rw [ex] at e; cases e
      obtain ⟨ys, ey, hl, hp⟩ := r
      obtain ⟨ρ1, e1, h⟩ := hs x (List.mem_of_getElem? ex)
      refine ⟨ρ1, e1, tw_yes ⟨fun _ => h.mono fun r ⟨y, er, hy⟩ => ⟨ys ++ [y], by rw [ey, er]; simp, by simp [hl], fun j x' y' e1 e2 => ?_⟩, fun e => by cases e⟩⟩
      by_cases hj : j < ys.length
      · rw [List.getElem?_append_left hj] at e2
        exact hp j x' y' e1 e2
      · have hj2 : j = i := by
          have := (List.getElem?_eq_some_iff.mp e2).1
          simp at this; omega
        subst hj2
        rw [ex] at e1; cases e1
        rw [List.getElem?_append_right (by omega)] at e2
        simp [hl] at e2
        subst e2; exact hy
  · obtain ⟨ys, ey, hl, hp⟩ := r
    rw [ey]
    exact q ys (by simpa using hl) hp
end
/-! ### defs -/
theorem fw_run {n : Nat} {s : SS} {ds : List D} {Q : D → Prop} (h : Sw s (ds.map Sl.frz ++ List.replicate (n - ds.length) .emp) fun fl _ => (∃ d, fl = .rt d ∧ Q d) ∨ (fl = .nx ∧ Q .non)) : Fw (runF n s) ds Q := fun b => by
  obtain ⟨fl, ρ', b', e, q⟩ := h b
  rcases q with ⟨d, rfl, q⟩ | ⟨rfl, q⟩
  · exact ⟨d, b', by unfold runF; rw [e], q⟩
  · exact ⟨.non, b', by unfold runF; rw [e], q⟩
/-- .. that returns -/
@[reducible] def RtQ (Q : D → Prop) : Fl → Rho → Prop := fun fl _ => ∃ d, fl = .rt d ∧ Q d
theorem fw_rt {n : Nat} {s : SS} {ds : List D} {Q : D → Prop} (h : Sw s (ds.map Sl.frz ++ List.replicate (n - ds.length) .emp) (RtQ Q)) : Fw (runF n s) ds Q := fw_run (h.mono fun _ _ q => .inl q)
theorem fw_draw {n : Int} {Q : D → Prop} (h0 : 0 < n) (h1 : n < 2 ^ 30) (q : ∀ i : Int, 0 ≤ i → i < n → Q (.int i)) : Fw drawF [.tok 0, .int n] Q := fun b => by
  refine ⟨.int (drawB b n).1, (drawB b n).2, ?_, q _ ?_ ?_⟩
  · have : n ≠ 0 ∧ n.natAbs < 2 ^ 30 := ⟨by omega, by omega⟩
    simp only [drawF, this, and_self, ne_eq, not_false_eq_true, if_true]
  · exact Int.fmod_nonneg_of_pos _ h0
  · exact Int.fmod_lt_of_pos _ h0
/-! ### statements -/
@[reducible] def Then (K : Rho → Prop) (Q : Fl → Rho → Prop) : Fl → Rho → Prop := fun fl ρ => match fl with
  | .nx => K ρ
  | fl => Q fl ρ
section
variable {ρ : Rho} {Q : Fl → Rho → Prop} {f f' : Ex} {t : Tx} {s s' : SS}
theorem sw_nx (q : Q .nx ρ) : Sw sNx ρ Q := fun b => ⟨.nx, ρ, b, rfl, q⟩
theorem sw_bk (q : Q .bk ρ) : Sw sBk ρ Q := fun b => ⟨.bk, ρ, b, rfl, q⟩
theorem sw_ct (q : Q .ct ρ) : Sw sCt ρ Q := fun b => ⟨.ct, ρ, b, rfl, q⟩
theorem sw_seq (h : Sw s ρ (Then (fun ρ1 => Sw s' ρ1 Q) Q)) : Sw (sSeq s s') ρ Q := fun b => by
  obtain ⟨fl, ρ1, b1, e1, h⟩ := h b
  cases fl with
  | nx =>
    obtain ⟨fl, ρ2, b2, e2, q⟩ := (h : Sw s' ρ1 Q) b1
    exact ⟨fl, ρ2, b2, by unfold sSeq; rw [e1]; exact e2, q⟩
  | bk => exact ⟨.bk, ρ1, b1, by unfold sSeq; rw [e1], h⟩
  | ct => exact ⟨.ct, ρ1, b1, by unfold sSeq; rw [e1], h⟩
  | rt d => exact ⟨.rt d, ρ1, b1, by unfold sSeq; rw [e1], h⟩
theorem sw_ret (h : Ew f ρ fun d => Q (.rt d) ρ) : Sw (sRet f) ρ Q := fun b => by
  obtain ⟨d, b1, e1, q⟩ := h b
  exact ⟨.rt d, ρ, b1, by unfold sRet; rw [e1], q⟩
theorem sw_rt {Q : D → Prop} (h : Ew f ρ Q) : Sw (sRet f) ρ (RtQ Q) := sw_ret (h.mono fun d q => ⟨d, rfl, q⟩)
theorem sw_if (h : Tw t ρ fun k => (k = true → Sw s ρ Q) ∧ (k = false → Sw s' ρ Q)) : Sw (sIf t s s') ρ Q := fun b => by
  obtain ⟨k, b1, e1, h1, h2⟩ := h b
  cases k with
  | true =>
    obtain ⟨fl, ρ1, b2, e2, q⟩ := h1 rfl b1
    exact ⟨fl, ρ1, b2, by unfold sIf; rw [e1]; exact e2, q⟩
  | false =>
    obtain ⟨fl, ρ1, b2, e2, q⟩ := h2 rfl b1
    exact ⟨fl, ρ1, b2, by unfold sIf; rw [e1]; exact e2, q⟩
theorem sw_set {i : Nat} (h : Ew f ρ fun d => Q .nx (ρ.set i (Sl.frz d))) : Sw (sSet i f) ρ Q := fun b => by
  obtain ⟨d, b1, e1, q⟩ := h b
  exact ⟨.nx, _, b1, by unfold sSet; rw [e1], q⟩
theorem sw_new {i : Nat} (h : Ew f ρ fun d => Q .nx (ρ.set i (Sl.own d))) : Sw (sNew i f) ρ Q := fun b => by
  obtain ⟨d, b1, e1, q⟩ := h b
  exact ⟨.nx, _, b1, by unfold sNew; rw [e1], q⟩
theorem sw_asg {g : Tg} (h : Ew f ρ fun d => ∃ ρ1, g d ρ = some ρ1 ∧ Q .nx ρ1) : Sw (sAsg g f) ρ Q := fun b => by
  obtain ⟨d, b1, e1, ρ1, e2, q⟩ := h b
  exact ⟨.nx, _, b1, by unfold sAsg; rw [e1]; simp only [e2], q⟩
theorem sw_expr (h : Ew f ρ fun d => Q .nx ρ) : Sw (sExpr f) ρ Q := fun b => by
  obtain ⟨d, b1, e1, q⟩ := h b
  exact ⟨.nx, _, b1, by unfold sExpr; rw [e1], q⟩
theorem sw_fz {i : Nat} {d : D} (e : ρ[i]? = some (Sl.own d)) (q : Q .nx (ρ.set i (Sl.frz d))) : Sw (sFz i) ρ Q := fun b => ⟨.nx, _, b, by unfold sFz; rw [e], q⟩
theorem kw_nil {Q : List Sl → Prop} (q : Q []) : Kw kNil ρ Q := fun b => ⟨[], b, rfl, q⟩
theorem kw_frz {Q : List Sl → Prop} {g : Ks} (h : Ew f ρ fun d => Kw g ρ fun ss => Q (.frz d :: ss)) : Kw (kFrz f g) ρ Q := fun b => by
  obtain ⟨d, b1, e1, h⟩ := h b
  obtain ⟨ds, b2, e2, q⟩ := h b1
  exact ⟨_, b2, by unfold kFrz; rw [e1]; simp only [e2], q⟩
theorem kw_new {Q : List Sl → Prop} {g : Ks} (h : Ew f ρ fun d => Kw g ρ fun ss => Q (.own d :: ss)) : Kw (kNew f g) ρ Q := fun b => by
  obtain ⟨d, b1, e1, h⟩ := h b
  obtain ⟨ds, b2, e2, q⟩ := h b1
  exact ⟨_, b2, by unfold kNew; rw [e1]; simp only [e2], q⟩
theorem sw_par {is : List Nat} {k : Ks} (h : Kw k ρ fun ss => Q .nx (setK ρ is ss)) : Sw (sPar is k) ρ Q := fun b => by
  obtain ⟨d, b1, e1, q⟩ := h b
  exact ⟨.nx, _, b1, by unfold sPar; rw [e1], q⟩
/-- for: I by the items done; E: what holds where it goes on -/
theorem sw_for {it : It} {g : Tg} (ds : List D) (I : Nat → Rho → Prop) (hi : Iw it ρ fun xs => xs = ds) (h0 : I 0 ρ)
    (hs : ∀ i d ρ1, ds[i]? = some d → I i ρ1 → ∃ ρ2, g d ρ1 = some ρ2 ∧ Sw s ρ2 fun fl ρ3 => match fl with | .nx => I (i + 1) ρ3 | .ct => I (i + 1) ρ3 | .bk => Q .nx ρ3 | .rt d => Q (.rt d) ρ3) (q : ∀ ρ1, I ds.length ρ1 → Q .nx ρ1) : Sw (sFor it g s) ρ Q := fun b => by
  obtain ⟨_, b1, e1, rfl⟩ := hi b
  rename_i ds
  have go : ∀ (n i : Nat) (ρ1 : Rho) (b : Bx), n = ds.length - i → i ≤ ds.length → I i ρ1 → ∃ fl ρ' b', forGo g s (ds.drop i) ρ1 b = some (fl, ρ', b') ∧ Q fl ρ' := by
    intro n
    induction n with
    | zero =>
      intro i ρ1 b hn hi r
      have : i = ds.length := by omega
      subst this
      exact ⟨.nx, ρ1, b, by rw [List.drop_length]; rfl, q _ r⟩
    | succ n ih =>
      intro i ρ1 b hn hi r
      have hlt : i < ds.length := by omega
      obtain ⟨ρ2, e1, h⟩ := hs i ds[i] ρ1 (List.getElem?_eq_getElem hlt) r
      obtain ⟨fl, ρ3, b2, e2, h⟩ := h b
      rw [List.drop_eq_getElem_cons hlt]
      cases fl with
      | nx =>
        obtain ⟨fl, ρ', b', e3, q'⟩ := ih (i + 1) ρ3 b2 (by omega) hlt h
        exact ⟨fl, ρ', b', by unfold forGo; simp only [e1, e2, e3], q'⟩
      | ct =>
        obtain ⟨fl, ρ', b', e3, q'⟩ := ih (i + 1) ρ3 b2 (by omega) hlt h
        exact ⟨fl, ρ', b', by unfold forGo; simp only [e1, e2, e3], q'⟩
      | bk => exact ⟨.nx, ρ3, b2, by unfold forGo; simp only [e1, e2], h⟩
      | rt d => exact ⟨.rt d, ρ3, b2, by unfold forGo; simp only [e1, e2], h⟩
  obtain ⟨fl, ρ', b', e2, q'⟩ := go _ 0 ρ b1 rfl (Nat.zero_le _) h0
  rw [List.drop_zero] at e2
  exact ⟨fl, ρ', b', by unfold sFor; rw [e1]; exact e2, q'⟩
/-- while: I by a measure -/
theorem sw_wh (n : Nat) (I : Nat → Rho → Prop) (hn : n < 100000) (h0 : I n ρ)
    (hs : ∀ m ρ1, I m ρ1 → Tw t ρ1 fun k => (k = false → Q .nx ρ1) ∧ (k = true → Sw s ρ1 fun fl ρ3 => match fl with | .nx => ∃ m', m' < m ∧ I m' ρ3 | .ct => ∃ m', m' < m ∧ I m' ρ3 | .bk => Q .nx ρ3 | .rt d => Q (.rt d) ρ3)) : Sw (sWh t s) ρ Q := fun b => by
  have go : ∀ (N m : Nat) (ρ1 : Rho) (b : Bx), m < N → I m ρ1 → ∃ fl ρ' b', whGo t s N ρ1 b = some (fl, ρ', b') ∧ Q fl ρ' := by
    intro N
    induction N with
    | zero => intro m ρ1 b h; omega
    | succ N ih =>
      intro m ρ1 b hm r
      obtain ⟨k, b1, e1, h1, h2⟩ := hs m ρ1 r b
      cases k with
      | false => exact ⟨.nx, ρ1, b1, by unfold whGo; simp only [e1], h1 rfl⟩
      | true =>
        obtain ⟨fl, ρ3, b2, e2, h⟩ := h2 rfl b1
        cases fl with
        | nx =>
          obtain ⟨m', hm', r'⟩ := h
          obtain ⟨fl, ρ', b', e3, q'⟩ := ih m' ρ3 b2 (by omega) r'
          exact ⟨fl, ρ', b', by unfold whGo; simp only [e1, e2, e3], q'⟩
        | ct =>
          obtain ⟨m', hm', r'⟩ := h
          obtain ⟨fl, ρ', b', e3, q'⟩ := ih m' ρ3 b2 (by omega) r'
          exact ⟨fl, ρ', b', by unfold whGo; simp only [e1, e2, e3], q'⟩
        | bk => exact ⟨.nx, ρ3, b2, by unfold whGo; simp only [e1, e2], h⟩
        | rt d => exact ⟨.rt d, ρ3, b2, by unfold whGo; simp only [e1, e2], h⟩
  exact go 100000 n ρ b hn h0
/-! ### changes in place -/
theorem mw_up {Q : D → Rho → Prop} (h : Ew f ρ fun d => Q d ρ) : Mw (mUp f) ρ Q := fun b => by
  obtain ⟨d, b1, e1, q⟩ := h b
  exact ⟨d, ρ, b1, by unfold mUp; rw [e1], q⟩
theorem maw_up {Q : List D → Rho → Prop} {ag : As} (h : Aw ag ρ fun d => Q d ρ) : MAw (mUpA ag) ρ Q := fun b => by
  obtain ⟨d, b1, e1, q⟩ := h b
  exact ⟨d, ρ, b1, by unfold mUpA; rw [e1], q⟩
theorem maw_one {Q : List D → Rho → Prop} {g : Mx} (h : Mw g ρ fun d ρ1 => Q [d] ρ1) : MAw (mOne g) ρ Q := fun b => by
  obtain ⟨d, ρ1, b1, e1, q⟩ := h b
  exact ⟨[d], ρ1, b1, by unfold mOne; rw [e1], q⟩
theorem maw_nil {Q : List D → Rho → Prop} (q : Q [] ρ) : MAw mNil ρ Q := fun b => ⟨[], ρ, b, rfl, q⟩
theorem mw_meth {Q : D → Rho → Prop} {i : Nat} {k : List D → List D → Option (D × List D)} {g : MAs} {xs0 : List D} (e0 : ρ[i]? = some (Sl.own (.lst xs0))) (h : MAw g ρ fun ds ρ1 => ∃ xs r ys, ρ1[i]? = some (Sl.own (.lst xs)) ∧ k xs ds = some (r, ys) ∧ Q r (ρ1.set i (.own (.lst ys)))) : Mw (mMeth i k g) ρ Q := fun b => by
  obtain ⟨ds, ρ1, b1, e1, xs, r, ys, e2, e3, q⟩ := h b
  exact ⟨r, _, b1, by unfold mMeth; rw [e0]; simp only [e1, e2, e3], q⟩
theorem sw_exprM {g : Mx} (h : Mw g ρ fun d ρ1 => Q .nx ρ1) : Sw (sExprM g) ρ Q := fun b => by
  obtain ⟨d, ρ1, b1, e1, q⟩ := h b
  exact ⟨.nx, _, b1, by unfold sExprM; rw [e1], q⟩
theorem sw_setM {g : Mx} {i : Nat} (h : Mw g ρ fun d ρ1 => Q .nx (ρ1.set i (.frz d))) : Sw (sSetM i g) ρ Q := fun b => by
  obtain ⟨d, ρ1, b1, e1, q⟩ := h b
  exact ⟨.nx, _, b1, by unfold sSetM; rw [e1], q⟩
theorem sw_asgM {g : Mx} {tg : Tg} (h : Mw g ρ fun d ρ1 => ∃ ρ2, tg d ρ1 = some ρ2 ∧ Q .nx ρ2) : Sw (sAsgM tg g) ρ Q := fun b => by
  obtain ⟨d, ρ1, b1, e1, ρ2, e2, q⟩ := h b
  exact ⟨.nx, _, b1, by unfold sAsgM; rw [e1]; simp only [e2], q⟩
theorem sw_store {i : Nat} (h : Ew f' ρ fun d => ∃ xs, ρ[i]? = some (Sl.own (.lst xs)) ∧ Ew f ρ fun z => ∃ k j, z = .int k ∧ L2.ixN xs.length k = some j ∧ Q .nx (ρ.set i (.own (.lst (xs.set j d))))) : Sw (sStore i f f') ρ Q := fun b => by
  obtain ⟨d, b1, e1, xs, e2, h⟩ := h b
  obtain ⟨z, b2, e3, k, j, rfl, e4, q⟩ := h b1
  exact ⟨.nx, _, b2, by unfold sStore; rw [e1]; simp only [e2, e3, e4], q⟩
theorem sw_augI {i : Nat} {k : Int → Int → Int} {x : Int} (e0 : ρ[i]? = some (Sl.frz (.int x))) (h : Ew f ρ fun d => ∃ y, d = .int y ∧ Q .nx (ρ.set i (.frz (.int (k x y))))) : Sw (sAugI i k f) ρ Q := fun b => by
  obtain ⟨d, b1, e1, y, rfl, q⟩ := h b
  exact ⟨.nx, _, b1, by unfold sAugI; rw [e0]; simp only [e1], q⟩
end
end Sv

set_option maxHeartbeats 1000000
/-! Pl2: operations on typed data. -/
namespace Sv
open PySem (Str PyData)

theorem OrW.of {o : Option D} {Q : D → Prop} {r : D} (e : o = some r) (q : Q r) : OrW o Q := ⟨r, e, q⟩
abbrev tI (xs : List Int) : D := .tup (xs.map .int)
abbrev lI (xs : List Int) : D := .lst (xs.map .int)

/-! ### sm -/
theorem plainL_iff : ∀ {ds : List D}, D.plainL ds = true ↔ ∀ d ∈ ds, d.plain = true
  | [] => by simp [D.plainL]
  | d :: ds => by rw [D.plainL, Bool.and_eq_true, plainL_iff]; simp
theorem depL_le {n : Nat} : ∀ {ds : List D}, D.depL ds ≤ n ↔ ∀ d ∈ ds, d.dep ≤ n
  | [] => by simp [D.depL]
  | d :: ds => by rw [D.depL, Nat.max_le, depL_le]; simp
theorem sm_of {d : D} (h1 : d.plain = true) (h2 : d.dep ≤ 50) : d.sm = true := by simp [D.sm, h1, h2]
theorem sm_int (i : Int) : (D.int i).sm = true := rfl
/-- an encoding: plain, of a depth, told apart by == -/
structure Enc {α : Type} [DecidableEq α] (e : α → D) (n : Nat) : Prop where
  plain : ∀ x, (e x).plain = true
  dep : ∀ x, (e x).dep ≤ n
  eqv : ∀ x y, PyData.eqv (e x).py (e y).py = decide (x = y)
theorem enc_int : Enc D.int 0 := ⟨fun _ => rfl, fun _ => Nat.le_refl _, fun x y => by simp only [D.py, PyData.eqv]; by_cases h : x = y <;> simp [h]⟩
theorem eqvAll_map {α : Type} [DecidableEq α] {e : α → D} (h : ∀ x y, PyData.eqv (e x).py (e y).py = decide (x = y)) : ∀ xs ys : List α, PyData.eqvAll (D.pyL (xs.map e)) (D.pyL (ys.map e)) = decide (xs = ys)
  | [], [] => rfl
  | [], _ :: _ => rfl
  | _ :: _, [] => rfl
  | x :: xs, y :: ys => by
    simp only [List.map_cons, D.pyL, PyData.eqvAll]
    rw [h x y, eqvAll_map h xs ys]
    by_cases h1 : x = y <;> by_cases h2 : xs = ys <;> simp [h1, h2]
theorem Enc.tup {α : Type} [DecidableEq α] {e : α → D} {n : Nat} (h : Enc e n) : Enc (fun xs : List α => D.tup (xs.map e)) (n + 1) := by
  refine ⟨fun xs => ?_, fun xs => ?_, fun xs ys => ?_⟩
  · simp only [D.plain]
    rw [plainL_iff]
    intro d hd
    obtain ⟨x, _, rfl⟩ := List.mem_map.mp hd
    exact h.plain x
  · simp only [D.dep]
    refine Nat.succ_le_succ (depL_le.mpr fun d hd => ?_)
    obtain ⟨x, _, rfl⟩ := List.mem_map.mp hd
    exact h.dep x
  · simp only [D.py, PyData.eqv]
    exact eqvAll_map h.eqv xs ys
theorem Enc.lst {α : Type} [DecidableEq α] {e : α → D} {n : Nat} (h : Enc e n) : Enc (fun xs : List α => D.lst (xs.map e)) (n + 1) := by
  refine ⟨fun xs => ?_, fun xs => ?_, fun xs ys => ?_⟩
  · simp only [D.plain]
    rw [plainL_iff]
    intro d hd
    obtain ⟨x, _, rfl⟩ := List.mem_map.mp hd
    exact h.plain x
  · simp only [D.dep]
    refine Nat.succ_le_succ (depL_le.mpr fun d hd => ?_)
    obtain ⟨x, _, rfl⟩ := List.mem_map.mp hd
    exact h.dep x
  · simp only [D.py, PyData.eqv]
    exact eqvAll_map h.eqv xs ys
theorem enc_tI : Enc tI 1 := enc_int.tup
theorem Enc.sm {α : Type} [DecidableEq α] {e : α → D} {n : Nat} (h : Enc e n) (hn : n ≤ 50) (x : α) : (e x).sm = true := sm_of (h.plain x) (Nat.le_trans (h.dep x) hn)
section
variable {Q : D → Prop}
/-! ### == of encoded data, in -/
theorem o_eqE {α : Type} [DecidableEq α] {e : α → D} {n : Nat} (h : Enc e n) {x y : α} (q : Q (.bl (decide (x = y)))) (hn : n ≤ 50 := by decide) : OrW (opEq (e x) (e y)) Q := by
  refine .of (r := .bl (decide (x = y))) ?_ q
  simp only [opEq, eqD, h.sm hn, and_self, if_true, Option.map_some, h.eqv]
theorem o_neE {α : Type} [DecidableEq α] {e : α → D} {n : Nat} (h : Enc e n) {x y : α} (q : Q (.bl (!decide (x = y)))) (hn : n ≤ 50 := by decide) : OrW (opNe (e x) (e y)) Q := by
  refine .of (r := .bl (!decide (x = y))) ?_ q
  simp only [opNe, eqD, h.sm hn, and_self, if_true, Option.map_some, h.eqv]
theorem o_eqI {x y : Int} (q : Q (.bl (decide (x = y)))) : OrW (opEq (.int x) (.int y)) Q := o_eqE enc_int q
theorem o_neI {x y : Int} (q : Q (.bl (!decide (x = y)))) : OrW (opNe (.int x) (.int y)) Q := o_neE enc_int q
theorem any_eqv {α : Type} [DecidableEq α] {e : α → D} (h : ∀ x y, PyData.eqv (e x).py (e y).py = decide (x = y)) (x : α) (ys : List α) : ((ys.map e).any fun z => PyData.eqv z.py (e x).py) = decide (x ∈ ys) := by
  induction ys with
  | nil => rfl
  | cons y ys ih =>
    rw [List.map_cons, List.any_cons, ih, h]
    by_cases h1 : y = x
    · simp [h1]
    · have h2 : ¬ x = y := fun z => h1 z.symm
      simp [h1, h2]
theorem inD_tup {α : Type} [DecidableEq α] {e : α → D} {n : Nat} (h : Enc e n) (hn : n ≤ 49) (x : α) (ys : List α) : inD (e x) (.tup (ys.map e)) = some (decide (x ∈ ys)) := by
  have h1 : (e x).sm = true := h.sm (by omega) x
  have h2 : (D.tup (ys.map e)).sm = true := h.tup.sm (by omega) ys
  simp only [inD, h1, h2, and_self, if_true, any_eqv h.eqv]
theorem inD_lst {α : Type} [DecidableEq α] {e : α → D} {n : Nat} (h : Enc e n) (hn : n ≤ 49) (x : α) (ys : List α) : inD (e x) (.lst (ys.map e)) = some (decide (x ∈ ys)) := by
  have h1 : (e x).sm = true := h.sm (by omega) x
  have h2 : (D.lst (ys.map e)).sm = true := h.lst.sm (by omega) ys
  simp only [inD, h1, h2, and_self, if_true, any_eqv h.eqv]
theorem o_inT {α : Type} [DecidableEq α] {e : α → D} {n : Nat} (h : Enc e n) {x : α} {ys : List α} (q : Q (.bl (decide (x ∈ ys)))) (hn : n ≤ 49 := by decide) : OrW (opIn (e x) (.tup (ys.map e))) Q :=
  .of (by rw [opIn, inD_tup h hn]; rfl) q
theorem o_ninT {α : Type} [DecidableEq α] {e : α → D} {n : Nat} (h : Enc e n) {x : α} {ys : List α} (q : Q (.bl (!decide (x ∈ ys)))) (hn : n ≤ 49 := by decide) : OrW (opNotIn (e x) (.tup (ys.map e))) Q :=
  .of (by rw [opNotIn, inD_tup h hn]; rfl) q
theorem o_inL {α : Type} [DecidableEq α] {e : α → D} {n : Nat} (h : Enc e n) {x : α} {ys : List α} (q : Q (.bl (decide (x ∈ ys)))) (hn : n ≤ 49 := by decide) : OrW (opIn (e x) (.lst (ys.map e))) Q :=
  .of (by rw [opIn, inD_lst h hn]; rfl) q
theorem o_ninL {α : Type} [DecidableEq α] {e : α → D} {n : Nat} (h : Enc e n) {x : α} {ys : List α} (q : Q (.bl (!decide (x ∈ ys)))) (hn : n ≤ 49 := by decide) : OrW (opNotIn (e x) (.lst (ys.map e))) Q :=
  .of (by rw [opNotIn, inD_lst h hn]; rfl) q
/-! ### < of numbers -/
theorem o_lt {x y : Int} (q : Q (.bl (decide (x < y)))) : OrW (opLt (.int x) (.int y)) Q := .of rfl q
theorem o_gt {x y : Int} (q : Q (.bl (decide (y < x)))) : OrW (opGt (.int x) (.int y)) Q := .of rfl q
theorem o_le {x y : Int} (q : Q (.bl (decide (x ≤ y)))) : OrW (opLe (.int x) (.int y)) Q := by
  refine .of (r := .bl (decide (x ≤ y))) ?_ q
  show some (D.bl (!decide (y < x))) = _
  by_cases h : y < x
  · have : ¬ x ≤ y := by omega
    simp [h, this]
  · have : x ≤ y := by omega
    simp [h, this]
theorem o_ge {x y : Int} (q : Q (.bl (decide (y ≤ x)))) : OrW (opGe (.int x) (.int y)) Q := by
  refine .of (r := .bl (decide (y ≤ x))) ?_ q
  show some (D.bl (!decide (x < y))) = _
  by_cases h : x < y
  · have : ¬ y ≤ x := by omega
    simp [h, this]
  · have : y ≤ x := by omega
    simp [h, this]
/-! ### len, all, any, sum -/
theorem o_lenT {ds : List D} (q : Q (.int ds.length)) : OrW (lenD [.tup ds]) Q := .of rfl q
theorem o_lenL {ds : List D} (q : Q (.int ds.length)) : OrW (lenD [.lst ds]) Q := .of rfl q
theorem boolsD_typed {α : Type} (p : α → Bool) : ∀ xs : List α, boolsD (xs.map fun x => .bl (p x)) = some (xs.map p)
  | [] => rfl
  | x :: xs => by rw [List.map_cons, boolsD, boolsD_typed p xs]; rfl
theorem intsD_typed {α : Type} (p : α → Int) : ∀ xs : List α, intsD (xs.map fun x => .int (p x)) = some (xs.map p)
  | [] => rfl
  | x :: xs => by rw [List.map_cons, intsD, intsD_typed p xs]; rfl
theorem o_all {α : Type} {p : α → Bool} {xs : List α} (q : Q (.bl (xs.all p))) : OrW (allD [.lst (xs.map fun x => .bl (p x))]) Q := by
  refine .of ?_ q
  simp only [allD, boolsD_typed, Option.map_some, List.all_map]
  rfl
theorem o_any {α : Type} {p : α → Bool} {xs : List α} (q : Q (.bl (xs.any p))) : OrW (anyD [.lst (xs.map fun x => .bl (p x))]) Q := by
  refine .of ?_ q
  simp only [anyD, boolsD_typed, Option.map_some, List.any_map]
  rfl
theorem o_sum {α : Type} {p : α → Int} {xs : List α} (q : Q (.int (xs.map p).sum)) : OrW (sumD [.lst (xs.map fun x => .int (p x))]) Q := by
  refine .of ?_ q
  simp only [sumD, intsD_typed, Option.map_some]
theorem o_sumT {α : Type} {p : α → Int} {xs : List α} (q : Q (.int (xs.map p).sum)) : OrW (sumD [.tup (xs.map fun x => .int (p x))]) Q := by
  refine .of ?_ q
  simp only [sumD, intsD_typed, Option.map_some]
/-! ### subscripts -/
theorem atI_nat {α : Type} {xs : List α} {k : Nat} : L2.atI xs (k : Int) = xs[k]? := by
  unfold L2.atI L2.ixN
  by_cases h : k < xs.length
  · have h1 : (0 : Int) ≤ k := by omega
    have h2 : (k : Int) < xs.length := by omega
    simp [h1, h2]
  · have h1 : (0 : Int) ≤ k := by omega
    have h2 : ¬ (k : Int) < xs.length := by omega
    rw [List.getElem?_eq_none (by omega)]
    simp [h1, h2]
theorem atI_pos {α : Type} {xs : List α} {i : Int} (h : 0 ≤ i) : L2.atI xs i = xs[i.toNat]? := by
  have := atI_nat (xs := xs) (k := i.toNat)
  rwa [Int.toNat_of_nonneg h] at this
theorem o_ixT {α : Type} {e : α → D} {xs : List α} {i : Int} {x : α} (h : 0 ≤ i) (hx : xs[i.toNat]? = some x) (q : Q (e x)) : OrW (ixD (.tup (xs.map e)) (.int i)) Q :=
  .of (by rw [ixD, atI_pos h, List.getElem?_map, hx]; rfl) q
theorem o_ixL {α : Type} {e : α → D} {xs : List α} {i : Int} {x : α} (h : 0 ≤ i) (hx : xs[i.toNat]? = some x) (q : Q (e x)) : OrW (ixD (.lst (xs.map e)) (.int i)) Q :=
  .of (by rw [ixD, atI_pos h, List.getElem?_map, hx]; rfl) q
theorem o_ixTn {α : Type} {e : α → D} {xs : List α} {k : Nat} {x : α} (hx : xs[k]? = some x) (q : Q (e x)) : OrW (ixD (.tup (xs.map e)) (.int (k : Nat))) Q :=
  .of (by rw [ixD, atI_nat, List.getElem?_map, hx]; rfl) q
theorem o_ixLn {α : Type} {e : α → D} {xs : List α} {k : Nat} {x : α} (hx : xs[k]? = some x) (q : Q (e x)) : OrW (ixD (.lst (xs.map e)) (.int (k : Nat))) Q :=
  .of (by rw [ixD, atI_nat, List.getElem?_map, hx]; rfl) q
/-! ### slices -/
theorem cutD_map {α : Type} (e : α → D) (xs : List α) (lo hi : Option Int) : cutD (xs.map e) lo hi = ((xs.drop (HT.sIx xs.length 0 lo)).take (HT.sIx xs.length xs.length hi - HT.sIx xs.length 0 lo)).map e := by
  simp only [cutD, List.length_map, List.map_drop, List.map_take]
end
/-! ### zip, range, enumerate of typed data -/
theorem zipD_map {α β : Type} (e : α → D) (e' : β → D) : ∀ (xs : List α) (ys : List β), zipD (xs.map e) (ys.map e') = (xs.zip ys).map fun p => .tup [e p.1, e' p.2]
  | [], _ => by simp [zipD]
  | _ :: _, [] => by simp [zipD]
  | x :: xs, y :: ys => by simp only [List.map_cons, zipD, zipD_map e e' xs ys, List.zip_cons_cons]
theorem enumD_map {α : Type} (e : α → D) : ∀ (k : Nat) (xs : List α), enumD k (xs.map e) = (xs.zipIdx k).map fun p => .tup [.int (p.2 : Nat), e p.1]
  | _, [] => rfl
  | k, x :: xs => by simp only [List.map_cons, enumD, enumD_map e (k + 1) xs, List.zipIdx_cons]
theorem rangeD_nat {n : Nat} (h : n ≤ 16777216) : rangeD 0 (n : Int) = some ((List.range n).map fun k => .int (k : Nat)) := by
  unfold rangeD
  rw [if_pos (by refine ⟨?_, ?_, ?_, ?_, ?_⟩ <;> omega)]
  simp
theorem rangeD_neg {i : Int} (h : i ≤ 0) (h2 : -(2 ^ 62) ≤ i) : rangeD 0 i = some [] := by
  unfold rangeD
  rw [if_pos (by refine ⟨?_, ?_, ?_, ?_, ?_⟩ <;> omega)]
  have : (i - 0).toNat = 0 := by omega
  rw [this]; rfl
theorem rangeD_two {a b : Nat} (h : b ≤ 16777216) (ha : a ≤ 16777216) : rangeD (a : Int) (b : Int) = some ((List.range (b - a)).map fun k => .int ((a + k : Nat) : Int)) := by
  unfold rangeD
  rw [if_pos (by refine ⟨?_, ?_, ?_, ?_, ?_⟩ <;> omega)]
  have : ((b : Int) - (a : Int)).toNat = b - a := by omega
  rw [this]
  simp
end Sv
namespace Sv
open PySem (Str PyData)
/-! ### natural numbers -/
abbrev nE (k : Nat) : D := .int (k : Int)
abbrev tN (xs : List Nat) : D := .tup (xs.map nE)
abbrev lN (xs : List Nat) : D := .lst (xs.map nE)
theorem enc_nat : Enc nE 0 := ⟨fun _ => rfl, fun _ => Nat.le_refl _, fun x y => by simp only [D.py, PyData.eqv]; by_cases h : x = y <;> simp [h] <;> omega⟩
theorem enc_tN : Enc tN 1 := enc_nat.tup
theorem intsD_nat : ∀ xs : List Nat, intsD (xs.map nE) = some (xs.map fun k : Nat => (k : Int))
  | [] => rfl
  | x :: xs => by rw [List.map_cons, intsD, intsD_nat xs]; rfl
theorem erase_cast (a : Nat) : ∀ xs : List Nat, (xs.map fun k : Nat => (k : Int)).erase (a : Int) = (xs.erase a).map fun k : Nat => (k : Int)
  | [] => rfl
  | x :: xs => by
    by_cases h : x = a
    · subst h; simp
    · have h2 : ¬ ((x : Int) = (a : Int)) := by omega
      rw [List.map_cons, List.erase_cons_tail (by simpa using h2), List.erase_cons_tail (by simpa using h), List.map_cons, erase_cast a xs]
theorem kRem_nat {a : Nat} {xs : List Nat} (h : a ∈ xs) : kRem (xs.map nE) [nE a] = some (.non, (xs.erase a).map nE) := by
  have h1 : (a : Int) ∈ xs.map fun k : Nat => (k : Int) := List.mem_map.mpr ⟨a, h, rfl⟩
  simp only [kRem, intsD_nat, h1, if_true, erase_cast, List.map_map]
  rfl
theorem rlD_nat {n : Nat} (h : n ≤ 16777216) : rlD [.int (n : Int)] = some (lN (List.range n)) := by rw [rlD, rangeD_nat h]; rfl
theorem rtD_nat {n : Nat} (h : n ≤ 16777216) : rtD [.int (n : Int)] = some (tN (List.range n)) := by rw [rtD, rangeD_nat h]; rfl
theorem truth_list {α : Type} {e : α → D} {xs : List α} : truthD (.lst (xs.map e)) = some (!xs.isEmpty) := by
  cases xs <;> rfl
theorem iw_rangeN {ρ : Rho} {ag : As} {Q : List D → Prop} (n : Nat) (h : Aw ag ρ fun ds => ds = [.int (n : Int)] ∧ n ≤ 16777216 ∧ Q ((List.range n).map nE)) : Iw (iRange ag) ρ Q :=
  iw_range (h.mono fun ds ⟨e, hn, q⟩ => ⟨n, _, e, rangeD_nat hn, q⟩)
end Sv
namespace Sv
section
variable {Q : D → Prop}
theorem o_addI {x y : Int} (q : Q (.int (x + y))) : OrW (opAdd (.int x) (.int y)) Q := .of rfl q
theorem o_subI {x y : Int} (q : Q (.int (x - y))) : OrW (opSub (.int x) (.int y)) Q := .of rfl q
theorem o_tupL {xs : List D} (q : Q (.tup xs)) : OrW (tupleD [.lst xs]) Q := .of rfl q
theorem o_tupT {xs : List D} (q : Q (.tup xs)) : OrW (tupleD [.tup xs]) Q := .of rfl q
theorem o_listL {xs : List D} (q : Q (.lst xs)) : OrW (listD [.lst xs]) Q := .of rfl q
theorem o_listT {xs : List D} (q : Q (.lst xs)) : OrW (listD [.tup xs]) Q := .of rfl q
theorem o_negI {x : Int} (q : Q (.int (-x))) : OrW (opNeg (.int x)) Q := .of rfl q
theorem o_intI {x : Int} (q : Q (.int x)) : OrW (intD [.int x]) Q := .of rfl q
theorem o_addT {xs ys : List D} (h : xs.length + ys.length ≤ PySem.sizeLine) (q : Q (.tup (xs ++ ys))) : OrW (opAdd (.tup xs) (.tup ys)) Q := .of (by simp only [opAdd, h, if_true]) q
theorem o_addL {xs ys : List D} (h : xs.length + ys.length ≤ PySem.sizeLine) (q : Q (.lst (xs ++ ys))) : OrW (opAdd (.lst xs) (.lst ys)) Q := .of (by simp only [opAdd, h, if_true]) q
end
end Sv
namespace Sv
/-! ### forms at hand -/
theorem o_slT {Q : D → Prop} {xs : List D} {lo hi : Option Int} (q : Q (.tup (cutD xs lo hi))) : OrW (sliceD (.tup xs) lo hi) Q := .of rfl q
theorem o_slL {Q : D → Prop} {xs : List D} {lo hi : Option Int} (q : Q (.lst (cutD xs lo hi))) : OrW (sliceD (.lst xs) lo hi) Q := .of rfl q
theorem o_revT {Q : D → Prop} {xs : List D} (q : Q (.tup xs.reverse)) : OrW (revD (.tup xs)) Q := .of rfl q
theorem o_revL {Q : D → Prop} {xs : List D} (q : Q (.lst xs.reverse)) : OrW (revD (.lst xs)) Q := .of rfl q
theorem x_int {Q : Int → Prop} {j : Int} (q : Q j) : ∃ i, D.int j = .int i ∧ Q i := ⟨j, rfl, q⟩
theorem x_bl {Q : Bool → Prop} {j : Bool} (q : Q j) : ∃ i, D.bl j = .bl i ∧ Q i := ⟨j, rfl, q⟩
theorem x_tb {Q : Bool → Prop} {j : Bool} (q : Q j) : ∃ i, truthD (.bl j) = some i ∧ Q i := ⟨j, rfl, q⟩
theorem x_itT {Q : List D → Prop} {j : List D} (q : Q j) : ∃ i, itemsD (.tup j) = some i ∧ Q i := ⟨j, rfl, q⟩
theorem x_itL {Q : List D → Prop} {j : List D} (q : Q j) : ∃ i, itemsD (.lst j) = some i ∧ Q i := ⟨j, rfl, q⟩
theorem x_rt {Q : D → Prop} {j : D} (q : Q j) : ∃ i, Fl.rt j = .rt i ∧ Q i := ⟨j, rfl, q⟩
theorem x_chB {Q : Bool → Prop} {j : Bool} (q : Q j) : ∃ k, some (D.bl j) = some (.bl k) ∧ Q k := ⟨j, rfl, q⟩
theorem x_isNone {Q : D → Prop} {d : D} (q : Q (.bl (decide (d = .non)))) (h : ∀ n, d ≠ .tok n) : OrW (opIsN2 d .non) Q := by
  cases d with
  | tok n => exact absurd rfl (h n)
  | _ => exact ⟨_, rfl, by simpa using q⟩
end Sv

set_option maxHeartbeats 1000000
/-! Pl3: the defs that many laws share. -/
namespace Sv
open PySem (Str PyData)
local macro_rules | `(tactic| walk_at "w") => `(tactic| (repeat' (first | with_reducible (first | refine sw_seq ?_ | refine sw_set ?_ | refine sw_new ?_ | refine sw_asg ?_ | refine sw_rt ?_ | refine sw_ret ?_ | refine sw_if ?_ | refine sw_par ?_ | refine sw_nx ?_ | refine sw_exprM ?_ | refine kw_nil ?_ | refine kw_frz ?_ | refine kw_new ?_ | refine ew_con ?_ | refine ew_bin ?_ | refine ew_un ?_ | refine ew_tup ?_ | refine ew_lst ?_ | refine ew_fn ?_ | refine ew_call ?_ | refine ew_callO ?_ | refine ew_if ?_ | refine ew_not ?_ | refine ew_chain ?_ | refine ew_slice ?_ | refine ow_none ?_ | refine ow_some ?_ | refine tw_bl ?_ | refine tw_of ?_ | refine tw_not ?_ | refine tw_yes ?_ | refine aw_nil ?_ | refine aw_cons ?_ | refine iw_seq ?_ | refine iw_enum ?_ | refine iw_zip ?_) | refine ew_var rfl ?_ | refine ew_bor rfl ?_ | refine ew_borO rfl ?_ | refine o_eqI ?_ | refine o_neI ?_ | refine o_lt ?_ | refine o_gt ?_ | refine o_le ?_ | refine o_ge ?_ | refine o_all ?_ | refine o_any ?_ | refine o_sum ?_ | refine o_addI ?_ | refine o_subI ?_ | refine o_lenT ?_ | refine o_lenL ?_ | refine o_tupL ?_ | refine o_tupT ?_ | refine o_listL ?_ | refine o_listT ?_ | refine o_negI ?_ | refine o_intI ?_ | refine o_slT ?_ | refine o_slL ?_ | refine o_revT ?_ | refine o_revL ?_ | refine x_int ?_ | refine x_bl ?_ | refine x_tb ?_ | refine x_itT ?_ | refine x_itL ?_ | refine x_rt ?_)))
mutual
/-- good data -/
def gd : D → Bool
  | .non => true
  | .bl _ => true
  | .int _ => true
  | .str s => s.cps.all (· < 0x110000)
  | .tup xs => decide (xs.length ≤ 1000000) && gdL xs
  | .lst xs => decide (xs.length ≤ 1000000) && gdL xs
  | .dct _ => false
  | .tok _ => false
def gdL : List D → Bool
  | [] => true
  | d :: ds => gd d && gdL ds
end
theorem gdL_iff : ∀ {ds : List D}, gdL ds = true ↔ ∀ d ∈ ds, gd d = true
  | [] => by simp [gdL]
  | d :: ds => by rw [gdL, Bool.and_eq_true, gdL_iff]; simp
mutual
theorem gd_plain : ∀ d : D, gd d = true → d.plain = true
  | .non, _ => rfl
  | .bl _, _ => rfl
  | .int _, _ => rfl
  | .str s, h => by simpa [gd, D.plain] using h
  | .tup xs, h => by
    simp only [gd, Bool.and_eq_true] at h
    simp only [D.plain]
    exact gdL_plain xs h.2
  | .lst xs, h => by
    simp only [gd, Bool.and_eq_true] at h
    simp only [D.plain]
    exact gdL_plain xs h.2
  | .dct _, h => by simp [gd] at h
  | .tok _, h => by simp [gd] at h
theorem gdL_plain : ∀ d : List D, gdL d = true → D.plainL d = true
  | [], _ => rfl
  | d :: ds, h => by
    rw [gdL, Bool.and_eq_true] at h
    rw [D.plainL, gd_plain d h.1, gdL_plain ds h.2]; rfl
end
theorem gd_tup {xs : List D} : gd (.tup xs) = true ↔ xs.length ≤ 1000000 ∧ ∀ d ∈ xs, gd d = true := by
  rw [gd, Bool.and_eq_true, gdL_iff, decide_eq_true_iff]
theorem gd_lst {xs : List D} : gd (.lst xs) = true ↔ xs.length ≤ 1000000 ∧ ∀ d ∈ xs, gd d = true := by
  rw [gd, Bool.and_eq_true, gdL_iff, decide_eq_true_iff]
theorem gd_map {α : Type} {e : α → D} {xs : List α} (hn : xs.length ≤ 1000000) (h : ∀ x ∈ xs, gd (e x) = true) : gd (.tup (xs.map e)) = true := by
  rw [gd_tup, List.length_map]
  refine ⟨hn, fun d hd => ?_⟩
  obtain ⟨x, hx, rfl⟩ := List.mem_map.mp hd
  exact h x hx
theorem dep_tup {xs : List D} {n : Nat} (h : ∀ d ∈ xs, d.dep ≤ n) : (D.tup xs).dep ≤ n + 1 := by
  simp only [D.dep]; exact Nat.succ_le_succ (depL_le.mpr h)
theorem dep_mem {xs : List D} {d : D} (h : d ∈ xs) : d.dep < (D.tup xs).dep := by
  simp only [D.dep]
  exact Nat.lt_succ_of_le (depL_le.mp (Nat.le_refl _) d h)
theorem dep_memL {xs : List D} {d : D} (h : d ∈ xs) : d.dep < (D.lst xs).dep := by
  simp only [D.dep]
  exact Nat.lt_succ_of_le (depL_le.mp (Nat.le_refl _) d h)
theorem dep_map {α : Type} {e : α → D} {xs : List α} {n : Nat} (h : ∀ x ∈ xs, (e x).dep ≤ n) : (D.tup (xs.map e)).dep ≤ n + 1 :=
  dep_tup fun d hd => by obtain ⟨x, hx, rfl⟩ := List.mem_map.mp hd; exact h x hx

/-! ### is_number -/
abbrev s_is_number : SS := sRet (eAnd (eUn (fun d => (isT d .int).map .bl) (eBor 0)) (eAnd (eNot (eUn (fun d => (isT d .bool).map .bl) (eBor 0))) (eChain opLe opLe (eBor 1) (eBor 0) (eBor 2))))
def numB (v : D) (lo hi : Int) : Bool := match v with
  | .int i => decide (lo ≤ i ∧ i ≤ hi)
  | _ => false
theorem w_is_number {v : D} {lo hi : Int} {Q : D → Prop} (hv : v.plain = true) (q : Q (.bl (numB v lo hi))) : Fw (runF 3 s_is_number) [v, .int lo, .int hi] Q := by
  refine fw_rt ?_
  unfold s_is_number
  walk_at "w"
  refine ew_and ?_
  walk_at "w"
  cases v with
  | int i =>
    refine ⟨_, rfl, _, rfl, fun _ => ?_, fun e => by cases e⟩
    refine ew_and ?_
    walk_at "w"
    refine ⟨_, rfl, _, rfl, _, rfl, fun _ => ?_, fun e => by cases e⟩
    walk_at "w"
    refine ⟨_, by show some (D.bl (!decide (i < lo))) = some (D.bl _); rfl, fun e => ?_, fun e => ?_⟩
    · have : lo ≤ i := by simpa using e
      walk_at "w"
      have hb : numB (.int i) lo hi = decide (i ≤ hi) := by simp [numB, this]
      rw [hb] at q; exact q
    · have : ¬ lo ≤ i := by simpa using e
      have hb : numB (.int i) lo hi = false := by simp [numB, this]
      rw [hb] at q; exact q
  | bl k =>
    refine ⟨_, rfl, _, rfl, fun _ => ?_, fun e => by cases e⟩
    refine ew_and ?_
    walk_at "w"
    exact ⟨_, rfl, _, rfl, _, rfl, (fun e => by cases e), fun _ => q⟩
  | non => exact ⟨_, rfl, _, rfl, (fun e => by cases e), fun _ => q⟩
  | str _ => exact ⟨_, rfl, _, rfl, (fun e => by cases e), fun _ => q⟩
  | tup _ => exact ⟨_, rfl, _, rfl, (fun e => by cases e), fun _ => q⟩
  | lst _ => exact ⟨_, rfl, _, rfl, (fun e => by cases e), fun _ => q⟩
  | dct _ => cases hv
  | tok _ => cases hv
/-! ### _law_same -/
abbrev s_same (rec : Fn) : SS := sSeq (sIf (tOr (tAnd (tOf (eUn (fun d => (isT d .tuple).map .bl) (eBor 0))) (tOf (eUn (fun d => (isT d .tuple).map .bl) (eBor 1)))) (tAnd (tOf (eUn (fun d => (isT d .list).map .bl) (eBor 0))) (tOf (eUn (fun d => (isT d .list).map .bl) (eBor 1))))) (sRet (eAnd (eBin opEq (eFn lenD (aCons (eBor 0) aNil)) (eFn lenD (aCons (eBor 1) aNil))) (eFn allD (aCons (eLc (iRange (aCons (eFn lenD (aCons (eBor 0) aNil)) (aNil))) (gNm 2) (tYes') (eCall rec (aCons (eBin ixD (eBor 0) (eVar 2)) (aCons (eBin ixD (eBor 1) (eVar 2)) (aNil)))) [2]) aNil)))) (sNx)) (sSeq (sIf (tOr (tOf (eUn (fun d => (isT d .bool).map .bl) (eBor 0))) (tOf (eUn (fun d => (isT d .bool).map .bl) (eBor 1)))) (sRet (eAnd (eUn (fun d => (isT d .bool).map .bl) (eBor 0)) (eAnd (eUn (fun d => (isT d .bool).map .bl) (eBor 1)) (eBin opEq (eBor 0) (eBor 1))))) (sNx)) (sSeq (sIf (tOr (tAnd (tOf (eUn (fun d => (isT d .int).map .bl) (eBor 0))) (tOf (eUn (fun d => (isT d .int).map .bl) (eBor 1)))) (tAnd (tOf (eUn (fun d => (isT d .str).map .bl) (eBor 0))) (tOf (eUn (fun d => (isT d .str).map .bl) (eBor 1))))) (sRet (eBin opEq (eBor 0) (eBor 1))) (sNx)) (sRet (eAnd (eBin opIsN2 (eBor 0) (eCon .non)) (eBin opIsN2 (eBor 1) (eCon .non))))))
def f_same : Nat → Fn
  | 0 => noFn
  | n + 1 => runF 3 (s_same (f_same n))
theorem eq_get {xs ys : List D} (h : xs.length = ys.length) : decide (xs = ys) = (List.range xs.length).all fun k => decide (xs.getD k .non = ys.getD k .non) := by
  rw [Bool.eq_iff_iff]
  simp only [decide_eq_true_iff, List.all_eq_true, List.mem_range]
  refine ⟨fun e k _ => by rw [e], fun e => List.ext_getElem h fun k h1 h2 => ?_⟩
  have := e k h1
  rw [List.getD_eq_getElem?_getD, List.getD_eq_getElem?_getD, List.getElem?_eq_getElem h1, List.getElem?_eq_getElem h2] at this
  exact this
theorem w_same_items {rec : Fn} {xs ys : List D} {Q : D → Prop} {ρ : Rho} {w : List D → D} (hw0 : (w xs = .tup xs ∧ w ys = .tup ys) ∨ (w xs = .lst xs ∧ w ys = .lst ys)) (e0 : ρ = [Sl.frz (w xs), .frz (w ys), .emp]) (hx : xs.length ≤ 1000000)
    (hr : ∀ k, k < xs.length → ∀ R : D → Prop, xs.length = ys.length → R (.bl (decide (xs.getD k .non = ys.getD k .non))) → Fw rec [xs.getD k .non, ys.getD k .non] R) (q : Q (.bl (decide (xs = ys)))) :
    Ew (eAnd (eBin opEq (eFn lenD (aCons (eBor 0) aNil)) (eFn lenD (aCons (eBor 1) aNil))) (eFn allD (aCons (eLc (iRange (aCons (eFn lenD (aCons (eBor 0) aNil)) (aNil))) (gNm 2) (tYes') (eCall rec (aCons (eBin ixD (eBor 0) (eVar 2)) (aCons (eBin ixD (eBor 1) (eVar 2)) (aNil)))) [2]) aNil))) ρ Q := by
  subst e0
  have hlen : ∀ zs : List D, (w zs = .tup zs ∨ w zs = .lst zs) → lenD [w zs] = some (.int zs.length) := fun zs h => by rcases h with h | h <;> rw [h] <;> rfl
  have hix : ∀ zs : List D, (w zs = .tup zs ∨ w zs = .lst zs) → ∀ k : Nat, k < zs.length → ixD (w zs) (.int (k : Nat)) = some (zs.getD k .non) := fun zs h k hk => by
    have : L2.atI zs (k : Int) = some (zs.getD k .non) := by rw [atI_nat, List.getD_eq_getElem?_getD, List.getElem?_eq_getElem hk]; rfl
    rcases h with h | h <;> rw [h] <;> exact this
  have hwx : w xs = .tup xs ∨ w xs = .lst xs := by rcases hw0 with h | h; exact .inl h.1; exact .inr h.1
  have hwy : w ys = .tup ys ∨ w ys = .lst ys := by rcases hw0 with h | h; exact .inl h.2; exact .inr h.2
  refine ew_andB (x := decide (xs.length = ys.length)) (y := decide (xs = ys)) ?_ (fun e => ?_) ?_
  · walk_at "w"
    refine ⟨_, hlen xs hwx, ?_⟩
    walk_at "w"
    refine ⟨_, hlen ys hwy, ?_⟩
    walk_at "w"
    by_cases h : xs.length = ys.length
    · simp [h]
    · have : ¬ (xs.length : Int) = ys.length := by omega
      simp [h, this]
  · have hl : xs.length = ys.length := by simpa using e
    walk_at "w"
    refine ew_lcM (List.range xs.length) nE (fun k => .bl (decide (xs.getD k .non = ys.getD k .non))) ?_ ?_ ?_
    · refine iw_rangeN xs.length ?_
      walk_at "w"
      exact ⟨_, hlen xs hwx, aw_nil ⟨rfl, by omega, rfl⟩⟩
    · intro k hk
      refine ⟨_, rfl, ?_⟩
      have hk := List.mem_range.mp hk
      walk_at "w"
      refine ⟨_, hix xs hwx k hk, ?_⟩
      walk_at "w"
      refine ⟨_, hix ys hwy k (by omega), ?_⟩
      walk_at "w"
      exact hr k hk _ hl rfl
    · walk_at "w"
      rw [eq_get hl]
  · by_cases h : xs.length = ys.length
    · simpa [h] using q
    · have : ¬ xs = ys := fun z => h (by rw [z])
      simpa [h, this] using q
theorem sm_gd {d : D} (h : gd d = true) (hd : d.dep ≤ 50) : d.sm = true := sm_of (gd_plain d h) hd
theorem getD_mem {xs : List D} {k : Nat} (h : k < xs.length) : xs.getD k .non ∈ xs := by
  rw [List.getD_eq_getElem?_getD, List.getElem?_eq_getElem h]; exact List.getElem_mem h
theorem w_same : ∀ (n : Nat) {a b : D} {Q : D → Prop}, gd a = true → gd b = true → a.dep < n → Q (.bl (decide (a = b))) → Fw (f_same n) [a, b] Q
  | 0, _, _, _, _, _, h, _ => absurd h (by omega)
  | n + 1, a, b, Q, ga, gb, hd, q => by
    show Fw (runF 3 (s_same (f_same n))) [a, b] Q
    cases a with
    | dct _ => cases ga
    | tok _ => cases ga
    | non =>
      cases b with
      | dct _ => cases gb
      | tok _ => cases gb
      | non => exact fun bx => ⟨_, bx, rfl, q⟩
      | _ => exact fun bx => ⟨.bl false, bx, rfl, by simpa using q⟩
    | bl x =>
      cases b with
      | dct _ => cases gb
      | tok _ => cases gb
      | bl y =>
        have e : PyData.eqv (D.bl x).py (D.bl y).py = decide (D.bl x = D.bl y) := by
          simp only [D.py, PyData.eqv]; cases x <;> cases y <;> simp
        exact fun bx => ⟨.bl (PyData.eqv (D.bl x).py (D.bl y).py), bx, rfl, by rw [e]; exact q⟩
      | _ => exact fun bx => ⟨.bl false, bx, rfl, by simpa using q⟩
    | int x =>
      cases b with
      | dct _ => cases gb
      | tok _ => cases gb
      | int y =>
        have e : PyData.eqv (D.int x).py (D.int y).py = decide (D.int x = D.int y) := by
          simp only [D.py, PyData.eqv]; by_cases h : x = y <;> simp [h]
        exact fun bx => ⟨.bl (PyData.eqv (D.int x).py (D.int y).py), bx, rfl, by rw [e]; exact q⟩
      | _ => exact fun bx => ⟨.bl false, bx, rfl, by simpa using q⟩
    | str x =>
      cases b with
      | dct _ => cases gb
      | tok _ => cases gb
      | str y =>
        have e : opEq (.str x) (.str y) = some (.bl (decide (D.str x = D.str y))) := by
          simp only [opEq, eqD, sm_gd ga (by simp [D.dep]), sm_gd gb (by simp [D.dep]), and_self, if_true, Option.map_some, D.py, PyData.eqv]
          by_cases h : x = y
          · simp [h]
          · simp [h]
        refine fw_rt (sw_seq (sw_if (Tw.mono (Q := fun k => k = false) (fun bx => ⟨false, bx, rfl, rfl⟩) fun k ek => ⟨fun z => (by rw [ek] at z; cases z), fun _ => sw_nx ?_⟩)))
        refine sw_seq (sw_if (Tw.mono (Q := fun k => k = false) (fun bx => ⟨false, bx, rfl, rfl⟩) fun k ek => ⟨fun z => (by rw [ek] at z; cases z), fun _ => sw_nx ?_⟩))
        refine sw_seq (sw_if (Tw.mono (Q := fun k => k = true) (fun bx => ⟨true, bx, rfl, rfl⟩) fun k ek => ⟨fun _ => sw_ret ?_, fun z => (by rw [ek] at z; cases z)⟩))
        walk_at "w"
        exact ⟨_, e, _, rfl, q⟩
      | _ => exact fun bx => ⟨.bl false, bx, rfl, by simpa using q⟩
    | tup xs =>
      cases b with
      | dct _ => cases gb
      | tok _ => cases gb
      | tup ys =>
        rw [gd_tup] at ga gb
        refine fw_rt (sw_seq (sw_if (tw_orB (x := true) (y := true) ?_ (fun e => by cases e) ⟨fun _ => sw_ret ?_, fun e => by cases e⟩)))
        · exact fun bx => ⟨true, bx, rfl, rfl⟩
        · refine w_same_items (xs := xs) (ys := ys) (w := .tup) (.inl ⟨rfl, rfl⟩) rfl ga.1 (fun k hk R hl hR => ?_) ?_
          · have hm := getD_mem hk
            exact w_same n (ga.2 _ hm) (gb.2 _ (getD_mem (by omega))) (by have := dep_mem hm; omega) hR
          · refine ⟨_, rfl, ?_⟩
            have : decide (D.tup xs = D.tup ys) = decide (xs = ys) := by simp
            rw [this] at q; exact q
      | _ => exact fun bx => ⟨.bl false, bx, rfl, by simpa using q⟩
    | lst xs =>
      cases b with
      | dct _ => cases gb
      | tok _ => cases gb
      | lst ys =>
        rw [gd_lst] at ga gb
        refine fw_rt (sw_seq (sw_if (tw_orB (x := false) (y := true) ?_ (fun _ => ?_) ⟨fun _ => sw_ret ?_, fun e => by cases e⟩)))
        · exact fun bx => ⟨false, bx, rfl, rfl⟩
        · exact fun bx => ⟨true, bx, rfl, rfl⟩
        · refine w_same_items (xs := xs) (ys := ys) (w := .lst) (.inr ⟨rfl, rfl⟩) rfl ga.1 (fun k hk R hl hR => ?_) ?_
          · have hm := getD_mem hk
            exact w_same n (ga.2 _ hm) (gb.2 _ (getD_mem (by omega))) (by have := dep_memL hm; omega) hR
          · refine ⟨_, rfl, ?_⟩
            have : decide (D.lst xs = D.lst ys) = decide (xs = ys) := by simp
            rw [this] at q; exact q
      | _ => exact fun bx => ⟨.bl false, bx, rfl, by simpa using q⟩

/-! ### _law_bent -/
abbrev s_bent2 : SS := sSeq (sSet 2 (eCall drawF (aCons (eVar 0) (aCons (eCon (.int 8)) (aNil))))) (sSeq (sIf (tOf (eUn (fun d => (isT d .tuple).map .bl) (eBor 1))) (sRet (eBin ixD (eLst (aCons (eBin opAdd (eBor 1) (eSlice (eBor 1) none (some (eCon (.int 1))))) (aCons (eSlice (eBor 1) (some (eCon (.int 1))) none) (aCons (eUn revD (eBor 1)) (aCons (eBin opAdd (eBor 1) (eTup (aCons (eCon (.int 0)) (aNil)))) (aCons (eTup (aCons (eVar 1) (aNil))) (aCons (eSlice (eBor 1) none (some (eUn opNeg (eCon (.int 1))))) (aCons (eCon .non) (aCons (eBin opAdd (eBor 1) (eTup (aCons (eTup (aCons (eCon (.int 0)) (aCons (eCon (.int 1)) (aNil)))) (aNil)))) (aNil)))))))))) (eVar 2))) (sNx)) (sSeq (sIf (tAnd (tOf (eUn (fun d => (isT d .int).map .bl) (eBor 1))) (tNot (tOf (eUn (fun d => (isT d .bool).map .bl) (eBor 1))))) (sRet (eBin ixD (eLst (aCons (eBin opAdd (eBor 1) (eCon (.int 1))) (aCons (eBin opSub (eBor 1) (eCon (.int 1))) (aCons (eCon (.int 0)) (aCons (eBin opEq (eBor 1) (eCon (.int 1))) (aCons (eCon .non) (aCons (eFn strD (aCons (eBor 1) aNil)) (aCons (eTup (aCons (eVar 1) (aNil))) (aCons (eBin opAdd (eBor 1) (eCon (.int 2))) (aNil)))))))))) (eVar 2))) (sNx)) (sSeq (sIf (tOf (eUn (fun d => (isT d .str).map .bl) (eBor 1))) (sRet (eBin ixD (eLst (aCons (eBin opAdd (eBor 1) (eCon (.str "s"))) (aCons (eSlice (eBor 1) (some (eCon (.int 1))) none) (aCons (eCon (.str "jump")) (aCons (eCon (.str "open")) (aCons (eCon (.int 0)) (aCons (eCon .non) (aCons (eCon (.str "")) (aCons (eCon (.str "bent")) (aNil)))))))))) (eVar 2))) (sNx)) (sRet (eBin ixD (eLst (aCons (eCon (.int 0)) (aCons (eCon (.int 1)) (aCons (eCon .non) (aCons (eCon (.bl true)) (aCons (eCon (.str "a")) (aCons (eTup (aNil)) (aCons (eTup (aCons (eCon (.int 0)) (aNil))) (aCons (eCon (.str "point")) (aNil)))))))))) (eVar 2))))))
abbrev s_bent (rec : Fn) : SS := sSeq (sIf (tAnd (tOf (eUn (fun d => (isT d .tuple).map .bl) (eBor 1))) (tAnd (tBl (eBin opGt (eFn lenD (aCons (eBor 1) aNil)) (eCon (.int 0)))) (tBl (eBin opGt (eCall drawF (aCons (eVar 0) (aCons (eCon (.int 5)) (aNil)))) (eCon (.int 0)))))) (sSeq (sSet 3 (eCall drawF (aCons (eVar 0) (aCons (eFn lenD (aCons (eBor 1) aNil)) (aNil))))) (sRet (eBin opAdd (eBin opAdd (eSlice (eBor 1) none (some (eVar 3))) (eTup (aCons (eCall rec (aCons (eVar 0) (aCons (eBin ixD (eBor 1) (eVar 3)) (aNil)))) (aNil)))) (eSlice (eBor 1) (some (eBin opAdd (eBor 3) (eCon (.int 1)))) none)))) (sNx)) s_bent2
def f_bent : Nat → Fn
  | 0 => noFn
  | n + 1 => runF 4 (s_bent (f_bent n))
mutual
/-- what may be bent -/
def bs : D → Bool
  | .non => true
  | .bl _ => true
  | .int i => decide (i.natAbs ≤ 1000000000)
  | .str s => decide (s.length ≤ 1000) && s.cps.all (· < 0x110000)
  | .tup xs => decide (xs.length ≤ 1000) && bsL xs
  | _ => false
def bsL : List D → Bool
  | [] => true
  | d :: ds => bs d && bsL ds
end
theorem bsL_iff : ∀ {ds : List D}, bsL ds = true ↔ ∀ d ∈ ds, bs d = true
  | [] => by simp [bsL]
  | d :: ds => by rw [bsL, Bool.and_eq_true, bsL_iff]; simp
theorem bs_tup {xs : List D} : bs (.tup xs) = true ↔ xs.length ≤ 1000 ∧ ∀ d ∈ xs, bs d = true := by
  rw [bs, Bool.and_eq_true, bsL_iff, decide_eq_true_iff]
theorem bs_map {α : Type} {e : α → D} {xs : List α} (hn : xs.length ≤ 1000) (h : ∀ x ∈ xs, bs (e x) = true) : bs (.tup (xs.map e)) = true := by
  rw [bs_tup, List.length_map]
  refine ⟨hn, fun d hd => ?_⟩
  obtain ⟨x, hx, rfl⟩ := List.mem_map.mp hd
  exact h x hx
mutual
theorem bs_gd : ∀ d : D, bs d = true → gd d = true
  | .non, _ => rfl
  | .bl _, _ => rfl
  | .int _, _ => rfl
  | .str s, h => by simp only [bs, Bool.and_eq_true] at h; simpa [gd] using h.2
  | .tup xs, h => by
    simp only [bs, Bool.and_eq_true, decide_eq_true_iff] at h
    simp only [gd, Bool.and_eq_true, decide_eq_true_iff]
    exact ⟨by omega, bsL_gd xs h.2⟩
  | .lst _, h => by simp [bs] at h
  | .dct _, h => by simp [bs] at h
  | .tok _, h => by simp [bs] at h
theorem bsL_gd : ∀ d : List D, bsL d = true → gdL d = true
  | [], _ => rfl
  | d :: ds, h => by
    rw [bsL, Bool.and_eq_true] at h
    rw [gdL, bs_gd d h.1, bsL_gd ds h.2]; rfl
end
/-- one of a written list -/
theorem o_pick {xs : List D} {i : Int} {Q : D → Prop} (h0 : 0 ≤ i) (h1 : i < xs.length) (q : ∀ x ∈ xs, Q x) : OrW (ixD (.lst xs) (.int i)) Q := by
  have h : i.toNat < xs.length := by omega
  refine .of (r := xs[i.toNat]) ?_ (q _ (List.getElem_mem h))
  rw [ixD, atI_pos h0, List.getElem?_eq_getElem h]
theorem gd_str {z : Str} : gd (.str z) = true ↔ ∀ c ∈ z.cps.toList, c < 0x110000 := by
  simp only [gd, ← Array.all_toList, List.all_eq_true, decide_eq_true_iff]
theorem gd_lit (x : String) : gd (.str x) = true := by
  rw [gd_str]
  intro c hc
  have e : (x : Str) = ⟨(x.toList.map Char.toNat).toArray⟩ := PySem.Str.ofString_eq_toList x
  rw [e] at hc
  obtain ⟨d, _, rfl⟩ := List.mem_map.mp (by simpa using hc)
  have := d.valid
  show d.val.toNat < _
  rcases this with h | h
  · have : d.val.toNat < 0xd800 := h
    omega
  · exact h.2
theorem gd_app {x y : Str} (hx : gd (.str x) = true) (hy : gd (.str y) = true) : gd (.str (x ++ y)) = true := by
  rw [gd_str] at hx hy ⊢
  intro c hc
  have e : (x ++ y).cps.toList = x.cps.toList ++ y.cps.toList := by
    show (x.cps ++ y.cps).toList = _
    simp
  rw [e, List.mem_append] at hc
  rcases hc with h | h
  · exact hx c h
  · exact hy c h
theorem gd_cut {x : Str} (hx : gd (.str x) = true) (lo hi : Option Int) : gd (.str (L2.cutS x lo hi)) = true := by
  rw [gd_str] at hx ⊢
  intro c hc
  have e : (L2.cutS x lo hi).cps.toList = ((x.cps.toList.drop (HT.sIx x.length 0 lo)).take (HT.sIx x.length x.length hi - HT.sIx x.length 0 lo)) := by simp [L2.cutS]
  rw [e] at hc
  exact hx c (List.mem_of_mem_drop (List.mem_of_mem_take hc))
theorem cutD_sub {xs : List D} {lo hi : Option Int} : ∀ d ∈ cutD xs lo hi, d ∈ xs := fun d h => List.mem_of_mem_drop (List.mem_of_mem_take h)
theorem cutD_len (xs : List D) (lo hi : Option Int) : (cutD xs lo hi).length ≤ xs.length := by
  unfold cutD
  rw [List.length_take, List.length_drop]
  omega
theorem gd_cutD {xs : List D} {lo hi : Option Int} (h : gd (.tup xs) = true) : gd (.tup (cutD xs lo hi)) = true := by
  rw [gd_tup] at h ⊢
  exact ⟨Nat.le_trans (cutD_len _ _ _) h.1, fun d hd => h.2 d (cutD_sub d hd)⟩
theorem gd_appT {xs ys : List D} (hx : ∀ d ∈ xs, gd d = true) (hy : ∀ d ∈ ys, gd d = true) (hn : xs.length + ys.length ≤ 1000000) : gd (.tup (xs ++ ys)) = true := by
  rw [gd_tup, List.length_append]
  refine ⟨hn, fun d hd => ?_⟩
  rcases List.mem_append.mp hd with h | h
  · exact hx d h
  · exact hy d h
theorem dep_sub {xs ys : List D} (h : ∀ d ∈ xs, d ∈ ys) : (D.tup xs).dep ≤ (D.tup ys).dep := by
  simp only [D.dep]
  exact Nat.succ_le_succ (depL_le.mpr fun d hd => depL_le.mp (Nat.le_refl _) d (h d hd))
theorem depL_app {xs ys : List D} {n : Nat} (h1 : D.depL xs ≤ n) (h2 : D.depL ys ≤ n) : D.depL (xs ++ ys) ≤ n := by
  rw [depL_le] at h1 h2 ⊢
  intro d hd
  rcases List.mem_append.mp hd with h | h
  · exact h1 d h
  · exact h2 d h
theorem depL_sub {xs ys : List D} (h : ∀ d ∈ xs, d ∈ ys) : D.depL xs ≤ D.depL ys := depL_le.mpr fun d hd => depL_le.mp (Nat.le_refl _) d (h d hd)
/-- bent data: good, not much deeper, not much longer -/
def Bt (v w : D) : Prop := gd w = true ∧ w.dep ≤ v.dep + 2
theorem w_bent : ∀ (n : Nat) {v : D} {Q : D → Prop}, bs v = true → v.dep < n → (∀ w, Bt v w → Q w) → Fw (f_bent n) [.tok 0, v] Q
  | 0, _, _, _, h, _ => absurd h (by omega)
  | n + 1, v, Q, hv, hd, q => by
    show Fw (runF 4 (s_bent (f_bent n))) [.tok 0, v] Q
    refine fw_rt ?_
    have hs8 : ∀ (R : D → Prop), (∀ i : Int, 0 ≤ i → i < 8 → R (.int i)) → Fw drawF [.tok 0, .int 8] R := fun R h => fw_draw (by decide) (by decide) h
    cases v with
    | dct _ => cases hv
    | tok _ => cases hv
    | lst _ => cases hv
    | tup xs =>
      rw [bs_tup] at hv
      have hg : ∀ d ∈ xs, gd d = true := fun d hd => bs_gd d (hv.2 d hd)
      have hgt : gd (.tup xs) = true := gd_tup.mpr ⟨by omega, hg⟩
      have hcl : ∀ lo hi, (cutD xs lo hi).length ≤ 1000 := fun lo hi => Nat.le_trans (cutD_len _ _ _) hv.1
      have hcd : ∀ lo hi, D.depL (cutD xs lo hi) ≤ D.depL xs := fun lo hi => depL_sub cutD_sub
      have hsz : (1000000 : Nat) ≤ PySem.sizeLine := by rw [PySem.sizeLine_eq]; omega
      refine sw_seq (sw_if (tw_and (Tw.mono (Q := fun k => k = true) (fun bx => ⟨true, bx, rfl, rfl⟩) fun k ek => ⟨fun _ => ?_, fun z => (by rw [ek] at z; cases z)⟩)))
      have last : ∀ (ρ1 : Rho), ρ1 = [.frz (.tok 0), .frz (.tup xs), .emp, .emp] → Sw s_bent2 ρ1 (RtQ Q) := fun ρ1 e1 => by
        subst e1
        refine sw_seq (sw_set (ew_call (aw_cons (ew_var rfl (aw_cons (ew_con (aw_nil (hs8 _ fun i h0 h1 => ?_))))))))
        refine sw_seq (sw_if (Tw.mono (Q := fun k => k = true) (fun bx => ⟨true, bx, rfl, rfl⟩) fun k ek => ⟨fun _ => ?_, fun z => (by rw [ek] at z; cases z)⟩))
        have hc1 := hcl none (some 1)
        have hd1 := hcd none (some 1)
        walk_at "w"
        refine o_addT (by omega) ?_
        walk_at "w"
        refine o_addT (by simp only [List.length_cons, List.length_nil]; omega) ?_
        walk_at "w"
        refine o_addT (by simp only [List.length_cons, List.length_nil]; omega) ?_
        walk_at "w"
        refine o_pick h0 h1 fun x hx => ⟨_, rfl, q x ?_⟩
        simp only [List.mem_cons, List.not_mem_nil, or_false] at hx
        rcases hx with rfl | rfl | rfl | rfl | rfl | rfl | rfl | rfl
        · exact ⟨gd_appT hg (fun d hd => hg d (cutD_sub d hd)) (by omega), by simp only [D.dep]; have := depL_app (Nat.le_refl (D.depL xs)) hd1; omega⟩
        · exact ⟨gd_cutD hgt, by simp only [D.dep]; have := hcd (some 1) none; omega⟩
        · refine ⟨gd_tup.mpr ⟨by rw [List.length_reverse]; omega, fun d hd => hg d (List.mem_reverse.mp hd)⟩, ?_⟩
          simp only [D.dep]; have := depL_sub (xs := xs.reverse) (ys := xs) fun d hd => List.mem_reverse.mp hd; omega
        · refine ⟨gd_appT hg (fun d hd => by simp only [List.mem_cons, List.not_mem_nil, or_false] at hd; subst hd; rfl) (by simp only [List.length_cons, List.length_nil]; omega), ?_⟩
          simp only [D.dep]; have := depL_app (xs := xs) (ys := [.int 0]) (Nat.le_refl (D.depL xs)) (by simp [D.depL, D.dep]); omega
        · refine ⟨gd_tup.mpr ⟨by simp, fun d hd => by simp only [List.mem_cons, List.not_mem_nil, or_false] at hd; subst hd; exact hgt⟩, ?_⟩
          simp only [D.dep, D.depL]; omega
        · exact ⟨gd_cutD hgt, by simp only [D.dep]; have := hcd none (some (-1)); omega⟩
        · exact ⟨rfl, by simp [D.dep]⟩
        · refine ⟨gd_appT hg (fun d hd => by simp only [List.mem_cons, List.not_mem_nil, or_false] at hd; subst hd; rfl) (by simp only [List.length_cons, List.length_nil]; omega), ?_⟩
          simp only [D.dep]; have := depL_app (xs := xs) (ys := [.tup [.int 0, .int 1]]) (n := D.depL xs + 1) (by omega) (by simp [D.depL, D.dep]); omega
      refine tw_and ?_
      walk_at "w"
      refine ⟨fun e => ?_, fun _ => ⟨(fun z => by cases z), fun _ => sw_nx (last _ rfl)⟩⟩
      have hpos : 0 < xs.length := by have := of_decide_eq_true e; omega
      walk_at "w"
      refine fw_draw (by decide) (by decide) fun i0 h00 h01 => ?_
      walk_at "w"
      refine ⟨fun _ => ?_, fun _ => sw_nx (last _ rfl)⟩
      walk_at "w"
      refine fw_draw (n := (xs.length : Int)) (by omega) (by omega) fun at' h0 h1 => ?_
      have hat : at'.toNat < xs.length := by omega
      have hm : xs[at'.toNat] ∈ xs := List.getElem_mem hat
      walk_at "w"
      refine ⟨xs[at'.toNat], by rw [ixD, atI_pos h0, List.getElem?_eq_getElem hat], ?_⟩
      walk_at "w"
      refine w_bent n (hv.2 _ hm) (by have := dep_mem hm; omega) fun w hw => ?_
      have hc1 := hcl none (some at')
      have hc2 := hcl (some (at' + 1)) none
      have hdm := depL_le.mp (Nat.le_refl _) _ hm
      walk_at "w"
      refine o_addT (by simp only [List.length_cons, List.length_nil]; omega) ?_
      walk_at "w"
      refine o_addT (by simp only [List.length_append, List.length_cons, List.length_nil]; omega) ⟨_, rfl, q _ ⟨?_, ?_⟩⟩
      · refine gd_appT (fun d hd => ?_) (fun d hd => hg d (cutD_sub d hd)) (by simp only [List.length_append, List.length_cons, List.length_nil]; omega)
        rcases List.mem_append.mp hd with h | h
        · exact hg d (cutD_sub d h)
        · simp only [List.mem_cons, List.not_mem_nil, or_false] at h
          subst h; exact hw.1
      · have h1' := hcd none (some at')
        have h2' := hcd (some (at' + 1)) none
        have h3' : D.depL [w] ≤ D.depL xs + 2 := by have := hw.2; simp only [D.depL]; omega
        simp only [D.dep]
        have := depL_app (n := D.depL xs + 2) (depL_app (n := D.depL xs + 2) (by omega : D.depL (cutD xs none (some at')) ≤ _) h3') (by omega : D.depL (cutD xs (some (at' + 1)) none) ≤ _)
        omega
    | non =>
      refine sw_seq (sw_if (Tw.mono (Q := fun k => k = false) (fun bx => ⟨false, bx, rfl, rfl⟩) fun k ek => ⟨fun z => (by rw [ek] at z; cases z), fun _ => sw_nx ?_⟩))
      walk_at "w"
      refine hs8 _ fun i h0 h1 => ?_
      refine sw_seq (sw_if (Tw.mono (Q := fun k => k = false) (fun bx => ⟨false, bx, rfl, rfl⟩) fun k ek => ⟨fun z => (by rw [ek] at z; cases z), fun _ => sw_nx ?_⟩))
      refine sw_seq (sw_if (Tw.mono (Q := fun k => k = false) (fun bx => ⟨false, bx, rfl, rfl⟩) fun k ek => ⟨fun z => (by rw [ek] at z; cases z), fun _ => sw_nx ?_⟩))
      refine sw_seq (sw_if (Tw.mono (Q := fun k => k = false) (fun bx => ⟨false, bx, rfl, rfl⟩) fun k ek => ⟨fun z => (by rw [ek] at z; cases z), fun _ => sw_nx ?_⟩))
      walk_at "w"
      refine o_pick h0 h1 fun x hx => q x ?_
      simp only [List.mem_cons, List.not_mem_nil, or_false] at hx
      rcases hx with rfl | rfl | rfl | rfl | rfl | rfl | rfl | rfl <;> exact ⟨by decide +kernel, by simp [D.dep, D.depL]⟩
    | bl y =>
      refine sw_seq (sw_if (Tw.mono (Q := fun k => k = false) (fun bx => ⟨false, bx, rfl, rfl⟩) fun k ek => ⟨fun z => (by rw [ek] at z; cases z), fun _ => sw_nx ?_⟩))
      walk_at "w"
      refine hs8 _ fun i h0 h1 => ?_
      refine sw_seq (sw_if (Tw.mono (Q := fun k => k = false) (fun bx => ⟨false, bx, rfl, rfl⟩) fun k ek => ⟨fun z => (by rw [ek] at z; cases z), fun _ => sw_nx ?_⟩))
      refine sw_seq (sw_if (Tw.mono (Q := fun k => k = false) (fun bx => ⟨false, bx, rfl, rfl⟩) fun k ek => ⟨fun z => (by rw [ek] at z; cases z), fun _ => sw_nx ?_⟩))
      refine sw_seq (sw_if (Tw.mono (Q := fun k => k = false) (fun bx => ⟨false, bx, rfl, rfl⟩) fun k ek => ⟨fun z => (by rw [ek] at z; cases z), fun _ => sw_nx ?_⟩))
      walk_at "w"
      refine o_pick h0 h1 fun x hx => q x ?_
      simp only [List.mem_cons, List.not_mem_nil, or_false] at hx
      rcases hx with rfl | rfl | rfl | rfl | rfl | rfl | rfl | rfl <;> exact ⟨by decide +kernel, by simp [D.dep, D.depL]⟩
    | int z =>
      have hz : z.natAbs ≤ 1000000000 := by simpa [bs] using hv
      refine sw_seq (sw_if (Tw.mono (Q := fun k => k = false) (fun bx => ⟨false, bx, rfl, rfl⟩) fun k ek => ⟨fun z => (by rw [ek] at z; cases z), fun _ => sw_nx ?_⟩))
      walk_at "w"
      refine hs8 _ fun i h0 h1 => ?_
      refine sw_seq (sw_if (Tw.mono (Q := fun k => k = false) (fun bx => ⟨false, bx, rfl, rfl⟩) fun k ek => ⟨fun z => (by rw [ek] at z; cases z), fun _ => sw_nx ?_⟩))
      refine sw_seq (sw_if (Tw.mono (Q := fun k => k = true) (fun bx => ⟨true, bx, rfl, rfl⟩) fun k ek => ⟨fun _ => ?_, fun z => (by rw [ek] at z; cases z)⟩))
      have hlog : z.natAbs.log2 < 1920 := by
        by_cases hz0 : z.natAbs = 0
        · rw [hz0]; decide
        · rw [Nat.log2_lt hz0]
          exact Nat.lt_of_le_of_lt hz (by decide)
      walk_at "w"
      refine ⟨.str (toString z : String), by rw [strD, if_pos hlog], ?_⟩
      walk_at "w"
      refine o_pick h0 h1 fun x hx => ⟨_, rfl, q x ?_⟩
      simp only [List.mem_cons, List.not_mem_nil, or_false] at hx
      rcases hx with rfl | rfl | rfl | rfl | rfl | rfl | rfl | rfl
      · exact ⟨rfl, by simp [D.dep]⟩
      · exact ⟨rfl, by simp [D.dep]⟩
      · exact ⟨rfl, by simp [D.dep]⟩
      · exact ⟨rfl, by simp [D.dep]⟩
      · exact ⟨rfl, by simp [D.dep]⟩
      · exact ⟨gd_lit _, by simp [D.dep]⟩
      · exact ⟨rfl, by simp [D.dep, D.depL]⟩
      · exact ⟨rfl, by simp [D.dep]⟩
    | str z =>
      have hz : z.length ≤ 1000 := by simp only [bs, Bool.and_eq_true, decide_eq_true_iff] at hv; exact hv.1
      have hgz : gd (.str z) = true := bs_gd _ hv
      have hsz : (1000000 : Nat) ≤ PySem.sizeLine := by rw [PySem.sizeLine_eq]; omega
      refine sw_seq (sw_if (Tw.mono (Q := fun k => k = false) (fun bx => ⟨false, bx, rfl, rfl⟩) fun k ek => ⟨fun z => (by rw [ek] at z; cases z), fun _ => sw_nx ?_⟩))
      walk_at "w"
      refine hs8 _ fun i h0 h1 => ?_
      refine sw_seq (sw_if (Tw.mono (Q := fun k => k = false) (fun bx => ⟨false, bx, rfl, rfl⟩) fun k ek => ⟨fun z => (by rw [ek] at z; cases z), fun _ => sw_nx ?_⟩))
      refine sw_seq (sw_if (Tw.mono (Q := fun k => k = false) (fun bx => ⟨false, bx, rfl, rfl⟩) fun k ek => ⟨fun z => (by rw [ek] at z; cases z), fun _ => sw_nx ?_⟩))
      refine sw_seq (sw_if (Tw.mono (Q := fun k => k = true) (fun bx => ⟨true, bx, rfl, rfl⟩) fun k ek => ⟨fun _ => ?_, fun z => (by rw [ek] at z; cases z)⟩))
      walk_at "w"
      refine ⟨_, by
        show opAdd (.str z) (.str ("s" : Str)) = some (.str (z ++ ("s" : Str)))
        have : ("s" : Str).length = 1 := by decide +kernel
        simp only [opAdd]
        rw [if_pos (by rw [this]; omega)], ?_⟩
      walk_at "w"
      refine ⟨.str (L2.cutS z (some 1) none), by simp only [sliceD]; rw [if_pos (by omega)], ?_⟩
      walk_at "w"
      refine o_pick h0 h1 fun x hx => ⟨_, rfl, q x ?_⟩
      simp only [List.mem_cons, List.not_mem_nil, or_false] at hx
      rcases hx with rfl | rfl | rfl | rfl | rfl | rfl | rfl | rfl
      · exact ⟨gd_app hgz (gd_lit _), by simp [D.dep]⟩
      · exact ⟨gd_cut hgz _ _, by simp [D.dep]⟩
      · exact ⟨gd_lit _, by simp [D.dep]⟩
      · exact ⟨gd_lit _, by simp [D.dep]⟩
      · exact ⟨rfl, by simp [D.dep]⟩
      · exact ⟨rfl, by simp [D.dep]⟩
      · exact ⟨gd_lit _, by simp [D.dep]⟩
      · exact ⟨gd_lit _, by simp [D.dep]⟩
end Sv

set_option maxHeartbeats 1000000
/-! Pl4: numbers in tuples, sorted. -/
namespace Sv
open PySem (Str PyData)
/-! ### indices -/
def idxB (n : Nat) (v : D) : Bool := match v with
  | .tup vs => vs.all fun d => numB d 0 ((n : Int) - 1)
  | _ => false
def nats : D → List Nat
  | .tup vs => vs.map fun d => match d with | .int i => i.toNat | _ => 0
  | _ => []
theorem numB_nat {d : D} {n : Nat} (h : numB d 0 ((n : Int) - 1) = true) : ∃ k : Nat, d = nE k ∧ k < n := by
  cases d with
  | int i =>
    simp only [numB, decide_eq_true_iff] at h
    exact ⟨i.toNat, by show D.int i = D.int (i.toNat : Int); rw [Int.toNat_of_nonneg h.1], by omega⟩
  | _ => cases h
theorem idx_of {n : Nat} {v : D} (h : idxB n v = true) : v = tN (nats v) ∧ ∀ k ∈ nats v, k < n := by
  cases v with
  | tup vs =>
    simp only [idxB, List.all_eq_true] at h
    refine ⟨?_, fun k hk => ?_⟩
    · simp only [tN, nats, List.map_map]
      congr 1
      conv => lhs; rw [← List.map_id vs]
      refine List.map_congr_left fun d hd => ?_
      obtain ⟨k, rfl, _⟩ := numB_nat (h d hd)
      simp
    · obtain ⟨d, hd, rfl⟩ := List.mem_map.mp hk
      obtain ⟨k, rfl, hk2⟩ := numB_nat (h d hd)
      simpa using hk2
  | _ => cases h
theorem nats_tN (ks : List Nat) : nats (tN ks) = ks := by simp [nats, tN, Function.comp_def]
theorem idxB_tN {n : Nat} {ks : List Nat} : idxB n (tN ks) = ks.all fun k => decide (k < n) := by
  simp only [idxB, tN, List.all_map]
  congr 1
  funext k
  simp only [Function.comp, nE, numB]
  by_cases h : k < n
  · have : (0 : Int) ≤ k ∧ (k : Int) ≤ n - 1 := by omega
    simp [h, this]
  · have : ¬ ((0 : Int) ≤ k ∧ (k : Int) ≤ n - 1) := by omega
    rw [decide_eq_false this, decide_eq_false h]
/-! ### sorted -/
theorem sortOk_nat (ks : List Nat) : sortOk (ks.map nE) = true := by
  simp only [sortOk, List.all_map, Bool.and_eq_true, Bool.or_eq_true, List.all_eq_true, Function.comp]
  exact ⟨⟨fun _ _ => rfl, fun _ _ _ _ => by simp [D.py, PySem.W.alike]⟩, .inr fun _ _ => trivial⟩
theorem sortL_mem {xs : List D} {d : D} : d ∈ sortL xs ↔ d ∈ xs := by
  unfold sortL
  exact (List.mergeSort_perm xs _).mem_iff
theorem sm_sortL {ks : List Nat} : (D.lst (sortL (ks.map nE))).sm = true := by
  refine sm_of ?_ ?_
  · simp only [D.plain]
    rw [plainL_iff]
    intro d hd
    rw [sortL_mem] at hd
    obtain ⟨k, _, rfl⟩ := List.mem_map.mp hd
    rfl
  · simp only [D.dep]
    have : D.depL (sortL (ks.map nE)) ≤ 0 := depL_le.mpr fun d hd => by
      rw [sortL_mem] at hd
      obtain ⟨k, _, rfl⟩ := List.mem_map.mp hd
      exact Nat.le_refl _
    omega
/-- sorted(ks) == list(range(n)) -/
def srtB (ks : List Nat) (n : Nat) : Bool := PyData.eqv (D.lst (sortL (ks.map nE))).py (lN (List.range n)).py
theorem o_sortT {ks : List Nat} {Q : D → Prop} (q : Q (.lst (sortL (ks.map nE)))) : OrW (sortedD [tN ks]) Q := .of (by simp only [sortedD, tN, sortOk_nat, if_true]) q
theorem o_eqSrt {ks : List Nat} {n : Nat} {Q : D → Prop} (q : Q (.bl (srtB ks n))) : OrW (opEq (.lst (sortL (ks.map nE))) (lN (List.range n))) Q :=
  .of (by simp only [opEq, eqD, sm_sortL, enc_nat.lst.sm (by decide) (List.range n), and_self, if_true, Option.map_some]; rfl) q
theorem o_neSrt {ks : List Nat} {n : Nat} {Q : D → Prop} (q : Q (.bl (!srtB ks n))) : OrW (opNe (.lst (sortL (ks.map nE))) (lN (List.range n))) Q :=
  .of (by simp only [opNe, eqD, sm_sortL, enc_nat.lst.sm (by decide) (List.range n), and_self, if_true, Option.map_some]; rfl) q
/-- all([p(x) for x in value]) of any tuple -/
theorem iw_tup {ρ : Rho} {f : Ex} {Q : List D → Prop} {vs : List D} (h : Ew f ρ fun d => d = .tup vs) (q : Q vs) : Iw (iSeq f) ρ Q := iw_seq (h.mono fun d e => ⟨vs, by rw [e]; rfl, q⟩)
end Sv
namespace Sv
open PySem (Str PyData)
/-! ### lists of data of a kind -/
theorem sw_forV {ρ : Rho} {Q : Fl → Rho → Prop} {s : SS} {it : It} {g : Tg} (V : D → Prop) (I : Rho → Prop) (hi : Iw it ρ fun ds => ∀ d ∈ ds, V d) (h0 : I ρ)
    (hs : ∀ d ρ1, V d → I ρ1 → ∃ ρ2, g d ρ1 = some ρ2 ∧ Sw s ρ2 fun fl ρ3 => match fl with | .nx => I ρ3 | .ct => I ρ3 | .bk => Q .nx ρ3 | .rt d => Q (.rt d) ρ3) (q : ∀ ρ1, I ρ1 → Q .nx ρ1) : Sw (sFor it g s) ρ Q := fun b => by
  obtain ⟨ds, b1, e1, hv⟩ := hi b
  have h := sw_for (it := fun _ b => some (ds, b)) (g := g) (s := s) (Q := Q) (ρ := ρ) ds (fun _ ρ => I ρ) (fun b => ⟨ds, b, rfl, rfl⟩) h0 (fun i d ρ1 hd hI => hs d ρ1 (hv d (List.mem_of_getElem? hd)) hI) fun ρ1 h => q ρ1 h
  obtain ⟨fl, ρ', b', e2, q'⟩ := h b1
  exact ⟨fl, ρ', b', by unfold sFor at e2 ⊢; rw [e1]; exact e2, q'⟩
theorem ew_lcV {ρ : Rho} {Q : D → Prop} {f : Ex} {it : It} {g : Tg} {vs : List Nat} (V : D → Prop) (ds : List D) (hi : Iw it ρ fun xs => xs = ds)
    (hs : ∀ d ∈ ds, ∃ ρ1, g d (wipeR ρ vs) = some ρ1 ∧ Ew f ρ1 V) (q : ∀ rs : List D, rs.length = ds.length → (∀ d ∈ rs, V d) → Q (.lst rs)) : Ew (eLc it g tYes' f vs) ρ Q :=
  ew_lcI ds (fun i acc => acc.length = i ∧ ∀ d ∈ acc, V d) hi ⟨rfl, by simp⟩ (fun i d acc e r => by
    obtain ⟨ρ1, e1, h⟩ := hs d (List.mem_of_getElem? e)
    refine ⟨ρ1, e1, tw_yes ⟨fun _ => h.mono fun z hz => ⟨by simp [r.1], fun d' hd => ?_⟩, fun e => by cases e⟩⟩
    rcases List.mem_append.mp hd with h | h
    · exact r.2 d' h
    · simp at h; subst h; exact hz) fun acc r => q acc r.1 r.2
theorem o_neB {a b : Bool} {Q : D → Prop} (q : Q (.bl (a != b))) : OrW (opNe (.bl a) (.bl b)) Q := .of (by cases a <;> cases b <;> rfl) q
theorem o_eqB {a b : Bool} {Q : D → Prop} (q : Q (.bl (a == b))) : OrW (opEq (.bl a) (.bl b)) Q := .of (by cases a <;> cases b <;> rfl) q
/-- data that are asked about -/
def Vd (v : D) : Prop := gd v = true ∧ v.dep ≤ 12
end Sv

set_option maxHeartbeats 1000000
/-! Pl5: walking with values read off. -/
namespace Sv
open PySem (Str PyData)
section
variable {ρ : Rho} {Q : D → Prop} {f f' f'' : Ex} {t u : Tx} {ag : As}
/-! ### comprehensions, what is made read off -/
theorem ew_lcM' {α : Type} {xs : List α} {enc : α → D} {res : α → D} {it : It} {g : Tg} {vs : List Nat} (hi : Iw it ρ fun ds => ds = xs.map enc)
    (hs : ∀ x, x ∈ xs → ∃ ρ1, g (enc x) (wipeR ρ vs) = some ρ1 ∧ Ew f ρ1 fun r => r = res x) (q : Q (.lst (xs.map res))) : Ew (eLc it g tYes' f vs) ρ Q :=
  ew_lcM xs enc res hi (fun x hx => hs x hx) q
theorem ew_lc' {α : Type} {xs : List α} {enc : α → D} {p : α → Bool} {res : α → D} {it : It} {g : Tg} {vs : List Nat} (hi : Iw it ρ fun ds => ds = xs.map enc)
    (hs : ∀ x, x ∈ xs → ∃ ρ1, g (enc x) (wipeR ρ vs) = some ρ1 ∧ Tw t ρ1 fun k => k = p x ∧ (k = true → Ew f ρ1 fun r => r = res x)) (q : Q (.lst ((xs.filter p).map res))) : Ew (eLc it g t f vs) ρ Q :=
  ew_lc xs enc p res hi (fun x hx => hs x hx) q
/-! ### and, or, if as values -/
theorem ew_andC {y : Bool} (h : Ew f ρ fun d => ∃ x, d = .bl x ∧ (x = true → Ew f' ρ fun d => d = .bl y) ∧ Q (.bl (x && y))) : Ew (eAnd f f') ρ Q := fun b => by
  obtain ⟨d, b1, e1, x, rfl, h2, q⟩ := h b
  cases x with
  | true =>
    obtain ⟨d2, b2, e2, rfl⟩ := h2 rfl b1
    exact ⟨.bl y, b2, by unfold eAnd; rw [e1]; simp only [truthD, e2], by simpa using q⟩
  | false => exact ⟨.bl false, b1, by unfold eAnd; rw [e1]; simp only [truthD], by simpa using q⟩
theorem ew_orC {y : Bool} (h : Ew f ρ fun d => ∃ x, d = .bl x ∧ (x = false → Ew f' ρ fun d => d = .bl y) ∧ Q (.bl (x || y))) : Ew (eOr f f') ρ Q := fun b => by
  obtain ⟨d, b1, e1, x, rfl, h2, q⟩ := h b
  cases x with
  | false =>
    obtain ⟨d2, b2, e2, rfl⟩ := h2 rfl b1
    exact ⟨.bl y, b2, by unfold eOr; rw [e1]; simp only [truthD, e2], by simpa using q⟩
  | true => exact ⟨.bl true, b1, by unfold eOr; rw [e1]; simp only [truthD], by simpa using q⟩
theorem tw_andC {y : Bool} {Q : Bool → Prop} (h : Tw t ρ fun x => (x = true → Tw u ρ fun k => k = y) ∧ Q (x && y)) : Tw (tAnd t u) ρ Q := fun b => by
  obtain ⟨x, b1, e1, h2, q⟩ := h b
  cases x with
  | true =>
    obtain ⟨d2, b2, e2, rfl⟩ := h2 rfl b1
    exact ⟨d2, b2, by unfold tAnd; rw [e1]; simp only [e2], by simpa using q⟩
  | false => exact ⟨false, b1, by unfold tAnd; rw [e1], by simpa using q⟩
theorem tw_orC {y : Bool} {Q : Bool → Prop} (h : Tw t ρ fun x => (x = false → Tw u ρ fun k => k = y) ∧ Q (x || y)) : Tw (tOr t u) ρ Q := fun b => by
  obtain ⟨x, b1, e1, h2, q⟩ := h b
  cases x with
  | false =>
    obtain ⟨d2, b2, e2, rfl⟩ := h2 rfl b1
    exact ⟨d2, b2, by unfold tOr; rw [e1]; simp only [e2], by simpa using q⟩
  | true => exact ⟨true, b1, by unfold tOr; rw [e1], by simpa using q⟩
theorem ew_ifI {x y : Int} (h : Tw t ρ fun k => (k = true → Ew f ρ fun d => d = .int x) ∧ (k = false → Ew f' ρ fun d => d = .int y) ∧ Q (.int (if k = true then x else y))) : Ew (eIf t f f') ρ Q := fun b => by
  obtain ⟨k, b1, e1, h1, h2, q⟩ := h b
  cases k with
  | true =>
    obtain ⟨d, b2, e2, rfl⟩ := h1 rfl b1
    exact ⟨_, b2, by unfold eIf; rw [e1]; exact e2, by simpa using q⟩
  | false =>
    obtain ⟨d, b2, e2, rfl⟩ := h2 rfl b1
    exact ⟨_, b2, by unfold eIf; rw [e1]; exact e2, by simpa using q⟩
theorem ew_ifV {x y : D} (h : Tw t ρ fun k => (k = true → Ew f ρ fun d => d = x) ∧ (k = false → Ew f' ρ fun d => d = y) ∧ Q (if k = true then x else y)) : Ew (eIf t f f') ρ Q := fun b => by
  obtain ⟨k, b1, e1, h1, h2, q⟩ := h b
  cases k with
  | true =>
    obtain ⟨d, b2, e2, rfl⟩ := h1 rfl b1
    exact ⟨_, b2, by unfold eIf; rw [e1]; exact e2, by simpa using q⟩
  | false =>
    obtain ⟨d, b2, e2, rfl⟩ := h2 rfl b1
    exact ⟨_, b2, by unfold eIf; rw [e1]; exact e2, by simpa using q⟩
/-! ### subscripts -/
theorem o_ixTI {xs : List Int} {k : Nat} (h : k < xs.length) (q : Q (.int (xs.getD k 0))) : OrW (ixD (.tup (xs.map .int)) (.int (k : Nat))) Q := o_ixTn (e := D.int) (by rw [List.getD_eq_getElem?_getD, List.getElem?_eq_getElem h]; rfl) q
theorem o_ixLI {xs : List Int} {k : Nat} (h : k < xs.length) (q : Q (.int (xs.getD k 0))) : OrW (ixD (.lst (xs.map .int)) (.int (k : Nat))) Q := o_ixLn (e := D.int) (by rw [List.getD_eq_getElem?_getD, List.getElem?_eq_getElem h]; rfl) q
theorem o_ixTN {xs : List Nat} {k : Nat} (h : k < xs.length) (q : Q (nE (xs.getD k 0))) : OrW (ixD (.tup (xs.map nE)) (.int (k : Nat))) Q := o_ixTn (e := nE) (by rw [List.getD_eq_getElem?_getD, List.getElem?_eq_getElem h]; rfl) q
theorem o_ixLN {xs : List Nat} {k : Nat} (h : k < xs.length) (q : Q (nE (xs.getD k 0))) : OrW (ixD (.lst (xs.map nE)) (.int (k : Nat))) Q := o_ixLn (e := nE) (by rw [List.getD_eq_getElem?_getD, List.getElem?_eq_getElem h]; rfl) q
theorem o_ixTG {α : Type} [Inhabited α] {e : α → D} {xs : List α} {k : Nat} (h : k < xs.length) (q : Q (e (xs.getD k default))) : OrW (ixD (.tup (xs.map e)) (.int (k : Nat))) Q := o_ixTn (by rw [List.getD_eq_getElem?_getD, List.getElem?_eq_getElem h]; rfl) q
theorem o_ixLG {α : Type} [Inhabited α] {e : α → D} {xs : List α} {k : Nat} (h : k < xs.length) (q : Q (e (xs.getD k default))) : OrW (ixD (.lst (xs.map e)) (.int (k : Nat))) Q := o_ixLn (by rw [List.getD_eq_getElem?_getD, List.getElem?_eq_getElem h]; rfl) q
theorem o_ix0 {a : D} {xs : List D} (q : Q a) : OrW (ixD (.tup (a :: xs)) (.int 0)) Q := .of (by rw [ixD]; exact atI_nat (k := 0)) q
theorem o_ix1 {a b : D} {xs : List D} (q : Q b) : OrW (ixD (.tup (a :: b :: xs)) (.int 1)) Q := .of (by rw [ixD]; exact atI_nat (k := 1)) q
theorem o_ix2 {a b c : D} {xs : List D} (q : Q c) : OrW (ixD (.tup (a :: b :: c :: xs)) (.int 2)) Q := .of (by rw [ixD]; exact atI_nat (k := 2)) q
theorem o_ix3 {a b c d : D} {xs : List D} (q : Q d) : OrW (ixD (.tup (a :: b :: c :: d :: xs)) (.int 3)) Q := .of (by rw [ixD]; exact atI_nat (k := 3)) q
theorem o_ix0L {a : D} {xs : List D} (q : Q a) : OrW (ixD (.lst (a :: xs)) (.int 0)) Q := .of (by rw [ixD]; exact atI_nat (k := 0)) q
/-! ### kinds -/
theorem o_isTupT {xs : List D} (q : Q (.bl true)) : OrW ((isT (.tup xs) .tuple).map .bl) Q := .of rfl q
theorem x_tr {Q : Bool → Prop} {d : D} {k : Bool} (e : truthD d = some k) (q : Q k) : ∃ i, truthD d = some i ∧ Q i := ⟨k, e, q⟩
theorem x_tri {Q : Bool → Prop} {i : Int} (q : Q (decide (i ≠ 0))) : ∃ k, truthD (.int i) = some k ∧ Q k := ⟨_, by show some (i != 0) = _; congr 1; by_cases h : i = 0 <;> simp [h], q⟩
theorem x_trT {Q : Bool → Prop} {xs : List D} (q : Q (!xs.isEmpty)) : ∃ k, truthD (.tup xs) = some k ∧ Q k := ⟨_, rfl, q⟩
theorem x_trL {Q : Bool → Prop} {xs : List D} (q : Q (!xs.isEmpty)) : ∃ k, truthD (.lst xs) = some k ∧ Q k := ⟨_, rfl, q⟩
theorem o_mulI {x y : Int} (h : mulOk x y = true) (q : Q (.int (x * y))) : OrW (opMul (.int x) (.int y)) Q := .of (by rw [opMul, if_pos h]) q
theorem o_max2 {x y : Int} (q : Q (.int (max x y))) : OrW (max2D [.int x, .int y]) Q := .of (by
  show some (D.int (if y > x then y else x)) = _
  congr 2
  rw [Int.max_def]
  by_cases h : y > x
  · rw [if_pos h, if_pos (by omega)]
  · by_cases h2 : x ≤ y
    · rw [if_neg h, if_pos h2]; omega
    · rw [if_neg h, if_neg h2]) q
theorem o_min2 {x y : Int} (q : Q (.int (min x y))) : OrW (min2D [.int x, .int y]) Q := .of (by
  show some (D.int (if y < x then y else x)) = _
  congr 2
  rw [Int.min_def]
  by_cases h : y < x
  · rw [if_pos h, if_neg (by omega)]
  · rw [if_neg h, if_pos (by omega)]) q
theorem o_addTs {xs ys : List D} (h : xs.length + ys.length ≤ 1000000) (q : Q (.tup (xs ++ ys))) : OrW (opAdd (.tup xs) (.tup ys)) Q := o_addT (by rw [PySem.sizeLine_eq]; omega) q
theorem o_addLs {xs ys : List D} (h : xs.length + ys.length ≤ 1000000) (q : Q (.lst (xs ++ ys))) : OrW (opAdd (.lst xs) (.lst ys)) Q := o_addL (by rw [PySem.sizeLine_eq]; omega) q
theorem o_isN {d : D} (h : ∀ n, d ≠ .tok n) (q : Q (.bl (decide (d = .non)))) : OrW (opIsN2 d .non) Q := x_isNone q h
theorem o_maxL {xs : List Int} (h : xs ≠ []) (q : Q (.int (maxI xs))) : OrW (maxLD [.lst (xs.map .int)]) Q := by
  cases xs with
  | nil => exact absurd rfl h
  | cons x xs =>
    refine .of ?_ q
    have := intsD_typed (fun i : Int => i) (x :: xs)
    simp only [List.map_id'] at this
    simp only [maxLD, bestOf]
    rw [show (List.map D.int (x :: xs)) = (x :: xs).map fun i => D.int i from rfl, this]
    rfl
theorem o_minL {xs : List Int} (h : xs ≠ []) (q : Q (.int (minI xs))) : OrW (minLD [.lst (xs.map .int)]) Q := by
  cases xs with
  | nil => exact absurd rfl h
  | cons x xs =>
    refine .of ?_ q
    have := intsD_typed (fun i : Int => i) (x :: xs)
    simp only [List.map_id'] at this
    simp only [minLD, bestOf]
    rw [show (List.map D.int (x :: xs)) = (x :: xs).map fun i => D.int i from rfl, this]
    rfl
end
/-! ### over range -/
theorem getD_eq {α : Type} {xs : List α} {k : Nat} (d : α) (h : k < xs.length) : xs.getD k d = xs[k] := by
  rw [List.getD_eq_getElem?_getD, List.getElem?_eq_getElem h]; rfl
theorem getD_map {α β : Type} (f : α → β) (d : α) (d' : β) {xs : List α} {k : Nat} (h : k < xs.length) : (xs.map f).getD k d' = f (xs.getD k d) := by
  rw [getD_eq d h, getD_eq d' (by rw [List.length_map]; exact h), List.getElem_map]
theorem map_range {α β : Type} (d : α) (e : α → β) (xs : List α) : xs.map e = (List.range xs.length).map fun k => e (xs.getD k d) := by
  apply List.ext_getElem
  · simp
  · intro k h1 h2
    simp only [List.length_map] at h1
    simp [getD_eq d h1, h1]
theorem enumD_range {α : Type} (d : α) (e : α → D) (xs : List α) : enumD 0 (xs.map e) = (List.range xs.length).map fun k => .tup [nE k, e (xs.getD k d)] := by
  rw [enumD_map]
  apply List.ext_getElem
  · simp
  · intro k h1 h2
    have h3 : k < xs.length := by simpa using h2
    simp [getD_eq d h3, h3]
theorem zipD_range {α β : Type} (d : α) (d' : β) (e : α → D) (e' : β → D) {xs : List α} {ys : List β} (h : ys.length = xs.length) : zipD (xs.map e) (ys.map e') = (List.range xs.length).map fun k => .tup [e (xs.getD k d), e' (ys.getD k d')] := by
  rw [zipD_map]
  apply List.ext_getElem
  · simp [h]
  · intro k h1 h2
    have h3 : k < xs.length := by simpa using h2
    have h4 : k < ys.length := by omega
    simp [getD_eq d h3, getD_eq d' h4, h3, h4]
def RngQ (Q : List D → Prop) (ds : List D) : Prop := ∃ n : Nat, ds = [nE n] ∧ n ≤ 16777216 ∧ Q ((List.range n).map nE)
theorem rngQ {n : Nat} {Q : List D → Prop} (h : n ≤ 16777216) (q : Q ((List.range n).map nE)) : RngQ Q [.int (n : Int)] := ⟨n, rfl, h, q⟩
theorem iw_rangeI {ρ : Rho} {ag : As} {Q : List D → Prop} (h : Aw ag ρ (RngQ Q)) : Iw (iRange ag) ρ Q :=
  iw_range (h.mono fun ds ⟨n, e, hn, q⟩ => ⟨n, _, e, rangeD_nat hn, q⟩)
theorem iw_enumR {α : Type} {ρ : Rho} {f : Ex} {Q : List D → Prop} (dflt : α) {xs : List α} {e : α → D} (h : Ew f ρ fun d => ∃ w, itemsD d = some w ∧ w = xs.map e ∧ Q ((List.range xs.length).map fun k => .tup [nE k, e (xs.getD k dflt)])) : Iw (iEnum f) ρ Q :=
  iw_enum (h.mono fun d ⟨w, h1, h2, q⟩ => ⟨w, h1, by rw [h2, enumD_range dflt]; exact q⟩)
/-- what a turn must reach -/
@[reducible] def LpQ (I : Rho → Prop) (Q : Fl → Rho → Prop) : Fl → Rho → Prop := fun fl ρ => match fl with
  | .nx => I ρ
  | .ct => I ρ
  | .bk => Q .nx ρ
  | .rt d => Q (.rt d) ρ
/-- for, over range -/
theorem sw_forR {ρ : Rho} {Q : Fl → Rho → Prop} {s : SS} {it : It} {g : Tg} (n : Nat) (enc : Nat → D) (I : Nat → Rho → Prop) (hi : Iw it ρ fun xs => xs = (List.range n).map enc) (h0 : I 0 ρ)
    (hs : ∀ i, i < n → ∀ ρ1, I i ρ1 → ∃ ρ2, g (enc i) ρ1 = some ρ2 ∧ Sw s ρ2 (LpQ (I (i + 1)) Q)) (q : ∀ ρ1, I n ρ1 → Q .nx ρ1) : Sw (sFor it g s) ρ Q := by
  refine sw_for ((List.range n).map enc) I hi h0 (fun i d ρ1 e r => ?_) fun ρ1 r => q ρ1 (by simpa using r)
  rw [List.getElem?_map] at e
  cases h : (List.range n)[i]? with
  | none => rw [h] at e; cases e
  | some k =>
    rw [h] at e; cases e
    have hk := List.getElem?_eq_some_iff.mp h
    obtain ⟨hl, hk⟩ := hk
    simp at hk hl
    subst hk
    exact hs i hl ρ1 r
theorem sw_store' {ρ : Rho} {Q : Fl → Rho → Prop} {f f' : Ex} {α : Type} {e : α → D} {i : Nat} {xs : List α} (e0 : ρ[i]? = some (Sl.own (.lst (xs.map e)))) (h : Ew f' ρ fun d => ∃ x, d = e x ∧ Ew f ρ fun z => ∃ k : Nat, z = nE k ∧ k < xs.length ∧ Q .nx (ρ.set i (.own (.lst ((xs.set k x).map e))))) : Sw (sStore i f f') ρ Q :=
  sw_store (h.mono fun d ⟨x, ed, h⟩ => ⟨xs.map e, e0, h.mono fun z ⟨k, ez, hk, q⟩ => ⟨k, k, by rw [ez], by
    unfold L2.ixN
    rw [List.length_map]
    have h1 : (0 : Int) ≤ k := by omega
    have h2 : (k : Int) < xs.length := by omega
    simp [h1, h2], by rw [ed, ← List.map_set]; exact q⟩⟩)
theorem sw_augS {ρ : Rho} {Q : Fl → Rho → Prop} {f f' : Ex} {i : Nat} {k : Int → Int → Int} {xs : List Int} (e0 : ρ[i]? = some (Sl.own (lI xs))) (h : Ew f ρ fun z => ∃ j : Nat, z = nE j ∧ j < xs.length ∧ Ew f' ρ fun d => ∃ y, d = .int y ∧ Q .nx (ρ.set i (.own (lI (xs.set j (k (xs.getD j 0) y)))))) : Sw (sAugS i k f f') ρ Q := fun b => by
  obtain ⟨z, b1, e1, j, rfl, hj, h⟩ := h b
  obtain ⟨d, b2, e2, y, rfl, q⟩ := h b1
  refine ⟨.nx, _, b2, ?_, q⟩
  have hix : L2.ixN (xs.map D.int).length (j : Int) = some j := by
    unfold L2.ixN
    rw [List.length_map]
    have h1 : (0 : Int) ≤ j := by omega
    have h2 : (j : Int) < xs.length := by omega
    simp [h1, h2]
  unfold sAugS
  rw [e0]
  simp only [e1, hix, List.getElem?_map, List.getElem?_eq_getElem hj, Option.map_some, e2]
  rw [getD_eq 0 hj, lI, List.map_set]
theorem mw_app {ρ : Rho} {Q : D → Rho → Prop} {α : Type} {e : α → D} {i : Nat} {f : Ex} {xs : List α} (e0 : ρ[i]? = some (Sl.own (.lst (xs.map e)))) (hl : xs.length < 1000000) (h : Ew f ρ fun d => ∃ x, d = e x ∧ Q .non (ρ.set i (.own (.lst ((xs ++ [x]).map e))))) : Mw (mMeth i kApp (mOne (mUp f))) ρ Q :=
  mw_meth e0 (maw_one (mw_up (h.mono fun d ⟨x, ed, q⟩ => ⟨_, _, _, e0, by rw [kApp, if_pos (by rw [List.length_map, PySem.sizeLine_eq]; omega)], by rw [ed]; rw [List.map_append] at q; exact q⟩)))
theorem mw_ext {ρ : Rho} {Q : D → Rho → Prop} {α : Type} {e : α → D} {i : Nat} {f : Ex} {xs : List α} (e0 : ρ[i]? = some (Sl.own (.lst (xs.map e)))) (h : Ew f ρ fun d => ∃ ys : List α, d = .lst (ys.map e) ∧ xs.length + ys.length ≤ 1000000 ∧ Q .non (ρ.set i (.own (.lst ((xs ++ ys).map e))))) : Mw (mMeth i kExt (mOne (mUp f))) ρ Q :=
  mw_meth e0 (maw_one (mw_up (h.mono fun d ⟨ys, ed, hl, q⟩ => ⟨xs.map e, .non, xs.map e ++ ys.map e, e0, by subst ed; rw [kExt, if_pos (by rw [List.length_map, List.length_map, PySem.sizeLine_eq]; omega)], by rw [List.map_append] at q; exact q⟩)))
/-! ### asking for sameness -/
/-- if not same(a, b): return False .. where they are the same -/
theorem sw_same {ρ : Rho} {Q : Fl → Rho → Prop} {F : Fn} {f g : Ex} {s : SS} (h : Ew f ρ fun x => Ew g ρ fun y => Fw F [x, y] (fun d => d = .bl true) ∧ Sw s ρ Q) : Sw (sSeq (sIf (tNot (tOf (eCall F (aCons f (aCons g aNil))))) (sRet (eCon (.bl false))) sNx) s) ρ Q := by
  refine sw_seq (sw_if (tw_not (tw_of (ew_call (aw_cons (h.mono fun x h => aw_cons (h.mono fun y ⟨h1, h2⟩ => aw_nil (h1.mono fun d e => ?_))))))))
  subst e
  exact ⟨true, rfl, fun z => (by cases z), fun _ => sw_nx h2⟩
theorem sw_if_no {ρ : Rho} {Q : Fl → Rho → Prop} {t : Tx} {s s' : SS} (h : Tw t ρ fun k => k = false ∧ Sw s' ρ Q) : Sw (sSeq (sIf t s sNx) s') ρ Q :=
  sw_seq (sw_if (h.mono fun k ⟨e, h2⟩ => by subst e; exact ⟨fun z => (by cases z), fun _ => sw_nx h2⟩))
theorem sw_if_noE {ρ : Rho} {Q : Fl → Rho → Prop} {t : Tx} {s : SS} (h : Tw t ρ fun k => k = false ∧ Q .nx ρ) : Sw (sIf t s sNx) ρ Q :=
  sw_if (h.mono fun k ⟨e, h2⟩ => by subst e; exact ⟨fun z => (by cases z), fun _ => sw_nx h2⟩)
/-! ### what the walker uses -/
theorem o_sumTI {xs : List Int} {Q : D → Prop} (q : Q (.int xs.sum)) : OrW (sumD [.tup (xs.map .int)]) Q := o_sumT (p := fun x => x) (by simpa using q)
theorem tr_imp {k : Bool} {A : Prop} (h : k = true → A) : k = true → A := h
theorem fa_imp {k : Bool} {A : Prop} (h : k = false → A) : k = false → A := h
/-- a test's two ways -/
def Br (k : Bool) (A B : Prop) : Prop := (k = true → A) ∧ (k = false → B)
theorem br {k : Bool} {A B : Prop} (h1 : k = true → A) (h2 : k = false → B) : Br k A B := ⟨h1, h2⟩
theorem brF {k : Bool} {A B : Prop} (e : k = false) (h2 : B) : Br k A B := ⟨fun z => (by rw [e] at z; cases z), fun _ => h2⟩
theorem brT {k : Bool} {A B : Prop} (e : k = true) (h2 : A) : Br k A B := ⟨fun _ => h2, fun z => (by rw [e] at z; cases z)⟩
theorem brD {p : Prop} [Decidable p] {A B : Prop} (h1 : p → A) (h2 : ¬ p → B) : Br (decide p) A B := ⟨fun z => h1 (of_decide_eq_true z), fun z => h2 (of_decide_eq_false z)⟩
theorem sw_ifB {ρ : Rho} {Q : Fl → Rho → Prop} {t : Tx} {s s' : SS} (h : Tw t ρ fun k => Br k (Sw s ρ Q) (Sw s' ρ Q)) : Sw (sIf t s s') ρ Q := sw_if h
theorem ew_ifB {ρ : Rho} {Q : D → Prop} {t : Tx} {f f' : Ex} (h : Tw t ρ fun k => Br k (Ew f ρ Q) (Ew f' ρ Q)) : Ew (eIf t f f') ρ Q := ew_if h
theorem dec_imp {p : Prop} [Decidable p] {A : Prop} (h : p → A) : decide p = true → A := fun z => h (of_decide_eq_true z)
theorem decF_imp {p : Prop} [Decidable p] {A : Prop} (h : ¬ p → A) : decide p = false → A := fun z => h (of_decide_eq_false z)
theorem x_n {k : Nat} {Q : Nat → Prop} (q : Q k) : ∃ j : Nat, nE k = nE j ∧ Q j := ⟨k, rfl, q⟩
theorem sd_lt {a b : Nat} (h : a < b) : a < b := h
theorem sd_le {a b : Nat} (h : a ≤ b) : a ≤ b := h
theorem o_lenTm {α : Type} {e : α → D} {xs : List α} {Q : D → Prop} (q : Q (.int xs.length)) : OrW (lenD [.tup (xs.map e)]) Q := o_lenT (by rw [List.length_map]; exact q)
theorem o_lenLm {α : Type} {e : α → D} {xs : List α} {Q : D → Prop} (q : Q (.int xs.length)) : OrW (lenD [.lst (xs.map e)]) Q := o_lenL (by rw [List.length_map]; exact q)
theorem o_addN {x y : Nat} {Q : D → Prop} (q : Q (nE (x + y))) : OrW (opAdd (nE x) (nE y)) Q := .of rfl (by rw [← Int.natCast_add]; exact q)
theorem o_addN1 {x : Nat} {Q : D → Prop} (q : Q (nE (x + 1))) : OrW (opAdd (nE x) (.int 1)) Q := .of rfl q
theorem o_subN1 {x : Nat} {Q : D → Prop} (h : 1 ≤ x) (q : Q (nE (x - 1))) : OrW (opSub (nE x) (.int 1)) Q := .of rfl (by rw [nE, Int.natCast_sub h] at q; exact q)
theorem o_subN {x y : Nat} {Q : D → Prop} (h : y ≤ x) (q : Q (nE (x - y))) : OrW (opSub (nE x) (nE y)) Q := .of rfl (by rw [nE, Int.natCast_sub h] at q; exact q)
theorem o_ltN {x y : Nat} {Q : D → Prop} (q : Q (.bl (decide (x < y)))) : OrW (opLt (nE x) (nE y)) Q := o_lt (by rw [show decide ((x : Int) < y) = decide (x < y) from decide_eq_decide.mpr (by omega)]; exact q)
theorem o_leN {x y : Nat} {Q : D → Prop} (q : Q (.bl (decide (x ≤ y)))) : OrW (opLe (nE x) (nE y)) Q := o_le (by rw [show decide ((x : Int) ≤ y) = decide (x ≤ y) from decide_eq_decide.mpr (by omega)]; exact q)
theorem o_gtN {x y : Nat} {Q : D → Prop} (q : Q (.bl (decide (y < x)))) : OrW (opGt (nE x) (nE y)) Q := o_gt (by rw [show decide ((y : Int) < x) = decide (y < x) from decide_eq_decide.mpr (by omega)]; exact q)
theorem o_geN {x y : Nat} {Q : D → Prop} (q : Q (.bl (decide (y ≤ x)))) : OrW (opGe (nE x) (nE y)) Q := o_ge (by rw [show decide ((y : Int) ≤ x) = decide (y ≤ x) from decide_eq_decide.mpr (by omega)]; exact q)
theorem o_eqN {x y : Nat} {Q : D → Prop} (q : Q (.bl (decide (x = y)))) : OrW (opEq (nE x) (nE y)) Q := o_eqE enc_nat q
theorem o_neN {x y : Nat} {Q : D → Prop} (q : Q (.bl (!decide (x = y)))) : OrW (opNe (nE x) (nE y)) Q := o_neE enc_nat q
theorem o_inN {x : Nat} {ys : List Nat} {Q : D → Prop} (q : Q (.bl (decide (x ∈ ys)))) : OrW (opIn (nE x) (tN ys)) Q := o_inT enc_nat q
theorem o_ninN {x : Nat} {ys : List Nat} {Q : D → Prop} (q : Q (.bl (!decide (x ∈ ys)))) : OrW (opNotIn (nE x) (tN ys)) Q := o_ninT enc_nat q
theorem o_inNL {x : Nat} {ys : List Nat} {Q : D → Prop} (q : Q (.bl (decide (x ∈ ys)))) : OrW (opIn (nE x) (lN ys)) Q := o_inL enc_nat q
theorem o_ninNL {x : Nat} {ys : List Nat} {Q : D → Prop} (q : Q (.bl (!decide (x ∈ ys)))) : OrW (opNotIn (nE x) (lN ys)) Q := o_ninL enc_nat q
theorem o_sumI {xs : List Int} {Q : D → Prop} (q : Q (.int xs.sum)) : OrW (sumD [.lst (xs.map .int)]) Q := o_sum (p := fun x => x) (by simpa using q)
theorem o_ixT0 {α : Type} [Inhabited α] {e : α → D} {xs : List α} {Q : D → Prop} (h : 0 < xs.length) (q : Q (e (xs.getD 0 default))) : OrW (ixD (.tup (xs.map e)) (.int 0)) Q := o_ixTG (k := 0) h q
theorem o_ixL0 {α : Type} [Inhabited α] {e : α → D} {xs : List α} {Q : D → Prop} (h : 0 < xs.length) (q : Q (e (xs.getD 0 default))) : OrW (ixD (.lst (xs.map e)) (.int 0)) Q := o_ixLG (k := 0) h q
theorem o_ixT1 {α : Type} [Inhabited α] {e : α → D} {xs : List α} {Q : D → Prop} (h : 1 < xs.length) (q : Q (e (xs.getD 1 default))) : OrW (ixD (.tup (xs.map e)) (.int 1)) Q := o_ixTG (k := 1) h q
/-! ### slices -/
theorem sIx_pos {n d : Nat} {j : Int} (h : 0 ≤ j) : HT.sIx n d (some j) = min j.toNat n := by
  show (if j < 0 then _ else _) = _
  rw [if_neg (by omega)]
theorem sIx_neg1 {n d : Nat} : HT.sIx n d (some (-1)) = n - 1 := by
  show (if (-1 : Int) < 0 then ((-1 : Int) + (n : Int)).toNat else min (-1 : Int).toNat n) = n - 1
  rw [if_pos (by omega)]; omega
theorem cut_take {α : Type} (e : α → D) (xs : List α) {j : Int} (h : 0 ≤ j) : cutD (xs.map e) none (some j) = (xs.take j.toNat).map e := by
  have h1 : HT.sIx (xs.map e).length 0 none = 0 := by simp [HT.sIx]
  have h2 : HT.sIx (xs.map e).length (xs.map e).length (some j) = min j.toNat xs.length := by rw [sIx_pos (by omega), List.length_map]
  unfold cutD
  rw [h1, h2, List.drop_zero, Nat.sub_zero, ← List.map_take]
  congr 1
  rcases Nat.le_total j.toNat xs.length with h | h
  · rw [Nat.min_eq_left h]
  · rw [Nat.min_eq_right h, List.take_of_length_le h, List.take_of_length_le (Nat.le_refl _)]
theorem cut_drop {α : Type} (e : α → D) (xs : List α) {j : Int} (h : 0 ≤ j) : cutD (xs.map e) (some j) none = (xs.drop j.toNat).map e := by
  have h1 : HT.sIx (xs.map e).length (xs.map e).length none = xs.length := by simp [HT.sIx]
  have h2 : HT.sIx (xs.map e).length 0 (some j) = min j.toNat xs.length := by rw [sIx_pos (by omega), List.length_map]
  unfold cutD
  rw [h1, h2, ← List.map_drop, ← List.map_take]
  congr 1
  rcases Nat.le_total j.toNat xs.length with h | h
  · rw [Nat.min_eq_left h, List.take_of_length_le (by rw [List.length_drop]; omega)]
  · rw [Nat.min_eq_right h, List.drop_of_length_le h, List.drop_of_length_le (Nat.le_refl _)]; simp
theorem cut_two {α : Type} (e : α → D) (xs : List α) {i j : Int} (h0 : 0 ≤ i) (h : i ≤ j) : cutD (xs.map e) (some i) (some j) = ((xs.drop i.toNat).take (j.toNat - i.toNat)).map e := by
  have h1 : HT.sIx (xs.map e).length (xs.map e).length (some j) = min j.toNat xs.length := by rw [sIx_pos (by omega), List.length_map]
  have h2 : HT.sIx (xs.map e).length 0 (some i) = min i.toNat xs.length := by rw [sIx_pos (by omega), List.length_map]
  unfold cutD
  rw [h1, h2, ← List.map_drop, ← List.map_take]
  congr 1
  rcases Nat.le_total i.toNat xs.length with h | h
  · rw [Nat.min_eq_left h]
    rcases Nat.le_total j.toNat xs.length with h' | h'
    · rw [Nat.min_eq_left h']
    · rw [Nat.min_eq_right h', List.take_of_length_le (by rw [List.length_drop]; omega), List.take_of_length_le (by rw [List.length_drop]; omega)]
  · rw [Nat.min_eq_right h, List.drop_of_length_le h, List.drop_of_length_le (Nat.le_refl _)]
    simp
/-- xs[-1:] -/
theorem cut_last {α : Type} (e : α → D) (xs : List α) : cutD (xs.map e) (some (-1)) none = (xs.drop (xs.length - 1)).map e := by
  have h1 : HT.sIx (xs.map e).length (xs.map e).length none = xs.length := by simp [HT.sIx]
  have h2 : HT.sIx (xs.map e).length 0 (some (-1)) = xs.length - 1 := by rw [sIx_neg1, List.length_map]
  unfold cutD
  rw [h1, h2, ← List.map_drop, ← List.map_take]
  congr 1
  rw [List.take_of_length_le (by rw [List.length_drop]; omega)]
/-- xs[:-1] -/
theorem cut_init {α : Type} (e : α → D) (xs : List α) : cutD (xs.map e) none (some (-1)) = (xs.take (xs.length - 1)).map e := by
  have h1 : HT.sIx (xs.map e).length 0 none = 0 := by simp [HT.sIx]
  have h2 : HT.sIx (xs.map e).length (xs.map e).length (some (-1)) = xs.length - 1 := by rw [sIx_neg1, List.length_map]
  unfold cutD
  rw [h1, h2, List.drop_zero, Nat.sub_zero, ← List.map_take]
theorem o_mulRep {α : Type} {e : α → D} {x : α} {n : Nat} {Q : D → Prop} (h : n ≤ 1000) (q : Q (.tup ((List.replicate n x).map e))) : OrW (opMul (.tup [e x]) (.int (n : Int))) Q := by
  refine .of ?_ q
  simp only [opMul, List.length_cons, List.length_nil]
  rw [if_pos (by omega)]
  simp only [Int.toNat_natCast, List.map_replicate]
  congr 2
  clear q h
  induction n with
  | zero => rfl
  | succ n ih => rw [List.replicate_succ, List.flatten_cons, ih, List.replicate_succ]; rfl
/-! ### two fors -/
theorem lcGo_ev {β : Type} {g : Tg} {t : Tx} {f : Ex} {ρ : Rho} (enc : β → D) (p : β → Bool) (res : β → D) : ∀ ys : List β, (∀ y, y ∈ ys → ∃ ρ1, g (enc y) ρ = some ρ1 ∧ Tw t ρ1 fun k => k = p y ∧ (k = true → Ew f ρ1 fun r => r = res y)) → ∀ b, ∃ b', lcGo g t f ρ (ys.map enc) b = some ((ys.filter p).map res, b')
  | [], _, b => ⟨b, rfl⟩
  | y :: ys, h, b => by
    obtain ⟨ρ1, e1, h1⟩ := h y List.mem_cons_self
    obtain ⟨k, b1, e2, rfl, h2⟩ := h1 b
    cases hp : p y with
    | true =>
      obtain ⟨r, b2, e3, rfl⟩ := h2 hp b1
      obtain ⟨b3, e4⟩ := lcGo_ev enc p res ys (fun z hz => h z (List.mem_cons_of_mem _ hz)) b2
      refine ⟨b3, ?_⟩
      rw [List.map_cons, lcGo]
      simp only [e1, e2, hp, e3, e4]
      simp [hp]
    | false =>
      obtain ⟨b3, e4⟩ := lcGo_ev enc p res ys (fun z hz => h z (List.mem_cons_of_mem _ hz)) b1
      refine ⟨b3, ?_⟩
      rw [List.map_cons, lcGo]
      simp only [e1, e2, hp, e4]
      simp [hp]
theorem ew_lc2' {α β : Type} {ρ : Rho} {Q : D → Prop} {it it1 : It} {g g1 : Tg} {t t1 : Tx} {f : Ex} {vs vs1 : List Nat} {xs : List α} {enc : α → D} {p : α → Bool} {ys : α → List β} {enc1 : α → β → D} {p1 : α → β → Bool} {res : α → β → D} (hi : Iw it ρ fun ds => ds = xs.map enc)
    (hs : ∀ x, x ∈ xs → ∃ ρ1, g (enc x) (wipeR ρ vs) = some ρ1 ∧ Tw t ρ1 fun k => k = p x ∧ (k = true → Iw it1 ρ1 (fun ds => ds = (ys x).map (enc1 x)) ∧ ∀ y, y ∈ ys x → ∃ ρ2, g1 (enc1 x y) (wipeR ρ1 vs1) = some ρ2 ∧ Tw t1 ρ2 fun k => k = p1 x y ∧ (k = true → Ew f ρ2 fun r => r = res x y)))
    (hl : ((xs.filter p).flatMap fun x => ((ys x).filter (p1 x)).map (res x)).length ≤ 1000000) (q : Q (.lst ((xs.filter p).flatMap fun x => ((ys x).filter (p1 x)).map (res x)))) : Ew (eLc2 it g t it1 g1 t1 f vs vs1) ρ Q := fun b => by
  obtain ⟨ds, b1, e1, rfl⟩ := hi b
  have go : ∀ zs : List α, (∀ z, z ∈ zs → z ∈ xs) → ∀ b, ∃ b', lc2Go g t it1 g1 t1 f vs1 (wipeR ρ vs) (zs.map enc) b = some ((zs.filter p).flatMap fun x => ((ys x).filter (p1 x)).map (res x), b') := by
    intro zs
    induction zs with
    | nil => exact fun _ b => ⟨b, rfl⟩
    | cons z zs ih =>
      intro hz b
      obtain ⟨ρ1, e1, h1⟩ := hs z (hz z List.mem_cons_self)
      obtain ⟨k, b1, e2, rfl, h2⟩ := h1 b
      cases hp : p z with
      | true =>
        obtain ⟨h3, h4⟩ := h2 hp
        obtain ⟨_, b2, e3, rfl⟩ := h3 b1
        obtain ⟨b3, e4⟩ := lcGo_ev (enc1 z) (p1 z) (res z) (ys z) h4 b2
        obtain ⟨b4, e5⟩ := ih (fun y hy => hz y (List.mem_cons_of_mem _ hy)) b3
        refine ⟨b4, ?_⟩
        rw [List.map_cons, lc2Go]
        simp only [e1, e2, hp, e3, e4, e5]
        simp [hp]
      | false =>
        obtain ⟨b4, e5⟩ := ih (fun y hy => hz y (List.mem_cons_of_mem _ hy)) b1
        refine ⟨b4, ?_⟩
        rw [List.map_cons, lc2Go]
        simp only [e1, e2, hp, e5]
        simp [hp]
  obtain ⟨b2, e2⟩ := go xs (fun _ h => h) b1
  refine ⟨_, b2, ?_, q⟩
  unfold eLc2
  rw [e1]
  simp only [e2]
  rw [if_pos (by rw [PySem.sizeLine_eq]; omega)]
/-! ### max of a list -/
theorem o_maxA {α : Type} {a : Int} {g : α → Int} {xs : List α} {Q : D → Prop} (q : Q (.int (maxI (a :: xs.map g)))) : OrW (maxLD [.lst ([.int a] ++ xs.map fun x => .int (g x))]) Q := by
  have := o_maxL (xs := a :: xs.map g) (Q := Q) (by simp) q
  rw [List.map_cons, List.map_map] at this
  exact this
theorem o_maxZ {a : Int} {xs : List Int} {Q : D → Prop} (q : Q (.int (maxI (xs ++ [a])))) : OrW (maxLD [.lst (xs.map .int ++ [.int a])]) Q := by
  have := o_maxL (xs := xs ++ [a]) (Q := Q) (by simp) q
  simpa using this
theorem maxI_mem : ∀ {xs : List Int}, xs ≠ [] → maxI xs ∈ xs
  | [], h => absurd rfl h
  | _ :: _, _ => maxI_spec.1
theorem le_maxI : ∀ {xs : List Int} {y : Int}, y ∈ xs → y ≤ maxI xs
  | [], _, h => absurd h (by simp)
  | _ :: _, y, h => maxI_spec.2 y h
theorem maxI_eq {xs ys : List Int} (hx : xs ≠ []) (hy : ys ≠ []) (h1 : ∀ x ∈ xs, ∃ y ∈ ys, x ≤ y) (h2 : ∀ y ∈ ys, ∃ x ∈ xs, y ≤ x) : maxI xs = maxI ys := by
  obtain ⟨y, h3, h4⟩ := h1 _ (maxI_mem hx)
  obtain ⟨x, h5, h6⟩ := h2 _ (maxI_mem hy)
  have := le_maxI h3
  have := le_maxI h5
  omega
theorem sum_le_mul {α : Type} {f : α → Nat} {c : Nat} : ∀ {xs : List α}, (∀ x ∈ xs, f x ≤ c) → (xs.map f).sum ≤ xs.length * c
  | [], _ => by simp
  | x :: xs, h => by
    rw [List.map_cons, List.sum_cons, List.length_cons, Nat.add_mul, Nat.one_mul]
    have := sum_le_mul (xs := xs) fun y hy => h y (List.mem_cons_of_mem _ hy)
    have := h x List.mem_cons_self
    omega
theorem flatMap_int {α β : Type} (e : β → D) (f : α → List β) : ∀ xs : List α, xs.flatMap (fun x => (f x).map e) = (xs.flatMap f).map e
  | [] => rfl
  | x :: xs => by rw [List.flatMap_cons, List.flatMap_cons, List.map_append, flatMap_int e f xs]
/-! ### one way of and, or -/
theorem tw_orF {ρ : Rho} {t u : Tx} {Q : Bool → Prop} (h : Tw t ρ fun k => k = false ∧ Tw u ρ Q) : Tw (tOr t u) ρ Q := tw_or (h.mono fun k ⟨e, h⟩ => ⟨fun z => (by rw [e] at z; cases z), fun _ => h⟩)
theorem tw_orT {ρ : Rho} {t u : Tx} {Q : Bool → Prop} (h : Tw t ρ fun k => k = true) (q : Q true) : Tw (tOr t u) ρ Q := tw_or (h.mono fun k e => ⟨fun _ => q, fun z => (by rw [e] at z; cases z)⟩)
theorem tw_andT {ρ : Rho} {t u : Tx} {Q : Bool → Prop} (h : Tw t ρ fun k => k = true ∧ Tw u ρ Q) : Tw (tAnd t u) ρ Q := tw_and (h.mono fun k ⟨e, h⟩ => ⟨fun _ => h, fun z => (by rw [e] at z; cases z)⟩)
theorem tw_andF {ρ : Rho} {t u : Tx} {Q : Bool → Prop} (h : Tw t ρ fun k => k = false) (q : Q false) : Tw (tAnd t u) ρ Q := tw_and (h.mono fun k e => ⟨fun z => (by rw [e] at z; cases z), fun _ => q⟩)
theorem ew_andT {ρ : Rho} {f f' : Ex} {Q : D → Prop} (h : Ew f ρ fun d => d = .bl true ∧ Ew f' ρ Q) : Ew (eAnd f f') ρ Q := ew_and (h.mono fun d ⟨e, h⟩ => ⟨true, by rw [e]; rfl, fun _ => h, fun z => (by cases z)⟩)
theorem ew_andF {ρ : Rho} {f f' : Ex} {Q : D → Prop} (h : Ew f ρ fun d => d = .bl false) (q : Q (.bl false)) : Ew (eAnd f f') ρ Q := ew_and (h.mono fun d e => ⟨false, by rw [e]; rfl, fun z => (by cases z), fun _ => by rw [e]; exact q⟩)
theorem ew_orF {ρ : Rho} {f f' : Ex} {Q : D → Prop} (h : Ew f ρ fun d => d = .bl false ∧ Ew f' ρ Q) : Ew (eOr f f') ρ Q := ew_or (h.mono fun d ⟨e, h⟩ => ⟨false, by rw [e]; rfl, fun z => (by cases z), fun _ => h⟩)
theorem ew_orT {ρ : Rho} {f f' : Ex} {Q : D → Prop} (h : Ew f ρ fun d => d = .bl true) (q : Q (.bl true)) : Ew (eOr f f') ρ Q := ew_or (h.mono fun d e => ⟨true, by rw [e]; rfl, fun _ => by rw [e]; exact q, fun z => (by cases z)⟩)
/-- isinstance(v, tuple) -/
def isTup : D → Bool
  | .tup _ => true
  | _ => false
theorem o_isTup {v : D} {Q : D → Prop} (hv : v.plain = true) (q : Q (.bl (isTup v))) : OrW ((isT v .tuple).map .bl) Q := by
  cases v <;> first | exact .of rfl q | cases hv
def isInt : D → Bool
  | .int _ => true
  | .bl _ => true
  | _ => false
theorem o_isInt {v : D} {Q : D → Prop} (hv : v.plain = true) (q : Q (.bl (isInt v))) : OrW ((isT v .int).map .bl) Q := by
  cases v <;> first | exact .of rfl q | cases hv
def isBool : D → Bool
  | .bl _ => true
  | _ => false
theorem o_isBool {v : D} {Q : D → Prop} (hv : v.plain = true) (q : Q (.bl (isBool v))) : OrW ((isT v .bool).map .bl) Q := by
  cases v <;> first | exact .of rfl q | cases hv
def isStr : D → Bool
  | .str _ => true
  | _ => false
theorem o_isStr {v : D} {Q : D → Prop} (hv : v.plain = true) (q : Q (.bl (isStr v))) : OrW ((isT v .str).map .bl) Q := by
  cases v <;> first | exact .of rfl q | cases hv
def isLst : D → Bool
  | .lst _ => true
  | _ => false
theorem o_isLst {v : D} {Q : D → Prop} (hv : v.plain = true) (q : Q (.bl (isLst v))) : OrW ((isT v .list).map .bl) Q := by
  cases v <;> first | exact .of rfl q | cases hv
/-- an item of any tuple, of any list -/
theorem o_ixTD {xs : List D} {k : Nat} {Q : D → Prop} (h : k < xs.length) (q : Q (xs.getD k .non)) : OrW (ixD (.tup xs) (.int (k : Int))) Q := .of (by rw [ixD, atI_nat, List.getElem?_eq_getElem h]) (by rw [getD_eq .non h] at q; exact q)
theorem o_ixLD {xs : List D} {k : Nat} {Q : D → Prop} (h : k < xs.length) (q : Q (xs.getD k .non)) : OrW (ixD (.lst xs) (.int (k : Int))) Q := .of (by rw [ixD, atI_nat, List.getElem?_eq_getElem h]) (by rw [getD_eq .non h] at q; exact q)
theorem o_ixTD0 {xs : List D} {Q : D → Prop} (h : 0 < xs.length) (q : Q (xs.getD 0 .non)) : OrW (ixD (.tup xs) (.int 0)) Q := o_ixTD (k := 0) h q
theorem o_ixTD1 {xs : List D} {Q : D → Prop} (h : 1 < xs.length) (q : Q (xs.getD 1 .non)) : OrW (ixD (.tup xs) (.int 1)) Q := o_ixTD (k := 1) h q
theorem o_ixTD2 {xs : List D} {Q : D → Prop} (h : 2 < xs.length) (q : Q (xs.getD 2 .non)) : OrW (ixD (.tup xs) (.int 2)) Q := o_ixTD (k := 2) h q
theorem ndF_imp {p : Prop} [Decidable p] {A : Prop} (h : p → A) : (!decide p) = false → A := fun z => h (by simpa using z)
theorem ndT_imp {p : Prop} [Decidable p] {A : Prop} (h : ¬ p → A) : (!decide p) = true → A := fun z => h (by simpa using z)
theorem nF_imp {k : Bool} {A : Prop} (h : k = true → A) : (!k) = false → A := fun z => h (by simpa using z)
theorem nT_imp {k : Bool} {A : Prop} (h : k = false → A) : (!k) = true → A := fun z => h (by simpa using z)
theorem orF_imp {a b : Bool} {A : Prop} (h : a = false → b = false → A) : (a || b) = false → A := fun z => h (by cases a <;> simp_all) (by cases b <;> simp_all)
theorem andT_imp {a b : Bool} {A : Prop} (h : a = true → b = true → A) : (a && b) = true → A := fun z => h (by cases a <;> simp_all) (by cases b <;> simp_all)
theorem getD_range {n k d : Nat} (h : k < n) : (List.range n).getD k d = k := by rw [getD_eq d (by simpa using h), List.getElem_range]
theorem mapI {α : Type} (xs : List α) : xs = xs.map fun x => x := (List.map_id' xs).symm
theorem asTups : ∀ {xs : List D}, xs.all isTup = true → ∃ R : List (List D), xs = R.map D.tup
  | [], _ => ⟨[], rfl⟩
  | x :: xs, h => by
    rw [List.all_cons, Bool.and_eq_true] at h
    obtain ⟨R, e⟩ := asTups h.2
    cases x with
    | tup r => exact ⟨r :: R, by rw [e]; rfl⟩
    | _ => cases h.1
theorem plain_mem {xs : List D} (hv : (D.tup xs).plain = true) {d : D} (h : d ∈ xs) : d.plain = true := plainL_iff.mp (by simpa [D.plain] using hv) _ h
end Sv

set_option maxHeartbeats 1000000
/-! Pl6: bent data, the second text; rows put one behind the other; how what is bent is used. -/
namespace Sv
open PySem (Str PyData)
local macro_rules | `(tactic| walk_at "w") => `(tactic| (repeat' (first | with_reducible (first | refine sw_seq ?_ | refine sw_set ?_ | refine sw_new ?_ | refine sw_asg ?_ | refine sw_rt ?_ | refine sw_ret ?_ | refine sw_if ?_ | refine sw_par ?_ | refine sw_nx ?_ | refine sw_exprM ?_ | refine kw_nil ?_ | refine kw_frz ?_ | refine kw_new ?_ | refine ew_con ?_ | refine ew_bin ?_ | refine ew_un ?_ | refine ew_tup ?_ | refine ew_lst ?_ | refine ew_fn ?_ | refine ew_call ?_ | refine ew_callO ?_ | refine ew_if ?_ | refine ew_not ?_ | refine ew_chain ?_ | refine ew_slice ?_ | refine ow_none ?_ | refine ow_some ?_ | refine tw_bl ?_ | refine tw_of ?_ | refine tw_not ?_ | refine tw_yes ?_ | refine aw_nil ?_ | refine aw_cons ?_ | refine iw_seq ?_ | refine iw_enum ?_ | refine iw_zip ?_) | refine ew_var rfl ?_ | refine ew_bor rfl ?_ | refine ew_borO rfl ?_ | refine o_eqI ?_ | refine o_neI ?_ | refine o_lt ?_ | refine o_gt ?_ | refine o_le ?_ | refine o_ge ?_ | refine o_all ?_ | refine o_any ?_ | refine o_sum ?_ | refine o_addI ?_ | refine o_subI ?_ | refine o_lenT ?_ | refine o_lenL ?_ | refine o_tupL ?_ | refine o_tupT ?_ | refine o_listL ?_ | refine o_listT ?_ | refine o_negI ?_ | refine o_intI ?_ | refine o_slT ?_ | refine o_slL ?_ | refine o_revT ?_ | refine o_revL ?_ | refine x_int ?_ | refine x_bl ?_ | refine x_tb ?_ | refine x_itT ?_ | refine x_itL ?_ | refine x_rt ?_)))
local macro_rules | `(tactic| walk_at "v1") => `(tactic| first | with_reducible (first | refine sw_seq ?_ | refine sw_set ?_ | refine sw_new ?_ | refine sw_asg ?_ | refine sw_rt ?_ | refine sw_ret ?_ | refine sw_ifB ?_ | refine sw_par ?_ | refine sw_nx ?_ | refine sw_exprM ?_ | refine kw_nil ?_ | refine kw_frz ?_ | refine kw_new ?_ | refine ew_con ?_ | refine ew_bin ?_ | refine ew_un ?_ | refine ew_tup ?_ | refine ew_lst ?_ | refine ew_fn ?_ | refine ew_call ?_ | refine ew_callO ?_ | refine ew_not ?_ | refine ew_chain ?_ | refine ew_slice ?_ | refine ow_none ?_ | refine ow_some ?_ | refine tw_bl ?_ | refine tw_of ?_ | refine tw_not ?_ | refine tw_yes ?_ | refine aw_nil ?_ | refine aw_cons ?_ | refine iw_seq ?_ | refine iw_enum ?_ | refine iw_zip ?_ | refine iw_rangeI ?_ | (apply ew_andC) | (apply ew_orC) | (apply tw_andC) | (apply tw_orC) | (apply ew_lcM') | (apply ew_lc') | exact rfl | exact cut_last _ _ | exact mapI _) | ((with_reducible apply ew_var); exact rfl) | ((with_reducible apply ew_bor); exact rfl) | ((with_reducible apply ew_borO); exact rfl) | with_reducible (first | refine o_eqN ?_ | refine o_neN ?_ | refine o_ltN ?_ | refine o_gtN ?_ | refine o_leN ?_ | refine o_geN ?_ | refine o_inN ?_ | refine o_ninN ?_ | refine o_inNL ?_ | refine o_ninNL ?_ | refine o_lenTm ?_ | refine o_lenLm ?_ | refine o_addN ?_ | refine o_addN1 ?_ | refine o_subN (by first | assumption | omega) ?_ | refine o_subN1 (by first | assumption | omega) ?_ | refine o_sumI ?_ | refine o_sumTI ?_ | refine o_ix0 ?_ | refine o_ix1 ?_ | refine o_ix2 ?_ | refine o_ix3 ?_ | refine o_ixT0 ?_ ?_ | refine o_ixL0 ?_ ?_ | refine o_ixT1 ?_ ?_ | refine o_isTupT ?_ | refine o_ixTN ?_ ?_ | refine o_ixTI ?_ ?_ | refine o_ixLN ?_ ?_ | refine o_ixLI ?_ ?_ | refine o_ixTG ?_ ?_ | refine o_ixLG ?_ ?_ | refine o_ixTD0 ?_ ?_ | refine o_ixTD1 ?_ ?_ | refine o_ixTD2 ?_ ?_ | refine o_ixTD ?_ ?_ | refine o_ixLD ?_ ?_) | with_reducible (first | refine o_eqI ?_ | refine o_neI ?_ | refine o_lt ?_ | refine o_gt ?_ | refine o_le ?_ | refine o_ge ?_ | refine o_all ?_ | refine o_any ?_ | refine o_sum ?_ | refine o_addI ?_ | refine o_subI ?_ | refine o_lenT ?_ | refine o_lenL ?_ | refine o_tupL ?_ | refine o_tupT ?_ | refine o_listL ?_ | refine o_listT ?_ | refine o_negI ?_ | refine o_intI ?_ | refine o_slT ?_ | refine o_slL ?_ | refine o_revT ?_ | refine o_revL ?_ | refine x_n ?_ | refine x_int ?_ | refine x_bl ?_ | refine x_tb ?_ | refine x_itT ?_ | refine x_itL ?_ | refine x_rt ?_ | refine rngQ ?_ ?_ | refine x_trT ?_ | refine x_trL ?_ | refine x_tri ?_ | refine o_max2 ?_ | refine o_min2 ?_ | refine o_addTs ?_ ?_ | refine o_addLs ?_ ?_) | (with_reducible refine And.intro ?_ ?_) | refine dec_imp fun _ => ?_ | refine decF_imp fun _ => ?_ | with_reducible (first | refine ndF_imp fun _ => ?_ | refine ndT_imp fun _ => ?_ | refine nF_imp ?_ | refine nT_imp ?_ | refine orF_imp ?_ | refine andT_imp ?_) | refine tr_imp fun _ => ?_ | refine fa_imp fun _ => ?_ | (intro x hx; refine Exists.intro _ (And.intro rfl ?_); try (have hx := List.mem_range.mp hx)) | (refine sd_lt ?_; first | assumption | omega | (simp only [List.length_map, List.length_range, List.length_cons, List.length_nil, List.length_append, List.length_set] at *; omega)) | (refine sd_le ?_; first | assumption | omega | (simp only [List.length_map, List.length_range, List.length_cons, List.length_nil, List.length_append, List.length_set] at *; omega)))
local macro_rules | `(tactic| walk_at "v") => `(tactic| (repeat' (walk_at "v1")))
abbrev s_bentB2 : SS := sSeq (sSet 2 (eCall drawF (aCons (eVar 0) (aCons (eCon (.int 8)) (aNil))))) (sSeq (sIf (tOf (eUn (fun d => (isT d .tuple).map .bl) (eBor 1))) (sRet (eBin ixD (eLst (aCons (eBin opAdd (eBor 1) (eSlice (eBor 1) none (some (eCon (.int 1))))) (aCons (eSlice (eBor 1) (some (eCon (.int 1))) none) (aCons (eUn revD (eBor 1)) (aCons (eBin opAdd (eBor 1) (eTup (aCons (eCon (.int 0)) (aNil)))) (aCons (eBin opAdd (eSlice (eBor 1) none (some (eCon (.int 1)))) (eBor 1)) (aCons (eSlice (eBor 1) none (some (eUn opNeg (eCon (.int 1))))) (aCons (eCon .non) (aCons (eSlice (eBor 1) none (some (eCon (.int 1)))) (aNil)))))))))) (eVar 2))) (sNx)) (sSeq (sIf (tAnd (tOf (eUn (fun d => (isT d .int).map .bl) (eBor 1))) (tNot (tOf (eUn (fun d => (isT d .bool).map .bl) (eBor 1))))) (sRet (eBin ixD (eLst (aCons (eBin opAdd (eBor 1) (eCon (.int 1))) (aCons (eBin opSub (eBor 1) (eCon (.int 1))) (aCons (eUn opNeg (eBor 1)) (aCons (eBin opEq (eBor 1) (eCon (.int 1))) (aCons (eCon .non) (aCons (eFn strD (aCons (eBor 1) aNil)) (aCons (eTup (aCons (eVar 1) (aNil))) (aCons (eBin opAdd (eBor 1) (eCon (.int 1001))) (aNil)))))))))) (eVar 2))) (sNx)) (sSeq (sIf (tOf (eUn (fun d => (isT d .str).map .bl) (eBor 1))) (sRet (eBin ixD (eLst (aCons (eBin opAdd (eBor 1) (eCon (.str "a"))) (aCons (eSlice (eBor 1) (some (eCon (.int 1))) none) (aCons (eCon (.str "any")) (aCons (eUn upD (eBor 1)) (aCons (eCon (.int 0)) (aCons (eCon (.str "")) (aCons (eBin opAdd (eBor 1) (eCon (.str "z0z0z0z0"))) (aCons (eTup (aCons (eVar 1) (aNil))) (aNil)))))))))) (eVar 2))) (sNx)) (sRet (eBin ixD (eLst (aCons (eCon (.int 0)) (aCons (eCon (.int 1)) (aCons (eCon .non) (aCons (eCon (.bl true)) (aCons (eCon (.bl false)) (aCons (eCon (.str "a")) (aCons (eTup (aNil)) (aCons (eUn opNeg (eCon (.int 1))) (aNil)))))))))) (eVar 2))))))
abbrev s_bentB (rec : Fn) : SS := sSeq (sIf (tAnd (tOf (eUn (fun d => (isT d .tuple).map .bl) (eBor 1))) (tAnd (tBl (eBin opGt (eFn lenD (aCons (eBor 1) aNil)) (eCon (.int 0)))) (tBl (eBin opGt (eCall drawF (aCons (eVar 0) (aCons (eCon (.int 5)) (aNil)))) (eCon (.int 0)))))) (sSeq (sSet 3 (eCall drawF (aCons (eVar 0) (aCons (eFn lenD (aCons (eBor 1) aNil)) (aNil))))) (sRet (eBin opAdd (eBin opAdd (eSlice (eBor 1) none (some (eVar 3))) (eTup (aCons (eCall rec (aCons (eVar 0) (aCons (eBin ixD (eBor 1) (eVar 3)) (aNil)))) (aNil)))) (eSlice (eBor 1) (some (eBin opAdd (eBor 3) (eCon (.int 1)))) none)))) (sNx)) s_bentB2
def f_bent2 : Nat → Fn
  | 0 => noFn
  | n + 1 => runF 4 (s_bentB (f_bent2 n))
mutual
/-- what may be bent: numbers, None, truth values, tuples -/
def bsi : D → Bool
  | .non => true
  | .bl _ => true
  | .int i => decide (i.natAbs ≤ 1000000000)
  | .tup xs => decide (xs.length ≤ 1000) && bsiL xs
  | _ => false
def bsiL : List D → Bool
  | [] => true
  | d :: ds => bsi d && bsiL ds
end
theorem bsiL_iff : ∀ {ds : List D}, bsiL ds = true ↔ ∀ d ∈ ds, bsi d = true
  | [] => by simp [bsiL]
  | d :: ds => by rw [bsiL, Bool.and_eq_true, bsiL_iff]; simp
theorem bsi_tup {xs : List D} : bsi (.tup xs) = true ↔ xs.length ≤ 1000 ∧ ∀ d ∈ xs, bsi d = true := by
  rw [bsi, Bool.and_eq_true, bsiL_iff, decide_eq_true_iff]
theorem bsi_map {α : Type} {e : α → D} {xs : List α} (hn : xs.length ≤ 1000) (h : ∀ x ∈ xs, bsi (e x) = true) : bsi (.tup (xs.map e)) = true := by
  rw [bsi_tup, List.length_map]
  refine ⟨hn, fun d hd => ?_⟩
  obtain ⟨x, hx, rfl⟩ := List.mem_map.mp hd
  exact h x hx
mutual
theorem bsi_gd : ∀ d : D, bsi d = true → gd d = true
  | .non, _ => rfl
  | .bl _, _ => rfl
  | .int _, _ => rfl
  | .str _, h => by simp [bsi] at h
  | .tup xs, h => by
    simp only [bsi, Bool.and_eq_true, decide_eq_true_iff] at h
    simp only [gd, Bool.and_eq_true, decide_eq_true_iff]
    exact ⟨by omega, bsiL_gd xs h.2⟩
  | .lst _, h => by simp [bsi] at h
  | .dct _, h => by simp [bsi] at h
  | .tok _, h => by simp [bsi] at h
theorem bsiL_gd : ∀ d : List D, bsiL d = true → gdL d = true
  | [], _ => rfl
  | d :: ds, h => by
    rw [bsiL, Bool.and_eq_true] at h
    rw [gdL, bsi_gd d h.1, bsiL_gd ds h.2]; rfl
end
theorem w_bent2 : ∀ (n : Nat) {v : D} {Q : D → Prop}, bsi v = true → v.dep < n → (∀ w, Bt v w → Q w) → Fw (f_bent2 n) [.tok 0, v] Q
  | 0, _, _, _, h, _ => absurd h (by omega)
  | n + 1, v, Q, hv, hd, q => by
    show Fw (runF 4 (s_bentB (f_bent2 n))) [.tok 0, v] Q
    refine fw_rt ?_
    have hs8 : ∀ (R : D → Prop), (∀ i : Int, 0 ≤ i → i < 8 → R (.int i)) → Fw drawF [.tok 0, .int 8] R := fun R h => fw_draw (by decide) (by decide) h
    cases v with
    | dct _ => cases hv
    | tok _ => cases hv
    | lst _ => cases hv
    | tup xs =>
      rw [bsi_tup] at hv
      have hg : ∀ d ∈ xs, gd d = true := fun d hd => bsi_gd d (hv.2 d hd)
      have hgt : gd (.tup xs) = true := gd_tup.mpr ⟨by omega, hg⟩
      have hcl : ∀ lo hi, (cutD xs lo hi).length ≤ 1000 := fun lo hi => Nat.le_trans (cutD_len _ _ _) hv.1
      have hcd : ∀ lo hi, D.depL (cutD xs lo hi) ≤ D.depL xs := fun lo hi => depL_sub cutD_sub
      have hsz : (1000000 : Nat) ≤ PySem.sizeLine := by rw [PySem.sizeLine_eq]; omega
      refine sw_seq (sw_if (tw_and (Tw.mono (Q := fun k => k = true) (fun bx => ⟨true, bx, rfl, rfl⟩) fun k ek => ⟨fun _ => ?_, fun z => (by rw [ek] at z; cases z)⟩)))
      have last : ∀ (ρ1 : Rho), ρ1 = [.frz (.tok 0), .frz (.tup xs), .emp, .emp] → Sw s_bentB2 ρ1 (RtQ Q) := fun ρ1 e1 => by
        subst e1
        refine sw_seq (sw_set (ew_call (aw_cons (ew_var rfl (aw_cons (ew_con (aw_nil (hs8 _ fun i h0 h1 => ?_))))))))
        refine sw_seq (sw_if (Tw.mono (Q := fun k => k = true) (fun bx => ⟨true, bx, rfl, rfl⟩) fun k ek => ⟨fun _ => ?_, fun z => (by rw [ek] at z; cases z)⟩))
        have hc1 := hcl none (some 1)
        have hd1 := hcd none (some 1)
        walk_at "w"
        refine o_addT (by omega) ?_
        walk_at "w"
        refine o_addT (by simp only [List.length_cons, List.length_nil]; omega) ?_
        walk_at "w"
        refine o_addT (by omega) ?_
        walk_at "w"
        refine o_pick h0 h1 fun x hx => ⟨_, rfl, q x ?_⟩
        simp only [List.mem_cons, List.not_mem_nil, or_false] at hx
        rcases hx with rfl | rfl | rfl | rfl | rfl | rfl | rfl | rfl
        · exact ⟨gd_appT hg (fun d hd => hg d (cutD_sub d hd)) (by omega), by simp only [D.dep]; have := depL_app (Nat.le_refl (D.depL xs)) hd1; omega⟩
        · exact ⟨gd_cutD hgt, by simp only [D.dep]; have := hcd (some 1) none; omega⟩
        · refine ⟨gd_tup.mpr ⟨by rw [List.length_reverse]; omega, fun d hd => hg d (List.mem_reverse.mp hd)⟩, ?_⟩
          simp only [D.dep]; have := depL_sub (xs := xs.reverse) (ys := xs) fun d hd => List.mem_reverse.mp hd; omega
        · refine ⟨gd_appT hg (fun d hd => by simp only [List.mem_cons, List.not_mem_nil, or_false] at hd; subst hd; rfl) (by simp only [List.length_cons, List.length_nil]; omega), ?_⟩
          simp only [D.dep]; have := depL_app (xs := xs) (ys := [.int 0]) (Nat.le_refl (D.depL xs)) (by simp [D.depL, D.dep]); omega
        · exact ⟨gd_appT (fun d hd => hg d (cutD_sub d hd)) hg (by omega), by simp only [D.dep]; have := depL_app hd1 (Nat.le_refl (D.depL xs)); omega⟩
        · exact ⟨gd_cutD hgt, by simp only [D.dep]; have := hcd none (some (-1)); omega⟩
        · exact ⟨rfl, by simp [D.dep]⟩
        · exact ⟨gd_cutD hgt, by simp only [D.dep]; have := hcd none (some 1); omega⟩
      refine tw_and ?_
      walk_at "w"
      refine ⟨fun e => ?_, fun _ => ⟨(fun z => by cases z), fun _ => sw_nx (last _ rfl)⟩⟩
      have hpos : 0 < xs.length := by have := of_decide_eq_true e; omega
      walk_at "w"
      refine fw_draw (by decide) (by decide) fun i0 h00 h01 => ?_
      walk_at "w"
      refine ⟨fun _ => ?_, fun _ => sw_nx (last _ rfl)⟩
      walk_at "w"
      refine fw_draw (n := (xs.length : Int)) (by omega) (by omega) fun at' h0 h1 => ?_
      have hat : at'.toNat < xs.length := by omega
      have hm : xs[at'.toNat] ∈ xs := List.getElem_mem hat
      walk_at "w"
      refine ⟨xs[at'.toNat], by rw [ixD, atI_pos h0, List.getElem?_eq_getElem hat], ?_⟩
      walk_at "w"
      refine w_bent2 n (hv.2 _ hm) (by have := dep_mem hm; omega) fun w hw => ?_
      have hc1 := hcl none (some at')
      have hc2 := hcl (some (at' + 1)) none
      have hdm := depL_le.mp (Nat.le_refl _) _ hm
      walk_at "w"
      refine o_addT (by simp only [List.length_cons, List.length_nil]; omega) ?_
      walk_at "w"
      refine o_addT (by simp only [List.length_append, List.length_cons, List.length_nil]; omega) ⟨_, rfl, q _ ⟨?_, ?_⟩⟩
      · refine gd_appT (fun d hd => ?_) (fun d hd => hg d (cutD_sub d hd)) (by simp only [List.length_append, List.length_cons, List.length_nil]; omega)
        rcases List.mem_append.mp hd with h | h
        · exact hg d (cutD_sub d h)
        · simp only [List.mem_cons, List.not_mem_nil, or_false] at h
          subst h; exact hw.1
      · have h1' := hcd none (some at')
        have h2' := hcd (some (at' + 1)) none
        have h3' : D.depL [w] ≤ D.depL xs + 2 := by have := hw.2; simp only [D.depL]; omega
        simp only [D.dep]
        have := depL_app (n := D.depL xs + 2) (depL_app (n := D.depL xs + 2) (by omega : D.depL (cutD xs none (some at')) ≤ _) h3') (by omega : D.depL (cutD xs (some (at' + 1)) none) ≤ _)
        omega
    | non =>
      refine sw_seq (sw_if (Tw.mono (Q := fun k => k = false) (fun bx => ⟨false, bx, rfl, rfl⟩) fun k ek => ⟨fun z => (by rw [ek] at z; cases z), fun _ => sw_nx ?_⟩))
      walk_at "w"
      refine hs8 _ fun i h0 h1 => ?_
      refine sw_seq (sw_if (Tw.mono (Q := fun k => k = false) (fun bx => ⟨false, bx, rfl, rfl⟩) fun k ek => ⟨fun z => (by rw [ek] at z; cases z), fun _ => sw_nx ?_⟩))
      refine sw_seq (sw_if (Tw.mono (Q := fun k => k = false) (fun bx => ⟨false, bx, rfl, rfl⟩) fun k ek => ⟨fun z => (by rw [ek] at z; cases z), fun _ => sw_nx ?_⟩))
      refine sw_seq (sw_if (Tw.mono (Q := fun k => k = false) (fun bx => ⟨false, bx, rfl, rfl⟩) fun k ek => ⟨fun z => (by rw [ek] at z; cases z), fun _ => sw_nx ?_⟩))
      walk_at "w"
      refine o_pick h0 h1 fun x hx => q x ?_
      simp only [List.mem_cons, List.not_mem_nil, or_false] at hx
      rcases hx with rfl | rfl | rfl | rfl | rfl | rfl | rfl | rfl <;> exact ⟨by decide +kernel, by simp [D.dep, D.depL]⟩
    | bl y =>
      refine sw_seq (sw_if (Tw.mono (Q := fun k => k = false) (fun bx => ⟨false, bx, rfl, rfl⟩) fun k ek => ⟨fun z => (by rw [ek] at z; cases z), fun _ => sw_nx ?_⟩))
      walk_at "w"
      refine hs8 _ fun i h0 h1 => ?_
      refine sw_seq (sw_if (Tw.mono (Q := fun k => k = false) (fun bx => ⟨false, bx, rfl, rfl⟩) fun k ek => ⟨fun z => (by rw [ek] at z; cases z), fun _ => sw_nx ?_⟩))
      refine sw_seq (sw_if (Tw.mono (Q := fun k => k = false) (fun bx => ⟨false, bx, rfl, rfl⟩) fun k ek => ⟨fun z => (by rw [ek] at z; cases z), fun _ => sw_nx ?_⟩))
      refine sw_seq (sw_if (Tw.mono (Q := fun k => k = false) (fun bx => ⟨false, bx, rfl, rfl⟩) fun k ek => ⟨fun z => (by rw [ek] at z; cases z), fun _ => sw_nx ?_⟩))
      walk_at "w"
      refine o_pick h0 h1 fun x hx => q x ?_
      simp only [List.mem_cons, List.not_mem_nil, or_false] at hx
      rcases hx with rfl | rfl | rfl | rfl | rfl | rfl | rfl | rfl <;> exact ⟨by decide +kernel, by simp [D.dep, D.depL]⟩
    | int z =>
      have hz : z.natAbs ≤ 1000000000 := by simpa [bsi] using hv
      refine sw_seq (sw_if (Tw.mono (Q := fun k => k = false) (fun bx => ⟨false, bx, rfl, rfl⟩) fun k ek => ⟨fun z => (by rw [ek] at z; cases z), fun _ => sw_nx ?_⟩))
      walk_at "w"
      refine hs8 _ fun i h0 h1 => ?_
      refine sw_seq (sw_if (Tw.mono (Q := fun k => k = false) (fun bx => ⟨false, bx, rfl, rfl⟩) fun k ek => ⟨fun z => (by rw [ek] at z; cases z), fun _ => sw_nx ?_⟩))
      refine sw_seq (sw_if (Tw.mono (Q := fun k => k = true) (fun bx => ⟨true, bx, rfl, rfl⟩) fun k ek => ⟨fun _ => ?_, fun z => (by rw [ek] at z; cases z)⟩))
      have hlog : z.natAbs.log2 < 1920 := by
        by_cases hz0 : z.natAbs = 0
        · rw [hz0]; decide
        · rw [Nat.log2_lt hz0]
          exact Nat.lt_of_le_of_lt hz (by decide)
      walk_at "w"
      refine ⟨.str (toString z : String), by rw [strD, if_pos hlog], ?_⟩
      walk_at "w"
      refine o_pick h0 h1 fun x hx => ⟨_, rfl, q x ?_⟩
      simp only [List.mem_cons, List.not_mem_nil, or_false] at hx
      rcases hx with rfl | rfl | rfl | rfl | rfl | rfl | rfl | rfl
      · exact ⟨rfl, by simp [D.dep]⟩
      · exact ⟨rfl, by simp [D.dep]⟩
      · exact ⟨rfl, by simp [D.dep]⟩
      · exact ⟨rfl, by simp [D.dep]⟩
      · exact ⟨rfl, by simp [D.dep]⟩
      · exact ⟨gd_lit _, by simp [D.dep]⟩
      · exact ⟨rfl, by simp [D.dep, D.depL]⟩
      · exact ⟨rfl, by simp [D.dep]⟩
    | str _ => cases hv

/-! ### rows one behind the other -/
abbrev s_flat : SS := sSeq (sNew 1 (eLst (aNil))) (sSeq (sFor (iSeq (eVar 0)) (gNm 2) (sExprM (mMeth 1 kExt (mOne (mUp (eVar 2)))))) (sSeq (sFz 1) (sRet (eVar 1))))
theorem w_flatG {α : Type} {e : α → D} {rows : List (List α)} {Q : D → Prop} (hn : rows.flatten.length ≤ 1000000) (q : Q (.lst (rows.flatten.map e))) : Fw (runF 3 s_flat) [.lst (rows.map fun r => .lst (r.map e))] Q := by
  refine fw_rt ?_
  walk_at "v"
  refine sw_forR rows.length (fun k => .lst ((rows.getD k []).map e)) (fun i ρ => ∃ x2, ρ = [Sl.frz (.lst (rows.map fun r => .lst (r.map e))), .own (.lst (((rows.take i).flatten).map e)), x2]) ?_ ⟨.emp, rfl⟩ ?_ ?_
  · walk_at "v"
    exact map_range [] (fun r : List α => D.lst (r.map e)) rows
  · rintro i hi _ ⟨x2, rfl⟩
    refine ⟨_, rfl, ?_⟩
    have ht : rows.take (i + 1) = rows.take i ++ [rows.getD i []] := by rw [List.take_succ_eq_append_getElem hi, getD_eq [] hi]
    have e2 : (rows.take (i + 1)).flatten = (rows.take i).flatten ++ rows.getD i [] := by rw [ht]; simp
    have hl : (rows.take i).flatten.length + (rows.getD i []).length ≤ 1000000 := by
      have e1 : rows.flatten = (rows.take (i + 1)).flatten ++ (rows.drop (i + 1)).flatten := by rw [← List.flatten_append, List.take_append_drop]
      have := congrArg List.length e1
      rw [e2] at this
      simp only [List.length_append] at this
      omega
    walk_at "v"
    refine mw_ext (e := e) (xs := (rows.take i).flatten) rfl ?_
    walk_at "v"
    exact ⟨rows.getD i [], rfl, hl, _, by rw [e2]; rfl⟩
  · rintro _ ⟨x2, rfl⟩
    rw [List.take_length]
    refine sw_seq (sw_fz rfl ?_)
    walk_at "v"
    exact q
/-! ### bent values in use -/
def Ed (d : D) : Prop := gd d = true ∧ d.dep ≤ 11
theorem vd_tup {xs : List D} (hl : xs.length ≤ 1000000) (h : ∀ d ∈ xs, Ed d) : Vd (.tup xs) := ⟨gd_tup.mpr ⟨hl, fun d hd => (h d hd).1⟩, dep_tup fun d hd => (h d hd).2⟩
theorem ed_tup {xs : List D} {n : Nat} (hl : xs.length ≤ 1000000) (h : ∀ d ∈ xs, gd d = true ∧ d.dep ≤ n) (hn : n ≤ 10) : Ed (.tup xs) := ⟨gd_tup.mpr ⟨hl, fun d hd => (h d hd).1⟩, Nat.le_trans (dep_tup fun d hd => (h d hd).2) (by omega)⟩
theorem ed_int (i : Int) : Ed (.int i) := ⟨rfl, by simp [D.dep]⟩
theorem all_nE {ks : List Nat} : ∀ d ∈ ks.map nE, Ed d := fun d hd => by obtain ⟨k, _, rfl⟩ := List.mem_map.mp hd; exact ed_int _
theorem Ed.vd {d : D} (h : Ed d) : Vd d := ⟨h.1, by have := h.2; omega⟩
theorem Vd.plain {d : D} (h : Vd d) : d.plain = true := gd_plain d h.1
/-- [bent(box, value) for .. in range(m)] -/
theorem ew_bents {ρ : Rho} {m i st : Nat} {v : D} {F : Fn} {fv : Ex} (hF : ∀ {Q : D → Prop}, (∀ w, Bt v w → Q w) → Fw F [.tok 0, v] Q) (hm : m ≤ 100) (hd : v.dep ≤ 10) (e1 : ∀ d, ((wipeR ρ [st]).set st (Sl.frz d))[i]? = some (.frz (.tok 0))) (e2 : ∀ d, Ew fv ((wipeR ρ [st]).set st (Sl.frz d)) fun x => x = v) {Q : D → Prop}
    (q : ∀ rs : List D, rs.length = m → (∀ d ∈ rs, Vd d) → Q (.lst rs)) : Ew (eLc (iRange (aCons (eCon (.int (m : Nat))) (aNil))) (gNm st) (tYes') (eCall F (aCons (eVar i) (aCons fv (aNil)))) [st]) ρ Q := by
  refine ew_lcV Vd ((List.range m).map nE) (iw_rangeN m (aw_cons (ew_con (aw_nil ⟨rfl, by omega, rfl⟩)))) (fun d _ => ⟨_, rfl, ?_⟩) fun rs hl hv => q rs (by simpa using hl) hv
  refine ew_call (aw_cons (ew_var (e1 _) (aw_cons ((e2 _).mono fun x ex => ?_))))
  subst ex
  exact aw_nil (hF fun w hw => ⟨hw.1, by have := hw.2; omega⟩)
/-- for, over so many things at most -/
theorem sw_forD {ρ : Rho} {Q : Fl → Rho → Prop} {s : SS} {it : It} {g : Tg} (N : Nat) (I : Nat → Rho → Prop) (hi : Iw it ρ fun xs => xs.length ≤ N) (h0 : I 0 ρ)
    (hs : ∀ i d ρ1, i < N → I i ρ1 → ∃ ρ2, g d ρ1 = some ρ2 ∧ Sw s ρ2 (LpQ (I (i + 1)) Q)) (q : ∀ i ρ1, i ≤ N → I i ρ1 → Q .nx ρ1) : Sw (sFor it g s) ρ Q := fun b => by
  obtain ⟨ds, b1, e1, hl⟩ := hi b
  have go : ∀ (ds : List D) (i : Nat) (ρ1 : Rho) (b : Bx), i + ds.length ≤ N → I i ρ1 → ∃ fl ρ' b', forGo g s ds ρ1 b = some (fl, ρ', b') ∧ Q fl ρ' := by
    intro ds
    induction ds with
    | nil => exact fun i ρ1 b hi r => ⟨.nx, ρ1, b, rfl, q i _ (by simpa using hi) r⟩
    | cons d ds ih =>
      intro i ρ1 b hi r
      rw [List.length_cons] at hi
      obtain ⟨ρ2, e1, h⟩ := hs i d ρ1 (by omega) r
      obtain ⟨fl, ρ3, b2, e2, h⟩ := h b
      cases fl with
      | nx =>
        obtain ⟨fl, ρ', b', e3, q'⟩ := ih (i + 1) ρ3 b2 (by omega) h
        exact ⟨fl, ρ', b', by unfold forGo; simp only [e1, e2, e3], q'⟩
      | ct =>
        obtain ⟨fl, ρ', b', e3, q'⟩ := ih (i + 1) ρ3 b2 (by omega) h
        exact ⟨fl, ρ', b', by unfold forGo; simp only [e1, e2, e3], q'⟩
      | bk => exact ⟨.nx, ρ3, b2, by unfold forGo; simp only [e1, e2], h⟩
      | rt d => exact ⟨.rt d, ρ3, b2, by unfold forGo; simp only [e1, e2], h⟩
  obtain ⟨fl, ρ', b', e2, q'⟩ := go ds 0 ρ b1 (by omega) h0
  exact ⟨fl, ρ', b', by unfold sFor; rw [e1]; exact e2, q'⟩
theorem iw_rangeD {ρ : Rho} {ag : As} {N : Nat} (hN : N ≤ 16777216) (h : Aw ag ρ fun ds => ∃ n : Nat, ds = [nE n] ∧ n ≤ N) : Iw (iRange ag) ρ fun xs => xs.length ≤ N :=
  iw_rangeI (h.mono fun ds ⟨n, e, hn⟩ => by rw [e]; exact rngQ (by omega) (by simpa using hn))
/-- a comprehension of so many kinds at most .. of so many things, each of a kind -/
theorem ew_lcN {β : Type} {ρ : Rho} {Q : D → Prop} {f : Ex} {it : It} {g : Tg} {vs : List Nat} (n : Nat) (enc : Nat → D) (enc' : β → D) (P : Nat → β → Prop) (dflt : β) (hi : Iw it ρ fun ds => ds = (List.range n).map enc)
    (hs : ∀ x, x < n → ∃ ρ1, g (enc x) (wipeR ρ vs) = some ρ1 ∧ Ew f ρ1 fun r => ∃ y, r = enc' y ∧ P x y) (q : ∀ ys : List β, ys.length = n → (∀ i, i < n → P i (ys.getD i dflt)) → Q (.lst (ys.map enc'))) : Ew (eLc it g tYes' f vs) ρ Q :=
  ew_lcK (List.range n) enc enc' P hi (fun x hx => hs x (List.mem_range.mp hx)) fun ys hl hp => q ys (by simpa using hl) fun i hi => hp i i _ (by rw [List.getElem?_range hi]) (by
    rw [getD_eq dflt (by simp at hl; omega), List.getElem?_eq_getElem])
theorem fw_drawN {n : Nat} {Q : D → Prop} (h0 : 0 < n) (h1 : n < 2 ^ 30) (q : ∀ i : Nat, i < n → Q (nE i)) : Fw drawF [.tok 0, .int (n : Int)] Q :=
  fw_draw (by omega) (by omega) fun i h0 h1 => by
    obtain ⟨i, rfl⟩ := Int.eq_ofNat_of_zero_le h0
    exact q i (by omega)
theorem ew_ifN {ρ : Rho} {Q : D → Prop} {t : Tx} {f f' : Ex} {x y : Nat} (h : Tw t ρ fun k => (k = true → Ew f ρ fun d => d = nE x) ∧ (k = false → Ew f' ρ fun d => d = nE y) ∧ Q (nE (if k = true then x else y))) : Ew (eIf t f f') ρ Q :=
  ew_ifV (h.mono fun k ⟨h1, h2, q⟩ => ⟨h1, h2, by cases k <;> exact q⟩)
theorem o_eqNilL {α : Type} [DecidableEq α] {e : α → D} {n : Nat} (he : Enc e n) {xs : List α} {Q : D → Prop} (q : Q (.bl xs.isEmpty)) (hn : n ≤ 49 := by decide) : OrW (opEq (.lst (xs.map e)) (.lst [])) Q :=
  o_eqE (e := fun xs : List α => D.lst (xs.map e)) he.lst (x := xs) (y := []) (by cases xs <;> simpa using q) (by omega)
theorem o_neNilL {α : Type} [DecidableEq α] {e : α → D} {n : Nat} (he : Enc e n) {xs : List α} {Q : D → Prop} (q : Q (.bl (!xs.isEmpty))) (hn : n ≤ 49 := by decide) : OrW (opNe (.lst (xs.map e)) (.lst [])) Q :=
  o_neE (e := fun xs : List α => D.lst (xs.map e)) he.lst (x := xs) (y := []) (by cases xs <;> simpa using q) (by omega)
theorem o_eqNilT {α : Type} [DecidableEq α] {e : α → D} {n : Nat} (he : Enc e n) {xs : List α} {Q : D → Prop} (q : Q (.bl xs.isEmpty)) (hn : n ≤ 49 := by decide) : OrW (opEq (.tup (xs.map e)) (.tup [])) Q :=
  o_eqE (e := fun xs : List α => D.tup (xs.map e)) he.tup (x := xs) (y := []) (by cases xs <;> simpa using q) (by omega)
theorem o_neNilT {α : Type} [DecidableEq α] {e : α → D} {n : Nat} (he : Enc e n) {xs : List α} {Q : D → Prop} (q : Q (.bl (!xs.isEmpty))) (hn : n ≤ 49 := by decide) : OrW (opNe (.tup (xs.map e)) (.tup [])) Q :=
  o_neE (e := fun xs : List α => D.tup (xs.map e)) he.tup (x := xs) (y := []) (by cases xs <;> simpa using q) (by omega)
theorem head_none {α : Type} (xs : List α) : xs.head?.isNone = xs.isEmpty := by cases xs <;> rfl
/-- data that == may be asked of, and same -/
def Gd (n : Nat) (d : D) : Prop := gd d = true ∧ d.dep ≤ n
theorem Gd.le {n m : Nat} {d : D} (h : Gd n d) (hm : n ≤ m) : Gd m d := ⟨h.1, Nat.le_trans h.2 hm⟩
theorem gd_int' (i : Int) : Gd 0 (.int i) := ⟨rfl, Nat.le_refl _⟩
theorem gd_bl' (i : Bool) : Gd 0 (.bl i) := ⟨rfl, Nat.le_refl _⟩
theorem gd_non' : Gd 0 .non := ⟨rfl, Nat.le_refl _⟩
theorem gd_str' (x : String) : Gd 0 (.str x) := ⟨gd_lit x, Nat.le_refl _⟩
theorem gd_tupM {α : Type} {e : α → D} {xs : List α} {n : Nat} (hl : xs.length ≤ 1000000) (h : ∀ x ∈ xs, Gd n (e x)) : Gd (n + 1) (.tup (xs.map e)) := ⟨gd_map hl fun x hx => (h x hx).1, dep_map fun x hx => (h x hx).2⟩
theorem gd_lstM {α : Type} {e : α → D} {xs : List α} {n : Nat} (hl : xs.length ≤ 1000000) (h : ∀ x ∈ xs, Gd n (e x)) : Gd (n + 1) (.lst (xs.map e)) := ⟨gd_lst.mpr ⟨by rw [List.length_map]; exact hl, fun d hd => by obtain ⟨x, hx, rfl⟩ := List.mem_map.mp hd; exact (h x hx).1⟩, by
  simp only [D.dep]
  exact Nat.succ_le_succ (depL_le.mpr fun d hd => by obtain ⟨x, hx, rfl⟩ := List.mem_map.mp hd; exact (h x hx).2)⟩
theorem gd_tupL {xs : List D} {n : Nat} (hl : xs.length ≤ 1000000) (h : ∀ x ∈ xs, Gd n x) : Gd (n + 1) (.tup xs) := ⟨gd_tup.mpr ⟨hl, fun d hd => (h d hd).1⟩, dep_tup fun d hd => (h d hd).2⟩
theorem gd_all0 {n : Nat} : ∀ x ∈ ([] : List D), Gd n x := fun x h => absurd h (by simp)
theorem gd_allC {n : Nat} {d : D} {ds : List D} (h : Gd n d) (t : ∀ x ∈ ds, Gd n x) : ∀ x ∈ d :: ds, Gd n x := fun x hx => by
  rcases List.mem_cons.mp hx with e | e
  · rw [e]; exact h
  · exact t x e
theorem gd_tIn {xs : List Int} {n : Nat} (hl : xs.length ≤ 1000000) : Gd (n + 1) (tI xs) := gd_tupM hl fun _ _ => (gd_int' _).le (by omega)
theorem gd_tNn {xs : List Nat} {n : Nat} (hl : xs.length ≤ 1000000) : Gd (n + 1) (tN xs) := gd_tupM hl fun _ _ => (gd_int' _).le (by omega)
theorem gd_lNn {xs : List Nat} {n : Nat} (hl : xs.length ≤ 1000000) : Gd (n + 1) (lN xs) := gd_lstM hl fun _ _ => (gd_int' _).le (by omega)
theorem sw_setV {ρ : Rho} {Q : Fl → Rho → Prop} {f : Ex} {i : Nat} (v : D) (h : Ew f ρ fun d => d = v) (q : Q .nx (ρ.set i (.frz v))) : Sw (sSet i f) ρ Q := sw_set (h.mono fun d e => by rw [e]; exact q)
theorem cut_set {α : Type} (e : α → D) {xs : List α} {k : Nat} (y : α) (h : k < xs.length) : cutD (xs.map e) none (some (k : Int)) ++ [e y] ++ cutD (xs.map e) (some ((k + 1 : Nat) : Int)) none = (xs.set k y).map e := by
  rw [cut_take e _ (by omega), cut_drop e _ (by omega), List.set_eq_take_append_cons_drop, if_pos h]
  simp
end Sv

set_option maxHeartbeats 1000000
/-! Pl7: sets kept as dicts of tuples, how many are different, mixed targets -/
namespace Sv
open PySem (Str PyData)
theorem nodup_sub {α : Type} [DecidableEq α] : ∀ (xs ys : List α), xs.Nodup → (∀ x ∈ xs, x ∈ ys) → xs.length ≤ ys.length
  | [], _, _, _ => Nat.zero_le _
  | x :: xs, ys, hn, h => by
    rw [List.nodup_cons] at hn
    have hx := h x List.mem_cons_self
    have ih := nodup_sub xs (ys.erase x) hn.2 fun y hy => (List.mem_erase_of_ne (fun (e : y = x) => hn.1 (e ▸ hy))).mpr (h y (List.mem_cons_of_mem _ hy))
    rw [List.length_erase_of_mem hx] at ih
    have : 0 < ys.length := List.length_pos_of_mem hx
    rw [List.length_cons]; omega
theorem dup_of {α : Type} [DecidableEq α] : ∀ {xs : List α}, ¬ xs.Nodup → ∃ a, a ∈ xs ∧ a ∈ xs.erase a
  | [], h => absurd List.nodup_nil h
  | x :: xs, h => by
    by_cases hx : x ∈ xs
    · exact ⟨x, List.mem_cons_self, by rw [List.erase_cons_head]; exact hx⟩
    · obtain ⟨a, h1, h2⟩ := dup_of (xs := xs) fun z => h (List.nodup_cons.mpr ⟨hx, z⟩)
      have hne : x ≠ a := fun e => hx (e ▸ h1)
      exact ⟨a, List.mem_cons_of_mem _ h1, by rw [List.erase_cons_tail (by simpa using hne)]; exact List.mem_cons_of_mem _ h2⟩
theorem ddI_len (ns : List Int) : decide ((ddI ns).length = ns.length) = decide ns.Nodup := by
  have h1 := nodup_sub (ddI ns) ns (ddI_nodup ns) fun x hx => (ddI_mem ns x).mp hx
  by_cases h : ns.Nodup
  · have h2 := nodup_sub ns (ddI ns) h fun x hx => (ddI_mem ns x).mpr hx
    rw [decide_eq_true h, decide_eq_true (by omega)]
  · obtain ⟨a, ha, ha2⟩ := dup_of h
    have h2 := nodup_sub (ddI ns) (ns.erase a) (ddI_nodup ns) fun x hx => by
      have := (ddI_mem ns x).mp hx
      by_cases e : x = a
      · rw [e]; exact ha2
      · exact (List.mem_erase_of_ne e).mpr this
    rw [List.length_erase_of_mem ha] at h2
    have := List.length_pos_of_mem ha
    rw [decide_eq_false h, decide_eq_false (by omega)]
theorem intsD_int : ∀ xs : List Int, intsD (xs.map D.int) = some xs
  | [] => rfl
  | x :: xs => by rw [List.map_cons, intsD, intsD_int xs]; rfl
theorem o_lenSetT {ns : List Int} {Q : D → Prop} (hl : ns.length ≤ 4000) (q : Q (.int (ddI ns).length)) : OrW (lenSetD [.tup (ns.map D.int)]) Q :=
  .of (by rw [lenSetD, if_pos (by rw [List.length_map]; exact hl), intsD_int]; rfl) q
theorem o_lenSetL {ns : List Int} {Q : D → Prop} (hl : ns.length ≤ 4000) (q : Q (.int (ddI ns).length)) : OrW (lenSetD [.lst (ns.map D.int)]) Q :=
  .of (by rw [lenSetD, if_pos (by rw [List.length_map]; exact hl), intsD_int]; rfl) q
local macro_rules | `(tactic| walk_at "w") => `(tactic| (repeat' (first | with_reducible (first | refine sw_seq ?_ | refine sw_set ?_ | refine sw_new ?_ | refine sw_asg ?_ | refine sw_rt ?_ | refine sw_ret ?_ | refine sw_if ?_ | refine sw_par ?_ | refine sw_nx ?_ | refine sw_exprM ?_ | refine kw_nil ?_ | refine kw_frz ?_ | refine kw_new ?_ | refine ew_con ?_ | refine ew_bin ?_ | refine ew_un ?_ | refine ew_tup ?_ | refine ew_lst ?_ | refine ew_fn ?_ | refine ew_call ?_ | refine ew_callO ?_ | refine ew_if ?_ | refine ew_not ?_ | refine ew_chain ?_ | refine ew_slice ?_ | refine ow_none ?_ | refine ow_some ?_ | refine tw_bl ?_ | refine tw_of ?_ | refine tw_not ?_ | refine tw_yes ?_ | refine aw_nil ?_ | refine aw_cons ?_ | refine iw_seq ?_ | refine iw_enum ?_ | refine iw_zip ?_) | refine ew_var rfl ?_ | refine ew_bor rfl ?_ | refine ew_borO rfl ?_ | refine o_eqI ?_ | refine o_neI ?_ | refine o_lt ?_ | refine o_gt ?_ | refine o_le ?_ | refine o_ge ?_ | refine o_all ?_ | refine o_any ?_ | refine o_sum ?_ | refine o_addI ?_ | refine o_subI ?_ | refine o_lenT ?_ | refine o_lenL ?_ | refine o_tupL ?_ | refine o_tupT ?_ | refine o_listL ?_ | refine o_listT ?_ | refine o_negI ?_ | refine o_intI ?_ | refine o_slT ?_ | refine o_slL ?_ | refine o_revT ?_ | refine o_revL ?_ | refine x_int ?_ | refine x_bl ?_ | refine x_tb ?_ | refine x_itT ?_ | refine x_itL ?_ | refine x_rt ?_)))
/-! ### how long bent data are -/
def lenT : D → Nat
  | .tup xs => xs.length
  | _ => 0
theorem w_bentL : ∀ (n : Nat) {v : D} {Q : D → Prop}, bs v = true → v.dep < n → (∀ w, lenT w ≤ 2001 → Q w) → Fw (f_bent n) [.tok 0, v] Q
  | 0, _, _, _, h, _ => absurd h (by omega)
  | n + 1, v, Q, hv, hd, q => by
    show Fw (runF 4 (s_bent (f_bent n))) [.tok 0, v] Q
    refine fw_rt ?_
    have hs8 : ∀ (R : D → Prop), (∀ i : Int, 0 ≤ i → i < 8 → R (.int i)) → Fw drawF [.tok 0, .int 8] R := fun R h => fw_draw (by decide) (by decide) h
    cases v with
    | dct _ => cases hv
    | tok _ => cases hv
    | lst _ => cases hv
    | tup xs =>
      rw [bs_tup] at hv
      have hg : ∀ d ∈ xs, gd d = true := fun d hd => bs_gd d (hv.2 d hd)
      have hgt : gd (.tup xs) = true := gd_tup.mpr ⟨by omega, hg⟩
      have hcl : ∀ lo hi, (cutD xs lo hi).length ≤ 1000 := fun lo hi => Nat.le_trans (cutD_len _ _ _) hv.1
      have hcd : ∀ lo hi, D.depL (cutD xs lo hi) ≤ D.depL xs := fun lo hi => depL_sub cutD_sub
      have hsz : (1000000 : Nat) ≤ PySem.sizeLine := by rw [PySem.sizeLine_eq]; omega
      refine sw_seq (sw_if (tw_and (Tw.mono (Q := fun k => k = true) (fun bx => ⟨true, bx, rfl, rfl⟩) fun k ek => ⟨fun _ => ?_, fun z => (by rw [ek] at z; cases z)⟩)))
      have last : ∀ (ρ1 : Rho), ρ1 = [.frz (.tok 0), .frz (.tup xs), .emp, .emp] → Sw s_bent2 ρ1 (RtQ Q) := fun ρ1 e1 => by
        subst e1
        refine sw_seq (sw_set (ew_call (aw_cons (ew_var rfl (aw_cons (ew_con (aw_nil (hs8 _ fun i h0 h1 => ?_))))))))
        refine sw_seq (sw_if (Tw.mono (Q := fun k => k = true) (fun bx => ⟨true, bx, rfl, rfl⟩) fun k ek => ⟨fun _ => ?_, fun z => (by rw [ek] at z; cases z)⟩))
        have hc1 := hcl none (some 1)
        have hd1 := hcd none (some 1)
        walk_at "w"
        refine o_addT (by omega) ?_
        walk_at "w"
        refine o_addT (by simp only [List.length_cons, List.length_nil]; omega) ?_
        walk_at "w"
        refine o_addT (by simp only [List.length_cons, List.length_nil]; omega) ?_
        walk_at "w"
        refine o_pick h0 h1 fun x hx => ⟨_, rfl, q x ?_⟩
        simp only [List.mem_cons, List.not_mem_nil, or_false] at hx
        rcases hx with rfl | rfl | rfl | rfl | rfl | rfl | rfl | rfl
        all_goals simp only [lenT, List.length_append, List.length_cons, List.length_nil, List.length_reverse]
        all_goals have hc2 := hcl (some 1) none
        all_goals have hc3 := hcl none (some (-1))
        all_goals omega
      refine tw_and ?_
      walk_at "w"
      refine ⟨fun e => ?_, fun _ => ⟨(fun z => by cases z), fun _ => sw_nx (last _ rfl)⟩⟩
      have hpos : 0 < xs.length := by have := of_decide_eq_true e; omega
      walk_at "w"
      refine fw_draw (by decide) (by decide) fun i0 h00 h01 => ?_
      walk_at "w"
      refine ⟨fun _ => ?_, fun _ => sw_nx (last _ rfl)⟩
      walk_at "w"
      refine fw_draw (n := (xs.length : Int)) (by omega) (by omega) fun at' h0 h1 => ?_
      have hat : at'.toNat < xs.length := by omega
      have hm : xs[at'.toNat] ∈ xs := List.getElem_mem hat
      walk_at "w"
      refine ⟨xs[at'.toNat], by rw [ixD, atI_pos h0, List.getElem?_eq_getElem hat], ?_⟩
      walk_at "w"
      refine w_bentL n (hv.2 _ hm) (by have := dep_mem hm; omega) fun w hw => ?_
      have hc1 := hcl none (some at')
      have hc2 := hcl (some (at' + 1)) none
      have hdm := depL_le.mp (Nat.le_refl _) _ hm
      walk_at "w"
      refine o_addT (by simp only [List.length_cons, List.length_nil]; omega) ?_
      walk_at "w"
      refine o_addT (by simp only [List.length_append, List.length_cons, List.length_nil]; omega) ⟨_, rfl, q _ ?_⟩
      simp only [lenT, List.length_append, List.length_cons, List.length_nil]
      omega
    | non =>
      refine sw_seq (sw_if (Tw.mono (Q := fun k => k = false) (fun bx => ⟨false, bx, rfl, rfl⟩) fun k ek => ⟨fun z => (by rw [ek] at z; cases z), fun _ => sw_nx ?_⟩))
      walk_at "w"
      refine hs8 _ fun i h0 h1 => ?_
      refine sw_seq (sw_if (Tw.mono (Q := fun k => k = false) (fun bx => ⟨false, bx, rfl, rfl⟩) fun k ek => ⟨fun z => (by rw [ek] at z; cases z), fun _ => sw_nx ?_⟩))
      refine sw_seq (sw_if (Tw.mono (Q := fun k => k = false) (fun bx => ⟨false, bx, rfl, rfl⟩) fun k ek => ⟨fun z => (by rw [ek] at z; cases z), fun _ => sw_nx ?_⟩))
      refine sw_seq (sw_if (Tw.mono (Q := fun k => k = false) (fun bx => ⟨false, bx, rfl, rfl⟩) fun k ek => ⟨fun z => (by rw [ek] at z; cases z), fun _ => sw_nx ?_⟩))
      walk_at "w"
      refine o_pick h0 h1 fun x hx => q x ?_
      simp only [List.mem_cons, List.not_mem_nil, or_false] at hx
      rcases hx with rfl | rfl | rfl | rfl | rfl | rfl | rfl | rfl <;> simp [lenT]
    | bl y =>
      refine sw_seq (sw_if (Tw.mono (Q := fun k => k = false) (fun bx => ⟨false, bx, rfl, rfl⟩) fun k ek => ⟨fun z => (by rw [ek] at z; cases z), fun _ => sw_nx ?_⟩))
      walk_at "w"
      refine hs8 _ fun i h0 h1 => ?_
      refine sw_seq (sw_if (Tw.mono (Q := fun k => k = false) (fun bx => ⟨false, bx, rfl, rfl⟩) fun k ek => ⟨fun z => (by rw [ek] at z; cases z), fun _ => sw_nx ?_⟩))
      refine sw_seq (sw_if (Tw.mono (Q := fun k => k = false) (fun bx => ⟨false, bx, rfl, rfl⟩) fun k ek => ⟨fun z => (by rw [ek] at z; cases z), fun _ => sw_nx ?_⟩))
      refine sw_seq (sw_if (Tw.mono (Q := fun k => k = false) (fun bx => ⟨false, bx, rfl, rfl⟩) fun k ek => ⟨fun z => (by rw [ek] at z; cases z), fun _ => sw_nx ?_⟩))
      walk_at "w"
      refine o_pick h0 h1 fun x hx => q x ?_
      simp only [List.mem_cons, List.not_mem_nil, or_false] at hx
      rcases hx with rfl | rfl | rfl | rfl | rfl | rfl | rfl | rfl <;> simp [lenT]
    | int z =>
      have hz : z.natAbs ≤ 1000000000 := by simpa [bs] using hv
      refine sw_seq (sw_if (Tw.mono (Q := fun k => k = false) (fun bx => ⟨false, bx, rfl, rfl⟩) fun k ek => ⟨fun z => (by rw [ek] at z; cases z), fun _ => sw_nx ?_⟩))
      walk_at "w"
      refine hs8 _ fun i h0 h1 => ?_
      refine sw_seq (sw_if (Tw.mono (Q := fun k => k = false) (fun bx => ⟨false, bx, rfl, rfl⟩) fun k ek => ⟨fun z => (by rw [ek] at z; cases z), fun _ => sw_nx ?_⟩))
      refine sw_seq (sw_if (Tw.mono (Q := fun k => k = true) (fun bx => ⟨true, bx, rfl, rfl⟩) fun k ek => ⟨fun _ => ?_, fun z => (by rw [ek] at z; cases z)⟩))
      have hlog : z.natAbs.log2 < 1920 := by
        by_cases hz0 : z.natAbs = 0
        · rw [hz0]; decide
        · rw [Nat.log2_lt hz0]
          exact Nat.lt_of_le_of_lt hz (by decide)
      walk_at "w"
      refine ⟨.str (toString z : String), by rw [strD, if_pos hlog], ?_⟩
      walk_at "w"
      refine o_pick h0 h1 fun x hx => ⟨_, rfl, q x ?_⟩
      simp only [List.mem_cons, List.not_mem_nil, or_false] at hx
      rcases hx with rfl | rfl | rfl | rfl | rfl | rfl | rfl | rfl
      · simp [lenT]
      · simp [lenT]
      · simp [lenT]
      · simp [lenT]
      · simp [lenT]
      · simp [lenT]
      · simp [lenT]
      · simp [lenT]
    | str z =>
      have hz : z.length ≤ 1000 := by simp only [bs, Bool.and_eq_true, decide_eq_true_iff] at hv; exact hv.1
      have hgz : gd (.str z) = true := bs_gd _ hv
      have hsz : (1000000 : Nat) ≤ PySem.sizeLine := by rw [PySem.sizeLine_eq]; omega
      refine sw_seq (sw_if (Tw.mono (Q := fun k => k = false) (fun bx => ⟨false, bx, rfl, rfl⟩) fun k ek => ⟨fun z => (by rw [ek] at z; cases z), fun _ => sw_nx ?_⟩))
      walk_at "w"
      refine hs8 _ fun i h0 h1 => ?_
      refine sw_seq (sw_if (Tw.mono (Q := fun k => k = false) (fun bx => ⟨false, bx, rfl, rfl⟩) fun k ek => ⟨fun z => (by rw [ek] at z; cases z), fun _ => sw_nx ?_⟩))
      refine sw_seq (sw_if (Tw.mono (Q := fun k => k = false) (fun bx => ⟨false, bx, rfl, rfl⟩) fun k ek => ⟨fun z => (by rw [ek] at z; cases z), fun _ => sw_nx ?_⟩))
      refine sw_seq (sw_if (Tw.mono (Q := fun k => k = true) (fun bx => ⟨true, bx, rfl, rfl⟩) fun k ek => ⟨fun _ => ?_, fun z => (by rw [ek] at z; cases z)⟩))
      walk_at "w"
      refine ⟨_, by
        show opAdd (.str z) (.str ("s" : Str)) = some (.str (z ++ ("s" : Str)))
        have : ("s" : Str).length = 1 := by decide +kernel
        simp only [opAdd]
        rw [if_pos (by rw [this]; omega)], ?_⟩
      walk_at "w"
      refine ⟨.str (L2.cutS z (some 1) none), by simp only [sliceD]; rw [if_pos (by omega)], ?_⟩
      walk_at "w"
      refine o_pick h0 h1 fun x hx => ⟨_, rfl, q x ?_⟩
      simp only [List.mem_cons, List.not_mem_nil, or_false] at hx
      rcases hx with rfl | rfl | rfl | rfl | rfl | rfl | rfl | rfl
      · simp [lenT]
      · simp [lenT]
      · simp [lenT]
      · simp [lenT]
      · simp [lenT]
      · simp [lenT]
      · simp [lenT]
      · simp [lenT]
theorem Fw.and {F : Fn} {ds : List D} {Q Q' : D → Prop} (h : Fw F ds Q) (h' : Fw F ds Q') : Fw F ds fun d => Q d ∧ Q' d := fun b => by
  obtain ⟨d, b1, e, q⟩ := h b
  obtain ⟨d', b2, e', q'⟩ := h' b
  rw [e] at e'
  cases e'
  exact ⟨d, b1, e, q, q'⟩
theorem w_bent' (n : Nat) {v : D} {Q : D → Prop} (hv : bs v = true) (hd : v.dep < n) (q : ∀ w, Bt v w → lenT w ≤ 2001 → Q w) : Fw (f_bent n) [.tok 0, v] Q :=
  ((w_bent n (Q := Bt v) hv hd fun _ h => h).and (w_bentL n (Q := fun w => lenT w ≤ 2001) hv hd fun _ h => h)).mono fun d h => q d h.1 h.2
/-! ### a set kept as a dict -/
section
variable {α : Type} [DecidableEq α] {e : α → D} {ρ : Rho}
abbrev dS (e : α → D) (ks : List α) : D := .dct (t0 :: ks.map fun k => (e k, .bl true))
structure KeyE (e : α → D) : Prop where
  inj : ∀ x y, e x = e y → x = y
  key : ∀ x, keyT (e x) = true
theorem isT0_c (r : List (D × D)) : isT0 (t0 :: r) = true := by simp [isT0]
theorem lk_dS (he : KeyE e) (x : α) : ∀ ks : List α, (lkD (ks.map fun k => (e k, D.bl true)) (e x)).isSome = decide (x ∈ ks)
  | [] => by simp [lkD]
  | k :: ks => by
    have ih := lk_dS he x ks
    unfold lkD at ih ⊢
    rw [List.map_cons, List.find?_cons]
    by_cases h : k = x
    · subst h; simp
    · have h2 : e k ≠ e x := fun z => h (he.inj _ _ z)
      simp only [h2, decide_false]
      rw [ih]
      have h3 : x ≠ k := fun z => h z.symm
      simp [h3]
theorem inS (he : KeyE e) (x : α) (ks : List α) : inD (e x) (dS e ks) = some (decide (x ∈ ks)) := by
  show (dGet _ _).map _ = _
  rw [dGet, keyOk, if_pos (isT0_c _), if_pos (he.key x), rowsD, if_pos (isT0_c _), List.tail_cons, Option.map_some, lk_dS he]
theorem o_inS (he : KeyE e) {x : α} {ks : List α} {Q : D → Prop} (q : Q (.bl (decide (x ∈ ks)))) : OrW (opIn (e x) (dS e ks)) Q := .of (by rw [opIn, inS he]; rfl) q
theorem o_ninS (he : KeyE e) {x : α} {ks : List α} {Q : D → Prop} (q : Q (.bl (!decide (x ∈ ks)))) : OrW (opNotIn (e x) (dS e ks)) Q := .of (by rw [opNotIn, inS he]; rfl) q
theorem putS (he : KeyE e) {x : α} {ks : List α} (hx : x ∉ ks) (hl : ks.length < 1000000) : dPut (t0 :: ks.map fun k => (e k, D.bl true)) (e x) (.bl true) = some (t0 :: (ks ++ [x]).map fun k => (e k, D.bl true)) := by
  rw [dPut, keyOk, if_pos (isT0_c _), rowsD, if_pos (isT0_c _), List.tail_cons, if_pos ⟨he.key x, by rw [List.length_map]; rw [PySem.sizeLine_eq]; omega⟩, if_pos (isT0_c _), ptD, lk_dS he, if_neg (by simpa using hx), List.map_append]
  rfl
theorem sw_dputS {Q : Fl → Rho → Prop} {f : Ex} {i : Nat} (he : KeyE e) {x : α} {ks : List α} (e0 : ρ[i]? = some (Sl.own (dS e ks))) (hl : ks.length < 1000000) (hx : x ∉ ks) (h : Ew f ρ fun d => d = e x) (q : Q .nx (ρ.set i (.own (dS e (ks ++ [x]))))) : Sw (sDPut i f (eCon (.bl true))) ρ Q := fun b => by
  obtain ⟨_, b1, e1, rfl⟩ := h b
  exact ⟨.nx, _, b1, by unfold sDPut; rw [show eCon (.bl true) ρ b = some (.bl true, b) from rfl]; simp only [e0, e1, putS he hx hl], q⟩
theorem ew_dS1 {Q : D → Prop} {f : Ex} (he : KeyE e) {x : α} (h : Ew f ρ fun d => d = e x) (q : Q (dS e [x])) : Ew (eDisp true (pCons f (eCon (.bl true)) pNil)) ρ Q := fun b => by
  obtain ⟨_, b1, e1, rfl⟩ := h b
  have := putS he (x := x) (ks := []) (by simp) (by simp)
  rw [List.map_nil, List.nil_append] at this
  exact ⟨_, b1, by unfold eDisp pCons; rw [e1]; simp only [eCon, pNil, if_true, putAll, this], q⟩
end
/-! ### a, xs[i] = e, f -/
theorem sw_pq2 {ρ : Rho} {α : Type} {e : α → D} {xs : List α} {Q : Fl → Rho → Prop} {f f' fi : Ex} {i j : Nat} {v : D} (h : Ew f ρ fun d => d = v) {y : α} (h' : Ew f' ρ fun d => d = e y) (hij : i ≠ j) (e0 : ρ[j]? = some (Sl.own (.lst (xs.map e))))
    {k : Nat} (hi : Ew fi (ρ.set i (.frz v)) fun d => d = nE k) (hk : k < xs.length) (q : Q .nx ((ρ.set i (.frz v)).set j (.own (.lst ((xs.set k y).map e))))) : Sw (sPq (aCons f (aCons f' aNil)) (qNm i :: qSt j fi :: [])) ρ Q := fun b => by
  obtain ⟨_, b1, e1, ed⟩ := h b
  rw [ed] at e1
  obtain ⟨_, b2, e2, rfl⟩ := h' b1
  obtain ⟨_, b3, e3, rfl⟩ := hi b2
  have hix : L2.ixN (xs.map e).length (k : Int) = some k := by
    unfold L2.ixN
    rw [List.length_map]
    have h1 : (0 : Int) ≤ k := by omega
    have h2 : (k : Int) < xs.length := by omega
    simp [h1, h2]
  have e5 : (ρ.set i (Sl.frz v))[j]? = some (Sl.own (.lst (xs.map e))) := by rw [List.getElem?_set_ne hij]; exact e0
  refine ⟨.nx, _, b3, ?_, q⟩
  unfold sPq
  have ea : aCons f (aCons f' aNil) ρ b = some ([v, e y], b2) := by unfold aCons aNil; simp only [e1, e2]
  rw [ea]
  simp only [qAll, qNm, qSt, e5, e3, hix, List.map_set]
/-- for, over typed things: what is behind -/
theorem sw_forP {ρ : Rho} {Q : Fl → Rho → Prop} {s : SS} {it : It} {g : Tg} {α : Type} (xs : List α) (enc : α → D) (I : List α → Rho → Prop) (hi : Iw it ρ fun ds => ds = xs.map enc) (h0 : I [] ρ)
    (hs : ∀ pre x post ρ1, xs = pre ++ x :: post → I pre ρ1 → ∃ ρ2, g (enc x) ρ1 = some ρ2 ∧ Sw s ρ2 (LpQ (I (pre ++ [x])) Q)) (q : ∀ ρ1, I xs ρ1 → Q .nx ρ1) : Sw (sFor it g s) ρ Q := by
  refine sw_for (xs.map enc) (fun i ρ1 => I (xs.take i) ρ1) hi h0 (fun i d ρ1 e r => ?_) fun ρ1 r => q ρ1 (by rw [List.length_map, List.take_length] at r; exact r)
  rw [List.getElem?_map] at e
  cases h : xs[i]? with
  | none => rw [h] at e; cases e
  | some x =>
    rw [h] at e; cases e
    obtain ⟨hl, hx⟩ := List.getElem?_eq_some_iff.mp h
    have hd : xs = xs.take i ++ x :: xs.drop (i + 1) := by
      conv => lhs; rw [← List.take_append_drop i xs, List.drop_eq_getElem_cons hl, hx]
    have ht : xs.take (i + 1) = xs.take i ++ [x] := by rw [List.take_succ, h]; rfl
    have := hs (xs.take i) x (xs.drop (i + 1)) ρ1 hd r
    rw [ht]
    exact this
end Sv

/-! k82: the mathematics of wishes -/
namespace K82
abbrev Ws := List (Option Int)
def at_ (W : Ws) (j : Nat) : Option Int := W.getD j none
def mover (W : Ws) (r : Nat) : Bool := match at_ W r with
  | none => false
  | some w => decide (w ≠ (r : Int))
def movers (W : Ws) : List Nat := (List.range W.length).filter (mover W)
def canGo (W : Ws) (r : Nat) : Bool := match at_ W r with
  | none => false
  | some w => decide (w ≠ (r : Int)) && (decide (w < 0) || (at_ W w.toNat).isNone)
def behind (W : Ws) (r : Nat) : Ws := match at_ W r with
  | none => W.set r none
  | some w => if 0 ≤ w then (W.set r none).set w.toNat (some w) else W.set r none
structure Ok (W : Ws) : Prop where
  bd : ∀ j w, at_ W j = some w → -1 ≤ w ∧ w < W.length
  inj : ∀ i j w, 0 ≤ w → at_ W i = some w → at_ W j = some w → i = j
theorem at_lt {W : Ws} {j : Nat} {w : Int} (h : at_ W j = some w) : j < W.length := by
  unfold at_ at h
  rw [List.getD_eq_getElem?_getD] at h
  by_cases hj : j < W.length
  · exact hj
  · rw [List.getElem?_eq_none (by omega)] at h; cases h
theorem at_set (W : Ws) (r j : Nat) (v : Option Int) (hr : r < W.length) : at_ (W.set r v) j = if j = r then v else at_ W j := by
  unfold at_
  rw [List.getD_eq_getElem?_getD, List.getD_eq_getElem?_getD]
  by_cases h : j = r
  · subst h; simp [hr]
  · rw [List.getElem?_set_ne (fun e => h e.symm)]; simp [h]
theorem behind_len (W : Ws) (r : Nat) : (behind W r).length = W.length := by
  unfold behind
  split
  · simp
  · split <;> simp
/-- what one step does -/
theorem behind_at {W : Ws} (ok : Ok W) {r : Nat} {w : Int} (h : at_ W r = some w) (j : Nat) : at_ (behind W r) j = if 0 ≤ w ∧ (j : Int) = w then some w else if j = r then none else at_ W j := by
  have hr := at_lt h
  have hb := ok.bd r w h
  unfold behind
  rw [h]
  by_cases h0 : 0 ≤ w
  · simp only [h0, if_true, true_and]
    rw [at_set _ _ _ _ (by rw [List.length_set]; omega), at_set _ _ _ _ hr]
    by_cases e : (j : Int) = w
    · have e2 : j = w.toNat := by omega
      rw [if_pos e, if_pos e2]
    · have e2 : ¬ j = w.toNat := by omega
      rw [if_neg e, if_neg e2]
  · simp only [h0, if_false, false_and]
    rw [at_set _ _ _ _ hr]
theorem canGo_iff {W : Ws} {r : Nat} : canGo W r = true ↔ ∃ w, at_ W r = some w ∧ w ≠ (r : Int) ∧ (w < 0 ∨ at_ W w.toNat = none) := by
  unfold canGo
  cases h : at_ W r with
  | none => simp
  | some w => simp [Option.isNone_iff_eq_none]
theorem mover_iff {W : Ws} {r : Nat} : mover W r = true ↔ ∃ w, at_ W r = some w ∧ w ≠ (r : Int) := by
  unfold mover
  cases h : at_ W r with
  | none => simp
  | some w => simp
theorem Ok.step {W : Ws} (ok : Ok W) {r : Nat} (hc : canGo W r = true) : Ok (behind W r) := by
  obtain ⟨w, h, hne, hg⟩ := canGo_iff.mp hc
  have hb := ok.bd r w h
  have e := behind_at ok h
  refine ⟨fun j v hj => ?_, fun i j v hv hi hj => ?_⟩
  · rw [behind_len]
    rw [e] at hj
    split at hj
    · cases hj; exact hb
    · split at hj
      · cases hj
      · exact ok.bd j v hj
  · rw [e] at hi hj
    split at hi
    · rename_i h1
      cases hi
      split at hj
      · rename_i h2; omega
      · split at hj
        · cases hj
        · rename_i h3
          have := ok.inj j r w hv hj h
          omega
    · split at hi
      · cases hi
      · rename_i h3
        split at hj
        · rename_i h4
          cases hj
          have := ok.inj i r w hv hi h
          omega
        · split at hj
          · cases hj
          · exact ok.inj i j v hv hi hj
/-- the movers behind a step: one fewer -/
theorem mover_step {W : Ws} (ok : Ok W) {r : Nat} (hc : canGo W r = true) (j : Nat) : mover (behind W r) j = (mover W j && decide (j ≠ r)) := by
  obtain ⟨w, h, hne, hg⟩ := canGo_iff.mp hc
  have e := behind_at ok h j
  by_cases hj : j = r
  · subst hj
    have e2 : ¬ (0 ≤ w ∧ (j : Int) = w) := fun z => hne z.2.symm
    rw [if_neg e2, if_pos rfl] at e
    simp [mover, e]
  · rw [Bool.eq_iff_iff, mover_iff]
    simp only [Bool.and_eq_true, mover_iff, decide_eq_true_iff]
    rw [e]
    by_cases h1 : 0 ≤ w ∧ (j : Int) = w
    · rw [if_pos h1]
      have hn : at_ W j = none := by
        rcases hg with hg | hg
        · omega
        · have : w.toNat = j := by omega
          rwa [this] at hg
      rw [hn]
      constructor
      · rintro ⟨v, hv, h3⟩
        cases hv
        omega
      · rintro ⟨⟨v, hv, _⟩, _⟩; cases hv
    · rw [if_neg h1, if_neg hj]
      exact ⟨fun h => ⟨h, hj⟩, fun h => h.1⟩
theorem movers_step {W : Ws} (ok : Ok W) {r : Nat} (hc : canGo W r = true) : movers (behind W r) = (movers W).filter fun j => decide (j ≠ r) := by
  unfold movers
  rw [behind_len, List.filter_filter]
  exact List.filter_congr fun j _ => by rw [mover_step ok hc, Bool.and_comm]
theorem movers_nodup (W : Ws) : (movers W).Nodup := List.nodup_range.filter _
theorem mover_of_go {W : Ws} {r : Nat} (hc : canGo W r = true) : r ∈ movers W := by
  obtain ⟨w, h, hne, _⟩ := canGo_iff.mp hc
  exact List.mem_filter.mpr ⟨List.mem_range.mpr (at_lt h), mover_iff.mpr ⟨w, h, hne⟩⟩
theorem filter_ne_len {xs : List Nat} (hn : xs.Nodup) {r : Nat} (hr : r ∈ xs) : (xs.filter fun j => decide (j ≠ r)).length + 1 = xs.length := by
  induction xs with
  | nil => cases hr
  | cons x xs ih =>
    rw [List.nodup_cons] at hn
    by_cases e : x = r
    · subst e
      have : (xs.filter fun j => decide (j ≠ x)) = xs := List.filter_eq_self.mpr fun j hj => decide_eq_true fun e => hn.1 (e ▸ hj)
      rw [List.filter_cons_of_neg (by simp), this]; simp
    · have hr' : r ∈ xs := by
        rcases List.mem_cons.mp hr with h | h
        · exact absurd h.symm e
        · exact h
      rw [List.filter_cons_of_pos (by simp [e]), List.length_cons, List.length_cons, ih hn.2 hr']
theorem go_movers (W : Ws) : (movers W).filter (canGo W) = (List.range W.length).filter (canGo W) := by
  unfold movers
  rw [List.filter_filter]
  refine List.filter_congr fun j hj => ?_
  cases h : canGo W j with
  | false => rfl
  | true => rw [(List.mem_filter.mp (mover_of_go h)).2]; rfl
theorem movers_len {W : Ws} (ok : Ok W) {r : Nat} (hc : canGo W r = true) : (movers (behind W r)).length + 1 = (movers W).length := by
  rw [movers_step ok hc]
  exact filter_ne_len (movers_nodup W) (mover_of_go hc)
def done (W : Ws) : Bool := (List.range W.length).all fun k => (at_ W k).isNone || decide (at_ W k = some (k : Int))
theorem done_iff {W : Ws} : done W = true ↔ movers W = [] := by
  unfold done movers
  rw [List.filter_eq_nil_iff, List.all_eq_true]
  refine forall_congr' fun j => forall_congr' fun _ => ?_
  rw [mover]
  cases at_ W j with
  | none => simp
  | some w => simp
/-! ### rings -/
def nxt (W : Ws) (i : Nat) : Option Nat := match at_ W i with
  | some w => if 0 ≤ w then some w.toNat else none
  | none => none
theorem nxt_iff {W : Ws} {i h : Nat} : nxt W i = some h ↔ at_ W i = some (h : Int) := by
  unfold nxt
  cases e : at_ W i with
  | none => simp
  | some w =>
    by_cases h0 : 0 ≤ w
    · simp only [h0, if_true, Option.some.injEq]; omega
    · simp only [h0, if_false, Option.some.injEq]
      constructor
      · intro z; cases z
      · intro z; omega
def go (W : Ws) (s : Nat) : Nat → List Nat → Nat → Option (List Nat)
  | 0, _, _ => none
  | f + 1, acc, cur => match nxt W cur with
    | none => none
    | some h => if h = s then some acc else if s < h ∧ h ∉ acc then go W s f (acc ++ [h]) h else none
def ringAt (W : Ws) (s : Nat) : Option (List Nat) := if mover W s = true then go W s (W.length + 1) [s] s else none
def rings (W : Ws) : List (List Nat) := (List.range W.length).filterMap (ringAt W)
theorem rings_eq (W : Ws) : (movers W).filterMap (ringAt W) = rings W := by
  unfold rings movers
  rw [List.filterMap_filter]
  congr 1
  funext j
  unfold ringAt
  by_cases h : mover W j = true <;> simp [h]
/-- a closed set of rooms -/
structure Shut (W : Ws) (R : List Nat) : Prop where
  ne : R ≠ []
  cl : ∀ r ∈ R, ∃ h ∈ R, at_ W r = some (h : Int) ∧ h ≠ r
/-- a path from s, each behind the one ahead -/
structure Path (W : Ws) (s : Nat) (acc : List Nat) (cur : Nat) : Prop where
  nd : acc.Nodup
  hd : acc[0]? = some s
  lst : acc[acc.length - 1]? = some cur
  st : ∀ k, k + 1 < acc.length → ∃ a b, acc[k]? = some a ∧ acc[k + 1]? = some b ∧ at_ W a = some (b : Int)
theorem Path.start (W : Ws) (s : Nat) : Path W s [s] s := ⟨by simp, rfl, rfl, fun k h => by simp at h⟩
theorem Path.pos {W : Ws} {s cur : Nat} {acc : List Nat} (p : Path W s acc cur) : 0 < acc.length := by
  cases acc with
  | nil => have := p.hd; simp at this
  | cons _ _ => simp
theorem Path.mem {W : Ws} {s cur : Nat} {acc : List Nat} (p : Path W s acc cur) : cur ∈ acc := List.mem_of_getElem? p.lst
/-- whom one comes back to is the first -/
theorem Path.back {W : Ws} (ok : Ok W) {s cur h : Nat} {acc : List Nat} (p : Path W s acc cur) (hn : at_ W cur = some (h : Int)) (hm : h ∈ acc) : h = s := by
  obtain ⟨i, hi, e⟩ := List.getElem_of_mem hm
  cases i with
  | zero =>
    have := p.hd
    rw [List.getElem?_eq_getElem hi, e] at this
    exact Option.some.inj this
  | succ i =>
    obtain ⟨a, b, h1, h2, h3⟩ := p.st i hi
    rw [List.getElem?_eq_getElem hi, e] at h2
    cases h2
    have := ok.inj a cur h (by omega) h3 hn
    subst this
    obtain ⟨hi1, e1⟩ := List.getElem?_eq_some_iff.mp h1
    obtain ⟨hl1, e2⟩ := List.getElem?_eq_some_iff.mp p.lst
    have := (List.getElem_inj p.nd (h₀ := hi1) (h₁ := hl1)).mp (e1.trans e2.symm)
    omega
theorem Path.snoc {W : Ws} {s cur h : Nat} {acc : List Nat} (p : Path W s acc cur) (hn : at_ W cur = some (h : Int)) (hm : h ∉ acc) : Path W s (acc ++ [h]) h := by
  have hp := p.pos
  refine ⟨?_, ?_, ?_, fun k hk => ?_⟩
  · rw [List.nodup_append]
    exact ⟨p.nd, by simp, fun a ha b hb => by simp at hb; subst hb; exact fun z => hm (z ▸ ha)⟩
  · rw [List.getElem?_append_left hp]; exact p.hd
  · rw [List.length_append, List.length_singleton, Nat.add_sub_cancel, List.getElem?_append_right (Nat.le_refl _), Nat.sub_self]; rfl
  · rw [List.length_append, List.length_singleton] at hk
    by_cases hk2 : k + 1 < acc.length
    · obtain ⟨a, b, h1, h2, h3⟩ := p.st k hk2
      exact ⟨a, b, by rw [List.getElem?_append_left (by omega)]; exact h1, by rw [List.getElem?_append_left hk2]; exact h2, h3⟩
    · have e : k = acc.length - 1 := by omega
      refine ⟨cur, h, ?_, ?_, hn⟩
      · rw [List.getElem?_append_left (by omega), e]; exact p.lst
      · rw [List.getElem?_append_right (by omega), show k + 1 - acc.length = 0 by omega]; rfl
theorem nodup_sub {α : Type} [DecidableEq α] : ∀ (xs ys : List α), xs.Nodup → (∀ x ∈ xs, x ∈ ys) → xs.length ≤ ys.length
  | [], _, _, _ => Nat.zero_le _
  | x :: xs, ys, hn, h => by
    rw [List.nodup_cons] at hn
    have hx := h x List.mem_cons_self
    have ih := nodup_sub xs (ys.erase x) hn.2 fun y hy => (List.mem_erase_of_ne (fun (e : y = x) => hn.1 (e ▸ hy))).mpr (h y (List.mem_cons_of_mem _ hy))
    rw [List.length_erase_of_mem hx] at ih
    have : 0 < ys.length := List.length_pos_of_mem hx
    rw [List.length_cons]; omega
theorem nodup_le {n : Nat} {xs : List Nat} (hn : xs.Nodup) (h : ∀ x ∈ xs, x < n) : xs.length ≤ n := by
  have := nodup_sub xs (List.range n) hn fun x hx => List.mem_range.mpr (h x hx)
  rwa [List.length_range] at this
/-- from the least of a closed set one comes back -/
theorem go_shut {W : Ws} (ok : Ok W) {R : List Nat} (sh : Shut W R) {s : Nat} (hs : s ∈ R) (hmin : ∀ r ∈ R, s ≤ r) : ∀ (f : Nat) (acc : List Nat) (cur : Nat), Path W s acc cur → (∀ x ∈ acc, x ∈ R) → W.length < f + acc.length → go W s f acc cur ≠ none
  | 0, acc, cur, p, hR, hf => by
    have hlt : ∀ x ∈ acc, x < W.length := fun x hx => by
      obtain ⟨h, _, e, _⟩ := sh.cl x (hR x hx)
      exact at_lt e
    have := nodup_le p.nd hlt
    omega
  | f + 1, acc, cur, p, hR, hf => by
    obtain ⟨h, hh, e, hne⟩ := sh.cl cur (hR cur p.mem)
    rw [go, nxt_iff.mpr e]
    show (if h = s then some acc else if s < h ∧ h ∉ acc then go W s f (acc ++ [h]) h else none) ≠ none
    by_cases e1 : h = s
    · rw [if_pos e1]; exact fun z => nomatch z
    · rw [if_neg e1]
      have hnm : h ∉ acc := fun hm => e1 (p.back ok e hm)
      have hlt : s < h := by have := hmin h hh; omega
      rw [if_pos ⟨hlt, hnm⟩]
      refine go_shut ok sh hs hmin f (acc ++ [h]) h (p.snoc e hnm) (fun x hx => ?_) (by rw [List.length_append, List.length_singleton]; omega)
      rcases List.mem_append.mp hx with hx | hx
      · exact hR x hx
      · rw [List.mem_singleton.mp hx]; exact hh
theorem least_mem : ∀ {R : List Nat}, R ≠ [] → ∃ s ∈ R, ∀ r ∈ R, s ≤ r
  | [], h => absurd rfl h
  | [x], _ => ⟨x, by simp, by simp⟩
  | x :: y :: t, _ => by
    obtain ⟨s, hs, hm⟩ := least_mem (R := y :: t) (by simp)
    by_cases h : x ≤ s
    · refine ⟨x, by simp, fun r hr => ?_⟩
      rcases List.mem_cons.mp hr with e | e
      · omega
      · have := hm r e; omega
    · refine ⟨s, List.mem_cons_of_mem _ hs, fun r hr => ?_⟩
      rcases List.mem_cons.mp hr with e | e
      · omega
      · exact hm r e
theorem rings_of_shut {W : Ws} (ok : Ok W) {R : List Nat} (sh : Shut W R) : rings W ≠ [] := by
  obtain ⟨s, hs, hm⟩ := least_mem sh.ne
  obtain ⟨h, hh, e, hne⟩ := sh.cl s hs
  have hmv : mover W s = true := mover_iff.mpr ⟨h, e, by omega⟩
  have hg := go_shut ok sh hs hm (W.length + 1) [s] s (Path.start W s) (by simp [hs]) (by simp; omega)
  intro hr
  unfold rings at hr
  rw [List.filterMap_eq_nil_iff] at hr
  have := hr s (List.mem_range.mpr (at_lt e))
  rw [ringAt, if_pos hmv] at this
  exact hg this
/-- a ring that is found -/
structure Ring (W : Ws) (s : Nat) (R : List Nat) : Prop where
  path : ∃ cur, Path W s R cur ∧ at_ W cur = some (s : Int)
  gt : ∀ x ∈ R, s ≤ x
theorem go_ring {W : Ws} {s : Nat} : ∀ (f : Nat) (acc : List Nat) (cur : Nat) (R : List Nat), Path W s acc cur → (∀ x ∈ acc, s ≤ x) → go W s f acc cur = some R → Ring W s R
  | 0, _, _, _, _, _, h => by cases h
  | f + 1, acc, cur, R, p, hg, h => by
    rw [go] at h
    split at h
    · cases h
    · rename_i x e
      have e := nxt_iff.mp e
      split at h
      · rename_i ex
        cases h
        subst ex
        exact ⟨⟨cur, p, e⟩, hg⟩
      · split at h
        · rename_i hx
          refine go_ring f (acc ++ [x]) x R (p.snoc e hx.2) (fun y hy => ?_) h
          rcases List.mem_append.mp hy with hy | hy
          · exact hg y hy
          · rw [List.mem_singleton.mp hy]; omega
        · cases h
theorem ringAt_ring {W : Ws} {s : Nat} {R : List Nat} (h : ringAt W s = some R) : Ring W s R ∧ mover W s = true := by
  unfold ringAt at h
  split at h
  · rename_i hm
    exact ⟨go_ring _ _ _ _ (Path.start W s) (by simp) h, hm⟩
  · cases h
theorem Ring.shut {W : Ws} {s : Nat} {R : List Nat} (r : Ring W s R) (hm : mover W s = true) : Shut W R := by
  obtain ⟨cur, p, e⟩ := r.path
  have hp := p.pos
  refine ⟨fun z => by rw [z] at hp; simp at hp, fun x hx => ?_⟩
  obtain ⟨i, hi, ex⟩ := List.getElem_of_mem hx
  by_cases hl : i + 1 < R.length
  · obtain ⟨a, b, h1, h2, h3⟩ := p.st i hl
    rw [List.getElem?_eq_getElem hi, ex] at h1
    cases h1
    refine ⟨b, List.mem_of_getElem? h2, h3, fun z => ?_⟩
    subst z
    obtain ⟨hi2, e2⟩ := List.getElem?_eq_some_iff.mp h2
    have := (List.getElem_inj p.nd (h₀ := hi) (h₁ := hi2)).mp (ex.trans e2.symm)
    omega
  · have hlast : i = R.length - 1 := by omega
    have hl := p.lst
    rw [← hlast, List.getElem?_eq_getElem hi, ex] at hl
    cases hl
    refine ⟨s, List.mem_of_getElem? p.hd, e, fun z => ?_⟩
    subst z
    obtain ⟨w, hw, hne⟩ := mover_iff.mp hm
    rw [e] at hw
    cases hw
    exact hne rfl
theorem shut_of_rings {W : Ws} (h : rings W ≠ []) : ∃ R, Shut W R := by
  cases hr : rings W with
  | nil => exact absurd hr h
  | cons R t =>
    have : R ∈ rings W := by rw [hr]; exact List.mem_cons_self
    obtain ⟨s, _, e⟩ := List.mem_filterMap.mp this
    exact ⟨R, (ringAt_ring e).1.shut (ringAt_ring e).2⟩
/-- a closed set stays, and was there before -/
theorem shut_step {W : Ws} (ok : Ok W) {R : List Nat} {r : Nat} (hc : canGo W r = true) : Shut W R ↔ Shut (behind W r) R := by
  obtain ⟨w, h, hne, hg⟩ := canGo_iff.mp hc
  have e := behind_at ok h
  constructor
  · rintro ⟨h1, h2⟩
    refine ⟨h1, fun x hx => ?_⟩
    obtain ⟨y, hy, e1, e2⟩ := h2 x hx
    have nx : x ≠ r := fun z => by
      subst z
      rw [e1] at h; cases h
      obtain ⟨z, _, e3, _⟩ := h2 y hy
      rcases hg with hg | hg
      · omega
      · simp only [Int.toNat_natCast] at hg; rw [hg] at e3; cases e3
    have nw : ¬ (0 ≤ w ∧ (x : Int) = w) := fun z => by
      rcases hg with hg | hg
      · omega
      · have : w.toNat = x := by omega
        rw [this, e1] at hg; cases hg
    exact ⟨y, hy, by rw [e, if_neg nw, if_neg nx]; exact e1, e2⟩
  · rintro ⟨h1, h2⟩
    refine ⟨h1, fun x hx => ?_⟩
    obtain ⟨y, hy, e1, e2⟩ := h2 x hx
    rw [e] at e1
    split at e1
    · rename_i hw
      cases e1
      omega
    · split at e1
      · cases e1
      · exact ⟨y, hy, e1, e2⟩
theorem rings_step {W : Ws} (ok : Ok W) {r : Nat} (hc : canGo W r = true) : rings W = [] ↔ rings (behind W r) = [] := by
  constructor
  · intro h
    refine Classical.byContradiction fun z => ?_
    obtain ⟨R, sh⟩ := shut_of_rings z
    exact rings_of_shut ok ((shut_step ok hc).mpr sh) h
  · intro h
    refine Classical.byContradiction fun z => ?_
    obtain ⟨R, sh⟩ := shut_of_rings z
    exact rings_of_shut (ok.step hc) ((shut_step ok hc).mp sh) h
/-- no rings: somebody can go -/
theorem progress {W : Ws} (ok : Ok W) (hr : rings W = []) (hm : movers W ≠ []) : ∃ r, r ∈ movers W ∧ canGo W r = true := by
  refine Classical.byContradiction fun z => ?_
  have no : ∀ r ∈ movers W, canGo W r = false := fun r hr => by
    cases h : canGo W r with
    | false => rfl
    | true => exact absurd ⟨r, hr, h⟩ z
  refine rings_of_shut ok (R := movers W) ⟨hm, fun r hr => ?_⟩ hr
  obtain ⟨w, hw, hne⟩ := mover_iff.mp (List.mem_filter.mp hr).2
  have hn := no r hr
  unfold canGo at hn
  rw [hw] at hn
  simp only [Bool.and_eq_false_iff, Bool.or_eq_false_iff, decide_eq_false_iff_not] at hn
  rcases hn with hn | ⟨h0, h1⟩
  · exact absurd hne (by simpa using hn)
  · have hw0 : 0 ≤ w := by omega
    cases ht : at_ W w.toNat with
    | none => rw [ht] at h1; cases h1
    | some v =>
      have ev : w = ((w.toNat : Nat) : Int) := by omega
      refine ⟨w.toNat, List.mem_filter.mpr ⟨List.mem_range.mpr (at_lt ht), mover_iff.mpr ⟨v, ht, fun z => ?_⟩⟩, by rw [← ev]; exact hw, by omega⟩
      have := ok.inj r w.toNat w hw0 hw (by rw [ht, z, ← ev])
      omega
theorem shut_not_done {W : Ws} {R : List Nat} (sh : Shut W R) : done W = false := by
  cases h : done W with
  | false => rfl
  | true =>
    rw [done_iff] at h
    cases R with
    | nil => exact absurd rfl sh.ne
    | cons x t =>
      obtain ⟨y, _, e, hne⟩ := sh.cl x List.mem_cons_self
      have : x ∈ movers W := List.mem_filter.mpr ⟨List.mem_range.mpr (at_lt e), mover_iff.mpr ⟨y, e, by omega⟩⟩
      rw [h] at this; cases this
theorem done_rings {W : Ws} (h : done W = true) : rings W = [] := by
  refine Classical.byContradiction fun z => ?_
  obtain ⟨R, sh⟩ := shut_of_rings z
  rw [shut_not_done sh] at h; cases h
end K82

set_option maxHeartbeats 1000000
namespace K82
open Sv
open PySem (Str PyData)
local macro_rules | `(tactic| walk_at "v1") => `(tactic| first | with_reducible (first | refine sw_seq ?_ | refine sw_set ?_ | refine sw_new ?_ | refine sw_asg ?_ | refine sw_rt ?_ | refine sw_ret ?_ | refine sw_ifB ?_ | refine sw_par ?_ | refine sw_nx ?_ | refine sw_exprM ?_ | refine kw_nil ?_ | refine kw_frz ?_ | refine kw_new ?_ | refine ew_con ?_ | refine ew_bin ?_ | refine ew_un ?_ | refine ew_tup ?_ | refine ew_lst ?_ | refine ew_fn ?_ | refine ew_call ?_ | refine ew_callO ?_ | refine ew_not ?_ | refine ew_chain ?_ | refine ew_slice ?_ | refine ow_none ?_ | refine ow_some ?_ | refine tw_bl ?_ | refine tw_of ?_ | refine tw_not ?_ | refine tw_yes ?_ | refine aw_nil ?_ | refine aw_cons ?_ | refine iw_seq ?_ | refine iw_enum ?_ | refine iw_zip ?_ | refine iw_rangeI ?_ | (apply ew_andC) | (apply ew_orC) | (apply tw_andC) | (apply tw_orC) | (apply ew_lcM') | (apply ew_lc') | exact rfl | exact cut_last _ _ | exact mapI _) | ((with_reducible apply ew_var); exact rfl) | ((with_reducible apply ew_bor); exact rfl) | ((with_reducible apply ew_borO); exact rfl) | with_reducible (first | refine o_eqN ?_ | refine o_neN ?_ | refine o_ltN ?_ | refine o_gtN ?_ | refine o_leN ?_ | refine o_geN ?_ | refine o_inN ?_ | refine o_ninN ?_ | refine o_inNL ?_ | refine o_ninNL ?_ | refine o_lenTm ?_ | refine o_lenLm ?_ | refine o_addN ?_ | refine o_addN1 ?_ | refine o_subN (by first | assumption | omega) ?_ | refine o_subN1 (by first | assumption | omega) ?_ | refine o_sumI ?_ | refine o_sumTI ?_ | refine o_ix0 ?_ | refine o_ix1 ?_ | refine o_ix2 ?_ | refine o_ix3 ?_ | refine o_ixT0 ?_ ?_ | refine o_ixL0 ?_ ?_ | refine o_ixT1 ?_ ?_ | refine o_isTupT ?_ | refine o_ixTN ?_ ?_ | refine o_ixTI ?_ ?_ | refine o_ixLN ?_ ?_ | refine o_ixLI ?_ ?_ | refine o_ixTG ?_ ?_ | refine o_ixLG ?_ ?_ | refine o_ixTD0 ?_ ?_ | refine o_ixTD1 ?_ ?_ | refine o_ixTD2 ?_ ?_ | refine o_ixTD ?_ ?_ | refine o_ixLD ?_ ?_) | with_reducible (first | refine o_eqI ?_ | refine o_neI ?_ | refine o_lt ?_ | refine o_gt ?_ | refine o_le ?_ | refine o_ge ?_ | refine o_all ?_ | refine o_any ?_ | refine o_sum ?_ | refine o_addI ?_ | refine o_subI ?_ | refine o_lenT ?_ | refine o_lenL ?_ | refine o_tupL ?_ | refine o_tupT ?_ | refine o_listL ?_ | refine o_listT ?_ | refine o_negI ?_ | refine o_intI ?_ | refine o_slT ?_ | refine o_slL ?_ | refine o_revT ?_ | refine o_revL ?_ | refine x_n ?_ | refine x_int ?_ | refine x_bl ?_ | refine x_tb ?_ | refine x_itT ?_ | refine x_itL ?_ | refine x_rt ?_ | refine rngQ ?_ ?_ | refine x_trT ?_ | refine x_trL ?_ | refine x_tri ?_ | refine o_max2 ?_ | refine o_min2 ?_ | refine o_addTs ?_ ?_ | refine o_addLs ?_ ?_) | (with_reducible refine And.intro ?_ ?_) | refine dec_imp fun _ => ?_ | refine decF_imp fun _ => ?_ | with_reducible (first | refine ndF_imp fun _ => ?_ | refine ndT_imp fun _ => ?_ | refine nF_imp ?_ | refine nT_imp ?_ | refine orF_imp ?_ | refine andT_imp ?_) | refine tr_imp fun _ => ?_ | refine fa_imp fun _ => ?_ | (intro x hx; refine Exists.intro _ (And.intro rfl ?_); try (have hx := List.mem_range.mp hx)) | (refine sd_lt ?_; first | assumption | omega | (simp only [List.length_map, List.length_range, List.length_cons, List.length_nil, List.length_append, List.length_set] at *; omega)) | (refine sd_le ?_; first | assumption | omega | (simp only [List.length_map, List.length_range, List.length_cons, List.length_nil, List.length_append, List.length_set] at *; omega)))
local macro_rules | `(tactic| walk_at "v") => `(tactic| (repeat' (walk_at "v1")))
def eW : Option Int → D
  | none => .non
  | some i => .int i
abbrev tW (W : Ws) : D := .tup (W.map eW)
abbrev lW (W : Ws) : D := .lst (W.map eW)
theorem enc_W : Enc eW 0 := ⟨fun x => by cases x <;> rfl, fun x => by cases x <;> exact Nat.le_refl _, fun x y => by
  cases x <;> cases y <;> simp only [eW, D.py, PyData.eqv, reduceCtorEq, decide_false, decide_true, Option.some.injEq]
  all_goals try rfl
  all_goals try (rename_i a b; by_cases h : a = b <;> simp [h])⟩
theorem enc_tW : Enc tW 1 := enc_W.tup
section
variable {W : Ws} {r : Nat} {o : Option Int} {Q : D → Prop}
theorem getD_at : W.getD r default = at_ W r := rfl
theorem o_ixW (h : r < W.length) (q : Q (eW (at_ W r))) : OrW (ixD (.tup (W.map eW)) (.int (r : Nat))) Q := o_ixTG h q
theorem o_ixWL (h : r < W.length) (q : Q (eW (at_ W r))) : OrW (ixD (.lst (W.map eW)) (.int (r : Nat))) Q := o_ixLG h q
theorem o_isNW (q : Q (.bl o.isNone)) : OrW (opIsN2 (eW o) .non) Q := by cases o <;> exact .of rfl q
theorem o_notNW (q : Q (.bl o.isSome)) : OrW (opNotN2 (eW o) .non) Q := by cases o <;> exact .of rfl q
theorem o_eqW {i : Int} (q : Q (.bl (decide (o = some i)))) : OrW (opEq (eW o) (.int i)) Q := o_eqE (y := some i) enc_W q
theorem o_neW {i : Int} (q : Q (.bl (!decide (o = some i)))) : OrW (opNe (eW o) (.int i)) Q := o_neE (y := some i) enc_W q
theorem o_ltW {i : Int} (h : o.isSome = true) (q : Q (.bl (decide (o.getD 0 < i)))) : OrW (opLt (eW o) (.int i)) Q := by
  cases o with
  | none => cases h
  | some w => exact o_lt q
theorem o_geW {i : Int} (h : o.isSome = true) (q : Q (.bl (decide (i ≤ o.getD 0)))) : OrW (opGe (eW o) (.int i)) Q := by
  cases o with
  | none => cases h
  | some w => exact o_ge q
theorem o_gtW {i : Int} (h : o.isSome = true) (q : Q (.bl (decide (i < o.getD 0)))) : OrW (opGt (eW o) (.int i)) Q := by
  cases o with
  | none => cases h
  | some w => exact o_gt q
theorem o_ixWW (h : o.isSome = true) (h0 : 0 ≤ o.getD 0 ∧ o.getD 0 < W.length) (q : Q (eW (at_ W (o.getD 0).toNat))) : OrW (ixD (.tup (W.map eW)) (eW o)) Q := by
  cases o with
  | none => cases h
  | some w =>
    simp only [Option.getD_some] at h0 q
    have e : w = ((w.toNat : Nat) : Int) := by omega
    show OrW (ixD (.tup (W.map eW)) (.int w)) Q
    rw [e]
    exact o_ixW (by omega) (by simpa using q)
end
local macro_rules | `(tactic| walk_at "v1") => `(tactic| with_reducible (first | refine o_ixW ?_ ?_ | refine o_ixWL ?_ ?_ | refine o_isNW ?_ | refine o_notNW ?_ | refine o_eqW ?_ | refine o_neW ?_ | refine o_ltW ?_ ?_ | refine o_geW ?_ ?_ | refine o_gtW ?_ ?_ | refine o_ixWW ?_ ?_ ?_))
theorem w_movers {W : Ws} {Q : D → Prop} (q : Q (lN (movers W))) : Fw f_movers [tW W] Q := by
  refine fw_rt ?_
  refine sw_rt ?_
  refine ew_lc (List.range W.length) (fun k => .tup [nE k, eW (W.getD k default)]) (mover W) nE ?_ ?_ q
  · walk_at "v"
    exact enumD_range default eW W
  · intro k hk
    refine ⟨_, rfl, ?_⟩
    walk_at "v"
    rw [getD_at, mover]
    cases at_ W k with
    | none => rfl
    | some w => by_cases h : w = (k : Int) <;> simp [h]
theorem canGo_alt (W : Ws) (k : Nat) : ((at_ W k).isSome && (!decide (at_ W k = some (k : Int)) && (decide ((at_ W k).getD 0 < 0) || (at_ W ((at_ W k).getD 0).toNat).isNone))) = canGo W k := by
  unfold canGo
  cases at_ W k with
  | none => rfl
  | some w => by_cases h : w = (k : Int) <;> simp [h]
theorem w_can_go {W : Ws} {r : Nat} {Q : D → Prop} (ok : Ok W) (hr : r < W.length) (q : Q (.bl (canGo W r))) : Fw f_can_go [tW W, nE r] Q := by
  refine fw_rt ?_
  cases h : at_ W r with
  | none =>
    walk_at "v"
    all_goals try (rw [h] at *; contradiction)
    rw [← canGo_alt, h] at q
    rw [h]; exact q
  | some w =>
    have hb := ok.bd r w h
    walk_at "v"
    all_goals try (rw [h] at *; simp at *; omega)
    · rw [h]; rfl
    · rw [h]; rfl
    · rw [← canGo_alt] at q; exact q
theorem w_behind {W : Ws} {r : Nat} {w : Int} {Q : D → Prop} (ok : Ok W) (h : at_ W r = some w) (q : Q (tW (behind W r))) : Fw f_behind_going [tW W, nE r] Q := by
  have hr := at_lt h
  have hb := ok.bd r w h
  unfold behind at q
  rw [h] at q
  refine fw_rt ?_
  walk_at "v"
  rw [h]
  refine sw_store' (e := eW) (xs := W) rfl (ew_con ⟨none, rfl, ?_⟩)
  walk_at "v"
  · rfl
  refine brD (fun (h0 : 0 ≤ w) => ?_) fun (h0 : ¬ 0 ≤ w) => ?_
  · refine sw_store' (e := eW) (xs := W.set r none) rfl (ew_var rfl ⟨some w, rfl, ew_var rfl ⟨w.toNat, ?_, ?_, ?_⟩⟩)
    · show D.int w = _
      rw [nE, Int.toNat_of_nonneg h0]
    · rw [List.length_set]; omega
    · walk_at "v"
      simp only [h0, if_true] at q
      exact q
  · walk_at "v"
    simp only [h0, if_false] at q
    exact q
theorem w_lsteps {W : Ws} {Q : D → Prop} (ok : Ok W) (hl : W.length ≤ 1000) (q : Q (lN ((List.range W.length).filter (canGo W)))) : Fw f_law_steps [tW W] Q := by
  refine fw_rt ?_
  refine sw_rt ?_
  refine ew_lc (List.range W.length) nE (canGo W) nE ?_ ?_ q
  · walk_at "v"
  · intro k hk
    have hk := List.mem_range.mp hk
    refine ⟨_, rfl, ?_⟩
    cases h : at_ W k with
    | none =>
      walk_at "v"
      all_goals try (rw [h] at *; contradiction)
      unfold canGo
      rw [h]; rfl
    | some w =>
      have hb := ok.bd k w h
      walk_at "v"
      all_goals try (rw [h] at *; simp at *; omega)
      · rw [h]; rfl
      · rw [← canGo_alt, h]
        have : decide (some w = some (-1)) = decide (w < 0) := by
          simp only [Option.some.injEq]; exact decide_eq_decide.mpr (by omega)
        rw [this]; rfl
theorem w_lbehind {W : Ws} {r : Nat} {w : Int} {Q : D → Prop} (ok : Ok W) (h : at_ W r = some w) (q : Q (tW (behind W r))) : Fw f_law_behind [tW W, nE r] Q := by
  have hr := at_lt h
  have hb := ok.bd r w h
  unfold behind at q
  rw [h] at q
  refine fw_rt ?_
  walk_at "v"
  refine sw_pq2 (e := eW) (xs := W) (y := none) (v := eW (some w)) ?_ (ew_con rfl) (by decide) rfl (k := r) ?_ hr ?_
  · walk_at "v"
    rw [h]
  · walk_at "v"
  walk_at "v"
  · rfl
  refine brD (fun (h0 : 0 ≤ w) => ?_) fun (h0 : ¬ 0 ≤ w) => ?_
  · refine sw_store' (e := eW) (xs := W.set r none) rfl (ew_var rfl ⟨some w, rfl, ew_var rfl ⟨w.toNat, ?_, ?_, ?_⟩⟩)
    · show D.int w = _
      rw [nE, Int.toNat_of_nonneg h0]
    · rw [List.length_set]; omega
    · walk_at "v"
      simp only [h0, if_true] at q
      exact q
  · walk_at "v"
    simp only [h0, if_false] at q
    exact q
theorem w_ldone {W : Ws} {Q : D → Prop} (q : Q (.bl (done W))) : Fw f_law_done [tW W] Q := by
  refine fw_rt ?_
  refine sw_rt ?_
  refine ew_fn (aw_cons (ew_lcM (List.range W.length) (fun k => .tup [nE k, eW (W.getD k default)]) (fun k => .bl ((at_ W k).isNone || decide (at_ W k = some (k : Int)))) ?_ ?_ ?_))
  · walk_at "v"
    exact enumD_range default eW W
  · intro k hk
    refine ⟨_, rfl, ?_⟩
    walk_at "v"
    rfl
  · walk_at "v"
    unfold done at q
    exact q
abbrev tR (rs : List (List Nat)) : D := .tup (rs.map tN)
abbrev lR (rs : List (List Nat)) : D := .lst (rs.map tN)
theorem o_ninWN {W : Ws} {Q : D → Prop} (q : Q (.bl (!decide (none ∈ W)))) : OrW (opNotIn .non (.tup (W.map eW))) Q := o_ninT (x := none) enc_W (by by_cases h : none ∈ W <;> simpa [h] using q)
theorem o_ninWI {W : Ws} {i : Int} {Q : D → Prop} (q : Q (.bl (!decide (some i ∈ W)))) : OrW (opNotIn (.int i) (.tup (W.map eW))) Q := o_ninT (x := some i) enc_W (by by_cases h : some i ∈ W <;> simpa [h] using q)
theorem o_ninWo {o : Option Int} {xs : List Nat} {Q : D → Prop} (hs : o.isSome = true) (h0 : 0 ≤ o.getD 0) (q : Q (.bl (!decide ((o.getD 0).toNat ∈ xs)))) : OrW (opNotIn (eW o) (lN xs)) Q := by
  cases o with
  | none => cases hs
  | some w =>
    have h0 : 0 ≤ w := h0
    have e : (eW (some w)) = nE w.toNat := by show D.int w = .int _; rw [Int.toNat_of_nonneg h0]
    rw [e]
    exact o_ninNL q
theorem o_ixWX {W : Ws} {k : Nat} {Q : D → Prop} (h : k < W.length) (q : Q (eW (at_ W k))) : OrW (ixD (.tup (W.map eW)) (eW (some (k : Int)))) Q := o_ixW h q
theorem sd_some {o : Option Int} (h : o.isSome = true) : o.isSome = true := h
theorem sd_ge {i : Int} (h : 0 ≤ i) : 0 ≤ i := h
local macro_rules | `(tactic| walk_at "v1") => `(tactic| (refine sd_some ?_; assumption))
local macro_rules | `(tactic| walk_at "v1") => `(tactic| (with_reducible refine sd_ge ?_; omega))
local macro_rules | `(tactic| walk_at "v1") => `(tactic| with_reducible (first | refine o_ninWo ?_ ?_ ?_ | refine o_ixWX ?_ ?_))
local macro_rules | `(tactic| walk_at "v1") => `(tactic| with_reducible (first | refine o_ninWN ?_ | refine o_ninWI ?_))
/-- the way round as the program goes it -/
theorem go_stop {W : Ws} {s f cur : Nat} {acc : List Nat} (h : ¬ (∃ x : Nat, at_ W cur = some (x : Int) ∧ s < x ∧ x ∉ acc)) : go W s (f + 1) acc cur = if at_ W cur = some (s : Int) then some acc else none := by
  rw [go]
  cases e : nxt W cur with
  | none =>
    have : ¬ at_ W cur = some (s : Int) := fun z => by rw [nxt_iff.mpr z] at e; cases e
    rw [if_neg this]
  | some x =>
    have ex := nxt_iff.mp e
    show (if x = s then some acc else if s < x ∧ x ∉ acc then go W s f (acc ++ [x]) x else none) = _
    by_cases h1 : x = s
    · subst h1
      rw [if_pos rfl, if_pos ex]
    · rw [if_neg h1, if_neg (fun z => h ⟨x, ex, z⟩), if_neg (fun z => h1 (by rw [ex] at z; simp at z; omega))]
theorem go_on {W : Ws} {s f cur x : Nat} {acc : List Nat} (ex : at_ W cur = some (x : Int)) (h1 : s < x) (h2 : x ∉ acc) : go W s (f + 1) acc cur = go W s f (acc ++ [x]) x := by
  rw [go, nxt_iff.mpr ex]
  show (if x = s then some acc else if s < x ∧ x ∉ acc then go W s f (acc ++ [x]) x else none) = _
  rw [if_neg (by omega), if_pos ⟨h1, h2⟩]
theorem Path.lt {W : Ws} {s cur : Nat} {acc : List Nat} (p : Path W s acc cur) (h : ∀ x ∈ acc, x < W.length) : acc.length ≤ W.length := nodup_le p.nd h
theorem w_rings_of {W : Ws} {Q : D → Prop} (ok : Ok W) (hl : W.length ≤ 1000) (q : Q (tR (rings W))) : Fw f_rings_of [tW W] Q := by
  refine fw_rt ?_
  refine sw_seq (sw_new (ew_lst (aw_nil ?_)))
  refine sw_seq (sw_forP (movers W) nE (fun pre ρ => ∃ x2 x3 x4 : Sl, ρ = [Sl.frz (tW W), .own (lR (pre.filterMap (ringAt W))), x2, x3, x4]) ?_ ⟨.emp, .emp, .emp, rfl⟩ ?_ ?_)
  · walk_at "v"
    refine w_movers ?_
    walk_at "v"
  · rintro pre s post _ hx ⟨x2, x3, x4, rfl⟩
    have hs : s ∈ movers W := by rw [hx]; simp
    have hs1 := List.mem_range.mp (List.mem_filter.mp hs).1
    have hs2 := (List.mem_filter.mp hs).2
    refine ⟨_, rfl, ?_⟩
    walk_at "v"
    refine sw_wh (W.length + 2) (fun f ρ => ∃ (acc : List Nat) (cur : Nat), ρ = [Sl.frz (tW W), .own (lR (pre.filterMap (ringAt W))), .frz (nE s), .own (lN acc), .frz (eW (at_ W cur))] ∧ Path W s acc cur ∧ (∀ x ∈ acc, x < W.length) ∧ acc.length + f = W.length + 3 ∧ go W s (W.length + 1) [s] s = go W s (f - 1) acc cur) (by omega) ⟨[s], s, rfl, Path.start W s, by simp [hs1], by simp; omega, rfl⟩ ?_
    rintro f _ ⟨acc, cur, rfl, hp, hlt, hf, hgo⟩
    have hal := hp.lt hlt
    obtain ⟨f, rfl⟩ : ∃ g, f = g + 2 := ⟨f - 2, by omega⟩
    rw [show f + 2 - 1 = f + 1 from rfl] at hgo
    have ra : ringAt W s = go W s (W.length + 1) [s] s := by rw [ringAt, if_pos hs2]
    walk_at "v"
    · rename_i hk
      have hno : ¬ (∃ x : Nat, at_ W cur = some (x : Int) ∧ s < x ∧ x ∉ acc) := by
        rintro ⟨x, e, h1, h2⟩
        rw [e] at hk
        simp [h2] at hk
        omega
      rw [go_stop hno, ← ra] at hgo
      refine brD (fun h => ?_) fun h => ?_
      · rw [if_pos h] at hgo
        refine sw_exprM (mw_app (e := tN) (xs := pre.filterMap (ringAt W)) rfl ?_ ?_)
        · have := List.length_filterMap_le (ringAt W) pre
          have h3 : pre.length ≤ (movers W).length := by rw [hx]; simp
          have h4 : (movers W).length ≤ W.length := by
            have := List.length_filter_le (mover W) (List.range W.length)
            rwa [List.length_range] at this
          omega
        · walk_at "v"
          have e1 : (pre ++ [s]).filterMap (ringAt W) = pre.filterMap (ringAt W) ++ [acc] := by
            rw [List.filterMap_append, List.filterMap_cons, hgo]; rfl
          exact ⟨acc, rfl, _, _, _, by rw [e1]; rfl⟩
      · rw [if_neg h] at hgo
        have e1 : (pre ++ [s]).filterMap (ringAt W) = pre.filterMap (ringAt W) := by
          rw [List.filterMap_append, List.filterMap_cons, hgo]; exact List.append_nil _
        exact sw_nx ⟨_, _, _, by rw [e1]⟩
    · rename_i k3 k1 k2
      obtain ⟨x, ex, h1, h2⟩ : ∃ x : Nat, at_ W cur = some (x : Int) ∧ s < x ∧ x ∉ acc := by
        cases e : at_ W cur with
        | none => rw [e] at k3; cases k3
        | some w =>
          rw [e] at k1 k2
          simp only [Option.getD_some] at k1 k2
          exact ⟨w.toNat, by rw [Int.toNat_of_nonneg (by omega)], by omega, k2⟩
      have hxl : x < W.length := by have := ok.bd _ _ ex; omega
      rw [go_on ex h1 h2] at hgo
      rw [ex]
      refine mw_app (e := nE) (xs := acc) rfl (by omega) (ew_var (d := nE x) rfl ⟨x, rfl, ?_⟩)
      walk_at "v"
      refine ⟨f + 1, by omega, acc ++ [x], x, rfl, hp.snoc ex h2, ?_, ?_, hgo⟩
      · intro y hy
        rcases List.mem_append.mp hy with hy | hy
        · exact hlt y hy
        · rw [List.mem_singleton.mp hy]; exact hxl
      · rw [List.length_append, List.length_singleton]; omega
  · rintro _ ⟨x2, x3, x4, rfl⟩
    walk_at "v"
    rw [rings_eq]
    exact q
/-! ### going -/
def first (W : Ws) : Nat := ((movers W).filter (canGo W)).getD 0 default
def order : Nat → Ws → List Nat
  | 0, _ => []
  | n + 1, W => first W :: order n (behind W (first W))
theorem first_ok {W : Ws} (ok : Ok W) (hr : rings W = []) (hm : movers W ≠ []) : canGo W (first W) = true ∧ 0 < ((movers W).filter (canGo W)).length := by
  obtain ⟨r, h1, h2⟩ := progress ok hr hm
  have hp : 0 < ((movers W).filter (canGo W)).length := List.length_pos_of_mem (List.mem_filter.mpr ⟨h1, h2⟩)
  refine ⟨?_, hp⟩
  have : first W ∈ (movers W).filter (canGo W) := by
    unfold first
    rw [getD_eq default hp]
    exact List.getElem_mem hp
  exact (List.mem_filter.mp this).2
theorem order_length : ∀ (n : Nat) (W : Ws), (order n W).length = n
  | 0, _ => rfl
  | n + 1, W => by rw [order, List.length_cons, order_length n]
theorem movers_le (W : Ws) : (movers W).length ≤ W.length := by
  have := List.length_filter_le (mover W) (List.range W.length)
  rwa [List.length_range] at this
def eGo (W : Ws) : D := if rings W = [] then .tup [.str "order", tN (order (movers W).length W)] else .tup [.str "rings", tR (rings W)]
theorem w_going {W : Ws} {Q : D → Prop} (ok : Ok W) (hl : W.length ≤ 1000) (q : Q (eGo W)) : Fw f_going [tW W] Q := by
  refine fw_rt ?_
  walk_at "v"
  refine w_rings_of ok hl ?_
  walk_at "v"
  refine br (fun h => ?_) fun h => ?_
  · have hr : rings W ≠ [] := fun e => by rw [e] at h; cases h
    rw [eGo, if_neg hr] at q
    walk_at "v"
    exact q
  · have hr : rings W = [] := by cases hx : rings W with
      | nil => rfl
      | cons a b => rw [hx] at h; cases h
    rw [eGo, if_pos hr] at q
    have hml := movers_le W
    walk_at "v"
    refine sw_wh (movers W).length (fun m ρ => ∃ (acc : List Nat) (H : Ws) (x4 : Sl), ρ = [Sl.frz (tW W), .frz (tR (rings W)), .own (lN acc), .frz (tW H), x4] ∧ Ok H ∧ H.length = W.length ∧ rings H = [] ∧ (movers H).length = m ∧ order (movers W).length W = acc ++ order m H) (by omega) ⟨[], W, .emp, rfl, ok, rfl, hr, rfl, rfl⟩ ?_
    rintro m _ ⟨acc, H, x4, rfl, okH, hH, hrH, hm, ho⟩
    walk_at "v"
    refine w_movers ?_
    walk_at "v"
    · rename_i hk
      have h0 : movers H = [] := by cases hx : movers H with
        | nil => rfl
        | cons a b => rw [hx] at hk; cases hk
      have hm0 : m = 0 := by rw [h0] at hm; exact hm.symm
      rw [hm0, order, List.append_nil] at ho
      rw [← ho]
      exact q
    · rename_i hk
      have h0 : movers H ≠ [] := fun e => by rw [e] at hk; cases hk
      obtain ⟨hf, hp⟩ := first_ok okH hrH h0
      refine w_movers ?_
      walk_at "v"
    · rename_i hk r hr
      refine w_can_go okH (List.mem_range.mp (List.mem_filter.mp hr).1) ?_
      walk_at "v"
    · rename_i hk
      have h0 : movers H ≠ [] := fun e => by rw [e] at hk; cases hk
      obtain ⟨hf, hp⟩ := first_ok okH hrH h0
      obtain ⟨w, hw, _⟩ := canGo_iff.mp hf
      obtain ⟨m, rfl⟩ : ∃ k, m = k + 1 := ⟨m - 1, by have := List.length_pos_iff.mpr h0; omega⟩
      have hal : acc.length + (m + 1) = (movers W).length := by
        have := congrArg List.length ho
        rw [List.length_append, order_length, order_length] at this
        omega
      walk_at "v"
      refine mw_app (e := nE) (xs := acc) rfl (by omega) (ew_var (d := nE (first H)) rfl ⟨first H, rfl, ?_⟩)
      walk_at "v"
      refine w_behind okH hw ?_
      refine ⟨m, by omega, acc ++ [first H], behind H (first H), _, rfl, okH.step hf, by rw [behind_len]; exact hH, (rings_step okH hf).mp hrH, ?_, ?_⟩
      · have := movers_len okH hf
        omega
      · rw [ho, order, List.append_assoc]; rfl
theorem w_least {W : Ws} {Q : D → Prop} (ok : Ok W) (hl : W.length ≤ 1000) (q : Q (if (rings W ≠ [] ∧ none ∉ W ∧ some (-1) ∉ W) then .non else nE ((movers W).length + (rings W).length))) : Fw f_least_goings [tW W] Q := by
  refine fw_rt ?_
  walk_at "v"
  refine w_rings_of ok hl ?_
  walk_at "v"
  refine br (fun h => ?_) fun h => ?_
  · rw [if_pos (by
      simp at h
      exact ⟨h.1, h.2.1, h.2.2⟩)] at q
    walk_at "v"
    exact q
  · rw [if_neg (by
      simp at h
      intro z
      exact z.2.2 (h z.1 z.2.1))] at q
    walk_at "v"
    refine w_movers ?_
    walk_at "v"
    exact q
end K82

set_option maxHeartbeats 1000000
namespace K82
open Sv
open PySem (Str PyData)
local macro_rules | `(tactic| walk_at "v1") => `(tactic| first | with_reducible (first | refine sw_seq ?_ | refine sw_set ?_ | refine sw_new ?_ | refine sw_asg ?_ | refine sw_rt ?_ | refine sw_ret ?_ | refine sw_ifB ?_ | refine sw_par ?_ | refine sw_nx ?_ | refine sw_exprM ?_ | refine kw_nil ?_ | refine kw_frz ?_ | refine kw_new ?_ | refine ew_con ?_ | refine ew_bin ?_ | refine ew_un ?_ | refine ew_tup ?_ | refine ew_lst ?_ | refine ew_fn ?_ | refine ew_call ?_ | refine ew_callO ?_ | refine ew_not ?_ | refine ew_chain ?_ | refine ew_slice ?_ | refine ow_none ?_ | refine ow_some ?_ | refine tw_bl ?_ | refine tw_of ?_ | refine tw_not ?_ | refine tw_yes ?_ | refine aw_nil ?_ | refine aw_cons ?_ | refine iw_seq ?_ | refine iw_enum ?_ | refine iw_zip ?_ | refine iw_rangeI ?_ | (apply ew_andC) | (apply ew_orC) | (apply tw_andC) | (apply tw_orC) | (apply ew_lcM') | (apply ew_lc') | exact rfl | exact cut_last _ _ | exact mapI _) | ((with_reducible apply ew_var); exact rfl) | ((with_reducible apply ew_bor); exact rfl) | ((with_reducible apply ew_borO); exact rfl) | with_reducible (first | refine o_eqN ?_ | refine o_neN ?_ | refine o_ltN ?_ | refine o_gtN ?_ | refine o_leN ?_ | refine o_geN ?_ | refine o_inN ?_ | refine o_ninN ?_ | refine o_inNL ?_ | refine o_ninNL ?_ | refine o_lenTm ?_ | refine o_lenLm ?_ | refine o_addN ?_ | refine o_addN1 ?_ | refine o_subN (by first | assumption | omega) ?_ | refine o_subN1 (by first | assumption | omega) ?_ | refine o_sumI ?_ | refine o_sumTI ?_ | refine o_ix0 ?_ | refine o_ix1 ?_ | refine o_ix2 ?_ | refine o_ix3 ?_ | refine o_ixT0 ?_ ?_ | refine o_ixL0 ?_ ?_ | refine o_ixT1 ?_ ?_ | refine o_isTupT ?_ | refine o_ixTN ?_ ?_ | refine o_ixTI ?_ ?_ | refine o_ixLN ?_ ?_ | refine o_ixLI ?_ ?_ | refine o_ixTG ?_ ?_ | refine o_ixLG ?_ ?_ | refine o_ixTD0 ?_ ?_ | refine o_ixTD1 ?_ ?_ | refine o_ixTD2 ?_ ?_ | refine o_ixTD ?_ ?_ | refine o_ixLD ?_ ?_) | with_reducible (first | refine o_eqI ?_ | refine o_neI ?_ | refine o_lt ?_ | refine o_gt ?_ | refine o_le ?_ | refine o_ge ?_ | refine o_all ?_ | refine o_any ?_ | refine o_sum ?_ | refine o_addI ?_ | refine o_subI ?_ | refine o_lenT ?_ | refine o_lenL ?_ | refine o_tupL ?_ | refine o_tupT ?_ | refine o_listL ?_ | refine o_listT ?_ | refine o_negI ?_ | refine o_intI ?_ | refine o_slT ?_ | refine o_slL ?_ | refine o_revT ?_ | refine o_revL ?_ | refine x_n ?_ | refine x_int ?_ | refine x_bl ?_ | refine x_tb ?_ | refine x_itT ?_ | refine x_itL ?_ | refine x_rt ?_ | refine rngQ ?_ ?_ | refine x_trT ?_ | refine x_trL ?_ | refine x_tri ?_ | refine o_max2 ?_ | refine o_min2 ?_ | refine o_addTs ?_ ?_ | refine o_addLs ?_ ?_) | (with_reducible refine And.intro ?_ ?_) | refine dec_imp fun _ => ?_ | refine decF_imp fun _ => ?_ | with_reducible (first | refine ndF_imp fun _ => ?_ | refine ndT_imp fun _ => ?_ | refine nF_imp ?_ | refine nT_imp ?_ | refine orF_imp ?_ | refine andT_imp ?_) | refine tr_imp fun _ => ?_ | refine fa_imp fun _ => ?_ | (intro x hx; refine Exists.intro _ (And.intro rfl ?_); try (have hx := List.mem_range.mp hx)) | (refine sd_lt ?_; first | assumption | omega | (simp only [List.length_map, List.length_range, List.length_cons, List.length_nil, List.length_append, List.length_set] at *; omega)) | (refine sd_le ?_; first | assumption | omega | (simp only [List.length_map, List.length_range, List.length_cons, List.length_nil, List.length_append, List.length_set] at *; omega)))
local macro_rules | `(tactic| walk_at "v") => `(tactic| (repeat' (walk_at "v1")))
local macro_rules | `(tactic| walk_at "v1") => `(tactic| with_reducible (first | refine o_ixW ?_ ?_ | refine o_ixWL ?_ ?_ | refine o_isNW ?_ | refine o_notNW ?_ | refine o_eqW ?_ | refine o_neW ?_ | refine o_ltW ?_ ?_ | refine o_geW ?_ ?_ | refine o_gtW ?_ ?_ | refine o_ixWW ?_ ?_ ?_))
local macro_rules | `(tactic| walk_at "v1") => `(tactic| (refine sd_some ?_; assumption))
local macro_rules | `(tactic| walk_at "v1") => `(tactic| (with_reducible refine sd_ge ?_; omega))
local macro_rules | `(tactic| walk_at "v1") => `(tactic| with_reducible (first | refine o_ninWo ?_ ?_ ?_ | refine o_ixWX ?_ ?_))
local macro_rules | `(tactic| walk_at "v1") => `(tactic| with_reducible (first | refine o_ninWN ?_ | refine o_ninWI ?_))
/-! ### the law's search of all orders -/
def cands : Nat → Ws → List Ws
  | _, [] => [[]]
  | j, o :: W => (cands (j + 1) W).flatMap fun k => [o :: k, none :: k, some (j : Int) :: k]
theorem cands_length : ∀ (W : Ws) (j : Nat), (cands j W).length = 3 ^ W.length
  | [], _ => rfl
  | o :: W, j => by
    have : ∀ xs : List Ws, (xs.flatMap fun k => [o :: k, none :: k, some (j : Int) :: k]).length = 3 * xs.length := fun xs => by
      induction xs with
      | nil => rfl
      | cons x xs ih => rw [List.flatMap_cons, List.length_append, ih, List.length_cons]; simp; omega
    rw [cands, this, cands_length W, List.length_cons, Nat.pow_succ]; omega
theorem cands_mem : ∀ (W k : Ws) (j : Nat), k.length = W.length → (∀ i, i < W.length → at_ k i = at_ W i ∨ at_ k i = none ∨ at_ k i = some ((j + i : Nat) : Int)) → k ∈ cands j W
  | [], k, j, h, _ => by
    have : k = [] := List.length_eq_zero_iff.mp h
    subst this; simp [cands]
  | o :: W, [], j, h, _ => by cases h
  | o :: W, a :: k, j, h, hi => by
    rw [cands, List.mem_flatMap]
    refine ⟨k, cands_mem W k (j + 1) (by simpa using h) fun i hl => ?_, ?_⟩
    · have := hi (i + 1) (by simp; omega)
      rw [show j + (i + 1) = j + 1 + i by omega] at this
      exact this
    · have := hi 0 (by simp)
      simp only [at_, List.getD_cons_zero, Nat.add_zero] at this
      rcases this with e | e | e <;> rw [e] <;> simp
def Kin (W k : Ws) : Prop := Ok k ∧ k.length = W.length ∧ (rings k = [] ↔ rings W = []) ∧ ∀ i, i < W.length → at_ k i = at_ W i ∨ at_ k i = none ∨ at_ k i = some (i : Int)
theorem Kin.step {W k : Ws} (h : Kin W k) {r : Nat} (hc : canGo k r = true) : Kin W (behind k r) := by
  obtain ⟨ok, hl, hr, hs⟩ := h
  obtain ⟨w, hw, _⟩ := canGo_iff.mp hc
  refine ⟨ok.step hc, by rw [behind_len, hl], (rings_step ok hc).symm.trans hr, fun i hi => ?_⟩
  rw [behind_at ok hw]
  split
  · rename_i h1
    exact .inr (.inr (by rw [← h1.2]))
  · split
    · exact .inr (.inl rfl)
    · exact hs i hi
structure Dfs (W : Ws) (stack seen : List Ws) (P : Ws → Prop) : Prop where
  nd : seen.Nodup
  sub : ∀ k ∈ stack, k ∈ seen
  kin : ∀ k ∈ seen, Kin W k
  st : W ∈ seen
  cl : ∀ k ∈ seen, k ∈ stack ∨ P k ∨ (done k = false ∧ ∀ r, canGo k r = true → behind k r ∈ seen)
theorem Dfs.le {W : Ws} {stack seen : List Ws} {P : Ws → Prop} (h : Dfs W stack seen P) : seen.length ≤ 3 ^ W.length := by
  have := nodup_sub seen (cands 0 W) h.nd fun k hk => by
    obtain ⟨_, hl, _, hs⟩ := h.kin k hk
    exact cands_mem W k 0 hl fun i hi => by rw [Nat.zero_add]; exact hs i hi
  rwa [cands_length] at this
theorem Dfs.start {W : Ws} (ok : Ok W) (P : Ws → Prop) : Dfs W [W] [W] P := ⟨by simp, by simp, fun k hk => by rw [List.mem_singleton.mp hk]; exact ⟨ok, rfl, Iff.rfl, fun _ _ => .inl rfl⟩, by simp, fun k hk => .inl hk⟩
theorem Dfs.empty {W : Ws} {seen : List Ws} (h : Dfs W [] seen fun _ => False) : rings W ≠ [] := by
  intro hr
  have go : ∀ (n : Nat) (k : Ws), k ∈ seen → (movers k).length = n → False := by
    intro n
    induction n with
    | zero =>
      intro k hk hm
      rcases h.cl k hk with h1 | h1 | h1
      · cases h1
      · exact h1
      · have : done k = true := done_iff.mpr (List.length_eq_zero_iff.mp hm)
        rw [h1.1] at this; cases this
    | succ n ih =>
      intro k hk hm
      have kin := h.kin k hk
      rcases h.cl k hk with h1 | h1 | h1
      · cases h1
      · exact h1
      · obtain ⟨r, _, hg⟩ := progress kin.1 (kin.2.2.1.mpr hr) (fun e => by rw [e] at hm; cases hm)
        have := movers_len kin.1 hg
        exact ih _ (h1.2 r hg) (by omega)
  exact go _ W h.st rfl
theorem Dfs.pop {W k : Ws} {stack seen : List Ws} (h : Dfs W (stack ++ [k]) seen fun _ => False) (hd : done k = false) : Dfs W stack seen fun x => x = k ∧ ∀ r ∈ ([] : List Nat), behind k r ∈ seen :=
  ⟨h.nd, fun x hx => h.sub x (List.mem_append.mpr (.inl hx)), h.kin, h.st, fun x hx => by
    rcases h.cl x hx with h1 | h1 | h1
    · rcases List.mem_append.mp h1 with h1 | h1
      · exact .inl h1
      · exact .inr (.inl ⟨List.mem_singleton.mp h1, fun _ z => by cases z⟩)
    · exact absurd h1 id
    · exact .inr (.inr h1)⟩
theorem Dfs.old {W k : Ws} {stack seen : List Ws} {pre : List Nat} {r : Nat} (h : Dfs W stack seen fun x => x = k ∧ ∀ r ∈ pre, behind k r ∈ seen) (hin : behind k r ∈ seen) : Dfs W stack seen fun x => x = k ∧ ∀ s ∈ pre ++ [r], behind k s ∈ seen :=
  ⟨h.nd, h.sub, h.kin, h.st, fun x hx => by
    rcases h.cl x hx with h1 | h1 | h1
    · exact .inl h1
    · refine .inr (.inl ⟨h1.1, fun s hs => ?_⟩)
      rcases List.mem_append.mp hs with hs | hs
      · exact h1.2 s hs
      · rw [List.mem_singleton.mp hs]; exact hin
    · exact .inr (.inr h1)⟩
theorem Dfs.new {W k : Ws} {stack seen : List Ws} {pre : List Nat} {r : Nat} (h : Dfs W stack seen fun x => x = k ∧ ∀ r ∈ pre, behind k r ∈ seen) (hk : k ∈ seen) (hc : canGo k r = true) (hin : behind k r ∉ seen) : Dfs W (stack ++ [behind k r]) (seen ++ [behind k r]) fun x => x = k ∧ ∀ s ∈ pre ++ [r], behind k s ∈ seen ++ [behind k r] :=
  ⟨by
    rw [List.nodup_append]
    exact ⟨h.nd, by simp, fun a ha b hb => by rw [List.mem_singleton.mp hb]; exact fun e => hin (e ▸ ha)⟩,
  fun x hx => by
    rcases List.mem_append.mp hx with hx | hx
    · exact List.mem_append.mpr (.inl (h.sub x hx))
    · exact List.mem_append.mpr (.inr hx),
  fun x hx => by
    rcases List.mem_append.mp hx with hx | hx
    · exact h.kin x hx
    · rw [List.mem_singleton.mp hx]; exact (h.kin k hk).step hc,
  List.mem_append.mpr (.inl h.st),
  fun x hx => by
    rcases List.mem_append.mp hx with hx | hx
    · rcases h.cl x hx with h1 | h1 | h1
      · exact .inl (List.mem_append.mpr (.inl h1))
      · refine .inr (.inl ⟨h1.1, fun s hs => ?_⟩)
        rcases List.mem_append.mp hs with hs | hs
        · exact List.mem_append.mpr (.inl (h1.2 s hs))
        · rw [List.mem_singleton.mp hs]; exact List.mem_append.mpr (.inr (by simp))
      · exact .inr (.inr ⟨h1.1, fun s hs => List.mem_append.mpr (.inl (h1.2 s hs))⟩)
    · exact .inl (List.mem_append.mpr (.inr hx))⟩
theorem Dfs.end {W k : Ws} {stack seen : List Ws} (h : Dfs W stack seen fun x => x = k ∧ ∀ r ∈ (List.range k.length).filter (canGo k), behind k r ∈ seen) (hd : done k = false) : Dfs W stack seen fun _ => False :=
  ⟨h.nd, h.sub, h.kin, h.st, fun x hx => by
    rcases h.cl x hx with h1 | h1 | h1
    · exact .inl h1
    · obtain ⟨rfl, h1⟩ := h1
      refine .inr (.inr ⟨hd, fun r hr => h1 r (List.mem_filter.mpr ⟨?_, hr⟩)⟩)
      obtain ⟨w, hw, _⟩ := canGo_iff.mp hr
      exact List.mem_range.mpr (at_lt hw)
    · exact .inr (.inr h1)⟩
theorem key_tW : KeyE tW := ⟨fun x y h => by
  have := (enc_tW.eqv x y).symm
  have h2 : PyData.eqv (tW x).py (tW y).py = true := by rw [h, enc_tW.eqv]; simp
  rw [h2] at this
  exact of_decide_eq_true this, fun x => by
  show (D.kokL (x.map eW) && decide (D.depL (x.map eW) ≤ 7)) = true
  have h1 : D.kokL (x.map eW) = true := by
    induction x with
    | nil => rfl
    | cons a x ih => rw [List.map_cons, D.kokL, ih]; cases a <;> rfl
  have h2 : D.depL (x.map eW) ≤ 7 := by
    refine depL_le.mpr fun d hd => ?_
    obtain ⟨o, _, rfl⟩ := List.mem_map.mp hd
    exact Nat.le_trans (enc_W.dep o) (by omega)
  rw [h1, decide_eq_true h2]; rfl⟩
theorem mw_pop {ρ : Rho} {Q : D → Rho → Prop} {α : Type} {e : α → D} {i : Nat} {ys : List α} {y : α} (e0 : ρ[i]? = some (Sl.own (.lst ((ys ++ [y]).map e)))) (q : Q (e y) (ρ.set i (.own (.lst (ys.map e))))) : Mw (mMeth i kPop mNil) ρ Q :=
  mw_meth e0 (maw_nil ⟨_, e y, ys.map e, e0, by
    rw [kPop, List.map_append, List.length_append, List.map_singleton, List.length_singleton, Nat.add_sub_cancel, List.getElem?_append_right (by simp), List.length_map, Nat.sub_self]
    simp, q⟩)
theorem canGo_mem {W : Ws} {r : Nat} (h : r ∈ (List.range W.length).filter (canGo W)) : canGo W r = true := (List.mem_filter.mp h).2
theorem w_any {W : Ws} {Q : D → Prop} (ok : Ok W) (hl : W.length ≤ 7) (q : Q (.bl (decide (rings W = [])))) : Fw f_law_any [tW W] Q := by
  have h3 : 3 ^ W.length ≤ 2187 := Nat.pow_le_pow_right (by decide) hl
  refine fw_rt ?_
  refine sw_seq (sw_par (kw_new (ew_lst (aw_cons (ew_var (d := tW W) rfl (aw_nil (kw_new (ew_dS1 key_tW (x := W) (ew_var rfl rfl) (kw_nil ?_)))))))))
  refine sw_seq (sw_wh (3 ^ W.length) (fun m ρ => ∃ (stack seen : List Ws) (x3 x4 x5 : Sl), ρ = [Sl.frz (tW W), .own (.lst (stack.map tW)), .own (dS tW seen), x3, x4, x5] ∧ Dfs W stack seen (fun _ => False) ∧ m + seen.length = 3 ^ W.length + stack.length ∧ m ≤ 3 ^ W.length) (by omega) ⟨[W], [W], .emp, .emp, .emp, rfl, Dfs.start ok _, rfl, Nat.le_refl _⟩ ?_)
  rintro m _ ⟨stack, seen, x3, x4, x5, rfl, hd, hm, hm2⟩
  walk_at "v"
  · rename_i hk
    have hs : stack = [] := by
      cases stack with
      | nil => rfl
      | cons a b => simp at hk
    subst hs
    rw [decide_eq_false hd.empty] at q
    exact q
  · rename_i hk
    obtain ⟨ys, k, rfl⟩ : ∃ ys k, stack = ys ++ [k] := ⟨stack.dropLast, stack.getLast (by intro e; rw [e] at hk; simp at hk), (List.dropLast_concat_getLast _).symm⟩
    refine sw_setM (mw_pop (e := tW) (ys := ys) (y := k) rfl ?_)
    have hks : k ∈ seen := hd.sub k (by simp)
    obtain ⟨okk, hkl, hkr, _⟩ := hd.kin k hks
    have hle := hd.le
    rw [List.length_append, List.length_singleton] at hm
    walk_at "v"
    refine w_ldone ?_
    walk_at "v"
    refine br (fun h => ?_) fun h => ?_
    · walk_at "v"
      rw [decide_eq_true (hkr.mp (done_rings h))] at q
      exact q
    · walk_at "v"
      refine sw_forP ((List.range k.length).filter (canGo k)) nE (fun pre ρ => ∃ (stack' seen' : List Ws) (x4 x5 : Sl), ρ = [Sl.frz (tW W), .own (.lst (stack'.map tW)), .own (dS tW seen'), .frz (tW k), x4, x5] ∧ Dfs W stack' seen' (fun x => x = k ∧ ∀ r ∈ pre, behind k r ∈ seen') ∧ k ∈ seen' ∧ m - 1 + seen'.length = 3 ^ W.length + stack'.length) ?_ ⟨ys, seen, x4, x5, rfl, hd.pop h, hks, by omega⟩ ?_ ?_
      · walk_at "v"
        refine w_lsteps okk (by omega) ?_
        walk_at "v"
      · rintro pre r post _ hx ⟨st, se, x4, x5, rfl, hd, hks, hm⟩
        have hg : canGo k r = true := canGo_mem (by rw [hx]; simp)
        obtain ⟨w, hw, _⟩ := canGo_iff.mp hg
        have hle := hd.le
        refine ⟨_, rfl, ?_⟩
        walk_at "v"
        refine w_lbehind okk hw ?_
        walk_at "v"
        refine o_ninS key_tW ?_
        walk_at "v"
        refine br (fun h => ?_) fun h => ?_
        · have h : behind k r ∉ se := by simpa using h
          have hd' := hd.new hks hg h
          have hle := hd'.le
          rw [List.length_append, List.length_singleton] at hle
          refine sw_seq (sw_dputS key_tW (x := behind k r) (ks := se) rfl (by omega) h (ew_bor rfl rfl) ?_)
          refine sw_exprM (mw_app (e := tW) (xs := st) rfl (by omega) (ew_var (d := tW (behind k r)) rfl ⟨_, rfl, ?_⟩))
          exact ⟨_, _, _, _, rfl, hd', by simp [hks], by rw [List.length_append, List.length_append, List.length_singleton]; omega⟩
        · have h : behind k r ∈ se := by simpa using h
          exact sw_nx ⟨_, _, _, _, rfl, hd.old h, hks, hm⟩
      · rintro _ ⟨st, se, x4, x5, rfl, hd, hks, hm⟩
        have hle := hd.le
        have := hd.nd
        exact ⟨m - 1, by omega, st, se, _, _, _, rfl, hd.end h, hm, by omega⟩
end K82

set_option maxHeartbeats 1000000
namespace K82
open Sv
open PySem (Str PyData)
local macro_rules | `(tactic| walk_at "v1") => `(tactic| first | with_reducible (first | refine sw_seq ?_ | refine sw_set ?_ | refine sw_new ?_ | refine sw_asg ?_ | refine sw_rt ?_ | refine sw_ret ?_ | refine sw_ifB ?_ | refine sw_par ?_ | refine sw_nx ?_ | refine sw_exprM ?_ | refine kw_nil ?_ | refine kw_frz ?_ | refine kw_new ?_ | refine ew_con ?_ | refine ew_bin ?_ | refine ew_un ?_ | refine ew_tup ?_ | refine ew_lst ?_ | refine ew_fn ?_ | refine ew_call ?_ | refine ew_callO ?_ | refine ew_not ?_ | refine ew_chain ?_ | refine ew_slice ?_ | refine ow_none ?_ | refine ow_some ?_ | refine tw_bl ?_ | refine tw_of ?_ | refine tw_not ?_ | refine tw_yes ?_ | refine aw_nil ?_ | refine aw_cons ?_ | refine iw_seq ?_ | refine iw_enum ?_ | refine iw_zip ?_ | refine iw_rangeI ?_ | (apply ew_andC) | (apply ew_orC) | (apply tw_andC) | (apply tw_orC) | (apply ew_lcM') | (apply ew_lc') | exact rfl | exact cut_last _ _ | exact mapI _) | ((with_reducible apply ew_var); exact rfl) | ((with_reducible apply ew_bor); exact rfl) | ((with_reducible apply ew_borO); exact rfl) | with_reducible (first | refine o_eqN ?_ | refine o_neN ?_ | refine o_ltN ?_ | refine o_gtN ?_ | refine o_leN ?_ | refine o_geN ?_ | refine o_inN ?_ | refine o_ninN ?_ | refine o_inNL ?_ | refine o_ninNL ?_ | refine o_lenTm ?_ | refine o_lenLm ?_ | refine o_addN ?_ | refine o_addN1 ?_ | refine o_subN (by first | assumption | omega) ?_ | refine o_subN1 (by first | assumption | omega) ?_ | refine o_sumI ?_ | refine o_sumTI ?_ | refine o_ix0 ?_ | refine o_ix1 ?_ | refine o_ix2 ?_ | refine o_ix3 ?_ | refine o_ixT0 ?_ ?_ | refine o_ixL0 ?_ ?_ | refine o_ixT1 ?_ ?_ | refine o_isTupT ?_ | refine o_ixTN ?_ ?_ | refine o_ixTI ?_ ?_ | refine o_ixLN ?_ ?_ | refine o_ixLI ?_ ?_ | refine o_ixTG ?_ ?_ | refine o_ixLG ?_ ?_ | refine o_ixTD0 ?_ ?_ | refine o_ixTD1 ?_ ?_ | refine o_ixTD2 ?_ ?_ | refine o_ixTD ?_ ?_ | refine o_ixLD ?_ ?_) | with_reducible (first | refine o_eqI ?_ | refine o_neI ?_ | refine o_lt ?_ | refine o_gt ?_ | refine o_le ?_ | refine o_ge ?_ | refine o_all ?_ | refine o_any ?_ | refine o_sum ?_ | refine o_addI ?_ | refine o_subI ?_ | refine o_lenT ?_ | refine o_lenL ?_ | refine o_tupL ?_ | refine o_tupT ?_ | refine o_listL ?_ | refine o_listT ?_ | refine o_negI ?_ | refine o_intI ?_ | refine o_slT ?_ | refine o_slL ?_ | refine o_revT ?_ | refine o_revL ?_ | refine x_n ?_ | refine x_int ?_ | refine x_bl ?_ | refine x_tb ?_ | refine x_itT ?_ | refine x_itL ?_ | refine x_rt ?_ | refine rngQ ?_ ?_ | refine x_trT ?_ | refine x_trL ?_ | refine x_tri ?_ | refine o_max2 ?_ | refine o_min2 ?_ | refine o_addTs ?_ ?_ | refine o_addLs ?_ ?_) | (with_reducible refine And.intro ?_ ?_) | refine dec_imp fun _ => ?_ | refine decF_imp fun _ => ?_ | with_reducible (first | refine ndF_imp fun _ => ?_ | refine ndT_imp fun _ => ?_ | refine nF_imp ?_ | refine nT_imp ?_ | refine orF_imp ?_ | refine andT_imp ?_) | refine tr_imp fun _ => ?_ | refine fa_imp fun _ => ?_ | (intro x hx; refine Exists.intro _ (And.intro rfl ?_); try (have hx := List.mem_range.mp hx)) | (refine sd_lt ?_; first | assumption | omega | (simp only [List.length_map, List.length_range, List.length_cons, List.length_nil, List.length_append, List.length_set] at *; omega)) | (refine sd_le ?_; first | assumption | omega | (simp only [List.length_map, List.length_range, List.length_cons, List.length_nil, List.length_append, List.length_set] at *; omega)))
local macro_rules | `(tactic| walk_at "v") => `(tactic| (repeat' (walk_at "v1")))
local macro_rules | `(tactic| walk_at "v1") => `(tactic| with_reducible (first | refine o_ixW ?_ ?_ | refine o_ixWL ?_ ?_ | refine o_isNW ?_ | refine o_notNW ?_ | refine o_eqW ?_ | refine o_neW ?_ | refine o_ltW ?_ ?_ | refine o_geW ?_ ?_ | refine o_gtW ?_ ?_ | refine o_ixWW ?_ ?_ ?_))
local macro_rules | `(tactic| walk_at "v1") => `(tactic| (refine sd_some ?_; assumption))
local macro_rules | `(tactic| walk_at "v1") => `(tactic| (with_reducible refine sd_ge ?_; omega))
local macro_rules | `(tactic| walk_at "v1") => `(tactic| with_reducible (first | refine o_ninWo ?_ ?_ ?_ | refine o_ixWX ?_ ?_))
local macro_rules | `(tactic| walk_at "v1") => `(tactic| with_reducible (first | refine o_ninWN ?_ | refine o_ninWI ?_))
/-! ### the law's rings -/
theorem Path.fst {W : Ws} {s cur k : Nat} {acc : List Nat} (p : Path W s acc cur) (h : acc[k]? = some s) : k = 0 := by
  obtain ⟨h1, e1⟩ := List.getElem?_eq_some_iff.mp h
  obtain ⟨h2, e2⟩ := List.getElem?_eq_some_iff.mp p.hd
  exact (List.getElem_inj p.nd (h₀ := h1) (h₁ := h2)).mp (e1.trans e2.symm)
theorem Path.same {W : Ws} {s c c' : Nat} {A B : List Nat} (p : Path W s A c) (q : Path W s B c') : ∀ k, k < A.length → k < B.length → A[k]? = B[k]?
  | 0, _, _ => p.hd.trans q.hd.symm
  | k + 1, h1, h2 => by
    have ih := Path.same p q k (by omega) (by omega)
    obtain ⟨a, b, e1, e2, e3⟩ := p.st k h1
    obtain ⟨a', b', f1, f2, f3⟩ := q.st k h2
    rw [e1, f1] at ih
    cases ih
    rw [e3] at f3
    have : b = b' := by have := Option.some.inj f3; omega
    rw [e2, f2, this]
theorem ring_uniq {W : Ws} {s cur : Nat} {R row : List Nat} (r : Ring W s R) (p : Path W s row cur) (stop : ∀ h : Nat, at_ W cur = some (h : Int) → h ∈ row) : R = row := by
  obtain ⟨c, q, e⟩ := r.path
  have same := Path.same q p
  have l1 : R.length ≤ row.length := Nat.le_of_not_lt fun hlt => by
    have hp := p.pos
    obtain ⟨a, b, e1, e2, e3⟩ := q.st (row.length - 1) (by omega)
    have e4 := same (row.length - 1) (by omega) (by omega)
    rw [e1, p.lst] at e4
    cases e4
    obtain ⟨i, hi, ei⟩ := List.getElem_of_mem (stop b e3)
    have e5 := same i (by omega) hi
    rw [List.getElem?_eq_getElem hi, ei] at e5
    obtain ⟨g1, g2⟩ := List.getElem?_eq_some_iff.mp e5
    obtain ⟨g3, g4⟩ := List.getElem?_eq_some_iff.mp e2
    have := (List.getElem_inj q.nd (h₀ := g1) (h₁ := g3)).mp (g2.trans g4.symm)
    omega
  have l2 : row.length ≤ R.length := Nat.le_of_not_lt fun hlt => by
    have hp := q.pos
    obtain ⟨a, b, e1, e2, e3⟩ := p.st (R.length - 1) (by omega)
    have e4 := same (R.length - 1) (by omega) (by omega)
    rw [e1, q.lst] at e4
    cases e4
    rw [e] at e3
    have eb : b = s := by
      have := Option.some.inj e3
      omega
    subst eb
    have := p.fst e2
    omega
  refine List.ext_getElem? fun k => ?_
  by_cases hk : k < R.length
  · exact same k hk (by omega)
  · rw [List.getElem?_eq_none (by omega), List.getElem?_eq_none (by omega)]
theorem ring_row {W : Ws} (ok : Ok W) {s cur : Nat} {row : List Nat} (hs : s < W.length) (p : Path W s row cur) (stop : ∀ h : Nat, at_ W cur = some (h : Int) → h ∈ row) :
    ringAt W s = if 1 < row.length ∧ at_ W cur = some (s : Int) ∧ (∀ x ∈ row, s ≤ x) then some row else none := by
  by_cases h : 1 < row.length ∧ at_ W cur = some (s : Int) ∧ (∀ x ∈ row, s ≤ x)
  · rw [if_pos h]
    obtain ⟨h1, h2, h3⟩ := h
    have rg : Ring W s row := ⟨⟨cur, p, h2⟩, h3⟩
    have hm : mover W s = true := by
      obtain ⟨a, b, e1, e2, e3⟩ := p.st 0 h1
      rw [p.hd] at e1
      cases e1
      refine mover_iff.mpr ⟨b, e3, fun z => ?_⟩
      have hb : b = s := by omega
      rw [hb] at e2
      have := p.fst e2
      omega
    have hg := go_shut ok (rg.shut hm) (List.mem_of_getElem? p.hd) h3 (W.length + 1) [s] s (Path.start W s) (by simpa using List.mem_of_getElem? p.hd) (by simp; omega)
    rw [ringAt, if_pos hm]
    cases hr : go W s (W.length + 1) [s] s with
    | none => exact absurd hr hg
    | some R => rw [ring_uniq (go_ring _ _ _ _ (Path.start W s) (by simp) hr) p stop]
  · rw [if_neg h]
    cases hr : ringAt W s with
    | none => rfl
    | some R =>
      obtain ⟨rg, hm⟩ := ringAt_ring hr
      have e := ring_uniq rg p stop
      subst e
      obtain ⟨c, q, e⟩ := rg.path
      have ec : c = cur := by
        have := q.lst
        rw [p.lst] at this
        exact (Option.some.inj this).symm
      subst ec
      refine absurd ⟨?_, e, rg.gt⟩ h
      refine Nat.lt_of_not_le fun hle => ?_
      have hp := p.pos
      have e1 : R.length - 1 = 0 := by omega
      have e2 := p.lst
      rw [e1, p.hd] at e2
      cases e2
      obtain ⟨w, hw, hne⟩ := mover_iff.mp hm
      rw [e] at hw
      cases hw
      exact hne rfl
theorem minI_dec {xs : List Nat} {s : Nat} (h : s ∈ xs) : decide (minI (xs.map fun k : Nat => (k : Int)) = (s : Int)) = decide (∀ x ∈ xs, s ≤ x) := by
  cases xs with
  | nil => cases h
  | cons a xs =>
    obtain ⟨h1, h2⟩ := minI_spec (n := (a : Int)) (ns := xs.map fun k : Nat => (k : Int))
    rw [← List.map_cons (f := fun k : Nat => (k : Int))] at h1 h2
    refine decide_eq_decide.mpr ⟨fun e x hx => ?_, fun e => ?_⟩
    · have := h2 x (List.mem_map.mpr ⟨x, hx, rfl⟩)
      rw [e] at this
      omega
    · obtain ⟨y, hy, ey⟩ := List.mem_map.mp h1
      have := h2 s (List.mem_map.mpr ⟨s, h, rfl⟩)
      have := e y hy
      omega
theorem o_minN {xs : List Nat} {Q : D → Prop} (h : xs ≠ []) (q : Q (.int (minI (xs.map fun k : Nat => (k : Int))))) : OrW (minLD [.lst (xs.map nE)]) Q := by
  cases xs with
  | nil => exact absurd rfl h
  | cons a xs => exact .of (by unfold minLD bestOf; simp only [intsD_nat]; rfl) q
theorem o_minTN {xs : List Nat} {Q : D → Prop} (h : xs ≠ []) (q : Q (.int (minI (xs.map fun k : Nat => (k : Int))))) : OrW (minLD [.tup (xs.map nE)]) Q := by
  cases xs with
  | nil => exact absurd rfl h
  | cons a xs => exact .of (by unfold minLD bestOf; simp only [intsD_nat]; rfl) q
theorem o_last {xs : List Nat} {cur : Nat} {Q : D → Prop} (h : xs[xs.length - 1]? = some cur) (q : Q (nE cur)) : OrW (ixD (.lst (xs.map nE)) (.int (-1))) Q := by
  refine .of (r := nE cur) ?_ q
  obtain ⟨hl, e⟩ := List.getElem?_eq_some_iff.mp h
  have hi : L2.ixN (xs.map nE).length (-1) = some (xs.length - 1) := by
    unfold L2.ixN
    rw [List.length_map, if_neg (by omega), if_pos (by omega)]
    congr 1
    omega
  rw [ixD, L2.atI, hi]
  simp
  exact ⟨cur, h, rfl⟩
theorem sn_some {o : Option Int} (h : o.isNone = false) : o.isSome = true := by cases o <;> simp_all
theorem sn_ge {o : Option Int} (h : ¬ o.getD 0 < 0) : 0 ≤ o.getD 0 := by omega
theorem o_inWo {o : Option Int} {xs : List Nat} {Q : D → Prop} (hs : o.isSome = true) (h0 : 0 ≤ o.getD 0) (q : Q (.bl (decide ((o.getD 0).toNat ∈ xs)))) : OrW (opIn (eW o) (lN xs)) Q := by
  cases o with
  | none => cases hs
  | some w =>
    have h0 : 0 ≤ w := h0
    have e : (eW (some w)) = nE w.toNat := by show D.int w = .int _; rw [Int.toNat_of_nonneg h0]
    rw [e]
    exact o_inNL q
local macro_rules | `(tactic| walk_at "v1") => `(tactic| (refine sn_some ?_; assumption))
local macro_rules | `(tactic| walk_at "v1") => `(tactic| with_reducible (first | refine o_inWo ?_ ?_ ?_ | refine o_minN ?_ ?_))
theorem w_lrings {W : Ws} {Q : D → Prop} (ok : Ok W) (hl : W.length ≤ 1000) (q : Q (tR (rings W))) : Fw f_law_rings [tW W] Q := by
  refine fw_rt ?_
  refine sw_seq (sw_new (ew_lst (aw_nil ?_)))
  refine sw_seq (sw_forR W.length nE (fun i ρ => ∃ x2 x3 x4 x5 : Sl, ρ = [Sl.frz (tW W), .own (lR ((List.range i).filterMap (ringAt W))), x2, x3, x4, x5]) ?_ ⟨.emp, .emp, .emp, .emp, rfl⟩ ?_ ?_)
  · walk_at "v"
  · rintro s hs _ ⟨x2, x3, x4, x5, rfl⟩
    refine ⟨_, rfl, ?_⟩
    walk_at "v"
    refine sw_forR W.length nE (fun k ρ => ∃ (acc : List Nat) (cur : Nat) (x4 x5 : Sl), ρ = [Sl.frz (tW W), .own (lR ((List.range s).filterMap (ringAt W))), .frz (nE s), .own (lN acc), x4, x5] ∧ Path W s acc cur ∧ (∀ x ∈ acc, x < W.length) ∧ acc.length = k + 1) ?_ ⟨[s], s, x4, x5, rfl, Path.start W s, by simpa using hs, rfl⟩ ?_ ?_
    · walk_at "v"
    · rintro k hk _ ⟨acc, cur, x4, x5, rfl, hp, hlt, hal⟩
      have hcl := hlt cur hp.mem
      refine ⟨_, rfl, ?_⟩
      walk_at "v"
      refine o_last hp.lst ?_
      walk_at "v"
      refine br (fun h => ?_) fun h => ?_
      · have stop : ∀ h : Nat, at_ W cur = some (h : Int) → h ∈ acc := fun x e => by
          rw [e] at h
          simp at h
          rcases h with h | h
          · omega
          · exact h
        have rr := ring_row ok hs hp stop
        refine sw_bk ?_
        have hsm : s ∈ acc := List.mem_of_getElem? hp.hd
        have hne : acc ≠ [] := fun e => by rw [e] at hal; cases hal
        walk_at "v"
        · refine o_last hp.lst ?_
          walk_at "v"
          exact hne
        by_cases hh : 1 < acc.length ∧ at_ W cur = some (s : Int) ∧ (∀ x ∈ acc, s ≤ x)
        · rw [if_pos hh] at rr
          refine brT (by rw [minI_dec hsm, decide_eq_true hh.2.2, decide_eq_true hh.2.1, decide_eq_true (by have := hh.1; omega)]; rfl) ?_
          refine sw_exprM (mw_app (e := tN) (xs := (List.range s).filterMap (ringAt W)) rfl ?_ ?_)
          · have := List.length_filterMap_le (ringAt W) (List.range s)
            rw [List.length_range] at this
            omega
          · walk_at "v"
            have e1 : (List.range (s + 1)).filterMap (ringAt W) = (List.range s).filterMap (ringAt W) ++ [acc] := by
              rw [List.range_succ, List.filterMap_append, List.filterMap_cons, rr]; rfl
            exact ⟨acc, rfl, _, _, _, _, by rw [e1]; rfl⟩
        · rw [if_neg hh] at rr
          have e1 : (List.range (s + 1)).filterMap (ringAt W) = (List.range s).filterMap (ringAt W) := by
            rw [List.range_succ, List.filterMap_append, List.filterMap_cons, rr]; exact List.append_nil _
          refine brF ?_ (sw_nx ⟨_, _, _, _, by rw [e1]; rfl⟩)
          rw [minI_dec hsm, Bool.eq_false_iff]
          intro z
          simp only [Bool.and_eq_true, decide_eq_true_iff] at z
          exact hh ⟨by omega, z.2.1, z.2.2⟩
      · walk_at "v"
        obtain ⟨x, ex, h2⟩ : ∃ x : Nat, at_ W cur = some (x : Int) ∧ x ∉ acc := by
          cases e : at_ W cur with
          | none => rw [e] at h; simp at h
          | some w =>
            rw [e] at h
            simp at h
            exact ⟨w.toNat, by rw [Int.toNat_of_nonneg (by omega)], h.2⟩
        have hxl : x < W.length := by have := ok.bd _ _ ex; omega
        rw [ex]
        refine mw_app (e := nE) (xs := acc) rfl (by omega) (ew_var (d := nE x) rfl ⟨x, rfl, ?_⟩)
        refine ⟨acc ++ [x], x, _, _, rfl, hp.snoc ex h2, ?_, by simp; omega⟩
        intro y hy
        rcases List.mem_append.mp hy with hy | hy
        · exact hlt y hy
        · rw [List.mem_singleton.mp hy]; exact hxl
    · rintro _ ⟨acc, cur, x4, x5, rfl, hp, hlt, hal⟩
      have := hp.lt hlt
      omega
  · rintro _ ⟨x2, x3, x4, x5, rfl⟩
    walk_at "v"
    exact q
end K82

set_option maxHeartbeats 1000000
namespace K82
open Sv
open PySem (Str PyData)
local macro_rules | `(tactic| walk_at "v1") => `(tactic| first | with_reducible (first | refine sw_seq ?_ | refine sw_set ?_ | refine sw_new ?_ | refine sw_asg ?_ | refine sw_rt ?_ | refine sw_ret ?_ | refine sw_ifB ?_ | refine sw_par ?_ | refine sw_nx ?_ | refine sw_exprM ?_ | refine kw_nil ?_ | refine kw_frz ?_ | refine kw_new ?_ | refine ew_con ?_ | refine ew_bin ?_ | refine ew_un ?_ | refine ew_tup ?_ | refine ew_lst ?_ | refine ew_fn ?_ | refine ew_call ?_ | refine ew_callO ?_ | refine ew_not ?_ | refine ew_chain ?_ | refine ew_slice ?_ | refine ow_none ?_ | refine ow_some ?_ | refine tw_bl ?_ | refine tw_of ?_ | refine tw_not ?_ | refine tw_yes ?_ | refine aw_nil ?_ | refine aw_cons ?_ | refine iw_seq ?_ | refine iw_enum ?_ | refine iw_zip ?_ | refine iw_rangeI ?_ | (apply ew_andC) | (apply ew_orC) | (apply tw_andC) | (apply tw_orC) | (apply ew_lcM') | (apply ew_lc') | exact rfl | exact cut_last _ _ | exact mapI _) | ((with_reducible apply ew_var); exact rfl) | ((with_reducible apply ew_bor); exact rfl) | ((with_reducible apply ew_borO); exact rfl) | with_reducible (first | refine o_eqN ?_ | refine o_neN ?_ | refine o_ltN ?_ | refine o_gtN ?_ | refine o_leN ?_ | refine o_geN ?_ | refine o_inN ?_ | refine o_ninN ?_ | refine o_inNL ?_ | refine o_ninNL ?_ | refine o_lenTm ?_ | refine o_lenLm ?_ | refine o_addN ?_ | refine o_addN1 ?_ | refine o_subN (by first | assumption | omega) ?_ | refine o_subN1 (by first | assumption | omega) ?_ | refine o_sumI ?_ | refine o_sumTI ?_ | refine o_ix0 ?_ | refine o_ix1 ?_ | refine o_ix2 ?_ | refine o_ix3 ?_ | refine o_ixT0 ?_ ?_ | refine o_ixL0 ?_ ?_ | refine o_ixT1 ?_ ?_ | refine o_isTupT ?_ | refine o_ixTN ?_ ?_ | refine o_ixTI ?_ ?_ | refine o_ixLN ?_ ?_ | refine o_ixLI ?_ ?_ | refine o_ixTG ?_ ?_ | refine o_ixLG ?_ ?_ | refine o_ixTD0 ?_ ?_ | refine o_ixTD1 ?_ ?_ | refine o_ixTD2 ?_ ?_ | refine o_ixTD ?_ ?_ | refine o_ixLD ?_ ?_) | with_reducible (first | refine o_eqI ?_ | refine o_neI ?_ | refine o_lt ?_ | refine o_gt ?_ | refine o_le ?_ | refine o_ge ?_ | refine o_all ?_ | refine o_any ?_ | refine o_sum ?_ | refine o_addI ?_ | refine o_subI ?_ | refine o_lenT ?_ | refine o_lenL ?_ | refine o_tupL ?_ | refine o_tupT ?_ | refine o_listL ?_ | refine o_listT ?_ | refine o_negI ?_ | refine o_intI ?_ | refine o_slT ?_ | refine o_slL ?_ | refine o_revT ?_ | refine o_revL ?_ | refine x_n ?_ | refine x_int ?_ | refine x_bl ?_ | refine x_tb ?_ | refine x_itT ?_ | refine x_itL ?_ | refine x_rt ?_ | refine rngQ ?_ ?_ | refine x_trT ?_ | refine x_trL ?_ | refine x_tri ?_ | refine o_max2 ?_ | refine o_min2 ?_ | refine o_addTs ?_ ?_ | refine o_addLs ?_ ?_) | (with_reducible refine And.intro ?_ ?_) | refine dec_imp fun _ => ?_ | refine decF_imp fun _ => ?_ | with_reducible (first | refine ndF_imp fun _ => ?_ | refine ndT_imp fun _ => ?_ | refine nF_imp ?_ | refine nT_imp ?_ | refine orF_imp ?_ | refine andT_imp ?_) | refine tr_imp fun _ => ?_ | refine fa_imp fun _ => ?_ | (intro x hx; refine Exists.intro _ (And.intro rfl ?_); try (have hx := List.mem_range.mp hx)) | (refine sd_lt ?_; first | assumption | omega | (simp only [List.length_map, List.length_range, List.length_cons, List.length_nil, List.length_append, List.length_set] at *; omega)) | (refine sd_le ?_; first | assumption | omega | (simp only [List.length_map, List.length_range, List.length_cons, List.length_nil, List.length_append, List.length_set] at *; omega)))
local macro_rules | `(tactic| walk_at "v") => `(tactic| (repeat' (walk_at "v1")))
local macro_rules | `(tactic| walk_at "v1") => `(tactic| with_reducible (first | refine o_ixW ?_ ?_ | refine o_ixWL ?_ ?_ | refine o_isNW ?_ | refine o_notNW ?_ | refine o_eqW ?_ | refine o_neW ?_ | refine o_ltW ?_ ?_ | refine o_geW ?_ ?_ | refine o_gtW ?_ ?_ | refine o_ixWW ?_ ?_ ?_))
local macro_rules | `(tactic| walk_at "v1") => `(tactic| (refine sd_some ?_; assumption))
local macro_rules | `(tactic| walk_at "v1") => `(tactic| (with_reducible refine sd_ge ?_; omega))
local macro_rules | `(tactic| walk_at "v1") => `(tactic| with_reducible (first | refine o_ninWo ?_ ?_ ?_ | refine o_ixWX ?_ ?_))
local macro_rules | `(tactic| walk_at "v1") => `(tactic| with_reducible (first | refine o_ninWN ?_ | refine o_ninWI ?_))
local macro_rules | `(tactic| walk_at "v1") => `(tactic| (refine sn_some ?_; assumption))
local macro_rules | `(tactic| walk_at "v1") => `(tactic| with_reducible (first | refine o_inWo ?_ ?_ ?_ | refine o_minN ?_ ?_))
def toN : D → Nat
  | .int i => i.toNat
  | _ => 0
theorem numB_of {d : D} {n : Nat} (h : numB d 0 ((n : Int) - 1) = true) : d = nE (toN d) ∧ toN d < n := by
  cases d with
  | int i =>
    simp only [numB, decide_eq_true_iff] at h
    exact ⟨by show D.int i = .int _; rw [toN, Int.toNat_of_nonneg h.1], by show i.toNat < n; omega⟩
  | _ => cases h
def allN (n : Nat) (ds : List D) : Bool := ds.all fun d => numB d 0 ((n : Int) - 1)
theorem allN_of {n : Nat} {ds : List D} (h : allN n ds = true) : ds = (ds.map toN).map nE ∧ ∀ x ∈ ds.map toN, x < n := by
  rw [allN, List.all_eq_true] at h
  refine ⟨?_, fun x hx => ?_⟩
  · rw [List.map_map]
    conv => lhs; rw [← List.map_id ds]
    exact List.map_congr_left fun d hd => (numB_of (h d hd)).1
  · obtain ⟨d, hd, rfl⟩ := List.mem_map.mp hx
    exact (numB_of (h d hd)).2
def walkG : Ws → List Nat → Option Ws
  | W, [] => some W
  | W, x :: xs => if canGo W x = true then walkG (behind W x) xs else none
theorem walkG_app : ∀ (a b : List Nat) (W : Ws), walkG W (a ++ b) = (walkG W a).bind fun k => walkG k b
  | [], _, _ => rfl
  | x :: a, b, W => by
    rw [List.cons_append, walkG, walkG]
    by_cases h : canGo W x = true
    · rw [if_pos h, if_pos h, walkG_app a b]
    · rw [if_neg h, if_neg h]; rfl
def isGoingB (W : Ws) : D → Bool
  | .tup ds => allN W.length ds && (match walkG W (ds.map toN) with | some k => done k | none => false)
  | _ => false
theorem plain_mem' {ds : List D} (h : (D.tup ds).plain = true) {d : D} (hd : d ∈ ds) : d.plain = true := plainL_iff.mp h d hd
theorem done_emp (W : Ws) : (!(!((movers W).map nE).isEmpty)) = done W := by
  rw [Bool.eq_iff_iff, done_iff, Bool.not_not, List.isEmpty_iff, List.map_eq_nil_iff]
theorem w_is_going {W : Ws} {v : D} {Q : D → Prop} (ok : Ok W) (hv : v.plain = true) (q : Q (.bl (isGoingB W v))) : Fw f_is_going [tW W, v] Q := by
  refine fw_rt ?_
  cases v with
  | tup ds =>
    have e1 : isGoingB W (.tup ds) = (allN W.length ds && (match walkG W (ds.map toN) with | some k => done k | none => false)) := rfl
    walk_at "v"
    · rename_i d hd
      refine w_is_number (plain_mem' hv hd) ?_
      walk_at "v"
    · walk_at "v"
    cases hN : allN W.length ds with
    | false =>
      rw [e1, hN] at q
      refine brT (by unfold allN at hN; rw [hN]; rfl) ?_
      walk_at "v"
      exact q
    | true =>
      rw [e1, hN, Bool.true_and] at q
      refine brF (by unfold allN at hN; rw [hN]; rfl) ?_
      obtain ⟨exs, hlt⟩ := allN_of hN
      generalize ds.map toN = xs at *
      subst exs
      walk_at "v"
      refine sw_forP xs nE (fun pre ρ => ∃ (k : Ws) (x3 : Sl), ρ = [Sl.frz (tW W), .frz (tN xs), .frz (tW k), x3] ∧ walkG W pre = some k ∧ Ok k ∧ k.length = W.length) ?_ ⟨W, .emp, rfl, rfl, ok, rfl⟩ ?_ ?_
      · walk_at "v"
      · rintro pre x post _ hx ⟨k, x3, rfl, hw, okk, hkl⟩
        refine ⟨_, rfl, ?_⟩
        have hxl : x < W.length := hlt x (by rw [hx]; simp)
        walk_at "v"
        refine w_can_go okk (by omega) ?_
        walk_at "v"
        have ew : walkG W xs = walkG k (x :: post) := by rw [hx, walkG_app, hw]; rfl
        cases hc : canGo k x with
        | false =>
          refine brT rfl ?_
          walk_at "v"
          rw [ew, walkG, if_neg (by rw [hc]; decide)] at q
          exact q
        | true =>
          refine brF rfl ?_
          walk_at "v"
          obtain ⟨w, hw2, _⟩ := canGo_iff.mp hc
          refine w_behind okk hw2 ?_
          refine ⟨behind k x, _, rfl, ?_, okk.step hc, by rw [behind_len]; exact hkl⟩
          rw [walkG_app, hw]
          show walkG k [x] = _
          rw [walkG, if_pos hc]; rfl
      · rintro _ ⟨k, x3, rfl, hw, okk, hkl⟩
        walk_at "v"
        refine w_movers ?_
        walk_at "v"
        rw [hw] at q
        rw [done_emp]
        exact q
  | dct _ => cases hv
  | tok _ => cases hv
  | _ =>
    refine sw_seq (sw_ifB (tw_orT (fun b => ⟨_, b, rfl, rfl⟩) (brT rfl ?_)))
    walk_at "v"
    exact q
theorem ew_okroom {ρ : Rho} {W : Ws} {d : D} {i : Nat} (e : ρ[i]? = some (Sl.frz d)) (e0 : ρ[0]? = some (Sl.frz (tW W))) (hd : d.plain = true) : Ew (eAnd (eUn (fun d => (isT d .int).map .bl) (eBor i)) (eAnd (eNot (eUn (fun d => (isT d .bool).map .bl) (eBor i))) (eAnd (eBin opLe (eCon (.int 0)) (eBor i)) (eBin opLt (eBor i) (eFn lenD (aCons (eBor 0) aNil)))))) ρ fun r => r = .bl (numB d 0 ((W.length : Int) - 1)) := by
  cases d with
  | int z =>
    refine ew_andT (ew_un (ew_bor e ⟨_, rfl, rfl, ?_⟩))
    refine ew_andT (ew_not (ew_un (ew_bor e ⟨_, rfl, false, rfl, rfl, ?_⟩)))
    refine ew_andC (ew_bin (ew_con (ew_bor e (o_le ⟨_, rfl, fun h => ew_bin (ew_bor e (ew_fn (aw_cons (ew_bor e0 (aw_nil (o_lenTm (o_lt rfl))))))), ?_⟩))))
    rw [numB]
    congr 1
    rw [← Bool.decide_and]
    exact decide_eq_decide.mpr (by omega)
  | bl k =>
    refine ew_andT (ew_un (ew_bor e ⟨_, rfl, rfl, ?_⟩))
    exact ew_andF (ew_not (ew_un (ew_bor e ⟨_, rfl, true, rfl, rfl⟩))) rfl
  | dct _ => cases hd
  | tok _ => cases hd
  | _ => exact ew_andF (ew_un (ew_bor e ⟨_, rfl, rfl⟩)) rfl
theorem w_lgoing {W : Ws} {v : D} {Q : D → Prop} (ok : Ok W) (hl : W.length ≤ 1000) (hv : v.plain = true) (q : Q (.bl (isGoingB W v))) : Fw f_law_is_going [tW W, v] Q := by
  refine fw_rt ?_
  cases v with
  | tup ds =>
    have e1 : isGoingB W (.tup ds) = (allN W.length ds && (match walkG W (ds.map toN) with | some k => done k | none => false)) := rfl
    refine sw_seq (sw_ifB (tw_orF (tw_not (tw_of (ew_un (ew_bor rfl (o_isTupT (x_tb ⟨rfl, ?_⟩))))))))
    refine tw_not (tw_of (ew_fn (aw_cons (ew_lcM ds (fun d => d) (fun d => .bl (numB d 0 ((W.length : Int) - 1))) ?_ ?_ (aw_nil (o_all (x_tb ?_)))))))
    · walk_at "v"
    · exact fun d hd => ⟨_, rfl, ew_okroom rfl rfl (plain_mem' hv hd)⟩
    cases hN : allN W.length ds with
    | false =>
      rw [e1, hN] at q
      refine brT (by unfold allN at hN; rw [hN]; rfl) ?_
      walk_at "v"
      exact q
    | true =>
      rw [e1, hN, Bool.true_and] at q
      refine brF (by unfold allN at hN; rw [hN]; rfl) ?_
      obtain ⟨exs, hlt⟩ := allN_of hN
      generalize ds.map toN = xs at *
      subst exs
      walk_at "v"
      refine sw_forP xs nE (fun pre ρ => ∃ (k : Ws) (x3 x4 : Sl), ρ = [Sl.frz (tW W), .frz (tN xs), .frz (tW k), x3, x4] ∧ walkG W pre = some k ∧ Ok k ∧ k.length = W.length) ?_ ⟨W, .emp, .emp, rfl, rfl, ok, rfl⟩ ?_ ?_
      · walk_at "v"
      · rintro pre x post _ hx ⟨k, x3, x4, rfl, hw, okk, hkl⟩
        refine ⟨_, rfl, ?_⟩
        walk_at "v"
        refine w_lsteps okk (by omega) ?_
        walk_at "v"
        have ew : walkG W xs = walkG k (x :: post) := by rw [hx, walkG_app, hw]; rfl
        have em : (x ∈ (List.range k.length).filter (canGo k)) ↔ canGo k x = true := by
          rw [List.mem_filter]
          refine ⟨fun h => h.2, fun h => ⟨?_, h⟩⟩
          obtain ⟨w, hw, _⟩ := canGo_iff.mp h
          exact List.mem_range.mpr (at_lt hw)
        by_cases hc : canGo k x = true
        · refine brF (by simpa using em.mpr hc) ?_
          walk_at "v"
          obtain ⟨w, hw2, _⟩ := canGo_iff.mp hc
          refine w_lbehind okk hw2 ?_
          refine ⟨behind k x, _, _, rfl, ?_, okk.step hc, by rw [behind_len]; exact hkl⟩
          rw [walkG_app, hw]
          show walkG k [x] = _
          rw [walkG, if_pos hc]; rfl
        · refine brT (by rw [decide_eq_false fun z => hc (em.mp z)]; rfl) ?_
          walk_at "v"
          rw [ew, walkG, if_neg hc] at q
          exact q
      · rintro _ ⟨k, x3, x4, rfl, hw, okk, hkl⟩
        walk_at "v"
        refine w_ldone ?_
        rw [hw] at q
        exact q
  | dct _ => cases hv
  | tok _ => cases hv
  | _ =>
    refine sw_seq (sw_ifB (tw_orT (fun b => ⟨_, b, rfl, rfl⟩) (brT rfl ?_)))
    walk_at "v"
    exact q
/-! ### the shared defs -/
theorem same_eq : ∀ n, f_law_same n = f_same n
  | 0 => rfl
  | n + 1 => by
    show runF 3 (s_law_same (f_law_same n)) = runF 3 (s_same (f_same n))
    rw [same_eq n]
theorem bent_eq : ∀ n, f_law_bent n = f_bent n
  | 0 => rfl
  | n + 1 => by
    show runF 4 (s_law_bent (f_law_bent n)) = runF 4 (s_bent (f_bent n))
    rw [bent_eq n]
theorem w_ls {a b : D} {Q : D → Prop} (ha : gd a = true) (hb : gd b = true) (hd : a.dep < 40) (q : Q (.bl (decide (a = b)))) : Fw (f_law_same 40) [a, b] Q := by
  rw [same_eq]; exact w_same 40 ha hb hd q
theorem w_lsT {a b : D} {Q : D → Prop} (e : a = b) (ha : gd a = true) (hd : a.dep < 40) (q : Q (.bl true)) : Fw (f_law_same 40) [a, b] Q := by
  subst e
  exact w_ls ha ha hd (by rw [decide_eq_true rfl]; exact q)
theorem gd_eW (o : Option Int) : gd (eW o) = true := by cases o <;> rfl
theorem dep_eW (o : Option Int) : (eW o).dep = 0 := by cases o <;> rfl
theorem eW_eq {o : Option Int} {i : Int} : eW o = .int i ↔ o = some i := by cases o <;> simp [eW]
theorem any_not {n : Nat} {f g : Nat → Bool} (h : ∀ k, k < n → f k = g k) : (!(List.range n).any fun k => !f k) = (List.range n).all g := by
  rw [Bool.eq_iff_iff, Bool.not_eq_true', List.any_eq_false, List.all_eq_true]
  refine forall_congr' fun k => forall_congr' fun hk => ?_
  rw [← h k (List.mem_range.mp hk)]
  cases f k <;> simp
/-! ### is_ring -/
def ringB (W : Ws) (xs : List Nat) : Bool := decide xs.Nodup && (decide (∀ x ∈ xs, xs.getD 0 0 ≤ x) && (List.range xs.length).all fun k => decide (at_ W (xs.getD k 0) = some ((xs.getD ((k + 1) % xs.length) 0 : Nat) : Int)))
def isRingB (W : Ws) : D → Bool
  | .tup ds => decide (2 ≤ ds.length) && (allN W.length ds && ringB W (ds.map toN))
  | _ => false
theorem cast_nodup (xs : List Nat) : (xs.map fun k : Nat => (k : Int)).Nodup ↔ xs.Nodup := by
  rw [List.Nodup, List.pairwise_map, List.Nodup]
  constructor <;> intro h <;> refine h.imp ?_
  · intro a b h e; exact h (by rw [e])
  · intro a b h e; exact h (by omega)
theorem o_lenSetN {xs : List Nat} {Q : D → Prop} (hl : xs.length ≤ 4000) (q : Q (nE (ddI (xs.map fun k : Nat => (k : Int))).length)) : OrW (lenSetD [.tup (xs.map nE)]) Q := by
  have e : xs.map nE = (xs.map fun k : Nat => (k : Int)).map D.int := by rw [List.map_map]; rfl
  rw [e]
  exact o_lenSetT (by rw [List.length_map]; exact hl) q
theorem dd_dec (xs : List Nat) : decide ((ddI (xs.map fun k : Nat => (k : Int))).length = xs.length) = decide xs.Nodup := by
  have := ddI_len (xs.map fun k : Nat => (k : Int))
  rw [List.length_map] at this
  rw [this]
  exact decide_eq_decide.mpr (cast_nodup xs)
theorem getD0_mem {xs : List Nat} (h : 0 < xs.length) : xs.getD 0 0 ∈ xs := by
  rw [getD_eq 0 h]; exact List.getElem_mem h
theorem getD_lt {xs : List Nat} {n k : Nat} (h : ∀ x ∈ xs, x < n) (hk : k < xs.length) : xs.getD k 0 < n := by
  rw [getD_eq 0 hk]; exact h _ (List.getElem_mem hk)
theorem o_eqWN {o : Option Int} {i : Nat} {Q : D → Prop} (q : Q (.bl (decide (o = some (i : Int))))) : OrW (opEq (eW o) (nE i)) Q := o_eqW q
theorem o_modN {a n : Nat} {Q : D → Prop} (h : 0 < n) (q : Q (nE (a % n))) : OrW (opMod (.int (a : Int)) (.int (n : Int))) Q := by
  refine .of ?_ q
  rw [opMod, if_pos (by omega), Int.fmod_eq_emod_of_nonneg _ (by omega)]
  rfl
theorem cast_min {xs : List Nat} (h : 0 < xs.length) : decide (((xs.getD 0 default : Nat) : Int) = minI (xs.map fun k : Nat => (k : Int))) = decide (∀ x ∈ xs, xs.getD 0 0 ≤ x) := by
  have := minI_dec (getD0_mem h)
  rw [← this]
  exact decide_eq_decide.mpr ⟨fun e => e.symm, fun e => e.symm⟩
local macro_rules | `(tactic| walk_at "v1") => `(tactic| with_reducible (first | refine o_lenSetN ?_ ?_ | refine o_minTN ?_ ?_ | refine o_eqWN ?_ | refine o_modN ?_ ?_))
theorem w_is_ring {W : Ws} {v : D} {Q : D → Prop} (ok : Ok W) (hv : v.plain = true) (hlv : lenT v ≤ 4000) (q : Q (.bl (isRingB W v))) : Fw f_is_ring [tW W, v] Q := by
  refine fw_rt ?_
  cases v with
  | tup ds =>
    have e1 : isRingB W (.tup ds) = (decide (2 ≤ ds.length) && (allN W.length ds && ringB W (ds.map toN))) := rfl
    walk_at "v"
    refine brD (fun h2 => ?_) fun h2 => ?_
    · rw [e1, decide_eq_false (by omega)] at q
      walk_at "v"
      exact q
    have hpos : 0 < ds.length := by omega
    have hle : ds.length ≤ 4000 := hlv
    rw [e1, decide_eq_true (by omega), Bool.true_and] at q
    walk_at "v"
    · rename_i d hd
      refine w_is_number (plain_mem' hv hd) ?_
      walk_at "v"
    walk_at "v"
    cases hN : allN W.length ds with
    | false =>
      rw [hN] at q
      refine brT (by unfold allN at hN; rw [hN]; rfl) ?_
      walk_at "v"
      exact q
    | true =>
      rw [hN, Bool.true_and] at q
      refine brF (by unfold allN at hN; rw [hN]; rfl) ?_
      obtain ⟨exs, hlt⟩ := allN_of hN
      have hln : (ds.map toN).length = ds.length := List.length_map _
      generalize ds.map toN = xs at *
      subst exs
      rw [← hln] at hpos hle
      have hne : xs ≠ [] := fun e => by rw [e] at hpos; cases hpos
      walk_at "v"
      · exact hne
      rw [dd_dec, cast_min hpos]
      unfold ringB at q
      cases h1 : decide xs.Nodup with
      | false =>
        refine brT rfl ?_
        rw [h1] at q
        walk_at "v"
        exact q
      | true =>
        cases h2 : decide (∀ x ∈ xs, xs.getD 0 0 ≤ x) with
        | false =>
          refine brT rfl ?_
          rw [h1, h2] at q
          walk_at "v"
          exact q
        | true =>
          refine brF rfl ?_
          rw [h1, h2] at q
          walk_at "v"
          · exact getD_lt hlt (by assumption)
          · exact Nat.mod_lt _ hpos
          exact q
  | dct _ => cases hv
  | tok _ => cases hv
  | _ =>
    refine sw_seq (sw_ifB (tw_orT (fun b => ⟨_, b, rfl, rfl⟩) (brT rfl ?_)))
    walk_at "v"
    exact q
theorem rot_getD {xs : List Nat} {k : Nat} (hk : k < xs.length) : (xs.drop 1 ++ xs.take 1).getD k 0 = xs.getD ((k + 1) % xs.length) 0 := by
  rw [List.getD_eq_getElem?_getD, List.getD_eq_getElem?_getD]
  by_cases h : k + 1 < xs.length
  · rw [Nat.mod_eq_of_lt h, List.getElem?_append_left (by rw [List.length_drop]; omega), List.getElem?_drop, Nat.add_comm]
  · have e : k + 1 = xs.length := by omega
    rw [e, Nat.mod_self, List.getElem?_append_right (by rw [List.length_drop]; omega), List.length_drop, show k - (xs.length - 1) = 0 by omega, List.getElem?_take]
    simp
theorem w_lring {W : Ws} {v : D} {Q : D → Prop} (ok : Ok W) (hv : v.plain = true) (hlv : lenT v ≤ 4000) (q : Q (.bl (isRingB W v))) : Fw f_law_is_ring [tW W, v] Q := by
  refine fw_rt ?_
  cases v with
  | tup ds =>
    have e1 : isRingB W (.tup ds) = (decide (2 ≤ ds.length) && (allN W.length ds && ringB W (ds.map toN))) := rfl
    have hle : ds.length ≤ 4000 := hlv
    refine sw_seq (sw_ifB (tw_orF (tw_not (tw_of (ew_un (ew_bor rfl (o_isTupT (x_tb ⟨rfl, ?_⟩))))))))
    by_cases h2 : (ds.length : Int) < 2
    · rw [e1, decide_eq_false (by omega)] at q
      refine tw_orT ?_ (brT rfl ?_)
      · walk_at "v"
        exact decide_eq_true h2
      walk_at "v"
      exact q
    have hpos : 0 < ds.length := by omega
    rw [e1, decide_eq_true (by omega), Bool.true_and] at q
    refine tw_orF (tw_bl (ew_bin (ew_fn (aw_cons (ew_bor rfl (aw_nil (o_lenT (ew_con (o_lt ⟨_, rfl, decide_eq_false h2, ?_⟩)))))))))
    refine tw_not (tw_of (ew_fn (aw_cons (ew_lcM ds (fun d => d) (fun d => .bl (numB d 0 ((W.length : Int) - 1))) ?_ ?_ (aw_nil (o_all (x_tb ?_)))))))
    · walk_at "v"
    · exact fun d hd => ⟨_, rfl, ew_okroom rfl rfl (plain_mem' hv hd)⟩
    cases hN : allN W.length ds with
    | false =>
      rw [hN] at q
      refine brT (by unfold allN at hN; rw [hN]; rfl) ?_
      walk_at "v"
      exact q
    | true =>
      rw [hN, Bool.true_and] at q
      refine brF (by unfold allN at hN; rw [hN]; rfl) ?_
      obtain ⟨exs, hlt⟩ := allN_of hN
      have hln : (ds.map toN).length = ds.length := List.length_map _
      generalize ds.map toN = xs at *
      subst exs
      rw [← hln] at hpos hle
      have hne : xs ≠ [] := fun e => by rw [e] at hpos; cases hpos
      refine sw_nx ?_
      refine sw_seq (sw_setV (tN (xs.drop 1 ++ xs.take 1)) ?_ ?_)
      · walk_at "v"
        · have h1 := cutD_len (xs.map nE) (some 1) none
          have h2 := cutD_len (xs.map nE) none (some 1)
          rw [List.length_map] at h1 h2
          omega
        · rw [cut_drop _ _ (by omega), cut_take _ _ (by omega), ← List.map_append]; rfl
      walk_at "v"
      · exact hne
      · exact getD_lt hlt (by assumption)
      · rw [List.length_append, List.length_drop, List.length_take]; omega
      · refine w_ls (gd_eW _) rfl (by rw [dep_eW]; decide) ?_
        walk_at "v"
      · walk_at "v"
      · rfl
      · rw [dd_dec, show xs.getD 0 default = xs.getD 0 0 from rfl, minI_dec (getD0_mem hpos), any_not (g := fun k => decide (at_ W (xs.getD k 0) = some ((xs.getD ((k + 1) % xs.length) 0 : Nat) : Int))) fun k hk => ?_]
        · exact q
        · show decide (eW _ = nE ((xs.drop 1 ++ xs.take 1).getD k 0)) = _
          rw [rot_getD hk]
          exact decide_eq_decide.mpr eW_eq
  | dct _ => cases hv
  | tok _ => cases hv
  | _ =>
    refine sw_seq (sw_ifB (tw_orT (fun b => ⟨_, b, rfl, rfl⟩) (brT rfl ?_)))
    walk_at "v"
    exact q
end K82

set_option maxHeartbeats 1000000
namespace K82
open Sv
open PySem (Str PyData)
local macro_rules | `(tactic| walk_at "v1") => `(tactic| first | with_reducible (first | refine sw_seq ?_ | refine sw_set ?_ | refine sw_new ?_ | refine sw_asg ?_ | refine sw_rt ?_ | refine sw_ret ?_ | refine sw_ifB ?_ | refine sw_par ?_ | refine sw_nx ?_ | refine sw_exprM ?_ | refine kw_nil ?_ | refine kw_frz ?_ | refine kw_new ?_ | refine ew_con ?_ | refine ew_bin ?_ | refine ew_un ?_ | refine ew_tup ?_ | refine ew_lst ?_ | refine ew_fn ?_ | refine ew_call ?_ | refine ew_callO ?_ | refine ew_not ?_ | refine ew_chain ?_ | refine ew_slice ?_ | refine ow_none ?_ | refine ow_some ?_ | refine tw_bl ?_ | refine tw_of ?_ | refine tw_not ?_ | refine tw_yes ?_ | refine aw_nil ?_ | refine aw_cons ?_ | refine iw_seq ?_ | refine iw_enum ?_ | refine iw_zip ?_ | refine iw_rangeI ?_ | (apply ew_andC) | (apply ew_orC) | (apply tw_andC) | (apply tw_orC) | (apply ew_lcM') | (apply ew_lc') | exact rfl | exact cut_last _ _ | exact mapI _) | ((with_reducible apply ew_var); exact rfl) | ((with_reducible apply ew_bor); exact rfl) | ((with_reducible apply ew_borO); exact rfl) | with_reducible (first | refine o_eqN ?_ | refine o_neN ?_ | refine o_ltN ?_ | refine o_gtN ?_ | refine o_leN ?_ | refine o_geN ?_ | refine o_inN ?_ | refine o_ninN ?_ | refine o_inNL ?_ | refine o_ninNL ?_ | refine o_lenTm ?_ | refine o_lenLm ?_ | refine o_addN ?_ | refine o_addN1 ?_ | refine o_subN (by first | assumption | omega) ?_ | refine o_subN1 (by first | assumption | omega) ?_ | refine o_sumI ?_ | refine o_sumTI ?_ | refine o_ix0 ?_ | refine o_ix1 ?_ | refine o_ix2 ?_ | refine o_ix3 ?_ | refine o_ixT0 ?_ ?_ | refine o_ixL0 ?_ ?_ | refine o_ixT1 ?_ ?_ | refine o_isTupT ?_ | refine o_ixTN ?_ ?_ | refine o_ixTI ?_ ?_ | refine o_ixLN ?_ ?_ | refine o_ixLI ?_ ?_ | refine o_ixTG ?_ ?_ | refine o_ixLG ?_ ?_ | refine o_ixTD0 ?_ ?_ | refine o_ixTD1 ?_ ?_ | refine o_ixTD2 ?_ ?_ | refine o_ixTD ?_ ?_ | refine o_ixLD ?_ ?_) | with_reducible (first | refine o_eqI ?_ | refine o_neI ?_ | refine o_lt ?_ | refine o_gt ?_ | refine o_le ?_ | refine o_ge ?_ | refine o_all ?_ | refine o_any ?_ | refine o_sum ?_ | refine o_addI ?_ | refine o_subI ?_ | refine o_lenT ?_ | refine o_lenL ?_ | refine o_tupL ?_ | refine o_tupT ?_ | refine o_listL ?_ | refine o_listT ?_ | refine o_negI ?_ | refine o_intI ?_ | refine o_slT ?_ | refine o_slL ?_ | refine o_revT ?_ | refine o_revL ?_ | refine x_n ?_ | refine x_int ?_ | refine x_bl ?_ | refine x_tb ?_ | refine x_itT ?_ | refine x_itL ?_ | refine x_rt ?_ | refine rngQ ?_ ?_ | refine x_trT ?_ | refine x_trL ?_ | refine x_tri ?_ | refine o_max2 ?_ | refine o_min2 ?_ | refine o_addTs ?_ ?_ | refine o_addLs ?_ ?_) | (with_reducible refine And.intro ?_ ?_) | refine dec_imp fun _ => ?_ | refine decF_imp fun _ => ?_ | with_reducible (first | refine ndF_imp fun _ => ?_ | refine ndT_imp fun _ => ?_ | refine nF_imp ?_ | refine nT_imp ?_ | refine orF_imp ?_ | refine andT_imp ?_) | refine tr_imp fun _ => ?_ | refine fa_imp fun _ => ?_ | (intro x hx; refine Exists.intro _ (And.intro rfl ?_); try (have hx := List.mem_range.mp hx)) | (refine sd_lt ?_; first | assumption | omega | (simp only [List.length_map, List.length_range, List.length_cons, List.length_nil, List.length_append, List.length_set] at *; omega)) | (refine sd_le ?_; first | assumption | omega | (simp only [List.length_map, List.length_range, List.length_cons, List.length_nil, List.length_append, List.length_set] at *; omega)))
local macro_rules | `(tactic| walk_at "v") => `(tactic| (repeat' (walk_at "v1")))
local macro_rules | `(tactic| walk_at "v1") => `(tactic| with_reducible (first | refine o_ixW ?_ ?_ | refine o_ixWL ?_ ?_ | refine o_isNW ?_ | refine o_notNW ?_ | refine o_eqW ?_ | refine o_neW ?_ | refine o_ltW ?_ ?_ | refine o_geW ?_ ?_ | refine o_gtW ?_ ?_ | refine o_ixWW ?_ ?_ ?_))
local macro_rules | `(tactic| walk_at "v1") => `(tactic| (refine sd_some ?_; assumption))
local macro_rules | `(tactic| walk_at "v1") => `(tactic| (with_reducible refine sd_ge ?_; omega))
local macro_rules | `(tactic| walk_at "v1") => `(tactic| with_reducible (first | refine o_ninWo ?_ ?_ ?_ | refine o_ixWX ?_ ?_))
local macro_rules | `(tactic| walk_at "v1") => `(tactic| with_reducible (first | refine o_ninWN ?_ | refine o_ninWI ?_))
local macro_rules | `(tactic| walk_at "v1") => `(tactic| (refine sn_some ?_; assumption))
local macro_rules | `(tactic| walk_at "v1") => `(tactic| with_reducible (first | refine o_inWo ?_ ?_ ?_ | refine o_minN ?_ ?_))
/-! ### are_wishes -/
def deW : D → Option Int
  | .int i => some i
  | _ => none
def isN : D → Bool
  | .non => true
  | _ => false
def okW (n : Nat) (d : D) : Bool := isN d || numB d (-1) ((n : Int) - 1)
theorem okW_of {n : Nat} {d : D} (h : okW n d = true) : d = eW (deW d) ∧ ∀ w, deW d = some w → -1 ≤ w ∧ w < n := by
  cases d with
  | int i =>
    simp only [okW, isN, numB, Bool.false_or, decide_eq_true_iff] at h
    exact ⟨rfl, fun w e => by cases e; omega⟩
  | non => exact ⟨rfl, fun w e => by cases e⟩
  | _ => simp [okW, isN, numB] at h
def posW (o : Option Int) : Bool := o.isSome && decide (0 ≤ o.getD 0)
def rooms (W : Ws) : List Int := (W.filter posW).map fun o => o.getD 0
def areB : D → Bool
  | .tup ds => decide (1 ≤ ds.length ∧ ds.length ≤ 24) && ((ds.all (okW ds.length)) && decide (rooms (ds.map deW)).Nodup)
  | _ => false
theorem oks {n : Nat} {ds : List D} (h : ds.all (okW n) = true) : ds = (ds.map deW).map eW := by
  rw [List.all_eq_true] at h
  rw [List.map_map]
  conv => lhs; rw [← List.map_id ds]
  exact List.map_congr_left fun d hd => (okW_of (h d hd)).1
theorem o_isNd {d : D} {Q : D → Prop} (hd : d.plain = true) (q : Q (.bl (isN d))) : OrW (opIsN2 d .non) Q := by
  cases d <;> first | exact .of rfl q | cases hd
theorem isNone_d {d : D} (h : isN d = true) : d = .non := by cases d <;> first | rfl | cases h
theorem ew_chainI {ρ : Rho} {Q : D → Prop} {f f' f'' : Ex} {a b c : Int} (h : Ew f ρ fun d => d = .int a) (h' : Ew f' ρ fun d => d = .int b) (h'' : Ew f'' ρ fun d => d = .int c) (q : Q (.bl (decide (a ≤ b ∧ b ≤ c)))) : Ew (eChain opLe opLe f f' f'') ρ Q :=
  ew_chain (h.mono fun d e => by
    subst e
    refine h'.mono fun d' e' => ?_
    subst e'
    refine ⟨!decide (b < a), rfl, fun k => h''.mono fun c' ec => ?_, fun k => ?_⟩
    · subst ec
      have k : ¬ b < a := by simpa using k
      refine .of (r := .bl (!decide (c < b))) rfl ?_
      rw [show decide (a ≤ b ∧ b ≤ c) = !decide (c < b) from by
        rw [Bool.eq_iff_iff]; simp; omega] at q
      exact q
    · have k : b < a := by simpa using k
      rw [show decide (a ≤ b ∧ b ≤ c) = false from decide_eq_false (by omega)] at q
      exact q)
/-- the outer test of both -/
theorem tw_len {ρ : Rho} {ds : List D} {Q : Bool → Prop} (e : ρ[0]? = some (Sl.frz (.tup ds))) (q : Q (!decide (1 ≤ ds.length ∧ ds.length ≤ 24))) : Tw (tOr (tNot (tOf (eUn (fun d => (isT d .tuple).map .bl) (eBor 0)))) (tNot (tBl (eChain opLe opLe (eCon (.int 1)) (eFn lenD (aCons (eBor 0) aNil)) (eCon (.int 24)))))) ρ Q := by
  refine tw_orF (tw_not (tw_of (ew_un (ew_bor e (o_isTupT (x_tb ⟨rfl, ?_⟩))))))
  refine tw_not (tw_bl (ew_chainI (ew_con rfl) (ew_fn (aw_cons (ew_bor e (aw_nil (o_lenT rfl))))) (ew_con rfl) ⟨_, rfl, ?_⟩))
  rw [show decide ((1 : Int) ≤ (ds.length : Int) ∧ (ds.length : Int) ≤ 24) = decide (1 ≤ ds.length ∧ ds.length ≤ 24) from decide_eq_decide.mpr (by omega)]
  exact q
theorem w_are {v : D} {Q : D → Prop} (hv : v.plain = true) (q : Q (.bl (areB v))) : Fw f_are_wishes [v] Q := by
  refine fw_rt ?_
  cases v with
  | tup ds =>
    have e1 : areB (.tup ds) = (decide (1 ≤ ds.length ∧ ds.length ≤ 24) && ((ds.all (okW ds.length)) && decide (rooms (ds.map deW)).Nodup)) := rfl
    refine sw_seq (sw_ifB (tw_len rfl ?_))
    cases hL : decide (1 ≤ ds.length ∧ ds.length ≤ 24) with
    | false =>
      rw [e1, hL] at q
      refine brT rfl ?_
      walk_at "v"
      exact q
    | true =>
      have hL := of_decide_eq_true hL
      rw [e1, decide_eq_true hL, Bool.true_and] at q
      refine brF rfl ?_
      refine sw_nx (sw_seq (sw_ifB (tw_not (tw_of (ew_fn (aw_cons (ew_lcM ds (fun d => d) (fun d => .bl (okW ds.length d)) ?_ (fun d hd => ⟨_, rfl, ?_⟩) (aw_nil (o_all (x_tb ?_))))))))))
      · walk_at "v"
      · have hp := plain_mem' hv hd
        refine ew_orC (ew_bin (ew_bor rfl (ew_con (o_isNd hp ⟨_, rfl, fun _ => ?_, rfl⟩))))
        walk_at "v"
        have en : ((ds.length - 1 : Nat) : Int) = (ds.length : Int) - 1 := by omega
        exact w_is_number hp (by rw [en])
      · cases hN : ds.all (okW ds.length) with
        | false =>
          rw [hN] at q
          refine brT rfl ?_
          walk_at "v"
          exact q
        | true =>
          rw [hN, Bool.true_and] at q
          refine brF rfl ?_
          have eds := oks hN
          generalize ds.map deW = W at *
          have hlW : W.length = ds.length := by rw [eds, List.length_map]
          have hlr : (rooms W).length ≤ W.length := by unfold rooms; rw [List.length_map]; exact List.length_filter_le _ _
          rw [eds]
          refine sw_nx (sw_seq (sw_setV (.lst ((rooms W).map D.int)) ?_ ?_))
          · refine ew_lc W eW posW (fun o => .int (o.getD 0)) ?_ (fun o ho => ⟨_, rfl, ?_⟩) ?_
            · walk_at "v"
            · walk_at "v"
              · rfl
              · rename_i h _
                cases o with
                | none => simp [posW] at h
                | some w => rfl
            · unfold rooms; rw [List.map_map]; rfl
          · walk_at "v"
            refine o_lenSetL (by omega) ?_
            walk_at "v"
            rw [ddI_len]
            exact q
  | dct _ => cases hv
  | tok _ => cases hv
  | _ =>
    refine sw_seq (sw_ifB (tw_orT (fun b => ⟨_, b, rfl, rfl⟩) (brT rfl ?_)))
    walk_at "v"
    exact q
theorem rooms_app (a b : Ws) : rooms (a ++ b) = rooms a ++ rooms b := by unfold rooms; rw [List.filter_append, List.map_append]
theorem w_lare {v : D} {Q : D → Prop} (hv : v.plain = true) (q : Q (.bl (areB v))) : Fw f_law_are [v] Q := by
  refine fw_rt ?_
  cases v with
  | tup ds =>
    have e1 : areB (.tup ds) = (decide (1 ≤ ds.length ∧ ds.length ≤ 24) && ((ds.all (okW ds.length)) && decide (rooms (ds.map deW)).Nodup)) := rfl
    refine sw_seq (sw_ifB (tw_len rfl ?_))
    cases hL : decide (1 ≤ ds.length ∧ ds.length ≤ 24) with
    | false =>
      rw [e1, hL] at q
      refine brT rfl ?_
      walk_at "v"
      exact q
    | true =>
      have hL := of_decide_eq_true hL
      rw [e1, decide_eq_true hL, Bool.true_and] at q
      refine brF rfl ?_
      refine sw_nx (sw_seq (sw_setV (.lst (([] : List Int).map D.int)) (ew_lst (aw_nil rfl)) ?_))
      refine sw_seq (sw_forP ds (fun d => d) (fun pre ρ => ∃ (x2 : Sl), ρ = [Sl.frz (.tup ds), .frz (.lst ((rooms (pre.map deW)).map D.int)), x2] ∧ (pre.all (okW ds.length)) = true ∧ (rooms (pre.map deW)).Nodup) ?_ ⟨.emp, rfl, rfl, List.nodup_nil⟩ ?_ ?_)
      · walk_at "v"
      · rintro pre d post _ hx ⟨x2, rfl, hok, hnd⟩
        have hd : d ∈ ds := by rw [hx]; simp
        have hp := plain_mem' hv hd
        refine ⟨_, rfl, ?_⟩
        have bad : okW ds.length d = false → Q (.bl false) := fun h => by
          have : ds.all (okW ds.length) = false := by
            rw [List.all_eq_false]
            exact ⟨d, hd, by rw [h]; decide⟩
          rw [this] at q
          exact q
        have good : okW ds.length d = true → (rooms (pre.map deW ++ [deW d])).Nodup → (((pre ++ [d]).all (okW ds.length)) = true ∧ (rooms ((pre ++ [d]).map deW)).Nodup) := fun h h2 => by
          rw [List.all_append, List.map_append, hok]
          exact ⟨by simp [h], h2⟩
        cases d with
        | non =>
          refine sw_ifB (tw_bl (ew_bin (ew_bor rfl (ew_con (.of rfl ⟨false, rfl, brF rfl (sw_nx ⟨.frz .non, ?_⟩)⟩)))))
          have g := good rfl (by rw [rooms_app]; simpa [rooms, deW, posW] using hnd)
          have e2 : rooms ((pre ++ [D.non]).map deW) = rooms (pre.map deW) := by
            rw [List.map_append, rooms_app]; exact List.append_nil _
          exact ⟨by rw [e2]; rfl, g⟩
        | int w =>
          refine sw_ifB (tw_bl (ew_bin (ew_bor rfl (ew_con (.of rfl ⟨true, rfl, brT rfl ?_⟩)))))
          refine sw_seq (sw_ifB (tw_orF (tw_not (tw_of (ew_un (ew_bor rfl ⟨_, rfl, true, rfl, rfl, ?_⟩))))))
          refine tw_orF (tw_of (ew_un (ew_bor rfl ⟨_, rfl, false, rfl, rfl, ?_⟩)))
          walk_at "v"
          · refine o_inL enc_int ?_
            walk_at "v"
          · rfl
          by_cases hr : -1 ≤ w ∧ w < ds.length
          · have hk : okW ds.length (D.int w) = true := by
              simp only [okW, isN, numB, Bool.false_or, decide_eq_true_iff]; omega
            have er : rooms [deW (D.int w)] = if 0 ≤ w then [w] else [] := by
              by_cases h0 : 0 ≤ w <;> simp [rooms, deW, posW, h0]
            by_cases hin : w ∈ rooms (pre.map deW)
            · refine brT (by rw [decide_eq_true hin, Bool.or_true, Bool.or_true]) ?_
              walk_at "v"
              have h0 : 0 ≤ w := by
                obtain ⟨o, ho, e⟩ := List.mem_map.mp hin
                have := (List.mem_filter.mp ho).2
                simp only [posW, Bool.and_eq_true, decide_eq_true_iff] at this
                omega
              rw [if_pos h0] at er
              have : ¬ (rooms (ds.map deW)).Nodup := fun z => by
                rw [hx, List.map_append, rooms_app, List.nodup_append] at z
                refine z.2.2 w hin w ?_ rfl
                rw [List.map_cons, show deW (D.int w) :: post.map deW = [deW (D.int w)] ++ post.map deW from rfl, rooms_app, er]
                simp
              rw [decide_eq_false this, Bool.and_false] at q
              exact q
            · refine brF (by rw [decide_eq_false hin, decide_eq_false (by omega), decide_eq_false (by omega)]; rfl) ?_
              have g := good hk (by
                rw [rooms_app, er]
                split
                · rw [List.nodup_append]
                  exact ⟨hnd, by simp, fun a ha b hb => by rw [List.mem_singleton.mp hb]; exact fun e => hin (e ▸ ha)⟩
                · rw [List.append_nil]; exact hnd)
              have e2 : rooms ((pre ++ [D.int w]).map deW) = rooms (pre.map deW) ++ if 0 ≤ w then [w] else [] := by
                rw [List.map_append, rooms_app, ← er]; rfl
              have hpl : (rooms (pre.map deW)).length ≤ 24 := by
                have h1 : (rooms (pre.map deW)).length ≤ (pre.map deW).length := by unfold rooms; rw [List.length_map]; exact List.length_filter_le _ _
                have h2 : pre.length ≤ ds.length := by rw [hx]; simp
                rw [List.length_map] at h1
                omega
              have hsz : (1000000 : Nat) ≤ PySem.sizeLine := by rw [PySem.sizeLine_eq]; omega
              refine sw_nx (sw_set (ew_bin (ew_bor rfl (ew_ifB (tw_bl (ew_bin (ew_bor rfl (ew_con (o_ge ⟨_, rfl, brD (fun h0 => ?_) fun h0 => ?_⟩)))))))))
              · refine ew_lst (aw_cons (ew_var (d := .int w) rfl (aw_nil (o_addL (by rw [List.length_map]; simp; omega) ⟨.frz (.int w), ?_, g⟩))))
                rw [e2, if_pos h0, List.map_append]; rfl
              · refine ew_lst (aw_nil (o_addL (by rw [List.length_map]; simp; omega) ⟨.frz (.int w), ?_, g⟩))
                rw [e2, if_neg h0, List.map_append]; rfl
          · have hb : okW ds.length (D.int w) = false := by
              simp only [okW, isN, numB, Bool.false_or, decide_eq_false_iff_not]; omega
            refine br (fun _ => ?_) fun h => ?_
            · walk_at "v"
              exact bad hb
            · exfalso
              simp only [Bool.or_eq_false_iff, decide_eq_false_iff_not] at h
              omega
        | dct _ => cases hp
        | tok _ => cases hp
        | bl k =>
          refine sw_ifB (tw_bl (ew_bin (ew_bor rfl (ew_con (.of rfl ⟨true, rfl, brT rfl ?_⟩)))))
          refine sw_seq (sw_ifB (tw_orF (tw_not (tw_of (ew_un (ew_bor rfl ⟨_, rfl, true, rfl, rfl, ?_⟩))))))
          refine tw_orT (tw_of (ew_un (ew_bor rfl ⟨_, rfl, true, rfl, rfl⟩))) (brT rfl ?_)
          walk_at "v"
          exact bad rfl
        | _ =>
          refine sw_ifB (tw_bl (ew_bin (ew_bor rfl (ew_con (.of rfl ⟨true, rfl, brT rfl ?_⟩)))))
          refine sw_seq (sw_ifB (tw_orT (tw_not (tw_of (ew_un (ew_bor rfl ⟨_, rfl, false, rfl, rfl⟩)))) (brT rfl ?_)))
          walk_at "v"
          exact bad rfl
      · rintro _ ⟨x2, rfl, hok, hnd⟩
        walk_at "v"
        rw [hok, decide_eq_true hnd] at q
        exact q
  | dct _ => cases hv
  | tok _ => cases hv
  | _ =>
    refine sw_seq (sw_ifB (tw_orT (fun b => ⟨_, b, rfl, rfl⟩) (brT rfl ?_)))
    walk_at "v"
    exact q
/-! ### _law_wishes -/
structure Dr (n k : Nat) (left : List Nat) (W : Ws) : Prop where
  len : W.length = k
  ll : n ≤ left.length + k
  nd : left.Nodup
  lt : ∀ x ∈ left, x < n
  bd : ∀ j w, at_ W j = some w → -1 ≤ w ∧ w < n ∧ w.toNat ∉ left ∨ w = -1
  inj : ∀ i j w, 0 ≤ w → at_ W i = some w → at_ W j = some w → i = j
theorem at_snoc (W : Ws) (o : Option Int) (j : Nat) : at_ (W ++ [o]) j = if j < W.length then at_ W j else if j = W.length then o else none := by
  unfold at_
  rw [List.getD_eq_getElem?_getD, List.getD_eq_getElem?_getD]
  by_cases h : j < W.length
  · rw [if_pos h, List.getElem?_append_left h]
  · rw [if_neg h, List.getElem?_append_right (by omega)]
    by_cases h2 : j = W.length
    · subst h2; simp
    · rw [if_neg h2, List.getElem?_eq_none (by simp; omega)]; rfl
theorem Dr.start {n : Nat} : Dr n 0 (List.range n) [] := ⟨rfl, by simp, List.nodup_range, fun x h => List.mem_range.mp h, fun j w h => by simp [at_] at h, fun i j w _ h => by simp [at_] at h⟩
theorem Dr.low {n k : Nat} {left : List Nat} {W : Ws} (h : Dr n k left W) {o : Option Int} (ho : o = none ∨ o = some (-1)) : Dr n (k + 1) left (W ++ [o]) := by
  refine ⟨by rw [List.length_append, h.len]; rfl, by have := h.ll; omega, h.nd, h.lt, fun j w e => ?_, fun i j w h0 e1 e2 => ?_⟩
  · rw [at_snoc] at e
    split at e
    · exact h.bd j w e
    · split at e
      · rcases ho with ho | ho
        · rw [ho] at e; cases e
        · rw [ho] at e; cases e; exact .inr rfl
      · cases e
  · rw [at_snoc] at e1 e2
    have no : o ≠ some w := fun z => by
      rcases ho with ho | ho
      · rw [ho] at z; cases z
      · rw [ho] at z; cases z; omega
    split at e1
    · split at e2
      · exact h.inj i j w h0 e1 e2
      · split at e2
        · exact absurd e2 no
        · cases e2
    · split at e1
      · exact absurd e1 no
      · cases e1
theorem Dr.pop {n k i : Nat} {left : List Nat} {W : Ws} (h : Dr n k left W) (hi : i < left.length) : Dr n (k + 1) (left.eraseIdx i) (W ++ [some ((left[i] : Nat) : Int)]) := by
  have hx := h.lt _ (List.getElem_mem hi)
  have nin : left[i] ∉ left.eraseIdx i := fun z => by
    obtain ⟨j, hj, e⟩ := List.getElem_of_mem z
    rw [List.length_eraseIdx_of_lt hi] at hj
    rw [List.getElem_eraseIdx] at e
    split at e
    · have := (List.getElem_inj h.nd).mp e; omega
    · have := (List.getElem_inj h.nd).mp e; omega
  have sub : ∀ x, x ∈ left.eraseIdx i → x ∈ left := fun x hx => List.mem_of_mem_eraseIdx hx
  have old : ∀ j, j < W.length → ∀ w, at_ W j = some w → 0 ≤ w → w ≠ ((left[i] : Nat) : Int) := fun j hj w e h0 z => by
    rcases h.bd j w e with hb | hb
    · exact hb.2.2 (by rw [z, Int.toNat_natCast]; exact List.getElem_mem hi)
    · omega
  refine ⟨by rw [List.length_append, h.len]; rfl, by have := h.ll; rw [List.length_eraseIdx_of_lt hi]; omega, h.nd.sublist (List.eraseIdx_sublist _ _), fun x hx => h.lt x (sub x hx), fun j w e => ?_, fun a b w h0 e1 e2 => ?_⟩
  · rw [at_snoc] at e
    split at e
    · rcases h.bd j w e with hb | hb
      · exact .inl ⟨hb.1, hb.2.1, fun z => hb.2.2 (sub _ z)⟩
      · exact .inr hb
    · split at e
      · cases e
        exact .inl ⟨by omega, by omega, by rw [Int.toNat_natCast]; exact nin⟩
      · cases e
  · rw [at_snoc] at e1 e2
    split at e1
    · rename_i ha
      split at e2
      · exact h.inj a b w h0 e1 e2
      · split at e2
        · cases e2; exact absurd rfl (old a ha _ e1 h0)
        · cases e2
    · split at e1
      · cases e1
        split at e2
        · rename_i hb
          exact absurd rfl (old b hb _ e2 h0)
        · split at e2
          · omega
          · cases e2
      · cases e1
theorem Dr.ok {n : Nat} {left : List Nat} {W : Ws} (h : Dr n n left W) (hn : 0 < n) : Ok W ∧ W.length = n := by
  refine ⟨⟨fun j w e => ?_, h.inj⟩, h.len⟩
  rw [h.len]
  rcases h.bd j w e with hb | hb
  · exact ⟨hb.1, hb.2.1⟩
  · omega
theorem eraseIdx_map' {α β : Type} (f : α → β) : ∀ (xs : List α) (i : Nat), (xs.map f).eraseIdx i = (xs.eraseIdx i).map f
  | [], _ => rfl
  | _ :: _, 0 => rfl
  | x :: xs, i + 1 => by rw [List.map_cons, List.eraseIdx_cons_succ, List.eraseIdx_cons_succ, List.map_cons, eraseIdx_map' f xs i]
theorem w_wishes {n : Nat} {Q : D → Prop} (h0 : 0 < n) (hn : n ≤ 1000) (q : ∀ W : Ws, Ok W → W.length = n → Q (tW W)) : Fw f_law_wishes [.tok 0, nE n] Q := by
  refine fw_rt ?_
  refine sw_seq (sw_par (kw_new (ew_fn (aw_cons (ew_var (d := nE n) rfl (aw_nil (.of (rlD_nat (by omega)) (kw_new (ew_lst (aw_nil (kw_nil ?_)))))))))))
  refine sw_seq (sw_forR n nE (fun k ρ => ∃ (left : List Nat) (W : Ws) (x4 x5 : Sl), ρ = [Sl.frz (.tok 0), .frz (nE n), .own (lN left), .own (.lst (W.map eW)), x4, x5] ∧ Dr n k left W) ?_ ⟨List.range n, [], .emp, .emp, rfl, Dr.start⟩ ?_ ?_)
  · walk_at "v"
  · rintro k hk _ ⟨left, W, x4, x5, rfl, h⟩
    have hll := h.ll
    have hle := nodup_le h.nd h.lt
    refine ⟨_, rfl, ?_⟩
    walk_at "v"
    have hlW := h.len
    refine fw_drawN (n := 8) (by decide) (by decide) fun i hi => ?_
    walk_at "v"
    refine brD (fun _ => ?_) fun _ => ?_
    · exact sw_exprM (mw_app (e := eW) (xs := W) rfl (by omega) (ew_con ⟨none, rfl, left, W ++ [none], _, _, rfl, h.low (.inl rfl)⟩))
    · walk_at "v"
      refine brD (fun _ => ?_) fun _ => ?_
      · exact sw_exprM (mw_app (e := eW) (xs := W) rfl (by omega) (ew_un (ew_con (o_negI ⟨some (-1), rfl, left, W ++ [some (-1)], _, _, rfl, h.low (.inr rfl)⟩))))
      · refine sw_exprM (mw_meth rfl (maw_one (mw_meth rfl (maw_one (mw_up ?_)))))
        walk_at "v"
        refine fw_drawN (n := left.length) (by omega) (by omega) fun i hi => ?_
        have hix : L2.ixN (left.map nE).length (i : Int) = some i := by
          unfold L2.ixN
          rw [List.length_map, if_pos (by omega), if_pos (by omega)]; simp
        refine ⟨left.map nE, nE left[i], (left.eraseIdx i).map nE, rfl, ?_, W.map eW, .non, (W ++ [some ((left[i] : Nat) : Int)]).map eW, rfl, ?_, left.eraseIdx i, _, _, _, rfl, h.pop hi⟩
        · rw [kPopAt, hix]
          simp only [List.getElem?_map, List.getElem?_eq_getElem hi, Option.map_some, eraseIdx_map']
        · rw [kApp, if_pos (by rw [List.length_map, PySem.sizeLine_eq]; omega), List.map_append]
          rfl
  · rintro _ ⟨left, W, x4, x5, rfl, h⟩
    walk_at "v"
    have := h.ok h0
    exact q W this.1 this.2
end K82

set_option maxHeartbeats 1000000
/-! k82: the least number of goings over other rooms; all small cases looked at -/
namespace K82
def vals (n : Nat) : List (Option Int) := none :: some (-1) :: (List.range n).map fun k => some ((k : Nat) : Int)
def allL (vs : List (Option Int)) : Nat → List Ws
  | 0 => [[]]
  | k + 1 => vs.flatMap fun v => (allL vs k).map fun l => v :: l
theorem allL_mem {vs : List (Option Int)} : ∀ (W : Ws), (∀ o ∈ W, o ∈ vs) → W ∈ allL vs W.length
  | [], _ => by simp [allL]
  | o :: W, h => by
    rw [List.length_cons, allL, List.mem_flatMap]
    exact ⟨o, h o List.mem_cons_self, List.mem_map.mpr ⟨W, allL_mem W fun x hx => h x (List.mem_cons_of_mem _ hx), rfl⟩⟩
def injB (W : Ws) : Bool := (List.range W.length).all fun i => (List.range W.length).all fun j => decide (i = j) || !(decide (at_ W i = at_ W j)) || (match at_ W i with | some w => decide (w < 0) | none => true)
def phi (W : Ws) : Nat := (movers W).length + (rings W).length
def stuck (W : Ws) : Bool := !(rings W).isEmpty && (!decide (none ∈ W) && !decide (some (-1) ∈ W))
def moveC (C : Ws) (a : Nat) (to : Int) : Ws := if 0 ≤ to then (C.set a none).set to.toNat (at_ C a) else C.set a none
def free (C : Ws) : List Nat := (List.range C.length).filter fun t => (at_ C t).isNone
def tos (C : Ws) (a : Nat) : List Int := (free C).map (fun t : Nat => (t : Int)) ++ (if at_ C a = some (-1) then [-1] else [])
def succC (C : Ws) : List Ws := (List.range C.length).flatMap fun a => if (at_ C a).isSome = true then (tos C a).map (moveC C a) else []
def checkC (C : Ws) : Bool := (succC C).all (fun D => decide (phi C ≤ phi D + 1)) && (stuck C || decide (phi C = 0) || (succC C).any fun D => decide (phi D + 1 = phi C) && !stuck D)
set_option maxRecDepth 1000000 in
theorem check1 : (allL (vals 1) 1).all (fun C => !injB C || checkC C) = true := by decide +kernel
set_option maxRecDepth 1000000 in
theorem check2 : (allL (vals 2) 2).all (fun C => !injB C || checkC C) = true := by decide +kernel
set_option maxRecDepth 1000000 in
theorem check3 : (allL (vals 3) 3).all (fun C => !injB C || checkC C) = true := by decide +kernel
set_option maxRecDepth 1000000 in
theorem check4 : (allL (vals 4) 4).all (fun C => !injB C || checkC C) = true := by decide +kernel
theorem injB_of {C : Ws} (ok : Ok C) : injB C = true := by
  unfold injB
  rw [List.all_eq_true]
  intro i _
  rw [List.all_eq_true]
  intro j _
  by_cases hij : i = j
  · simp [hij]
  by_cases h : at_ C i = at_ C j
  · cases e : at_ C i with
    | none => simp
    | some w =>
      have : w < 0 := by
        refine Int.lt_of_not_ge fun h0 => hij (ok.inj i j w h0 e (by rw [← h, e]))
      simp [this]
  · simp [h]
theorem mem_at {C : Ws} {o : Option Int} (h : o ∈ C) : ∃ j, j < C.length ∧ at_ C j = o := by
  obtain ⟨j, hj, e⟩ := List.getElem_of_mem h
  exact ⟨j, hj, by unfold at_; rw [List.getD_eq_getElem?_getD, List.getElem?_eq_getElem hj, e]; rfl⟩
theorem vals_of {C : Ws} (ok : Ok C) : C ∈ allL (vals C.length) C.length := allL_mem C fun o ho => by
  obtain ⟨j, hj, e⟩ := mem_at ho
  cases o with
  | none => simp [vals]
  | some w =>
    have := ok.bd j w e
    by_cases h : w = -1
    · subst h; simp [vals]
    · have hw : w = ((w.toNat : Nat) : Int) := by omega
      rw [vals, hw]
      exact List.mem_cons_of_mem _ (List.mem_cons_of_mem _ (List.mem_map.mpr ⟨w.toNat, List.mem_range.mpr (by omega), rfl⟩))
theorem check_of {C : Ws} (ok : Ok C) (h1 : 0 < C.length) (h4 : C.length ≤ 4) : checkC C = true := by
  have hm := vals_of ok
  have hi := injB_of ok
  have go : ∀ {n : Nat}, (allL (vals n) n).all (fun C => !injB C || checkC C) = true → C.length = n → checkC C = true := fun {n} h e => by
    subst e
    have := List.all_eq_true.mp h C hm
    rw [hi] at this
    simpa using this
  rcases (by omega : C.length = 1 ∨ C.length = 2 ∨ C.length = 3 ∨ C.length = 4) with e | e | e | e
  · exact go check1 e
  · exact go check2 e
  · exact go check3 e
  · exact go check4 e
theorem phi0 {C : Ws} : phi C = 0 ↔ done C = true := by
  unfold phi
  constructor
  · intro h; exact done_iff.mpr (List.length_eq_zero_iff.mp (by omega))
  · intro h; rw [done_iff.mp h, done_rings h]; rfl
theorem at_set' (C : Ws) (r j : Nat) (v : Option Int) : at_ (C.set r v) j = if j = r ∧ r < C.length then v else at_ C j := by
  by_cases h : r < C.length
  · rw [at_set _ _ _ _ h]; simp [h]
  · rw [List.set_eq_of_length_le (by omega)]; simp [h]
end K82

set_option maxHeartbeats 1000000
/-! k82: the search by levels -/
namespace K82
/-- the wishes of those who stand -/
def cf (W st : Ws) : Ws := st.map fun o => o.bind fun k => at_ W k.toNat
theorem cf_at (W st : Ws) (r : Nat) : at_ (cf W st) r = (at_ st r).bind fun k => at_ W k.toNat := by
  unfold at_ cf
  rw [List.getD_eq_getElem?_getD, List.getD_eq_getElem?_getD, List.getElem?_map]
  cases st[r]? <;> rfl
theorem cf_len (W st : Ws) : (cf W st).length = st.length := List.length_map _
structure Val (W st : Ws) : Prop where
  len : st.length = W.length
  ent : ∀ r k, at_ st r = some k → 0 ≤ k ∧ k < W.length ∧ (at_ W k.toNat).isSome = true
  inj : ∀ r r' k, at_ st r = some k → at_ st r' = some k → r = r'
theorem cf_some {W st : Ws} (v : Val W st) (r : Nat) : (at_ (cf W st) r).isSome = (at_ st r).isSome := by
  rw [cf_at]
  cases e : at_ st r with
  | none => rfl
  | some k => exact (v.ent r k e).2.2
theorem cf_free {W st : Ws} (v : Val W st) : free (cf W st) = free st := by
  unfold free
  rw [cf_len]
  refine List.filter_congr fun t _ => ?_
  have := cf_some v t
  cases h1 : at_ (cf W st) t <;> cases h2 : at_ st t <;> simp_all
theorem cf_move (W st : Ws) (a : Nat) (to : Int) : cf W (moveC st a to) = moveC (cf W st) a to := by
  unfold moveC
  rw [cf_at]
  split
  · unfold cf; rw [List.map_set, List.map_set]; rfl
  · unfold cf; rw [List.map_set]; rfl
theorem Val.ok {W st : Ws} (ok : Ok W) (v : Val W st) : Ok (cf W st) := by
  refine ⟨fun j w e => ?_, fun i j w h0 e1 e2 => ?_⟩
  · rw [cf_at] at e
    rw [cf_len, v.len]
    cases h : at_ st j with
    | none => rw [h] at e; cases e
    | some k => rw [h] at e; exact ok.bd _ w e
  · rw [cf_at] at e1 e2
    cases h1 : at_ st i with
    | none => rw [h1] at e1; cases e1
    | some k =>
      cases h2 : at_ st j with
      | none => rw [h2] at e2; cases e2
      | some l =>
        rw [h1] at e1
        rw [h2] at e2
        have := ok.inj _ _ w h0 e1 e2
        have a := (v.ent i k h1).1
        have b := (v.ent j l h2).1
        have e : k = l := by omega
        subst e
        exact v.inj i j k h1 h2
theorem tos_of {C : Ws} {a : Nat} {to : Int} (h : to ∈ tos C a) (ha : (at_ C a).isSome = true) : to = -1 ∨ (0 ≤ to ∧ to < C.length ∧ at_ C to.toNat = none ∧ to.toNat ≠ a) := by
  unfold tos at h
  rcases List.mem_append.mp h with h | h
  · obtain ⟨t, ht, rfl⟩ := List.mem_map.mp h
    have := List.mem_filter.mp ht
    have h1 := List.mem_range.mp this.1
    have h2 := this.2
    rw [Option.isNone_iff_eq_none] at h2
    refine .inr ⟨by omega, by omega, by rw [Int.toNat_natCast]; exact h2, fun z => ?_⟩
    rw [Int.toNat_natCast] at z
    rw [← z, h2] at ha; cases ha
  · split at h
    · exact .inl (List.mem_singleton.mp h)
    · cases h
theorem move_at {st : Ws} {a : Nat} {to : Int} (ha : a < st.length) (ht : to < st.length) (j : Nat) : at_ (moveC st a to) j = if 0 ≤ to ∧ (j : Int) = to then at_ st a else if j = a then none else at_ st j := by
  unfold moveC
  by_cases h0 : 0 ≤ to
  · simp only [h0, if_true, true_and]
    rw [at_set _ _ _ _ (by rw [List.length_set]; omega), at_set _ _ _ _ ha]
    by_cases e : (j : Int) = to
    · have e2 : j = to.toNat := by omega
      rw [if_pos e, if_pos e2]
    · have e2 : ¬ j = to.toNat := by omega
      rw [if_neg e, if_neg e2]
  · simp only [h0, if_false, false_and]
    rw [at_set _ _ _ _ ha]
theorem move_len (st : Ws) (a : Nat) (to : Int) : (moveC st a to).length = st.length := by
  unfold moveC; split <;> simp
theorem Val.move {W st : Ws} (v : Val W st) {a : Nat} {to : Int} (ha : (at_ st a).isSome = true) (ht : to ∈ tos (cf W st) a) : Val W (moveC st a to) := by
  have hc : (at_ (cf W st) a).isSome = true := by rw [cf_some v]; exact ha
  have h := tos_of ht hc
  rw [cf_len] at h
  have hal : a < st.length := by
    cases e : at_ st a with
    | none => rw [e] at ha; cases ha
    | some k => exact at_lt e
  have e := fun j => move_at (st := st) (to := to) hal (by omega) j
  refine ⟨by rw [move_len, v.len], fun r k h1 => ?_, fun r r' k h1 h2 => ?_⟩
  · rw [e] at h1
    split at h1
    · exact v.ent _ k h1
    · split at h1
      · cases h1
      · exact v.ent _ k h1
  · rw [e] at h1 h2
    split at h1
    · rename_i g1
      split at h2
      · rename_i g2; omega
      · split at h2
        · cases h2
        · rename_i g3
          exact absurd (v.inj _ _ k h2 h1) g3
    · split at h1
      · cases h1
      · rename_i g3
        split at h2
        · exact absurd (v.inj _ _ k h1 h2) g3
        · split at h2
          · cases h2
          · exact v.inj _ _ k h1 h2
def succA (W st : Ws) (a : Nat) : List Ws := if (at_ st a).isSome = true then (tos (cf W st) a).map (moveC st a) else []
def succS (W st : Ws) : List Ws := (List.range st.length).flatMap (succA W st)
theorem succ_of {W st D : Ws} (v : Val W st) (h : D ∈ succC (cf W st)) : ∃ t ∈ succS W st, cf W t = D := by
  unfold succC at h
  obtain ⟨a, ha, h⟩ := List.mem_flatMap.mp h
  rw [cf_len] at ha
  split at h
  · rename_i hs
    obtain ⟨to, ht, rfl⟩ := List.mem_map.mp h
    refine ⟨moveC st a to, List.mem_flatMap.mpr ⟨a, ha, ?_⟩, cf_move W st a to⟩
    rw [succA, if_pos (by rw [← cf_some v]; exact hs)]
    exact List.mem_map.mpr ⟨to, ht, rfl⟩
  · cases h
theorem succA_in {W st t : Ws} {a : Nat} (v : Val W st) (h : t ∈ succA W st a) : Val W t ∧ cf W t ∈ succC (cf W st) := by
  unfold succA at h
  split at h
  · rename_i hs
    obtain ⟨to, ht, rfl⟩ := List.mem_map.mp h
    refine ⟨v.move hs ht, ?_⟩
    rw [cf_move]
    have hal : a < st.length := by
      cases e : at_ st a with
      | none => rw [e] at hs; cases hs
      | some k => exact at_lt e
    refine List.mem_flatMap.mpr ⟨a, List.mem_range.mpr (by rw [cf_len]; exact hal), ?_⟩
    rw [if_pos (by rw [cf_some v]; exact hs)]
    exact List.mem_map.mpr ⟨to, ht, rfl⟩
  · cases h
/-- a state's distance, at least -/
def ph (W st : Ws) : Nat := phi (cf W st)
theorem check_st {W st : Ws} (ok : Ok W) (h1 : 0 < W.length) (h4 : W.length ≤ 4) (v : Val W st) : checkC (cf W st) = true :=
  check_of (v.ok ok) (by rw [cf_len, v.len]; exact h1) (by rw [cf_len, v.len]; exact h4)
theorem ph_drop {W st t : Ws} {a : Nat} (ok : Ok W) (h1 : 0 < W.length) (h4 : W.length ≤ 4) (v : Val W st) (h : t ∈ succA W st a) : ph W st ≤ ph W t + 1 := by
  have c := check_st ok h1 h4 v
  unfold checkC at c
  rw [Bool.and_eq_true] at c
  have := List.all_eq_true.mp c.1 _ (succA_in v h).2
  exact of_decide_eq_true this
theorem ph_best {W st : Ws} (ok : Ok W) (h1 : 0 < W.length) (h4 : W.length ≤ 4) (v : Val W st) (hs : stuck (cf W st) = false) (hp : ph W st ≠ 0) : ∃ t ∈ succS W st, ph W t + 1 = ph W st ∧ stuck (cf W t) = false := by
  have c := check_st ok h1 h4 v
  unfold checkC at c
  rw [Bool.and_eq_true, hs] at c
  have c2 := c.2
  have : decide (phi (cf W st) = 0) = false := decide_eq_false hp
  rw [this] at c2
  simp only [Bool.false_or] at c2
  obtain ⟨D, hD, e⟩ := List.any_eq_true.mp c2
  obtain ⟨t, ht, rfl⟩ := succ_of v hD
  rw [Bool.and_eq_true, decide_eq_true_iff] at e
  exact ⟨t, ht, e.1, by simpa using e.2⟩
/-- what is kept while a level is gone through -/
structure Lv (W : Ws) (d : Nat) (seen more T : List Ws) : Prop where
  nd : seen.Nodup
  val : ∀ s ∈ seen, Val W s
  sub : ∀ s ∈ more, s ∈ seen
  old : ∀ s ∈ seen, s ∈ more ∨ phi W ≤ ph W s + d
  low : ∀ s ∈ more, phi W ≤ ph W s + d + 1
  all : ∀ t ∈ T, t ∈ seen
  mT : ∀ s ∈ more, s ∈ T
  mnd : more.length ≤ seen.length
theorem Lv.has {W t : Ws} {d : Nat} {seen more T : List Ws} (h : Lv W d seen more T) (ht : t ∈ seen) : Lv W d seen more (T ++ [t]) :=
  ⟨h.nd, h.val, h.sub, h.old, h.low, fun s hs => by
    rcases List.mem_append.mp hs with hs | hs
    · exact h.all s hs
    · rw [List.mem_singleton.mp hs]; exact ht, fun s hs => List.mem_append.mpr (.inl (h.mT s hs)), h.mnd⟩
theorem Lv.add {W t : Ws} {d : Nat} {seen more T : List Ws} (h : Lv W d seen more T) (ht : t ∉ seen) (hv : Val W t) (hp : phi W ≤ ph W t + d + 1) : Lv W d (seen ++ [t]) (more ++ [t]) (T ++ [t]) := by
  have one : ∀ {s : Ws} {xs : List Ws}, s ∈ xs ++ [t] → s ∈ xs ∨ s = t := fun hs => by
    rcases List.mem_append.mp hs with hs | hs
    · exact .inl hs
    · exact .inr (List.mem_singleton.mp hs)
  refine ⟨?_, fun s hs => ?_, fun s hs => ?_, fun s hs => ?_, fun s hs => ?_, fun s hs => ?_, fun s hs => ?_, ?_⟩
  · rw [List.nodup_append]
    exact ⟨h.nd, by simp, fun a ha b hb => by rw [List.mem_singleton.mp hb]; exact fun e => ht (e ▸ ha)⟩
  · rcases one hs with hs | rfl
    · exact h.val s hs
    · exact hv
  · rcases one hs with hs | rfl
    · exact List.mem_append.mpr (.inl (h.sub s hs))
    · simp
  · rcases one hs with hs | rfl
    · rcases h.old s hs with g | g
      · exact .inl (List.mem_append.mpr (.inl g))
      · exact .inr g
    · exact .inl (by simp)
  · rcases one hs with hs | rfl
    · exact h.low s hs
    · exact hp
  · rcases one hs with hs | rfl
    · exact List.mem_append.mpr (.inl (h.all s hs))
    · simp
  · rcases one hs with hs | rfl
    · exact List.mem_append.mpr (.inl (h.mT s hs))
    · simp
  · rw [List.length_append, List.length_append]; have := h.mnd; simp; omega
theorem allL_length (vs : List (Option Int)) : ∀ k, (allL vs k).length = vs.length ^ k
  | 0 => rfl
  | k + 1 => by
    have : ∀ (us : List (Option Int)) (A : List Ws), (us.flatMap fun v => A.map fun l => v :: l).length = us.length * A.length := fun us A => by
      induction us with
      | nil => simp
      | cons u us ih => rw [List.flatMap_cons, List.length_append, ih, List.length_map, List.length_cons, Nat.add_mul]; omega
    rw [allL, this, allL_length vs k, Nat.pow_succ, Nat.mul_comm]
theorem Lv.le {W : Ws} {d : Nat} {seen more T : List Ws} (h : Lv W d seen more T) (h4 : W.length ≤ 4) : seen.length ≤ 1296 := by
  have h1 := nodup_sub seen (allL (vals W.length) W.length) h.nd fun s hs => by
    have v := h.val s hs
    rw [← v.len]
    refine allL_mem s fun o ho => ?_
    obtain ⟨j, hj, e⟩ := mem_at ho
    cases o with
    | none => simp [vals]
    | some w =>
      have := v.ent j w e
      have hw : w = ((w.toNat : Nat) : Int) := by omega
      rw [vals, hw]
      exact List.mem_cons_of_mem _ (List.mem_cons_of_mem _ (List.mem_map.mpr ⟨w.toNat, List.mem_range.mpr (by rw [v.len]; omega), rfl⟩))
  rw [allL_length] at h1
  have hv : (vals W.length).length = W.length + 2 := by simp [vals]
  rw [hv] at h1
  refine Nat.le_trans h1 ?_
  rcases (by omega : W.length = 0 ∨ W.length = 1 ∨ W.length = 2 ∨ W.length = 3 ∨ W.length = 4) with e | e | e | e | e <;> rw [e] <;> decide
/-- at a level's start -/
structure Bf (W : Ws) (d : Nat) (level seen : List Ws) : Prop where
  lv : Lv W d seen [] []
  sub : ∀ s ∈ level, s ∈ seen
  low : ∀ s ∈ level, phi W ≤ ph W s + d
  len : level.length ≤ seen.length
  br : (stuck W = false ∧ ∃ s ∈ level, ph W s + d = phi W ∧ stuck (cf W s) = false) ∨ (stuck W = true ∧ ∀ s ∈ level, cf W s = W)
theorem Bf.next {W : Ws} {d : Nat} {level seen more seen0 : List Ws} (ok : Ok W) (h1 : 0 < W.length) (h4 : W.length ≤ 4) (hb : Bf W d level seen0) (hs : ∀ s ∈ level, s ∈ seen) (h : Lv W d seen more (level.flatMap (succS W))) (nd : ∀ s ∈ level, done (cf W s) = false) : Bf W (d + 1) more seen ∧ (stuck W = true → more = []) := by
  have hnil : stuck W = true → more = [] := fun hst => by
    rcases hb.br with hbr | hbr
    · rw [hst] at hbr; cases hbr.1
    · have he : level.flatMap (succS W) = [] := by
        rw [List.flatMap_eq_nil_iff]
        intro s hs'
        have v := h.val s (hs s hs')
        have ec := hbr.2 s hs'
        unfold stuck at hst
        simp only [Bool.and_eq_true, Bool.not_eq_true', decide_eq_false_iff_not] at hst
        unfold succS
        rw [List.flatMap_eq_nil_iff]
        intro a ha
        unfold succA
        split
        · rename_i hsm
          rw [List.map_eq_nil_iff]
          unfold tos
          rw [ec, List.append_eq_nil_iff, List.map_eq_nil_iff]
          constructor
          · unfold free
            rw [List.filter_eq_nil_iff]
            intro t ht
            have ht := List.mem_range.mp ht
            intro z
            rw [Option.isNone_iff_eq_none] at z
            refine hst.2.1 ?_
            unfold at_ at z
            rw [List.getD_eq_getElem?_getD, List.getElem?_eq_getElem ht] at z
            have z : W[t] = none := z
            rw [← z]; exact List.getElem_mem ht
          · rw [if_neg]
            intro z
            have ha := at_lt z
            refine hst.2.2 ?_
            unfold at_ at z
            rw [List.getD_eq_getElem?_getD, List.getElem?_eq_getElem ha] at z
            have z : W[a] = some (-1) := z
            rw [← z]; exact List.getElem_mem ha
        · rfl
      rw [he] at h
      cases more with
      | nil => rfl
      | cons m ms => exact absurd (h.mT m List.mem_cons_self) (by simp)
  refine ⟨⟨⟨h.nd, h.val, (fun s hs => by cases hs), fun s hs' => ?_, fun s hs => (by cases hs), fun s hs => (by cases hs), fun s hs => (by cases hs), Nat.zero_le _⟩, h.sub, h.low, h.mnd, ?_⟩, hnil⟩
  · rcases h.old s hs' with g | g
    · have := h.low s g
      exact .inr (by omega)
    · exact .inr (by omega)
  · rcases hb.br with hbr | hbr
    · obtain ⟨hst, s, hs', hp, hns⟩ := hbr
      have v := h.val s (hs s hs')
      have hp0 : ph W s ≠ 0 := fun z => by
        have := phi0.mp z
        rw [nd s hs'] at this; cases this
      obtain ⟨t, ht, e1, e2⟩ := ph_best ok h1 h4 v hns hp0
      have hts := h.all t (List.mem_flatMap.mpr ⟨s, hs', ht⟩)
      refine .inl ⟨hst, t, ?_, by omega, e2⟩
      rcases h.old t hts with g | g
      · exact g
      · omega
    · refine .inr ⟨hbr.1, fun s hs => ?_⟩
      rw [hnil hbr.1] at hs; cases hs
end K82

set_option maxHeartbeats 1000000
namespace K82
open Sv
open PySem (Str PyData)
local macro_rules | `(tactic| walk_at "v1") => `(tactic| first | with_reducible (first | refine sw_seq ?_ | refine sw_set ?_ | refine sw_new ?_ | refine sw_asg ?_ | refine sw_rt ?_ | refine sw_ret ?_ | refine sw_ifB ?_ | refine sw_par ?_ | refine sw_nx ?_ | refine sw_exprM ?_ | refine kw_nil ?_ | refine kw_frz ?_ | refine kw_new ?_ | refine ew_con ?_ | refine ew_bin ?_ | refine ew_un ?_ | refine ew_tup ?_ | refine ew_lst ?_ | refine ew_fn ?_ | refine ew_call ?_ | refine ew_callO ?_ | refine ew_not ?_ | refine ew_chain ?_ | refine ew_slice ?_ | refine ow_none ?_ | refine ow_some ?_ | refine tw_bl ?_ | refine tw_of ?_ | refine tw_not ?_ | refine tw_yes ?_ | refine aw_nil ?_ | refine aw_cons ?_ | refine iw_seq ?_ | refine iw_enum ?_ | refine iw_zip ?_ | refine iw_rangeI ?_ | (apply ew_andC) | (apply ew_orC) | (apply tw_andC) | (apply tw_orC) | (apply ew_lcM') | (apply ew_lc') | exact rfl | exact cut_last _ _ | exact mapI _) | ((with_reducible apply ew_var); exact rfl) | ((with_reducible apply ew_bor); exact rfl) | ((with_reducible apply ew_borO); exact rfl) | with_reducible (first | refine o_eqN ?_ | refine o_neN ?_ | refine o_ltN ?_ | refine o_gtN ?_ | refine o_leN ?_ | refine o_geN ?_ | refine o_inN ?_ | refine o_ninN ?_ | refine o_inNL ?_ | refine o_ninNL ?_ | refine o_lenTm ?_ | refine o_lenLm ?_ | refine o_addN ?_ | refine o_addN1 ?_ | refine o_subN (by first | assumption | omega) ?_ | refine o_subN1 (by first | assumption | omega) ?_ | refine o_sumI ?_ | refine o_sumTI ?_ | refine o_ix0 ?_ | refine o_ix1 ?_ | refine o_ix2 ?_ | refine o_ix3 ?_ | refine o_ixT0 ?_ ?_ | refine o_ixL0 ?_ ?_ | refine o_ixT1 ?_ ?_ | refine o_isTupT ?_ | refine o_ixTN ?_ ?_ | refine o_ixTI ?_ ?_ | refine o_ixLN ?_ ?_ | refine o_ixLI ?_ ?_ | refine o_ixTG ?_ ?_ | refine o_ixLG ?_ ?_ | refine o_ixTD0 ?_ ?_ | refine o_ixTD1 ?_ ?_ | refine o_ixTD2 ?_ ?_ | refine o_ixTD ?_ ?_ | refine o_ixLD ?_ ?_) | with_reducible (first | refine o_eqI ?_ | refine o_neI ?_ | refine o_lt ?_ | refine o_gt ?_ | refine o_le ?_ | refine o_ge ?_ | refine o_all ?_ | refine o_any ?_ | refine o_sum ?_ | refine o_addI ?_ | refine o_subI ?_ | refine o_lenT ?_ | refine o_lenL ?_ | refine o_tupL ?_ | refine o_tupT ?_ | refine o_listL ?_ | refine o_listT ?_ | refine o_negI ?_ | refine o_intI ?_ | refine o_slT ?_ | refine o_slL ?_ | refine o_revT ?_ | refine o_revL ?_ | refine x_n ?_ | refine x_int ?_ | refine x_bl ?_ | refine x_tb ?_ | refine x_itT ?_ | refine x_itL ?_ | refine x_rt ?_ | refine rngQ ?_ ?_ | refine x_trT ?_ | refine x_trL ?_ | refine x_tri ?_ | refine o_max2 ?_ | refine o_min2 ?_ | refine o_addTs ?_ ?_ | refine o_addLs ?_ ?_) | (with_reducible refine And.intro ?_ ?_) | refine dec_imp fun _ => ?_ | refine decF_imp fun _ => ?_ | with_reducible (first | refine ndF_imp fun _ => ?_ | refine ndT_imp fun _ => ?_ | refine nF_imp ?_ | refine nT_imp ?_ | refine orF_imp ?_ | refine andT_imp ?_) | refine tr_imp fun _ => ?_ | refine fa_imp fun _ => ?_ | (intro x hx; refine Exists.intro _ (And.intro rfl ?_); try (have hx := List.mem_range.mp hx)) | (refine sd_lt ?_; first | assumption | omega | (simp only [List.length_map, List.length_range, List.length_cons, List.length_nil, List.length_append, List.length_set] at *; omega)) | (refine sd_le ?_; first | assumption | omega | (simp only [List.length_map, List.length_range, List.length_cons, List.length_nil, List.length_append, List.length_set] at *; omega)))
local macro_rules | `(tactic| walk_at "v") => `(tactic| (repeat' (walk_at "v1")))
local macro_rules | `(tactic| walk_at "v1") => `(tactic| with_reducible (first | refine o_ixW ?_ ?_ | refine o_ixWL ?_ ?_ | refine o_isNW ?_ | refine o_notNW ?_ | refine o_eqW ?_ | refine o_neW ?_ | refine o_ltW ?_ ?_ | refine o_geW ?_ ?_ | refine o_gtW ?_ ?_ | refine o_ixWW ?_ ?_ ?_))
local macro_rules | `(tactic| walk_at "v1") => `(tactic| (refine sd_some ?_; assumption))
local macro_rules | `(tactic| walk_at "v1") => `(tactic| (with_reducible refine sd_ge ?_; omega))
local macro_rules | `(tactic| walk_at "v1") => `(tactic| with_reducible (first | refine o_ninWo ?_ ?_ ?_ | refine o_ixWX ?_ ?_))
local macro_rules | `(tactic| walk_at "v1") => `(tactic| with_reducible (first | refine o_ninWN ?_ | refine o_ninWI ?_))
local macro_rules | `(tactic| walk_at "v1") => `(tactic| (refine sn_some ?_; assumption))
local macro_rules | `(tactic| walk_at "v1") => `(tactic| with_reducible (first | refine o_inWo ?_ ?_ ?_ | refine o_minN ?_ ?_))
/-! ### the law's search by levels -/
abbrev RF (W : Ws) (st0 : Ws) (se le d mo st fo a fr to af x : Sl) : Rho := [.frz (tW W), .frz (nE W.length), .frz (tW st0), se, le, d, mo, st, fo, a, fr, to, af, x]
def st0 (W : Ws) : Ws := (List.range W.length).map fun r => if (at_ W r).isSome = true then some ((r : Nat) : Int) else none
theorem st0_at {W : Ws} (r : Nat) : at_ (st0 W) r = if (at_ W r).isSome = true then some ((r : Nat) : Int) else none := by
  by_cases h : r < W.length
  · unfold st0 at_
    rw [List.getD_eq_getElem?_getD, List.getElem?_map, List.getElem?_range h]; rfl
  · have h1 : at_ (st0 W) r = none := by
      unfold st0 at_
      rw [List.getD_eq_getElem?_getD, List.getElem?_eq_none (by simp; omega)]; rfl
    have h2 : at_ W r = none := by
      unfold at_
      rw [List.getD_eq_getElem?_getD, List.getElem?_eq_none (by omega)]; rfl
    rw [h1, h2]; rfl
theorem st0_len (W : Ws) : (st0 W).length = W.length := by unfold st0; simp
theorem ext_at {A B : Ws} (hl : A.length = B.length) (h : ∀ r, at_ A r = at_ B r) : A = B := by
  refine List.ext_getElem hl fun i h1 h2 => ?_
  have := h i
  unfold at_ at this
  rw [List.getD_eq_getElem?_getD, List.getD_eq_getElem?_getD, List.getElem?_eq_getElem h1, List.getElem?_eq_getElem h2] at this
  exact this
theorem cf_st0 (W : Ws) : cf W (st0 W) = W := by
  refine ext_at (by rw [cf_len, st0_len]) fun r => ?_
  rw [cf_at, st0_at]
  cases h : at_ W r with
  | none => rfl
  | some w => simp [h]
theorem val_st0 (W : Ws) : Val W (st0 W) := by
  refine ⟨st0_len W, fun r k e => ?_, fun r r' k e1 e2 => ?_⟩
  · rw [st0_at] at e
    split at e
    · rename_i h
      cases e
      refine ⟨by omega, ?_, by rw [Int.toNat_natCast]; exact h⟩
      cases h2 : at_ W r with
      | none => rw [h2] at h; cases h
      | some w => have := at_lt h2; omega
    · cases e
  · rw [st0_at] at e1 e2
    split at e1
    · split at e2
      · cases e1; cases e2; omega
      · cases e2
    · cases e1
theorem bf_st0 (W : Ws) : Bf W 0 [st0 W] [st0 W] := by
  have one : ∀ {s : Ws}, s ∈ [st0 W] → s = st0 W := fun hs => List.mem_singleton.mp hs
  have hp : ph W (st0 W) = phi W := by unfold ph; rw [cf_st0]
  refine ⟨⟨by simp, fun s hs => ?_, fun s hs => (by cases hs), fun s hs => .inr ?_, fun s hs => (by cases hs), fun s hs => (by cases hs), fun s hs => (by cases hs), Nat.zero_le _⟩, fun s hs => hs, fun s hs => ?_, Nat.le_refl _, ?_⟩
  · rw [one hs]; exact val_st0 W
  · rw [one hs, hp]; omega
  · rw [one hs, hp]; omega
  · cases h : stuck W with
    | false => exact .inl ⟨rfl, st0 W, by simp, by rw [hp]; rfl, by rw [cf_st0]; exact h⟩
    | true => exact .inr ⟨rfl, fun s hs => by rw [one hs, cf_st0]⟩
/-- everybody is where they want to be -/
def folk (st : Ws) : List Nat := (st.filter Option.isSome).map fun o => (o.getD 0).toNat
def goalB (W st : Ws) : Bool := (folk st).all fun k => decide (0 ≤ (at_ W k).getD 0) && decide (at_ st ((at_ W k).getD 0).toNat = some ((k : Nat) : Int))
theorem folk_mem {W st : Ws} (v : Val W st) {k : Nat} : k ∈ folk st ↔ ∃ r, at_ st r = some (k : Int) := by
  unfold folk
  rw [List.mem_map]
  constructor
  · rintro ⟨o, ho, e⟩
    obtain ⟨h1, h2⟩ := List.mem_filter.mp ho
    obtain ⟨r, hr, er⟩ := mem_at h1
    cases o with
    | none => cases h2
    | some w =>
      have := (v.ent r w er).1
      exact ⟨r, by rw [er, ← e]; simp; omega⟩
  · rintro ⟨r, e⟩
    have hr := at_lt e
    refine ⟨some (k : Int), List.mem_filter.mpr ⟨?_, rfl⟩, by simp⟩
    unfold at_ at e
    rw [List.getD_eq_getElem?_getD, List.getElem?_eq_getElem hr] at e
    have e : st[r] = some (k : Int) := e
    rw [← e]; exact List.getElem_mem hr
theorem goal_done {W st : Ws} (v : Val W st) : goalB W st = done (cf W st) := by
  rw [Bool.eq_iff_iff, goalB, done, List.all_eq_true, List.all_eq_true]
  constructor
  · intro h r hr
    rw [cf_at]
    cases e : at_ st r with
    | none => rfl
    | some k =>
      have hv := v.ent r k e
      have hk : k = ((k.toNat : Nat) : Int) := by omega
      have := h k.toNat ((folk_mem v).mpr ⟨r, by rw [e, ← hk]⟩)
      simp only [Bool.and_eq_true, decide_eq_true_iff] at this
      have e2 := v.inj r _ k e (by rw [this.2, ← hk])
      show ((at_ W k.toNat).isNone || decide (at_ W k.toNat = some (r : Int))) = true
      cases hw : at_ W k.toNat with
      | none => rfl
      | some w =>
        rw [hw] at this e2
        simp only [Option.getD_some] at this e2
        have : w = (r : Int) := by omega
        simp [this]
  · intro h k hk
    obtain ⟨r, e⟩ := (folk_mem v).mp hk
    have hv := v.ent r k e
    have := h r (List.mem_range.mpr (by rw [cf_len]; exact at_lt e))
    rw [cf_at, e] at this
    simp only [Option.bind_some, Int.toNat_natCast] at this hv
    cases hw : at_ W k with
    | none => rw [hw] at hv; cases hv.2.2
    | some w =>
      simp [hw] at this
      subst this
      simp [e]
theorem sw_seqT {ρ ρ1 : Rho} {s s' : SS} {Q : Fl → Rho → Prop} (h : Sw s ρ fun fl ρ' => fl = .nx ∧ ρ' = ρ1) (h' : Sw s' ρ1 Q) : Sw (sSeq s s') ρ Q :=
  sw_seq (h.mono fun fl ρ' ⟨e1, e2⟩ => by subst e1; subst e2; exact h')
theorem res_of {W : Ws} {d : Nat} {level seen : List Ws} {st : Ws} (hb : Bf W d level seen) (hs : st ∈ level) (hd : done (cf W st) = true) : stuck W = false ∧ d = phi W := by
  have h0 : ph W st = 0 := phi0.mpr hd
  have hl := hb.low st hs
  rcases hb.br with ⟨h1, s, _, h2, _⟩ | ⟨h1, h2⟩
  · exact ⟨h1, by omega⟩
  · have e := h2 st hs
    rw [e] at hd
    have := done_rings hd
    unfold stuck at h1
    rw [this] at h1
    cases h1
theorem fm_snoc {α β : Type} (xs : List α) (x : α) (f : α → List β) : (xs ++ [x]).flatMap f = xs.flatMap f ++ f x := by
  rw [List.flatMap_append, List.flatMap_cons, List.flatMap_nil, List.append_nil]
theorem w_fewest {W : Ws} {Q : D → Prop} (ok : Ok W) (h1 : 0 < W.length) (h4 : W.length ≤ 4) (q : Q (if stuck W = true then .non else nE (phi W))) : Fw f_law_fewest [tW W] Q := by
  have hph : phi W ≤ 8 := by
    have a := movers_le W
    have b : (rings W).length ≤ W.length := by
      have := List.length_filterMap_le (ringAt W) (List.range W.length)
      rwa [List.length_range] at this
    unfold phi; omega
  refine fw_rt ?_
  refine sw_seq (sw_setV (nE W.length) ?_ ?_)
  · walk_at "v"
  refine sw_seq (sw_setV (tW (st0 W)) ?_ ?_)
  · refine ew_fn (aw_cons (ew_lcM (List.range W.length) nE (fun r => eW (if (at_ W r).isSome = true then some ((r : Nat) : Int) else none)) ?_ (fun r hr => ⟨_, rfl, ?_⟩) (aw_nil (o_tupL ?_))))
    · walk_at "v"
    · have hr := List.mem_range.mp hr
      refine ew_ifB ?_
      walk_at "v"
      refine br (fun h => ?_) fun h => ?_
      · rw [if_pos h]
        walk_at "v"
        rfl
      · rw [if_neg (by rw [h]; decide)]
        walk_at "v"
        rfl
    · simp only [st0, tW, List.map_map]; rfl
  refine sw_seq (sw_par (kw_new (ew_dS1 key_tW (x := st0 W) (ew_var rfl rfl) (kw_frz (ew_lst (aw_cons (ew_var (d := tW (st0 W)) rfl (aw_nil (kw_frz (ew_con (kw_nil ?_)))))))))))
  refine sw_seq (sw_wh 9 (fun m ρ => ∃ (d : Nat) (level seen : List Ws) (x6 x7 x8 x9 x10 x11 x12 x13 : Sl), ρ = RF W (st0 W) (.own (dS tW seen)) (.frz (.lst (level.map tW))) (.frz (nE d)) x6 x7 x8 x9 x10 x11 x12 x13 ∧ Bf W d level seen ∧ ((stuck W = false ∧ m + d = 9) ∨ (stuck W = true ∧ level.length ≤ m))) (by omega) ⟨0, [st0 W], [st0 W], .emp, .emp, .emp, .emp, .emp, .emp, .emp, .emp, rfl, bf_st0 W, ?_⟩ ?_)
  · cases h : stuck W with
    | false => exact .inl ⟨rfl, rfl⟩
    | true => exact .inr ⟨rfl, by simp⟩
  rintro m _ ⟨d, level, seen, x6, x7, x8, x9, x10, x11, x12, x13, rfl, hb, hm⟩
  walk_at "v"
  · rename_i hk
    have hs : level = [] := by
      cases level with
      | nil => rfl
      | cons a b => simp at hk
    subst hs
    rcases hb.br with ⟨_, s, h, _⟩ | ⟨h, _⟩
    · cases h
    · rw [if_pos h] at q
      exact q
  · rename_i hk
    refine sw_forP level tW (fun pre ρ => ∃ (seen' more : List Ws) (x7 x8 x9 x10 x11 x12 x13 : Sl), ρ = RF W (st0 W) (.own (dS tW seen')) (.frz (.lst (level.map tW))) (.frz (nE d)) (.own (.lst (more.map tW))) x7 x8 x9 x10 x11 x12 x13 ∧ Lv W d seen' more (pre.flatMap (succS W)) ∧ (∀ s ∈ level, s ∈ seen') ∧ (∀ s ∈ pre, done (cf W s) = false)) ?_ ⟨seen, [], x7, x8, x9, x10, x11, x12, x13, rfl, hb.lv, hb.sub, fun s hs => (by cases hs)⟩ ?_ ?_
    · walk_at "v"
    · rintro pre st post _ hx ⟨se, mo, x7, x8, x9, x10, x11, x12, x13, rfl, hlv, hls, hnd⟩
      have hst : st ∈ level := by rw [hx]; simp
      have v := hlv.val st (hls st hst)
      have hvl := v.len
      refine ⟨_, rfl, ?_⟩
      refine sw_seq (sw_setV (lN (folk st)) ?_ ?_)
      · refine ew_lc st eW Option.isSome (fun o => nE (o.getD 0).toNat) ?_ (fun o ho => ⟨_, rfl, ?_⟩) ?_
        · walk_at "v"
        · walk_at "v"
          rename_i hs
          cases o with
          | none => cases hs
          | some w =>
            obtain ⟨r, _, e⟩ := mem_at ho
            have := (v.ent r w e).1
            show D.int w = .int _
            simp only [Option.getD_some]
            rw [Int.toNat_of_nonneg this]
        · simp only [folk, lN, List.map_map]; rfl
      refine sw_seq (sw_ifB (tw_of (ew_fn (aw_cons (ew_lcM (folk st) nE (fun k => .bl (decide (0 ≤ (at_ W k).getD 0) && decide (at_ st ((at_ W k).getD 0).toNat = some ((k : Nat) : Int)))) ?_ (fun k hk => ⟨_, rfl, ?_⟩) (aw_nil (o_all (x_tb ?_))))))))
      · walk_at "v"
      · obtain ⟨r, er⟩ := (folk_mem v).mp hk
        have hv := v.ent r k er
        have hks : (at_ W k).isSome = true := by have := hv.2.2; rwa [Int.toNat_natCast] at this
        have hkl : k < W.length := by omega
        walk_at "v"
        cases hw : at_ W k with
        | none => rw [hw] at hks; cases hks
        | some w => have := ok.bd k w hw; show w < _; omega
      rw [show ((folk st).all fun k => decide (0 ≤ (at_ W k).getD 0) && decide (at_ st ((at_ W k).getD 0).toNat = some ((k : Nat) : Int))) = goalB W st from rfl, goal_done v]
      refine br (fun hd => ?_) fun hd => ?_
      · obtain ⟨h5, h6⟩ := res_of hb hst hd
        rw [h5] at q
        walk_at "v"
        rw [h6]
        exact q
      walk_at "v"
      refine sw_forR W.length nE (fun a ρ => ∃ (seen' more : List Ws) (x9 x10 x11 x12 x13 : Sl), ρ = RF W (st0 W) (.own (dS tW seen')) (.frz (.lst (level.map tW))) (.frz (nE d)) (.own (.lst (more.map tW))) (.frz (tW st)) (.frz (lN (folk st))) x9 x10 x11 x12 x13 ∧ Lv W d seen' more (pre.flatMap (succS W) ++ (List.range a).flatMap (succA W st)) ∧ (∀ s ∈ level, s ∈ seen')) ?_ ⟨se, mo, x9, x10, x11, x12, x13, rfl, by simpa using hlv, hls⟩ ?_ ?_
      · walk_at "v"
      · rintro a ha _ ⟨se, mo, x9, x10, x11, x12, x13, rfl, hlv, hls⟩
        refine ⟨_, rfl, ?_⟩
        walk_at "v"
        have hasnoc : (List.range (a + 1)).flatMap (succA W st) = (List.range a).flatMap (succA W st) ++ succA W st a := by rw [List.range_succ, fm_snoc]
        refine br (fun hsm => ?_) fun hsm => ?_
        rotate_left
        · refine sw_nx ⟨se, mo, _, _, _, _, _, rfl, ?_, hls⟩
          rw [hasnoc, succA, if_neg (by rw [hsm]; decide), List.append_nil]
          exact hlv
        obtain ⟨k, hk⟩ : ∃ k, at_ st a = some k := by
          cases e : at_ st a with
          | none => rw [e] at hsm; cases hsm
          | some k => exact ⟨k, rfl⟩
        have hke := v.ent a k hk
        have etos : tos (cf W st) a = (free st).map (fun t : Nat => (t : Int)) ++ if at_ W k.toNat = some (-1) then [-1] else [] := by
          unfold tos; rw [cf_free v, cf_at, hk]; rfl
        have esa : succA W st a = (tos (cf W st) a).map (moveC st a) := by rw [succA, if_pos hsm]
        have hfl : (free st).length ≤ W.length := by
          have := List.length_filter_le (fun t => (at_ st t).isNone) (List.range st.length)
          rw [List.length_range] at this
          unfold free
          omega
        have hsz : (1000000 : Nat) ≤ PySem.sizeLine := by rw [PySem.sizeLine_eq]; omega
        refine sw_seq (sw_setV (lN (free st)) ?_ ?_)
        · refine ew_lc (List.range W.length) nE (fun t => (at_ st t).isNone) nE ?_ (fun t ht => ⟨_, rfl, ?_⟩) (by unfold free; rw [hvl])
          · walk_at "v"
          · have ht := List.mem_range.mp ht
            walk_at "v"
        refine sw_forP (tos (cf W st) a) D.int (fun pre2 ρ => ∃ (seen' more : List Ws) (x11 x12 x13 : Sl), ρ = RF W (st0 W) (.own (dS tW seen')) (.frz (.lst (level.map tW))) (.frz (nE d)) (.own (.lst (more.map tW))) (.frz (tW st)) (.frz (lN (folk st))) (.frz (nE a)) (.frz (lN (free st))) x11 x12 x13 ∧ Lv W d seen' more (pre.flatMap (succS W) ++ (List.range a).flatMap (succA W st) ++ pre2.map (moveC st a)) ∧ (∀ s ∈ level, s ∈ seen')) ?_ ⟨se, mo, x11, x12, x13, rfl, by simpa using hlv, hls⟩ ?_ ?_
        · refine iw_seq (ew_bin (ew_bor rfl (ew_ifB ?_)))
          walk_at "v"
          · rw [hk]; exact hke.1
          · rw [hk]; show k < _; exact hke.2.1
          rw [hk]
          refine brD (fun (h : at_ W k.toNat = some (-1)) => ?_) fun (h : ¬ at_ W k.toNat = some (-1)) => ?_
          · refine ew_lst (aw_cons (ew_un (ew_con (o_negI (aw_nil (o_addL (by simp; omega) (x_itL ?_)))))))
            rw [etos, if_pos h, List.map_append, List.map_map]; rfl
          · refine ew_lst (aw_nil (o_addL (by simp; omega) (x_itL ?_)))
            rw [etos, if_neg h, List.append_nil, List.append_nil, List.map_map]; rfl
        · rintro pre2 to post2 _ hx2 ⟨se, mo, x11, x12, x13, rfl, hlv, hls⟩
          have hto : to ∈ tos (cf W st) a := by rw [hx2]; simp
          have hca := tos_of hto (by rw [cf_some v]; exact hsm)
          rw [cf_len] at hca
          have hin : moveC st a to ∈ succA W st a := by rw [esa]; exact List.mem_map.mpr ⟨to, hto, rfl⟩
          have hvm := (succA_in v hin).1
          have hpm : phi W ≤ ph W (moveC st a to) + d + 1 := by
            have := ph_drop ok h1 h4 v hin
            have := hb.low st hst
            omega
          refine ⟨_, rfl, ?_⟩
          refine sw_seq (sw_new (ew_fn (aw_cons (ew_bor rfl (aw_nil (o_listT ?_))))))
          refine sw_seq (sw_store' (e := eW) (xs := st) rfl (ew_con ⟨none, rfl, ew_var rfl ⟨a, rfl, by omega, ?_⟩⟩))
          refine sw_seqT (ρ1 := RF W (st0 W) (.own (dS tW se)) (.frz (.lst (level.map tW))) (.frz (nE d)) (.own (.lst (mo.map tW))) (.frz (tW st)) (.frz (lN (folk st))) (.frz (nE a)) (.frz (lN (free st))) (.frz (.int to)) (.own (lW (moveC st a to))) x13) ?_ ?_
          · refine sw_ifB (tw_bl (ew_bin (ew_bor rfl (ew_con (o_ge ⟨_, rfl, brD (fun h0 => ?_) fun h0 => ?_⟩)))))
            · refine sw_store' (e := eW) (xs := st.set a none) rfl (ew_bin (ew_bor rfl (ew_var (d := nE a) rfl (o_ixW (by omega) ⟨at_ st a, rfl, ew_var rfl ⟨to.toNat, ?_, ?_, rfl, ?_⟩⟩))))
              · show D.int to = .int _
                rw [Int.toNat_of_nonneg h0]
              · rw [List.length_set]; omega
              · unfold moveC; rw [if_pos h0]; rfl
            · refine sw_nx ⟨rfl, ?_⟩
              unfold moveC; rw [if_neg h0]; rfl
          refine sw_ifB (tw_bl (ew_bin (ew_fn (aw_cons (ew_borO rfl (aw_nil (o_tupL (ew_borO rfl (o_ninS key_tW ⟨_, rfl, br (fun h => ?_) fun h => ?_⟩)))))))))
          · have h : moveC st a to ∉ se := by simpa using h
            have hl2 := hlv.add h hvm hpm
            have hle := hl2.le h4
            have hmn := hl2.mnd
            rw [List.length_append, List.length_singleton] at hle hmn
            rw [List.length_append, List.length_singleton] at hmn
            refine sw_seq (sw_dputS key_tW (x := moveC st a to) (ks := se) rfl (by omega) h (ew_fn (aw_cons (ew_borO rfl (aw_nil (o_tupL rfl))))) ?_)
            refine sw_exprM (mw_app (e := tW) (xs := mo) rfl (by omega) (ew_fn (aw_cons (ew_borO rfl (aw_nil (o_tupL ⟨moveC st a to, rfl, ?_⟩))))))
            refine ⟨_, _, _, _, _, rfl, ?_, fun s hs => List.mem_append.mpr (.inl (hls s hs))⟩
            rw [List.map_append, ← List.append_assoc]
            exact hl2
          · have h : moveC st a to ∈ se := by simpa using h
            refine sw_nx ⟨_, _, _, _, _, rfl, ?_, hls⟩
            rw [List.map_append, ← List.append_assoc]
            exact hlv.has h
        · rintro _ ⟨se, mo, x11, x12, x13, rfl, hlv, hls⟩
          refine ⟨se, mo, _, _, _, _, _, rfl, ?_, hls⟩
          rw [hasnoc, esa, ← List.append_assoc]
          exact hlv
      · rintro _ ⟨se, mo, x9, x10, x11, x12, x13, rfl, hlv, hls⟩
        refine ⟨se, mo, _, _, _, _, _, _, _, rfl, ?_, hls, fun s hs => ?_⟩
        · rw [fm_snoc, show succS W st = (List.range W.length).flatMap (succA W st) from by unfold succS; rw [hvl]]
          exact hlv
        · rcases List.mem_append.mp hs with hs | hs
          · exact hnd s hs
          · rw [List.mem_singleton.mp hs]; exact hd
    · rintro _ ⟨se, mo, x7, x8, x9, x10, x11, x12, x13, rfl, hlv, hls, hnd⟩
      obtain ⟨hn1, hn2⟩ := hb.next ok h1 h4 hls hlv hnd
      refine sw_seq (sw_fz rfl ?_)
      walk_at "v"
      have hdl : stuck W = false → d ≤ phi W := fun h => by
        rcases hb.br with ⟨_, s, _, h2, _⟩ | ⟨h2, _⟩
        · omega
        · rw [h] at h2; cases h2
      have hk : level ≠ [] := fun e => by rw [e] at hk; simp at hk
      have hkl := List.length_pos_iff.mpr hk
      have hm1 : m - 1 < m := by
        rcases hm with ⟨h, hm⟩ | ⟨h, hm⟩
        · have := hdl h; omega
        · omega
      refine ⟨m - 1, hm1, d + 1, mo, se, _, _, _, _, _, _, _, _, rfl, hn1, ?_⟩
      rcases hm with ⟨h, hm⟩ | ⟨h, hm⟩
      · exact .inl ⟨h, by have := hdl h; omega⟩
      · exact .inr ⟨h, by rw [hn2 h]; simp⟩
end K82

set_option maxHeartbeats 1000000
namespace K82
open Sv
open PySem (Str PyData)
local macro_rules | `(tactic| walk_at "v1") => `(tactic| first | with_reducible (first | refine sw_seq ?_ | refine sw_set ?_ | refine sw_new ?_ | refine sw_asg ?_ | refine sw_rt ?_ | refine sw_ret ?_ | refine sw_ifB ?_ | refine sw_par ?_ | refine sw_nx ?_ | refine sw_exprM ?_ | refine kw_nil ?_ | refine kw_frz ?_ | refine kw_new ?_ | refine ew_con ?_ | refine ew_bin ?_ | refine ew_un ?_ | refine ew_tup ?_ | refine ew_lst ?_ | refine ew_fn ?_ | refine ew_call ?_ | refine ew_callO ?_ | refine ew_not ?_ | refine ew_chain ?_ | refine ew_slice ?_ | refine ow_none ?_ | refine ow_some ?_ | refine tw_bl ?_ | refine tw_of ?_ | refine tw_not ?_ | refine tw_yes ?_ | refine aw_nil ?_ | refine aw_cons ?_ | refine iw_seq ?_ | refine iw_enum ?_ | refine iw_zip ?_ | refine iw_rangeI ?_ | (apply ew_andC) | (apply ew_orC) | (apply tw_andC) | (apply tw_orC) | (apply ew_lcM') | (apply ew_lc') | exact rfl | exact cut_last _ _ | exact mapI _) | ((with_reducible apply ew_var); exact rfl) | ((with_reducible apply ew_bor); exact rfl) | ((with_reducible apply ew_borO); exact rfl) | with_reducible (first | refine o_eqN ?_ | refine o_neN ?_ | refine o_ltN ?_ | refine o_gtN ?_ | refine o_leN ?_ | refine o_geN ?_ | refine o_inN ?_ | refine o_ninN ?_ | refine o_inNL ?_ | refine o_ninNL ?_ | refine o_lenTm ?_ | refine o_lenLm ?_ | refine o_addN ?_ | refine o_addN1 ?_ | refine o_subN (by first | assumption | omega) ?_ | refine o_subN1 (by first | assumption | omega) ?_ | refine o_sumI ?_ | refine o_sumTI ?_ | refine o_ix0 ?_ | refine o_ix1 ?_ | refine o_ix2 ?_ | refine o_ix3 ?_ | refine o_ixT0 ?_ ?_ | refine o_ixL0 ?_ ?_ | refine o_ixT1 ?_ ?_ | refine o_isTupT ?_ | refine o_ixTN ?_ ?_ | refine o_ixTI ?_ ?_ | refine o_ixLN ?_ ?_ | refine o_ixLI ?_ ?_ | refine o_ixTG ?_ ?_ | refine o_ixLG ?_ ?_ | refine o_ixTD0 ?_ ?_ | refine o_ixTD1 ?_ ?_ | refine o_ixTD2 ?_ ?_ | refine o_ixTD ?_ ?_ | refine o_ixLD ?_ ?_) | with_reducible (first | refine o_eqI ?_ | refine o_neI ?_ | refine o_lt ?_ | refine o_gt ?_ | refine o_le ?_ | refine o_ge ?_ | refine o_all ?_ | refine o_any ?_ | refine o_sum ?_ | refine o_addI ?_ | refine o_subI ?_ | refine o_lenT ?_ | refine o_lenL ?_ | refine o_tupL ?_ | refine o_tupT ?_ | refine o_listL ?_ | refine o_listT ?_ | refine o_negI ?_ | refine o_intI ?_ | refine o_slT ?_ | refine o_slL ?_ | refine o_revT ?_ | refine o_revL ?_ | refine x_n ?_ | refine x_int ?_ | refine x_bl ?_ | refine x_tb ?_ | refine x_itT ?_ | refine x_itL ?_ | refine x_rt ?_ | refine rngQ ?_ ?_ | refine x_trT ?_ | refine x_trL ?_ | refine x_tri ?_ | refine o_max2 ?_ | refine o_min2 ?_ | refine o_addTs ?_ ?_ | refine o_addLs ?_ ?_) | (with_reducible refine And.intro ?_ ?_) | refine dec_imp fun _ => ?_ | refine decF_imp fun _ => ?_ | with_reducible (first | refine ndF_imp fun _ => ?_ | refine ndT_imp fun _ => ?_ | refine nF_imp ?_ | refine nT_imp ?_ | refine orF_imp ?_ | refine andT_imp ?_) | refine tr_imp fun _ => ?_ | refine fa_imp fun _ => ?_ | (intro x hx; refine Exists.intro _ (And.intro rfl ?_); try (have hx := List.mem_range.mp hx)) | (refine sd_lt ?_; first | assumption | omega | (simp only [List.length_map, List.length_range, List.length_cons, List.length_nil, List.length_append, List.length_set] at *; omega)) | (refine sd_le ?_; first | assumption | omega | (simp only [List.length_map, List.length_range, List.length_cons, List.length_nil, List.length_append, List.length_set] at *; omega)))
local macro_rules | `(tactic| walk_at "v") => `(tactic| (repeat' (walk_at "v1")))
local macro_rules | `(tactic| walk_at "v1") => `(tactic| with_reducible (first | refine o_ixW ?_ ?_ | refine o_ixWL ?_ ?_ | refine o_isNW ?_ | refine o_notNW ?_ | refine o_eqW ?_ | refine o_neW ?_ | refine o_ltW ?_ ?_ | refine o_geW ?_ ?_ | refine o_gtW ?_ ?_ | refine o_ixWW ?_ ?_ ?_))
local macro_rules | `(tactic| walk_at "v1") => `(tactic| (refine sd_some ?_; assumption))
local macro_rules | `(tactic| walk_at "v1") => `(tactic| (with_reducible refine sd_ge ?_; omega))
local macro_rules | `(tactic| walk_at "v1") => `(tactic| with_reducible (first | refine o_ninWo ?_ ?_ ?_ | refine o_ixWX ?_ ?_))
local macro_rules | `(tactic| walk_at "v1") => `(tactic| with_reducible (first | refine o_ninWN ?_ | refine o_ninWI ?_))
local macro_rules | `(tactic| walk_at "v1") => `(tactic| (refine sn_some ?_; assumption))
local macro_rules | `(tactic| walk_at "v1") => `(tactic| with_reducible (first | refine o_inWo ?_ ?_ ?_ | refine o_minN ?_ ?_))
/-! ### what the law needs of the judges -/
theorem walk_fine : ∀ (xs : List Nat) {W k : Ws}, Ok W → walkG W xs = some k → done k = true → rings W = []
  | [], W, k, ok, h, hd => by cases h; exact done_rings hd
  | x :: xs, W, k, ok, h, hd => by
    rw [walkG] at h
    split at h
    · rename_i hc
      exact (rings_step ok hc).mpr (walk_fine xs (ok.step hc) h hd)
    · cases h
theorem going_fine {W : Ws} (ok : Ok W) {v : D} (h : isGoingB W v = true) : rings W = [] := by
  cases v with
  | tup ds =>
    have h : (allN W.length ds && (match walkG W (ds.map toN) with | some k => done k | none => false)) = true := h
    rw [Bool.and_eq_true] at h
    cases hw : walkG W (ds.map toN) with
    | none => rw [hw] at h; cases h.2
    | some k => rw [hw] at h; exact walk_fine _ ok hw h.2
  | _ => cases h
theorem ring_in {W : Ws} (ok : Ok W) {v : D} (h : isRingB W v = true) : ∃ xs, v = tN xs ∧ xs ∈ rings W := by
  cases v with
  | tup ds =>
    have h : (decide (2 ≤ ds.length) && (allN W.length ds && ringB W (ds.map toN))) = true := h
    rw [Bool.and_eq_true, Bool.and_eq_true, decide_eq_true_iff] at h
    obtain ⟨h2, hN, hr⟩ := h
    obtain ⟨exs, hlt⟩ := allN_of hN
    have hln : (ds.map toN).length = ds.length := List.length_map _
    generalize ds.map toN = xs at *
    refine ⟨xs, by rw [exs], ?_⟩
    unfold ringB at hr
    rw [Bool.and_eq_true, Bool.and_eq_true, decide_eq_true_iff, decide_eq_true_iff, List.all_eq_true] at hr
    obtain ⟨nd, hmin, hst⟩ := hr
    have hpos : 0 < xs.length := by omega
    have st : ∀ k, k < xs.length → at_ W (xs.getD k 0) = some ((xs.getD ((k + 1) % xs.length) 0 : Nat) : Int) := fun k hk => of_decide_eq_true (hst k (List.mem_range.mpr hk))
    have gd : ∀ k, k < xs.length → xs[k]? = some (xs.getD k 0) := fun k hk => by rw [getD_eq 0 hk, List.getElem?_eq_getElem hk]
    have p : Path W (xs.getD 0 0) xs (xs.getD (xs.length - 1) 0) := ⟨nd, gd 0 hpos, gd _ (by omega), fun k hk => ⟨_, _, gd k (by omega), gd (k + 1) hk, by rw [st k (by omega), Nat.mod_eq_of_lt hk]⟩⟩
    have e : at_ W (xs.getD (xs.length - 1) 0) = some ((xs.getD 0 0 : Nat) : Int) := by
      rw [st _ (by omega), show xs.length - 1 + 1 = xs.length by omega, Nat.mod_self]
    have hs : xs.getD 0 0 < W.length := hlt _ (getD0_mem hpos)
    have rr := ring_row ok hs p (fun h' e' => by
      rw [e] at e'
      have := Option.some.inj e'
      have : h' = xs.getD 0 0 := by omega
      rw [this]; exact getD0_mem hpos)
    rw [if_pos ⟨by omega, e, hmin⟩] at rr
    exact List.mem_filterMap.mpr ⟨_, List.mem_range.mpr hs, rr⟩
  | _ => cases h
theorem order_walk : ∀ (n : Nat) {W : Ws}, Ok W → rings W = [] → (movers W).length = n → (∀ x ∈ order n W, x < W.length) ∧ ∃ k, walkG W (order n W) = some k ∧ done k = true
  | 0, W, ok, hr, hm => ⟨fun x hx => (by cases hx), W, rfl, done_iff.mpr (List.length_eq_zero_iff.mp hm)⟩
  | n + 1, W, ok, hr, hm => by
    obtain ⟨hc, _⟩ := first_ok ok hr (fun e => by rw [e] at hm; cases hm)
    obtain ⟨w, hw, _⟩ := canGo_iff.mp hc
    have := movers_len ok hc
    obtain ⟨h1, k, h2, h3⟩ := order_walk n (ok.step hc) ((rings_step ok hc).mp hr) (by omega)
    rw [behind_len] at h1
    refine ⟨fun x hx => ?_, k, by rw [order, walkG, if_pos hc]; exact h2, h3⟩
    rw [order] at hx
    rcases List.mem_cons.mp hx with e | e
    · rw [e]; exact at_lt hw
    · exact h1 x e
theorem allN_nE {n : Nat} {xs : List Nat} (h : ∀ x ∈ xs, x < n) : allN n (xs.map nE) = true := by
  unfold allN
  rw [List.all_eq_true]
  intro d hd
  obtain ⟨x, hx, rfl⟩ := List.mem_map.mp hd
  have := h x hx
  show decide (_ ∧ _) = true
  exact decide_eq_true (by omega)
theorem map_toN (xs : List Nat) : (xs.map nE).map toN = xs := by
  rw [List.map_map]
  conv => rhs; rw [← List.map_id xs]
  exact List.map_congr_left fun x _ => Int.toNat_natCast x
theorem order_going {W : Ws} (ok : Ok W) (hr : rings W = []) : isGoingB W (tN (order (movers W).length W)) = true := by
  obtain ⟨h1, k, h2, h3⟩ := order_walk _ ok hr rfl
  show (allN W.length ((order (movers W).length W).map nE) && _) = true
  rw [allN_nE h1, map_toN, h2, Bool.true_and]
  exact h3
theorem are_true {W : Ws} (ok : Ok W) (h1 : 1 ≤ W.length) (h2 : W.length ≤ 24) : areB (tW W) = true := by
  have e0 : (W.map eW).map deW = W := by
    rw [List.map_map]
    conv => rhs; rw [← List.map_id W]
    exact List.map_congr_left fun x _ => by cases x <;> rfl
  show (decide (1 ≤ (W.map eW).length ∧ (W.map eW).length ≤ 24) && (((W.map eW).all (okW (W.map eW).length)) && decide (rooms ((W.map eW).map deW)).Nodup)) = true
  rw [e0, List.length_map, decide_eq_true ⟨h1, h2⟩, Bool.true_and, Bool.and_eq_true]
  constructor
  · rw [List.all_eq_true]
    intro d hd
    obtain ⟨o, ho, rfl⟩ := List.mem_map.mp hd
    obtain ⟨j, _, e⟩ := mem_at ho
    cases o with
    | none => rfl
    | some w =>
      have := ok.bd j w e
      show (false || decide (_ ∧ _)) = true
      rw [Bool.false_or]
      exact decide_eq_true (by omega)
  · refine decide_eq_true ?_
    unfold rooms
    rw [List.Nodup, List.pairwise_map, List.pairwise_filter, List.pairwise_iff_getElem]
    intro i j hi hj hij ho1 ho2 e
    have e1 : at_ W i = W[i] := by unfold at_; rw [List.getD_eq_getElem?_getD, List.getElem?_eq_getElem hi]; rfl
    have e2 : at_ W j = W[j] := by unfold at_; rw [List.getD_eq_getElem?_getD, List.getElem?_eq_getElem hj]; rfl
    rw [← e1] at ho1 e
    rw [← e2] at ho2 e
    cases h3 : at_ W i with
    | none => rw [h3] at ho1; cases ho1
    | some w =>
      cases h4 : at_ W j with
      | none => rw [h4] at ho2; cases ho2
      | some u =>
        rw [h3, h4] at e
        rw [h3] at ho1
        simp only [Option.getD_some] at e
        subst e
        simp [posW] at ho1
        have := ok.inj i j w ho1 h3 h4
        omega
theorem min_first {W : Ws} (h : 0 < ((movers W).filter (canGo W)).length) : minI (((List.range W.length).filter (canGo W)).map fun k : Nat => (k : Int)) = (first W : Int) := by
  unfold first
  rw [go_movers] at h ⊢
  have hp : ((List.range W.length).filter (canGo W)).Pairwise (· < ·) := List.pairwise_lt_range.filter _
  generalize (List.range W.length).filter (canGo W) = xs at *
  have := minI_dec (getD0_mem h)
  have h2 : ∀ x ∈ xs, xs.getD 0 0 ≤ x := by
    cases xs with
    | nil => cases h
    | cons a t =>
      intro x hx
      rw [List.getD_cons_zero]
      rcases List.mem_cons.mp hx with e | e
      · omega
      · have := (List.pairwise_cons.mp hp).1 x e; omega
  rw [decide_eq_true h2] at this
  exact of_decide_eq_true this
end K82

set_option maxHeartbeats 1000000
namespace K82
open Sv
open PySem (Str PyData)
local macro_rules | `(tactic| walk_at "v1") => `(tactic| first | with_reducible (first | refine sw_seq ?_ | refine sw_set ?_ | refine sw_new ?_ | refine sw_asg ?_ | refine sw_rt ?_ | refine sw_ret ?_ | refine sw_ifB ?_ | refine sw_par ?_ | refine sw_nx ?_ | refine sw_exprM ?_ | refine kw_nil ?_ | refine kw_frz ?_ | refine kw_new ?_ | refine ew_con ?_ | refine ew_bin ?_ | refine ew_un ?_ | refine ew_tup ?_ | refine ew_lst ?_ | refine ew_fn ?_ | refine ew_call ?_ | refine ew_callO ?_ | refine ew_not ?_ | refine ew_chain ?_ | refine ew_slice ?_ | refine ow_none ?_ | refine ow_some ?_ | refine tw_bl ?_ | refine tw_of ?_ | refine tw_not ?_ | refine tw_yes ?_ | refine aw_nil ?_ | refine aw_cons ?_ | refine iw_seq ?_ | refine iw_enum ?_ | refine iw_zip ?_ | refine iw_rangeI ?_ | (apply ew_andC) | (apply ew_orC) | (apply tw_andC) | (apply tw_orC) | (apply ew_lcM') | (apply ew_lc') | exact rfl | exact cut_last _ _ | exact mapI _) | ((with_reducible apply ew_var); exact rfl) | ((with_reducible apply ew_bor); exact rfl) | ((with_reducible apply ew_borO); exact rfl) | with_reducible (first | refine o_eqN ?_ | refine o_neN ?_ | refine o_ltN ?_ | refine o_gtN ?_ | refine o_leN ?_ | refine o_geN ?_ | refine o_inN ?_ | refine o_ninN ?_ | refine o_inNL ?_ | refine o_ninNL ?_ | refine o_lenTm ?_ | refine o_lenLm ?_ | refine o_addN ?_ | refine o_addN1 ?_ | refine o_subN (by first | assumption | omega) ?_ | refine o_subN1 (by first | assumption | omega) ?_ | refine o_sumI ?_ | refine o_sumTI ?_ | refine o_ix0 ?_ | refine o_ix1 ?_ | refine o_ix2 ?_ | refine o_ix3 ?_ | refine o_ixT0 ?_ ?_ | refine o_ixL0 ?_ ?_ | refine o_ixT1 ?_ ?_ | refine o_isTupT ?_ | refine o_ixTN ?_ ?_ | refine o_ixTI ?_ ?_ | refine o_ixLN ?_ ?_ | refine o_ixLI ?_ ?_ | refine o_ixTG ?_ ?_ | refine o_ixLG ?_ ?_ | refine o_ixTD0 ?_ ?_ | refine o_ixTD1 ?_ ?_ | refine o_ixTD2 ?_ ?_ | refine o_ixTD ?_ ?_ | refine o_ixLD ?_ ?_) | with_reducible (first | refine o_eqI ?_ | refine o_neI ?_ | refine o_lt ?_ | refine o_gt ?_ | refine o_le ?_ | refine o_ge ?_ | refine o_all ?_ | refine o_any ?_ | refine o_sum ?_ | refine o_addI ?_ | refine o_subI ?_ | refine o_lenT ?_ | refine o_lenL ?_ | refine o_tupL ?_ | refine o_tupT ?_ | refine o_listL ?_ | refine o_listT ?_ | refine o_negI ?_ | refine o_intI ?_ | refine o_slT ?_ | refine o_slL ?_ | refine o_revT ?_ | refine o_revL ?_ | refine x_n ?_ | refine x_int ?_ | refine x_bl ?_ | refine x_tb ?_ | refine x_itT ?_ | refine x_itL ?_ | refine x_rt ?_ | refine rngQ ?_ ?_ | refine x_trT ?_ | refine x_trL ?_ | refine x_tri ?_ | refine o_max2 ?_ | refine o_min2 ?_ | refine o_addTs ?_ ?_ | refine o_addLs ?_ ?_) | (with_reducible refine And.intro ?_ ?_) | refine dec_imp fun _ => ?_ | refine decF_imp fun _ => ?_ | with_reducible (first | refine ndF_imp fun _ => ?_ | refine ndT_imp fun _ => ?_ | refine nF_imp ?_ | refine nT_imp ?_ | refine orF_imp ?_ | refine andT_imp ?_) | refine tr_imp fun _ => ?_ | refine fa_imp fun _ => ?_ | (intro x hx; refine Exists.intro _ (And.intro rfl ?_); try (have hx := List.mem_range.mp hx)) | (refine sd_lt ?_; first | assumption | omega | (simp only [List.length_map, List.length_range, List.length_cons, List.length_nil, List.length_append, List.length_set] at *; omega)) | (refine sd_le ?_; first | assumption | omega | (simp only [List.length_map, List.length_range, List.length_cons, List.length_nil, List.length_append, List.length_set] at *; omega)))
local macro_rules | `(tactic| walk_at "v") => `(tactic| (repeat' (walk_at "v1")))
local macro_rules | `(tactic| walk_at "v1") => `(tactic| with_reducible (first | refine o_ixW ?_ ?_ | refine o_ixWL ?_ ?_ | refine o_isNW ?_ | refine o_notNW ?_ | refine o_eqW ?_ | refine o_neW ?_ | refine o_ltW ?_ ?_ | refine o_geW ?_ ?_ | refine o_gtW ?_ ?_ | refine o_ixWW ?_ ?_ ?_))
local macro_rules | `(tactic| walk_at "v1") => `(tactic| (refine sd_some ?_; assumption))
local macro_rules | `(tactic| walk_at "v1") => `(tactic| (with_reducible refine sd_ge ?_; omega))
local macro_rules | `(tactic| walk_at "v1") => `(tactic| with_reducible (first | refine o_ninWo ?_ ?_ ?_ | refine o_ixWX ?_ ?_))
local macro_rules | `(tactic| walk_at "v1") => `(tactic| with_reducible (first | refine o_ninWN ?_ | refine o_ninWI ?_))
local macro_rules | `(tactic| walk_at "v1") => `(tactic| (refine sn_some ?_; assumption))
local macro_rules | `(tactic| walk_at "v1") => `(tactic| with_reducible (first | refine o_inWo ?_ ?_ ?_ | refine o_minN ?_ ?_))
local macro_rules | `(tactic| walk_at "w") => `(tactic| (repeat' (first | with_reducible (first | refine sw_seq ?_ | refine sw_set ?_ | refine sw_new ?_ | refine sw_asg ?_ | refine sw_rt ?_ | refine sw_ret ?_ | refine sw_if ?_ | refine sw_par ?_ | refine sw_nx ?_ | refine sw_exprM ?_ | refine kw_nil ?_ | refine kw_frz ?_ | refine kw_new ?_ | refine ew_con ?_ | refine ew_bin ?_ | refine ew_un ?_ | refine ew_tup ?_ | refine ew_lst ?_ | refine ew_fn ?_ | refine ew_call ?_ | refine ew_callO ?_ | refine ew_if ?_ | refine ew_not ?_ | refine ew_chain ?_ | refine ew_slice ?_ | refine ow_none ?_ | refine ow_some ?_ | refine tw_bl ?_ | refine tw_of ?_ | refine tw_not ?_ | refine tw_yes ?_ | refine aw_nil ?_ | refine aw_cons ?_ | refine iw_seq ?_ | refine iw_enum ?_ | refine iw_zip ?_) | refine ew_var rfl ?_ | refine ew_bor rfl ?_ | refine ew_borO rfl ?_ | refine o_eqI ?_ | refine o_neI ?_ | refine o_lt ?_ | refine o_gt ?_ | refine o_le ?_ | refine o_ge ?_ | refine o_all ?_ | refine o_any ?_ | refine o_sum ?_ | refine o_addI ?_ | refine o_subI ?_ | refine o_lenT ?_ | refine o_lenL ?_ | refine o_tupL ?_ | refine o_tupT ?_ | refine o_listL ?_ | refine o_listT ?_ | refine o_negI ?_ | refine o_intI ?_ | refine o_slT ?_ | refine o_slL ?_ | refine o_revT ?_ | refine o_revL ?_ | refine x_int ?_ | refine x_bl ?_ | refine x_tb ?_ | refine x_itT ?_ | refine x_itL ?_ | refine x_rt ?_)))
abbrev R (t g w p n ws ri fi od he so va rg sm rt : Sl) : Rho := [.emp, .frz (.tok 0), t, g, w, p, n, ws, ri, fi, od, he, so, va, rg, sm, rt, .emp, .emp]
section
variable {t g w p n ws ri fi od he so va rg sm rt : Sl} {Q : Fl → Rho → Prop} {rest : SS} {W : Ws}
theorem plain_tW (W : Ws) : (tW W).plain = true := enc_tW.plain W
theorem p1 (q : ∀ W : Ws, Ok W → 1 ≤ W.length → W.length ≤ 7 → Sw rest (R t g w p (.frz (nE W.length)) (.frz (tW W)) (.frz (tR (rings W))) (.frz (.bl (decide (rings W = [])))) od he so va rg sm rt) Q) : Sw (sSeq L0 (sSeq L1 (sSeq L2 (sSeq L3 (sSeq L4 rest))))) (R t g w p n ws ri fi od he so va rg sm rt) Q := by
  refine sw_seq (sw_set (ew_bin (ew_con (ew_call (aw_cons (ew_var rfl (aw_cons (ew_con (aw_nil (fw_drawN (n := 7) (by decide) (by decide) fun i hi => o_addI ?_))))))))))
  have e : (1 : Int) + i = ((1 + i : Nat) : Int) := by omega
  rw [e]
  refine sw_seq (sw_set (ew_call (aw_cons (ew_var rfl (aw_cons (ew_var (d := nE (1 + i)) rfl (aw_nil (w_wishes (by omega) (by omega) fun W ok hl => ?_))))))))
  refine sw_seq (sw_ifB (tw_bl (ew_bin (ew_call (aw_cons (ew_var (d := tW W) rfl (aw_nil (w_are (plain_tW W) ?_)))))))) 
  rw [are_true ok (by omega) (by omega)]
  refine ew_con (.of rfl ⟨false, rfl, brF rfl (sw_nx ?_)⟩)
  refine sw_seq (sw_par (kw_frz (ew_call (aw_cons (ew_var (d := tW W) rfl (aw_nil (w_lrings ok (by omega) (kw_frz (ew_call (aw_cons (ew_var (d := tW W) rfl (aw_nil (w_any ok (by omega) (kw_nil ?_)))))))))))))) 
  refine sw_seq (sw_ifB (tw_bl (ew_bin ?_)))
  walk_at "v"
  refine o_neB ?_
  walk_at "v"
  refine brF ?_ (sw_nx ?_)
  · cases rings W with
    | nil => rfl
    | cons a b => simp; omega
  have := q W ok (by omega) (by omega)
  rw [hl] at this
  exact this
theorem gdep {k : Nat} {d : D} (h : Gd k d) (hk : k < 40) : d.dep < 40 := by have := h.2; omega
theorem gd_ord {xs : List Nat} (s : String) (hl : xs.length ≤ 1000) : Gd 3 (.tup [.str s, tN xs]) := gd_tupL (n := 2) (by simp) (gd_allC ((gd_str' s).le (by omega)) (gd_allC (gd_tNn (n := 1) (by omega)) gd_all0))
theorem rings_le (W : Ws) : (rings W).length ≤ W.length := by
  have := List.length_filterMap_le (ringAt W) (List.range W.length)
  rwa [List.length_range] at this
theorem ring_len {W : Ws} {xs : List Nat} (h : xs ∈ rings W) : xs.length ≤ W.length := by
  obtain ⟨s, _, e⟩ := List.mem_filterMap.mp h
  obtain ⟨rg, hm⟩ := ringAt_ring e
  obtain ⟨c, p, _⟩ := rg.path
  refine p.lt fun x hx => ?_
  obtain ⟨y, _, e2, _⟩ := (rg.shut hm).cl x hx
  exact at_lt e2
theorem gd_tR {W : Ws} (hl : W.length ≤ 1000) : Gd 3 (tR (rings W)) := gd_tupM (n := 2) (by have := rings_le W; omega) fun xs hx => gd_tNn (n := 1) (by have := ring_len hx; omega)
theorem gd_rgs {W : Ws} (s : String) (hl : W.length ≤ 1000) : Gd 4 (.tup [.str s, tR (rings W)]) := gd_tupL (n := 3) (by simp) (gd_allC ((gd_str' s).le (by omega)) (gd_allC (gd_tR hl) gd_all0))
abbrev LP : SS := sPar [10, 11] (kNew (eLst (aNil)) (kFrz (eVar 7) (kNil)))
theorem p2t (ok : Ok W) (hl : W.length ≤ 7) (hr : rings W = []) (q : ∀ w p od he, Sw rest (R t g w p (.frz (nE W.length)) (.frz (tW W)) (.frz (tR (rings W))) (.frz (.bl (decide (rings W = [])))) od he (.frz (tN (order (movers W).length W))) va rg sm rt) Q) : Sw (sSeq L5 (sSeq LP (sSeq L8 (sSeq L9 (sSeq L10 rest))))) (R t g w p (.frz (nE W.length)) (.frz (tW W)) (.frz (tR (rings W))) (.frz (.bl (decide (rings W = [])))) od he so va rg sm rt) Q := by
  have hml := movers_le W
  have hf : decide (rings W = []) = true := decide_eq_true hr
  refine sw_seq (sw_asg (ew_call (aw_cons (ew_var rfl (aw_nil (w_going ok (by omega) ?_))))))
  rw [eGo, if_pos hr]
  refine ⟨_, rfl, ?_⟩
  refine sw_seq (sw_par (kw_new (ew_lst (aw_nil (kw_frz (ew_var (d := tW W) rfl (kw_nil ?_)))))))
  refine sw_seq (sw_wh (movers W).length (fun m ρ => ∃ (acc : List Nat) (H : Ws), ρ = R t g (.frz (.str "order")) (.frz (tN (order (movers W).length W))) (.frz (nE W.length)) (.frz (tW W)) (.frz (tR (rings W))) (.frz (.bl (decide (rings W = [])))) (.own (lN acc)) (.frz (tW H)) so va rg sm rt ∧ Ok H ∧ H.length = W.length ∧ rings H = [] ∧ (movers H).length = m ∧ order (movers W).length W = acc ++ order m H) (by omega) ⟨[], W, rfl, ok, rfl, hr, rfl, rfl⟩ ?_)
  rintro m _ ⟨acc, H, rfl, okH, hH, hrH, hm, ho⟩
  refine tw_andT (tw_of (ew_bor rfl (x_tb ⟨hf, tw_not (tw_of (ew_call (aw_cons (ew_var rfl (aw_nil (w_ldone (x_tb ?_)))))))⟩)))
  refine ⟨fun hk => ?_, fun hk => ?_⟩
  · have hd : movers H = [] := done_iff.mp (by simpa using hk)
    have hm0 : m = 0 := by rw [hd] at hm; exact hm.symm
    rw [hm0, order, List.append_nil] at ho
    have hg := gd_ord "order" (xs := order (movers W).length W) (by rw [order_length]; omega)
    refine sw_seq (sw_ifB (tw_not (tw_of (ew_call (aw_cons ?_)))))
    refine ew_tup (aw_cons (ew_var (d := .str "order") rfl (aw_cons (ew_var (d := tN (order (movers W).length W)) rfl (aw_nil ?_)))))
    refine aw_cons (ew_ifB (tw_of (ew_bor rfl (x_tb (brT hf ?_)))))
    refine ew_tup (aw_cons (ew_con (aw_cons (ew_fn (aw_cons (ew_borO rfl (aw_nil (o_tupL (aw_nil (aw_nil ?_))))))))))
    refine w_lsT ?_ hg.1 (gdep hg (by omega)) (x_tb (brF rfl (sw_nx ?_)))
    · rw [ho]
    · exact sw_seq (sw_set (ew_ifB (tw_of (ew_bor rfl (x_tb (brT hf (ew_var (d := tN (order (movers W).length W)) rfl (q _ _ _ _))))))))
  · have hd : done H = false := by simpa using hk
    have h0 : movers H ≠ [] := fun e => by rw [done_iff.mpr e] at hd; cases hd
    obtain ⟨hf2, hp⟩ := first_ok okH hrH h0
    obtain ⟨x, hx, _⟩ := canGo_iff.mp hf2
    obtain ⟨m, rfl⟩ : ∃ k, m = k + 1 := ⟨m - 1, by have := List.length_pos_iff.mpr h0; omega⟩
    have hal : acc.length + (m + 1) = (movers W).length := by
      have := congrArg List.length ho
      rw [List.length_append, order_length, order_length] at this
      omega
    have hmin := min_first hp
    rw [go_movers] at hp
    refine sw_seq (sw_exprM (mw_app (e := nE) (xs := acc) rfl (by omega) (ew_fn (aw_cons (ew_call (aw_cons (ew_var rfl (aw_nil (w_lsteps okH (by omega) (aw_nil (o_minN (List.length_pos_iff.mp hp) ⟨first H, by rw [hmin], ?_⟩)))))))))))
    refine sw_set (ew_call (aw_cons (ew_var (d := tW H) rfl (aw_cons (ew_bin (ew_borO rfl (ew_un (ew_con (o_negI (o_last (cur := first H) (by simp) (aw_nil (w_lbehind okH hx ?_))))))))))))
    refine ⟨m, by omega, acc ++ [first H], behind H (first H), rfl, okH.step hf2, by rw [behind_len]; exact hH, (rings_step okH hf2).mp hrH, ?_, ?_⟩
    · have := movers_len okH hf2
      omega
    · rw [ho, order, List.append_assoc]; rfl
theorem p2f (ok : Ok W) (hl : W.length ≤ 7) (hr : rings W ≠ []) (q : ∀ w p od he, Sw rest (R t g w p (.frz (nE W.length)) (.frz (tW W)) (.frz (tR (rings W))) (.frz (.bl (decide (rings W = [])))) od he (.frz (tN (movers W))) va rg sm rt) Q) : Sw (sSeq L5 (sSeq LP (sSeq L8 (sSeq L9 (sSeq L10 rest))))) (R t g w p (.frz (nE W.length)) (.frz (tW W)) (.frz (tR (rings W))) (.frz (.bl (decide (rings W = [])))) od he so va rg sm rt) Q := by
  have hf : decide (rings W = []) = false := decide_eq_false hr
  have hg := gd_rgs (W := W) "rings" (by omega)
  refine sw_seq (sw_asg (ew_call (aw_cons (ew_var rfl (aw_nil (w_going ok (by omega) ?_))))))
  rw [eGo, if_neg hr]
  refine ⟨_, rfl, ?_⟩
  refine sw_seq (sw_par (kw_new (ew_lst (aw_nil (kw_frz (ew_var (d := tW W) rfl (kw_nil ?_)))))))
  refine sw_seq (sw_wh 0 (fun m ρ => ρ = R t g (.frz (.str "rings")) (.frz (tR (rings W))) (.frz (nE W.length)) (.frz (tW W)) (.frz (tR (rings W))) (.frz (.bl (decide (rings W = [])))) (.own (.lst [])) (.frz (tW W)) so va rg sm rt) (by omega) rfl ?_)
  rintro m _ rfl
  refine tw_andF (tw_of (ew_bor rfl (x_tb hf))) ⟨fun _ => ?_, fun e => by cases e⟩
  refine sw_seq (sw_ifB (tw_not (tw_of (ew_call (aw_cons ?_)))))
  refine ew_tup (aw_cons (ew_var (d := .str "rings") rfl (aw_cons (ew_var (d := tR (rings W)) rfl (aw_nil ?_)))))
  refine aw_cons (ew_ifB (tw_of (ew_bor rfl (x_tb (brF hf ?_)))))
  refine ew_tup (aw_cons (ew_con (aw_cons (ew_var (d := tR (rings W)) rfl (aw_nil (aw_nil ?_))))))
  refine w_lsT rfl hg.1 (gdep hg (by omega)) (x_tb (brF rfl (sw_nx ?_)))
  refine sw_seq (sw_set (ew_ifB (tw_of (ew_bor rfl (x_tb (brF hf ?_))))))
  refine ew_fn (aw_cons (ew_lc (List.range W.length) nE (mover W) nE ?_ (fun k hk => ⟨_, rfl, ?_⟩) (aw_nil (o_tupL (q _ _ _ _)))))
  · exact iw_rangeI (aw_cons (ew_var rfl (aw_nil (rngQ (by omega) rfl))))
  · have hk := List.mem_range.mp hk
    walk_at "v"
    rw [mover]
    cases at_ W k with
    | none => rfl
    | some w => by_cases h : w = (k : Int) <;> simp [h]
/-! ### the values that are asked about -/
def Ve (v : D) : Prop := Vd v ∧ lenT v ≤ 4000
theorem same_b {b : Bool} {Q : D → Prop} (q : Q (.bl true)) : Fw (f_law_same 40) [.bl b, .bl b] Q := w_lsT rfl (gd_bl' b).1 (by show (0 : Nat) < 40; decide) q
theorem vd_small {d : D} (h : Gd 10 d) : Vd d := ⟨h.1, by have := h.2; omega⟩
theorem ve_small {d : D} (h : Gd 10 d) (hl : lenT d ≤ 4000) : Ve d := ⟨vd_small h, hl⟩
theorem ve_tN {xs : List Nat} (hl : xs.length ≤ 4000) : Ve (tN xs) := ve_small (gd_tNn (n := 9) (by omega)) (by show (xs.map nE).length ≤ 4000; rw [List.length_map]; exact hl)
theorem ew_bents' {ρ : Rho} {m i st : Nat} {v : D} {fv : Ex} (hb : bs v = true) (hm : m ≤ 100) (hd : v.dep ≤ 10) (e1 : ∀ d, ((wipeR ρ [st]).set st (Sl.frz d))[i]? = some (.frz (.tok 0))) (e2 : ∀ d, Ew fv ((wipeR ρ [st]).set st (Sl.frz d)) fun x => x = v) {Q : D → Prop}
    (q : ∀ rs : List D, rs.length = m → (∀ d ∈ rs, Ve d) → Q (.lst rs)) : Ew (eLc (iRange (aCons (eCon (.int (m : Nat))) (aNil))) (gNm st) (tYes') (eCall (f_law_bent 40) (aCons (eVar i) (aCons fv (aNil)))) [st]) ρ Q := by
  refine ew_lcV Ve ((List.range m).map nE) (iw_rangeN m (aw_cons (ew_con (aw_nil ⟨rfl, by omega, rfl⟩)))) (fun d _ => ⟨_, rfl, ?_⟩) fun rs hl hv => q rs (by simpa using hl) hv
  refine ew_call (aw_cons (ew_var (e1 _) (aw_cons ((e2 _).mono fun x ex => ?_))))
  subst ex
  rw [bent_eq]
  exact aw_nil (w_bent' 40 hb (by omega) fun w hw hl => ⟨⟨hw.1, by have := hw.2; omega⟩, by omega⟩)
theorem bs_tN {xs : List Nat} (hl : xs.length ≤ 1000) (h : ∀ x ∈ xs, x ≤ 1000) : bs (tN xs) = true := bs_map hl fun x hx => by
  have := h x hx
  simp only [bs, decide_eq_true_iff]
  omega
theorem p3 {S : List Nat} (ok : Ok W) (hl : W.length ≤ 7) (hS : S.length ≤ 7) (hS2 : ∀ x ∈ S, x < W.length) (q : ∀ va rt, Sw rest (R t g w p (.frz (nE W.length)) (.frz (tW W)) (.frz (tR (rings W))) (.frz (.bl (decide (rings W = [])))) od he (.frz (tN S)) va rg sm rt) Q) : Sw (sSeq L13 rest) (R t g w p (.frz (nE W.length)) (.frz (tW W)) (.frz (tR (rings W))) (.frz (.bl (decide (rings W = [])))) od he (.frz (tN S)) va rg sm rt) Q := by
  refine sw_seq (sw_forV Ve (fun ρ => ∃ va rt, ρ = R t g w p (.frz (nE W.length)) (.frz (tW W)) (.frz (tR (rings W))) (.frz (.bl (decide (rings W = [])))) od he (.frz (tN S)) va rg sm rt) ?_ ⟨va, rt, rfl⟩ ?_ ?_)
  · refine iw_seq (ew_bin (ew_lst ?_))
    have hc := cutD_len (S.map nE) none (some 1)
    have hc2 := cutD_len (S.map nE) (some 1) none
    rw [List.length_map] at hc hc2
    walk_at "w"
    refine o_addTs (by rw [List.length_map]; omega) ?_
    walk_at "w"
    refine ew_bents' (m := 5) (v := tN S) (bs_tN (by omega) fun x hx => by have := hS2 x hx; omega) (by omega) ?_ (fun _ => rfl) (fun _ => ew_var rfl rfl) fun rs hrl hrs => ?_
    · exact Nat.le_trans (gd_tNn (n := 0) (xs := S) (by omega)).2 (by omega)
    refine o_addLs (by simp; omega) ⟨_, rfl, fun d hd => ?_⟩
    have hm : ∀ d ∈ S.map nE, Gd 9 d := fun d hd => by
      obtain ⟨x, _, rfl⟩ := List.mem_map.mp hd
      exact (gd_int' _).le (by omega)
    have hm2 : ∀ {lo hi d}, d ∈ cutD (S.map nE) lo hi → Gd 9 d := fun hd => hm _ (cutD_sub _ hd)
    rcases List.mem_append.mp hd with hd | hd
    · simp only [List.mem_cons, List.not_mem_nil, or_false] at hd
      rcases hd with rfl | rfl | rfl | rfl | rfl | rfl | rfl | rfl | rfl
      · exact ve_tN (by omega)
      · exact ve_small (gd_tupL (n := 9) (by simp; omega) fun d hd => hm d (List.mem_reverse.mp hd)) (by simp [lenT]; omega)
      · exact ve_small (gd_tupL (n := 9) (by omega) fun d hd => hm2 hd) (by simp only [lenT]; omega)
      · refine ve_small (gd_tupL (n := 9) (by simp; omega) fun d hd => ?_) (by simp [lenT]; omega)
        rcases List.mem_append.mp hd with hd | hd
        · exact hm d hd
        · exact hm2 hd
      · exact ⟨⟨by decide +kernel, by decide +kernel⟩, by decide +kernel⟩
      · exact ⟨⟨by decide +kernel, by decide +kernel⟩, by decide +kernel⟩
      · exact ⟨⟨by decide +kernel, by decide +kernel⟩, by decide +kernel⟩
      · exact ve_tN (xs := [W.length]) (by simp)
      · exact ⟨⟨by decide +kernel, by decide +kernel⟩, by decide +kernel⟩
    · exact hrs d hd
  · rintro v _ hv ⟨va, rt, rfl⟩
    refine ⟨_, rfl, ?_⟩
    refine sw_seq (sw_setV (.bl (isGoingB W v)) ?_ ?_)
    · exact ew_call (aw_cons (ew_var (d := tW W) rfl (aw_cons (ew_var (d := v) rfl (aw_nil (w_lgoing ok (by omega) hv.1.plain rfl))))))
    refine sw_ifB (tw_orF (tw_not (tw_of (ew_call (aw_cons (ew_call (aw_cons (ew_var (d := tW W) rfl (aw_cons (ew_var (d := v) rfl (aw_nil (w_is_going ok hv.1.plain ?_))))))))))))
    refine aw_cons (ew_var (d := .bl (isGoingB W v)) rfl (aw_nil (same_b (x_tb ⟨rfl, ?_⟩))))
    cases hb : isGoingB W v with
    | false => exact tw_andF (tw_of (ew_bor rfl (x_tb rfl))) (brF rfl (sw_nx ⟨_, _, rfl⟩))
    | true =>
      have hf : decide (rings W = []) = true := decide_eq_true (going_fine ok hb)
      exact tw_andT (tw_of (ew_bor rfl (x_tb ⟨rfl, tw_not (tw_of (ew_bor rfl (x_tb (brF (by rw [hf]; rfl) (sw_nx ⟨_, _, rfl⟩)))))⟩)))
  · rintro _ ⟨va, rt, rfl⟩
    exact q _ _
theorem p4 (ok : Ok W) (hl : W.length ≤ 7) (q : ∀ va rg rt, Sw rest (R t g w p (.frz (nE W.length)) (.frz (tW W)) (.frz (tR (rings W))) (.frz (.bl (decide (rings W = [])))) od he so va rg sm rt) Q) : Sw (sSeq L14 (sSeq L17 rest)) (R t g w p (.frz (nE W.length)) (.frz (tW W)) (.frz (tR (rings W))) (.frz (.bl (decide (rings W = [])))) od he so va rg sm rt) Q := by
  have hrl := rings_le W
  obtain ⟨S, hS, hS2, eS⟩ : ∃ S : List Nat, S.length ≤ 7 ∧ (∀ x ∈ S, x ≤ 7) ∧ S = (if 0 < (rings W).length then (rings W).getD 0 default else [0, 1]) := by
    refine ⟨_, ?_, ?_, rfl⟩
    · split
      · rename_i h
        rw [getD_eq default h]
        have := ring_len (List.getElem_mem h)
        omega
      · simp
    · split
      · rename_i h
        rw [getD_eq default h]
        intro x hx
        obtain ⟨s, _, e⟩ := List.mem_filterMap.mp (List.getElem_mem h)
        obtain ⟨rg, hm⟩ := ringAt_ring e
        obtain ⟨y, _, e2, _⟩ := (rg.shut hm).cl x hx
        have := at_lt e2
        omega
      · intro x hx; simp at hx; omega
  refine sw_seq (sw_setV (tN S) ?_ ?_)
  · refine ew_ifB ?_
    walk_at "v"
    refine br (fun h => ?_) fun h => ?_
    · have h : 0 < (rings W).length := by have := of_decide_eq_true h; omega
      rw [if_pos h] at eS
      walk_at "v"
      rw [eS]
    · have h : ¬ 0 < (rings W).length := by have := of_decide_eq_false h; omega
      rw [if_neg h] at eS
      walk_at "v"
      rw [eS]; rfl
  refine sw_seq (sw_forV Ve (fun ρ => ∃ va rt, ρ = R t g w p (.frz (nE W.length)) (.frz (tW W)) (.frz (tR (rings W))) (.frz (.bl (decide (rings W = [])))) od he so va (.frz (tN S)) sm rt) ?_ ⟨va, rt, rfl⟩ ?_ ?_)
  · have hc := cutD_len (S.map nE) none (some 1)
    have hc2 := cutD_len (S.map nE) (some 1) none
    rw [List.length_map] at hc hc2
    refine iw_seq (ew_bin (ew_bin ?_))
    walk_at "w"
    refine o_addTs (by omega) ?_
    walk_at "w"
    refine o_addTs (by rw [List.length_map]; omega) ?_
    walk_at "w"
    refine .of (rtD_nat (n := W.length) (by omega)) ?_
    walk_at "w"
    refine o_addLs (by simp; omega) ?_
    refine ew_bents' (m := 5) (v := tN S) (bs_tN (by omega) fun x hx => by have := hS2 x hx; omega) (by omega) ?_ (fun _ => rfl) (fun _ => ew_var rfl rfl) fun rs hrl hrs => ?_
    · exact Nat.le_trans (gd_tNn (n := 0) (xs := S) (by omega)).2 (by omega)
    refine o_addLs (by rw [List.length_append]; simp; omega) ⟨_, rfl, fun d hd => ?_⟩
    have hm : ∀ d ∈ S.map nE, Gd 9 d := fun d hd => by
      obtain ⟨x, _, rfl⟩ := List.mem_map.mp hd
      exact (gd_int' _).le (by omega)
    have hm2 : ∀ {lo hi d}, d ∈ cutD (S.map nE) lo hi → Gd 9 d := fun hd => hm _ (cutD_sub _ hd)
    rcases List.mem_append.mp hd with hd | hd
    · rcases List.mem_append.mp hd with hd | hd
      · obtain ⟨xs, hx, rfl⟩ := List.mem_map.mp hd
        exact ve_tN (by have := ring_len hx; omega)
      simp only [List.mem_cons, List.not_mem_nil, or_false] at hd
      rcases hd with rfl | rfl | rfl | rfl | rfl | rfl | rfl | rfl | rfl | rfl
      · exact ve_tN (by omega)
      · exact ve_small (gd_tupL (n := 9) (by simp; omega) fun d hd => hm d (List.mem_reverse.mp hd)) (by simp [lenT]; omega)
      · refine ve_small (gd_tupL (n := 9) (by simp; omega) fun d hd => ?_) (by simp [lenT]; omega)
        rcases List.mem_append.mp hd with hd | hd
        · exact hm2 hd
        · exact hm2 hd
      · exact ve_small (gd_tupL (n := 9) (by omega) fun d hd => hm2 hd) (by simp only [lenT]; omega)
      · refine ve_small (gd_tupL (n := 9) (by simp; omega) fun d hd => ?_) (by simp [lenT]; omega)
        rcases List.mem_append.mp hd with hd | hd
        · exact hm d hd
        · exact hm2 hd
      · exact ⟨⟨by decide +kernel, by decide +kernel⟩, by decide +kernel⟩
      · exact ⟨⟨by decide +kernel, by decide +kernel⟩, by decide +kernel⟩
      · exact ⟨⟨by decide +kernel, by decide +kernel⟩, by decide +kernel⟩
      · exact ⟨⟨by decide +kernel, by decide +kernel⟩, by decide +kernel⟩
      · exact ve_tN (by simp; omega)
    · exact hrs d hd
  · rintro v _ hv ⟨va, rt, rfl⟩
    refine ⟨_, rfl, ?_⟩
    refine sw_seq (sw_setV (.bl (isRingB W v)) ?_ ?_)
    · exact ew_call (aw_cons (ew_var (d := tW W) rfl (aw_cons (ew_var (d := v) rfl (aw_nil (w_lring ok hv.1.plain hv.2 rfl))))))
    refine sw_ifB (tw_orF (tw_not (tw_of (ew_call (aw_cons (ew_call (aw_cons (ew_var (d := tW W) rfl (aw_cons (ew_var (d := v) rfl (aw_nil (w_is_ring ok hv.1.plain hv.2 ?_))))))))))))
    refine aw_cons (ew_var (d := .bl (isRingB W v)) rfl (aw_nil (same_b (x_tb ⟨rfl, ?_⟩))))
    cases hb : isRingB W v with
    | false => exact tw_andF (tw_of (ew_bor rfl (x_tb rfl))) (brF rfl (sw_nx ⟨_, _, rfl⟩))
    | true =>
      obtain ⟨xs, ev, hx⟩ := ring_in ok hb
      have hf : decide (rings W = []) = false := decide_eq_false fun e => by rw [e] at hx; cases hx
      subst ev
      refine tw_andT (tw_of (ew_bor rfl (x_tb ⟨rfl, ?_⟩)))
      refine tw_orF (tw_of (ew_bor rfl (x_tb ⟨hf, ?_⟩)))
      refine tw_bl (ew_bin (ew_bor (d := tN xs) rfl (ew_bor (d := tR (rings W)) rfl (o_ninT (e := tN) enc_tN (x := xs) (x_bl (brF ?_ (sw_nx ⟨_, _, rfl⟩)))))))
      simp [hx]
  · rintro _ ⟨va, rt, rfl⟩
    exact q _ _ _
theorem p5 (q : ∀ sm, Sw rest (R t g w p n ws ri fi od he so va rg sm rt) Q) : Sw (sSeq L18 (sSeq L19 rest)) (R t g w p n ws ri fi od he so va rg sm rt) Q := by
  refine sw_seq (sw_set (ew_call (aw_cons (ew_var rfl (aw_cons (ew_bin (ew_con (ew_call (aw_cons (ew_var rfl (aw_cons (ew_con (aw_nil (fw_drawN (n := 4) (by decide) (by decide) fun i hi => o_addI ?_))))))))))))))
  have e : (1 : Int) + i = ((1 + i : Nat) : Int) := by omega
  rw [e]
  refine aw_nil (w_wishes (by omega) (by omega) fun W ok hl => ?_)
  have eq : (if (rings W ≠ [] ∧ none ∉ W ∧ some (-1) ∉ W) then D.non else nE ((movers W).length + (rings W).length)) = (if stuck W = true then D.non else nE (phi W)) := by
    have : (rings W ≠ [] ∧ none ∉ W ∧ some (-1) ∉ W) ↔ stuck W = true := by
      unfold stuck
      simp
    by_cases h : stuck W = true
    · rw [if_pos h, if_pos (this.mpr h)]
    · rw [if_neg h, if_neg (fun z => h (this.mp z))]; rfl
  refine sw_seq (sw_ifB (tw_not (tw_of (ew_call (aw_cons (ew_call (aw_cons (ew_var (d := tW W) rfl (aw_nil (w_least ok (by omega) ?_)))))))))) 
  refine aw_cons (ew_call (aw_cons (ew_var (d := tW W) rfl (aw_nil (w_fewest ok (by omega) (by omega) (aw_nil (w_lsT eq ?_ ?_ (x_tb (brF rfl (sw_nx (q _))))))))))) 
  · split <;> rfl
  · split
    · decide
    · show (0 : Nat) < 40; decide
theorem bs_tW (ok : Ok W) (hl : W.length ≤ 1000) : bs (tW W) = true := bs_map hl fun o ho => by
  cases o with
  | none => rfl
  | some w =>
    obtain ⟨j, _, e⟩ := mem_at ho
    have := ok.bd j w e
    show decide (w.natAbs ≤ 1000000000) = true
    exact decide_eq_true (by omega)
theorem gd_mW {d : D} (h : d ∈ W.map eW) : Gd 9 d := by
  obtain ⟨o, _, rfl⟩ := List.mem_map.mp h
  exact ⟨gd_eW o, by rw [dep_eW]; omega⟩
theorem p6 (ok : Ok W) (hl : W.length ≤ 7) (q : ∀ va, Q .nx (R t g w p n (.frz (tW W)) ri fi od he so va rg sm rt)) : Sw L21 (R t g w p n (.frz (tW W)) ri fi od he so va rg sm rt) Q := by
  refine sw_forV Ve (fun ρ => ∃ va, ρ = R t g w p n (.frz (tW W)) ri fi od he so va rg sm rt) ?_ ⟨va, rfl⟩ ?_ ?_
  · refine iw_seq (ew_bin (ew_lst ?_))
    walk_at "w"
    refine o_addTs (by simp; omega) ?_
    walk_at "w"
    refine o_addTs (by simp; omega) ?_
    walk_at "w"
    refine o_addTs (by simp; omega) ?_
    walk_at "w"
    refine ew_bents' (m := 5) (v := tW W) (bs_tW ok (by omega)) (by omega) (Nat.le_trans (enc_tW.dep W) (by omega)) (fun _ => rfl) (fun _ => ew_var rfl rfl) fun rs hrl hrs => ?_
    refine o_addLs (by simp; omega) ⟨_, rfl, fun d hd => ?_⟩
    have hm : ∀ d ∈ W.map eW, Gd 9 d := fun d hd => gd_mW hd
    have app : ∀ ds : List D, ds.length ≤ 2 → (∀ d ∈ ds, Gd 9 d) → Ve (.tup (W.map eW ++ ds)) := fun ds h1 h2 => by
      refine ve_small (gd_tupL (n := 9) (by simp; omega) fun d hd => ?_) (by simp [lenT]; omega)
      rcases List.mem_append.mp hd with hd | hd
      · exact hm d hd
      · exact h2 d hd
    rcases List.mem_append.mp hd with hd | hd
    · simp only [List.mem_cons, List.not_mem_nil, or_false] at hd
      rcases hd with rfl | rfl | rfl | rfl | rfl | rfl | rfl | rfl | rfl | rfl | rfl | rfl
      · exact ve_small (gd_tupL (n := 9) (by simp; omega) hm) (by simp [lenT]; omega)
      · exact ve_small (gd_tupL (n := 9) (by simp; omega) fun d hd => hm d (List.mem_reverse.mp hd)) (by simp [lenT]; omega)
      · exact app _ (by simp) (gd_allC ((gd_int' _).le (by omega)) (gd_allC ((gd_int' _).le (by omega)) gd_all0))
      · exact app _ (by simp) (gd_allC ((gd_int' _).le (by omega)) gd_all0)
      · exact app _ (by simp) (gd_allC ((gd_int' _).le (by omega)) gd_all0)
      all_goals exact ⟨⟨by decide +kernel, by decide +kernel⟩, by decide +kernel⟩
    · exact hrs d hd
  · rintro v _ hv ⟨va, rfl⟩
    refine ⟨_, rfl, ?_⟩
    refine sw_ifB (tw_not (tw_of (ew_call (aw_cons (ew_call (aw_cons (ew_var (d := v) rfl (aw_nil (w_are hv.1.plain ?_)))))))))
    refine aw_cons (ew_call (aw_cons (ew_var (d := v) rfl (aw_nil (w_lare hv.1.plain (aw_nil (same_b (x_tb (brF rfl (sw_nx ⟨_, rfl⟩))))))))))
  · rintro _ ⟨va, rfl⟩
    exact q _
theorem turn (q : ∀ g w p n ws ri fi od he so va rg sm rt, Q .nx (R t g w p n ws ri fi od he so va rg sm rt)) : Sw (sSeq (L0) (sSeq (L1) (sSeq (L2) (sSeq (L3) (sSeq (L4) (sSeq (L5) (sSeq LP (sSeq (L8) (sSeq (L9) (sSeq (L10) (sSeq (L13) (sSeq (L14) (sSeq (L17) (sSeq (L18) (sSeq (L19) (L21)))))))))))))))) (R t g w p n ws ri fi od he so va rg sm rt) Q := by
  refine p1 fun W ok h1 hl => ?_
  by_cases hr : rings W = []
  · have hml := movers_le W
    refine p2t ok hl hr fun w p od he => ?_
    refine p3 ok hl (by rw [order_length]; omega) (order_walk _ ok hr rfl).1 fun va rt => ?_
    exact p4 ok hl fun va rg rt => p5 fun sm => p6 ok hl fun va => q _ _ _ _ _ _ _ _ _ _ _ _ _ _
  · have hml := movers_le W
    refine p2f ok hl hr fun w p od he => ?_
    refine p3 ok hl (by omega) (fun x hx => List.mem_range.mp (List.mem_filter.mp hx).1) fun va rt => ?_
    exact p4 ok hl fun va rg rt => p5 fun sm => p6 ok hl fun va => q _ _ _ _ _ _ _ _ _ _ _ _ _ _
def wA : Ws := [some 1, some 0, some (-1)]
def wB : Ws := [some 1, some 0]
theorem ok_of {W : Ws} (h1 : ∀ j, j < W.length → ∀ w, at_ W j = some w → -1 ≤ w ∧ w < W.length) (h2 : ∀ i, i < W.length → ∀ j, j < W.length → i ≠ j → at_ W i = at_ W j → ∀ w, at_ W i = some w → w < 0) : Ok W :=
  ⟨fun j w e => h1 j (at_lt e) w e, fun i j w h0 e1 e2 => by
    refine Classical.byContradiction fun hij => ?_
    have := h2 i (at_lt e1) j (at_lt e2) hij (by rw [e1, e2]) w e1
    omega⟩
theorem ok_A : Ok wA := by
  refine ok_of (fun j hj w e => ?_) fun i hi j hj hij e w ew => ?_
  · rcases (show j = 0 ∨ j = 1 ∨ j = 2 by simp [wA] at hj; omega) with rfl | rfl | rfl <;> simp [wA, at_] at e <;> subst e <;> simp [wA]
  · rcases (show i = 0 ∨ i = 1 ∨ i = 2 by simp [wA] at hi; omega) with rfl | rfl | rfl <;> rcases (show j = 0 ∨ j = 1 ∨ j = 2 by simp [wA] at hj; omega) with rfl | rfl | rfl <;> simp [wA, at_] at e hij ew
theorem ok_B : Ok wB := by
  refine ok_of (fun j hj w e => ?_) fun i hi j hj hij e w ew => ?_
  · rcases (show j = 0 ∨ j = 1 by simp [wB] at hj; omega) with rfl | rfl <;> simp [wB, at_] at e <;> subst e <;> simp [wB]
  · rcases (show i = 0 ∨ i = 1 by simp [wB] at hi; omega) with rfl | rfl <;> rcases (show j = 0 ∨ j = 1 by simp [wB] at hj; omega) with rfl | rfl <;> simp [wB, at_] at e hij ew
theorem rings_A : rings wA = [[0, 1]] := by decide +kernel
theorem rings_B : rings wB = [[0, 1]] := by decide +kernel
theorem movers_A : (movers wA).length = 3 := by decide +kernel
end
theorem tail (W : Ws) {t w p n ws ri fi od he so va rg sm rt : Sl} {Q : Fl → Rho → Prop} {rest : SS} (ok : Ok W) (hl : W.length = 24) (q : ∀ w p, Sw rest (R t (.frz (tW W)) w p n ws ri fi od he so va rg sm rt) Q) : Sw (sSeq L24 (sSeq L25 rest)) (R t (.frz (tW W)) w p n ws ri fi od he so va rg sm rt) Q := by
  refine sw_seq (sw_asg (ew_call (aw_cons (ew_var (d := tW W) rfl (aw_nil (w_going ok (by omega) ?_))))))
  by_cases hr : rings W = []
  · rw [eGo, if_pos hr]
    refine ⟨_, rfl, ?_⟩
    refine sw_seq (sw_ifB (tw_orF (tw_andF (tw_bl (ew_bin (ew_bor (d := .str "order") rfl (ew_con (.of (r := .bl false) (by decide +kernel) ⟨_, rfl, rfl⟩))))) ⟨rfl, ?_⟩)))
    refine tw_andT (tw_bl (ew_bin (ew_bor (d := .str "order") rfl (ew_con (.of (r := .bl true) (by decide +kernel) ⟨_, rfl, rfl, ?_⟩)))))
    refine tw_not (tw_of (ew_call (aw_cons (ew_var (d := tW W) rfl (aw_cons (ew_var (d := tN (order (movers W).length W)) rfl (aw_nil (w_lgoing ok (by omega) (enc_tN.plain _) ?_))))))))
    rw [order_going ok hr]
    exact x_tb (brF rfl (sw_nx (q _ _)))
  · rw [eGo, if_neg hr]
    refine ⟨_, rfl, ?_⟩
    have hg := gd_tR (W := W) (by omega)
    refine sw_seq (sw_ifB (tw_orF (tw_andT (tw_bl (ew_bin (ew_bor (d := .str "rings") rfl (ew_con (.of (r := .bl true) (by decide +kernel) ⟨_, rfl, rfl, ?_⟩))))))))
    refine tw_not (tw_of (ew_call (aw_cons (ew_var (d := tR (rings W)) rfl (aw_cons (ew_call (aw_cons (ew_var (d := tW W) rfl (aw_nil (w_lrings ok (by omega) (aw_nil ?_)))))))))))
    refine w_lsT rfl hg.1 (gdep hg (by omega)) (x_tb ⟨rfl, ?_⟩)
    exact tw_andF (tw_bl (ew_bin (ew_bor (d := .str "rings") rfl (ew_con (.of (r := .bl false) (by decide +kernel) ⟨_, rfl, rfl⟩))))) (brF rfl (sw_nx (q _ _)))
end K82

set_option maxHeartbeats 1000000
/-! k82: the whole -/
namespace K82
open Sv
open PySem (Str PyData)
theorem ew_wA {ρ : Rho} {Q : List D → Prop} (q : Q [tW wA]) : Aw (aCons (eTup (aCons (eCon (.int 1)) (aCons (eCon (.int 0)) (aCons (eUn opNeg (eCon (.int 1))) (aNil))))) (aNil)) ρ Q :=
  aw_cons (ew_tup (aw_cons (ew_con (aw_cons (ew_con (aw_cons (ew_un (ew_con (o_negI (aw_nil (aw_nil q)))))))))))
theorem ew_wB {ρ : Rho} {Q : List D → Prop} (q : Q [tW wB]) : Aw (aCons (eTup (aCons (eCon (.int 1)) (aCons (eCon (.int 0)) (aNil)))) (aNil)) ρ Q :=
  aw_cons (ew_tup (aw_cons (ew_con (aw_cons (ew_con (aw_nil (aw_nil q)))))))
theorem eGo_A : eGo wA = .tup [.str "rings", .tup [tN [0, 1]]] := by
  rw [eGo, if_neg (by rw [rings_A]; simp), rings_A]; rfl
theorem last {ρ : Rho} : Sw L26 ρ fun fl _ => fl = .rt (.bl true) := by
  refine sw_ret (ew_andT (ew_call (aw_cons (ew_call (ew_wA (w_going ok_A (by decide) ?_))))))
  rw [eGo_A]
  have hg : Gd 4 (D.tup [.str "rings", .tup [tN [0, 1]]]) := gd_tupL (n := 3) (by simp) (gd_allC ((gd_str' "rings").le (by omega)) (gd_allC (gd_tupL (n := 2) (by simp) (gd_allC (gd_tNn (n := 1) (by simp)) gd_all0)) gd_all0))
  refine aw_cons (ew_tup (aw_cons (ew_con (aw_cons (ew_tup (aw_cons (ew_tup (aw_cons (ew_con (aw_cons (ew_con (aw_nil (aw_nil (aw_nil (aw_nil ?_)))))))))))))))
  refine w_lsT rfl hg.1 (gdep hg (by omega)) ⟨rfl, ?_⟩
  refine ew_andT (ew_call (aw_cons (ew_call (ew_wA (w_least ok_A (by decide) ?_)))))
  rw [if_neg (by
    rintro ⟨_, _, h⟩
    exact h (by simp [wA])), rings_A, movers_A]
  refine aw_cons (ew_con (aw_nil (w_lsT rfl (gd_int' _).1 (by show (0 : Nat) < 40; decide) ⟨rfl, ?_⟩)))
  refine ew_bin (ew_call (ew_wB (w_least ok_B (by decide) ?_)))
  rw [if_pos (by
    refine ⟨by rw [rings_B]; simp, by simp [wB], by simp [wB]⟩)]
  exact ew_con (.of rfl rfl)
theorem law_sw : Sw s_law (Sl.emp :: Sl.frz (.tok 0) :: List.replicate 17 Sl.emp) (fun fl _ => fl = .rt (.bl true)) := by
  refine sw_seq (sw_forR 4 nE (fun _ ρ => ∃ t g w p n ws ri fi od he so va rg sm rt, ρ = R t g w p n ws ri fi od he so va rg sm rt) ?_ ⟨.emp, .emp, .emp, .emp, .emp, .emp, .emp, .emp, .emp, .emp, .emp, .emp, .emp, .emp, .emp, rfl⟩ ?_ ?_)
  · exact iw_rangeN 4 (aw_cons (ew_con (aw_nil ⟨rfl, by omega, rfl⟩)))
  · rintro i hi _ ⟨t, g, w, p, n, ws, ri, fi, od, he, so, va, rg, sm, rt, rfl⟩
    refine ⟨_, rfl, ?_⟩
    exact turn fun g w p n ws ri fi od he so va rg sm rt => ⟨_, _, _, _, _, _, _, _, _, _, _, _, _, _, _, rfl⟩
  · rintro _ ⟨t, g, w, p, n, ws, ri, fi, od, he, so, va, rg, sm, rt, rfl⟩
    refine sw_seq (sw_set (ew_call (aw_cons (ew_var rfl (aw_cons (ew_con (aw_nil (w_wishes (n := 24) (by decide) (by decide) fun W ok hl => ?_))))))))
    exact tail W ok hl fun w p => last
theorem plain : ∀ ns : List Int, ns.length ≤ 63 → ∃ ρ b, lawAt ⟨ns, 0, 4711 + ns.length⟩ = some (.rt (.bl true), ρ, b) := fun ns _ => by
  obtain ⟨fl, ρ, b, e, h⟩ := law_sw ⟨ns, 0, 4711 + ns.length⟩
  rw [h] at e
  exact ⟨ρ, b, e⟩
end K82

set_option maxHeartbeats 8000000
namespace K82
open PySem L2 Sv
open PyProof.Rows (envOfC)
theorem all_mk {l : PySem.W.OpenLaw} {w : World} {K : PySem.W.Frag} {h : Heap} {mg : Str → Option Value} {fa : Addr} {f1 f4 f5 f6 f7 f8 f9 f10 f11 f12 f14 f15 f16 f17 f18 f19 f20 f21 f22 f23 f24 f25 f26 f27 f28 f29 : Addr} (X : K.In h) (G : h.Ns mainGlobals mg) (hfa : mg "law" = some (.ref fa))
    {od1 an1 : Option Addr} {sl1 : Array (Option Value)} {oc1 kV1 dc1 pm1 cd1 ct1 : Value} (a1 : PySem.W.nsIn K mainGlobals "is_number" = some (some (.ref f1))) (l1 : K.lookup f1 = some ⟨oc1, od1, .func (PySem.W.fnOf "is_number" "is_number" (defArgs (top 1)) (defBody (top 1)) (defScope (top 1)) .none kV1 dc1 pm1 an1 cd1 ct1), sl1⟩) (c1 : PySem.W.codeIn K cd1 "is_number" = true) (k1 : PySem.W.keepIn K (.ref f1) = true)
    {od4 an4 : Option Addr} {sl4 : Array (Option Value)} {oc4 kV4 dc4 pm4 cd4 ct4 : Value} (a4 : PySem.W.nsIn K mainGlobals "are_wishes" = some (some (.ref f4))) (l4 : K.lookup f4 = some ⟨oc4, od4, .func (PySem.W.fnOf "are_wishes" "are_wishes" (defArgs (top 4)) (defBody (top 4)) (defScope (top 4)) .none kV4 dc4 pm4 an4 cd4 ct4), sl4⟩) (c4 : PySem.W.codeIn K cd4 "are_wishes" = true) (k4 : PySem.W.keepIn K (.ref f4) = true)
    {od5 an5 : Option Addr} {sl5 : Array (Option Value)} {oc5 kV5 dc5 pm5 cd5 ct5 : Value} (a5 : PySem.W.nsIn K mainGlobals "movers" = some (some (.ref f5))) (l5 : K.lookup f5 = some ⟨oc5, od5, .func (PySem.W.fnOf "movers" "movers" (defArgs (top 5)) (defBody (top 5)) (defScope (top 5)) .none kV5 dc5 pm5 an5 cd5 ct5), sl5⟩) (c5 : PySem.W.codeIn K cd5 "movers" = true) (k5 : PySem.W.keepIn K (.ref f5) = true)
    {od6 an6 : Option Addr} {sl6 : Array (Option Value)} {oc6 kV6 dc6 pm6 cd6 ct6 : Value} (a6 : PySem.W.nsIn K mainGlobals "behind_going" = some (some (.ref f6))) (l6 : K.lookup f6 = some ⟨oc6, od6, .func (PySem.W.fnOf "behind_going" "behind_going" (defArgs (top 6)) (defBody (top 6)) (defScope (top 6)) .none kV6 dc6 pm6 an6 cd6 ct6), sl6⟩) (c6 : PySem.W.codeIn K cd6 "behind_going" = true) (k6 : PySem.W.keepIn K (.ref f6) = true)
    {od7 an7 : Option Addr} {sl7 : Array (Option Value)} {oc7 kV7 dc7 pm7 cd7 ct7 : Value} (a7 : PySem.W.nsIn K mainGlobals "can_go" = some (some (.ref f7))) (l7 : K.lookup f7 = some ⟨oc7, od7, .func (PySem.W.fnOf "can_go" "can_go" (defArgs (top 7)) (defBody (top 7)) (defScope (top 7)) .none kV7 dc7 pm7 an7 cd7 ct7), sl7⟩) (c7 : PySem.W.codeIn K cd7 "can_go" = true) (k7 : PySem.W.keepIn K (.ref f7) = true)
    {od8 an8 : Option Addr} {sl8 : Array (Option Value)} {oc8 kV8 dc8 pm8 cd8 ct8 : Value} (a8 : PySem.W.nsIn K mainGlobals "rings_of" = some (some (.ref f8))) (l8 : K.lookup f8 = some ⟨oc8, od8, .func (PySem.W.fnOf "rings_of" "rings_of" (defArgs (top 8)) (defBody (top 8)) (defScope (top 8)) .none kV8 dc8 pm8 an8 cd8 ct8), sl8⟩) (c8 : PySem.W.codeIn K cd8 "rings_of" = true) (k8 : PySem.W.keepIn K (.ref f8) = true)
    {od9 an9 : Option Addr} {sl9 : Array (Option Value)} {oc9 kV9 dc9 pm9 cd9 ct9 : Value} (a9 : PySem.W.nsIn K mainGlobals "going" = some (some (.ref f9))) (l9 : K.lookup f9 = some ⟨oc9, od9, .func (PySem.W.fnOf "going" "going" (defArgs (top 9)) (defBody (top 9)) (defScope (top 9)) .none kV9 dc9 pm9 an9 cd9 ct9), sl9⟩) (c9 : PySem.W.codeIn K cd9 "going" = true) (k9 : PySem.W.keepIn K (.ref f9) = true)
    {od10 an10 : Option Addr} {sl10 : Array (Option Value)} {oc10 kV10 dc10 pm10 cd10 ct10 : Value} (a10 : PySem.W.nsIn K mainGlobals "is_going" = some (some (.ref f10))) (l10 : K.lookup f10 = some ⟨oc10, od10, .func (PySem.W.fnOf "is_going" "is_going" (defArgs (top 10)) (defBody (top 10)) (defScope (top 10)) .none kV10 dc10 pm10 an10 cd10 ct10), sl10⟩) (c10 : PySem.W.codeIn K cd10 "is_going" = true) (k10 : PySem.W.keepIn K (.ref f10) = true)
    {od11 an11 : Option Addr} {sl11 : Array (Option Value)} {oc11 kV11 dc11 pm11 cd11 ct11 : Value} (a11 : PySem.W.nsIn K mainGlobals "is_ring" = some (some (.ref f11))) (l11 : K.lookup f11 = some ⟨oc11, od11, .func (PySem.W.fnOf "is_ring" "is_ring" (defArgs (top 11)) (defBody (top 11)) (defScope (top 11)) .none kV11 dc11 pm11 an11 cd11 ct11), sl11⟩) (c11 : PySem.W.codeIn K cd11 "is_ring" = true) (k11 : PySem.W.keepIn K (.ref f11) = true)
    {od12 an12 : Option Addr} {sl12 : Array (Option Value)} {oc12 kV12 dc12 pm12 cd12 ct12 : Value} (a12 : PySem.W.nsIn K mainGlobals "least_goings" = some (some (.ref f12))) (l12 : K.lookup f12 = some ⟨oc12, od12, .func (PySem.W.fnOf "least_goings" "least_goings" (defArgs (top 12)) (defBody (top 12)) (defScope (top 12)) .none kV12 dc12 pm12 an12 cd12 ct12), sl12⟩) (c12 : PySem.W.codeIn K cd12 "least_goings" = true) (k12 : PySem.W.keepIn K (.ref f12) = true)
    {od14 an14 : Option Addr} {sl14 : Array (Option Value)} {oc14 kV14 dc14 pm14 cd14 ct14 : Value} (a14 : PySem.W.nsIn K mainGlobals "_law_box" = some (some (.ref f14))) (l14 : K.lookup f14 = some ⟨oc14, od14, .func (PySem.W.fnOf "_law_box" "_law_box" (defArgs (top 14)) (defBody (top 14)) (defScope (top 14)) .none kV14 dc14 pm14 an14 cd14 ct14), sl14⟩) (c14 : PySem.W.codeIn K cd14 "_law_box" = true) (k14 : PySem.W.keepIn K (.ref f14) = true)
    {od15 an15 : Option Addr} {sl15 : Array (Option Value)} {oc15 kV15 dc15 pm15 cd15 ct15 : Value} (a15 : PySem.W.nsIn K mainGlobals "_law_load" = some (some (.ref f15))) (l15 : K.lookup f15 = some ⟨oc15, od15, .func (PySem.W.fnOf "_law_load" "_law_load" (defArgs (top 15)) (defBody (top 15)) (defScope (top 15)) .none kV15 dc15 pm15 an15 cd15 ct15), sl15⟩) (c15 : PySem.W.codeIn K cd15 "_law_load" = true) (k15 : PySem.W.keepIn K (.ref f15) = true)
    {od16 an16 : Option Addr} {sl16 : Array (Option Value)} {oc16 kV16 dc16 pm16 cd16 ct16 : Value} (a16 : PySem.W.nsIn K mainGlobals "_law_draw" = some (some (.ref f16))) (l16 : K.lookup f16 = some ⟨oc16, od16, .func (PySem.W.fnOf "_law_draw" "_law_draw" (defArgs (top 16)) (defBody (top 16)) (defScope (top 16)) .none kV16 dc16 pm16 an16 cd16 ct16), sl16⟩) (c16 : PySem.W.codeIn K cd16 "_law_draw" = true) (k16 : PySem.W.keepIn K (.ref f16) = true)
    {od17 an17 : Option Addr} {sl17 : Array (Option Value)} {oc17 kV17 dc17 pm17 cd17 ct17 : Value} (a17 : PySem.W.nsIn K mainGlobals "_law_same" = some (some (.ref f17))) (l17 : K.lookup f17 = some ⟨oc17, od17, .func (PySem.W.fnOf "_law_same" "_law_same" (defArgs (top 17)) (defBody (top 17)) (defScope (top 17)) .none kV17 dc17 pm17 an17 cd17 ct17), sl17⟩) (c17 : PySem.W.codeIn K cd17 "_law_same" = true) (k17 : PySem.W.keepIn K (.ref f17) = true)
    {od18 an18 : Option Addr} {sl18 : Array (Option Value)} {oc18 kV18 dc18 pm18 cd18 ct18 : Value} (a18 : PySem.W.nsIn K mainGlobals "_law_wishes" = some (some (.ref f18))) (l18 : K.lookup f18 = some ⟨oc18, od18, .func (PySem.W.fnOf "_law_wishes" "_law_wishes" (defArgs (top 18)) (defBody (top 18)) (defScope (top 18)) .none kV18 dc18 pm18 an18 cd18 ct18), sl18⟩) (c18 : PySem.W.codeIn K cd18 "_law_wishes" = true) (k18 : PySem.W.keepIn K (.ref f18) = true)
    {od19 an19 : Option Addr} {sl19 : Array (Option Value)} {oc19 kV19 dc19 pm19 cd19 ct19 : Value} (a19 : PySem.W.nsIn K mainGlobals "_law_steps" = some (some (.ref f19))) (l19 : K.lookup f19 = some ⟨oc19, od19, .func (PySem.W.fnOf "_law_steps" "_law_steps" (defArgs (top 19)) (defBody (top 19)) (defScope (top 19)) .none kV19 dc19 pm19 an19 cd19 ct19), sl19⟩) (c19 : PySem.W.codeIn K cd19 "_law_steps" = true) (k19 : PySem.W.keepIn K (.ref f19) = true)
    {od20 an20 : Option Addr} {sl20 : Array (Option Value)} {oc20 kV20 dc20 pm20 cd20 ct20 : Value} (a20 : PySem.W.nsIn K mainGlobals "_law_behind" = some (some (.ref f20))) (l20 : K.lookup f20 = some ⟨oc20, od20, .func (PySem.W.fnOf "_law_behind" "_law_behind" (defArgs (top 20)) (defBody (top 20)) (defScope (top 20)) .none kV20 dc20 pm20 an20 cd20 ct20), sl20⟩) (c20 : PySem.W.codeIn K cd20 "_law_behind" = true) (k20 : PySem.W.keepIn K (.ref f20) = true)
    {od21 an21 : Option Addr} {sl21 : Array (Option Value)} {oc21 kV21 dc21 pm21 cd21 ct21 : Value} (a21 : PySem.W.nsIn K mainGlobals "_law_done" = some (some (.ref f21))) (l21 : K.lookup f21 = some ⟨oc21, od21, .func (PySem.W.fnOf "_law_done" "_law_done" (defArgs (top 21)) (defBody (top 21)) (defScope (top 21)) .none kV21 dc21 pm21 an21 cd21 ct21), sl21⟩) (c21 : PySem.W.codeIn K cd21 "_law_done" = true) (k21 : PySem.W.keepIn K (.ref f21) = true)
    {od22 an22 : Option Addr} {sl22 : Array (Option Value)} {oc22 kV22 dc22 pm22 cd22 ct22 : Value} (a22 : PySem.W.nsIn K mainGlobals "_law_any" = some (some (.ref f22))) (l22 : K.lookup f22 = some ⟨oc22, od22, .func (PySem.W.fnOf "_law_any" "_law_any" (defArgs (top 22)) (defBody (top 22)) (defScope (top 22)) .none kV22 dc22 pm22 an22 cd22 ct22), sl22⟩) (c22 : PySem.W.codeIn K cd22 "_law_any" = true) (k22 : PySem.W.keepIn K (.ref f22) = true)
    {od23 an23 : Option Addr} {sl23 : Array (Option Value)} {oc23 kV23 dc23 pm23 cd23 ct23 : Value} (a23 : PySem.W.nsIn K mainGlobals "_law_rings" = some (some (.ref f23))) (l23 : K.lookup f23 = some ⟨oc23, od23, .func (PySem.W.fnOf "_law_rings" "_law_rings" (defArgs (top 23)) (defBody (top 23)) (defScope (top 23)) .none kV23 dc23 pm23 an23 cd23 ct23), sl23⟩) (c23 : PySem.W.codeIn K cd23 "_law_rings" = true) (k23 : PySem.W.keepIn K (.ref f23) = true)
    {od24 an24 : Option Addr} {sl24 : Array (Option Value)} {oc24 kV24 dc24 pm24 cd24 ct24 : Value} (a24 : PySem.W.nsIn K mainGlobals "_law_is_ring" = some (some (.ref f24))) (l24 : K.lookup f24 = some ⟨oc24, od24, .func (PySem.W.fnOf "_law_is_ring" "_law_is_ring" (defArgs (top 24)) (defBody (top 24)) (defScope (top 24)) .none kV24 dc24 pm24 an24 cd24 ct24), sl24⟩) (c24 : PySem.W.codeIn K cd24 "_law_is_ring" = true) (k24 : PySem.W.keepIn K (.ref f24) = true)
    {od25 an25 : Option Addr} {sl25 : Array (Option Value)} {oc25 kV25 dc25 pm25 cd25 ct25 : Value} (a25 : PySem.W.nsIn K mainGlobals "_law_is_going" = some (some (.ref f25))) (l25 : K.lookup f25 = some ⟨oc25, od25, .func (PySem.W.fnOf "_law_is_going" "_law_is_going" (defArgs (top 25)) (defBody (top 25)) (defScope (top 25)) .none kV25 dc25 pm25 an25 cd25 ct25), sl25⟩) (c25 : PySem.W.codeIn K cd25 "_law_is_going" = true) (k25 : PySem.W.keepIn K (.ref f25) = true)
    {od26 an26 : Option Addr} {sl26 : Array (Option Value)} {oc26 kV26 dc26 pm26 cd26 ct26 : Value} (a26 : PySem.W.nsIn K mainGlobals "_law_fewest" = some (some (.ref f26))) (l26 : K.lookup f26 = some ⟨oc26, od26, .func (PySem.W.fnOf "_law_fewest" "_law_fewest" (defArgs (top 26)) (defBody (top 26)) (defScope (top 26)) .none kV26 dc26 pm26 an26 cd26 ct26), sl26⟩) (c26 : PySem.W.codeIn K cd26 "_law_fewest" = true) (k26 : PySem.W.keepIn K (.ref f26) = true)
    {od27 an27 : Option Addr} {sl27 : Array (Option Value)} {oc27 kV27 dc27 pm27 cd27 ct27 : Value} (a27 : PySem.W.nsIn K mainGlobals "_law_are" = some (some (.ref f27))) (l27 : K.lookup f27 = some ⟨oc27, od27, .func (PySem.W.fnOf "_law_are" "_law_are" (defArgs (top 27)) (defBody (top 27)) (defScope (top 27)) .none kV27 dc27 pm27 an27 cd27 ct27), sl27⟩) (c27 : PySem.W.codeIn K cd27 "_law_are" = true) (k27 : PySem.W.keepIn K (.ref f27) = true)
    {od28 an28 : Option Addr} {sl28 : Array (Option Value)} {oc28 kV28 dc28 pm28 cd28 ct28 : Value} (a28 : PySem.W.nsIn K mainGlobals "_law_bent" = some (some (.ref f28))) (l28 : K.lookup f28 = some ⟨oc28, od28, .func (PySem.W.fnOf "_law_bent" "_law_bent" (defArgs (top 28)) (defBody (top 28)) (defScope (top 28)) .none kV28 dc28 pm28 an28 cd28 ct28), sl28⟩) (c28 : PySem.W.codeIn K cd28 "_law_bent" = true) (k28 : PySem.W.keepIn K (.ref f28) = true)
    {od29 an29 : Option Addr} {sl29 : Array (Option Value)} {oc29 kV29 dc29 pm29 cd29 ct29 : Value} (a29 : PySem.W.nsIn K mainGlobals "law" = some (some (.ref f29))) (l29 : K.lookup f29 = some ⟨oc29, od29, .func (PySem.W.fnOf "law" "law" (defArgs (top 29)) (defBody (top 29)) (defScope (top 29)) .none kV29 dc29 pm29 an29 cd29 ct29), sl29⟩) (c29 : PySem.W.codeIn K cd29 "law" = true) (k29 : PySem.W.keepIn K (.ref f29) = true)
    (zall : PySem.W.nsIn K mainGlobals "all" = some none)
    (zany : PySem.W.nsIn K mainGlobals "any" = some none)
    (zbool : PySem.W.nsIn K mainGlobals "bool" = some none)
    (zenumerate : PySem.W.nsIn K mainGlobals "enumerate" = some none)
    (zint : PySem.W.nsIn K mainGlobals "int" = some none)
    (zisinstance : PySem.W.nsIn K mainGlobals "isinstance" = some none)
    (zlen : PySem.W.nsIn K mainGlobals "len" = some none)
    (zlist : PySem.W.nsIn K mainGlobals "list" = some none)
    (zmin : PySem.W.nsIn K mainGlobals "min" = some none)
    (zrange : PySem.W.nsIn K mainGlobals "range" = some none)
    (zset : PySem.W.nsIn K mainGlobals "set" = some none)
    (zstr : PySem.W.nsIn K mainGlobals "str" = some none)
    (ztuple : PySem.W.nsIn K mainGlobals "tuple" = some none)
    {tMAX_CELLS : Tok} (gMAX_CELLS : PySem.W.nsIn K mainGlobals "MAX_CELLS" = some (some (.int 24 tMAX_CELLS))) :
    ∃ fd : FuncData, (∀ (s : Shared) (v : Value), BindsTo s fd ⟨[v], []⟩ [("script", v)]) ∧ ∀ base : Heap, K.In base → base.Ns mainGlobals mg → FnOk l.prog w K mg base CX0 43 fa fd ["script"] (spLaw K) := by
  have e := hfa.symm.trans (PySem.W.mg_of X G a29)
  cases e
  let fas : Nat → Addr := fun i => ([0, f1, 0, 0, f4, f5, f6, f7, f8, f9, f10, f11, f12, 0, f14, f15, f16, f17, f18, f19, f20, f21, f22, f23, f24, f25, f26, f27, f28, fa] : List Addr).getD i 0
  have F1 := fun_mk (st := top 1) l1 c1 k1
  have F4 := fun_mk (st := top 4) l4 c4 k4
  have F5 := fun_mk (st := top 5) l5 c5 k5
  have F6 := fun_mk (st := top 6) l6 c6 k6
  have F7 := fun_mk (st := top 7) l7 c7 k7
  have F8 := fun_mk (st := top 8) l8 c8 k8
  have F9 := fun_mk (st := top 9) l9 c9 k9
  have F10 := fun_mk (st := top 10) l10 c10 k10
  have F11 := fun_mk (st := top 11) l11 c11 k11
  have F12 := fun_mk (st := top 12) l12 c12 k12
  have F14 := fun_mk (st := top 14) l14 c14 k14
  have F15 := fun_mk (st := top 15) l15 c15 k15
  have F16 := fun_mk (st := top 16) l16 c16 k16
  have F17 := fun_mk (st := top 17) l17 c17 k17
  have F18 := fun_mk (st := top 18) l18 c18 k18
  have F19 := fun_mk (st := top 19) l19 c19 k19
  have F20 := fun_mk (st := top 20) l20 c20 k20
  have F21 := fun_mk (st := top 21) l21 c21 k21
  have F22 := fun_mk (st := top 22) l22 c22 k22
  have F23 := fun_mk (st := top 23) l23 c23 k23
  have F24 := fun_mk (st := top 24) l24 c24 k24
  have F25 := fun_mk (st := top 25) l25 c25 k25
  have F26 := fun_mk (st := top 26) l26 c26 k26
  have F27 := fun_mk (st := top 27) l27 c27 k27
  have F28 := fun_mk (st := top 28) l28 c28 k28
  have F29 := fun_mk (st := top 29) l29 c29 k29
  let fds : Nat → FuncData := fun i => ([PySem.W.fnOf "law" "law" (defArgs (top 29)) (defBody (top 29)) (defScope (top 29)) .none kV29 dc29 pm29 an29 cd29 ct29, PySem.W.fnOf "is_number" "is_number" (defArgs (top 1)) (defBody (top 1)) (defScope (top 1)) .none kV1 dc1 pm1 an1 cd1 ct1, PySem.W.fnOf "law" "law" (defArgs (top 29)) (defBody (top 29)) (defScope (top 29)) .none kV29 dc29 pm29 an29 cd29 ct29, PySem.W.fnOf "law" "law" (defArgs (top 29)) (defBody (top 29)) (defScope (top 29)) .none kV29 dc29 pm29 an29 cd29 ct29, PySem.W.fnOf "are_wishes" "are_wishes" (defArgs (top 4)) (defBody (top 4)) (defScope (top 4)) .none kV4 dc4 pm4 an4 cd4 ct4, PySem.W.fnOf "movers" "movers" (defArgs (top 5)) (defBody (top 5)) (defScope (top 5)) .none kV5 dc5 pm5 an5 cd5 ct5, PySem.W.fnOf "behind_going" "behind_going" (defArgs (top 6)) (defBody (top 6)) (defScope (top 6)) .none kV6 dc6 pm6 an6 cd6 ct6, PySem.W.fnOf "can_go" "can_go" (defArgs (top 7)) (defBody (top 7)) (defScope (top 7)) .none kV7 dc7 pm7 an7 cd7 ct7, PySem.W.fnOf "rings_of" "rings_of" (defArgs (top 8)) (defBody (top 8)) (defScope (top 8)) .none kV8 dc8 pm8 an8 cd8 ct8, PySem.W.fnOf "going" "going" (defArgs (top 9)) (defBody (top 9)) (defScope (top 9)) .none kV9 dc9 pm9 an9 cd9 ct9, PySem.W.fnOf "is_going" "is_going" (defArgs (top 10)) (defBody (top 10)) (defScope (top 10)) .none kV10 dc10 pm10 an10 cd10 ct10, PySem.W.fnOf "is_ring" "is_ring" (defArgs (top 11)) (defBody (top 11)) (defScope (top 11)) .none kV11 dc11 pm11 an11 cd11 ct11, PySem.W.fnOf "least_goings" "least_goings" (defArgs (top 12)) (defBody (top 12)) (defScope (top 12)) .none kV12 dc12 pm12 an12 cd12 ct12, PySem.W.fnOf "law" "law" (defArgs (top 29)) (defBody (top 29)) (defScope (top 29)) .none kV29 dc29 pm29 an29 cd29 ct29, PySem.W.fnOf "_law_box" "_law_box" (defArgs (top 14)) (defBody (top 14)) (defScope (top 14)) .none kV14 dc14 pm14 an14 cd14 ct14, PySem.W.fnOf "_law_load" "_law_load" (defArgs (top 15)) (defBody (top 15)) (defScope (top 15)) .none kV15 dc15 pm15 an15 cd15 ct15, PySem.W.fnOf "_law_draw" "_law_draw" (defArgs (top 16)) (defBody (top 16)) (defScope (top 16)) .none kV16 dc16 pm16 an16 cd16 ct16, PySem.W.fnOf "_law_same" "_law_same" (defArgs (top 17)) (defBody (top 17)) (defScope (top 17)) .none kV17 dc17 pm17 an17 cd17 ct17, PySem.W.fnOf "_law_wishes" "_law_wishes" (defArgs (top 18)) (defBody (top 18)) (defScope (top 18)) .none kV18 dc18 pm18 an18 cd18 ct18, PySem.W.fnOf "_law_steps" "_law_steps" (defArgs (top 19)) (defBody (top 19)) (defScope (top 19)) .none kV19 dc19 pm19 an19 cd19 ct19, PySem.W.fnOf "_law_behind" "_law_behind" (defArgs (top 20)) (defBody (top 20)) (defScope (top 20)) .none kV20 dc20 pm20 an20 cd20 ct20, PySem.W.fnOf "_law_done" "_law_done" (defArgs (top 21)) (defBody (top 21)) (defScope (top 21)) .none kV21 dc21 pm21 an21 cd21 ct21, PySem.W.fnOf "_law_any" "_law_any" (defArgs (top 22)) (defBody (top 22)) (defScope (top 22)) .none kV22 dc22 pm22 an22 cd22 ct22, PySem.W.fnOf "_law_rings" "_law_rings" (defArgs (top 23)) (defBody (top 23)) (defScope (top 23)) .none kV23 dc23 pm23 an23 cd23 ct23, PySem.W.fnOf "_law_is_ring" "_law_is_ring" (defArgs (top 24)) (defBody (top 24)) (defScope (top 24)) .none kV24 dc24 pm24 an24 cd24 ct24, PySem.W.fnOf "_law_is_going" "_law_is_going" (defArgs (top 25)) (defBody (top 25)) (defScope (top 25)) .none kV25 dc25 pm25 an25 cd25 ct25, PySem.W.fnOf "_law_fewest" "_law_fewest" (defArgs (top 26)) (defBody (top 26)) (defScope (top 26)) .none kV26 dc26 pm26 an26 cd26 ct26, PySem.W.fnOf "_law_are" "_law_are" (defArgs (top 27)) (defBody (top 27)) (defScope (top 27)) .none kV27 dc27 pm27 an27 cd27 ct27, PySem.W.fnOf "_law_bent" "_law_bent" (defArgs (top 28)) (defBody (top 28)) (defScope (top 28)) .none kV28 dc28 pm28 an28 cd28 ct28, PySem.W.fnOf "law" "law" (defArgs (top 29)) (defBody (top 29)) (defScope (top 29)) .none kV29 dc29 pm29 an29 cd29 ct29] : List FuncData).getD i (PySem.W.fnOf "law" "law" (defArgs (top 29)) (defBody (top 29)) (defScope (top 29)) .none kV29 dc29 pm29 an29 cd29 ct29)
  have b1 := F1.binds (ps := ["value", "least", "most"]) fun _ _ _ _ _ _ us hl => match us, hl with | [_, _, _], _ => rfl
  have b4 := F4.binds (ps := ["value"]) fun _ _ _ _ _ _ us hl => match us, hl with | [_], _ => rfl
  have b5 := F5.binds (ps := ["wishes"]) fun _ _ _ _ _ _ us hl => match us, hl with | [_], _ => rfl
  have b6 := F6.binds (ps := ["wishes", "room"]) fun _ _ _ _ _ _ us hl => match us, hl with | [_, _], _ => rfl
  have b7 := F7.binds (ps := ["wishes", "room"]) fun _ _ _ _ _ _ us hl => match us, hl with | [_, _], _ => rfl
  have b8 := F8.binds (ps := ["wishes"]) fun _ _ _ _ _ _ us hl => match us, hl with | [_], _ => rfl
  have b9 := F9.binds (ps := ["wishes"]) fun _ _ _ _ _ _ us hl => match us, hl with | [_], _ => rfl
  have b10 := F10.binds (ps := ["wishes", "value"]) fun _ _ _ _ _ _ us hl => match us, hl with | [_, _], _ => rfl
  have b11 := F11.binds (ps := ["wishes", "value"]) fun _ _ _ _ _ _ us hl => match us, hl with | [_, _], _ => rfl
  have b12 := F12.binds (ps := ["wishes"]) fun _ _ _ _ _ _ us hl => match us, hl with | [_], _ => rfl
  have b14 := F14.binds (ps := ["script"]) fun _ _ _ _ _ _ us hl => match us, hl with | [_], _ => rfl
  have b15 := F15.binds (ps := ["box"]) fun _ _ _ _ _ _ us hl => match us, hl with | [_], _ => rfl
  have b16 := F16.binds (ps := ["box", "many"]) fun _ _ _ _ _ _ us hl => match us, hl with | [_, _], _ => rfl
  have b17 := F17.binds (ps := ["a", "b"]) fun _ _ _ _ _ _ us hl => match us, hl with | [_, _], _ => rfl
  have b18 := F18.binds (ps := ["box", "n"]) fun _ _ _ _ _ _ us hl => match us, hl with | [_, _], _ => rfl
  have b19 := F19.binds (ps := ["here"]) fun _ _ _ _ _ _ us hl => match us, hl with | [_], _ => rfl
  have b20 := F20.binds (ps := ["here", "room"]) fun _ _ _ _ _ _ us hl => match us, hl with | [_, _], _ => rfl
  have b21 := F21.binds (ps := ["here"]) fun _ _ _ _ _ _ us hl => match us, hl with | [_], _ => rfl
  have b22 := F22.binds (ps := ["wishes"]) fun _ _ _ _ _ _ us hl => match us, hl with | [_], _ => rfl
  have b23 := F23.binds (ps := ["wishes"]) fun _ _ _ _ _ _ us hl => match us, hl with | [_], _ => rfl
  have b24 := F24.binds (ps := ["wishes", "value"]) fun _ _ _ _ _ _ us hl => match us, hl with | [_, _], _ => rfl
  have b25 := F25.binds (ps := ["wishes", "value"]) fun _ _ _ _ _ _ us hl => match us, hl with | [_, _], _ => rfl
  have b26 := F26.binds (ps := ["wishes"]) fun _ _ _ _ _ _ us hl => match us, hl with | [_], _ => rfl
  have b27 := F27.binds (ps := ["value"]) fun _ _ _ _ _ _ us hl => match us, hl with | [_], _ => rfl
  have b28 := F28.binds (ps := ["box", "value"]) fun _ _ _ _ _ _ us hl => match us, hl with | [_, _], _ => rfl
  have b29 := F29.binds (ps := ["script"]) fun _ _ _ _ _ _ us hl => match us, hl with | [_], _ => rfl
  have T : Txt K mg fas fds := ⟨⟨F1, PySem.W.mg_of X G a1, b1⟩, ⟨F4, PySem.W.mg_of X G a4, b4⟩, ⟨F5, PySem.W.mg_of X G a5, b5⟩, ⟨F6, PySem.W.mg_of X G a6, b6⟩, ⟨F7, PySem.W.mg_of X G a7, b7⟩, ⟨F8, PySem.W.mg_of X G a8, b8⟩, ⟨F9, PySem.W.mg_of X G a9, b9⟩, ⟨F10, PySem.W.mg_of X G a10, b10⟩, ⟨F11, PySem.W.mg_of X G a11, b11⟩, ⟨F12, PySem.W.mg_of X G a12, b12⟩, ⟨F14, PySem.W.mg_of X G a14, b14⟩, ⟨F15, PySem.W.mg_of X G a15, b15⟩, ⟨F16, PySem.W.mg_of X G a16, b16⟩, ⟨F17, PySem.W.mg_of X G a17, b17⟩, ⟨F18, PySem.W.mg_of X G a18, b18⟩, ⟨F19, PySem.W.mg_of X G a19, b19⟩, ⟨F20, PySem.W.mg_of X G a20, b20⟩, ⟨F21, PySem.W.mg_of X G a21, b21⟩, ⟨F22, PySem.W.mg_of X G a22, b22⟩, ⟨F23, PySem.W.mg_of X G a23, b23⟩, ⟨F24, PySem.W.mg_of X G a24, b24⟩, ⟨F25, PySem.W.mg_of X G a25, b25⟩, ⟨F26, PySem.W.mg_of X G a26, b26⟩, ⟨F27, PySem.W.mg_of X G a27, b27⟩, ⟨F28, PySem.W.mg_of X G a28, b28⟩, ⟨F29, PySem.W.mg_of X G a29, b29⟩, PySem.W.mg_none_of X G zall, PySem.W.mg_none_of X G zany, PySem.W.mg_none_of X G zbool, PySem.W.mg_none_of X G zenumerate, PySem.W.mg_none_of X G zint, PySem.W.mg_none_of X G zisinstance, PySem.W.mg_none_of X G zlen, PySem.W.mg_none_of X G zlist, PySem.W.mg_none_of X G zmin, PySem.W.mg_none_of X G zrange, PySem.W.mg_none_of X G zset, PySem.W.mg_none_of X G zstr, PySem.W.mg_none_of X G ztuple, ⟨_, PySem.W.mg_of X G gMAX_CELLS, ⟨_, rfl⟩⟩⟩
  exact ⟨fds 29, fun s v => .of_eq rfl, fun base _ _ => ok_law T plain⟩
theorem walk {l : PySem.W.OpenLaw} {q : Program} {loose : List Str} {XP : (Str → Option Value) → Heap → Prop} {YP : World → Heap → Prop} {d : DefRec} {K : Params → PySem.W.Frag} (hn : l.most = some 63) (hdf : d.params.defaults = [])
    (hY : ∀ (w : World) (h : Heap), YP w h → (K w.params).In h)
    (F : ∀ (w : World) (mg : Str → Option Value) (fa : Addr) (h : Heap), (K w.params).In h → h.Ns mainGlobals mg → mg d.name = some (.ref fa) →
      ∃ fd : FuncData, (∀ (s : Shared) (u : Value), BindsTo s fd ⟨[u], []⟩ [("script", u)]) ∧ ∀ base : Heap, (K w.params).In base → base.Ns mainGlobals mg → FnOk l.prog w (K w.params) mg base CX0 43 fa fd ["script"] (spLaw (K w.params))) :
    PySem.W.WalkO q loose XP YP l.row.toRowW d [] (fun f vs => PySem.call f vs) :=
  L2.walk_of (n := 63) (k := 43) (x := "script") (CX := fun _ => CX0) (sp := fun w => spLaw (K w.params)) hn (by decide) hdf ⟨rfl, by decide, by decide⟩ hY F (fun _ _ a ns hl _ hS => ⟨a, ns, rfl, hS, hl, fun _ => rfl⟩) fun _ _ _ _ _ z => z
end K82

open PySem PySem.W PyProof.Rows in
set_option maxRecDepth 100000 in
set_option maxHeartbeats 0 in
theorem PySem.Challenge.cw_roomsemptied_k82_whole_blocked_rings_holds : PySem.Challenge.rw_roomsemptied_k82_whole_blocked_rings.Holds := by
  w_on; o_law; k_head; (case hw => w_witness2)
  k_fill
  refine K82.walk (l := PySem.Challenge.rw_roomsemptied_k82_whole_blocked_rings) rfl rfl (fun w h Y => PySem.W.kIn_of Y) ?F
  case F =>
    intro w mg fa h KX G hmg
    refine' K82.all_mk KX G hmg ?a1 ?l1 ?c1 ?k1 ?a4 ?l4 ?c4 ?k4 ?a5 ?l5 ?c5 ?k5 ?a6 ?l6 ?c6 ?k6 ?a7 ?l7 ?c7 ?k7 ?a8 ?l8 ?c8 ?k8 ?a9 ?l9 ?c9 ?k9 ?a10 ?l10 ?c10 ?k10 ?a11 ?l11 ?c11 ?k11 ?a12 ?l12 ?c12 ?k12 ?a14 ?l14 ?c14 ?k14 ?a15 ?l15 ?c15 ?k15 ?a16 ?l16 ?c16 ?k16 ?a17 ?l17 ?c17 ?k17 ?a18 ?l18 ?c18 ?k18 ?a19 ?l19 ?c19 ?k19 ?a20 ?l20 ?c20 ?k20 ?a21 ?l21 ?c21 ?k21 ?a22 ?l22 ?c22 ?k22 ?a23 ?l23 ?c23 ?k23 ?a24 ?l24 ?c24 ?k24 ?a25 ?l25 ?c25 ?k25 ?a26 ?l26 ?c26 ?k26 ?a27 ?l27 ?c27 ?k27 ?a28 ?l28 ?c28 ?k28 ?a29 ?l29 ?c29 ?k29 ?zall ?zany ?zbool ?zenumerate ?zint ?zisinstance ?zlen ?zlist ?zmin ?zrange ?zset ?zstr ?ztuple ?gMAX_CELLS
    (case a1 => k_is)
    (case l1 => k_is)
    (case c1 => k_is)
    (case k1 => k_is)
    (case a4 => k_is)
    (case l4 => k_is)
    (case c4 => k_is)
    (case k4 => k_is)
    (case a5 => k_is)
    (case l5 => k_is)
    (case c5 => k_is)
    (case k5 => k_is)
    (case a6 => k_is)
    (case l6 => k_is)
    (case c6 => k_is)
    (case k6 => k_is)
    (case a7 => k_is)
    (case l7 => k_is)
    (case c7 => k_is)
    (case k7 => k_is)
    (case a8 => k_is)
    (case l8 => k_is)
    (case c8 => k_is)
    (case k8 => k_is)
    (case a9 => k_is)
    (case l9 => k_is)
    (case c9 => k_is)
    (case k9 => k_is)
    (case a10 => k_is)
    (case l10 => k_is)
    (case c10 => k_is)
    (case k10 => k_is)
    (case a11 => k_is)
    (case l11 => k_is)
    (case c11 => k_is)
    (case k11 => k_is)
    (case a12 => k_is)
    (case l12 => k_is)
    (case c12 => k_is)
    (case k12 => k_is)
    (case a14 => k_is)
    (case l14 => k_is)
    (case c14 => k_is)
    (case k14 => k_is)
    (case a15 => k_is)
    (case l15 => k_is)
    (case c15 => k_is)
    (case k15 => k_is)
    (case a16 => k_is)
    (case l16 => k_is)
    (case c16 => k_is)
    (case k16 => k_is)
    (case a17 => k_is)
    (case l17 => k_is)
    (case c17 => k_is)
    (case k17 => k_is)
    (case a18 => k_is)
    (case l18 => k_is)
    (case c18 => k_is)
    (case k18 => k_is)
    (case a19 => k_is)
    (case l19 => k_is)
    (case c19 => k_is)
    (case k19 => k_is)
    (case a20 => k_is)
    (case l20 => k_is)
    (case c20 => k_is)
    (case k20 => k_is)
    (case a21 => k_is)
    (case l21 => k_is)
    (case c21 => k_is)
    (case k21 => k_is)
    (case a22 => k_is)
    (case l22 => k_is)
    (case c22 => k_is)
    (case k22 => k_is)
    (case a23 => k_is)
    (case l23 => k_is)
    (case c23 => k_is)
    (case k23 => k_is)
    (case a24 => k_is)
    (case l24 => k_is)
    (case c24 => k_is)
    (case k24 => k_is)
    (case a25 => k_is)
    (case l25 => k_is)
    (case c25 => k_is)
    (case k25 => k_is)
    (case a26 => k_is)
    (case l26 => k_is)
    (case c26 => k_is)
    (case k26 => k_is)
    (case a27 => k_is)
    (case l27 => k_is)
    (case c27 => k_is)
    (case k27 => k_is)
    (case a28 => k_is)
    (case l28 => k_is)
    (case c28 => k_is)
    (case k28 => k_is)
    (case a29 => k_is)
    (case l29 => k_is)
    (case c29 => k_is)
    (case k29 => k_is)
    (case zall => k_is)
    (case zany => k_is)
    (case zbool => k_is)
    (case zenumerate => k_is)
    (case zint => k_is)
    (case zisinstance => k_is)
    (case zlen => k_is)
    (case zlist => k_is)
    (case zmin => k_is)
    (case zrange => k_is)
    (case zset => k_is)
    (case zstr => k_is)
    (case ztuple => k_is)
    (case gMAX_CELLS => k_is)
