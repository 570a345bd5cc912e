import PyProof.Rows.All
import Wide.All
import OpenK.AllK
import Wide.FinOn
import HandS.ForMost
import HandS.Iter
import HandS.IsInst
import HandS.Conv
import HandS.Zip
import HandS.NoneIn
import HandS.TupAny
import HandS.Flow
import HandS.Style
import KE.KDictKeyed
import KE.SortData
import KE.SortKeyHeap
import KE.DataMinMax
import KE.KTupSum
import PyProof.DictRoadsH
import HandS.TupLen
import HandS.TupMul
import HandS.Wide
import HandS.SortInts
import HandS.TupLe
import HandS.AnyAll
import KE.KDictItemsList
import KE.KDictSum
import KE.KDictCopyH
import KE.GoesMore
import HandS.More
import HandS.Remove
import HandS.SetFor
import KE.GoesOver
import HandS.Dict
import HandS.DictComp
import KE.KEqDict
import PySem.Challenge.RW_roomsemptied_k78_whole_lifts
set_option Elab.async false
set_option linter.all false
set_option autoImplicit false
set_option maxRecDepth 100000
/-! Sv1: plain data D, the heap's picture of them (Rp), the running state (Rel). -/
namespace Sv
open PySem L2

/-- plain data: what a Python value is worth, apart from where it stands -/
inductive D where
  | non | bl (b : Bool) | int (i : Int) | str (s : Str) | tup (xs : List D) | lst (xs : List D) | dct (kvs : List (D × D)) | tok (n : Nat)
  deriving Inhabited

namespace D
mutual
def beq : D → D → Bool
  | .non, .non => true
  | .bl a, .bl b => decide (a = b)
  | .int a, .int b => decide (a = b)
  | .str a, .str b => decide (a = b)
  | .tup a, .tup b => beqL a b
  | .lst a, .lst b => beqL a b
  | .dct a, .dct b => beqK a b
  | .tok a, .tok b => decide (a = b)
  | _, _ => false
def beqL : List D → List D → Bool
  | [], [] => true
  | a :: as, b :: bs => beq a b && beqL as bs
  | _, _ => false
def beqK : List (D × D) → List (D × D) → Bool
  | [], [] => true
  | (a, x) :: as, (b, y) :: bs => beq a b && (beq x y && beqK as bs)
  | _, _ => false
end
mutual
theorem beq_self : ∀ a : D, beq a a = true
  | .non => by simp [beq]
  | .bl _ => by simp [beq]
  | .int _ => by simp [beq]
  | .str _ => by simp [beq]
  | .tup a => by rw [beq]; exact beqL_self a
  | .lst a => by rw [beq]; exact beqL_self a
  | .dct a => by rw [beq]; exact beqK_self a
  | .tok _ => by simp [beq]
theorem beqL_self : ∀ a : List D, beqL a a = true
  | [] => by simp [beqL]
  | a :: as => by rw [beqL, beq_self a, beqL_self as]; rfl
theorem beqK_self : ∀ a : List (D × D), beqK a a = true
  | [] => by simp [beqK]
  | (a, x) :: as => by rw [beqK, beq_self a, beq_self x, beqK_self as]; rfl
end
mutual
theorem eq_of_beq : ∀ a b : D, beq a b = true → a = b
  | .non, b, h => by cases b <;> simp_all [beq]
  | .bl _, b, h => by cases b <;> simp_all [beq]
  | .int _, b, h => by cases b <;> simp_all [beq]
  | .str _, b, h => by cases b <;> simp_all [beq]
  | .tup a, b, h => by
    cases b with
    | tup b => rw [beq] at h; rw [eq_of_beqL a b h]
    | _ => simp [beq] at h
  | .lst a, b, h => by
    cases b with
    | lst b => rw [beq] at h; rw [eq_of_beqL a b h]
    | _ => simp [beq] at h
  | .dct a, b, h => by
    cases b with
    | dct b => rw [beq] at h; rw [eq_of_beqK a b h]
    | _ => simp [beq] at h
  | .tok _, b, h => by cases b <;> simp_all [beq]
theorem eq_of_beqL : ∀ a b : List D, beqL a b = true → a = b
  | [], b, h => by cases b <;> simp_all [beqL]
  | a :: as, b, h => by
    cases b with
    | nil => simp [beqL] at h
    | cons b bs =>
      rw [beqL, Bool.and_eq_true] at h
      rw [eq_of_beq a b h.1, eq_of_beqL as bs h.2]
theorem eq_of_beqK : ∀ a b : List (D × D), beqK a b = true → a = b
  | [], b, h => by cases b <;> simp_all [beqK]
  | (a, x) :: as, b, h => by
    cases b with
    | nil => simp [beqK] at h
    | cons b bs =>
      obtain ⟨b, y⟩ := b
      rw [beqK, Bool.and_eq_true, Bool.and_eq_true] at h
      rw [eq_of_beq a b h.1, eq_of_beq x y h.2.1, eq_of_beqK as bs h.2.2]
end
instance : DecidableEq D := fun a b => if h : beq a b = true then isTrue (eq_of_beq a b h) else isFalse fun e => h (e ▸ beq_self a)

mutual
/-- as the library's data -/
def py : D → PyData
  | .non => .none
  | .bl b => .bool b
  | .int i => .int i
  | .str s => .str s
  | .tup xs => .tuple (pyL xs)
  | .lst xs => .list (pyL xs)
  | .dct _ => .none
  | .tok _ => .none
def pyL : List D → List PyData
  | [] => []
  | d :: ds => py d :: pyL ds
end
mutual
/-- no dicts, no tokens -/
def plain : D → Bool
  | .non => true
  | .bl _ => true
  | .int _ => true
  | .str s => s.cps.all (· < 0x110000)
  | .tup xs => plainL xs
  | .lst xs => plainL xs
  | .dct _ => false
  | .tok _ => false
def plainL : List D → Bool
  | [] => true
  | d :: ds => plain d && plainL ds
end
mutual
def dep : D → Nat
  | .non => 0
  | .bl _ => 0
  | .int _ => 0
  | .str _ => 0
  | .tup xs => depL xs + 1
  | .lst xs => depL xs + 1
  | .dct _ => 0
  | .tok _ => 0
def depL : List D → Nat
  | [] => 0
  | d :: ds => max (dep d) (depL ds)
end
/-- data that == and < are asked of -/
def sm (d : D) : Bool := plain d && decide (dep d ≤ 50)
mutual
/-- nothing in it that can be changed -/
def flat : D → Bool
  | .non => true
  | .bl _ => true
  | .int _ => true
  | .str _ => true
  | .tup xs => flatL xs
  | .lst _ => false
  | .dct _ => false
  | .tok _ => true
def flatL : List D → Bool
  | [] => true
  | d :: ds => flat d && flatL ds
end
mutual
/-- a key: numbers, texts, None, tuples of such -/
def kok : D → Bool
  | .non => true
  | .bl _ => false
  | .int _ => true
  | .str _ => true
  | .tup xs => kokL xs
  | .lst _ => false
  | .dct _ => false
  | .tok _ => false
def kokL : List D → Bool
  | [] => true
  | d :: ds => kok d && kokL ds
end
mutual
theorem kok_flat : ∀ d : D, kok d = true → flat d = true
  | .non, _ => rfl
  | .bl _, h => by simp [kok] at h
  | .int _, _ => rfl
  | .str _, _ => rfl
  | .tup xs, h => by simp only [kok] at h; simp only [flat]; exact kokL_flat xs h
  | .lst _, h => by simp [kok] at h
  | .dct _, h => by simp [kok] at h
  | .tok _, h => by simp [kok] at h
theorem kokL_flat : ∀ d : List D, kokL d = true → flatL d = true
  | [], _ => rfl
  | d :: ds, h => by
    rw [kokL, Bool.and_eq_true] at h
    rw [flatL, kok_flat d h.1, kokL_flat ds h.2]; rfl
end
mutual
/-- as a key of a dict (True is 1) -/
def nk : D → Option NestedKey
  | .non => some .none
  | .bl b => some (.num (if b then 1 else 0))
  | .int i => some (.num i)
  | .str s => some (.text s)
  | .tup xs => (nkL xs).map .tup
  | .lst _ => none
  | .dct _ => none
  | .tok _ => none
def nkL : List D → Option (List NestedKey)
  | [] => some []
  | d :: ds => match nk d, nkL ds with
    | some k, some ks => some (k :: ks)
    | _, _ => none
end
end D

namespace D
mutual
theorem kok_nk : ∀ d : D, kok d = true → ∃ k, nk d = some k ∧ k.depth = dep d
  | .non, _ => ⟨_, rfl, rfl⟩
  | .bl _, h => by simp [kok] at h
  | .int _, _ => ⟨_, rfl, rfl⟩
  | .str _, _ => ⟨_, rfl, rfl⟩
  | .tup xs, h => by
    simp only [kok] at h
    obtain ⟨ks, e, he⟩ := kokL_nk xs h
    exact ⟨.tup ks, by rw [nk, e]; rfl, by rw [NestedKey.depth, he, dep]⟩
  | .lst _, h => by simp [kok] at h
  | .dct _, h => by simp [kok] at h
  | .tok _, h => by simp [kok] at h
theorem kokL_nk : ∀ d : List D, kokL d = true → ∃ k, nkL d = some k ∧ NestedKey.depthAll k = depL d
  | [], _ => ⟨_, rfl, rfl⟩
  | d :: ds, h => by
    rw [kokL, Bool.and_eq_true] at h
    obtain ⟨k, e, he⟩ := kok_nk d h.1
    obtain ⟨ks, e2, he2⟩ := kokL_nk ds h.2
    exact ⟨k :: ks, by rw [nkL, e, e2], by rw [NestedKey.depthAll, he, he2, depL]⟩
end
mutual
theorem nk_inj : ∀ a b : D, kok a = true → kok b = true → nk a = nk b → a = b
  | .non, b, _, hb, e => by
    cases b with
    | tup ys => simp only [nk] at e; cases h : nkL ys <;> rw [h] at e <;> simp at e
    | _ => simp_all [nk, kok]
  | .bl _, _, h, _, _ => by simp [kok] at h
  | .int _, b, _, hb, e => by
    cases b with
    | tup ys => simp only [nk] at e; cases h : nkL ys <;> rw [h] at e <;> simp at e
    | _ => simp_all [nk, kok]
  | .str _, b, _, hb, e => by
    cases b with
    | tup ys => simp only [nk] at e; cases h : nkL ys <;> rw [h] at e <;> simp at e
    | _ => simp_all [nk, kok]
  | .tup xs, b, ha, hb, e => by
    simp only [kok] at ha
    obtain ⟨ks, ek, _⟩ := kokL_nk xs ha
    cases b with
    | tup ys =>
      simp only [kok] at hb
      obtain ⟨ls, el, _⟩ := kokL_nk ys hb
      simp only [nk, ek, el, Option.map_some, Option.some.injEq, NestedKey.tup.injEq] at e
      rw [nkL_inj xs ys ha hb (by rw [ek, el, e])]
    | _ => simp only [nk, ek, Option.map_some] at e; simp at e
  | .lst _, _, h, _, _ => by simp [kok] at h
  | .dct _, _, h, _, _ => by simp [kok] at h
  | .tok _, _, h, _, _ => by simp [kok] at h
theorem nkL_inj : ∀ a b : List D, kokL a = true → kokL b = true → nkL a = nkL b → a = b
  | [], b, _, hb, e => by
    cases b with
    | nil => rfl
    | cons y ys =>
      rw [kokL, Bool.and_eq_true] at hb
      obtain ⟨k, e1, _⟩ := kok_nk y hb.1
      obtain ⟨ks, e2, _⟩ := kokL_nk ys hb.2
      simp [nkL, e1, e2] at e
  | x :: xs, b, ha, hb, e => by
    rw [kokL, Bool.and_eq_true] at ha
    obtain ⟨k, e1, _⟩ := kok_nk x ha.1
    obtain ⟨ks, e2, _⟩ := kokL_nk xs ha.2
    cases b with
    | nil => simp [nkL, e1, e2] at e
    | cons y ys =>
      rw [kokL, Bool.and_eq_true] at hb
      obtain ⟨l, f1, _⟩ := kok_nk y hb.1
      obtain ⟨ls, f2, _⟩ := kokL_nk ys hb.2
      simp only [nkL, e1, e2, f1, f2, Option.some.injEq, List.cons.injEq] at e
      rw [nk_inj x y ha.1 hb.1 (by rw [e1, f1, e.1]), nkL_inj xs ys ha.2 hb.2 (by rw [e2, f2, e.2])]
end
end D
/-- the law's random source: cells, two numbers -/
structure Bx where
  cs : List Int
  x : Int
  y : Int

abbrev Bo := Option (Addr × Addr)
def inBox : Bo → Addr → Prop
  | none, _ => False
  | some (p, q), a => a = p ∨ a = q

/-- what is fixed through a law -/
structure Pm where
  P : Program
  w : World
  K : PySem.W.Frag
  fn : Nat → Option V

/-- what a token stands for: 0 the random source, k + 1 the k-th function -/
def Tk (m : Pm) (bo : Bo) : Nat → V → Prop
  | 0, v => ∃ p q, bo = some (p, q) ∧ v = .ref p
  | n + 1, v => m.fn n = some v

/-- a dict object with just these entries (keys: tuples) -/
def DicO (m : Pm) (a : Addr) (es : List (NestedKey × Addr × Value)) : HO :=
  .ext fun h => ∃ o arr ep, h.get? a = some o ∧ o.ExactDict ∧ o.data = .dict arr ep ∧ arr.toList = es.map (entryOfKey (nestedKind m.P m.w)) ∧ (es.map (·.1)).Nodup ∧ es.length ≤ sizeLine ∧ (a == sysModules) = false

def keyD : Key → D
  | .inl i => .int i
  | .inr x => .str x

section
variable (m : Pm) (bo : Bo) (F : Addr → Prop) (H : Hp)
mutual
/-- the value v is the datum d; its lists and dicts stand at places of F -/
def Rp : D → V → Prop
  | .non, v => v = .non
  | .bl b, v => v = .bl b
  | .int i, v => v = .int i
  | .str s, v => v = .str s
  | .tup ds, v => ∃ a vs, v = .ref a ∧ SqT m.K H a vs ∧ vs.length ≤ sizeLine ∧ RpL ds vs
  | .lst ds, v => ∃ a vs, v = .ref a ∧ F a ∧ H a = some (.lst vs) ∧ vs.length ≤ sizeLine ∧ RpL ds vs
  | .dct kvs, v => ∃ a, v = .ref a ∧ F a ∧ ∃ o, ((∃ ws, H a = some (.frz o (.dK ws)) ∧ RpA kvs ws) ∨ ∃ es, H a = some (.frz o (DicO m a es)) ∧ RpB kvs es)
  | .tok n, v => Tk m bo n v
def RpL : List D → List V → Prop
  | [], vs => vs = []
  | d :: ds, vs => ∃ v r, vs = v :: r ∧ Rp d v ∧ RpL ds r
def RpA : List (D × D) → List (Key × V) → Prop
  | [], vs => vs = []
  | (k, d) :: ds, vs => ∃ k' v r, vs = (k', v) :: r ∧ k = keyD k' ∧ Rp d v ∧ RpA ds r
/-- a dict whose keys are tuples: its first row is (tok 0, None), which is no entry -/
def RpB : List (D × D) → List (NestedKey × Addr × Value) → Prop
  | [], _ => False
  | (k, d) :: ds, vs => k = .tok 0 ∧ d = .non ∧ RpC ds vs
def RpC : List (D × D) → List (NestedKey × Addr × Value) → Prop
  | [], vs => vs = []
  | (k, d) :: ds, vs => ∃ k' a u r, vs = (k', a, u) :: r ∧ k.nk = some k' ∧ k.kok = true ∧ k'.depth ≤ 8 ∧ Rp k (.ref a) ∧ (∃ v, RelV v u ∧ Rp d v) ∧ RpC ds r
end
/-- the content of a list or dict of one's own -/
def Own : D → Addr → Prop
  | .lst ds, a => ∃ vs, H a = some (.lst vs) ∧ vs.length ≤ sizeLine ∧ RpL m bo F H ds vs
  | .dct kvs, a => (∃ ws, H a = some (.dK ws) ∧ RpA m bo F H kvs ws) ∨ ∃ es, H a = some (DicO m a es) ∧ RpB m bo F H kvs es
  | _, _ => False
/-- an operand: as Rp, or a thing of one's own -/
def RpO (d : D) (v : V) : Prop := Rp m bo F H d v ∨ ∃ a, v = .ref a ∧ ¬ inBox bo a ∧ ¬ F a ∧ Own m bo F H d a
end

/-- what is written in place -/
def MutO : HO → Prop
  | .lst _ => True
  | .dK _ => True
  | .dT _ => True
  | .set _ _ => True
  | .ins _ _ _ => True
  | .ext _ => True
  | _ => False

/-- F's objects and all tuples stay -/
structure FK (F : Addr → Prop) (H : Hp) (F' : Addr → Prop) (H' : Hp) : Prop where
  sub : ∀ a, F a → F' a
  at_ : ∀ a, F a → H' a = H a
  imm : ∀ a o, H a = some o → ¬ MutO o → H' a = some o
theorem FK.refl (F : Addr → Prop) (H : Hp) : FK F H F H := ⟨fun _ h => h, fun _ _ => rfl, fun _ _ h _ => h⟩
theorem FK.trans {F F1 F2 : Addr → Prop} {H H1 H2 : Hp} (a : FK F H F1 H1) (b : FK F1 H1 F2 H2) : FK F H F2 H2 :=
  ⟨fun c h => b.sub c (a.sub c h), fun c h => (b.at_ c (a.sub c h)).trans (a.at_ c h), fun c o h n => b.imm c o (a.imm c o h n) n⟩

theorem SqT.fk {K : PySem.W.Frag} {F F' : Addr → Prop} {H H' : Hp} {a : Addr} {vs : List V} (k : FK F H F' H') (h : SqT K H a vs) : SqT K H' a vs := by
  rcases h with (h | ⟨o, h⟩) | h
  · exact .inl (.inl (k.imm _ _ h (by simp [MutO])))
  · exact .inl (.inr ⟨o, k.imm _ _ h (by simp [MutO])⟩)
  · exact .inr h

section
variable {m : Pm} {bo bo' : Bo} {F F' : Addr → Prop} {H H' : Hp}
mutual
theorem Rp.mono (kT : ∀ n v, Tk m bo n v → Tk m bo' n v) (k : FK F H F' H') : ∀ (d : D) (v : V), Rp m bo F H d v → Rp m bo' F' H' d v
  | .non, v, h => by simpa [Rp] using h
  | .bl _, v, h => by simpa [Rp] using h
  | .int _, v, h => by simpa [Rp] using h
  | .str _, v, h => by simpa [Rp] using h
  | .tup ds, v, h => by
    simp only [Rp] at h ⊢
    obtain ⟨a, vs, e, s, z, r⟩ := h
    exact ⟨a, vs, e, Sv.SqT.fk k s, z, RpL.mono kT k ds vs r⟩
  | .lst ds, v, h => by
    simp only [Rp] at h ⊢
    obtain ⟨a, vs, e, f, s, z, r⟩ := h
    exact ⟨a, vs, e, k.sub a f, (k.at_ a f).trans s, z, RpL.mono kT k ds vs r⟩
  | .dct kvs, v, h => by
    simp only [Rp] at h ⊢
    obtain ⟨a, e, f, o, ⟨ws, s, r⟩ | ⟨es, s, r⟩⟩ := h
    · exact ⟨a, e, k.sub a f, o, .inl ⟨ws, (k.at_ a f).trans s, RpA.mono kT k kvs ws r⟩⟩
    · exact ⟨a, e, k.sub a f, o, .inr ⟨es, (k.at_ a f).trans s, RpB.mono kT k kvs es r⟩⟩
  | .tok n, v, h => by
    simp only [Rp] at h ⊢
    exact kT n v h
theorem RpL.mono (kT : ∀ n v, Tk m bo n v → Tk m bo' n v) (k : FK F H F' H') : ∀ (ds : List D) (vs : List V), RpL m bo F H ds vs → RpL m bo' F' H' ds vs
  | [], vs, h => by simpa [RpL] using h
  | d :: ds, vs, h => by
    simp only [RpL] at h ⊢
    obtain ⟨v, r, e, h1, h2⟩ := h
    exact ⟨v, r, e, Rp.mono kT k d v h1, RpL.mono kT k ds r h2⟩
theorem RpA.mono (kT : ∀ n v, Tk m bo n v → Tk m bo' n v) (k : FK F H F' H') : ∀ (ds : List (D × D)) (vs : List (Key × V)), RpA m bo F H ds vs → RpA m bo' F' H' ds vs
  | [], vs, h => by simpa [RpA] using h
  | (x, d) :: ds, vs, h => by
    simp only [RpA] at h ⊢
    obtain ⟨k', v, r, e, ek, h1, h2⟩ := h
    exact ⟨k', v, r, e, ek, Rp.mono kT k d v h1, RpA.mono kT k ds r h2⟩
theorem RpB.mono (kT : ∀ n v, Tk m bo n v → Tk m bo' n v) (k : FK F H F' H') : ∀ (ds : List (D × D)) (vs : List (NestedKey × Addr × Value)), RpB m bo F H ds vs → RpB m bo' F' H' ds vs
  | [], vs, h => by simp [RpB] at h
  | (x, d) :: ds, vs, h => by
    simp only [RpB] at h ⊢
    exact ⟨h.1, h.2.1, RpC.mono kT k ds vs h.2.2⟩
theorem RpC.mono (kT : ∀ n v, Tk m bo n v → Tk m bo' n v) (k : FK F H F' H') : ∀ (ds : List (D × D)) (vs : List (NestedKey × Addr × Value)), RpC m bo F H ds vs → RpC m bo' F' H' ds vs
  | [], vs, h => by simpa [RpC] using h
  | (x, d) :: ds, vs, h => by
    simp only [RpC] at h ⊢
    obtain ⟨k', a, u, r, e, ek, fl, dp, hk, ⟨v, rv, h1⟩, h2⟩ := h
    exact ⟨k', a, u, r, e, ek, fl, dp, Rp.mono kT k x _ hk, ⟨v, rv, Rp.mono kT k d v h1⟩, RpC.mono kT k ds r h2⟩
end
theorem Rp.fk (k : FK F H F' H') {d : D} {v : V} (h : Rp m bo F H d v) : Rp m bo F' H' d v := Rp.mono (fun _ _ h => h) k d v h
theorem RpL.fk (k : FK F H F' H') {d : List D} {v : List V} (h : RpL m bo F H d v) : RpL m bo F' H' d v := RpL.mono (fun _ _ h => h) k d v h
theorem RpA.fk (k : FK F H F' H') {d : List (D × D)} {v : List (Key × V)} (h : RpA m bo F H d v) : RpA m bo F' H' d v := RpA.mono (fun _ _ h => h) k d v h
theorem RpC.fk (k : FK F H F' H') {d : List (D × D)} {v : List (NestedKey × Addr × Value)} (h : RpC m bo F H d v) : RpC m bo F' H' d v := RpC.mono (fun _ _ h => h) k d v h
theorem RpB.fk (k : FK F H F' H') {d : List (D × D)} {v : List (NestedKey × Addr × Value)} (h : RpB m bo F H d v) : RpB m bo F' H' d v := RpB.mono (fun _ _ h => h) k d v h
theorem Own.fk (k : FK F H F' H') {d : D} {a : Addr} (e : H' a = H a) (h : Own m bo F H d a) : Own m bo F' H' d a := by
  cases d with
  | lst ds => obtain ⟨vs, s, z, r⟩ := h; exact ⟨vs, e.trans s, z, r.fk k⟩
  | dct kvs =>
    rcases h with ⟨ws, s, r⟩ | ⟨es, s, r⟩
    · exact .inl ⟨ws, e.trans s, r.fk k⟩
    · exact .inr ⟨es, e.trans s, r.fk k⟩
  | _ => exact (show False from h).elim
end

section
variable {m : Pm} {bo : Bo} {F : Addr → Prop} {H : Hp}
theorem RpL.length : ∀ {ds : List D} {vs : List V}, RpL m bo F H ds vs → vs.length = ds.length
  | [], vs, h => by simp only [RpL] at h; simp [h]
  | d :: ds, vs, h => by
    simp only [RpL] at h
    obtain ⟨v, r, rfl, _, h2⟩ := h
    simp [RpL.length h2]
theorem RpL.nil : RpL m bo F H [] [] := by simp [RpL]
theorem RpL.cons {d : D} {v : V} {ds : List D} {vs : List V} (h : Rp m bo F H d v) (t : RpL m bo F H ds vs) : RpL m bo F H (d :: ds) (v :: vs) := by
  simp only [RpL]
  exact ⟨v, vs, rfl, h, t⟩
theorem RpL.head {d : D} {v : V} {ds : List D} {vs : List V} (h : RpL m bo F H (d :: ds) (v :: vs)) : Rp m bo F H d v ∧ RpL m bo F H ds vs := by
  simp only [RpL] at h
  obtain ⟨v', r, e, h1, h2⟩ := h
  cases e
  exact ⟨h1, h2⟩
theorem RpL.append : ∀ {ds es : List D} {vs us : List V}, RpL m bo F H ds vs → RpL m bo F H es us → RpL m bo F H (ds ++ es) (vs ++ us)
  | [], es, vs, us, h, t => by simp only [RpL] at h; subst h; exact t
  | d :: ds, es, vs, us, h, t => by
    simp only [RpL] at h
    obtain ⟨v, r, rfl, h1, h2⟩ := h
    exact RpL.cons h1 (RpL.append h2 t)
theorem RpL.get : ∀ {ds : List D} {vs : List V} {i : Nat} {d : D}, RpL m bo F H ds vs → ds[i]? = some d → ∃ v, vs[i]? = some v ∧ Rp m bo F H d v
  | [], _, _, _, _, e => by simp at e
  | d :: ds, vs, 0, x, h, e => by
    simp only [RpL] at h
    obtain ⟨v, r, rfl, h1, h2⟩ := h
    simp at e; subst e
    exact ⟨v, rfl, h1⟩
  | d :: ds, vs, i + 1, x, h, e => by
    simp only [RpL] at h
    obtain ⟨v, r, rfl, h1, h2⟩ := h
    obtain ⟨u, q, z⟩ := RpL.get (i := i) h2 (by simpa using e)
    exact ⟨u, by simpa using q, z⟩
theorem RpL.of_get : ∀ {ds : List D} {vs : List V} {i : Nat} {v : V}, RpL m bo F H ds vs → vs[i]? = some v → ∃ d, ds[i]? = some d ∧ Rp m bo F H d v := fun {ds vs i v} h e => by
  have hl := h.length
  have hi := (List.getElem?_eq_some_iff.mp e).1
  have hi' : i < ds.length := by omega
  obtain ⟨u, q, z⟩ := h.get (List.getElem?_eq_getElem hi')
  rw [e] at q; cases q
  exact ⟨_, List.getElem?_eq_getElem hi', z⟩
theorem RpL.take : ∀ {ds : List D} {vs : List V} (n : Nat), RpL m bo F H ds vs → RpL m bo F H (ds.take n) (vs.take n)
  | _, _, 0, _ => by simp [RpL]
  | [], _, n + 1, h => by simp only [RpL] at h; subst h; simp [RpL]
  | d :: ds, vs, n + 1, h => by
    simp only [RpL] at h
    obtain ⟨v, r, rfl, h1, h2⟩ := h
    exact RpL.cons h1 (RpL.take n h2)
theorem RpL.drop : ∀ {ds : List D} {vs : List V} (n : Nat), RpL m bo F H ds vs → RpL m bo F H (ds.drop n) (vs.drop n)
  | _, _, 0, h => h
  | [], _, n + 1, h => by simp only [RpL] at h; subst h; simp [RpL]
  | d :: ds, vs, n + 1, h => by
    simp only [RpL] at h
    obtain ⟨v, r, rfl, h1, h2⟩ := h
    exact RpL.drop n h2
theorem RpL.set : ∀ {ds : List D} {vs : List V} (i : Nat) {d : D} {v : V}, RpL m bo F H ds vs → Rp m bo F H d v → RpL m bo F H (ds.set i d) (vs.set i v)
  | [], _, i, _, _, h, _ => by simp only [RpL] at h; subst h; simp [RpL]
  | x :: ds, vs, 0, d, v, h, q => by
    simp only [RpL] at h
    obtain ⟨u, r, rfl, h1, h2⟩ := h
    exact RpL.cons q h2
  | x :: ds, vs, i + 1, d, v, h, q => by
    simp only [RpL] at h
    obtain ⟨u, r, rfl, h1, h2⟩ := h
    exact RpL.cons h1 (RpL.set i h2 q)
theorem RpL.reverse : ∀ {ds : List D} {vs : List V}, RpL m bo F H ds vs → RpL m bo F H ds.reverse vs.reverse
  | [], _, h => by simp only [RpL] at h; subst h; simp [RpL]
  | x :: ds, vs, h => by
    simp only [RpL] at h
    obtain ⟨u, r, rfl, h1, h2⟩ := h
    rw [List.reverse_cons, List.reverse_cons]
    exact RpL.append (RpL.reverse h2) (RpL.cons h1 RpL.nil)
theorem RpL.eraseIdx : ∀ {ds : List D} {vs : List V} (i : Nat), RpL m bo F H ds vs → RpL m bo F H (ds.eraseIdx i) (vs.eraseIdx i)
  | [], _, i, h => by simp only [RpL] at h; subst h; simp [RpL]
  | x :: ds, vs, 0, h => by
    simp only [RpL] at h
    obtain ⟨u, r, rfl, h1, h2⟩ := h
    exact h2
  | x :: ds, vs, i + 1, h => by
    simp only [RpL] at h
    obtain ⟨u, r, rfl, h1, h2⟩ := h
    exact RpL.cons h1 (RpL.eraseIdx i h2)
theorem RpL.replicate {d : D} {v : V} (h : Rp m bo F H d v) : ∀ n, RpL m bo F H (List.replicate n d) (List.replicate n v)
  | 0 => by simp [RpL]
  | n + 1 => RpL.cons h (RpL.replicate h n)
/-- ints, bools, texts read off -/
theorem RpL.ints : ∀ {is : List Int} {vs : List V}, RpL m bo F H (is.map .int) vs → vs = is.map .int
  | [], vs, h => by simpa [RpL] using h
  | i :: is, vs, h => by
    simp only [RpL, List.map_cons, Rp] at h
    obtain ⟨v, r, rfl, rfl, h2⟩ := h
    rw [RpL.ints h2]; rfl
theorem RpL.bools : ∀ {is : List Bool} {vs : List V}, RpL m bo F H (is.map .bl) vs → vs = is.map .bl
  | [], vs, h => by simpa [RpL] using h
  | i :: is, vs, h => by
    simp only [RpL, List.map_cons, Rp] at h
    obtain ⟨v, r, rfl, rfl, h2⟩ := h
    rw [RpL.bools h2]; rfl
theorem RpL.strs : ∀ {is : List Str} {vs : List V}, RpL m bo F H (is.map .str) vs → vs = is.map .str
  | [], vs, h => by simpa [RpL] using h
  | i :: is, vs, h => by
    simp only [RpL, List.map_cons, Rp] at h
    obtain ⟨v, r, rfl, rfl, h2⟩ := h
    rw [RpL.strs h2]; rfl
end

/-! a flat datum's picture does not lean on F -/
mutual
theorem Rp.flat {m : Pm} {bo : Bo} {F F' : Addr → Prop} {H : Hp} : ∀ (d : D) (v : V), d.flat = true → Rp m bo F H d v → Rp m bo F' H d v
  | .non, v, _, h => by simpa [Rp] using h
  | .bl _, v, _, h => by simpa [Rp] using h
  | .int _, v, _, h => by simpa [Rp] using h
  | .str _, v, _, h => by simpa [Rp] using h
  | .tup ds, v, e, h => by
    simp only [Rp] at h ⊢
    obtain ⟨a, vs, e1, s, z, r⟩ := h
    exact ⟨a, vs, e1, s, z, RpL.flat ds vs (by simpa [D.flat] using e) r⟩
  | .lst _, _, e, _ => by simp [D.flat] at e
  | .dct _, _, e, _ => by simp [D.flat] at e
  | .tok n, v, _, h => by simpa [Rp] using h
theorem RpL.flat {m : Pm} {bo : Bo} {F F' : Addr → Prop} {H : Hp} : ∀ (d : List D) (v : List V), D.flatL d = true → RpL m bo F H d v → RpL m bo F' H d v
  | [], v, _, h => by simpa [RpL] using h
  | d :: ds, v, e, h => by
    simp only [RpL] at h ⊢
    rw [D.flatL, Bool.and_eq_true] at e
    obtain ⟨x, r, e1, h1, h2⟩ := h
    exact ⟨x, r, e1, Rp.flat d x e.1 h1, RpL.flat ds r e.2 h2⟩
end

/-- the random source at its place -/
def BoxOk (bo : Bo) (F : Addr → Prop) (H : Hp) (b : Bx) : Prop :=
  match bo with
  | none => True
  | some (p, q) => p ≠ q ∧ ¬ F p ∧ ¬ F q ∧ H p = some (.lst [.ref q, .int b.x, .int b.y]) ∧ H q = some (.lst (b.cs.map .int))

/-- the heap has grown; all but the random source is as it was -/
structure Grow (bo : Bo) (F : Addr → Prop) (H : Hp) (F' : Addr → Prop) (H' : Hp) : Prop where
  keep : ∀ a o, H a = some o → ¬ inBox bo a → H' a = some o
  free : ∀ a, H' a = none → H a = none
  sub : ∀ a, F a → F' a
  new : ∀ a, F' a → F a ∨ H a = none
  dom : ∀ a, F' a → H' a ≠ none
theorem Grow.refl {bo : Bo} {F : Addr → Prop} {H : Hp} (d : ∀ a, F a → H a ≠ none) : Grow bo F H F H := ⟨fun _ _ h _ => h, fun _ h => h, fun _ h => h, fun _ h => .inl h, d⟩
theorem Grow.trans {bo : Bo} {F F1 F2 : Addr → Prop} {H H1 H2 : Hp} (a : Grow bo F H F1 H1) (b : Grow bo F1 H1 F2 H2) : Grow bo F H F2 H2 :=
  ⟨fun c o h n => b.keep c o (a.keep c o h n) n, fun c h => a.free c (b.free c h), fun c h => b.sub c (a.sub c h), fun c h => (b.new c h).elim (fun q => a.new c q) fun q => .inr (a.free c q), b.dom⟩

structure Core (H0 : Hp) (F0 : Addr → Prop) (bo : Bo) (F : Addr → Prop) (H : Hp) (b : Bx) : Prop where
  box : BoxOk bo F H b
  keep : ∀ a o, H0 a = some o → ¬ inBox bo a → H a = some o
  free : ∀ a, H a = none → H0 a = none
  sub : ∀ a, F0 a → F a
  new : ∀ a, F a → F0 a ∨ H0 a = none
  dom : ∀ a, F a → H a ≠ none

/-- a slot of a def: empty, a datum that stays, a list or dict of one's own -/
inductive Sl where
  | emp | frz (d : D) | own (d : D)
  deriving Inhabited
abbrev Rho := List Sl

structure Rel (m : Pm) (H0 : Hp) (F0 : Addr → Prop) (bo : Bo) (σ : St) (ρ : Rho) (F : Addr → Prop) (H : Hp) (b : Bx) : Prop where
  core : Core H0 F0 bo F H b
  len : σ.length = ρ.length
  frz : ∀ (i : Nat) (d : D), ρ[i]? = some (Sl.frz d) → ∃ v, σ[i]? = some (some v) ∧ Rp m bo F H d v
  own : ∀ (i : Nat) (d : D), ρ[i]? = some (Sl.own d) → ∃ a, σ[i]? = some (some (V.ref a)) ∧ ¬ F a ∧ ¬ inBox bo a ∧ H0 a = none ∧ Own m bo F H d a
  dis : ∀ (i j : Nat) (di dj : D) (a : Addr), i ≠ j → ρ[i]? = some (Sl.own di) → ρ[j]? = some (Sl.own dj) → σ[i]? = some (some (V.ref a)) → σ[j]? = some (some (V.ref a)) → False

theorem inBox_some {bo : Bo} {F : Addr → Prop} {H : Hp} {b : Bx} (h : BoxOk bo F H b) {a : Addr} (n : inBox bo a) : ¬ F a ∧ ∃ vs, H a = some (.lst vs) := by
  match bo, h, n with
  | some (p, q), ⟨_, h1, h2, h3, h4⟩, n =>
    rcases n with rfl | rfl
    · exact ⟨h1, _, h3⟩
    · exact ⟨h2, _, h4⟩
theorem Grow.fk {bo : Bo} {F F' : Addr → Prop} {H H' : Hp} {b : Bx} (g : Grow bo F H F' H') (hb : BoxOk bo F H b) (dom : ∀ a, F a → H a ≠ none) : FK F H F' H' where
  sub := g.sub
  at_ := fun a f => by
    cases q : H a with
    | none => exact absurd q (dom a f)
    | some o => exact g.keep a o q fun n => (inBox_some hb n).1 f
  imm := fun a o h n => g.keep a o h fun z => by
    obtain ⟨_, vs, e⟩ := inBox_some hb z
    rw [h] at e; cases e
    exact n trivial

theorem Core.grow {H0 : Hp} {F0 : Addr → Prop} {bo : Bo} {F F' : Addr → Prop} {H H' : Hp} {b b' : Bx} (c : Core H0 F0 bo F H b) (g : Grow bo F H F' H') (hb : BoxOk bo F' H' b') : Core H0 F0 bo F' H' b' :=
  ⟨hb, fun a o h n => g.keep a o (c.keep a o h n) n, fun a h => c.free a (g.free a h), fun a h => g.sub a (c.sub a h), fun a h => (g.new a h).elim (fun q => c.new a q) fun q => .inr (c.free a q), g.dom⟩

section
variable {m : Pm} {H0 : Hp} {F0 : Addr → Prop} {bo : Bo} {σ : St} {ρ : Rho} {F F' : Addr → Prop} {H H' : Hp} {b b' : Bx}
theorem Rel.fkg (R : Rel m H0 F0 bo σ ρ F H b) (g : Grow bo F H F' H') : FK F H F' H' := g.fk R.core.box R.core.dom
theorem Own.some {d : D} {a : Addr} (h : Own m bo F H d a) : ∃ o, H a = some o ∧ MutO o := by
  cases d with
  | lst ds => obtain ⟨vs, s, z, r⟩ := h; exact ⟨_, s, trivial⟩
  | dct kvs =>
    rcases h with ⟨ws, s, r⟩ | ⟨es, s, r⟩
    · exact ⟨_, s, trivial⟩
    · exact ⟨_, s, trivial⟩
  | _ => exact (show False from h).elim
theorem Rel.grow (R : Rel m H0 F0 bo σ ρ F H b) (g : Grow bo F H F' H') (hb : BoxOk bo F' H' b') : Rel m H0 F0 bo σ ρ F' H' b' where
  core := R.core.grow g hb
  len := R.len
  frz := fun i d e => by
    obtain ⟨v, h1, h2⟩ := R.frz i d e
    exact ⟨v, h1, h2.fk (R.fkg g)⟩
  own := fun i d e => by
    obtain ⟨a, h1, h2, h3, h4, h5⟩ := R.own i d e
    obtain ⟨o, q, _⟩ := h5.some
    refine ⟨a, h1, fun z => ?_, h3, h4, h5.fk (R.fkg g) ((g.keep a o q h3).trans q.symm)⟩
    rcases g.new a z with z | z
    · exact h2 z
    · rw [q] at z; cases z
  dis := R.dis
/-- the heap at hand -/
structure Wo (bo : Bo) (F : Addr → Prop) (H : Hp) (b : Bx) : Prop where
  box : BoxOk bo F H b
  dom : ∀ a, F a → H a ≠ none
theorem Rel.wo (R : Rel m H0 F0 bo σ ρ F H b) : Wo bo F H b := ⟨R.core.box, R.core.dom⟩
/-- an operand stays one while the heap grows -/
theorem RpO.grow {d : D} {v : V} (W : Wo bo F H b) (g : Grow bo F H F' H') (h : RpO m bo F H d v) : RpO m bo F' H' d v := by
  rcases h with h | ⟨a, rfl, n, f, h⟩
  · exact .inl (h.fk (g.fk W.box W.dom))
  · obtain ⟨o, q, _⟩ := h.some
    refine .inr ⟨a, rfl, n, fun z => ?_, h.fk (g.fk W.box W.dom) ((g.keep a o q n).trans q.symm)⟩
    rcases g.new a z with z | z
    · exact f z
    · rw [q] at z; cases z
theorem inBox_new (W : Wo bo F H b) {a : Addr} (h : H a = none) : ¬ inBox bo a := fun z => by
  obtain ⟨_, vs, e⟩ := inBox_some W.box z
  rw [h] at e; cases e
theorem BoxOk.alloc {p : Addr} {o : HO} (W : Wo bo F H b) (hp : H p = none) (sub : ∀ a, F' a → F a ∨ a = p) : BoxOk bo F' (upd H p o) b := by
  have hb := W.box
  match bo, hb with
  | none, _ => trivial
  | some (x, y), ⟨h1, h2, h3, h4, h5⟩ =>
    have nx : x ≠ p := ne_of_none h4 hp
    have ny : y ≠ p := ne_of_none h5 hp
    refine ⟨h1, fun z => (sub x z).elim h2 nx, fun z => (sub y z).elim h3 ny, by rw [upd_ne nx]; exact h4, by rw [upd_ne ny]; exact h5⟩
/-- a new object -/
theorem Grow.alloc {p : Addr} {o : HO} (W : Wo bo F H b) (hp : H p = none) : Grow bo F H F (upd H p o) where
  keep := fun a u e _ => by rw [upd_ne (ne_of_none e hp)]; exact e
  free := fun a e => by
    by_cases h : a = p
    · rw [h]; exact hp
    · rw [upd_ne h] at e; exact e
  sub := fun _ h => h
  new := fun _ h => .inl h
  dom := fun a f e => by
    by_cases h : a = p
    · rw [h, upd_same] at e; cases e
    · rw [upd_ne h] at e; exact W.dom a f e
/-- .. that stays as it is -/
theorem Grow.allocF {p : Addr} {o : HO} (W : Wo bo F H b) (hp : H p = none) : Grow bo F H (fun a => F a ∨ a = p) (upd H p o) where
  keep := fun a u e _ => by rw [upd_ne (ne_of_none e hp)]; exact e
  free := fun a e => by
    by_cases h : a = p
    · rw [h]; exact hp
    · rw [upd_ne h] at e; exact e
  sub := fun _ h => .inl h
  new := fun a h => h.elim .inl fun e => .inr (by rw [e]; exact hp)
  dom := fun a f e => by
    by_cases h : a = p
    · rw [h, upd_same] at e; cases e
    · rw [upd_ne h] at e
      rcases f with f | f
      · exact W.dom a f e
      · exact h f
theorem Wo.grow (W : Wo bo F H b) (g : Grow bo F H F' H') (hb : BoxOk bo F' H' b') : Wo bo F' H' b' := ⟨hb, g.dom⟩
theorem Wo.fk (W : Wo bo F H b) (g : Grow bo F H F' H') : FK F H F' H' := g.fk W.box W.dom
/-- a new tuple -/
theorem new_tup {p : Addr} {ds : List D} {vs : List V} (W : Wo bo F H b) (hp : H p = none) (r : RpL m bo F H ds vs) (z : vs.length ≤ sizeLine) :
    Grow bo F H F (upd H p (.tup vs)) ∧ BoxOk bo F (upd H p (.tup vs)) b ∧ Rp m bo F (upd H p (.tup vs)) (.tup ds) (.ref p) := by
  have g : Grow bo F H F (upd H p (.tup vs)) := Grow.alloc W hp
  refine ⟨g, BoxOk.alloc W hp fun _ h => .inl h, ?_⟩
  simp only [Rp]
  exact ⟨p, vs, rfl, SqT.of upd_same, z, r.fk (W.fk g)⟩
/-- a new list, to stay as it is -/
theorem new_lst {p : Addr} {ds : List D} {vs : List V} (W : Wo bo F H b) (hp : H p = none) (r : RpL m bo F H ds vs) (z : vs.length ≤ sizeLine) :
    Grow bo F H (fun a => F a ∨ a = p) (upd H p (.lst vs)) ∧ BoxOk bo (fun a => F a ∨ a = p) (upd H p (.lst vs)) b ∧ Rp m bo (fun a => F a ∨ a = p) (upd H p (.lst vs)) (.lst ds) (.ref p) := by
  have g : Grow bo F H (fun a => F a ∨ a = p) (upd H p (.lst vs)) := Grow.allocF W hp
  refine ⟨g, BoxOk.alloc W hp fun _ h => h, ?_⟩
  simp only [Rp]
  exact ⟨p, vs, rfl, .inr rfl, upd_same, z, r.fk (W.fk g)⟩
/-- .. to be changed -/
theorem new_own {p : Addr} {ds : List D} {vs : List V} (W : Wo bo F H b) (hp : H p = none) (r : RpL m bo F H ds vs) (z : vs.length ≤ sizeLine) :
    Grow bo F H F (upd H p (.lst vs)) ∧ BoxOk bo F (upd H p (.lst vs)) b ∧ ¬ F p ∧ Own m bo F (upd H p (.lst vs)) (.lst ds) p := by
  have g : Grow bo F H F (upd H p (.lst vs)) := Grow.alloc W hp
  exact ⟨g, BoxOk.alloc W hp fun _ h => .inl h, fun f => W.dom p f hp, vs, upd_same, z, r.fk (W.fk g)⟩
/-- not a dict -/
def D.nodct : D → Bool
  | .dct _ => false
  | _ => true
/-- a list of one's own, left to stay as it is -/
theorem freeze {d : D} {a : Addr} (W : Wo bo F H b) (nb : ¬ inBox bo a) (hnd : d.nodct = true) (h : Own m bo F H d a) :
    FK F H (fun c => F c ∨ c = a) H ∧ BoxOk bo (fun c => F c ∨ c = a) H b ∧ (∀ c, (F c ∨ c = a) → H c ≠ none) ∧ Rp m bo (fun c => F c ∨ c = a) H d (.ref a) := by
  obtain ⟨o, q, _⟩ := h.some
  have k : FK F H (fun c => F c ∨ c = a) H := ⟨fun _ h => .inl h, fun _ _ => rfl, fun _ _ h _ => h⟩
  refine ⟨k, ?_, fun c f e => ?_, ?_⟩
  · have hb := W.box
    match bo, hb, nb with
    | none, _, _ => trivial
    | some (x, y), ⟨h1, h2, h3, h4, h5⟩, nb =>
      exact ⟨h1, fun z => z.elim h2 fun e => nb (.inl e.symm), fun z => z.elim h3 fun e => nb (.inr e.symm), h4, h5⟩
  · rcases f with f | f
    · exact W.dom c f e
    · rw [f, q] at e; cases e
  · have h' := h.fk (F' := fun c => F c ∨ c = a) k rfl
    cases d with
    | lst ds => obtain ⟨vs, s, z, r⟩ := h'; simp only [Rp]; exact ⟨a, vs, rfl, .inr rfl, s, z, r⟩
    | dct kvs => cases hnd
    | _ => exact (show False from h).elim
/-- a thing of one's own, left to stay as it is: a dict is locked -/
theorem lockF {X : Cx} {pins : List (Addr × Obj)} {σ : St} {s : Shared} {d : D} {a : Addr} (I : Inv X pins σ H s) (W : Wo bo F H b) (nb : ¬ inBox bo a) (nf : ¬ F a) (h : Own m bo F H d a) :
    ∃ H', Inv X pins σ H' s ∧ (∀ c, c ≠ a → H' c = H c) ∧ (∀ c, H' c = none → H c = none) ∧ FK F H (fun c => F c ∨ c = a) H' ∧ BoxOk bo (fun c => F c ∨ c = a) H' b ∧ (∀ c, (F c ∨ c = a) → H' c ≠ none) ∧ Rp m bo (fun c => F c ∨ c = a) H' d (.ref a) := by
  have dict : ∀ u : HO, H a = some u → Mut (some u) → MutO u → ∃ o, ∃ H', H' a = some (.frz o u) ∧ Inv X pins σ H' s ∧ (∀ c, c ≠ a → H' c = H c) ∧ (∀ c, H' c = none → H c = none) ∧ FK F H (fun c => F c ∨ c = a) H' ∧ BoxOk bo (fun c => F c ∨ c = a) H' b ∧ (∀ c, (F c ∨ c = a) → H' c ≠ none) := fun u e mu mo => by
    obtain ⟨od, I'⟩ := I.lock e mu
    have ne : ∀ c, c ≠ a → upd H a (.frz od u) c = H c := fun c hc => upd_ne hc
    refine ⟨od, _, upd_same, I', ne, fun c hc => ?_, ⟨fun _ h => .inl h, fun c f => ne c fun z => nf (z ▸ f), fun c o q n => ?_⟩, ?_, fun c f z => ?_⟩
    · by_cases hca : c = a
      · rw [hca, upd_same] at hc; cases hc
      · rw [ne c hca] at hc; exact hc
    · refine (ne c fun z => ?_).trans q
      rw [z, e] at q; cases q
      exact n mo
    · have hb := W.box
      match bo, hb, nb with
      | none, _, _ => trivial
      | some (x, y), ⟨h1, h2, h3, h4, h5⟩, nb =>
        refine ⟨h1, fun z => z.elim h2 fun e => nb (.inl e.symm), fun z => z.elim h3 fun e => nb (.inr e.symm), ?_, ?_⟩
        · rw [ne x fun z => nb (.inl z.symm)]; exact h4
        · rw [ne y fun z => nb (.inr z.symm)]; exact h5
    · by_cases hca : c = a
      · rw [hca, upd_same] at z; cases z
      · rw [ne c hca] at z
        exact f.elim (fun f => W.dom c f z) hca
  cases d with
  | lst ds =>
    obtain ⟨k, hb, dm, r⟩ := freeze W nb rfl h
    exact ⟨H, I, fun _ _ => rfl, fun _ h => h, k, hb, dm, r⟩
  | dct kvs =>
    rcases h with ⟨ws, e, r⟩ | ⟨es, e, r⟩
    · obtain ⟨o, H', e', I', h1, h2, k, hb, dm⟩ := dict _ e trivial trivial
      refine ⟨H', I', h1, h2, k, hb, dm, ?_⟩
      simp only [Rp]
      exact ⟨a, rfl, .inr rfl, o, .inl ⟨ws, e', RpA.mono (fun _ _ h => h) k kvs ws r⟩⟩
    · obtain ⟨o, H', e', I', h1, h2, k, hb, dm⟩ := dict _ e trivial trivial
      refine ⟨H', I', h1, h2, k, hb, dm, ?_⟩
      simp only [Rp]
      exact ⟨a, rfl, .inr rfl, o, .inr ⟨es, e', RpB.mono (fun _ _ h => h) k kvs es r⟩⟩
  | _ => exact (show False from h).elim
end
end Sv

/-! Sv2: what the constructs compute, on plain data. -/
namespace Sv
open PySem L2

/-! ### operators -/
/-- how large a number may grow -/
def bigOk (i : Int) : Bool := decide (i.natAbs < 2 ^ 30000)
def mulOk (i j : Int) : Bool := decide (i.natAbs < 2 ^ 63) || decide (j.natAbs < 2 ^ 63) || (bigOk i && bigOk j)
def opAdd : D → D → Option D
  | .int i, .int j => some (.int (i + j))
  | .str x, .str y => if x.length + y.length ≤ sizeLine then some (.str (x ++ y)) else none
  | .tup xs, .tup ys => if xs.length + ys.length ≤ sizeLine then some (.tup (xs ++ ys)) else none
  | .lst xs, .lst ys => if xs.length + ys.length ≤ sizeLine then some (.lst (xs ++ ys)) else none
  | _, _ => none
def opSub : D → D → Option D
  | .int i, .int j => some (.int (i - j))
  | _, _ => none
def opMul : D → D → Option D
  | .int i, .int j => if mulOk i j = true then some (.int (i * j)) else none
  | .lst xs, .int k => if k < 2 ^ 62 ∧ -(2 ^ 62) < k ∧ xs.length * k.toNat ≤ sizeLine then some (.lst (List.replicate k.toNat xs).flatten) else none
  | .tup xs, .int k => if k ≤ 1000 ∧ -1000 ≤ k ∧ xs.length ≤ 1000 then some (.tup (List.replicate k.toNat xs).flatten) else none
  | _, _ => none
def opFdiv : D → D → Option D
  | .int i, .int j => if j ≠ 0 ∧ j.natAbs < 2 ^ 30 then some (.int (i.fdiv j)) else none
  | _, _ => none
def opMod : D → D → Option D
  | .int i, .int j => if j ≠ 0 then some (.int (i.fmod j)) else none
  | _, _ => none
def opNeg : D → Option D
  | .int i => some (.int (-i))
  | _ => none

/-! ### truth, comparisons -/
def truthD : D → Option Bool
  | .non => some false
  | .bl b => some b
  | .int i => some (i != 0)
  | .str s => if s.length ≤ sizeLine then some (s.length != 0) else none
  | .tup xs => some (!xs.isEmpty)
  | .lst xs => some (!xs.isEmpty)
  | _ => none
def eqD (d e : D) : Option Bool := if d.sm = true ∧ e.sm = true then some (PyData.eqv d.py e.py) else none
def opEq (d e : D) : Option D := (eqD d e).map .bl
def opNe (d e : D) : Option D := (eqD d e).map fun k => .bl (!k)
def ltD : D → D → Option Bool
  | .int i, .int j => some (decide (i < j))
  | d, e => if d.sm = true ∧ e.sm = true ∧ d ≠ .non ∧ PySem.W.alike d.py e.py = true then some (PySem.W.dataLt d.py e.py) else none
def opLt (d e : D) : Option D := (ltD d e).map .bl
def opGt (d e : D) : Option D := (ltD e d).map .bl
def opLe (d e : D) : Option D := (ltD e d).map fun k => .bl (!k)
def opGe (d e : D) : Option D := (ltD d e).map fun k => .bl (!k)
def opIsN : D → Option D
  | .tok _ => none
  | .non => some (.bl true)
  | _ => some (.bl false)
def opNotN (d : D) : Option D := match d with
  | .tok _ => none
  | .non => some (.bl false)
  | _ => some (.bl true)
def opIsB : D → D → Option D
  | .bl a, .bl b => some (.bl (decide (a = b)))
  | _, _ => none
def opIsntB : D → D → Option D
  | .bl a, .bl b => some (.bl (!decide (a = b)))
  | _, _ => none
/-! ### dicts: the rows, a key asked for, a key put; where the keys are tuples the first row is t0 -/
def keyS : D → Bool
  | .int _ => true
  | .str _ => true
  | _ => false
def keyT : D → Bool
  | .tup xs => D.kokL xs && decide (D.depL xs ≤ 7)
  | _ => false
def t0 : D × D := (.tok 0, .non)
def isT0 : List (D × D) → Bool
  | kv :: _ => decide (kv = t0)
  | [] => false
def lkD (rows : List (D × D)) (k : D) : Option D := (rows.find? fun kv => decide (kv.1 = k)).map (·.2)
def ptD (rows : List (D × D)) (k v : D) : List (D × D) := if (lkD rows k).isSome then rows.map (fun kv => if kv.1 = k then (kv.1, v) else kv) else rows ++ [(k, v)]
def drD (rows : List (D × D)) (k : D) : List (D × D) := rows.filter fun kv => decide (kv.1 ≠ k)
def rowsD (kvs : List (D × D)) : List (D × D) := if isT0 kvs = true then kvs.tail else kvs
def keyOk (kvs : List (D × D)) (k : D) : Bool := if isT0 kvs = true then keyT k else keyS k
def dGet (kvs : List (D × D)) (k : D) : Option (Option D) := if keyOk kvs k = true then some (lkD (rowsD kvs) k) else none
def dPut (kvs : List (D × D)) (k v : D) : Option (List (D × D)) := if keyOk kvs k = true ∧ (rowsD kvs).length < sizeLine then some (if isT0 kvs = true then t0 :: ptD kvs.tail k v else ptD kvs k v) else none
def inD (x y : D) : Option Bool := match y with
  | .dct kvs => (dGet kvs x).map Option.isSome
  | .lst ds => if x.sm = true ∧ D.sm (.lst ds) = true then some (ds.any fun z => PyData.eqv z.py x.py) else none
  | .tup ds => if x.sm = true ∧ D.sm (.tup ds) = true then some (ds.any fun z => PyData.eqv z.py x.py) else none
  | _ => none
def opIn (x y : D) : Option D := (inD x y).map .bl
def opNotIn (x y : D) : Option D := (inD x y).map fun k => .bl (!k)

/-! ### subscripts, slices -/
def ixD : D → D → Option D
  | .tup xs, .int i => atI xs i
  | .lst xs, .int i => atI xs i
  | .str z, .int i => if z.length ≤ sizeLine then (atI z.cps.toList i).map fun c => .str ⟨#[c]⟩ else none
  | .dct kvs, k => (dGet kvs k).join
  | _, _ => none
def cutD (xs : List D) (lo hi : Option Int) : List D := (xs.drop (HT.sIx xs.length 0 lo)).take (HT.sIx xs.length xs.length hi - HT.sIx xs.length 0 lo)
def sliceD (x : D) (lo hi : Option Int) : Option D := match x with
  | .tup xs => some (.tup (cutD xs lo hi))
  | .lst xs => some (.lst (cutD xs lo hi))
  | .str z => if z.length ≤ sizeLine then some (.str (cutS z lo hi)) else none
  | _ => none
def revD : D → Option D
  | .tup xs => some (.tup xs.reverse)
  | .lst xs => some (.lst xs.reverse)
  | _ => none

/-! ### built-ins -/
def lenD : List D → Option D
  | [.dct kvs] => some (.int (rowsD kvs).length)
  | [.tup xs] => some (.int xs.length)
  | [.lst xs] => some (.int xs.length)
  | [.str z] => if z.length ≤ sizeLine then some (.int z.length) else none
  | _ => none
def boolsD : List D → Option (List Bool)
  | [] => some []
  | .bl b :: r => (boolsD r).map (b :: ·)
  | _ :: _ => none
def intsD : List D → Option (List Int)
  | [] => some []
  | .int b :: r => (intsD r).map (b :: ·)
  | _ :: _ => none
def strsD : List D → Option (List Str)
  | [] => some []
  | .str b :: r => (strsD r).map (b :: ·)
  | _ :: _ => none
def anyD : List D → Option D
  | [.lst xs] => (boolsD xs).map fun bs => .bl (bs.any id)
  | _ => none
def allD : List D → Option D
  | [.lst xs] => (boolsD xs).map fun bs => .bl (bs.all id)
  | _ => none
/-- d.get(k, x) -/
def getD3 : List D → Option D
  | [.dct kvs, k, x] => (dGet kvs k).map fun o => o.getD x
  | _ => none
def sumD : List D → Option D
  | [.lst xs] => (intsD xs).map fun is => .int is.sum
  | [.tup xs] => (intsD xs).map fun is => .int is.sum
  | _ => none
def absD : List D → Option D
  | [.int i] => some (.int (if i < 0 then -i else i))
  | _ => none
def max2D : List D → Option D
  | [.int i, .int j] => some (.int (if j > i then j else i))
  | _ => none
def min2D : List D → Option D
  | [.int i, .int j] => some (.int (if j < i then j else i))
  | _ => none
def minI : List Int → Int
  | [] => 0
  | x :: xs => xs.foldl min x
def maxI : List Int → Int
  | [] => 0
  | x :: xs => xs.foldl max x
def intD : List D → Option D
  | [.int i] => some (.int i)
  | [.bl b] => some (.int (if b then 1 else 0))
  | _ => none
def strD : List D → Option D
  | [.int i] => if i.natAbs.log2 < 1920 then some (.str (toString i : String)) else none
  | _ => none
def tupleD : List D → Option D
  | [.lst xs] => some (.tup xs)
  | [.tup xs] => some (.tup xs)
  | _ => none
def keysD (kvs : List (D × D)) : List D := (rowsD kvs).map (·.1)
def valsD (kvs : List (D × D)) : List D := (rowsD kvs).map (·.2)
def pairsD (kvs : List (D × D)) : List D := (rowsD kvs).map fun kv => .tup [kv.1, kv.2]
def listD : List D → Option D
  | [.dct kvs] => some (.lst (keysD kvs))
  | [.lst xs] => some (.lst xs)
  | [.tup xs] => some (.lst xs)
  | _ => none
/-- all data alike: numbers, truth values, texts, tuples and lists of these -/
def sortOk (xs : List D) : Bool := xs.all (·.sm) && (xs.all fun d => xs.all fun e => PySem.W.alike d.py e.py) && ((xs.all fun d => match d with | .tup (_ :: _) => true | _ => false) || (xs.all fun d => match d with | .tup _ => false | .non => false | _ => true))
def sortL (xs : List D) : List D := xs.mergeSort (PySem.W.dataLe false D.py)
def sortedD : List D → Option D
  | [.dct kvs] => if sortOk (keysD kvs) = true then some (.lst (sortL (keysD kvs))) else none
  | [.lst xs] => if sortOk xs = true then some (.lst (sortL xs)) else none
  | [.tup xs] => if sortOk xs = true then some (.lst (sortL xs)) else none
  | _ => none
/-- the built-in classes that isinstance is asked of -/
inductive Ty where
  | int | bool | str | tuple | list
  deriving DecidableEq
def isT : D → Ty → Option Bool
  | .non, _ => some false
  | .bl _, t => some (decide (t = .int ∨ t = .bool))
  | .int _, t => some (decide (t = .int))
  | .str _, t => some (decide (t = .str))
  | .tup _, t => some (decide (t = .tuple))
  | .lst _, t => some (decide (t = .list))
  | _, _ => none
/-- the turns of a range -/
def rangeD (lo hi : Int) : Option (List D) := if hi - lo ≤ 16777216 ∧ -(2 ^ 62) ≤ lo ∧ lo < 2 ^ 62 ∧ -(2 ^ 62) ≤ hi ∧ hi < 2 ^ 62 then some ((List.range (hi - lo).toNat).map fun k => .int (lo + (k : Nat))) else none
/-- list(range(..)), tuple(range(..)) -/
def rlD : List D → Option D
  | [.int j] => (rangeD 0 j).map .lst
  | [.int i, .int j] => (rangeD i j).map .lst
  | _ => none
def rtD : List D → Option D
  | [.int j] => (rangeD 0 j).map .tup
  | [.int i, .int j] => (rangeD i j).map .tup
  | _ => none
def enumD : Nat → List D → List D
  | _, [] => []
  | k, d :: ds => .tup [.int k, d] :: enumD (k + 1) ds
def zipD : List D → List D → List D
  | d :: ds, e :: es => .tup [d, e] :: zipD ds es
  | _, _ => []

/-! ### expressions -/
abbrev Ex := Rho → Bx → Option (D × Bx)
abbrev Tx := Rho → Bx → Option (Bool × Bx)
abbrev As := Rho → Bx → Option (List D × Bx)
def eVar (i : Nat) : Ex := fun ρ b => match ρ[i]? with
  | some (.frz d) => some (d, b)
  | _ => none
/-- a name that is only looked at -/
def eBor (i : Nat) : Ex := fun ρ b => match ρ[i]? with
  | some (.frz d) => some (d, b)
  | some (.own d) => some (d, b)
  | _ => none
def eCon (d : D) : Ex := fun _ b => some (d, b)
def eUn (g : D → Option D) (f : Ex) : Ex := fun ρ b => match f ρ b with
  | some (d, b1) => match g d with
    | some r => some (r, b1)
    | none => none
  | none => none
def eBin (g : D → D → Option D) (f f' : Ex) : Ex := fun ρ b => match f ρ b with
  | some (d, b1) => match f' ρ b1 with
    | some (e, b2) => match g d e with
      | some r => some (r, b2)
      | none => none
    | none => none
  | none => none
def aNil : As := fun _ b => some ([], b)
def aCons (f : Ex) (g : As) : As := fun ρ b => match f ρ b with
  | some (d, b1) => match g ρ b1 with
    | some (ds, b2) => some (d :: ds, b2)
    | none => none
  | none => none
def eFn (g : List D → Option D) (f : As) : Ex := fun ρ b => match f ρ b with
  | some (ds, b1) => match g ds with
    | some r => some (r, b1)
    | none => none
  | none => none
def eTup (f : As) : Ex := eFn (fun ds => some (.tup ds)) f
def eLst (f : As) : Ex := eFn (fun ds => some (.lst ds)) f
def eIf (t : Tx) (f g : Ex) : Ex := fun ρ b => match t ρ b with
  | some (true, b1) => f ρ b1
  | some (false, b1) => g ρ b1
  | none => none
def tOf (f : Ex) : Tx := fun ρ b => match f ρ b with
  | some (d, b1) => match truthD d with
    | some k => some (k, b1)
    | none => none
  | none => none
/-- a test whose value is a bool -/
def tBl (f : Ex) : Tx := fun ρ b => match f ρ b with
  | some (.bl k, b1) => some (k, b1)
  | _ => none
def tNot (f : Tx) : Tx := fun ρ b => match f ρ b with
  | some (k, b1) => some (!k, b1)
  | none => none
def tAnd (f g : Tx) : Tx := fun ρ b => match f ρ b with
  | some (true, b1) => g ρ b1
  | some (false, b1) => some (false, b1)
  | none => none
def tOr (f g : Tx) : Tx := fun ρ b => match f ρ b with
  | some (true, b1) => some (true, b1)
  | some (false, b1) => g ρ b1
  | none => none
/-- and, or, not as values, by truth -/
def eAnd (f g : Ex) : Ex := fun ρ b => match f ρ b with
  | some (d, b1) => match truthD d with
    | some true => g ρ b1
    | some false => some (d, b1)
    | none => none
  | none => none
def eOr (f g : Ex) : Ex := fun ρ b => match f ρ b with
  | some (d, b1) => match truthD d with
    | some true => some (d, b1)
    | some false => g ρ b1
    | none => none
  | none => none
def eNot (f : Ex) : Ex := eUn (fun d => (truthD d).map fun k => .bl (!k)) f
/-- a < b < c -/
def eChain (g g' : D → D → Option D) (f f' f'' : Ex) : Ex := fun ρ b => match f ρ b with
  | some (d, b1) => match f' ρ b1 with
    | some (e, b2) => match g d e with
      | some (.bl true) => match f'' ρ b2 with
        | some (c, b3) => match g' e c with
          | some r => some (r, b3)
          | none => none
        | none => none
      | some (.bl false) => some (.bl false, b2)
      | _ => none
    | none => none
  | none => none
/-- a[lo:hi] -/
def eOpt : Option Ex → Rho → Bx → Option (Option Int × Bx)
  | none, _, b => some (none, b)
  | some f, ρ, b => match f ρ b with
    | some (.int i, b1) => some (some i, b1)
    | _ => none
def eSlice (f : Ex) (lo hi : Option Ex) : Ex := fun ρ b => match f ρ b with
  | some (d, b1) => match eOpt lo ρ b1 with
    | some (l, b2) => match eOpt hi ρ b2 with
      | some (h, b3) => match sliceD d l h with
        | some r => some (r, b3)
        | none => none
      | none => none
    | none => none
  | none => none
/-- a call of a def of the text -/
abbrev Fn := List D → Bx → Option (D × Bx)
def eCall (F : Fn) (f : As) : Ex := fun ρ b => match f ρ b with
  | some (ds, b1) => F ds b1
  | none => none
/-- .. with things of one's own among the arguments -/
def eCallO (F : Fn) (f : As) : Ex := fun ρ b => match f ρ b with
  | some (ds, b1) => if ds.all D.nodct = true then match F ds b1 with
      | some (d, b2) => if d.flat = true then some (d, b2) else none
      | none => none
    else none
  | none => none

/-! ### what is walked -/
abbrev It := Rho → Bx → Option (List D × Bx)
def itemsD : D → Option (List D)
  | .lst xs => some xs
  | .tup xs => some xs
  | _ => none
def iSeq (f : Ex) : It := fun ρ b => match f ρ b with
  | some (d, b1) => match itemsD d with
    | some xs => some (xs, b1)
    | none => none
  | none => none
def iStr (f : Ex) : It := fun ρ b => match f ρ b with
  | some (.str z, b1) => if z.length ≤ sizeLine then some (z.cps.toList.map fun c => .str ⟨#[c]⟩, b1) else none
  | _ => none
def iRange (f : As) : It := fun ρ b => match f ρ b with
  | some ([.int j], b1) => match rangeD 0 j with
    | some xs => some (xs, b1)
    | none => none
  | some ([.int i, .int j], b1) => match rangeD i j with
    | some xs => some (xs, b1)
    | none => none
  | _ => none
def iEnum (f : Ex) : It := fun ρ b => match f ρ b with
  | some (d, b1) => match itemsD d with
    | some xs => some (enumD 0 xs, b1)
    | none => none
  | none => none
def zipDD : D → D → Option (List D)
  | .lst xs, .lst ys => some (zipD xs ys)
  | .tup xs, .tup ys => some (zipD xs ys)
  | _, _ => none
def iZip (f g : Ex) : It := fun ρ b => match f ρ b with
  | some (d, b1) => match g ρ b1 with
    | some (e, b2) => match zipDD d e with
      | some zs => some (zs, b2)
      | none => none
    | none => none
  | none => none
/-- targets -/
abbrev Tg := D → Rho → Option Rho
def gNm (i : Nat) : Tg := fun d ρ => some (ρ.set i (.frz d))
def gNone : List D → Rho → Option Rho
  | [], ρ => some ρ
  | _ :: _, _ => none
def gMore (g : Tg) (h : List D → Rho → Option Rho) : List D → Rho → Option Rho
  | d :: ds, ρ => match g d ρ with
    | some ρ1 => h ds ρ1
    | none => none
  | [], _ => none
def gTp (h : List D → Rho → Option Rho) : Tg := fun d ρ => match d with
  | .tup ds => h ds ρ
  | _ => none

/-! ### comprehensions -/
def wipeR (ρ : Rho) : List Nat → Rho
  | [] => ρ
  | v :: vs => (wipeR ρ vs).set v .emp
def lcGo (g : Tg) (t : Tx) (f : Ex) (ρ : Rho) : List D → Bx → Option (List D × Bx)
  | [], b => some ([], b)
  | d :: ds, b => match g d ρ with
    | some ρ1 => match t ρ1 b with
      | some (true, b1) => match f ρ1 b1 with
        | some (r, b2) => match lcGo g t f ρ ds b2 with
          | some (rs, b3) => some (r :: rs, b3)
          | none => none
        | none => none
      | some (false, b1) => lcGo g t f ρ ds b1
      | none => none
    | none => none
def eLc (it : It) (g : Tg) (t : Tx) (f : Ex) (vs : List Nat) : Ex := fun ρ b => match it ρ b with
  | some (ds, b1) => match lcGo g t f (wipeR ρ vs) ds b1 with
    | some (rs, b2) => some (.lst rs, b2)
    | none => none
  | none => none
def tYes' : Tx := fun _ b => some (true, b)

/-! ### statements -/
inductive Fl where
  | nx | bk | ct | rt (d : D)
abbrev SS := Rho → Bx → Option (Fl × Rho × Bx)
def sNx : SS := fun ρ b => some (.nx, ρ, b)
def sBk : SS := fun ρ b => some (.bk, ρ, b)
def sCt : SS := fun ρ b => some (.ct, ρ, b)
def sSeq (s t : SS) : SS := fun ρ b => match s ρ b with
  | some (.nx, ρ1, b1) => t ρ1 b1
  | r => r
def sRet (f : Ex) : SS := fun ρ b => match f ρ b with
  | some (d, b1) => some (.rt d, ρ, b1)
  | none => none
def sIf (t : Tx) (s s' : SS) : SS := fun ρ b => match t ρ b with
  | some (true, b1) => s ρ b1
  | some (false, b1) => s' ρ b1
  | none => none
/-- name = e -/
def sSet (i : Nat) (f : Ex) : SS := fun ρ b => match f ρ b with
  | some (d, b1) => some (.nx, ρ.set i (.frz d), b1)
  | none => none
/-- name = a new list or dict, to be changed -/
def sNew (i : Nat) (f : Ex) : SS := fun ρ b => match f ρ b with
  | some (d, b1) => some (.nx, ρ.set i (.own d), b1)
  | none => none
/-- target = e -/
def sAsg (g : Tg) (f : Ex) : SS := fun ρ b => match f ρ b with
  | some (d, b1) => match g d ρ with
    | some ρ1 => some (.nx, ρ1, b1)
    | none => none
  | none => none
/-- a thing of one's own is left to stay as it is -/
def sFz (i : Nat) : SS := fun ρ b => match ρ[i]? with
  | some (.own d) => some (.nx, ρ.set i (.frz d), b)
  | _ => none
def sExpr (f : Ex) : SS := fun ρ b => match f ρ b with
  | some (_, b1) => some (.nx, ρ, b1)
  | none => none
/-- xs.append(e) -/
def sApp (i : Nat) (f : Ex) : SS := fun ρ b => match ρ[i]? with
  | some (.own (.lst xs)) => match f ρ b with
    | some (d, b1) => if xs.length < sizeLine then some (.nx, ρ.set i (.own (.lst (xs ++ [d]))), b1) else none
    | none => none
  | _ => none
def sExt (i : Nat) (f : Ex) : SS := fun ρ b => match ρ[i]? with
  | some (.own (.lst xs)) => match f ρ b with
    | some (.lst ys, b1) => if xs.length + ys.length ≤ sizeLine then some (.nx, ρ.set i (.own (.lst (xs ++ ys))), b1) else none
    | _ => none
  | _ => none
def forGo (g : Tg) (s : SS) : List D → SS
  | [], ρ, b => some (.nx, ρ, b)
  | d :: ds, ρ, b => match g d ρ with
    | some ρ1 => match s ρ1 b with
      | some (.nx, ρ2, b2) => forGo g s ds ρ2 b2
      | some (.ct, ρ2, b2) => forGo g s ds ρ2 b2
      | some (.bk, ρ2, b2) => some (.nx, ρ2, b2)
      | some (.rt r, ρ2, b2) => some (.rt r, ρ2, b2)
      | none => none
    | none => none
def sFor (it : It) (g : Tg) (s : SS) : SS := fun ρ b => match it ρ b with
  | some (ds, b1) => forGo g s ds ρ b1
  | none => none
def whGo (t : Tx) (s : SS) : Nat → SS
  | 0, _, _ => none
  | n + 1, ρ, b => match t ρ b with
    | some (false, b1) => some (.nx, ρ, b1)
    | some (true, b1) => match s ρ b1 with
      | some (.nx, ρ2, b2) => whGo t s n ρ2 b2
      | some (.ct, ρ2, b2) => whGo t s n ρ2 b2
      | some (.bk, ρ2, b2) => some (.nx, ρ2, b2)
      | some (.rt r, ρ2, b2) => some (.rt r, ρ2, b2)
      | none => none
    | none => none
/-- a while, of at most so many turns -/
def sWh (t : Tx) (s : SS) : SS := whGo t s 100000
/-- a def's body at its arguments: n names -/
def runF (n : Nat) (s : SS) : Fn := fun ds b => match s (ds.map Sl.frz ++ List.replicate (n - ds.length) .emp) b with
  | some (.rt d, _, b1) => some (d, b1)
  | some (.nx, _, b1) => some (.non, b1)
  | _ => none
end Sv

/-! Sv3: the judgements over plain data, expressions. -/
namespace Sv
open PySem L2

abbrev pm (X : Cx) (fn : Nat → Option V) : Pm := ⟨X.prog, X.w, X.K, fn⟩

/-! ### readings -/
def tEx (m : Pm) (f : Ex) : TE := fun σ H Q => ∃ H0 F0 bo ρ F b, Rel m H0 F0 bo σ ρ F H b ∧ ∃ d b', f ρ b = some (d, b') ∧
  ∀ v F' H', Grow bo F H F' H' → BoxOk bo F' H' b' → Rp m bo F' H' d v → Q v H'
def tEo (m : Pm) (f : Ex) : TE := fun σ H Q => ∃ H0 F0 bo ρ F b, Rel m H0 F0 bo σ ρ F H b ∧ ∃ d b', f ρ b = some (d, b') ∧
  ∀ v F' H', Grow bo F H F' H' → BoxOk bo F' H' b' → RpO m bo F' H' d v → Q v H'
def tEn (m : Pm) (f : Ex) : TE := fun σ H Q => ∃ H0 F0 bo ρ F b, Rel m H0 F0 bo σ ρ F H b ∧ ∃ d b', f ρ b = some (d, b') ∧
  ∀ a F' H', Grow bo F H F' H' → BoxOk bo F' H' b' → H a = none → ¬ F' a → Own m bo F' H' d a → Q (.ref a) H'
def tTx (m : Pm) (f : Tx) : TT := fun σ H Q => ∃ H0 F0 bo ρ F b, Rel m H0 F0 bo σ ρ F H b ∧ ∃ d b', f ρ b = some (d, b') ∧
  ∀ F' H', Grow bo F H F' H' → BoxOk bo F' H' b' → Q d H'
section
variable (m : Pm) (bo : Bo) (F : Addr → Prop) (H : Hp)
def RpOL : List D → List V → Prop
  | [], vs => vs = []
  | d :: ds, vs => ∃ v r, vs = v :: r ∧ RpO m bo F H d v ∧ RpOL ds r
end
theorem RpOL.grow {m : Pm} {bo : Bo} {F F' : Addr → Prop} {H H' : Hp} {b : Bx} (W : Wo bo F H b) (g : Grow bo F H F' H') : ∀ {ds : List D} {vs : List V}, RpOL m bo F H ds vs → RpOL m bo F' H' ds vs
  | [], vs, h => by simpa [RpOL] using h
  | d :: ds, vs, h => by
    simp only [RpOL] at h ⊢
    obtain ⟨v, r, e, h1, h2⟩ := h
    exact ⟨v, r, e, RpO.grow W g h1, RpOL.grow W g h2⟩
theorem RpL.o {m : Pm} {bo : Bo} {F : Addr → Prop} {H : Hp} : ∀ {ds : List D} {vs : List V}, RpL m bo F H ds vs → RpOL m bo F H ds vs
  | [], vs, h => by simpa [RpOL, RpL] using h
  | d :: ds, vs, h => by
    simp only [RpOL, RpL] at h ⊢
    obtain ⟨v, r, e, h1, h2⟩ := h
    exact ⟨v, r, e, .inl h1, RpL.o h2⟩
def tAs (m : Pm) (f : As) : TA := fun σ H Q => ∃ H0 F0 bo ρ F b, Rel m H0 F0 bo σ ρ F H b ∧ ∃ d b', f ρ b = some (d, b') ∧
  ∀ v F' H', Grow bo F H F' H' → BoxOk bo F' H' b' → RpL m bo F' H' d v → Q v H'
def tAo (m : Pm) (f : As) : TA := fun σ H Q => ∃ H0 F0 bo ρ F b, Rel m H0 F0 bo σ ρ F H b ∧ ∃ d b', f ρ b = some (d, b') ∧
  ∀ v F' H', Grow bo F H F' H' → BoxOk bo F' H' b' → RpOL m bo F' H' d v → Q v H'

/-! ### judgements -/
section
variable (fn : Nat → Option V) (X : Cx)
abbrev PEx (e : Expr) (f : Ex) : Prop := PE X e (tEx (pm X fn) f)
abbrev PEo (e : Expr) (f : Ex) : Prop := PE X e (tEo (pm X fn) f)
abbrev PEn (e : Expr) (f : Ex) : Prop := PE X e (tEn (pm X fn) f)
abbrev PTx (e : Expr) (f : Tx) : Prop := PT X e (tTx (pm X fn) f)
abbrev PWx (e : Expr) (f : Tx) : Prop := PW X e (tTx (pm X fn) f)
structure PAs (es : List Expr) (f : As) : Prop where
  pa : PA X es (tAs (pm X fn) f)
  len : ∀ ρ b ds b', f ρ b = some (ds, b') → ds.length = es.length
structure PAo (es : List Expr) (f : As) : Prop where
  pa : PA X es (tAo (pm X fn) f)
  len : ∀ ρ b ds b', f ρ b = some (ds, b') → ds.length = es.length
end

theorem PE.imp {X : Cx} {e : Expr} {t t' : TE} (h : PE X e t) (i : ∀ σ H Q, t' σ H Q → t σ H Q) : PE X e t' := ⟨fun pins s σ H Q I q => h.run pins s σ H Q I (i σ H Q q)⟩
theorem PT.imp {X : Cx} {e : Expr} {t t' : TT} (h : PT X e t) (i : ∀ σ H Q, t' σ H Q → t σ H Q) : PT X e t' := ⟨fun pins s σ H Q I q => h.run pins s σ H Q I (i σ H Q q)⟩
theorem PW.imp {X : Cx} {e : Expr} {t t' : TT} (h : PW X e t) (i : ∀ σ H Q, t' σ H Q → t σ H Q) : PW X e t' := ⟨fun wh pins s σ H Q I q => h.run wh pins s σ H Q I (i σ H Q q)⟩
theorem PA.imp {X : Cx} {e : List Expr} {t t' : TA} (h : PA X e t) (i : ∀ σ H Q, t' σ H Q → t σ H Q) : PA X e t' := ⟨fun p pins s σ H Q I q => h.run p pins s σ H Q I (i σ H Q q)⟩

section
variable {fn : Nat → Option V} {X : Cx} {e a c : Expr} {es rest : List Expr} {pos : Pos} {f g h : Ex} {t u : Tx}

theorem PEx.o (p : PEx fn X e f) : PEo fn X e f := PE.imp p fun σ H Q ⟨H0, F0, bo, ρ, F, b, R, d, b', e, q⟩ => ⟨H0, F0, bo, ρ, F, b, R, d, b', e, fun v F' H' g hb r => q v F' H' g hb (.inl r)⟩
theorem PAs.o {g : As} (p : PAs fn X es g) : PAo fn X es g := ⟨PA.imp p.pa fun σ H Q ⟨H0, F0, bo, ρ, F, b, R, d, b', e, q⟩ => ⟨H0, F0, bo, ρ, F, b, R, d, b', e, fun v F' H' g hb r => q v F' H' g hb r.o⟩, p.len⟩
/-- a new thing, left to stay as it is -/
theorem PEn.x (p : PEn fn X e f) : PEx fn X e f := ⟨fun pins s σ H Q I ⟨H0, F0, bo, ρ, F, b, R, d, b', e, q⟩ =>
  thn (p.run pins s σ H (fun v H' => ∃ a F', v = .ref a ∧ Grow bo F H F' H' ∧ BoxOk bo F' H' b' ∧ H a = none ∧ ¬ F' a ∧ Own (pm X fn) bo F' H' d a) I ⟨H0, F0, bo, ρ, F, b, R, d, b', e, fun a F' H' g hb ha nf ow => ⟨a, F', rfl, g, hb, ha, nf, ow⟩⟩) fun v s1 ⟨x, H1, I1, rx, a, F', ex, g, hb, ha, nf, ow⟩ => by
    subst ex
    have nb : ¬ inBox bo a := inBox_new R.wo ha
    obtain ⟨H2, I2, h1, h2, k, hb2, dm, r⟩ := lockF I1 ⟨hb, g.dom⟩ nb nf ow
    refine ⟨.ref a, H2, I2, rx, q _ (fun c => F' c ∨ c = a) H2 ⟨fun c o h n => (h1 c fun z => by rw [z, ha] at h; cases h).trans (g.keep c o h n), fun c h => g.free c (h2 c h), fun c h => .inl (g.sub c h), fun c h => h.elim (g.new c) fun e => .inr (by rw [e]; exact ha), dm⟩ hb2 r⟩⟩

theorem px_var {i : Nat} (p : PE X e (tVar i)) : PEx fn X e (eVar i) := PE.imp p fun σ H Q ⟨H0, F0, bo, ρ, F, b, R, d, b', e, q⟩ => by
  unfold eVar at e
  split at e
  · rename_i d' he
    cases e
    obtain ⟨v, h1, h2⟩ := R.frz i _ he
    exact ⟨v, h1, q v F H (Grow.refl R.core.dom) R.core.box h2⟩
  · cases e
theorem po_bor {i : Nat} (p : PE X e (tVar i)) : PEo fn X e (eBor i) := PE.imp p fun σ H Q ⟨H0, F0, bo, ρ, F, b, R, d, b', e, q⟩ => by
  unfold eBor at e
  split at e
  · rename_i d' he
    cases e
    obtain ⟨v, h1, h2⟩ := R.frz i _ he
    exact ⟨v, h1, q v F H (Grow.refl R.core.dom) R.core.box (.inl h2)⟩
  · rename_i d' he
    cases e
    obtain ⟨a, h1, h2, h3, _, h4⟩ := R.own i _ he
    exact ⟨_, h1, q _ F H (Grow.refl R.core.dom) R.core.box (.inr ⟨a, rfl, h3, h2, h4⟩)⟩
  · cases e
theorem px_con {v : V} {d : D} (p : PE X e (tC v)) (hv : ∀ bo F H, Rp (pm X fn) bo F H d v) : PEx fn X e (eCon d) := PE.imp p fun σ H Q ⟨H0, F0, bo, ρ, F, b, R, d', b', e, q⟩ => by
  cases e
  exact q v F H (Grow.refl R.core.dom) R.core.box (hv _ _ _)
theorem px_int {i j pos} : PEx fn X (.Constant (.int i) j pos) (eCon (.int i)) := px_con pe_int fun _ _ _ => by simp [Rp]
theorem px_bl {i j pos} : PEx fn X (.Constant (.bool i) j pos) (eCon (.bl i)) := px_con pe_bl fun _ _ _ => by simp [Rp]
theorem px_non {j pos} : PEx fn X (.Constant .none j pos) (eCon .non) := px_con pe_non fun _ _ _ => by simp [Rp]
theorem px_str {i j pos} : PEx fn X (.Constant (.str i) j pos) (eCon (.str i)) := px_con pe_str fun _ _ _ => by simp [Rp]

/-- an operation on two operands -/
def rD2 (m : Pm) (g : D → D → Option D) : R2 := fun x y H Q => ∃ bo F b, Wo bo F H b ∧ ∃ d e r, RpO m bo F H d x ∧ RpO m bo F H e y ∧ g d e = some r ∧
  ∀ v F' H', Grow bo F H F' H' → BoxOk bo F' H' b → Rp m bo F' H' r v → Q v H'
theorem two_o {m : Pm} {σ : St} {H : Hp} {Q : VK} {g : D → D → Option D} {f f' : Ex} (h : tEx m (eBin g f f') σ H Q) : tOp (rD2 m g) (tEo m f) (tEo m f') σ H Q := by
  obtain ⟨H0, F0, bo, ρ, F, b, R, r, b', e, q⟩ := h
  unfold eBin at e
  split at e
  · rename_i d b1 e1
    split at e
    · rename_i d2 b2 e2
      split at e
      · rename_i r' e3
        cases e
        refine ⟨H0, F0, bo, ρ, F, b, R, d, b1, e1, fun v1 F1 H1 g1 hb1 r1 => ?_⟩
        have R1 := R.grow g1 hb1
        refine ⟨H0, F0, bo, ρ, F1, b1, R1, d2, _, e2, fun v2 F2 H2 g2 hb2 r2 => ?_⟩
        exact ⟨bo, F2, _, ⟨hb2, g2.dom⟩, d, d2, r, RpO.grow R1.wo g2 r1, r2, e3, fun v F' H' g3 hb3 r3 => q v F' H' ((g1.trans g2).trans g3) hb3 r3⟩
      · cases e
    · cases e
  · cases e
theorem px_bin {op : Operator} {g' : D → D → Option D} (ho : OpR X (binaryOp op) (rD2 (pm X fn) g')) (ha : PEo fn X a f) (hb : PEo fn X c g) : PEx fn X (.BinOp a op c pos) (eBin g' f g) :=
  PE.imp (pe_op ho ha hb) fun _ _ _ h => two_o h
theorem px_cmp {op : CmpOp} {g' : D → D → Option D} (ho : OpR X (compareOp op) (rD2 (pm X fn) g')) (ha : PEo fn X a f) (hb : PEo fn X c g) (hm : behindInMarks op c = false) : PEx fn X (.Compare a [op] [c] pos) (eBin g' f g) :=
  PE.imp (pe_cmpR ho ha hb hm) fun _ _ _ h => two_o h
theorem two_t {m : Pm} {σ : St} {H : Hp} {Q : Bool → Hp → Prop} {g : D → D → Option D} {f f' : Ex} (h : tTx m (tBl (eBin g f f')) σ H Q) : tTest (tOp (rD2 m g) (tEo m f) (tEo m f')) σ H Q := by
  obtain ⟨H0, F0, bo, ρ, F, b, R, r, b', e, q⟩ := h
  unfold tBl at e
  split at e
  · rename_i k b1 e1
    cases e
    refine two_o ⟨H0, F0, bo, ρ, F, b, R, .bl r, b', e1, fun v F' H' g hb rv => ?_⟩
    simp only [Rp] at rv
    exact ⟨r, rv, q F' H' g hb⟩
  · cases e
theorem pt_cmp' {op : CmpOp} {g' : D → D → Option D} (ho : OpR X (compareOp op) (rD2 (pm X fn) g')) (ha : PEo fn X a f) (hb : PEo fn X c g) (hm : behindInMarks op c = false) : PTx fn X (.Compare a [op] [c] pos) (tBl (eBin g' f g)) :=
  PT.imp (pt_cmpR ho ha hb hm) fun _ _ _ h => two_t h
theorem chain_o {m : Pm} {σ : St} {H : Hp} {Q : VK} {g g' : D → D → Option D} {f f' f'' : Ex} (h : tEx m (eChain g g' f f' f'') σ H Q) : tChain (rD2 m g) (rD2 m g') (tEo m f) (tEo m f') (tEo m f'') σ H Q := by
  obtain ⟨H0, F0, bo, ρ, F, b, R, r, b', e, q⟩ := h
  unfold eChain at e
  split at e
  · rename_i d b1 e1
    split at e
    · rename_i d2 b2 e2
      refine ⟨H0, F0, bo, ρ, F, b, R, d, b1, e1, fun v1 F1 H1 g1 hb1 r1 => ?_⟩
      have R1 := R.grow g1 hb1
      refine ⟨H0, F0, bo, ρ, F1, b1, R1, d2, b2, e2, fun v2 F2 H2 g2 hb2 r2 => ?_⟩
      have R2 := R1.grow g2 hb2
      split at e
      · rename_i e3
        split at e
        · rename_i d3 b3 e4
          split at e
          · rename_i r' e5
            cases e
            refine ⟨bo, F2, b2, R2.wo, d, d2, _, RpO.grow R1.wo g2 r1, r2, e3, fun v F3 H3 g3 hb3 r3 => ?_⟩
            simp only [Rp] at r3
            refine ⟨true, r3, ?_⟩
            refine iteT ?_
            have R3 := R2.grow g3 hb3
            refine ⟨H0, F0, bo, ρ, F3, b2, R3, d3, _, e4, fun v4 F4 H4 g4 hb4 r4 => ?_⟩
            exact ⟨bo, F4, _, ⟨hb4, g4.dom⟩, d2, d3, _, RpO.grow R3.wo g4 (RpO.grow R2.wo g3 r2), r4, e5, fun v5 F5 H5 g5 hb5 r5 => q v5 F5 H5 ((((g1.trans g2).trans g3).trans g4).trans g5) hb5 r5⟩
          · cases e
        · cases e
      · rename_i e3
        cases e
        refine ⟨bo, F2, _, R2.wo, d, d2, _, RpO.grow R1.wo g2 r1, r2, e3, fun v F3 H3 g3 hb3 r3 => ?_⟩
        simp only [Rp] at r3
        refine ⟨false, r3, ?_⟩
        refine iteF ?_
        exact q _ F3 H3 ((g1.trans g2).trans g3) hb3 (by simp [Rp])
      · cases e
    · cases e
  · cases e
theorem px_chain {op op' : CmpOp} {k k' : D → D → Option D} {c' : Expr} (ho : OpR X (compareOp op) (rD2 (pm X fn) k)) (ho' : OpR X (compareOp op') (rD2 (pm X fn) k')) (ha : PEo fn X a f) (hb : PEo fn X c g) (hc : PEo fn X c' h)
    (hm : lastMarks [op, op'] [c, c'] = false := by with_unfolding_all rfl) : PEx fn X (.Compare a [op, op'] [c, c'] pos) (eChain k k' f g h) := PE.imp (pe_chain ho ho' ha hb hc hm) fun _ _ _ h => chain_o h
theorem pt_chain' {op op' : CmpOp} {k k' : D → D → Option D} {c' : Expr} (ho : OpR X (compareOp op) (rD2 (pm X fn) k)) (ho' : OpR X (compareOp op') (rD2 (pm X fn) k')) (ha : PEo fn X a f) (hb : PEo fn X c g) (hc : PEo fn X c' h)
    (hm : lastMarks [op, op'] [c, c'] = false := by with_unfolding_all rfl) : PTx fn X (.Compare a [op, op'] [c, c'] pos) (tBl (eChain k k' f g h)) := PT.imp (pt_chain ho ho' ha hb hc hm) fun σ H Q h' => by
  obtain ⟨H0, F0, bo, ρ, F, b, R, r, b', e, q⟩ := h'
  unfold tBl at e
  split at e
  · rename_i k b1 e1
    cases e
    refine chain_o ⟨H0, F0, bo, ρ, F, b, R, .bl r, b', e1, fun v F' H' g hb rv => ?_⟩
    simp only [Rp] at rv
    exact ⟨r, rv, q F' H' g hb⟩
  · cases e
/-- .. on one -/
def rD1 (m : Pm) (g : D → Option D) : V → Hp → VK → Prop := fun x H Q => ∃ bo F b, Wo bo F H b ∧ ∃ d r, RpO m bo F H d x ∧ g d = some r ∧
  ∀ v F' H', Grow bo F H F' H' → BoxOk bo F' H' b → Rp m bo F' H' r v → Q v H'
theorem one_o {m : Pm} {σ : St} {H : Hp} {Q : VK} {g : D → Option D} {f : Ex} (h : tEx m (eUn g f) σ H Q) : tEo m f σ H (fun x H1 => rD1 m g x H1 Q) := by
  obtain ⟨H0, F0, bo, ρ, F, b, R, r, b', e, q⟩ := h
  unfold eUn at e
  split at e
  · rename_i d b1 e1
    split at e
    · rename_i r' e3
      cases e
      refine ⟨H0, F0, bo, ρ, F, b, R, d, _, e1, fun v1 F1 H1 g1 hb1 r1 => ?_⟩
      have R1 := R.grow g1 hb1
      exact ⟨bo, F1, _, R1.wo, d, r, r1, e3, fun v F' H' g3 hb3 r3 => q v F' H' (g1.trans g3) hb3 r3⟩
    · cases e
  · cases e
theorem px_un {op : UnaryOp} {g' : D → Option D} (ho : UnR X (unaryOp op) (rD1 (pm X fn) g')) (ha : PEo fn X a f) : PEx fn X (.UnaryOp op a pos) (eUn g' f) :=
  PE.imp (pe_un ho ha) fun _ _ _ h => one_o h

/-! ### argument lists -/
theorem ps_nil' : PAs fn X [] aNil := by
  refine ⟨PA.imp pa_nil fun σ H Q ⟨H0, F0, bo, ρ, F, b, R, d, b', e, q⟩ => ?_, fun _ _ _ _ e => by cases e; rfl⟩
  cases e
  exact q [] F H (Grow.refl R.core.dom) R.core.box RpL.nil
theorem aCons_len {g : As} {n : Nat} (hl : ∀ ρ b ds b', g ρ b = some (ds, b') → ds.length = n) : ∀ ρ b ds b', aCons f g ρ b = some (ds, b') → ds.length = n + 1 := fun ρ b ds b' e => by
  unfold aCons at e
  split at e
  · split at e
    · rename_i e2
      cases e
      simp [hl _ _ _ _ e2]
    · cases e
  · cases e
theorem ps_cons' {g : As} (ha : PEx fn X a f) (hr : PAs fn X es g) (hs : starEach (a :: es) X.env = (false, eval a X.env) :: starEach es X.env := by rfl) : PAs fn X (a :: es) (aCons f g) := by
  refine ⟨PA.imp (pa_cons ha hr.pa hs) fun σ H Q ⟨H0, F0, bo, ρ, F, b, R, r, b', e, q⟩ => ?_, aCons_len hr.len⟩
  unfold aCons at e
  split at e
  · rename_i d b1 e1
    split at e
    · rename_i d2 b2 e2
      cases e
      refine ⟨H0, F0, bo, ρ, F, b, R, d, b1, e1, fun v1 F1 H1 g1 hb1 r1 => ?_⟩
      have R1 := R.grow g1 hb1
      exact ⟨H0, F0, bo, ρ, F1, b1, R1, d2, _, e2, fun v2 F2 H2 g2 hb2 r2 => q _ F2 H2 (g1.trans g2) hb2 (RpL.cons (r1.fk (R1.fkg g2)) r2)⟩
    · cases e
  · cases e
theorem pao_nil : PAo fn X [] aNil := ps_nil'.o
theorem pao_cons {g : As} (ha : PEo fn X a f) (hr : PAo fn X es g) (hs : starEach (a :: es) X.env = (false, eval a X.env) :: starEach es X.env := by rfl) : PAo fn X (a :: es) (aCons f g) := by
  refine ⟨PA.imp (pa_cons ha hr.pa hs) fun σ H Q ⟨H0, F0, bo, ρ, F, b, R, r, b', e, q⟩ => ?_, aCons_len hr.len⟩
  unfold aCons at e
  split at e
  · rename_i d b1 e1
    split at e
    · rename_i d2 b2 e2
      cases e
      refine ⟨H0, F0, bo, ρ, F, b, R, d, b1, e1, fun v1 F1 H1 g1 hb1 r1 => ?_⟩
      have R1 := R.grow g1 hb1
      exact ⟨H0, F0, bo, ρ, F1, b1, R1, d2, _, e2, fun v2 F2 H2 g2 hb2 r2 => q _ F2 H2 (g1.trans g2) hb2 ⟨_, _, rfl, RpO.grow R1.wo g2 r1, r2⟩⟩
    · cases e
  · cases e

/-! ### displays -/
theorem px_tup {g : As} {k : Nat} (p : PAs fn X es g) (hl : es.length ≤ 1000 := by decide) : PEx fn X (.Tuple es k pos) (eTup g) := PE.imp (pe_tup p.pa) fun σ H Q ⟨H0, F0, bo, ρ, F, b, R, r, b', e, q⟩ => by
  unfold eTup eFn at e
  split at e
  · rename_i ds b1 e1
    cases e
    refine ⟨H0, F0, bo, ρ, F, b, R, ds, _, e1, fun v1 F1 H1 g1 hb1 r1 => ?_⟩
    have z1 : v1.length ≤ sizeLine := by rw [r1.length, p.len _ _ _ _ e1, sizeLine_eq]; omega
    refine ⟨z1, fun x hx => ?_⟩
    · have R1 := R.grow g1 hb1
      obtain ⟨g2, hb2, r2⟩ := new_tup R1.wo hx r1 z1
      exact q _ _ _ (g1.trans g2) hb2 r2
  · cases e
theorem pn_lst {g : As} (p : PAs fn X es g) (hl : es.length ≤ 1000 := by decide) : PEn fn X (.List es pos) (eLst g) := PE.imp (pe_lst p.pa) fun σ H Q ⟨H0, F0, bo, ρ, F, b, R, r, b', e, q⟩ => by
  unfold eLst eFn at e
  split at e
  · rename_i ds b1 e1
    cases e
    refine ⟨H0, F0, bo, ρ, F, b, R, ds, _, e1, fun v1 F1 H1 g1 hb1 r1 => ?_⟩
    have z1 : v1.length ≤ sizeLine := by rw [r1.length, p.len _ _ _ _ e1, sizeLine_eq]; omega
    refine ⟨z1, fun x hx => ?_⟩
    · have R1 := R.grow g1 hb1
      obtain ⟨g2, hb2, nf, r2⟩ := new_own R1.wo hx r1 z1
      exact q _ _ _ (g1.trans g2) hb2 (g1.free x hx) nf r2
  · cases e

/-! ### tests -/
theorem truD {m : Pm} {bo : Bo} {F : Addr → Prop} {H : Hp} {d : D} {v : V} {k : Bool} (r : RpO m bo F H d v) (e : truthD d = some k) : TruV m.K v H k := by
  have len0 : ∀ {ds : List D} {vs : List V}, vs.length = ds.length → (!vs.isEmpty) = !ds.isEmpty := fun {ds vs} h => by
    cases ds <;> cases vs <;> simp_all
  rcases r with r | ⟨a, rfl, nb, nf, ow⟩
  · cases d with
    | non => simp only [Rp, truthD] at r e; subst r; cases e; rfl
    | bl b => simp only [Rp, truthD] at r e; subst r; cases e; rfl
    | int i => simp only [Rp, truthD] at r e; subst r; cases e; rfl
    | str z =>
      simp only [Rp, truthD] at r e; subst r
      split at e
      · rename_i hz
        cases e
        refine ⟨hz, ?_⟩
        rw [Bool.eq_iff_iff]
        simp
      · cases e
    | tup ds =>
      simp only [Rp, truthD] at r e
      obtain ⟨a, vs, rfl, s, z, r⟩ := r
      cases e
      exact .inr (.inl ⟨vs, s, (len0 r.length).symm⟩)
    | lst ds =>
      simp only [Rp, truthD] at r e
      obtain ⟨a, vs, rfl, f, s, z, r⟩ := r
      cases e
      exact .inl ⟨vs, SqL.of s, (len0 r.length).symm⟩
    | _ => simp [truthD] at e
  · cases d with
    | lst ds =>
      simp only [truthD] at e
      obtain ⟨vs, s, z, r⟩ := ow
      cases e
      exact .inl ⟨vs, SqL.of s, (len0 r.length).symm⟩
    | dct _ => simp [truthD] at e
    | _ => exact (show False from ow).elim
theorem pt_of (p : PEo fn X e f) (he : ∀ whole, isTrue e X.env whole = (do let v ← whole; standAt e.pos; holding [v] (truthy v)) := by intro _; rfl) : PTx fn X e (tOf f) :=
  PT.imp (pt_truth p he) fun σ H Q ⟨H0, F0, bo, ρ, F, b, R, r, b', e, q⟩ => by
    unfold tOf at e
    split at e
    · rename_i d b1 e1
      split at e
      · rename_i k e2
        cases e
        exact ⟨H0, F0, bo, ρ, F, b, R, d, _, e1, fun v F' H' g hb rv => ⟨r, truD rv e2, q F' H' g hb⟩⟩
      · cases e
    · cases e
theorem pt_not' (p : PTx fn X a t) : PTx fn X (.UnaryOp .Not a pos) (tNot t) := PT.imp (pt_not p) fun σ H Q ⟨H0, F0, bo, ρ, F, b, R, r, b', e, q⟩ => by
  unfold tNot at e
  split at e
  · rename_i k b1 e1
    cases e
    exact ⟨H0, F0, bo, ρ, F, b, R, k, _, e1, fun F' H' g hb => q F' H' g hb⟩
  · cases e
theorem pw_one_and (p : PTx fn X a t) : PWx fn X (.BoolOp .And [a] pos) t := pw_and1 p
theorem pw_one_or (p : PTx fn X a t) : PWx fn X (.BoolOp .Or [a] pos) t := pw_or1 p
theorem pw_and' (p : PTx fn X a t) (p' : PWx fn X (.BoolOp .And (c :: rest) pos) u) : PWx fn X (.BoolOp .And (a :: c :: rest) pos) (tAnd t u) := PW.imp (pw_and p p') fun σ H Q ⟨H0, F0, bo, ρ, F, b, R, r, b', e, q⟩ => by
  unfold tAnd at e
  split at e
  · rename_i b1 e1
    refine ⟨H0, F0, bo, ρ, F, b, R, true, b1, e1, fun F' H' g hb => ?_⟩
    refine iteT ?_
    exact ⟨H0, F0, bo, ρ, F', b1, R.grow g hb, r, b', e, fun F2 H2 g2 hb2 => q F2 H2 (g.trans g2) hb2⟩
  · rename_i b1 e1
    cases e
    refine ⟨H0, F0, bo, ρ, F, b, R, false, _, e1, fun F' H' g hb => ?_⟩
    refine iteF ?_
    exact q F' H' g hb
  · cases e
theorem pw_or' (p : PTx fn X a t) (p' : PWx fn X (.BoolOp .Or (c :: rest) pos) u) : PWx fn X (.BoolOp .Or (a :: c :: rest) pos) (tOr t u) := PW.imp (pw_or p p') fun σ H Q ⟨H0, F0, bo, ρ, F, b, R, r, b', e, q⟩ => by
  unfold tOr at e
  split at e
  · rename_i b1 e1
    cases e
    refine ⟨H0, F0, bo, ρ, F, b, R, true, _, e1, fun F' H' g hb => ?_⟩
    refine iteT ?_
    exact q F' H' g hb
  · rename_i b1 e1
    refine ⟨H0, F0, bo, ρ, F, b, R, false, b1, e1, fun F' H' g hb => ?_⟩
    refine iteF ?_
    exact ⟨H0, F0, bo, ρ, F', b1, R.grow g hb, r, b', e, fun F2 H2 g2 hb2 => q F2 H2 (g.trans g2) hb2⟩
  · cases e
theorem px_if {t : Tx} {c : Expr} (pc : PTx fn X c t) (pa : PEx fn X a f) (pb : PEx fn X e g) : PEx fn X (.IfExp c a e pos) (eIf t f g) := PE.imp (pe_ifExp pc pa pb) fun σ H Q ⟨H0, F0, bo, ρ, F, b, R, r, b', e, q⟩ => by
  unfold eIf at e
  split at e
  · rename_i b1 e1
    refine ⟨H0, F0, bo, ρ, F, b, R, true, b1, e1, fun F' H' g hb => ?_⟩
    refine iteT ?_
    exact ⟨H0, F0, bo, ρ, F', b1, R.grow g hb, r, b', e, fun v F2 H2 g2 hb2 rv => q v F2 H2 (g.trans g2) hb2 rv⟩
  · rename_i b1 e1
    refine ⟨H0, F0, bo, ρ, F, b, R, false, b1, e1, fun F' H' g hb => ?_⟩
    refine iteF ?_
    exact ⟨H0, F0, bo, ρ, F', b1, R.grow g hb, r, b', e, fun v F2 H2 g2 hb2 rv => q v F2 H2 (g.trans g2) hb2 rv⟩
  · cases e
theorem px_one {op : BoolOp} (p : PEx fn X a f) : PEx fn X (.BoolOp op [a] pos) f := pe_one p
theorem px_and (pa : PEx fn X a f) (pb : PEx fn X (.BoolOp .And (c :: rest) pos) g) : PEx fn X (.BoolOp .And (a :: c :: rest) pos) (eAnd f g) := PE.imp (pe_andT pa pb) fun σ H Q ⟨H0, F0, bo, ρ, F, b, R, r, b', e, q⟩ => by
  unfold eAnd at e
  split at e
  · rename_i d b1 e1
    split at e
    · rename_i e2
      refine ⟨H0, F0, bo, ρ, F, b, R, d, b1, e1, fun v F' H' g hb rv => ⟨true, truD (.inl rv) e2, ?_⟩⟩
      refine iteT ?_
      exact ⟨H0, F0, bo, ρ, F', b1, R.grow g hb, r, b', e, fun v F2 H2 g2 hb2 rv => q v F2 H2 (g.trans g2) hb2 rv⟩
    · rename_i e2
      cases e
      refine ⟨H0, F0, bo, ρ, F, b, R, _, _, e1, fun v F' H' g hb rv => ⟨false, truD (.inl rv) e2, ?_⟩⟩
      refine iteF ?_
      exact q v F' H' g hb rv
    · cases e
  · cases e
theorem px_or (pa : PEx fn X a f) (pb : PEx fn X (.BoolOp .Or (c :: rest) pos) g) : PEx fn X (.BoolOp .Or (a :: c :: rest) pos) (eOr f g) := PE.imp (pe_orT pa pb) fun σ H Q ⟨H0, F0, bo, ρ, F, b, R, r, b', e, q⟩ => by
  unfold eOr at e
  split at e
  · rename_i d b1 e1
    split at e
    · rename_i e2
      cases e
      refine ⟨H0, F0, bo, ρ, F, b, R, _, _, e1, fun v F' H' g hb rv => ⟨true, truD (.inl rv) e2, ?_⟩⟩
      refine iteT ?_
      exact q v F' H' g hb rv
    · rename_i e2
      refine ⟨H0, F0, bo, ρ, F, b, R, d, b1, e1, fun v F' H' g hb rv => ⟨false, truD (.inl rv) e2, ?_⟩⟩
      refine iteF ?_
      exact ⟨H0, F0, bo, ρ, F', b1, R.grow g hb, r, b', e, fun v F2 H2 g2 hb2 rv => q v F2 H2 (g.trans g2) hb2 rv⟩
    · cases e
  · cases e
theorem px_not (p : PEo fn X a f) : PEx fn X (.UnaryOp .Not a pos) (eNot f) := PE.imp (pe_notT p) fun σ H Q h => by
  have h' : tEx (pm X fn) (eUn (fun d => (truthD d).map fun k => .bl (!k)) f) σ H Q := h
  obtain ⟨H0, F0, bo, ρ, F, b, R, d, b1, e1, k⟩ := one_o h'
  refine ⟨H0, F0, bo, ρ, F, b, R, d, b1, e1, fun v F' H' g hb rv => ?_⟩
  obtain ⟨bo', F2, b2, W, d', r, rd, er, q⟩ := k v F' H' g hb rv
  have er' : Option.map (fun k => D.bl !k) (truthD d') = some r := er
  cases ek : truthD d' with
  | none => rw [ek] at er'; cases er'
  | some k =>
    rw [ek] at er'; cases er'
    exact ⟨k, truD rd ek, q _ F2 H' (Grow.refl W.dom) W.box (by simp [Rp])⟩

/-! ### built-in functions -/
def rDn (m : Pm) (g : List D → Option D) : List V → Hp → VK → Prop := fun xs H Q => ∃ bo F b, Wo bo F H b ∧ ∃ ds r, RpOL m bo F H ds xs ∧ g ds = some r ∧
  ∀ v F' H', Grow bo F H F' H' → BoxOk bo F' H' b → Rp m bo F' H' r v → Q v H'
def rDnN (m : Pm) (g : List D → Option D) : List V → Hp → VK → Prop := fun xs H Q => ∃ bo F b, Wo bo F H b ∧ ∃ ds r, RpOL m bo F H ds xs ∧ g ds = some r ∧
  ∀ a F' H', Grow bo F H F' H' → BoxOk bo F' H' b → H a = none → ¬ F' a → Own m bo F' H' r a → Q (.ref a) H'
theorem fn_o {m : Pm} {σ : St} {H : Hp} {Q : VK} {g : List D → Option D} {f : As} (h : tEx m (eFn g f) σ H Q) : tAo m f σ H (fun xs H1 => rDn m g xs H1 Q) := by
  obtain ⟨H0, F0, bo, ρ, F, b, R, r, b', e, q⟩ := h
  unfold eFn at e
  split at e
  · rename_i d b1 e1
    split at e
    · rename_i r' e3
      cases e
      refine ⟨H0, F0, bo, ρ, F, b, R, d, _, e1, fun v1 F1 H1 g1 hb1 r1 => ?_⟩
      have R1 := R.grow g1 hb1
      exact ⟨bo, F1, _, R1.wo, d, r, r1, e3, fun v F' H' g3 hb3 r3 => q v F' H' (g1.trans g3) hb3 r3⟩
    · cases e
  · cases e
theorem fn_n {m : Pm} {σ : St} {H : Hp} {Q : VK} {g : List D → Option D} {f : As} (h : tEn m (eFn g f) σ H Q) : tAo m f σ H (fun xs H1 => rDnN m g xs H1 Q) := by
  obtain ⟨H0, F0, bo, ρ, F, b, R, r, b', e, q⟩ := h
  unfold eFn at e
  split at e
  · rename_i d b1 e1
    split at e
    · rename_i r' e3
      cases e
      refine ⟨H0, F0, bo, ρ, F, b, R, d, _, e1, fun v1 F1 H1 g1 hb1 r1 => ?_⟩
      have R1 := R.grow g1 hb1
      exact ⟨bo, F1, _, R1.wo, d, r, r1, e3, fun v F' H' g3 hb3 hn nf r3 => q v F' H' (g1.trans g3) hb3 (g1.free _ hn) nf r3⟩
    · cases e
  · cases e
variable {x : Str} {p : Pos} {id T : String} {ag : As} {gd : List D → Option D}
theorem px_fn (hc : CallR X (.builtin id) (rDn (pm X fn) gd)) (hg : Gl X x) (hm : X.mg x = none) (hv : bootBuiltins x = some (.builtin id)) (ha : PAo fn X (e :: es) ag) (hn : x ≠ "__name__" := by decide) (hdb : (x == ("__debug__" : Str)) = false := by decide)
    (he : starEach (e :: es) X.env = (false, eval e X.env) :: starEach es X.env := by rfl) (hpl : (backTo pos (starEach es X.env)).any (·.1) = false := by rfl) : PEx fn X (.Call (.Name x p) (e :: es) [] pos) (eFn gd ag) :=
  PE.imp (pe_callB hc hg hm hv ha.pa hn hdb he hpl) fun _ _ _ h => fn_o h
theorem pn_fn (hc : CallR X (.builtin id) (rDnN (pm X fn) gd)) (hg : Gl X x) (hm : X.mg x = none) (hv : bootBuiltins x = some (.builtin id)) (ha : PAo fn X (e :: es) ag) (hn : x ≠ "__name__" := by decide) (hdb : (x == ("__debug__" : Str)) = false := by decide)
    (he : starEach (e :: es) X.env = (false, eval e X.env) :: starEach es X.env := by rfl) (hpl : (backTo pos (starEach es X.env)).any (·.1) = false := by rfl) : PEn fn X (.Call (.Name x p) (e :: es) [] pos) (eFn gd ag) :=
  PE.imp (pe_callB hc hg hm hv ha.pa hn hdb he hpl) fun _ _ _ h => fn_n h
theorem px_ty (hc : CallR X (.type T) (rDn (pm X fn) gd)) (hg : Gl X x) (hm : X.mg x = none) (hv : bootBuiltins x = some (.type T)) (ha : PAo fn X (e :: es) ag) (hn : x ≠ "__name__" := by decide) (hdb : (x == ("__debug__" : Str)) = false := by decide)
    (he : starEach (e :: es) X.env = (false, eval e X.env) :: starEach es X.env := by rfl) (hpl : (backTo pos (starEach es X.env)).any (·.1) = false := by rfl) : PEx fn X (.Call (.Name x p) (e :: es) [] pos) (eFn gd ag) :=
  PE.imp (pe_callTy hc hg hm hv ha.pa hn hdb he hpl) fun _ _ _ h => fn_o h
theorem pn_ty (hc : CallR X (.type T) (rDnN (pm X fn) gd)) (hg : Gl X x) (hm : X.mg x = none) (hv : bootBuiltins x = some (.type T)) (ha : PAo fn X (e :: es) ag) (hn : x ≠ "__name__" := by decide) (hdb : (x == ("__debug__" : Str)) = false := by decide)
    (he : starEach (e :: es) X.env = (false, eval e X.env) :: starEach es X.env := by rfl) (hpl : (backTo pos (starEach es X.env)).any (·.1) = false := by rfl) : PEn fn X (.Call (.Name x p) (e :: es) [] pos) (eFn gd ag) :=
  PE.imp (pe_callTy hc hg hm hv ha.pa hn hdb he hpl) fun _ _ _ h => fn_n h

/-! ### slices, subscripts -/
def rSl (m : Pm) : V → Option Int → Option Int → Hp → VK → Prop := fun x lo hi H Q => ∃ bo F b, Wo bo F H b ∧ ∃ d r, RpO m bo F H d x ∧ sliceD d lo hi = some r ∧
  ∀ v F' H', Grow bo F H F' H' → BoxOk bo F' H' b → Rp m bo F' H' r v → Q v H'
/-- a part of a slice -/
abbrev tOpt (m : Pm) (o : Option Ex) : St → Hp → (Option Int → Hp → Prop) → Prop := fun σ H Q => ∃ H0 F0 bo ρ F b, Rel m H0 F0 bo σ ρ F H b ∧ ∃ d b', eOpt o ρ b = some (d, b') ∧
  ∀ F' H', Grow bo F H F' H' → BoxOk bo F' H' b' → Q d H'
def POx (fn : Nat → Option V) (X : Cx) (lo : Option Expr) (o : Option Ex) : Prop := ∃ t, PO X lo t ∧ ∀ σ H Q, tOpt (pm X fn) o σ H Q → t σ H Q
theorem pox_none : POx fn X none none := ⟨_, po_none, fun σ H Q ⟨H0, F0, bo, ρ, F, b, R, d, b', e, q⟩ => by
  cases e
  exact q F H (Grow.refl R.core.dom) R.core.box⟩
theorem pox_some (pa : PEx fn X a f) : POx fn X (some a) (some f) := ⟨_, po_some pa, fun σ H Q ⟨H0, F0, bo, ρ, F, b, R, d, b', e, q⟩ => by
  have e : (match f ρ b with | some (.int i, b1) => some (some i, b1) | _ => none) = some (d, b') := e
  split at e
  · rename_i i b1 e1
    cases e
    refine ⟨H0, F0, bo, ρ, F, b, R, .int i, _, e1, fun v F' H' g hb rv => ?_⟩
    simp only [Rp] at rv
    exact ⟨i, rv, q F' H' g hb⟩
  · cases e⟩
theorem px_slice {lo hi : Option Expr} {l u : Option Ex} {p2 : Pos} (hr : SlR X (rSl (pm X fn))) (pa : PEo fn X a f) (pl : POx fn X lo l) (pu : POx fn X hi u) : PEx fn X (.Subscript a (.Slice lo hi none p2) pos) (eSlice f l u) := by
  obtain ⟨tl, ql, il⟩ := pl
  obtain ⟨tu, qu, iu⟩ := pu
  refine PE.imp (pe_slice hr pa ql qu) fun σ H Q ⟨H0, F0, bo, ρ, F, b, R, r, b', e, q⟩ => ?_
  unfold eSlice at e
  split at e
  · rename_i d b1 e1
    split at e
    · rename_i l' b2 e2
      split at e
      · rename_i u' b3 e3
        split at e
        · rename_i r' e4
          cases e
          refine ⟨H0, F0, bo, ρ, F, b, R, d, b1, e1, fun v1 F1 H1 g1 hb1 r1 => ?_⟩
          have R1 := R.grow g1 hb1
          refine il _ _ _ ⟨H0, F0, bo, ρ, F1, b1, R1, l', b2, e2, fun F2 H2 g2 hb2 => ?_⟩
          have R2 := R1.grow g2 hb2
          refine iu _ _ _ ⟨H0, F0, bo, ρ, F2, b2, R2, u', _, e3, fun F3 H3 g3 hb3 => ?_⟩
          have R3 := R2.grow g3 hb3
          exact ⟨bo, F3, _, R3.wo, d, r, RpO.grow R2.wo g3 (RpO.grow R1.wo g2 r1), e4, fun v F4 H4 g4 hb4 rv => q v F4 H4 (((g1.trans g2).trans g3).trans g4) hb4 rv⟩
        · cases e
      · cases e
    · cases e
  · cases e
theorem px_ix (hr : IxR X (rD2 (pm X fn) ixD)) (pa : PEo fn X a f) (pc : PEx fn X c g) (hs : PlainIx c := by intro _ _; rfl) : PEx fn X (.Subscript a c pos) (eBin ixD f g) :=
  PE.imp (pe_ix hr pa (PEx.o pc) hs) fun _ _ _ h => two_o h
end
end Sv

set_option maxHeartbeats 4000000
/-! SvD: dicts: what the library does, and the data. -/
namespace Sv
open PySem L2
open PyProof.Rows (IsTup)

section
variable {m : Pm} {bo : Bo} {F : Addr → Prop} {H : Hp}
theorem keyD_inj {a b : Key} (h : keyD a = keyD b) : a = b := by
  cases a <;> cases b <;> simp_all [keyD]
theorem keyS_of {k : D} (h : keyS k = true) : ∃ k', k = keyD k' := by
  cases k with
  | int i => exact ⟨.inl i, rfl⟩
  | str x => exact ⟨.inr x, rfl⟩
  | _ => cases h
/-! ### rows with plain keys -/
theorem RpA.noT : ∀ {kvs : List (D × D)} {ws : List (Key × V)}, RpA m bo F H kvs ws → isT0 kvs = false
  | [], _, _ => rfl
  | (k, d) :: ds, ws, h => by
    simp only [RpA] at h
    obtain ⟨k', v, r, _, ek, _⟩ := h
    have : ¬ ((k, d) = t0) := fun z => by
      have := congrArg Prod.fst z
      rw [ek] at this
      cases k' <;> cases this
    exact decide_eq_false this
theorem RpA.lk : ∀ {kvs : List (D × D)} {ws : List (Key × V)}, RpA m bo F H kvs ws → ∀ k : Key, (lkD kvs (keyD k) = none ∧ valV ws k = none) ∨ ∃ d v, lkD kvs (keyD k) = some d ∧ valV ws k = some v ∧ Rp m bo F H d v
  | [], ws, h, k => by
    simp only [RpA] at h; subst h
    exact .inl ⟨rfl, rfl⟩
  | (x, d) :: ds, ws, h, k => by
    simp only [RpA] at h
    obtain ⟨k', v, r, rfl, rfl, h1, h2⟩ := h
    by_cases e : k' = k
    · subst e
      refine .inr ⟨d, v, ?_, valV_pos rfl, h1⟩
      simp [lkD, List.find?_cons]
    · have e2 : ¬ keyD k' = keyD k := fun z => e (keyD_inj z)
      have l1 : lkD ((keyD k', d) :: ds) (keyD k) = lkD ds (keyD k) := by simp [lkD, List.find?_cons, e2]
      rw [l1, valV_neg e]
      exact RpA.lk h2 k
theorem RpA.len : ∀ {kvs : List (D × D)} {ws : List (Key × V)}, RpA m bo F H kvs ws → ws.length = kvs.length
  | [], ws, h => by simp only [RpA] at h; subst h; rfl
  | (x, d) :: ds, ws, h => by
    simp only [RpA] at h
    obtain ⟨k', v, r, rfl, rfl, h1, h2⟩ := h
    simp [RpA.len h2]
theorem RpA.app : ∀ {kvs : List (D × D)} {ws : List (Key × V)} {k : Key} {d : D} {v : V}, RpA m bo F H kvs ws → Rp m bo F H d v → RpA m bo F H (kvs ++ [(keyD k, d)]) (ws ++ [(k, v)])
  | [], ws, k, d, v, h, hd => by
    simp only [RpA] at h; subst h
    simp only [List.nil_append, RpA]
    exact ⟨k, v, [], rfl, rfl, hd, rfl⟩
  | (x, e) :: ds, ws, k, d, v, h, hd => by
    simp only [RpA] at h
    obtain ⟨k', v', r, rfl, rfl, h1, h2⟩ := h
    simp only [List.cons_append, RpA]
    exact ⟨k', v', _, rfl, rfl, h1, RpA.app h2 hd⟩
theorem RpA.repl : ∀ {kvs : List (D × D)} {ws : List (Key × V)} {k : Key} {d : D} {v : V}, RpA m bo F H kvs ws → Rp m bo F H d v → RpA m bo F H (kvs.map fun kv => if kv.1 = keyD k then (kv.1, d) else kv) (ws.map fun kv => if kv.1 = k then (kv.1, v) else kv)
  | [], ws, k, d, v, h, hd => by
    simp only [RpA] at h; subst h
    simp [RpA]
  | (x, e) :: ds, ws, k, d, v, h, hd => by
    simp only [RpA] at h
    obtain ⟨k', v', r, rfl, rfl, h1, h2⟩ := h
    by_cases z : k' = k
    · subst z
      simp only [List.map_cons, if_true, RpA]
      exact ⟨k', v, _, rfl, rfl, hd, RpA.repl h2 hd⟩
    · have z2 : ¬ keyD k' = keyD k := fun y => z (keyD_inj y)
      simp only [List.map_cons, z, z2, if_false, RpA]
      exact ⟨k', v', _, rfl, rfl, h1, RpA.repl h2 hd⟩
theorem putK_eq (ws : List (Key × V)) (k : Key) (v : V) : putK ws k v = if (valV ws k).isSome then ws.map (fun kv => if kv.1 = k then (kv.1, v) else kv) else ws ++ [(k, v)] := by
  unfold putK
  rw [valV_any]
theorem RpA.put {kvs : List (D × D)} {ws : List (Key × V)} {k : Key} {d : D} {v : V} (h : RpA m bo F H kvs ws) (hd : Rp m bo F H d v) : RpA m bo F H (ptD kvs (keyD k) d) (putK ws k v) := by
  rw [putK_eq]
  unfold ptD
  rcases h.lk k with ⟨e1, e2⟩ | ⟨d', v', e1, e2, _⟩
  · rw [e1, e2]; exact h.app hd
  · rw [e1, e2]; exact h.repl hd
/-! ### rows with tuples as keys -/
theorem RpB.cut {kvs : List (D × D)} {es : List (NestedKey × Addr × Value)} (h : RpB m bo F H kvs es) : isT0 kvs = true ∧ RpC m bo F H kvs.tail es ∧ kvs = t0 :: kvs.tail := by
  cases kvs with
  | nil => simp [RpB] at h
  | cons kv ds =>
    obtain ⟨k, d⟩ := kv
    simp only [RpB] at h
    obtain ⟨rfl, rfl, h⟩ := h
    exact ⟨decide_eq_true (p := ((D.tok 0, D.non) = t0)) rfl, h, rfl⟩
theorem RpC.lk : ∀ {rows : List (D × D)} {es : List (NestedKey × Addr × Value)}, RpC m bo F H rows es → ∀ {k : D} {n : NestedKey}, k.kok = true → k.nk = some n → (lkD rows k = none ∧ atKey es n = none) ∨ ∃ d a u v, lkD rows k = some d ∧ atKey es n = some (a, u) ∧ RelV v u ∧ Rp m bo F H d v
  | [], es, h, k, n, hk, hn => by
    simp only [RpC] at h; subst h
    exact .inl ⟨rfl, rfl⟩
  | (x, d) :: ds, es, h, k, n, hk, hn => by
    simp only [RpC] at h
    obtain ⟨k', a, u, r, rfl, ek, fl, dp, hka, ⟨v, rv, h1⟩, h2⟩ := h
    by_cases e : x = k
    · subst e
      rw [hn] at ek
      cases ek
      exact .inr ⟨d, a, u, v, by simp [lkD, List.find?_cons], by simp [atKey, List.find?_cons], rv, h1⟩
    · have e2 : ¬ k' = n := fun z => e (D.nk_inj x k fl hk (by rw [ek, hn, z]))
      have l1 : lkD ((x, d) :: ds) k = lkD ds k := by simp [lkD, List.find?_cons, e]
      have l2 : atKey ((k', a, u) :: r) n = atKey r n := by simp [atKey, List.find?_cons, e2]
      rw [l1, l2]
      exact RpC.lk h2 hk hn
theorem RpC.len : ∀ {rows : List (D × D)} {es : List (NestedKey × Addr × Value)}, RpC m bo F H rows es → es.length = rows.length
  | [], es, h => by simp only [RpC] at h; subst h; rfl
  | (x, d) :: ds, es, h => by
    simp only [RpC] at h
    obtain ⟨k', a, u, r, rfl, _, _, _, _, _, h2⟩ := h
    simp [RpC.len h2]
theorem RpC.app : ∀ {rows : List (D × D)} {es : List (NestedKey × Addr × Value)} {k d : D} {n : NestedKey} {a : Addr} {u : Value} {v : V}, RpC m bo F H rows es → k.nk = some n → k.kok = true → n.depth ≤ 8 → Rp m bo F H k (.ref a) → RelV v u → Rp m bo F H d v → RpC m bo F H (rows ++ [(k, d)]) (es ++ [(n, a, u)])
  | [], es, k, d, n, a, u, v, h, h1, h2, h3, h4, h5, h6 => by
    simp only [RpC] at h; subst h
    simp only [List.nil_append, RpC]
    exact ⟨n, a, u, [], rfl, h1, h2, h3, h4, ⟨v, h5, h6⟩, rfl⟩
  | (x, e) :: ds, es, k, d, n, a, u, v, h, h1, h2, h3, h4, h5, h6 => by
    simp only [RpC] at h
    obtain ⟨k', a', u', r, rfl, g1, g2, g3, g4, g5, g6⟩ := h
    simp only [List.cons_append, RpC]
    exact ⟨k', a', u', _, rfl, g1, g2, g3, g4, g5, RpC.app g6 h1 h2 h3 h4 h5 h6⟩
theorem RpC.repl : ∀ {rows : List (D × D)} {es : List (NestedKey × Addr × Value)} {k d : D} {n : NestedKey} {u : Value} {v : V}, RpC m bo F H rows es → k.nk = some n → k.kok = true → RelV v u → Rp m bo F H d v → RpC m bo F H (rows.map fun kv => if kv.1 = k then (kv.1, d) else kv) (es.map (putAt n u))
  | [], es, k, d, n, u, v, h, h1, h2, h5, h6 => by
    simp only [RpC] at h; subst h
    simp [RpC]
  | (x, e) :: ds, es, k, d, n, u, v, h, h1, h2, h5, h6 => by
    simp only [RpC] at h
    obtain ⟨k', a', u', r, rfl, g1, g2, g3, g4, g5, g6⟩ := h
    by_cases z : x = k
    · subst z
      rw [h1] at g1; cases g1
      simp only [List.map_cons, if_true, RpC, putAt]
      exact ⟨n, a', u, _, rfl, h1, g2, g3, g4, ⟨v, h5, h6⟩, RpC.repl g6 h1 h2 h5 h6⟩
    · have z2 : ¬ k' = n := fun y => z (D.nk_inj x k g2 h2 (by rw [g1, h1, y]))
      simp only [List.map_cons, z, z2, if_false, RpC, putAt]
      exact ⟨k', a', u', _, rfl, g1, g2, g3, g4, g5, RpC.repl g6 h1 h2 h5 h6⟩
theorem RpC.put {rows : List (D × D)} {es : List (NestedKey × Addr × Value)} {k d : D} {n : NestedKey} {a : Addr} {u : Value} {v : V} (h : RpC m bo F H rows es) (h1 : k.nk = some n) (h2 : k.kok = true) (h3 : n.depth ≤ 8) (h4 : Rp m bo F H k (.ref a)) (h5 : RelV v u) (h6 : Rp m bo F H d v) : RpC m bo F H (ptD rows k d) (storedH es n a u) := by
  unfold ptD storedH
  rcases h.lk h2 h1 with ⟨e1, e2⟩ | ⟨d', a', u', v', e1, e2, _⟩
  · rw [e1, e2]; exact h.app h1 h2 h3 h4 h5 h6
  · rw [e1, e2]; exact h.repl h1 h2 h5 h6
end
/-! ### in the library's words -/
section
variable {X : Cx} {pins : List (Addr × Obj)} {σ : St} {H : Hp} {s : Shared} {A : Around} {E : Value → Shared → Prop} {bo : Bo} {F : Addr → Prop} {fn : Nat → Option V}
abbrev pmD (X : Cx) (fn : Nat → Option V) : Pm := ⟨X.prog, X.w, X.K, fn⟩
mutual
theorem nested_of (I : Inv X pins σ H s) : ∀ (d : D) (v : V) (u : Value) (k : NestedKey), d.kok = true → d.nk = some k → Rp (pmD X fn) bo F H d v → RelV v u → NestedIs s.heap k u
  | .non, v, u, k, _, hn, h, r => by
    simp only [Rp] at h; subst h
    simp only [D.nk, Option.some.injEq] at hn; subst hn
    cases r; exact .none
  | .bl _, _, _, _, h, _, _, _ => by simp [D.kok] at h
  | .int i, v, u, k, _, hn, h, r => by
    simp only [Rp] at h; subst h
    simp only [D.nk, Option.some.injEq] at hn; subst hn
    obtain ⟨t, rfl⟩ := r; exact .int _ _
  | .str x, v, u, k, _, hn, h, r => by
    simp only [Rp] at h; subst h
    simp only [D.nk, Option.some.injEq] at hn; subst hn
    obtain ⟨t, rfl⟩ := r; exact .text _ _
  | .tup xs, v, u, k, hk, hn, h, r => by
    simp only [Rp] at h
    obtain ⟨a, vs, rfl, hs, hz, hr⟩ := h
    simp only [D.kok] at hk
    obtain ⟨ks, e, _⟩ := D.kokL_nk xs hk
    simp only [D.nk, e, Option.map_some, Option.some.injEq] at hn
    subst hn
    obtain ⟨its, rv, ⟨o, ho, hc, n, hd⟩, _⟩ := I.tuple hs
    cases r
    exact .tup ho hc hd (nestedL_of I xs vs its ks hk e hr rv)
  | .lst _, _, _, _, h, _, _, _ => by simp [D.kok] at h
  | .dct _, _, _, _, h, _, _, _ => by simp [D.kok] at h
  | .tok _, _, _, _, h, _, _, _ => by simp [D.kok] at h
theorem nestedL_of (I : Inv X pins σ H s) : ∀ (ds : List D) (vs : List V) (us : List Value) (ks : List NestedKey), D.kokL ds = true → D.nkL ds = some ks → RpL (pmD X fn) bo F H ds vs → Vals vs us → NestedAll s.heap ks us
  | [], vs, us, ks, _, hn, h, r => by
    simp only [RpL] at h; subst h
    simp only [D.nkL, Option.some.injEq] at hn; subst hn
    cases r; exact .nil
  | d :: ds, vs, us, ks, hk, hn, h, r => by
    simp only [RpL] at h
    obtain ⟨v, t, rfl, h1, h2⟩ := h
    rw [D.kokL, Bool.and_eq_true] at hk
    obtain ⟨k, e, _⟩ := D.kok_nk d hk.1
    obtain ⟨ls, e2, _⟩ := D.kokL_nk ds hk.2
    simp only [D.nkL, e, e2, Option.some.injEq] at hn
    subst hn
    cases r with
    | cons r1 r2 => exact .cons (nested_of I d v _ k hk.1 e h1 r1) (nestedL_of I ds t _ ls hk.2 e2 h2 r2)
end
theorem keyT_of {k : D} (h : keyT k = true) : ∃ n, k.kok = true ∧ k.nk = some n ∧ n.depth ≤ 8 := by
  cases k with
  | tup xs =>
    simp only [keyT, Bool.and_eq_true, decide_eq_true_iff] at h
    have hk : (D.tup xs).kok = true := by simp only [D.kok]; exact h.1
    obtain ⟨n, e, hd⟩ := D.kok_nk (.tup xs) hk
    exact ⟨n, hk, e, by rw [hd, D.dep]; omega⟩
  | _ => cases h
theorem keyT_ref {m : Pm} {k : D} {y : V} (h : keyT k = true) (hy : RpO m bo F H k y) : Rp m bo F H k y ∧ ∃ b, y = .ref b := by
  cases k with
  | tup xs =>
    rcases hy with hy | ⟨a, rfl, _, _, ow⟩
    · refine ⟨hy, ?_⟩
      simp only [Rp] at hy
      obtain ⟨a, _, rfl, _⟩ := hy
      exact ⟨a, rfl⟩
    · exact (show False from ow).elim
  | _ => cases h
theorem RpC.keys (I : Inv X pins σ H s) : ∀ {rows : List (D × D)} {es : List (NestedKey × Addr × Value)}, RpC (pmD X fn) bo F H rows es → ∀ x ∈ es, (nestedKind X.prog X.w).is s.heap x.1 x.2.1
  | [], es, h => by
    simp only [RpC] at h; subst h
    simp
  | (y, d) :: ds, es, h => by
    simp only [RpC] at h
    obtain ⟨k', a, u, r, rfl, ek, fl, dp, hk, _, h2⟩ := h
    intro x hx
    rcases List.mem_cons.mp hx with e | e
    · subst e
      exact ⟨nested_of I y _ _ k' fl ek hk rfl, dp⟩
    · exact RpC.keys I h2 x e
theorem dget_k {H : Hp} {a : Addr} {kvs : List (Key × V)} {k : Key} (e : Rd H a (.dK kvs)) : DGet H a (kV k) (valV kvs k) := .inl ⟨kvs, k, e, rfl, rfl⟩
/-- the dict at a: of plain keys, of tuples -/
inductive DAt (m : Pm) (bo : Bo) (F : Addr → Prop) (H : Hp) (kvs : List (D × D)) (a : Addr) : Prop
  | k {ws : List (Key × V)} : Rd H a (.dK ws) → RpA m bo F H kvs ws → DAt m bo F H kvs a
  | t {es : List (NestedKey × Addr × Value)} : Rd H a (DicO m a es) → RpB m bo F H kvs es → DAt m bo F H kvs a
/-- .. to be changed -/
inductive DAtW (m : Pm) (bo : Bo) (F : Addr → Prop) (H : Hp) (kvs : List (D × D)) (a : Addr) : Prop
  | k {ws : List (Key × V)} : H a = some (.dK ws) → RpA m bo F H kvs ws → DAtW m bo F H kvs a
  | t {es : List (NestedKey × Addr × Value)} : H a = some (DicO m a es) → RpB m bo F H kvs es → DAtW m bo F H kvs a
theorem DAtW.rd {m : Pm} {kvs : List (D × D)} {a : Addr} (h : DAtW m bo F H kvs a) : DAt m bo F H kvs a := by
  rcases h with ⟨e, r⟩ | ⟨e, r⟩
  · exact .k (.inl e) r
  · exact .t (.inl e) r
theorem RpO.dct {m : Pm} {kvs : List (D × D)} {v : V} (h : RpO m bo F H (.dct kvs) v) : ∃ a, v = .ref a ∧ DAt m bo F H kvs a := by
  rcases h with h | ⟨a, rfl, _, _, h⟩
  · simp only [Rp] at h
    obtain ⟨a, rfl, _, o, ⟨ws, h1, h2⟩ | ⟨es, h1, h2⟩⟩ := h
    · exact ⟨a, rfl, .k (.inr ⟨o, h1⟩) h2⟩
    · exact ⟨a, rfl, .t (.inr ⟨o, h1⟩) h2⟩
  · rcases h with ⟨ws, h1, h2⟩ | ⟨es, h1, h2⟩
    · exact ⟨a, rfl, .k (.inl h1) h2⟩
    · exact ⟨a, rfl, .t (.inl h1) h2⟩
theorem dic_of {a : Addr} {es : List (NestedKey × Addr × Value)} {rows : List (D × D)} (I : Inv X pins σ H s) (e : Rd H a (DicO (pmD X fn) a es)) (r : RpC (pmD X fn) bo F H rows es) :
    es.length ≤ sizeLine ∧ (a == sysModules) = false ∧ s.heap.DictOfH (nestedKind X.prog X.w) a es := by
  obtain ⟨⟨o, arr, ep, h1, h2, h3, h4, h5, h6, h7⟩, _, _⟩ : ObjOk X.prog X.w H s.heap a (DicO (pmD X fn) a es) := e.ok I.hok
  exact ⟨h6, h7, o, arr, ep, h1, h2, h3, h4, r.keys I, h5⟩
theorem dic_ok {P : Program} {w : World} {a : Addr} {h : Heap} {es : List (NestedKey × Addr × Value)} {H : Hp} {K : PySem.W.Frag} (z : es.length ≤ sizeLine) (hd : (a == sysModules) = false) (dd : h.DictOfH (nestedKind P w) a es) : ObjOk P w H h a (DicO ⟨P, w, K, fn⟩ a es) := by
  obtain ⟨o, arr, ep, h1, h2, h3, h4, _, h5⟩ := dd
  exact ⟨⟨o, arr, ep, h1, h2, h3, h4, h5, z, hd⟩, ⟨o, h1⟩, fun h1' h2' ⟨o, arr, ep, g1, g2, g3, g4, g5, g6, g7⟩ st => ⟨o, arr, ep, st o g1, g2, g3, g4, g5, g6, g7⟩⟩
theorem DAt.type {kvs : List (D × D)} {a : Addr} (I : Inv X pins σ H s) (d : DAt (pmD X fn) bo F H kvs a) : s.TypeIs (.ref a) "dict" ∧ (∀ b, Value.ref a = .ref b → ∃ ob, s.heap.get? b = some ob ∧ ob.dict = none) := by
  rcases d with ⟨e, r⟩ | ⟨e, r⟩
  · obtain ⟨_, hd, vs, _, dd⟩ := dk_rd I.hok e
    refine ⟨dd.typeIs, fun b q => ?_⟩
    cases q
    obtain ⟨ob, _, _, h1, h2, _⟩ := dd
    exact ⟨ob, h1, h2.2.1⟩
  · obtain ⟨_, hd, dd⟩ := dic_of I e r.cut.2.1
    refine ⟨dd.typeIs, fun b q => ?_⟩
    cases q
    obtain ⟨ob, _, _, h1, h2, _⟩ := dd
    exact ⟨ob, h1, h2.2.1⟩
theorem rowsD_k {m : Pm} {kvs : List (D × D)} {ws : List (Key × V)} (r : RpA m bo F H kvs ws) : rowsD kvs = kvs := by unfold rowsD; rw [r.noT]; rfl
theorem rowsD_t {m : Pm} {kvs : List (D × D)} {es : List (NestedKey × Addr × Value)} (r : RpB m bo F H kvs es) : rowsD kvs = kvs.tail := by unfold rowsD; rw [r.cut.1]; rfl
theorem keyS_V {m : Pm} {k : Key} {y : V} (hy : RpO m bo F H (keyD k) y) : y = kV k := by
  cases k with
  | inl i =>
    rcases hy with hy | ⟨a, _, _, _, ow⟩
    · simpa [Rp, keyD, kV] using hy
    · exact (show False from ow).elim
  | inr i =>
    rcases hy with hy | ⟨a, _, _, _, ow⟩
    · simpa [Rp, keyD, kV] using hy
    · exact (show False from ow).elim
theorem dGet_k {kvs : List (D × D)} {k : D} (h : isT0 kvs = false) : dGet kvs k = if keyS k = true then some (lkD kvs k) else none := by
  unfold dGet keyOk rowsD; rw [h]; rfl
theorem dGet_t {kvs : List (D × D)} {k : D} (h : isT0 kvs = true) : dGet kvs k = if keyT k = true then some (lkD kvs.tail k) else none := by
  unfold dGet keyOk rowsD; rw [h]; rfl
/-- d[y] .. there -/
theorem dd_get {kvs : List (D × D)} {a : Addr} {k d : D} {y : V} {u : Value} {Q : Value → Shared → Prop} (hu : A.units + 10 < cLine) (I : Inv X pins σ H s) (g : DAt (pmD X fn) bo F H kvs a) (hy : RpO (pmD X fn) bo F H k y) (ry : RelV y u) (hk : dGet kvs k = some (some d))
    (h : ∀ v w' s', Inv X pins σ H s' → RelV v w' → Rp (pmD X fn) bo F H d v → Q w' s') : wpAny (model X.prog X.w) A (getItem (.ref a) u) Q E s := by
  rcases g with ⟨e, r⟩ | ⟨e, r⟩
  · rename_i ws
    rw [dGet_k r.noT] at hk
    split at hk
    · rename_i hs
      obtain ⟨k', rfl⟩ := keyS_of hs
      obtain rfl := keyS_V hy
      rcases r.lk k' with ⟨e1, e2⟩ | ⟨d', v, e1, e2, rp⟩
      · rw [e1] at hk; cases hk
      · rw [e1] at hk; cases hk
        exact d_getItem (by omega) I (by rw [← e2]; exact dget_k e) ry fun w' s' I' rw' => h v w' s' I' rw' rp
    · cases hk
  · rename_i es
    rw [dGet_t r.cut.1] at hk
    split at hk
    · rename_i hs
      obtain ⟨n, h1, h2, h3⟩ := keyT_of hs
      obtain ⟨hy, b, rfl⟩ := keyT_ref hs hy
      cases (show u = Value.ref b from ry)
      obtain ⟨z, hd, dd⟩ := dic_of I e r.cut.2.1
      rcases r.cut.2.1.lk h1 h2 with ⟨e1, e2⟩ | ⟨d', a', u', v, e1, e2, rv, rp⟩
      · rw [e1] at hk; cases hk
      · rw [e1] at hk; cases hk
        exact wpAny_getItem_heap (knd := nestedKind X.prog X.w) (show A.in1.units + 8 < cLine from by show A.units + 1 + 8 < cLine; omega) ⟨nested_of I k _ _ n h1 h2 hy rfl, h3⟩ dd e2 (h v _ _ (I.tok _) rv rp)
    · cases hk
/-- y in d, y not in d, by one rule -/
theorem dd_in {kvs : List (D × D)} {a : Addr} {k : D} {o : Option D} {y : V} {u : Value} {Q : Value → Shared → Prop} (hu : A.units + 10 < cLine) (I : Inv X pins σ H s) (g : DAt (pmD X fn) bo F H kvs a) (hy : RpO (pmD X fn) bo F H k y) (ry : RelV y u) (hk : dGet kvs k = some o) :
    ((∀ s', Inv X pins σ H s' → Q (.bool o.isSome) s') → wpAny (model X.prog X.w) A (compareOp .In u (.ref a)) Q E s) ∧
    ((∀ s', Inv X pins σ H s' → Q (.bool (!o.isSome)) s') → wpAny (model X.prog X.w) A (compareOp .NotIn u (.ref a)) Q E s) := by
  rcases g with ⟨e, r⟩ | ⟨e, r⟩
  · rename_i ws
    rw [dGet_k r.noT] at hk
    split at hk
    · rename_i hs
      obtain ⟨k', rfl⟩ := keyS_of hs
      obtain rfl := keyS_V hy
      have eo : o.isSome = (valV ws k').isSome := by
        cases hk
        rcases r.lk k' with ⟨e1, e2⟩ | ⟨d', v, e1, e2, rp⟩ <;> rw [e1, e2] <;> rfl
      rw [eo]
      exact ⟨fun h => L2.d_in (by omega) I (dget_k e) ry h, fun h => L2.d_notIn (by omega) I (dget_k e) ry h⟩
    · cases hk
  · rename_i es
    rw [dGet_t r.cut.1] at hk
    split at hk
    · rename_i hs
      obtain ⟨n, h1, h2, h3⟩ := keyT_of hs
      obtain ⟨hy, b, rfl⟩ := keyT_ref hs hy
      cases (show u = Value.ref b from ry)
      obtain ⟨z, hd, dd⟩ := dic_of I e r.cut.2.1
      have eo : o.isSome = (atKey es n).isSome := by
        cases hk
        rcases r.cut.2.1.lk h1 h2 with ⟨e1, e2⟩ | ⟨d', a', u', v, e1, e2, rv, rp⟩ <;> rw [e1, e2] <;> rfl
      rw [eo]
      have room : (nestedKind X.prog X.w).room A.in1 := show A.units + 1 + 8 < cLine by omega
      exact ⟨fun h => wpAny_in_heap (knd := nestedKind X.prog X.w) room ⟨nested_of I k _ _ n h1 h2 hy rfl, h3⟩ hd dd (h _ (I.tok _)), fun h => PyProof.Rows.wpAny_notIn_heap (knd := nestedKind X.prog X.w) room ⟨nested_of I k _ _ n h1 h2 hy rfl, h3⟩ hd dd (h _ (I.tok _))⟩
    · cases hk
theorem dPut_k {kvs : List (D × D)} {k d : D} (h : isT0 kvs = false) : dPut kvs k d = if keyS k = true ∧ kvs.length < sizeLine then some (ptD kvs k d) else none := by
  unfold dPut keyOk rowsD; rw [h]; rfl
theorem dPut_t {kvs : List (D × D)} {k d : D} (h : isT0 kvs = true) : dPut kvs k d = if keyT k = true ∧ kvs.tail.length < sizeLine then some (t0 :: ptD kvs.tail k d) else none := by
  unfold dPut keyOk rowsD; rw [h]; rfl
theorem storedH_len (es : List (NestedKey × Addr × Value)) (k : NestedKey) (a : Addr) (u : Value) : (storedH es k a u).length ≤ es.length + 1 := by
  unfold storedH
  split
  · simp
  · simp
/-- d[y] = v -/
theorem dd_put {kvs kvs' : List (D × D)} {a : Addr} {k d : D} {y v : V} {u r : Value} {Q : Unit → Shared → Prop} (hu : A.units + 10 < cLine) (I : Inv X pins σ H s) (g : DAtW (pmD X fn) bo F H kvs a) (hy : RpO (pmD X fn) bo F H k y) (ry : RelV y u) (hv : Rp (pmD X fn) bo F H d v) (rv : RelV v r) (hk : dPut kvs k d = some kvs')
    (h : ∀ ob s', (FK F H F (L2.upd H a ob) → Own (pmD X fn) bo F (L2.upd H a ob) (.dct kvs') a) → Inv X pins σ (L2.upd H a ob) s' → Q () s') : wpAny (model X.prog X.w) A (setItem (.ref a) u r) Q E s := by
  rcases g with ⟨e, ra⟩ | ⟨e, rb⟩
  · rename_i ws
    rw [dPut_k ra.noT] at hk
    split at hk
    · rename_i hs
      obtain ⟨k', rfl⟩ := keyS_of hs.1
      obtain rfl := keyS_V hy
      cases hk
      refine d_setItem (by omega) I (DPut.k e (by rw [ra.len]; exact hs.2)) ry rv fun s' I' => h (.dK (putK ws k' v)) s' (fun kk => .inl ⟨_, upd_same, (ra.put hv).fk kk⟩) I'
    · cases hk
  · rename_i es
    rw [dPut_t rb.cut.1] at hk
    split at hk
    · rename_i hs
      obtain ⟨n, h1, h2, h3⟩ := keyT_of hs.1
      obtain ⟨hy, b, rfl⟩ := keyT_ref hs.1 hy
      cases (show u = Value.ref b from ry)
      cases hk
      obtain ⟨z, hd, dd⟩ := dic_of I (.inl e) rb.cut.2.1
      have hl : (storedH es n b r).length ≤ sizeLine := by
        have := storedH_len es n b r
        have := rb.cut.2.1.len
        omega
      refine wpAny_setItem_heap (knd := nestedKind X.prog X.w) (hsz := z) (show A.units + 1 + 8 < cLine by omega) ⟨nested_of I k _ _ n h1 h2 hy rfl, h3⟩ dd fun h' dd' hs' => ?_
      obtain ⟨q, es', ep, hq, _⟩ := id dd'
      refine h (DicO (pmD X fn) a (storedH es n b r)) _ (fun kk => .inr ⟨_, upd_same, ?_⟩) (d_write I (by rw [e]; exact True.intro) hs' ⟨q, hq⟩ (dic_ok hl hd dd'))
      simp only [RpB, t0]
      exact ⟨trivial, trivial, (rb.cut.2.1.put h2 h1 h3 hy rv hv).fk kk⟩
    · cases hk
/-- the same, below the subscript -/
theorem dd_dset {kvs kvs' : List (D × D)} {a : Addr} {k d : D} {y v : V} {u r : Value} {Q : Unit → Shared → Prop} (hu : A.units + 10 < cLine) (I : Inv X pins σ H s) (g : DAtW (pmD X fn) bo F H kvs a) (hy : RpO (pmD X fn) bo F H k y) (ry : RelV y u) (hv : Rp (pmD X fn) bo F H d v) (rv : RelV v r) (hk : dPut kvs k d = some kvs')
    (h : ∀ ob s', (FK F H F (L2.upd H a ob) → Own (pmD X fn) bo F (L2.upd H a ob) (.dct kvs') a) → Inv X pins σ (L2.upd H a ob) s' → Q () s') : wpAny (model X.prog X.w) A (dictSet a u r) Q E s := by
  rcases g with ⟨e, ra⟩ | ⟨e, rb⟩
  · rename_i ws
    rw [dPut_k ra.noT] at hk
    split at hk
    · rename_i hs
      obtain ⟨k', rfl⟩ := keyS_of hs.1
      obtain rfl := keyS_V hy
      cases hk
      obtain ⟨z, hd, vs, rel, dd⟩ := dk_of I.hok e
      have hz : vs.length ≤ sizeLine := by rw [← rel.length]; exact z
      have hl : (putK ws k' v).length ≤ sizeLine := by have := length_putK ws k' v; have := ra.len; omega
      refine wpAny_dictSet_pairs (hsz := hz) (kV_is ry) dd fun h' dd' hs' => ?_
      have he : ∃ q, h'.get? a = some q := let ⟨q, _, _, hq, _⟩ := dd'; ⟨q, hq⟩
      exact h (.dK (putK ws k' v)) _ (fun kk => .inl ⟨_, upd_same, (ra.put hv).fk kk⟩) (d_write I (by rw [e]; exact True.intro) hs' he (dk_new hl hd (rel.put k' rv) dd'))
    · cases hk
  · rename_i es
    rw [dPut_t rb.cut.1] at hk
    split at hk
    · rename_i hs
      obtain ⟨n, h1, h2, h3⟩ := keyT_of hs.1
      obtain ⟨hy, b, rfl⟩ := keyT_ref hs.1 hy
      cases (show u = Value.ref b from ry)
      cases hk
      obtain ⟨z, hd, dd⟩ := dic_of I (.inl e) rb.cut.2.1
      have hl : (storedH es n b r).length ≤ sizeLine := by
        have := storedH_len es n b r
        have := rb.cut.2.1.len
        omega
      refine wpAny_dictSet_heap (knd := nestedKind X.prog X.w) (hsz := z) (show A.units + 8 < cLine by omega) ⟨nested_of I k _ _ n h1 h2 hy rfl, h3⟩ dd fun h' dd' hs' => ?_
      obtain ⟨q, es', ep, hq, _⟩ := id dd'
      refine h (DicO (pmD X fn) a (storedH es n b r)) _ (fun kk => .inr ⟨_, upd_same, ?_⟩) (d_write I (by rw [e]; exact True.intro) hs' ⟨q, hq⟩ (dic_ok hl hd dd'))
      simp only [RpB, t0]
      exact ⟨trivial, trivial, (rb.cut.2.1.put h2 h1 h3 hy rv hv).fk kk⟩
    · cases hk
/-- d.get(y, x) -/
theorem dd_get2 {kvs : List (D × D)} {a : Addr} {k x : D} {o : Option D} {y z : V} {u r : Value} {Q : Value → Shared → Prop} (hu : A.units + 10 < cLine) (I : Inv X pins σ H s) (g : DAt (pmD X fn) bo F H kvs a) (hy : RpO (pmD X fn) bo F H k y) (ry : RelV y u) (hx : Rp (pmD X fn) bo F H x z) (rz : RelV z r) (hk : dGet kvs k = some o)
    (h : ∀ v w' s', Inv X pins σ H s' → RelV v w' → Rp (pmD X fn) bo F H (o.getD x) v → Q w' s') : wpAny (model X.prog X.w) A (call (.builtin "dict.get") [.ref a, u, r]) Q E s := by
  rcases g with ⟨e, ra⟩ | ⟨e, rb⟩
  · rename_i ws
    rw [dGet_k ra.noT] at hk
    split at hk
    · rename_i hs
      obtain ⟨k', rfl⟩ := keyS_of hs
      obtain rfl := keyS_V hy
      cases hk
      refine d_get2 (by omega) I (dget_k e) ry rz fun w' s' I' rw' => h _ w' s' I' rw' ?_
      rcases ra.lk k' with ⟨e1, e2⟩ | ⟨d', v', e1, e2, rp⟩
      · rw [e1, e2]; exact hx
      · rw [e1, e2]; exact rp
    · cases hk
  · rename_i es
    rw [dGet_t rb.cut.1] at hk
    split at hk
    · rename_i hs
      obtain ⟨n, h1, h2, h3⟩ := keyT_of hs
      obtain ⟨hy, b, rfl⟩ := keyT_ref hs hy
      cases (show u = Value.ref b from ry)
      cases hk
      obtain ⟨_, hd, dd⟩ := dic_of I e rb.cut.2.1
      refine call_meetsIn PySem.F.slot_dict_get dd.typeIs PySem.F.entry_dict_get (PySem.F.args_dict_get_3 _ _ _) (meetsH_dict_get_default (nestedKind X.prog X.w) a b hd r) ⟨show A.units + 1 + 8 < cLine by omega, n, es, ⟨nested_of I k _ _ n h1 h2 hy rfl, h3⟩, dd, ?_⟩
      rcases rb.cut.2.1.lk h1 h2 with ⟨e1, e2⟩ | ⟨d', a', u', v', e1, e2, rv, rp⟩
      · rw [e2]
        exact h z _ _ (I.tok _) rz (by rw [e1]; exact hx)
      · rw [e2]
        exact h v' _ _ (I.tok _) rv (by rw [e1]; exact rp)
    · cases hk
/-- len(d) -/
theorem dd_len {kvs : List (D × D)} {a : Addr} {Q : Value → Shared → Prop} (I : Inv X pins σ H s) (g : DAt (pmD X fn) bo F H kvs a) (h : ∀ t s', Inv X pins σ H s' → Q (.int (rowsD kvs).length t) s') : wpAny (model X.prog X.w) A (call (.builtin "len") [.ref a]) Q E s := by
  rcases g with ⟨e, ra⟩ | ⟨e, rb⟩
  · rw [rowsD_k ra, ← ra.len] at h
    exact L2.d_len I e h
  · obtain ⟨z, hd, dd⟩ := dic_of I e rb.cut.2.1
    rw [rowsD_t rb, ← rb.cut.2.1.len] at h
    exact call_len_dictH hd dd (by rw [sizeLine_eq] at z; omega) (h _ _ (I.tok _))
open PySem.Spec PyProof.Rows in
theorem tail_of {prog : Program} {w : World} {A : Around} {E : Value → Shared → Prop} {s : Shared} {value slice : Expr} {o i : Value} {T id : String} {Q : Value → Shared → Prop}
    (hl : typeLookup (.type T) "__getitem__" = pure (some (.builtin id))) (hs : subscripted slice false o i = operate [o, i] (getItem o i)) (hT : s.TypeIs o T)
    (h : wpAny (model prog w) A (getItem o i) Q E s) : wpAny (model prog w) A (subscriptTail value slice o i) Q E s := by
  unfold subscriptTail
  refine wpAny_bind ?_
  rw [getitemInPython_of_ne hT.not_modules]
  refine wpAny_bind (wpAny_specialOf hT hl ?_)
  have fin : wpAny (model prog w) A (subscripted slice false o i) (fun r s₃ => wpAny (model prog w) A (letTemporaryGo value o r >>= fun _ => pure r) Q E s₃) E s := by
    rw [hs]
    exact wpAny_operating (wpAny_mono h (fun r s₃ h₃ => wpAny_bind (wpAny_letTemporaryGo (wpAny_pure h₃))) fun _ _ x => x)
  first
    | exact wpAny_pure (wpAny_bind fin)
    | exact wpAny_bind (wpAny_pure (wpAny_bind fin))
    | exact wpAny_bind fin
theorem RpO.of_o {m : Pm} {k : D} {y : V} (h : RpO m bo F H k y) : RpO m bo F H k y := h
end
end Sv

set_option maxHeartbeats 4000000
/-! Sv4: operators and built-ins keep the promises of plain data. -/
namespace Sv
open PySem L2

/-! ### data read off the heap -/
section
variable {m : Pm} {bo : Bo} {F : Addr → Prop} {H : Hp}
mutual
theorem Rp.dp : ∀ (d : D) (v : V), d.plain = true → Rp m bo F H d v → Dp m.K H v d.py
  | .non, v, _, h => by simp only [Rp] at h; subst h; simp only [D.py]; exact .non
  | .bl b, v, _, h => by simp only [Rp] at h; subst h; simp only [D.py]; exact .bl b
  | .int b, v, _, h => by simp only [Rp] at h; subst h; simp only [D.py]; exact .int b
  | .str b, v, _, h => by simp only [Rp] at h; subst h; simp only [D.py]; exact .str b
  | .tup ds, v, e, h => by
    simp only [Rp] at h
    obtain ⟨a, vs, rfl, s, z, r⟩ := h
    simp only [D.py]
    exact .tup s (RpL.dp ds vs (by simpa [D.plain] using e) r)
  | .lst ds, v, e, h => by
    simp only [Rp] at h
    obtain ⟨a, vs, rfl, f, s, z, r⟩ := h
    simp only [D.py]
    exact .lst (SqL.of s) (RpL.dp ds vs (by simpa [D.plain] using e) r)
  | .dct _, _, e, _ => by simp [D.plain] at e
  | .tok _, _, e, _ => by simp [D.plain] at e
theorem RpL.dp : ∀ (ds : List D) (vs : List V), D.plainL ds = true → RpL m bo F H ds vs → DpAll m.K H vs (D.pyL ds)
  | [], vs, _, h => by simp only [RpL] at h; subst h; simp only [D.pyL]; exact .nil
  | d :: ds, vs, e, h => by
    simp only [RpL] at h
    rw [D.plainL, Bool.and_eq_true] at e
    obtain ⟨v, r, rfl, h1, h2⟩ := h
    simp only [D.pyL]
    exact .cons (Rp.dp d v e.1 h1) (RpL.dp ds r e.2 h2)
end
theorem RpO.dp {d : D} {v : V} (e : d.plain = true) (h : RpO m bo F H d v) : Dp m.K H v d.py := by
  rcases h with h | ⟨a, rfl, _, _, h⟩
  · exact Rp.dp d v e h
  · cases d with
    | lst ds =>
      obtain ⟨vs, s, z, r⟩ := h
      simp only [D.py]
      exact .lst (SqL.of s) (RpL.dp ds vs (by simpa [D.plain] using e) r)
    | dct _ => simp [D.plain] at e
    | _ => exact (show False from h).elim
/-- a list, a tuple that is read -/
theorem RpO.lst {ds : List D} {v : V} (h : RpO m bo F H (.lst ds) v) : ∃ a vs, v = .ref a ∧ H a = some (.lst vs) ∧ vs.length ≤ sizeLine ∧ RpL m bo F H ds vs := by
  rcases h with h | ⟨a, rfl, _, _, h⟩
  · simp only [Rp] at h
    obtain ⟨a, vs, rfl, f, s, z, r⟩ := h
    exact ⟨a, vs, rfl, s, z, r⟩
  · obtain ⟨vs, s, z, r⟩ := h
    exact ⟨a, vs, rfl, s, z, r⟩
theorem RpO.tup {ds : List D} {v : V} (h : RpO m bo F H (.tup ds) v) : ∃ a vs, v = .ref a ∧ SqT m.K H a vs ∧ vs.length ≤ sizeLine ∧ RpL m bo F H ds vs := by
  rcases h with h | ⟨a, rfl, _, _, h⟩
  · simpa only [Rp] using h
  · exact (show False from h).elim
theorem RpO.int {i : Int} {v : V} (h : RpO m bo F H (.int i) v) : v = .int i := by
  rcases h with h | ⟨a, rfl, _, _, h⟩
  · simpa only [Rp] using h
  · exact (show False from h).elim
theorem RpO.bl {i : Bool} {v : V} (h : RpO m bo F H (.bl i) v) : v = .bl i := by
  rcases h with h | ⟨a, rfl, _, _, h⟩
  · simpa only [Rp] using h
  · exact (show False from h).elim
theorem RpO.str {i : Str} {v : V} (h : RpO m bo F H (.str i) v) : v = .str i := by
  rcases h with h | ⟨a, rfl, _, _, h⟩
  · simpa only [Rp] using h
  · exact (show False from h).elim
theorem RpO.non {v : V} (h : RpO m bo F H .non v) : v = .non := by
  rcases h with h | ⟨a, rfl, _, _, h⟩
  · simpa only [Rp] using h
  · exact (show False from h).elim
theorem RpOL.one {d : D} {vs : List V} (h : RpOL m bo F H [d] vs) : ∃ v, vs = [v] ∧ RpO m bo F H d v := by
  simp only [RpOL] at h
  obtain ⟨v, r, rfl, h1, rfl⟩ := h
  exact ⟨v, rfl, h1⟩
theorem RpOL.two {d e : D} {vs : List V} (h : RpOL m bo F H [d, e] vs) : ∃ v u, vs = [v, u] ∧ RpO m bo F H d v ∧ RpO m bo F H e u := by
  simp only [RpOL] at h
  obtain ⟨v, r, rfl, h1, v', r', rfl, h2, rfl⟩ := h
  exact ⟨v, v', rfl, h1, h2⟩
end
mutual
theorem D.py_lay : ∀ d : D, d.plain = true → d.py.canLay0 = true
  | .non, _ => by simp [D.py, PyData.canLay0]
  | .bl _, _ => by simp [D.py, PyData.canLay0]
  | .int _, _ => by simp [D.py, PyData.canLay0]
  | .str s, h => by simpa [D.py, PyData.canLay0, D.plain, PyData.strOk] using h
  | .tup xs, h => by simp only [D.py, PyData.canLay0]; exact D.py_layL xs (by simpa [D.plain] using h)
  | .lst xs, h => by simp only [D.py, PyData.canLay0]; exact D.py_layL xs (by simpa [D.plain] using h)
  | .dct _, h => by simp [D.plain] at h
  | .tok _, h => by simp [D.plain] at h
theorem D.py_layL : ∀ d : List D, D.plainL d = true → PyData.canLayAll0 (D.pyL d) = true
  | [], _ => by simp [D.pyL, PyData.canLayAll0]
  | d :: ds, h => by
    rw [D.plainL, Bool.and_eq_true] at h
    simp only [D.pyL, PyData.canLayAll0, D.py_lay d h.1, D.py_layL ds h.2, Bool.and_self]
end
mutual
theorem D.py_dep : ∀ d : D, d.py.depth = d.dep
  | .non => by simp [D.py, PyData.depth, D.dep]
  | .bl _ => by simp [D.py, PyData.depth, D.dep]
  | .int _ => by simp [D.py, PyData.depth, D.dep]
  | .str s => by simp [D.py, PyData.depth, D.dep]
  | .tup xs => by simp only [D.py, PyData.depth, D.dep, D.py_depL xs]
  | .lst xs => by simp only [D.py, PyData.depth, D.dep, D.py_depL xs]
  | .dct _ => by simp [D.py, PyData.depth, D.dep]
  | .tok _ => by simp [D.py, PyData.depth, D.dep]
theorem D.py_depL : ∀ d : List D, PyData.depthAll (D.pyL d) = D.depL d
  | [] => by simp [D.pyL, PyData.depthAll, D.depL]
  | d :: ds => by simp only [D.pyL, PyData.depthAll, D.depL, D.py_dep d, D.py_depL ds]
end
theorem D.pyL_map : ∀ ds : List D, D.pyL ds = ds.map D.py
  | [] => rfl
  | d :: ds => by simp only [D.pyL, List.map_cons, D.pyL_map ds]
theorem D.sm_plain {d : D} (h : d.sm = true) : d.plain = true := by unfold D.sm at h; rw [Bool.and_eq_true] at h; exact h.1
theorem D.sm_dep {d : D} (h : d.sm = true) : d.dep ≤ 50 := by unfold D.sm at h; rw [Bool.and_eq_true] at h; exact of_decide_eq_true h.2
theorem D.sm_shaped {d : D} (h : d.sm = true) : SeqAt.shaped d.py = true := by
  unfold SeqAt.shaped
  rw [Bool.and_eq_true]
  have h2 := D.sm_dep h
  exact ⟨D.py_lay d (D.sm_plain h), decide_eq_true (by rw [D.py_dep]; omega)⟩

section
variable {fn : Nat → Option V} {X : Cx}

/-! ### arithmetic -/
theorem bigOk_lt {i : Int} (h : bigOk i = true) : i.natAbs < 2 ^ 30000 := of_decide_eq_true h
theorem d_add : OpR X (binaryOp .Add) (rD2 (pm X fn) opAdd) := by
  intro pins s σ H x y v u Q I rx ry h
  obtain ⟨bo, F, b, W, d, e, r, hd, he, hg, q⟩ := h
  unfold opAdd at hg
  split at hg
  · cases hg
    rw [hd.int] at rx; rw [he.int] at ry
    exact op_add pins s σ H _ _ v u Q I rx ry ⟨_, _, rfl, rfl, q _ F H (Grow.refl W.dom) W.box (by simp [Rp])⟩
  · split at hg
    · rename_i hz
      cases hg
      rw [hd.str] at rx; rw [he.str] at ry
      exact op_add_str pins s σ H _ _ v u Q I rx ry ⟨_, _, rfl, rfl, hz, q _ F H (Grow.refl W.dom) W.box (by simp [Rp])⟩
    · cases hg
  · split at hg
    · rename_i xs ys hz
      cases hg
      obtain ⟨a, vs, rfl, s1, z1, r1⟩ := hd.tup
      obtain ⟨a', vs', rfl, s2, z2, r2⟩ := he.tup
      refine op_catA pins s σ H _ _ v u Q I rx ry ⟨a, a', vs, vs', rfl, rfl, s1, s2, by rw [r1.length, r2.length]; exact hz, fun e => ?_, fun _ e => ?_, fun _ _ p hp => ?_⟩
      · have e0 : xs = [] := by have := r1.length; rw [e] at this; exact List.eq_nil_of_length_eq_zero this.symm
        refine q _ F H (Grow.refl W.dom) W.box ?_
        simp only [Rp]
        exact ⟨a', vs', rfl, s2, z2, by rw [e0]; exact r2⟩
      · have e0 : ys = [] := by have := r2.length; rw [e] at this; exact List.eq_nil_of_length_eq_zero this.symm
        refine q _ F H (Grow.refl W.dom) W.box ?_
        simp only [Rp]
        exact ⟨a, vs, rfl, s1, z1, by rw [e0, List.append_nil]; exact r1⟩
      · obtain ⟨g, hb, rr⟩ := new_tup W hp (r1.append r2) (by rw [List.length_append, r1.length, r2.length]; exact hz)
        exact q _ _ _ g hb rr
    · cases hg
  · split at hg
    · rename_i hz
      cases hg
      obtain ⟨a, vs, rfl, s1, z1, r1⟩ := hd.lst
      obtain ⟨a', vs', rfl, s2, z2, r2⟩ := he.lst
      refine op_cat pins s σ H _ _ v u Q I rx ry ⟨a, a', vs, vs', rfl, rfl, s1, s2, by rw [r1.length, r2.length]; exact hz, fun p hp => ?_⟩
      obtain ⟨g, hb, rr⟩ := new_lst W hp (r1.append r2) (by rw [List.length_append, r1.length, r2.length]; exact hz)
      exact q _ _ _ g hb rr
    · cases hg
  · cases hg
theorem d_sub : OpR X (binaryOp .Sub) (rD2 (pm X fn) opSub) := by
  intro pins s σ H x y v u Q I rx ry h
  obtain ⟨bo, F, b, W, d, e, r, hd, he, hg, q⟩ := h
  unfold opSub at hg
  split at hg
  · cases hg
    rw [hd.int] at rx; rw [he.int] at ry
    exact op_sub pins s σ H _ _ v u Q I rx ry ⟨_, _, rfl, rfl, q _ F H (Grow.refl W.dom) W.box (by simp [Rp])⟩
  · cases hg
theorem d_fdiv : OpR X (binaryOp .FloorDiv) (rD2 (pm X fn) opFdiv) := by
  intro pins s σ H x y v u Q I rx ry h
  obtain ⟨bo, F, b, W, d, e, r, hd, he, hg, q⟩ := h
  unfold opFdiv at hg
  split at hg
  · split at hg
    · rename_i hz
      cases hg
      rw [hd.int] at rx; rw [he.int] at ry
      exact op_fdivN pins s σ H _ _ v u Q I rx ry ⟨_, _, rfl, rfl, hz, q _ F H (Grow.refl W.dom) W.box (by simp [Rp])⟩
    · cases hg
  · cases hg
theorem d_mod : OpR X (binaryOp .Mod) (rD2 (pm X fn) opMod) := by
  intro pins s σ H x y v u Q I rx ry h
  obtain ⟨bo, F, b, W, d, e, r, hd, he, hg, q⟩ := h
  unfold opMod at hg
  split at hg
  · split at hg
    · rename_i hz
      cases hg
      rw [hd.int] at rx; rw [he.int] at ry
      exact op_modN pins s σ H _ _ v u Q I rx ry ⟨_, _, rfl, rfl, hz, q _ F H (Grow.refl W.dom) W.box (by simp [Rp])⟩
    · cases hg
  · cases hg
theorem d_neg : UnR X (unaryOp .USub) (rD1 (pm X fn) opNeg) := by
  intro pins s σ H x v Q I rx h
  obtain ⟨bo, F, b, W, d, r, hd, hg, q⟩ := h
  unfold opNeg at hg
  split at hg
  · cases hg
    rw [hd.int] at rx
    exact un_neg pins s σ H _ v Q I rx ⟨_, rfl, q _ F H (Grow.refl W.dom) W.box (by simp [Rp])⟩
  · cases hg
/-! #### products -/
theorem RpL.flatten {m : Pm} {bo : Bo} {F : Addr → Prop} {H : Hp} {ds : List D} {vs : List V} (h : RpL m bo F H ds vs) : ∀ n, RpL m bo F H (List.replicate n ds).flatten (List.replicate n vs).flatten
  | 0 => by simp [RpL]
  | n + 1 => by
    rw [List.replicate_succ, List.flatten_cons, List.replicate_succ, List.flatten_cons]
    exact h.append (RpL.flatten h n)
theorem tuple_mulSame (l : Addr) (items : Array Value) (n : Nat) (x : Int) (u : Tok) (c0 : (decide (x < -(2 ^ 63)) || decide (x ≥ 2 ^ 63)) = false) (c1 : (items.isEmpty || x == 1) = true) (dd : Option Addr) (sl : Array (Option Value)) :
    Meets (Builtin.«tuple.__mul__» ⟨[.ref l, .int x u], []⟩) (fun _ R s => s.heap.get? l = some { cls := .type "tuple", dict := dd, data := .seq items n, slots := sl } ∧
      R (.ok (.ret (Value.ref l))) s) :=
  .of_wp fun prog w A R s h => by
    obtain ⟨hp, g, d, tk, os⟩ := s
    obtain ⟨hl, h⟩ := h
    have f1 := AutoSeq1.idx_int
    wp_walk using AutoSeq1.wpAny_loadPart' hl
    repeat (first
      | (refine wpAny_ite_false (decide_eq_false (by rw [c0]; exact Bool.false_ne_true)) ?_; wp_walk using AutoSeq1.wpAny_loadPart' hl)
      | (refine wpAny_ite_true (decide_eq_true (by rw [c1])) ?_; wp_walk using AutoSeq1.wpAny_loadPart' hl))
    exact ⟨_, rfl, h⟩
theorem tuple_mulNone (l : Addr) (items : Array Value) (n : Nat) (x : Int) (u : Tok) (c0 : (decide (x < -(2 ^ 63)) || decide (x ≥ 2 ^ 63)) = false) (c1 : (items.isEmpty || x == 1) = false) (c2 : (decide (x ≤ 0) || items.isEmpty) = true) (dd : Option Addr) (sl : Array (Option Value)) :
    Meets (Builtin.«tuple.__mul__» ⟨[.ref l, .int x u], []⟩) (fun _ R s => s.heap.get? l = some { cls := .type "tuple", dict := dd, data := .seq items n, slots := sl } ∧
      R (.ok (.ret (Value.ref s.heap.objs.size))) { s with heap := s.heap.push { cls := Value.type "tuple", data := Data.seq #[] }, toks := s.toks }) :=
  .of_wp fun prog w A R s h => by
    obtain ⟨hp, g, d, tk, os⟩ := s
    obtain ⟨hl, h⟩ := h
    have f1 := AutoSeq1.idx_int
    wp_walk using AutoSeq1.wpAny_loadPart' hl
    repeat (first
      | (refine wpAny_ite_false (decide_eq_false (by rw [c0]; exact Bool.false_ne_true)) ?_; wp_walk using AutoSeq1.wpAny_loadPart' hl)
      | (refine wpAny_ite_false (decide_eq_false (by rw [c1]; exact Bool.false_ne_true)) ?_; wp_walk using AutoSeq1.wpAny_loadPart' hl)
      | (refine wpAny_ite_true (decide_eq_true (by rw [c2])) ?_; wp_walk using AutoSeq1.wpAny_loadPart' hl)
      | (refine wpAny_ite_false (by decide) ?_; wp_walk using AutoSeq1.wpAny_loadPart' hl))
    exact ⟨_, rfl, h⟩
theorem d_mul : OpR X (binaryOp .Mult) (rD2 (pm X fn) opMul) := by
  intro pins s σ H x y v u Q I rx ry h
  obtain ⟨bo, F, b, W, d, e, r, hd, he, hg, q⟩ := h
  unfold opMul at hg
  split at hg
  · split at hg
    · rename_i i j hz
      cases hg
      rw [hd.int] at rx; rw [he.int] at ry
      have q' := q (.int (i * j)) F H (Grow.refl W.dom) W.box (by simp [Rp])
      unfold mulOk at hz
      rw [Bool.or_eq_true, Bool.or_eq_true] at hz
      rcases hz with (hz | hz) | hz
      · have hz := of_decide_eq_true hz
        exact op_mul pins s σ H _ _ v u Q I rx ry ⟨_, _, rfl, rfl, .inl ⟨by omega, by omega⟩, q'⟩
      · have hz := of_decide_eq_true hz
        exact op_mul pins s σ H _ _ v u Q I rx ry ⟨_, _, rfl, rfl, .inr ⟨by omega, by omega⟩, q'⟩
      · rw [Bool.and_eq_true] at hz
        exact op_mulW pins s σ H _ _ v u Q I rx ry ⟨_, _, rfl, rfl, wide_mul (bigOk_lt hz.1) (bigOk_lt hz.2) (by decide) (by decide) (by decide), q'⟩
    · cases hg
  · split at hg
    · rename_i xs k hz
      cases hg
      obtain ⟨a, vs, rfl, s1, z1, r1⟩ := hd.lst
      rw [he.int] at ry
      refine op_rep pins s σ H _ _ v u Q I rx ry ⟨a, k, vs, rfl, rfl, s1, by omega, by omega, by rw [r1.length]; exact hz.2.2, fun p hp => ?_⟩
      obtain ⟨g, hb, rr⟩ := new_lst W hp (r1.flatten k.toNat) (by rw [PyProof.Rows.lm_len_rep_flat, r1.length, Nat.mul_comm]; exact hz.2.2)
      exact q _ _ _ g hb rr
    · cases hg
  · split at hg
    · rename_i xs k hz
      cases hg
      obtain ⟨a, vs, rfl, s1, z1, r1⟩ := hd.tup
      rw [he.int] at ry
      obtain ⟨hz1, hz2, hz3⟩ := hz
      have fresh : H s.heap.objs.size = none := I.hok.fresh (Nat.le_refl _)
      by_cases h2 : vs ≠ [] ∧ 2 ≤ k
      · refine op_repT pins s σ H _ _ v u Q I rx ry ⟨a, k, vs, rfl, rfl, s1, h2.1, h2.2, hz1, by rw [r1.length]; exact hz3, fun p hp => ?_⟩
        obtain ⟨g, hb, rr⟩ := new_tup W hp (r1.flatten k.toNat) (by rw [PyProof.Rows.lm_len_rep_flat, r1.length, sizeLine_eq]; have a1 : k.toNat * xs.length ≤ 1000 * 1000 := Nat.mul_le_mul (by omega) hz3; omega)
        exact q _ _ _ g hb rr
      · cases rx
        obtain ⟨t, rfl⟩ := ry
        obtain ⟨its, ri, ⟨⟨cls, dd, data, sl⟩, ho, hc, n, hd'⟩, hs⟩ := I.tuple s1
        simp only at hc hd'
        subst hc hd'
        have hle : its.length = vs.length := ri.length.symm
        have c0 : (decide (k < -(2 ^ 63)) || decide (k ≥ 2 ^ 63)) = false := by
          rw [decide_eq_false (by omega), decide_eq_false (by omega)] <;> rfl
        have emp : its.toArray.isEmpty = vs.isEmpty := by
          cases its <;> cases vs <;> simp_all
        by_cases c1 : (its.toArray.isEmpty || k == 1) = true
        · refine wpAny_binaryOp_repeat_ref (T := "tuple") (U := "int") (by decide) ⟨_, ho, rfl⟩ (fun s' => typeIs_int s' k t) noFill_tuple_mul PySem.F.fills_int_mul PySem.F.slot_int_rmul repeat_tuple PySem.F.slot_int_index.lookup
            (call_meets PySem.F.slot_int_rmul (typeIs_int s k t) PySem.F.entry_int_rmul (PySem.F.args_int_rmul_2 _ _) (int_rmul_tuple k t a its.toArray n dd sl)
              ⟨ho, rfl, ⟨_, ho, rfl⟩, call_meets PySem.F.slot_tuple_mul ⟨_, ho, rfl⟩ PySem.F.entry_tuple_mul (PySem.F.args_tuple_mul_2 _ _) (tuple_mulSame a its.toArray n k t c0 c1 dd sl) ⟨ho, ?_⟩⟩)
          refine ⟨.ref a, H, I, rfl, q _ F H (Grow.refl W.dom) W.box ?_⟩
          simp only [Rp]
          refine ⟨a, vs, rfl, s1, z1, ?_⟩
          rw [Bool.or_eq_true] at c1
          rcases c1 with c1 | c1
          · rw [emp, List.isEmpty_iff] at c1
            have := r1.length
            rw [c1] at this
            have e0 : xs = [] := List.eq_nil_of_length_eq_zero this.symm
            subst e0
            simp [RpL, c1]
          · have e1 : k = 1 := by simpa using c1
            subst e1
            simpa using r1
        · have c1' : (its.toArray.isEmpty || k == 1) = false := by simpa using c1
          have k0 : k ≤ 0 := by
            rw [Bool.or_eq_false_iff] at c1'
            have hv : vs ≠ [] := fun e => by rw [emp, e] at c1'; simp at c1'
            have hk : k ≠ 1 := by simpa using c1'.2
            have : ¬ 2 ≤ k := fun z => h2 ⟨hv, z⟩
            omega
          have c2 : (decide (k ≤ 0) || its.toArray.isEmpty) = true := by rw [decide_eq_true k0]; rfl
          refine wpAny_binaryOp_repeat_ref (T := "tuple") (U := "int") (by decide) ⟨_, ho, rfl⟩ (fun s' => typeIs_int s' k t) noFill_tuple_mul PySem.F.fills_int_mul PySem.F.slot_int_rmul repeat_tuple PySem.F.slot_int_index.lookup
            (call_meets PySem.F.slot_int_rmul (typeIs_int s k t) PySem.F.entry_int_rmul (PySem.F.args_int_rmul_2 _ _) (int_rmul_tuple k t a its.toArray n dd sl)
              ⟨ho, rfl, ⟨_, ho, rfl⟩, call_meets PySem.F.slot_tuple_mul ⟨_, ho, rfl⟩ PySem.F.entry_tuple_mul (PySem.F.args_tuple_mul_2 _ _) (tuple_mulNone a its.toArray n k t c0 c1' c2 dd sl) ⟨ho, ?_⟩⟩)
          have e0 : (List.replicate k.toNat xs).flatten = [] := by rw [Int.toNat_of_nonpos k0]; rfl
          obtain ⟨g, hb, rr⟩ := new_tup (m := pm X fn) W fresh (ds := []) (vs := []) RpL.nil (by simp)
          refine ⟨.ref s.heap.objs.size, _, I.laid (t' := s.toks) (o := .tup []) (fun b ob q => Heap.get?_push_of_some _ q) (Nat.le_refl _) ?_, rfl, q _ _ _ g hb (by rw [e0]; exact rr)⟩
          exact ⟨by simp, [], .nil, ⟨_, Heap.get?_push_size _ rfl, rfl, _, rfl⟩⟩
    · cases hg
  · cases hg

/-! ### comparisons -/
theorem o_bl {Q : VK} {bo : Bo} {F : Addr → Prop} {H : Hp} {b : Bx} {m : Pm} {k : Bool} (W : Wo bo F H b) (q : ∀ v F' H', Grow bo F H F' H' → BoxOk bo F' H' b → Rp m bo F' H' (.bl k) v → Q v H') : Q (.bl k) H :=
  q _ F H (Grow.refl W.dom) W.box (by simp [Rp])
theorem d_eq (hu : X.A.units + 64 < cLine) : OpR X (compareOp .Eq) (rD2 (pm X fn) opEq) := by
  intro pins s σ H x y v u Q I rx ry h
  obtain ⟨bo, F, b, W, d, e, r, hd, he, hg, q⟩ := h
  unfold opEq eqD at hg
  split at hg
  · rename_i hz
    cases hg
    exact op_eqD hu pins s σ H x y v u Q I rx ry ⟨_, _, hd.dp (D.sm_plain hz.1), he.dp (D.sm_plain hz.2), D.sm_shaped hz.1, D.sm_shaped hz.2, o_bl W q⟩
  · cases hg
theorem d_ne (hu : X.A.units + 64 < cLine) : OpR X (compareOp .NotEq) (rD2 (pm X fn) opNe) := by
  intro pins s σ H x y v u Q I rx ry h
  obtain ⟨bo, F, b, W, d, e, r, hd, he, hg, q⟩ := h
  unfold opNe eqD at hg
  split at hg
  · rename_i hz
    cases hg
    exact op_neD hu pins s σ H x y v u Q I rx ry ⟨_, _, hd.dp (D.sm_plain hz.1), he.dp (D.sm_plain hz.2), D.sm_shaped hz.1, D.sm_shaped hz.2, o_bl W q⟩
  · cases hg
theorem ltD_cases {d e : D} {k : Bool} (h : ltD d e = some k) : (∃ i j, d = .int i ∧ e = .int j ∧ k = decide (i < j)) ∨ (d.sm = true ∧ e.sm = true ∧ d ≠ .non ∧ PySem.W.alike d.py e.py = true ∧ k = PySem.W.dataLt d.py e.py) := by
  unfold ltD at h
  split at h
  · cases h; exact .inl ⟨_, _, rfl, rfl, rfl⟩
  · split at h
    · rename_i hz
      cases h
      exact .inr ⟨hz.1, hz.2.1, hz.2.2.1, hz.2.2.2, rfl⟩
    · cases h
theorem D.py_non {d : D} (h : d.plain = true) (n : d ≠ .non) : d.py ≠ .none := by
  cases d <;> simp_all [D.py, D.plain]
theorem alike_non {d : D} {e : PyData} (h : PySem.W.alike d.py e = true) (n : e ≠ .none) : d.py ≠ .none := by
  intro z
  rw [z] at h
  cases e <;> simp_all [PySem.W.alike]
theorem RpO.reads {pins : List (Addr × Obj)} {s : Shared} {σ : St} {H : Hp} {bo : Bo} {F : Addr → Prop} {d : D} {v : V} {u : Value} (I : Inv X pins σ H s) (hd : RpO (pm X fn) bo F H d v) (h : d.sm = true) (r : RelV v u) : ∃ as, Reads s.heap u d.py as :=
  Dp.reads I d.py v u (hd.dp (D.sm_plain h)) r
theorem min_dep {X : Cx} {d e : D} (hu : X.A.units + 64 < cLine) (h : d.sm = true) : X.A.units + min d.py.depth e.py.depth < cLine := by
  have := D.sm_dep h
  rw [D.py_dep]
  have h2 : min d.dep e.py.depth ≤ d.dep := Nat.min_le_left _ _
  omega
theorem d_lt (hu : X.A.units + 64 < cLine) : OpR X (compareOp .Lt) (rD2 (pm X fn) opLt) := by
  intro pins s σ H x y v u Q I rx ry h
  obtain ⟨bo, F, b, W, d, e, r, hd, he, hg, q⟩ := h
  unfold opLt at hg
  cases hk : ltD d e with
  | none => rw [hk] at hg; cases hg
  | some k =>
    rw [hk] at hg; cases hg
    rcases ltD_cases hk with ⟨i, j, rfl, rfl, rfl⟩ | ⟨h1, h2, h3, h4, rfl⟩
    · rw [hd.int] at rx; rw [he.int] at ry
      exact op_lt pins s σ H _ _ v u Q I rx ry ⟨_, _, rfl, rfl, o_bl W q⟩
    · obtain ⟨as, ra⟩ := hd.reads I h1 rx
      obtain ⟨bs, rb⟩ := he.reads I h2 ry
      exact PySem.W.lt_data ra rb h4 (D.py_non (D.sm_plain h1) h3) (min_dep hu h1) ⟨.bl _, H, I, rfl, o_bl W q⟩
theorem d_ge (hu : X.A.units + 64 < cLine) : OpR X (compareOp .GtE) (rD2 (pm X fn) opGe) := by
  intro pins s σ H x y v u Q I rx ry h
  obtain ⟨bo, F, b, W, d, e, r, hd, he, hg, q⟩ := h
  unfold opGe at hg
  cases hk : ltD d e with
  | none => rw [hk] at hg; cases hg
  | some k =>
    rw [hk] at hg; cases hg
    rcases ltD_cases hk with ⟨i, j, rfl, rfl, rfl⟩ | ⟨h1, h2, h3, h4, rfl⟩
    · rw [hd.int] at rx; rw [he.int] at ry
      have e1 : decide (j ≤ i) = !decide (i < j) := by rw [← decide_not]; exact decide_eq_decide.mpr (by omega)
      exact op_ge pins s σ H _ _ v u Q I rx ry ⟨_, _, rfl, rfl, by show Q (.bl (decide (j ≤ i))) H; rw [e1]; exact o_bl W q⟩
    · obtain ⟨as, ra⟩ := hd.reads I h1 rx
      obtain ⟨bs, rb⟩ := he.reads I h2 ry
      exact PySem.W.ge_data ra rb h4 (D.py_non (D.sm_plain h1) h3) (min_dep hu h1) ⟨.bl _, H, I, rfl, o_bl W q⟩
theorem d_gt (hu : X.A.units + 64 < cLine) : OpR X (compareOp .Gt) (rD2 (pm X fn) opGt) := by
  intro pins s σ H x y v u Q I rx ry h
  obtain ⟨bo, F, b, W, d, e, r, hd, he, hg, q⟩ := h
  unfold opGt at hg
  cases hk : ltD e d with
  | none => rw [hk] at hg; cases hg
  | some k =>
    rw [hk] at hg; cases hg
    rcases ltD_cases hk with ⟨i, j, rfl, rfl, rfl⟩ | ⟨h1, h2, h3, h4, rfl⟩
    · rw [hd.int] at rx; rw [he.int] at ry
      exact op_gt pins s σ H _ _ v u Q I rx ry ⟨_, _, rfl, rfl, o_bl W q⟩
    · obtain ⟨as, ra⟩ := hd.reads I h2 rx
      obtain ⟨bs, rb⟩ := he.reads I h1 ry
      have h5 : PySem.W.alike d.py e.py = true := (PySem.W.alike_comm _ _).trans h4
      exact PySem.W.gt_data ra rb h5 (alike_non h5 (D.py_non (D.sm_plain h1) h3)) (min_dep hu h2) ⟨.bl _, H, I, rfl, o_bl W q⟩
theorem d_le (hu : X.A.units + 64 < cLine) : OpR X (compareOp .LtE) (rD2 (pm X fn) opLe) := by
  intro pins s σ H x y v u Q I rx ry h
  obtain ⟨bo, F, b, W, d, e, r, hd, he, hg, q⟩ := h
  unfold opLe at hg
  cases hk : ltD e d with
  | none => rw [hk] at hg; cases hg
  | some k =>
    rw [hk] at hg; cases hg
    rcases ltD_cases hk with ⟨i, j, rfl, rfl, rfl⟩ | ⟨h1, h2, h3, h4, rfl⟩
    · rw [hd.int] at rx; rw [he.int] at ry
      have e1 : decide (j ≤ i) = !decide (i < j) := by rw [← decide_not]; exact decide_eq_decide.mpr (by omega)
      exact op_le pins s σ H _ _ v u Q I rx ry ⟨_, _, rfl, rfl, by show Q (.bl (decide (j ≤ i))) H; rw [e1]; exact o_bl W q⟩
    · obtain ⟨as, ra⟩ := hd.reads I h2 rx
      obtain ⟨bs, rb⟩ := he.reads I h1 ry
      have h5 : PySem.W.alike d.py e.py = true := (PySem.W.alike_comm _ _).trans h4
      exact PySem.W.le_data ra rb h5 (alike_non h5 (D.py_non (D.sm_plain h1) h3)) (min_dep hu h2) ⟨.bl _, H, I, rfl, o_bl W q⟩
/-! #### is -/
theorem Rp.not_non {m : Pm} {bo : Bo} {F : Addr → Prop} {H : Hp} {d : D} {v : V} (h : RpO m bo F H d v) (n : d ≠ .non) (t : ∀ k, d ≠ .tok k) : v ≠ .non := by
  rcases h with h | ⟨a, rfl, _⟩
  · cases d with
    | non => exact absurd rfl n
    | bl b => simp only [Rp] at h; subst h; exact fun z => nomatch z
    | int b => simp only [Rp] at h; subst h; exact fun z => nomatch z
    | str b => simp only [Rp] at h; subst h; exact fun z => nomatch z
    | tup ds => simp only [Rp] at h; obtain ⟨a, vs, rfl, _⟩ := h; exact fun z => nomatch z
    | lst ds => simp only [Rp] at h; obtain ⟨a, vs, rfl, _⟩ := h; exact fun z => nomatch z
    | dct ds => simp only [Rp] at h; obtain ⟨a, rfl, _⟩ := h; exact fun z => nomatch z
    | tok k => exact absurd rfl (t k)
  · exact fun z => nomatch z
theorem isN_dec {m : Pm} {bo : Bo} {F : Addr → Prop} {H : Hp} {d : D} {v : V} {r : D} (h : RpO m bo F H d v) (e : opIsN d = some r) : r = .bl (decide (v = .non)) := by
  unfold opIsN at e
  split at e
  · cases e
  · cases e
    have := h.non
    subst this
    simp
  · rename_i n2 n1
    cases e
    have := Rp.not_non h n1 n2
    simp [this]
theorem notN_dec {m : Pm} {bo : Bo} {F : Addr → Prop} {H : Hp} {d : D} {v : V} {r : D} (h : RpO m bo F H d v) (e : opNotN d = some r) : r = .bl (!decide (v = .non)) := by
  unfold opNotN at e
  split at e
  · cases e
  · cases e
    have := h.non
    subst this
    simp
  · rename_i n2 n1
    cases e
    have := Rp.not_non h n1 n2
    simp [this]
def opIsN2 (d e : D) : Option D := match e with
  | .non => opIsN d
  | _ => none
def opNotN2 (d e : D) : Option D := match e with
  | .non => opNotN d
  | _ => none
theorem d_isN : OpR X (compareOp .Is) (rD2 (pm X fn) opIsN2) := by
  intro pins s σ H x y v u Q I rx ry h
  obtain ⟨bo, F, b, W, d, e, r, hd, he, hg, q⟩ := h
  unfold opIsN2 at hg
  split at hg
  · have e1 := isN_dec hd hg
    subst e1
    exact op_isN pins s σ H x y v u Q I rx ry ⟨he.non, o_bl W q⟩
  · cases hg
theorem d_notN : OpR X (compareOp .IsNot) (rD2 (pm X fn) opNotN2) := by
  intro pins s σ H x y v u Q I rx ry h
  obtain ⟨bo, F, b, W, d, e, r, hd, he, hg, q⟩ := h
  unfold opNotN2 at hg
  split at hg
  · have e1 := notN_dec hd hg
    subst e1
    exact op_notN pins s σ H x y v u Q I rx ry ⟨he.non, o_bl W q⟩
  · cases hg
theorem d_isB : OpR X (compareOp .Is) (rD2 (pm X fn) opIsB) := by
  intro pins s σ H x y v u Q I rx ry h
  obtain ⟨bo, F, b, W, d, e, r, hd, he, hg, q⟩ := h
  unfold opIsB at hg
  split at hg
  · cases hg
    rw [hd.bl] at rx; rw [he.bl] at ry
    exact op_isBl pins s σ H _ _ v u Q I rx ry ⟨_, _, rfl, rfl, o_bl W q⟩
  · cases hg
theorem d_isntB : OpR X (compareOp .IsNot) (rD2 (pm X fn) opIsntB) := by
  intro pins s σ H x y v u Q I rx ry h
  obtain ⟨bo, F, b, W, d, e, r, hd, he, hg, q⟩ := h
  unfold opIsntB at hg
  split at hg
  · cases hg
    rw [hd.bl] at rx; rw [he.bl] at ry
    exact op_isnot_bl pins s σ H _ _ v u Q I rx ry ⟨_, _, rfl, rfl, o_bl W q⟩
  · cases hg
/-! #### in -/
theorem any_py {ds : List D} {x : D} : (D.pyL ds).any (fun z => PyData.eqv z x.py) = ds.any fun z => PyData.eqv z.py x.py := by
  rw [D.pyL_map, List.any_map]
  rfl
theorem in_room {X : Cx} {ds : List D} {x : D} (hu : X.A.units + 65 < cLine) (h : x.sm = true) : X.A.units + 1 + min (PyData.depthAll (D.pyL ds)) x.py.depth < cLine := by
  have := D.sm_dep h
  rw [D.py_dep x]
  have h2 : min (PyData.depthAll (D.pyL ds)) x.dep ≤ x.dep := Nat.min_le_right _ _
  omega
theorem d_in (hu : X.A.units + 65 < cLine) : OpR X (compareOp .In) (rD2 (pm X fn) opIn) := by
  intro pins s σ H x y v u Q I rx ry h
  obtain ⟨bo, F, b, W, d, e, r, hd, he, hg, q⟩ := h
  unfold opIn inD at hg
  cases e with
  | lst ds =>
    dsimp only at hg
    split at hg
    · rename_i hz
      cases hg
      obtain ⟨as, ra⟩ := hd.reads I hz.1 rx
      obtain ⟨bs, rb⟩ := he.reads I hz.2 ry
      have pl := D.py_layL ds (by simpa [D.plain] using D.sm_plain hz.2)
      exact SeqAt.in_list_reads (by simpa only [D.py] using rb) ra pl (D.py_lay d (D.sm_plain hz.1)) (in_room hu hz.1) ⟨.bl _, H, I, rfl, by rw [any_py]; exact o_bl W q⟩
    · cases hg
  | tup ds =>
    dsimp only at hg
    split at hg
    · rename_i hz
      cases hg
      obtain ⟨as, ra⟩ := hd.reads I hz.1 rx
      obtain ⟨bs, rb⟩ := he.reads I hz.2 ry
      have pl := D.py_layL ds (by simpa [D.plain] using D.sm_plain hz.2)
      exact SeqAt.in_tuple_reads (by simpa only [D.py] using rb) ra pl (D.py_lay d (D.sm_plain hz.1)) (in_room hu hz.1) ⟨.bl _, H, I, rfl, by rw [any_py]; exact o_bl W q⟩
    · cases hg
  | dct kvs =>
    obtain ⟨a, rfl, g⟩ := he.dct
    cases (show u = Value.ref a from ry)
    dsimp only at hg
    cases hk : dGet kvs d with
    | none => rw [hk] at hg; cases hg
    | some o =>
      rw [hk] at hg
      cases hg
      exact (dd_in (by omega) I g hd rx hk).1 fun s' I' => ⟨.bl _, H, I', rfl, o_bl W q⟩
  | _ => cases hg
theorem d_notIn (hu : X.A.units + 65 < cLine) : OpR X (compareOp .NotIn) (rD2 (pm X fn) opNotIn) := by
  intro pins s σ H x y v u Q I rx ry h
  obtain ⟨bo, F, b, W, d, e, r, hd, he, hg, q⟩ := h
  unfold opNotIn inD at hg
  cases e with
  | lst ds =>
    dsimp only at hg
    split at hg
    · rename_i hz
      cases hg
      obtain ⟨as, ra⟩ := hd.reads I hz.1 rx
      obtain ⟨bs, rb⟩ := he.reads I hz.2 ry
      have pl := D.py_layL ds (by simpa [D.plain] using D.sm_plain hz.2)
      exact SeqAt.notIn_list_reads (by simpa only [D.py] using rb) ra pl (D.py_lay d (D.sm_plain hz.1)) (in_room hu hz.1) ⟨.bl _, H, I, rfl, by rw [any_py]; exact o_bl W q⟩
    · cases hg
  | tup ds =>
    dsimp only at hg
    split at hg
    · rename_i hz
      cases hg
      obtain ⟨as, ra⟩ := hd.reads I hz.1 rx
      obtain ⟨bs, rb⟩ := he.reads I hz.2 ry
      have pl := D.py_layL ds (by simpa [D.plain] using D.sm_plain hz.2)
      exact SeqAt.notIn_tuple_reads (by simpa only [D.py] using rb) ra pl (D.py_lay d (D.sm_plain hz.1)) (in_room hu hz.1) ⟨.bl _, H, I, rfl, by rw [any_py]; exact o_bl W q⟩
    · cases hg
  | dct kvs =>
    obtain ⟨a, rfl, g⟩ := he.dct
    cases (show u = Value.ref a from ry)
    dsimp only at hg
    cases hk : dGet kvs d with
    | none => rw [hk] at hg; cases hg
    | some o =>
      rw [hk] at hg
      cases hg
      exact (dd_in (by omega) I g hd rx hk).2 fun s' I' => ⟨.bl _, H, I', rfl, o_bl W q⟩
  | _ => cases hg

/-! ### subscripts, slices -/
theorem RpL.atI {m : Pm} {bo : Bo} {F : Addr → Prop} {H : Hp} {ds : List D} {vs : List V} {i : Int} {d : D} (r : RpL m bo F H ds vs) (h : L2.atI ds i = some d) : ∃ v, L2.atI vs i = some v ∧ Rp m bo F H d v := by
  unfold L2.atI at h ⊢
  rw [r.length]
  cases hj : ixN ds.length i with
  | none => rw [hj] at h; cases h
  | some j =>
    rw [hj] at h
    exact r.get (by simpa using h)
theorem d_ix (hu : X.A.units + 64 < cLine) : IxR X (rD2 (pm X fn) ixD) := by
  intro value slice pins s σ H x y v u Q I rx ry h hs
  obtain ⟨bo, F, b, W, d, e, r, hd, he, hg, q⟩ := h
  unfold ixD at hg
  split at hg
  · obtain ⟨a, vs, rfl, s1, z1, r1⟩ := hd.tup
    rw [he.int] at ry
    obtain ⟨w, hw, rw'⟩ := r1.atI hg
    exact ix_tup value slice pins s σ H _ _ v u Q I rx ry ⟨a, vs, _, w, rfl, rfl, s1, hw, q _ F H (Grow.refl W.dom) W.box rw'⟩ hs
  · obtain ⟨a, vs, rfl, s1, z1, r1⟩ := hd.lst
    rw [he.int] at ry
    obtain ⟨w, hw, rw'⟩ := r1.atI hg
    exact ix_list value slice pins s σ H _ _ v u Q I rx ry ⟨a, vs, _, w, rfl, rfl, SqL.of s1, hw, q _ F H (Grow.refl W.dom) W.box rw'⟩ hs
  · split at hg
    · rename_i z i hz
      rw [hd.str] at rx; rw [he.int] at ry
      cases hc : L2.atI z.cps.toList i with
      | none => rw [hc] at hg; cases hg
      | some c =>
        rw [hc] at hg; cases hg
        exact ix_str value slice pins s σ H _ _ v u Q I rx ry ⟨z, i, c, rfl, rfl, hz, hc, q _ F H (Grow.refl W.dom) W.box (by simp [Rp])⟩ hs
    · cases hg
  · rename_i kvs
    obtain ⟨a, rfl, g⟩ := hd.dct
    cases (show v = Value.ref a from rx)
    cases hk : dGet kvs e with
    | none => rw [hk] at hg; cases hg
    | some o =>
      rw [hk] at hg
      obtain rfl : o = some r := hg
      refine tail_of PySem.F.slot_dict_getitem.lookup hs (g.type I).1 (dd_get (by omega) I g he ry hk fun v' w' s' I' rw' rp => ⟨v', H, I', rw', q _ F H (Grow.refl W.dom) W.box rp⟩)
  · cases hg
theorem RpL.cut {m : Pm} {bo : Bo} {F : Addr → Prop} {H : Hp} {ds : List D} {vs : List V} (r : RpL m bo F H ds vs) (lo hi : Option Int) : RpL m bo F H (cutD ds lo hi) (cutV vs lo hi) := by
  unfold cutD cutV
  rw [r.length]
  exact (r.drop _).take _
theorem d_sl : SlR X (rSl (pm X fn)) := by
  intro pins s σ H x v vl vu lo hi sl Q I rx hs pl pu h
  obtain ⟨bo, F, b, W, d, r, hd, hg, q⟩ := h
  unfold sliceD at hg
  split at hg
  · rename_i xs
    cases hg
    obtain ⟨a, vs, rfl, s1, z1, r1⟩ := hd.tup
    refine sl_tupA pins s σ H _ v vl vu lo hi sl Q I rx hs pl pu ⟨a, vs, s1 |> fun _ => rfl, s1, fun hw => ?_, fun _ p hp => ?_⟩
    · refine q _ F H (Grow.refl W.dom) W.box ?_
      simp only [Rp]
      refine ⟨a, vs, rfl, s1, z1, ?_⟩
      have e : cutV vs lo hi = vs := by
        unfold cutV
        rw [hw.1, hw.2, List.drop_zero, Nat.sub_zero, List.take_length]
      have := r1.cut lo hi
      rw [e] at this
      exact this
    · obtain ⟨g, hb, rr⟩ := new_tup W hp (r1.cut lo hi) (Nat.le_trans (cutV_length _ _ _) z1)
      exact q _ _ _ g hb rr
  · cases hg
    obtain ⟨a, vs, rfl, s1, z1, r1⟩ := hd.lst
    refine sl_list pins s σ H _ v vl vu lo hi sl Q I rx hs pl pu ⟨a, vs, rfl, SqL.of s1, fun p hp => ?_⟩
    obtain ⟨g, hb, rr⟩ := new_lst W hp (r1.cut lo hi) (Nat.le_trans (cutV_length _ _ _) z1)
    exact q _ _ _ g hb rr
  · split at hg
    · rename_i z hz
      cases hg
      rw [hd.str] at rx
      exact sl_str pins s σ H _ v vl vu lo hi sl Q I rx hs pl pu ⟨z, rfl, hz, q _ F H (Grow.refl W.dom) W.box (by simp [Rp])⟩
    · cases hg
  · cases hg
end
end Sv

set_option maxHeartbeats 4000000
/-! SvE: a dict's rows, read one after the other. -/
namespace Sv
open PySem PySem.Spec L2 PySem.W
section
variable {X : Cx} {s : Shared} {pins : List (Addr × Obj)} {σ : St} {H : Hp} {bo : Bo} {F : Addr → Prop} {fn : Nat → Option V} {m : Pm}
theorem vals_get : ∀ {vs : List V} {us : List Value}, vs.length = us.length → (∀ (i : Nat) v u, vs[i]? = some v → us[i]? = some u → RelV v u) → Vals vs us
  | [], [], _, _ => .nil
  | [], _ :: _, h, _ => by simp at h
  | _ :: _, [], h, _ => by simp at h
  | v :: vs, u :: us, h, k => .cons (k 0 v u rfl rfl) (vals_get (by simpa using h) fun i a b e1 e2 => k (i + 1) a b (by simpa using e1) (by simpa using e2))
theorem rp_keyD (k : Key) : Rp m bo F H (keyD k) (kV k) := by cases k <;> simp [keyD, kV, Rp]
theorem RpA.cols : ∀ {kvs : List (D × D)} {ws : List (Key × V)}, RpA m bo F H kvs ws → RpL m bo F H (kvs.map (·.1)) (ws.map fun w => kV w.1) ∧ RpL m bo F H (kvs.map (·.2)) (ws.map (·.2))
  | [], ws, h => by
    simp only [RpA] at h
    subst h
    exact ⟨by simp [RpL], by simp [RpL]⟩
  | (k, d) :: r, ws, h => by
    simp only [RpA] at h
    obtain ⟨k', v, r', rfl, rfl, h1, h2⟩ := h
    obtain ⟨c1, c2⟩ := RpA.cols h2
    refine ⟨?_, ?_⟩
    · simp only [List.map_cons, RpL]
      exact ⟨_, _, rfl, rp_keyD k', c1⟩
    · simp only [List.map_cons, RpL]
      exact ⟨_, _, rfl, h1, c2⟩
theorem RpC.cols : ∀ {rows : List (D × D)} {es : List (NestedKey × Addr × Value)}, RpC m bo F H rows es → RpL m bo F H (rows.map (·.1)) (es.map fun e => .ref e.2.1) ∧ ∃ vs, RpL m bo F H (rows.map (·.2)) vs ∧ Vals vs (es.map (·.2.2))
  | [], es, h => by
    simp only [RpC] at h
    subst h
    exact ⟨by simp [RpL], [], by simp [RpL], .nil⟩
  | (k, d) :: r, es, h => by
    simp only [RpC] at h
    obtain ⟨k', a, u, r', rfl, _, _, _, h1, ⟨v, rv, h2⟩, h3⟩ := h
    obtain ⟨c1, vs, c2, c3⟩ := RpC.cols h3
    refine ⟨?_, v :: vs, ?_, .cons rv c3⟩
    · simp only [List.map_cons, RpL]
      exact ⟨_, _, rfl, h1, c1⟩
    · simp only [List.map_cons, RpL]
      exact ⟨_, _, rfl, h2, c2⟩
/-- the rows of the dict at a, as they stand in the heap -/
theorem DAt.walk {kvs : List (D × D)} {a : Addr} (I : Inv X pins σ H s) (g : DAt (pmD X fn) bo F H kvs a) : (a == sysModules) = false ∧ ∃ (es : Array DictEntry) (ep : Nat), s.heap.DictRaw a es ep ∧ es.size ≤ sizeLine ∧ es.size = (rowsD kvs).length ∧
    ∃ ks vs : List V, RpL (pmD X fn) bo F H ((rowsD kvs).map (·.1)) ks ∧ RpL (pmD X fn) bo F H ((rowsD kvs).map (·.2)) vs ∧ Vals ks (es.toList.map (·.key)) ∧ Vals vs (es.toList.map (·.val)) := by
  rcases g with ⟨e, ra⟩ | ⟨e, rb⟩
  · rename_i ws
    obtain ⟨z, hd, rs, kv, dd⟩ := dk_rd I.hok e
    obtain ⟨es, ep, raw, hsz, hkv⟩ := dd.raw
    have hl : ws.length = rs.length := Paired.length kv
    rw [rowsD_k ra]
    obtain ⟨c1, c2⟩ := ra.cols
    refine ⟨hd, es, ep, raw, by rw [hsz, ← hl]; exact z, by rw [hsz, ← hl, ra.len], _, _, c1, c2, vals_get (by simp; omega) fun i v u e1 e2 => ?_, vals_get (by simp; omega) fun i v u e1 e2 => ?_⟩
    · rw [List.getElem?_map] at e1 e2
      cases h1 : ws[i]? with
      | none => rw [h1] at e1; cases e1
      | some p =>
        rw [h1] at e1; cases e1
        obtain ⟨k, w'⟩ := p
        obtain ⟨u', h2, r2⟩ := kv_get kv h1
        cases h3 : es.toList[i]? with
        | none => rw [h3] at e2; cases e2
        | some en =>
          rw [h3] at e2; cases e2
          have hi : i < es.size := by
            have := (List.getElem?_eq_some_iff.mp h3).1
            simpa using this
          have he : es[i] = en := by
            have := (List.getElem?_eq_some_iff.mp h3).2
            simpa using this
          have := (hkv i hi k u' h2).1
          rw [he] at this
          exact relV_key this
    · rw [List.getElem?_map] at e1 e2
      cases h1 : ws[i]? with
      | none => rw [h1] at e1; cases e1
      | some p =>
        rw [h1] at e1; cases e1
        obtain ⟨k, w'⟩ := p
        obtain ⟨u', h2, r2⟩ := kv_get kv h1
        cases h3 : es.toList[i]? with
        | none => rw [h3] at e2; cases e2
        | some en =>
          rw [h3] at e2; cases e2
          have hi : i < es.size := by
            have := (List.getElem?_eq_some_iff.mp h3).1
            simpa using this
          have he : es[i] = en := by
            have := (List.getElem?_eq_some_iff.mp h3).2
            simpa using this
          have := (hkv i hi k u' h2).2
          rw [he] at this
          show RelV w' en.val
          rw [this]
          exact r2
  · rename_i ds
    obtain ⟨z, hd, dd⟩ := dic_of I e rb.cut.2.1
    obtain ⟨es, ep, raw, hsz, hx⟩ := dd.raw
    rw [rowsD_t rb]
    obtain ⟨c1, vs, c2, c3⟩ := rb.cut.2.1.cols
    have hl := c3.length
    rw [List.length_map] at hl
    have key : ∀ (i : Nat) en, es.toList[i]? = some en → ∃ y, ds[i]? = some y ∧ en.key = .ref y.2.1 ∧ en.val = y.2.2 := fun i en h3 => by
      have hi : i < es.size := by
        have := (List.getElem?_eq_some_iff.mp h3).1
        simpa using this
      have he : es[i] = en := by
        have := (List.getElem?_eq_some_iff.mp h3).2
        simpa using this
      obtain ⟨y, h1, h2, h3, _⟩ := hx i hi
      rw [he] at h2 h3
      exact ⟨y, h1, h2, h3⟩
    refine ⟨hd, es, ep, raw, by rw [hsz]; exact z, by rw [hsz, rb.cut.2.1.len], _, vs, c1, c2, vals_get (by simp; omega) fun i v u e1 e2 => ?_, vals_get (by simp; omega) fun i v u e1 e2 => ?_⟩
    · rw [List.getElem?_map] at e1 e2
      cases h3 : es.toList[i]? with
      | none => rw [h3] at e2; cases e2
      | some en =>
        rw [h3] at e2; cases e2
        obtain ⟨y, h1, h2, _⟩ := key i en h3
        rw [h1] at e1; cases e1
        exact h2
    · rw [List.getElem?_map] at e2
      cases h3 : es.toList[i]? with
      | none => rw [h3] at e2; cases e2
      | some en =>
        rw [h3] at e2; cases e2
        obtain ⟨y, h1, _, h2⟩ := key i en h3
        show RelV v en.val
        rw [h2]
        obtain ⟨w', q1, q2⟩ := c3.get e1
        rw [List.getElem?_map, h1] at q1
        cases q1
        exact q2
end
end Sv

set_option maxHeartbeats 4000000
/-! Sv5: built-in functions, isinstance, x[::-1], sorted. -/
namespace Sv
open PySem L2
open PyProof.Rows (IsTup Subscript_ subscriptTail tail_any)

/-! ### t[::-1] -/
theorem adjust_rev (n : Nat) : Builtin.Slice.sliceAdjust none none (-1) (n : Int) = ((n : Int) - 1, -1) := by
  unfold Builtin.Slice.sliceAdjust
  simp
theorem places_rev (n : Nat) : Builtin.Slice.slicePlaces ((n : Int) - 1) (-1) (-1) = n := by
  unfold Builtin.Slice.slicePlaces
  rw [if_neg (by omega)]
  split
  · rw [show -(-1 : Int) = 1 from rfl, Int.ediv_one]; omega
  · omega
theorem pick_rev (xs : List Value) : ((List.range xs.length).filterMap fun (k : Nat) => xs[(((xs.length : Int) - 1) + (k : Int) * (-1)).toNat]?) = xs.reverse := by
  apply List.ext_getElem?
  intro i
  have key : ∀ (m : Nat), m ≤ xs.length → ((List.range m).filterMap fun (k : Nat) => xs[(((xs.length : Int) - 1) + (k : Int) * (-1)).toNat]?) = (xs.reverse).take m := by
    intro m
    induction m with
    | zero => intro _; simp
    | succ m ih =>
      intro hm
      rw [List.range_succ, List.filterMap_append, ih (by omega)]
      have e : (((xs.length : Int) - 1) + (m : Int) * (-1)).toNat = xs.length - 1 - m := by omega
      have hlt : xs.length - 1 - m < xs.length := by omega
      simp only [List.filterMap_cons, List.filterMap_nil, e, List.getElem?_eq_getElem hlt]
      rw [List.take_succ, List.getElem?_reverse (by omega), List.getElem?_eq_getElem hlt]
      rfl
  rw [key _ (Nat.le_refl _)]
  rw [List.take_of_length_le (by simp)]
section
variable {prog : Program} {w : World} {A : Around} {E : Value → Shared → Prop} {s : Shared}
theorem sliceApplied_rev {sl : Addr} {t : Tok} {n : Nat} {Q : Int × Int × Nat → Shared → Prop} (hs : s.heap.IsSliceOf sl .none .none (.int (-1) t))
    (h : Q ((n : Int) - 1, -1, n) s) : wpAny (model prog w) A (Builtin.Slice.sliceApplied (.ref sl) (pure (n : Int))) Q E s := by
  obtain ⟨os, hos, hcs, hds⟩ := id hs
  unfold Builtin.Slice.sliceApplied Builtin.Slice.sliceFields
  refine wpAny_bind (wpAny_bind (wpAny_field hos hds (x := .none) rfl (wpAny_bind (wpAny_field hos hds (x := .none) rfl (wpAny_bind (wpAny_field hos hds (x := .int (-1) t) rfl (wpAny_pure ?_)))))))
  refine wpAny_bind (HT.slicePart_ (.int (-1) t) ?_)
  show wpAny _ _ (if ((-1 : Int) == 0) = true then _ else _) _ _ s
  rw [if_neg (by decide)]
  refine wpAny_bind (HT.slicePart_ .none (wpAny_bind (HT.slicePart_ .none (wpAny_bind (wpAny_pure ?_)))))
  show wpAny _ _ (match Builtin.Slice.sliceAdjust none none (-1) (n : Int) with | (lo, hi) => pure (lo, (-1 : Int), Builtin.Slice.slicePlaces lo hi (-1))) _ _ s
  rw [adjust_rev]
  show wpAny _ _ (pure ((n : Int) - 1, (-1 : Int), Builtin.Slice.slicePlaces ((n : Int) - 1) (-1) (-1))) _ _ s
  rw [places_rev]
  exact wpAny_pure h
/-- behind t[::-1] stands a new tuple, or t itself where it is empty .. it is not told which -/
theorem getItem_tuple_rev {t sl : Addr} {items : List Value} {tk : Tok} {Q : Value → Shared → Prop} (ht : IsTup s.heap t items.toArray) (hs : s.heap.IsSliceOf sl .none .none (.int (-1) tk))
    (h : Q (.ref s.heap.objs.size) { s with heap := s.heap.push { cls := .type "tuple", data := .seq items.reverse.toArray } }) (hsz : items.length ≤ sizeLine) : wpAny (model prog w) A (getItem (.ref t) (.ref sl)) Q E s := by
  have htake : sizeOk (.seq items.reverse.toArray) := by
    show items.reverse.toArray.size ≤ sizeLine
    rw [List.size_toArray, List.length_reverse]; exact hsz
  obtain ⟨os, hos, hcs, hds⟩ := id hs
  have hTs : s.TypeIs (.ref sl) "slice" := ⟨os, hos, hcs⟩
  unfold getItem
  try with_reducible refine wpAny_holding ?_
  first | refine wpAny_bind (wpAny_pure ?_) | skip
  refine wpAny_bind (wpAny_sequenceKey ht.typeIs (by decide) ?_)
  refine wpAny_bind (wpAny_callSpecial?_slot (name := Str.ofString "__getitem__") ht.typeIs PyProof.Rows.slot_tuple_getitem (wpAny_call_entry PyProof.Rows.slot_tuple_getitem ht.typeIs PyProof.Rows.entry_tuple_getitem ?_ (PyProof.Rows.args_tuple_getitem _ _)))
  show wpAny _ _ (Builtin.Tuple.tupleItemsOf (.ref t) >>= _) _ _ s
  refine wpAny_bind (PyProof.Rows.tupleItemsOf_ ht ?_)
  refine wpAny_bind (wpAny_typeOf hTs ?_)
  rw [if_pos (by decide)]
  have e0 : ((items.toArray.size : Nat) : Int) = ((items.length : Nat) : Int) := by simp
  refine wpAny_bind (sliceApplied_rev (n := items.toArray.size) hs ?_)
  show wpAny _ _ (if (((((items.toArray.size : Nat) : Int) - 1) == 0 && (-1 : Int) == 1) && items.toArray.size == items.toArray.size) = true then _ else _) _ _ s
  rw [if_neg (by rw [show ((-1 : Int) == 1) = false from rfl]; simp)]
  have e1 : ((List.range items.toArray.size).filterMap fun (k : Nat) => items.toArray[((((items.toArray.size : Nat) : Int) - 1) + (k : Int) * (-1)).toNat]?).toArray = items.reverse.toArray := by
    have := pick_rev items
    simp only [List.size_toArray, List.getElem?_toArray]
    rw [this]
  rw [e1]
  first
    | exact wpAny_bind (m := Builtin.Tuple.tupleExact _) (wpAny_newObj_type (wpAny_pure ⟨_, rfl, wpAny_pure h⟩) htake)
    | exact wpAny_bind (m := Builtin.Tuple.tupleExact _) (wpAny_newObj_type (wpAny_bind (wpAny_pure (wpAny_pure ⟨_, rfl, wpAny_pure h⟩))) htake)
    | exact wpAny_bind (wpAny_bind (m := Builtin.Tuple.tupleExact _) (wpAny_newObj_type (wpAny_pure (wpAny_pure ⟨_, rfl, wpAny_pure h⟩)) htake))
    | exact wpAny_bind (wpAny_bind (m := Builtin.Tuple.tupleExact _) (wpAny_newObj_type (wpAny_pure ⟨_, rfl, wpAny_pure h⟩) htake))
end
section
variable {fn : Nat → Option V} {X : Cx} {e a : Expr} {es : List Expr} {f g : Ex} {pos : Pos}
/-- x[::-1] -/
theorem px_rev {k : Nat} {p1 p2 p3 : Pos} (he : PEo fn X e f) : PEx fn X (.Subscript e (.Slice none none (some (.UnaryOp .USub (.Constant (.int 1) k p1) p2)) p3) pos) (eUn revD f) := by
  refine ⟨fun pins s σ H Q I h => ?_⟩
  refine Subscript_ (thn (he.run pins s σ H _ I (one_o h)) fun v s1 ⟨x, H1, I1, r1, q1⟩ => ?_)
  obtain ⟨bo, F, b, W, d, r, hd, hg, q⟩ := q1
  have hst : PO X (some (.UnaryOp .USub (.Constant (.int 1) k p1) p2)) (tPart (tUn (rU fun i => .int (-i)) (tC (.int 1)))) := po_some (pe_un un_neg pe_int)
  refine wpAny_Slice (thn (po_none.run pins s1 σ H1 (fun o H2 => o = none ∧ H2 = H1) I1 ⟨rfl, rfl⟩) fun vl s2 ⟨l, H2, I2, pl, el, e2⟩ => ?_)
  subst el e2
  refine thn (po_none.run pins s2 σ H2 (fun o H3 => o = none ∧ H3 = H2) I2 ⟨rfl, rfl⟩) fun vu s3 ⟨u, H3, I3, pu, eu, e3⟩ => ?_
  subst eu e3
  refine thn (hst.run pins s3 σ H3 (fun o H4 => o = some (-1) ∧ H4 = H3) I3 ⟨1, rfl, -1, rfl, rfl, rfl⟩) fun vs s4 ⟨o, H4, I4, ps, eo, e4⟩ => ?_
  subst eo e4
  have I5 : Inv X pins σ H4 { s4 with heap := s4.heap.push { cls := .type "slice", data := .fields #[vl, vu, vs] } } := I4.kept (t' := s4.toks) fun b ob q => Heap.get?_push_of_some _ q
  have fresh := I5.hok.fresh (Nat.le_refl _)
  unfold revD at hg
  split at hg
  · cases hg
    obtain ⟨p, ws, rfl, s1', z1', r1'⟩ := hd.tup
    cases r1
    obtain ⟨its, r, ht, hz⟩ := I5.tuple s1'
    have hlen := r.length
    cases pl
    cases pu
    obtain ⟨tk, rfl⟩ : ∃ t, vs = .int (-1) t := by cases ps; exact ⟨_, rfl⟩
    show wpAny (model X.prog X.w) X.A (subscriptTail e (.Slice none none (some (.UnaryOp .USub (.Constant (.int 1) k p1) p2)) p3) (.ref p) (.ref s4.heap.objs.size)) (EP X pins σ Q) X.xe { s4 with heap := s4.heap.push { cls := .type "slice", data := .fields #[.none, .none, .int (-1) tk] } }
    refine tail_any (ops := [.ref p, .ref s4.heap.objs.size]) ht.typeIs (PyProof.Rows.slot_tuple_getitem.lookup) ?_ (by with_unfolding_all rfl)
    refine getItem_tuple_rev ht (Heap.IsSliceOf.new _ .none .none (.int (-1) tk)) ?_ (by omega)
    obtain ⟨g', hb', rr⟩ := new_tup W fresh r1'.reverse (by rw [List.length_reverse]; exact z1')
    refine ⟨.ref _, _, I5.laid (t' := s4.toks) (o := .tup ws.reverse) (fun b ob q => Heap.get?_push_of_some _ q) (Nat.le_refl _) ?_, rfl, q _ _ _ g' hb' rr⟩
    exact ⟨by rw [List.length_reverse]; exact hz, _, r.reverse, ⟨_, Heap.get?_push_size _ rfl, rfl, _, rfl⟩⟩
  · cases hg
    obtain ⟨p, ws, rfl, s1', z1', r1'⟩ := hd.lst
    cases r1
    obtain ⟨its, r, ht, hz⟩ := I5.list (SqL.of s1')
    have hlen := r.length
    show wpAny (model X.prog X.w) X.A (subscriptTail e (.Slice none none (some (.UnaryOp .USub (.Constant (.int 1) k p1) p2)) p3) (.ref p) (.ref s4.heap.objs.size)) (EP X pins σ Q) X.xe { s4 with heap := s4.heap.push { cls := .type "slice", data := .fields #[vl, vu, vs] } }
    refine tail_any (ops := [.ref p, .ref s4.heap.objs.size]) ht.isList.typeIs (PySem.slot_list_getitem.lookup) ?_ (by with_unfolding_all rfl)
    refine wpAny_getItem_list_slice ht.isList (Heap.IsSliceOf.new _ vl vu vs) pl pu ps (by decide) ?_ (by rw [List.size_toArray]; omega)
    rw [PySem.W.krv_pick]
    obtain ⟨g', hb', rr⟩ := new_lst W fresh r1'.reverse (by rw [List.length_reverse]; exact z1')
    refine ⟨.ref _, _, I5.laid (t' := s4.toks) (o := .lst ws.reverse) (fun b ob q => Heap.get?_push_of_some _ q) (Nat.le_refl _) ?_, rfl, q _ _ _ g' hb' rr⟩
    exact ⟨by rw [List.length_reverse]; exact hz, _, 0, r.reverse, Heap.get?_push_size _ rfl⟩
  · cases hg

/-! ### isinstance -/
def tyN : Ty → String
  | .int => "int"
  | .bool => "bool"
  | .str => "str"
  | .tuple => "tuple"
  | .list => "list"
theorem isT_key {m : Pm} {H : Hp} {d : D} {v : V} {t : Ty} {k : Bool} (T : String) (e : isT d t = some k) (a : TyX m.K H v (.type T)) (b : ∀ t', kitB T (tyN t') = isT d t') : ∃ T : String, TyX m.K H v (.type T) ∧ kitB T (tyN t) = some k :=
  ⟨T, a, (b t).trans e⟩
theorem isT_ty {m : Pm} {bo : Bo} {F : Addr → Prop} {H : Hp} {d : D} {v : V} {t : Ty} {k : Bool} (h : RpO m bo F H d v) (e : isT d t = some k) : ∃ T : String, TyX m.K H v (.type T) ∧ kitB T (tyN t) = some k := by
  rcases h with h | ⟨p, rfl, _, _, h⟩
  · cases d with
    | non => simp only [Rp] at h; subst h; exact isT_key "NoneType" e (.base .non) fun t' => by cases t' <;> decide +kernel
    | bl b => simp only [Rp] at h; subst h; exact isT_key "bool" e (.base (.bl b)) fun t' => by cases t' <;> rfl
    | int b => simp only [Rp] at h; subst h; exact isT_key "int" e (.base (.int b)) fun t' => by cases t' <;> rfl
    | str b => simp only [Rp] at h; subst h; exact isT_key "str" e (.base (.str b)) fun t' => by cases t' <;> rfl
    | tup ds =>
      simp only [Rp] at h
      obtain ⟨p, vs, rfl, s, z, r⟩ := h
      have e2 : TyX m.K H (.ref p) (.type "tuple") := by
        rcases s with (s | ⟨o, s⟩) | ⟨o, its, n, s, c, _⟩
        · exact .base (.tup s)
        · exact .fTuple s
        · exact .kTuple s c
      exact isT_key "tuple" e e2 fun t' => by cases t' <;> rfl
    | lst ds =>
      simp only [Rp] at h
      obtain ⟨p, vs, rfl, f, s, z, r⟩ := h
      exact isT_key "list" e (.base (.lst s)) fun t' => by cases t' <;> rfl
    | dct _ => simp [isT] at e
    | tok _ => simp [isT] at e
  · cases d with
    | lst ds => obtain ⟨vs, s, z, r⟩ := h; exact isT_key "list" e (.base (.lst s)) fun t' => by cases t' <;> rfl
    | dct _ => simp [isT] at e
    | _ => exact (show False from h).elim
theorem px_isi {t : Ty} {x : Str} {p p2 : Pos} (he : PEo fn X e f) (hg : Gl X "isinstance") (hm : X.mg "isinstance" = none) (hg2 : Gl X x) (hm2 : X.mg x = none) (hv2 : bootBuiltins x = some (.type (tyN t))) (hn : x ≠ "__name__" := by decide) (hd : (x == ("__debug__" : Str)) = false := by decide)
    (hs : starEach (e :: [.Name x p2]) X.env = (false, eval e X.env) :: starEach [.Name x p2] X.env := by rfl) (hpl : (backTo pos (starEach [.Name x p2] X.env)).any (·.1) = false := by rfl) :
    PEx fn X (.Call (.Name "isinstance" p) [e, .Name x p2] [] pos) (eUn (fun d => (isT d t).map .bl) f) := by
  refine PE.imp (pe_callB call_isi hg hm (by decide +kernel) (pa_cons he (pa_cons (pe_bltn (v := .ty (tyN t)) hg2 hm2 hv2 rfl hn hd) pa_nil) hs) (by decide) (by decide) hs hpl) fun σ H Q h => ?_
  obtain ⟨H0, F0, bo, ρ, F, b, R, d, b1, e1, k⟩ := one_o h
  refine ⟨H0, F0, bo, ρ, F, b, R, d, b1, e1, fun v F' H' g hb rv => ?_⟩
  obtain ⟨bo', F2, b2, W, d', r, rd, er, q⟩ := k v F' H' g hb rv
  have er' : Option.map D.bl (isT d' t) = some r := er
  cases ek : isT d' t with
  | none => rw [ek] at er'; cases er'
  | some k =>
    rw [ek] at er'; cases er'
    obtain ⟨T, h1, h2⟩ := isT_ty rd ek
    refine ⟨_, _, .type T, .type (tyN t), k, rfl, .ty _, h1, kit_ty h2, ?_⟩
    exact q _ F2 H' (Grow.refl W.dom) W.box (by simp [Rp])

/-! ### len, any, all, sum .. -/
theorem same_o {Q : VK} {bo : Bo} {F : Addr → Prop} {H : Hp} {b : Bx} {m : Pm} {d : D} {w : V} (W : Wo bo F H b) (q : ∀ v F' H', Grow bo F H F' H' → BoxOk bo F' H' b → Rp m bo F' H' d v → Q v H') (h : Rp m bo F H d w) : Q w H :=
  q _ F H (Grow.refl W.dom) W.box h
theorem d_len : CallR X (.builtin "len") (rDn (pm X fn) lenD) := by
  intro pins s σ H xs us Q I r h
  obtain ⟨bo, F, b, W, ds, d, hr, hg, q⟩ := h
  unfold lenD at hg
  split at hg
  · cases hg
    obtain ⟨v, rfl, h1⟩ := hr.one
    obtain ⟨a, rfl, g⟩ := h1.dct
    rw [Vals.ref1 r]
    exact dd_len I g fun t s' I' => ⟨.int _, H, I', ⟨t, rfl⟩, same_o W q (by simp [Rp])⟩
  · cases hg
    obtain ⟨v, rfl, h1⟩ := hr.one
    obtain ⟨p, vs, rfl, s1, z1, r1⟩ := h1.tup
    exact call_len_seq pins s σ H _ us Q I r ⟨p, vs, rfl, .inr s1, by rw [r1.length]; exact same_o W q (by simp [Rp])⟩
  · cases hg
    obtain ⟨v, rfl, h1⟩ := hr.one
    obtain ⟨p, vs, rfl, s1, z1, r1⟩ := h1.lst
    exact call_len_seq pins s σ H _ us Q I r ⟨p, vs, rfl, .inl (SqL.of s1), by rw [r1.length]; exact same_o W q (by simp [Rp])⟩
  · split at hg
    · rename_i z hz
      cases hg
      obtain ⟨v, rfl, h1⟩ := hr.one
      have := h1.str
      subst this
      exact call_len_str pins s σ H _ us Q I r ⟨z, rfl, hz, same_o W q (by simp [Rp])⟩
    · cases hg
  · cases hg
theorem boolsD_map : ∀ {ds : List D} {bs : List Bool}, boolsD ds = some bs → ds = bs.map .bl
  | [], bs, h => by cases h; rfl
  | d :: ds, bs, h => by
    cases d with
    | bl b =>
      simp only [boolsD] at h
      cases e : boolsD ds with
      | none => rw [e] at h; cases h
      | some r => rw [e] at h; cases h; rw [boolsD_map e]; rfl
    | _ => simp [boolsD] at h
theorem intsD_map : ∀ {ds : List D} {bs : List Int}, intsD ds = some bs → ds = bs.map .int
  | [], bs, h => by cases h; rfl
  | d :: ds, bs, h => by
    cases d with
    | int b =>
      simp only [intsD] at h
      cases e : intsD ds with
      | none => rw [e] at h; cases h
      | some r => rw [e] at h; cases h; rw [intsD_map e]; rfl
    | _ => simp [intsD] at h
theorem strsD_map : ∀ {ds : List D} {bs : List Str}, strsD ds = some bs → ds = bs.map .str
  | [], bs, h => by cases h; rfl
  | d :: ds, bs, h => by
    cases d with
    | str b =>
      simp only [strsD] at h
      cases e : strsD ds with
      | none => rw [e] at h; cases h
      | some r => rw [e] at h; cases h; rw [strsD_map e]; rfl
    | _ => simp [strsD] at h
theorem d_any (hc : X.calm = true) : CallR X (.builtin "any") (rDn (pm X fn) anyD) := by
  intro pins s σ H xs us Q I r h
  obtain ⟨bo, F, b, W, ds, d, hr, hg, q⟩ := h
  unfold anyD at hg
  split at hg
  · rename_i ds
    cases e : boolsD ds with
    | none => rw [e] at hg; cases hg
    | some bs =>
      rw [e] at hg; cases hg
      obtain ⟨v, rfl, h1⟩ := hr.one
      obtain ⟨p, vs, rfl, s1, z1, r1⟩ := h1.lst
      rw [boolsD_map e] at r1
      have := r1.bools
      subst this
      exact cr_any hc pins s σ H _ us Q I r ⟨p, bs, rfl, SqL.of s1, same_o W q (by simp [Rp])⟩
  · cases hg
theorem d_all (hc : X.calm = true) : CallR X (.builtin "all") (rDn (pm X fn) allD) := by
  intro pins s σ H xs us Q I r h
  obtain ⟨bo, F, b, W, ds, d, hr, hg, q⟩ := h
  unfold allD at hg
  split at hg
  · rename_i ds
    cases e : boolsD ds with
    | none => rw [e] at hg; cases hg
    | some bs =>
      rw [e] at hg; cases hg
      obtain ⟨v, rfl, h1⟩ := hr.one
      obtain ⟨p, vs, rfl, s1, z1, r1⟩ := h1.lst
      rw [boolsD_map e] at r1
      have := r1.bools
      subst this
      exact cr_all hc pins s σ H _ us Q I r ⟨p, bs, rfl, SqL.of s1, same_o W q (by simp [Rp])⟩
  · cases hg
theorem sum_rawT {prog : Program} {w : World} {A : Around} {E : Value → Shared → Prop} {s : Shared} {l : Addr} {its : List Value} {ns : List Int} {Q : Value → Shared → Prop} (hh : A.handled = none) (hl : PyProof.Rows.IsTup s.heap l its.toArray) (hi : PyProof.Rows.IntsAre its ns)
    (h : ∀ h' tk t', (∀ b o, s.heap.get? b = some o → h'.get? b = some o) → Q (.int ns.sum t') { s with heap := h', toks := tk }) : wpAny (model prog w) A (call (.builtin "sum") [.ref l]) Q E s := by
  obtain ⟨xs, e⟩ := hi.allInts.items
  have hn : PySem.numsOf (intItems xs).toList = ns := by rw [← e]; exact hi.numsOf
  rw [nums_intItems] at hn
  rw [e] at hl
  refine PySem.W.ktm_sumG hh hl fun h' tk t' hk => ?_
  have := h h' tk t' hk
  rw [preSum_eq, List.take_of_length_le (by simp), hn]; exact this
theorem d_sum (hc : X.calm = true) : CallR X (.builtin "sum") (rDn (pm X fn) sumD) := by
  intro pins s σ H xs us Q I r h
  obtain ⟨bo, F, b, W, ds, d, hr, hg, q⟩ := h
  unfold sumD at hg
  split at hg
  · rename_i ds
    cases e : intsD ds with
    | none => rw [e] at hg; cases hg
    | some bs =>
      rw [e] at hg; cases hg
      obtain ⟨v, rfl, h1⟩ := hr.one
      obtain ⟨p, vs, rfl, s1, z1, r1⟩ := h1.lst
      rw [intsD_map e] at r1
      have := r1.ints
      subst this
      exact cr_sum hc pins s σ H _ us Q I r ⟨p, bs, rfl, SqL.of s1, same_o W q (by simp [Rp])⟩
  · rename_i ds
    cases e : intsD ds with
    | none => rw [e] at hg; cases hg
    | some bs =>
      rw [e] at hg; cases hg
      obtain ⟨v, rfl, h1⟩ := hr.one
      obtain ⟨p, vs, rfl, s1, z1, r1⟩ := h1.tup
      rw [intsD_map e] at r1
      have := r1.ints
      subst this
      obtain ⟨its, rv, hl, _⟩ := I.tuple s1
      rw [Vals.ref1 r]
      exact sum_rawT (I.ok.hd hc) hl rv.ints fun h' tk t' hk => ⟨.int _, H, I.kept hk, ⟨_, rfl⟩, same_o W q (by simp [Rp])⟩
  · cases hg
theorem d_abs : CallR X (.builtin "abs") (rDn (pm X fn) absD) := by
  intro pins s σ H xs us Q I r h
  obtain ⟨bo, F, b, W, ds, d, hr, hg, q⟩ := h
  unfold absD at hg
  split at hg
  · cases hg
    obtain ⟨v, rfl, h1⟩ := hr.one
    have := h1.int
    subst this
    exact call_abs pins s σ H _ us Q I r ⟨_, rfl, same_o W q (by simp [Rp])⟩
  · cases hg
theorem d_max2 (hc : X.calm = true) : CallR X (.builtin "max") (rDn (pm X fn) max2D) := by
  intro pins s σ H xs us Q I r h
  obtain ⟨bo, F, b, W, ds, d, hr, hg, q⟩ := h
  unfold max2D at hg
  split at hg
  · cases hg
    obtain ⟨v, u, rfl, h1, h2⟩ := hr.two
    have e1 := h1.int
    have e2 := h2.int
    subst e1 e2
    exact call_max2 hc pins s σ H _ us Q I r ⟨_, _, rfl, same_o W q (by simp [Rp])⟩
  · cases hg
theorem d_min2 (hc : X.calm = true) : CallR X (.builtin "min") (rDn (pm X fn) min2D) := by
  intro pins s σ H xs us Q I r h
  obtain ⟨bo, F, b, W, ds, d, hr, hg, q⟩ := h
  unfold min2D at hg
  split at hg
  · cases hg
    obtain ⟨v, u, rfl, h1, h2⟩ := hr.two
    have e1 := h1.int
    have e2 := h2.int
    subst e1 e2
    exact call_min2 hc pins s σ H _ us Q I r ⟨_, _, rfl, same_o W q (by simp [Rp])⟩
  · cases hg
theorem d_int : CallR X (.type "int") (rDn (pm X fn) intD) := by
  intro pins s σ H xs us Q I r h
  obtain ⟨bo, F, b, W, ds, d, hr, hg, q⟩ := h
  unfold intD at hg
  split at hg
  · cases hg
    obtain ⟨v, rfl, h1⟩ := hr.one
    have := h1.int
    subst this
    exact call_int1 pins s σ H _ us Q I r (.inl ⟨_, rfl, same_o W q (by simp [Rp])⟩)
  · cases hg
    obtain ⟨v, rfl, h1⟩ := hr.one
    have := h1.bl
    subst this
    exact call_int1 pins s σ H _ us Q I r (.inr ⟨_, rfl, same_o W q (by simp [Rp])⟩)
  · cases hg
theorem d_str : CallR X (.type "str") (rDn (pm X fn) strD) := by
  intro pins s σ H xs us Q I r h
  obtain ⟨bo, F, b, W, ds, d, hr, hg, q⟩ := h
  unfold strD at hg
  split at hg
  · split at hg
    · rename_i i hz
      cases hg
      obtain ⟨v, rfl, h1⟩ := hr.one
      have := h1.int
      subst this
      exact call_str_int pins s σ H _ us Q I r ⟨i, rfl, hz, same_o W q (by simp [Rp])⟩
    · cases hg
  · cases hg
theorem d_tuple : CallR X (.type "tuple") (rDn (pm X fn) tupleD) := by
  intro pins s σ H xs us Q I r h
  obtain ⟨bo, F, b, W, ds, d, hr, hg, q⟩ := h
  unfold tupleD at hg
  split at hg
  · cases hg
    obtain ⟨v, rfl, h1⟩ := hr.one
    obtain ⟨p, vs, rfl, s1, z1, r1⟩ := h1.lst
    refine call_tuple_of pins s σ H _ us Q I r ⟨p, vs, rfl, .inl ⟨SqL.of s1, fun l hl => ?_⟩⟩
    obtain ⟨g', hb', rr⟩ := new_tup W hl r1 z1
    exact q _ _ _ g' hb' rr
  · cases hg
    obtain ⟨v, rfl, h1⟩ := hr.one
    obtain ⟨p, vs, rfl, s1, z1, r1⟩ := h1.tup
    refine call_tuple_of pins s σ H _ us Q I r ⟨p, vs, rfl, .inr ⟨s1, same_o W q ?_⟩⟩
    simp only [Rp]
    exact ⟨p, vs, rfl, s1, z1, r1⟩
  · cases hg
theorem d_list (hc : X.calm = true) : CallR X (.type "list") (rDnN (pm X fn) listD) := by
  intro pins s σ H xs us Q I r h
  obtain ⟨bo, F, b, W, ds, d, hr, hg, q⟩ := h
  unfold listD at hg
  split at hg
  · rename_i kvs
    cases hg
    obtain ⟨v, rfl, h1⟩ := hr.one
    obtain ⟨a, rfl, gd⟩ := h1.dct
    obtain ⟨hd, es, ep, raw, hsz, hrl, ks, vs, c1, c2, v1, v2⟩ := gd.walk I
    cases r with
    | cons ra rb =>
      cases rb
      cases ra
      refine PySem.W.kdl_call (PySem.KdlSrc.rawDict hd) (I.ok.hd hc) raw hsz fun h' tk acc c hk hg hit => ?_
      have hacc : acc.toList = es.toList.map (·.key) := by
        refine List.ext_getElem? fun i => ?_
        rw [List.getElem?_map, Array.getElem?_toList, Array.getElem?_toList]
        by_cases hi : i < acc.size
        · obtain ⟨hi2, e⟩ := hit.2 i acc[i] (Array.getElem?_eq_getElem hi)
          rw [Array.getElem?_eq_getElem hi, Array.getElem?_eq_getElem hi2, e]; rfl
        · have h2 := hit.1
          rw [Array.getElem?_eq_none (by omega), Array.getElem?_eq_none (by omega)]; rfl
      have hfr : H s.heap.objs.size = none := I.hok.fresh (Nat.le_refl _)
      have hkl : ks.length ≤ sizeLine := by rw [c1.length, List.length_map, ← hrl]; exact hsz
      obtain ⟨g', hb', nf, rr⟩ := new_own W hfr c1 hkl
      have eacc : acc.toList.toArray = acc := by simp
      exact ⟨.ref _, _, I.laid (t' := tk) hk (Nat.le_refl _) (show ObjOk X.prog X.w _ _ _ (.lst ks) from ⟨hkl, acc.toList, c, by rw [hacc]; exact v1, by rw [eacc]; exact hg⟩), rfl, q _ _ _ g' hb' hfr nf rr⟩
  · cases hg
    obtain ⟨v, rfl, h1⟩ := hr.one
    obtain ⟨p, vs, rfl, s1, z1, r1⟩ := h1.lst
    refine call_list_of pins s σ H _ us Q I r ⟨p, vs, rfl, .inl (SqL.of s1), fun l hl => ?_⟩
    obtain ⟨g', hb', nf, rr⟩ := new_own W hl r1 z1
    exact q _ _ _ g' hb' hl nf rr
  · cases hg
    obtain ⟨v, rfl, h1⟩ := hr.one
    obtain ⟨p, vs, rfl, s1, z1, r1⟩ := h1.tup
    refine call_list_of pins s σ H _ us Q I r ⟨p, vs, rfl, .inr s1, fun l hl => ?_⟩
    obtain ⟨g', hb', nf, rr⟩ := new_own W hl r1 z1
    exact q _ _ _ g' hb' hl nf rr
  · cases hg
end
end Sv

set_option maxHeartbeats 4000000
/-! Sv6: sorted of lists and tuples of alike data. -/
namespace Sv
open PySem L2 PySem.W
open PyProof.Rows (seqObj)

section
variable {prog : Program} {w : World} {A : Around} {E : Value → Shared → Prop} {s : Shared}
theorem collect_seq {l : Addr} {vs : List Value} {o : Obj} {n : Nat} {Q : List Value → Shared → Prop} (ho : s.heap.get? l = some o) (hc : o.cls = .type "list" ∨ o.cls = .type "tuple") (hd : o.data = .seq vs.toArray n)
    (h : Q vs { s with heap := (s.heap.push (seqObj "list" #[] 0)).update s.heap.objs.size (Obj.mapSeq (· ++ vs.toArray)) }) (hsz : vs.length ≤ sizeLine) :
    wpAny (model prog w) A (collect (.ref l)) Q E s := by
  unfold collect
  refine wpAny_bind (wpAny_runValue (codeAny_builtin PyProof.Rows.entry_proto_collect' ?_))
  show wpAny _ _ (do again (.builtin "list.__iadd__" ⟨[← newList [], .ref l], []⟩)) _ _ s
  refine wpAny_bind (wpAny_newList (wpAny_pure ⟨Code.quiet_builtin _ (by decide +kernel), codeAny_builtin PyProof.Rows.entry_list_iadd' ?_⟩))
  show wpAny _ _ (Builtin.List.listExtendWith (.ref s.heap.objs.size) (.ref l) (.ref s.heap.objs.size)) _ _ { s with heap := s.heap.push (seqObj "list" #[] 0) }
  unfold Builtin.List.listExtendWith
  have ho' : (s.heap.push (seqObj "list" #[] 0)).get? l = some o := Heap.get?_push_of_some _ ho
  have hb : ∀ T, o.cls = .type T → (T = "list" ∨ T = "tuple") → (Builtin.List.listSameRef (.ref s.heap.objs.size) (.ref l) || Value.type T == Value.type "list" || Value.type T == Value.type "tuple") = true := fun T _ e => by
    rcases e with rfl | rfl
    · rw [show (Value.type "list" == Value.type "list") = true from rfl]; simp
    · rw [show (Value.type "tuple" == Value.type "tuple") = true from rfl]; simp
  obtain ⟨T, hT, hT2⟩ : ∃ T, o.cls = .type T ∧ (T = "list" ∨ T = "tuple") := by
    rcases hc with h | h
    · exact ⟨_, h, .inl rfl⟩
    · exact ⟨_, h, .inr rfl⟩
  refine wpAny_bind (wpAny_typeOf (T := T) ⟨o, ho', hT⟩ ?_)
  rw [if_pos (hb T hT hT2)]
  refine wpAny_bind (PyProof.Rows.listItems_at ho' hd ?_)
  refine wpAny_bind (PyProof.Rows.listItems_at (xs := #[]) (n := 0) (Heap.get?_push_size _ rfl) rfl ?_)
  rw [if_neg (by simp)]
  refine wpAny_bind (PyProof.Rows.listUpdate_at (xs := #[]) (n := 0) (Heap.get?_push_size _ rfl) rfl ?_ (Nat.zero_le _) (by simp only [Array.size_append, List.size_toArray, List.length_nil]; omega))
  refine wpAny_pure ?_
  show wpAny (model prog w) A (do
      let o ← load s.heap.objs.size
      match o.data with
      | .seq xs _ => pure xs.toList
      | _ => unsupported "internal:collect") Q E { s with heap := (s.heap.push (seqObj "list" #[] 0)).update s.heap.objs.size (Obj.mapSeq (· ++ vs.toArray)) }
  refine wpAny_bind (wpAny_load (PyProof.Rows.get?_update_seq (Heap.get?_push_size _ rfl) _) ?_)
  show wpAny _ _ (pure ((#[] : Array Value) ++ vs.toArray).toList) Q E _
  rw [show ((#[] : Array Value) ++ vs.toArray).toList = vs by simp]
  exact wpAny_pure h
theorem sorted_seq {l : Addr} {vs : List Value} {o : Obj} {n : Nat} {kw : List (Str × Value)} {Q : Value → Shared → Prop} (ho : s.heap.get? l = some o) (hc : o.cls = .type "list" ∨ o.cls = .type "tuple") (hd : o.data = .seq vs.toArray n) (hL : vs.length ≤ sizeLine)
    (ha1 : argsOk "sorted" ⟨[.ref l], kw⟩) (ha2 : ∀ x, argsOk "list.sort" ⟨[.ref x], kw⟩)
    (body : ∀ E' : Value → Shared → Prop, wpAny (model prog w) A.in1.in1 (Builtin.«list.sort» ⟨[.ref (s.heap.objs.size + 1)], kw⟩) (fun f s' => f = .done (.ret .none) ∧ Q (.ref (s.heap.objs.size + 1)) s') E' { s with heap := copyHeap s.heap vs }) :
    wpAny (model prog w) A (call (.builtin "sorted") [.ref l] kw) Q E s := by
  refine PyProof.Rows.call_function_entry_kw PyProof.Rows.kind_sorted PyProof.Rows.plain_sorted PyProof.Rows.entry_sorted ha1 ?_
  unfold Builtin.«sorted»
  refine wpAny_bind (m := checkCount "sorted" 1 1 _) (wpAny_pure ?_)
  refine wpAny_bind (collect_seq ho hc hd ?_ hL)
  refine wpAny_bind (wpAny_newList ?_ hL)
  have hsz : ((s.heap.push (seqObj "list" #[] 0)).update s.heap.objs.size (Obj.mapSeq (· ++ vs.toArray))).objs.size = s.heap.objs.size + 1 := by
    rw [Heap.size_update, PyProof.Rows.size_push']
  show wpAny _ _ _ _ _ { s with heap := copyHeap s.heap vs }
  rw [hsz]
  refine wpAny_bind (wpAny_holding (PyProof.Rows.wpAny_call_entry_kw PyProof.Rows.slot_list_sort ⟨_, copyHeap_at s.heap vs, rfl⟩ PyProof.Rows.entry_list_sort ?body (ha2 _)))
  case body =>
    show wpAny (model prog w) A.in1.in1 (Builtin.«list.sort» ⟨[.ref (s.heap.objs.size + 1)], kw⟩) _ _ _
    refine wpAny_mono (body _) (fun f s' hf => ?_) fun _ _ e => e
    obtain ⟨rfl, hq⟩ := hf
    exact ⟨_, rfl, wpAny_pure ⟨_, rfl, hq⟩⟩
/-- sorted of whatever can be collected -/
theorem sorted_col {l : Addr} {Q : Value → Shared → Prop}
    (hc : ∀ E', wpAny (model prog w) A.in1 (collect (.ref l)) (fun its s1 => its.length ≤ sizeLine ∧ ∀ E'', wpAny (model prog w) A.in1.in1 (Builtin.«list.sort» ⟨[.ref s1.heap.objs.size], []⟩) (fun f s' => f = .done (.ret .none) ∧ Q (.ref s1.heap.objs.size) s') E'' { s1 with heap := s1.heap.push (seqObj "list" its.toArray 0) }) E' s) :
    wpAny (model prog w) A (call (.builtin "sorted") [.ref l]) Q E s := by
  refine PyProof.Rows.call_function_entry_kw PyProof.Rows.kind_sorted PyProof.Rows.plain_sorted PyProof.Rows.entry_sorted (PyProof.Rows.args_sorted1 _) ?_
  unfold Builtin.«sorted»
  refine wpAny_bind (m := checkCount "sorted" 1 1 _) (wpAny_pure ?_)
  refine wpAny_bind (wpAny_mono (hc _) (fun its s1 h1 => ?_) fun _ _ e => e)
  obtain ⟨hL, body⟩ := h1
  refine wpAny_bind (wpAny_newList ?_ hL)
  refine wpAny_bind (wpAny_holding (PyProof.Rows.wpAny_call_entry_kw PyProof.Rows.slot_list_sort ⟨_, Heap.get?_push_size _ rfl, rfl⟩ PyProof.Rows.entry_list_sort ?body (PyProof.Rows.args_list_sort _)))
  case body =>
    show wpAny (model prog w) A.in1.in1 (Builtin.«list.sort» ⟨[.ref s1.heap.objs.size], []⟩) _ _ _
    refine wpAny_mono (body _) (fun f s' hf => ?_) fun _ _ e => e
    obtain ⟨rfl, hq⟩ := hf
    exact ⟨_, rfl, wpAny_pure ⟨_, rfl, hq⟩⟩
end

theorem each_of {α β : Type} {R : α → β → Prop} : ∀ {as : List α} {bs : List β}, as.length = bs.length → (∀ (i : Nat) a b, as[i]? = some a → bs[i]? = some b → R a b) → EachIs R as bs
  | [], [], _, _ => .nil
  | [], _ :: _, h, _ => by simp at h
  | _ :: _, [], h, _ => by simp at h
  | a :: as, b :: bs, h, k => .cons (k 0 a b rfl rfl) (each_of (by simpa using h) fun i a b e1 e2 => k (i + 1) a b (by simpa using e1) (by simpa using e2))
theorem each_get {α β : Type} {R : α → β → Prop} : ∀ {as : List α} {bs : List β}, EachIs R as bs → as.length = bs.length ∧ ∀ (i : Nat) a, as[i]? = some a → ∃ b, bs[i]? = some b ∧ R a b
  | _, _, .nil => ⟨rfl, fun i a h => by simp at h⟩
  | _, _, .cons h t => by
    obtain ⟨l, g⟩ := each_get t
    refine ⟨by simp [l], fun i a e => ?_⟩
    cases i with
    | zero => simp at e; subst e; exact ⟨_, rfl, h⟩
    | succ i => obtain ⟨b, h1, h2⟩ := g i a (by simpa using e); exact ⟨b, by simpa using h1, h2⟩
theorem vals_of_each {m : Pm} {bo : Bo} {F : Addr → Prop} {H : Hp} : ∀ {us : List Value} {ds : List D}, EachIs (fun u d => ∃ v, RelV v u ∧ Rp m bo F H d v) us ds → ∃ vs, Vals vs us ∧ RpL m bo F H ds vs
  | _, _, .nil => ⟨[], .nil, RpL.nil⟩
  | _, _, .cons ⟨v, r, p⟩ t => by
    obtain ⟨vs, h1, h2⟩ := vals_of_each t
    exact ⟨v :: vs, .cons r h1, RpL.cons p h2⟩
theorem each_of_vals {m : Pm} {bo : Bo} {F : Addr → Prop} {H : Hp} : ∀ {us : List Value} {vs : List V} {ds : List D}, Vals vs us → RpL m bo F H ds vs → EachIs (fun u d => ∃ v, RelV v u ∧ Rp m bo F H d v) us ds
  | _, _, [], .nil, _ => .nil
  | _, _, [], .cons _ _, h => by simp [RpL] at h
  | _, _, d :: ds, .nil, h => by simp [RpL] at h
  | _, _, d :: ds, .cons r t, h => .cons ⟨_, r, h.head.1⟩ (each_of_vals t h.head.2)

section
variable {fn : Nat → Option V} {X : Cx}
theorem sortOk_facts {ds : List D} (h : sortOk ds = true) : (∀ d ∈ ds, d.sm = true) ∧ AllAlike (ds.map D.py) ∧ Sortable (ds.map D.py) := by
  unfold sortOk at h
  rw [Bool.and_eq_true, Bool.and_eq_true] at h
  obtain ⟨⟨h1, h2⟩, h3⟩ := h
  have h1 := List.all_eq_true.mp h1
  have h2 := List.all_eq_true.mp h2
  refine ⟨h1, ?_, ?_⟩
  · intro d hd d' hd'
    obtain ⟨a, ha, rfl⟩ := List.mem_map.mp hd
    obtain ⟨b, hb, rfl⟩ := List.mem_map.mp hd'
    exact List.all_eq_true.mp (h2 a ha) b hb
  · rw [Bool.or_eq_true] at h3
    rcases h3 with h3 | h3
    · refine .inl fun d hd => ?_
      obtain ⟨a, ha, rfl⟩ := List.mem_map.mp hd
      have := List.all_eq_true.mp h3 a ha
      cases a with
      | tup xs =>
        cases xs with
        | nil => simp at this
        | cons x xs => exact ⟨x.py, D.pyL xs, by simp [D.py, D.pyL]⟩
      | _ => simp at this
    · refine .inr fun d hd => ?_
      obtain ⟨a, ha, rfl⟩ := List.mem_map.mp hd
      have h4 := List.all_eq_true.mp h3 a ha
      have h5 := D.sm_plain (h1 a ha)
      cases a <;> simp_all [D.py, D.plain]
theorem sorted_run {pins : List (Addr × Obj)} {s : Shared} {σ : St} {H : Hp} {Q : VK} {bo : Bo} {F : Addr → Prop} {b : Bx} {ds : List D} {vs : List V} {p : Addr} {its : List Value} {o : Obj} {n : Nat} (hu : X.A.units + 64 < cLine) (I : Inv X pins σ H s) (W : Wo bo F H b)
    (r1 : RpL (pm X fn) bo F H ds vs) (rv : Vals vs its) (hz : vs.length ≤ sizeLine) (ho : s.heap.get? p = some o) (hc : o.cls = .type "list" ∨ o.cls = .type "tuple") (hd : o.data = .seq its.toArray n) (ok : sortOk ds = true)
    (q : ∀ a F' H', Grow bo F H F' H' → BoxOk bo F' H' b → H a = none → ¬ F' a → Own (pm X fn) bo F' H' (.lst (sortL ds)) a → Q (.ref a) H') :
    wpAny (model X.prog X.w) X.A (call (.builtin "sorted") [.ref p]) (EP X pins σ Q) X.xe s := by
  obtain ⟨sm, al, so⟩ := sortOk_facts ok
  have hlen : its.length = ds.length := by rw [← rv.length]; exact r1.length
  have hL : its.length ≤ sizeLine := by rw [← rv.length]; exact hz
  have fresh : H (s.heap.objs.size + 1) = none := I.hok.fresh (Nat.le_succ _)
  have e0 := each_of_vals rv r1
  have er : EachIs (fun v (d : D) => ∃ as, Reads s.heap v d.py as) its ds := by
    refine each_of hlen fun i a d ea ed => ?_
    obtain ⟨d', e1, v, rr, rp⟩ := (each_get e0).2 i a ea
    rw [ed] at e1; cases e1
    have hm : d ∈ ds := List.mem_of_getElem? ed
    exact RpO.reads (fn := fn) I (.inl rp) (sm d hm) rr
  have er' : EachIs (fun v (d : D) => ∃ as, Reads (sortingHeap (copyHeap s.heap its) (s.heap.objs.size + 1) its) v d.py as) its ds := er.mono fun _ _ ⟨as, r⟩ => ⟨as, PyProof.Rows.Reads.keeps (fun _ _ => sorting_copy_old) r⟩
  have room : ∀ d, d ∈ ds → X.A.in1.in1.units + d.py.depth < cLine := fun d hd => by
    have := D.sm_dep (sm d hd)
    rw [D.py_dep]
    show X.A.units + 1 + 1 + d.dep < cLine
    omega
  refine sorted_seq ho hc hd hL (PyProof.Rows.args_sorted1 _) (fun _ => PyProof.Rows.args_list_sort _) fun E' => ?_
  refine list_sort_vals (s := { s with heap := copyHeap s.heap its }) (κ := dataKind (sortingHeap (copyHeap s.heap its) (s.heap.objs.size + 1) its) (ds.map D.py)) (copyHeap_at s.heap its)
    (SortsAt.data (s := { s with heap := sortingHeap (copyHeap s.heap its) (s.heap.objs.size + 1) its }) (each_map (R := fun v d => ∃ as, Reads (sortingHeap (copyHeap s.heap its) (s.heap.objs.size + 1) its) v d as) D.py er') al so (bound_map (A := X.A.in1.in1) room)) hL ⟨rfl, ?_⟩
  have eo := sortVals_data (enc := D.py) false e0 er' al
  obtain ⟨ws, hv, hr⟩ := vals_of_each eo
  obtain ⟨ep, he'⟩ := PyProof.Rows.sortedAll_at s.heap its (sortVals (dataKind (sortingHeap (copyHeap s.heap its) (s.heap.objs.size + 1) its) (ds.map D.py)) false its its).toArray
  have hws : ws.length ≤ sizeLine := by
    rw [hr.length]
    rw [List.length_mergeSort, ← hlen]
    exact hL
  obtain ⟨g, hb, nf, ow⟩ := new_own W fresh hr hws
  exact ⟨.ref _, upd H (s.heap.objs.size + 1) (.lst ws), I.laid (t' := s.toks) (fun _ _ => PyProof.Rows.sortedAll_old) (Nat.le_succ _) (show ObjOk X.prog X.w _ _ _ (.lst ws) from ⟨hws, _, ep, hv, he'⟩), rfl, q _ _ _ g hb fresh nf ow⟩
/-- .. what was collected stands for the data ds -/
theorem sort_run {pins : List (Addr × Obj)} {s : Shared} {σ : St} {H : Hp} {Q : VK} {bo : Bo} {F : Addr → Prop} {b : Bx} {ds : List D} {vs : List V} {its : List Value} {E' : Value → Shared → Prop} (hu : X.A.units + 64 < cLine) (I : Inv X pins σ H s) (W : Wo bo F H b)
    (r1 : RpL (pm X fn) bo F H ds vs) (rv : Vals vs its) (hz : vs.length ≤ sizeLine) (ok : sortOk ds = true)
    (q : ∀ a F' H', Grow bo F H F' H' → BoxOk bo F' H' b → H a = none → ¬ F' a → Own (pm X fn) bo F' H' (.lst (sortL ds)) a → Q (.ref a) H') :
    wpAny (model X.prog X.w) X.A.in1.in1 (Builtin.«list.sort» ⟨[.ref s.heap.objs.size], []⟩) (fun f s' => f = .done (.ret .none) ∧ EP X pins σ Q (.ref s.heap.objs.size) s') E' { s with heap := s.heap.push (seqObj "list" its.toArray 0) } := by
  obtain ⟨sm, al, so⟩ := sortOk_facts ok
  have hlen : its.length = ds.length := by rw [← rv.length]; exact r1.length
  have hL : its.length ≤ sizeLine := by rw [← rv.length]; exact hz
  have fresh : H s.heap.objs.size = none := I.hok.fresh (Nat.le_refl _)
  have old : ∀ {b : Addr} {o : Obj}, s.heap.get? b = some o → (sortingHeap (s.heap.push (seqObj "list" its.toArray 0)) s.heap.objs.size its).get? b = some o := fun e => sortingHeap_old (Nat.ne_of_lt (Heap.lt_size e)) (Heap.get?_push_of_some _ e)
  have e0 := each_of_vals rv r1
  have er : EachIs (fun v (d : D) => ∃ as, Reads s.heap v d.py as) its ds := by
    refine each_of hlen fun i a d ea ed => ?_
    obtain ⟨d', e1, v, rr, rp⟩ := (each_get e0).2 i a ea
    rw [ed] at e1; cases e1
    have hm : d ∈ ds := List.mem_of_getElem? ed
    exact RpO.reads (fn := fn) I (.inl rp) (sm d hm) rr
  have er' : EachIs (fun v (d : D) => ∃ as, Reads (sortingHeap (s.heap.push (seqObj "list" its.toArray 0)) s.heap.objs.size its) v d.py as) its ds := er.mono fun _ _ ⟨as, r⟩ => ⟨as, PyProof.Rows.Reads.keeps (fun _ _ => old) r⟩
  have room : ∀ d, d ∈ ds → X.A.in1.in1.units + d.py.depth < cLine := fun d hd => by
    have := D.sm_dep (sm d hd)
    rw [D.py_dep]
    show X.A.units + 1 + 1 + d.dep < cLine
    omega
  refine list_sort_vals (s := { s with heap := s.heap.push (seqObj "list" its.toArray 0) }) (κ := dataKind (sortingHeap (s.heap.push (seqObj "list" its.toArray 0)) s.heap.objs.size its) (ds.map D.py)) (n := 0) (Heap.get?_push_size _ rfl)
    (SortsAt.data (s := { s with heap := sortingHeap (s.heap.push (seqObj "list" its.toArray 0)) s.heap.objs.size its }) (each_map (R := fun v d => ∃ as, Reads (sortingHeap (s.heap.push (seqObj "list" its.toArray 0)) s.heap.objs.size its) v d as) D.py er') al so (bound_map (A := X.A.in1.in1) room)) hL ⟨rfl, ?_⟩
  have eo := sortVals_data (enc := D.py) false e0 er' al
  obtain ⟨ws, hv, hr⟩ := vals_of_each eo
  obtain ⟨ep, he'⟩ := PyProof.Rows.sortedHeap_at (h := s.heap.push (seqObj "list" its.toArray 0)) (a := s.heap.objs.size) (n := 0) (vs := its) (out := (sortVals (dataKind (sortingHeap (s.heap.push (seqObj "list" its.toArray 0)) s.heap.objs.size its) (ds.map D.py)) false its its).toArray) (Heap.get?_push_size _ rfl)
  have hws : ws.length ≤ sizeLine := by
    rw [hr.length]
    rw [List.length_mergeSort, ← hlen]
    exact hL
  obtain ⟨g, hb, nf, ow⟩ := new_own W fresh hr hws
  refine ⟨.ref _, upd H s.heap.objs.size (.lst ws), I.laid (t' := s.toks) (fun b o e => ?_) (Nat.le_refl _) (show ObjOk X.prog X.w _ _ _ (.lst ws) from ⟨hws, _, ep, hv, he'⟩), rfl, q _ _ _ g hb fresh nf ow⟩
  rw [PyProof.Rows.sortedHeap_old (Nat.ne_of_lt (Heap.lt_size e)) (Nat.lt_of_lt_of_le (Heap.lt_size e) (by rw [Heap.size_push]; exact Nat.le_succ _))]
  exact Heap.get?_push_of_some _ e
theorem d_sorted (hc : X.calm = true) (hu : X.A.units + 64 < cLine) : CallR X (.builtin "sorted") (rDnN (pm X fn) sortedD) := by
  intro pins s σ H xs us Q I r h
  obtain ⟨bo, F, b, W, ds, d, hr, hg, q⟩ := h
  unfold sortedD at hg
  split at hg
  · rename_i kvs
    split at hg
    · rename_i ok
      cases hg
      obtain ⟨v, rfl, h1⟩ := hr.one
      obtain ⟨a, rfl, gd⟩ := h1.dct
      obtain ⟨hd, es, ep, raw, hsz, hrl, ks, vs, c1, c2, v1, v2⟩ := gd.walk I
      cases r with
      | cons ra rb =>
        cases rb
        cases ra
        have hkl : ks.length ≤ sizeLine := by rw [c1.length, List.length_map, ← hrl]; exact hsz
        refine sorted_col fun E' => kdu_collect (PySem.KdlSrc.rawDict hd) (I.ok.hd hc) raw hsz fun h' tk acc hk hit => ?_
        have hacc : acc.toList = es.toList.map (·.key) := by
          refine List.ext_getElem? fun i => ?_
          rw [List.getElem?_map, Array.getElem?_toList, Array.getElem?_toList]
          by_cases hi : i < acc.size
          · obtain ⟨hi2, e⟩ := hit.2 i acc[i] (Array.getElem?_eq_getElem hi)
            rw [Array.getElem?_eq_getElem hi, Array.getElem?_eq_getElem hi2, e]; rfl
          · have h2 := hit.1
            rw [Array.getElem?_eq_none (by omega), Array.getElem?_eq_none (by omega)]; rfl
        rw [hacc]
        have I1 : Inv X pins σ H { s with heap := h', toks := tk } := I.kept hk
        exact ⟨by rw [← v1.length]; exact hkl, fun E'' => sort_run (s := { s with heap := h', toks := tk }) hu I1 W c1 v1 hkl ok q⟩
    · cases hg
  · split at hg
    · rename_i hz
      cases hg
      obtain ⟨v, rfl, h1⟩ := hr.one
      obtain ⟨p, vs, rfl, s1, z1, r1⟩ := h1.lst
      obtain ⟨its, rv, ⟨o, n, ho, hc, _, hd⟩, hsz⟩ := I.list (SqL.of s1)
      cases r with
      | cons ra rb =>
        cases rb
        cases ra
        exact sorted_run hu I W r1 rv hsz ho (.inl hc) hd hz q
    · cases hg
  · split at hg
    · rename_i hz
      cases hg
      obtain ⟨v, rfl, h1⟩ := hr.one
      obtain ⟨p, vs, rfl, s1, z1, r1⟩ := h1.tup
      obtain ⟨its, rv, ⟨o, ho, hc, n, hd⟩, hsz⟩ := I.tuple s1
      cases r with
      | cons ra rb =>
        cases rb
        cases ra
        exact sorted_run hu I W r1 rv hsz ho (.inr hc) hd hz q
    · cases hg
  · cases hg
end
end Sv

set_option maxHeartbeats 4000000
/-! Sv7: what is walked, targets. -/
namespace Sv
open PySem L2
open PyProof.Rows (IsTup)

/-! ### enumerate of a tuple -/
theorem meets_enumerate_newT (l : Addr) (items : Array Value) (n : Nat) (dct : Option Addr) (sl : Array (Option Value)) :
    Meets (Builtin.«enumerate.__new__» ⟨[.type "enumerate", .ref l], []⟩) (fun _ R s => s.heap.get? l = some { cls := .type "tuple", dict := dct, data := .seq items n, slots := sl } ∧
      R (.ok (.ret (.ref (s.heap.push { cls := .type "tuple_iterator", data := .fields #[.ref l, .int 0 0] }).objs.size)))
        { s with heap := (s.heap.push { cls := .type "tuple_iterator", data := .fields #[.ref l, .int 0 0] }).push { cls := .type "enumerate", data := .fields #[.none, .bool false, .ref s.heap.objs.size, rawInt 0, .none, .none] } }) :=
  .of_wp fun prog w A R s h => by
    obtain ⟨hp, g, d, tk, os⟩ := s; obtain ⟨hl, h⟩ := h
    have hsub := sub_enumerate
    have hL : Heap.IsTuple (Shared.heap ⟨hp, g, d, tk, os⟩) l items := ⟨_, hl, rfl, n, rfl⟩
    wp_walk using AutoSeq1.wpAny_loadPart' hl
    refine wpAny_stack_any fun st => wpAny_pure ?_
    split
    · rename_i c _ _ _ _ _
      cases (c == Value.type "enumerate")
      · wp_walk using AutoSeq1.wpAny_loadPart' hl, wpAny_pyIter_tuple hL
        exact ⟨_, rfl, h⟩
      · wp_walk using AutoSeq1.wpAny_loadPart' hl, wpAny_pyIter_tuple hL
        exact ⟨_, rfl, h⟩
    · wp_walk using AutoSeq1.wpAny_loadPart' hl, wpAny_pyIter_tuple hL
      exact ⟨_, rfl, h⟩
theorem call_enumerate_tup {prog : Program} {w : World} {A : Around} {E : Value → Shared → Prop} {s : Shared} {l : Addr} {items : Array Value} {Q : Value → Shared → Prop} (hL : s.heap.IsTuple l items)
    (h : ∀ h', IsEnum h' (s.heap.objs.size + 1) s.heap.objs.size 0 .none → h'.IsTupleIter s.heap.objs.size l 0 → (∀ b o, s.heap.get? b = some o → h'.get? b = some o) → Q (.ref (s.heap.objs.size + 1)) { s with heap := h' }) :
    wpAny (model prog w) A (call (.type "enumerate") [.ref l]) Q E s := by
  obtain ⟨⟨c, dct, dt, sl⟩, hl, hc, n, hd⟩ := hL
  replace hc : c = .type "tuple" := hc
  replace hd : dt = .seq items n := hd
  subst hc hd
  refine callType_new PySem.F.called_enumerate (by decide) (PySem.F.typeCall_enumerate_1 _) (PySem.F.newCall_enumerate_1 _) (fun obj => PySem.F.args_object_init_2 obj _) PySem.F.entry_enumerate_new (meets_enumerate_newT l items n dct sl) ⟨hl, ?_⟩
  have hz : (s.heap.push { cls := .type "tuple_iterator", data := .fields #[.ref l, .int 0 0] }).objs.size = s.heap.objs.size + 1 := Heap.size_push ..
  show _ ∧ _
  rw [hz]
  have he : IsEnum ((s.heap.push { cls := .type "tuple_iterator", data := .fields #[.ref l, .int 0 0] }).push { cls := .type "enumerate", data := .fields #[.none, .bool false, .ref s.heap.objs.size, rawInt 0, .none, .none] }) (s.heap.objs.size + 1) s.heap.objs.size 0 .none := by
    have := Heap.get?_push_size (s.heap.push { cls := .type "tuple_iterator", data := .fields #[.ref l, .int 0 0] }) (o := { cls := .type "enumerate", data := .fields #[.none, .bool false, .ref s.heap.objs.size, rawInt 0, .none, .none] }) rfl
    rw [hz] at this
    exact this
  have hi : ((s.heap.push { cls := .type "tuple_iterator", data := .fields #[.ref l, .int 0 0] }).push { cls := .type "enumerate", data := .fields #[.none, .bool false, .ref s.heap.objs.size, rawInt 0, .none, .none] }).IsTupleIter s.heap.objs.size l 0 :=
    ⟨_, Heap.get?_push_of_some _ (Heap.get?_push_size _ rfl), rfl, rfl⟩
  exact ⟨⟨_, he, rfl⟩, h _ he hi fun b o x => Heap.get?_push_of_some _ (Heap.get?_push_of_some _ x)⟩
/-- the tuple at t, each item in a new pair -/
def IteT (K : PySem.W.Frag) (t : Addr) : L2.It :=
  ⟨fun i H => ∃ (xs : List V) (x : V), SqT K H t xs ∧ xs[i]? = some x, fun i H v H' => ∃ T x, v = .ref T ∧ H T = none ∧ H' = upd H T (.tup [.int (i : Nat), x]) ∧ ∀ xs, SqT K H t xs → xs[i]? = some x, fun i H => ∃ xs : List V, SqT K H t xs ∧ xs.length = i⟩
theorem turn_enumT {P : Program} {w : World} {K : PySem.W.Frag} {elts : List Expr} {kk : Nat} {tpos : Pos} (a e it : Addr) (hne : e ≠ it) (hae : a ≠ e) (hai : a ≠ it) :
    Turn P w K (.Tuple elts kk tpos) (IteT K a) [e, it] e (fun i h => (∃ old, IsEnum h e it ((i : Nat) : Int) old) ∧ h.IsTupleIter it a i) where
  mem := by simp
  obj := fun i h st b hb => by
    obtain ⟨⟨old, he⟩, o, ho, hc, hd⟩ := st
    have e' : b = e ∨ b = it := by simpa using hb
    rcases e' with z | z
    · rw [z]; exact ⟨_, he, fun v q => nomatch q⟩
    · rw [z]; exact ⟨o, ho, fun v q => by rw [hd] at q; cases q⟩
  keep := fun i h h' st k => let ⟨⟨old, he⟩, hi⟩ := st; ⟨⟨old, k e (by simp) _ he⟩, hi.at fun o q => k it (by simp) o q⟩
  item := by
    intro X hP hw hK hc i pins s σ H E I hf st hg
    subst hP hw hK
    obtain ⟨⟨old, he⟩, hit⟩ := st
    obtain ⟨xs, x, hq, hx⟩ := hg
    obtain ⟨its, rv, p, hz⟩ := I.tuple hq
    obtain ⟨u, hu, ru⟩ := rv.get hx
    have hel : e < s.heap.objs.size := Heap.lt_size he
    have hil : it < s.heap.objs.size := by obtain ⟨_, q, _⟩ := hit; exact Heap.lt_size q
    have W := WalksT.enumerateD (Draws.tuple (prog := X.prog) (w := X.w) (A := X.A.in1) (I.ok.hd hc) it a hai its.toArray) e hne (by simp [hne, Ne.symm hae]) (by simp)
    have hlt : i < its.toArray.size := by
      have := (List.getElem?_eq_some_iff.mp hu).1
      simpa using this
    refine W.item i s _ _ hlt ⟨⟨old, he⟩, hit, show s.heap.IsTuple a its.toArray from p⟩ fun T vals h' tk hP' hT hTup hMid hk => ⟨_, rfl, ?_⟩
    refine W.go elts kk tpos i T { s with heap := h', toks := tk } _ _ hMid fun h'' hSt hk2 => ?_
    obtain ⟨tk', x', hx', rfl⟩ := hP'
    have ex : x' = u := by
      have hu2 : its.toArray[i]? = some u := by simpa using hu
      rw [hu2] at hx'; cases hx'; rfl
    subst ex
    have hTn := W.apart i T h' hMid
    have hTup2 : h''.IsTuple T #[.int i tk', x'] := by
      obtain ⟨o, ho, r⟩ := hTup
      exact ⟨o, hk2 T o hTn ho, r⟩
    have new : ObjOk X.prog X.w (upd H T (.tup [.int (i : Nat), x])) h'' T (.tup [.int (i : Nat), x]) :=
      ⟨by show 2 ≤ sizeLine; decide, [.int i tk', x'], .cons ⟨_, rfl⟩ (.cons ru .nil), hTup2⟩
    have I1 : Inv X pins σ (upd H T (.tup [.int (i : Nat), x])) { s with heap := h'', toks := tk } :=
      I.turnedNew (ch := [e, it]) (fun b ob hb q => hk2 b ob hb (hk b ob hb q)) hf hT new
    refine ⟨.ref T, _, I1, rfl, ⟨T, x, rfl, I.hok.fresh hT, rfl, fun ys hy => by rw [I.tuple_inj hy hq]; exact hx⟩, ⟨?_, hSt.2.1⟩, fun b hb => ?_⟩
    · obtain ⟨⟨old', he'⟩, _⟩ := hSt
      exact ⟨old', by simpa using he'⟩
    · have hb' : b < s.heap.objs.size := by
        have e' : b = e ∨ b = it := by simpa using hb
        rcases e' with z | z
        · rw [z]; exact hel
        · rw [z]; exact hil
      rw [upd_ne (Nat.ne_of_lt (Nat.lt_of_lt_of_le hb' hT))]
      exact (hf b hb).1
  done := by
    intro X hP hw hK hc i pins s σ H E I hf st hg
    subst hP hw hK
    obtain ⟨⟨old, he⟩, hit⟩ := st
    obtain ⟨xs, hq, hx⟩ := hg
    obtain ⟨its, rv, p, hz⟩ := I.tuple hq
    have hl := rv.length
    have W := WalksT.enumerateD (Draws.tuple (prog := X.prog) (w := X.w) (A := X.A.in1) (I.ok.hd hc) it a hai its.toArray) e hne (by simp [hne, Ne.symm hae]) (by simp)
    have ei : i = its.toArray.size := by rw [List.size_toArray]; omega
    subst ei
    obtain ⟨f0, f1, f2, f3, f4, f5⟩ := hf it (by simp)
    exact wpAny_pyNext_enum_endD (Draws.tuple (prog := X.prog) (w := X.w) (A := X.A.in1) (I.ok.hd hc) it a hai its.toArray) he ⟨hit, show s.heap.IsTuple a its.toArray from p⟩
      fun h' eb => ⟨rfl, I.turned (t' := s.toks) (fun b o hb e => eb b o hb e) f0 f1 f3 f4 f5⟩
  self := fun A i s Q E st h => by
    obtain ⟨⟨old, he⟩, _⟩ := st
    exact wpAny_pyIter_enum he h

/-! ### what is walked -/
/-- from any later state in which F's objects stand the walk gives the data ds -/
def Yields (m : Pm) (bo : Bo) (J : L2.It) (ds : List D) (F : Addr → Prop) (H : Hp) : Prop := ∀ F' H' b, FK F H F' H' → Wo bo F' H' b →
  (∀ (i : Nat) d, ds[i]? = some d → J.go i H' ∧ ∀ x H2, J.yld i H' x H2 → Grow bo F' H' F' H2 ∧ BoxOk bo F' H2 b ∧ Rp m bo F' H2 d x) ∧ J.stop ds.length H'
def iEx (m : Pm) (f : It) : TI := fun σ H R => ∃ H0 F0 bo ρ F b, Rel m H0 F0 bo σ ρ F H b ∧ ∃ ds b', f ρ b = some (ds, b') ∧
  ∀ J F' H', Grow bo F H F' H' → BoxOk bo F' H' b' → ds.length ≤ sizeLine → Yields m bo J ds F' H' → R J H'
/-- .. in any later state of the walk of a comprehension: what stood stands -/
def YieldsG (m : Pm) (bo : Bo) (J : L2.It) (ds : List D) (F : Addr → Prop) (H : Hp) : Prop := ∀ F' H' b, Grow bo F H F' H' → Wo bo F' H' b →
  (∀ (i : Nat) d, ds[i]? = some d → J.go i H' ∧ ∀ x H2, J.yld i H' x H2 → Grow bo F' H' F' H2 ∧ BoxOk bo F' H2 b ∧ Rp m bo F' H2 d x) ∧ J.stop ds.length H'
def iEo (m : Pm) (f : It) : TI := fun σ H R => ∃ H0 F0 bo ρ F b, Rel m H0 F0 bo σ ρ F H b ∧ ∃ ds b', f ρ b = some (ds, b') ∧
  ∀ J F' H', Grow bo F H F' H' → BoxOk bo F' H' b' → ds.length ≤ sizeLine → YieldsG m bo J ds F' H' → R J H'
abbrev PIx (fn : Nat → Option V) (X : Cx) (tg e : Expr) (f : It) : Prop := PI X tg e (iEx (pm X fn) f)
abbrev PIo (fn : Nat → Option V) (X : Cx) (tg e : Expr) (f : It) : Prop := PI X tg e (iEo (pm X fn) f)
theorem PI.imp {X : Cx} {tg e : Expr} {t t' : TI} (h : PI X tg e t) (i : ∀ σ H Q, t' σ H Q → t σ H Q) : PI X tg e t' := ⟨fun pins s σ H Q I q => h.run pins s σ H Q I (i σ H Q q)⟩

section
variable {fn : Nat → Option V} {X : Cx} {tg e e' : Expr} {f g : Ex} {pos p : Pos}
theorem iEx_o {m : Pm} {f : It} {σ : St} {H : Hp} {R : L2.It → Hp → Prop} (h : iEo m f σ H R) : iEx m f σ H R := by
  obtain ⟨H0, F0, bo, ρ, F, b, R', ds, b', e, q⟩ := h
  refine ⟨H0, F0, bo, ρ, F, b, R', ds, b', e, fun J F' H' g hb hz y => q J F' H' g hb hz fun F2 H2 b2 g2 W => y F2 H2 b2 (g2.fk hb g.dom) W⟩
theorem PIx.o {f : It} (h : PIx fn X tg e f) : PIo fn X tg e f := PI.imp h fun _ _ _ h => iEx_o h
/-- a list, a tuple -/
theorem pi_any {l : Expr} {tl : TE} (hl : PE X l tl) : PI X tg l (fun σ H R => tl σ H fun x H1 => ∃ a, x = .ref a ∧ ((∃ xs, SqL X.K H1 a xs) ∧ R (Itl X.K a) H1 ∨ (∃ xs, SqT X.K H1 a xs) ∧ R (Itt X.K a) H1)) := by
  refine ⟨fun pins s σ H R I h => ?_⟩
  refine thn (hl.run pins s σ H _ I h) fun v s1 ⟨x, H1, I1, r1, a, e, q⟩ => ?_
  subst e
  cases r1
  have fresh : ∀ b ∈ [s1.heap.objs.size], FpOk X pins H1 b := fun b hb => by
    have e : b = s1.heap.objs.size := by simpa using hb
    subst e
    exact I1.fpOk (Nat.le_refl _) (I1.hok.fresh (Nat.le_refl _))
  rcases q with ⟨⟨xs, hq⟩, q⟩ | ⟨⟨xs, hq⟩, q⟩
  · obtain ⟨its, rv, p, hz⟩ := I1.list hq
    exact wpAny_pyIter_list p.isList ⟨s1.heap.objs.size, [s1.heap.objs.size], _, _, H1, rfl, I1.kept (t' := s1.toks) fun b o e => Heap.get?_push_of_some _ e, turn_list a _, ⟨_, Heap.get?_push_size _ rfl, rfl, rfl⟩, fresh, q⟩
  · obtain ⟨its, rv, p, hz⟩ := I1.tuple hq
    exact wpAny_pyIter_tuple (show s1.heap.IsTuple a its.toArray from p) ⟨s1.heap.objs.size, [s1.heap.objs.size], _, _, H1, rfl, I1.kept (t' := s1.toks) fun b o e => Heap.get?_push_of_some _ e, turn_tuple a _, ⟨_, Heap.get?_push_size _ rfl, rfl, rfl⟩, fresh, q⟩
theorem yield_same {m : Pm} {bo : Bo} {F : Addr → Prop} {H : Hp} {b : Bx} {d : D} {x : V} (W : Wo bo F H b) (h : Rp m bo F H d x) : Grow bo F H F H ∧ BoxOk bo F H b ∧ Rp m bo F H d x := ⟨Grow.refl W.dom, W.box, h⟩
theorem yields_list {m : Pm} {bo : Bo} {F : Addr → Prop} {H : Hp} {b : Bx} {a : Addr} {vs : List V} {ds : List D} (W : Wo bo F H b) (r : RpL m bo F H ds vs) (s : SqL m.K H a vs) :
    (∀ (i : Nat) d, ds[i]? = some d → (Itl m.K a).go i H ∧ ∀ x H2, (Itl m.K a).yld i H x H2 → Grow bo F H F H2 ∧ BoxOk bo F H2 b ∧ Rp m bo F H2 d x) ∧ (Itl m.K a).stop ds.length H := by
  refine ⟨fun i d e => ?_, vs, s, by rw [r.length]; exact Nat.le_refl _⟩
  obtain ⟨v, hv, rv⟩ := r.get e
  refine ⟨⟨vs, v, s, hv⟩, fun x H2 ⟨e1, e2⟩ => ?_⟩
  subst e1
  have := e2 vs s
  rw [hv] at this; cases this
  exact yield_same W rv
theorem yields_tup {m : Pm} {bo : Bo} {F : Addr → Prop} {H : Hp} {b : Bx} {a : Addr} {vs : List V} {ds : List D} (W : Wo bo F H b) (r : RpL m bo F H ds vs) (s : SqT m.K H a vs) :
    (∀ (i : Nat) d, ds[i]? = some d → (Itt m.K a).go i H ∧ ∀ x H2, (Itt m.K a).yld i H x H2 → Grow bo F H F H2 ∧ BoxOk bo F H2 b ∧ Rp m bo F H2 d x) ∧ (Itt m.K a).stop ds.length H := by
  refine ⟨fun i d e => ?_, vs, s, by rw [r.length]; exact Nat.le_refl _⟩
  obtain ⟨v, hv, rv⟩ := r.get e
  refine ⟨⟨vs, v, s, hv⟩, fun x H2 ⟨e1, e2⟩ => ?_⟩
  subst e1
  have := e2 vs s
  rw [hv] at this; cases this
  exact yield_same W rv
theorem pi_seq (pe : PEx fn X e f) : PIx fn X tg e (iSeq f) := PI.imp (pi_any pe) fun σ H R ⟨H0, F0, bo, ρ, F, b, R', ds, b', e, q⟩ => by
  unfold iSeq at e
  split at e
  · rename_i d b1 e1
    split at e
    · rename_i xs e2
      cases e
      refine ⟨H0, F0, bo, ρ, F, b, R', d, _, e1, fun v F' H' g hb rv => ?_⟩
      unfold itemsD at e2
      split at e2
      · cases e2
        simp only [Rp] at rv
        obtain ⟨a, vs, rfl, f1, s, z, r⟩ := rv
        refine ⟨a, rfl, .inl ⟨⟨vs, SqL.of s⟩, q _ F' H' g hb (by rw [← r.length]; exact z) fun F2 H2 b2 k W => ?_⟩⟩
        exact yields_list W (r.fk k) (SqL.of ((k.at_ a f1).trans s))
      · cases e2
        simp only [Rp] at rv
        obtain ⟨a, vs, rfl, s, z, r⟩ := rv
        refine ⟨a, rfl, .inr ⟨⟨vs, s⟩, q _ F' H' g hb (by rw [← r.length]; exact z) fun F2 H2 b2 k W => ?_⟩⟩
        exact yields_tup W (r.fk k) (Sv.SqT.fk k s)
      · cases e2
    · cases e
  · cases e
theorem pio_seq (pe : PEo fn X e f) : PIo fn X tg e (iSeq f) := PI.imp (pi_any pe) fun σ H R ⟨H0, F0, bo, ρ, F, b, R', ds, b', e, q⟩ => by
  unfold iSeq at e
  split at e
  · rename_i d b1 e1
    split at e
    · rename_i xs e2
      cases e
      refine ⟨H0, F0, bo, ρ, F, b, R', d, _, e1, fun v F' H' g hb rv => ?_⟩
      unfold itemsD at e2
      split at e2
      · cases e2
        have nb : ∀ a vs, v = .ref a → H' a = some (.lst vs) → ¬ inBox bo a := fun a vs ev es => by
          rcases rv with rv | ⟨a', e', nb, _⟩
          · simp only [Rp] at rv
            obtain ⟨a', vs', e', f1, s, z, r⟩ := rv
            rw [ev] at e'; cases e'
            exact fun z => (inBox_some hb z).1 f1
          · rw [ev] at e'; cases e'
            exact nb
        obtain ⟨a, vs, rfl, s, z, r⟩ := rv.lst
        refine ⟨a, rfl, .inl ⟨⟨vs, SqL.of s⟩, q _ F' H' g hb (by rw [← r.length]; exact z) fun F2 H2 b2 k W => ?_⟩⟩
        exact yields_list W (r.fk (k.fk hb g.dom)) (SqL.of (k.keep a _ s (nb a vs rfl s)))
      · cases e2
        obtain ⟨a, vs, rfl, s, z, r⟩ := rv.tup
        refine ⟨a, rfl, .inr ⟨⟨vs, s⟩, q _ F' H' g hb (by rw [← r.length]; exact z) fun F2 H2 b2 k W => ?_⟩⟩
        exact yields_tup W (r.fk (k.fk hb g.dom)) (Sv.SqT.fk (k.fk hb g.dom) s)
      · cases e2
    · cases e
  · cases e
/-- range(n), range(a, b) -/
theorem rangeD_get {lo hi : Int} {ds : List D} (h : rangeD lo hi = some ds) : ds.length = (hi - lo).toNat ∧ (∀ (i : Nat) d, ds[i]? = some d → d = .int (lo + (i : Nat)) ∧ i < (hi - lo).toNat) ∧ (-(2 ^ 62) ≤ lo ∧ lo < 2 ^ 62 ∧ -(2 ^ 62) ≤ hi ∧ hi < 2 ^ 62) ∧ ds.length ≤ sizeLine := by
  unfold rangeD at h
  split at h
  · rename_i hz
    cases h
    refine ⟨by simp, fun i d e => ?_, hz.2, by rw [sizeLine_eq]; simp; omega⟩
    rw [List.getElem?_map] at e
    cases hi' : (List.range (hi - lo).toNat)[i]? with
    | none => rw [hi'] at e; cases e
    | some k =>
      rw [hi'] at e; cases e
      obtain ⟨h1, h2⟩ := List.getElem?_eq_some_iff.mp hi'
      rw [List.getElem_range] at h2
      rw [List.length_range] at h1
      subst h2
      exact ⟨rfl, h1⟩
  · cases h
theorem yields_range {m : Pm} {bo : Bo} {F : Addr → Prop} {H : Hp} {lo hi : Int} {ds : List D} (h : rangeD lo hi = some ds) : Yields m bo (Itr lo (hi - lo).toNat) ds F H := fun F' H' b k W => by
  obtain ⟨h1, h2, _⟩ := rangeD_get h
  refine ⟨fun i d e => ?_, by show (hi - lo).toNat ≤ ds.length; omega⟩
  obtain ⟨rfl, h3⟩ := h2 i d e
  refine ⟨h3, fun x H2 ⟨e1, e2⟩ => ?_⟩
  subst e1 e2
  exact yield_same W (by simp [Rp])
theorem pi_range {ag : As} (hg : Gl X "range") (hm : X.mg "range" = none) (ha : PAs fn X [e] ag) (hs : starEach [e] X.env = [(false, eval e X.env)] := by rfl) : PIx fn X tg (.Call (.Name "range" p) [e] [] pos) (iRange ag) := PI.imp (pi_range1 hg hm ha.pa hs) fun σ H R ⟨H0, F0, bo, ρ, F, b, R', ds, b', e, q⟩ => by
  unfold iRange at e
  split at e
  · rename_i j b1 e1
    split at e
    · rename_i xs e2
      cases e
      refine ⟨H0, F0, bo, ρ, F, b, R', _, _, e1, fun vs F' H' g hb rv => ?_⟩
      have ev : vs = [.int j] := RpL.ints (is := [j]) rv
      obtain ⟨_, _, ⟨h3, h4, h5, h6⟩, hz⟩ := rangeD_get e2
      exact ⟨j, ev, h5, h6, q _ F' H' g hb hz (by have := yields_range (m := pm X fn) (bo := bo) (F := F') (H := H') e2; rwa [Int.sub_zero] at this)⟩
    · cases e
  · rename_i i j b1 e1
    have := ha.len _ _ _ _ e1
    simp at this
  · cases e
theorem pi_rangeT {ag : As} (hg : Gl X "range") (hm : X.mg "range" = none) (ha : PAs fn X [e, e'] ag) (hs : starEach [e, e'] X.env = [(false, eval e X.env), (false, eval e' X.env)] := by rfl) (hs2 : starEach [e'] X.env = [(false, eval e' X.env)] := by rfl) :
    PIx fn X tg (.Call (.Name "range" p) [e, e'] [] pos) (iRange ag) := PI.imp (pi_range2 hg hm ha.pa hs hs2) fun σ H R ⟨H0, F0, bo, ρ, F, b, R', ds, b', e, q⟩ => by
  unfold iRange at e
  split at e
  · rename_i j b1 e1
    have := ha.len _ _ _ _ e1
    simp at this
  · rename_i i j b1 e1
    split at e
    · rename_i xs e2
      cases e
      refine ⟨H0, F0, bo, ρ, F, b, R', _, _, e1, fun vs F' H' g hb rv => ?_⟩
      have ev : vs = [.int i, .int j] := RpL.ints (is := [i, j]) rv
      obtain ⟨_, _, h3, hz⟩ := rangeD_get e2
      exact ⟨i, j, ev, h3, q _ F' H' g hb hz (yields_range e2)⟩
    · cases e
  · cases e
/-- a text, sign by sign -/
theorem pi_str' (pe : PEo fn X e f) : PIx fn X tg e (iStr f) := PI.imp (pi_str pe) fun σ H R ⟨H0, F0, bo, ρ, F, b, R', ds, b', e, q⟩ => by
  unfold iStr at e
  split at e
  · rename_i z b1 e1
    split at e
    · rename_i hz
      cases e
      refine ⟨H0, F0, bo, ρ, F, b, R', _, _, e1, fun v F' H' g hb rv => ⟨z, rv.str, q _ F' H' g hb (by simpa [Str.length] using hz) fun F2 H2 b2 k W => ?_⟩⟩
      refine ⟨fun i d e => ?_, ?_⟩
      · rw [List.getElem?_map] at e
        cases hc : z.cps.toList[i]? with
        | none => rw [hc] at e; cases e
        | some c =>
          rw [hc] at e; cases e
          have hlt : i < z.cps.size := by
            have := (List.getElem?_eq_some_iff.mp hc).1
            simpa using this
          refine ⟨hlt, fun x H3 ⟨e1, c', e2, e3⟩ => ?_⟩
          subst e1 e3
          have : c' = c := by
            rw [Array.getElem?_toList, e2] at hc
            cases hc; rfl
          subst this
          exact yield_same W (by simp [Rp])
      · show z.cps.size ≤ _
        simp
    · cases e
  · cases e
/-! #### enumerate, zip: new pairs -/
theorem pi_enumA {ta : TA} {tpos : Pos} {elts : List Expr} {kk : Nat} (hg : Gl X "enumerate") (hm : X.mg "enumerate" = none) (ha : PA X [e] ta) (hs : starEach [e] X.env = [(false, eval e X.env)] := by rfl) :
    PI X (.Tuple elts kk tpos) (.Call (.Name "enumerate" p) [e] [] pos) (fun σ H R => ta σ H fun vs H1 => ∃ a xs, vs = [.ref a] ∧ (SqL X.K H1 a xs ∧ R (Ite X.K a) H1 ∨ SqT X.K H1 a xs ∧ R (IteT X.K a) H1)) := by
  refine ⟨fun pins s σ H R I h => ?_⟩
  refine PyProof.Rows.Call_ (ld_blt I hg hm PyProof.Rows.boot_enumerate (PyProof.Rows.callWith_type1 (thn (ha.run pos pins s σ H _ I h) fun us s1 ⟨vs, H1, I1, r1, a, xs, ex, q⟩ => ?_) hs rfl))
  subst ex
  have fp : ∀ (h' : Heap) (I2 : Inv X pins σ H1 { s1 with heap := h' }), ∀ b ∈ [s1.heap.objs.size + 1, s1.heap.objs.size], FpOk X pins H1 b := fun h' I2 b hb => by
    have e' : b = s1.heap.objs.size + 1 ∨ b = s1.heap.objs.size := by simpa using hb
    have hle : s1.heap.objs.size ≤ b := by
      rcases e' with z | z
      · rw [z]; exact Nat.le_succ _
      · rw [z]; exact Nat.le_refl _
    exact I1.fpOk hle (I1.hok.fresh hle)
  cases r1 with
  | cons r rr =>
    cases rr
    cases r
    rcases q with ⟨hq, q⟩ | ⟨hq, q⟩
    · obtain ⟨its, rv, p', hz⟩ := I1.list hq
      refine call_enumerate_list p'.isList fun h' he hit hsz hk => wpAny_pyIter_enum he ?_
      have I2 : Inv X pins σ H1 { s1 with heap := h' } := I1.kept (t' := s1.toks) hk
      exact ⟨s1.heap.objs.size + 1, [s1.heap.objs.size + 1, s1.heap.objs.size], _, _, H1, rfl, I2, turn_enum a (s1.heap.objs.size + 1) s1.heap.objs.size, ⟨⟨.none, he⟩, hit, Nat.succ_ne_self _⟩, fp h' I2, q⟩
    · obtain ⟨its, rv, p', hz⟩ := I1.tuple hq
      have hp : s1.heap.IsTuple a its.toArray := p'
      have hlt : a < s1.heap.objs.size := by obtain ⟨o, ho, _⟩ := hp; exact Heap.lt_size ho
      refine call_enumerate_tup hp fun h' he hit hk => wpAny_pyIter_enum he ?_
      have I2 : Inv X pins σ H1 { s1 with heap := h' } := I1.kept (t' := s1.toks) hk
      exact ⟨s1.heap.objs.size + 1, [s1.heap.objs.size + 1, s1.heap.objs.size], _, _, H1, rfl, I2, turn_enumT a (s1.heap.objs.size + 1) s1.heap.objs.size (Nat.succ_ne_self _) (Nat.ne_of_lt (Nat.lt_succ_of_lt hlt)) (Nat.ne_of_lt hlt), ⟨⟨.none, he⟩, hit⟩, fp h' I2, q⟩
theorem enumD_get : ∀ {k : Nat} {ds : List D}, (enumD k ds).length = ds.length ∧ ∀ (i : Nat) d, (enumD k ds)[i]? = some d → ∃ x, ds[i]? = some x ∧ d = .tup [.int ((k + i : Nat) : Int), x]
  | k, [] => ⟨rfl, fun i d e => by simp [enumD] at e⟩
  | k, x :: ds => by
    obtain ⟨h1, h2⟩ := enumD_get (k := k + 1) (ds := ds)
    refine ⟨by simp [enumD, h1], fun i d e => ?_⟩
    cases i with
    | zero => simp [enumD] at e; exact ⟨x, rfl, by rw [← e]; rfl⟩
    | succ i =>
      obtain ⟨y, e1, e2⟩ := h2 i d (by simpa [enumD] using e)
      exact ⟨y, by simpa using e1, by rw [e2, show k + 1 + i = k + (i + 1) by omega]⟩
theorem new_pair {m : Pm} {bo : Bo} {F : Addr → Prop} {H : Hp} {b : Bx} {T : Addr} {d e : D} {x y : V} (W : Wo bo F H b) (hT : H T = none) (h1 : Rp m bo F H d x) (h2 : Rp m bo F H e y) :
    Grow bo F H F (upd H T (.tup [x, y])) ∧ BoxOk bo F (upd H T (.tup [x, y])) b ∧ Rp m bo F (upd H T (.tup [x, y])) (.tup [d, e]) (.ref T) := new_tup W hT (RpL.cons h1 (RpL.cons h2 RpL.nil)) (by show 2 ≤ sizeLine; decide)
theorem yields_enumL {m : Pm} {bo : Bo} {F : Addr → Prop} {H : Hp} {b : Bx} {a : Addr} {vs : List V} {ds : List D} (W : Wo bo F H b) (r : RpL m bo F H ds vs) (s : SqL m.K H a vs) :
    (∀ (i : Nat) d, (enumD 0 ds)[i]? = some d → (Ite m.K a).go i H ∧ ∀ x H2, (Ite m.K a).yld i H x H2 → Grow bo F H F H2 ∧ BoxOk bo F H2 b ∧ Rp m bo F H2 d x) ∧ (Ite m.K a).stop (enumD 0 ds).length H := by
  obtain ⟨k1, k2⟩ := enumD_get (k := 0) (ds := ds)
  refine ⟨fun i d e => ?_, vs, s, by rw [r.length, k1]; exact Nat.le_refl _⟩
  obtain ⟨y, e1, rfl⟩ := k2 i d e
  obtain ⟨v, hv, rv⟩ := r.get e1
  refine ⟨⟨vs, v, s, hv⟩, fun x H2 ⟨T, x', h1, h2, h3, h4⟩ => ?_⟩
  subst h1 h3
  have := h4 vs s
  rw [hv] at this; cases this
  exact new_pair W h2 (by simp [Rp]) rv
theorem yields_enumT {m : Pm} {bo : Bo} {F : Addr → Prop} {H : Hp} {b : Bx} {a : Addr} {vs : List V} {ds : List D} (W : Wo bo F H b) (r : RpL m bo F H ds vs) (s : SqT m.K H a vs) :
    (∀ (i : Nat) d, (enumD 0 ds)[i]? = some d → (IteT m.K a).go i H ∧ ∀ x H2, (IteT m.K a).yld i H x H2 → Grow bo F H F H2 ∧ BoxOk bo F H2 b ∧ Rp m bo F H2 d x) ∧ (IteT m.K a).stop (enumD 0 ds).length H := by
  obtain ⟨k1, k2⟩ := enumD_get (k := 0) (ds := ds)
  refine ⟨fun i d e => ?_, vs, s, by rw [r.length, k1]⟩
  obtain ⟨y, e1, rfl⟩ := k2 i d e
  obtain ⟨v, hv, rv⟩ := r.get e1
  refine ⟨⟨vs, v, s, hv⟩, fun x H2 ⟨T, x', h1, h2, h3, h4⟩ => ?_⟩
  subst h1 h3
  have := h4 vs s
  rw [hv] at this; cases this
  exact new_pair W h2 (by simp [Rp]) rv
theorem pi_enum' {tpos : Pos} {elts : List Expr} {kk : Nat} (hg : Gl X "enumerate") (hm : X.mg "enumerate" = none) (pe : PEx fn X e f) (hs : starEach [e] X.env = [(false, eval e X.env)] := by rfl) :
    PIx fn X (.Tuple elts kk tpos) (.Call (.Name "enumerate" p) [e] [] pos) (iEnum f) := PI.imp (pi_enumA hg hm (pa_cons pe pa_nil hs) hs) fun σ H R ⟨H0, F0, bo, ρ, F, b, R', ds, b', e, q⟩ => by
  unfold iEnum at e
  split at e
  · rename_i d b1 e1
    split at e
    · rename_i xs e2
      cases e
      refine ⟨H0, F0, bo, ρ, F, b, R', d, _, e1, fun v F' H' g hb rv => ?_⟩
      unfold itemsD at e2
      split at e2
      · cases e2
        simp only [Rp] at rv
        obtain ⟨a, vs, rfl, f1, s, z, r⟩ := rv
        exact ⟨a, vs, rfl, .inl ⟨SqL.of s, q _ F' H' g hb (by rw [(enumD_get (k := 0)).1, ← r.length]; exact z) fun F2 H2 b2 k W => yields_enumL W (r.fk k) (SqL.of ((k.at_ a f1).trans s))⟩⟩
      · cases e2
        simp only [Rp] at rv
        obtain ⟨a, vs, rfl, s, z, r⟩ := rv
        exact ⟨a, vs, rfl, .inr ⟨s, q _ F' H' g hb (by rw [(enumD_get (k := 0)).1, ← r.length]; exact z) fun F2 H2 b2 k W => yields_enumT W (r.fk k) (Sv.SqT.fk k s)⟩⟩
      · cases e2
    · cases e
  · cases e
theorem zipD_get : ∀ {ds es : List D}, (zipD ds es).length = min ds.length es.length ∧ ∀ (i : Nat) d, (zipD ds es)[i]? = some d → ∃ x y, ds[i]? = some x ∧ es[i]? = some y ∧ d = .tup [x, y]
  | [], es => by simp [zipD]
  | x :: ds, [] => by simp [zipD]
  | x :: ds, y :: es => by
    obtain ⟨h1, h2⟩ := zipD_get (ds := ds) (es := es)
    refine ⟨by simp [zipD, h1], fun i d e => ?_⟩
    cases i with
    | zero => simp [zipD] at e; exact ⟨x, y, rfl, rfl, e.symm⟩
    | succ i => simpa using h2 i d (by simpa [zipD] using e)
theorem yields_zipL {m : Pm} {bo : Bo} {F : Addr → Prop} {H : Hp} {b : Bx} {a a' : Addr} {vs us : List V} {ds es : List D} (W : Wo bo F H b) (r : RpL m bo F H ds vs) (s : SqL m.K H a vs) (r' : RpL m bo F H es us) (s' : SqL m.K H a' us) :
    (∀ (i : Nat) d, (zipD ds es)[i]? = some d → (Itz m.K a a').go i H ∧ ∀ x H2, (Itz m.K a a').yld i H x H2 → Grow bo F H F H2 ∧ BoxOk bo F H2 b ∧ Rp m bo F H2 d x) ∧ (Itz m.K a a').stop (zipD ds es).length H := by
  obtain ⟨k1, k2⟩ := zipD_get (ds := ds) (es := es)
  refine ⟨fun i d e => ?_, vs, us, s, s', by rw [r.length, r'.length, k1]; omega⟩
  obtain ⟨y, z, e1, e2, rfl⟩ := k2 i d e
  obtain ⟨v, hv, rv⟩ := r.get e1
  obtain ⟨u, hu, ru⟩ := r'.get e2
  refine ⟨⟨vs, us, v, u, s, s', hv, hu⟩, fun x H2 ⟨T, x', y', h1, h2, h3, h4, h5⟩ => ?_⟩
  subst h1 h3
  have q1 := h4 vs s
  have q2 := h5 us s'
  rw [hv] at q1; cases q1
  rw [hu] at q2; cases q2
  exact new_pair W h2 rv ru
theorem yields_zipT {m : Pm} {bo : Bo} {F : Addr → Prop} {H : Hp} {b : Bx} {a a' : Addr} {vs us : List V} {ds es : List D} (W : Wo bo F H b) (r : RpL m bo F H ds vs) (s : SqT m.K H a vs) (r' : RpL m bo F H es us) (s' : SqT m.K H a' us) :
    (∀ (i : Nat) d, (zipD ds es)[i]? = some d → (RZ.ItzT m.K a a').go i H ∧ ∀ x H2, (RZ.ItzT m.K a a').yld i H x H2 → Grow bo F H F H2 ∧ BoxOk bo F H2 b ∧ Rp m bo F H2 d x) ∧ (RZ.ItzT m.K a a').stop (zipD ds es).length H := by
  obtain ⟨k1, k2⟩ := zipD_get (ds := ds) (es := es)
  refine ⟨fun i d e => ?_, vs, us, s, s', by rw [r.length, r'.length, k1]; omega⟩
  obtain ⟨y, z, e1, e2, rfl⟩ := k2 i d e
  obtain ⟨v, hv, rv⟩ := r.get e1
  obtain ⟨u, hu, ru⟩ := r'.get e2
  refine ⟨⟨vs, us, v, u, s, s', hv, hu⟩, fun x H2 ⟨T, x', y', h1, h2, h3, h4, h5⟩ => ?_⟩
  subst h1 h3
  have q1 := h4 vs s
  have q2 := h5 us s'
  rw [hv] at q1; cases q1
  rw [hu] at q2; cases q2
  exact new_pair W h2 rv ru
theorem pi_zip' {tpos : Pos} {elts : List Expr} {kk : Nat} (hg : Gl X "zip") (hm : X.mg "zip" = none) (pe : PEx fn X e f) (pe' : PEx fn X e' g) (hs : starEach [e, e'] X.env = (false, eval e X.env) :: starEach [e'] X.env := by rfl) (hs2 : starEach [e'] X.env = [(false, eval e' X.env)] := by rfl) (hpl : (backTo pos (starEach [e'] X.env)).any (·.1) = false := by rfl) :
    PIx fn X (.Tuple elts kk tpos) (.Call (.Name "zip" p) [e, e'] [] pos) (iZip f g) := PI.imp (RZ.pi_zipA hg hm (pa_cons pe (pa_cons pe' pa_nil hs2) hs) hs hpl) fun σ H R ⟨H0, F0, bo, ρ, F, b, R', ds, b', e, q⟩ => by
  unfold iZip at e
  split at e
  · rename_i d b1 e1
    split at e
    · rename_i d2 b2 e2
      split at e
      · rename_i zs e3
        cases e
        refine ⟨H0, F0, bo, ρ, F, b, R', d, b1, e1, fun v F1 H1 g1 hb1 rv => ?_⟩
        have R1 := R'.grow g1 hb1
        refine ⟨H0, F0, bo, ρ, F1, b1, R1, d2, _, e2, fun u F2 H2 g2 hb2 ru => ?_⟩
        have rv := rv.fk (R1.fkg g2)
        unfold zipDD at e3
        split at e3
        · cases e3
          simp only [Rp] at rv ru
          obtain ⟨a, vs, rfl, f1, s, z, r⟩ := rv
          obtain ⟨a', us, rfl, f1', s', z', r'⟩ := ru
          exact ⟨a, a', vs, us, rfl, .inl ⟨SqL.of s, SqL.of s', q _ F2 H2 (g1.trans g2) hb2 (by rw [zipD_get.1, ← r.length]; exact Nat.le_trans (Nat.min_le_left _ _) z) fun F3 H3 b3 k W => yields_zipL W (r.fk k) (SqL.of ((k.at_ a f1).trans s)) (r'.fk k) (SqL.of ((k.at_ a' f1').trans s'))⟩⟩
        · cases e3
          simp only [Rp] at rv ru
          obtain ⟨a, vs, rfl, s, z, r⟩ := rv
          obtain ⟨a', us, rfl, s', z', r'⟩ := ru
          exact ⟨a, a', vs, us, rfl, .inr ⟨s, s', q _ F2 H2 (g1.trans g2) hb2 (by rw [zipD_get.1, ← r.length]; exact Nat.le_trans (Nat.min_le_left _ _) z) fun F3 H3 b3 k W => yields_zipT W (r.fk k) (Sv.SqT.fk k s) (r'.fk k) (Sv.SqT.fk k s')⟩⟩
        · cases e3
      · cases e
    · cases e
  · cases e
end
end Sv

set_option maxHeartbeats 4000000
/-! Sv8: targets, comprehensions. -/
namespace Sv
open PySem L2

/-! ### slots -/
section
variable {m : Pm} {H0 : Hp} {F0 : Addr → Prop} {bo : Bo} {σ : St} {ρ : Rho} {F F' : Addr → Prop} {H H' : Hp} {b b' : Bx}
theorem Rel.set_frz (R : Rel m H0 F0 bo σ ρ F H b) {i : Nat} {d : D} {v : V} (h : Rp m bo F H d v) : Rel m H0 F0 bo (σ.set i (some v)) (ρ.set i (Sl.frz d)) F H b where
  core := R.core
  len := by simp [R.len]
  frz := fun j e hj => by
    by_cases hij : i = j
    · subst hij
      have hl : i < ρ.length := by
        have := (List.getElem?_eq_some_iff.mp hj).1
        simpa using this
      rw [List.getElem?_set_self hl] at hj
      cases hj
      exact ⟨v, by rw [List.getElem?_set_self (by rw [R.len]; exact hl)], h⟩
    · rw [List.getElem?_set_ne hij] at hj
      obtain ⟨u, h1, h2⟩ := R.frz j e hj
      exact ⟨u, by rw [List.getElem?_set_ne hij]; exact h1, h2⟩
  own := fun j e hj => by
    by_cases hij : i = j
    · subst hij
      have hl : i < ρ.length := by
        have := (List.getElem?_eq_some_iff.mp hj).1
        simpa using this
      rw [List.getElem?_set_self hl] at hj
      cases hj
    · rw [List.getElem?_set_ne hij] at hj
      obtain ⟨u, h1, h2⟩ := R.own j e hj
      exact ⟨u, by rw [List.getElem?_set_ne hij]; exact h1, h2⟩
  dis := fun j k dj dk a hjk hj hk h1 h2 => by
    have nj : i ≠ j := fun e => by
      subst e
      have hl : i < ρ.length := by
        have := (List.getElem?_eq_some_iff.mp hj).1
        simpa using this
      rw [List.getElem?_set_self hl] at hj
      cases hj
    have nk : i ≠ k := fun e => by
      subst e
      have hl : i < ρ.length := by
        have := (List.getElem?_eq_some_iff.mp hk).1
        simpa using this
      rw [List.getElem?_set_self hl] at hk
      cases hk
    rw [List.getElem?_set_ne nj] at hj h1
    rw [List.getElem?_set_ne nk] at hk h2
    exact R.dis j k dj dk a hjk hj hk h1 h2
theorem Rel.set_emp (R : Rel m H0 F0 bo σ ρ F H b) {i : Nat} {v : Option V} : Rel m H0 F0 bo (σ.set i v) (ρ.set i Sl.emp) F H b where
  core := R.core
  len := by simp [R.len]
  frz := fun j e hj => by
    by_cases hij : i = j
    · subst hij
      have hl : i < ρ.length := by
        have := (List.getElem?_eq_some_iff.mp hj).1
        simpa using this
      rw [List.getElem?_set_self hl] at hj
      cases hj
    · rw [List.getElem?_set_ne hij] at hj
      obtain ⟨u, h1, h2⟩ := R.frz j e hj
      exact ⟨u, by rw [List.getElem?_set_ne hij]; exact h1, h2⟩
  own := fun j e hj => by
    by_cases hij : i = j
    · subst hij
      have hl : i < ρ.length := by
        have := (List.getElem?_eq_some_iff.mp hj).1
        simpa using this
      rw [List.getElem?_set_self hl] at hj
      cases hj
    · rw [List.getElem?_set_ne hij] at hj
      obtain ⟨u, h1, h2⟩ := R.own j e hj
      exact ⟨u, by rw [List.getElem?_set_ne hij]; exact h1, h2⟩
  dis := fun j k dj dk a hjk hj hk h1 h2 => by
    have nj : i ≠ j := fun e => by
      subst e
      have hl : i < ρ.length := by
        have := (List.getElem?_eq_some_iff.mp hj).1
        simpa using this
      rw [List.getElem?_set_self hl] at hj
      cases hj
    have nk : i ≠ k := fun e => by
      subst e
      have hl : i < ρ.length := by
        have := (List.getElem?_eq_some_iff.mp hk).1
        simpa using this
      rw [List.getElem?_set_self hl] at hk
      cases hk
    rw [List.getElem?_set_ne nj] at hj h1
    rw [List.getElem?_set_ne nk] at hk h2
    exact R.dis j k dj dk a hjk hj hk h1 h2
/-- a slot of one's own, its place new or that of no other -/
theorem Rel.set_own (R : Rel m H0 F0 bo σ ρ F H b) {i : Nat} {d : D} {a : Addr} (nf : ¬ F a) (nb : ¬ inBox bo a) (h0 : H0 a = none) (h : Own m bo F H d a)
    (hd : ∀ j dj, j ≠ i → ρ[j]? = some (Sl.own dj) → σ[j]? = some (some (V.ref a)) → False) : Rel m H0 F0 bo (σ.set i (some (V.ref a))) (ρ.set i (Sl.own d)) F H b where
  core := R.core
  len := by simp [R.len]
  frz := fun j e hj => by
    by_cases hij : i = j
    · subst hij
      have hl : i < ρ.length := by
        have := (List.getElem?_eq_some_iff.mp hj).1
        simpa using this
      rw [List.getElem?_set_self hl] at hj
      cases hj
    · rw [List.getElem?_set_ne hij] at hj
      obtain ⟨u, h1, h2⟩ := R.frz j e hj
      exact ⟨u, by rw [List.getElem?_set_ne hij]; exact h1, h2⟩
  own := fun j e hj => by
    by_cases hij : i = j
    · subst hij
      have hl : i < ρ.length := by
        have := (List.getElem?_eq_some_iff.mp hj).1
        simpa using this
      rw [List.getElem?_set_self hl] at hj
      cases hj
      exact ⟨a, by rw [List.getElem?_set_self (by rw [R.len]; exact hl)], nf, nb, h0, h⟩
    · rw [List.getElem?_set_ne hij] at hj
      obtain ⟨u, h1, h2⟩ := R.own j e hj
      exact ⟨u, by rw [List.getElem?_set_ne hij]; exact h1, h2⟩
  dis := fun j k dj dk c hjk hj hk h1 h2 => by
    by_cases ej : i = j
    · subst ej
      have hl : i < ρ.length := by
        have := (List.getElem?_eq_some_iff.mp hj).1
        simpa using this
      rw [List.getElem?_set_self (by rw [R.len]; exact hl)] at h1
      cases h1
      rw [List.getElem?_set_ne hjk] at hk h2
      exact hd k dk (Ne.symm hjk) hk h2
    · by_cases ek : i = k
      · subst ek
        have hl : i < ρ.length := by
          have := (List.getElem?_eq_some_iff.mp hk).1
          simpa using this
        rw [List.getElem?_set_self (by rw [R.len]; exact hl)] at h2
        cases h2
        rw [List.getElem?_set_ne ej] at hj h1
        exact hd j dj hjk hj h1
      · rw [List.getElem?_set_ne ej] at hj h1
        rw [List.getElem?_set_ne ek] at hk h2
        exact R.dis j k dj dk c hjk hj hk h1 h2
theorem Rel.wipe (R : Rel m H0 F0 bo σ ρ F H b) : ∀ vs : List Nat, Rel m H0 F0 bo (L2.wipe σ vs) (wipeR ρ vs) F H b
  | [] => R
  | v :: vs => (Rel.wipe R vs).set_emp
end

/-! ### targets -/
/-- the slots a target stores to are of sl -/
def wipeEq (sl : List Nat) (σ σ' : St) : Prop := ∀ vs : List Nat, (∀ i ∈ sl, i ∈ vs) → L2.wipe σ' vs = L2.wipe σ vs
theorem wipeEq.refl {sl : List Nat} {σ : St} : wipeEq sl σ σ := fun _ _ => rfl
theorem wipe_set {σ : St} {i : Nat} {v : Option V} : ∀ {vs : List Nat}, i ∈ vs → L2.wipe (σ.set i v) vs = L2.wipe σ vs
  | w :: vs, h => by
    show (L2.wipe (σ.set i v) vs).set w none = (L2.wipe σ vs).set w none
    by_cases hi : i ∈ vs
    · rw [wipe_set hi]
    · have hw : i = w := by
        rcases List.mem_cons.mp h with h | h
        · exact h
        · exact absurd h hi
      subst hw
      apply List.ext_getElem?
      intro j
      by_cases hj : i = j
      · subst hj
        rw [List.getElem?_set, List.getElem?_set]
        simp [wipe_length]
      · rw [List.getElem?_set_ne hj, List.getElem?_set_ne hj]
        by_cases hjv : j ∈ vs
        · have p : ∀ σ : St, j < σ.length → (L2.wipe σ vs)[j]? = some none := fun σ hl => by
            cases q : (L2.wipe σ vs)[j]? with
            | none =>
              rw [List.getElem?_eq_none_iff, wipe_length] at q
              omega
            | some o =>
              cases o with
              | none => rfl
              | some x => exact absurd hjv (wipe_some q).2
          by_cases hl : j < σ.length
          · rw [p _ (by simpa using hl), p _ hl]
          · rw [List.getElem?_eq_none (by rw [wipe_length]; simp; omega), List.getElem?_eq_none (by rw [wipe_length]; omega)]
        · rw [wipe_out hjv, wipe_out hjv, List.getElem?_set_ne hj]
theorem wipe_wipe {σ : St} {us : List Nat} : ∀ {vs : List Nat}, (∀ i ∈ vs, i ∈ us) → L2.wipe (L2.wipe σ vs) us = L2.wipe σ us
  | [], _ => rfl
  | v :: vs, h => by
    show L2.wipe ((L2.wipe σ vs).set v none) us = _
    rw [wipe_set (h v (by simp)), wipe_wipe fun i hi => h i (List.mem_cons_of_mem _ hi)]
def gEx (m : Pm) (sl : List Nat) (g : Tg) : TG := fun v σ H Q => ∃ H0 F0 bo ρ F b, Rel m H0 F0 bo σ ρ F H b ∧ ∃ d ρ', Rp m bo F H d v ∧ g d ρ = some ρ' ∧
  ∀ σ', Rel m H0 F0 bo σ' ρ' F H b → wipeEq sl σ σ' → Q σ' H
def gExs (m : Pm) (sl : List Nat) (g : List D → Rho → Option Rho) : TGs := fun vs σ H Q => ∃ H0 F0 bo ρ F b, Rel m H0 F0 bo σ ρ F H b ∧ ∃ ds ρ', RpL m bo F H ds vs ∧ g ds ρ = some ρ' ∧
  ∀ σ', Rel m H0 F0 bo σ' ρ' F H b → wipeEq sl σ σ' → Q σ' H
abbrev PGx (fn : Nat → Option V) (X : Cx) (tg : Expr) (sl : List Nat) (g : Tg) : Prop := PG X tg (gEx (pm X fn) sl g)
structure PGxs (fn : Nat → Option V) (X : Cx) (ts : List Expr) (sl : List Nat) (g : List D → Rho → Option Rho) : Prop where
  pg : PGs X ts (gExs (pm X fn) sl g)
  len : ∀ ds ρ ρ', g ds ρ = some ρ' → ds.length = ts.length
theorem PG.imp {X : Cx} {e : Expr} {t t' : TG} (h : PG X e t) (i : ∀ v σ H Q, t' v σ H Q → t v σ H Q) : PG X e t' := ⟨fun pins s σ H v u Q I r q => h.run pins s σ H v u Q I r (i v σ H Q q)⟩
theorem PGs.imp {X : Cx} {e : List Expr} {t t' : TGs} (h : PGs X e t) (i : ∀ v σ H Q, t' v σ H Q → t v σ H Q) : PGs X e t' := ⟨fun pins s σ H v u Q I r q => h.run pins s σ H v u Q I r (i v σ H Q q)⟩
section
variable {fn : Nat → Option V} {X : Cx} {pos : Pos}
theorem pgx_nm {i : Nat} {x : Str} (hN : X.N.Nodup) (hi : X.N[i]? = some x) (hx : Loc X.env.scope x) (hf : X.fn x = true ∨ X.env.scope.names.lookup x = some .local := by first | exact .inl rfl | exact .inr rfl | assumption) : PGx fn X (.Name x pos) [i] (gNm i) :=
  PG.imp (pg_name hN hi hx hf) fun v σ H Q ⟨H0, F0, bo, ρ, F, b, R, d, ρ', r, e, q⟩ => by
    cases e
    exact q _ (R.set_frz r) fun vs h => wipe_set (h i (by simp))
theorem gNone_len : ∀ ds ρ ρ', gNone ds ρ = some ρ' → ds.length = 0 := fun ds ρ ρ' e => by
  unfold gNone at e
  split at e
  · rfl
  · cases e
theorem gMore_len {g : Tg} {h : List D → Rho → Option Rho} {n : Nat} (hl : ∀ ds ρ ρ', h ds ρ = some ρ' → ds.length = n) : ∀ ds ρ ρ', gMore g h ds ρ = some ρ' → ds.length = n + 1 := fun ds ρ ρ' e => by
  unfold gMore at e
  split at e
  · split at e
    · have := hl _ _ _ e
      simp [this]
    · cases e
  · cases e
theorem pgx_nil : PGxs fn X [] [] gNone := by
  refine ⟨PGs.imp pgs_nil fun v σ H Q ⟨H0, F0, bo, ρ, F, b, R, ds, ρ', r, e, q⟩ => ?_, gNone_len⟩
  unfold gNone at e
  split at e
  · cases e
    simp only [RpL] at r
    exact ⟨r, q _ R wipeEq.refl⟩
  · cases e
theorem pgx_cons {t : Expr} {ts : List Expr} {sl sl' : List Nat} {g : Tg} {h : List D → Rho → Option Rho} (h1 : PGx fn X t sl g) (h2 : PGxs fn X ts sl' h)
    (hs : (assignEach (t :: ts) X.env).map (·.2) = assign t X.env :: (assignEach ts X.env).map (·.2) := by rfl) : PGxs fn X (t :: ts) (sl ++ sl') (gMore g h) := by
  refine ⟨PGs.imp (pgs_cons h1 h2.pg hs) fun v σ H Q ⟨H0, F0, bo, ρ, F, b, R, ds, ρ', r, e, q⟩ => ?_, gMore_len h2.len⟩
  unfold gMore at e
  split at e
  · rename_i d ds'
    split at e
    · rename_i ρ1 e1
      simp only [RpL] at r
      obtain ⟨v1, vr, rfl, r1, r2⟩ := r
      refine ⟨v1, vr, rfl, H0, F0, bo, ρ, F, b, R, d, ρ1, r1, e1, fun σ1 R1 w1 => ?_⟩
      exact ⟨H0, F0, bo, ρ1, F, b, R1, ds', ρ', r2, e, fun σ2 R2 w2 => q σ2 R2 fun vs hv => (w2 vs fun i hi => hv i (List.mem_append_right _ hi)).trans (w1 vs fun i hi => hv i (List.mem_append_left _ hi))⟩
    · cases e
  · cases e
theorem pgx_tup {ts : List Expr} {k : Nat} {sl : List Nat} {h : List D → Rho → Option Rho} (hc : X.calm = true) (p : PGxs fn X ts sl h) (hn : (assignEach ts X.env).length = ts.length := by rfl) (hst : (assignEach ts X.env).findIdx? (·.1) = none := by rfl) :
    PGx fn X (.Tuple ts k pos) sl (gTp h) := PG.imp (pg_tup hc p.pg hn hst) fun v σ H Q ⟨H0, F0, bo, ρ, F, b, R, d, ρ', r, e, q⟩ => by
  unfold gTp at e
  split at e
  · rename_i ds
    simp only [Rp] at r
    obtain ⟨a, vs, rfl, s, z, r⟩ := r
    exact ⟨a, vs, rfl, s, by rw [r.length, p.len _ _ _ e], H0, F0, bo, ρ, F, b, R, ds, ρ', r, e, q⟩
  · cases e

/-! ### list comprehensions -/
abbrev PTsx (fn : Nat → Option V) (X : Cx) (ifs : List Expr) (t : Tx) : Prop := PTs X ifs (tTx (pm X fn) t)
theorem PTs.imp {X : Cx} {e : List Expr} {t t' : TT} (h : PTs X e t) (i : ∀ σ H Q, t' σ H Q → t σ H Q) : PTs X e t' := ⟨fun pins s σ H Q I q => h.run pins s σ H Q I (i σ H Q q)⟩
theorem ptx_nil : PTsx fn X [] tYes' := PTs.imp pts_nil fun σ H Q ⟨H0, F0, bo, ρ, F, b, R, d, b', e, q⟩ => by
  cases e
  exact q F H (Grow.refl R.core.dom) R.core.box
theorem ptx_one {c : Expr} {t : Tx} (h : PTx fn X c t) : PTsx fn X [c] t := pts_one h
theorem lcGo_len {g : Tg} {t : Tx} {f : Ex} {ρ : Rho} : ∀ {ds : List D} {b : Bx} {rs : List D} {b' : Bx}, lcGo g t f ρ ds b = some (rs, b') → rs.length ≤ ds.length
  | [], b, rs, b', e => by cases e; simp
  | d :: ds, b, rs, b', e => by
    unfold lcGo at e
    split at e
    · split at e
      · split at e
        · split at e
          · rename_i e3
            cases e
            have := lcGo_len e3
            simp; omega
          · cases e
        · cases e
      · have := lcGo_len e
        simp; omega
      · cases e
    · cases e
theorem lc_o {m : Pm} {it : It} {g : Tg} {t : Tx} {f : Ex} {sl vs : List Nat} (hsl : ∀ i ∈ sl, i ∈ vs) {σ : St} {H : Hp} {Q : VK} (h : tEn m (eLc it g t f vs) σ H Q) : tLc (iEo m it) (gEx m sl g) (tTx m t) (tEx m f) vs σ H Q := by
  obtain ⟨H0, F0, bo, ρ, F, b, R, r, b', e, q⟩ := h
  unfold eLc at e
  split at e
  · rename_i ds b1 e1
    split at e
    · rename_i rs b2 e2
      cases e
      refine ⟨H0, F0, bo, ρ, F, b, R, ds, b1, e1, fun J F1 H1 g1 hb1 hz y D hD => ?_⟩
      have R1 := R.grow g1 hb1
      have W1 : Wo bo F1 H1 b1 := R1.wo
      have nD : ¬ inBox bo D := inBox_new W1 hD
      refine ⟨fun i mm H2 => mm = ds.length - i ∧ i ≤ ds.length ∧ ∃ F2 bb acc accD rs2, Grow bo F1 H1 F2 H2 ∧ BoxOk bo F2 H2 bb ∧ H2 D = some (.lst acc) ∧ ¬ F2 D ∧ RpL m bo F2 H2 accD acc ∧ acc.length ≤ i ∧ lcGo g t f (wipeR ρ vs) (ds.drop i) bb = some (rs2, b') ∧ accD ++ rs2 = rs,
        ⟨_, rfl, Nat.zero_le _, F1, b1, [], [], rs, Grow.alloc W1 hD, BoxOk.alloc W1 hD fun _ h => .inl h, upd_same, fun z => W1.dom D z hD, RpL.nil, Nat.zero_le _, e2, rfl⟩, ?_⟩
      rintro i mm H2 ⟨rfl, hi, F2, bb, acc, accD, rs2, g2, hb2, hD2, nF, ra, hal, eg, er⟩
      obtain ⟨yy, yst⟩ := y F2 H2 bb g2 ⟨hb2, g2.dom⟩
      by_cases hlt : i < ds.length
      · refine .inr ?_
        obtain ⟨ygo, yyl⟩ := yy i ds[i] (List.getElem?_eq_getElem hlt)
        rw [List.drop_eq_getElem_cons hlt] at eg
        refine ⟨ygo, fun H3 => ∃ F2 bb acc accD rs2, Grow bo F1 H1 F2 H3 ∧ BoxOk bo F2 H3 bb ∧ H3 D = some (.lst acc) ∧ ¬ F2 D ∧ RpL m bo F2 H3 accD acc ∧ acc.length ≤ i + 1 ∧ lcGo g t f (wipeR ρ vs) (ds.drop (i + 1)) bb = some (rs2, b') ∧ accD ++ rs2 = rs, fun H' hh => ⟨_, by omega, rfl, hlt, hh⟩, fun x H3 hy => ?_⟩
        obtain ⟨g3, hb3, rx⟩ := yyl x H3 hy
        have W2 : Wo bo F2 H2 bb := ⟨hb2, g2.dom⟩
        have R3 := ((R1.grow g2 hb2).grow g3 hb3).wipe vs
        have hD3 : H3 D = some (.lst acc) := g3.keep D _ hD2 nD
        have ra3 := ra.fk (W2.fk g3)
        unfold lcGo at eg
        split at eg
        · rename_i ρ1 e3
          refine ⟨H0, F0, bo, _, F2, bb, R3, _, ρ1, rx, e3, fun σ4 R4 w4 => ⟨w4 vs hsl |>.trans ?_, ?_⟩⟩
          · exact wipe_wipe fun i h => h
          split at eg
          · rename_i b3 e4
            refine ⟨H0, F0, bo, ρ1, F2, bb, R4, true, b3, e4, fun F5 H5 g5 hb5 => iteT ?_⟩
            split at eg
            · rename_i z b4 e5
              split at eg
              · rename_i zs b5 e6
                cases eg
                refine ⟨H0, F0, bo, ρ1, F5, b3, R4.grow g5 hb5, z, b4, e5, fun v F6 H6 g6 hb6 rv => ?_⟩
                have g36 := (g3.trans g5).trans g6
                have W3 : Wo bo F2 H3 bb := ⟨hb3, g3.dom⟩
                have W5 : Wo bo F5 H5 b3 := ⟨hb5, g5.dom⟩
                have hD6 : H6 D = some (.lst acc) := g36.keep D _ hD2 nD
                have nF6 : ¬ F6 D := fun hf => by
                  rcases g36.new D hf with k | k
                  · exact nF k
                  · rw [hD2] at k; cases k
                have kk : FK F6 H6 F6 (upd H6 D (.lst (acc ++ [v]))) := by
                  refine ⟨fun _ h => h, fun c hc => upd_ne fun e => nF6 (e ▸ hc), fun c o ho hm => ?_⟩
                  by_cases hcD : c = D
                  · subst hcD
                    rw [hD6] at ho; cases ho
                    exact absurd trivial hm
                  · rw [upd_ne hcD]; exact ho
                have g16 := g2.trans g36
                have ra6 := ra.fk (W2.fk g36)
                refine ⟨acc, hD6, by omega, F6, b4, acc ++ [v], accD ++ [z], zs, ⟨fun c o ho hn => ?_, fun c ho => ?_, g16.sub, g16.new, fun c hc ho => ?_⟩, ?_, upd_same, nF6, RpL.append (ra6.fk kk) (RpL.cons (rv.fk kk) RpL.nil), by simp; omega, e6, by simpa using er⟩
                · by_cases hcD : c = D
                  · subst hcD; rw [hD] at ho; cases ho
                  · rw [upd_ne hcD]; exact g16.keep c o ho hn
                · by_cases hcD : c = D
                  · subst hcD; exact hD
                  · rw [upd_ne hcD] at ho; exact g16.free c ho
                · by_cases hcD : c = D
                  · subst hcD; rw [upd_same] at ho; cases ho
                  · rw [upd_ne hcD] at ho; exact g16.dom c hc ho
                · cases bo with
                  | none => trivial
                  | some pq =>
                    obtain ⟨p, q'⟩ := pq
                    obtain ⟨a1, a2, a3, a4, a5⟩ := hb6
                    exact ⟨a1, a2, a3, by rw [upd_ne fun e => nD (.inl e.symm)]; exact a4, by rw [upd_ne fun e => nD (.inr e.symm)]; exact a5⟩
              · cases eg
            · cases eg
          · rename_i b3 e4
            refine ⟨H0, F0, bo, ρ1, F2, bb, R4, false, b3, e4, fun F5 H5 g5 hb5 => iteF ?_⟩
            have g35 := g3.trans g5
            have nF5 : ¬ F5 D := fun hf => by
              rcases g35.new D hf with k | k
              · exact nF k
              · rw [hD2] at k; cases k
            exact ⟨F5, b3, acc, accD, rs2, g2.trans g35, hb5, g35.keep D _ hD2 nD, nF5, ra.fk (W2.fk g35), by omega, eg, er⟩
          · cases eg
        · cases eg
      · have ei : i = ds.length := by omega
        subst ei
        rw [List.drop_length] at eg
        cases eg
        refine .inl ⟨yst, ?_⟩
        rw [List.append_nil] at er
        subst er
        have : accD.length ≤ sizeLine := by rw [← ra.length]; omega
        exact q D F2 H2 (g1.trans g2) hb2 (g1.free D hD) nF ⟨acc, hD2, by omega, ra⟩
    · cases e
  · cases e
theorem pn_lc {elt tg iter : Expr} {ifs : List Expr} {scope : Scope} {own : List (Str × Nat)} {it : It} {g : Tg} {t : Tx} {f : Ex} {sl : List Nat} (hc : X.calm = true) (hN : X.N.Nodup) (hi : PIo fn X tg iter it) (ok : BlkOk X.N X.env.scope scope own)
    (hg : ∀ (s : Shared) (H : Hp) (C : Addr) (cl : List (Str × Addr)) (fp : List Addr), PGx fn (X.blk s H scope (compEnvC scope cl C X.env) fp) tg sl g)
    (ht : ∀ (s : Shared) (H : Hp) (C : Addr) (cl : List (Str × Addr)) (fp : List Addr), PTsx fn (X.blk s H scope (compEnvC scope cl C X.env) fp) ifs t)
    (he : ∀ (s : Shared) (H : Hp) (C : Addr) (cl : List (Str × Addr)) (fp : List Addr), PEx fn (X.blk s H scope (compEnvC scope cl C X.env) fp) elt f)
    (hsl : ∀ i ∈ sl, i ∈ own.map (·.2) := by decide) (hs : ∀ x, foldedSetIterable iter X.env x = pure x := by intro _; rfl) :
    PEn fn X (.ListComp elt [⟨tg, iter, ifs, 0⟩] scope pos) (eLc it g t f (own.map (·.2))) :=
  PE.imp (pe_lc hc hN hi ok hg ht he hs) fun _ _ _ h => lc_o hsl h
end
end Sv

set_option maxHeartbeats 4000000
/-! Sv9: statements. -/
namespace Sv
open PySem L2

/-- what is reached at an end -/
def PostS (m : Pm) (H0 : Hp) (F0 : Addr → Prop) (bo : Bo) (F : Addr → Prop) (H : Hp) (D : Ends) : Fl → Rho → Bx → Prop
  | .nx, ρ, b => ∀ σ' F' H', Rel m H0 F0 bo σ' ρ F' H' b → FK F H F' H' → D.nx σ' H'
  | .bk, ρ, b => ∀ σ' F' H', Rel m H0 F0 bo σ' ρ F' H' b → FK F H F' H' → D.bk σ' H'
  | .ct, ρ, b => ∀ σ' F' H', Rel m H0 F0 bo σ' ρ F' H' b → FK F H F' H' → D.ct σ' H'
  | .rt d, _, b => ∀ v F' H', Core H0 F0 bo F' H' b → Rp m bo F' H' d v → D.rt v H'
theorem PostS.fk {m : Pm} {H0 : Hp} {F0 : Addr → Prop} {bo : Bo} {F F1 : Addr → Prop} {H H1 : Hp} {D : Ends} (k : FK F H F1 H1) : ∀ {fl : Fl} {ρ : Rho} {b : Bx}, PostS m H0 F0 bo F H D fl ρ b → PostS m H0 F0 bo F1 H1 D fl ρ b
  | .nx, _, _, h => fun σ' F' H' R k' => h σ' F' H' R (k.trans k')
  | .bk, _, _, h => fun σ' F' H' R k' => h σ' F' H' R (k.trans k')
  | .ct, _, _, h => fun σ' F' H' R k' => h σ' F' H' R (k.trans k')
  | .rt _, _, _, h => h
def tSs (m : Pm) (s : SS) : TS := fun D σ H => ∃ H0 F0 bo ρ F b, Rel m H0 F0 bo σ ρ F H b ∧ ∃ fl ρ' b', s ρ b = some (fl, ρ', b') ∧ PostS m H0 F0 bo F H D fl ρ' b'
abbrev PSx (fn : Nat → Option V) (X : Cx) (st : Stmt) (s : SS) : Prop := PS X st (tSs (pm X fn) s)
abbrev PSsx (fn : Nat → Option V) (X : Cx) (st : List Stmt) (s : SS) : Prop := PSs X st (tSs (pm X fn) s)
theorem PS.imp {X : Cx} {e : Stmt} {t t' : TS} (h : PS X e t) (i : ∀ D σ H, t' D σ H → t D σ H) : PS X e t' := ⟨fun pins s σ H D I q => h.run pins s σ H D I (i D σ H q)⟩
theorem PSs.imp {X : Cx} {e : List Stmt} {t t' : TS} (h : PSs X e t) (i : ∀ D σ H, t' D σ H → t D σ H) : PSs X e t' := ⟨fun pins s σ H D I q => h.run pins s σ H D I (i D σ H q)⟩

section
variable {m : Pm} {D : Ends} {σ : St} {H : Hp} {Q : VK}
theorem seq_o {s t : SS} (h : tSs m (sSeq s t) D σ H) : tSeq (tSs m s) (tSs m t) D σ H := by
  obtain ⟨H0, F0, bo, ρ, F, b, R, fl, ρ', b', e, q⟩ := h
  unfold sSeq at e
  split at e
  · rename_i ρ1 b1 e1
    exact ⟨H0, F0, bo, ρ, F, b, R, .nx, ρ1, b1, e1, fun σ1 F1 H1 R1 k1 => ⟨H0, F0, bo, ρ1, F1, b1, R1, fl, ρ', b', e, q.fk k1⟩⟩
  · rename_i hn
    refine ⟨H0, F0, bo, ρ, F, b, R, fl, ρ', b', e, ?_⟩
    cases fl with
    | nx => exact absurd e (hn _ _)
    | bk => exact q
    | ct => exact q
    | rt d => exact q
theorem set_o {i : Nat} {f : Ex} (h : tSs m (sSet i f) D σ H) : tEx m f σ H fun x H1 => D.nx (σ.set i (some x)) H1 := by
  obtain ⟨H0, F0, bo, ρ, F, b, R, fl, ρ', b', e, q⟩ := h
  unfold sSet at e
  split at e
  · rename_i d b1 e1
    cases e
    exact ⟨H0, F0, bo, ρ, F, b, R, d, _, e1, fun v F' H' g hb r => q _ F' H' ((R.grow g hb).set_frz r) (R.fkg g)⟩
  · cases e
theorem ne_own {bo : Bo} {F F' : Addr → Prop} {H H' : Hp} {σ : St} {ρ : Rho} {H0 : Hp} {F0 : Addr → Prop} {b : Bx} (R : Rel m H0 F0 bo σ ρ F H b) {a : Addr} (ha : H a = none) : ∀ (j : Nat) dj, ρ[j]? = some (Sl.own dj) → σ[j]? = some (some (V.ref a)) → False := fun j dj hj hs => by
  obtain ⟨c, h1, h2, h3, h4, h5⟩ := R.own j dj hj
  rw [hs] at h1
  cases h1
  obtain ⟨o, q, _⟩ := h5.some
  rw [ha] at q; cases q
theorem new_o {i : Nat} {f : Ex} (h : tSs m (sNew i f) D σ H) : tEn m f σ H fun x H1 => D.nx (σ.set i (some x)) H1 := by
  obtain ⟨H0, F0, bo, ρ, F, b, R, fl, ρ', b', e, q⟩ := h
  unfold sNew at e
  split at e
  · rename_i d b1 e1
    cases e
    refine ⟨H0, F0, bo, ρ, F, b, R, d, _, e1, fun a F' H' g hb ha nf ow => q _ F' H' ((R.grow g hb).set_own nf (inBox_new R.wo ha) (R.core.free a ha) ow fun j dj _ hj hs => ?_) (R.fkg g)⟩
    exact ne_own (F' := F) (H' := H) R ha j dj hj hs
  · cases e
end

/-! ### several names at once -/
abbrev Ks := Rho → Bx → Option (List Sl × Bx)
def kNil : Ks := fun _ b => some ([], b)
def kFrz (f : Ex) (g : Ks) : Ks := fun ρ b => match f ρ b with
  | some (d, b1) => match g ρ b1 with
    | some (ss, b2) => some (.frz d :: ss, b2)
    | none => none
  | none => none
def kNew (f : Ex) (g : Ks) : Ks := fun ρ b => match f ρ b with
  | some (d, b1) => match g ρ b1 with
    | some (ss, b2) => some (.own d :: ss, b2)
    | none => none
  | none => none
def setK : Rho → List Nat → List Sl → Rho
  | ρ, i :: is, s :: ss => setK (ρ.set i s) is ss
  | ρ, _, _ => ρ
def setV : St → List Nat → List V → St
  | σ, i :: is, v :: vs => setV (σ.set i (some v)) is vs
  | σ, _, _ => σ
def sPar (is : List Nat) (f : Ks) : SS := fun ρ b => match f ρ b with
  | some (ss, b1) => some (.nx, setK ρ is ss, b1)
  | none => none
section
variable (m : Pm) (bo : Bo) (Hs : Hp) (F : Addr → Prop) (H : Hp)
def RpK : List Sl → List V → Prop
  | [], vs => vs = []
  | .frz d :: ss, vs => ∃ v r, vs = v :: r ∧ Rp m bo F H d v ∧ RpK ss r
  | .own d :: ss, vs => ∃ a r, vs = V.ref a :: r ∧ ¬ F a ∧ Hs a = none ∧ Own m bo F H d a ∧ (∀ (k : Nat) d', ss[k]? = some (Sl.own d') → r[k]? = some (V.ref a) → False) ∧ RpK ss r
  | .emp :: _, _ => False
end
def tKs (m : Pm) (f : Ks) : TA := fun σ H Q => ∃ H0 F0 bo ρ F b, Rel m H0 F0 bo σ ρ F H b ∧ ∃ d b', f ρ b = some (d, b') ∧
  ∀ v F' H', Grow bo F H F' H' → BoxOk bo F' H' b' → RpK m bo H F' H' d v → Q v H'
structure PKs (fn : Nat → Option V) (X : Cx) (es : List Expr) (f : Ks) : Prop where
  pa : PA X es (tKs (pm X fn) f)
  len : ∀ ρ b ds b', f ρ b = some (ds, b') → ds.length = es.length
section
variable {m : Pm} {bo : Bo} {Hs : Hp} {F : Addr → Prop} {H : Hp}
theorem RpK.length : ∀ {ss : List Sl} {vs : List V}, RpK m bo Hs F H ss vs → vs.length = ss.length
  | [], vs, h => by
    have : vs = [] := h
    subst this; rfl
  | .frz d :: ss, vs, h => by
    obtain ⟨v, r, rfl, _, h2⟩ := h
    simp [RpK.length h2]
  | .own d :: ss, vs, h => by
    obtain ⟨v, r, rfl, _, _, _, _, h2⟩ := h
    simp [RpK.length h2]
  | .emp :: ss, vs, h => h.elim
theorem RpK.mono {Hs' : Hp} (hh : ∀ a, Hs' a = none → Hs a = none) : ∀ {ss : List Sl} {vs : List V}, RpK m bo Hs' F H ss vs → RpK m bo Hs F H ss vs
  | [], vs, h => h
  | .frz d :: ss, vs, h => by
    obtain ⟨v, r, rfl, h1, h2⟩ := h
    exact ⟨v, r, rfl, h1, RpK.mono hh h2⟩
  | .own d :: ss, vs, h => by
    obtain ⟨a, r, rfl, h1, h2, h3, h4, h5⟩ := h
    exact ⟨a, r, rfl, h1, hh a h2, h3, h4, RpK.mono hh h5⟩
  | .emp :: ss, vs, h => h
theorem RpK.fresh : ∀ {ss : List Sl} {vs : List V}, RpK m bo Hs F H ss vs → ∀ (k : Nat) d a, ss[k]? = some (Sl.own d) → vs[k]? = some (V.ref a) → Hs a = none
  | [], vs, h, k, d, a, e, _ => by simp at e
  | .frz d :: ss, vs, h, 0, _, a, e, _ => by simp at e
  | .frz d :: ss, vs, h, k + 1, d', a, e, e2 => by
    obtain ⟨v, r, rfl, h1, h2⟩ := h
    exact RpK.fresh h2 k d' a (by simpa using e) (by simpa using e2)
  | .own d :: ss, vs, h, 0, _, a, e, e2 => by
    obtain ⟨c, r, rfl, h1, h2, h3, h4, h5⟩ := h
    simp at e2
    subst e2
    exact h2
  | .own d :: ss, vs, h, k + 1, d', a, e, e2 => by
    obtain ⟨c, r, rfl, h1, h2, h3, h4, h5⟩ := h
    exact RpK.fresh h5 k d' a (by simpa using e) (by simpa using e2)
  | .emp :: ss, vs, h, _, _, _, _, _ => h.elim
theorem Rel.setK {H0 : Hp} {F0 : Addr → Prop} {b : Bx} (hb : ∀ a, Hs a = none → ¬ inBox bo a) (h0 : ∀ a, Hs a = none → H0 a = none) : ∀ {is : List Nat} {ss : List Sl} {vs : List V} {σ : St} {ρ : Rho}, Rel m H0 F0 bo σ ρ F H b → RpK m bo Hs F H ss vs →
    (∀ (j : Nat) dj a, ρ[j]? = some (Sl.own dj) → σ[j]? = some (some (V.ref a)) → ∀ (k : Nat) d', ss[k]? = some (Sl.own d') → vs[k]? = some (V.ref a) → False) → Rel m H0 F0 bo (setV σ is vs) (Sv.setK ρ is ss) F H b
  | [], [], vs, σ, ρ, R, r, hd => by
    have : vs = [] := r
    subst this; exact R
  | [], s :: ss, vs, σ, ρ, R, r, hd => by cases vs <;> exact R
  | i :: is, [], vs, σ, ρ, R, r, hd => by
    have : vs = [] := r
    subst this; exact R
  | i :: is, .frz d :: ss, vs, σ, ρ, R, r, hd => by
    obtain ⟨v, r, rfl, h1, h2⟩ := r
    refine Rel.setK hb h0 (is := is) (R.set_frz h1) h2 fun j dj a hj hs k d' e1 e2 => ?_
    by_cases hij : i = j
    · subst hij
      have hl : i < ρ.length := by
        have := (List.getElem?_eq_some_iff.mp hj).1
        simpa using this
      rw [List.getElem?_set_self hl] at hj
      cases hj
    · rw [List.getElem?_set_ne hij] at hj hs
      exact hd j dj a hj hs (k + 1) d' (by simpa using e1) (by simpa using e2)
  | i :: is, .own d :: ss, vs, σ, ρ, R, r, hd => by
    obtain ⟨c, r, rfl, h1, h2, h3, h4, h5⟩ := r
    refine Rel.setK hb h0 (is := is) (R.set_own h1 (hb c h2) (h0 c h2) h3 fun j dj _ hj hs => hd j dj c hj hs 0 d rfl rfl) h5 fun j dj a hj hs k d' e1 e2 => ?_
    by_cases hij : i = j
    · subst hij
      have hl : i < ρ.length := by
        have := (List.getElem?_eq_some_iff.mp hj).1
        simpa using this
      rw [List.getElem?_set_self (by rw [R.len]; exact hl)] at hs
      cases hs
      exact h4 k d' e1 e2
    · rw [List.getElem?_set_ne hij] at hj hs
      exact hd j dj a hj hs (k + 1) d' (by simpa using e1) (by simpa using e2)
  | i :: is, .emp :: ss, vs, σ, ρ, R, r, hd => r.elim
end
theorem par_o {m : Pm} {D : Ends} {σ : St} {H : Hp} {is : List Nat} {f : Ks} (h : tSs m (sPar is f) D σ H) : tKs m f σ H fun vs H1 => D.nx (setV σ is vs) H1 := by
  obtain ⟨H0, F0, bo, ρ, F, b, R, fl, ρ', b', e, q⟩ := h
  unfold sPar at e
  split at e
  · rename_i d b1 e1
    cases e
    refine ⟨H0, F0, bo, ρ, F, b, R, d, _, e1, fun v F' H' g hb r => q _ F' H' (Rel.setK (fun a ha => inBox_new R.wo ha) (fun a ha => R.core.free a ha) (R.grow g hb) r fun j dj a hj hs k d' e1 e2 => ?_) (R.fkg g)⟩
    exact ne_own (F' := F) (H' := H) R (r.fresh k d' a e1 e2) j dj hj hs
  · cases e
section
variable {fn : Nat → Option V} {X : Cx} {a c e : Expr} {es rest : List Expr} {st : Stmt} {sts : List Stmt} {pos : Pos} {f g h : Ex} {t u : Tx} {s s' : SS}
theorem pks_nil : PKs fn X [] kNil := by
  refine ⟨PA.imp pa_nil fun σ H Q ⟨H0, F0, bo, ρ, F, b, R, d, b', e, q⟩ => ?_, fun _ _ _ _ e => by cases e; rfl⟩
  cases e
  exact q [] F H (Grow.refl R.core.dom) R.core.box rfl
theorem kFrz_len {g : Ks} {n : Nat} (hl : ∀ ρ b ds b', g ρ b = some (ds, b') → ds.length = n) : ∀ ρ b ds b', kFrz f g ρ b = some (ds, b') → ds.length = n + 1 := fun ρ b ds b' e => by
  unfold kFrz at e
  split at e
  · split at e
    · rename_i e2
      cases e
      simp [hl _ _ _ _ e2]
    · cases e
  · cases e
theorem kNew_len {g : Ks} {n : Nat} (hl : ∀ ρ b ds b', g ρ b = some (ds, b') → ds.length = n) : ∀ ρ b ds b', kNew f g ρ b = some (ds, b') → ds.length = n + 1 := fun ρ b ds b' e => by
  unfold kNew at e
  split at e
  · split at e
    · rename_i e2
      cases e
      simp [hl _ _ _ _ e2]
    · cases e
  · cases e
theorem pks_frz {g : Ks} (ha : PEx fn X a f) (hr : PKs fn X es g) (hs : starEach (a :: es) X.env = (false, eval a X.env) :: starEach es X.env := by rfl) : PKs fn X (a :: es) (kFrz f g) := by
  refine ⟨PA.imp (pa_cons ha hr.pa hs) fun σ H Q ⟨H0, F0, bo, ρ, F, b, R, r, b', e, q⟩ => ?_, kFrz_len hr.len⟩
  unfold kFrz at e
  split at e
  · rename_i d b1 e1
    split at e
    · rename_i d2 b2 e2
      cases e
      refine ⟨H0, F0, bo, ρ, F, b, R, d, b1, e1, fun v1 F1 H1 g1 hb1 r1 => ?_⟩
      have R1 := R.grow g1 hb1
      exact ⟨H0, F0, bo, ρ, F1, b1, R1, d2, _, e2, fun v2 F2 H2 g2 hb2 r2 => q _ F2 H2 (g1.trans g2) hb2 ⟨v1, v2, rfl, r1.fk (R1.fkg g2), r2.mono g1.free⟩⟩
    · cases e
  · cases e
theorem pks_new {g : Ks} (ha : PEn fn X a f) (hr : PKs fn X es g) (hs : starEach (a :: es) X.env = (false, eval a X.env) :: starEach es X.env := by rfl) : PKs fn X (a :: es) (kNew f g) := by
  refine ⟨PA.imp (pa_cons ha hr.pa hs) fun σ H Q ⟨H0, F0, bo, ρ, F, b, R, r, b', e, q⟩ => ?_, kNew_len hr.len⟩
  unfold kNew at e
  split at e
  · rename_i d b1 e1
    split at e
    · rename_i d2 b2 e2
      cases e
      refine ⟨H0, F0, bo, ρ, F, b, R, d, b1, e1, fun a1 F1 H1 g1 hb1 ha1 nf1 ow1 => ?_⟩
      have R1 := R.grow g1 hb1
      refine ⟨H0, F0, bo, ρ, F1, b1, R1, d2, _, e2, fun v2 F2 H2 g2 hb2 r2 => q _ F2 H2 (g1.trans g2) hb2 ?_⟩
      obtain ⟨o, hq, _⟩ := ow1.some
      have hk := g2.keep a1 o hq (inBox_new R.wo ha1)
      refine ⟨a1, v2, rfl, fun z => ?_, ha1, ow1.fk (R1.fkg g2) (hk.trans hq.symm), fun k d' e1 e2 => ?_, r2.mono g1.free⟩
      · rcases g2.new a1 z with z | z
        · exact nf1 z
        · rw [hq] at z; cases z
      · have := r2.fresh k d' a1 e1 e2
        rw [hq] at this; cases this
    · cases e
  · cases e

/-! ### rules -/
theorem psx_nil : PSsx fn X [] sNx := PSs.imp pss_nil fun D σ H ⟨H0, F0, bo, ρ, F, b, R, fl, ρ', b', e, q⟩ => by
  cases e
  exact q σ F H R (FK.refl _ _)
theorem psx_cons (h1 : PSx fn X st s) (h2 : PSsx fn X sts s') : PSsx fn X (st :: sts) (sSeq s s') := PSs.imp (pss_cons h1 h2) fun _ _ _ h => seq_o h
theorem psx_one (h1 : PSx fn X st s) : PSsx fn X [st] s := pss_one h1
theorem Rel.fz {pins : List (Addr × Obj)} {s : Shared} {m : Pm} {H0 : Hp} {F0 : Addr → Prop} {bo : Bo} {σ : St} {ρ : Rho} {F : Addr → Prop} {H : Hp} {b : Bx} {i : Nat} {d : D} (I : Inv X pins σ H s) (R : Rel m H0 F0 bo σ ρ F H b) (hi : ρ[i]? = some (Sl.own d)) :
    ∃ F' H', Inv X pins σ H' s ∧ Rel m H0 F0 bo σ (ρ.set i (Sl.frz d)) F' H' b ∧ FK F H F' H' := by
  obtain ⟨a, h1, h2, h3, h4, h5⟩ := R.own i d hi
  obtain ⟨H', I', q1, q2, k, hb, dm, r⟩ := lockF I R.wo h3 h2 h5
  refine ⟨_, H', I', ?_, k⟩
  refine ⟨⟨hb, fun c o h n => (q1 c fun z => by rw [z, h4] at h; cases h).trans (R.core.keep c o h n), fun c h => R.core.free c (q2 c h), fun c h => .inl (R.core.sub c h), fun c h => h.elim (R.core.new c) fun e => .inr (by rw [e]; exact h4), dm⟩, by simp [R.len], fun j e hj => ?_, fun j e hj => ?_, fun j k dj dk c hjk hj hk x1 x2 => ?_⟩
  · by_cases hij : i = j
    · subst hij
      have hl : i < ρ.length := by
        have := (List.getElem?_eq_some_iff.mp hj).1
        simpa using this
      rw [List.getElem?_set_self hl] at hj
      cases hj
      exact ⟨_, h1, r⟩
    · rw [List.getElem?_set_ne hij] at hj
      obtain ⟨v, z1, z2⟩ := R.frz j e hj
      exact ⟨v, z1, z2.fk k⟩
  · by_cases hij : i = j
    · subst hij
      have hl : i < ρ.length := by
        have := (List.getElem?_eq_some_iff.mp hj).1
        simpa using this
      rw [List.getElem?_set_self hl] at hj
      cases hj
    · rw [List.getElem?_set_ne hij] at hj
      obtain ⟨c, z1, z2, z3, z4, z5⟩ := R.own j e hj
      have hca : c ≠ a := fun z => by subst z; exact R.dis i j d e c hij hi hj h1 z1
      refine ⟨c, z1, fun z => ?_, z3, z4, z5.fk k (q1 c hca)⟩
      rcases z with z | z
      · exact z2 z
      · exact hca z
  · by_cases hij : i = j
    · subst hij
      have hl : i < ρ.length := by
        have := (List.getElem?_eq_some_iff.mp hj).1
        simpa using this
      rw [List.getElem?_set_self hl] at hj
      cases hj
    · by_cases hik : i = k
      · subst hik
        have hl : i < ρ.length := by
          have := (List.getElem?_eq_some_iff.mp hk).1
          simpa using this
        rw [List.getElem?_set_self hl] at hk
        cases hk
      · rw [List.getElem?_set_ne hij] at hj
        rw [List.getElem?_set_ne hik] at hk
        exact R.dis j k dj dk c hjk hj hk x1 x2
theorem fz_run {pins : List (Addr × Obj)} {sh : Shared} {m : Pm} {D : Ends} {σ : St} {H : Hp} {i : Nat} (I : Inv X pins σ H sh) (h : tSs m (sSeq (sFz i) s) D σ H) : ∃ H', Inv X pins σ H' sh ∧ tSs m s D σ H' := by
  obtain ⟨H0, F0, bo, ρ, F, b, R, fl, ρ', b', e, q⟩ := h
  unfold sSeq at e
  split at e
  · rename_i ρ1 b1 e1
    unfold sFz at e1
    split at e1
    · rename_i d hi
      cases e1
      obtain ⟨F', H', I', R', k⟩ := R.fz I hi
      exact ⟨H', I', H0, F0, bo, _, _, _, R', fl, ρ', b', e, q.fk k⟩
    · cases e1
  · rename_i hn
    exfalso
    unfold sFz at e hn
    split at e
    · rename_i d hi
      rw [hi] at hn
      exact hn _ _ rfl
    · cases e
theorem psx_fz {i : Nat} (h : PSx fn X st s) : PSx fn X st (sSeq (sFz i) s) := ⟨fun pins sh σ H D I hw => by
  obtain ⟨H', I', hw'⟩ := fz_run I hw
  exact h.run pins sh σ H' D I' hw'⟩
theorem pssx_fz {i : Nat} (h : PSsx fn X sts s) : PSsx fn X sts (sSeq (sFz i) s) := ⟨fun pins sh σ H D I hw => by
  obtain ⟨H', I', hw'⟩ := fz_run I hw
  exact h.run pins sh σ H' D I' hw'⟩
/-- a name is set to a thing of one's own: it may as well stay as it is -/
theorem psx_frz {i : Nat} (h : PSx fn X st (sNew i f)) : PSx fn X st (sSet i f) := ⟨fun pins sh σ H D I ⟨H0, F0, bo, ρ, F, b, R, fl, ρ', b', e, q⟩ => by
  unfold sSet at e
  split at e
  · rename_i d b1 e1
    cases e
    by_cases hi : i < ρ.length
    · have hget : (ρ.set i (Sl.own d))[i]? = some (Sl.own d) := List.getElem?_set_self hi
      refine thn (h.run pins sh σ H { nx := fun σ' H' => ∃ F', Rel (pm X fn) H0 F0 bo σ' (ρ.set i (Sl.own d)) F' H' b' ∧ FK F H F' H', rt := fun _ _ => False, bk := fun _ _ => False, ct := fun _ _ => False } I ⟨H0, F0, bo, ρ, F, b, R, .nx, ρ.set i (Sl.own d), b', by unfold sNew; rw [e1], fun σ' F' H' R' k' => ⟨F', R', k'⟩⟩) fun fl s1 q1 => ?_
      cases fl with
      | next =>
        obtain ⟨σ', H', I2, F', R', k'⟩ := q1
        obtain ⟨F2, H2, I3, R3, k3⟩ := R'.fz I2 hget
        rw [List.set_set] at R3
        exact ⟨σ', H2, I3, q σ' F2 H2 R3 (k'.trans k3)⟩
      | brk => obtain ⟨σ', H', I2, z⟩ := q1; exact z.elim
      | cont => obtain ⟨σ', H', I2, z⟩ := q1; exact z.elim
      | ret v => obtain ⟨x, σ', H', I2, r, z⟩ := q1; exact z.elim
    · have eset : ∀ x : Sl, ρ.set i x = ρ := fun x => List.set_eq_of_length_le (by omega)
      refine h.run pins sh σ H D I ⟨H0, F0, bo, ρ, F, b, R, .nx, ρ.set i (Sl.own d), b', by unfold sNew; rw [e1], ?_⟩
      rw [eset] at q ⊢
      exact q
  · cases e⟩
theorem psx_ret (h : PEx fn X e f) : PSx fn X (.Return (some e) pos) (sRet f) := PS.imp (ps_ret h) fun D σ H ⟨H0, F0, bo, ρ, F, b, R, fl, ρ', b', e, q⟩ => by
  unfold sRet at e
  split at e
  · rename_i d b1 e1
    cases e
    exact ⟨H0, F0, bo, ρ, F, b, R, d, _, e1, fun v F' H' g hb r => q v F' H' (R.core.grow g hb) r⟩
  · cases e
theorem psx_retN : PSx fn X (.Return none pos) (sRet (eCon .non)) := PS.imp ps_retN fun D σ H ⟨H0, F0, bo, ρ, F, b, R, fl, ρ', b', e, q⟩ => by
  cases e
  exact q .non F H R.core (by simp [Rp])
theorem psx_if {p q : List Stmt} (hc : PTx fn X c t) (ha : PSsx fn X p s) (hb : PSsx fn X q s') : PSx fn X (.If c p q pos) (sIf t s s') := PS.imp (ps_if hc ha hb) fun D σ H ⟨H0, F0, bo, ρ, F, b, R, fl, ρ', b', e, q⟩ => by
  unfold sIf at e
  split at e
  · rename_i b1 e1
    refine ⟨H0, F0, bo, ρ, F, b, R, true, b1, e1, fun F' H' g hb => iteT ?_⟩
    exact ⟨H0, F0, bo, ρ, F', b1, R.grow g hb, fl, ρ', b', e, q.fk (R.fkg g)⟩
  · rename_i b1 e1
    refine ⟨H0, F0, bo, ρ, F, b, R, false, b1, e1, fun F' H' g hb => iteF ?_⟩
    exact ⟨H0, F0, bo, ρ, F', b1, R.grow g hb, fl, ρ', b', e, q.fk (R.fkg g)⟩
  · cases e
theorem psx_pass : PSx fn X (.Pass pos) sNx := PS.imp ps_pass fun D σ H ⟨H0, F0, bo, ρ, F, b, R, fl, ρ', b', e, q⟩ => by
  cases e
  exact q σ F H R (FK.refl _ _)
theorem psx_doc {x j pos'} : PSx fn X (.Expr (.Constant (.str x) j pos) pos') sNx := PS.imp ps_doc fun D σ H ⟨H0, F0, bo, ρ, F, b, R, fl, ρ', b', e, q⟩ => by
  cases e
  exact q σ F H R (FK.refl _ _)
theorem psx_break : PSx fn X (.Break pos) sBk := PS.imp ps_break fun D σ H ⟨H0, F0, bo, ρ, F, b, R, fl, ρ', b', e, q⟩ => by
  cases e
  exact q σ F H R (FK.refl _ _)
theorem psx_continue : PSx fn X (.Continue pos) sCt := PS.imp ps_continue fun D σ H ⟨H0, F0, bo, ρ, F, b, R, fl, ρ', b', e, q⟩ => by
  cases e
  exact q σ F H R (FK.refl _ _)
theorem psx_set {i : Nat} {x : Str} {pos' : Pos} (hN : X.N.Nodup) (hi : X.N[i]? = some x) (hx : Loc X.env.scope x) (he : PEx fn X e f) (hs : swapsWith e (some (.Name x pos')) pos.line X.env = pure false := by rfl) (hf : X.fn x = true ∨ X.env.scope.names.lookup x = some .local := by first | exact .inl rfl | exact .inr rfl | assumption) :
    PSx fn X (.Assign [.Name x pos'] e pos) (sSet i f) := PS.imp (ps_set hN hi hx he hs hf) fun _ _ _ h => set_o h
theorem psx_new {i : Nat} {x : Str} {pos' : Pos} (hN : X.N.Nodup) (hi : X.N[i]? = some x) (hx : Loc X.env.scope x) (he : PEn fn X e f) (hs : swapsWith e (some (.Name x pos')) pos.line X.env = pure false := by rfl) (hf : X.fn x = true ∨ X.env.scope.names.lookup x = some .local := by first | exact .inl rfl | exact .inr rfl | assumption) :
    PSx fn X (.Assign [.Name x pos'] e pos) (sNew i f) := PS.imp (ps_set hN hi hx he hs hf) fun _ _ _ h => new_o h
/-- target = e -/
theorem psx_asg {tg : Expr} {sl : List Nat} {g : Tg} (he : PEx fn X e f) (hg : PGx fn X tg sl g) (hs : swapsWithSole [tg] e pos.line X.env = pure false := by rfl) (hw : swappedStores [tg] e X.env = pure none := by rfl)
    (h1 : (assignEach [tg] X.env).map (·.2) = [assign tg X.env] := by rfl) : PSx fn X (.Assign [tg] e pos) (sAsg g f) := PS.imp (ps_asg he hg hs hw h1) fun D σ H ⟨H0, F0, bo, ρ, F, b, R, fl, ρ', b', e, q⟩ => by
  unfold sAsg at e
  split at e
  · rename_i d b1 e1
    split at e
    · rename_i ρ1 e2
      cases e
      refine ⟨H0, F0, bo, ρ, F, b, R, d, _, e1, fun v F' H' g hb r => ?_⟩
      exact ⟨H0, F0, bo, ρ, F', _, R.grow g hb, d, _, r, e2, fun σ' R' _ => q σ' F' H' R' (R.fkg g)⟩
    · cases e
  · cases e
theorem psx_expr (he : PEx fn X e f) (hs : swapsWith e none pos.line X.env = pure false := by rfl) : PSx fn X (.Expr e pos) (sExpr f) := PS.imp (ps_expr he hs) fun D σ H ⟨H0, F0, bo, ρ, F, b, R, fl, ρ', b', e, q⟩ => by
  unfold sExpr at e
  split at e
  · rename_i d b1 e1
    cases e
    exact ⟨H0, F0, bo, ρ, F, b, R, _, _, e1, fun v F' H' g hb r => q σ F' H' (R.grow g hb) (R.fkg g)⟩
  · cases e
/-- name = [..] on one line, the name a local -/
theorem psx_setLc {i : Nat} {y : Str} {py : Pos} {elt tg iter : Expr} {ifs : List Expr} {scope : Scope} {own : List (Str × Nat)} {spos : Pos} {it : It} {g : Tg} {sl : List Nat} (hc : X.calm = true) (hN : X.N.Nodup) (hy : X.N[i]? = some y) (hyl : X.env.scope.names.lookup y = some .local)
    (hsw : swapsWith (.ListComp elt [⟨tg, iter, ifs, 0⟩] scope pos) (some (.Name y py)) spos.line X.env = pure true) (hi : PIo fn X tg iter it) (ok : BlkOk X.N X.env.scope scope own)
    (hg : ∀ (s : Shared) (H : Hp) (C : Addr) (cl : List (Str × Addr)) (fp : List Addr), PGx fn (X.blk s H scope (compEnvC scope cl C X.env) fp) tg sl g)
    (ht : ∀ (s : Shared) (H : Hp) (C : Addr) (cl : List (Str × Addr)) (fp : List Addr), PTsx fn (X.blk s H scope (compEnvC scope cl C X.env) fp) ifs t)
    (he : ∀ (s : Shared) (H : Hp) (C : Addr) (cl : List (Str × Addr)) (fp : List Addr), PEx fn (X.blk s H scope (compEnvC scope cl C X.env) fp) elt f)
    (hsl : ∀ i ∈ sl, i ∈ own.map (·.2) := by decide) (hs : ∀ x, foldedSetIterable iter X.env x = pure x := by intro _; rfl) :
    PSx fn X (.Assign [.Name y py] (.ListComp elt [⟨tg, iter, ifs, 0⟩] scope pos) spos) (sNew i (eLc it g t f (own.map (·.2)))) :=
  PS.imp (ps_setLc hc hN hy hyl hsw hi ok hg ht he hs) fun _ _ _ h => lc_o hsl (new_o h)
theorem psx_setLcF {i : Nat} {y : Str} {py : Pos} {elt tg iter : Expr} {ifs : List Expr} {scope : Scope} {own : List (Str × Nat)} {spos : Pos} {it : It} {g : Tg} {sl : List Nat} (hc : X.calm = true) (hN : X.N.Nodup) (hy : X.N[i]? = some y) (hyl : X.env.scope.names.lookup y = some .local)
    (hsw : swapsWith (.ListComp elt [⟨tg, iter, ifs, 0⟩] scope pos) (some (.Name y py)) spos.line X.env = pure true) (hi : PIo fn X tg iter it) (ok : BlkOk X.N X.env.scope scope own)
    (hg : ∀ (s : Shared) (H : Hp) (C : Addr) (cl : List (Str × Addr)) (fp : List Addr), PGx fn (X.blk s H scope (compEnvC scope cl C X.env) fp) tg sl g)
    (ht : ∀ (s : Shared) (H : Hp) (C : Addr) (cl : List (Str × Addr)) (fp : List Addr), PTsx fn (X.blk s H scope (compEnvC scope cl C X.env) fp) ifs t)
    (he : ∀ (s : Shared) (H : Hp) (C : Addr) (cl : List (Str × Addr)) (fp : List Addr), PEx fn (X.blk s H scope (compEnvC scope cl C X.env) fp) elt f)
    (hsl : ∀ i ∈ sl, i ∈ own.map (·.2) := by decide) (hs : ∀ x, foldedSetIterable iter X.env x = pure x := by intro _; rfl) :
    PSx fn X (.Assign [.Name y py] (.ListComp elt [⟨tg, iter, ifs, 0⟩] scope pos) spos) (sSet i (eLc it g t f (own.map (·.2)))) :=
  psx_frz (psx_setLc hc hN hy hyl hsw hi ok hg ht he hsl hs)

/-! ### for, while -/
theorem psx_for {iter tg : Expr} {body : List Stmt} {it : It} {g : Tg} {sl : List Nat} (hp : PassesOwn (model X.prog X.w) X.A X.env X.xe) (hc : X.calm = true) (hi : PIx fn X tg iter it) (hg : PGx fn X tg sl g) (hb : PSsx fn X body s)
    (hs : ∀ x, foldedSetIterable iter X.env x = pure x := by intro _; rfl) : PSx fn X (.For tg iter body [] pos) (sFor it g s) := PS.imp (ps_for hp hc hi hg hb hs) fun D σ H ⟨H0, F0, bo, ρ, F, b, R, fl, ρ', b', e, q⟩ => by
  unfold sFor at e
  split at e
  · rename_i ds b1 e1
    refine ⟨H0, F0, bo, ρ, F, b, R, ds, b1, e1, fun J F1 H1 g1 hb1 hz y => ?_⟩
    have R1 := R.grow g1 hb1
    have q1 := q.fk (R.fkg g1)
    refine ⟨fun i mm σ H => mm = ds.length - i ∧ i ≤ ds.length ∧ ∃ ρ F b, Rel (pm X fn) H0 F0 bo σ ρ F H b ∧ FK F1 H1 F H ∧ forGo g s (ds.drop i) ρ b = some (fl, ρ', b'), ⟨_, rfl, Nat.zero_le _, ρ, F1, b1, R1, FK.refl _ _, e⟩, ?_⟩
    rintro i mm σ2 H2 ⟨rfl, hi, ρ2, F2, b2, R2, k2, e2⟩
    obtain ⟨yy, yst⟩ := y F2 H2 b2 k2 R2.wo
    by_cases hlt : i < ds.length
    · obtain ⟨ygo, yyl⟩ := yy i ds[i] (List.getElem?_eq_getElem hlt)
      rw [List.drop_eq_getElem_cons hlt] at e2
      refine .inr ⟨ygo, fun σ H => ∃ ρ F b, Rel (pm X fn) H0 F0 bo σ ρ F H b ∧ FK F1 H1 F H ∧ forGo g s (ds.drop (i + 1)) ρ b = some (fl, ρ', b'), fun σ' H' hh => ⟨_, by omega, rfl, hlt, hh⟩, fun x H3 hy => ?_⟩
      obtain ⟨g3, hb3, rx⟩ := yyl x H3 hy
      have R3 := R2.grow g3 hb3
      have k3 := k2.trans (R2.fkg g3)
      unfold forGo at e2
      split at e2
      · rename_i ρ3 e3
        refine ⟨H0, F0, bo, ρ2, F2, b2, R3, _, ρ3, rx, e3, fun σ4 R4 _ => ?_⟩
        split at e2
        · rename_i ρ4 b4 e4
          exact ⟨H0, F0, bo, ρ3, F2, b2, R4, .nx, ρ4, b4, e4, fun σ5 F5 H5 R5 k5 => ⟨ρ4, F5, b4, R5, k3.trans k5, e2⟩⟩
        · rename_i ρ4 b4 e4
          exact ⟨H0, F0, bo, ρ3, F2, b2, R4, .ct, ρ4, b4, e4, fun σ5 F5 H5 R5 k5 => ⟨ρ4, F5, b4, R5, k3.trans k5, e2⟩⟩
        · rename_i ρ4 b4 e4
          cases e2
          exact ⟨H0, F0, bo, ρ3, F2, b2, R4, .bk, _, _, e4, fun σ5 F5 H5 R5 k5 => q1 σ5 F5 H5 R5 (k3.trans k5)⟩
        · rename_i r ρ4 b4 e4
          cases e2
          exact ⟨H0, F0, bo, ρ3, F2, b2, R4, .rt r, _, _, e4, q1⟩
        · cases e2
      · cases e2
    · have ei : i = ds.length := by omega
      subst ei
      rw [List.drop_length] at e2
      cases e2
      exact .inl ⟨yst, q1 σ2 F2 H2 R2 k2⟩
  · cases e
theorem psx_while {body : List Stmt} (hp : PassesOwn (model X.prog X.w) X.A X.env X.xe) (hc : PTx fn X c t) (hb : PSsx fn X body s) : PSx fn X (.While c body [] pos) (sWh t s) := PS.imp (ps_while hp hc hb) fun D σ H ⟨H0, F0, bo, ρ, F, b, R, fl, ρ', b', e, q⟩ => by
  have e : whGo t s 100000 ρ b = some (fl, ρ', b') := e
  generalize 100000 = n at e
  refine ⟨fun mm σ H2 => ∃ ρ F2 b, Rel (pm X fn) H0 F0 bo σ ρ F2 H2 b ∧ FK F H F2 H2 ∧ whGo t s mm ρ b = some (fl, ρ', b'), ⟨n, ρ, F, b, R, FK.refl _ _, e⟩, ?_⟩
  rintro mm σ2 H2 ⟨ρ2, F2, b2, R2, k2, e2⟩
  cases mm with
  | zero => cases e2
  | succ mm =>
    unfold whGo at e2
    split at e2
    · rename_i b3 e3
      cases e2
      refine ⟨H0, F0, bo, _, F2, b2, R2, false, _, e3, fun F3 H3 g3 hb3 => iteF ?_⟩
      exact q σ2 F3 H3 (R2.grow g3 hb3) (k2.trans (R2.fkg g3))
    · rename_i b3 e3
      refine ⟨H0, F0, bo, ρ2, F2, b2, R2, true, b3, e3, fun F3 H3 g3 hb3 => iteT ?_⟩
      have R3 := R2.grow g3 hb3
      have k3 := k2.trans (R2.fkg g3)
      refine ⟨fun σ H4 => ∃ ρ F2 b, Rel (pm X fn) H0 F0 bo σ ρ F2 H4 b ∧ FK F H F2 H4 ∧ whGo t s mm ρ b = some (fl, ρ', b'), fun σ' H' hh => ⟨mm, Nat.lt_succ_self _, hh⟩, ?_⟩
      split at e2
      · rename_i ρ4 b4 e4
        exact ⟨H0, F0, bo, ρ2, F3, b3, R3, .nx, ρ4, b4, e4, fun σ5 F5 H5 R5 k5 => ⟨ρ4, F5, b4, R5, k3.trans k5, e2⟩⟩
      · rename_i ρ4 b4 e4
        exact ⟨H0, F0, bo, ρ2, F3, b3, R3, .ct, ρ4, b4, e4, fun σ5 F5 H5 R5 k5 => ⟨ρ4, F5, b4, R5, k3.trans k5, e2⟩⟩
      · rename_i ρ4 b4 e4
        cases e2
        exact ⟨H0, F0, bo, ρ2, F3, b3, R3, .bk, _, _, e4, fun σ5 F5 H5 R5 k5 => q σ5 F5 H5 R5 (k3.trans k5)⟩
      · rename_i r ρ4 b4 e4
        cases e2
        exact ⟨H0, F0, bo, ρ2, F3, b3, R3, .rt r, _, _, e4, q⟩
      · cases e2
    · cases e2

/-! ### several names -/
theorem psx_par2 {i j : Nat} {x y : Str} {k : Ks} {px py pt : Pos} {kt k2 pt2} (hc : X.calm = true) (hN : X.N.Nodup) (hi : X.N[i]? = some x) (hj : X.N[j]? = some y) (hij : i ≠ j)
    (hx : X.env.scope.names.lookup x = some .local) (hy : X.env.scope.names.lookup y = some .local) (ha : PKs fn X [a, c] k)
    (hw : swappedStores [.Tuple [.Name x px, .Name y py] kt pt] (.Tuple [a, c] k2 pt2) X.env = pure (some [x, y]))
    (hs : swapsWithSole [.Tuple [.Name x px, .Name y py] kt pt] (.Tuple [a, c] k2 pt2) pos.line X.env = pure false := by rfl) :
    PSx fn X (.Assign [.Tuple [.Name x px, .Name y py] kt pt] (.Tuple [a, c] k2 pt2) pos) (sPar [i, j] k) := PS.imp (ps_par hc hN hi hj hij hx hy ha.pa hw hs) fun D σ H h => by
  obtain ⟨H0, F0, bo, ρ, F, b, R, d, b', e, q⟩ := par_o h
  refine ⟨H0, F0, bo, ρ, F, b, R, d, b', e, fun v F' H' g hb r => ?_⟩
  have hl : v.length = 2 := by rw [r.length]; exact ha.len _ _ _ _ e
  match v, hl with
  | [v, w], _ => exact ⟨v, w, rfl, q _ F' H' g hb r⟩
theorem psx_par3 {i j l : Nat} {x y z : Str} {k : Ks} {px py pz pt : Pos} {kt k2 pt2} (hc : X.calm = true) (hN : X.N.Nodup) (hi : X.N[i]? = some x) (hj : X.N[j]? = some y) (hl : X.N[l]? = some z) (hij : i ≠ j) (hil : i ≠ l) (hjl : j ≠ l)
    (hx : X.env.scope.names.lookup x = some .local) (hy : X.env.scope.names.lookup y = some .local) (hz : X.env.scope.names.lookup z = some .local) (ha : PKs fn X [a, c, e] k)
    (hw : swappedStores [.Tuple [.Name x px, .Name y py, .Name z pz] kt pt] (.Tuple [a, c, e] k2 pt2) X.env = pure (some [x, y, z]))
    (hs : swapsWithSole [.Tuple [.Name x px, .Name y py, .Name z pz] kt pt] (.Tuple [a, c, e] k2 pt2) pos.line X.env = pure false := by rfl) :
    PSx fn X (.Assign [.Tuple [.Name x px, .Name y py, .Name z pz] kt pt] (.Tuple [a, c, e] k2 pt2) pos) (sPar [i, j, l] k) := PS.imp (ps_par3 hc hN hi hj hl hij hil hjl hx hy hz ha.pa hw hs) fun D σ H h => by
  obtain ⟨H0, F0, bo, ρ, F, b, R, d, b', e, q⟩ := par_o h
  refine ⟨H0, F0, bo, ρ, F, b, R, d, b', e, fun v F' H' g hb r => ?_⟩
  have hl : v.length = 3 := by rw [r.length]; exact ha.len _ _ _ _ e
  match v, hl with
  | [u, v, w], _ => exact ⟨u, v, w, rfl, q _ F' H' g hb r⟩
/-- names of any kind -/
def gSetV (is : List Nat) : TGs := fun vs σ H Q => vs.length = is.length ∧ Q (setV σ is vs) H
theorem pgv_nil : PGs X [] (gSetV []) := PGs.imp pgs_nil fun v σ H Q ⟨hl, q⟩ => by
  match v, hl with
  | [], _ => exact ⟨rfl, q⟩
theorem pgv_cons {i : Nat} {is : List Nat} {x : Str} {px : Pos} (hN : X.N.Nodup) (hi : X.N[i]? = some x) (hx : Loc X.env.scope x) (h2 : PGs X es (gSetV is)) (hf : X.fn x = true ∨ X.env.scope.names.lookup x = some .local := by first | exact .inl rfl | exact .inr rfl | assumption)
    (hs : (assignEach (.Name x px :: es) X.env).map (·.2) = assign (.Name x px) X.env :: (assignEach es X.env).map (·.2) := by rfl) : PGs X (.Name x px :: es) (gSetV (i :: is)) := PGs.imp (pgs_cons (pg_name hN hi hx hf) h2 hs) fun v σ H Q ⟨hl, q⟩ => by
  match v, hl with
  | v :: vs, hl => exact ⟨v, vs, rfl, by simpa using hl, q⟩
theorem psx_parT {ts : List Expr} {is : List Nat} {k : Ks} {k1 k2 : Nat} {pt pt2 : Pos} (hc : X.calm = true) (ha : PKs fn X es k) (hg : PGs X ts (gSetV is)) (he : es.length = ts.length := by rfl) (hi : is.length = ts.length := by rfl) (hl : es.length ≤ 1000 := by decide)
    (hs : swapsWithSole [.Tuple ts k1 pt] (.Tuple es k2 pt2) pos.line X.env = pure false := by rfl) (hw : swappedStores [.Tuple ts k1 pt] (.Tuple es k2 pt2) X.env = pure none := by rfl)
    (h1 : (assignEach [.Tuple ts k1 pt] X.env).map (·.2) = [assign (.Tuple ts k1 pt) X.env] := by rfl) (hn : (assignEach ts X.env).length = ts.length := by rfl) (hst : (assignEach ts X.env).findIdx? (·.1) = none := by rfl) :
    PSx fn X (.Assign [.Tuple ts k1 pt] (.Tuple es k2 pt2) pos) (sPar is k) := PS.imp (ps_asg (pe_tup ha.pa) (pg_tup hc hg hn hst) hs hw h1) fun D σ H h => by
  obtain ⟨H0, F0, bo, ρ, F, b, R, fl, ρ', b', e, q⟩ := h
  unfold sPar at e
  split at e
  · rename_i ss b1 e1
    cases e
    refine ⟨H0, F0, bo, ρ, F, b, R, ss, _, e1, fun v F1 H1 g1 hb1 r => ?_⟩
    have hz : v.length = es.length := by rw [r.length]; exact ha.len _ _ _ _ e1
    refine ⟨by rw [hz, sizeLine_eq]; omega, fun p hp => ?_⟩
    have R1 := R.grow g1 hb1
    have g2 : Grow bo F1 H1 F1 (upd H1 p (.tup v)) := Grow.alloc R1.wo hp
    have hb2 : BoxOk bo F1 (upd H1 p (.tup v)) _ := BoxOk.alloc R1.wo hp fun _ h => .inl h
    have R2 := R1.grow g2 hb2
    refine ⟨p, v, rfl, SqT.of upd_same, by rw [hz, he], by rw [hz, he, hi], ?_⟩
    have rk : RpK (pm X fn) bo H F1 (upd H1 p (.tup v)) ss v := by
      have : ∀ {ss : List Sl} {v' : List V}, RpK (pm X fn) bo H F1 H1 ss v' → RpK (pm X fn) bo H F1 (upd H1 p (.tup v)) ss v' := by
        intro ss
        induction ss with
        | nil => intro v' h; exact h
        | cons s ss ih =>
          intro v' h
          cases s with
          | emp => exact h
          | frz d =>
            obtain ⟨v, r, rfl, h1, h2⟩ := h
            exact ⟨v, r, rfl, h1.fk (R1.fkg g2), ih h2⟩
          | own d =>
            obtain ⟨a, r, rfl, h1, h2, h3, h4, h5⟩ := h
            obtain ⟨o, hq, _⟩ := h3.some
            refine ⟨a, r, rfl, h1, h2, h3.fk (R1.fkg g2) ?_, h4, ih h5⟩
            exact upd_ne (ne_of_none hq hp)
      exact this r
    exact q _ F1 _ (Rel.setK (fun a ha => inBox_new R.wo ha) (fun a ha => R.core.free a ha) R2 rk fun j dj a hj hs k d' e1 e2 => ne_own (F' := F) (H' := H) R (r.fresh k d' a e1 e2) j dj hj hs) ((R.fkg g1).trans (R1.fkg g2))
  · cases e
end
end Sv

set_option maxHeartbeats 4000000
/-! Sv10: lists of one's own, changed in place. -/
namespace Sv
open PySem L2

section
variable {m : Pm} {H0 : Hp} {F0 : Addr → Prop} {bo : Bo} {σ : St} {ρ : Rho} {F F' : Addr → Prop} {H H' : Hp} {b b' : Bx}
theorem BoxOk.upd {a : Addr} {o : HO} (nb : ¬ inBox bo a) (h : BoxOk bo F H b) : BoxOk bo F (L2.upd H a o) b := by
  cases bo with
  | none => trivial
  | some pq =>
    obtain ⟨p, q'⟩ := pq
    obtain ⟨a1, a2, a3, a4, a5⟩ := h
    exact ⟨a1, a2, a3, by rw [upd_ne fun e => nb (.inl e.symm)]; exact a4, by rw [upd_ne fun e => nb (.inr e.symm)]; exact a5⟩
theorem FK.upd {a : Addr} {o : HO} (nf : ¬ F a) (hm : ∀ u, H a = some u → MutO u) : FK F H F (L2.upd H a o) := by
  refine ⟨fun _ h => h, fun c hc => upd_ne fun e => nf (e ▸ hc), fun c u hu hn => ?_⟩
  by_cases hca : c = a
  · subst hca
    exact absurd (hm u hu) hn
  · rw [upd_ne hca]; exact hu
/-- a thing of one's own changed in place -/
theorem Rel.mut (R : Rel m H0 F0 bo σ ρ F H b) {i : Nat} {d d' : D} {a : Addr} {o : HO} (hi : ρ[i]? = some (Sl.own d)) (ha : σ[i]? = some (some (V.ref a))) (ow : FK F H F (L2.upd H a o) → Own m bo F (L2.upd H a o) d' a) :
    Rel m H0 F0 bo σ (ρ.set i (Sl.own d')) F (L2.upd H a o) b ∧ FK F H F (L2.upd H a o) := by
  obtain ⟨a', h1, nf, nb, h0, hw⟩ := R.own i d hi
  rw [ha] at h1
  cases h1
  obtain ⟨u, hu, um⟩ := hw.some
  have k : FK F H F (L2.upd H a o) := FK.upd nf fun u' hu' => by rw [hu] at hu'; cases hu'; exact um
  refine ⟨⟨⟨R.core.box.upd nb, fun c v hc hn => ?_, fun c hc => ?_, R.core.sub, R.core.new, fun c hc => ?_⟩, by simp [R.len], fun j e hj => ?_, fun j e hj => ?_, fun j l dj dl c hjl hj hl x1 x2 => ?_⟩, k⟩
  · have nca : c ≠ a := ne_of_none hc h0
    rw [upd_ne nca]; exact R.core.keep c v hc hn
  · by_cases hca : c = a
    · subst hca; exact h0
    · rw [upd_ne hca] at hc; exact R.core.free c hc
  · by_cases hca : c = a
    · subst hca; exact absurd hc nf
    · rw [upd_ne hca]; exact R.core.dom c hc
  · by_cases hij : i = j
    · subst hij
      have hl : i < ρ.length := by
        have := (List.getElem?_eq_some_iff.mp hj).1
        simpa using this
      rw [List.getElem?_set_self hl] at hj
      cases hj
    · rw [List.getElem?_set_ne hij] at hj
      obtain ⟨v, z1, z2⟩ := R.frz j e hj
      exact ⟨v, z1, z2.fk k⟩
  · by_cases hij : i = j
    · subst hij
      have hl : i < ρ.length := by
        have := (List.getElem?_eq_some_iff.mp hj).1
        simpa using this
      rw [List.getElem?_set_self hl] at hj
      cases hj
      exact ⟨a, ha, nf, nb, h0, ow k⟩
    · rw [List.getElem?_set_ne hij] at hj
      obtain ⟨c, z1, z2, z3, z4, z5⟩ := R.own j e hj
      have nca : c ≠ a := fun e => by subst e; exact R.dis i j _ _ c hij hi hj ha z1
      exact ⟨c, z1, z2, z3, z4, z5.fk k (upd_ne nca)⟩
  · have back : ∀ (j : Nat) dj, (ρ.set i (Sl.own d'))[j]? = some (Sl.own dj) → ∃ dj', ρ[j]? = some (Sl.own dj') := fun j dj hj => by
      by_cases hij : i = j
      · subst hij; exact ⟨d, hi⟩
      · rw [List.getElem?_set_ne hij] at hj; exact ⟨dj, hj⟩
    obtain ⟨_, y1⟩ := back j dj hj
    obtain ⟨_, y2⟩ := back l dl hl
    exact R.dis j l _ _ c hjl y1 y2 x1 x2
end

/-! ### expressions that change a slot's list -/
abbrev Mx := Rho → Bx → Option (D × Rho × Bx)
abbrev MAs := Rho → Bx → Option (List D × Rho × Bx)
def mUp (f : Ex) : Mx := fun ρ b => match f ρ b with
  | some (d, b1) => some (d, ρ, b1)
  | none => none
def mUpA (f : As) : MAs := fun ρ b => match f ρ b with
  | some (d, b1) => some (d, ρ, b1)
  | none => none
def mOne (f : Mx) : MAs := fun ρ b => match f ρ b with
  | some (d, ρ1, b1) => some ([d], ρ1, b1)
  | none => none
/-- xs.m(..) -/
def mMeth (i : Nat) (k : List D → List D → Option (D × List D)) (g : MAs) : Mx := fun ρ b => match ρ[i]? with
  | some (.own (.lst _)) => match g ρ b with
    | some (ds, ρ1, b1) => match ρ1[i]? with
      | some (.own (.lst xs)) => match k xs ds with
        | some (r, ys) => some (r, ρ1.set i (.own (.lst ys)), b1)
        | none => none
      | _ => none
    | none => none
  | _ => none
def kApp (xs : List D) : List D → Option (D × List D)
  | [d] => if xs.length < sizeLine then some (.non, xs ++ [d]) else none
  | _ => none
def kExt (xs : List D) : List D → Option (D × List D)
  | [.lst ys] => if xs.length + ys.length ≤ sizeLine then some (.non, xs ++ ys) else none
  | _ => none
def kPop (xs : List D) : List D → Option (D × List D)
  | [] => match xs[xs.length - 1]? with
    | some d => some (d, xs.dropLast)
    | none => none
  | _ => none
def kPopAt (xs : List D) : List D → Option (D × List D)
  | [.int i] => match ixN xs.length i with
    | some k => match xs[k]? with
      | some d => some (d, xs.eraseIdx k)
      | none => none
    | none => none
  | _ => none
def kIns (xs : List D) : List D → Option (D × List D)
  | [.int i, d] => if xs.length < sizeLine ∧ 0 ≤ i ∧ i < 2 ^ 63 then some (.non, xs.take i.toNat ++ [d] ++ xs.drop i.toNat) else none
  | _ => none
def kRem (xs : List D) : List D → Option (D × List D)
  | [.int k] => match intsD xs with
    | some ns => if k ∈ ns then some (.non, (ns.erase k).map .int) else none
    | none => none
  | _ => none
def tMx (m : Pm) (f : Mx) : TE := fun σ H Q => ∃ H0 F0 bo ρ F b, Rel m H0 F0 bo σ ρ F H b ∧ ∃ d ρ' b', f ρ b = some (d, ρ', b') ∧
  ∀ v F' H', Rel m H0 F0 bo σ ρ' F' H' b' → FK F H F' H' → Rp m bo F' H' d v → Q v H'
def tMAs (m : Pm) (f : MAs) : TA := fun σ H Q => ∃ H0 F0 bo ρ F b, Rel m H0 F0 bo σ ρ F H b ∧ ∃ d ρ' b', f ρ b = some (d, ρ', b') ∧
  ∀ v F' H', Rel m H0 F0 bo σ ρ' F' H' b' → FK F H F' H' → RpL m bo F' H' d v → Q v H'
abbrev PMx (fn : Nat → Option V) (X : Cx) (e : Expr) (f : Mx) : Prop := PE X e (tMx (pm X fn) f)
abbrev PMAs (fn : Nat → Option V) (X : Cx) (es : List Expr) (f : MAs) : Prop := PA X es (tMAs (pm X fn) f)
/-- a method of a list, by values -/
def rM (m : Pm) (k : List D → List D → Option (D × List D)) : V → List V → Hp → VK → Prop := fun x vs H Q => ∃ bo F b, Wo bo F H b ∧ ∃ a xs ds us r ys, x = .ref a ∧ ¬ F a ∧ ¬ inBox bo a ∧ H a = some (.lst us) ∧ us.length ≤ sizeLine ∧ RpL m bo F H xs us ∧ RpL m bo F H ds vs ∧ k xs ds = some (r, ys) ∧
  ∀ v ws, RpL m bo F H ys ws → ws.length ≤ sizeLine → Rp m bo F H r v → Q v (upd H a (.lst ws))
section
variable {fn : Nat → Option V} {X : Cx} {a c e : Expr} {es rest : List Expr} {st : Stmt} {sts : List Stmt} {pos p : Pos} {f g h : Ex} {t u : Tx} {s s' : SS}
theorem pmx_up (h : PEx fn X e f) : PMx fn X e (mUp f) := PE.imp h fun σ H Q ⟨H0, F0, bo, ρ, F, b, R, d, ρ', b', e, q⟩ => by
  unfold mUp at e
  split at e
  · rename_i d b1 e1
    cases e
    exact ⟨H0, F0, bo, _, F, b, R, d, _, e1, fun v F' H' g hb r => q v F' H' (R.grow g hb) (R.fkg g) r⟩
  · cases e
theorem pmas_up {g : As} (h : PAs fn X es g) : PMAs fn X es (mUpA g) := PA.imp h.pa fun σ H Q ⟨H0, F0, bo, ρ, F, b, R, d, ρ', b', e, q⟩ => by
  unfold mUpA at e
  split at e
  · rename_i d b1 e1
    cases e
    exact ⟨H0, F0, bo, _, F, b, R, d, _, e1, fun v F' H' g hb r => q v F' H' (R.grow g hb) (R.fkg g) r⟩
  · cases e
theorem pmas_one {g : Mx} (h : PMx fn X e g) (hs : starEach [e] X.env = (false, eval e X.env) :: starEach [] X.env := by rfl) : PMAs fn X [e] (mOne g) := PA.imp (pa_cons h pa_nil hs) fun σ H Q ⟨H0, F0, bo, ρ, F, b, R, d, ρ', b', e, q⟩ => by
  unfold mOne at e
  split at e
  · rename_i d ρ1 b1 e1
    cases e
    exact ⟨H0, F0, bo, ρ, F, b, R, d, ρ', b', e1, fun v F' H' R' k r => q [v] F' H' R' k (RpL.cons r RpL.nil)⟩
  · cases e

/-! #### the methods by values -/
theorem m_app : MtR X "list.append" (rM (pm X fn) kApp) := by
  intro pins s σ H x vs v us Q I rx rv ⟨bo, F, b, W, a, xs, ds, ws, r, ys, ex, nf, nb, ha, hz, r1, r2, ek, q⟩
  subst ex
  unfold kApp at ek
  split at ek
  · rename_i d
    split at ek
    · rename_i hlt
      cases ek
      have r2' := r2
      simp only [RpL] at r2'
      obtain ⟨v1, _, rfl, r3, rfl⟩ := r2'
      exact mt_append pins s σ H _ _ _ _ _ I rx rv ⟨a, ws, v1, rfl, rfl, ha, by rw [r1.length]; exact hlt, q .non _ (RpL.append r1 r2) (by have := r1.length; simp; omega) (by simp [Rp])⟩
    · cases ek
  · cases ek
theorem m_ext : MtR X "list.extend" (rM (pm X fn) kExt) := by
  intro pins s σ H x vs v us Q I rx rv ⟨bo, F, b, W, a, xs, ds, ws, r, ys, ex, nf, nb, ha, hz, r1, r2, ek, q⟩
  subst ex
  unfold kExt at ek
  split at ek
  · rename_i d
    split at ek
    · rename_i hlt
      cases ek
      simp only [RpL, Rp] at r2
      obtain ⟨v1, _, rfl, ⟨a2, us2, rfl, f2, h2, z2, r3⟩, rfl⟩ := r2
      have l1 := r1.length
      have l2 := r3.length
      exact mt_extend pins s σ H _ _ _ _ _ I rx rv ⟨a, a2, ws, us2, rfl, rfl, ha, h2, by omega, q .non _ (RpL.append r1 r3) (by simp; omega) (by simp [Rp])⟩
    · cases ek
  · cases ek
theorem RpL.dropLast {m : Pm} {bo : Bo} {F : Addr → Prop} {H : Hp} {ds : List D} {vs : List V} (h : RpL m bo F H ds vs) : RpL m bo F H ds.dropLast vs.dropLast := by
  rw [List.dropLast_eq_take, List.dropLast_eq_take, h.length]
  exact h.take _
theorem m_pop : MtR X "list.pop" (rM (pm X fn) kPop) := by
  intro pins s σ H x vs v us Q I rx rv ⟨bo, F, b, W, a, xs, ds, ws, r, ys, ex, nf, nb, ha, hz, r1, r2, ek, q⟩
  subst ex
  unfold kPop at ek
  split at ek
  · split at ek
    · rename_i d hd
      cases ek
      simp only [RpL] at r2
      subst r2
      obtain ⟨v1, e1, r3⟩ := r1.get hd
      exact mt_pop pins s σ H _ _ _ _ _ I rx rv ⟨a, ws, v1, rfl, rfl, ha, by rw [r1.length]; exact e1, q v1 _ r1.dropLast (by rw [List.length_dropLast]; omega) r3⟩
    · cases ek
  · cases ek
theorem m_popAt : MtR X "list.pop" (rM (pm X fn) kPopAt) := by
  intro pins s σ H x vs v us Q I rx rv ⟨bo, F, b, W, a, xs, ds, ws, r, ys, ex, nf, nb, ha, hz, r1, r2, ek, q⟩
  subst ex
  unfold kPopAt at ek
  split at ek
  · rename_i i
    split at ek
    · rename_i k hk
      split at ek
      · rename_i d hd
        cases ek
        simp only [RpL, Rp] at r2
        obtain ⟨_, _, rfl, rfl, rfl⟩ := r2
        obtain ⟨v1, e1, r3⟩ := r1.get hd
        obtain ⟨h1, h2, h3, h4⟩ := ixN_seq hk
        have l1 := r1.length
        have hn := line63
        exact mt_popAt pins s σ H _ _ _ _ _ I rx rv ⟨a, ws, i, k, v1, rfl, rfl, ha, by omega, by omega, by rw [l1]; exact h1, e1, q v1 _ (r1.eraseIdx k) (Nat.le_trans (len_erase ws k) hz) r3⟩
      · cases ek
    · cases ek
  · cases ek
theorem m_ins : MtR X "list.insert" (rM (pm X fn) kIns) := by
  intro pins s σ H x vs v us Q I rx rv ⟨bo, F, b, W, a, xs, ds, ws, r, ys, ex, nf, nb, ha, hz, r1, r2, ek, q⟩
  subst ex
  unfold kIns at ek
  split at ek
  · rename_i i d
    split at ek
    · rename_i hc
      obtain ⟨hlt, h0, h1⟩ := hc
      cases ek
      simp only [RpL, Rp] at r2
      obtain ⟨_, _, rfl, rfl, v1, _, rfl, r3, rfl⟩ := r2
      have l1 := r1.length
      refine mt_insert pins s σ H _ _ _ _ _ I rx rv ⟨a, ws, i, v1, rfl, rfl, ha, by omega, h0, h1, q .non _ (RpL.append (RpL.append (r1.take _) (RpL.cons r3 RpL.nil)) (r1.drop _)) ?_ (by simp [Rp])⟩
      simp only [List.length_append, List.length_take, List.length_drop, List.length_singleton]
      omega
    · cases ek
  · cases ek

/-! #### .. as expressions -/
theorem meth_o {m : Pm} {K : PySem.W.Frag} {i : Nat} {k : List D → List D → Option (D × List D)} {g : MAs} {σ : St} {H : Hp} {Q : VK} (h : tMx m (mMeth i k g) σ H Q) : tBM K "list" (rM m k) (tVar i) (tMAs m g) σ H Q := by
  obtain ⟨H0, F0, bo, ρ, F, b, R, r, ρ', b', e, q⟩ := h
  unfold mMeth at e
  split at e
  · rename_i xs0 hi
    split at e
    · rename_i ds ρ1 b1 e1
      split at e
      · rename_i xs hi1
        split at e
        · rename_i r' ys ek
          cases e
          obtain ⟨a, h1, nf, nb, h0, us0, hu0, hz0, ru0⟩ := R.own i _ hi
          refine ⟨_, h1, .inl ⟨rfl, us0, SqL.of hu0⟩, H0, F0, bo, ρ, F, b, R, ds, ρ1, _, e1, fun vs F' H' R' k' rv => ?_⟩
          obtain ⟨a', h1', nf', nb', h0', us, hu, hz, ru⟩ := R'.own i _ hi1
          rw [h1] at h1'; cases h1'
          refine ⟨bo, F', _, R'.wo, a, xs, ds, us, r, ys, rfl, nf', nb', hu, hz, ru, rv, ek, fun v ws rw' zw rr => ?_⟩
          obtain ⟨R2, k2⟩ := R'.mut hi1 h1 (d' := .lst ys) (o := .lst ws) fun k2 => ⟨ws, upd_same, zw, rw'.fk k2⟩
          exact q v F' _ R2 (k'.trans k2) (rr.fk k2)
        · cases e
      · cases e
    · cases e
  · cases e
variable {o : Expr} {name : Str} {apos cpos : Pos} {T id : String} {i : Nat} {k : List D → List D → Option (D × List D)} {ga : MAs}
theorem pmx_meth (pa : PlainAttrs "list") (slot : Slot "list" name id) (hty : typeOf (.builtin id) = pure (.type "method_descriptor")) (hm : MtR X id (rM (pm X fn) k)) (ho : PE X o (tVar i)) (ha : PMAs fn X (e :: es) ga)
    (hbase : attributeBase o name X.env (eval o X.env) = eval o X.env := by rfl)
    (hfew : ((backTo cpos (starEach (e :: es) X.env)).all (fun x => !x.1) && (backToKw cpos (keywordEach [] X.env)).all (fun x => x.1.isSome)
      && decide ((e :: es).length + ([] : List Keyword).length + (if ([] : List Keyword).isEmpty then 0 else 1) < 30)) = true := by rfl)
    (hline : (apos.endLine == cpos.line) = true := by rfl) (hs : starEach (e :: es) X.env = (false, eval e X.env) :: starEach es X.env := by rfl) (hplain : (backTo cpos (starEach es X.env)).any (·.1) = false := by rfl) :
    PMx fn X (.Call (.Attribute o name apos) (e :: es) [] cpos) (mMeth i k ga) :=
  PE.imp (pe_bm pa slot hty hm ho ha hbase hfew hline hs hplain) fun _ _ _ h => meth_o h
def mNil : MAs := fun ρ b => some ([], ρ, b)
theorem pmx_meth0 (pa : PlainAttrs "list") (slot : Slot "list" name id) (hty : typeOf (.builtin id) = pure (.type "method_descriptor")) (hm : MtR X id (rM (pm X fn) k)) (ho : PE X o (tVar i))
    (hbase : attributeBase o name X.env (eval o X.env) = eval o X.env := by rfl) (hline : (apos.endLine == cpos.line) = true := by rfl) :
    PMx fn X (.Call (.Attribute o name apos) [] [] cpos) (mMeth i k mNil) :=
  PE.imp (pe_bm0 pa slot hty hm ho hbase hline) fun σ H Q h => by
    obtain ⟨v, h1, ty, H0, F0, bo, ρ, F, b, R, d, ρ', b', e, q⟩ := meth_o (K := X.K) h
    cases e
    exact ⟨v, h1, ty, q [] F H R (FK.refl _ _) RpL.nil⟩
theorem pmx_app (ho : PE X o (tVar i)) (ha : PMAs fn X [e] ga) (hbase : attributeBase o "append" X.env (eval o X.env) = eval o X.env := by rfl)
    (hfew : ((backTo cpos (starEach [e] X.env)).all (fun x => !x.1) && (backToKw cpos (keywordEach [] X.env)).all (fun x => x.1.isSome)
      && decide ([e].length + ([] : List Keyword).length + (if ([] : List Keyword).isEmpty then 0 else 1) < 30)) = true := by rfl)
    (hline : (apos.endLine == cpos.line) = true := by rfl) (hs : starEach [e] X.env = (false, eval e X.env) :: starEach [] X.env := by rfl) (hplain : (backTo cpos (starEach [] X.env)).any (·.1) = false := by rfl) :
    PMx fn X (.Call (.Attribute o "append" apos) [e] [] cpos) (mMeth i kApp ga) := pmx_meth PySem.F.plainAttrs_list PySem.F.slot_list_append PySem.F.type_list_append m_app ho ha hbase hfew hline hs hplain
theorem pmx_ext (ho : PE X o (tVar i)) (ha : PMAs fn X [e] ga) (hbase : attributeBase o "extend" X.env (eval o X.env) = eval o X.env := by rfl)
    (hfew : ((backTo cpos (starEach [e] X.env)).all (fun x => !x.1) && (backToKw cpos (keywordEach [] X.env)).all (fun x => x.1.isSome)
      && decide ([e].length + ([] : List Keyword).length + (if ([] : List Keyword).isEmpty then 0 else 1) < 30)) = true := by rfl)
    (hline : (apos.endLine == cpos.line) = true := by rfl) (hs : starEach [e] X.env = (false, eval e X.env) :: starEach [] X.env := by rfl) (hplain : (backTo cpos (starEach [] X.env)).any (·.1) = false := by rfl) :
    PMx fn X (.Call (.Attribute o "extend" apos) [e] [] cpos) (mMeth i kExt ga) := pmx_meth PySem.F.plainAttrs_list PySem.F.slot_list_extend PySem.F.type_list_extend m_ext ho ha hbase hfew hline hs hplain
theorem pmx_pop (ho : PE X o (tVar i)) (hbase : attributeBase o "pop" X.env (eval o X.env) = eval o X.env := by rfl) (hline : (apos.endLine == cpos.line) = true := by rfl) :
    PMx fn X (.Call (.Attribute o "pop" apos) [] [] cpos) (mMeth i kPop mNil) := pmx_meth0 PySem.F.plainAttrs_list PySem.F.slot_list_pop PySem.F.type_list_pop m_pop ho hbase hline
theorem pmx_popAt (ho : PE X o (tVar i)) (ha : PMAs fn X [e] ga) (hbase : attributeBase o "pop" X.env (eval o X.env) = eval o X.env := by rfl)
    (hfew : ((backTo cpos (starEach [e] X.env)).all (fun x => !x.1) && (backToKw cpos (keywordEach [] X.env)).all (fun x => x.1.isSome)
      && decide ([e].length + ([] : List Keyword).length + (if ([] : List Keyword).isEmpty then 0 else 1) < 30)) = true := by rfl)
    (hline : (apos.endLine == cpos.line) = true := by rfl) (hs : starEach [e] X.env = (false, eval e X.env) :: starEach [] X.env := by rfl) (hplain : (backTo cpos (starEach [] X.env)).any (·.1) = false := by rfl) :
    PMx fn X (.Call (.Attribute o "pop" apos) [e] [] cpos) (mMeth i kPopAt ga) := pmx_meth PySem.F.plainAttrs_list PySem.F.slot_list_pop PySem.F.type_list_pop m_popAt ho ha hbase hfew hline hs hplain
theorem pmx_ins {e' : Expr} (ho : PE X o (tVar i)) (ha : PMAs fn X [e, e'] ga) (hbase : attributeBase o "insert" X.env (eval o X.env) = eval o X.env := by rfl)
    (hfew : ((backTo cpos (starEach [e, e'] X.env)).all (fun x => !x.1) && (backToKw cpos (keywordEach [] X.env)).all (fun x => x.1.isSome)
      && decide ([e, e'].length + ([] : List Keyword).length + (if ([] : List Keyword).isEmpty then 0 else 1) < 30)) = true := by rfl)
    (hline : (apos.endLine == cpos.line) = true := by rfl) (hs : starEach [e, e'] X.env = (false, eval e X.env) :: starEach [e'] X.env := by rfl) (hplain : (backTo cpos (starEach [e'] X.env)).any (·.1) = false := by rfl) :
    PMx fn X (.Call (.Attribute o "insert" apos) [e, e'] [] cpos) (mMeth i kIns ga) := pmx_meth PySem.F.plainAttrs_list PySem.F.slot_list_insert PySem.F.type_list_insert m_ins ho ha hbase hfew hline hs hplain
theorem intsD_eq : ∀ {xs : List D} {ns : List Int}, intsD xs = some ns → xs = ns.map .int
  | [], ns, e => by cases e; rfl
  | .int i :: xs, ns, e => by
    unfold intsD at e
    cases h : intsD xs with
    | none => rw [h] at e; cases e
    | some r => rw [h] at e; cases e; rw [intsD_eq h]; rfl
  | .non :: _, _, e => by cases e
  | .bl _ :: _, _, e => by cases e
  | .str _ :: _, _, e => by cases e
  | .tup _ :: _, _, e => by cases e
  | .lst _ :: _, _, e => by cases e
  | .dct _ :: _, _, e => by cases e
  | .tok _ :: _, _, e => by cases e
theorem RpL.mk_ints {m : Pm} {bo : Bo} {F : Addr → Prop} {H : Hp} : ∀ (ns : List Int), RpL m bo F H (ns.map .int) (ns.map V.int)
  | [] => RpL.nil
  | n :: ns => RpL.cons (by simp [Rp]) (RpL.mk_ints ns)
/-- the remove that finds it; noV: no exception goes out -/
theorem pmx_rem {W : WX} (hc : X.calm = true) (tk : Takes X W) (ho : PE X o (tVar i)) (ha : PEx fn X e f) (hbase : attributeBase o "remove" X.env (eval o X.env) = eval o X.env := by rfl)
    (hfew : ((backTo cpos (starEach [e] X.env)).all (fun x => !x.1) && (backToKw cpos (keywordEach [] X.env)).all (fun x => x.1.isSome)
      && decide (([e] : List Expr).length + ([] : List Keyword).length + (if ([] : List Keyword).isEmpty then 0 else 1) < 30)) = true := by rfl)
    (hline : (apos.endLine == cpos.line) = true := by rfl) (hs : starEach [e] X.env = (false, eval e X.env) :: starEach [] X.env := by rfl) (hplain : (backTo cpos (starEach [] X.env)).any (·.1) = false := by rfl) :
    PMx fn X (.Call (.Attribute o "remove" apos) [e] [] cpos) (mMeth i kRem (mOne (mUp f))) := PE.imp (pe_remX hc tk ho ha hbase hfew hline hs hplain) fun σ H Q ⟨H0, F0, bo, ρ, F, b, R, r, ρ', b', e, q⟩ => by
  unfold mMeth mOne mUp at e
  split at e
  · rename_i xs0 hi
    split at e
    · rename_i ds ρ1 b1 e1
      split at e1
      · rename_i d ρ2 b2 e2
        cases e1
        split at e2
        · rename_i d3 b3 e3
          cases e2
          split at e
          · rename_i xs hi1
            split at e
            · rename_i r' ys ek
              cases e
              unfold kRem at ek
              split at ek
              · rename_i kk hkk
                cases hkk
                split at ek
                · rename_i ns hns
                  split at ek
                  · rename_i hmem
                    cases ek
                    obtain ⟨a, h1, nf, nb, h0, us0, hu0, hz0, ru0⟩ := R.own i _ hi
                    refine ⟨_, h1, .inl ⟨rfl, us0, SqL.of hu0⟩, H0, F0, bo, _, F, b, R, _, _, e3, fun v F' H' g hb rv => ?_⟩
                    have R' := R.grow g hb
                    obtain ⟨a', h1', nf', nb', h0', us, hu, hz, ru⟩ := R'.own i _ hi1
                    rw [h1] at h1'; cases h1'
                    rw [intsD_eq hns] at ru
                    have eu := ru.ints
                    subst eu
                    simp only [Rp] at rv
                    refine ⟨a, ns, kk, rfl, rv, hu, fun _ => ?_, fun hn => absurd hmem hn⟩
                    have hzz : ((ns.erase kk).map V.int).length ≤ sizeLine := by
                      rw [List.length_map]
                      have := List.length_erase_le (a := kk) (l := ns)
                      rw [List.length_map] at hz
                      omega
                    obtain ⟨R2, k2⟩ := R'.mut hi1 h1 (d' := .lst ((ns.erase kk).map .int)) (o := .lst ((ns.erase kk).map V.int)) fun k2 => ⟨_, upd_same, hzz, RpL.mk_ints _⟩
                    exact q .non F' _ R2 ((R.fkg g).trans k2) (by simp [Rp])
                  · cases ek
                · cases ek
              · cases ek
            · cases e
          · cases e
        · cases e2
      · cases e1
    · cases e
  · cases e

/-! ### statements -/
def sExprM (f : Mx) : SS := fun ρ b => match f ρ b with
  | some (_, ρ1, b1) => some (.nx, ρ1, b1)
  | none => none
def sSetM (i : Nat) (f : Mx) : SS := fun ρ b => match f ρ b with
  | some (d, ρ1, b1) => some (.nx, ρ1.set i (.frz d), b1)
  | none => none
def sAsgM (g : Tg) (f : Mx) : SS := fun ρ b => match f ρ b with
  | some (d, ρ1, b1) => match g d ρ1 with
    | some ρ2 => some (.nx, ρ2, b1)
    | none => none
  | none => none
theorem psx_exprM {f : Mx} (he : PMx fn X e f) (hs : swapsWith e none pos.line X.env = pure false := by rfl) : PSx fn X (.Expr e pos) (sExprM f) := PS.imp (ps_expr he hs) fun D σ H ⟨H0, F0, bo, ρ, F, b, R, fl, ρ', b', e, q⟩ => by
  unfold sExprM at e
  split at e
  · rename_i d ρ1 b1 e1
    cases e
    exact ⟨H0, F0, bo, ρ, F, b, R, _, _, _, e1, fun v F' H' R' k r => q σ F' H' R' k⟩
  · cases e
theorem psx_setM {f : Mx} {i : Nat} {x : Str} {pos' : Pos} (hN : X.N.Nodup) (hi : X.N[i]? = some x) (hx : Loc X.env.scope x) (he : PMx fn X e f) (hs : swapsWith e (some (.Name x pos')) pos.line X.env = pure false := by rfl) (hf : X.fn x = true ∨ X.env.scope.names.lookup x = some .local := by first | exact .inl rfl | exact .inr rfl | assumption) :
    PSx fn X (.Assign [.Name x pos'] e pos) (sSetM i f) := PS.imp (ps_set hN hi hx he hs hf) fun D σ H ⟨H0, F0, bo, ρ, F, b, R, fl, ρ', b', e, q⟩ => by
  unfold sSetM at e
  split at e
  · rename_i d ρ1 b1 e1
    cases e
    exact ⟨H0, F0, bo, ρ, F, b, R, _, _, _, e1, fun v F' H' R' k r => q _ F' H' (R'.set_frz r) k⟩
  · cases e
theorem psx_asgM {f : Mx} {tg : Expr} {sl : List Nat} {g : Tg} (he : PMx fn X e f) (hg : PGx fn X tg sl g) (hs : swapsWithSole [tg] e pos.line X.env = pure false := by rfl) (hw : swappedStores [tg] e X.env = pure none := by rfl)
    (h1 : (assignEach [tg] X.env).map (·.2) = [assign tg X.env] := by rfl) : PSx fn X (.Assign [tg] e pos) (sAsgM g f) := PS.imp (ps_asg he hg hs hw h1) fun D σ H ⟨H0, F0, bo, ρ, F, b, R, fl, ρ', b', e, q⟩ => by
  unfold sAsgM at e
  split at e
  · rename_i d ρ1 b1 e1
    split at e
    · rename_i ρ2 e2
      cases e
      refine ⟨H0, F0, bo, ρ, F, b, R, _, _, _, e1, fun v F' H' R' k r => ?_⟩
      exact ⟨H0, F0, bo, ρ1, F', _, R', d, _, r, e2, fun σ' R2 _ => q σ' F' H' R2 k⟩
    · cases e
  · cases e
/-- xs[i] = e, xs a slot's list -/
def sStore (i : Nat) (fi fe : Ex) : SS := fun ρ b => match fe ρ b with
  | some (d, b1) => match ρ[i]? with
    | some (.own (.lst xs)) => match fi ρ b1 with
      | some (.int k, b2) => match ixN xs.length k with
        | some j => some (.nx, ρ.set i (.own (.lst (xs.set j d))), b2)
        | none => none
      | _ => none
    | _ => none
  | none => none
theorem psx_store {tpos : Pos} (ho : PE X o (tVar i)) (hi : PEx fn X c g) (he : PEx fn X e f)
    (ha : ∀ v, assign (.Subscript o c tpos) X.env v = (do
      let ov ← holding [v] (eval o X.env)
      let iv ← holding [v, ov] (eval c X.env)
      standAt tpos
      holding [v, ov, iv] (setItem ov iv v)
      release [v, ov, iv] []) := by intro _; rfl) (hs : swapsWithSole [.Subscript o c tpos] e pos.line X.env = pure false := by rfl) (hw : swappedStores [.Subscript o c tpos] e X.env = pure none := by rfl)
    (h1 : (assignEach [.Subscript o c tpos] X.env).map (·.2) = [assign (.Subscript o c tpos) X.env] := by rfl) :
    PSx fn X (.Assign [.Subscript o c tpos] e pos) (sStore i g f) := PS.imp (ps_asg he (pg_sub ho hi set_list ha) hs hw h1) fun D σ H ⟨H0, F0, bo, ρ, F, b, R, fl, ρ', b', e, q⟩ => by
  unfold sStore at e
  split at e
  · rename_i d b1 e1
    split at e
    · rename_i xs hi
      split at e
      · rename_i k b2 e2
        split at e
        · rename_i j hj
          cases e
          refine ⟨H0, F0, bo, ρ, F, b, R, d, b1, e1, fun v F1 H1 g1 hb1 r1 => ?_⟩
          have R1 := R.grow g1 hb1
          obtain ⟨a, h1, nf, nb, h0, us, hu, hz, ru⟩ := R1.own i _ hi
          refine ⟨_, h1, H0, F0, bo, ρ, F1, b1, R1, .int k, _, e2, fun iv F2 H2 g2 hb2 r2 => ?_⟩
          simp only [Rp] at r2
          have R2 := R1.grow g2 hb2
          obtain ⟨a', h1', nf', nb', h0', us, hu, hz, ru⟩ := R2.own i _ hi
          rw [h1] at h1'; cases h1'
          refine ⟨a, us, k, j, rfl, r2, hu, by rw [ru.length]; exact hj, ?_⟩
          obtain ⟨R3, k3⟩ := R2.mut hi h1 (d' := .lst (xs.set j d)) (o := .lst (us.set j v)) fun k3 => ⟨_, upd_same, by simpa using hz, (ru.set j (r1.fk (R1.fkg g2))).fk k3⟩
          exact q σ F2 _ R3 (((R.fkg g1).trans (R1.fkg g2)).trans k3)
        · cases e
      · cases e
    · cases e
  · cases e
/-- name op= e, numbers -/
def sAugI (i : Nat) (k : Int → Int → Int) (f : Ex) : SS := fun ρ b => match ρ[i]? with
  | some (.frz (.int x)) => match f ρ b with
    | some (.int y, b1) => some (.nx, ρ.set i (.frz (.int (k x y))), b1)
    | _ => none
  | _ => none
theorem psx_augI {op : Operator} {k : Int → Int → Int} {x : Str} {pos' : Pos} (ho : PIp X op (ipI k)) (hN : X.N.Nodup) (hi : X.N[i]? = some x) (hx : Loc X.env.scope x) (he : PEx fn X e f) (hf : X.fn x = true ∨ X.env.scope.names.lookup x = some .local := by first | exact .inl rfl | exact .inr rfl | assumption) :
    PSx fn X (.AugAssign (.Name x pos') op e pos) (sAugI i k f) := PS.imp (ps_aug hN hi hx he ho hf) fun D σ H ⟨H0, F0, bo, ρ, F, b, R, fl, ρ', b', e, q⟩ => by
  unfold sAugI at e
  split at e
  · rename_i x hx
    split at e
    · rename_i y b1 e1
      cases e
      obtain ⟨v, h1, h2⟩ := R.frz i _ hx
      simp only [Rp] at h2
      refine ⟨v, h1, H0, F0, bo, ρ, F, b, R, _, _, e1, fun w F1 H1 g1 hb1 r1 => ?_⟩
      simp only [Rp] at r1
      exact ⟨x, y, h2, r1, q _ F1 H1 ((R.grow g1 hb1).set_frz (by simp [Rp])) (R.fkg g1)⟩
    · cases e
  · cases e
/-- xs[i] op= e, xs a slot's list of numbers -/
def sAugS (i : Nat) (k : Int → Int → Int) (fi fe : Ex) : SS := fun ρ b => match ρ[i]? with
  | some (.own (.lst xs)) => match fi ρ b with
    | some (.int z, b1) => match ixN xs.length z with
      | some j => match xs[j]? with
        | some (.int x) => match fe ρ b1 with
          | some (.int y, b2) => some (.nx, ρ.set i (.own (.lst (xs.set j (.int (k x y))))), b2)
          | _ => none
        | _ => none
      | none => none
    | _ => none
  | _ => none
def rGetL : V → V → Hp → VK → Prop := fun o i H Q => ∃ p us z j v, o = .ref p ∧ i = .int z ∧ H p = some (.lst us) ∧ ixN us.length z = some j ∧ us[j]? = some v ∧ Q v H
theorem get_list : PGet X rGetL := by
  intro pins s σ H o i ov iv Q I ro ri ⟨p, us, z, j, v, e1, e2, hp, hj, hv, q⟩
  subst e1 e2
  cases ro
  obtain ⟨t, rfl⟩ := ri
  obtain ⟨its, n, r, ho, hz⟩ := I.lst hp
  obtain ⟨h1, h2, h3, h4⟩ := ixN_seq hj
  obtain ⟨w, ew, rw'⟩ := r.get hv
  have hl := r.length
  have hn := line63
  have pl : s.heap.IsList p its.toArray := PySem.IsL.isList ho
  by_cases h0 : 0 ≤ z
  · have hk : z.toNat = j := by
      rw [seqIndex_of h0 h4] at h1
      exact Option.some.inj h1
    exact wpAny_getItem_list pl h0 (by omega) (x := w) (by rw [hk]; simpa using ew) ⟨v, H, I, rw', q⟩
  · have hk : (z + (its.toArray.size : Int)).toNat = j := by
      rw [seqIndex_neg (by omega) h3] at h1
      rw [List.size_toArray, ← hl]
      exact Option.some.inj h1
    exact wpAny_getItem_list_neg pl (by omega) (by rw [List.size_toArray] <;> omega) (by omega) (x := w) (by rw [hk]; simpa using ew) ⟨v, H, I, rw', q⟩
theorem psx_augS {op : Operator} {k : Int → Int → Int} {tpos : Pos} (hp : PIp X op (ipI k)) (ho : PE X o (tVar i)) (hi : PEx fn X c g) (he : PEx fn X e f)
    (ha : ∀ ov iv new, augStore c ov iv new = (do holding [new, ov, iv] (setItem ov iv new); release [new, ov, iv] []; pure .next) := by intros; rfl) :
    PSx fn X (.AugAssign (.Subscript o c tpos) op e pos) (sAugS i k g f) := PS.imp (ps_augS ho hi get_list he hp set_list ha) fun D σ H ⟨H0, F0, bo, ρ, F, b, R, fl, ρ', b', e, q⟩ => by
  unfold sAugS at e
  split at e
  · rename_i xs hi
    split at e
    · rename_i z b1 e1
      split at e
      · rename_i j hj
        split at e
        · rename_i x hx
          split at e
          · rename_i y b2 e2
            cases e
            obtain ⟨a, h1, nf, nb, h0, us, hu, hz, ru⟩ := R.own i _ hi
            refine ⟨_, h1, H0, F0, bo, ρ, F, b, R, _, _, e1, fun iv F1 H1 g1 hb1 r1 => ?_⟩
            simp only [Rp] at r1
            have R1 := R.grow g1 hb1
            obtain ⟨a', h1', nf', nb', h0', us, hu, hz, ru⟩ := R1.own i _ hi
            rw [h1] at h1'; cases h1'
            obtain ⟨w, hw, rw'⟩ := ru.get hx
            simp only [Rp] at rw'
            refine ⟨a, us, z, j, w, rfl, r1, hu, by rw [ru.length]; exact hj, hw, H0, F0, bo, ρ, F1, b1, R1, _, _, e2, fun u F2 H2 g2 hb2 r2 => ?_⟩
            simp only [Rp] at r2
            have R2 := R1.grow g2 hb2
            obtain ⟨a', h1', nf', nb', h0', us, hu, hz, ru⟩ := R2.own i _ hi
            rw [h1] at h1'; cases h1'
            refine ⟨x, y, rw', r2, a, us, z, j, rfl, r1, hu, by rw [ru.length]; exact hj, ?_⟩
            obtain ⟨R3, k3⟩ := R2.mut hi h1 (d' := .lst (xs.set j (.int (k x y)))) (o := .lst (us.set j (.int (k x y)))) fun k3 => ⟨_, upd_same, by simpa using hz, (ru.set j (by simp [Rp])).fk k3⟩
            exact q σ F2 _ R3 (((R.fkg g1).trans (R1.fkg g2)).trans k3)
          · cases e
        · cases e
      · cases e
    · cases e
  · cases e
end
end Sv

set_option maxHeartbeats 4000000
/-! Sv11: what a def promises, calls. -/
namespace Sv
open PySem L2
open PyProof.Rows (envOfC)

/-- the promise of a def of n parameters that computes F -/
def spD (m : Pm) (n : Nat) (Fs : Fn) : Sp := fun vs H Q _ => ∃ bo F b, Wo bo F H b ∧ ∃ ds d b', RpL m bo F H ds vs ∧ ds.length = n ∧ Fs ds b = some (d, b') ∧
  ∀ v F' H', Grow bo F H F' H' → BoxOk bo F' H' b' → Rp m bo F' H' d v → Q v H'
theorem spD_len {m : Pm} {n : Nat} {Fs : Fn} (vs : List V) (H : Hp) (Q : VK) (E : XK) (h : spD m n Fs vs H Q E) : vs.length = n := by
  obtain ⟨bo, F, b, W, ds, d, b', r, hl, _⟩ := h
  rw [r.length, hl]
/-- a def with no promise kept: never called -/
def noFn : Fn := fun _ _ => none
theorem fn_none {P : Program} {w : World} {K : PySem.W.Frag} {mg : Str → Option Value} {base : Heap} {k : Nat} {f : Addr} {fd : FuncData} {ps : List Str} {m : Pm} (n : Nat) (hn : ps.length = n) : FnOk P w K mg base CX0 k f fd ps (spD m n noFn) :=
  ⟨fun vs H Q E h => (spD_len vs H Q E h).trans hn.symm, fun A outer s H args us vs Q E _ _ _ _ h => by
    obtain ⟨_, _, _, _, _, _, _, _, _, e, _⟩ := h
    cases e⟩
/-- the names at the entry -/
theorem rel_start {m : Pm} {bo : Bo} {F : Addr → Prop} {H : Hp} {b : Bx} {N : List Str} {ds : List D} {vs : List V} (W : Wo bo F H b) (r : RpL m bo F H ds vs) : Rel m H F bo (L2.start N vs) (ds.map Sl.frz ++ List.replicate (N.length - ds.length) Sl.emp) F H b := by
  have hl := r.length
  refine ⟨⟨W.box, fun a o e _ => e, fun a e => e, fun _ h => h, fun _ h => .inl h, W.dom⟩, ?_, fun i d e => ?_, fun i d e => ?_, fun i j di dj a _ e => ?_⟩
  · unfold L2.start
    simp [hl]
  · by_cases hi : i < ds.length
    · rw [List.getElem?_append_left (by simpa using hi), List.getElem?_map] at e
      cases ed : ds[i]? with
      | none => rw [ed] at e; cases e
      | some d' =>
        rw [ed] at e; cases e
        obtain ⟨v, e1, e2⟩ := r.get ed
        refine ⟨v, ?_, e2⟩
        unfold L2.start
        rw [List.getElem?_append_left (by simp; omega), List.getElem?_map, e1]
        rfl
    · rw [List.getElem?_append_right (by simpa using hi), List.getElem?_replicate] at e
      split at e <;> cases e
  · exfalso
    by_cases hi : i < ds.length
    · rw [List.getElem?_append_left (by simpa using hi), List.getElem?_map] at e
      cases ed : ds[i]? with
      | none => rw [ed] at e; cases e
      | some d' => rw [ed] at e; cases e
    · rw [List.getElem?_append_right (by simpa using hi), List.getElem?_replicate] at e
      split at e <;> cases e
  · exfalso
    by_cases hi : i < ds.length
    · rw [List.getElem?_append_left (by simpa using hi), List.getElem?_map] at e
      cases ed : ds[i]? with
      | none => rw [ed] at e; cases e
      | some d' => rw [ed] at e; cases e
    · rw [List.getElem?_append_right (by simpa using hi), List.getElem?_replicate] at e
      split at e <;> cases e
/-- THE RULE for a def -/
theorem fn_sv {P : Program} {w : World} {K : PySem.W.Frag} {mg : Str → Option Value} {base : Heap} {k : Nat} {f : Addr} {fd : FuncData} {x qual : Str} {st : Stmt} {N ps : List Str} {fn : Nat → Option V} {n : Nat} (F : Fun K x qual st f fd) (S : FnScope N ps (defScope st)) (hn : ps.length = n) (s : SS)
    (hb : ∀ (cdv : Value) (A : Around) (outer : List Env) (s0 : Shared) (H : Hp) (E : XK), Room k (A.deeper (envOfC qual (defScope st) s0.heap.objs.size f cdv)) →
      PSsx fn (cxOf CX0 P w K mg base N qual (defScope st) f cdv A outer s0 H E).nox (defBody st) s) : FnOk P w K mg base CX0 (k + 1) f fd ps (spD ⟨P, w, K, fn⟩ n (runF N.length s)) := by
  refine F.ok S (fun vs H Q E h => (spD_len vs H Q E h).trans hn.symm) fun cdv A outer s0 H vs Q E hr ⟨bo, F, b, W, ds, d, b', r, hl, e, q⟩ => ⟨_, hb cdv A outer s0 H E hr, ?_⟩
  have R : Rel ⟨P, w, K, fn⟩ H F bo (L2.start N vs) (ds.map Sl.frz ++ List.replicate (N.length - ds.length) Sl.emp) F H b := rel_start W r
  unfold runF at e
  split at e
  · rename_i d' ρ1 b1 e1
    cases e
    exact ⟨H, F, bo, _, F, b, R, _, _, _, e1, fun v F' H' c r => q v F' H' ⟨c.keep, c.free, c.sub, c.new, c.dom⟩ c.box r⟩
  · rename_i ρ1 b1 e1
    cases e
    exact ⟨H, F, bo, _, F, b, R, _, _, _, e1, fun σ' F' H' R' _ => q .non F' H' ⟨R'.core.keep, R'.core.free, R'.core.sub, R'.core.new, R'.core.dom⟩ R'.core.box (by simp [Rp])⟩
  · cases e

/-! ### calls -/
/-- a def that may be called by its name -/
structure Cal (P : Program) (w : World) (K : PySem.W.Frag) (mg : Str → Option Value) (base : Heap) (A : Around) (fn : Nat → Option V) (x : Str) (n : Nat) (Fs : Fn) : Prop where
  ex : ∃ (k : Nat) (f : Addr) (fd : FuncData) (ps : List Str), FnOk P w K mg base CX0 k f fd ps (spD ⟨P, w, K, fn⟩ n Fs) ∧ Room k A ∧ mg x = some (.ref f) ∧ PySem.W.keepIn K (.ref f) = true ∧ Binds K fd ps []
/-- a def of the text -/
structure Df (K : PySem.W.Frag) (mg : Str → Option Value) (x : Str) (st : Stmt) (ps : List Str) (f : Addr) (fd : FuncData) : Prop where
  fu : L2.Fun K x x st f fd
  mg : mg x = some (.ref f)
  bi : Binds K fd ps []
theorem Df.cal {P : Program} {w : World} {K : PySem.W.Frag} {mg : Str → Option Value} {base : Heap} {A : Around} {fn : Nat → Option V} {x : Str} {n : Nat} {Fs : Fn} {st : Stmt} {ps : List Str} {f : Addr} {fd : FuncData} {k j : Nat} (d : Df K mg x st ps f fd)
    (F : FnOk P w K mg base CX0 k f fd ps (spD ⟨P, w, K, fn⟩ n Fs)) (hr : Room j A) (h : k ≤ j := by omega) : Cal P w K mg base A fn x n Fs := ⟨k, f, fd, ps, F, hr.mono h, d.mg, d.fu.kp, d.bi⟩
section
variable {fn : Nat → Option V} {X : Cx} {e : Expr} {es : List Expr} {x : Str} {p pos : Pos} {n : Nat} {Fs : Fn} {ag : As}
theorem call_o {m : Pm} {σ : St} {H : Hp} {Q : VK} (hl : ∀ ρ b ds b', ag ρ b = some (ds, b') → ds.length = n) (h : tEx m (eCall Fs ag) σ H Q) : tCall (spD m n Fs) [] E0 (tAs m ag) σ H Q := by
  obtain ⟨H0, F0, bo, ρ, F, b, R, d, b', e, q⟩ := h
  unfold eCall at e
  split at e
  · rename_i ds b1 e1
    refine ⟨H0, F0, bo, ρ, F, b, R, ds, b1, e1, fun vs F1 H1 g1 hb1 r1 => ?_⟩
    show spD m n Fs (vs ++ []) H1 Q E0
    rw [List.append_nil]
    exact ⟨bo, F1, b1, ⟨hb1, g1.dom⟩, ds, d, b', r1, hl _ _ _ _ e1, e, fun v F' H' g hb r => q v F' H' (g1.trans g) hb r⟩
  · cases e
theorem px_call (c : Cal X.prog X.w X.K X.mg X.base X.A fn x n Fs) (hg : Gl X x) (ha : PAs fn X (e :: es) ag) (hn : (e :: es).length = n := by rfl) (hdb : (x == ("__debug__" : Str)) = false := by decide) (he : starEach (e :: es) X.env = (false, eval e X.env) :: starEach es X.env := by rfl) (hpl : (backTo pos (starEach es X.env)).any (·.1) = false := by rfl) :
    PEx fn X (.Call (.Name x p) (e :: es) [] pos) (eCall Fs ag) := by
  obtain ⟨k, f, fd, ps, F, hr, hm, hk, hb⟩ := c.ex
  exact PE.imp (pe_call F hr hg hm hk hb .nil pass0 ha.pa hdb he hpl) fun _ _ _ h => call_o (fun ρ b ds b' e => (ha.len ρ b ds b' e).trans hn) h
theorem px_call0 (c : Cal X.prog X.w X.K X.mg X.base X.A fn x 0 Fs) (hg : Gl X x) (hdb : (x == ("__debug__" : Str)) = false := by decide) : PEx fn X (.Call (.Name x p) [] [] pos) (eCall Fs aNil) := by
  obtain ⟨k, f, fd, ps, F, hr, hm, hk, hb⟩ := c.ex
  refine PE.imp (pe_call0 F hr hg hm hk hb .nil pass0 hdb) fun σ H Q h => ?_
  obtain ⟨H0, F0, bo, ρ, F, b, R, d, b', e, q⟩ := h
  exact ⟨bo, F, b, R.wo, [], d, b', RpL.nil, rfl, e, fun v F' H' g hb r => q v F' H' g hb r⟩
/-- .. things of one's own lent -/
theorem lend {m : Pm} {bo : Bo} {H : Hp} {b : Bx} : ∀ {ds : List D} {vs : List V} {F : Addr → Prop}, ds.all D.nodct = true → Wo bo F H b → RpOL m bo F H ds vs → ∃ F2 : Addr → Prop, (∀ a, F a → F2 a) ∧ Wo bo F2 H b ∧ RpL m bo F2 H ds vs
  | [], vs, F, _, W, h => ⟨F, fun _ h => h, W, by simpa [RpL, RpOL] using h⟩
  | d :: ds, vs, F, hnd, W, h => by
    rw [List.all_cons, Bool.and_eq_true] at hnd
    simp only [RpOL] at h
    obtain ⟨v, r, rfl, h1, h2⟩ := h
    have key : ∀ F1 : Addr → Prop, (∀ a, F a → F1 a) → FK F H F1 H → Wo bo F1 H b → Rp m bo F1 H d v → ∃ F2 : Addr → Prop, (∀ a, F a → F2 a) ∧ Wo bo F2 H b ∧ RpL m bo F2 H (d :: ds) (v :: r) := fun F1 hs k W1 r1 => by
      -- the others too
      have h2' : RpOL m bo F1 H ds r := by
        clear h1
        have : ∀ {ds : List D} {r : List V}, ds.all D.nodct = true → RpOL m bo F H ds r → RpOL m bo F1 H ds r := by
          intro ds
          induction ds with
          | nil => intro r _ h; exact h
          | cons d ds ih =>
            intro r hn h
            rw [List.all_cons, Bool.and_eq_true] at hn
            simp only [RpOL] at h ⊢
            obtain ⟨v, r, rfl, q1, q2⟩ := h
            refine ⟨v, r, rfl, ?_, ih hn.2 q2⟩
            rcases q1 with q1 | ⟨a, rfl, nb, nf, ow⟩
            · exact .inl (q1.fk k)
            · by_cases hf : F1 a
              · refine .inl ?_
                have ow' := ow.fk (F' := F1) k rfl
                cases d with
                | lst xs => obtain ⟨us, s, z, r⟩ := ow'; simp only [Rp]; exact ⟨a, us, rfl, hf, s, z, r⟩
                | dct kvs => exact absurd hn.1 (by simp [D.nodct])
                | _ => exact (show False from ow').elim
              · exact .inr ⟨a, rfl, nb, hf, ow.fk k rfl⟩
        exact this hnd.2 h2
      obtain ⟨F2, s2, W2, r2⟩ := lend (F := F1) hnd.2 W1 h2'
      have k2 : FK F1 H F2 H := ⟨s2, fun _ _ => rfl, fun _ _ h _ => h⟩
      exact ⟨F2, fun a h => s2 a (hs a h), W2, RpL.cons (r1.fk k2) r2⟩
    rcases h1 with h1 | ⟨a, rfl, nb, nf, ow⟩
    · exact key F (fun _ h => h) (FK.refl _ _) W h1
    · obtain ⟨k, hb, dm, r1⟩ := freeze W nb hnd.1 ow
      exact key _ (fun _ h => .inl h) k ⟨hb, dm⟩ r1
theorem callO_o {m : Pm} {σ : St} {H : Hp} {Q : VK} (hl : ∀ ρ b ds b', ag ρ b = some (ds, b') → ds.length = n) (h : tEx m (eCallO Fs ag) σ H Q) : tCall (spD m n Fs) [] E0 (tAo m ag) σ H Q := by
  obtain ⟨H0, F0, bo, ρ, F, b, R, d, b', e, q⟩ := h
  unfold eCallO at e
  split at e
  · rename_i ds b1 e1
    split at e
    rotate_left
    · cases e
    rename_i hnd
    split at e
    · rename_i d2 b2 e2
      split at e
      · rename_i hfl
        cases e
        refine ⟨H0, F0, bo, ρ, F, b, R, ds, b1, e1, fun vs F1 H1 g1 hb1 r1 => ?_⟩
        show spD m n Fs (vs ++ []) H1 Q E0
        rw [List.append_nil]
        have R1 := R.grow g1 hb1
        obtain ⟨F2, s2, W2, r2⟩ := lend hnd R1.wo r1
        refine ⟨bo, F2, b1, W2, ds, d, _, r2, hl _ _ _ _ e1, e2, fun v F' H' g hb r => ?_⟩
        have g2 : Grow bo F1 H1 F1 H' := ⟨g.keep, g.free, fun _ h => h, fun _ h => .inl h, fun a f => g.dom a (g.sub a (s2 a f))⟩
        refine q v F1 H' (g1.trans g2) ?_ (Rp.flat d v hfl r)
        cases bo with
        | none => trivial
        | some pq =>
          obtain ⟨p, q'⟩ := pq
          obtain ⟨a1, a2, a3, a4, a5⟩ := hb
          exact ⟨a1, fun z => a2 (g.sub _ (s2 _ z)), fun z => a3 (g.sub _ (s2 _ z)), a4, a5⟩
      · cases e
    · cases e
  · cases e
theorem px_callO (c : Cal X.prog X.w X.K X.mg X.base X.A fn x n Fs) (hg : Gl X x) (ha : PAo fn X (e :: es) ag) (hn : (e :: es).length = n := by rfl) (hdb : (x == ("__debug__" : Str)) = false := by decide) (he : starEach (e :: es) X.env = (false, eval e X.env) :: starEach es X.env := by rfl) (hpl : (backTo pos (starEach es X.env)).any (·.1) = false := by rfl) :
    PEx fn X (.Call (.Name x p) (e :: es) [] pos) (eCallO Fs ag) := by
  obtain ⟨k, f, fd, ps, F, hr, hm, hk, hb⟩ := c.ex
  exact PE.imp (pe_call F hr hg hm hk hb .nil pass0 ha.pa hdb he hpl) fun _ _ _ h => callO_o (fun ρ b ds b' e => (ha.len ρ b ds b' e).trans hn) h
end
end Sv

set_option maxHeartbeats 4000000
/-! Sv12: the law's random source. -/
namespace Sv
open PySem L2
open PyProof.Rows (envOfC)

def restB (b : Bx) : Int × Bx :=
  let first := (b.y * 48271 + 17).fmod 2147483629
  let second := (first * 69621 + 5).fmod 2147483587
  let y := (second * 40692 + 3).fmod 2147483563
  (first * 4611686014132420609 + second * 2147483647 + y, ⟨b.cs, b.x, y⟩)
def sizeB (c : Int) : Int := if 0 ≤ c then 2 * c else -2 * c - 1
def loadB (b : Bx) : Int × Bx := match b.cs with
  | c :: cs => if 1000000000000000000 ≤ sizeB c then (sizeB c, ⟨cs, b.x, b.y⟩) else restB ⟨cs, b.x, (b.y * 69621 + sizeB c * 48271 + 11).fmod 2147483647⟩
  | [] => restB b
def fillB (b : Bx) (many : Int) : Bx := if b.x < many then ⟨(loadB b).2.cs, (loadB b).1, (loadB b).2.y⟩ else b
def drawB (b : Bx) (many : Int) : Int × Bx := ((fillB b many).x.fmod many, ⟨(fillB b many).cs, (fillB b many).x.fdiv many, (fillB b many).y⟩)
/-- _law_draw -/
def drawF : Fn := fun ds b => match ds with
  | [.tok 0, .int many] => if many ≠ 0 ∧ many.natAbs < 2 ^ 30 then some (.int (drawB b many).1, (drawB b many).2) else none
  | _ => none
/-- the source stands at p, its cells at q -/
def BSt (p q : Addr) (b : Bx) (H : Hp) : Prop := p ≠ q ∧ H p = some (.lst [.ref q, .int b.x, .int b.y]) ∧ H q = some (.lst (b.cs.map .int))
def Off (p q : Addr) (H H' : Hp) : Prop := ∀ a, a ≠ p → a ≠ q → H' a = H a
theorem Off.refl {p q : Addr} {H : Hp} : Off p q H H := fun _ _ _ => rfl
theorem Off.trans {p q : Addr} {H H1 H2 : Hp} (a : Off p q H H1) (b : Off p q H1 H2) : Off p q H H2 := fun c h1 h2 => (b c h1 h2).trans (a c h1 h2)
theorem Off.updp {p q : Addr} {H : Hp} {o : HO} : Off p q H (upd H p o) := fun _ h _ => upd_ne h
theorem Off.updq {p q : Addr} {H : Hp} {o : HO} : Off p q H (upd H q o) := fun _ _ h => upd_ne h
def spBox (K : PySem.W.Frag) : Sp := fun vs H Q _ => ∃ (a : Addr) (ns : List Int), vs = [.ref a] ∧ SqL K H a (ns.map V.int) ∧ ns.length ≤ 63 ∧ ∀ p q H', BSt p q ⟨ns, 0, 4711 + ns.length⟩ H' → Q (.ref p) H'
def spLoad : Sp := fun vs H Q _ => ∃ p q b, vs = [.ref p] ∧ BSt p q b H ∧ ∀ H', Off p q H H' → BSt p q (loadB b).2 H' → Q (.int (loadB b).1) H'
def spDraw : Sp := fun vs H Q _ => ∃ p q b many, vs = [.ref p, .int many] ∧ many ≠ 0 ∧ many.natAbs < 2 ^ 30 ∧ BSt p q b H ∧ ∀ H', Off p q H H' → BSt p q (drawB b many).2 H' → Q (.int (drawB b many).1) H'
theorem draw_imp {m : Pm} (vs : List V) (H : Hp) (Q : VK) (E : XK) (h : spD m 2 drawF vs H Q E) : spDraw vs H Q E := by
  obtain ⟨bo, F, b, W, ds, d, b', r, hl, e, k⟩ := h
  unfold drawF at e
  split at e
  · rename_i many
    split at e
    · rename_i hm
      cases e
      simp only [RpL, Rp, Tk] at r
      obtain ⟨_, _, rfl, ⟨p, q, hbo, rfl⟩, _, _, rfl, rfl, rfl⟩ := r
      subst hbo
      obtain ⟨b1, b2, b3, b4, b5⟩ := W.box
      refine ⟨p, q, b, many, rfl, hm.1, hm.2, ⟨b1, b4, b5⟩, fun H' o s => k _ F H' ⟨fun a u e n => ?_, fun a e => ?_, fun _ h => h, fun _ h => .inl h, fun a f => ?_⟩ ⟨b1, b2, b3, s.2.1, s.2.2⟩ (by simp [Rp])⟩
      · rw [o a (fun z => n (.inl z)) (fun z => n (.inr z))]; exact e
      · by_cases h1 : a = p
        · subst h1; rw [s.2.1] at e; cases e
        · by_cases h2 : a = q
          · subst h2; rw [s.2.2] at e; cases e
          · rw [o a h1 h2] at e; exact e
      · rw [o a (fun z => b2 (z ▸ f)) (fun z => b3 (z ▸ f))]; exact W.dom a f
    · cases e
  · cases e
/-- the entry of a law behind its first row -/
theorem rel_law {m : Pm} {σ : St} {p q : Addr} {H : Hp} {b : Bx} {n : Nat} (s : BSt p q b H) (hl : σ.length = n + 2) (h1 : σ[1]? = some (some (V.ref p))) :
    Rel m H (fun _ => False) (some (p, q)) σ (Sl.emp :: Sl.frz (.tok 0) :: List.replicate n Sl.emp) (fun _ => False) H b := by
  refine ⟨⟨⟨s.1, fun h => h, fun h => h, s.2.1, s.2.2⟩, fun a o e _ => e, fun a e => e, fun _ h => h, fun _ h => .inl h, fun _ h => h.elim⟩, by simp [hl], fun i d e => ?_, fun i d e => ?_, fun i j di dj a _ e => ?_⟩
  · match i, e with
    | 1, e => cases e; exact ⟨_, h1, by simp only [Rp, Tk]; exact ⟨p, q, rfl, rfl⟩⟩
    | i + 2, e =>
      exfalso
      simp only [List.getElem?_cons_succ, List.getElem?_replicate] at e
      split at e <;> cases e
  · exfalso
    match i, e with
    | i + 2, e =>
      simp only [List.getElem?_cons_succ, List.getElem?_replicate] at e
      split at e <;> cases e
  · exfalso
    match i, e with
    | i + 2, e =>
      simp only [List.getElem?_cons_succ, List.getElem?_replicate] at e
      split at e <;> cases e
end Sv

set_option maxHeartbeats 4000000
/-! Sv13: the rules in short, for printed derivations. -/
namespace Sv
open PySem L2

theorem rangeD_rg {i j : Int} {xs : List D} (h : rangeD i j = some xs) : RgOk i j ∧ ∀ (m : Pm) (bo : Bo) (F : Addr → Prop) (H : Hp), RpL m bo F H xs (rgV i j) ∧ (rgV i j).length ≤ sizeLine := by
  unfold rangeD at h
  split at h
  · rename_i hc
    cases h
    refine ⟨⟨hc.2.1, hc.2.2.1, hc.2.2.2.1, hc.2.2.2.2, by omega⟩, fun m bo F H => ⟨?_, ?_⟩⟩
    · unfold rgV
      have : ∀ l : List Nat, RpL m bo F H (l.map fun k => D.int (i + (k : Nat))) (l.map fun k => V.int (i + (k : Nat))) := by
        intro l
        induction l with
        | nil => exact RpL.nil
        | cons k l ih => exact RpL.cons (by simp [Rp]) ih
      exact this _
    · rw [rgV_length, sizeLine_eq]; omega
  · cases h
section
variable {fn : Nat → Option V} {X : Cx} {a c e e' : Expr} {es rest : List Expr} {pos p p' p2 : Pos} {f g h : Ex} {t u : Tx} {ag : As} {x : Str} {i : Nat}
theorem pn_lr1 (hm : X.mg "list" = none) (hm2 : X.mg "range" = none) (he : PEx fn X e f) (hc : X.calm = true := by rfl) (hg : Gl X "list" := by rfl) (hg2 : Gl X "range" := by rfl) (na : starEach [e] X.env = (false, eval e X.env) :: starEach [] X.env := by rfl)
    (nb : starEach [.Call (.Name "range" p2) [e] [] p'] X.env = (false, eval (.Call (.Name "range" p2) [e] [] p') X.env) :: starEach [] X.env := by rfl) : PEn fn X (.Call (.Name "list" p) [.Call (.Name "range" p2) [e] [] p'] [] pos) (eFn rlD (aCons f aNil)) :=
  PE.imp (pe_listRg hc hg hm (prg_1 hg2 hm2 he na) nb) fun σ H Q ⟨H0, F0, bo, ρ, F, b, R, d, b', e, q⟩ => by
    unfold eFn aCons at e
    split at e
    · rename_i ds b1 e1
      split at e1
      · rename_i d1 b2 e2
        cases e1
        split at e
        · rename_i r er
          cases e
          unfold rlD at er
          split at er
          · rename_i j hj
            cases hj
            cases hx : rangeD 0 j with
            | none => rw [hx] at er; cases er
            | some xs =>
              rw [hx] at er; cases er
              obtain ⟨h1, h2⟩ := rangeD_rg hx
              refine ⟨H0, F0, bo, ρ, F, b, R, _, _, e2, fun v F' H' g hb r => ⟨j, by simpa [Rp] using r, h1, fun q' hq' => ?_⟩⟩
              obtain ⟨g2, hb2, nf, ow⟩ := new_own (m := pm X fn) (R.grow g hb).wo hq' (h2 (pm X fn) bo F' H').1 (h2 (pm X fn) bo F' H').2
              exact q q' F' _ (g.trans g2) hb2 (g.free q' hq') nf ow
          · rename_i h0; cases h0
          · cases er
        · cases e
      · cases e1
    · cases e
theorem px_tr1 (hm : X.mg "tuple" = none) (hm2 : X.mg "range" = none) (he : PEx fn X e f) (hc : X.calm = true := by rfl) (hg : Gl X "tuple" := by rfl) (hg2 : Gl X "range" := by rfl) (na : starEach [e] X.env = (false, eval e X.env) :: starEach [] X.env := by rfl)
    (nb : starEach [.Call (.Name "range" p2) [e] [] p'] X.env = (false, eval (.Call (.Name "range" p2) [e] [] p') X.env) :: starEach [] X.env := by rfl) : PEx fn X (.Call (.Name "tuple" p) [.Call (.Name "range" p2) [e] [] p'] [] pos) (eFn rtD (aCons f aNil)) :=
  PE.imp (pe_tupRg hc hg hm (prg_1 hg2 hm2 he na) nb) fun σ H Q ⟨H0, F0, bo, ρ, F, b, R, d, b', e, q⟩ => by
    unfold eFn aCons at e
    split at e
    · rename_i ds b1 e1
      split at e1
      · rename_i d1 b2 e2
        cases e1
        split at e
        · rename_i r er
          cases e
          unfold rtD at er
          split at er
          · rename_i j hj
            cases hj
            cases hx : rangeD 0 j with
            | none => rw [hx] at er; cases er
            | some xs =>
              rw [hx] at er; cases er
              obtain ⟨h1, h2⟩ := rangeD_rg hx
              refine ⟨H0, F0, bo, ρ, F, b, R, _, _, e2, fun v F' H' g hb r => ⟨j, by simpa [Rp] using r, h1, fun q' hq' => ?_⟩⟩
              obtain ⟨g2, hb2, r2⟩ := new_tup (m := pm X fn) (R.grow g hb).wo hq' (h2 (pm X fn) bo F' H').1 (h2 (pm X fn) bo F' H').2
              exact q _ F' _ (g.trans g2) hb2 r2
          · rename_i h0; cases h0
          · cases er
        · cases e
      · cases e1
    · cases e
theorem pn_lr2 (hm : X.mg "list" = none) (hm2 : X.mg "range" = none) (he : PEx fn X e f) (he' : PEx fn X e' g) (hc : X.calm = true := by rfl) (hg : Gl X "list" := by rfl) (hg2 : Gl X "range" := by rfl) (na : starEach [e, e'] X.env = (false, eval e X.env) :: starEach [e'] X.env := by rfl)
    (na2 : starEach [e'] X.env = (false, eval e' X.env) :: starEach [] X.env := by rfl) (hp : (backTo p' (starEach [e'] X.env)).any (·.1) = false := by rfl)
    (nb : starEach [.Call (.Name "range" p2) [e, e'] [] p'] X.env = (false, eval (.Call (.Name "range" p2) [e, e'] [] p') X.env) :: starEach [] X.env := by rfl) : PEn fn X (.Call (.Name "list" p) [.Call (.Name "range" p2) [e, e'] [] p'] [] pos) (eFn rlD (aCons f (aCons g aNil))) :=
  PE.imp (pe_listRg hc hg hm (prg_2 hg2 hm2 he he' na na2 hp) nb) fun σ H Q ⟨H0, F0, bo, ρ, F, b, R, d, b', e, q⟩ => by
    unfold eFn aCons at e
    split at e
    · rename_i ds b1 e1
      split at e1
      · rename_i d1 b2 e2
        split at e1
        · rename_i d2 b3 e3
          split at e3
          · rename_i d4 b4 e4
            cases e3
            cases e1
            split at e
            · rename_i r er
              cases e
              unfold rlD at er
              split at er
              · rename_i h0; cases h0
              · rename_i i j hj
                cases hj
                cases hx : rangeD i j with
                | none => rw [hx] at er; cases er
                | some xs =>
                  rw [hx] at er; cases er
                  obtain ⟨h1, h2⟩ := rangeD_rg hx
                  refine ⟨H0, F0, bo, ρ, F, b, R, _, _, e2, fun v F' H' g hb r => ⟨H0, F0, bo, ρ, F', _, R.grow g hb, _, _, e4, fun v2 F2 H2 g2 hb2 r2 => ⟨i, j, by simpa [Rp] using r, by simpa [Rp] using r2, h1, fun q' hq' => ?_⟩⟩⟩
                  obtain ⟨g3, hb3, nf, ow⟩ := new_own (m := pm X fn) ((R.grow g hb).grow g2 hb2).wo hq' (h2 (pm X fn) bo F2 H2).1 (h2 (pm X fn) bo F2 H2).2
                  exact q q' F2 _ ((g.trans g2).trans g3) hb3 ((g.trans g2).free q' hq') nf ow
              · cases er
            · cases e
          · cases e3
        · cases e1
      · cases e1
    · cases e

/-! ### names -/
theorem vx (i : Nat) (hN : X.N[i]? = some x := by rfl) (hv : Vis X.env.scope x := by first | exact Or.inl rfl | exact Or.inr (Or.inl rfl) | exact Or.inr (Or.inr rfl)) (hd : (x == ("__debug__" : Str)) = false := by decide)
    (hcd : (x == ("__classdict__" : Str)) = false := by decide) : PEx fn X (.Name x p) (eVar i) := px_var (pe_var hN hv hd hcd)
theorem vo (i : Nat) (hN : X.N[i]? = some x := by rfl) (hv : Vis X.env.scope x := by first | exact Or.inl rfl | exact Or.inr (Or.inl rfl) | exact Or.inr (Or.inr rfl)) (hd : (x == ("__debug__" : Str)) = false := by decide)
    (hcd : (x == ("__classdict__" : Str)) = false := by decide) : PEo fn X (.Name x p) (eBor i) := po_bor (pe_var hN hv hd hcd)
/-! ### built-ins by name -/
theorem b_len (hm : X.mg "len" = none) (ha : PEo fn X e f) (hg : Gl X "len" := by rfl) (he : starEach [e] X.env = (false, eval e X.env) :: starEach [] X.env := by rfl) : PEx fn X (.Call (.Name "len" p) [e] [] pos) (eFn lenD (aCons f aNil)) :=
  px_fn d_len hg hm (by decide +kernel) (pao_cons ha pao_nil he) (by decide) (by decide) he rfl
theorem b_any (hm : X.mg "any" = none) (ha : PEo fn X e f) (hg : Gl X "any" := by rfl) (hc : X.calm = true := by rfl) (he : starEach [e] X.env = (false, eval e X.env) :: starEach [] X.env := by rfl) : PEx fn X (.Call (.Name "any" p) [e] [] pos) (eFn anyD (aCons f aNil)) :=
  px_fn (d_any hc) hg hm (by decide +kernel) (pao_cons ha pao_nil he) (by decide) (by decide) he rfl
theorem b_all (hm : X.mg "all" = none) (ha : PEo fn X e f) (hg : Gl X "all" := by rfl) (hc : X.calm = true := by rfl) (he : starEach [e] X.env = (false, eval e X.env) :: starEach [] X.env := by rfl) : PEx fn X (.Call (.Name "all" p) [e] [] pos) (eFn allD (aCons f aNil)) :=
  px_fn (d_all hc) hg hm (by decide +kernel) (pao_cons ha pao_nil he) (by decide) (by decide) he rfl
theorem b_sum (hm : X.mg "sum" = none) (ha : PEo fn X e f) (hg : Gl X "sum" := by rfl) (hc : X.calm = true := by rfl) (he : starEach [e] X.env = (false, eval e X.env) :: starEach [] X.env := by rfl) : PEx fn X (.Call (.Name "sum" p) [e] [] pos) (eFn sumD (aCons f aNil)) :=
  px_fn (d_sum hc) hg hm (by decide +kernel) (pao_cons ha pao_nil he) (by decide) (by decide) he rfl
theorem b_abs (hm : X.mg "abs" = none) (ha : PEo fn X e f) (hg : Gl X "abs" := by rfl) (he : starEach [e] X.env = (false, eval e X.env) :: starEach [] X.env := by rfl) : PEx fn X (.Call (.Name "abs" p) [e] [] pos) (eFn absD (aCons f aNil)) :=
  px_fn d_abs hg hm (by decide +kernel) (pao_cons ha pao_nil he) (by decide) (by decide) he rfl
theorem b_max2 (hm : X.mg "max" = none) (ha : PEo fn X e f) (hb : PEo fn X e' g) (hg : Gl X "max" := by rfl) (hc : X.calm = true := by rfl) (he : starEach [e, e'] X.env = (false, eval e X.env) :: starEach [e'] X.env := by rfl) (he2 : starEach [e'] X.env = (false, eval e' X.env) :: starEach [] X.env := by rfl) (hpl : (backTo pos (starEach [e'] X.env)).any (·.1) = false := by rfl) :
    PEx fn X (.Call (.Name "max" p) [e, e'] [] pos) (eFn max2D (aCons f (aCons g aNil))) := px_fn (d_max2 hc) hg hm (by decide +kernel) (pao_cons ha (pao_cons hb pao_nil he2) he) (by decide) (by decide) he hpl
theorem b_min2 (hm : X.mg "min" = none) (ha : PEo fn X e f) (hb : PEo fn X e' g) (hg : Gl X "min" := by rfl) (hc : X.calm = true := by rfl) (he : starEach [e, e'] X.env = (false, eval e X.env) :: starEach [e'] X.env := by rfl) (he2 : starEach [e'] X.env = (false, eval e' X.env) :: starEach [] X.env := by rfl) (hpl : (backTo pos (starEach [e'] X.env)).any (·.1) = false := by rfl) :
    PEx fn X (.Call (.Name "min" p) [e, e'] [] pos) (eFn min2D (aCons f (aCons g aNil))) := px_fn (d_min2 hc) hg hm (by decide +kernel) (pao_cons ha (pao_cons hb pao_nil he2) he) (by decide) (by decide) he hpl
theorem b_int (hm : X.mg "int" = none) (ha : PEo fn X e f) (hg : Gl X "int" := by rfl) (he : starEach [e] X.env = (false, eval e X.env) :: starEach [] X.env := by rfl) : PEx fn X (.Call (.Name "int" p) [e] [] pos) (eFn intD (aCons f aNil)) :=
  px_ty d_int hg hm (by decide +kernel) (pao_cons ha pao_nil he) (by decide) (by decide) he rfl
theorem b_str (hm : X.mg "str" = none) (ha : PEo fn X e f) (hg : Gl X "str" := by rfl) (he : starEach [e] X.env = (false, eval e X.env) :: starEach [] X.env := by rfl) : PEx fn X (.Call (.Name "str" p) [e] [] pos) (eFn strD (aCons f aNil)) :=
  px_ty d_str hg hm (by decide +kernel) (pao_cons ha pao_nil he) (by decide) (by decide) he rfl
theorem b_tuple (hm : X.mg "tuple" = none) (ha : PEo fn X e f) (hg : Gl X "tuple" := by rfl) (he : starEach [e] X.env = (false, eval e X.env) :: starEach [] X.env := by rfl) : PEx fn X (.Call (.Name "tuple" p) [e] [] pos) (eFn tupleD (aCons f aNil)) :=
  px_ty d_tuple hg hm (by decide +kernel) (pao_cons ha pao_nil he) (by decide) (by decide) he rfl
theorem b_list (hm : X.mg "list" = none) (ha : PEo fn X e f) (hc : X.calm = true := by rfl) (hg : Gl X "list" := by rfl) (he : starEach [e] X.env = (false, eval e X.env) :: starEach [] X.env := by rfl) : PEn fn X (.Call (.Name "list" p) [e] [] pos) (eFn listD (aCons f aNil)) :=
  pn_ty (d_list hc) hg hm (by decide +kernel) (pao_cons ha pao_nil he) (by decide) (by decide) he rfl
theorem b_sorted (hm : X.mg "sorted" = none) (hu : X.A.units + 64 < cLine) (ha : PEo fn X e f) (hc : X.calm = true := by rfl) (hg : Gl X "sorted" := by rfl) (he : starEach [e] X.env = (false, eval e X.env) :: starEach [] X.env := by rfl) : PEn fn X (.Call (.Name "sorted" p) [e] [] pos) (eFn sortedD (aCons f aNil)) :=
  pn_fn (d_sorted hc hu) hg hm (by decide +kernel) (pao_cons ha pao_nil he) (by decide) (by decide) he rfl
end
/-- a global constant -/
theorem px_gc {X : Cx} {x : Str} {pos : Pos} {v : V} (hg : Gl X x) (h : ∃ u, X.mg x = some u ∧ RelV v u) (hd : (x == ("__debug__" : Str)) = false := by decide) : PE X (.Name x pos) (tC v) := by
  obtain ⟨u, h1, h2⟩ := h
  exact pe_glob hg h1 h2 hd
/-- no exception goes out -/
theorem tk0 {X : Cx} : Takes X fun _ _ _ _ => False := fun u s' ⟨a, B, sI, pins, σ, H, cls, d, e, I, nb, up, sky, na, os, ag, w⟩ => w.elim
/-- the law's own promise -/
def spLaw (K : PySem.W.Frag) : Sp := fun vs H Q _ => ∃ (a : Addr) (ns : List Int), vs = [.ref a] ∧ SqL K H a (ns.map V.int) ∧ ns.length ≤ 63 ∧ ∀ H', Q (.bl true) H'
theorem hu64 {A : Around} {k : Nat} (hr : Room k A) : A.units + 64 < cLine := by have := hr.un; omega
theorem hu65 {A : Around} {k : Nat} (hr : Room k A) : A.units + 65 < cLine := by have := hr.un; omega
end Sv

set_option maxHeartbeats 4000000
/-! Sv14: two fors in a comprehension, max and min of numbers, upper. -/
namespace Sv
open PySem L2

/-! ### max, min of a list of numbers -/
/-- the first of the least, the greatest -/
def bestL (mx : Bool) (x : D) (xs : List D) : D := xs.foldl (fun a y => if (if mx = true then PySem.W.dataLt a.py y.py else PySem.W.dataLt y.py a.py) = true then y else a) x
def bestOf (mx : Bool) (xs : List D) : Option D := match intsD xs with
  | some (n :: ns) => some (.int (if mx = true then maxI (n :: ns) else minI (n :: ns)))
  | _ => match xs with
    | x :: r => if sortOk (x :: r) = true then some (bestL mx x r) else none
    | [] => none
def maxLD : List D → Option D
  | [.lst xs] => bestOf true xs
  | [.tup xs] => bestOf true xs
  | _ => none
def minLD : List D → Option D
  | [.lst xs] => bestOf false xs
  | [.tup xs] => bestOf false xs
  | _ => none
theorem foldl_max_spec : ∀ (ns : List Int) (n : Int), (ns.foldl max n = n ∨ ns.foldl max n ∈ ns) ∧ n ≤ ns.foldl max n ∧ ∀ y ∈ ns, y ≤ ns.foldl max n
  | [], n => by simp
  | a :: ns, n => by
    obtain ⟨h1, h2, h3⟩ := foldl_max_spec ns (max n a)
    simp only [List.foldl_cons]
    refine ⟨?_, by omega, fun y hy => ?_⟩
    · rcases h1 with h | h
      · rcases Int.le_total n a with hl | hl
        · rw [Int.max_eq_right hl] at h ⊢; exact .inr (by rw [h]; exact List.mem_cons_self)
        · rw [Int.max_eq_left hl] at h ⊢; exact .inl h
      · exact .inr (List.mem_cons_of_mem _ h)
    · rcases List.mem_cons.mp hy with h | h
      · subst h; omega
      · exact h3 y h
theorem foldl_min_spec : ∀ (ns : List Int) (n : Int), (ns.foldl min n = n ∨ ns.foldl min n ∈ ns) ∧ ns.foldl min n ≤ n ∧ ∀ y ∈ ns, ns.foldl min n ≤ y
  | [], n => by simp
  | a :: ns, n => by
    obtain ⟨h1, h2, h3⟩ := foldl_min_spec ns (min n a)
    simp only [List.foldl_cons]
    refine ⟨?_, by omega, fun y hy => ?_⟩
    · rcases h1 with h | h
      · rcases Int.le_total n a with hl | hl
        · rw [Int.min_eq_left hl] at h ⊢; exact .inl h
        · rw [Int.min_eq_right hl] at h ⊢; exact .inr (by rw [h]; exact List.mem_cons_self)
      · exact .inr (List.mem_cons_of_mem _ h)
    · rcases List.mem_cons.mp hy with h | h
      · subst h; omega
      · exact h3 y h
theorem maxI_spec {n : Int} {ns : List Int} : maxI (n :: ns) ∈ n :: ns ∧ ∀ y ∈ n :: ns, y ≤ maxI (n :: ns) := by
  obtain ⟨h1, h2, h3⟩ := foldl_max_spec ns n
  refine ⟨?_, fun y hy => ?_⟩
  · rcases h1 with h | h
    · show ns.foldl max n ∈ _; rw [h]; exact List.mem_cons_self
    · exact List.mem_cons_of_mem _ h
  · rcases List.mem_cons.mp hy with h | h
    · subst h; exact h2
    · exact h3 y h
theorem minI_spec {n : Int} {ns : List Int} : minI (n :: ns) ∈ n :: ns ∧ ∀ y ∈ n :: ns, minI (n :: ns) ≤ y := by
  obtain ⟨h1, h2, h3⟩ := foldl_min_spec ns n
  refine ⟨?_, fun y hy => ?_⟩
  · rcases h1 with h | h
    · show ns.foldl min n ∈ _; rw [h]; exact List.mem_cons_self
    · exact List.mem_cons_of_mem _ h
  · rcases List.mem_cons.mp hy with h | h
    · subst h; exact h2
    · exact h3 y h
section
variable {fn : Nat → Option V} {X : Cx} {tg e e' : Expr} {f g : Ex} {pos p : Pos}
/-- a list, of any hold -/
theorem RpOL.lst1 {m : Pm} {bo : Bo} {F : Addr → Prop} {H : Hp} {xs : List D} {vs : List V} (h : RpOL m bo F H [.lst xs] vs) : ∃ a us, vs = [.ref a] ∧ H a = some (.lst us) ∧ RpL m bo F H xs us := by
  simp only [RpOL] at h
  obtain ⟨v, _, rfl, h, rfl⟩ := h
  rcases h with h | ⟨a, rfl, _, _, h⟩
  · simp only [Rp] at h
    obtain ⟨a, us, rfl, _, h1, _, h2⟩ := h
    exact ⟨a, us, rfl, h1, h2⟩
  · obtain ⟨us, h1, _, h2⟩ := h
    exact ⟨a, us, rfl, h1, h2⟩
open PySem.W
mutual
theorem py_inj : ∀ a b : D, a.plain = true → b.plain = true → a.py = b.py → a = b
  | .non, b, _, hb, e => by cases b <;> simp_all [D.py, D.plain]
  | .bl _, b, _, hb, e => by cases b <;> simp_all [D.py, D.plain]
  | .int _, b, _, hb, e => by cases b <;> simp_all [D.py, D.plain]
  | .str _, b, _, hb, e => by cases b <;> simp_all [D.py, D.plain]
  | .tup xs, b, ha, hb, e => by
    cases b with
    | tup ys =>
      simp only [D.plain] at ha hb
      simp only [D.py, PyData.tuple.injEq] at e
      rw [pyL_inj xs ys ha hb e]
    | _ => simp_all [D.py, D.plain]
  | .lst xs, b, ha, hb, e => by
    cases b with
    | lst ys =>
      simp only [D.plain] at ha hb
      simp only [D.py, PyData.list.injEq] at e
      rw [pyL_inj xs ys ha hb e]
    | _ => simp_all [D.py, D.plain]
  | .dct _, _, ha, _, _ => by simp [D.plain] at ha
  | .tok _, _, ha, _, _ => by simp [D.plain] at ha
theorem pyL_inj : ∀ a b : List D, D.plainL a = true → D.plainL b = true → D.pyL a = D.pyL b → a = b
  | [], b, _, _, e => by cases b <;> simp_all [D.pyL]
  | x :: xs, b, ha, hb, e => by
    cases b with
    | nil => simp [D.pyL] at e
    | cons y ys =>
      rw [D.plainL, Bool.and_eq_true] at ha hb
      simp only [D.pyL, List.cons.injEq] at e
      rw [py_inj x y ha.1 hb.1 e.1, pyL_inj xs ys ha.2 hb.2 e.2]
end
theorem bestL_mem (mx : Bool) : ∀ (xs : List D) (x : D), bestL mx x xs ∈ x :: xs
  | [], x => by simp [bestL]
  | y :: ys, x => by
    have := bestL_mem mx ys (if (if mx = true then PySem.W.dataLt x.py y.py else PySem.W.dataLt y.py x.py) = true then y else x)
    have e : bestL mx x (y :: ys) = bestL mx (if (if mx = true then PySem.W.dataLt x.py y.py else PySem.W.dataLt y.py x.py) = true then y else x) ys := rfl
    rw [e]
    rcases List.mem_cons.mp this with h | h
    · rw [h]
      by_cases c : (if mx = true then PySem.W.dataLt x.py y.py else PySem.W.dataLt y.py x.py) = true
      · rw [if_pos c]; exact List.mem_cons_of_mem _ List.mem_cons_self
      · rw [if_neg c]; exact List.mem_cons_self
    · exact List.mem_cons_of_mem _ (List.mem_cons_of_mem _ h)
theorem bestL_py (mx : Bool) : ∀ (xs : List D) (x : D), (bestL mx x xs).py = if mx = true then maxD x.py (xs.map D.py) else minD x.py (xs.map D.py)
  | [], x => by cases mx <;> rfl
  | y :: ys, x => by
    have e : bestL mx x (y :: ys) = bestL mx (if (if mx = true then PySem.W.dataLt x.py y.py else PySem.W.dataLt y.py x.py) = true then y else x) ys := rfl
    rw [e, bestL_py mx ys]
    cases mx with
    | true =>
      simp only [if_true, List.map_cons, maxD, List.foldl_cons]
      split <;> rfl
    | false =>
      simp only [Bool.false_eq_true, if_false, List.map_cons, minD, List.foldl_cons]
      split <;> rfl
theorem readsAll_of {h : Heap} : ∀ {us : List Value} {ds : List D}, EachIs (fun v (d : D) => ∃ as, Reads h v d.py as) us ds → ∃ as, ReadsAll h us (ds.map D.py) as
  | _, _, .nil => ⟨_, .nil⟩
  | _, _, .cons ⟨as, r⟩ t => by
    obtain ⟨bs, rs⟩ := readsAll_of t
    exact ⟨_, .cons r rs⟩
theorem best_run {pins : List (Addr × Obj)} {s : Shared} {σ : St} {H : Hp} {Q : VK} {bo : Bo} {F : Addr → Prop} {b : Bx} {x : D} {r : List D} {vs : List V} {p : Addr} {its : List Value} (mx : Bool) (hc : X.calm = true) (hu : X.A.units + 64 < cLine) (I : Inv X pins σ H s) (W : Wo bo F H b)
    (r1 : RpL (pm X fn) bo F H (x :: r) vs) (rv : Vals vs its) (pl : s.heap.IsList p its.toArray ∨ s.heap.IsTuple p its.toArray) (ok : sortOk (x :: r) = true)
    (q : ∀ v, Rp (pm X fn) bo F H (bestL mx x r) v → Q v H) : wpAny (model X.prog X.w) X.A (call (.builtin (if mx = true then "max" else "min")) [.ref p]) (EP X pins σ Q) X.xe s := by
  obtain ⟨sm, al, so⟩ := sortOk_facts ok
  have hlen : its.length = (x :: r).length := by rw [← rv.length]; exact r1.length
  have e0 := each_of_vals rv r1
  have er : EachIs (fun v (d : D) => ∃ as, Reads s.heap v d.py as) its (x :: r) := by
    refine each_of hlen fun i a d ea ed => ?_
    obtain ⟨d', e1, v, rr, rp⟩ := (each_get e0).2 i a ea
    rw [ed] at e1; cases e1
    exact RpO.reads (fn := fn) I (.inl rp) (sm d (List.mem_of_getElem? ed)) rr
  obtain ⟨as, ra⟩ := readsAll_of er
  rw [List.map_cons] at ra
  have ha : AlikeAll (x.py :: r.map D.py) := by
    refine ⟨fun a h1 b h2 => al a (by simpa using h1) b (by simpa using h2), fun a h1 => ?_⟩
    rcases so with so | so
    · obtain ⟨y, ys, e⟩ := so a (by simpa using h1)
      rw [e]; exact fun z => nomatch z
    · have := (so a (by simpa using h1))
      exact fun z => by subst z; simp at this
  have hdep : X.A.units + 1 + PyData.depthAll (x.py :: r.map D.py) < cLine := by
    have : PyData.depthAll (x.py :: r.map D.py) ≤ 50 := by
      have g : ∀ ds : List D, (∀ d ∈ ds, d.sm = true) → PyData.depthAll (ds.map D.py) ≤ 50 := by
        intro ds
        induction ds with
        | nil => intro _; simp [PyData.depthAll]
        | cons d ds ih =>
          intro h
          have h1 := D.sm_dep (h d List.mem_cons_self)
          have h2 := ih fun z hz => h z (List.mem_cons_of_mem _ hz)
          simp only [List.map_cons, PyData.depthAll, D.py_dep]
          omega
      exact g (x :: r) sm
    omega
  have fin : ∀ (i : Nat) v h' tk bs, its.toArray[i]? = some v → Reads h' v (bestL mx x r).py bs → (∀ b o, s.heap.get? b = some o → h'.get? b = some o) → EP X pins σ Q v { s with heap := h', toks := tk } := fun i v h' tk bs hv hr hk => by
    have hv' : its[i]? = some v := by simpa using hv
    obtain ⟨d, ed, w, rw', rp⟩ := (each_get e0).2 i v hv'
    obtain ⟨d2, ed2, as2, rd⟩ := (each_get er).2 i v hv'
    rw [ed] at ed2; cases ed2
    have e1 : d.py = (bestL mx x r).py := ((PyProof.Rows.Reads.keeps hk rd).unique _ _ hr).1
    have e2 : d = bestL mx x r := py_inj _ _ (D.sm_plain (sm d (List.mem_of_getElem? ed))) (D.sm_plain (sm _ (bestL_mem mx r x))) e1
    subst e2
    exact ⟨w, H, I.kept hk, rw', q w rp⟩
  cases mx with
  | true =>
    rcases pl with pl | pl
    · exact max_list_data (I.ok.hd hc) pl (by simpa using ra) ha hdep fun i v h' tk bs h1 h2 h3 => fin i v h' tk bs h1 (by rw [bestL_py]; exact h2) h3
    · exact max_tuple_data (I.ok.hd hc) pl (by simpa using ra) ha hdep fun i v h' tk bs h1 h2 h3 => fin i v h' tk bs h1 (by rw [bestL_py]; exact h2) h3
  | false =>
    rcases pl with pl | pl
    · exact min_list_data (I.ok.hd hc) pl (by simpa using ra) ha hdep fun i v h' tk bs h1 h2 h3 => fin i v h' tk bs h1 (by rw [bestL_py]; exact h2) h3
    · exact min_tuple_data (I.ok.hd hc) pl (by simpa using ra) ha hdep fun i v h' tk bs h1 h2 h3 => fin i v h' tk bs h1 (by rw [bestL_py]; exact h2) h3
theorem d_best (mx : Bool) (hc : X.calm = true) (hu : X.A.units + 64 < cLine) : CallR X (.builtin (if mx = true then "max" else "min")) (rDn (pm X fn) fun ds => match ds with | [.lst xs] => bestOf mx xs | [.tup xs] => bestOf mx xs | _ => none) := by
  intro pins s σ H xs us Q I r ⟨bo, F, b, W, ds, d, hr, hg, q⟩
  have run : ∀ {x : D} {r : List D} {vs : List V} {p : Addr} {its : List Value}, RpL (pm X fn) bo F H (x :: r) vs → Vals vs its → (s.heap.IsList p its.toArray ∨ s.heap.IsTuple p its.toArray) → bestOf mx (x :: r) = some d → wpAny (model X.prog X.w) X.A (call (.builtin (if mx = true then "max" else "min")) [.ref p]) (EP X pins σ Q) X.xe s := fun {x r vs p its} r1 rv pl hb => by
    unfold bestOf at hb
    split at hb
    · rename_i n ns hz
      cases hb
      have ez := intsD_eq hz
      have ok : sortOk (x :: r) = true := by
        rw [ez]
        simp only [sortOk, List.all_map, Bool.and_eq_true, Bool.or_eq_true, List.all_eq_true, Function.comp]
        exact ⟨⟨fun _ _ => rfl, fun _ _ _ _ => by simp [D.py, PySem.W.alike]⟩, .inr fun _ _ => trivial⟩
      refine best_run mx hc hu I W r1 rv pl ok fun v hv => q v F H (Grow.refl W.dom) W.box ?_
      have e1 : x = .int n ∧ r = ns.map .int := by
        simp only [List.map_cons, List.cons.injEq] at ez
        exact ez
      have e2 : bestL mx x r = .int (if mx = true then maxI (n :: ns) else minI (n :: ns)) := by
        refine py_inj _ _ (D.sm_plain ((sortOk_facts ok).1 _ (bestL_mem mx r x))) rfl ?_
        rw [bestL_py, e1.1, e1.2]
        have e3 : (ns.map D.int).map D.py = ns.map PyData.int := by rw [List.map_map]; rfl
        rw [e3]
        cases mx with
        | true => simp only [if_true, D.py]; exact maxD_ints n ns
        | false => simp only [Bool.false_eq_true, if_false, D.py]; exact minD_ints n ns
      rw [e2] at hv
      exact hv
    · split at hb
      · rename_i hne x' r' he
        cases he
        split at hb
        · rename_i ok
          cases hb
          exact best_run mx hc hu I W r1 rv pl ok fun v hv => q v F H (Grow.refl W.dom) W.box hv
        · cases hb
      · rename_i he; cases he
  dsimp only at hg
  split at hg
  · rename_i ds'
    obtain ⟨v, rfl, h1⟩ := hr.one
    obtain ⟨p, vs, rfl, s1, z1, r1⟩ := h1.lst
    rw [Vals.ref1 r]
    obtain ⟨its, rv, pl, hz⟩ := I.list (SqL.of s1)
    cases ds' with
    | nil => simp [bestOf, intsD] at hg
    | cons x r => exact run r1 rv (.inl pl.isList) hg
  · rename_i ds'
    obtain ⟨v, rfl, h1⟩ := hr.one
    obtain ⟨p, vs, rfl, s1, z1, r1⟩ := h1.tup
    rw [Vals.ref1 r]
    obtain ⟨its, rv, pl, hz⟩ := I.tuple s1
    cases ds' with
    | nil => simp [bestOf, intsD] at hg
    | cons x r => exact run r1 rv (.inr pl) hg
  · cases hg
theorem d_maxL (hc : X.calm = true) (hu : X.A.units + 64 < cLine) : CallR X (.builtin "max") (rDn (pm X fn) maxLD) := d_best true hc hu
theorem d_minL (hc : X.calm = true) (hu : X.A.units + 64 < cLine) : CallR X (.builtin "min") (rDn (pm X fn) minLD) := d_best false hc hu
theorem b_max1 (hm : X.mg "max" = none) (hu : X.A.units + 64 < cLine) (ha : PEo fn X e f) (hg : Gl X "max" := by rfl) (hc : X.calm = true := by rfl) (he : starEach [e] X.env = (false, eval e X.env) :: starEach [] X.env := by rfl) : PEx fn X (.Call (.Name "max" p) [e] [] pos) (eFn maxLD (aCons f aNil)) :=
  px_fn (d_maxL hc hu) hg hm (by decide +kernel) (pao_cons ha pao_nil he) (by decide) (by decide) he rfl
theorem b_min1 (hm : X.mg "min" = none) (hu : X.A.units + 64 < cLine) (ha : PEo fn X e f) (hg : Gl X "min" := by rfl) (hc : X.calm = true := by rfl) (he : starEach [e] X.env = (false, eval e X.env) :: starEach [] X.env := by rfl) : PEx fn X (.Call (.Name "min" p) [e] [] pos) (eFn minLD (aCons f aNil)) :=
  px_fn (d_minL hc hu) hg hm (by decide +kernel) (pao_cons ha pao_nil he) (by decide) (by decide) he rfl
end

/-! ### two fors -/
def lc2Go (g : Tg) (t : Tx) (it1 : It) (g1 : Tg) (t1 : Tx) (f : Ex) (vs1 : List Nat) (ρ : Rho) : List D → Bx → Option (List D × Bx)
  | [], b => some ([], b)
  | d :: ds, b => match g d ρ with
    | some ρ1 => match t ρ1 b with
      | some (true, b1) => match it1 ρ1 b1 with
        | some (ds1, b2) => match lcGo g1 t1 f (wipeR ρ1 vs1) ds1 b2 with
          | some (rs, b3) => match lc2Go g t it1 g1 t1 f vs1 ρ ds b3 with
            | some (rs2, b4) => some (rs ++ rs2, b4)
            | none => none
          | none => none
        | none => none
      | some (false, b1) => lc2Go g t it1 g1 t1 f vs1 ρ ds b1
      | none => none
    | none => none
def eLc2 (it : It) (g : Tg) (t : Tx) (it1 : It) (g1 : Tg) (t1 : Tx) (f : Ex) (vs vs1 : List Nat) : Ex := fun ρ b => match it ρ b with
  | some (ds, b1) => match lc2Go g t it1 g1 t1 f vs1 (wipeR ρ vs) ds b1 with
    | some (rs, b2) => if rs.length ≤ sizeLine then some (.lst rs, b2) else none
    | none => none
  | none => none
/-- grown, but at D -/
structure GrowX (D : Addr) (bo : Bo) (F : Addr → Prop) (H : Hp) (F' : Addr → Prop) (H' : Hp) : Prop where
  keep : ∀ a o, H a = some o → ¬ inBox bo a → a ≠ D → H' a = some o
  free : ∀ a, H' a = none → H a = none
  sub : ∀ a, F a → F' a
  new : ∀ a, F' a → F a ∨ H a = none
  dom : ∀ a, F' a → H' a ≠ none
theorem Grow.x {D : Addr} {bo : Bo} {F F' : Addr → Prop} {H H' : Hp} (g : Grow bo F H F' H') : GrowX D bo F H F' H' := ⟨fun a o h n _ => g.keep a o h n, g.free, g.sub, g.new, g.dom⟩
theorem GrowX.trans {D : Addr} {bo : Bo} {F F1 F2 : Addr → Prop} {H H1 H2 : Hp} (a : GrowX D bo F H F1 H1) (b : GrowX D bo F1 H1 F2 H2) : GrowX D bo F H F2 H2 :=
  ⟨fun c o h n nD => b.keep c o (a.keep c o h n nD) n nD, fun c h => a.free c (b.free c h), fun c h => b.sub c (a.sub c h), fun c h => (b.new c h).elim (fun q => a.new c q) fun q => .inr (a.free c q), b.dom⟩
theorem GrowX.updD {D : Addr} {bo : Bo} {F : Addr → Prop} {H : Hp} {o u : HO} (hD : H D = some u) (dom : ∀ a, F a → H a ≠ none) : GrowX D bo F H F (upd H D o) :=
  ⟨fun a v h _ nD => by rw [upd_ne nD]; exact h, fun a h => by
    by_cases e : a = D
    · subst e; rw [upd_same] at h; cases h
    · rw [upd_ne e] at h; exact h, fun _ h => h, fun _ h => .inl h, fun a f h => by
    by_cases e : a = D
    · subst e; rw [upd_same] at h; cases h
    · rw [upd_ne e] at h; exact dom a f h⟩
theorem GrowX.fk {D : Addr} {bo : Bo} {F F' : Addr → Prop} {H H' : Hp} {b : Bx} {u : HO} (g : GrowX D bo F H F' H') (hb : BoxOk bo F H b) (dom : ∀ a, F a → H a ≠ none) (nF : ¬ F D) (hD : H D = some u) (um : MutO u) : FK F H F' H' where
  sub := g.sub
  at_ := fun a f => by
    cases q : H a with
    | none => exact absurd q (dom a f)
    | some o => exact g.keep a o q (fun n => (inBox_some hb n).1 f) fun e => nF (e ▸ f)
  imm := fun a o h n => g.keep a o h (fun z => by
    obtain ⟨_, vs, e⟩ := inBox_some hb z
    rw [h] at e; cases e
    exact n trivial) fun e => by
      subst e
      rw [hD] at h; cases h
      exact n um
section
variable {m : Pm} {H0 : Hp} {F0 : Addr → Prop} {bo : Bo} {σ : St} {ρ : Rho} {F F' : Addr → Prop} {H H' : Hp} {b b' : Bx} {D : Addr}
/-- D counts as old -/
theorem Rel.base {H1 : Hp} {F1 : Addr → Prop} {b1 : Bx} (R : Rel m H0 F0 bo σ ρ F1 H1 b1) (g : Grow bo F1 H1 F H) (hb : BoxOk bo F H b) (hD1 : H1 D = none) {o : HO} (hD : H D = some o) (nF : ¬ F D) : Rel m (L2.upd H0 D o) F0 bo σ ρ F H b := by
  have R2 := R.grow g hb
  refine ⟨⟨hb, fun a u h n => ?_, fun a h => ?_, R2.core.sub, fun a h => ?_, R2.core.dom⟩, R2.len, R2.frz, fun i d e => ?_, R2.dis⟩
  · by_cases e : a = D
    · subst e; rw [upd_same] at h; cases h; exact hD
    · rw [upd_ne e] at h; exact R2.core.keep a u h n
  · have e : a ≠ D := fun e => by subst e; rw [hD] at h; cases h
    rw [upd_ne e]; exact R2.core.free a h
  · have e : a ≠ D := fun e => nF (e ▸ h)
    rw [upd_ne e]; exact R2.core.new a h
  · obtain ⟨a, h1, h2, h3, h4, h5⟩ := R.own i d e
    obtain ⟨u, hu, _⟩ := h5.some
    obtain ⟨a', h1', h2', h3', h4', h5'⟩ := R2.own i d e
    rw [h1] at h1'; cases h1'
    have e : a ≠ D := fun e => by subst e; rw [hD1] at hu; cases hu
    exact ⟨a, h1, h2', h3', by rw [upd_ne e]; exact h4', h5'⟩
theorem Rel.move {o o' : HO} (R : Rel m (L2.upd H0 D o) F0 bo σ ρ F H b) (hD : H D = some o) (um : MutO o) (nF : ¬ F D) (g : GrowX D bo F H F' H') (hb : BoxOk bo F' H' b') (hD' : H' D = some o') : Rel m (L2.upd H0 D o') F0 bo σ ρ F' H' b' := by
  have k := g.fk R.core.box R.core.dom nF hD um
  have nF' : ¬ F' D := fun h => by
    rcases g.new D h with z | z
    · exact nF z
    · rw [hD] at z; cases z
  refine ⟨⟨hb, fun a u h n => ?_, fun a h => ?_, fun a h => g.sub a (R.core.sub a h), fun a h => ?_, g.dom⟩, R.len, fun i d e => ?_, fun i d e => ?_, R.dis⟩
  · by_cases e : a = D
    · subst e; rw [upd_same] at h; cases h; exact hD'
    · rw [upd_ne e] at h
      exact g.keep a u (R.core.keep a u (by rw [upd_ne e]; exact h) n) n e
  · have e : a ≠ D := fun e => by subst e; rw [hD'] at h; cases h
    have := R.core.free a (g.free a h)
    rw [upd_ne e] at this ⊢; exact this
  · have e : a ≠ D := fun e => nF' (e ▸ h)
    rcases g.new a h with z | z
    · rcases R.core.new a z with z | z
      · exact .inl z
      · rw [upd_ne e] at z ⊢; exact .inr z
    · have := R.core.free a z
      rw [upd_ne e] at this ⊢; exact .inr this
  · obtain ⟨v, h1, h2⟩ := R.frz i d e
    exact ⟨v, h1, h2.fk k⟩
  · obtain ⟨a, h1, h2, h3, h4, h5⟩ := R.own i d e
    have e : a ≠ D := fun e => by subst e; rw [upd_same] at h4; cases h4
    obtain ⟨u, hu, _⟩ := h5.some
    rw [upd_ne e] at h4
    refine ⟨a, h1, fun z => ?_, h3, by rw [upd_ne e]; exact h4, h5.fk k ((g.keep a u hu h3 e).trans hu.symm)⟩
    rcases g.new a z with z | z
    · exact h2 z
    · rw [hu] at z; cases z
end

section
variable {fn : Nat → Option V} {X : Cx} {pos : Pos}
theorem lc2_o {m : Pm} {it it1 : It} {g g1 : Tg} {t t1 : Tx} {f : Ex} {sl sl1 vs vs1 : List Nat} (hsl : ∀ i ∈ sl, i ∈ vs) (hsl1 : ∀ i ∈ sl1, i ∈ vs1) {σ : St} {H : Hp} {Q : VK} (h : tEn m (eLc2 it g t it1 g1 t1 f vs vs1) σ H Q) :
    tLc2 (iEo m it) (gEx m sl g) (tTx m t) (iEx m it1) (gEx m sl1 g1) (tTx m t1) (tEx m f) vs vs1 σ H Q := by
  obtain ⟨H0, F0, bo, ρ, F, b, R, r, b', e, q⟩ := h
  unfold eLc2 at e
  split at e
  · rename_i ds b1 e1
    split at e
    · rename_i rs b2 e2
      split at e
      · rename_i hrs
        cases e
        refine ⟨H0, F0, bo, ρ, F, b, R, ds, b1, e1, fun J F1 H1 g0 hb1 hz y D hD => ?_⟩
        have R1 := R.grow g0 hb1
        have W1 : Wo bo F1 H1 b1 := R1.wo
        have nD : ¬ inBox bo D := inBox_new W1 hD
        refine ⟨fun i mm H2 => mm = ds.length - i ∧ i ≤ ds.length ∧ ∃ F2 bb acc accD rs2, Grow bo F1 H1 F2 H2 ∧ BoxOk bo F2 H2 bb ∧ H2 D = some (.lst acc) ∧ ¬ F2 D ∧ RpL m bo F2 H2 accD acc ∧ lc2Go g t it1 g1 t1 f vs1 (wipeR ρ vs) (ds.drop i) bb = some (rs2, b') ∧ accD ++ rs2 = rs,
          ⟨_, rfl, Nat.zero_le _, F1, b1, [], [], rs, Grow.alloc W1 hD, BoxOk.alloc W1 hD fun _ h => .inl h, upd_same, fun z => W1.dom D z hD, RpL.nil, e2, rfl⟩, ?_⟩
        rintro i mm H2 ⟨rfl, hi, F2, bb, acc, accD, rs2, g2, hb2, hD2, nF, ra, eg, er⟩
        obtain ⟨yy, yst⟩ := y F2 H2 bb g2 ⟨hb2, g2.dom⟩
        by_cases hlt : i < ds.length
        · refine .inr ?_
          obtain ⟨ygo, yyl⟩ := yy i ds[i] (List.getElem?_eq_getElem hlt)
          rw [List.drop_eq_getElem_cons hlt] at eg
          refine ⟨ygo, fun H3 => ∃ F2 bb acc accD rs2, Grow bo F1 H1 F2 H3 ∧ BoxOk bo F2 H3 bb ∧ H3 D = some (.lst acc) ∧ ¬ F2 D ∧ RpL m bo F2 H3 accD acc ∧ lc2Go g t it1 g1 t1 f vs1 (wipeR ρ vs) (ds.drop (i + 1)) bb = some (rs2, b') ∧ accD ++ rs2 = rs, fun H' hh => ⟨_, by omega, rfl, hlt, hh⟩, fun x H3 hy => ?_⟩
          obtain ⟨g3, hb3, rx⟩ := yyl x H3 hy
          have W2 : Wo bo F2 H2 bb := ⟨hb2, g2.dom⟩
          have hD3 : H3 D = some (.lst acc) := g3.keep D _ hD2 nD
          have R3 := (R1.base (g2.trans g3) hb3 hD hD3 nF).wipe vs
          have ra3 := ra.fk (W2.fk g3)
          unfold lc2Go at eg
          split at eg
          · rename_i ρ1 e3
            refine ⟨_, F0, bo, _, F2, bb, R3, _, ρ1, rx, e3, fun σ4 R4 w4 => ⟨w4 vs hsl |>.trans (wipe_wipe fun i h => h), ?_⟩⟩
            split at eg
            · rename_i b3 e4
              refine ⟨_, F0, bo, ρ1, F2, bb, R4, true, b3, e4, fun F5 H5 g5 hb5 => iteT ?_⟩
              split at eg
              · rename_i ds1 b4 e5
                split at eg
                · rename_i rs1 b5 e6
                  split at eg
                  · rename_i rest b6 e7
                    cases eg
                    refine ⟨_, F0, bo, ρ1, F5, b3, R4.grow g5 hb5, ds1, b4, e5, fun J1 F6 H6 g6 hb6 hz1 y1 => ?_⟩
                    have R6 := (R4.grow g5 hb5).grow g6 hb6
                    have g36 := (g3.trans g5).trans g6
                    have hD6 : H6 D = some (.lst acc) := g36.keep D _ hD2 nD
                    have nF6 : ¬ F6 D := fun hf => by
                      rcases g36.new D hf with k | k
                      · exact nF k
                      · rw [hD2] at k; cases k
                    have g16 := g2.trans g36
                    have ra6 := ra.fk (W2.fk g36)
                    have W6 : Wo bo F6 H6 b4 := ⟨hb6, g6.dom⟩
                    refine ⟨fun j kk H7 => kk = ds1.length - j ∧ j ≤ ds1.length ∧ ∃ F7 b7 acc7 accD7 rs7, GrowX D bo F6 H6 F7 H7 ∧ Grow bo F1 H1 F7 H7 ∧ BoxOk bo F7 H7 b7 ∧ H7 D = some (.lst acc7) ∧ ¬ F7 D ∧ RpL m bo F7 H7 accD7 acc7 ∧ lcGo g1 t1 f (wipeR ρ1 vs1) (ds1.drop j) b7 = some (rs7, b5) ∧ accD7 ++ (rs7 ++ rest) = rs,
                      ⟨_, rfl, Nat.zero_le _, F6, b4, acc, accD, rs1, (Grow.refl W6.dom).x, g16, hb6, hD6, nF6, ra6, e6, er⟩, ?_⟩
                    rintro j kk H7 ⟨rfl, hj, F7, b7, acc7, accD7, rs7, gx, g17, hb7, hD7, nF7, ra7, eg7, er7⟩
                    have k67 := gx.fk hb6 W6.dom nF6 hD6 trivial
                    obtain ⟨y1y, y1st⟩ := y1 F7 H7 b7 k67 ⟨hb7, gx.dom⟩
                    by_cases hlt1 : j < ds1.length
                    · refine .inr ?_
                      obtain ⟨y1go, y1yl⟩ := y1y j ds1[j] (List.getElem?_eq_getElem hlt1)
                      rw [List.drop_eq_getElem_cons hlt1] at eg7
                      refine ⟨y1go, fun H7 => ∃ F7 b7 acc7 accD7 rs7, GrowX D bo F6 H6 F7 H7 ∧ Grow bo F1 H1 F7 H7 ∧ BoxOk bo F7 H7 b7 ∧ H7 D = some (.lst acc7) ∧ ¬ F7 D ∧ RpL m bo F7 H7 accD7 acc7 ∧ lcGo g1 t1 f (wipeR ρ1 vs1) (ds1.drop (j + 1)) b7 = some (rs7, b5) ∧ accD7 ++ (rs7 ++ rest) = rs, fun H' hh => ⟨_, by omega, rfl, hlt1, hh⟩, fun x8 H8 hy8 => ?_⟩
                      obtain ⟨g8, hb8, rx8⟩ := y1yl x8 H8 hy8
                      have W7 : Wo bo F7 H7 b7 := ⟨hb7, gx.dom⟩
                      have hD8 : H8 D = some (.lst acc7) := g8.keep D _ hD7 nD
                      have R8 := (R6.move hD6 trivial nF6 (gx.trans g8.x) hb8 hD8).wipe vs1
                      unfold lcGo at eg7
                      split at eg7
                      · rename_i ρ9 e9
                        refine ⟨_, F0, bo, _, F7, b7, R8, _, ρ9, rx8, e9, fun σ9 R9 w9 => ⟨w9 vs1 hsl1 |>.trans (wipe_wipe fun i h => h), ?_⟩⟩
                        split at eg7
                        · rename_i b9 e10
                          refine ⟨_, F0, bo, ρ9, F7, b7, R9, true, b9, e10, fun F10 H10 g10 hb10 => iteT ?_⟩
                          split at eg7
                          · rename_i z b11 e11
                            split at eg7
                            · rename_i zs b12 e12
                              cases eg7
                              refine ⟨_, F0, bo, ρ9, F10, b9, R9.grow g10 hb10, z, b11, e11, fun v F13 H13 g13 hb13 rv => ?_⟩
                              have g713 := (g8.trans g10).trans g13
                              have hD13 : H13 D = some (.lst acc7) := g713.keep D _ hD7 nD
                              have nF13 : ¬ F13 D := fun hf => by
                                rcases g713.new D hf with k | k
                                · exact nF7 k
                                · rw [hD7] at k; cases k
                              have ra13 := ra7.fk (W7.fk g713)
                              have kk : FK F13 H13 F13 (upd H13 D (.lst (acc7 ++ [v]))) := FK.upd nF13 fun u hu => by rw [hD13] at hu; cases hu; trivial
                              have gxD : GrowX D bo F13 H13 F13 (upd H13 D (.lst (acc7 ++ [v]))) := GrowX.updD hD13 g713.dom
                              have g113 := g17.trans g713
                              refine ⟨acc7, hD13, ?_, F13, b11, acc7 ++ [v], accD7 ++ [z], zs, (gx.trans g713.x).trans gxD, ⟨fun c o ho hn => ?_, fun c ho => gxD.free c ho |> g113.free c, g113.sub, g113.new, gxD.dom⟩, hb13.upd nD, upd_same, nF13, RpL.append (ra13.fk kk) (RpL.cons (rv.fk kk) RpL.nil), e12, by simpa using er7⟩
                              · have h1 := ra7.length
                                have h2 := congrArg List.length er7
                                simp at h2
                                omega
                              · have e : c ≠ D := fun e => by subst e; rw [hD] at ho; cases ho
                                rw [upd_ne e]; exact g113.keep c o ho hn
                            · cases eg7
                          · cases eg7
                        · rename_i b9 e10
                          refine ⟨_, F0, bo, ρ9, F7, b7, R9, false, b9, e10, fun F10 H10 g10 hb10 => iteF ?_⟩
                          have g710 := g8.trans g10
                          have nF10 : ¬ F10 D := fun hf => by
                            rcases g710.new D hf with k | k
                            · exact nF7 k
                            · rw [hD7] at k; cases k
                          exact ⟨F10, b9, acc7, accD7, rs7, gx.trans g710.x, g17.trans g710, hb10, g710.keep D _ hD7 nD, nF10, ra7.fk (W7.fk g710), eg7, er7⟩
                        · cases eg7
                      · cases eg7
                    · have ej : j = ds1.length := by omega
                      subst ej
                      rw [List.drop_length] at eg7
                      cases eg7
                      exact .inl ⟨y1st, F7, b5, acc7, accD7, rest, g17, hb7, hD7, nF7, ra7, e7, er7⟩
                  · cases eg
                · cases eg
              · cases eg
            · rename_i b3 e4
              refine ⟨_, F0, bo, ρ1, F2, bb, R4, false, b3, e4, fun F5 H5 g5 hb5 => iteF ?_⟩
              have g35 := g3.trans g5
              have nF5 : ¬ F5 D := fun hf => by
                rcases g35.new D hf with k | k
                · exact nF k
                · rw [hD2] at k; cases k
              exact ⟨F5, b3, acc, accD, rs2, g2.trans g35, hb5, g35.keep D _ hD2 nD, nF5, ra.fk (W2.fk g35), eg, er⟩
            · cases eg
          · cases eg
        · have ei : i = ds.length := by omega
          subst ei
          rw [List.drop_length] at eg
          cases eg
          refine .inl ⟨yst, ?_⟩
          rw [List.append_nil] at er
          subst er
          exact q D F2 H2 (g0.trans g2) hb2 (g0.free D hD) nF ⟨acc, hD2, by rw [ra.length]; exact hrs, ra⟩
      · cases e
    · cases e
  · cases e
theorem pn_lc2 {elt tg iter tg1 iter1 : Expr} {ifs ifs1 : List Expr} {scope : Scope} {own : List (Str × Nat)} {vs1 : List Nat} {it it1 : It} {g g1 : Tg} {t t1 : Tx} {f : Ex} {sl sl1 : List Nat} (hc : X.calm = true) (hN : X.N.Nodup) (hi : PIo fn X tg iter it) (ok : BlkOk X.N X.env.scope scope own)
    (hg : ∀ (s : Shared) (H : Hp) (C : Addr) (cl : List (Str × Addr)) (fp : List Addr), PGx fn (X.blk s H scope (compEnvC scope cl C X.env) fp) tg sl g)
    (ht : ∀ (s : Shared) (H : Hp) (C : Addr) (cl : List (Str × Addr)) (fp : List Addr), PTsx fn (X.blk s H scope (compEnvC scope cl C X.env) fp) ifs t)
    (hi1 : ∀ (s : Shared) (H : Hp) (C : Addr) (cl : List (Str × Addr)) (fp : List Addr), PIx fn (X.blk s H scope (compEnvC scope cl C X.env) fp) tg1 iter1 it1)
    (hg1 : ∀ (s : Shared) (H : Hp) (C : Addr) (cl : List (Str × Addr)) (fp : List Addr), PGx fn (X.blk s H scope (compEnvC scope cl C X.env) fp) tg1 sl1 g1)
    (ht1 : ∀ (s : Shared) (H : Hp) (C : Addr) (cl : List (Str × Addr)) (fp : List Addr), PTsx fn (X.blk s H scope (compEnvC scope cl C X.env) fp) ifs1 t1)
    (he : ∀ (s : Shared) (H : Hp) (C : Addr) (cl : List (Str × Addr)) (fp : List Addr), PEx fn (X.blk s H scope (compEnvC scope cl C X.env) fp) elt f)
    (hv : ∀ i ∈ vs1, i ∈ own.map (·.2) := by decide) (hsl : ∀ i ∈ sl, i ∈ own.map (·.2) := by decide) (hsl1 : ∀ i ∈ sl1, i ∈ vs1 := by decide) (hs : ∀ x, foldedSetIterable iter X.env x = pure x := by intro _; rfl) (hs1 : ∀ env x, foldedSetIterable iter1 env x = pure x := by intro _ _; rfl) :
    PEn fn X (.ListComp elt [⟨tg, iter, ifs, 0⟩, ⟨tg1, iter1, ifs1, 0⟩] scope pos) (eLc2 it g t it1 g1 t1 f (own.map (·.2)) vs1) :=
  PE.imp (pe_lc2 hc hN hi ok hv hg ht hi1 hg1 ht1 he hs hs1) fun _ _ _ h => lc2_o hsl hsl1 h
end

section
variable {fn : Nat → Option V} {X : Cx} {pos : Pos}
theorem psx_setLc2 {i : Nat} {y : Str} {py : Pos} {elt tg iter tg1 iter1 : Expr} {ifs ifs1 : List Expr} {scope : Scope} {own : List (Str × Nat)} {spos : Pos} {vs1 : List Nat} {it it1 : It} {g g1 : Tg} {t t1 : Tx} {f : Ex} {sl sl1 : List Nat} (hc : X.calm = true) (hN : X.N.Nodup) (hy : X.N[i]? = some y) (hyl : X.env.scope.names.lookup y = some .local)
    (hsw : swapsWith (.ListComp elt [⟨tg, iter, ifs, 0⟩, ⟨tg1, iter1, ifs1, 0⟩] scope pos) (some (.Name y py)) spos.line X.env = pure true) (hi : PIo fn X tg iter it) (ok : BlkOk X.N X.env.scope scope own)
    (hg : ∀ (s : Shared) (H : Hp) (C : Addr) (cl : List (Str × Addr)) (fp : List Addr), PGx fn (X.blk s H scope (compEnvC scope cl C X.env) fp) tg sl g)
    (ht : ∀ (s : Shared) (H : Hp) (C : Addr) (cl : List (Str × Addr)) (fp : List Addr), PTsx fn (X.blk s H scope (compEnvC scope cl C X.env) fp) ifs t)
    (hi1 : ∀ (s : Shared) (H : Hp) (C : Addr) (cl : List (Str × Addr)) (fp : List Addr), PIx fn (X.blk s H scope (compEnvC scope cl C X.env) fp) tg1 iter1 it1)
    (hg1 : ∀ (s : Shared) (H : Hp) (C : Addr) (cl : List (Str × Addr)) (fp : List Addr), PGx fn (X.blk s H scope (compEnvC scope cl C X.env) fp) tg1 sl1 g1)
    (ht1 : ∀ (s : Shared) (H : Hp) (C : Addr) (cl : List (Str × Addr)) (fp : List Addr), PTsx fn (X.blk s H scope (compEnvC scope cl C X.env) fp) ifs1 t1)
    (he : ∀ (s : Shared) (H : Hp) (C : Addr) (cl : List (Str × Addr)) (fp : List Addr), PEx fn (X.blk s H scope (compEnvC scope cl C X.env) fp) elt f)
    (hv : ∀ i ∈ vs1, i ∈ own.map (·.2) := by decide) (hsl : ∀ i ∈ sl, i ∈ own.map (·.2) := by decide) (hsl1 : ∀ i ∈ sl1, i ∈ vs1 := by decide) (hs : ∀ x, foldedSetIterable iter X.env x = pure x := by intro _; rfl) (hs1 : ∀ env x, foldedSetIterable iter1 env x = pure x := by intro _ _; rfl) :
    PSx fn X (.Assign [.Name y py] (.ListComp elt [⟨tg, iter, ifs, 0⟩, ⟨tg1, iter1, ifs1, 0⟩] scope pos) spos) (sNew i (eLc2 it g t it1 g1 t1 f (own.map (·.2)) vs1)) :=
  PS.imp (ps_setLc2 hc hN hy hyl hsw hi ok hv hg ht hi1 hg1 ht1 he hs hs1) fun _ _ _ h => lc2_o hsl hsl1 (new_o h)
theorem psx_setLc2F {i : Nat} {y : Str} {py : Pos} {elt tg iter tg1 iter1 : Expr} {ifs ifs1 : List Expr} {scope : Scope} {own : List (Str × Nat)} {spos : Pos} {vs1 : List Nat} {it it1 : It} {g g1 : Tg} {t t1 : Tx} {f : Ex} {sl sl1 : List Nat} (hc : X.calm = true) (hN : X.N.Nodup) (hy : X.N[i]? = some y) (hyl : X.env.scope.names.lookup y = some .local)
    (hsw : swapsWith (.ListComp elt [⟨tg, iter, ifs, 0⟩, ⟨tg1, iter1, ifs1, 0⟩] scope pos) (some (.Name y py)) spos.line X.env = pure true) (hi : PIo fn X tg iter it) (ok : BlkOk X.N X.env.scope scope own)
    (hg : ∀ (s : Shared) (H : Hp) (C : Addr) (cl : List (Str × Addr)) (fp : List Addr), PGx fn (X.blk s H scope (compEnvC scope cl C X.env) fp) tg sl g)
    (ht : ∀ (s : Shared) (H : Hp) (C : Addr) (cl : List (Str × Addr)) (fp : List Addr), PTsx fn (X.blk s H scope (compEnvC scope cl C X.env) fp) ifs t)
    (hi1 : ∀ (s : Shared) (H : Hp) (C : Addr) (cl : List (Str × Addr)) (fp : List Addr), PIx fn (X.blk s H scope (compEnvC scope cl C X.env) fp) tg1 iter1 it1)
    (hg1 : ∀ (s : Shared) (H : Hp) (C : Addr) (cl : List (Str × Addr)) (fp : List Addr), PGx fn (X.blk s H scope (compEnvC scope cl C X.env) fp) tg1 sl1 g1)
    (ht1 : ∀ (s : Shared) (H : Hp) (C : Addr) (cl : List (Str × Addr)) (fp : List Addr), PTsx fn (X.blk s H scope (compEnvC scope cl C X.env) fp) ifs1 t1)
    (he : ∀ (s : Shared) (H : Hp) (C : Addr) (cl : List (Str × Addr)) (fp : List Addr), PEx fn (X.blk s H scope (compEnvC scope cl C X.env) fp) elt f)
    (hv : ∀ i ∈ vs1, i ∈ own.map (·.2) := by decide) (hsl : ∀ i ∈ sl, i ∈ own.map (·.2) := by decide) (hsl1 : ∀ i ∈ sl1, i ∈ vs1 := by decide) (hs : ∀ x, foldedSetIterable iter X.env x = pure x := by intro _; rfl) (hs1 : ∀ env x, foldedSetIterable iter1 env x = pure x := by intro _ _; rfl) :
    PSx fn X (.Assign [.Name y py] (.ListComp elt [⟨tg, iter, ifs, 0⟩, ⟨tg1, iter1, ifs1, 0⟩] scope pos) spos) (sSet i (eLc2 it g t it1 g1 t1 f (own.map (·.2)) vs1)) :=
  psx_frz (psx_setLc2 hc hN hy hyl hsw hi ok hg ht hi1 hg1 ht1 he hv hsl hsl1 hs hs1)
/-- s.upper() -/
def upD : D → Option D
  | .str z => if z.length ≤ 5592405 then some (.str (PySem.Txt.upper z)) else none
  | _ => none
theorem px_upper {o : Expr} {f : Ex} {apos : Pos} (ho : PEo fn X o f) (hbase : attributeBase o "upper" X.env (eval o X.env) = eval o X.env := by rfl) (hline : (apos.endLine == pos.line) = true := by rfl) : PEx fn X (.Call (.Attribute o "upper" apos) [] [] pos) (eUn upD f) :=
  PE.imp (pe_upper ho hbase hline) fun σ H Q h => by
    obtain ⟨H0, F0, bo, ρ, F, b, R, d, b', e, q⟩ := one_o h
    refine ⟨H0, F0, bo, ρ, F, b, R, d, b', e, fun v F' H' g hb rv => ?_⟩
    obtain ⟨bo', F2, b2, W, d', r, rd, er, q'⟩ := q v F' H' g hb rv
    unfold upD at er
    split at er
    · rename_i z
      split at er
      · rename_i hz
        cases er
        rcases rd with rd | ⟨a, rfl, _, _, ow⟩
        · have ev : v = .str z := by simpa [Rp] using rd
          subst ev
          exact ⟨⟨z, rfl⟩, z, rfl, rfl, hz, q' _ F2 H' (Grow.refl W.dom) W.box (by simp [Rp])⟩
        · exact (show False from ow).elim
      · cases er
    · cases er
end
end Sv

set_option maxHeartbeats 4000000
/-! Sv15: dicts made, changed, asked. -/
namespace Sv
open PySem L2

/-! ### what they compute -/
def eDic0 : Ex := fun _ b => some (.dct [], b)
def eDicT0 : Ex := fun _ b => some (.dct [t0], b)
def putAll (kvs : List (D × D)) : List (D × D) → Option (List (D × D))
  | [] => some kvs
  | (k, v) :: r => match dPut kvs k v with
    | some kvs' => putAll kvs' r
    | none => none
abbrev Pas := Rho → Bx → Option (List (D × D) × Bx)
def pNil : Pas := fun _ b => some ([], b)
def pCons (fk fv : Ex) (g : Pas) : Pas := fun ρ b => match fk ρ b with
  | some (k, b1) => match fv ρ b1 with
    | some (v, b2) => match g ρ b2 with
      | some (r, b3) => some ((k, v) :: r, b3)
      | none => none
    | none => none
  | none => none
/-- {k: v, ..}; tk: the keys are tuples -/
def eDisp (tk : Bool) (g : Pas) : Ex := fun ρ b => match g ρ b with
  | some (ps, b1) => match putAll (if tk = true then [t0] else []) ps with
    | some kvs => some (.dct kvs, b1)
    | none => none
  | none => none
/-- as set() takes them: each once, in order -/
def ddI (ns : List Int) : List Int := ns.foldl (fun acc x => if acc.any (· == x) then acc else acc ++ [x]) []
/-- len(set(xs)) of numbers -/
def lenSetD : List D → Option D
  | [.lst xs] => if xs.length ≤ 4000 then (intsD xs).map fun ns => .int (ddI ns).length else none
  | [.tup xs] => if xs.length ≤ 4000 then (intsD xs).map fun ns => .int (ddI ns).length else none
  | _ => none
/-- targets that may be places of lists of one's own -/
abbrev Tq := D → Rho → Bx → Option (Rho × Bx)
def qNm (i : Nat) : Tq := fun d ρ b => some (ρ.set i (.frz d), b)
def qSt (i : Nat) (fi : Ex) : Tq := fun d ρ b => match ρ[i]? with
  | some (.own (.lst xs)) => match fi ρ b with
    | some (.int k, b1) => match ixN xs.length k with
      | some j => some (ρ.set i (.own (.lst (xs.set j d))), b1)
      | none => none
    | _ => none
  | _ => none
def qAll : List Tq → List D → Rho → Bx → Option (Rho × Bx)
  | [], [], ρ, b => some (ρ, b)
  | q :: qs, d :: ds, ρ, b => match q d ρ b with
    | some (ρ1, b1) => qAll qs ds ρ1 b1
    | none => none
  | _, _, _, _ => none
/-- a, xs[i] = e, f -/
def sPq (k : As) (qs : List Tq) : SS := fun ρ b => match k ρ b with
  | some (ds, b1) => match qAll qs ds ρ b1 with
    | some (ρ1, b2) => some (.nx, ρ1, b2)
    | none => none
  | none => none
/-- d[k] = v, d a slot's dict -/
def sDPut (i : Nat) (fk fv : Ex) : SS := fun ρ b => match fv ρ b with
  | some (v, b1) => match ρ[i]? with
    | some (.own (.dct kvs)) => match fk ρ b1 with
      | some (k, b2) => match dPut kvs k v with
        | some kvs' => some (.nx, ρ.set i (.own (.dct kvs')), b2)
        | none => none
      | none => none
    | _ => none
  | none => none

section
variable {fn : Nat → Option V} {X : Cx} {o c e : Expr} {f g h : Ex} {pos p p2 : Pos}
/-! ### new ones -/
theorem new_dK {m : Pm} {bo : Bo} {F : Addr → Prop} {H : Hp} {b : Bx} {q : Addr} (W : Wo bo F H b) (hp : H q = none) :
    Grow bo F H F (upd H q (.dK [])) ∧ BoxOk bo F (upd H q (.dK [])) b ∧ ¬ F q ∧ Own m bo F (upd H q (.dK [])) (.dct []) q :=
  ⟨Grow.alloc W hp, BoxOk.alloc W hp fun _ h => .inl h, fun f => W.dom q f hp, .inl ⟨[], upd_same, by simp [RpA]⟩⟩
theorem new_dT {m : Pm} {bo : Bo} {F : Addr → Prop} {H : Hp} {b : Bx} {q : Addr} (W : Wo bo F H b) (hp : H q = none) :
    Grow bo F H F (upd H q (DicO m q [])) ∧ BoxOk bo F (upd H q (DicO m q [])) b ∧ ¬ F q ∧ Own m bo F (upd H q (DicO m q [])) (.dct [t0]) q :=
  ⟨Grow.alloc W hp, BoxOk.alloc W hp fun _ h => .inl h, fun f => W.dom q f hp, .inr ⟨[], upd_same, by simp [RpB, RpC, t0]⟩⟩
theorem dicT_empty {m : Pm} {H : Hp} (hm : m.P = X.prog) (hw : m.w = X.w) (h : Heap) (hb : sysModules < h.objs.size) : ObjOk X.prog X.w H (h.push { cls := .type "dict", data := .dict #[] }) h.objs.size (DicO m h.objs.size []) := by
  refine ⟨⟨_, #[], 0, Heap.get?_push_size _ rfl, ⟨rfl, rfl, rfl⟩, rfl, rfl, List.nodup_nil, Nat.zero_le _, beq_eq_false_iff_ne.mpr (Ne.symm (Nat.ne_of_lt hb))⟩, ⟨_, Heap.get?_push_size _ rfl⟩, fun h1 h2 ⟨o, arr, ep, g1, g2⟩ st => ⟨o, arr, ep, st o g1, g2⟩⟩
theorem pn_dicK : PEn fn X (.Dict [] [] pos) eDic0 := PE.imp pe_dnewK fun σ H Q ⟨H0, F0, bo, ρ, F, b, R, r, b', e, q⟩ q' hp => by
  cases e
  obtain ⟨g, hb, nf, ow⟩ := new_dK (m := pm X fn) R.wo hp
  exact q q' F _ g hb hp nf ow
theorem pn_dicT : PEn fn X (.Dict [] [] pos) eDicT0 := ⟨fun pins s σ H Q I ⟨H0, F0, bo, ρ, F, b, R, r, b', e, q⟩ => by
  cases e
  have hp := I.hok.fresh (Nat.le_refl s.heap.objs.size)
  obtain ⟨g, hb, nf, ow⟩ := new_dT (m := pm X fn) R.wo hp
  exact wpAny_Dict_empty ⟨.ref s.heap.objs.size, _, I.laid (a := s.heap.objs.size) (t' := s.toks) (fun _ _ q => Heap.get?_push_of_some _ q) (Nat.le_refl _) (dicT_empty rfl rfl s.heap I.big), rfl, q _ F _ g hb hp nf ow⟩⟩
/-! ### d.get(k, x) -/
theorem px_get2 {apos : Pos} (hu : X.A.units + 64 < cLine) (ho : PEo fn X o f) (hk : PEo fn X c g) (hx : PEx fn X e h) (mm : M2 X o "get" apos c e pos := by exact ⟨rfl, rfl, rfl, rfl⟩) : PEx fn X (.Call (.Attribute o "get" apos) [c, e] [] pos) (eFn getD3 (aCons f (aCons g (aCons h aNil)))) := by
  refine ⟨fun pins s σ H Q I ⟨H0, F0, bo, ρ, F, b, R, r, b', e, q⟩ => ?_⟩
  unfold eFn aCons aNil at e
  cases e1 : f ρ b with
  | none => simp [e1] at e
  | some p1 =>
    obtain ⟨d, b1⟩ := p1
    cases e2 : g ρ b1 with
    | none => simp [e1, e2] at e
    | some p2 =>
      obtain ⟨k, b2⟩ := p2
      cases e3 : h ρ b2 with
      | none => simp [e1, e2, e3] at e
      | some p3 =>
        obtain ⟨x, b3⟩ := p3
        cases d with
        | dct kvs =>
          simp only [e1, e2, e3, getD3] at e
          cases e4 : dGet kvs k with
          | none => rw [e4] at e; cases e
          | some od =>
            rw [e4] at e
            simp only [Option.map_some, Option.some.injEq, Prod.mk.injEq] at e
            obtain ⟨rfl, rfl⟩ := e
            refine wpAny_Call_method mm.base mm.few mm.line PySem.F.plainAttrs_dict PySem.F.slot_dict_get PySem.F.type_dict_get (thn (ho.run pins s σ H _ I ⟨H0, F0, bo, ρ, F, b, R, _, b1, e1, fun v1 F1 H1 g1 hb1 r1 => (⟨F1, g1, hb1, r1⟩ : ∃ F1, Grow bo F H F1 H1 ∧ BoxOk bo F1 H1 b1 ∧ RpO (pm X fn) bo F1 H1 (.dct kvs) v1)⟩) fun u s1 ⟨v1, H1, I1, rx, F1, g1, hb1, r1⟩ => ?_)
            obtain ⟨a, ea, gd⟩ := r1.dct
            subst ea
            obtain rfl : u = Value.ref a := rx
            have R1 := R.grow g1 hb1
            obtain ⟨t1, t2⟩ := gd.type I1
            refine ⟨t1, t2, ?_⟩
            rw [mm.trees]
            refine Calls.callWith_builtin rfl (Calls.evalArgs_plain (Calls.spliced_cons (thn (hk.run pins s1 σ H1 _ I1 ⟨H0, F0, bo, ρ, F1, b1, R1, _, b2, e2, fun v2 F2 H2 g2 hb2 r2 => (⟨F2, g2, hb2, r2⟩ : ∃ F2, Grow bo F1 H1 F2 H2 ∧ BoxOk bo F2 H2 b2 ∧ RpO (pm X fn) bo F2 H2 k v2)⟩) fun iv s2 ⟨v2, H2, I2, ry, F2, g2, hb2, r2⟩ =>
              Calls.spliced_cons (thn (hx.run pins s2 σ H2 _ I2 ⟨H0, F0, bo, ρ, F2, b2, R1.grow g2 hb2, _, b3, e3, fun v3 F3 H3 g3 hb3 r3 => (⟨F3, g3, hb3, r3⟩ : ∃ F3, Grow bo F2 H2 F3 H3 ∧ BoxOk bo F3 H3 b3 ∧ Rp (pm X fn) bo F3 H3 x v3)⟩) fun fv s3 ⟨v3, H3, I3, rz, F3, g3, hb3, r3⟩ => Calls.spliced_nil ?_))))
            have r1' := (r1.grow R1.wo (g2.trans g3))
            obtain ⟨a', ea, gd3⟩ := r1'.dct
            cases ea
            have r2' := r2.grow (R1.grow g2 hb2).wo g3
            exact dd_get2 (by omega) I3 gd3 r2' ry r3 rz e4 fun v w' s' I' rw' rp => ⟨v, H3, I', rw', q v F3 H3 ((g1.trans g2).trans g3) hb3 rp⟩
        | _ => simp [e1, e2, e3, getD3] at e
/-! ### d[k] = v -/
theorem psx_dput {i : Nat} {tpos : Pos} (hu : X.A.units + 64 < cLine) (ho : PE X o (tVar i)) (hi : PEo fn X c g) (he : PEx fn X e f) (hs : swapsWith e (some (.Subscript o c tpos)) pos.line X.env = pure false := by rfl) :
    PSx fn X (.Assign [.Subscript o c tpos] e pos) (sDPut i g f) := by
  refine ⟨fun pins s σ H D I ⟨H0, F0, bo, ρ, F, b, R, fl, ρ', b', ee, q⟩ => ?_⟩
  unfold sDPut at ee
  cases e1 : f ρ b with
  | none => simp [e1] at ee
  | some p1 =>
    obtain ⟨d, b1⟩ := p1
    cases hρ : ρ[i]? with
    | none => simp [e1, hρ] at ee
    | some sl =>
      cases sl with
      | own dd =>
        cases dd with
        | dct kvs =>
          cases e2 : g ρ b1 with
          | none => simp [e1, hρ, e2] at ee
          | some p2 =>
            obtain ⟨k, b2⟩ := p2
            cases e3 : dPut kvs k d with
            | none => simp [e1, hρ, e2, e3] at ee
            | some kvs' =>
              simp only [e1, hρ, e2, e3, Option.some.injEq, Prod.mk.injEq] at ee
              obtain ⟨rfl, rfl, rfl⟩ := ee
              refine wpAny_Assign_Subscript (thn (he.run pins s σ H _ I ⟨H0, F0, bo, ρ, F, b, R, _, b1, e1, fun v1 F1 H1 g1 hb1 r1 => (⟨F1, g1, hb1, r1⟩ : ∃ F1, Grow bo F H F1 H1 ∧ BoxOk bo F1 H1 b1 ∧ Rp (pm X fn) bo F1 H1 d v1)⟩) fun r s1 ⟨v, H1, I1, rv, F1, g1, hb1, r1⟩ => ?_) hs
              have R1 := R.grow g1 hb1
              obtain ⟨a, h1, nf, nb, h0, ow⟩ := R1.own i _ hρ
              refine thn (ho.run pins s1 σ H1 (fun x H' => x = .ref a ∧ H' = H1) I1 ⟨_, h1, rfl, rfl⟩) fun u s2 ⟨x, H2, I2, rx, ex, eH⟩ => ?_
              subst ex eH
              obtain rfl : u = Value.ref a := rx
              refine thn (hi.run pins s2 σ _ _ I2 ⟨H0, F0, bo, ρ, F1, b1, R1, _, b2, e2, fun v2 F2 H2 g2 hb2 r2 => (⟨F2, g2, hb2, r2⟩ : ∃ F2, Grow bo F1 _ F2 H2 ∧ BoxOk bo F2 H2 b2 ∧ RpO (pm X fn) bo F2 H2 k v2)⟩) fun iv s3 ⟨y, H3, I3, ry, F2, g2, hb2, r2⟩ => ?_
              have R2 := R1.grow g2 hb2
              obtain ⟨a', h1', nf', nb', h0', ow'⟩ := R2.own i _ hρ
              rw [h1] at h1'; cases h1'
              have gd : DAtW (pm X fn) bo F2 H3 kvs a := by
                rcases ow' with ⟨ws, q1, q2⟩ | ⟨es, q1, q2⟩
                · exact .k q1 q2
                · exact .t q1 q2
              refine dd_put (by omega) I3 gd r2 ry (r1.fk (R1.fkg g2)) rv e3 fun ob s4 hob I4 => ?_
              obtain ⟨R3, k3⟩ := R2.mut hρ h1 (d' := .dct kvs') (o := ob) hob
              exact ⟨σ, _, I4, q σ F2 _ R3 (((R.fkg g1).trans (R1.fkg g2)).trans k3)⟩
        | _ => simp [e1, hρ] at ee
      | _ => simp [e1, hρ] at ee
/-! ### displays -/
def RpP (m : Pm) (bo : Bo) (F : Addr → Prop) (H : Hp) : List (D × D) → List (V × V) → Prop
  | [], vs => vs = []
  | (k, d) :: r, vs => ∃ x y t, vs = (x, y) :: t ∧ Rp m bo F H k x ∧ Rp m bo F H d y ∧ RpP m bo F H r t
theorem RpP.fk {m : Pm} {bo : Bo} {F F' : Addr → Prop} {H H' : Hp} (kk : FK F H F' H') : ∀ {ps : List (D × D)} {vs : List (V × V)}, RpP m bo F H ps vs → RpP m bo F' H' ps vs
  | [], vs, h => h
  | (k, d) :: r, vs, h => by
    obtain ⟨x, y, t, e, h1, h2, h3⟩ := h
    exact ⟨x, y, t, e, h1.fk kk, h2.fk kk, RpP.fk kk h3⟩
structure PPx (fn : Nat → Option V) (X : Cx) (pos : Pos) (keys : List (Option Expr)) (values : List Expr) (g : Pas) : Prop where
  run : ∀ (pins : List (Addr × Obj)) (s : Shared) (σ : St) (H : Hp) (Q : List (V × V) → Hp → Prop) (H0 : Hp) (F0 : Addr → Prop) (bo : Bo) (ρ : Rho) (F : Addr → Prop) (b : Bx), Inv X pins σ H s → Rel (pm X fn) H0 F0 bo σ ρ F H b → ∀ ps b', g ρ b = some (ps, b') →
    (∀ vs F' H', Grow bo F H F' H' → BoxOk bo F' H' b' → RpP (pm X fn) bo F' H' ps vs → Q vs H') →
    wpAny (model X.prog X.w) X.A (evalPairs (pairTrees keys values X.env pos)) (fun us s' => ∃ vs H', Inv X pins σ H' s' ∧ VV vs us ∧ Q vs H') X.xe s
theorem ppx_nil : PPx fn X pos [] [] pNil := ⟨fun pins s σ H Q H0 F0 bo ρ F b I R ps b' e q => by
  cases e
  exact pairTrees_nil_walk ⟨[], H, I, .nil, q [] F H (Grow.refl R.core.dom) R.core.box rfl⟩⟩
theorem ppx_cons {ks : List (Option Expr)} {vs : List Expr} {ga : Pas} (hk : PEx fn X c g) (hv : PEx fn X e f) (hr : PPx fn X pos ks vs ga) : PPx fn X pos (some c :: ks) (e :: vs) (pCons g f ga) := ⟨fun pins s σ H Q H0 F0 bo ρ F b I R ps b' ee q => by
  unfold pCons at ee
  cases e1 : g ρ b with
  | none => simp [e1] at ee
  | some p1 =>
    obtain ⟨k, b1⟩ := p1
    cases e2 : f ρ b1 with
    | none => simp [e1, e2] at ee
    | some p2 =>
      obtain ⟨d, b2⟩ := p2
      cases e3 : ga ρ b2 with
      | none => simp [e1, e2, e3] at ee
      | some p3 =>
        obtain ⟨r, b3⟩ := p3
        simp only [e1, e2, e3, Option.some.injEq, Prod.mk.injEq] at ee
        obtain ⟨rfl, rfl⟩ := ee
        refine pairTrees_cons_walk (thn (hk.run pins s σ H _ I ⟨H0, F0, bo, ρ, F, b, R, _, b1, e1, fun v1 F1 H1 g1 hb1 r1 => (⟨F1, g1, hb1, r1⟩ : ∃ F1, Grow bo F H F1 H1 ∧ BoxOk bo F1 H1 b1 ∧ Rp (pm X fn) bo F1 H1 k v1)⟩) fun u s1 ⟨x, H1, I1, rx, F1, g1, hb1, r1⟩ =>
          thn (hv.run pins s1 σ H1 _ I1 ⟨H0, F0, bo, ρ, F1, b1, R.grow g1 hb1, _, b2, e2, fun v2 F2 H2 g2 hb2 r2 => (⟨F2, g2, hb2, r2⟩ : ∃ F2, Grow bo F1 H1 F2 H2 ∧ BoxOk bo F2 H2 b2 ∧ Rp (pm X fn) bo F2 H2 d v2)⟩) fun w2 s2 ⟨y, H2, I2, ry, F2, g2, hb2, r2⟩ =>
          thn (hr.run pins s2 σ H2 (fun vs H3 => Q ((x, y) :: vs) H3) H0 F0 bo ρ F2 b2 I2 ((R.grow g1 hb1).grow g2 hb2) r b3 e3 fun vs F3 H3 g3 hb3 r3 => ?_) fun ws s3 ⟨vs, H3, I3, rel, q3⟩ => ⟨(x, y) :: vs, H3, I3, .cons ⟨rx, ry⟩ rel, q3⟩)
        have R1 := R.grow g1 hb1
        have R2 := R1.grow g2 hb2
        exact q _ F3 H3 ((g1.trans g2).trans g3) hb3 ⟨x, y, vs, rfl, (r1.fk (R1.fkg g2)).fk (R2.fkg g3), r2.fk (R2.fkg g3), r3⟩⟩
theorem stores {pins : List (Addr × Obj)} {σ : St} {bo : Bo} {F : Addr → Prop} {a : Addr} {E : Value → Shared → Prop} {A : Around} (hu : A.units + 10 < cLine) (nf : ¬ F a) : ∀ (ps : List (D × D)) (vs : List (V × V)) (us : List (Value × Value)) (kvs kvs' : List (D × D)) (s : Shared) (H : Hp) (Q : PUnit → Shared → Prop),
    Inv X pins σ H s → Own (pm X fn) bo F H (.dct kvs) a → RpP (pm X fn) bo F H ps vs → VV vs us → putAll kvs ps = some kvs' →
    (∀ H' s', Inv X pins σ H' s' → Own (pm X fn) bo F H' (.dct kvs') a → (∀ x, x ≠ a → H' x = H x) → Q PUnit.unit s') → wpAny (model X.prog X.w) A (storeAll a us) Q E s := by
  intro ps
  induction ps with
  | nil =>
    intro vs us kvs kvs' s H Q I ow r rv e h
    obtain rfl : vs = [] := r
    cases rv
    cases e
    unfold storeAll
    rw [List.forIn_nil]
    exact wpAny_pure (h H s I ow fun _ _ => rfl)
  | cons kd ps ih =>
    intro vs us kvs kvs' s H Q I ow r rv e h
    obtain ⟨k, d⟩ := kd
    obtain ⟨x, y, t, rfl, h1, h2, h3⟩ := r
    cases rv with
    | cons rxy rt =>
      rename_i uv ut
      obtain ⟨ux, uy⟩ := uv
      cases e3 : dPut kvs k d with
      | none => simp [putAll, e3] at e
      | some kvs1 =>
        simp only [putAll, e3] at e
        have gd : DAtW (pm X fn) bo F H kvs a := by
          rcases ow with ⟨ws, q1, q2⟩ | ⟨es, q1, q2⟩
          · exact .k q1 q2
          · exact .t q1 q2
        unfold storeAll
        rw [List.forIn_cons]
        refine wpAny_bind (wpAny_bind (dd_dset hu I gd (.inl h1) rxy.1 h2 rxy.2 e3 fun ob s1 hob I1 => wpAny_pure ?_))
        have kk : FK F H F (L2.upd H a ob) := FK.upd nf fun u hu' => by
          obtain ⟨o, q, m⟩ := ow.some
          rw [hu'] at q; cases q; exact m
        exact ih t ut kvs1 kvs' s1 _ Q I1 (hob kk) (h3.fk kk) rt e fun H' s' I' ow' same => h H' s' I' ow' fun x hx => (same x hx).trans (upd_ne hx)
theorem pn_disp {keys : List (Option Expr)} {values : List Expr} {ga : Pas} (tk : Bool) (hu : X.A.units + 64 < cLine) (hp : PPx fn X pos keys values ga) (hall : keys.all (·.isSome) = true := by rfl) (hl : keys.length = values.length := by rfl) (h0 : keys ≠ [] := by simp) (h15 : keys.length ≤ 15 := by decide) :
    PEn fn X (.Dict keys values pos) (eDisp tk ga) := by
  refine ⟨fun pins s σ H Q I ⟨H0, F0, bo, ρ, F, b, R, r, b', e, q⟩ => ?_⟩
  unfold eDisp at e
  cases e1 : ga ρ b with
  | none => simp [e1] at e
  | some p1 =>
    obtain ⟨ps, b1⟩ := p1
    cases e2 : putAll (if tk = true then [t0] else []) ps with
    | none => simp [e1, e2] at e
    | some kvs =>
      simp only [e1, e2, Option.some.injEq, Prod.mk.injEq] at e
      obtain ⟨rfl, rfl⟩ := e
      have hn := I.hok.fresh (Nat.le_refl s.heap.objs.size)
      obtain ⟨o, g1, hb1, nf, ow, I1⟩ : ∃ o : HO, Grow bo F H F (upd H s.heap.objs.size o) ∧ BoxOk bo F (upd H s.heap.objs.size o) b ∧ ¬ F s.heap.objs.size ∧ Own (pm X fn) bo F (upd H s.heap.objs.size o) (.dct (if tk = true then [t0] else [])) s.heap.objs.size ∧ Inv X pins σ (upd H s.heap.objs.size o) { s with heap := s.heap.push { cls := .type "dict", data := .dict #[] } } := by
        cases tk with
        | false =>
          obtain ⟨g, hb, nf, ow⟩ := new_dK (m := pm X fn) R.wo hn
          exact ⟨_, g, hb, nf, ow, I.laid (a := s.heap.objs.size) (t' := s.toks) (fun _ _ q => Heap.get?_push_of_some _ q) (Nat.le_refl _) (dk_empty s.heap I.big)⟩
        | true =>
          obtain ⟨g, hb, nf, ow⟩ := new_dT (m := pm X fn) R.wo hn
          exact ⟨_, g, hb, nf, ow, I.laid (a := s.heap.objs.size) (t' := s.toks) (fun _ _ q => Heap.get?_push_of_some _ q) (Nat.le_refl _) (dicT_empty rfl rfl s.heap I.big)⟩
      have R1 := R.grow g1 hb1
      refine wpAny_Dict_any hall hl h0 h15 (thn (hp.run pins _ σ _ (fun vs H2 => ∃ F2, Grow bo F (upd H s.heap.objs.size o) F2 H2 ∧ BoxOk bo F2 H2 b1 ∧ RpP (pm X fn) bo F2 H2 ps vs) H0 F0 bo ρ F b I1 R1 ps b1 e1 fun vs F2 H2 g2 hb2 r2 => ⟨F2, g2, hb2, r2⟩) fun us s2 ⟨vs, H2, I2, rel, F2, g2, hb2, r2⟩ => ?_)
      have nb : ¬ inBox bo s.heap.objs.size := inBox_new R.wo hn
      have ow2 : Own (pm X fn) bo F2 H2 (.dct (if tk = true then [t0] else [])) s.heap.objs.size := ow.fk (R1.fkg g2) ((g2.keep _ _ upd_same nb).trans upd_same.symm)
      have nf2 : ¬ F2 s.heap.objs.size := fun z => by
        rcases g2.new _ z with z | z
        · exact nf z
        · rw [upd_same] at z; cases z
      refine stores (by omega) nf2 ps vs us _ kvs s2 H2 _ I2 ow2 r2 rel e2 fun H' s' I' ow' same => ⟨.ref s.heap.objs.size, H', I', rfl, ?_⟩
      have at2 : H2 s.heap.objs.size = some o := g2.keep _ _ upd_same nb
      obtain ⟨u', hu', mu'⟩ := ow'.some
      refine q _ F2 H' ⟨fun x v hx hnb => ?_, fun x hx => ?_, fun x hx => g2.sub x (g1.sub x hx), fun x hx => ?_, fun x hx => ?_⟩ ?_ hn nf2 ow'
      · have nx : x ≠ s.heap.objs.size := ne_of_none hx hn
        rw [same x nx]
        exact g2.keep x v (by rw [upd_ne nx]; exact hx) hnb
      · by_cases ex : x = s.heap.objs.size
        · rw [ex]; exact hn
        · rw [same x ex] at hx
          have := g2.free x hx
          rwa [upd_ne ex] at this
      · rcases g2.new x hx with z | z
        · exact .inl z
        · by_cases ex : x = s.heap.objs.size
          · exact .inr (by rw [ex]; exact hn)
          · rw [upd_ne ex] at z; exact .inr z
      · by_cases ex : x = s.heap.objs.size
        · rw [ex, hu']; exact fun z => nomatch z
        · rw [same x ex]; exact g2.dom x hx
      · have hbb := hb2
        match bo, hbb, nb with
        | none, _, _ => trivial
        | some (x, y), ⟨z1, z2, z3, z4, z5⟩, nb =>
          exact ⟨z1, z2, z3, by rw [same x fun e => nb (.inl e.symm)]; exact z4, by rw [same y fun e => nb (.inr e.symm)]; exact z5⟩
/-! ### len(set(xs)) -/
theorem firstMet_dd (ns : List Int) : PyProof.Rows.firstMet (fun i => ns.getD i 0) ns.length = ddI ns := by
  unfold PyProof.Rows.firstMet ddI
  congr 1
  apply List.ext_getElem
  · simp
  · intro k h1 h2
    simp only [List.length_map, List.length_range] at h1
    simp [List.getElem?_eq_getElem h1]
theorem ddI_go : ∀ (ns acc : List Int), acc.Nodup → (ns.foldl (fun acc x => if acc.any (· == x) then acc else acc ++ [x]) acc).Nodup ∧ ∀ k, k ∈ ns.foldl (fun acc x => if acc.any (· == x) then acc else acc ++ [x]) acc ↔ k ∈ acc ∨ k ∈ ns
  | [], acc, h => ⟨h, fun k => by simp⟩
  | x :: ns, acc, h => by
    rw [List.foldl_cons]
    by_cases hx : x ∈ acc
    · have e : acc.any (· == x) = true := List.any_eq_true.mpr ⟨x, hx, by simp⟩
      rw [if_pos e]
      obtain ⟨h1, h2⟩ := ddI_go ns acc h
      refine ⟨h1, fun k => ?_⟩
      rw [h2]
      constructor
      · rintro (z | z)
        · exact .inl z
        · exact .inr (List.mem_cons_of_mem _ z)
      · rintro (z | z)
        · exact .inl z
        · rcases List.mem_cons.mp z with z | z
          · exact .inl (z ▸ hx)
          · exact .inr z
    · have e : acc.any (· == x) = false := by
        cases q : acc.any (· == x) with
        | false => rfl
        | true =>
          obtain ⟨y, hy, e⟩ := List.any_eq_true.mp q
          exact absurd (eq_of_beq e ▸ hy) hx
      rw [if_neg (by rw [e]; decide)]
      have nd : (acc ++ [x]).Nodup := by
        rw [List.nodup_append]
        exact ⟨h, by simp, fun a ha b hb => by simp at hb; subst hb; exact fun z => hx (z ▸ ha)⟩
      obtain ⟨h1, h2⟩ := ddI_go ns _ nd
      refine ⟨h1, fun k => ?_⟩
      rw [h2, List.mem_append, List.mem_singleton, List.mem_cons]
      constructor
      · rintro ((z | z) | z)
        · exact .inl z
        · exact .inr (.inl z)
        · exact .inr (.inr z)
      · rintro (z | z | z)
        · exact .inl (.inl z)
        · exact .inl (.inr z)
        · exact .inr z
theorem ddI_nodup (ns : List Int) : (ddI ns).Nodup := (ddI_go ns [] List.nodup_nil).1
theorem ddI_mem (ns : List Int) (k : Int) : k ∈ ddI ns ↔ k ∈ ns := by
  have := (ddI_go ns [] List.nodup_nil).2 k
  simpa [ddI] using this
open PySem.Spec PyProof.Rows in
theorem px_lenset {a : Expr} {q : Pos} (hg : Gl X "len") (hm : X.mg "len" = none) (hg2 : Gl X "set") (hm2 : X.mg "set" = none) (ha : PEo fn X a f) (hc : X.calm = true := by rfl)
    (na : starEach [a] X.env = (false, eval a X.env) :: starEach [] X.env := by rfl) : PEx fn X (.Call (.Name "len" p) [.Call (.Name "set" p2) [a] [] q] [] pos) (eFn lenSetD (aCons f aNil)) := by
  refine ⟨fun pins s σ H Q I ⟨H0, F0, bo, ρ, F, b, R, r, b', e, k⟩ => ?_⟩
  unfold eFn aCons aNil at e
  cases e1 : f ρ b with
  | none => simp [e1] at e
  | some p1 =>
    obtain ⟨d, b1⟩ := p1
    simp only [e1] at e
    refine Call_ (ld_blt I hg hm PySem.boot_len ?_)
    refine PyProof.Rows.callWith_builtin1 (PyProof.Rows.args_cons ?_ rfl) rfl rfl
    refine Call_ (ld_blt I hg2 hm2 PyProof.Rows.boot_set ?_)
    refine PyProof.Rows.callWith_type1 (PyProof.Rows.args_cons (thn (ha.run pins s σ H _ I ⟨H0, F0, bo, ρ, F, b, R, _, b1, e1, fun v1 F1 H1 g1 hb1 r1 => (⟨F1, g1, hb1, r1⟩ : ∃ F1, Grow bo F H F1 H1 ∧ BoxOk bo F1 H1 b1 ∧ RpO (pm X fn) bo F1 H1 d v1)⟩) fun v s1 ⟨x, H1, I1, rx, F1, g1, hb1, r1⟩ => PyProof.Rows.args_nil ?_) na) na rfl
    have fin : ∀ (ns : List Int) (h' : Heap) (tk : Nat), ns.length ≤ 4000 → r = .int (ddI ns).length → b1 = b' → h'.SetOf (intKind X.prog X.w) s1.heap.objs.size (fun k' => (ddI ns).any (· == k')) (ddI ns).length → (ddI ns).length ≤ 4000 → (∀ b o, b < s1.heap.objs.size → s1.heap.get? b = some o → h'.get? b = some o) →
        wpAny (model X.prog X.w) X.A (spliced (backTo pos (starEach [] X.env))) (fun vs s₂ => wpAny (model X.prog X.w) X.A (call (.builtin "len") (Value.ref s1.heap.objs.size :: vs)) (EP X pins σ Q) X.xe s₂) X.xe { s1 with heap := h', toks := tk } := fun ns h' tk hn er eb hS hl hk => by
      subst er eb
      refine PyProof.Rows.args_nil ?_
      obtain ⟨o, es, ep, t, ho, hex, hd, _, _, _, hf, hn'⟩ := hS
      have I2 : Inv X pins σ H1 { s1 with heap := h', toks := tk } := I1.kept fun b o e => hk b o (Heap.lt_size e) e
      exact call_len_set ho hex hd hf (by rw [hn']; omega) ⟨.int (ddI ns).length, H1, I2.tok _, ⟨_, by rw [hn']⟩, k _ F1 H1 g1 hb1 (by simp [Rp])⟩
    have dl : ∀ ns : List Int, (ddI ns).length ≤ ns.length := fun ns => by
      rw [← firstMet_dd]; exact PyProof.Rows.firstMet_length_le _ _
    unfold lenSetD at e
    split at e
    · rename_i er
      simp only [Option.some.injEq, Prod.mk.injEq] at e
      obtain ⟨rfl, rfl⟩ := e
      split at er
      · rename_i xs exs
        cases exs
        split at er
        · rename_i hl
          cases hi : intsD xs with
          | none => rw [hi] at er; cases er
          | some ns =>
            rw [hi] at er; cases er
            obtain ⟨l, vs, rfl, s1', z1, r1'⟩ := r1.lst
            rw [intsD_map hi] at r1'
            have hlen : ns.length = xs.length := by rw [intsD_map hi, List.length_map]
            have := r1'.ints
            subst this
            cases rx
            obtain ⟨its, rv, pl, hz⟩ := I1.list (SqL.of s1')
            have hl2 : its.toArray.size = ns.length := by rw [List.size_toArray, ← rv.length, List.length_map]
            refine call_set_list (I1.ok.hd hc) pl.isList (ns := ns) (by simpa using rv.ints) (by unfold scanBound; omega) fun h' tk hS hk => ?_
            rw [hl2, firstMet_dd] at hS
            exact fin ns h' tk (by omega) rfl rfl hS (by have := dl ns; omega) hk
        · cases er
      · rename_i xs exs
        cases exs
        split at er
        · rename_i hl
          cases hi : intsD xs with
          | none => rw [hi] at er; cases er
          | some ns =>
            rw [hi] at er; cases er
            obtain ⟨l, vs, rfl, s1', z1, r1'⟩ := r1.tup
            rw [intsD_map hi] at r1'
            have hlen : ns.length = xs.length := by rw [intsD_map hi, List.length_map]
            have := r1'.ints
            subst this
            cases rx
            obtain ⟨its, rv, pl, hz⟩ := I1.tuple s1'
            refine call_set_tupI (P := X.prog) (w := X.w) ns (I1.ok.hd hc) pl (by simpa using rv.ints) (by unfold scanBound; omega) fun h' tk c hS hcl hk => ?_
            obtain ⟨o, es, ep, t, ho, hx, hd, g, nd, hm', hb, hf, hn, _⟩ := id hS
            have hlen2 : c = (ddI ns).length := by
              have pm : (es.toList.map keyOf).Perm (ddI ns) := (List.perm_ext_iff_of_nodup nd (ddI_nodup ns)).mpr fun k => by
                rw [← hm', ddI_mem, decide_eq_true_iff]
              have := pm.length_eq
              rw [List.length_map, Array.length_toList] at this
              omega
            subst hlen2
            have hS2 := (hS.setOf (P := X.prog))
            have eS : (fun j => decide (j ∈ ns)) = fun k' => (ddI ns).any (· == k') := funext fun j => by
              rw [Bool.eq_iff_iff, decide_eq_true_iff, List.any_eq_true]
              constructor
              · exact fun h => ⟨j, (ddI_mem ns j).mpr h, by simp⟩
              · rintro ⟨y, hy, e⟩
                exact eq_of_beq e ▸ (ddI_mem ns y).mp hy
            rw [eS] at hS2
            exact fin ns h' tk (by omega) rfl rfl hS2 (by have := dl ns; omega) fun b o _ e => hk b o e
        · cases er
      · cases er
    · cases e
/-! ### several targets, some of them places of a list -/
def tQs (m : Pm) (qs : List Tq) : TGs := fun vs σ H Q => ∃ H0 F0 bo ρ F b, Rel m H0 F0 bo σ ρ F H b ∧ ∃ ds ρ' b', RpL m bo F H ds vs ∧ qAll qs ds ρ b = some (ρ', b') ∧ ∀ σ' F' H', Rel m H0 F0 bo σ' ρ' F' H' b' → FK F H F' H' → Q σ' H'
theorem pqs_nil : PGs X [] (tQs (pm X fn) []) := PGs.imp pgs_nil fun vs σ H Q ⟨H0, F0, bo, ρ, F, b, R, ds, ρ', b', r, e, q⟩ => by
  cases ds with
  | nil =>
    simp only [RpL] at r
    simp only [qAll, Option.some.injEq, Prod.mk.injEq] at e
    obtain ⟨rfl, rfl⟩ := e
    exact ⟨r, q σ F H R (FK.refl _ _)⟩
  | cons _ _ => simp [qAll] at e
theorem pqs_nm {i : Nat} {qs : List Tq} {es : List Expr} {x : Str} {px : Pos} (hN : X.N.Nodup) (hi : X.N[i]? = some x) (hx : Loc X.env.scope x) (h2 : PGs X es (tQs (pm X fn) qs)) (hf : X.fn x = true ∨ X.env.scope.names.lookup x = some .local := by first | exact .inl rfl | exact .inr rfl | assumption)
    (hs : (assignEach (.Name x px :: es) X.env).map (·.2) = assign (.Name x px) X.env :: (assignEach es X.env).map (·.2) := by rfl) : PGs X (.Name x px :: es) (tQs (pm X fn) (qNm i :: qs)) := PGs.imp (pgs_cons (pg_name hN hi hx hf) h2 hs) fun vs σ H Q ⟨H0, F0, bo, ρ, F, b, R, ds, ρ', b', r, e, q⟩ => by
  cases ds with
  | nil => simp [qAll] at e
  | cons d ds =>
    simp only [RpL] at r
    obtain ⟨v, t, rfl, r1, r2⟩ := r
    simp only [qAll, qNm] at e
    exact ⟨v, t, rfl, H0, F0, bo, _, F, b, R.set_frz r1, ds, ρ', b', r2, e, q⟩
theorem pqs_st {i : Nat} {qs : List Tq} {es : List Expr} {tpos : Pos} (ho : PE X o (tVar i)) (hi : PEx fn X c g) (h2 : PGs X es (tQs (pm X fn) qs))
    (ha : ∀ v, assign (.Subscript o c tpos) X.env v = (do
      let ov ← holding [v] (eval o X.env)
      let iv ← holding [v, ov] (eval c X.env)
      standAt tpos
      holding [v, ov, iv] (setItem ov iv v)
      release [v, ov, iv] []) := by intro _; rfl)
    (hs : (assignEach (.Subscript o c tpos :: es) X.env).map (·.2) = assign (.Subscript o c tpos) X.env :: (assignEach es X.env).map (·.2) := by rfl) : PGs X (.Subscript o c tpos :: es) (tQs (pm X fn) (qSt i g :: qs)) := PGs.imp (pgs_cons (pg_sub ho hi set_list ha) h2 hs) fun vs σ H Q ⟨H0, F0, bo, ρ, F, b, R, ds, ρ', b', r, e, q⟩ => by
  cases ds with
  | nil => simp [qAll] at e
  | cons d ds =>
    simp only [RpL] at r
    obtain ⟨v, t, rfl, r1, r2⟩ := r
    unfold qAll at e
    split at e
    · rename_i ρ1 b1 eq
      unfold qSt at eq
      split at eq
      · rename_i xs hρ
        split at eq
        · rename_i k b2 e2
          split at eq
          · rename_i j hj
            simp only [Option.some.injEq, Prod.mk.injEq] at eq
            obtain ⟨rfl, rfl⟩ := eq
            obtain ⟨a, h1, nf, nb, h0, us, hu, hz, ru⟩ := R.own i _ hρ
            refine ⟨v, t, rfl, _, h1, H0, F0, bo, ρ, F, b, R, .int k, _, e2, fun iv F2 H2 g2 hb2 r3 => ?_⟩
            simp only [Rp] at r3
            have R2 := R.grow g2 hb2
            obtain ⟨a', h1', nf', nb', h0', us, hu, hz, ru⟩ := R2.own i _ hρ
            rw [h1] at h1'; cases h1'
            refine ⟨a, us, k, j, rfl, r3, hu, by rw [ru.length]; exact hj, ?_⟩
            obtain ⟨R3, k3⟩ := R2.mut hρ h1 (d' := .lst (xs.set j d)) (o := .lst (us.set j v)) fun k3 => ⟨_, upd_same, by simpa using hz, (ru.set j (r1.fk (R.fkg g2))).fk k3⟩
            exact ⟨H0, F0, bo, _, F2, _, R3, ds, ρ', b', (r2.fk (R.fkg g2)).fk k3, e, fun σ' F' H' R' k' => q σ' F' H' R' (((R.fkg g2).trans k3).trans k')⟩
          · cases eq
        · cases eq
      · cases eq
    · cases e
theorem psx_parQ {ts es : List Expr} {qs : List Tq} {k : As} {k1 k2 : Nat} {pt pt2 : Pos} (hc : X.calm = true) (ha : PAs fn X es k) (hg : PGs X ts (tQs (pm X fn) qs)) (he : es.length = ts.length := by rfl) (hl : es.length ≤ 1000 := by decide)
    (hs : swapsWithSole [.Tuple ts k1 pt] (.Tuple es k2 pt2) pos.line X.env = pure false := by rfl) (hw : swappedStores [.Tuple ts k1 pt] (.Tuple es k2 pt2) X.env = pure none := by rfl)
    (h1 : (assignEach [.Tuple ts k1 pt] X.env).map (·.2) = [assign (.Tuple ts k1 pt) X.env] := by rfl) (hn : (assignEach ts X.env).length = ts.length := by rfl) (hst : (assignEach ts X.env).findIdx? (·.1) = none := by rfl) :
    PSx fn X (.Assign [.Tuple ts k1 pt] (.Tuple es k2 pt2) pos) (sPq k qs) := PS.imp (ps_asg (pe_tup ha.pa) (pg_tup hc hg hn hst) hs hw h1) fun D σ H h => by
  obtain ⟨H0, F0, bo, ρ, F, b, R, fl, ρ', b', e, q⟩ := h
  unfold sPq at e
  split at e
  · rename_i ds b1 e1
    split at e
    · rename_i ρ1 b2 e2
      cases e
      refine ⟨H0, F0, bo, ρ, F, b, R, ds, _, e1, fun v F1 H1 g1 hb1 r => ?_⟩
      have hz : v.length = es.length := by rw [r.length]; exact ha.len _ _ _ _ e1
      refine ⟨by rw [hz, sizeLine_eq]; omega, fun p hp => ?_⟩
      have R1 := R.grow g1 hb1
      have g2 : Grow bo F1 H1 F1 (upd H1 p (.tup v)) := Grow.alloc R1.wo hp
      have hb2 : BoxOk bo F1 (upd H1 p (.tup v)) _ := BoxOk.alloc R1.wo hp fun _ h => .inl h
      have R2 := R1.grow g2 hb2
      exact ⟨p, v, rfl, SqT.of upd_same, by rw [hz, he], H0, F0, bo, ρ, F1, b1, R2, ds, _, _, r.fk (R1.fkg g2), e2, fun σ' F' H' R' k' => q σ' F' H' R' (((R.fkg g1).trans (R1.fkg g2)).trans k')⟩
    · cases e
  · cases e
end
end Sv

set_option maxHeartbeats 4000000
/-! Sv16: xs += ys, xs a slot's list of its own. -/
namespace Sv
open PySem PySem.Spec L2
open PyProof.Rows hiding St
def sAugL (i : Nat) (f : Ex) : SS := fun ρ b => match ρ[i]? with
  | some (.own (.lst xs)) => match f ρ b with
    | some (.lst ys, b1) => if xs.length + ys.length ≤ sizeLine then some (.nx, ρ.set i (.own (.lst (xs ++ ys))), b1) else none
    | _ => none
  | _ => none
section
variable {fn : Nat → Option V} {X : Cx} {e : Expr} {pos : Pos} {f : Ex} {i : Nat}
theorem ip_of {op : Operator} {r : R2} (h : OpR X (inplaceOp op) r) : PIp X op r := by
  intro pins s σ H x y v u Q I rx ry q
  exact h pins s σ H x y v u Q I rx ry q
theorem psx_augL {x : Str} {pos' : Pos} (hN : X.N.Nodup) (hi : X.N[i]? = some x) (hx : Loc X.env.scope x) (he : PEx fn X e f) (hf : X.fn x = true ∨ X.env.scope.names.lookup x = some .local := by first | exact .inl rfl | exact .inr rfl | assumption) :
    PSx fn X (.AugAssign (.Name x pos') .Add e pos) (sAugL i f) := PS.imp (ps_aug hN hi hx he (ip_of iop_ext) hf) fun D σ H ⟨H0, F0, bo, ρ, F, b, R, fl, ρ', b', e, q⟩ => by
  unfold sAugL at e
  split at e
  · rename_i xs hx
    split at e
    · rename_i ys b1 e1
      split at e
      · rename_i hl
        cases e
        obtain ⟨a, h1, nf, nb, h0, us0, hu0, hz0, ru0⟩ := R.own i _ hx
        refine ⟨_, h1, H0, F0, bo, ρ, F, b, R, _, _, e1, fun w F1 H1 g1 hb1 r1 => ?_⟩
        have R1 := R.grow g1 hb1
        obtain ⟨a', h1', nf', nb', h0', us, hu, hz, ru⟩ := R1.own i _ hx
        rw [h1] at h1'; cases h1'
        simp only [Rp] at r1
        obtain ⟨a2, us2, rfl, f2, h2, z2, r3⟩ := r1
        have l1 := ru.length
        have l2 := r3.length
        refine ⟨a, a2, us, us2, rfl, rfl, hu, h2, by omega, ?_⟩
        obtain ⟨R2, k2⟩ := R1.mut hx h1 (d' := .lst (xs ++ ys)) (o := .lst (us ++ us2)) fun k2 => ⟨_, upd_same, by rw [List.length_append]; omega, (RpL.append ru r3).fk k2⟩
        have es : σ.set i (some (V.ref a)) = σ := by
          refine List.ext_getElem? fun j => ?_
          by_cases hj : j = i
          · subst hj
            obtain ⟨hl, e⟩ := List.getElem?_eq_some_iff.mp h1
            rw [List.getElem?_set_self hl, h1]
          · rw [List.getElem?_set_ne (fun e => hj e.symm)]
        rw [es]
        exact q σ F1 _ R2 ((R.fkg g1).trans k2)
      · cases e
    · cases e
  · cases e
/-- x ** y, small numbers -/
def opPow : D → D → Option D
  | .int i, .int j => if i.natAbs < 1000 ∧ 0 ≤ j ∧ j < 100 then some (.int (i ^ j.toNat)) else none
  | _, _ => none
theorem d_pow : OpR X (binaryOp .Pow) (rD2 (pm X fn) opPow) := by
  intro pins s σ H x y v u Q I rx ry h
  obtain ⟨bo, F, b, W, d, e, r, hd, he, hg, q⟩ := h
  unfold opPow at hg
  split at hg
  · split at hg
    · rename_i i j hc
      cases hg
      rw [hd.int] at rx; rw [he.int] at ry
      exact op_pow pins s σ H _ _ v u Q I rx ry ⟨i, j, rfl, rfl, ⟨by omega, by omega, by omega⟩, q (.int (i ^ j.toNat)) F H (Grow.refl W.dom) W.box (by simp [Rp])⟩
    · cases hg
  · cases hg
/-! ### any(xs) of numbers -/
theorem truth_ints {prog : Program} {w : World} {A : Around} {ns : List Int} {its : List Value} (e : L2.Vals (ns.map V.int) its) :
    TruthOf prog w A (fun i v => its.toArray[i]? = some v) (fun i => decide (ns.getD i 0 ≠ 0)) := fun i v s Q E hv hq => by
  have hv' : its[i]? = some v := by simpa using hv
  have hi := ints_of_vals e
  cases hn : ns[i]? with
  | none =>
    have hl := e.length
    rw [List.length_map] at hl
    obtain ⟨h1, _⟩ := List.getElem?_eq_some_iff.mp hv'
    rw [List.getElem?_eq_none_iff] at hn
    omega
  | some k =>
    obtain ⟨t, ht⟩ := hi.get i k hn
    rw [hv'] at ht
    cases ht
    have hg : ns.getD i 0 = k := by rw [List.getD_eq_getElem?_getD, hn]; rfl
    have hq' : Q (decide (ns.getD i 0 ≠ 0)) s := hq
    rw [hg] at hq'
    refine truthy_int ?_
    have : (k != 0) = decide (k ≠ 0) := by by_cases h : k = 0 <;> simp [h]
    rw [this]; exact hq'
theorem anyI_range : ∀ ns : List Int, (List.range ns.length).any (fun i => decide (ns.getD i 0 ≠ 0)) = ns.any fun k => decide (k ≠ 0)
  | [] => rfl
  | b :: bs => by
    rw [List.length_cons, List.range_succ_eq_map, List.any_cons, List.any_map, List.any_cons, ← anyI_range bs]
    all_goals rfl
def anyID : List D → Option D
  | [.lst xs] => (intsD xs).map fun ns => .bl (ns.any fun k => decide (k ≠ 0))
  | _ => none
theorem d_anyI (hc : X.calm = true) : CallR X (.builtin "any") (rDn (pm X fn) anyID) := by
  intro pins s σ H xs us Q I r h
  obtain ⟨bo, F, b, W, ds, d, hr, hg, q⟩ := h
  unfold anyID at hg
  split at hg
  · rename_i ds
    cases e : intsD ds with
    | none => rw [e] at hg; cases hg
    | some ns =>
      rw [e] at hg; cases hg
      obtain ⟨v, rfl, h1⟩ := hr.one
      obtain ⟨p, vs, rfl, s1, z1, r1⟩ := h1.lst
      rw [intsD_map e] at r1
      have := r1.ints
      subst this
      obtain ⟨its, rv, hl, _⟩ := I.list (SqL.of s1)
      rw [Vals.ref1 r]
      refine call_any_walk (iter_any hl.isList fun s₂ e2 st hne => ?_)
      subst e2
      refine ⟨_, _, _, _, _, _, _, rfl, Walks.list (A := X.A.in1) (I.ok.hd hc) _ p hne its.toArray, st, truth_ints rv, fun h' tk hk => ?_⟩
      refine ⟨.bl (ns.any fun k => decide (k ≠ 0)), H, I.kept fun b o eo => hk b o (fun hmem => ?_) (Heap.get?_push_of_some _ eo), ?_, same_o W q (by simp [Rp])⟩
      · rcases List.mem_cons.mp hmem with e1 | hmem
        · exact absurd (e1 ▸ Heap.lt_size eo) (Nat.lt_irrefl _)
        · cases hmem
      · show Value.bool _ = Value.bool _
        have hlen := rv.length
        rw [List.length_map] at hlen
        rw [← anyI_range, List.size_toArray, ← hlen]
  · cases hg
theorem b_anyI {e : Expr} {f : Ex} {pos p : Pos} (hm : X.mg "any" = none) (ha : PEo fn X e f) (hg : Gl X "any" := by rfl) (hc : X.calm = true := by rfl) (he : starEach [e] X.env = (false, eval e X.env) :: starEach [] X.env := by rfl) : PEx fn X (.Call (.Name "any" p) [e] [] pos) (eFn anyID (aCons f aNil)) :=
  px_fn (d_anyI hc) hg hm (by decide +kernel) (pao_cons ha pao_nil he) (by decide) (by decide) he rfl
end
end Sv

set_option maxHeartbeats 4000000
/-! Sv17: {k: v for .. in ..}. -/
namespace Sv
open PySem PySem.Spec L2
open PyProof.Rows hiding St
section
variable {X : Cx}
def tDc (m : Pm) (tkk : Bool) (wi : TI) (g : TG) (tt : TT) (tk tv : TE) (vs : List Nat) : TE := fun σ H Q => wi σ H fun J H1 => ∀ D, H1 D = none → ∃ W : Nat → Nat → Hp → Prop, (∃ k, W 0 k (upd H1 D (if tkk = true then DicO m D [] else HO.dK []))) ∧ ∀ i k H, W i k H →
  (J.stop i H ∧ Q (.ref D) H) ∨ (J.go i H ∧ ∃ Nx : Hp → Prop, (∀ H', Nx H' → ∃ k', k' < k ∧ W (i + 1) k' H') ∧ ∀ x H', J.yld i H x H' → g x (wipe σ vs) H' fun σ2 H2 => wipe σ2 vs = wipe σ vs ∧ tt σ2 H2 fun b H3 =>
    if b = true then tk σ2 H3 fun y H4 => tv σ2 H4 fun z H5 => ∃ bo F kvs kvs' kd dd, DAtW m bo F H5 kvs D ∧ Rp m bo F H5 kd y ∧ Rp m bo F H5 dd z ∧ dPut kvs kd dd = some kvs' ∧ ∀ ob, (FK F H5 F (upd H5 D ob) → Own m bo F (upd H5 D ob) (.dct kvs') D) → Nx (upd H5 D ob) else Nx H3)
theorem dc_core {pins : List (Addr × Obj)} {s : Shared} {σ : St} {H : Hp} {Q : VK} {kx vx tg iter : Expr} {ifs : List Expr} {scope : Scope} {own : List (Str × Nat)} {pos pos' : Pos} {wi : TI} {g : TG} {tt : TT} {tk tv : TE} {fn : Nat → Option V} {tkk : Bool} {use : Option (Value → Sem Unit)} {Qf : Value → Shared → Prop}
    (hu : X.A.units + 64 < cLine) (hc : X.calm = true) (hN : X.N.Nodup) (I : Inv X pins σ H s) (hi : PI X tg iter wi) (ok : BlkOk X.N X.env.scope scope own)
    (hg : ∀ (s : Shared) (H : Hp) (C : Addr) (cl : List (Str × Addr)) (fp : List Addr), PG (X.blk s H scope (compEnvC scope cl C X.env) fp) tg g) (ht : ∀ (s : Shared) (H : Hp) (C : Addr) (cl : List (Str × Addr)) (fp : List Addr), PTs (X.blk s H scope (compEnvC scope cl C X.env) fp) ifs tt)
    (he : ∀ (s : Shared) (H : Hp) (C : Addr) (cl : List (Str × Addr)) (fp : List Addr), PE (X.blk s H scope (compEnvC scope cl C X.env) fp) kx tk) (hv : ∀ (s : Shared) (H : Hp) (C : Addr) (cl : List (Str × Addr)) (fp : List Addr), PE (X.blk s H scope (compEnvC scope cl C X.env) fp) vx tv) (hs : ∀ x, foldedSetIterable iter X.env x = pure x)
    (h : tDc (pm X fn) tkk wi g tt tk tv (own.map (·.2)) σ H Q)
    (hRR : ∀ D C s' m H', Inv X pins σ H' s' → Q (.ref D) H' → s'.heap.Ns C m → FpOk X pins H' C → compPost (model X.prog X.w) X.A X.xe use Qf (.ref D) C (.ok .next) s') :
    wpAny (model X.prog X.w) X.A (comprehension (.DictComp kx vx [⟨tg, iter, ifs, 0⟩] scope pos) scope X.env pos' newDict false (eval iter X.env) use) Qf X.xe s := by
  have hfree : ∀ y ∈ scope.names, y.2 = .free → ∃ c, X.env.cells.lookup y.1 = some c := fun y hy e => by
    rcases ok.free y hy e with k | k
    · exact I.ok.has _ (.inl k)
    · exact I.ok.has _ (.inr k)
  refine wpAny_comprehension_free (use := use) rfl hs (closure_ok hfree) ok.kind (fun y hy e => by rw [ok.uniq y hy, e])
    (thn (hi.run pins s σ H _ I h) fun xv s1 hx => thn hx fun itv s2 h2 => ?_)
  obtain ⟨it, fp, tn, J, H2, e, I2, T, st2, f2, q⟩ := h2
  subst e
  refine wpAny_newObj_type (newEnv_comp ?_)
  generalize hD : s2.heap.objs.size = D
  have hDn : H2 D = none := I2.hok.fresh (Nat.le_of_eq hD)
  obtain ⟨W, ⟨m0, w0⟩, turn⟩ := q D hDn
  generalize he0 : (if tkk = true then DicO (pm X fn) D [] else HO.dK []) = e0 at w0
  -- the new list
  generalize hs3 : ({ s2 with heap := s2.heap.push { cls := .type "dict", dict := none, data := .dict #[] } } : Shared) = s3
  have I3 : Inv X pins σ (upd H2 D e0) s3 := by
    rw [← hs3]
    subst hD
    subst he0
    cases tkk with
    | false => exact I2.laid (a := s2.heap.objs.size) (t' := s2.toks) (fun _ _ q => Heap.get?_push_of_some _ q) (Nat.le_refl _) (dk_empty s2.heap I2.big)
    | true => exact I2.laid (a := s2.heap.objs.size) (t' := s2.toks) (fun _ _ q => Heap.get?_push_of_some _ q) (Nat.le_refl _) (dicT_empty rfl rfl s2.heap I2.big)
  have h3 : s3.heap = s2.heap.push { cls := .type "dict", dict := none, data := .dict #[] } := by rw [← hs3]
  have sz : ∀ b ∈ fp, b < s2.heap.objs.size := fun b hb => by
    obtain ⟨o, e, _⟩ := T.obj _ _ st2 b hb
    exact Heap.lt_size e
  have f3 : ∀ b ∈ fp, FpOk X pins (upd H2 D e0) b ∧ b < s3.heap.objs.size := fun b hb => by
    have hlt := sz b hb
    refine ⟨⟨?_, (f2 b hb).2⟩, by rw [h3, Heap.size_push]; exact Nat.lt_succ_of_lt hlt⟩
    rw [upd_ne (by rw [← hD]; exact Nat.ne_of_lt hlt)]
    exact (f2 b hb).1
  have st3 : tn 0 s3.heap := T.keep _ _ _ st2 fun b _ o e => by rw [h3]; exact Heap.get?_push_of_some _ e
  have I4 := block_start I3 ok hN f3
  have pg := hg s3 (upd H2 D e0) s3.heap.objs.size (cellsFrom (s3.heap.objs.size + 1) scope.names (cloFrom X.env.cells scope.names [])) fp
  have pt := ht s3 (upd H2 D e0) s3.heap.objs.size (cellsFrom (s3.heap.objs.size + 1) scope.names (cloFrom X.env.cells scope.names [])) fp
  have pv := hv s3 (upd H2 D e0) s3.heap.objs.size (cellsFrom (s3.heap.objs.size + 1) scope.names (cloFrom X.env.cells scope.names [])) fp
  have pe := he s3 (upd H2 D e0) s3.heap.objs.size (cellsFrom (s3.heap.objs.size + 1) scope.names (cloFrom X.env.cells scope.names [])) fp
  show codeAny _ _ (.compStart (.DictComp kx vx [⟨tg, iter, ifs, 0⟩] scope pos) 0 (.ref it) (.ref D) (compEnvC scope (cellsFrom (s3.heap.objs.size + 1) scope.names (cloFrom X.env.cells scope.names [])) s3.heap.objs.size X.env)) (compPost (model X.prog X.w) X.A X.xe use Qf (.ref D) s3.heap.objs.size) { s3 with heap := pushCells (s3.heap.push { cls := .type "dict", data := .dict #[] }) scope.names }
  have nfp : ∀ b ∈ fp, (upd H2 D e0) b = none := fun b hb => (f3 b hb).1.1
  generalize hce : compEnvC scope (cellsFrom (s3.heap.objs.size + 1) scope.names (cloFrom X.env.cells scope.names [])) s3.heap.objs.size X.env = ce at I4 pg pt pe pv ⊢
  have cL : ce.locals = s3.heap.objs.size := by subst hce; rfl
  generalize hH3 : upd H2 D e0 = H3 at I3 I4 pg pt pe pv w0 nfp f3
  generalize hs4 : ({ s3 with heap := pushCells (s3.heap.push { cls := .type "dict", data := .dict #[] }) scope.names } : Shared) = s4 at I4 ⊢
  have st4 : tn 0 s4.heap := T.keep _ _ _ st3 fun b _ o e => by rw [← hs4]; exact pushCells_keeps _ _ _ _ (Heap.get?_push_of_some _ e)
  have stat : ∀ {σ' : St} {H' : Hp} {s' : Shared}, Inv (X.blk s3 H3 scope ce fp) [] σ' H' s' → (∀ b ∈ fp, H' b = none) → ∀ b ∈ fp, FpOk (X.blk s3 H3 scope ce fp) [] H' b := fun {σ' H' s'} I' hn b hb =>
    ⟨hn b hb, (I'.ok.exf b hb).1, I'.ok.exfs b hb, .inl hb, fun x c e => (I'.ok.exf b hb).2 x c e, fun p hp => absurd (show p ∈ ([] : List (Addr × Obj)) ++ [] from hp) (by simp)⟩
  have loop : codeAny (model X.prog X.w) X.A (.compLoop (.DictComp kx vx [⟨tg, iter, ifs, 0⟩] scope pos) 0 (.ref it) (.ref D) ce) (compPost (model X.prog X.w) X.A X.xe use Qf (.ref D) s3.heap.objs.size) s4 := by
    refine compLoop_dict_any (fun n s' => ∃ i H', Inv (X.blk s3 H3 scope ce fp) [] (wipe σ (own.map (·.2))) H' s' ∧ tn i s'.heap ∧ (∀ b ∈ fp, H' b = none) ∧ W i n H') ?_ m0 ⟨0, H3, I4, st4, nfp, w0⟩
    rintro n s5 ⟨i, H5, I5, st5, n5, w5⟩
    rcases turn i n H5 w5 with ⟨stop, qq⟩ | ⟨go, Nx, hNx, step⟩
    · have td := T.done (X.blk s3 H3 scope ce fp) rfl rfl rfl hc i [] s5 _ H5 (fun _ _ => False) I5 (stat I5 n5) st5 stop
      refine thnF td fun r s6 ⟨hr, I6⟩ => ?_
      subst hr
      -- back in the def's context
      have I7 : Inv X pins σ H5 s6 := I3.call' (ch := fp) I6.os I6.base I6.hok I6.bare fun b hb => ⟨(f3 b hb).1.2.2.2.1, (f3 b hb).1.2.1, (f3 b hb).1.2.2.2.2.1, (f3 b hb).1.2.2.2.2.2⟩
      have nC : H5 s3.heap.objs.size = none := by
        have z : H5 ce.locals = none := I6.free
        rw [cL] at z
        exact z
      obtain ⟨m, hn, _⟩ := I6.loc
      have hn : s6.heap.Ns ce.locals m := hn
      rw [cL] at hn
      exact hRR D s3.heap.objs.size s6 m H5 I7 qq hn (I3.fpOk (Nat.le_refl _) nC)
    · have ti := T.item (X.blk s3 H3 scope ce fp) rfl rfl rfl hc i [] s5 _ H5 (fun _ _ => False) I5 (stat I5 n5) st5 go
      refine thnF ti fun r s6 ⟨u, hr, h6⟩ => ?_
      subst hr
      refine thnF h6 fun _ s7 ⟨x, H7, I7, r7, y7, st7, n7⟩ => ?_
      have I7' := I7.pinned (stat I7 n7) (T.obj _ _ st7)
      refine thnF (pg.run _ s7 _ H7 x u _ I7' r7 (step x H7 y7)) fun _ s8 ⟨σ8, H8, I8, hw8, q8⟩ => ?_
      refine thnF (pt.run _ s8 σ8 H8 _ I8 q8) fun b s9 ⟨H9, I9, q9⟩ => ?_
      -- the turn's end
      have fin : ∀ {s' : Shared} {H' : Hp}, Inv (X.blk s3 H3 scope ce fp) ([] ++ pinsAt fp s7.heap) σ8 H' s' → Nx H' → ∃ m, m < n ∧ ∃ i H', Inv (X.blk s3 H3 scope ce fp) [] (wipe σ (own.map (·.2))) H' s' ∧ tn i s'.heap ∧ (∀ b ∈ fp, H' b = none) ∧ W i m H' := fun {s' H'} I' nx => by
        obtain ⟨m', hm, w'⟩ := hNx H' nx
        have pin' : ∀ b ∈ fp, ∀ o, s7.heap.get? b = some o → s'.heap.get? b = some o ∧ H' b = none := fun b hb o e =>
          let z := I'.pin (b, o) (List.mem_append_right _ (List.mem_append_right _ (mem_pinsAt hb e)))
          ⟨z.1, z.2.1⟩
        have hl : (wipe σ (own.map (·.2))).length = σ8.length := by rw [← hw8, wipe_length]
        refine ⟨m', hm, i + 1, H', (I'.unpinned (pins := [])).weak hl (fun j v e => ?_), T.keep _ _ _ st7 fun b hb o e => (pin' b hb o e).1, fun b hb => ?_, w'⟩
        · rw [← hw8] at e
          exact (wipe_some e).1
        · obtain ⟨o, e, _⟩ := T.obj _ _ st7 b hb
          exact (pin' b hb o e).2
      cases b with
      | false =>
        simp only [Bool.false_eq_true, if_false] at q9 ⊢
        exact fin I9 q9
      | true =>
        simp only [if_true] at q9 ⊢
        refine thnF (pe.run _ s9 σ8 H9 _ I9 q9) fun y s10 ⟨yv, H10, I10, r10, q10⟩ => ?_
        refine thnF (pv.run _ s10 σ8 H10 _ I10 q10) fun z s11 ⟨zv, H11, I11, r11, bo, F, kvs, kvs', k, d, gd, h1, h2, e3, nx⟩ => ?_
        exact dd_dset (X := X.blk s3 H3 scope ce fp) (fn := fn) (by omega) I11 gd (.inl h1) r10 h2 r11 e3 fun ob s12 hob I12 => fin I12 (nx ob hob)
  exact codeAny_compStart_dict loop (T.self X.A 0 _ _ _ st4 loop)
end
/-! ### what it computes -/
def dcGo (g : Tg) (t : Tx) (fk fv : Ex) (ρ : Rho) : List D → List (D × D) → Bx → Option (List (D × D) × Bx)
  | [], kvs, b => some (kvs, b)
  | d :: ds, kvs, b => match g d ρ with
    | some ρ1 => match t ρ1 b with
      | some (true, b1) => match fk ρ1 b1 with
        | some (k, b2) => match fv ρ1 b2 with
          | some (v, b3) => match dPut kvs k v with
            | some kvs' => dcGo g t fk fv ρ ds kvs' b3
            | none => none
          | none => none
        | none => none
      | some (false, b1) => dcGo g t fk fv ρ ds kvs b1
      | none => none
    | none => none
/-- {k: v for .. in ..}; tk: the keys are tuples -/
def eDc (tk : Bool) (it : It) (g : Tg) (t : Tx) (fk fv : Ex) (vs : List Nat) : Ex := fun ρ b => match it ρ b with
  | some (ds, b1) => match dcGo g t fk fv (wipeR ρ vs) ds (if tk = true then [t0] else []) b1 with
    | some (kvs, b2) => some (.dct kvs, b2)
    | none => none
  | none => none
theorem dc_o {m : Pm} {tk : Bool} {it : It} {g : Tg} {t : Tx} {fk fv : Ex} {sl vs : List Nat} (hsl : ∀ i ∈ sl, i ∈ vs) {σ : St} {H : Hp} {Q : VK} (h : tEn m (eDc tk it g t fk fv vs) σ H Q) : tDc m tk (iEo m it) (gEx m sl g) (tTx m t) (tEx m fk) (tEx m fv) vs σ H Q := by
  obtain ⟨H0, F0, bo, ρ, F, b, R, r, b', e, q⟩ := h
  unfold eDc at e
  split at e
  · rename_i ds b1 e1
    split at e
    · rename_i kvs b2 e2
      cases e
      refine ⟨H0, F0, bo, ρ, F, b, R, ds, b1, e1, fun J F1 H1 g1 hb1 hz y D hD => ?_⟩
      have R1 := R.grow g1 hb1
      have W1 : Wo bo F1 H1 b1 := R1.wo
      have nD : ¬ inBox bo D := inBox_new W1 hD
      refine ⟨fun i mm H2 => mm = ds.length - i ∧ i ≤ ds.length ∧ ∃ F2 bb kv2, Grow bo F1 H1 F2 H2 ∧ BoxOk bo F2 H2 bb ∧ ¬ F2 D ∧ Own m bo F2 H2 (.dct kv2) D ∧ dcGo g t fk fv (wipeR ρ vs) (ds.drop i) kv2 bb = some (kvs, b'), ?_, ?_⟩
      · cases tk with
        | false =>
          obtain ⟨g0, hb0, nf0, ow0⟩ := new_dK (m := m) W1 hD
          exact ⟨_, rfl, Nat.zero_le _, F1, b1, [], g0, hb0, nf0, ow0, e2⟩
        | true =>
          obtain ⟨g0, hb0, nf0, ow0⟩ := new_dT (m := m) W1 hD
          exact ⟨_, rfl, Nat.zero_le _, F1, b1, [t0], g0, hb0, nf0, ow0, e2⟩
      rintro i mm H2 ⟨rfl, hi, F2, bb, kv2, g2, hb2, nF, ow, eg⟩
      obtain ⟨yy, yst⟩ := y F2 H2 bb g2 ⟨hb2, g2.dom⟩
      by_cases hlt : i < ds.length
      · refine .inr ?_
        obtain ⟨ygo, yyl⟩ := yy i ds[i] (List.getElem?_eq_getElem hlt)
        rw [List.drop_eq_getElem_cons hlt] at eg
        refine ⟨ygo, fun H3 => ∃ F2 bb kv2, Grow bo F1 H1 F2 H3 ∧ BoxOk bo F2 H3 bb ∧ ¬ F2 D ∧ Own m bo F2 H3 (.dct kv2) D ∧ dcGo g t fk fv (wipeR ρ vs) (ds.drop (i + 1)) kv2 bb = some (kvs, b'), fun H' hh => ⟨_, by omega, rfl, hlt, hh⟩, fun x H3 hy => ?_⟩
        obtain ⟨g3, hb3, rx⟩ := yyl x H3 hy
        have W2 : Wo bo F2 H2 bb := ⟨hb2, g2.dom⟩
        have R3 := ((R1.grow g2 hb2).grow g3 hb3).wipe vs
        obtain ⟨o2, hD2, mo2⟩ := ow.some
        have hD3 : H3 D = some o2 := g3.keep D _ hD2 nD
        unfold dcGo at eg
        split at eg
        · rename_i ρ1 e3
          refine ⟨H0, F0, bo, _, F2, bb, R3, _, ρ1, rx, e3, fun σ4 R4 w4 => ⟨w4 vs hsl |>.trans ?_, ?_⟩⟩
          · exact wipe_wipe fun i h => h
          split at eg
          · rename_i b3 e4
            refine ⟨H0, F0, bo, ρ1, F2, bb, R4, true, b3, e4, fun F5 H5 g5 hb5 => iteT ?_⟩
            split at eg
            · rename_i k b4 e5
              refine ⟨H0, F0, bo, ρ1, F5, b3, R4.grow g5 hb5, k, b4, e5, fun y F6 H6 g6 hb6 ry => ?_⟩
              split at eg
              · rename_i v b5 e6
                split at eg
                · rename_i kv3 e7
                  have R6 := (R4.grow g5 hb5).grow g6 hb6
                  refine ⟨H0, F0, bo, ρ1, F6, b4, R6, v, b5, e6, fun z F7 H7 g7 hb7 rz => ?_⟩
                  have g37 := ((g3.trans g5).trans g6).trans g7
                  have W3 : Wo bo F2 H3 bb := ⟨hb3, g3.dom⟩
                  have W6 : Wo bo F6 H6 b4 := ⟨hb6, g6.dom⟩
                  have hD7 : H7 D = some o2 := g37.keep D _ hD2 nD
                  have nF7 : ¬ F7 D := fun hf => by
                    rcases g37.new D hf with k | k
                    · exact nF k
                    · rw [hD2] at k; cases k
                  have ow7 : Own m bo F7 H7 (.dct kv2) D := ow.fk (W2.fk g37) (hD7.trans hD2.symm)
                  have gd : DAtW m bo F7 H7 kv2 D := by
                    rcases ow7 with ⟨ws, q1, q2⟩ | ⟨es, q1, q2⟩
                    · exact .k q1 q2
                    · exact .t q1 q2
                  have g17 := g2.trans g37
                  refine ⟨bo, F7, kv2, kv3, k, v, gd, ry.fk (W6.fk g7), rz, e7, fun ob hob => ?_⟩
                  have kk : FK F7 H7 F7 (upd H7 D ob) := FK.upd nF7 fun u hu' => by
                    rw [hD7] at hu'; cases hu'; exact mo2
                  refine ⟨F7, b5, kv3, ⟨fun c o ho hn => ?_, fun c ho => ?_, g17.sub, g17.new, fun c hc ho => ?_⟩, ?_, nF7, hob kk, eg⟩
                  · by_cases hcD : c = D
                    · subst hcD; rw [hD] at ho; cases ho
                    · rw [upd_ne hcD]; exact g17.keep c o ho hn
                  · by_cases hcD : c = D
                    · subst hcD; exact hD
                    · rw [upd_ne hcD] at ho; exact g17.free c ho
                  · by_cases hcD : c = D
                    · subst hcD; rw [upd_same] at ho; cases ho
                    · rw [upd_ne hcD] at ho; exact g17.dom c hc ho
                  · cases bo with
                    | none => trivial
                    | some pq =>
                      obtain ⟨p, q'⟩ := pq
                      obtain ⟨a1, a2, a3, a4, a5⟩ := hb7
                      exact ⟨a1, a2, a3, by rw [upd_ne fun e => nD (.inl e.symm)]; exact a4, by rw [upd_ne fun e => nD (.inr e.symm)]; exact a5⟩
                · cases eg
              · cases eg
            · cases eg
          · rename_i b3 e4
            refine ⟨H0, F0, bo, ρ1, F2, bb, R4, false, b3, e4, fun F5 H5 g5 hb5 => iteF ?_⟩
            have g35 := g3.trans g5
            have nF5 : ¬ F5 D := fun hf => by
              rcases g35.new D hf with k | k
              · exact nF k
              · rw [hD2] at k; cases k
            exact ⟨F5, b3, kv2, g2.trans g35, hb5, nF5, ow.fk (W2.fk g35) ((g35.keep D _ hD2 nD).trans hD2.symm), eg⟩
          · cases eg
        · cases eg
      · have ei : i = ds.length := by omega
        subst ei
        rw [List.drop_length] at eg
        cases eg
        exact .inl ⟨yst, q D F2 H2 (g1.trans g2) hb2 (g1.free D hD) nF ow⟩
    · cases e
  · cases e
section
variable {fn : Nat → Option V} {X : Cx} {pos : Pos}
theorem pn_dc {kx vx tg iter : Expr} {ifs : List Expr} {scope : Scope} {own : List (Str × Nat)} {it : It} {g : Tg} {t : Tx} {fk fv : Ex} {sl : List Nat} (tk : Bool) (hu : X.A.units + 64 < cLine) (hc : X.calm = true) (hN : X.N.Nodup) (hi : PIo fn X tg iter it) (ok : BlkOk X.N X.env.scope scope own)
    (hg : ∀ (s : Shared) (H : Hp) (C : Addr) (cl : List (Str × Addr)) (fp : List Addr), PGx fn (X.blk s H scope (compEnvC scope cl C X.env) fp) tg sl g)
    (ht : ∀ (s : Shared) (H : Hp) (C : Addr) (cl : List (Str × Addr)) (fp : List Addr), PTsx fn (X.blk s H scope (compEnvC scope cl C X.env) fp) ifs t)
    (hk : ∀ (s : Shared) (H : Hp) (C : Addr) (cl : List (Str × Addr)) (fp : List Addr), PEx fn (X.blk s H scope (compEnvC scope cl C X.env) fp) kx fk)
    (hv : ∀ (s : Shared) (H : Hp) (C : Addr) (cl : List (Str × Addr)) (fp : List Addr), PEx fn (X.blk s H scope (compEnvC scope cl C X.env) fp) vx fv)
    (hsl : ∀ i ∈ sl, i ∈ own.map (·.2) := by decide) (hs : ∀ x, foldedSetIterable iter X.env x = pure x := by intro _; rfl) :
    PEn fn X (.DictComp kx vx [⟨tg, iter, ifs, 0⟩] scope pos) (eDc tk it g t fk fv (own.map (·.2))) := by
  refine ⟨fun pins s σ H Q I h => ?_⟩
  rw [arm_eval_DictComp]
  refine dc_core (fn := fn) (tkk := tk) hu hc hN I hi ok hg ht hk hv hs (dc_o hsl h) fun D C s' m H' I' q hn f => ⟨m, hn, fun h'' sb => ?_⟩
  obtain ⟨f0, f1, f2, f3, f4, f5⟩ := f
  exact ⟨.ref D, H', I'.turned (t' := s'.toks) (fun b o hb e => (sb.2 b hb).trans e) f0 f1 f3 f4 f5, rfl, q⟩
theorem ps_setDc {i : Nat} {y : Str} {py : Pos} {kx vx tg iter : Expr} {ifs : List Expr} {scope : Scope} {own : List (Str × Nat)} {pos spos : Pos} {wi : TI} {g : TG} {tt : TT} {tk tv : TE} {fn : Nat → Option V} {tkk : Bool} (hu : X.A.units + 64 < cLine) (hc : X.calm = true) (hN : X.N.Nodup) (hy : X.N[i]? = some y) (hyl : X.env.scope.names.lookup y = some .local)
    (hsw : swapsWith (.DictComp kx vx [⟨tg, iter, ifs, 0⟩] scope pos) (some (.Name y py)) spos.line X.env = pure true) (hi : PI X tg iter wi) (ok : BlkOk X.N X.env.scope scope own)
    (hg : ∀ (s : Shared) (H : Hp) (C : Addr) (cl : List (Str × Addr)) (fp : List Addr), PG (X.blk s H scope (compEnvC scope cl C X.env) fp) tg g) (ht : ∀ (s : Shared) (H : Hp) (C : Addr) (cl : List (Str × Addr)) (fp : List Addr), PTs (X.blk s H scope (compEnvC scope cl C X.env) fp) ifs tt)
    (he : ∀ (s : Shared) (H : Hp) (C : Addr) (cl : List (Str × Addr)) (fp : List Addr), PE (X.blk s H scope (compEnvC scope cl C X.env) fp) kx tk) (hv : ∀ (s : Shared) (H : Hp) (C : Addr) (cl : List (Str × Addr)) (fp : List Addr), PE (X.blk s H scope (compEnvC scope cl C X.env) fp) vx tv) (hs : ∀ x, foldedSetIterable iter X.env x = pure x := by intro _; rfl) :
    PS X (.Assign [.Name y py] (.DictComp kx vx [⟨tg, iter, ifs, 0⟩] scope pos) spos) (tAsg (tDc (pm X fn) tkk wi g tt tk tv (own.map (·.2))) (gName i)) := by
  refine ⟨fun pins s σ H D I h => ?_⟩
  rw [exec_Assign_Name_used _ _ _ _ hsw]
  refine wpAny_bind (wpAny_standAt (wpAny_bind ?_))
  show wpAny _ X.A (do let _ ← comprehension (.DictComp kx vx [⟨tg, iter, ifs, 0⟩] scope pos) scope X.env (firstIterPos [⟨tg, iter, ifs, 0⟩] pos) newDict false (eval iter X.env) (some (assign (.Name y py) X.env))) _ _ s
  have h : tDc (pm X fn) tkk wi g tt tk tv (own.map (·.2)) σ H (fun x H1 => gName i x σ H1 D.nx) := h
  refine wpAny_bind (thn (dc_core (fn := fn) (tkk := tkk) (Qf := fun _ s' => SP X pins D .next s') hu hc hN I hi ok hg ht he hv hs h fun L C s' m H' I' q hn f => ?_) fun _ s' hq => wpAny_pure (wpAny_pure hq))
  show wpAny _ _ (assign (.Name y py) X.env (.ref L)) _ _ _
  refine wpAny_assign_Name (store_ok2 (v := V.ref L) I' hN hy (.inl hyl) rfl (fun s2 I2 ⟨a, sb, ha⟩ => ?_) (.inr hyl))
  obtain ⟨f0, f1, f2, f3, f4, f5⟩ := f
  have haC : C ≠ a := by
    rcases ha with z | z
    · rw [z]; exact f1
    · exact fun e => f4 y a z e.symm
  refine ⟨m, hn.sameBut sb haC, fun h3 sb3 => ?_⟩
  exact ⟨_, H', I2.turned (t' := s2.toks) (fun b o hb e => (sb3.2 b hb).trans e) f0 f1 f3 f4 f5, q⟩
theorem sw_trueD {kx vx : Expr} {gs : List Comprehension} {scope : Scope} {pos py : Pos} {y : Str} {l : Nat} {env : Env} (hk : env.scope.kind = .function) (hy : env.scope.names.lookup y = some .local) (hl : (py.line == pos.line) = true)
    (ha : (scope.names.any fun (n, k) => n == y && (k == .local || k == .cell)) = false) : swapsWith (.DictComp kx vx gs scope pos) (some (.Name y py)) l env = pure true := by
  have ky : env.kindOf y = some .local := hy
  have hb : env.blockKind = .function := by unfold Env.blockKind; rw [hk]; rfl
  unfold swapsWith
  simp only [hb, ky, ha, Expr.pos, hl]
  rfl
theorem psx_setDc {i : Nat} {y : Str} {py : Pos} {kx vx tg iter : Expr} {ifs : List Expr} {scope : Scope} {own : List (Str × Nat)} {spos : Pos} {it : It} {g : Tg} {sl : List Nat} {t : Tx} {fk fv : Ex} (tk : Bool) (hu : X.A.units + 64 < cLine) (hc : X.calm = true) (hN : X.N.Nodup) (hy : X.N[i]? = some y) (hyl : X.env.scope.names.lookup y = some .local)
    (hsw : swapsWith (.DictComp kx vx [⟨tg, iter, ifs, 0⟩] scope pos) (some (.Name y py)) spos.line X.env = pure true) (hi : PIo fn X tg iter it) (ok : BlkOk X.N X.env.scope scope own)
    (hg : ∀ (s : Shared) (H : Hp) (C : Addr) (cl : List (Str × Addr)) (fp : List Addr), PGx fn (X.blk s H scope (compEnvC scope cl C X.env) fp) tg sl g)
    (ht : ∀ (s : Shared) (H : Hp) (C : Addr) (cl : List (Str × Addr)) (fp : List Addr), PTsx fn (X.blk s H scope (compEnvC scope cl C X.env) fp) ifs t)
    (he : ∀ (s : Shared) (H : Hp) (C : Addr) (cl : List (Str × Addr)) (fp : List Addr), PEx fn (X.blk s H scope (compEnvC scope cl C X.env) fp) kx fk)
    (hv : ∀ (s : Shared) (H : Hp) (C : Addr) (cl : List (Str × Addr)) (fp : List Addr), PEx fn (X.blk s H scope (compEnvC scope cl C X.env) fp) vx fv)
    (hsl : ∀ i ∈ sl, i ∈ own.map (·.2) := by decide) (hs : ∀ x, foldedSetIterable iter X.env x = pure x := by intro _; rfl) :
    PSx fn X (.Assign [.Name y py] (.DictComp kx vx [⟨tg, iter, ifs, 0⟩] scope pos) spos) (sNew i (eDc tk it g t fk fv (own.map (·.2)))) :=
  PS.imp (ps_setDc (fn := fn) (tkk := tk) hu hc hN hy hyl hsw hi ok hg ht he hv hs) fun _ _ _ h => dc_o hsl (new_o h)
theorem psx_setDcF {i : Nat} {y : Str} {py : Pos} {kx vx tg iter : Expr} {ifs : List Expr} {scope : Scope} {own : List (Str × Nat)} {spos : Pos} {it : It} {g : Tg} {sl : List Nat} {t : Tx} {fk fv : Ex} (tk : Bool) (hu : X.A.units + 64 < cLine) (hc : X.calm = true) (hN : X.N.Nodup) (hy : X.N[i]? = some y) (hyl : X.env.scope.names.lookup y = some .local)
    (hsw : swapsWith (.DictComp kx vx [⟨tg, iter, ifs, 0⟩] scope pos) (some (.Name y py)) spos.line X.env = pure true) (hi : PIo fn X tg iter it) (ok : BlkOk X.N X.env.scope scope own)
    (hg : ∀ (s : Shared) (H : Hp) (C : Addr) (cl : List (Str × Addr)) (fp : List Addr), PGx fn (X.blk s H scope (compEnvC scope cl C X.env) fp) tg sl g)
    (ht : ∀ (s : Shared) (H : Hp) (C : Addr) (cl : List (Str × Addr)) (fp : List Addr), PTsx fn (X.blk s H scope (compEnvC scope cl C X.env) fp) ifs t)
    (he : ∀ (s : Shared) (H : Hp) (C : Addr) (cl : List (Str × Addr)) (fp : List Addr), PEx fn (X.blk s H scope (compEnvC scope cl C X.env) fp) kx fk)
    (hv : ∀ (s : Shared) (H : Hp) (C : Addr) (cl : List (Str × Addr)) (fp : List Addr), PEx fn (X.blk s H scope (compEnvC scope cl C X.env) fp) vx fv)
    (hsl : ∀ i ∈ sl, i ∈ own.map (·.2) := by decide) (hs : ∀ x, foldedSetIterable iter X.env x = pure x := by intro _; rfl) :
    PSx fn X (.Assign [.Name y py] (.DictComp kx vx [⟨tg, iter, ifs, 0⟩] scope pos) spos) (sSet i (eDc tk it g t fk fv (own.map (·.2)))) :=
  psx_frz (psx_setDc tk hu hc hN hy hyl hsw hi ok hg ht he hv hsl hs)

end
end Sv

set_option maxHeartbeats 4000000
/-! Sv18: d.get(k). -/
namespace Sv
open PySem PySem.Spec L2
open PyProof.Rows hiding St
def getD2 : List D → Option D
  | [.dct kvs, k] => (dGet kvs k).map fun o => o.getD .non
  | _ => none
section
variable {fn : Nat → Option V} {X : Cx} {A : Around} {E : Value → Shared → Prop} {s : Shared} {pins : List (Addr × Obj)} {σ : St} {H : Hp} {bo : Bo} {F : Addr → Prop}
theorem dd_get1 {kvs : List (D × D)} {a : Addr} {k : D} {o : Option D} {y : V} {u : Value} {Q : Value → Shared → Prop} (hu : A.units + 10 < cLine) (I : Inv X pins σ H s) (g : DAt (pmD X fn) bo F H kvs a) (hy : RpO (pmD X fn) bo F H k y) (ry : RelV y u) (hk : dGet kvs k = some o)
    (h : ∀ v w' s', Inv X pins σ H s' → RelV v w' → Rp (pmD X fn) bo F H (o.getD .non) v → Q w' s') : wpAny (model X.prog X.w) A (call (.builtin "dict.get") [.ref a, u]) Q E s := by
  rcases g with ⟨e, ra⟩ | ⟨e, rb⟩
  · rename_i ws
    rw [dGet_k ra.noT] at hk
    split at hk
    · rename_i hs
      obtain ⟨k', rfl⟩ := keyS_of hs
      obtain rfl := keyS_V hy
      cases hk
      refine d_get1 (by omega) I (dget_k e) ry fun w' s' I' rw' => h _ w' s' I' rw' ?_
      rcases ra.lk k' with ⟨e1, e2⟩ | ⟨d', v', e1, e2, rp⟩
      · rw [e1, e2]; simp [Rp]
      · rw [e1, e2]; exact rp
    · cases hk
  · rename_i es
    rw [dGet_t rb.cut.1] at hk
    split at hk
    · rename_i hs
      obtain ⟨n, h1, h2, h3⟩ := keyT_of hs
      obtain ⟨hy, b, rfl⟩ := keyT_ref hs hy
      cases (show u = Value.ref b from ry)
      cases hk
      obtain ⟨_, hd, dd⟩ := dic_of I e rb.cut.2.1
      refine call_meetsIn PySem.F.slot_dict_get dd.typeIs PySem.F.entry_dict_get (PySem.F.args_dict_get_2 _ _) (meetsH_dict_get (nestedKind X.prog X.w) a b hd) ⟨show A.units + 1 + 8 < cLine by omega, n, es, ⟨nested_of I k _ _ n h1 h2 hy rfl, h3⟩, dd, ?_⟩
      rcases rb.cut.2.1.lk h1 h2 with ⟨e1, e2⟩ | ⟨d', a', u', v', e1, e2, rv, rp⟩
      · rw [e2]
        exact h .non _ _ (I.tok _) rfl (by rw [e1]; simp [Rp])
      · rw [e2]
        exact h v' _ _ (I.tok _) rv (by rw [e1]; exact rp)
    · cases hk
end
section
variable {fn : Nat → Option V} {X : Cx} {o c : Expr} {pos : Pos} {f g : Ex}
theorem px_get1 {apos : Pos} (hu : X.A.units + 64 < cLine) (ho : PEo fn X o f) (hk : PEo fn X c g)(mm : M1 X o "get" apos c pos := by exact ⟨rfl, rfl, rfl, rfl⟩) : PEx fn X (.Call (.Attribute o "get" apos) [c] [] pos) (eFn getD2 (aCons f (aCons g aNil))) := by
  refine ⟨fun pins s σ H Q I ⟨H0, F0, bo, ρ, F, b, R, r, b', e, q⟩ => ?_⟩
  unfold eFn aCons aNil at e
  cases e1 : f ρ b with
  | none => simp [e1] at e
  | some p1 =>
    obtain ⟨d, b1⟩ := p1
    cases e2 : g ρ b1 with
    | none => simp [e1, e2] at e
    | some p2 =>
      obtain ⟨k, b2⟩ := p2
      · cases d with
        | dct kvs =>
          simp only [e1, e2, getD2] at e
          cases e4 : dGet kvs k with
          | none => rw [e4] at e; cases e
          | some od =>
            rw [e4] at e
            simp only [Option.map_some, Option.some.injEq, Prod.mk.injEq] at e
            obtain ⟨rfl, rfl⟩ := e
            refine wpAny_Call_method mm.base mm.few mm.line PySem.F.plainAttrs_dict PySem.F.slot_dict_get PySem.F.type_dict_get (thn (ho.run pins s σ H _ I ⟨H0, F0, bo, ρ, F, b, R, _, b1, e1, fun v1 F1 H1 g1 hb1 r1 => (⟨F1, g1, hb1, r1⟩ : ∃ F1, Grow bo F H F1 H1 ∧ BoxOk bo F1 H1 b1 ∧ RpO (pm X fn) bo F1 H1 (.dct kvs) v1)⟩) fun u s1 ⟨v1, H1, I1, rx, F1, g1, hb1, r1⟩ => ?_)
            obtain ⟨a, ea, gd⟩ := r1.dct
            subst ea
            obtain rfl : u = Value.ref a := rx
            have R1 := R.grow g1 hb1
            obtain ⟨t1, t2⟩ := gd.type I1
            refine ⟨t1, t2, ?_⟩
            rw [mm.trees]
            refine Calls.callWith_builtin rfl (Calls.evalArgs_plain (Calls.spliced_cons (thn (hk.run pins s1 σ H1 _ I1 ⟨H0, F0, bo, ρ, F1, b1, R1, _, b2, e2, fun v2 F2 H2 g2 hb2 r2 => (⟨F2, g2, hb2, r2⟩ : ∃ F2, Grow bo F1 H1 F2 H2 ∧ BoxOk bo F2 H2 b2 ∧ RpO (pm X fn) bo F2 H2 k v2)⟩) fun iv s2 ⟨v2, H2, I2, ry, F2, g2, hb2, r2⟩ =>
              Calls.spliced_nil ?_)))
            have r1' := (r1.grow R1.wo g2)
            obtain ⟨a', ea, gd3⟩ := r1'.dct
            cases ea
            exact dd_get1 (by omega) I2 gd3 r2 ry e4 fun v w' s' I' rw' rp => ⟨v, H2, I', rw', q v F2 H2 (g1.trans g2) hb2 rp⟩
        | _ => simp [e1, e2, getD2] at e
end
end Sv

set_option maxHeartbeats 4000000
/-! Sv19: sorted(d.items()), sorted(set(xs)). -/
namespace Sv
open PySem PySem.Spec L2 PySem.W
open PyProof.Rows hiding St
def sortItemsD : List D → Option D
  | [.dct kvs] => if sortOk (pairsD kvs) = true then some (.lst (sortL (pairsD kvs))) else none
  | _ => none
def sortSetD : List D → Option D
  | [.tup xs] => if xs.length ≤ 60 then (intsD xs).map fun ns => .lst (((ddI ns).mergeSort fun a b => decide (a ≤ b)).map .int) else none
  | _ => none
section
variable {X : Cx} {s : Shared} {pins : List (Addr × Obj)} {σ : St} {H : Hp} {bo : Bo} {F : Addr → Prop} {fn : Nat → Option V}
/-- so many pairs are new, at these places -/
def putP (H : Hp) (as : List Addr) (ks vs : List V) : Hp := fun b => if b ∈ as then some (.tup [ks.getD (as.idxOf b) .non, vs.getD (as.idxOf b) .non]) else H b
theorem putP_at {as : List Addr} {ks vs : List V} {j : Nat} {a : Addr} {k v : V} (nd : as.Nodup) (ha : as[j]? = some a) (hk : ks[j]? = some k) (hv : vs[j]? = some v) : putP H as ks vs a = some (.tup [k, v]) := by
  have hj := (List.getElem?_eq_some_iff.mp ha).1
  have he := (List.getElem?_eq_some_iff.mp ha).2
  have hi : as.idxOf a = j := by rw [← he]; exact nd.idxOf_getElem j hj
  unfold putP
  rw [if_pos (List.mem_of_getElem? ha), hi, List.getD_eq_getElem?_getD, List.getD_eq_getElem?_getD, hk, hv]
  rfl
theorem putP_off {as : List Addr} {ks vs : List V} {b : Addr} (h : b ∉ as) : putP H as ks vs b = H b := by unfold putP; rw [if_neg h]
theorem pairs_laid {h' : Heap} {tk : Nat} {es : Array DictEntry} {as : List Addr} {ks vs : List V} (I : Inv X pins σ H s) (hk : ∀ b o, s.heap.get? b = some o → h'.get? b = some o) (hl : as.length = es.size) (hG : DilG es s.heap.objs.size h' as)
    (v1 : Vals ks (es.toList.map (·.key))) (v2 : Vals vs (es.toList.map (·.val))) : as.Nodup ∧ (∀ t ∈ as, H t = none) ∧ Inv X pins σ (putP H as ks vs) { s with heap := h', toks := tk } := by
  have nd : as.Nodup := List.Pairwise.imp (fun {a b} (h : a < b) => Nat.ne_of_lt h) hG.rise
  have new : ∀ t ∈ as, H t = none := fun t ht => I.hok.fresh (Nat.le_of_lt (hG.above t ht))
  have kp : ∀ b u, H b = some u → putP H as ks vs b = some u := fun b u e => by
    rw [putP_off fun z => by rw [new b z] at e; cases e]
    exact e
  refine ⟨nd, new, I.call' (ch := []) rfl ⟨fun b o q _ _ _ => hk b o q, fun b o q _ _ _ => ⟨o.slots, hk b o q⟩, fun b o q n _ => ?_, fun b o q _ => ⟨o, hk b o q⟩, fun b xs q => kp b _ q, fun b o u q => kp b _ q, fun b ps q => ⟨#[], by rw [kp b _ q]; simp⟩⟩ (fun b u q => ?_) I.bare fun b z => by simp at z⟩
  · rw [putP_off fun z => absurd (Heap.lt_size q) (Nat.not_lt.mpr (Nat.le_of_lt (hG.above b z)))]
    exact n
  · by_cases hb : b ∈ as
    · obtain ⟨j, hj⟩ := List.mem_iff_getElem?.mp hb
      obtain ⟨hj2, f3⟩ := hG.pairs j b hj
      have l1 : ks.length = es.size := by have := v1.length; simpa using this
      have l2 : vs.length = es.size := by have := v2.length; simpa using this
      have e1 : ks[j]? = some ks[j] := List.getElem?_eq_getElem (by omega)
      have e2 : vs[j]? = some vs[j] := List.getElem?_eq_getElem (by omega)
      rw [putP_at nd hj e1 e2] at q
      cases q
      obtain ⟨u1, g1, r1⟩ := v1.get e1
      obtain ⟨u2, g2, r2⟩ := v2.get e2
      rw [List.getElem?_map, Array.getElem?_toList, Array.getElem?_eq_getElem hj2] at g1 g2
      cases g1
      cases g2
      exact ⟨by show 2 ≤ sizeLine; decide, [es[j].key, es[j].val], .cons r1 (.cons r2 .nil), ⟨_, f3, rfl, _, rfl⟩⟩
    · rw [putP_off hb] at q
      exact (I.hok b u q).stay (fun d v _ y => hk d v y) (fun d y => kp d _ y) fun d xs y => kp d _ y
theorem box_keep {H' : Hp} {b : Bx} (h : BoxOk bo F H b) (k : ∀ c o, H c = some o → H' c = some o) : BoxOk bo F H' b := by
  match bo, h with
  | none, _ => trivial
  | some (x, y), ⟨h1, h2, h3, h4, h5⟩ => exact ⟨h1, h2, h3, k _ _ h4, k _ _ h5⟩
/-- the pairs, as data -/
theorem pairs_rp {m : Pm} {H' : Hp} : ∀ {rows : List (D × D)} {as : List Addr} {ks vs : List V}, RpL m bo F H' (rows.map (·.1)) ks → RpL m bo F H' (rows.map (·.2)) vs → as.length = rows.length →
    (∀ (j : Nat) a k v, as[j]? = some a → ks[j]? = some k → vs[j]? = some v → H' a = some (.tup [k, v])) → RpL m bo F H' (rows.map fun kv => .tup [kv.1, kv.2]) (as.map V.ref)
  | [], as, ks, vs, _, _, hl, _ => by
    cases as with
    | nil => simp [RpL]
    | cons a as => simp at hl
  | (k, d) :: rows, as, ks, vs, h1, h2, hl, h => by
    cases as with
    | nil => simp at hl
    | cons a as =>
      simp only [List.map_cons, RpL] at h1 h2 ⊢
      obtain ⟨k', ks', rfl, r1, h1⟩ := h1
      obtain ⟨v', vs', rfl, r2, h2⟩ := h2
      refine ⟨_, _, rfl, ?_, pairs_rp h1 h2 (by simpa using hl) fun j a k v e1 e2 e3 => h (j + 1) a k v (by simpa using e1) (by simpa using e2) (by simpa using e3)⟩
      simp only [Rp]
      exact ⟨a, [k', v'], rfl, .inl (.inl (h 0 a k' v' rfl rfl rfl)), by show 2 ≤ sizeLine; decide, by
        simp only [RpL]
        exact ⟨_, _, rfl, r1, _, _, rfl, r2, rfl⟩⟩
theorem vals_ref : ∀ as : List Addr, Vals (as.map V.ref) (as.map Value.ref)
  | [] => .nil
  | _ :: as => .cons rfl (vals_ref as)
theorem rpL_ints {m : Pm} : ∀ ms : List Int, RpL m bo F H (ms.map .int) (ms.map V.int)
  | [] => by simp [RpL]
  | i :: ms => by
    simp only [List.map_cons, RpL]
    exact ⟨_, _, rfl, by simp [Rp], rpL_ints ms⟩
variable {o : Expr} {f : Ex} {pos p q apos : Pos}
theorem pn_sortItems (hg : Gl X "sorted") (hm : X.mg "sorted" = none) (hu : X.A.units + 64 < cLine) (ho : PEo fn X o f) (hc : X.calm = true := by rfl) (hbase : attributeBase o "items" X.env (eval o X.env) = eval o X.env := by rfl) (hline : (apos.endLine == q.line) = true := by rfl)
    (na : starEach [.Call (.Attribute o "items" apos) [] [] q] X.env = (false, eval (.Call (.Attribute o "items" apos) [] [] q) X.env) :: starEach [] X.env := by rfl) : PEn fn X (.Call (.Name "sorted" p) [.Call (.Attribute o "items" apos) [] [] q] [] pos) (eFn sortItemsD (aCons f aNil)) := by
  refine ⟨fun pins s σ H Q I ⟨H0, F0, bo, ρ, F, b, R, r, b', e, k⟩ => ?_⟩
  unfold eFn aCons aNil at e
  cases e1 : f ρ b with
  | none => simp [e1] at e
  | some p1 =>
    obtain ⟨d, b1⟩ := p1
    simp only [e1] at e
    cases d with
    | dct kvs =>
      simp only [sortItemsD] at e
      split at e
      · rename_i r' er
        split at er
        · rename_i ok
          cases er
          cases e
          refine Call_ (ld_blt I hg hm PyProof.Rows.boot_sorted ?_)
          refine PyProof.Rows.callWith_builtin1 (PyProof.Rows.args_cons ?_ na) rfl rfl
          refine wpAny_Call_method (T := "dict") (id := "dict.items") hbase rfl hline PySem.F.plainAttrs_dict PySem.F.slot_dict_items PySem.F.type_dict_items (thn (ho.run pins s σ H _ I ⟨H0, F0, bo, ρ, F, b, R, _, b', e1, fun v1 F1 H1 g1 hb1 r1 => (⟨F1, g1, hb1, r1⟩ : ∃ F1, Grow bo F H F1 H1 ∧ BoxOk bo F1 H1 b' ∧ RpO (pm X fn) bo F1 H1 (.dct kvs) v1)⟩) fun u s1 ⟨v1, H1, I1, rx, F1, g1, hb1, r1⟩ => ?_)
          obtain ⟨a, ea, gd⟩ := r1.dct
          subst ea
          obtain rfl : u = Value.ref a := rx
          have R1 := R.grow g1 hb1
          obtain ⟨t1, t2⟩ := gd.type I1
          obtain ⟨hd, es, ep, raw, hsz, hrl, ks, vs, c1, c2, w1, w2⟩ := gd.walk I1
          refine ⟨t1, t2, ?_⟩
          show wpAny _ _ (callWith q (.builtin "dict.items") [.ref a] [] []) _ X.xe s1
          refine method_meetsIn PySem.F.slot_dict_items PySem.F.entry_dict_items rfl (PySem.evalArgs_none ⟨rfl, t1, PySem.F.args_dict_items_1 _, _, meets_dict_items_raw a hd, ⟨⟨es, ep, raw⟩, ?_⟩⟩)
          have I2 : Inv X pins σ H1 { s1 with heap := s1.heap.push { cls := .type "dict_items", data := .fields #[.ref a] } } := I1.kept (t' := s1.toks) fun b ob q => Heap.get?_push_of_some _ q
          refine PyProof.Rows.args_nil ?_
          refine sorted_col fun E' => dil_collect (I1.ok.hd hc) ⟨_, Heap.get?_push_size _ rfl, rfl, rfl⟩ (raw.push _) hsz fun h' tk as hk hl hG => ?_
          obtain ⟨nd, new, I3⟩ := pairs_laid (tk := tk) I2 hk hl hG w1 w2
          have off : ∀ b, H1 b ≠ none → b ∉ as := fun b e z => e (new b z)
          have g3 : Grow bo F1 H1 F1 (putP H1 as ks vs) := ⟨fun c u e _ => by rw [putP_off (off c (by rw [e]; simp))]; exact e, fun c e => by
            by_cases hc : c ∈ as
            · exact new c hc
            · rw [putP_off hc] at e; exact e, fun c h => h, fun c h => .inl h, fun c h => by rw [putP_off (off c (R1.core.dom c h))]; exact R1.core.dom c h⟩
          have hb3 : BoxOk bo F1 (putP H1 as ks vs) b' := box_keep hb1 fun c o e => by rw [putP_off (off c (by rw [e]; simp))]; exact e
          have W3 : Wo bo F1 (putP H1 as ks vs) b' := ⟨hb3, g3.dom⟩
          have fk := g3.fk hb1 R1.core.dom
          have cp := pairs_rp (c1.mono (fun _ _ h => h) fk) (c2.mono (fun _ _ h => h) fk) (by rw [hl, hrl]) fun j a k v e1 e2 e3 => putP_at (H := H1) nd e1 e2 e3
          have hal : (as.map V.ref).length ≤ sizeLine := by rw [List.length_map, hl]; exact hsz
          exact ⟨by rw [List.length_map, hl]; exact hsz, fun E'' => sort_run (s := { s1 with heap := h', toks := tk }) hu I3 W3 cp (vals_ref as) hal ok fun l F4 H4 g4 hb4 fr nf ow => k l F4 H4 (g1.trans (g3.trans g4)) hb4 (g1.free _ (g3.free _ fr)) nf ow⟩
        · cases er
      · cases e
    | _ => simp [sortItemsD] at e
/-- the sorted list of so many numbers -/
theorem sortI_eq {ns ms : List Int} (hs : ms.Pairwise (· < ·)) (hm : ∀ k, k ∈ ms ↔ k ∈ ns) : ms = (ddI ns).mergeSort fun a b => decide (a ≤ b) := by
  have nd : ms.Nodup := hs.imp fun h e => by omega
  have pm : ms.Perm (ddI ns) := (List.perm_ext_iff_of_nodup nd (ddI_nodup ns)).mpr fun k => by rw [hm, ddI_mem]
  have ps := List.pairwise_mergeSort (le := fun a b : Int => decide (a ≤ b)) (fun a b c h1 h2 => by simp only [decide_eq_true_iff] at *; omega) (fun a b => by simp only [Bool.or_eq_true, decide_eq_true_iff]; omega) (ddI ns)
  refine List.Perm.eq_of_pairwise (le := fun a b => decide (a ≤ b) = true) (fun a b _ _ h1 h2 => ?_) (hs.imp fun h => decide_eq_true (by omega)) ps (pm.trans (List.mergeSort_perm _ _).symm)
  simp only [decide_eq_true_iff] at h1 h2
  omega
theorem pn_sortSet {a : Expr} {p2 : Pos} (hg : Gl X "sorted") (hm : X.mg "sorted" = none) (hg2 : Gl X "set") (hm2 : X.mg "set" = none) (ha : PEo fn X a f) (hc : X.calm = true := by rfl)
    (na : starEach [a] X.env = (false, eval a X.env) :: starEach [] X.env := by rfl) : PEn fn X (.Call (.Name "sorted" p) [.Call (.Name "set" p2) [a] [] q] [] pos) (eFn sortSetD (aCons f aNil)) := by
  refine ⟨fun pins s σ H Q I ⟨H0, F0, bo, ρ, F, b, R, r, b', e, k⟩ => ?_⟩
  unfold eFn aCons aNil at e
  cases e1 : f ρ b with
  | none => simp [e1] at e
  | some p1 =>
    obtain ⟨d, b1⟩ := p1
    simp only [e1] at e
    cases d with
    | tup xs =>
      simp only [sortSetD] at e
      split at e
      · rename_i r' er
        split at er
        · rename_i hl
          cases hi : intsD xs with
          | none => rw [hi] at er; cases er
          | some ns =>
            rw [hi] at er
            cases er
            cases e
            refine Call_ (ld_blt I hg hm PyProof.Rows.boot_sorted ?_)
            refine PyProof.Rows.callWith_builtin1 (PyProof.Rows.args_cons ?_ rfl) rfl rfl
            refine Call_ (ld_blt I hg2 hm2 PyProof.Rows.boot_set ?_)
            refine PyProof.Rows.callWith_type1 (PyProof.Rows.args_cons (thn (ha.run pins s σ H _ I ⟨H0, F0, bo, ρ, F, b, R, _, b', e1, fun v1 F1 H1 g1 hb1 r1 => (⟨F1, g1, hb1, r1⟩ : ∃ F1, Grow bo F H F1 H1 ∧ BoxOk bo F1 H1 b' ∧ RpO (pm X fn) bo F1 H1 (.tup xs) v1)⟩) fun v s1 ⟨x, H1, I1, rx, F1, g1, hb1, r1⟩ => PyProof.Rows.args_nil ?_) na) na rfl
            obtain ⟨l, vs, rfl, s1', z1, r1'⟩ := r1.tup
            rw [intsD_map hi] at r1'
            have hlen : ns.length = xs.length := by rw [intsD_map hi, List.length_map]
            have := r1'.ints
            subst this
            cases rx
            obtain ⟨its, rv, pl, hz⟩ := I1.tuple s1'
            refine call_set_tupI (P := X.prog) (w := X.w) ns (I1.ok.hd hc) pl (by simpa using rv.ints) (by unfold scanBound; omega) fun h' tk c hS hcl hk => ?_
            refine PyProof.Rows.args_nil ?_
            have I2 : Inv X pins σ H1 { s1 with heap := h', toks := tk } := I1.kept hk
            refine sorted_set (P := X.prog) hS (I2.ok.hd hc) (by omega) fun s' l2 out c' ms kk g o hp hg' hi' hs hm' hl2 => ?_
            have e2 : ms = (ddI ns).mergeSort fun a b => decide (a ≤ b) := sortI_eq hs fun k => by rw [hm', decide_eq_true_iff]
            have hn : H1 l2 = none := I2.hok.fresh hp
            have W1 : Wo bo F1 H1 b' := ⟨hb1, g1.dom⟩
            have hml : (ms.map V.int).length ≤ sizeLine := by rw [List.length_map, hl2, sizeLine_eq]; omega
            have rms : RpL (pm X fn) bo F1 H1 (ms.map .int) (ms.map V.int) := rpL_ints ms
            obtain ⟨g', hb', nf, rr⟩ := new_own W1 hn rms hml
            have J : Inv X pins σ (upd H1 l2 (.lst (ms.map V.int))) { ({ s1 with heap := h', toks := tk } : Shared) with heap := s'.heap, gens := s'.gens, drawn := s'.drawn, toks := s'.toks } :=
              I2.call (ch := []) (Un.laid kk hp hn) (I2.hok.laid kk hp ⟨hml, out.toList, c', vals_of_ints hi', hg'⟩) (by rw [g]; exact I2.bare) (fun _ z => nomatch z)
            have es : s' = { ({ s1 with heap := h', toks := tk } : Shared) with heap := s'.heap, gens := s'.gens, drawn := s'.drawn, toks := s'.toks } := by
              cases s'
              cases s1
              cases o
              rfl
            rw [es]
            exact ⟨.ref l2, _, J, rfl, k _ F1 _ (g1.trans g') hb' (g1.free _ hn) nf (by
              show Own _ _ _ _ (D.lst (List.map D.int ((ddI ns).mergeSort fun a b => decide (a ≤ b)))) _
              rw [← e2]; exact rr)⟩
        · cases er
      · cases e
    | _ => simp [sortSetD] at e
end
end Sv

set_option maxHeartbeats 4000000
/-! Sv20: a dict walked by keys, by values; d.update(e). -/
namespace Sv
open PySem PySem.Spec L2
open PyProof.Rows hiding St
def iKeys (f : Ex) : It := fun ρ b => match f ρ b with
  | some (.dct kvs, b1) => some (keysD kvs, b1)
  | _ => none
def iVals (f : Ex) : It := fun ρ b => match f ρ b with
  | some (.dct kvs, b1) => some (valsD kvs, b1)
  | _ => none
/-- a locked thing at d, one of ks a turn -/
def ItV (d : Addr) (o : Obj) (u : HO) (ks : List V) : L2.It :=
  ⟨fun i H => H d = some (.frz o u) ∧ i < ks.length, fun i H x H' => H' = H ∧ ks[i]? = some x, fun i H => H d = some (.frz o u) ∧ ks.length ≤ i⟩
section
variable {P : Program} {w : World} {K : PySem.W.Frag} {tg : Expr} {d : Addr} {o : Obj} {u : HO} {es : Array DictEntry} {ep : Nat} {ks : List V}
theorem raw_of {X : Cx} {pins : List (Addr × Obj)} {σ : St} {H : Hp} {s : Shared} (I : Inv X pins σ H s) (hx : o.ExactDict) (hod : o.data = .dict es ep) (h : H d = some (.frz o u)) : s.heap.DictRaw d es ep := ⟨o, (I.hok d _ h).1, hx, hod⟩
theorem at_of (v1 : Vals ks (es.toList.map (·.key))) {i : Nat} (hi : i < ks.length) : ∃ (h : i < es.size), RelV ks[i] es[i].key := by
  have l1 : ks.length = es.size := by have := v1.length; simpa using this
  have hi2 : i < es.size := by omega
  refine ⟨hi2, ?_⟩
  obtain ⟨x, e, r⟩ := v1.get (List.getElem?_eq_getElem hi)
  rw [List.getElem?_map, Array.getElem?_toList, Array.getElem?_eq_getElem hi2] at e
  cases e
  exact r
theorem turn_lockK (it : Addr) (hx : o.ExactDict) (hod : o.data = .dict es ep) (v1 : Vals ks (es.toList.map (·.key))) : Turn P w K tg (ItV d o u ks) [it] it (fun i h => h.IsKeyIter it d i es.size ep) where
  mem := by simp
  obj := fun i h st b hb => by
    have e : b = it := by simpa using hb
    subst e
    obtain ⟨oi, e, c, dd⟩ := st
    exact ⟨oi, e, fun v z => by rw [dd] at z; cases z⟩
  keep := fun i h h' st k => st.at fun oi e => k it (by simp) oi e
  item := by
    intro X hP hw hK hc i pins s σ H E I hf st hg
    subst hP hw hK
    obtain ⟨hd, hi⟩ := hg
    obtain ⟨f0, f1, f2, f3, f4, f5⟩ := hf it (by simp)
    obtain ⟨hi2, rv⟩ := at_of v1 hi
    refine next_key_item st (I.hok d _ hd).1 hod rfl (Array.getElem?_eq_getElem hi2) fun h' st' sb => ?_
    have I1 : Inv X pins σ H { s with heap := h' } := I.turned (t' := s.toks) (fun b ob hb e => (sb.2 b hb).trans e) f0 f1 f3 f4 f5
    obtain ⟨oi, e, c, dd⟩ := id st'
    exact ⟨_, rfl, go_of (s := { s with heap := h' }) e c dd (by decide) ⟨ks[i], H, I1, rv, ⟨rfl, List.getElem?_eq_getElem hi⟩, st', fun b hb => (hf b hb).1⟩⟩
  done := by
    intro X hP hw hK hc i pins s σ H E I hf st hg
    subst hP hw hK
    obtain ⟨hd, hi⟩ := hg
    obtain ⟨f0, f1, f2, f3, f4, f5⟩ := hf it (by simp)
    have l1 : ks.length = es.size := by have := v1.length; simpa using this
    exact next_key_end (I.ok.hd hc) st (I.hok d _ hd).1 hod rfl (by omega) fun h' eb => ⟨rfl, I.turned (t' := s.toks) (fun b ob hb e => eb b ob hb e) f0 f1 f3 f4 f5⟩
  self := fun A i s Q E st h => wpAny_pyIter_keyiter st h
theorem at_ofV (v1 : Vals ks (es.toList.map (·.val))) {i : Nat} (hi : i < ks.length) : ∃ (h : i < es.size), RelV ks[i] es[i].val := by
  have l1 : ks.length = es.size := by have := v1.length; simpa using this
  have hi2 : i < es.size := by omega
  refine ⟨hi2, ?_⟩
  obtain ⟨x, e, r⟩ := v1.get (List.getElem?_eq_getElem hi)
  rw [List.getElem?_map, Array.getElem?_toList, Array.getElem?_eq_getElem hi2] at e
  cases e
  exact r
theorem turn_lockV (it : Addr) (hx : o.ExactDict) (hod : o.data = .dict es ep) (v1 : Vals ks (es.toList.map (·.val))) : Turn P w K tg (ItV d o u ks) [it] it (fun i h => h.IsValIter it d i es.size ep) where
  mem := by simp
  obj := fun i h st b hb => by
    have e : b = it := by simpa using hb
    subst e
    obtain ⟨oi, e, c, dd⟩ := st
    exact ⟨oi, e, fun v z => by rw [dd] at z; cases z⟩
  keep := fun i h h' st k => st.at fun oi e => k it (by simp) oi e
  item := by
    intro X hP hw hK hc i pins s σ H E I hf st hg
    subst hP hw hK
    obtain ⟨hd, hi⟩ := hg
    obtain ⟨f0, f1, f2, f3, f4, f5⟩ := hf it (by simp)
    obtain ⟨hi2, rv⟩ := at_ofV v1 hi
    refine wpAny_pyNext_values_item_raw st (raw_of I hx hod hd) hi2 fun h' st' sb => ?_
    have I1 : Inv X pins σ H { s with heap := h' } := I.turned (t' := s.toks) (fun b ob hb e => (sb.2 b hb).trans e) f0 f1 f3 f4 f5
    obtain ⟨oi, e, c, dd⟩ := id st'
    exact ⟨_, rfl, go_of (s := { s with heap := h' }) e c dd (by decide) ⟨ks[i], H, I1, rv, ⟨rfl, List.getElem?_eq_getElem hi⟩, st', fun b hb => (hf b hb).1⟩⟩
  done := by
    intro X hP hw hK hc i pins s σ H E I hf st hg
    subst hP hw hK
    obtain ⟨hd, hi⟩ := hg
    obtain ⟨f0, f1, f2, f3, f4, f5⟩ := hf it (by simp)
    have l1 : ks.length = es.size := by have := v1.length; simpa using this
    exact wpAny_pyNext_values_end_raw (I.ok.hd hc) st (raw_of I hx hod hd) (by omega) fun h' eb => ⟨rfl, I.turned (t' := s.toks) (fun b ob hb e => eb b ob hb e) f0 f1 f3 f4 f5⟩
  self := fun A i s Q E st h => wpAny_pyIter_valiter st h
end
section
variable {fn : Nat → Option V} {X : Cx} {tg e : Expr} {f : Ex}
/-- a locked dict, as it stands -/
theorem Rp.locked {pins : List (Addr × Obj)} {σ : St} {H : Hp} {s : Shared} {bo : Bo} {F : Addr → Prop} {kvs : List (D × D)} {v : V} (I : Inv X pins σ H s) (r : Rp (pm X fn) bo F H (.dct kvs) v) :
    ∃ a o u, v = .ref a ∧ F a ∧ H a = some (.frz o u) ∧ (a == sysModules) = false ∧ s.heap.get? a = some o ∧ o.ExactDict ∧ ∃ (es : Array DictEntry) (ep : Nat), o.data = .dict es ep ∧ es.size ≤ sizeLine ∧ es.size = (rowsD kvs).length ∧
      ∃ ks vs : List V, RpL (pm X fn) bo F H (keysD kvs) ks ∧ RpL (pm X fn) bo F H (valsD kvs) vs ∧ Vals ks (es.toList.map (·.key)) ∧ Vals vs (es.toList.map (·.val)) := by
  have key : ∀ a o u, H a = some (.frz o u) → DAt (pm X fn) bo F H kvs a → (a == sysModules) = false ∧ s.heap.get? a = some o ∧ o.ExactDict ∧ ∃ (es : Array DictEntry) (ep : Nat), o.data = .dict es ep ∧ es.size ≤ sizeLine ∧ es.size = (rowsD kvs).length ∧
      ∃ ks vs : List V, RpL (pm X fn) bo F H (keysD kvs) ks ∧ RpL (pm X fn) bo F H (valsD kvs) vs ∧ Vals ks (es.toList.map (·.key)) ∧ Vals vs (es.toList.map (·.val)) := fun a o u e g => by
    have hget := (I.hok a _ e).1
    obtain ⟨hd, es, ep, ⟨o', ho', hx, hdt⟩, hsz, hrl, ks, vs, c1, c2, v1, v2⟩ := g.walk I
    rw [hget] at ho'
    cases ho'
    exact ⟨hd, hget, hx, es, ep, hdt, hsz, hrl, ks, vs, c1, c2, v1, v2⟩
  simp only [Rp] at r
  obtain ⟨a, rfl, fa, o, ⟨ws, h1, h2⟩ | ⟨es, h1, h2⟩⟩ := r
  · exact ⟨a, o, _, rfl, fa, h1, key a o _ h1 (.k (.inr ⟨o, h1⟩) h2)⟩
  · exact ⟨a, o, _, rfl, fa, h1, key a o _ h1 (.t (.inr ⟨o, h1⟩) h2)⟩
theorem yields_lock {m : Pm} {bo : Bo} {F : Addr → Prop} {H : Hp} {a : Addr} {o : Obj} {u : HO} {ks : List V} {ds : List D} (fa : F a) (h : H a = some (.frz o u)) (r : RpL m bo F H ds ks) : Yields m bo (ItV a o u ks) ds F H := fun F' H' b k W => by
  have h' : H' a = some (.frz o u) := (k.at_ a fa).trans h
  have r' := r.fk k
  refine ⟨fun i d e => ?_, h', by rw [r'.length]; exact Nat.le_refl _⟩
  obtain ⟨v, hv, rv⟩ := r'.get e
  refine ⟨⟨h', (List.getElem?_eq_some_iff.mp hv).1⟩, fun x H2 ⟨e1, e2⟩ => ?_⟩
  subst e1
  rw [hv] at e2; cases e2
  exact yield_same W rv
theorem pi_dkeys (pe : PEx fn X e f) : PIx fn X tg e (iKeys f) := by
  refine ⟨fun pins s σ H R I h => ?_⟩
  obtain ⟨H0, F0, bo, ρ, F, b, R', ds, b', e', q⟩ := h
  unfold iKeys at e'
  split at e'
  · rename_i kvs b1 e1
    cases e'
    refine thn (pe.run pins s σ H (fun v H' => ∃ F', Grow bo F H F' H' ∧ BoxOk bo F' H' b' ∧ Rp (pm X fn) bo F' H' (.dct kvs) v) I ⟨H0, F0, bo, ρ, F, b, R', _, b', e1, fun v F' H' g hb r => ⟨F', g, hb, r⟩⟩) fun v s1 ⟨x, H1, I1, rx, F1, g, hb, r⟩ => ?_
    obtain ⟨a, o, u, rfl, fa, h1, hs, hget, hx, es, ep, hdt, hsz, hrl, ks, vs, c1, c2, v1, v2⟩ := r.locked I1
    cases rx
    exact iter_keys hs hget hx hdt (pi_one (tk := s1.toks) I1 _ (turn_lockK _ hx hdt v1) ⟨_, Heap.get?_push_size _ rfl, rfl, rfl⟩ (q _ F1 H1 g hb (by rw [keysD, List.length_map, ← hrl]; exact hsz) (yields_lock fa h1 c1)))
  · cases e'
theorem pi_dvals {apos cpos : Pos} (pe : PEx fn X e f) (hbase : attributeBase e "values" X.env (eval e X.env) = eval e X.env := by rfl) (hline : (apos.endLine == cpos.line) = true := by rfl) : PIx fn X tg (.Call (.Attribute e "values" apos) [] [] cpos) (iVals f) := by
  refine ⟨fun pins s σ H R I h => ?_⟩
  obtain ⟨H0, F0, bo, ρ, F, b, R', ds, b', e', q⟩ := h
  unfold iVals at e'
  split at e'
  · rename_i kvs b1 e1
    cases e'
    refine wpAny_Call_method (T := "dict") (id := "dict.values") hbase rfl hline PySem.F.plainAttrs_dict PySem.F.slot_dict_values PySem.F.type_dict_values (thn (pe.run pins s σ H (fun v H' => ∃ F', Grow bo F H F' H' ∧ BoxOk bo F' H' b' ∧ Rp (pm X fn) bo F' H' (.dct kvs) v) I ⟨H0, F0, bo, ρ, F, b, R', _, b', e1, fun v F' H' g hb r => ⟨F', g, hb, r⟩⟩) fun v s1 ⟨x, H1, I1, rx, F1, g, hb, r⟩ => ?_)
    obtain ⟨t1, t2⟩ := (show ∃ a, x = .ref a ∧ DAt (pm X fn) bo F1 H1 kvs a from RpO.dct (.inl r)).elim fun a h => h.2.type I1 |> fun t => (by
      obtain ⟨ex, _⟩ := h
      subst ex
      cases rx
      exact t : (s1.TypeIs v "dict" ∧ (∀ b, v = .ref b → ∃ ob, s1.heap.get? b = some ob ∧ ob.dict = none)))
    refine ⟨t1, t2, ?_⟩
    obtain ⟨a, o, u, rfl, fa, h1, hs, hget, hx, es, ep, hdt, hsz, hrl, ks, vs, c1, c2, v1, v2⟩ := r.locked I1
    cases rx
    show wpAny _ _ (callWith cpos (.builtin "dict.values") [.ref a] [] []) _ X.xe s1
    have I2 : Inv X pins σ H1 { s1 with heap := s1.heap.push { cls := .type "dict_values", data := .fields #[.ref a] } } := I1.kept (t' := s1.toks) fun b ob q => Heap.get?_push_of_some _ q
    have raw : s1.heap.DictRaw a es ep := ⟨o, hget, hx, hdt⟩
    refine method_meetsIn PySem.F.slot_dict_values PySem.F.entry_dict_values rfl (PySem.evalArgs_none ⟨rfl, t1, PySem.F.args_dict_values_1 _, _, meets_dict_values_raw a hs, ⟨⟨es, ep, raw⟩, ?_⟩⟩)
    exact wpAny_pyIter_values_raw ⟨_, Heap.get?_push_size _ rfl, rfl, rfl⟩ (raw.push _) (pi_one (tk := s1.toks) I2 _ (turn_lockV _ hx hdt v2) ⟨_, Heap.get?_push_size _ rfl, rfl, rfl⟩ (q _ F1 H1 g hb (by rw [valsD, List.length_map, ← hrl]; exact hsz) (yields_lock fa h1 c2)))
  · cases e'
end
/-! ### d.update(e): tuples as keys, d not empty -/
def updRows (rows more : List (D × D)) : List (D × D) := more.foldl (fun acc p => ptD acc p.1 p.2) rows
def sUpd (i : Nat) (f : Ex) : SS := fun ρ b => match ρ[i]? with
  | some (.own (.dct kvs)) => match f ρ b with
    | some (.dct more, b1) => if isT0 kvs = true ∧ isT0 more = true ∧ 0 < kvs.tail.length ∧ kvs.tail.length + more.tail.length ≤ sizeLine then some (.nx, ρ.set i (.own (.dct (t0 :: updRows kvs.tail more.tail))), b1) else none
    | _ => none
  | _ => none
section
variable {m : Pm} {bo : Bo} {F : Addr → Prop} {H : Hp}
theorem RpC.upd : ∀ {more : List (D × D)} {es2 : List (NestedKey × Addr × Value)} {rows : List (D × D)} {es : List (NestedKey × Addr × Value)}, RpC m bo F H rows es → RpC m bo F H more es2 → RpC m bo F H (updRows rows more) (storedAllH es es2)
  | [], es2, rows, es, h, h2 => by
    simp only [RpC] at h2
    subst h2
    exact h
  | (k, d) :: more, es2, rows, es, h, h2 => by
    simp only [RpC] at h2
    obtain ⟨k', a, u, r, rfl, q1, q2, q3, q4, ⟨v, rv, q5⟩, q6⟩ := h2
    have := RpC.upd (h.put q1 q2 q3 q4 rv q5) q6
    exact this
theorem updRows_len : ∀ (more rows : List (D × D)), (updRows rows more).length ≤ rows.length + more.length
  | [], rows => Nat.le_refl _
  | p :: more, rows => by
    have := updRows_len more (ptD rows p.1 p.2)
    have h2 : (ptD rows p.1 p.2).length ≤ rows.length + 1 := by
      unfold ptD
      split
      · rw [List.length_map]; omega
      · rw [List.length_append, List.length_singleton]; omega
    show (updRows (ptD rows p.1 p.2) more).length ≤ _
    rw [List.length_cons]
    omega
end
section
variable {fn : Nat → Option V} {X : Cx} {o e : Expr} {f : Ex} {pos epos : Pos}
def tUpd (m : Pm) (i : Nat) (f : Ex) : TE := fun σ H Q => ∃ H0 F0 bo ρ F b, Rel m H0 F0 bo σ ρ F H b ∧ ∃ ρ' b', sUpd i f ρ b = some (.nx, ρ', b') ∧ ∀ F' H', Rel m H0 F0 bo σ ρ' F' H' b' → FK F H F' H' → Q .non H'
theorem pe_upd {i : Nat} {apos : Pos} (hu : X.A.units + 64 < cLine) (ho : PE X o (tVar i)) (he : PEx fn X e f) (mm : M1 X o "update" apos e pos) :
    PE X (.Call (.Attribute o "update" apos) [e] [] pos) (tUpd (pm X fn) i f) := by
  refine ⟨fun pins s σ H Q I ⟨H0, F0, bo, ρ, F, b, R, ρ', b', ee, q⟩ => ?_⟩
  unfold sUpd at ee
  cases hρ : ρ[i]? with
  | none => simp [hρ] at ee
  | some sl =>
    cases sl with
    | own dd =>
      cases dd with
      | dct kvs =>
        simp only [hρ] at ee
        cases e1 : f ρ b with
        | none => simp [e1] at ee
        | some p1 =>
          obtain ⟨md, b1⟩ := p1
          cases md with
          | dct more =>
            simp only [e1] at ee
            split at ee
            · rename_i hc
              obtain ⟨t1, t2, hpos, hz⟩ := hc
              cases ee
              obtain ⟨a, h1, nf, nb, h0, ow⟩ := R.own i _ hρ
              have gd : DAtW (pm X fn) bo F H kvs a := by
                rcases ow with ⟨ws, q1, q2⟩ | ⟨es, q1, q2⟩
                · exact .k q1 q2
                · exact .t q1 q2
              refine wpAny_Call_method mm.base mm.few mm.line PySem.F.plainAttrs_dict PySem.F.slot_dict_update PySem.F.type_dict_update (thn (ho.run pins s σ H (fun x H' => x = .ref a ∧ H' = H) I ⟨_, h1, rfl, rfl⟩) fun u s1 ⟨x, H1, I1, rx, ex, eH⟩ => ?_)
              subst ex eH
              obtain rfl : u = Value.ref a := rx
              obtain ⟨ty1, ty2⟩ := gd.rd.type I1
              refine ⟨ty1, ty2, ?_⟩
              rw [mm.trees]
              refine Calls.callWith_builtin rfl (Calls.evalArgs_plain (Calls.spliced_cons (thn (he.run pins s1 σ _ _ I1 ⟨H0, F0, bo, ρ, F, b, R, _, b', e1, fun v2 F2 H2 g2 hb2 r2 => (⟨F2, g2, hb2, r2⟩ : ∃ F2, Grow bo F _ F2 H2 ∧ BoxOk bo F2 H2 b' ∧ Rp (pm X fn) bo F2 H2 (.dct more) v2)⟩) fun iv s2 ⟨v2, H2, I2, ry, F2, g2, hb2, r2⟩ =>
                Calls.spliced_nil ?_)))
              have R2 := R.grow g2 hb2
              obtain ⟨a', h1', nf', nb', h0', ow'⟩ := R2.own i _ hρ
              rw [h1] at h1'; cases h1'
              have r2' := r2
              simp only [Rp] at r2'
              obtain ⟨a2, rfl, f2, oo, ⟨ws, w1, w2⟩ | ⟨es2, w1, w2⟩⟩ := r2'
              · rw [w2.noT] at t2; cases t2
              rcases ow' with ⟨ws, q1, q2⟩ | ⟨es, q1, q2⟩
              · rw [q2.noT] at t1; cases t1
              cases ry
              obtain ⟨z1, d1, dd1⟩ := dic_of I2 (.inl q1) q2.cut.2.1
              obtain ⟨z2, d2, dd2⟩ := dic_of I2 (.inr ⟨oo, w1⟩) w2.cut.2.1
              have hne : a ≠ a2 := fun z => nf' (z ▸ f2)
              have l1 := q2.cut.2.1.len
              have l2 := w2.cut.2.1.len
              have hes : es ≠ [] := fun z => by have : es.length = 0 := (by rw [z]; rfl); omega
              refine call_update_dictH (knd := nestedKind X.prog X.w) (show X.A.in1.units + 8 < cLine by show X.A.units + 1 + 8 < cLine; omega) hne d2 dd1 dd2 (.inl hes) (by omega) fun h' hd' _ hs' => ?_
              obtain ⟨ob, es', ep, hq, _⟩ := id hd'
              have hl : (storedAllH es es2).length ≤ sizeLine := by
                have x1 := (RpC.upd q2.cut.2.1 w2.cut.2.1).len
                have x2 := updRows_len more.tail kvs.tail
                omega
              obtain ⟨R3, k3⟩ := R2.mut hρ h1 (d' := .dct (t0 :: updRows kvs.tail more.tail)) (o := DicO (pm X fn) a (storedAllH es es2)) fun kk => .inr ⟨_, upd_same, by
                simp only [RpB, t0]
                exact ⟨trivial, trivial, (RpC.upd q2.cut.2.1 w2.cut.2.1).mono (fun _ _ h => h) kk⟩⟩
              exact ⟨.non, _, d_write I2 (by rw [q1]; exact True.intro) hs' ⟨ob, hq⟩ (dic_ok hl d1 hd'), rfl, q F2 _ R3 ((R.fkg g2).trans k3)⟩
            · cases ee
          | _ => simp [e1] at ee
      | _ => simp [hρ] at ee
    | _ => simp [hρ] at ee
theorem psx_upd {i : Nat} {apos : Pos} (hu : X.A.units + 64 < cLine) (ho : PE X o (tVar i)) (he : PEx fn X e f) (mm : M1 X o "update" apos e pos := by exact ⟨rfl, rfl, rfl, rfl⟩) (hs : swapsWith (.Call (.Attribute o "update" apos) [e] [] pos) none epos.line X.env = pure false := by rfl) :
    PSx fn X (.Expr (.Call (.Attribute o "update" apos) [e] [] pos) epos) (sUpd i f) := PS.imp (ps_expr (pe_upd hu ho he mm) hs) fun D σ H ⟨H0, F0, bo, ρ, F, b, R, fl, ρ', b', e, q⟩ => by
  have hfl : fl = .nx := by
    unfold sUpd at e
    split at e
    · split at e
      · split at e
        · cases e; rfl
        · cases e
      · cases e
    · cases e
  subst hfl
  exact ⟨H0, F0, bo, ρ, F, b, R, ρ', b', e, fun F' H' R' k => q σ F' H' R' k⟩
end
end Sv

set_option maxHeartbeats 4000000
/-! Sv21: dict(pairs), dicts compared. -/
namespace Sv
open PySem PySem.Spec L2
open PyProof.Rows hiding St
/-! ### dict([(k, v), ..]) -/
def pairK : D → Option (D × D)
  | .tup [k, v] => if keyS k = true then some (k, v) else none
  | _ => none
def pairsK : List D → Option (List (D × D))
  | [] => some []
  | d :: ds => match pairK d with
    | some p => match pairsK ds with
      | some r => some (p :: r)
      | none => none
    | none => none
def dictLD : List D → Option D
  | [.lst ds] => match pairsK ds with
    | some kvs => some (.dct (updRows [] kvs))
    | none => none
  | _ => none
section
variable {m : Pm} {bo : Bo} {F : Addr → Prop} {H : Hp}
theorem RpA.upd : ∀ {more : List (D × D)} {ms : List (Key × V)} {rows : List (D × D)} {ws : List (Key × V)}, RpA m bo F H rows ws → RpA m bo F H more ms → RpA m bo F H (updRows rows more) (mergeK ws ms)
  | [], ms, rows, ws, h, h2 => by
    simp only [RpA] at h2
    subst h2
    exact h
  | (k, d) :: more, ms, rows, ws, h, h2 => by
    simp only [RpA] at h2
    obtain ⟨k', v, r, rfl, rfl, h1, h3⟩ := h2
    have := RpA.upd (rows := ptD rows (keyD k') d) (ws := putK ws k' v) (h.put h1) h3
    exact this
theorem pairsK_rp : ∀ {ds : List D} {kvs : List (D × D)} {vs : List V}, pairsK ds = some kvs → RpL m bo F H ds vs → ∃ (ps : List Addr) (ms : List (Key × V)), vs = ps.map V.ref ∧ Paired (fun p kv => SqT m.K H p [kV kv.1, kv.2]) ps ms ∧ RpA m bo F H kvs ms
  | [], kvs, vs, h, r => by
    simp only [RpL] at r
    cases h
    subst r
    exact ⟨[], [], rfl, .nil, by simp [RpA]⟩
  | d :: ds, kvs, vs, h, r => by
    simp only [RpL] at r
    obtain ⟨v, r', rfl, h1, h2⟩ := r
    unfold pairsK at h
    split at h
    · rename_i p hp
      split at h
      · rename_i rr hr
        cases h
        obtain ⟨ps, ms, e1, e2, e3⟩ := pairsK_rp hr h2
        unfold pairK at hp
        split at hp
        · rename_i k d'
          split at hp
          · rename_i hk
            cases hp
            obtain ⟨k', rfl⟩ := keyS_of hk
            simp only [Rp, RpL] at h1
            obtain ⟨a, us, rfl, st, _, kv, u2, rfl, hkv, dv, u3, rfl, hd, rfl⟩ := h1
            obtain rfl := keyS_V (.inl hkv)
            subst e1
            refine ⟨a :: ps, (k', dv) :: ms, rfl, .cons st e2, ?_⟩
            simp only [RpA]
            exact ⟨k', dv, ms, rfl, rfl, hd, e3⟩
          · cases hp
        · cases hp
      · cases h
    · cases h
end
section
variable {fn : Nat → Option V} {X : Cx}
theorem d_dictL (hc : X.calm = true) : CallR X (.type "dict") (rDnN (pm X fn) dictLD) := by
  intro pins s σ H xs us Q I r h
  obtain ⟨bo, F, b, W, ds, d, hr, hg, q⟩ := h
  unfold dictLD at hg
  split at hg
  · split at hg
    · rename_i ds' kvs hk
      cases hg
      obtain ⟨v, rfl, h1⟩ := hr.one
      obtain ⟨p, vs, rfl, s1, z1, r1⟩ := h1.lst
      obtain ⟨ps, ms, e1, e2, e3⟩ := pairsK_rp hk r1
      subst e1
      refine call_dictP hc pins s σ H _ us Q I r ⟨p, ps, ms, rfl, SqL.of s1, e2, fun l hl => ?_⟩
      have g : Grow bo F H F (upd H l (.dK (mergeK [] ms))) := Grow.alloc W hl
      have e0 : RpA (pm X fn) bo F H ([] : List (D × D)) [] := by simp [RpA]
      exact q _ _ _ g (BoxOk.alloc W hl fun _ h => .inl h) hl (fun f => W.dom l f hl) (.inl ⟨_, upd_same, (RpA.upd e0 e3).fk (W.fk g)⟩)
    · cases hg
  · cases hg
/-! ### dicts compared: numbers as values -/
def isIntD : D → Bool
  | .int _ => true
  | _ => false
def eqDct (ks ls : List (D × D)) : Option Bool := if isT0 ks = false ∧ isT0 ls = false ∧ (ks.all fun p => isIntD p.2) = true ∧ (ls.all fun p => isIntD p.2) = true then some (ks.length == ls.length && ks.all fun p => decide (lkD ls p.1 = some p.2)) else none
def opEqD : D → D → Option D
  | .dct ks, .dct ls => (eqDct ks ls).map .bl
  | _, _ => none
theorem lk_mem {ls : List (D × D)} {k d : D} (h : lkD ls k = some d) : ∃ p ∈ ls, p.2 = d := by
  unfold lkD at h
  cases hf : ls.find? fun kv => decide (kv.1 = k) with
  | none => rw [hf] at h; cases h
  | some p =>
    rw [hf] at h
    cases h
    exact ⟨p, List.mem_of_find?_eq_some hf, rfl⟩
theorem keq_hits {m : Pm} {bo : Bo} {F : Addr → Prop} {H : Hp} {A : Around} {s : Shared} {ls : List (D × D)} {wl : List (Key × V)} {vb : List (Key × Value)} (rl : RpA m bo F H ls wl) (kb : KV wl vb) (hl : (ls.all fun p => isIntD p.2) = true) :
    ∀ {ks : List (D × D)} {wk : List (Key × V)} {va : List (Key × Value)}, RpA m bo F H ks wk → KV wk va → (ks.all fun p => isIntD p.2) = true → PySem.W.KeqHits A s vb va (ks.all fun p => decide (lkD ls p.1 = some p.2))
  | [], wk, va, h, kv, _ => by
    simp only [RpA] at h
    subst h
    cases kv
    exact .nil
  | (k, d) :: ks, wk, va, h, kv, hi => by
    simp only [RpA] at h
    obtain ⟨k', v, r, rfl, rfl, h1, h2⟩ := h
    rw [List.all_cons, Bool.and_eq_true] at hi
    unfold KV at kv
    cases kv with
    | @cons p q ps qs h0 t =>
      obtain ⟨hk, hv⟩ := h0
      obtain ⟨k2, u⟩ := q
      have hk : k' = k2 := hk
      subst hk
      have hv : RelV v u := hv
      have ih := keq_hits (A := A) (s := s) rl kb hl h2 t hi.2
      rw [List.all_cons]
      have rr : RelO (valV wl k') (valueAt vb k') := kb.val k'
      rcases rl.lk k' with ⟨e1, e2⟩ | ⟨d2, v2, e1, e2, rp⟩
      · rw [e2] at rr
        rw [e1]
        have hn : valueAt vb k' = none := by
          cases hq : valueAt vb k' with
          | none => rfl
          | some y => rw [hq] at rr; exact (show False from rr).elim
        exact .miss hn
      · rw [e2] at rr
        obtain ⟨y, hy, ry⟩ := rr.some_of
        rw [e1]
        cases d with
        | int i =>
          obtain ⟨p2, hp2, e3⟩ := lk_mem e1
          have hd2 := List.all_eq_true.mp hl p2 hp2
          rw [e3] at hd2
          cases d2 with
          | int j =>
            simp only [Rp] at h1 rp
            subst h1 rp
            obtain ⟨t1, rfl⟩ := hv
            obtain ⟨t2, rfl⟩ := ry
            have e4 : decide ((some (D.int j)) = some (D.int i)) = (i == j) := by
              rw [Bool.eq_iff_iff]
              simp only [decide_eq_true_iff, beq_iff_eq]
              exact ⟨fun h => by cases h; rfl, fun h => by rw [h]⟩
            show PySem.W.KeqHits A s vb _ (decide (some (D.int j) = some (D.int i)) && _)
            rw [e4]
            exact .hit hy (PySem.SeqAt.EqAt.int_int i t1 j t2) ih
          | _ => cases hd2
        | _ => cases hi.1
theorem d_eqD (hu : X.A.units + 64 < cLine) : OpR X (compareOp .Eq) (rD2 (pm X fn) opEqD) := by
  intro pins s σ H x y v u Q I rx ry h
  obtain ⟨bo, F, b, W, d, e, r, hd, he, hg, q⟩ := h
  unfold opEqD at hg
  split at hg
  · rename_i ks ls
    unfold eqDct at hg
    split at hg
    · rename_i hc
      obtain ⟨c1, c2, c3, c4⟩ := hc
      cases hg
      obtain ⟨a, rfl, ga⟩ := hd.dct
      obtain ⟨a2, rfl, gb⟩ := he.dct
      obtain rfl : v = Value.ref a := rx
      obtain rfl : u = Value.ref a2 := ry
      rcases ga with ⟨e1, r1⟩ | ⟨e1, r1⟩
      · rcases gb with ⟨e2, r2⟩ | ⟨e2, r2⟩
        · obtain ⟨_, ya, va, ra, da⟩ := dk_rd I.hok e1
          obtain ⟨_, yb, vb, rb, db⟩ := dk_rd I.hok e2
          have hl : (va.length == vb.length) = (ks.length == ls.length) := by
            rw [← Paired.length ra, ← Paired.length rb, r1.len, r2.len]
          refine PySem.W.keq_eq (knd := mixKind X.prog X.w) (r := ks.all fun p => decide (lkD ls p.1 = some p.2)) ya yb da db (by omega) (fun _ => keq_hits r2 rb c4 r1 ra c3) ?_
          rw [hl]
          exact ⟨.bl _, H, I, rfl, o_bl W q⟩
        · rw [r2.cut.1] at c2; cases c2
      · rw [r1.cut.1] at c1; cases c1
    · cases hg
  · cases hg
theorem b_dict {e : Expr} {f : Ex} {p pos : Pos} (hm : X.mg "dict" = none) (ha : PEo fn X e f) (hc : X.calm = true := by rfl) (hg : Gl X "dict" := by rfl) (he : starEach [e] X.env = (false, eval e X.env) :: starEach [] X.env := by rfl) : PEn fn X (.Call (.Name "dict" p) [e] [] pos) (eFn dictLD (aCons f aNil)) :=
  pn_ty (d_dictL hc) hg hm (by decide +kernel) (pao_cons ha pao_nil he) (he := he)
end
end Sv

namespace K78
open Sv
abbrev s_is_whole : SS := sRet (eAnd (eUn (fun d => (isT d .int).map .bl) (eBor 0)) (eNot (eUn (fun d => (isT d .bool).map .bl) (eBor 0))))
def f_is_whole : Fn := runF 1 s_is_whole
abbrev s_is_number : SS := sRet (eAnd (eUn (fun d => (isT d .int).map .bl) (eBor 0)) (eAnd (eNot (eUn (fun d => (isT d .bool).map .bl) (eBor 0))) (eChain opLe opLe (eBor 1) (eBor 0) (eBor 2))))
def f_is_number : Fn := runF 3 s_is_number
abbrev s_is_ascending : SS := sRet (eFn allD (aCons (eLc (iRange (aCons (eBin opSub (eFn lenD (aCons (eBor 0) aNil)) (eCon (.int 1))) (aNil))) (gNm 1) (tYes') (eBin opLt (eBin ixD (eBor 0) (eVar 1)) (eBin ixD (eBor 0) (eBin opAdd (eBor 1) (eCon (.int 1))))) [1]) aNil))
def f_is_ascending : Fn := runF 2 s_is_ascending
abbrev s_is_load : SS := sSeq (sIf (tOr (tNot (tOf (eUn (fun d => (isT d .tuple).map .bl) (eBor 0)))) (tNot (tOf (eFn allD (aCons (eLc (iSeq (eBor 0)) (gNm 5) (tYes') (eAnd (eUn (fun d => (isT d .tuple).map .bl) (eBor 5)) (eBin opEq (eFn lenD (aCons (eBor 5) aNil)) (eCon (.int 2)))) [5]) aNil))))) (sRet (eCon (.bl false))) (sNx)) (sSeq (sFor (iSeq (eVar 0)) (gTp (gMore (gNm 2) (gMore (gNm 3) (gNone)))) (sIf (tOr (tNot (tOf (eCall f_is_number (aCons (eVar 2) (aCons (eCon (.int 1)) (aCons (eCon (.int 60)) (aNil))))))) (tOr (tNot (tOf (eCall f_is_whole (aCons (eVar 3) (aNil))))) (tNot (tBl (eChain opLe opLe (eCon (.int 1)) (eBor 3) (eBor 1)))))) (sRet (eCon (.bl false))) (sNx))) (sRet (eCall f_is_ascending (aCons (eLc (iSeq (eBor 0)) (gTp (gMore (gNm 2) (gMore (gNm 4) (gNone)))) (tYes') (eVar 2) [2, 4]) (aNil)))))
def f_is_load : Fn := runF 6 s_is_load
abbrev s_are_groups : SS := sRet (eAnd (eCall f_is_load (aCons (eVar 0) (aCons (eCon (.int 200)) (aNil)))) (eBin opLe (eFn lenD (aCons (eBor 0) aNil)) (eCon (.int 12))))
def f_are_groups : Fn := runF 1 s_are_groups
abbrev s_are_rides : SS := sSeq (sIf (tOr (tNot (tOf (eUn (fun d => (isT d .tuple).map .bl) (eBor 2)))) (tNot (tOf (eFn allD (aCons (eLc (iSeq (eBor 2)) (gNm 4) (tYes') (eAnd (eCall f_is_load (aCons (eVar 4) (aCons (eVar 1) (aNil)))) (eBin opNe (eBor 4) (eTup (aNil)))) [4]) aNil))))) (sRet (eCon (.bl false))) (sNx)) (sSeq (sIf (tOf (eFn anyD (aCons (eLc (iSeq (eBor 2)) (gNm 4) (tYes') (eBin opGt (eFn sumD (aCons (eLc (iSeq (eBor 4)) (gTp (gMore (gNm 7) (gMore (gNm 6) (gNone)))) (tYes') (eVar 6) [7, 6]) aNil)) (eBor 1)) [4]) aNil))) (sRet (eCon (.bl false))) (sNx)) (sSeq (sNew 3 (eDc false (iSeq (eBor 0)) (gTp (gMore (gNm 5) (gMore (gNm 6) (gNone)))) (tYes') (eVar 5) (eVar 6) [5, 6])) (sSeq (sFor (iSeq (eVar 2)) (gNm 4) (sFor (iSeq (eVar 4)) (gTp (gMore (gNm 5) (gMore (gNm 6) (gNone)))) (sDPut 3 (eBor 5) (eBin opSub (eFn getD3 (aCons (eBor 3) (aCons (eBor 5) (aCons (eCon (.int 0)) aNil)))) (eBor 6))))) (sSeq (sFz 3) (sRet (eNot (eFn anyD (aCons (eLc (iVals (eVar 3)) (gNm 6) (tYes') (eBin opNe (eBor 6) (eCon (.int 0))) [6]) aNil))))))))
def f_are_rides : Fn := runF 8 s_are_rides
abbrev s_time_of_rides : SS := sRet (eFn sumD (aCons (eLc (iSeq (eBor 0)) (gNm 1) (tYes') (eBin opMul (eCon (.int 2)) (eBin ixD (eBin ixD (eBor 1) (eUn opNeg (eCon (.int 1)))) (eCon (.int 0)))) [1]) aNil))
def f_time_of_rides : Fn := runF 2 s_time_of_rides
abbrev s_floor_bound : SS := sSeq (sSet 2 (eCon (.int 0))) (sSeq (sFor (iRange (aCons (eCon (.int 1)) (aCons (eBin opAdd (eCon (.int 60)) (eCon (.int 1))) (aNil)))) (gNm 3) (sSeq (sSet 4 (eFn sumD (aCons (eLc (iSeq (eBor 0)) (gTp (gMore (gNm 5) (gMore (gNm 6) (gNone)))) (tBl (eBin opGe (eBor 5) (eBor 3))) (eVar 6) [5, 6]) aNil))) (sAugI 2 (fun i j => i + j) (eBin opMul (eCon (.int 2)) (eBin opFdiv (eBin opSub (eBin opAdd (eBor 4) (eBor 1)) (eCon (.int 1))) (eBor 1)))))) (sRet (eVar 2)))
def f_floor_bound : Fn := runF 7 s_floor_bound
abbrev s_least_rides : SS := sSeq (sPar [2, 3, 4] (kNew (eLst (aNil)) (kNew (eLst (aNil)) (kFrz (eVar 1) (kNil))))) (sSeq (sFor (iSeq (eUn revD (eBor 0))) (gTp (gMore (gNm 5) (gMore (gNm 6) (gNone)))) (sWh (tBl (eBin opGt (eBor 6) (eCon (.int 0)))) (sSeq (sSet 7 (eFn min2D (aCons (eBor 6) (aCons (eBor 4) aNil)))) (sSeq (sExprM (mMeth 3 kApp (mOne (mUp (eTup (aCons (eVar 5) (aCons (eVar 7) (aNil)))))))) (sSeq (sPar [6, 4] (kFrz (eBin opSub (eBor 6) (eBor 7)) (kFrz (eBin opSub (eBor 4) (eBor 7)) (kNil)))) (sIf (tBl (eBin opEq (eBor 4) (eCon (.int 0)))) (sSeq (sExprM (mMeth 2 kApp (mOne (mUp (eFn tupleD (aCons (eUn revD (eBor 3)) aNil)))))) (sPar [3, 4] (kNew (eLst (aNil)) (kFrz (eVar 1) (kNil))))) (sNx))))))) (sSeq (sIf (tOf (eBor 3)) (sExprM (mMeth 2 kApp (mOne (mUp (eFn tupleD (aCons (eUn revD (eBor 3)) aNil)))))) (sNx)) (sSeq (sFz 2) (sRet (eTup (aCons (eCall f_time_of_rides (aCons (eVar 2) (aNil))) (aCons (eFn tupleD (aCons (eBor 2) aNil)) (aNil))))))))
def f_least_rides : Fn := runF 8 s_least_rides
abbrev s_law_same (rec : Fn) : SS := sSeq (sIf (tOr (tAnd (tOf (eUn (fun d => (isT d .tuple).map .bl) (eBor 0))) (tOf (eUn (fun d => (isT d .tuple).map .bl) (eBor 1)))) (tAnd (tOf (eUn (fun d => (isT d .list).map .bl) (eBor 0))) (tOf (eUn (fun d => (isT d .list).map .bl) (eBor 1))))) (sRet (eAnd (eBin opEq (eFn lenD (aCons (eBor 0) aNil)) (eFn lenD (aCons (eBor 1) aNil))) (eFn allD (aCons (eLc (iRange (aCons (eFn lenD (aCons (eBor 0) aNil)) (aNil))) (gNm 2) (tYes') (eCall rec (aCons (eBin ixD (eBor 0) (eVar 2)) (aCons (eBin ixD (eBor 1) (eVar 2)) (aNil)))) [2]) aNil)))) (sNx)) (sSeq (sIf (tOr (tOf (eUn (fun d => (isT d .bool).map .bl) (eBor 0))) (tOf (eUn (fun d => (isT d .bool).map .bl) (eBor 1)))) (sRet (eAnd (eUn (fun d => (isT d .bool).map .bl) (eBor 0)) (eAnd (eUn (fun d => (isT d .bool).map .bl) (eBor 1)) (eBin opEq (eBor 0) (eBor 1))))) (sNx)) (sSeq (sIf (tOr (tAnd (tOf (eUn (fun d => (isT d .int).map .bl) (eBor 0))) (tOf (eUn (fun d => (isT d .int).map .bl) (eBor 1)))) (tAnd (tOf (eUn (fun d => (isT d .str).map .bl) (eBor 0))) (tOf (eUn (fun d => (isT d .str).map .bl) (eBor 1))))) (sRet (eBin opEq (eBor 0) (eBor 1))) (sNx)) (sRet (eAnd (eBin opIsN2 (eBor 0) (eCon .non)) (eBin opIsN2 (eBor 1) (eCon .non))))))
def f_law_same : Nat → Fn
  | 0 => noFn
  | n + 1 => runF 3 (s_law_same (f_law_same n))
abbrev s_law_bent (rec : Fn) : SS := sSeq (sIf (tAnd (tOf (eUn (fun d => (isT d .tuple).map .bl) (eBor 1))) (tAnd (tBl (eBin opGt (eFn lenD (aCons (eBor 1) aNil)) (eCon (.int 0)))) (tBl (eBin opGt (eCall drawF (aCons (eVar 0) (aCons (eCon (.int 5)) (aNil)))) (eCon (.int 0)))))) (sSeq (sSet 3 (eCall drawF (aCons (eVar 0) (aCons (eFn lenD (aCons (eBor 1) aNil)) (aNil))))) (sRet (eBin opAdd (eBin opAdd (eSlice (eBor 1) none (some (eVar 3))) (eTup (aCons (eCall rec (aCons (eVar 0) (aCons (eBin ixD (eBor 1) (eVar 3)) (aNil)))) (aNil)))) (eSlice (eBor 1) (some (eBin opAdd (eBor 3) (eCon (.int 1)))) none)))) (sNx)) (sSeq (sSet 2 (eCall drawF (aCons (eVar 0) (aCons (eCon (.int 8)) (aNil))))) (sSeq (sIf (tOf (eUn (fun d => (isT d .tuple).map .bl) (eBor 1))) (sRet (eBin ixD (eLst (aCons (eBin opAdd (eBor 1) (eSlice (eBor 1) none (some (eCon (.int 1))))) (aCons (eSlice (eBor 1) (some (eCon (.int 1))) none) (aCons (eUn revD (eBor 1)) (aCons (eBin opAdd (eBor 1) (eTup (aCons (eCon (.int 0)) (aNil)))) (aCons (eTup (aCons (eVar 1) (aNil))) (aCons (eSlice (eBor 1) none (some (eUn opNeg (eCon (.int 1))))) (aCons (eCon .non) (aCons (eBin opAdd (eBor 1) (eTup (aCons (eTup (aCons (eCon (.int 0)) (aCons (eCon (.int 1)) (aNil)))) (aNil)))) (aNil)))))))))) (eVar 2))) (sNx)) (sSeq (sIf (tAnd (tOf (eUn (fun d => (isT d .int).map .bl) (eBor 1))) (tNot (tOf (eUn (fun d => (isT d .bool).map .bl) (eBor 1))))) (sRet (eBin ixD (eLst (aCons (eBin opAdd (eBor 1) (eCon (.int 1))) (aCons (eBin opSub (eBor 1) (eCon (.int 1))) (aCons (eCon (.int 0)) (aCons (eBin opEq (eBor 1) (eCon (.int 1))) (aCons (eCon .non) (aCons (eFn strD (aCons (eBor 1) aNil)) (aCons (eTup (aCons (eVar 1) (aNil))) (aCons (eBin opAdd (eBor 1) (eCon (.int 2))) (aNil)))))))))) (eVar 2))) (sNx)) (sSeq (sIf (tOf (eUn (fun d => (isT d .str).map .bl) (eBor 1))) (sRet (eBin ixD (eLst (aCons (eBin opAdd (eBor 1) (eCon (.str "s"))) (aCons (eSlice (eBor 1) (some (eCon (.int 1))) none) (aCons (eCon (.str "jump")) (aCons (eCon (.str "open")) (aCons (eCon (.int 0)) (aCons (eCon .non) (aCons (eCon (.str "")) (aCons (eCon (.str "bent")) (aNil)))))))))) (eVar 2))) (sNx)) (sRet (eBin ixD (eLst (aCons (eCon (.int 0)) (aCons (eCon (.int 1)) (aCons (eCon .non) (aCons (eCon (.bl true)) (aCons (eCon (.str "a")) (aCons (eTup (aNil)) (aCons (eTup (aCons (eCon (.int 0)) (aNil))) (aCons (eCon (.str "point")) (aNil)))))))))) (eVar 2)))))))
def f_law_bent : Nat → Fn
  | 0 => noFn
  | n + 1 => runF 4 (s_law_bent (f_law_bent n))
abbrev s_law_is_load : SS := sSeq (sIf (tOr (tNot (tOf (eUn (fun d => (isT d .tuple).map .bl) (eBor 0)))) (tNot (tOf (eFn allD (aCons (eLc (iSeq (eBor 0)) (gNm 5) (tYes') (eAnd (eUn (fun d => (isT d .tuple).map .bl) (eBor 5)) (eBin opEq (eFn lenD (aCons (eBor 5) aNil)) (eCon (.int 2)))) [5]) aNil))))) (sRet (eCon (.bl false))) (sNx)) (sSeq (sFor (iSeq (eVar 0)) (gTp (gMore (gNm 2) (gMore (gNm 3) (gNone)))) (sIf (tOr (tNot (tOf (eFn allD (aCons (eLc (iSeq (eTup (aCons (eVar 2) (aCons (eVar 3) (aNil))))) (gNm 6) (tYes') (eAnd (eUn (fun d => (isT d .int).map .bl) (eBor 6)) (eAnd (eNot (eUn (fun d => (isT d .bool).map .bl) (eBor 6))) (eBin opGe (eBor 6) (eCon (.int 1))))) [6]) aNil)))) (tOr (tBl (eBin opGt (eBor 2) (eCon (.int 60)))) (tBl (eBin opGt (eBor 3) (eBor 1))))) (sRet (eCon (.bl false))) (sNx))) (sRet (eNot (eFn anyD (aCons (eLc (iRange (aCons (eBin opSub (eFn lenD (aCons (eBor 0) aNil)) (eCon (.int 1))) (aNil))) (gNm 4) (tYes') (eBin opGe (eBin ixD (eBin ixD (eBor 0) (eVar 4)) (eCon (.int 0))) (eBin ixD (eBin ixD (eBor 0) (eBin opAdd (eBor 4) (eCon (.int 1)))) (eCon (.int 0)))) [4]) aNil)))))
def f_law_is_load : Fn := runF 7 s_law_is_load
abbrev s_law_are_rides : SS := sSeq (sIf (tOr (tNot (tOf (eUn (fun d => (isT d .tuple).map .bl) (eBor 2)))) (tNot (tOf (eFn allD (aCons (eLc (iSeq (eBor 2)) (gNm 4) (tYes') (eAnd (eCall f_law_is_load (aCons (eVar 4) (aCons (eVar 1) (aNil)))) (eAnd (eBin opGt (eFn lenD (aCons (eBor 4) aNil)) (eCon (.int 0))) (eBin opLe (eFn sumD (aCons (eLc (iSeq (eBor 4)) (gTp (gMore (gNm 5) (gMore (gNm 6) (gNone)))) (tYes') (eVar 6) [5, 6]) aNil)) (eBor 1)))) [4]) aNil))))) (sRet (eCon (.bl false))) (sNx)) (sSeq (sNew 3 (eDic0)) (sSeq (sFor (iSeq (eVar 2)) (gNm 4) (sFor (iSeq (eVar 4)) (gTp (gMore (gNm 5) (gMore (gNm 6) (gNone)))) (sDPut 3 (eBor 5) (eBin opAdd (eFn getD3 (aCons (eBor 3) (aCons (eBor 5) (aCons (eCon (.int 0)) aNil)))) (eBor 6))))) (sRet (eBin opEqD (eBor 3) (eFn dictLD (aCons (eFn listD (aCons (eBor 0) aNil)) aNil))))))
def f_law_are_rides : Fn := runF 7 s_law_are_rides
abbrev s_law_ways : SS := sSeq (sSet 2 (eLst (aCons (eTup (aNil)) (aNil)))) (sSeq (sFor (iSeq (eVar 0)) (gNm 3) (sSeq (sNew 4 (eDicT0)) (sSeq (sFor (iSeq (eVar 2)) (gNm 5) (sSeq (sDPut 4 (eFn tupleD (aCons (eFn sortedD (aCons (eBin opAdd (eBor 5) (eTup (aCons (eTup (aCons (eVar 3) (aNil))) (aNil)))) aNil)) aNil)) (eCon (.bl true))) (sFor (iRange (aCons (eFn lenD (aCons (eBor 5) aNil)) (aNil))) (gNm 6) (sIf (tBl (eBin opLt (eFn lenD (aCons (eBin ixD (eBor 5) (eVar 6)) aNil)) (eBor 1))) (sDPut 4 (eFn tupleD (aCons (eFn sortedD (aCons (eBin opAdd (eBin opAdd (eSlice (eBor 5) none (some (eVar 6))) (eTup (aCons (eBin opAdd (eBin ixD (eBor 5) (eVar 6)) (eTup (aCons (eVar 3) (aNil)))) (aNil)))) (eSlice (eBor 5) (some (eBin opAdd (eBor 6) (eCon (.int 1)))) none)) aNil)) aNil)) (eCon (.bl true))) (sNx))))) (sSet 2 (eFn sortedD (aCons (eBor 4) aNil)))))) (sRet (eLc (iSeq (eBor 2)) (gNm 5) (tYes') (eFn sumD (aCons (eLc (iSeq (eBor 5)) (gNm 7) (tYes') (eBin opMul (eCon (.int 2)) (eFn maxLD (aCons (eBor 7) aNil))) [7]) aNil)) [5])))
def f_law_ways : Fn := runF 8 s_law_ways
abbrev L0 : SS := sSet 4 (eBin opAdd (eCon (.int 1)) (eCall drawF (aCons (eVar 1) (aCons (eCon (.int 4)) (aNil)))))
abbrev L1 : SS := sSet 11 (eBin opAdd (eCon (.int 1)) (eCall drawF (aCons (eVar 1) (aCons (eCon (.int 9)) (aNil)))))
abbrev L2 : SS := sDPut 7 (eBor 11) (eBin opAdd (eFn getD3 (aCons (eBor 7) (aCons (eBor 11) (aCons (eCon (.int 0)) aNil)))) (eCon (.int 1)))
abbrev L3 : SS := sFor (iRange (aCons (eCall drawF (aCons (eVar 1) (aCons (eCon (.int 7)) (aNil)))) (aNil))) (gNm 8) (sSeq (L1) (L2))
abbrev L4 : SS := sSet 9 (eFn tupleD (aCons (eLc (iSeq (eFn sortedD (aCons (eBor 7) aNil))) (gNm 11) (tYes') (eTup (aCons (eVar 11) (aCons (eBin ixD (eBor 7) (eVar 11)) (aNil)))) [11]) aNil))
abbrev L5 : SS := sExprM (mMeth 10 kExt (mOne (mUp (eBin opMul (eLst (aCons (eVar 11) (aNil))) (eBor 12)))))
abbrev L6 : SS := sFor (iSeq (eVar 9)) (gTp (gMore (gNm 11) (gMore (gNm 12) (gNone)))) (L5)
abbrev L7 : SS := sAsg (gTp (gMore (gNm 5) (gMore (gNm 6) (gNone)))) (eCall f_least_rides (aCons (eVar 9) (aCons (eVar 4) (aNil))))
abbrev L8 : SS := sSet 13 (eFn sumD (aCons (eLc (iRange (aCons (eCon (.int 1)) (aCons (eCon (.int 61)) (aNil)))) (gNm 19) (tYes') (eBin opMul (eCon (.int 2)) (eUn opNeg (eBin opFdiv (eUn opNeg (eFn lenD (aCons (eLc (iSeq (eBor 10)) (gNm 11) (tBl (eBin opGe (eBor 11) (eBor 19))) (eVar 11) [11]) aNil))) (eBor 4)))) [19]) aNil))
abbrev L9 : SS := sIf (tOr (tNot (tOf (eCall (f_law_same 40) (aCons (eTup (aCons (eVar 5) (aCons (eCall f_floor_bound (aCons (eVar 9) (aCons (eVar 4) (aNil)))) (aNil)))) (aCons (eTup (aCons (eVar 13) (aCons (eVar 13) (aNil)))) (aNil)))))) (tBl (eBin opNe (eFn minLD (aCons (eCall f_law_ways (aCons (eVar 10) (aCons (eVar 4) (aNil)))) aNil)) (eBor 13)))) (sRet (eCon (.bl false))) (sNx)
abbrev L10 : SS := sIf (tOr (tNot (tOf (eCall f_law_are_rides (aCons (eVar 9) (aCons (eVar 4) (aCons (eVar 6) (aNil))))))) (tOr (tBl (eBin opNe (eCall f_time_of_rides (aCons (eVar 6) (aNil))) (eBor 13))) (tBl (eBin opNe (eFn lenD (aCons (eBor 6) aNil)) (eUn opNeg (eBin opFdiv (eUn opNeg (eFn lenD (aCons (eBor 10) aNil))) (eBor 4))))))) (sRet (eCon (.bl false))) (sNx)
abbrev L11 : SS := sSet 14 (eFn tupleD (aCons (eLc (iSeq (eBor 10)) (gNm 11) (tYes') (eTup (aCons (eTup (aCons (eVar 11) (aCons (eCon (.int 1)) (aNil)))) (aNil))) [11]) aNil))
abbrev L12 : SS := sSet 15 (eLst (aCons (eVar 6) (aCons (eVar 14) (aCons (eUn revD (eBor 6)) (aCons (eSlice (eBor 6) (some (eCon (.int 1))) none) (aCons (eBin opAdd (eBor 6) (eSlice (eBor 6) none (some (eCon (.int 1))))) (aCons (eFn tupleD (aCons (eLc (iSeq (eBor 6)) (gNm 20) (tYes') (eUn revD (eBor 20)) [20]) aNil)) (aCons (eTup (aNil)) (aCons (eCon .non) (aCons (eCon (.int 0)) (aCons (eTup (aCons (eTup (aNil)) (aNil))) (aCons (eTup (aCons (eFn tupleD (aCons (eBor 9) aNil)) (aNil))) (aNil)))))))))))))
abbrev L13 : SS := sSet 17 (eCall f_law_are_rides (aCons (eVar 9) (aCons (eVar 4) (aCons (eVar 16) (aNil)))))
abbrev L14 : SS := sIf (tOr (tNot (tOf (eCall (f_law_same 40) (aCons (eCall f_are_rides (aCons (eVar 9) (aCons (eVar 4) (aCons (eVar 16) (aNil))))) (aCons (eVar 17) (aNil)))))) (tAnd (tOf (eBor 17)) (tBl (eBin opLt (eCall f_time_of_rides (aCons (eVar 16) (aNil))) (eBor 13))))) (sRet (eCon (.bl false))) (sNx)
abbrev L15 : SS := sFor (iSeq (eBin opAdd (eBor 15) (eLc (iRange (aCons (eCon (.int 8)) (aNil))) (gNm 8) (tYes') (eCall (f_law_bent 40) (aCons (eVar 1) (aCons (eVar 6) (aNil)))) [8]))) (gNm 16) (sSeq (L13) (L14))
abbrev L16 : SS := sSet 15 (eLst (aCons (eVar 9) (aCons (eBin opAdd (eBor 9) (eTup (aCons (eTup (aCons (eCon (.int 61)) (aCons (eCon (.int 1)) (aNil)))) (aNil)))) (aCons (eUn revD (eBor 9)) (aCons (eTup (aCons (eTup (aCons (eCon (.int 1)) (aCons (eCon (.int 0)) (aNil)))) (aNil))) (aCons (eTup (aCons (eTup (aCons (eCon (.int 0)) (aCons (eCon (.int 1)) (aNil)))) (aNil))) (aCons (eTup (aCons (eTup (aCons (eCon (.int 1)) (aCons (eCon (.int 201)) (aNil)))) (aNil))) (aCons (eFn tupleD (aCons (eLc (iRange (aCons (eCon (.int 1)) (aCons (eCon (.int 13)) (aNil)))) (gNm 18) (tYes') (eTup (aCons (eVar 18) (aCons (eCon (.int 1)) (aNil)))) [18]) aNil)) (aNil)))))))))
abbrev L17 : SS := sSet 15 (eBin opAdd (eBor 15) (eLst (aCons (eFn tupleD (aCons (eLc (iRange (aCons (eCon (.int 1)) (aCons (eCon (.int 14)) (aNil)))) (gNm 18) (tYes') (eTup (aCons (eVar 18) (aCons (eCon (.int 1)) (aNil)))) [18]) aNil)) (aCons (eCon .non) (aCons (eTup (aCons (eTup (aCons (eCon (.int 1)) (aNil))) (aNil))) (aNil))))))
abbrev L18 : SS := sIf (tNot (tOf (eCall (f_law_same 40) (aCons (eCall f_are_groups (aCons (eVar 16) (aNil))) (aCons (eAnd (eCall f_law_is_load (aCons (eVar 16) (aCons (eCon (.int 200)) (aNil)))) (eBin opLe (eFn lenD (aCons (eBor 16) aNil)) (eCon (.int 12)))) (aNil)))))) (sRet (eCon (.bl false))) (sNx)
abbrev L19 : SS := sFor (iSeq (eBin opAdd (eBor 15) (eLc (iRange (aCons (eCon (.int 5)) (aNil))) (gNm 8) (tYes') (eCall (f_law_bent 40) (aCons (eVar 1) (aCons (eVar 9) (aNil)))) [8]))) (gNm 16) (L18)
abbrev L20 : SS := sIf (tOr (tBl (eBin opGt (eBin ixD (eCall f_least_rides (aCons (eVar 9) (aCons (eBin opAdd (eBor 4) (eCon (.int 1))) (aNil)))) (eCon (.int 0))) (eBor 13))) (tBl (eBin opGt (eFn lenD (aCons (eBin ixD (eCall f_least_rides (aCons (eVar 9) (aCons (eBin opAdd (eBor 4) (eCon (.int 1))) (aNil)))) (eCon (.int 1))) aNil)) (eFn lenD (aCons (eBor 6) aNil))))) (sRet (eCon (.bl false))) (sNx)
abbrev L21 : SS := sIf (tAnd (tBl (eBin opGt (eFn lenD (aCons (eBor 9) aNil)) (eCon (.int 0)))) (tAnd (tBl (eBin opGt (eBin ixD (eBin ixD (eBor 9) (eCon (.int 0))) (eCon (.int 0))) (eCon (.int 1)))) (tBl (eBin opGt (eBin ixD (eCall f_least_rides (aCons (eBin opAdd (eTup (aCons (eTup (aCons (eBin opSub (eBin ixD (eBin ixD (eBor 9) (eCon (.int 0))) (eCon (.int 0))) (eCon (.int 1))) (aCons (eBin ixD (eBin ixD (eBor 9) (eCon (.int 0))) (eCon (.int 1))) (aNil)))) (aNil))) (eSlice (eBor 9) (some (eCon (.int 1))) none)) (aCons (eVar 4) (aNil)))) (eCon (.int 0))) (eBor 13))))) (sRet (eCon (.bl false))) (sNx)
abbrev L22 : SS := sFor (iRange (aCons (eCon (.int 4)) (aNil))) (gNm 2) (sSeq (L0) (sSeq (sNew 7 (eDic0)) (sSeq (L3) (sSeq (L4) (sSeq (sNew 10 (eLst (aNil))) (sSeq (L6) (sSeq (L7) (sSeq (L8) (sSeq (sSeq (sFz 10) (L9)) (sSeq (L10) (sSeq (L11) (sSeq (L12) (sSeq (L15) (sSeq (L16) (sSeq (L17) (sSeq (L19) (sSeq (L20) (L21))))))))))))))))))
abbrev L23 : SS := sSet 3 (eFn tupleD (aCons (eLc (iRange (aCons (eCon (.int 11)) (aNil))) (gNm 18) (tYes') (eTup (aCons (eBin opAdd (eBin opAdd (eBin opMul (eCon (.int 5)) (eBor 18)) (eCon (.int 1))) (eCall drawF (aCons (eVar 1) (aCons (eCon (.int 5)) (aNil))))) (aCons (eBin opAdd (eCon (.int 1)) (eCall drawF (aCons (eVar 1) (aCons (eCon (.int 200)) (aNil))))) (aNil)))) [18]) aNil))
abbrev L24 : SS := sSet 4 (eBin opAdd (eCon (.int 1)) (eCall drawF (aCons (eVar 1) (aCons (eCon (.int 50)) (aNil)))))
abbrev L25 : SS := sAsg (gTp (gMore (gNm 5) (gMore (gNm 6) (gNone)))) (eCall f_least_rides (aCons (eVar 3) (aCons (eVar 4) (aNil))))
abbrev L26 : SS := sRet (eAnd (eBin opEq (eBor 5) (eCall f_floor_bound (aCons (eVar 3) (aCons (eVar 4) (aNil))))) (eAnd (eCall f_law_are_rides (aCons (eVar 3) (aCons (eVar 4) (aCons (eVar 6) (aNil))))) (eCall (f_law_same 40) (aCons (eCall f_least_rides (aCons (eTup (aCons (eTup (aCons (eCon (.int 1)) (aCons (eCon (.int 3)) (aNil)))) (aCons (eTup (aCons (eCon (.int 4)) (aCons (eCon (.int 2)) (aNil)))) (aNil)))) (aCons (eCon (.int 3)) (aNil)))) (aCons (eTup (aCons (eCon (.int 10)) (aCons (eTup (aCons (eTup (aCons (eTup (aCons (eCon (.int 1)) (aCons (eCon (.int 1)) (aNil)))) (aCons (eTup (aCons (eCon (.int 4)) (aCons (eCon (.int 2)) (aNil)))) (aNil)))) (aCons (eTup (aCons (eTup (aCons (eCon (.int 1)) (aCons (eCon (.int 2)) (aNil)))) (aNil))) (aNil)))) (aNil)))) (aNil))))))
abbrev s_law : SS := sSeq (L22) (sSeq (L23) (sSeq (L24) (sSeq (L25) (L26))))
def lawAt (b : Bx) : Option (Fl × Rho × Bx) := s_law (Sl.emp :: Sl.frz (.tok 0) :: List.replicate 19 Sl.emp) b
end K78

set_option maxHeartbeats 8000000
namespace K78
open PySem L2 Sv
open PyProof.Rows (envOfC)
def top (i : Nat) : Stmt := PySem.Challenge.pw_roomsemptied_k78_whole_lifts.main.body.getD i (.Pass ⟨0, 0, 0, 0⟩)
def ifThen : Stmt → List Stmt
  | .If (body := b) .. => b
  | _ => []
abbrev st_law_box : Stmt := top 15
abbrev st_law_load : Stmt := top 16
abbrev st_law_draw : Stmt := top 17
structure BtF (K : PySem.W.Frag) (mg : Str → Option Value) : Prop where
  len : mg "len" = none
  int : mg "int" = none
  list : mg "list" = none
theorem iteT' {c : Bool} {p q : Prop} (e : c = true) (h : p) : if c = true then p else q := by rw [if_pos e]; exact h
theorem iteF' {c : Bool} {p q : Prop} (e : c = false) (h : q) : if c = true then p else q := by rw [if_neg (by rw [e]; decide)]; exact h
section
variable {P : Program} {w : World} {K : PySem.W.Frag} {mg : Str → Option Value} {base : Heap}
theorem sc_box : FnScope ["script"] ["script"] (defScope st_law_box) := ⟨rfl, rfl, rfl, by decide +kernel, rfl, by decide +kernel, by decide +kernel⟩
theorem ok_box {f : Addr} {fd : FuncData} (F : L2.Fun K "_law_box" "_law_box" st_law_box f fd) (T : BtF K mg) : FnOk P w K mg base CX0 1 f fd ["script"] (spBox K) := by
  refine F.ok sc_box (fun vs H Q E h => ?_) (fun cdv A outer s H vs Q E hr h => ?_)
  · obtain ⟨a, ns, rfl, _⟩ := h
    rfl
  · obtain ⟨a, ns, rfl, hs, hn, k⟩ := h
    refine ⟨_, pss_one (ps_ret (pe_lst (pa_cons (pe_callTy call_list_of (by rfl) T.list (by decide +kernel) (pa_cons (pe_slice sl_list (pv 0) po_none (po_some pe_int)) pa_nil)) (pa_cons pe_int (pa_cons (pe_op op_add pe_int (pe_callB call_len_seq (by rfl) T.len PySem.boot_len (pa_cons (pv 0) pa_nil))) pa_nil))))), ?_⟩
    refine ⟨_, rfl, 63, rfl, a, _, rfl, hs, fun p hp => ?_⟩
    have hcut : cutV (ns.map V.int) none (some 63) = ns.map V.int := by
      have h1 : HT.sIx (ns.map V.int).length 0 none = 0 := by simp [HT.sIx]
      have h2 : HT.sIx (ns.map V.int).length (ns.map V.int).length (some 63) = (ns.map V.int).length := by
        simp [HT.sIx]; omega
      unfold cutV
      rw [h1, h2, List.drop_zero, Nat.sub_zero, List.take_length]
    rw [hcut]
    have s1 : Same H (upd H p (.lst (ns.map V.int))) := fun b o e => by rw [upd_ne (ne_of_none e hp)]; exact e
    refine ⟨p, _, rfl, .inl (SqL.of upd_same), fun q hq => ?_⟩
    have npq : p ≠ q := ne_of_none upd_same hq
    have s2 : Same H (upd (upd H p (.lst (ns.map V.int))) q (.lst (ns.map V.int))) := fun b o e => by rw [upd_ne (ne_of_none (s1 b o e) hq)]; exact s1 b o e
    refine ⟨_, rfl, a, _, rfl, .inl (s2.seq hs), _, _, rfl, rfl, ⟨by show 3 ≤ _; decide, fun r hr => ?_⟩⟩
    have nqr : q ≠ r := ne_of_none upd_same hr
    refine k r q _ ⟨nqr.symm, ?_, by rw [upd_ne nqr]; exact upd_same⟩
    rw [upd_same, List.length_map]
theorem sc_load : FnScope ["box", "cells", "cell", "size", "first", "second"] ["box"] (defScope st_law_load) := ⟨rfl, rfl, rfl, by decide +kernel, rfl, by decide +kernel, by decide +kernel⟩
theorem ok_load {f : Addr} {fd : FuncData} (F : L2.Fun K "_law_load" "_law_load" st_law_load f fd) (T : BtF K mg) : FnOk P w K mg base CX0 1 f fd ["box"] spLoad := by
  refine F.ok sc_load (fun vs H Q E h => ?_) (fun cdv A outer s H vs Q E hr h => ?_)
  · obtain ⟨p, q, b, rfl, _⟩ := h
    rfl
  · obtain ⟨p, q, b, rfl, hb, k⟩ := h
    have pint : ∀ {X : Cx} {e : Expr} {te : TE} {p pos : Pos}, Gl X "int" → X.mg "int" = none → PE X e te → starEach [e] X.env = (false, eval e X.env) :: starEach [] X.env → PE X (.Call (.Name "int" p) [e] [] pos) (tCB (fun xs H Q => (∃ i, xs = [.int i] ∧ Q (.int i) H) ∨ ∃ k, xs = [.bl k] ∧ Q (.int (if k then 1 else 0)) H) (tCons te tNil)) := fun hg hm he hs => pe_callTy call_int1 hg hm (by decide +kernel) (pa_cons he pa_nil hs) (by decide) (by decide) hs rfl
    obtain ⟨t2, h2, q2⟩ : ∃ t : TS, PSs (cxOf CX0 P w K mg base ["box", "cells", "cell", "size", "first", "second"] "_law_load" (defScope st_law_load) f cdv A outer s H E).nox ((defBody st_law_load).drop 2) t ∧
        ∀ (c z : Option V) (H1 : Hp) (b1 : Bx), BSt p q b1 H1 → Off p q H H1 → restB b1 = loadB b → t { nx := fun _ H' => Q .non H', rt := Q } [some (.ref p), some (.ref q), c, z, none, none] H1 :=
      ⟨_, pss_cons (ps_set (i := 4) sc_load.nd rfl (Or.inl rfl) (pe_op op_modN (pint (by rfl) T.int (pe_op op_add (pe_op op_mul (pe_ix ix_list (pv 0) pe_int (by intro _ _; rfl)) pe_int) pe_int) rfl) pe_int))
      (pss_cons (ps_set (i := 5) sc_load.nd rfl (Or.inl rfl) (pe_op op_modN (pint (by rfl) T.int (pe_op op_add (pe_op op_mul (pv 4) pe_int) pe_int) rfl) pe_int))
      (pss_cons (ps_asg (pe_op op_modN (pint (by rfl) T.int (pe_op op_add (pe_op op_mul (pv 5) pe_int) pe_int) rfl) pe_int) (pg_sub (pv 0) pe_int set_list))
      (pss_one (ps_ret (pe_op op_add (pe_op op_add (pe_op op_mul (pv 4) pe_int) (pe_op op_mul (pv 5) pe_int)) (pe_ix ix_list (pv 0) pe_int (by intro _ _; rfl))))))), fun c z H1 b1 ⟨npq, hp, hq⟩ off er => by
        refine ⟨_, rfl, p, _, 2, _, rfl, rfl, SqL.of hp, rfl, _, _, rfl, rfl, .inr ⟨by decide, by decide⟩, _, _, rfl, rfl, .inl ⟨_, rfl, _, _, rfl, rfl, (show (_ : Int) ≠ 0 by decide), ?_⟩⟩
        refine ⟨_, rfl, _, _, rfl, rfl, .inr ⟨by decide, by decide⟩, _, _, rfl, rfl, .inl ⟨_, rfl, _, _, rfl, rfl, (show (_ : Int) ≠ 0 by decide), ?_⟩⟩
        refine ⟨_, rfl, _, _, rfl, rfl, .inr ⟨by decide, by decide⟩, _, _, rfl, rfl, .inl ⟨_, rfl, _, _, rfl, rfl, (show (_ : Int) ≠ 0 by decide), ?_⟩⟩
        refine ⟨_, rfl, p, _, 2, 2, rfl, rfl, hp, rfl, ?_⟩
        refine ⟨_, rfl, _, _, rfl, rfl, .inr ⟨by decide, by decide⟩, _, rfl, _, _, rfl, rfl, .inr ⟨by decide, by decide⟩, _, _, rfl, rfl, ?_⟩
        refine ⟨_, rfl, p, _, 2, _, rfl, rfl, SqL.of upd_same, rfl, _, _, rfl, rfl, ?_⟩
        have e1 := congrArg Prod.fst er
        have e2 := congrArg Prod.snd er
        have k1 := k (upd H1 p (.lst [.ref q, .int b1.x, .int (restB b1).2.y])) (off.trans Off.updp) ?_
        · rw [← er] at k1; exact k1
        · rw [← er]
          exact ⟨npq, upd_same, by rw [upd_ne npq.symm]; exact hq⟩⟩
    obtain ⟨t3, h3, q3⟩ : ∃ t : TS, PSs (cxOf CX0 P w K mg base ["box", "cells", "cell", "size", "first", "second"] "_law_load" (defScope st_law_load) f cdv A outer s H E).nox ((ifThen ((defBody st_law_load).getD 1 (.Pass ⟨0, 0, 0, 0⟩))).drop 2) t ∧
        ∀ (c z : Int) (cs : List Int), b.cs = c :: cs → sizeB c = z → t { nx := t2 { nx := fun _ H' => Q .non H', rt := Q }, rt := Q } [some (.ref p), some (.ref q), some (.int c), some (.int z), none, none] (upd H q (.lst (cs.map V.int))) :=
      ⟨_, pss_cons (ps_if (pt_cmpR op_ge (pv 3) pe_int (nomark _)) (pss_one (ps_ret (pv 3))) pss_nil)
        (pss_one (ps_asg (pe_op op_modN (pint (by rfl) T.int (pe_op op_add (pe_op op_add (pe_op op_mul (pe_ix ix_list (pv 0) pe_int (by intro _ _; rfl)) pe_int) (pe_op op_mul (pv 3) pe_int)) pe_int) rfl) pe_int) (pg_sub (pv 0) pe_int set_list))), fun c z cs ec hz => by
        obtain ⟨npq, hp, hq⟩ := id hb
        obtain ⟨_, x, y⟩ := b
        obtain rfl : _ = c :: cs := ec
        have hq2 : ∀ H1, H1 = upd H q (.lst (cs.map V.int)) → BSt p q ⟨cs, x, y⟩ H1 := fun H1 e => by
          subst e
          exact ⟨npq, by rw [upd_ne npq]; exact hp, upd_same⟩
        obtain ⟨_, hp2, _⟩ := hq2 _ rfl
        refine ⟨_, rfl, _, _, rfl, rfl, _, rfl, ?_⟩
        by_cases h1 : 1000000000000000000 ≤ z
        · refine iteT' (decide_eq_true h1) ?_
          refine ⟨_, rfl, ?_⟩
          have el : loadB ⟨c :: cs, x, y⟩ = (sizeB c, ⟨cs, x, y⟩) := if_pos (by rw [hz]; exact h1)
          have k1 := k (upd H q (.lst (cs.map V.int))) Off.updq (by rw [el]; exact hq2 _ rfl)
          rw [el, hz] at k1
          exact k1
        · refine iteF' (decide_eq_false h1) ?_
          have el : loadB ⟨c :: cs, x, y⟩ = restB ⟨cs, x, (y * 69621 + sizeB c * 48271 + 11).fmod 2147483647⟩ := if_neg (by rw [hz]; exact h1)
          refine ⟨_, rfl, p, _, 2, _, rfl, rfl, SqL.of hp2, rfl, _, _, rfl, rfl, .inr ⟨by decide, by decide⟩, _, rfl, _, _, rfl, rfl, .inr ⟨by decide, by decide⟩, _, _, rfl, rfl, _, _, rfl, rfl, .inl ⟨_, rfl, _, _, rfl, rfl, (show (_ : Int) ≠ 0 by decide), ?_⟩⟩
          refine ⟨_, rfl, p, _, 2, 2, rfl, rfl, hp2, rfl, ?_⟩
          refine q2 (some (.int c)) (some (.int z)) _ ⟨cs, x, (y * 69621 + z * 48271 + 11).fmod 2147483647⟩ ⟨npq, upd_same, by rw [upd_ne npq.symm]; exact upd_same⟩ (Off.updq.trans Off.updp) ?_
          rw [el, hz]⟩
    refine ⟨_, pss_cons (ps_set (i := 1) sc_load.nd rfl (Or.inl rfl) (pe_ix ix_list (pv 0) pe_int (by intro _ _; rfl)))
      (pss_cons (ps_if (pt_cmpR op_gt (pe_callB call_len_seq (by rfl) T.len PySem.boot_len (pa_cons (pv 1) pa_nil)) pe_int (nomark _))
        (pss_cons (ps_set (i := 2) sc_load.nd rfl (Or.inl rfl) (pint (by rfl) T.int (pe_bm PySem.F.plainAttrs_list PySem.F.slot_list_pop PySem.F.type_list_pop mt_popAt (pv 1) (pa_cons pe_int pa_nil)) rfl))
        (pss_cons (ps_set (i := 3) sc_load.nd rfl (Or.inl rfl) (pe_ifExp (pt_cmpR op_ge (pv 2) pe_int (nomark _)) (pe_op op_mul pe_int (pv 2)) (pe_op op_sub (pe_op op_mul (pe_un un_neg pe_int) (pv 2)) pe_int)))
        h3)) pss_nil)
      h2), ?_⟩
    obtain ⟨npq, hp, hq⟩ := id hb
    refine ⟨_, rfl, p, _, 0, _, rfl, rfl, SqL.of hp, rfl, ?_⟩
    refine ⟨_, rfl, q, _, rfl, .inl (SqL.of hq), _, _, rfl, rfl, _, rfl, ?_⟩
    obtain ⟨cs, x, y⟩ := b
    cases cs with
    | nil =>
      refine iteF' rfl ?_
      exact q2 none none H _ hb Off.refl rfl
    | cons c cs =>
      refine iteT' (decide_eq_true (by simp)) ?_
      refine ⟨_, rfl, .inl ⟨rfl, _, SqL.of hq⟩, q, _, 0, 0, .int c, rfl, rfl, hq, by decide, by decide, ?_, rfl, .inl ⟨_, rfl, ?_⟩⟩
      · show seqIndex? 0 ((c :: cs).map V.int).length = some 0
        rw [seqIndex_of (by decide) (by simp)]; rfl
      refine ⟨_, rfl, _, _, rfl, rfl, _, rfl, ?_⟩
      by_cases h0 : 0 ≤ c
      · refine iteT' (decide_eq_true h0) ?_
        refine ⟨_, rfl, _, _, rfl, rfl, .inl ⟨by decide, by decide⟩, ?_⟩
        exact q3 c _ cs rfl (if_pos h0)
      · refine iteF' (decide_eq_false h0) ?_
        refine ⟨_, rfl, _, rfl, _, _, rfl, rfl, .inl ⟨by decide, by decide⟩, _, _, rfl, rfl, ?_⟩
        exact q3 c _ cs rfl (if_neg h0)
theorem sc_draw : FnScope ["box", "many", "digit"] ["box", "many"] (defScope st_law_draw) := ⟨rfl, rfl, rfl, by decide +kernel, rfl, by decide +kernel, by decide +kernel⟩
theorem ok_draw {f fL : Addr} {fd fdL : FuncData} (F : L2.Fun K "_law_draw" "_law_draw" st_law_draw f fd) (T : BtF K mg) (FL : FnOk P w K mg base CX0 1 fL fdL ["box"] spLoad) (ml : mg "_law_load" = some (.ref fL)) (kl : PySem.W.keepIn K (.ref fL) = true) (bl : Binds K fdL ["box"] []) : FnOk P w K mg base CX0 2 f fd ["box", "many"] spDraw := by
  refine F.ok sc_draw (fun vs H Q E h => ?_) (fun cdv A outer s H vs Q E hr h => ?_)
  · obtain ⟨p, q, b, many, rfl, _⟩ := h
    rfl
  · obtain ⟨p, q, b, many, rfl, hm, hn, hb, k⟩ := h
    have pint : ∀ {X : Cx} {e : Expr} {te : TE} {p pos : Pos}, Gl X "int" → X.mg "int" = none → PE X e te → starEach [e] X.env = (false, eval e X.env) :: starEach [] X.env → PE X (.Call (.Name "int" p) [e] [] pos) (tCB (fun xs H Q => (∃ i, xs = [.int i] ∧ Q (.int i) H) ∨ ∃ k, xs = [.bl k] ∧ Q (.int (if k then 1 else 0)) H) (tCons te tNil)) := fun hg hm he hs => pe_callTy call_int1 hg hm (by decide +kernel) (pa_cons he (pa_nil) hs) (by decide) (by decide) hs rfl
    obtain ⟨t2, h2, q2⟩ : ∃ t : TS, PSs (cxOf CX0 P w K mg base ["box", "many", "digit"] "_law_draw" (defScope st_law_draw) f cdv A outer s H E).nox ((defBody st_law_draw).drop 1) t ∧
        ∀ (H1 : Hp) (b1 : Bx), BSt p q b1 H1 → Off p q H H1 → b1 = fillB b many → t { nx := fun _ H' => Q .non H', rt := Q } [some (.ref p), some (.int many), none] H1 :=
      ⟨_, pss_cons (ps_set (i := 2) sc_draw.nd rfl (Or.inl rfl) (pe_op op_modN (pint (by rfl) T.int (pe_ix ix_list (pv 0) pe_int (by intro _ _; rfl)) rfl) (pv 1)))
        (pss_cons (ps_asg (pe_op op_fdivN (pe_ix ix_list (pv 0) pe_int (by intro _ _; rfl)) (pv 1)) (pg_sub (pv 0) pe_int set_list)) (pss_one (ps_ret (pv 2)))), fun H1 b1 ⟨npq, hp, hq⟩ off eb => by
        refine ⟨_, rfl, p, _, 1, _, rfl, rfl, SqL.of hp, rfl, .inl ⟨_, rfl, _, rfl, _, _, rfl, rfl, hm, ?_⟩⟩
        refine ⟨_, rfl, p, _, 1, _, rfl, rfl, SqL.of hp, rfl, _, rfl, _, _, rfl, rfl, ⟨hm, hn⟩, ?_⟩
        refine ⟨_, rfl, p, _, 1, 1, rfl, rfl, hp, rfl, _, rfl, ?_⟩
        have k1 := k (upd H1 p (.lst [.ref q, .int (b1.x.fdiv many), .int b1.y])) (off.trans Off.updp) ?_
        · unfold drawB at k1
          rw [← eb] at k1
          exact k1
        · unfold drawB
          rw [← eb]
          exact ⟨npq, upd_same, by rw [upd_ne npq.symm]; exact hq⟩⟩
    refine ⟨_, pss_cons (ps_if (pt_cmpR op_lt (pe_ix ix_list (pv 0) pe_int (by intro _ _; rfl)) (pv 1) (nomark _))
      (pss_one (ps_asg (pe_call FL hr (by rfl) ml kl bl .nil pass0 (pa_cons (pv 0) pa_nil)) (pg_sub (pv 0) pe_int set_list))) pss_nil) h2, ?_⟩
    obtain ⟨npq, hp, hq⟩ := id hb
    refine ⟨_, rfl, p, _, 1, _, rfl, rfl, SqL.of hp, rfl, _, rfl, _, _, rfl, rfl, _, rfl, ?_⟩
    by_cases h0 : b.x < many
    · refine iteT' (decide_eq_true h0) ?_
      refine ⟨_, rfl, p, q, b, rfl, hb, fun H' off bs => ?_⟩
      refine ⟨_, rfl, p, _, 1, 1, rfl, rfl, bs.2.1, rfl, ?_⟩
      refine q2 _ ⟨(loadB b).2.cs, (loadB b).1, (loadB b).2.y⟩ ⟨npq, upd_same, by rw [upd_ne npq.symm]; exact bs.2.2⟩ (off.trans Off.updp) ?_
      unfold fillB
      rw [if_pos h0]
    · refine iteF' (decide_eq_false h0) ?_
      refine q2 H b hb Off.refl ?_
      unfold fillB
      rw [if_neg h0]
end

structure Txt (K : PySem.W.Frag) (mg : Str → Option Value) (fa : Nat → Addr) (fd : Nat → FuncData) : Prop where
  d_is_whole : Df K mg "is_whole" (top 1) ["value"] (fa 1) (fd 1)
  d_is_number : Df K mg "is_number" (top 2) ["value", "least", "most"] (fa 2) (fd 2)
  d_is_ascending : Df K mg "is_ascending" (top 3) ["rows"] (fa 3) (fd 3)
  d_is_load : Df K mg "is_load" (top 8) ["value", "most"] (fa 8) (fd 8)
  d_are_groups : Df K mg "are_groups" (top 9) ["value"] (fa 9) (fd 9)
  d_are_rides : Df K mg "are_rides" (top 10) ["groups", "hold", "value"] (fa 10) (fd 10)
  d_time_of_rides : Df K mg "time_of_rides" (top 11) ["rides"] (fa 11) (fd 11)
  d_floor_bound : Df K mg "floor_bound" (top 12) ["groups", "hold"] (fa 12) (fd 12)
  d_least_rides : Df K mg "least_rides" (top 13) ["groups", "hold"] (fa 13) (fd 13)
  d_law_box : Df K mg "_law_box" (top 15) ["script"] (fa 15) (fd 15)
  d_law_load : Df K mg "_law_load" (top 16) ["box"] (fa 16) (fd 16)
  d_law_draw : Df K mg "_law_draw" (top 17) ["box", "many"] (fa 17) (fd 17)
  d_law_same : Df K mg "_law_same" (top 18) ["a", "b"] (fa 18) (fd 18)
  d_law_bent : Df K mg "_law_bent" (top 19) ["box", "value"] (fa 19) (fd 19)
  d_law_is_load : Df K mg "_law_is_load" (top 20) ["value", "most"] (fa 20) (fd 20)
  d_law_are_rides : Df K mg "_law_are_rides" (top 21) ["groups", "hold", "value"] (fa 21) (fd 21)
  d_law_ways : Df K mg "_law_ways" (top 22) ["floors", "hold"] (fa 22) (fd 22)
  d_law : Df K mg "law" (top 23) ["script"] (fa 23) (fd 23)
  b_all : mg "all" = none
  b_any : mg "any" = none
  b_bool : mg "bool" = none
  b_dict : mg "dict" = none
  b_int : mg "int" = none
  b_isinstance : mg "isinstance" = none
  b_len : mg "len" = none
  b_list : mg "list" = none
  b_max : mg "max" = none
  b_min : mg "min" = none
  b_range : mg "range" = none
  b_sorted : mg "sorted" = none
  b_str : mg "str" = none
  b_sum : mg "sum" = none
  b_tuple : mg "tuple" = none
  g_MAX_FLOOR : ∃ u, mg "MAX_FLOOR" = some u ∧ RelV (.int 60) u
  g_MAX_GROUPS : ∃ u, mg "MAX_GROUPS" = some u ∧ RelV (.int 12) u
  g_MAX_WAITING : ∃ u, mg "MAX_WAITING" = some u ∧ RelV (.int 200) u
theorem Txt.btF {K : PySem.W.Frag} {mg : Str → Option Value} {fa : Nat → Addr} {fd : Nat → FuncData} (T : Txt K mg fa fd) : BtF K mg := ⟨T.b_len, T.b_int, T.b_list⟩
section
variable {P : Program} {w : World} {K : PySem.W.Frag} {mg : Str → Option Value} {base : Heap} {fn : Nat → Option V} {fa : Nat → Addr} {fd : Nat → FuncData}
theorem okd_draw (T : Txt K mg fa fd) : FnOk P w K mg base CX0 2 (fa 17) (fd 17) ["box", "many"] (spD ⟨P, w, K, fn⟩ 2 drawF) :=
  (ok_draw T.d_law_draw.fu T.btF (ok_load T.d_law_load.fu T.btF) T.d_law_load.mg T.d_law_load.fu.kp T.d_law_load.bi).imp draw_imp
abbrev t_is_whole : Stmt := top 1
theorem sc_is_whole : FnScope ["value"] ["value"] (defScope t_is_whole) := ⟨rfl, rfl, rfl, by decide +kernel, rfl, by decide +kernel, by decide +kernel⟩
theorem ok_is_whole (T : Txt K mg fa fd) : FnOk P w K mg base CX0 1 (fa 1) (fd 1) ["value"] (spD ⟨P, w, K, fn⟩ 1 f_is_whole) := by
    refine fn_sv (k := 0) T.d_is_whole.fu sc_is_whole rfl s_is_whole fun cdv A outer s0 H E hr => ?_
    have nd := sc_is_whole.nd
    have hu := hu64 hr
    have hu5 := hu65 hr
    exact psx_one (psx_ret (px_and (px_isi (t := .int) (vo 0) (by rfl) T.b_isinstance (by rfl) T.b_int (by decide +kernel)) (px_one (px_not ((px_isi (t := .bool) (vo 0) (by rfl) T.b_isinstance (by rfl) T.b_bool (by decide +kernel)).o)))))
abbrev t_is_number : Stmt := top 2
theorem sc_is_number : FnScope ["value", "least", "most"] ["value", "least", "most"] (defScope t_is_number) := ⟨rfl, rfl, rfl, by decide +kernel, rfl, by decide +kernel, by decide +kernel⟩
theorem ok_is_number (T : Txt K mg fa fd) : FnOk P w K mg base CX0 1 (fa 2) (fd 2) ["value", "least", "most"] (spD ⟨P, w, K, fn⟩ 3 f_is_number) := by
    refine fn_sv (k := 0) T.d_is_number.fu sc_is_number rfl s_is_number fun cdv A outer s0 H E hr => ?_
    have nd := sc_is_number.nd
    have hu := hu64 hr
    have hu5 := hu65 hr
    exact psx_one (psx_ret (px_and (px_isi (t := .int) (vo 0) (by rfl) T.b_isinstance (by rfl) T.b_int (by decide +kernel)) (px_and (px_not ((px_isi (t := .bool) (vo 0) (by rfl) T.b_isinstance (by rfl) T.b_bool (by decide +kernel)).o)) (px_one (px_chain (d_le hu) (d_le hu) (vo 1) (vo 0) (vo 2))))))
abbrev t_is_ascending : Stmt := top 3
theorem sc_is_ascending : FnScope ["rows", "k"] ["rows"] (defScope t_is_ascending) := ⟨rfl, rfl, rfl, by decide +kernel, rfl, by decide +kernel, by decide +kernel⟩
theorem ok_is_ascending (T : Txt K mg fa fd) : FnOk P w K mg base CX0 1 (fa 3) (fd 3) ["rows"] (spD ⟨P, w, K, fn⟩ 1 f_is_ascending) := by
    refine fn_sv (k := 0) T.d_is_ascending.fu sc_is_ascending rfl s_is_ascending fun cdv A outer s0 H E hr => ?_
    have nd := sc_is_ascending.nd
    have hu := hu64 hr
    have hu5 := hu65 hr
    exact psx_one (psx_ret (b_all T.b_all (((pn_lc (own := [("k", 1)]) (by rfl) nd ((pi_range (by rfl) T.b_range (ps_cons' (px_bin d_sub ((b_len T.b_len (vo 0)).o) ((px_int).o)) (ps_nil'))).o) (blkOk_by (by kernel_rfl)) (fun _ _ _ _ _ => pgx_nm (i := 1) nd rfl (by first | exact Or.inl rfl | exact Or.inr rfl)) (fun _ _ _ _ _ => ptx_nil) (fun _ _ _ _ _ => px_cmp (d_lt hu) ((px_ix (d_ix hu) (vo 0) (vx 1)).o) ((px_ix (d_ix hu) (vo 0) (px_bin d_add (vo 1) ((px_int).o))).o) (nomark _))).x).o)))
abbrev t_is_load : Stmt := top 8
theorem sc_is_load : FnScope ["value", "most", "floor", "number", "_", "pair"] ["value", "most"] (defScope t_is_load) := ⟨rfl, rfl, rfl, by decide +kernel, rfl, by decide +kernel, by decide +kernel⟩
theorem ok_is_load (T : Txt K mg fa fd) : FnOk P w K mg base CX0 2 (fa 8) (fd 8) ["value", "most"] (spD ⟨P, w, K, fn⟩ 2 f_is_load) := by
    refine fn_sv (k := 1) T.d_is_load.fu sc_is_load rfl s_is_load fun cdv A outer s0 H E hr => ?_
    have nd := sc_is_load.nd
    have hu := hu64 hr
    have hu5 := hu65 hr
    have c_is_ascending := T.d_is_ascending.cal (ok_is_ascending (P := P) (w := w) (base := base) (fn := fn) T) hr
    have c_is_number := T.d_is_number.cal (ok_is_number (P := P) (w := w) (base := base) (fn := fn) T) hr
    have c_is_whole := T.d_is_whole.cal (ok_is_whole (P := P) (w := w) (base := base) (fn := fn) T) hr
    exact psx_cons (psx_if ((pw_or' (pt_not' (pt_of ((px_isi (t := .tuple) (vo 0) (by rfl) T.b_isinstance (by rfl) T.b_tuple (by decide +kernel)).o))) (pw_one_or (pt_not' (pt_of ((b_all T.b_all (((pn_lc (own := [("pair", 5)]) (by rfl) nd (pio_seq (vo 0)) (blkOk_by (by kernel_rfl)) (fun _ _ _ _ _ => pgx_nm (i := 5) nd rfl (by first | exact Or.inl rfl | exact Or.inr rfl)) (fun _ _ _ _ _ => ptx_nil) (fun _ _ _ _ _ => px_and (px_isi (t := .tuple) (vo 5) (by rfl) T.b_isinstance (by rfl) T.b_tuple (by decide +kernel)) (px_one (px_cmp (d_eq hu) ((b_len T.b_len (vo 5)).o) ((px_int).o) (nomark _))))).x).o)).o))))).pt) (psx_one (psx_ret (px_bl))) (psx_nil)) (psx_cons (psx_for PassesOwn.never (by rfl) (pi_seq (vx 0)) (pgx_tup (by rfl) (pgx_cons (pgx_nm (i := 2) nd rfl (by first | exact Or.inl rfl | exact Or.inr rfl)) (pgx_cons (pgx_nm (i := 3) nd rfl (by first | exact Or.inl rfl | exact Or.inr rfl)) (pgx_nil)))) (psx_one (psx_if ((pw_or' (pt_not' (pt_of ((px_call c_is_number (by rfl) (ps_cons' (vx 2) (ps_cons' (px_int) (ps_cons' (px_con (px_gc (by rfl) T.g_MAX_FLOOR) (fun _ _ _ => by simp [Rp])) (ps_nil'))))).o))) (pw_or' (pt_not' (pt_of ((px_call c_is_whole (by rfl) (ps_cons' (vx 3) (ps_nil'))).o))) (pw_one_or (pt_not' (pt_chain' (d_le hu) (d_le hu) ((px_int).o) (vo 3) (vo 1)))))).pt) (psx_one (psx_ret (px_bl))) (psx_nil)))) (psx_one (psx_ret (px_call c_is_ascending (by rfl) (ps_cons' ((pn_lc (own := [("floor", 2), ("_", 4)]) (by rfl) nd (pio_seq (vo 0)) (blkOk_by (by kernel_rfl)) (fun _ _ _ _ _ => pgx_tup (by rfl) (pgx_cons (pgx_nm (i := 2) nd rfl (by first | exact Or.inl rfl | exact Or.inr rfl)) (pgx_cons (pgx_nm (i := 4) nd rfl (by first | exact Or.inl rfl | exact Or.inr rfl)) (pgx_nil)))) (fun _ _ _ _ _ => ptx_nil) (fun _ _ _ _ _ => vx 2)).x) (ps_nil'))))))
abbrev t_are_groups : Stmt := top 9
theorem sc_are_groups : FnScope ["value"] ["value"] (defScope t_are_groups) := ⟨rfl, rfl, rfl, by decide +kernel, rfl, by decide +kernel, by decide +kernel⟩
theorem ok_are_groups (T : Txt K mg fa fd) : FnOk P w K mg base CX0 3 (fa 9) (fd 9) ["value"] (spD ⟨P, w, K, fn⟩ 1 f_are_groups) := by
    refine fn_sv (k := 2) T.d_are_groups.fu sc_are_groups rfl s_are_groups fun cdv A outer s0 H E hr => ?_
    have nd := sc_are_groups.nd
    have hu := hu64 hr
    have hu5 := hu65 hr
    have c_is_load := T.d_is_load.cal (ok_is_load (P := P) (w := w) (base := base) (fn := fn) T) hr
    exact psx_one (psx_ret (px_and (px_call c_is_load (by rfl) (ps_cons' (vx 0) (ps_cons' (px_con (px_gc (by rfl) T.g_MAX_WAITING) (fun _ _ _ => by simp [Rp])) (ps_nil')))) (px_one (px_cmp (d_le hu) ((b_len T.b_len (vo 0)).o) ((px_con (px_gc (by rfl) T.g_MAX_GROUPS) (fun _ _ _ => by simp [Rp])).o) (nomark _)))))
abbrev t_are_rides : Stmt := top 10
theorem sc_are_rides : FnScope ["groups", "hold", "value", "left", "ride", "floor", "number", "_"] ["groups", "hold", "value"] (defScope t_are_rides) := ⟨rfl, rfl, rfl, by decide +kernel, rfl, by decide +kernel, by decide +kernel⟩
theorem ok_are_rides (T : Txt K mg fa fd) : FnOk P w K mg base CX0 3 (fa 10) (fd 10) ["groups", "hold", "value"] (spD ⟨P, w, K, fn⟩ 3 f_are_rides) := by
    refine fn_sv (k := 2) T.d_are_rides.fu sc_are_rides rfl s_are_rides fun cdv A outer s0 H E hr => ?_
    have nd := sc_are_rides.nd
    have hu := hu64 hr
    have hu5 := hu65 hr
    have c_is_load := T.d_is_load.cal (ok_is_load (P := P) (w := w) (base := base) (fn := fn) T) hr
    exact psx_cons (psx_if ((pw_or' (pt_not' (pt_of ((px_isi (t := .tuple) (vo 2) (by rfl) T.b_isinstance (by rfl) T.b_tuple (by decide +kernel)).o))) (pw_one_or (pt_not' (pt_of ((b_all T.b_all (((pn_lc (own := [("ride", 4)]) (by rfl) nd (pio_seq (vo 2)) (blkOk_by (by kernel_rfl)) (fun _ _ _ _ _ => pgx_nm (i := 4) nd rfl (by first | exact Or.inl rfl | exact Or.inr rfl)) (fun _ _ _ _ _ => ptx_nil) (fun _ _ _ _ _ => px_and (px_call c_is_load (by rfl) (ps_cons' (vx 4) (ps_cons' (vx 1) (ps_nil')))) (px_one (px_cmp (d_ne hu) (vo 4) ((px_tup (ps_nil')).o) (nomark _))))).x).o)).o))))).pt) (psx_one (psx_ret (px_bl))) (psx_nil)) (psx_cons (psx_if (pt_of ((b_any T.b_any (((pn_lc (own := [("ride", 4)]) (by rfl) nd (pio_seq (vo 2)) (blkOk_by (by kernel_rfl)) (fun _ _ _ _ _ => pgx_nm (i := 4) nd rfl (by first | exact Or.inl rfl | exact Or.inr rfl)) (fun _ _ _ _ _ => ptx_nil) (fun _ _ _ _ _ => px_cmp (d_gt hu) ((b_sum T.b_sum (((pn_lc (own := [("_", 7), ("number", 6)]) (by rfl) nd (pio_seq (vo 4)) (blkOk_by (by kernel_rfl)) (fun _ _ _ _ _ => pgx_tup (by rfl) (pgx_cons (pgx_nm (i := 7) nd rfl (by first | exact Or.inl rfl | exact Or.inr rfl)) (pgx_cons (pgx_nm (i := 6) nd rfl (by first | exact Or.inl rfl | exact Or.inr rfl)) (pgx_nil)))) (fun _ _ _ _ _ => ptx_nil) (fun _ _ _ _ _ => vx 6)).x).o)).o) (vo 1) (nomark _))).x).o)).o)) (psx_one (psx_ret (px_bl))) (psx_nil)) (psx_cons (psx_setDc (i := 3) (own := [("floor", 5), ("number", 6)]) false hu (by rfl) nd rfl rfl (sw_trueD rfl rfl rfl (by decide +kernel)) (pio_seq (vo 0)) (blkOk_by (by kernel_rfl)) (fun _ _ _ _ _ => pgx_tup (by rfl) (pgx_cons (pgx_nm (i := 5) nd rfl (by first | exact Or.inl rfl | exact Or.inr rfl)) (pgx_cons (pgx_nm (i := 6) nd rfl (by first | exact Or.inl rfl | exact Or.inr rfl)) (pgx_nil)))) (fun _ _ _ _ _ => ptx_nil) (fun _ _ _ _ _ => vx 5) (fun _ _ _ _ _ => vx 6)) (psx_cons (psx_for PassesOwn.never (by rfl) (pi_seq (vx 2)) (pgx_nm (i := 4) nd rfl (by first | exact Or.inl rfl | exact Or.inr rfl)) (psx_one (psx_for PassesOwn.never (by rfl) (pi_seq (vx 4)) (pgx_tup (by rfl) (pgx_cons (pgx_nm (i := 5) nd rfl (by first | exact Or.inl rfl | exact Or.inr rfl)) (pgx_cons (pgx_nm (i := 6) nd rfl (by first | exact Or.inl rfl | exact Or.inr rfl)) (pgx_nil)))) (psx_one (psx_dput hu (pv 3) (vo 5) (px_bin d_sub ((px_get2 hu (vo 3) (vo 5) (px_int)).o) (vo 6))))))) (psx_one (psx_fz (psx_ret (px_not ((b_any T.b_any (((pn_lc (own := [("number", 6)]) (by rfl) nd ((pi_dvals (vx 3)).o) (blkOk_by (by kernel_rfl)) (fun _ _ _ _ _ => pgx_nm (i := 6) nd rfl (by first | exact Or.inl rfl | exact Or.inr rfl)) (fun _ _ _ _ _ => ptx_nil) (fun _ _ _ _ _ => px_cmp (d_ne hu) (vo 6) ((px_int).o) (nomark _))).x).o)).o))))))))
abbrev t_time_of_rides : Stmt := top 11
theorem sc_time_of_rides : FnScope ["rides", "ride"] ["rides"] (defScope t_time_of_rides) := ⟨rfl, rfl, rfl, by decide +kernel, rfl, by decide +kernel, by decide +kernel⟩
theorem ok_time_of_rides (T : Txt K mg fa fd) : FnOk P w K mg base CX0 1 (fa 11) (fd 11) ["rides"] (spD ⟨P, w, K, fn⟩ 1 f_time_of_rides) := by
    refine fn_sv (k := 0) T.d_time_of_rides.fu sc_time_of_rides rfl s_time_of_rides fun cdv A outer s0 H E hr => ?_
    have nd := sc_time_of_rides.nd
    have hu := hu64 hr
    have hu5 := hu65 hr
    exact psx_one (psx_ret (b_sum T.b_sum (((pn_lc (own := [("ride", 1)]) (by rfl) nd (pio_seq (vo 0)) (blkOk_by (by kernel_rfl)) (fun _ _ _ _ _ => pgx_nm (i := 1) nd rfl (by first | exact Or.inl rfl | exact Or.inr rfl)) (fun _ _ _ _ _ => ptx_nil) (fun _ _ _ _ _ => px_bin d_mul ((px_int).o) ((px_ix (d_ix hu) ((px_ix (d_ix hu) (vo 1) (px_un d_neg ((px_int).o))).o) (px_int)).o))).x).o)))
abbrev t_floor_bound : Stmt := top 12
theorem sc_floor_bound : FnScope ["groups", "hold", "total", "h", "above", "floor", "number"] ["groups", "hold"] (defScope t_floor_bound) := ⟨rfl, rfl, rfl, by decide +kernel, rfl, by decide +kernel, by decide +kernel⟩
theorem ok_floor_bound (T : Txt K mg fa fd) : FnOk P w K mg base CX0 1 (fa 12) (fd 12) ["groups", "hold"] (spD ⟨P, w, K, fn⟩ 2 f_floor_bound) := by
    refine fn_sv (k := 0) T.d_floor_bound.fu sc_floor_bound rfl s_floor_bound fun cdv A outer s0 H E hr => ?_
    have nd := sc_floor_bound.nd
    have hu := hu64 hr
    have hu5 := hu65 hr
    exact psx_cons (psx_set (i := 2) nd rfl (by first | exact Or.inl rfl | exact Or.inr rfl) (px_int)) (psx_cons (psx_for PassesOwn.never (by rfl) (pi_rangeT (by rfl) T.b_range (ps_cons' (px_int) (ps_cons' (px_bin d_add ((px_con (px_gc (by rfl) T.g_MAX_FLOOR) (fun _ _ _ => by simp [Rp])).o) ((px_int).o)) (ps_nil')))) (pgx_nm (i := 3) nd rfl (by first | exact Or.inl rfl | exact Or.inr rfl)) (psx_cons (psx_set (i := 4) nd rfl (by first | exact Or.inl rfl | exact Or.inr rfl) (b_sum T.b_sum (((pn_lc (own := [("floor", 5), ("number", 6)]) (by rfl) nd (pio_seq (vo 0)) (blkOk_by (by kernel_rfl)) (fun _ _ _ _ _ => pgx_tup (by rfl) (pgx_cons (pgx_nm (i := 5) nd rfl (by first | exact Or.inl rfl | exact Or.inr rfl)) (pgx_cons (pgx_nm (i := 6) nd rfl (by first | exact Or.inl rfl | exact Or.inr rfl)) (pgx_nil)))) (fun _ _ _ _ _ => ptx_one (pt_cmp' (d_ge hu) (vo 5) (vo 3) (nomark _))) (fun _ _ _ _ _ => vx 6)).x).o))) (psx_one (psx_augI (k := (fun i j => i + j)) ip_add (i := 2) nd rfl (by first | exact Or.inl rfl | exact Or.inr rfl) (px_bin d_mul ((px_int).o) ((px_bin d_fdiv ((px_bin d_sub ((px_bin d_add (vo 4) (vo 1)).o) ((px_int).o)).o) (vo 1)).o)))))) (psx_one (psx_ret (vx 2))))
abbrev t_least_rides : Stmt := top 13
theorem sc_least_rides : FnScope ["groups", "hold", "rides", "ride", "room", "floor", "number", "some"] ["groups", "hold"] (defScope t_least_rides) := ⟨rfl, rfl, rfl, by decide +kernel, rfl, by decide +kernel, by decide +kernel⟩
theorem ok_least_rides (T : Txt K mg fa fd) : FnOk P w K mg base CX0 2 (fa 13) (fd 13) ["groups", "hold"] (spD ⟨P, w, K, fn⟩ 2 f_least_rides) := by
    refine fn_sv (k := 1) T.d_least_rides.fu sc_least_rides rfl s_least_rides fun cdv A outer s0 H E hr => ?_
    have nd := sc_least_rides.nd
    have hu := hu64 hr
    have hu5 := hu65 hr
    have c_time_of_rides := T.d_time_of_rides.cal (ok_time_of_rides (P := P) (w := w) (base := base) (fn := fn) T) hr
    exact psx_cons (psx_par3 (by rfl) nd rfl rfl rfl  (by decide) (by decide) (by decide) rfl rfl rfl  (pks_new (pn_lst (ps_nil')) (pks_new (pn_lst (ps_nil')) (pks_frz (vx 1) (pks_nil)))) (by kernel_rfl)) (psx_cons (psx_for PassesOwn.never (by rfl) (pi_seq (px_rev (vo 0))) (pgx_tup (by rfl) (pgx_cons (pgx_nm (i := 5) nd rfl (by first | exact Or.inl rfl | exact Or.inr rfl)) (pgx_cons (pgx_nm (i := 6) nd rfl (by first | exact Or.inl rfl | exact Or.inr rfl)) (pgx_nil)))) (psx_one (psx_while PassesOwn.never (pt_cmp' (d_gt hu) (vo 6) ((px_int).o) (nomark _)) (psx_cons (psx_set (i := 7) nd rfl (by first | exact Or.inl rfl | exact Or.inr rfl) (b_min2 T.b_min (vo 6) (vo 4))) (psx_cons (psx_exprM (pmx_app (pv 3) (pmas_one (pmx_up (px_tup (ps_cons' (vx 5) (ps_cons' (vx 7) (ps_nil')))))))) (psx_cons (psx_par2 (by rfl) nd rfl rfl  (by decide) rfl rfl  (pks_frz (px_bin d_sub (vo 6) (vo 7)) (pks_frz (px_bin d_sub (vo 4) (vo 7)) (pks_nil))) (by kernel_rfl)) (psx_one (psx_if (pt_cmp' (d_eq hu) (vo 4) ((px_int).o) (nomark _)) (psx_cons (psx_exprM (pmx_app (pv 2) (pmas_one (pmx_up (b_tuple T.b_tuple ((px_rev (vo 3)).o)))))) (psx_one (psx_par2 (by rfl) nd rfl rfl  (by decide) rfl rfl  (pks_new (pn_lst (ps_nil')) (pks_frz (vx 1) (pks_nil))) (by kernel_rfl)))) (psx_nil))))))))) (psx_cons (psx_if (pt_of (vo 3)) (psx_one (psx_exprM (pmx_app (pv 2) (pmas_one (pmx_up (b_tuple T.b_tuple ((px_rev (vo 3)).o))))))) (psx_nil)) (psx_one (psx_fz (psx_ret (px_tup (ps_cons' (px_call c_time_of_rides (by rfl) (ps_cons' (vx 2) (ps_nil'))) (ps_cons' (b_tuple T.b_tuple (vo 2)) (ps_nil')))))))))
abbrev t_law_same : Stmt := top 18
theorem sc_law_same : FnScope ["a", "b", "k"] ["a", "b"] (defScope t_law_same) := ⟨rfl, rfl, rfl, by decide +kernel, rfl, by decide +kernel, by decide +kernel⟩
theorem ok_law_same (T : Txt K mg fa fd) : ∀ n : Nat, FnOk P w K mg base CX0 (0 + n) (fa 18) (fd 18) ["a", "b"] (spD ⟨P, w, K, fn⟩ 2 (f_law_same n))
  | 0 => fn_none 2 rfl
  | n + 1 => by
    have ih := ok_law_same T n
    refine fn_sv (k := 0 + n) T.d_law_same.fu sc_law_same rfl (s_law_same (f_law_same n)) fun cdv A outer s0 H E hr => ?_
    have nd := sc_law_same.nd
    have hu := hu64 hr
    have hu5 := hu65 hr
    have c_law_same := T.d_law_same.cal ih hr
    exact psx_cons (psx_if ((pw_or' ((pw_and' (pt_of ((px_isi (t := .tuple) (vo 0) (by rfl) T.b_isinstance (by rfl) T.b_tuple (by decide +kernel)).o)) (pw_one_and (pt_of ((px_isi (t := .tuple) (vo 1) (by rfl) T.b_isinstance (by rfl) T.b_tuple (by decide +kernel)).o)))).pt) (pw_one_or ((pw_and' (pt_of ((px_isi (t := .list) (vo 0) (by rfl) T.b_isinstance (by rfl) T.b_list (by decide +kernel)).o)) (pw_one_and (pt_of ((px_isi (t := .list) (vo 1) (by rfl) T.b_isinstance (by rfl) T.b_list (by decide +kernel)).o)))).pt))).pt) (psx_one (psx_ret (px_and (px_cmp (d_eq hu) ((b_len T.b_len (vo 0)).o) ((b_len T.b_len (vo 1)).o) (nomark _)) (px_one (b_all T.b_all (((pn_lc (own := [("k", 2)]) (by rfl) nd ((pi_range (by rfl) T.b_range (ps_cons' (b_len T.b_len (vo 0)) (ps_nil'))).o) (blkOk_by (by kernel_rfl)) (fun _ _ _ _ _ => pgx_nm (i := 2) nd rfl (by first | exact Or.inl rfl | exact Or.inr rfl)) (fun _ _ _ _ _ => ptx_nil) (fun _ _ _ _ _ => px_call c_law_same (by rfl) (ps_cons' (px_ix (d_ix hu) (vo 0) (vx 2)) (ps_cons' (px_ix (d_ix hu) (vo 1) (vx 2)) (ps_nil'))))).x).o)))))) (psx_nil)) (psx_cons (psx_if ((pw_or' (pt_of ((px_isi (t := .bool) (vo 0) (by rfl) T.b_isinstance (by rfl) T.b_bool (by decide +kernel)).o)) (pw_one_or (pt_of ((px_isi (t := .bool) (vo 1) (by rfl) T.b_isinstance (by rfl) T.b_bool (by decide +kernel)).o)))).pt) (psx_one (psx_ret (px_and (px_isi (t := .bool) (vo 0) (by rfl) T.b_isinstance (by rfl) T.b_bool (by decide +kernel)) (px_and (px_isi (t := .bool) (vo 1) (by rfl) T.b_isinstance (by rfl) T.b_bool (by decide +kernel)) (px_one (px_cmp (d_eq hu) (vo 0) (vo 1) (nomark _))))))) (psx_nil)) (psx_cons (psx_if ((pw_or' ((pw_and' (pt_of ((px_isi (t := .int) (vo 0) (by rfl) T.b_isinstance (by rfl) T.b_int (by decide +kernel)).o)) (pw_one_and (pt_of ((px_isi (t := .int) (vo 1) (by rfl) T.b_isinstance (by rfl) T.b_int (by decide +kernel)).o)))).pt) (pw_one_or ((pw_and' (pt_of ((px_isi (t := .str) (vo 0) (by rfl) T.b_isinstance (by rfl) T.b_str (by decide +kernel)).o)) (pw_one_and (pt_of ((px_isi (t := .str) (vo 1) (by rfl) T.b_isinstance (by rfl) T.b_str (by decide +kernel)).o)))).pt))).pt) (psx_one (psx_ret (px_cmp (d_eq hu) (vo 0) (vo 1) (nomark _)))) (psx_nil)) (psx_one (psx_ret (px_and (px_cmp d_isN (vo 0) ((px_non).o) (nomark _)) (px_one (px_cmp d_isN (vo 1) ((px_non).o) (nomark _))))))))
abbrev t_law_bent : Stmt := top 19
theorem sc_law_bent : FnScope ["box", "value", "pick", "at"] ["box", "value"] (defScope t_law_bent) := ⟨rfl, rfl, rfl, by decide +kernel, rfl, by decide +kernel, by decide +kernel⟩
theorem ok_law_bent (T : Txt K mg fa fd) : ∀ n : Nat, FnOk P w K mg base CX0 (2 + n) (fa 19) (fd 19) ["box", "value"] (spD ⟨P, w, K, fn⟩ 2 (f_law_bent n))
  | 0 => fn_none 2 rfl
  | n + 1 => by
    have ih := ok_law_bent T n
    refine fn_sv (k := 2 + n) T.d_law_bent.fu sc_law_bent rfl (s_law_bent (f_law_bent n)) fun cdv A outer s0 H E hr => ?_
    have nd := sc_law_bent.nd
    have hu := hu64 hr
    have hu5 := hu65 hr
    have c_law_bent := T.d_law_bent.cal ih hr
    have c_law_draw := T.d_law_draw.cal (okd_draw (P := P) (w := w) (base := base) (fn := fn) T) hr
    exact psx_cons (psx_if ((pw_and' (pt_of ((px_isi (t := .tuple) (vo 1) (by rfl) T.b_isinstance (by rfl) T.b_tuple (by decide +kernel)).o)) (pw_and' (pt_cmp' (d_gt hu) ((b_len T.b_len (vo 1)).o) ((px_int).o) (nomark _)) (pw_one_and (pt_cmp' (d_gt hu) ((px_call c_law_draw (by rfl) (ps_cons' (vx 0) (ps_cons' (px_int) (ps_nil')))).o) ((px_int).o) (nomark _))))).pt) (psx_cons (psx_set (i := 3) nd rfl (by first | exact Or.inl rfl | exact Or.inr rfl) (px_call c_law_draw (by rfl) (ps_cons' (vx 0) (ps_cons' (b_len T.b_len (vo 1)) (ps_nil'))))) (psx_one (psx_ret (px_bin d_add ((px_bin d_add ((px_slice d_sl (vo 1) pox_none (pox_some (vx 3))).o) ((px_tup (ps_cons' (px_call c_law_bent (by rfl) (ps_cons' (vx 0) (ps_cons' (px_ix (d_ix hu) (vo 1) (vx 3)) (ps_nil')))) (ps_nil'))).o)).o) ((px_slice d_sl (vo 1) (pox_some (px_bin d_add (vo 3) ((px_int).o))) pox_none).o))))) (psx_nil)) (psx_cons (psx_set (i := 2) nd rfl (by first | exact Or.inl rfl | exact Or.inr rfl) (px_call c_law_draw (by rfl) (ps_cons' (vx 0) (ps_cons' (px_int) (ps_nil'))))) (psx_cons (psx_if (pt_of ((px_isi (t := .tuple) (vo 1) (by rfl) T.b_isinstance (by rfl) T.b_tuple (by decide +kernel)).o)) (psx_one (psx_ret (px_ix (d_ix hu) (((pn_lst (ps_cons' (px_bin d_add (vo 1) ((px_slice d_sl (vo 1) pox_none (pox_some (px_int))).o)) (ps_cons' (px_slice d_sl (vo 1) (pox_some (px_int)) pox_none) (ps_cons' (px_rev (vo 1)) (ps_cons' (px_bin d_add (vo 1) ((px_tup (ps_cons' (px_int) (ps_nil'))).o)) (ps_cons' (px_tup (ps_cons' (vx 1) (ps_nil'))) (ps_cons' (px_slice d_sl (vo 1) pox_none (pox_some (px_un d_neg ((px_int).o)))) (ps_cons' (px_non) (ps_cons' (px_bin d_add (vo 1) ((px_tup (ps_cons' (px_tup (ps_cons' (px_int) (ps_cons' (px_int) (ps_nil')))) (ps_nil'))).o)) (ps_nil')))))))))).x).o) (vx 2)))) (psx_nil)) (psx_cons (psx_if ((pw_and' (pt_of ((px_isi (t := .int) (vo 1) (by rfl) T.b_isinstance (by rfl) T.b_int (by decide +kernel)).o)) (pw_one_and (pt_not' (pt_of ((px_isi (t := .bool) (vo 1) (by rfl) T.b_isinstance (by rfl) T.b_bool (by decide +kernel)).o))))).pt) (psx_one (psx_ret (px_ix (d_ix hu) (((pn_lst (ps_cons' (px_bin d_add (vo 1) ((px_int).o)) (ps_cons' (px_bin d_sub (vo 1) ((px_int).o)) (ps_cons' (px_int) (ps_cons' (px_cmp (d_eq hu) (vo 1) ((px_int).o) (nomark _)) (ps_cons' (px_non) (ps_cons' (b_str T.b_str (vo 1)) (ps_cons' (px_tup (ps_cons' (vx 1) (ps_nil'))) (ps_cons' (px_bin d_add (vo 1) ((px_int).o)) (ps_nil')))))))))).x).o) (vx 2)))) (psx_nil)) (psx_cons (psx_if (pt_of ((px_isi (t := .str) (vo 1) (by rfl) T.b_isinstance (by rfl) T.b_str (by decide +kernel)).o)) (psx_one (psx_ret (px_ix (d_ix hu) (((pn_lst (ps_cons' (px_bin d_add (vo 1) ((px_str).o)) (ps_cons' (px_slice d_sl (vo 1) (pox_some (px_int)) pox_none) (ps_cons' (px_str) (ps_cons' (px_str) (ps_cons' (px_int) (ps_cons' (px_non) (ps_cons' (px_str) (ps_cons' (px_str) (ps_nil')))))))))).x).o) (vx 2)))) (psx_nil)) (psx_one (psx_ret (px_ix (d_ix hu) (((pn_lst (ps_cons' (px_int) (ps_cons' (px_int) (ps_cons' (px_non) (ps_cons' (px_bl) (ps_cons' (px_str) (ps_cons' (px_tup (ps_nil')) (ps_cons' (px_tup (ps_cons' (px_int) (ps_nil'))) (ps_cons' (px_str) (ps_nil')))))))))).x).o) (vx 2))))))))
abbrev t_law_is_load : Stmt := top 20
theorem sc_law_is_load : FnScope ["value", "most", "floor", "number", "k", "pair", "x"] ["value", "most"] (defScope t_law_is_load) := ⟨rfl, rfl, rfl, by decide +kernel, rfl, by decide +kernel, by decide +kernel⟩
theorem ok_law_is_load (T : Txt K mg fa fd) : FnOk P w K mg base CX0 1 (fa 20) (fd 20) ["value", "most"] (spD ⟨P, w, K, fn⟩ 2 f_law_is_load) := by
    refine fn_sv (k := 0) T.d_law_is_load.fu sc_law_is_load rfl s_law_is_load fun cdv A outer s0 H E hr => ?_
    have nd := sc_law_is_load.nd
    have hu := hu64 hr
    have hu5 := hu65 hr
    exact psx_cons (psx_if ((pw_or' (pt_not' (pt_of ((px_isi (t := .tuple) (vo 0) (by rfl) T.b_isinstance (by rfl) T.b_tuple (by decide +kernel)).o))) (pw_one_or (pt_not' (pt_of ((b_all T.b_all (((pn_lc (own := [("pair", 5)]) (by rfl) nd (pio_seq (vo 0)) (blkOk_by (by kernel_rfl)) (fun _ _ _ _ _ => pgx_nm (i := 5) nd rfl (by first | exact Or.inl rfl | exact Or.inr rfl)) (fun _ _ _ _ _ => ptx_nil) (fun _ _ _ _ _ => px_and (px_isi (t := .tuple) (vo 5) (by rfl) T.b_isinstance (by rfl) T.b_tuple (by decide +kernel)) (px_one (px_cmp (d_eq hu) ((b_len T.b_len (vo 5)).o) ((px_int).o) (nomark _))))).x).o)).o))))).pt) (psx_one (psx_ret (px_bl))) (psx_nil)) (psx_cons (psx_for PassesOwn.never (by rfl) (pi_seq (vx 0)) (pgx_tup (by rfl) (pgx_cons (pgx_nm (i := 2) nd rfl (by first | exact Or.inl rfl | exact Or.inr rfl)) (pgx_cons (pgx_nm (i := 3) nd rfl (by first | exact Or.inl rfl | exact Or.inr rfl)) (pgx_nil)))) (psx_one (psx_if ((pw_or' (pt_not' (pt_of ((b_all T.b_all (((pn_lc (own := [("x", 6)]) (by rfl) nd (pio_seq ((px_tup (ps_cons' (vx 2) (ps_cons' (vx 3) (ps_nil')))).o)) (blkOk_by (by kernel_rfl)) (fun _ _ _ _ _ => pgx_nm (i := 6) nd rfl (by first | exact Or.inl rfl | exact Or.inr rfl)) (fun _ _ _ _ _ => ptx_nil) (fun _ _ _ _ _ => px_and (px_isi (t := .int) (vo 6) (by rfl) T.b_isinstance (by rfl) T.b_int (by decide +kernel)) (px_and (px_not ((px_isi (t := .bool) (vo 6) (by rfl) T.b_isinstance (by rfl) T.b_bool (by decide +kernel)).o)) (px_one (px_cmp (d_ge hu) (vo 6) ((px_int).o) (nomark _)))))).x).o)).o))) (pw_or' (pt_cmp' (d_gt hu) (vo 2) ((px_int).o) (nomark _)) (pw_one_or (pt_cmp' (d_gt hu) (vo 3) (vo 1) (nomark _))))).pt) (psx_one (psx_ret (px_bl))) (psx_nil)))) (psx_one (psx_ret (px_not ((b_any T.b_any (((pn_lc (own := [("k", 4)]) (by rfl) nd ((pi_range (by rfl) T.b_range (ps_cons' (px_bin d_sub ((b_len T.b_len (vo 0)).o) ((px_int).o)) (ps_nil'))).o) (blkOk_by (by kernel_rfl)) (fun _ _ _ _ _ => pgx_nm (i := 4) nd rfl (by first | exact Or.inl rfl | exact Or.inr rfl)) (fun _ _ _ _ _ => ptx_nil) (fun _ _ _ _ _ => px_cmp (d_ge hu) ((px_ix (d_ix hu) ((px_ix (d_ix hu) (vo 0) (vx 4)).o) (px_int)).o) ((px_ix (d_ix hu) ((px_ix (d_ix hu) (vo 0) (px_bin d_add (vo 4) ((px_int).o))).o) (px_int)).o) (nomark _))).x).o)).o)))))
abbrev t_law_are_rides : Stmt := top 21
theorem sc_law_are_rides : FnScope ["groups", "hold", "value", "every", "ride", "floor", "number"] ["groups", "hold", "value"] (defScope t_law_are_rides) := ⟨rfl, rfl, rfl, by decide +kernel, rfl, by decide +kernel, by decide +kernel⟩
theorem ok_law_are_rides (T : Txt K mg fa fd) : FnOk P w K mg base CX0 2 (fa 21) (fd 21) ["groups", "hold", "value"] (spD ⟨P, w, K, fn⟩ 3 f_law_are_rides) := by
    refine fn_sv (k := 1) T.d_law_are_rides.fu sc_law_are_rides rfl s_law_are_rides fun cdv A outer s0 H E hr => ?_
    have nd := sc_law_are_rides.nd
    have hu := hu64 hr
    have hu5 := hu65 hr
    have c_law_is_load := T.d_law_is_load.cal (ok_law_is_load (P := P) (w := w) (base := base) (fn := fn) T) hr
    exact psx_cons (psx_if ((pw_or' (pt_not' (pt_of ((px_isi (t := .tuple) (vo 2) (by rfl) T.b_isinstance (by rfl) T.b_tuple (by decide +kernel)).o))) (pw_one_or (pt_not' (pt_of ((b_all T.b_all (((pn_lc (own := [("ride", 4)]) (by rfl) nd (pio_seq (vo 2)) (blkOk_by (by kernel_rfl)) (fun _ _ _ _ _ => pgx_nm (i := 4) nd rfl (by first | exact Or.inl rfl | exact Or.inr rfl)) (fun _ _ _ _ _ => ptx_nil) (fun _ _ _ _ _ => px_and (px_call c_law_is_load (by rfl) (ps_cons' (vx 4) (ps_cons' (vx 1) (ps_nil')))) (px_and (px_cmp (d_gt hu) ((b_len T.b_len (vo 4)).o) ((px_int).o) (nomark _)) (px_one (px_cmp (d_le hu) ((b_sum T.b_sum (((pn_lc (own := [("floor", 5), ("number", 6)]) (by rfl) nd (pio_seq (vo 4)) (blkOk_by (by kernel_rfl)) (fun _ _ _ _ _ => pgx_tup (by rfl) (pgx_cons (pgx_nm (i := 5) nd rfl (by first | exact Or.inl rfl | exact Or.inr rfl)) (pgx_cons (pgx_nm (i := 6) nd rfl (by first | exact Or.inl rfl | exact Or.inr rfl)) (pgx_nil)))) (fun _ _ _ _ _ => ptx_nil) (fun _ _ _ _ _ => vx 6)).x).o)).o) (vo 1) (nomark _)))))).x).o)).o))))).pt) (psx_one (psx_ret (px_bl))) (psx_nil)) (psx_cons (psx_new (i := 3) nd rfl (by first | exact Or.inl rfl | exact Or.inr rfl) (pn_dicK)) (psx_cons (psx_for PassesOwn.never (by rfl) (pi_seq (vx 2)) (pgx_nm (i := 4) nd rfl (by first | exact Or.inl rfl | exact Or.inr rfl)) (psx_one (psx_for PassesOwn.never (by rfl) (pi_seq (vx 4)) (pgx_tup (by rfl) (pgx_cons (pgx_nm (i := 5) nd rfl (by first | exact Or.inl rfl | exact Or.inr rfl)) (pgx_cons (pgx_nm (i := 6) nd rfl (by first | exact Or.inl rfl | exact Or.inr rfl)) (pgx_nil)))) (psx_one (psx_dput hu (pv 3) (vo 5) (px_bin d_add ((px_get2 hu (vo 3) (vo 5) (px_int)).o) (vo 6))))))) (psx_one (psx_ret (px_cmp (d_eqD hu) (vo 3) (((b_dict T.b_dict (((b_list T.b_list (vo 0)).x).o)).x).o) (nomark _))))))
abbrev t_law_ways : Stmt := top 22
theorem sc_law_ways : FnScope ["floors", "hold", "rows", "floor", "more", "row", "j", "ride"] ["floors", "hold"] (defScope t_law_ways) := ⟨rfl, rfl, rfl, by decide +kernel, rfl, by decide +kernel, by decide +kernel⟩
theorem ok_law_ways (T : Txt K mg fa fd) : FnOk P w K mg base CX0 1 (fa 22) (fd 22) ["floors", "hold"] (spD ⟨P, w, K, fn⟩ 2 f_law_ways) := by
    refine fn_sv (k := 0) T.d_law_ways.fu sc_law_ways rfl s_law_ways fun cdv A outer s0 H E hr => ?_
    have nd := sc_law_ways.nd
    have hu := hu64 hr
    have hu5 := hu65 hr
    exact psx_cons (psx_set (i := 2) nd rfl (by first | exact Or.inl rfl | exact Or.inr rfl) ((pn_lst (ps_cons' (px_tup (ps_nil')) (ps_nil'))).x)) (psx_cons (psx_for PassesOwn.never (by rfl) (pi_seq (vx 0)) (pgx_nm (i := 3) nd rfl (by first | exact Or.inl rfl | exact Or.inr rfl)) (psx_cons (psx_new (i := 4) nd rfl (by first | exact Or.inl rfl | exact Or.inr rfl) (pn_dicT)) (psx_cons (psx_for PassesOwn.never (by rfl) (pi_seq (vx 2)) (pgx_nm (i := 5) nd rfl (by first | exact Or.inl rfl | exact Or.inr rfl)) (psx_cons (psx_dput hu (pv 4) ((b_tuple T.b_tuple (((b_sorted T.b_sorted hu ((px_bin d_add (vo 5) ((px_tup (ps_cons' (px_tup (ps_cons' (vx 3) (ps_nil'))) (ps_nil'))).o)).o)).x).o)).o) (px_bl)) (psx_one (psx_for PassesOwn.never (by rfl) (pi_range (by rfl) T.b_range (ps_cons' (b_len T.b_len (vo 5)) (ps_nil'))) (pgx_nm (i := 6) nd rfl (by first | exact Or.inl rfl | exact Or.inr rfl)) (psx_one (psx_if (pt_cmp' (d_lt hu) ((b_len T.b_len ((px_ix (d_ix hu) (vo 5) (vx 6)).o)).o) (vo 1) (nomark _)) (psx_one (psx_dput hu (pv 4) ((b_tuple T.b_tuple (((b_sorted T.b_sorted hu ((px_bin d_add ((px_bin d_add ((px_slice d_sl (vo 5) pox_none (pox_some (vx 6))).o) ((px_tup (ps_cons' (px_bin d_add ((px_ix (d_ix hu) (vo 5) (vx 6)).o) ((px_tup (ps_cons' (vx 3) (ps_nil'))).o)) (ps_nil'))).o)).o) ((px_slice d_sl (vo 5) (pox_some (px_bin d_add (vo 6) ((px_int).o))) pox_none).o)).o)).x).o)).o) (px_bl))) (psx_nil))))))) (psx_one (psx_set (i := 2) nd rfl (by first | exact Or.inl rfl | exact Or.inr rfl) ((b_sorted T.b_sorted hu (vo 4)).x)))))) (psx_one (psx_ret ((pn_lc (own := [("row", 5)]) (by rfl) nd (pio_seq (vo 2)) (blkOk_by (by kernel_rfl)) (fun _ _ _ _ _ => pgx_nm (i := 5) nd rfl (by first | exact Or.inl rfl | exact Or.inr rfl)) (fun _ _ _ _ _ => ptx_nil) (fun _ _ _ _ _ => b_sum T.b_sum (((pn_lc (own := [("ride", 7)]) (by rfl) nd (pio_seq (vo 5)) (blkOk_by (by kernel_rfl)) (fun _ _ _ _ _ => pgx_nm (i := 7) nd rfl (by first | exact Or.inl rfl | exact Or.inr rfl)) (fun _ _ _ _ _ => ptx_nil) (fun _ _ _ _ _ => px_bin d_mul ((px_int).o) ((b_max1 T.b_max hu (vo 7)).o))).x).o))).x))))
abbrev t_law : Stmt := top 23
theorem sc_law : FnScope ["script", "box", "turn", "great", "hold", "time", "rides", "counts", "step", "groups", "floors", "floor", "number", "due", "single", "values", "value", "fine", "k", "h", "ride"] ["script"] (defScope t_law) := ⟨rfl, rfl, rfl, by decide +kernel, rfl, by decide +kernel, by decide +kernel⟩
theorem ok_law (T : Txt K mg fa fd) (hlaw : ∀ ns : List Int, ns.length ≤ 63 → ∃ ρ b, lawAt ⟨ns, 0, 4711 + ns.length⟩ = some (.rt (.bl true), ρ, b)) : FnOk P w K mg base CX0 43 (fa 23) (fd 23) ["script"] (spLaw K) := by
  refine T.d_law.fu.ok sc_law (fun vs H Q E h => ?_) (fun cdv A outer s H vs Q E hr h => ?_)
  · obtain ⟨a, ns, rfl, _⟩ := h
    rfl
  · obtain ⟨a, ns, rfl, hS, hlen, k⟩ := h
    have fn : Nat → Option V := fun _ => none
    obtain ⟨t2, h2, q2⟩ : ∃ t : TS, PSs (cxOf CX0 P w K mg base ["script", "box", "turn", "great", "hold", "time", "rides", "counts", "step", "groups", "floors", "floor", "number", "due", "single", "values", "value", "fine", "k", "h", "ride"] "law" (defScope t_law) (fa 23) cdv A outer s H E).nox ((defBody t_law).drop 1) t ∧
        ∀ (p q : Addr) (H1 : Hp), BSt p q ⟨ns, 0, 4711 + ns.length⟩ H1 → t { nx := fun _ H' => Q .non H', rt := Q } ((L2.start ["script", "box", "turn", "great", "hold", "time", "rides", "counts", "step", "groups", "floors", "floor", "number", "due", "single", "values", "value", "fine", "k", "h", "ride"] [V.ref a]).set 1 (some (.ref p))) H1 := by
      refine ⟨tSs ⟨P, w, K, fn⟩ s_law, ?_, fun p q H1 hb => ?_⟩
      · skip
        have nd := sc_law.nd
        have hu := hu64 hr
        have hu5 := hu65 hr
        have c_law_are_rides := T.d_law_are_rides.cal (ok_law_are_rides (P := P) (w := w) (base := base) (fn := fn) T) hr
        have c_law_bent := T.d_law_bent.cal (ok_law_bent (P := P) (w := w) (base := base) (fn := fn) T 40) hr
        have c_law_draw := T.d_law_draw.cal (okd_draw (P := P) (w := w) (base := base) (fn := fn) T) hr
        have c_law_is_load := T.d_law_is_load.cal (ok_law_is_load (P := P) (w := w) (base := base) (fn := fn) T) hr
        have c_law_same := T.d_law_same.cal (ok_law_same (P := P) (w := w) (base := base) (fn := fn) T 40) hr
        have c_law_ways := T.d_law_ways.cal (ok_law_ways (P := P) (w := w) (base := base) (fn := fn) T) hr
        have c_are_groups := T.d_are_groups.cal (ok_are_groups (P := P) (w := w) (base := base) (fn := fn) T) hr
        have c_are_rides := T.d_are_rides.cal (ok_are_rides (P := P) (w := w) (base := base) (fn := fn) T) hr
        have c_floor_bound := T.d_floor_bound.cal (ok_floor_bound (P := P) (w := w) (base := base) (fn := fn) T) hr
        have c_least_rides := T.d_least_rides.cal (ok_least_rides (P := P) (w := w) (base := base) (fn := fn) T) hr
        have c_time_of_rides := T.d_time_of_rides.cal (ok_time_of_rides (P := P) (w := w) (base := base) (fn := fn) T) hr
        exact psx_cons (psx_for PassesOwn.never (by rfl) (pi_range (by rfl) T.b_range (ps_cons' (px_int) (ps_nil'))) (pgx_nm (i := 2) nd rfl (by first | exact Or.inl rfl | exact Or.inr rfl)) (psx_cons (psx_set (i := 4) nd rfl (by first | exact Or.inl rfl | exact Or.inr rfl) (px_bin d_add ((px_int).o) ((px_call c_law_draw (by rfl) (ps_cons' (vx 1) (ps_cons' (px_int) (ps_nil')))).o))) (psx_cons (psx_new (i := 7) nd rfl (by first | exact Or.inl rfl | exact Or.inr rfl) (pn_dicK)) (psx_cons (psx_for PassesOwn.never (by rfl) (pi_range (by rfl) T.b_range (ps_cons' (px_call c_law_draw (by rfl) (ps_cons' (vx 1) (ps_cons' (px_int) (ps_nil')))) (ps_nil'))) (pgx_nm (i := 8) nd rfl (by first | exact Or.inl rfl | exact Or.inr rfl)) (psx_cons (psx_set (i := 11) nd rfl (by first | exact Or.inl rfl | exact Or.inr rfl) (px_bin d_add ((px_int).o) ((px_call c_law_draw (by rfl) (ps_cons' (vx 1) (ps_cons' (px_int) (ps_nil')))).o))) (psx_one (psx_dput hu (pv 7) (vo 11) (px_bin d_add ((px_get2 hu (vo 7) (vo 11) (px_int)).o) ((px_int).o)))))) (psx_cons (psx_set (i := 9) nd rfl (by first | exact Or.inl rfl | exact Or.inr rfl) (b_tuple T.b_tuple (((pn_lc (own := [("floor", 11)]) (by rfl) nd (pio_seq (((b_sorted T.b_sorted hu (vo 7)).x).o)) (blkOk_by (by kernel_rfl)) (fun _ _ _ _ _ => pgx_nm (i := 11) nd rfl (by first | exact Or.inl rfl | exact Or.inr rfl)) (fun _ _ _ _ _ => ptx_nil) (fun _ _ _ _ _ => px_tup (ps_cons' (vx 11) (ps_cons' (px_ix (d_ix hu) (vo 7) (vx 11)) (ps_nil'))))).x).o))) (psx_cons (psx_new (i := 10) nd rfl (by first | exact Or.inl rfl | exact Or.inr rfl) (pn_lst (ps_nil'))) (psx_cons (psx_for PassesOwn.never (by rfl) (pi_seq (vx 9)) (pgx_tup (by rfl) (pgx_cons (pgx_nm (i := 11) nd rfl (by first | exact Or.inl rfl | exact Or.inr rfl)) (pgx_cons (pgx_nm (i := 12) nd rfl (by first | exact Or.inl rfl | exact Or.inr rfl)) (pgx_nil)))) (psx_one (psx_exprM (pmx_ext (pv 10) (pmas_one (pmx_up (px_bin d_mul (((pn_lst (ps_cons' (vx 11) (ps_nil'))).x).o) (vo 12)))))))) (psx_cons (psx_asg (px_call c_least_rides (by rfl) (ps_cons' (vx 9) (ps_cons' (vx 4) (ps_nil')))) (pgx_tup (by rfl) (pgx_cons (pgx_nm (i := 5) nd rfl (by first | exact Or.inl rfl | exact Or.inr rfl)) (pgx_cons (pgx_nm (i := 6) nd rfl (by first | exact Or.inl rfl | exact Or.inr rfl)) (pgx_nil))))) (psx_cons (psx_set (i := 13) nd rfl (by first | exact Or.inl rfl | exact Or.inr rfl) (b_sum T.b_sum (((pn_lc (own := [("h", 19)]) (by rfl) nd ((pi_rangeT (by rfl) T.b_range (ps_cons' (px_int) (ps_cons' (px_int) (ps_nil')))).o) (blkOk_by (by kernel_rfl)) (fun _ _ _ _ _ => pgx_nm (i := 19) nd rfl (by first | exact Or.inl rfl | exact Or.inr rfl)) (fun _ _ _ _ _ => ptx_nil) (fun _ _ _ _ _ => px_bin d_mul ((px_int).o) ((px_un d_neg ((px_bin d_fdiv ((px_un d_neg ((b_len T.b_len (((pn_lc (own := [("floor", 11)]) (by rfl) nd (pio_seq (vo 10)) (blkOk_by (by kernel_rfl)) (fun _ _ _ _ _ => pgx_nm (i := 11) nd rfl (by first | exact Or.inl rfl | exact Or.inr rfl)) (fun _ _ _ _ _ => ptx_one (pt_cmp' (d_ge hu) (vo 11) (vo 19) (nomark _))) (fun _ _ _ _ _ => vx 11)).x).o)).o)).o) (vo 4)).o)).o))).x).o))) (psx_cons (psx_fz (psx_if ((pw_or' (pt_not' (pt_of ((px_call c_law_same (by rfl) (ps_cons' (px_tup (ps_cons' (vx 5) (ps_cons' (px_call c_floor_bound (by rfl) (ps_cons' (vx 9) (ps_cons' (vx 4) (ps_nil')))) (ps_nil')))) (ps_cons' (px_tup (ps_cons' (vx 13) (ps_cons' (vx 13) (ps_nil')))) (ps_nil')))).o))) (pw_one_or (pt_cmp' (d_ne hu) ((b_min1 T.b_min hu ((px_call c_law_ways (by rfl) (ps_cons' (vx 10) (ps_cons' (vx 4) (ps_nil')))).o)).o) (vo 13) (nomark _)))).pt) (psx_one (psx_ret (px_bl))) (psx_nil))) (psx_cons (psx_if ((pw_or' (pt_not' (pt_of ((px_call c_law_are_rides (by rfl) (ps_cons' (vx 9) (ps_cons' (vx 4) (ps_cons' (vx 6) (ps_nil'))))).o))) (pw_or' (pt_cmp' (d_ne hu) ((px_call c_time_of_rides (by rfl) (ps_cons' (vx 6) (ps_nil'))).o) (vo 13) (nomark _)) (pw_one_or (pt_cmp' (d_ne hu) ((b_len T.b_len (vo 6)).o) ((px_un d_neg ((px_bin d_fdiv ((px_un d_neg ((b_len T.b_len (vo 10)).o)).o) (vo 4)).o)).o) (nomark _))))).pt) (psx_one (psx_ret (px_bl))) (psx_nil)) (psx_cons (psx_set (i := 14) nd rfl (by first | exact Or.inl rfl | exact Or.inr rfl) (b_tuple T.b_tuple (((pn_lc (own := [("floor", 11)]) (by rfl) nd (pio_seq (vo 10)) (blkOk_by (by kernel_rfl)) (fun _ _ _ _ _ => pgx_nm (i := 11) nd rfl (by first | exact Or.inl rfl | exact Or.inr rfl)) (fun _ _ _ _ _ => ptx_nil) (fun _ _ _ _ _ => px_tup (ps_cons' (px_tup (ps_cons' (vx 11) (ps_cons' (px_int) (ps_nil')))) (ps_nil')))).x).o))) (psx_cons (psx_set (i := 15) nd rfl (by first | exact Or.inl rfl | exact Or.inr rfl) ((pn_lst (ps_cons' (vx 6) (ps_cons' (vx 14) (ps_cons' (px_rev (vo 6)) (ps_cons' (px_slice d_sl (vo 6) (pox_some (px_int)) pox_none) (ps_cons' (px_bin d_add (vo 6) ((px_slice d_sl (vo 6) pox_none (pox_some (px_int))).o)) (ps_cons' (b_tuple T.b_tuple (((pn_lc (own := [("ride", 20)]) (by rfl) nd (pio_seq (vo 6)) (blkOk_by (by kernel_rfl)) (fun _ _ _ _ _ => pgx_nm (i := 20) nd rfl (by first | exact Or.inl rfl | exact Or.inr rfl)) (fun _ _ _ _ _ => ptx_nil) (fun _ _ _ _ _ => px_rev (vo 20))).x).o)) (ps_cons' (px_tup (ps_nil')) (ps_cons' (px_non) (ps_cons' (px_int) (ps_cons' (px_tup (ps_cons' (px_tup (ps_nil')) (ps_nil'))) (ps_cons' (px_tup (ps_cons' (b_tuple T.b_tuple (vo 9)) (ps_nil'))) (ps_nil'))))))))))))).x)) (psx_cons (psx_for PassesOwn.never (by rfl) (pi_seq (px_bin d_add (vo 15) (((pn_lc (own := [("step", 8)]) (by rfl) nd ((pi_range (by rfl) T.b_range (ps_cons' (px_int) (ps_nil'))).o) (blkOk_by (by kernel_rfl)) (fun _ _ _ _ _ => pgx_nm (i := 8) nd rfl (by first | exact Or.inl rfl | exact Or.inr rfl)) (fun _ _ _ _ _ => ptx_nil) (fun _ _ _ _ _ => px_call c_law_bent (by rfl) (ps_cons' (vx 1) (ps_cons' (vx 6) (ps_nil'))))).x).o))) (pgx_nm (i := 16) nd rfl (by first | exact Or.inl rfl | exact Or.inr rfl)) (psx_cons (psx_set (i := 17) nd rfl (by first | exact Or.inl rfl | exact Or.inr rfl) (px_call c_law_are_rides (by rfl) (ps_cons' (vx 9) (ps_cons' (vx 4) (ps_cons' (vx 16) (ps_nil')))))) (psx_one (psx_if ((pw_or' (pt_not' (pt_of ((px_call c_law_same (by rfl) (ps_cons' (px_call c_are_rides (by rfl) (ps_cons' (vx 9) (ps_cons' (vx 4) (ps_cons' (vx 16) (ps_nil'))))) (ps_cons' (vx 17) (ps_nil')))).o))) (pw_one_or ((pw_and' (pt_of (vo 17)) (pw_one_and (pt_cmp' (d_lt hu) ((px_call c_time_of_rides (by rfl) (ps_cons' (vx 16) (ps_nil'))).o) (vo 13) (nomark _)))).pt))).pt) (psx_one (psx_ret (px_bl))) (psx_nil))))) (psx_cons (psx_set (i := 15) nd rfl (by first | exact Or.inl rfl | exact Or.inr rfl) ((pn_lst (ps_cons' (vx 9) (ps_cons' (px_bin d_add (vo 9) ((px_tup (ps_cons' (px_tup (ps_cons' (px_int) (ps_cons' (px_int) (ps_nil')))) (ps_nil'))).o)) (ps_cons' (px_rev (vo 9)) (ps_cons' (px_tup (ps_cons' (px_tup (ps_cons' (px_int) (ps_cons' (px_int) (ps_nil')))) (ps_nil'))) (ps_cons' (px_tup (ps_cons' (px_tup (ps_cons' (px_int) (ps_cons' (px_int) (ps_nil')))) (ps_nil'))) (ps_cons' (px_tup (ps_cons' (px_tup (ps_cons' (px_int) (ps_cons' (px_int) (ps_nil')))) (ps_nil'))) (ps_cons' (b_tuple T.b_tuple (((pn_lc (own := [("k", 18)]) (by rfl) nd ((pi_rangeT (by rfl) T.b_range (ps_cons' (px_int) (ps_cons' (px_int) (ps_nil')))).o) (blkOk_by (by kernel_rfl)) (fun _ _ _ _ _ => pgx_nm (i := 18) nd rfl (by first | exact Or.inl rfl | exact Or.inr rfl)) (fun _ _ _ _ _ => ptx_nil) (fun _ _ _ _ _ => px_tup (ps_cons' (vx 18) (ps_cons' (px_int) (ps_nil'))))).x).o)) (ps_nil'))))))))).x)) (psx_cons (psx_set (i := 15) nd rfl (by first | exact Or.inl rfl | exact Or.inr rfl) (px_bin d_add (vo 15) (((pn_lst (ps_cons' (b_tuple T.b_tuple (((pn_lc (own := [("k", 18)]) (by rfl) nd ((pi_rangeT (by rfl) T.b_range (ps_cons' (px_int) (ps_cons' (px_int) (ps_nil')))).o) (blkOk_by (by kernel_rfl)) (fun _ _ _ _ _ => pgx_nm (i := 18) nd rfl (by first | exact Or.inl rfl | exact Or.inr rfl)) (fun _ _ _ _ _ => ptx_nil) (fun _ _ _ _ _ => px_tup (ps_cons' (vx 18) (ps_cons' (px_int) (ps_nil'))))).x).o)) (ps_cons' (px_non) (ps_cons' (px_tup (ps_cons' (px_tup (ps_cons' (px_int) (ps_nil'))) (ps_nil'))) (ps_nil'))))).x).o))) (psx_cons (psx_for PassesOwn.never (by rfl) (pi_seq (px_bin d_add (vo 15) (((pn_lc (own := [("step", 8)]) (by rfl) nd ((pi_range (by rfl) T.b_range (ps_cons' (px_int) (ps_nil'))).o) (blkOk_by (by kernel_rfl)) (fun _ _ _ _ _ => pgx_nm (i := 8) nd rfl (by first | exact Or.inl rfl | exact Or.inr rfl)) (fun _ _ _ _ _ => ptx_nil) (fun _ _ _ _ _ => px_call c_law_bent (by rfl) (ps_cons' (vx 1) (ps_cons' (vx 9) (ps_nil'))))).x).o))) (pgx_nm (i := 16) nd rfl (by first | exact Or.inl rfl | exact Or.inr rfl)) (psx_one (psx_if (pt_not' (pt_of ((px_call c_law_same (by rfl) (ps_cons' (px_call c_are_groups (by rfl) (ps_cons' (vx 16) (ps_nil'))) (ps_cons' (px_and (px_call c_law_is_load (by rfl) (ps_cons' (vx 16) (ps_cons' (px_int) (ps_nil')))) (px_one (px_cmp (d_le hu) ((b_len T.b_len (vo 16)).o) ((px_int).o) (nomark _)))) (ps_nil')))).o))) (psx_one (psx_ret (px_bl))) (psx_nil)))) (psx_cons (psx_if ((pw_or' (pt_cmp' (d_gt hu) ((px_ix (d_ix hu) ((px_call c_least_rides (by rfl) (ps_cons' (vx 9) (ps_cons' (px_bin d_add (vo 4) ((px_int).o)) (ps_nil')))).o) (px_int)).o) (vo 13) (nomark _)) (pw_one_or (pt_cmp' (d_gt hu) ((b_len T.b_len ((px_ix (d_ix hu) ((px_call c_least_rides (by rfl) (ps_cons' (vx 9) (ps_cons' (px_bin d_add (vo 4) ((px_int).o)) (ps_nil')))).o) (px_int)).o)).o) ((b_len T.b_len (vo 6)).o) (nomark _)))).pt) (psx_one (psx_ret (px_bl))) (psx_nil)) (psx_one (psx_if ((pw_and' (pt_cmp' (d_gt hu) ((b_len T.b_len (vo 9)).o) ((px_int).o) (nomark _)) (pw_and' (pt_cmp' (d_gt hu) ((px_ix (d_ix hu) ((px_ix (d_ix hu) (vo 9) (px_int)).o) (px_int)).o) ((px_int).o) (nomark _)) (pw_one_and (pt_cmp' (d_gt hu) ((px_ix (d_ix hu) ((px_call c_least_rides (by rfl) (ps_cons' (px_bin d_add ((px_tup (ps_cons' (px_tup (ps_cons' (px_bin d_sub ((px_ix (d_ix hu) ((px_ix (d_ix hu) (vo 9) (px_int)).o) (px_int)).o) ((px_int).o)) (ps_cons' (px_ix (d_ix hu) ((px_ix (d_ix hu) (vo 9) (px_int)).o) (px_int)) (ps_nil')))) (ps_nil'))).o) ((px_slice d_sl (vo 9) (pox_some (px_int)) pox_none).o)) (ps_cons' (vx 4) (ps_nil')))).o) (px_int)).o) (vo 13) (nomark _))))).pt) (psx_one (psx_ret (px_bl))) (psx_nil))))))))))))))))))))) (psx_cons (psx_set (i := 3) nd rfl (by first | exact Or.inl rfl | exact Or.inr rfl) (b_tuple T.b_tuple (((pn_lc (own := [("k", 18)]) (by rfl) nd ((pi_range (by rfl) T.b_range (ps_cons' (px_int) (ps_nil'))).o) (blkOk_by (by kernel_rfl)) (fun _ _ _ _ _ => pgx_nm (i := 18) nd rfl (by first | exact Or.inl rfl | exact Or.inr rfl)) (fun _ _ _ _ _ => ptx_nil) (fun _ _ _ _ _ => px_tup (ps_cons' (px_bin d_add ((px_bin d_add ((px_bin d_mul ((px_int).o) (vo 18)).o) ((px_int).o)).o) ((px_call c_law_draw (by rfl) (ps_cons' (vx 1) (ps_cons' (px_int) (ps_nil')))).o)) (ps_cons' (px_bin d_add ((px_int).o) ((px_call c_law_draw (by rfl) (ps_cons' (vx 1) (ps_cons' (px_int) (ps_nil')))).o)) (ps_nil'))))).x).o))) (psx_cons (psx_set (i := 4) nd rfl (by first | exact Or.inl rfl | exact Or.inr rfl) (px_bin d_add ((px_int).o) ((px_call c_law_draw (by rfl) (ps_cons' (vx 1) (ps_cons' (px_int) (ps_nil')))).o))) (psx_cons (psx_asg (px_call c_least_rides (by rfl) (ps_cons' (vx 3) (ps_cons' (vx 4) (ps_nil')))) (pgx_tup (by rfl) (pgx_cons (pgx_nm (i := 5) nd rfl (by first | exact Or.inl rfl | exact Or.inr rfl)) (pgx_cons (pgx_nm (i := 6) nd rfl (by first | exact Or.inl rfl | exact Or.inr rfl)) (pgx_nil))))) (psx_one (psx_ret (px_and (px_cmp (d_eq hu) (vo 5) ((px_call c_floor_bound (by rfl) (ps_cons' (vx 3) (ps_cons' (vx 4) (ps_nil')))).o) (nomark _)) (px_and (px_call c_law_are_rides (by rfl) (ps_cons' (vx 3) (ps_cons' (vx 4) (ps_cons' (vx 6) (ps_nil'))))) (px_one (px_call c_law_same (by rfl) (ps_cons' (px_call c_least_rides (by rfl) (ps_cons' (px_tup (ps_cons' (px_tup (ps_cons' (px_int) (ps_cons' (px_int) (ps_nil')))) (ps_cons' (px_tup (ps_cons' (px_int) (ps_cons' (px_int) (ps_nil')))) (ps_nil')))) (ps_cons' (px_int) (ps_nil')))) (ps_cons' (px_tup (ps_cons' (px_int) (ps_cons' (px_tup (ps_cons' (px_tup (ps_cons' (px_tup (ps_cons' (px_int) (ps_cons' (px_int) (ps_nil')))) (ps_cons' (px_tup (ps_cons' (px_int) (ps_cons' (px_int) (ps_nil')))) (ps_nil')))) (ps_cons' (px_tup (ps_cons' (px_tup (ps_cons' (px_int) (ps_cons' (px_int) (ps_nil')))) (ps_nil'))) (ps_nil')))) (ps_nil')))) (ps_nil'))))))))))))
      · obtain ⟨ρ', b', e⟩ := hlaw ns hlen
        refine ⟨_, _, _, _, _, _, rel_law (n := 19) hb rfl rfl, _, ρ', b', e, fun v F' H' _ r => ?_⟩
        simp only [Rp] at r
        rw [r]
        exact k _
    have okb := ok_box (P := P) (w := w) (base := base) T.d_law_box.fu T.btF
    refine ⟨_, pss_cons (ps_set (i := 1) sc_law.nd rfl (by first | exact Or.inl rfl | exact Or.inr rfl) (pe_call okb (hr.mono (by omega)) (by rfl) T.d_law_box.mg T.d_law_box.fu.kp T.d_law_box.bi .nil pass0 (pa_cons (pv 0) pa_nil))) h2, ?_⟩
    exact ⟨_, rfl, a, ns, rfl, hS, hlen, fun p q H1 hb => q2 p q H1 hb⟩
end
end K78

set_option maxHeartbeats 1000000
/-! Pl1: plain reasoning about what defs compute. W: it ends, and the wish holds. -/
namespace Sv
open PySem (Str PyData)

def Ew (f : Ex) (ρ : Rho) (Q : D → Prop) : Prop := ∀ b, ∃ d b', f ρ b = some (d, b') ∧ Q d
def Tw (f : Tx) (ρ : Rho) (Q : Bool → Prop) : Prop := ∀ b, ∃ d b', f ρ b = some (d, b') ∧ Q d
def Aw (f : As) (ρ : Rho) (Q : List D → Prop) : Prop := ∀ b, ∃ d b', f ρ b = some (d, b') ∧ Q d
def Fw (F : Fn) (ds : List D) (Q : D → Prop) : Prop := ∀ b, ∃ d b', F ds b = some (d, b') ∧ Q d
def Mw (f : Mx) (ρ : Rho) (Q : D → Rho → Prop) : Prop := ∀ b, ∃ d ρ' b', f ρ b = some (d, ρ', b') ∧ Q d ρ'
def MAw (f : MAs) (ρ : Rho) (Q : List D → Rho → Prop) : Prop := ∀ b, ∃ d ρ' b', f ρ b = some (d, ρ', b') ∧ Q d ρ'
def Kw (f : Ks) (ρ : Rho) (Q : List Sl → Prop) : Prop := ∀ b, ∃ d b', f ρ b = some (d, b') ∧ Q d
def Sw (s : SS) (ρ : Rho) (Q : Fl → Rho → Prop) : Prop := ∀ b, ∃ fl ρ' b', s ρ b = some (fl, ρ', b') ∧ Q fl ρ'
def OrW (o : Option D) (Q : D → Prop) : Prop := ∃ r, o = some r ∧ Q r

theorem Ew.mono {f : Ex} {ρ : Rho} {Q Q' : D → Prop} (h : Ew f ρ Q) (i : ∀ d, Q d → Q' d) : Ew f ρ Q' := fun b => let ⟨d, b', e, q⟩ := h b; ⟨d, b', e, i d q⟩
theorem Tw.mono {f : Tx} {ρ : Rho} {Q Q' : Bool → Prop} (h : Tw f ρ Q) (i : ∀ d, Q d → Q' d) : Tw f ρ Q' := fun b => let ⟨d, b', e, q⟩ := h b; ⟨d, b', e, i d q⟩
theorem Aw.mono {f : As} {ρ : Rho} {Q Q' : List D → Prop} (h : Aw f ρ Q) (i : ∀ d, Q d → Q' d) : Aw f ρ Q' := fun b => let ⟨d, b', e, q⟩ := h b; ⟨d, b', e, i d q⟩
theorem Fw.mono {F : Fn} {ds : List D} {Q Q' : D → Prop} (h : Fw F ds Q) (i : ∀ d, Q d → Q' d) : Fw F ds Q' := fun b => let ⟨d, b', e, q⟩ := h b; ⟨d, b', e, i d q⟩
theorem Sw.mono {s : SS} {ρ : Rho} {Q Q' : Fl → Rho → Prop} (h : Sw s ρ Q) (i : ∀ fl ρ', Q fl ρ' → Q' fl ρ') : Sw s ρ Q' := fun b => let ⟨d, ρ', b', e, q⟩ := h b; ⟨d, ρ', b', e, i d ρ' q⟩

section
variable {ρ : Rho} {Q : D → Prop} {f f' f'' : Ex} {t u : Tx} {ag : As}
/-! ### expressions -/
theorem ew_var {i : Nat} {d : D} (e : ρ[i]? = some (Sl.frz d)) (q : Q d) : Ew (eVar i) ρ Q := fun b => ⟨d, b, by unfold eVar; rw [e], q⟩
theorem ew_bor {i : Nat} {d : D} (e : ρ[i]? = some (Sl.frz d)) (q : Q d) : Ew (eBor i) ρ Q := fun b => ⟨d, b, by unfold eBor; rw [e], q⟩
theorem ew_borO {i : Nat} {d : D} (e : ρ[i]? = some (Sl.own d)) (q : Q d) : Ew (eBor i) ρ Q := fun b => ⟨d, b, by unfold eBor; rw [e], q⟩
theorem ew_con {d : D} (q : Q d) : Ew (eCon d) ρ Q := fun b => ⟨d, b, rfl, q⟩
theorem ew_un {g : D → Option D} (h : Ew f ρ fun d => OrW (g d) Q) : Ew (eUn g f) ρ Q := fun b => by
  obtain ⟨d, b', e, r, e2, q⟩ := h b
  exact ⟨r, b', by unfold eUn; rw [e]; simp only [e2], q⟩
theorem ew_bin {g : D → D → Option D} (h : Ew f ρ fun d => Ew f' ρ fun d' => OrW (g d d') Q) : Ew (eBin g f f') ρ Q := fun b => by
  obtain ⟨d, b1, e1, h2⟩ := h b
  obtain ⟨d2, b2, e2, r, e3, q⟩ := h2 b1
  exact ⟨r, b2, by unfold eBin; rw [e1]; simp only [e2, e3], q⟩
theorem ew_fn {g : List D → Option D} (h : Aw ag ρ fun ds => OrW (g ds) Q) : Ew (eFn g ag) ρ Q := fun b => by
  obtain ⟨d, b', e, r, e2, q⟩ := h b
  exact ⟨r, b', by unfold eFn; rw [e]; simp only [e2], q⟩
theorem ew_tup (h : Aw ag ρ fun ds => Q (.tup ds)) : Ew (eTup ag) ρ Q := ew_fn (h.mono fun ds q => ⟨_, rfl, q⟩)
theorem ew_lst (h : Aw ag ρ fun ds => Q (.lst ds)) : Ew (eLst ag) ρ Q := ew_fn (h.mono fun ds q => ⟨_, rfl, q⟩)
theorem ew_call {F : Fn} (h : Aw ag ρ fun ds => Fw F ds Q) : Ew (eCall F ag) ρ Q := fun b => by
  obtain ⟨d, b1, e1, h2⟩ := h b
  obtain ⟨d2, b2, e2, q⟩ := h2 b1
  exact ⟨d2, b2, by unfold eCall; rw [e1]; exact e2, q⟩
theorem ew_callO {F : Fn} (h : Aw ag ρ fun ds => ds.all D.nodct = true ∧ Fw F ds fun d => d.flat = true ∧ Q d) : Ew (eCallO F ag) ρ Q := fun b => by
  obtain ⟨d, b1, e1, hn, h2⟩ := h b
  obtain ⟨d2, b2, e2, fl, q⟩ := h2 b1
  exact ⟨d2, b2, by unfold eCallO; rw [e1]; simp only [hn, e2, fl, if_true], q⟩
theorem ew_if (h : Tw t ρ fun k => (k = true → Ew f ρ Q) ∧ (k = false → Ew f' ρ Q)) : Ew (eIf t f f') ρ Q := fun b => by
  obtain ⟨k, b1, e1, h1, h2⟩ := h b
  cases k with
  | true =>
    obtain ⟨d, b2, e2, q⟩ := h1 rfl b1
    exact ⟨d, b2, by unfold eIf; rw [e1]; exact e2, q⟩
  | false =>
    obtain ⟨d, b2, e2, q⟩ := h2 rfl b1
    exact ⟨d, b2, by unfold eIf; rw [e1]; exact e2, q⟩
theorem ew_and (h : Ew f ρ fun d => ∃ k, truthD d = some k ∧ (k = true → Ew f' ρ Q) ∧ (k = false → Q d)) : Ew (eAnd f f') ρ Q := fun b => by
  obtain ⟨d, b1, e1, k, ek, h1, h2⟩ := h b
  cases k with
  | true =>
    obtain ⟨d2, b2, e2, q⟩ := h1 rfl b1
    exact ⟨d2, b2, by unfold eAnd; rw [e1]; simp only [ek, e2], q⟩
  | false => exact ⟨d, b1, by unfold eAnd; rw [e1]; simp only [ek], h2 rfl⟩
theorem ew_or (h : Ew f ρ fun d => ∃ k, truthD d = some k ∧ (k = true → Q d) ∧ (k = false → Ew f' ρ Q)) : Ew (eOr f f') ρ Q := fun b => by
  obtain ⟨d, b1, e1, k, ek, h1, h2⟩ := h b
  cases k with
  | true => exact ⟨d, b1, by unfold eOr; rw [e1]; simp only [ek], h1 rfl⟩
  | false =>
    obtain ⟨d2, b2, e2, q⟩ := h2 rfl b1
    exact ⟨d2, b2, by unfold eOr; rw [e1]; simp only [ek, e2], q⟩
theorem ew_not (h : Ew f ρ fun d => ∃ k, truthD d = some k ∧ Q (.bl (!k))) : Ew (eNot f) ρ Q := ew_un (h.mono fun d ⟨k, e, q⟩ => ⟨_, by rw [e]; rfl, q⟩)
/-- and, or of truth values: one way -/
theorem ew_andB {x y : Bool} (h : Ew f ρ fun d => d = .bl x) (h' : x = true → Ew f' ρ fun d => d = .bl y) (q : Q (.bl (x && y))) : Ew (eAnd f f') ρ Q := ew_and (h.mono fun d e => by
  subst e
  refine ⟨x, rfl, fun e => (h' e).mono fun d e' => ?_, fun e => ?_⟩
  · subst e; subst e'; simpa using q
  · subst e; simpa using q)
theorem ew_orB {x y : Bool} (h : Ew f ρ fun d => d = .bl x) (h' : x = false → Ew f' ρ fun d => d = .bl y) (q : Q (.bl (x || y))) : Ew (eOr f f') ρ Q := ew_or (h.mono fun d e => by
  subst e
  refine ⟨x, rfl, fun e => ?_, fun e => (h' e).mono fun d e' => ?_⟩
  · subst e; simpa using q
  · subst e; subst e'; simpa using q)
theorem ew_chain {g g' : D → D → Option D} (h : Ew f ρ fun d => Ew f' ρ fun e => ∃ k, g d e = some (.bl k) ∧ (k = true → Ew f'' ρ fun c => OrW (g' e c) Q) ∧ (k = false → Q (.bl false))) : Ew (eChain g g' f f' f'') ρ Q := fun b => by
  obtain ⟨d, b1, e1, h⟩ := h b
  obtain ⟨e, b2, e2, k, ek, h1, h2⟩ := h b1
  cases k with
  | true =>
    obtain ⟨c, b3, e3, r, er, q⟩ := h1 rfl b2
    exact ⟨r, b3, by unfold eChain; rw [e1]; simp only [e2, ek, e3, er], q⟩
  | false => exact ⟨_, b2, by unfold eChain; rw [e1]; simp only [e2, ek], h2 rfl⟩
def Ow (o : Option Ex) (ρ : Rho) (Q : Option Int → Prop) : Prop := ∀ b, ∃ d b', eOpt o ρ b = some (d, b') ∧ Q d
theorem ow_none {Q : Option Int → Prop} (q : Q none) : Ow none ρ Q := fun b => ⟨none, b, rfl, q⟩
theorem ow_some {Q : Option Int → Prop} (h : Ew f ρ fun d => ∃ i, d = .int i ∧ Q (some i)) : Ow (some f) ρ Q := fun b => by
  obtain ⟨d, b1, e1, i, rfl, q⟩ := h b
  exact ⟨some i, b1, by show (match f ρ b with | some (D.int i, b1) => some (some i, b1) | _ => none) = _; rw [e1], q⟩
theorem ew_slice {lo hi : Option Ex} (h : Ew f ρ fun d => Ow lo ρ fun l => Ow hi ρ fun u => OrW (sliceD d l u) Q) : Ew (eSlice f lo hi) ρ Q := fun b => by
  obtain ⟨d, b1, e1, h⟩ := h b
  obtain ⟨l, b2, e2, h⟩ := h b1
  obtain ⟨u, b3, e3, r, e4, q⟩ := h b2
  exact ⟨r, b3, by unfold eSlice; rw [e1]; simp only [e2, e3, e4], q⟩
/-! ### tests -/
theorem tw_bl {Q : Bool → Prop} (h : Ew f ρ fun d => ∃ k, d = .bl k ∧ Q k) : Tw (tBl f) ρ Q := fun b => by
  obtain ⟨d, b1, e1, k, rfl, q⟩ := h b
  exact ⟨k, b1, by unfold tBl; rw [e1], q⟩
theorem tw_of {Q : Bool → Prop} (h : Ew f ρ fun d => ∃ k, truthD d = some k ∧ Q k) : Tw (tOf f) ρ Q := fun b => by
  obtain ⟨d, b1, e1, k, e2, q⟩ := h b
  exact ⟨k, b1, by unfold tOf; rw [e1]; simp only [e2], q⟩
theorem tw_not {Q : Bool → Prop} (h : Tw t ρ fun k => Q (!k)) : Tw (tNot t) ρ Q := fun b => by
  obtain ⟨k, b1, e1, q⟩ := h b
  exact ⟨!k, b1, by unfold tNot; rw [e1], q⟩
theorem tw_and {Q : Bool → Prop} (h : Tw t ρ fun k => (k = true → Tw u ρ Q) ∧ (k = false → Q false)) : Tw (tAnd t u) ρ Q := fun b => by
  obtain ⟨k, b1, e1, h1, h2⟩ := h b
  cases k with
  | true =>
    obtain ⟨d, b2, e2, q⟩ := h1 rfl b1
    exact ⟨d, b2, by unfold tAnd; rw [e1]; exact e2, q⟩
  | false => exact ⟨false, b1, by unfold tAnd; rw [e1], h2 rfl⟩
theorem tw_or {Q : Bool → Prop} (h : Tw t ρ fun k => (k = true → Q true) ∧ (k = false → Tw u ρ Q)) : Tw (tOr t u) ρ Q := fun b => by
  obtain ⟨k, b1, e1, h1, h2⟩ := h b
  cases k with
  | true => exact ⟨true, b1, by unfold tOr; rw [e1], h1 rfl⟩
  | false =>
    obtain ⟨d, b2, e2, q⟩ := h2 rfl b1
    exact ⟨d, b2, by unfold tOr; rw [e1]; exact e2, q⟩
theorem tw_andB {Q : Bool → Prop} {x y : Bool} (h : Tw t ρ fun k => k = x) (h' : x = true → Tw u ρ fun k => k = y) (q : Q (x && y)) : Tw (tAnd t u) ρ Q := tw_and (h.mono fun k e => by
  subst e
  refine ⟨fun e => (h' e).mono fun d e' => ?_, fun e => ?_⟩
  · subst e; subst e'; simpa using q
  · subst e; simpa using q)
theorem tw_orB {Q : Bool → Prop} {x y : Bool} (h : Tw t ρ fun k => k = x) (h' : x = false → Tw u ρ fun k => k = y) (q : Q (x || y)) : Tw (tOr t u) ρ Q := tw_or (h.mono fun k e => by
  subst e
  refine ⟨fun e => ?_, fun e => (h' e).mono fun d e' => ?_⟩
  · subst e; simpa using q
  · subst e; subst e'; simpa using q)
theorem tw_yes {Q : Bool → Prop} (q : Q true) : Tw tYes' ρ Q := fun b => ⟨true, b, rfl, q⟩
/-! ### arguments -/
theorem aw_nil {Q : List D → Prop} (q : Q []) : Aw aNil ρ Q := fun b => ⟨[], b, rfl, q⟩
theorem aw_cons {Q : List D → Prop} (h : Ew f ρ fun d => Aw ag ρ fun ds => Q (d :: ds)) : Aw (aCons f ag) ρ Q := fun b => by
  obtain ⟨d, b1, e1, h⟩ := h b
  obtain ⟨ds, b2, e2, q⟩ := h b1
  exact ⟨_, b2, by unfold aCons; rw [e1]; simp only [e2], q⟩
/-! ### what is walked -/
def Iw (f : It) (ρ : Rho) (Q : List D → Prop) : Prop := ∀ b, ∃ d b', f ρ b = some (d, b') ∧ Q d
theorem iw_seq {Q : List D → Prop} (h : Ew f ρ fun d => ∃ xs, itemsD d = some xs ∧ Q xs) : Iw (iSeq f) ρ Q := fun b => by
  obtain ⟨d, b1, e1, xs, e2, q⟩ := h b
  exact ⟨xs, b1, by unfold iSeq; rw [e1]; simp only [e2], q⟩
theorem iw_str {Q : List D → Prop} (h : Ew f ρ fun d => ∃ z, d = .str z ∧ z.length ≤ PySem.sizeLine ∧ Q (z.cps.toList.map fun c => .str ⟨#[c]⟩)) : Iw (iStr f) ρ Q := fun b => by
  obtain ⟨d, b1, e1, z, rfl, hz, q⟩ := h b
  exact ⟨_, b1, by unfold iStr; rw [e1]; simp only [hz, if_true], q⟩
theorem iw_range {Q : List D → Prop} (h : Aw ag ρ fun ds => ∃ j xs, ds = [.int j] ∧ rangeD 0 j = some xs ∧ Q xs) : Iw (iRange ag) ρ Q := fun b => by
  obtain ⟨d, b1, e1, j, xs, rfl, e2, q⟩ := h b
  exact ⟨xs, b1, by unfold iRange; rw [e1]; simp only [e2], q⟩
theorem iw_range2 {Q : List D → Prop} (h : Aw ag ρ fun ds => ∃ i j xs, ds = [.int i, .int j] ∧ rangeD i j = some xs ∧ Q xs) : Iw (iRange ag) ρ Q := fun b => by
  obtain ⟨d, b1, e1, i, j, xs, rfl, e2, q⟩ := h b
  exact ⟨xs, b1, by unfold iRange; rw [e1]; simp only [e2], q⟩
theorem iw_enum {Q : List D → Prop} (h : Ew f ρ fun d => ∃ xs, itemsD d = some xs ∧ Q (enumD 0 xs)) : Iw (iEnum f) ρ Q := fun b => by
  obtain ⟨d, b1, e1, xs, e2, q⟩ := h b
  exact ⟨_, b1, by unfold iEnum; rw [e1]; simp only [e2], q⟩
theorem iw_zip {Q : List D → Prop} (h : Ew f ρ fun d => Ew f' ρ fun e => ∃ xs, zipDD d e = some xs ∧ Q xs) : Iw (iZip f f') ρ Q := fun b => by
  obtain ⟨d, b1, e1, h⟩ := h b
  obtain ⟨e, b2, e2, xs, e3, q⟩ := h b1
  exact ⟨xs, b2, by unfold iZip; rw [e1]; simp only [e2, e3], q⟩
/-! ### comprehensions -/
/-- R by the items done and what is made -/
theorem ew_lcI {it : It} {g : Tg} {vs : List Nat} (ds : List D) (R : Nat → List D → Prop) (hi : Iw it ρ fun xs => xs = ds) (h0 : R 0 [])
    (hs : ∀ i d acc, ds[i]? = some d → R i acc → ∃ ρ1, g d (wipeR ρ vs) = some ρ1 ∧ Tw t ρ1 fun k => (k = true → Ew f ρ1 fun r => R (i + 1) (acc ++ [r])) ∧ (k = false → R (i + 1) acc)) (q : ∀ acc, R ds.length acc → Q (.lst acc)) : Ew (eLc it g t f vs) ρ Q := fun b => by
  obtain ⟨_, b1, e1, rfl⟩ := hi b
  rename_i ds
  have go : ∀ (n i : Nat) (acc : List D) (b : Bx), n = ds.length - i → i ≤ ds.length → R i acc → ∃ rs b', lcGo g t f (wipeR ρ vs) (ds.drop i) b = some (rs, b') ∧ R ds.length (acc ++ rs) := by
    intro n
    induction n with
    | zero =>
      intro i acc b hn hi r
      have : i = ds.length := by omega
      subst this
      exact ⟨[], b, by rw [List.drop_length]; rfl, by simpa using r⟩
    | succ n ih =>
      intro i acc b hn hi r
      have hlt : i < ds.length := by omega
      obtain ⟨ρ1, e1, h⟩ := hs i ds[i] acc (List.getElem?_eq_getElem hlt) r
      obtain ⟨k, b1, e2, h1, h2⟩ := h b
      rw [List.drop_eq_getElem_cons hlt]
      cases k with
      | true =>
        obtain ⟨d, b2, e3, r'⟩ := h1 rfl b1
        obtain ⟨rs, b3, e4, r2⟩ := ih (i + 1) _ b2 (by omega) hlt r'
        exact ⟨d :: rs, b3, by unfold lcGo; simp only [e1, e2, e3, e4], by simpa using r2⟩
      | false =>
        obtain ⟨rs, b3, e4, r2⟩ := ih (i + 1) _ b1 (by omega) hlt (h2 rfl)
        exact ⟨rs, b3, by unfold lcGo; simp only [e1, e2, e4], r2⟩
  obtain ⟨rs, b2, e2, r⟩ := go _ 0 [] b1 rfl (Nat.zero_le _) h0
  rw [List.drop_zero] at e2
  exact ⟨.lst rs, b2, by unfold eLc; rw [e1]; simp only [e2], q rs (by simpa using r)⟩
/-- each item by itself, of typed items -/
theorem ew_lc {α : Type} {it : It} {g : Tg} {vs : List Nat} (xs : List α) (enc : α → D) (p : α → Bool) (res : α → D) (hi : Iw it ρ fun ds => ds = xs.map enc)
    (hs : ∀ x ∈ xs, ∃ ρ1, g (enc x) (wipeR ρ vs) = some ρ1 ∧ Tw t ρ1 fun k => k = p x ∧ (k = true → Ew f ρ1 fun r => r = res x)) (q : Q (.lst ((xs.filter p).map res))) : Ew (eLc it g t f vs) ρ Q := by
  refine ew_lcI (xs.map enc) (fun i acc => acc = ((xs.take i).filter p).map res) hi rfl (fun i d acc e r => ?_) fun acc r => ?_
  · rw [List.getElem?_map] at e
    cases ex : xs[i]? with
    | none => rw [ex] at e; cases e
    | some x =>
      rw [ex] at e; cases e
      obtain ⟨hl, hx⟩ := List.getElem?_eq_some_iff.mp ex
      obtain ⟨ρ1, e1, h⟩ := hs x (List.mem_of_getElem? ex)
      have ht : xs.take (i + 1) = xs.take i ++ [x] := by rw [List.take_succ, ex]; rfl
      refine ⟨ρ1, e1, h.mono fun k ⟨hk, h2⟩ => ⟨fun e => (h2 e).mono fun r' hr' => ?_, fun e => ?_⟩⟩
      · subst hr'
        rw [ht, List.filter_append, List.map_append, r]
        rw [hk] at e
        simp [e]
      · rw [ht, List.filter_append, List.map_append, r]
        rw [hk] at e
        simp [e]
  · rw [List.length_map, List.take_length] at r
    rw [r]; exact q
/-- .. no test -/
theorem ew_lcM {α : Type} {it : It} {g : Tg} {vs : List Nat} (xs : List α) (enc : α → D) (res : α → D) (hi : Iw it ρ fun ds => ds = xs.map enc)
    (hs : ∀ x ∈ xs, ∃ ρ1, g (enc x) (wipeR ρ vs) = some ρ1 ∧ Ew f ρ1 fun r => r = res x) (q : Q (.lst (xs.map res))) : Ew (eLc it g tYes' f vs) ρ Q :=
  ew_lc xs enc (fun _ => true) res hi (fun x hx => let ⟨ρ1, e, h⟩ := hs x hx; ⟨ρ1, e, tw_yes ⟨rfl, fun _ => h⟩⟩) (by rw [List.filter_eq_self.mpr fun _ _ => rfl]; exact q)
/-- .. what is made is of a kind -/
theorem ew_lcK {α β : Type} {it : It} {g : Tg} {vs : List Nat} (xs : List α) (enc : α → D) (enc' : β → D) (P : α → β → Prop) (hi : Iw it ρ fun ds => ds = xs.map enc)
    (hs : ∀ x ∈ xs, ∃ ρ1, g (enc x) (wipeR ρ vs) = some ρ1 ∧ Ew f ρ1 fun r => ∃ y, r = enc' y ∧ P x y) (q : ∀ ys : List β, ys.length = xs.length → (∀ (i : Nat) x y, xs[i]? = some x → ys[i]? = some y → P x y) → Q (.lst (ys.map enc'))) : Ew (eLc it g tYes' f vs) ρ Q := by
  refine ew_lcI (xs.map enc) (fun i acc => ∃ ys : List β, acc = ys.map enc' ∧ ys.length = i ∧ ∀ (j : Nat) x y, xs[j]? = some x → ys[j]? = some y → P x y) hi ⟨[], rfl, rfl, fun _ _ _ _ e => by simp at e⟩ (fun i d acc e r => ?_) fun acc r => ?_
  · rw [List.getElem?_map] at e
    cases ex : xs[i]? with
    | none => rw [ex] at e; cases e
    | some x =>
      rw [ex] at e; cases e
      obtain ⟨ys, ey, hl, hp⟩ := r
      obtain ⟨ρ1, e1, h⟩ := hs x (List.mem_of_getElem? ex)
      refine ⟨ρ1, e1, tw_yes ⟨fun _ => h.mono fun r ⟨y, er, hy⟩ => ⟨ys ++ [y], by rw [ey, er]; simp, by simp [hl], fun j x' y' e1 e2 => ?_⟩, fun e => by cases e⟩⟩
      by_cases hj : j < ys.length
      · rw [List.getElem?_append_left hj] at e2
        exact hp j x' y' e1 e2
      · have hj2 : j = i := by
          have := (List.getElem?_eq_some_iff.mp e2).1
          simp at this; omega
        subst hj2
        rw [ex] at e1; cases e1
        rw [List.getElem?_append_right (by omega)] at e2
        simp [hl] at e2
        subst e2; exact hy
  · obtain ⟨ys, ey, hl, hp⟩ := r
    rw [ey]
    exact q ys (by simpa using hl) hp
end
/-! ### defs -/
theorem fw_run {n : Nat} {s : SS} {ds : List D} {Q : D → Prop} (h : Sw s (ds.map Sl.frz ++ List.replicate (n - ds.length) .emp) fun fl _ => (∃ d, fl = .rt d ∧ Q d) ∨ (fl = .nx ∧ Q .non)) : Fw (runF n s) ds Q := fun b => by
  obtain ⟨fl, ρ', b', e, q⟩ := h b
  rcases q with ⟨d, rfl, q⟩ | ⟨rfl, q⟩
  · exact ⟨d, b', by unfold runF; rw [e], q⟩
  · exact ⟨.non, b', by unfold runF; rw [e], q⟩
/-- .. that returns -/
@[reducible] def RtQ (Q : D → Prop) : Fl → Rho → Prop := fun fl _ => ∃ d, fl = .rt d ∧ Q d
theorem fw_rt {n : Nat} {s : SS} {ds : List D} {Q : D → Prop} (h : Sw s (ds.map Sl.frz ++ List.replicate (n - ds.length) .emp) (RtQ Q)) : Fw (runF n s) ds Q := fw_run (h.mono fun _ _ q => .inl q)
theorem fw_draw {n : Int} {Q : D → Prop} (h0 : 0 < n) (h1 : n < 2 ^ 30) (q : ∀ i : Int, 0 ≤ i → i < n → Q (.int i)) : Fw drawF [.tok 0, .int n] Q := fun b => by
  refine ⟨.int (drawB b n).1, (drawB b n).2, ?_, q _ ?_ ?_⟩
  · have : n ≠ 0 ∧ n.natAbs < 2 ^ 30 := ⟨by omega, by omega⟩
    simp only [drawF, this, and_self, ne_eq, not_false_eq_true, if_true]
  · exact Int.fmod_nonneg_of_pos _ h0
  · exact Int.fmod_lt_of_pos _ h0
/-! ### statements -/
@[reducible] def Then (K : Rho → Prop) (Q : Fl → Rho → Prop) : Fl → Rho → Prop := fun fl ρ => match fl with
  | .nx => K ρ
  | fl => Q fl ρ
section
variable {ρ : Rho} {Q : Fl → Rho → Prop} {f f' : Ex} {t : Tx} {s s' : SS}
theorem sw_nx (q : Q .nx ρ) : Sw sNx ρ Q := fun b => ⟨.nx, ρ, b, rfl, q⟩
theorem sw_bk (q : Q .bk ρ) : Sw sBk ρ Q := fun b => ⟨.bk, ρ, b, rfl, q⟩
theorem sw_ct (q : Q .ct ρ) : Sw sCt ρ Q := fun b => ⟨.ct, ρ, b, rfl, q⟩
theorem sw_seq (h : Sw s ρ (Then (fun ρ1 => Sw s' ρ1 Q) Q)) : Sw (sSeq s s') ρ Q := fun b => by
  obtain ⟨fl, ρ1, b1, e1, h⟩ := h b
  cases fl with
  | nx =>
    obtain ⟨fl, ρ2, b2, e2, q⟩ := (h : Sw s' ρ1 Q) b1
    exact ⟨fl, ρ2, b2, by unfold sSeq; rw [e1]; exact e2, q⟩
  | bk => exact ⟨.bk, ρ1, b1, by unfold sSeq; rw [e1], h⟩
  | ct => exact ⟨.ct, ρ1, b1, by unfold sSeq; rw [e1], h⟩
  | rt d => exact ⟨.rt d, ρ1, b1, by unfold sSeq; rw [e1], h⟩
theorem sw_ret (h : Ew f ρ fun d => Q (.rt d) ρ) : Sw (sRet f) ρ Q := fun b => by
  obtain ⟨d, b1, e1, q⟩ := h b
  exact ⟨.rt d, ρ, b1, by unfold sRet; rw [e1], q⟩
theorem sw_rt {Q : D → Prop} (h : Ew f ρ Q) : Sw (sRet f) ρ (RtQ Q) := sw_ret (h.mono fun d q => ⟨d, rfl, q⟩)
theorem sw_if (h : Tw t ρ fun k => (k = true → Sw s ρ Q) ∧ (k = false → Sw s' ρ Q)) : Sw (sIf t s s') ρ Q := fun b => by
  obtain ⟨k, b1, e1, h1, h2⟩ := h b
  cases k with
  | true =>
    obtain ⟨fl, ρ1, b2, e2, q⟩ := h1 rfl b1
    exact ⟨fl, ρ1, b2, by unfold sIf; rw [e1]; exact e2, q⟩
  | false =>
    obtain ⟨fl, ρ1, b2, e2, q⟩ := h2 rfl b1
    exact ⟨fl, ρ1, b2, by unfold sIf; rw [e1]; exact e2, q⟩
theorem sw_set {i : Nat} (h : Ew f ρ fun d => Q .nx (ρ.set i (Sl.frz d))) : Sw (sSet i f) ρ Q := fun b => by
  obtain ⟨d, b1, e1, q⟩ := h b
  exact ⟨.nx, _, b1, by unfold sSet; rw [e1], q⟩
theorem sw_new {i : Nat} (h : Ew f ρ fun d => Q .nx (ρ.set i (Sl.own d))) : Sw (sNew i f) ρ Q := fun b => by
  obtain ⟨d, b1, e1, q⟩ := h b
  exact ⟨.nx, _, b1, by unfold sNew; rw [e1], q⟩
theorem sw_asg {g : Tg} (h : Ew f ρ fun d => ∃ ρ1, g d ρ = some ρ1 ∧ Q .nx ρ1) : Sw (sAsg g f) ρ Q := fun b => by
  obtain ⟨d, b1, e1, ρ1, e2, q⟩ := h b
  exact ⟨.nx, _, b1, by unfold sAsg; rw [e1]; simp only [e2], q⟩
theorem sw_expr (h : Ew f ρ fun d => Q .nx ρ) : Sw (sExpr f) ρ Q := fun b => by
  obtain ⟨d, b1, e1, q⟩ := h b
  exact ⟨.nx, _, b1, by unfold sExpr; rw [e1], q⟩
theorem sw_fz {i : Nat} {d : D} (e : ρ[i]? = some (Sl.own d)) (q : Q .nx (ρ.set i (Sl.frz d))) : Sw (sFz i) ρ Q := fun b => ⟨.nx, _, b, by unfold sFz; rw [e], q⟩
theorem kw_nil {Q : List Sl → Prop} (q : Q []) : Kw kNil ρ Q := fun b => ⟨[], b, rfl, q⟩
theorem kw_frz {Q : List Sl → Prop} {g : Ks} (h : Ew f ρ fun d => Kw g ρ fun ss => Q (.frz d :: ss)) : Kw (kFrz f g) ρ Q := fun b => by
  obtain ⟨d, b1, e1, h⟩ := h b
  obtain ⟨ds, b2, e2, q⟩ := h b1
  exact ⟨_, b2, by unfold kFrz; rw [e1]; simp only [e2], q⟩
theorem kw_new {Q : List Sl → Prop} {g : Ks} (h : Ew f ρ fun d => Kw g ρ fun ss => Q (.own d :: ss)) : Kw (kNew f g) ρ Q := fun b => by
  obtain ⟨d, b1, e1, h⟩ := h b
  obtain ⟨ds, b2, e2, q⟩ := h b1
  exact ⟨_, b2, by unfold kNew; rw [e1]; simp only [e2], q⟩
theorem sw_par {is : List Nat} {k : Ks} (h : Kw k ρ fun ss => Q .nx (setK ρ is ss)) : Sw (sPar is k) ρ Q := fun b => by
  obtain ⟨d, b1, e1, q⟩ := h b
  exact ⟨.nx, _, b1, by unfold sPar; rw [e1], q⟩
/-- for: I by the items done; E: what holds where it goes on -/
theorem sw_for {it : It} {g : Tg} (ds : List D) (I : Nat → Rho → Prop) (hi : Iw it ρ fun xs => xs = ds) (h0 : I 0 ρ)
    (hs : ∀ i d ρ1, ds[i]? = some d → I i ρ1 → ∃ ρ2, g d ρ1 = some ρ2 ∧ Sw s ρ2 fun fl ρ3 => match fl with | .nx => I (i + 1) ρ3 | .ct => I (i + 1) ρ3 | .bk => Q .nx ρ3 | .rt d => Q (.rt d) ρ3) (q : ∀ ρ1, I ds.length ρ1 → Q .nx ρ1) : Sw (sFor it g s) ρ Q := fun b => by
  obtain ⟨_, b1, e1, rfl⟩ := hi b
  rename_i ds
  have go : ∀ (n i : Nat) (ρ1 : Rho) (b : Bx), n = ds.length - i → i ≤ ds.length → I i ρ1 → ∃ fl ρ' b', forGo g s (ds.drop i) ρ1 b = some (fl, ρ', b') ∧ Q fl ρ' := by
    intro n
    induction n with
    | zero =>
      intro i ρ1 b hn hi r
      have : i = ds.length := by omega
      subst this
      exact ⟨.nx, ρ1, b, by rw [List.drop_length]; rfl, q _ r⟩
    | succ n ih =>
      intro i ρ1 b hn hi r
      have hlt : i < ds.length := by omega
      obtain ⟨ρ2, e1, h⟩ := hs i ds[i] ρ1 (List.getElem?_eq_getElem hlt) r
      obtain ⟨fl, ρ3, b2, e2, h⟩ := h b
      rw [List.drop_eq_getElem_cons hlt]
      cases fl with
      | nx =>
        obtain ⟨fl, ρ', b', e3, q'⟩ := ih (i + 1) ρ3 b2 (by omega) hlt h
        exact ⟨fl, ρ', b', by unfold forGo; simp only [e1, e2, e3], q'⟩
      | ct =>
        obtain ⟨fl, ρ', b', e3, q'⟩ := ih (i + 1) ρ3 b2 (by omega) hlt h
        exact ⟨fl, ρ', b', by unfold forGo; simp only [e1, e2, e3], q'⟩
      | bk => exact ⟨.nx, ρ3, b2, by unfold forGo; simp only [e1, e2], h⟩
      | rt d => exact ⟨.rt d, ρ3, b2, by unfold forGo; simp only [e1, e2], h⟩
  obtain ⟨fl, ρ', b', e2, q'⟩ := go _ 0 ρ b1 rfl (Nat.zero_le _) h0
  rw [List.drop_zero] at e2
  exact ⟨fl, ρ', b', by unfold sFor; rw [e1]; exact e2, q'⟩
/-- while: I by a measure -/
theorem sw_wh (n : Nat) (I : Nat → Rho → Prop) (hn : n < 100000) (h0 : I n ρ)
    (hs : ∀ m ρ1, I m ρ1 → Tw t ρ1 fun k => (k = false → Q .nx ρ1) ∧ (k = true → Sw s ρ1 fun fl ρ3 => match fl with | .nx => ∃ m', m' < m ∧ I m' ρ3 | .ct => ∃ m', m' < m ∧ I m' ρ3 | .bk => Q .nx ρ3 | .rt d => Q (.rt d) ρ3)) : Sw (sWh t s) ρ Q := fun b => by
  have go : ∀ (N m : Nat) (ρ1 : Rho) (b : Bx), m < N → I m ρ1 → ∃ fl ρ' b', whGo t s N ρ1 b = some (fl, ρ', b') ∧ Q fl ρ' := by
    intro N
    induction N with
    | zero => intro m ρ1 b h; omega
    | succ N ih =>
      intro m ρ1 b hm r
      obtain ⟨k, b1, e1, h1, h2⟩ := hs m ρ1 r b
      cases k with
      | false => exact ⟨.nx, ρ1, b1, by unfold whGo; simp only [e1], h1 rfl⟩
      | true =>
        obtain ⟨fl, ρ3, b2, e2, h⟩ := h2 rfl b1
        cases fl with
        | nx =>
          obtain ⟨m', hm', r'⟩ := h
          obtain ⟨fl, ρ', b', e3, q'⟩ := ih m' ρ3 b2 (by omega) r'
          exact ⟨fl, ρ', b', by unfold whGo; simp only [e1, e2, e3], q'⟩
        | ct =>
          obtain ⟨m', hm', r'⟩ := h
          obtain ⟨fl, ρ', b', e3, q'⟩ := ih m' ρ3 b2 (by omega) r'
          exact ⟨fl, ρ', b', by unfold whGo; simp only [e1, e2, e3], q'⟩
        | bk => exact ⟨.nx, ρ3, b2, by unfold whGo; simp only [e1, e2], h⟩
        | rt d => exact ⟨.rt d, ρ3, b2, by unfold whGo; simp only [e1, e2], h⟩
  exact go 100000 n ρ b hn h0
/-! ### changes in place -/
theorem mw_up {Q : D → Rho → Prop} (h : Ew f ρ fun d => Q d ρ) : Mw (mUp f) ρ Q := fun b => by
  obtain ⟨d, b1, e1, q⟩ := h b
  exact ⟨d, ρ, b1, by unfold mUp; rw [e1], q⟩
theorem maw_up {Q : List D → Rho → Prop} {ag : As} (h : Aw ag ρ fun d => Q d ρ) : MAw (mUpA ag) ρ Q := fun b => by
  obtain ⟨d, b1, e1, q⟩ := h b
  exact ⟨d, ρ, b1, by unfold mUpA; rw [e1], q⟩
theorem maw_one {Q : List D → Rho → Prop} {g : Mx} (h : Mw g ρ fun d ρ1 => Q [d] ρ1) : MAw (mOne g) ρ Q := fun b => by
  obtain ⟨d, ρ1, b1, e1, q⟩ := h b
  exact ⟨[d], ρ1, b1, by unfold mOne; rw [e1], q⟩
theorem maw_nil {Q : List D → Rho → Prop} (q : Q [] ρ) : MAw mNil ρ Q := fun b => ⟨[], ρ, b, rfl, q⟩
theorem mw_meth {Q : D → Rho → Prop} {i : Nat} {k : List D → List D → Option (D × List D)} {g : MAs} {xs0 : List D} (e0 : ρ[i]? = some (Sl.own (.lst xs0))) (h : MAw g ρ fun ds ρ1 => ∃ xs r ys, ρ1[i]? = some (Sl.own (.lst xs)) ∧ k xs ds = some (r, ys) ∧ Q r (ρ1.set i (.own (.lst ys)))) : Mw (mMeth i k g) ρ Q := fun b => by
  obtain ⟨ds, ρ1, b1, e1, xs, r, ys, e2, e3, q⟩ := h b
  exact ⟨r, _, b1, by unfold mMeth; rw [e0]; simp only [e1, e2, e3], q⟩
theorem sw_exprM {g : Mx} (h : Mw g ρ fun d ρ1 => Q .nx ρ1) : Sw (sExprM g) ρ Q := fun b => by
  obtain ⟨d, ρ1, b1, e1, q⟩ := h b
  exact ⟨.nx, _, b1, by unfold sExprM; rw [e1], q⟩
theorem sw_setM {g : Mx} {i : Nat} (h : Mw g ρ fun d ρ1 => Q .nx (ρ1.set i (.frz d))) : Sw (sSetM i g) ρ Q := fun b => by
  obtain ⟨d, ρ1, b1, e1, q⟩ := h b
  exact ⟨.nx, _, b1, by unfold sSetM; rw [e1], q⟩
theorem sw_asgM {g : Mx} {tg : Tg} (h : Mw g ρ fun d ρ1 => ∃ ρ2, tg d ρ1 = some ρ2 ∧ Q .nx ρ2) : Sw (sAsgM tg g) ρ Q := fun b => by
  obtain ⟨d, ρ1, b1, e1, ρ2, e2, q⟩ := h b
  exact ⟨.nx, _, b1, by unfold sAsgM; rw [e1]; simp only [e2], q⟩
theorem sw_store {i : Nat} (h : Ew f' ρ fun d => ∃ xs, ρ[i]? = some (Sl.own (.lst xs)) ∧ Ew f ρ fun z => ∃ k j, z = .int k ∧ L2.ixN xs.length k = some j ∧ Q .nx (ρ.set i (.own (.lst (xs.set j d))))) : Sw (sStore i f f') ρ Q := fun b => by
  obtain ⟨d, b1, e1, xs, e2, h⟩ := h b
  obtain ⟨z, b2, e3, k, j, rfl, e4, q⟩ := h b1
  exact ⟨.nx, _, b2, by unfold sStore; rw [e1]; simp only [e2, e3, e4], q⟩
theorem sw_augI {i : Nat} {k : Int → Int → Int} {x : Int} (e0 : ρ[i]? = some (Sl.frz (.int x))) (h : Ew f ρ fun d => ∃ y, d = .int y ∧ Q .nx (ρ.set i (.frz (.int (k x y))))) : Sw (sAugI i k f) ρ Q := fun b => by
  obtain ⟨d, b1, e1, y, rfl, q⟩ := h b
  exact ⟨.nx, _, b1, by unfold sAugI; rw [e0]; simp only [e1], q⟩
end
end Sv

set_option maxHeartbeats 1000000
/-! Pl2: operations on typed data. -/
namespace Sv
open PySem (Str PyData)

theorem OrW.of {o : Option D} {Q : D → Prop} {r : D} (e : o = some r) (q : Q r) : OrW o Q := ⟨r, e, q⟩
abbrev tI (xs : List Int) : D := .tup (xs.map .int)
abbrev lI (xs : List Int) : D := .lst (xs.map .int)

/-! ### sm -/
theorem plainL_iff : ∀ {ds : List D}, D.plainL ds = true ↔ ∀ d ∈ ds, d.plain = true
  | [] => by simp [D.plainL]
  | d :: ds => by rw [D.plainL, Bool.and_eq_true, plainL_iff]; simp
theorem depL_le {n : Nat} : ∀ {ds : List D}, D.depL ds ≤ n ↔ ∀ d ∈ ds, d.dep ≤ n
  | [] => by simp [D.depL]
  | d :: ds => by rw [D.depL, Nat.max_le, depL_le]; simp
theorem sm_of {d : D} (h1 : d.plain = true) (h2 : d.dep ≤ 50) : d.sm = true := by simp [D.sm, h1, h2]
theorem sm_int (i : Int) : (D.int i).sm = true := rfl
/-- an encoding: plain, of a depth, told apart by == -/
structure Enc {α : Type} [DecidableEq α] (e : α → D) (n : Nat) : Prop where
  plain : ∀ x, (e x).plain = true
  dep : ∀ x, (e x).dep ≤ n
  eqv : ∀ x y, PyData.eqv (e x).py (e y).py = decide (x = y)
theorem enc_int : Enc D.int 0 := ⟨fun _ => rfl, fun _ => Nat.le_refl _, fun x y => by simp only [D.py, PyData.eqv]; by_cases h : x = y <;> simp [h]⟩
theorem eqvAll_map {α : Type} [DecidableEq α] {e : α → D} (h : ∀ x y, PyData.eqv (e x).py (e y).py = decide (x = y)) : ∀ xs ys : List α, PyData.eqvAll (D.pyL (xs.map e)) (D.pyL (ys.map e)) = decide (xs = ys)
  | [], [] => rfl
  | [], _ :: _ => rfl
  | _ :: _, [] => rfl
  | x :: xs, y :: ys => by
    simp only [List.map_cons, D.pyL, PyData.eqvAll]
    rw [h x y, eqvAll_map h xs ys]
    by_cases h1 : x = y <;> by_cases h2 : xs = ys <;> simp [h1, h2]
theorem Enc.tup {α : Type} [DecidableEq α] {e : α → D} {n : Nat} (h : Enc e n) : Enc (fun xs : List α => D.tup (xs.map e)) (n + 1) := by
  refine ⟨fun xs => ?_, fun xs => ?_, fun xs ys => ?_⟩
  · simp only [D.plain]
    rw [plainL_iff]
    intro d hd
    obtain ⟨x, _, rfl⟩ := List.mem_map.mp hd
    exact h.plain x
  · simp only [D.dep]
    refine Nat.succ_le_succ (depL_le.mpr fun d hd => ?_)
    obtain ⟨x, _, rfl⟩ := List.mem_map.mp hd
    exact h.dep x
  · simp only [D.py, PyData.eqv]
    exact eqvAll_map h.eqv xs ys
theorem Enc.lst {α : Type} [DecidableEq α] {e : α → D} {n : Nat} (h : Enc e n) : Enc (fun xs : List α => D.lst (xs.map e)) (n + 1) := by
  refine ⟨fun xs => ?_, fun xs => ?_, fun xs ys => ?_⟩
  · simp only [D.plain]
    rw [plainL_iff]
    intro d hd
    obtain ⟨x, _, rfl⟩ := List.mem_map.mp hd
    exact h.plain x
  · simp only [D.dep]
    refine Nat.succ_le_succ (depL_le.mpr fun d hd => ?_)
    obtain ⟨x, _, rfl⟩ := List.mem_map.mp hd
    exact h.dep x
  · simp only [D.py, PyData.eqv]
    exact eqvAll_map h.eqv xs ys
theorem enc_tI : Enc tI 1 := enc_int.tup
theorem Enc.sm {α : Type} [DecidableEq α] {e : α → D} {n : Nat} (h : Enc e n) (hn : n ≤ 50) (x : α) : (e x).sm = true := sm_of (h.plain x) (Nat.le_trans (h.dep x) hn)
section
variable {Q : D → Prop}
/-! ### == of encoded data, in -/
theorem o_eqE {α : Type} [DecidableEq α] {e : α → D} {n : Nat} (h : Enc e n) {x y : α} (q : Q (.bl (decide (x = y)))) (hn : n ≤ 50 := by decide) : OrW (opEq (e x) (e y)) Q := by
  refine .of (r := .bl (decide (x = y))) ?_ q
  simp only [opEq, eqD, h.sm hn, and_self, if_true, Option.map_some, h.eqv]
theorem o_neE {α : Type} [DecidableEq α] {e : α → D} {n : Nat} (h : Enc e n) {x y : α} (q : Q (.bl (!decide (x = y)))) (hn : n ≤ 50 := by decide) : OrW (opNe (e x) (e y)) Q := by
  refine .of (r := .bl (!decide (x = y))) ?_ q
  simp only [opNe, eqD, h.sm hn, and_self, if_true, Option.map_some, h.eqv]
theorem o_eqI {x y : Int} (q : Q (.bl (decide (x = y)))) : OrW (opEq (.int x) (.int y)) Q := o_eqE enc_int q
theorem o_neI {x y : Int} (q : Q (.bl (!decide (x = y)))) : OrW (opNe (.int x) (.int y)) Q := o_neE enc_int q
theorem any_eqv {α : Type} [DecidableEq α] {e : α → D} (h : ∀ x y, PyData.eqv (e x).py (e y).py = decide (x = y)) (x : α) (ys : List α) : ((ys.map e).any fun z => PyData.eqv z.py (e x).py) = decide (x ∈ ys) := by
  induction ys with
  | nil => rfl
  | cons y ys ih =>
    rw [List.map_cons, List.any_cons, ih, h]
    by_cases h1 : y = x
    · simp [h1]
    · have h2 : ¬ x = y := fun z => h1 z.symm
      simp [h1, h2]
theorem inD_tup {α : Type} [DecidableEq α] {e : α → D} {n : Nat} (h : Enc e n) (hn : n ≤ 49) (x : α) (ys : List α) : inD (e x) (.tup (ys.map e)) = some (decide (x ∈ ys)) := by
  have h1 : (e x).sm = true := h.sm (by omega) x
  have h2 : (D.tup (ys.map e)).sm = true := h.tup.sm (by omega) ys
  simp only [inD, h1, h2, and_self, if_true, any_eqv h.eqv]
theorem inD_lst {α : Type} [DecidableEq α] {e : α → D} {n : Nat} (h : Enc e n) (hn : n ≤ 49) (x : α) (ys : List α) : inD (e x) (.lst (ys.map e)) = some (decide (x ∈ ys)) := by
  have h1 : (e x).sm = true := h.sm (by omega) x
  have h2 : (D.lst (ys.map e)).sm = true := h.lst.sm (by omega) ys
  simp only [inD, h1, h2, and_self, if_true, any_eqv h.eqv]
theorem o_inT {α : Type} [DecidableEq α] {e : α → D} {n : Nat} (h : Enc e n) {x : α} {ys : List α} (q : Q (.bl (decide (x ∈ ys)))) (hn : n ≤ 49 := by decide) : OrW (opIn (e x) (.tup (ys.map e))) Q :=
  .of (by rw [opIn, inD_tup h hn]; rfl) q
theorem o_ninT {α : Type} [DecidableEq α] {e : α → D} {n : Nat} (h : Enc e n) {x : α} {ys : List α} (q : Q (.bl (!decide (x ∈ ys)))) (hn : n ≤ 49 := by decide) : OrW (opNotIn (e x) (.tup (ys.map e))) Q :=
  .of (by rw [opNotIn, inD_tup h hn]; rfl) q
theorem o_inL {α : Type} [DecidableEq α] {e : α → D} {n : Nat} (h : Enc e n) {x : α} {ys : List α} (q : Q (.bl (decide (x ∈ ys)))) (hn : n ≤ 49 := by decide) : OrW (opIn (e x) (.lst (ys.map e))) Q :=
  .of (by rw [opIn, inD_lst h hn]; rfl) q
theorem o_ninL {α : Type} [DecidableEq α] {e : α → D} {n : Nat} (h : Enc e n) {x : α} {ys : List α} (q : Q (.bl (!decide (x ∈ ys)))) (hn : n ≤ 49 := by decide) : OrW (opNotIn (e x) (.lst (ys.map e))) Q :=
  .of (by rw [opNotIn, inD_lst h hn]; rfl) q
/-! ### < of numbers -/
theorem o_lt {x y : Int} (q : Q (.bl (decide (x < y)))) : OrW (opLt (.int x) (.int y)) Q := .of rfl q
theorem o_gt {x y : Int} (q : Q (.bl (decide (y < x)))) : OrW (opGt (.int x) (.int y)) Q := .of rfl q
theorem o_le {x y : Int} (q : Q (.bl (decide (x ≤ y)))) : OrW (opLe (.int x) (.int y)) Q := by
  refine .of (r := .bl (decide (x ≤ y))) ?_ q
  show some (D.bl (!decide (y < x))) = _
  by_cases h : y < x
  · have : ¬ x ≤ y := by omega
    simp [h, this]
  · have : x ≤ y := by omega
    simp [h, this]
theorem o_ge {x y : Int} (q : Q (.bl (decide (y ≤ x)))) : OrW (opGe (.int x) (.int y)) Q := by
  refine .of (r := .bl (decide (y ≤ x))) ?_ q
  show some (D.bl (!decide (x < y))) = _
  by_cases h : x < y
  · have : ¬ y ≤ x := by omega
    simp [h, this]
  · have : y ≤ x := by omega
    simp [h, this]
/-! ### len, all, any, sum -/
theorem o_lenT {ds : List D} (q : Q (.int ds.length)) : OrW (lenD [.tup ds]) Q := .of rfl q
theorem o_lenL {ds : List D} (q : Q (.int ds.length)) : OrW (lenD [.lst ds]) Q := .of rfl q
theorem boolsD_typed {α : Type} (p : α → Bool) : ∀ xs : List α, boolsD (xs.map fun x => .bl (p x)) = some (xs.map p)
  | [] => rfl
  | x :: xs => by rw [List.map_cons, boolsD, boolsD_typed p xs]; rfl
theorem intsD_typed {α : Type} (p : α → Int) : ∀ xs : List α, intsD (xs.map fun x => .int (p x)) = some (xs.map p)
  | [] => rfl
  | x :: xs => by rw [List.map_cons, intsD, intsD_typed p xs]; rfl
theorem o_all {α : Type} {p : α → Bool} {xs : List α} (q : Q (.bl (xs.all p))) : OrW (allD [.lst (xs.map fun x => .bl (p x))]) Q := by
  refine .of ?_ q
  simp only [allD, boolsD_typed, Option.map_some, List.all_map]
  rfl
theorem o_any {α : Type} {p : α → Bool} {xs : List α} (q : Q (.bl (xs.any p))) : OrW (anyD [.lst (xs.map fun x => .bl (p x))]) Q := by
  refine .of ?_ q
  simp only [anyD, boolsD_typed, Option.map_some, List.any_map]
  rfl
theorem o_sum {α : Type} {p : α → Int} {xs : List α} (q : Q (.int (xs.map p).sum)) : OrW (sumD [.lst (xs.map fun x => .int (p x))]) Q := by
  refine .of ?_ q
  simp only [sumD, intsD_typed, Option.map_some]
theorem o_sumT {α : Type} {p : α → Int} {xs : List α} (q : Q (.int (xs.map p).sum)) : OrW (sumD [.tup (xs.map fun x => .int (p x))]) Q := by
  refine .of ?_ q
  simp only [sumD, intsD_typed, Option.map_some]
/-! ### subscripts -/
theorem atI_nat {α : Type} {xs : List α} {k : Nat} : L2.atI xs (k : Int) = xs[k]? := by
  unfold L2.atI L2.ixN
  by_cases h : k < xs.length
  · have h1 : (0 : Int) ≤ k := by omega
    have h2 : (k : Int) < xs.length := by omega
    simp [h1, h2]
  · have h1 : (0 : Int) ≤ k := by omega
    have h2 : ¬ (k : Int) < xs.length := by omega
    rw [List.getElem?_eq_none (by omega)]
    simp [h1, h2]
theorem atI_pos {α : Type} {xs : List α} {i : Int} (h : 0 ≤ i) : L2.atI xs i = xs[i.toNat]? := by
  have := atI_nat (xs := xs) (k := i.toNat)
  rwa [Int.toNat_of_nonneg h] at this
theorem o_ixT {α : Type} {e : α → D} {xs : List α} {i : Int} {x : α} (h : 0 ≤ i) (hx : xs[i.toNat]? = some x) (q : Q (e x)) : OrW (ixD (.tup (xs.map e)) (.int i)) Q :=
  .of (by rw [ixD, atI_pos h, List.getElem?_map, hx]; rfl) q
theorem o_ixL {α : Type} {e : α → D} {xs : List α} {i : Int} {x : α} (h : 0 ≤ i) (hx : xs[i.toNat]? = some x) (q : Q (e x)) : OrW (ixD (.lst (xs.map e)) (.int i)) Q :=
  .of (by rw [ixD, atI_pos h, List.getElem?_map, hx]; rfl) q
theorem o_ixTn {α : Type} {e : α → D} {xs : List α} {k : Nat} {x : α} (hx : xs[k]? = some x) (q : Q (e x)) : OrW (ixD (.tup (xs.map e)) (.int (k : Nat))) Q :=
  .of (by rw [ixD, atI_nat, List.getElem?_map, hx]; rfl) q
theorem o_ixLn {α : Type} {e : α → D} {xs : List α} {k : Nat} {x : α} (hx : xs[k]? = some x) (q : Q (e x)) : OrW (ixD (.lst (xs.map e)) (.int (k : Nat))) Q :=
  .of (by rw [ixD, atI_nat, List.getElem?_map, hx]; rfl) q
/-! ### slices -/
theorem cutD_map {α : Type} (e : α → D) (xs : List α) (lo hi : Option Int) : cutD (xs.map e) lo hi = ((xs.drop (HT.sIx xs.length 0 lo)).take (HT.sIx xs.length xs.length hi - HT.sIx xs.length 0 lo)).map e := by
  simp only [cutD, List.length_map, List.map_drop, List.map_take]
end
/-! ### zip, range, enumerate of typed data -/
theorem zipD_map {α β : Type} (e : α → D) (e' : β → D) : ∀ (xs : List α) (ys : List β), zipD (xs.map e) (ys.map e') = (xs.zip ys).map fun p => .tup [e p.1, e' p.2]
  | [], _ => by simp [zipD]
  | _ :: _, [] => by simp [zipD]
  | x :: xs, y :: ys => by simp only [List.map_cons, zipD, zipD_map e e' xs ys, List.zip_cons_cons]
theorem enumD_map {α : Type} (e : α → D) : ∀ (k : Nat) (xs : List α), enumD k (xs.map e) = (xs.zipIdx k).map fun p => .tup [.int (p.2 : Nat), e p.1]
  | _, [] => rfl
  | k, x :: xs => by simp only [List.map_cons, enumD, enumD_map e (k + 1) xs, List.zipIdx_cons]
theorem rangeD_nat {n : Nat} (h : n ≤ 16777216) : rangeD 0 (n : Int) = some ((List.range n).map fun k => .int (k : Nat)) := by
  unfold rangeD
  rw [if_pos (by refine ⟨?_, ?_, ?_, ?_, ?_⟩ <;> omega)]
  simp
theorem rangeD_neg {i : Int} (h : i ≤ 0) (h2 : -(2 ^ 62) ≤ i) : rangeD 0 i = some [] := by
  unfold rangeD
  rw [if_pos (by refine ⟨?_, ?_, ?_, ?_, ?_⟩ <;> omega)]
  have : (i - 0).toNat = 0 := by omega
  rw [this]; rfl
theorem rangeD_two {a b : Nat} (h : b ≤ 16777216) (ha : a ≤ 16777216) : rangeD (a : Int) (b : Int) = some ((List.range (b - a)).map fun k => .int ((a + k : Nat) : Int)) := by
  unfold rangeD
  rw [if_pos (by refine ⟨?_, ?_, ?_, ?_, ?_⟩ <;> omega)]
  have : ((b : Int) - (a : Int)).toNat = b - a := by omega
  rw [this]
  simp
end Sv
namespace Sv
open PySem (Str PyData)
/-! ### natural numbers -/
abbrev nE (k : Nat) : D := .int (k : Int)
abbrev tN (xs : List Nat) : D := .tup (xs.map nE)
abbrev lN (xs : List Nat) : D := .lst (xs.map nE)
theorem enc_nat : Enc nE 0 := ⟨fun _ => rfl, fun _ => Nat.le_refl _, fun x y => by simp only [D.py, PyData.eqv]; by_cases h : x = y <;> simp [h] <;> omega⟩
theorem enc_tN : Enc tN 1 := enc_nat.tup
theorem intsD_nat : ∀ xs : List Nat, intsD (xs.map nE) = some (xs.map fun k : Nat => (k : Int))
  | [] => rfl
  | x :: xs => by rw [List.map_cons, intsD, intsD_nat xs]; rfl
theorem erase_cast (a : Nat) : ∀ xs : List Nat, (xs.map fun k : Nat => (k : Int)).erase (a : Int) = (xs.erase a).map fun k : Nat => (k : Int)
  | [] => rfl
  | x :: xs => by
    by_cases h : x = a
    · subst h; simp
    · have h2 : ¬ ((x : Int) = (a : Int)) := by omega
      rw [List.map_cons, List.erase_cons_tail (by simpa using h2), List.erase_cons_tail (by simpa using h), List.map_cons, erase_cast a xs]
theorem kRem_nat {a : Nat} {xs : List Nat} (h : a ∈ xs) : kRem (xs.map nE) [nE a] = some (.non, (xs.erase a).map nE) := by
  have h1 : (a : Int) ∈ xs.map fun k : Nat => (k : Int) := List.mem_map.mpr ⟨a, h, rfl⟩
  simp only [kRem, intsD_nat, h1, if_true, erase_cast, List.map_map]
  rfl
theorem rlD_nat {n : Nat} (h : n ≤ 16777216) : rlD [.int (n : Int)] = some (lN (List.range n)) := by rw [rlD, rangeD_nat h]; rfl
theorem rtD_nat {n : Nat} (h : n ≤ 16777216) : rtD [.int (n : Int)] = some (tN (List.range n)) := by rw [rtD, rangeD_nat h]; rfl
theorem truth_list {α : Type} {e : α → D} {xs : List α} : truthD (.lst (xs.map e)) = some (!xs.isEmpty) := by
  cases xs <;> rfl
theorem iw_rangeN {ρ : Rho} {ag : As} {Q : List D → Prop} (n : Nat) (h : Aw ag ρ fun ds => ds = [.int (n : Int)] ∧ n ≤ 16777216 ∧ Q ((List.range n).map nE)) : Iw (iRange ag) ρ Q :=
  iw_range (h.mono fun ds ⟨e, hn, q⟩ => ⟨n, _, e, rangeD_nat hn, q⟩)
end Sv
namespace Sv
section
variable {Q : D → Prop}
theorem o_addI {x y : Int} (q : Q (.int (x + y))) : OrW (opAdd (.int x) (.int y)) Q := .of rfl q
theorem o_subI {x y : Int} (q : Q (.int (x - y))) : OrW (opSub (.int x) (.int y)) Q := .of rfl q
theorem o_tupL {xs : List D} (q : Q (.tup xs)) : OrW (tupleD [.lst xs]) Q := .of rfl q
theorem o_tupT {xs : List D} (q : Q (.tup xs)) : OrW (tupleD [.tup xs]) Q := .of rfl q
theorem o_listL {xs : List D} (q : Q (.lst xs)) : OrW (listD [.lst xs]) Q := .of rfl q
theorem o_listT {xs : List D} (q : Q (.lst xs)) : OrW (listD [.tup xs]) Q := .of rfl q
theorem o_negI {x : Int} (q : Q (.int (-x))) : OrW (opNeg (.int x)) Q := .of rfl q
theorem o_intI {x : Int} (q : Q (.int x)) : OrW (intD [.int x]) Q := .of rfl q
theorem o_addT {xs ys : List D} (h : xs.length + ys.length ≤ PySem.sizeLine) (q : Q (.tup (xs ++ ys))) : OrW (opAdd (.tup xs) (.tup ys)) Q := .of (by simp only [opAdd, h, if_true]) q
theorem o_addL {xs ys : List D} (h : xs.length + ys.length ≤ PySem.sizeLine) (q : Q (.lst (xs ++ ys))) : OrW (opAdd (.lst xs) (.lst ys)) Q := .of (by simp only [opAdd, h, if_true]) q
end
end Sv
namespace Sv
/-! ### forms at hand -/
theorem o_slT {Q : D → Prop} {xs : List D} {lo hi : Option Int} (q : Q (.tup (cutD xs lo hi))) : OrW (sliceD (.tup xs) lo hi) Q := .of rfl q
theorem o_slL {Q : D → Prop} {xs : List D} {lo hi : Option Int} (q : Q (.lst (cutD xs lo hi))) : OrW (sliceD (.lst xs) lo hi) Q := .of rfl q
theorem o_revT {Q : D → Prop} {xs : List D} (q : Q (.tup xs.reverse)) : OrW (revD (.tup xs)) Q := .of rfl q
theorem o_revL {Q : D → Prop} {xs : List D} (q : Q (.lst xs.reverse)) : OrW (revD (.lst xs)) Q := .of rfl q
theorem x_int {Q : Int → Prop} {j : Int} (q : Q j) : ∃ i, D.int j = .int i ∧ Q i := ⟨j, rfl, q⟩
theorem x_bl {Q : Bool → Prop} {j : Bool} (q : Q j) : ∃ i, D.bl j = .bl i ∧ Q i := ⟨j, rfl, q⟩
theorem x_tb {Q : Bool → Prop} {j : Bool} (q : Q j) : ∃ i, truthD (.bl j) = some i ∧ Q i := ⟨j, rfl, q⟩
theorem x_itT {Q : List D → Prop} {j : List D} (q : Q j) : ∃ i, itemsD (.tup j) = some i ∧ Q i := ⟨j, rfl, q⟩
theorem x_itL {Q : List D → Prop} {j : List D} (q : Q j) : ∃ i, itemsD (.lst j) = some i ∧ Q i := ⟨j, rfl, q⟩
theorem x_rt {Q : D → Prop} {j : D} (q : Q j) : ∃ i, Fl.rt j = .rt i ∧ Q i := ⟨j, rfl, q⟩
theorem x_chB {Q : Bool → Prop} {j : Bool} (q : Q j) : ∃ k, some (D.bl j) = some (.bl k) ∧ Q k := ⟨j, rfl, q⟩
theorem x_isNone {Q : D → Prop} {d : D} (q : Q (.bl (decide (d = .non)))) (h : ∀ n, d ≠ .tok n) : OrW (opIsN2 d .non) Q := by
  cases d with
  | tok n => exact absurd rfl (h n)
  | _ => exact ⟨_, rfl, by simpa using q⟩
end Sv

set_option maxHeartbeats 1000000
/-! Pl3: the defs that many laws share. -/
namespace Sv
open PySem (Str PyData)
local macro_rules | `(tactic| walk_at "w") => `(tactic| (repeat' (first | with_reducible (first | refine sw_seq ?_ | refine sw_set ?_ | refine sw_new ?_ | refine sw_asg ?_ | refine sw_rt ?_ | refine sw_ret ?_ | refine sw_if ?_ | refine sw_par ?_ | refine sw_nx ?_ | refine sw_exprM ?_ | refine kw_nil ?_ | refine kw_frz ?_ | refine kw_new ?_ | refine ew_con ?_ | refine ew_bin ?_ | refine ew_un ?_ | refine ew_tup ?_ | refine ew_lst ?_ | refine ew_fn ?_ | refine ew_call ?_ | refine ew_callO ?_ | refine ew_if ?_ | refine ew_not ?_ | refine ew_chain ?_ | refine ew_slice ?_ | refine ow_none ?_ | refine ow_some ?_ | refine tw_bl ?_ | refine tw_of ?_ | refine tw_not ?_ | refine tw_yes ?_ | refine aw_nil ?_ | refine aw_cons ?_ | refine iw_seq ?_ | refine iw_enum ?_ | refine iw_zip ?_) | refine ew_var rfl ?_ | refine ew_bor rfl ?_ | refine ew_borO rfl ?_ | refine o_eqI ?_ | refine o_neI ?_ | refine o_lt ?_ | refine o_gt ?_ | refine o_le ?_ | refine o_ge ?_ | refine o_all ?_ | refine o_any ?_ | refine o_sum ?_ | refine o_addI ?_ | refine o_subI ?_ | refine o_lenT ?_ | refine o_lenL ?_ | refine o_tupL ?_ | refine o_tupT ?_ | refine o_listL ?_ | refine o_listT ?_ | refine o_negI ?_ | refine o_intI ?_ | refine o_slT ?_ | refine o_slL ?_ | refine o_revT ?_ | refine o_revL ?_ | refine x_int ?_ | refine x_bl ?_ | refine x_tb ?_ | refine x_itT ?_ | refine x_itL ?_ | refine x_rt ?_)))
mutual
/-- good data -/
def gd : D → Bool
  | .non => true
  | .bl _ => true
  | .int _ => true
  | .str s => s.cps.all (· < 0x110000)
  | .tup xs => decide (xs.length ≤ 1000000) && gdL xs
  | .lst xs => decide (xs.length ≤ 1000000) && gdL xs
  | .dct _ => false
  | .tok _ => false
def gdL : List D → Bool
  | [] => true
  | d :: ds => gd d && gdL ds
end
theorem gdL_iff : ∀ {ds : List D}, gdL ds = true ↔ ∀ d ∈ ds, gd d = true
  | [] => by simp [gdL]
  | d :: ds => by rw [gdL, Bool.and_eq_true, gdL_iff]; simp
mutual
theorem gd_plain : ∀ d : D, gd d = true → d.plain = true
  | .non, _ => rfl
  | .bl _, _ => rfl
  | .int _, _ => rfl
  | .str s, h => by simpa [gd, D.plain] using h
  | .tup xs, h => by
    simp only [gd, Bool.and_eq_true] at h
    simp only [D.plain]
    exact gdL_plain xs h.2
  | .lst xs, h => by
    simp only [gd, Bool.and_eq_true] at h
    simp only [D.plain]
    exact gdL_plain xs h.2
  | .dct _, h => by simp [gd] at h
  | .tok _, h => by simp [gd] at h
theorem gdL_plain : ∀ d : List D, gdL d = true → D.plainL d = true
  | [], _ => rfl
  | d :: ds, h => by
    rw [gdL, Bool.and_eq_true] at h
    rw [D.plainL, gd_plain d h.1, gdL_plain ds h.2]; rfl
end
theorem gd_tup {xs : List D} : gd (.tup xs) = true ↔ xs.length ≤ 1000000 ∧ ∀ d ∈ xs, gd d = true := by
  rw [gd, Bool.and_eq_true, gdL_iff, decide_eq_true_iff]
theorem gd_lst {xs : List D} : gd (.lst xs) = true ↔ xs.length ≤ 1000000 ∧ ∀ d ∈ xs, gd d = true := by
  rw [gd, Bool.and_eq_true, gdL_iff, decide_eq_true_iff]
theorem gd_map {α : Type} {e : α → D} {xs : List α} (hn : xs.length ≤ 1000000) (h : ∀ x ∈ xs, gd (e x) = true) : gd (.tup (xs.map e)) = true := by
  rw [gd_tup, List.length_map]
  refine ⟨hn, fun d hd => ?_⟩
  obtain ⟨x, hx, rfl⟩ := List.mem_map.mp hd
  exact h x hx
theorem dep_tup {xs : List D} {n : Nat} (h : ∀ d ∈ xs, d.dep ≤ n) : (D.tup xs).dep ≤ n + 1 := by
  simp only [D.dep]; exact Nat.succ_le_succ (depL_le.mpr h)
theorem dep_mem {xs : List D} {d : D} (h : d ∈ xs) : d.dep < (D.tup xs).dep := by
  simp only [D.dep]
  exact Nat.lt_succ_of_le (depL_le.mp (Nat.le_refl _) d h)
theorem dep_memL {xs : List D} {d : D} (h : d ∈ xs) : d.dep < (D.lst xs).dep := by
  simp only [D.dep]
  exact Nat.lt_succ_of_le (depL_le.mp (Nat.le_refl _) d h)
theorem dep_map {α : Type} {e : α → D} {xs : List α} {n : Nat} (h : ∀ x ∈ xs, (e x).dep ≤ n) : (D.tup (xs.map e)).dep ≤ n + 1 :=
  dep_tup fun d hd => by obtain ⟨x, hx, rfl⟩ := List.mem_map.mp hd; exact h x hx

/-! ### is_number -/
abbrev s_is_number : SS := sRet (eAnd (eUn (fun d => (isT d .int).map .bl) (eBor 0)) (eAnd (eNot (eUn (fun d => (isT d .bool).map .bl) (eBor 0))) (eChain opLe opLe (eBor 1) (eBor 0) (eBor 2))))
def numB (v : D) (lo hi : Int) : Bool := match v with
  | .int i => decide (lo ≤ i ∧ i ≤ hi)
  | _ => false
theorem w_is_number {v : D} {lo hi : Int} {Q : D → Prop} (hv : v.plain = true) (q : Q (.bl (numB v lo hi))) : Fw (runF 3 s_is_number) [v, .int lo, .int hi] Q := by
  refine fw_rt ?_
  unfold s_is_number
  walk_at "w"
  refine ew_and ?_
  walk_at "w"
  cases v with
  | int i =>
    refine ⟨_, rfl, _, rfl, fun _ => ?_, fun e => by cases e⟩
    refine ew_and ?_
    walk_at "w"
    refine ⟨_, rfl, _, rfl, _, rfl, fun _ => ?_, fun e => by cases e⟩
    walk_at "w"
    refine ⟨_, by show some (D.bl (!decide (i < lo))) = some (D.bl _); rfl, fun e => ?_, fun e => ?_⟩
    · have : lo ≤ i := by simpa using e
      walk_at "w"
      have hb : numB (.int i) lo hi = decide (i ≤ hi) := by simp [numB, this]
      rw [hb] at q; exact q
    · have : ¬ lo ≤ i := by simpa using e
      have hb : numB (.int i) lo hi = false := by simp [numB, this]
      rw [hb] at q; exact q
  | bl k =>
    refine ⟨_, rfl, _, rfl, fun _ => ?_, fun e => by cases e⟩
    refine ew_and ?_
    walk_at "w"
    exact ⟨_, rfl, _, rfl, _, rfl, (fun e => by cases e), fun _ => q⟩
  | non => exact ⟨_, rfl, _, rfl, (fun e => by cases e), fun _ => q⟩
  | str _ => exact ⟨_, rfl, _, rfl, (fun e => by cases e), fun _ => q⟩
  | tup _ => exact ⟨_, rfl, _, rfl, (fun e => by cases e), fun _ => q⟩
  | lst _ => exact ⟨_, rfl, _, rfl, (fun e => by cases e), fun _ => q⟩
  | dct _ => cases hv
  | tok _ => cases hv
/-! ### _law_same -/
abbrev s_same (rec : Fn) : SS := sSeq (sIf (tOr (tAnd (tOf (eUn (fun d => (isT d .tuple).map .bl) (eBor 0))) (tOf (eUn (fun d => (isT d .tuple).map .bl) (eBor 1)))) (tAnd (tOf (eUn (fun d => (isT d .list).map .bl) (eBor 0))) (tOf (eUn (fun d => (isT d .list).map .bl) (eBor 1))))) (sRet (eAnd (eBin opEq (eFn lenD (aCons (eBor 0) aNil)) (eFn lenD (aCons (eBor 1) aNil))) (eFn allD (aCons (eLc (iRange (aCons (eFn lenD (aCons (eBor 0) aNil)) (aNil))) (gNm 2) (tYes') (eCall rec (aCons (eBin ixD (eBor 0) (eVar 2)) (aCons (eBin ixD (eBor 1) (eVar 2)) (aNil)))) [2]) aNil)))) (sNx)) (sSeq (sIf (tOr (tOf (eUn (fun d => (isT d .bool).map .bl) (eBor 0))) (tOf (eUn (fun d => (isT d .bool).map .bl) (eBor 1)))) (sRet (eAnd (eUn (fun d => (isT d .bool).map .bl) (eBor 0)) (eAnd (eUn (fun d => (isT d .bool).map .bl) (eBor 1)) (eBin opEq (eBor 0) (eBor 1))))) (sNx)) (sSeq (sIf (tOr (tAnd (tOf (eUn (fun d => (isT d .int).map .bl) (eBor 0))) (tOf (eUn (fun d => (isT d .int).map .bl) (eBor 1)))) (tAnd (tOf (eUn (fun d => (isT d .str).map .bl) (eBor 0))) (tOf (eUn (fun d => (isT d .str).map .bl) (eBor 1))))) (sRet (eBin opEq (eBor 0) (eBor 1))) (sNx)) (sRet (eAnd (eBin opIsN2 (eBor 0) (eCon .non)) (eBin opIsN2 (eBor 1) (eCon .non))))))
def f_same : Nat → Fn
  | 0 => noFn
  | n + 1 => runF 3 (s_same (f_same n))
theorem eq_get {xs ys : List D} (h : xs.length = ys.length) : decide (xs = ys) = (List.range xs.length).all fun k => decide (xs.getD k .non = ys.getD k .non) := by
  rw [Bool.eq_iff_iff]
  simp only [decide_eq_true_iff, List.all_eq_true, List.mem_range]
  refine ⟨fun e k _ => by rw [e], fun e => List.ext_getElem h fun k h1 h2 => ?_⟩
  have := e k h1
  rw [List.getD_eq_getElem?_getD, List.getD_eq_getElem?_getD, List.getElem?_eq_getElem h1, List.getElem?_eq_getElem h2] at this
  exact this
theorem w_same_items {rec : Fn} {xs ys : List D} {Q : D → Prop} {ρ : Rho} {w : List D → D} (hw0 : (w xs = .tup xs ∧ w ys = .tup ys) ∨ (w xs = .lst xs ∧ w ys = .lst ys)) (e0 : ρ = [Sl.frz (w xs), .frz (w ys), .emp]) (hx : xs.length ≤ 1000000)
    (hr : ∀ k, k < xs.length → ∀ R : D → Prop, xs.length = ys.length → R (.bl (decide (xs.getD k .non = ys.getD k .non))) → Fw rec [xs.getD k .non, ys.getD k .non] R) (q : Q (.bl (decide (xs = ys)))) :
    Ew (eAnd (eBin opEq (eFn lenD (aCons (eBor 0) aNil)) (eFn lenD (aCons (eBor 1) aNil))) (eFn allD (aCons (eLc (iRange (aCons (eFn lenD (aCons (eBor 0) aNil)) (aNil))) (gNm 2) (tYes') (eCall rec (aCons (eBin ixD (eBor 0) (eVar 2)) (aCons (eBin ixD (eBor 1) (eVar 2)) (aNil)))) [2]) aNil))) ρ Q := by
  subst e0
  have hlen : ∀ zs : List D, (w zs = .tup zs ∨ w zs = .lst zs) → lenD [w zs] = some (.int zs.length) := fun zs h => by rcases h with h | h <;> rw [h] <;> rfl
  have hix : ∀ zs : List D, (w zs = .tup zs ∨ w zs = .lst zs) → ∀ k : Nat, k < zs.length → ixD (w zs) (.int (k : Nat)) = some (zs.getD k .non) := fun zs h k hk => by
    have : L2.atI zs (k : Int) = some (zs.getD k .non) := by rw [atI_nat, List.getD_eq_getElem?_getD, List.getElem?_eq_getElem hk]; rfl
    rcases h with h | h <;> rw [h] <;> exact this
  have hwx : w xs = .tup xs ∨ w xs = .lst xs := by rcases hw0 with h | h; exact .inl h.1; exact .inr h.1
  have hwy : w ys = .tup ys ∨ w ys = .lst ys := by rcases hw0 with h | h; exact .inl h.2; exact .inr h.2
  refine ew_andB (x := decide (xs.length = ys.length)) (y := decide (xs = ys)) ?_ (fun e => ?_) ?_
  · walk_at "w"
    refine ⟨_, hlen xs hwx, ?_⟩
    walk_at "w"
    refine ⟨_, hlen ys hwy, ?_⟩
    walk_at "w"
    by_cases h : xs.length = ys.length
    · simp [h]
    · have : ¬ (xs.length : Int) = ys.length := by omega
      simp [h, this]
  · have hl : xs.length = ys.length := by simpa using e
    walk_at "w"
    refine ew_lcM (List.range xs.length) nE (fun k => .bl (decide (xs.getD k .non = ys.getD k .non))) ?_ ?_ ?_
    · refine iw_rangeN xs.length ?_
      walk_at "w"
      exact ⟨_, hlen xs hwx, aw_nil ⟨rfl, by omega, rfl⟩⟩
    · intro k hk
      refine ⟨_, rfl, ?_⟩
      have hk := List.mem_range.mp hk
      walk_at "w"
      refine ⟨_, hix xs hwx k hk, ?_⟩
      walk_at "w"
      refine ⟨_, hix ys hwy k (by omega), ?_⟩
      walk_at "w"
      exact hr k hk _ hl rfl
    · walk_at "w"
      rw [eq_get hl]
  · by_cases h : xs.length = ys.length
    · simpa [h] using q
    · have : ¬ xs = ys := fun z => h (by rw [z])
      simpa [h, this] using q
theorem sm_gd {d : D} (h : gd d = true) (hd : d.dep ≤ 50) : d.sm = true := sm_of (gd_plain d h) hd
theorem getD_mem {xs : List D} {k : Nat} (h : k < xs.length) : xs.getD k .non ∈ xs := by
  rw [List.getD_eq_getElem?_getD, List.getElem?_eq_getElem h]; exact List.getElem_mem h
theorem w_same : ∀ (n : Nat) {a b : D} {Q : D → Prop}, gd a = true → gd b = true → a.dep < n → Q (.bl (decide (a = b))) → Fw (f_same n) [a, b] Q
  | 0, _, _, _, _, _, h, _ => absurd h (by omega)
  | n + 1, a, b, Q, ga, gb, hd, q => by
    show Fw (runF 3 (s_same (f_same n))) [a, b] Q
    cases a with
    | dct _ => cases ga
    | tok _ => cases ga
    | non =>
      cases b with
      | dct _ => cases gb
      | tok _ => cases gb
      | non => exact fun bx => ⟨_, bx, rfl, q⟩
      | _ => exact fun bx => ⟨.bl false, bx, rfl, by simpa using q⟩
    | bl x =>
      cases b with
      | dct _ => cases gb
      | tok _ => cases gb
      | bl y =>
        have e : PyData.eqv (D.bl x).py (D.bl y).py = decide (D.bl x = D.bl y) := by
          simp only [D.py, PyData.eqv]; cases x <;> cases y <;> simp
        exact fun bx => ⟨.bl (PyData.eqv (D.bl x).py (D.bl y).py), bx, rfl, by rw [e]; exact q⟩
      | _ => exact fun bx => ⟨.bl false, bx, rfl, by simpa using q⟩
    | int x =>
      cases b with
      | dct _ => cases gb
      | tok _ => cases gb
      | int y =>
        have e : PyData.eqv (D.int x).py (D.int y).py = decide (D.int x = D.int y) := by
          simp only [D.py, PyData.eqv]; by_cases h : x = y <;> simp [h]
        exact fun bx => ⟨.bl (PyData.eqv (D.int x).py (D.int y).py), bx, rfl, by rw [e]; exact q⟩
      | _ => exact fun bx => ⟨.bl false, bx, rfl, by simpa using q⟩
    | str x =>
      cases b with
      | dct _ => cases gb
      | tok _ => cases gb
      | str y =>
        have e : opEq (.str x) (.str y) = some (.bl (decide (D.str x = D.str y))) := by
          simp only [opEq, eqD, sm_gd ga (by simp [D.dep]), sm_gd gb (by simp [D.dep]), and_self, if_true, Option.map_some, D.py, PyData.eqv]
          by_cases h : x = y
          · simp [h]
          · simp [h]
        refine fw_rt (sw_seq (sw_if (Tw.mono (Q := fun k => k = false) (fun bx => ⟨false, bx, rfl, rfl⟩) fun k ek => ⟨fun z => (by rw [ek] at z; cases z), fun _ => sw_nx ?_⟩)))
        refine sw_seq (sw_if (Tw.mono (Q := fun k => k = false) (fun bx => ⟨false, bx, rfl, rfl⟩) fun k ek => ⟨fun z => (by rw [ek] at z; cases z), fun _ => sw_nx ?_⟩))
        refine sw_seq (sw_if (Tw.mono (Q := fun k => k = true) (fun bx => ⟨true, bx, rfl, rfl⟩) fun k ek => ⟨fun _ => sw_ret ?_, fun z => (by rw [ek] at z; cases z)⟩))
        walk_at "w"
        exact ⟨_, e, _, rfl, q⟩
      | _ => exact fun bx => ⟨.bl false, bx, rfl, by simpa using q⟩
    | tup xs =>
      cases b with
      | dct _ => cases gb
      | tok _ => cases gb
      | tup ys =>
        rw [gd_tup] at ga gb
        refine fw_rt (sw_seq (sw_if (tw_orB (x := true) (y := true) ?_ (fun e => by cases e) ⟨fun _ => sw_ret ?_, fun e => by cases e⟩)))
        · exact fun bx => ⟨true, bx, rfl, rfl⟩
        · refine w_same_items (xs := xs) (ys := ys) (w := .tup) (.inl ⟨rfl, rfl⟩) rfl ga.1 (fun k hk R hl hR => ?_) ?_
          · have hm := getD_mem hk
            exact w_same n (ga.2 _ hm) (gb.2 _ (getD_mem (by omega))) (by have := dep_mem hm; omega) hR
          · refine ⟨_, rfl, ?_⟩
            have : decide (D.tup xs = D.tup ys) = decide (xs = ys) := by simp
            rw [this] at q; exact q
      | _ => exact fun bx => ⟨.bl false, bx, rfl, by simpa using q⟩
    | lst xs =>
      cases b with
      | dct _ => cases gb
      | tok _ => cases gb
      | lst ys =>
        rw [gd_lst] at ga gb
        refine fw_rt (sw_seq (sw_if (tw_orB (x := false) (y := true) ?_ (fun _ => ?_) ⟨fun _ => sw_ret ?_, fun e => by cases e⟩)))
        · exact fun bx => ⟨false, bx, rfl, rfl⟩
        · exact fun bx => ⟨true, bx, rfl, rfl⟩
        · refine w_same_items (xs := xs) (ys := ys) (w := .lst) (.inr ⟨rfl, rfl⟩) rfl ga.1 (fun k hk R hl hR => ?_) ?_
          · have hm := getD_mem hk
            exact w_same n (ga.2 _ hm) (gb.2 _ (getD_mem (by omega))) (by have := dep_memL hm; omega) hR
          · refine ⟨_, rfl, ?_⟩
            have : decide (D.lst xs = D.lst ys) = decide (xs = ys) := by simp
            rw [this] at q; exact q
      | _ => exact fun bx => ⟨.bl false, bx, rfl, by simpa using q⟩

/-! ### _law_bent -/
abbrev s_bent2 : SS := sSeq (sSet 2 (eCall drawF (aCons (eVar 0) (aCons (eCon (.int 8)) (aNil))))) (sSeq (sIf (tOf (eUn (fun d => (isT d .tuple).map .bl) (eBor 1))) (sRet (eBin ixD (eLst (aCons (eBin opAdd (eBor 1) (eSlice (eBor 1) none (some (eCon (.int 1))))) (aCons (eSlice (eBor 1) (some (eCon (.int 1))) none) (aCons (eUn revD (eBor 1)) (aCons (eBin opAdd (eBor 1) (eTup (aCons (eCon (.int 0)) (aNil)))) (aCons (eTup (aCons (eVar 1) (aNil))) (aCons (eSlice (eBor 1) none (some (eUn opNeg (eCon (.int 1))))) (aCons (eCon .non) (aCons (eBin opAdd (eBor 1) (eTup (aCons (eTup (aCons (eCon (.int 0)) (aCons (eCon (.int 1)) (aNil)))) (aNil)))) (aNil)))))))))) (eVar 2))) (sNx)) (sSeq (sIf (tAnd (tOf (eUn (fun d => (isT d .int).map .bl) (eBor 1))) (tNot (tOf (eUn (fun d => (isT d .bool).map .bl) (eBor 1))))) (sRet (eBin ixD (eLst (aCons (eBin opAdd (eBor 1) (eCon (.int 1))) (aCons (eBin opSub (eBor 1) (eCon (.int 1))) (aCons (eCon (.int 0)) (aCons (eBin opEq (eBor 1) (eCon (.int 1))) (aCons (eCon .non) (aCons (eFn strD (aCons (eBor 1) aNil)) (aCons (eTup (aCons (eVar 1) (aNil))) (aCons (eBin opAdd (eBor 1) (eCon (.int 2))) (aNil)))))))))) (eVar 2))) (sNx)) (sSeq (sIf (tOf (eUn (fun d => (isT d .str).map .bl) (eBor 1))) (sRet (eBin ixD (eLst (aCons (eBin opAdd (eBor 1) (eCon (.str "s"))) (aCons (eSlice (eBor 1) (some (eCon (.int 1))) none) (aCons (eCon (.str "jump")) (aCons (eCon (.str "open")) (aCons (eCon (.int 0)) (aCons (eCon .non) (aCons (eCon (.str "")) (aCons (eCon (.str "bent")) (aNil)))))))))) (eVar 2))) (sNx)) (sRet (eBin ixD (eLst (aCons (eCon (.int 0)) (aCons (eCon (.int 1)) (aCons (eCon .non) (aCons (eCon (.bl true)) (aCons (eCon (.str "a")) (aCons (eTup (aNil)) (aCons (eTup (aCons (eCon (.int 0)) (aNil))) (aCons (eCon (.str "point")) (aNil)))))))))) (eVar 2))))))
abbrev s_bent (rec : Fn) : SS := sSeq (sIf (tAnd (tOf (eUn (fun d => (isT d .tuple).map .bl) (eBor 1))) (tAnd (tBl (eBin opGt (eFn lenD (aCons (eBor 1) aNil)) (eCon (.int 0)))) (tBl (eBin opGt (eCall drawF (aCons (eVar 0) (aCons (eCon (.int 5)) (aNil)))) (eCon (.int 0)))))) (sSeq (sSet 3 (eCall drawF (aCons (eVar 0) (aCons (eFn lenD (aCons (eBor 1) aNil)) (aNil))))) (sRet (eBin opAdd (eBin opAdd (eSlice (eBor 1) none (some (eVar 3))) (eTup (aCons (eCall rec (aCons (eVar 0) (aCons (eBin ixD (eBor 1) (eVar 3)) (aNil)))) (aNil)))) (eSlice (eBor 1) (some (eBin opAdd (eBor 3) (eCon (.int 1)))) none)))) (sNx)) s_bent2
def f_bent : Nat → Fn
  | 0 => noFn
  | n + 1 => runF 4 (s_bent (f_bent n))
mutual
/-- what may be bent -/
def bs : D → Bool
  | .non => true
  | .bl _ => true
  | .int i => decide (i.natAbs ≤ 1000000000)
  | .str s => decide (s.length ≤ 1000) && s.cps.all (· < 0x110000)
  | .tup xs => decide (xs.length ≤ 1000) && bsL xs
  | _ => false
def bsL : List D → Bool
  | [] => true
  | d :: ds => bs d && bsL ds
end
theorem bsL_iff : ∀ {ds : List D}, bsL ds = true ↔ ∀ d ∈ ds, bs d = true
  | [] => by simp [bsL]
  | d :: ds => by rw [bsL, Bool.and_eq_true, bsL_iff]; simp
theorem bs_tup {xs : List D} : bs (.tup xs) = true ↔ xs.length ≤ 1000 ∧ ∀ d ∈ xs, bs d = true := by
  rw [bs, Bool.and_eq_true, bsL_iff, decide_eq_true_iff]
theorem bs_map {α : Type} {e : α → D} {xs : List α} (hn : xs.length ≤ 1000) (h : ∀ x ∈ xs, bs (e x) = true) : bs (.tup (xs.map e)) = true := by
  rw [bs_tup, List.length_map]
  refine ⟨hn, fun d hd => ?_⟩
  obtain ⟨x, hx, rfl⟩ := List.mem_map.mp hd
  exact h x hx
mutual
theorem bs_gd : ∀ d : D, bs d = true → gd d = true
  | .non, _ => rfl
  | .bl _, _ => rfl
  | .int _, _ => rfl
  | .str s, h => by simp only [bs, Bool.and_eq_true] at h; simpa [gd] using h.2
  | .tup xs, h => by
    simp only [bs, Bool.and_eq_true, decide_eq_true_iff] at h
    simp only [gd, Bool.and_eq_true, decide_eq_true_iff]
    exact ⟨by omega, bsL_gd xs h.2⟩
  | .lst _, h => by simp [bs] at h
  | .dct _, h => by simp [bs] at h
  | .tok _, h => by simp [bs] at h
theorem bsL_gd : ∀ d : List D, bsL d = true → gdL d = true
  | [], _ => rfl
  | d :: ds, h => by
    rw [bsL, Bool.and_eq_true] at h
    rw [gdL, bs_gd d h.1, bsL_gd ds h.2]; rfl
end
/-- one of a written list -/
theorem o_pick {xs : List D} {i : Int} {Q : D → Prop} (h0 : 0 ≤ i) (h1 : i < xs.length) (q : ∀ x ∈ xs, Q x) : OrW (ixD (.lst xs) (.int i)) Q := by
  have h : i.toNat < xs.length := by omega
  refine .of (r := xs[i.toNat]) ?_ (q _ (List.getElem_mem h))
  rw [ixD, atI_pos h0, List.getElem?_eq_getElem h]
theorem gd_str {z : Str} : gd (.str z) = true ↔ ∀ c ∈ z.cps.toList, c < 0x110000 := by
  simp only [gd, ← Array.all_toList, List.all_eq_true, decide_eq_true_iff]
theorem gd_lit (x : String) : gd (.str x) = true := by
  rw [gd_str]
  intro c hc
  have e : (x : Str) = ⟨(x.toList.map Char.toNat).toArray⟩ := PySem.Str.ofString_eq_toList x
  rw [e] at hc
  obtain ⟨d, _, rfl⟩ := List.mem_map.mp (by simpa using hc)
  have := d.valid
  show d.val.toNat < _
  rcases this with h | h
  · have : d.val.toNat < 0xd800 := h
    omega
  · exact h.2
theorem gd_app {x y : Str} (hx : gd (.str x) = true) (hy : gd (.str y) = true) : gd (.str (x ++ y)) = true := by
  rw [gd_str] at hx hy ⊢
  intro c hc
  have e : (x ++ y).cps.toList = x.cps.toList ++ y.cps.toList := by
    show (x.cps ++ y.cps).toList = _
    simp
  rw [e, List.mem_append] at hc
  rcases hc with h | h
  · exact hx c h
  · exact hy c h
theorem gd_cut {x : Str} (hx : gd (.str x) = true) (lo hi : Option Int) : gd (.str (L2.cutS x lo hi)) = true := by
  rw [gd_str] at hx ⊢
  intro c hc
  have e : (L2.cutS x lo hi).cps.toList = ((x.cps.toList.drop (HT.sIx x.length 0 lo)).take (HT.sIx x.length x.length hi - HT.sIx x.length 0 lo)) := by simp [L2.cutS]
  rw [e] at hc
  exact hx c (List.mem_of_mem_drop (List.mem_of_mem_take hc))
theorem cutD_sub {xs : List D} {lo hi : Option Int} : ∀ d ∈ cutD xs lo hi, d ∈ xs := fun d h => List.mem_of_mem_drop (List.mem_of_mem_take h)
theorem cutD_len (xs : List D) (lo hi : Option Int) : (cutD xs lo hi).length ≤ xs.length := by
  unfold cutD
  rw [List.length_take, List.length_drop]
  omega
theorem gd_cutD {xs : List D} {lo hi : Option Int} (h : gd (.tup xs) = true) : gd (.tup (cutD xs lo hi)) = true := by
  rw [gd_tup] at h ⊢
  exact ⟨Nat.le_trans (cutD_len _ _ _) h.1, fun d hd => h.2 d (cutD_sub d hd)⟩
theorem gd_appT {xs ys : List D} (hx : ∀ d ∈ xs, gd d = true) (hy : ∀ d ∈ ys, gd d = true) (hn : xs.length + ys.length ≤ 1000000) : gd (.tup (xs ++ ys)) = true := by
  rw [gd_tup, List.length_append]
  refine ⟨hn, fun d hd => ?_⟩
  rcases List.mem_append.mp hd with h | h
  · exact hx d h
  · exact hy d h
theorem dep_sub {xs ys : List D} (h : ∀ d ∈ xs, d ∈ ys) : (D.tup xs).dep ≤ (D.tup ys).dep := by
  simp only [D.dep]
  exact Nat.succ_le_succ (depL_le.mpr fun d hd => depL_le.mp (Nat.le_refl _) d (h d hd))
theorem depL_app {xs ys : List D} {n : Nat} (h1 : D.depL xs ≤ n) (h2 : D.depL ys ≤ n) : D.depL (xs ++ ys) ≤ n := by
  rw [depL_le] at h1 h2 ⊢
  intro d hd
  rcases List.mem_append.mp hd with h | h
  · exact h1 d h
  · exact h2 d h
theorem depL_sub {xs ys : List D} (h : ∀ d ∈ xs, d ∈ ys) : D.depL xs ≤ D.depL ys := depL_le.mpr fun d hd => depL_le.mp (Nat.le_refl _) d (h d hd)
/-- bent data: good, not much deeper, not much longer -/
def Bt (v w : D) : Prop := gd w = true ∧ w.dep ≤ v.dep + 2
theorem w_bent : ∀ (n : Nat) {v : D} {Q : D → Prop}, bs v = true → v.dep < n → (∀ w, Bt v w → Q w) → Fw (f_bent n) [.tok 0, v] Q
  | 0, _, _, _, h, _ => absurd h (by omega)
  | n + 1, v, Q, hv, hd, q => by
    show Fw (runF 4 (s_bent (f_bent n))) [.tok 0, v] Q
    refine fw_rt ?_
    have hs8 : ∀ (R : D → Prop), (∀ i : Int, 0 ≤ i → i < 8 → R (.int i)) → Fw drawF [.tok 0, .int 8] R := fun R h => fw_draw (by decide) (by decide) h
    cases v with
    | dct _ => cases hv
    | tok _ => cases hv
    | lst _ => cases hv
    | tup xs =>
      rw [bs_tup] at hv
      have hg : ∀ d ∈ xs, gd d = true := fun d hd => bs_gd d (hv.2 d hd)
      have hgt : gd (.tup xs) = true := gd_tup.mpr ⟨by omega, hg⟩
      have hcl : ∀ lo hi, (cutD xs lo hi).length ≤ 1000 := fun lo hi => Nat.le_trans (cutD_len _ _ _) hv.1
      have hcd : ∀ lo hi, D.depL (cutD xs lo hi) ≤ D.depL xs := fun lo hi => depL_sub cutD_sub
      have hsz : (1000000 : Nat) ≤ PySem.sizeLine := by rw [PySem.sizeLine_eq]; omega
      refine sw_seq (sw_if (tw_and (Tw.mono (Q := fun k => k = true) (fun bx => ⟨true, bx, rfl, rfl⟩) fun k ek => ⟨fun _ => ?_, fun z => (by rw [ek] at z; cases z)⟩)))
      have last : ∀ (ρ1 : Rho), ρ1 = [.frz (.tok 0), .frz (.tup xs), .emp, .emp] → Sw s_bent2 ρ1 (RtQ Q) := fun ρ1 e1 => by
        subst e1
        refine sw_seq (sw_set (ew_call (aw_cons (ew_var rfl (aw_cons (ew_con (aw_nil (hs8 _ fun i h0 h1 => ?_))))))))
        refine sw_seq (sw_if (Tw.mono (Q := fun k => k = true) (fun bx => ⟨true, bx, rfl, rfl⟩) fun k ek => ⟨fun _ => ?_, fun z => (by rw [ek] at z; cases z)⟩))
        have hc1 := hcl none (some 1)
        have hd1 := hcd none (some 1)
        walk_at "w"
        refine o_addT (by omega) ?_
        walk_at "w"
        refine o_addT (by simp only [List.length_cons, List.length_nil]; omega) ?_
        walk_at "w"
        refine o_addT (by simp only [List.length_cons, List.length_nil]; omega) ?_
        walk_at "w"
        refine o_pick h0 h1 fun x hx => ⟨_, rfl, q x ?_⟩
        simp only [List.mem_cons, List.not_mem_nil, or_false] at hx
        rcases hx with rfl | rfl | rfl | rfl | rfl | rfl | rfl | rfl
        · exact ⟨gd_appT hg (fun d hd => hg d (cutD_sub d hd)) (by omega), by simp only [D.dep]; have := depL_app (Nat.le_refl (D.depL xs)) hd1; omega⟩
        · exact ⟨gd_cutD hgt, by simp only [D.dep]; have := hcd (some 1) none; omega⟩
        · refine ⟨gd_tup.mpr ⟨by rw [List.length_reverse]; omega, fun d hd => hg d (List.mem_reverse.mp hd)⟩, ?_⟩
          simp only [D.dep]; have := depL_sub (xs := xs.reverse) (ys := xs) fun d hd => List.mem_reverse.mp hd; omega
        · refine ⟨gd_appT hg (fun d hd => by simp only [List.mem_cons, List.not_mem_nil, or_false] at hd; subst hd; rfl) (by simp only [List.length_cons, List.length_nil]; omega), ?_⟩
          simp only [D.dep]; have := depL_app (xs := xs) (ys := [.int 0]) (Nat.le_refl (D.depL xs)) (by simp [D.depL, D.dep]); omega
        · refine ⟨gd_tup.mpr ⟨by simp, fun d hd => by simp only [List.mem_cons, List.not_mem_nil, or_false] at hd; subst hd; exact hgt⟩, ?_⟩
          simp only [D.dep, D.depL]; omega
        · exact ⟨gd_cutD hgt, by simp only [D.dep]; have := hcd none (some (-1)); omega⟩
        · exact ⟨rfl, by simp [D.dep]⟩
        · refine ⟨gd_appT hg (fun d hd => by simp only [List.mem_cons, List.not_mem_nil, or_false] at hd; subst hd; rfl) (by simp only [List.length_cons, List.length_nil]; omega), ?_⟩
          simp only [D.dep]; have := depL_app (xs := xs) (ys := [.tup [.int 0, .int 1]]) (n := D.depL xs + 1) (by omega) (by simp [D.depL, D.dep]); omega
      refine tw_and ?_
      walk_at "w"
      refine ⟨fun e => ?_, fun _ => ⟨(fun z => by cases z), fun _ => sw_nx (last _ rfl)⟩⟩
      have hpos : 0 < xs.length := by have := of_decide_eq_true e; omega
      walk_at "w"
      refine fw_draw (by decide) (by decide) fun i0 h00 h01 => ?_
      walk_at "w"
      refine ⟨fun _ => ?_, fun _ => sw_nx (last _ rfl)⟩
      walk_at "w"
      refine fw_draw (n := (xs.length : Int)) (by omega) (by omega) fun at' h0 h1 => ?_
      have hat : at'.toNat < xs.length := by omega
      have hm : xs[at'.toNat] ∈ xs := List.getElem_mem hat
      walk_at "w"
      refine ⟨xs[at'.toNat], by rw [ixD, atI_pos h0, List.getElem?_eq_getElem hat], ?_⟩
      walk_at "w"
      refine w_bent n (hv.2 _ hm) (by have := dep_mem hm; omega) fun w hw => ?_
      have hc1 := hcl none (some at')
      have hc2 := hcl (some (at' + 1)) none
      have hdm := depL_le.mp (Nat.le_refl _) _ hm
      walk_at "w"
      refine o_addT (by simp only [List.length_cons, List.length_nil]; omega) ?_
      walk_at "w"
      refine o_addT (by simp only [List.length_append, List.length_cons, List.length_nil]; omega) ⟨_, rfl, q _ ⟨?_, ?_⟩⟩
      · refine gd_appT (fun d hd => ?_) (fun d hd => hg d (cutD_sub d hd)) (by simp only [List.length_append, List.length_cons, List.length_nil]; omega)
        rcases List.mem_append.mp hd with h | h
        · exact hg d (cutD_sub d h)
        · simp only [List.mem_cons, List.not_mem_nil, or_false] at h
          subst h; exact hw.1
      · have h1' := hcd none (some at')
        have h2' := hcd (some (at' + 1)) none
        have h3' : D.depL [w] ≤ D.depL xs + 2 := by have := hw.2; simp only [D.depL]; omega
        simp only [D.dep]
        have := depL_app (n := D.depL xs + 2) (depL_app (n := D.depL xs + 2) (by omega : D.depL (cutD xs none (some at')) ≤ _) h3') (by omega : D.depL (cutD xs (some (at' + 1)) none) ≤ _)
        omega
    | non =>
      refine sw_seq (sw_if (Tw.mono (Q := fun k => k = false) (fun bx => ⟨false, bx, rfl, rfl⟩) fun k ek => ⟨fun z => (by rw [ek] at z; cases z), fun _ => sw_nx ?_⟩))
      walk_at "w"
      refine hs8 _ fun i h0 h1 => ?_
      refine sw_seq (sw_if (Tw.mono (Q := fun k => k = false) (fun bx => ⟨false, bx, rfl, rfl⟩) fun k ek => ⟨fun z => (by rw [ek] at z; cases z), fun _ => sw_nx ?_⟩))
      refine sw_seq (sw_if (Tw.mono (Q := fun k => k = false) (fun bx => ⟨false, bx, rfl, rfl⟩) fun k ek => ⟨fun z => (by rw [ek] at z; cases z), fun _ => sw_nx ?_⟩))
      refine sw_seq (sw_if (Tw.mono (Q := fun k => k = false) (fun bx => ⟨false, bx, rfl, rfl⟩) fun k ek => ⟨fun z => (by rw [ek] at z; cases z), fun _ => sw_nx ?_⟩))
      walk_at "w"
      refine o_pick h0 h1 fun x hx => q x ?_
      simp only [List.mem_cons, List.not_mem_nil, or_false] at hx
      rcases hx with rfl | rfl | rfl | rfl | rfl | rfl | rfl | rfl <;> exact ⟨by decide +kernel, by simp [D.dep, D.depL]⟩
    | bl y =>
      refine sw_seq (sw_if (Tw.mono (Q := fun k => k = false) (fun bx => ⟨false, bx, rfl, rfl⟩) fun k ek => ⟨fun z => (by rw [ek] at z; cases z), fun _ => sw_nx ?_⟩))
      walk_at "w"
      refine hs8 _ fun i h0 h1 => ?_
      refine sw_seq (sw_if (Tw.mono (Q := fun k => k = false) (fun bx => ⟨false, bx, rfl, rfl⟩) fun k ek => ⟨fun z => (by rw [ek] at z; cases z), fun _ => sw_nx ?_⟩))
      refine sw_seq (sw_if (Tw.mono (Q := fun k => k = false) (fun bx => ⟨false, bx, rfl, rfl⟩) fun k ek => ⟨fun z => (by rw [ek] at z; cases z), fun _ => sw_nx ?_⟩))
      refine sw_seq (sw_if (Tw.mono (Q := fun k => k = false) (fun bx => ⟨false, bx, rfl, rfl⟩) fun k ek => ⟨fun z => (by rw [ek] at z; cases z), fun _ => sw_nx ?_⟩))
      walk_at "w"
      refine o_pick h0 h1 fun x hx => q x ?_
      simp only [List.mem_cons, List.not_mem_nil, or_false] at hx
      rcases hx with rfl | rfl | rfl | rfl | rfl | rfl | rfl | rfl <;> exact ⟨by decide +kernel, by simp [D.dep, D.depL]⟩
    | int z =>
      have hz : z.natAbs ≤ 1000000000 := by simpa [bs] using hv
      refine sw_seq (sw_if (Tw.mono (Q := fun k => k = false) (fun bx => ⟨false, bx, rfl, rfl⟩) fun k ek => ⟨fun z => (by rw [ek] at z; cases z), fun _ => sw_nx ?_⟩))
      walk_at "w"
      refine hs8 _ fun i h0 h1 => ?_
      refine sw_seq (sw_if (Tw.mono (Q := fun k => k = false) (fun bx => ⟨false, bx, rfl, rfl⟩) fun k ek => ⟨fun z => (by rw [ek] at z; cases z), fun _ => sw_nx ?_⟩))
      refine sw_seq (sw_if (Tw.mono (Q := fun k => k = true) (fun bx => ⟨true, bx, rfl, rfl⟩) fun k ek => ⟨fun _ => ?_, fun z => (by rw [ek] at z; cases z)⟩))
      have hlog : z.natAbs.log2 < 1920 := by
        by_cases hz0 : z.natAbs = 0
        · rw [hz0]; decide
        · rw [Nat.log2_lt hz0]
          exact Nat.lt_of_le_of_lt hz (by decide)
      walk_at "w"
      refine ⟨.str (toString z : String), by rw [strD, if_pos hlog], ?_⟩
      walk_at "w"
      refine o_pick h0 h1 fun x hx => ⟨_, rfl, q x ?_⟩
      simp only [List.mem_cons, List.not_mem_nil, or_false] at hx
      rcases hx with rfl | rfl | rfl | rfl | rfl | rfl | rfl | rfl
      · exact ⟨rfl, by simp [D.dep]⟩
      · exact ⟨rfl, by simp [D.dep]⟩
      · exact ⟨rfl, by simp [D.dep]⟩
      · exact ⟨rfl, by simp [D.dep]⟩
      · exact ⟨rfl, by simp [D.dep]⟩
      · exact ⟨gd_lit _, by simp [D.dep]⟩
      · exact ⟨rfl, by simp [D.dep, D.depL]⟩
      · exact ⟨rfl, by simp [D.dep]⟩
    | str z =>
      have hz : z.length ≤ 1000 := by simp only [bs, Bool.and_eq_true, decide_eq_true_iff] at hv; exact hv.1
      have hgz : gd (.str z) = true := bs_gd _ hv
      have hsz : (1000000 : Nat) ≤ PySem.sizeLine := by rw [PySem.sizeLine_eq]; omega
      refine sw_seq (sw_if (Tw.mono (Q := fun k => k = false) (fun bx => ⟨false, bx, rfl, rfl⟩) fun k ek => ⟨fun z => (by rw [ek] at z; cases z), fun _ => sw_nx ?_⟩))
      walk_at "w"
      refine hs8 _ fun i h0 h1 => ?_
      refine sw_seq (sw_if (Tw.mono (Q := fun k => k = false) (fun bx => ⟨false, bx, rfl, rfl⟩) fun k ek => ⟨fun z => (by rw [ek] at z; cases z), fun _ => sw_nx ?_⟩))
      refine sw_seq (sw_if (Tw.mono (Q := fun k => k = false) (fun bx => ⟨false, bx, rfl, rfl⟩) fun k ek => ⟨fun z => (by rw [ek] at z; cases z), fun _ => sw_nx ?_⟩))
      refine sw_seq (sw_if (Tw.mono (Q := fun k => k = true) (fun bx => ⟨true, bx, rfl, rfl⟩) fun k ek => ⟨fun _ => ?_, fun z => (by rw [ek] at z; cases z)⟩))
      walk_at "w"
      refine ⟨_, by
        show opAdd (.str z) (.str ("s" : Str)) = some (.str (z ++ ("s" : Str)))
        have : ("s" : Str).length = 1 := by decide +kernel
        simp only [opAdd]
        rw [if_pos (by rw [this]; omega)], ?_⟩
      walk_at "w"
      refine ⟨.str (L2.cutS z (some 1) none), by simp only [sliceD]; rw [if_pos (by omega)], ?_⟩
      walk_at "w"
      refine o_pick h0 h1 fun x hx => ⟨_, rfl, q x ?_⟩
      simp only [List.mem_cons, List.not_mem_nil, or_false] at hx
      rcases hx with rfl | rfl | rfl | rfl | rfl | rfl | rfl | rfl
      · exact ⟨gd_app hgz (gd_lit _), by simp [D.dep]⟩
      · exact ⟨gd_cut hgz _ _, by simp [D.dep]⟩
      · exact ⟨gd_lit _, by simp [D.dep]⟩
      · exact ⟨gd_lit _, by simp [D.dep]⟩
      · exact ⟨rfl, by simp [D.dep]⟩
      · exact ⟨rfl, by simp [D.dep]⟩
      · exact ⟨gd_lit _, by simp [D.dep]⟩
      · exact ⟨gd_lit _, by simp [D.dep]⟩
end Sv

set_option maxHeartbeats 1000000
/-! Pl4: numbers in tuples, sorted. -/
namespace Sv
open PySem (Str PyData)
/-! ### indices -/
def idxB (n : Nat) (v : D) : Bool := match v with
  | .tup vs => vs.all fun d => numB d 0 ((n : Int) - 1)
  | _ => false
def nats : D → List Nat
  | .tup vs => vs.map fun d => match d with | .int i => i.toNat | _ => 0
  | _ => []
theorem numB_nat {d : D} {n : Nat} (h : numB d 0 ((n : Int) - 1) = true) : ∃ k : Nat, d = nE k ∧ k < n := by
  cases d with
  | int i =>
    simp only [numB, decide_eq_true_iff] at h
    exact ⟨i.toNat, by show D.int i = D.int (i.toNat : Int); rw [Int.toNat_of_nonneg h.1], by omega⟩
  | _ => cases h
theorem idx_of {n : Nat} {v : D} (h : idxB n v = true) : v = tN (nats v) ∧ ∀ k ∈ nats v, k < n := by
  cases v with
  | tup vs =>
    simp only [idxB, List.all_eq_true] at h
    refine ⟨?_, fun k hk => ?_⟩
    · simp only [tN, nats, List.map_map]
      congr 1
      conv => lhs; rw [← List.map_id vs]
      refine List.map_congr_left fun d hd => ?_
      obtain ⟨k, rfl, _⟩ := numB_nat (h d hd)
      simp
    · obtain ⟨d, hd, rfl⟩ := List.mem_map.mp hk
      obtain ⟨k, rfl, hk2⟩ := numB_nat (h d hd)
      simpa using hk2
  | _ => cases h
theorem nats_tN (ks : List Nat) : nats (tN ks) = ks := by simp [nats, tN, Function.comp_def]
theorem idxB_tN {n : Nat} {ks : List Nat} : idxB n (tN ks) = ks.all fun k => decide (k < n) := by
  simp only [idxB, tN, List.all_map]
  congr 1
  funext k
  simp only [Function.comp, nE, numB]
  by_cases h : k < n
  · have : (0 : Int) ≤ k ∧ (k : Int) ≤ n - 1 := by omega
    simp [h, this]
  · have : ¬ ((0 : Int) ≤ k ∧ (k : Int) ≤ n - 1) := by omega
    rw [decide_eq_false this, decide_eq_false h]
/-! ### sorted -/
theorem sortOk_nat (ks : List Nat) : sortOk (ks.map nE) = true := by
  simp only [sortOk, List.all_map, Bool.and_eq_true, Bool.or_eq_true, List.all_eq_true, Function.comp]
  exact ⟨⟨fun _ _ => rfl, fun _ _ _ _ => by simp [D.py, PySem.W.alike]⟩, .inr fun _ _ => trivial⟩
theorem sortL_mem {xs : List D} {d : D} : d ∈ sortL xs ↔ d ∈ xs := by
  unfold sortL
  exact (List.mergeSort_perm xs _).mem_iff
theorem sm_sortL {ks : List Nat} : (D.lst (sortL (ks.map nE))).sm = true := by
  refine sm_of ?_ ?_
  · simp only [D.plain]
    rw [plainL_iff]
    intro d hd
    rw [sortL_mem] at hd
    obtain ⟨k, _, rfl⟩ := List.mem_map.mp hd
    rfl
  · simp only [D.dep]
    have : D.depL (sortL (ks.map nE)) ≤ 0 := depL_le.mpr fun d hd => by
      rw [sortL_mem] at hd
      obtain ⟨k, _, rfl⟩ := List.mem_map.mp hd
      exact Nat.le_refl _
    omega
/-- sorted(ks) == list(range(n)) -/
def srtB (ks : List Nat) (n : Nat) : Bool := PyData.eqv (D.lst (sortL (ks.map nE))).py (lN (List.range n)).py
theorem o_sortT {ks : List Nat} {Q : D → Prop} (q : Q (.lst (sortL (ks.map nE)))) : OrW (sortedD [tN ks]) Q := .of (by simp only [sortedD, tN, sortOk_nat, if_true]) q
theorem o_eqSrt {ks : List Nat} {n : Nat} {Q : D → Prop} (q : Q (.bl (srtB ks n))) : OrW (opEq (.lst (sortL (ks.map nE))) (lN (List.range n))) Q :=
  .of (by simp only [opEq, eqD, sm_sortL, enc_nat.lst.sm (by decide) (List.range n), and_self, if_true, Option.map_some]; rfl) q
theorem o_neSrt {ks : List Nat} {n : Nat} {Q : D → Prop} (q : Q (.bl (!srtB ks n))) : OrW (opNe (.lst (sortL (ks.map nE))) (lN (List.range n))) Q :=
  .of (by simp only [opNe, eqD, sm_sortL, enc_nat.lst.sm (by decide) (List.range n), and_self, if_true, Option.map_some]; rfl) q
/-- all([p(x) for x in value]) of any tuple -/
theorem iw_tup {ρ : Rho} {f : Ex} {Q : List D → Prop} {vs : List D} (h : Ew f ρ fun d => d = .tup vs) (q : Q vs) : Iw (iSeq f) ρ Q := iw_seq (h.mono fun d e => ⟨vs, by rw [e]; rfl, q⟩)
end Sv
namespace Sv
open PySem (Str PyData)
/-! ### lists of data of a kind -/
theorem sw_forV {ρ : Rho} {Q : Fl → Rho → Prop} {s : SS} {it : It} {g : Tg} (V : D → Prop) (I : Rho → Prop) (hi : Iw it ρ fun ds => ∀ d ∈ ds, V d) (h0 : I ρ)
    (hs : ∀ d ρ1, V d → I ρ1 → ∃ ρ2, g d ρ1 = some ρ2 ∧ Sw s ρ2 fun fl ρ3 => match fl with | .nx => I ρ3 | .ct => I ρ3 | .bk => Q .nx ρ3 | .rt d => Q (.rt d) ρ3) (q : ∀ ρ1, I ρ1 → Q .nx ρ1) : Sw (sFor it g s) ρ Q := fun b => by
  obtain ⟨ds, b1, e1, hv⟩ := hi b
  have h := sw_for (it := fun _ b => some (ds, b)) (g := g) (s := s) (Q := Q) (ρ := ρ) ds (fun _ ρ => I ρ) (fun b => ⟨ds, b, rfl, rfl⟩) h0 (fun i d ρ1 hd hI => hs d ρ1 (hv d (List.mem_of_getElem? hd)) hI) fun ρ1 h => q ρ1 h
  obtain ⟨fl, ρ', b', e2, q'⟩ := h b1
  exact ⟨fl, ρ', b', by unfold sFor at e2 ⊢; rw [e1]; exact e2, q'⟩
theorem ew_lcV {ρ : Rho} {Q : D → Prop} {f : Ex} {it : It} {g : Tg} {vs : List Nat} (V : D → Prop) (ds : List D) (hi : Iw it ρ fun xs => xs = ds)
    (hs : ∀ d ∈ ds, ∃ ρ1, g d (wipeR ρ vs) = some ρ1 ∧ Ew f ρ1 V) (q : ∀ rs : List D, rs.length = ds.length → (∀ d ∈ rs, V d) → Q (.lst rs)) : Ew (eLc it g tYes' f vs) ρ Q :=
  ew_lcI ds (fun i acc => acc.length = i ∧ ∀ d ∈ acc, V d) hi ⟨rfl, by simp⟩ (fun i d acc e r => by
    obtain ⟨ρ1, e1, h⟩ := hs d (List.mem_of_getElem? e)
    refine ⟨ρ1, e1, tw_yes ⟨fun _ => h.mono fun z hz => ⟨by simp [r.1], fun d' hd => ?_⟩, fun e => by cases e⟩⟩
    rcases List.mem_append.mp hd with h | h
    · exact r.2 d' h
    · simp at h; subst h; exact hz) fun acc r => q acc r.1 r.2
theorem o_neB {a b : Bool} {Q : D → Prop} (q : Q (.bl (a != b))) : OrW (opNe (.bl a) (.bl b)) Q := .of (by cases a <;> cases b <;> rfl) q
theorem o_eqB {a b : Bool} {Q : D → Prop} (q : Q (.bl (a == b))) : OrW (opEq (.bl a) (.bl b)) Q := .of (by cases a <;> cases b <;> rfl) q
/-- data that are asked about -/
def Vd (v : D) : Prop := gd v = true ∧ v.dep ≤ 12
end Sv

set_option maxHeartbeats 1000000
/-! Pl5: walking with values read off. -/
namespace Sv
open PySem (Str PyData)
section
variable {ρ : Rho} {Q : D → Prop} {f f' f'' : Ex} {t u : Tx} {ag : As}
/-! ### comprehensions, what is made read off -/
theorem ew_lcM' {α : Type} {xs : List α} {enc : α → D} {res : α → D} {it : It} {g : Tg} {vs : List Nat} (hi : Iw it ρ fun ds => ds = xs.map enc)
    (hs : ∀ x, x ∈ xs → ∃ ρ1, g (enc x) (wipeR ρ vs) = some ρ1 ∧ Ew f ρ1 fun r => r = res x) (q : Q (.lst (xs.map res))) : Ew (eLc it g tYes' f vs) ρ Q :=
  ew_lcM xs enc res hi (fun x hx => hs x hx) q
theorem ew_lc' {α : Type} {xs : List α} {enc : α → D} {p : α → Bool} {res : α → D} {it : It} {g : Tg} {vs : List Nat} (hi : Iw it ρ fun ds => ds = xs.map enc)
    (hs : ∀ x, x ∈ xs → ∃ ρ1, g (enc x) (wipeR ρ vs) = some ρ1 ∧ Tw t ρ1 fun k => k = p x ∧ (k = true → Ew f ρ1 fun r => r = res x)) (q : Q (.lst ((xs.filter p).map res))) : Ew (eLc it g t f vs) ρ Q :=
  ew_lc xs enc p res hi (fun x hx => hs x hx) q
/-! ### and, or, if as values -/
theorem ew_andC {y : Bool} (h : Ew f ρ fun d => ∃ x, d = .bl x ∧ (x = true → Ew f' ρ fun d => d = .bl y) ∧ Q (.bl (x && y))) : Ew (eAnd f f') ρ Q := fun b => by
  obtain ⟨d, b1, e1, x, rfl, h2, q⟩ := h b
  cases x with
  | true =>
    obtain ⟨d2, b2, e2, rfl⟩ := h2 rfl b1
    exact ⟨.bl y, b2, by unfold eAnd; rw [e1]; simp only [truthD, e2], by simpa using q⟩
  | false => exact ⟨.bl false, b1, by unfold eAnd; rw [e1]; simp only [truthD], by simpa using q⟩
theorem ew_orC {y : Bool} (h : Ew f ρ fun d => ∃ x, d = .bl x ∧ (x = false → Ew f' ρ fun d => d = .bl y) ∧ Q (.bl (x || y))) : Ew (eOr f f') ρ Q := fun b => by
  obtain ⟨d, b1, e1, x, rfl, h2, q⟩ := h b
  cases x with
  | false =>
    obtain ⟨d2, b2, e2, rfl⟩ := h2 rfl b1
    exact ⟨.bl y, b2, by unfold eOr; rw [e1]; simp only [truthD, e2], by simpa using q⟩
  | true => exact ⟨.bl true, b1, by unfold eOr; rw [e1]; simp only [truthD], by simpa using q⟩
theorem tw_andC {y : Bool} {Q : Bool → Prop} (h : Tw t ρ fun x => (x = true → Tw u ρ fun k => k = y) ∧ Q (x && y)) : Tw (tAnd t u) ρ Q := fun b => by
  obtain ⟨x, b1, e1, h2, q⟩ := h b
  cases x with
  | true =>
    obtain ⟨d2, b2, e2, rfl⟩ := h2 rfl b1
    exact ⟨d2, b2, by unfold tAnd; rw [e1]; simp only [e2], by simpa using q⟩
  | false => exact ⟨false, b1, by unfold tAnd; rw [e1], by simpa using q⟩
theorem tw_orC {y : Bool} {Q : Bool → Prop} (h : Tw t ρ fun x => (x = false → Tw u ρ fun k => k = y) ∧ Q (x || y)) : Tw (tOr t u) ρ Q := fun b => by
  obtain ⟨x, b1, e1, h2, q⟩ := h b
  cases x with
  | false =>
    obtain ⟨d2, b2, e2, rfl⟩ := h2 rfl b1
    exact ⟨d2, b2, by unfold tOr; rw [e1]; simp only [e2], by simpa using q⟩
  | true => exact ⟨true, b1, by unfold tOr; rw [e1], by simpa using q⟩
theorem ew_ifI {x y : Int} (h : Tw t ρ fun k => (k = true → Ew f ρ fun d => d = .int x) ∧ (k = false → Ew f' ρ fun d => d = .int y) ∧ Q (.int (if k = true then x else y))) : Ew (eIf t f f') ρ Q := fun b => by
  obtain ⟨k, b1, e1, h1, h2, q⟩ := h b
  cases k with
  | true =>
    obtain ⟨d, b2, e2, rfl⟩ := h1 rfl b1
    exact ⟨_, b2, by unfold eIf; rw [e1]; exact e2, by simpa using q⟩
  | false =>
    obtain ⟨d, b2, e2, rfl⟩ := h2 rfl b1
    exact ⟨_, b2, by unfold eIf; rw [e1]; exact e2, by simpa using q⟩
theorem ew_ifV {x y : D} (h : Tw t ρ fun k => (k = true → Ew f ρ fun d => d = x) ∧ (k = false → Ew f' ρ fun d => d = y) ∧ Q (if k = true then x else y)) : Ew (eIf t f f') ρ Q := fun b => by
  obtain ⟨k, b1, e1, h1, h2, q⟩ := h b
  cases k with
  | true =>
    obtain ⟨d, b2, e2, rfl⟩ := h1 rfl b1
    exact ⟨_, b2, by unfold eIf; rw [e1]; exact e2, by simpa using q⟩
  | false =>
    obtain ⟨d, b2, e2, rfl⟩ := h2 rfl b1
    exact ⟨_, b2, by unfold eIf; rw [e1]; exact e2, by simpa using q⟩
/-! ### subscripts -/
theorem o_ixTI {xs : List Int} {k : Nat} (h : k < xs.length) (q : Q (.int (xs.getD k 0))) : OrW (ixD (.tup (xs.map .int)) (.int (k : Nat))) Q := o_ixTn (e := D.int) (by rw [List.getD_eq_getElem?_getD, List.getElem?_eq_getElem h]; rfl) q
theorem o_ixLI {xs : List Int} {k : Nat} (h : k < xs.length) (q : Q (.int (xs.getD k 0))) : OrW (ixD (.lst (xs.map .int)) (.int (k : Nat))) Q := o_ixLn (e := D.int) (by rw [List.getD_eq_getElem?_getD, List.getElem?_eq_getElem h]; rfl) q
theorem o_ixTN {xs : List Nat} {k : Nat} (h : k < xs.length) (q : Q (nE (xs.getD k 0))) : OrW (ixD (.tup (xs.map nE)) (.int (k : Nat))) Q := o_ixTn (e := nE) (by rw [List.getD_eq_getElem?_getD, List.getElem?_eq_getElem h]; rfl) q
theorem o_ixLN {xs : List Nat} {k : Nat} (h : k < xs.length) (q : Q (nE (xs.getD k 0))) : OrW (ixD (.lst (xs.map nE)) (.int (k : Nat))) Q := o_ixLn (e := nE) (by rw [List.getD_eq_getElem?_getD, List.getElem?_eq_getElem h]; rfl) q
theorem o_ixTG {α : Type} [Inhabited α] {e : α → D} {xs : List α} {k : Nat} (h : k < xs.length) (q : Q (e (xs.getD k default))) : OrW (ixD (.tup (xs.map e)) (.int (k : Nat))) Q := o_ixTn (by rw [List.getD_eq_getElem?_getD, List.getElem?_eq_getElem h]; rfl) q
theorem o_ixLG {α : Type} [Inhabited α] {e : α → D} {xs : List α} {k : Nat} (h : k < xs.length) (q : Q (e (xs.getD k default))) : OrW (ixD (.lst (xs.map e)) (.int (k : Nat))) Q := o_ixLn (by rw [List.getD_eq_getElem?_getD, List.getElem?_eq_getElem h]; rfl) q
theorem o_ix0 {a : D} {xs : List D} (q : Q a) : OrW (ixD (.tup (a :: xs)) (.int 0)) Q := .of (by rw [ixD]; exact atI_nat (k := 0)) q
theorem o_ix1 {a b : D} {xs : List D} (q : Q b) : OrW (ixD (.tup (a :: b :: xs)) (.int 1)) Q := .of (by rw [ixD]; exact atI_nat (k := 1)) q
theorem o_ix2 {a b c : D} {xs : List D} (q : Q c) : OrW (ixD (.tup (a :: b :: c :: xs)) (.int 2)) Q := .of (by rw [ixD]; exact atI_nat (k := 2)) q
theorem o_ix3 {a b c d : D} {xs : List D} (q : Q d) : OrW (ixD (.tup (a :: b :: c :: d :: xs)) (.int 3)) Q := .of (by rw [ixD]; exact atI_nat (k := 3)) q
theorem o_ix0L {a : D} {xs : List D} (q : Q a) : OrW (ixD (.lst (a :: xs)) (.int 0)) Q := .of (by rw [ixD]; exact atI_nat (k := 0)) q
/-! ### kinds -/
theorem o_isTupT {xs : List D} (q : Q (.bl true)) : OrW ((isT (.tup xs) .tuple).map .bl) Q := .of rfl q
theorem x_tr {Q : Bool → Prop} {d : D} {k : Bool} (e : truthD d = some k) (q : Q k) : ∃ i, truthD d = some i ∧ Q i := ⟨k, e, q⟩
theorem x_tri {Q : Bool → Prop} {i : Int} (q : Q (decide (i ≠ 0))) : ∃ k, truthD (.int i) = some k ∧ Q k := ⟨_, by show some (i != 0) = _; congr 1; by_cases h : i = 0 <;> simp [h], q⟩
theorem x_trT {Q : Bool → Prop} {xs : List D} (q : Q (!xs.isEmpty)) : ∃ k, truthD (.tup xs) = some k ∧ Q k := ⟨_, rfl, q⟩
theorem x_trL {Q : Bool → Prop} {xs : List D} (q : Q (!xs.isEmpty)) : ∃ k, truthD (.lst xs) = some k ∧ Q k := ⟨_, rfl, q⟩
theorem o_mulI {x y : Int} (h : mulOk x y = true) (q : Q (.int (x * y))) : OrW (opMul (.int x) (.int y)) Q := .of (by rw [opMul, if_pos h]) q
theorem o_max2 {x y : Int} (q : Q (.int (max x y))) : OrW (max2D [.int x, .int y]) Q := .of (by
  show some (D.int (if y > x then y else x)) = _
  congr 2
  rw [Int.max_def]
  by_cases h : y > x
  · rw [if_pos h, if_pos (by omega)]
  · by_cases h2 : x ≤ y
    · rw [if_neg h, if_pos h2]; omega
    · rw [if_neg h, if_neg h2]) q
theorem o_min2 {x y : Int} (q : Q (.int (min x y))) : OrW (min2D [.int x, .int y]) Q := .of (by
  show some (D.int (if y < x then y else x)) = _
  congr 2
  rw [Int.min_def]
  by_cases h : y < x
  · rw [if_pos h, if_neg (by omega)]
  · rw [if_neg h, if_pos (by omega)]) q
theorem o_addTs {xs ys : List D} (h : xs.length + ys.length ≤ 1000000) (q : Q (.tup (xs ++ ys))) : OrW (opAdd (.tup xs) (.tup ys)) Q := o_addT (by rw [PySem.sizeLine_eq]; omega) q
theorem o_addLs {xs ys : List D} (h : xs.length + ys.length ≤ 1000000) (q : Q (.lst (xs ++ ys))) : OrW (opAdd (.lst xs) (.lst ys)) Q := o_addL (by rw [PySem.sizeLine_eq]; omega) q
theorem o_isN {d : D} (h : ∀ n, d ≠ .tok n) (q : Q (.bl (decide (d = .non)))) : OrW (opIsN2 d .non) Q := x_isNone q h
theorem o_maxL {xs : List Int} (h : xs ≠ []) (q : Q (.int (maxI xs))) : OrW (maxLD [.lst (xs.map .int)]) Q := by
  cases xs with
  | nil => exact absurd rfl h
  | cons x xs =>
    refine .of ?_ q
    have := intsD_typed (fun i : Int => i) (x :: xs)
    simp only [List.map_id'] at this
    simp only [maxLD, bestOf]
    rw [show (List.map D.int (x :: xs)) = (x :: xs).map fun i => D.int i from rfl, this]
    rfl
theorem o_minL {xs : List Int} (h : xs ≠ []) (q : Q (.int (minI xs))) : OrW (minLD [.lst (xs.map .int)]) Q := by
  cases xs with
  | nil => exact absurd rfl h
  | cons x xs =>
    refine .of ?_ q
    have := intsD_typed (fun i : Int => i) (x :: xs)
    simp only [List.map_id'] at this
    simp only [minLD, bestOf]
    rw [show (List.map D.int (x :: xs)) = (x :: xs).map fun i => D.int i from rfl, this]
    rfl
end
/-! ### over range -/
theorem getD_eq {α : Type} {xs : List α} {k : Nat} (d : α) (h : k < xs.length) : xs.getD k d = xs[k] := by
  rw [List.getD_eq_getElem?_getD, List.getElem?_eq_getElem h]; rfl
theorem getD_map {α β : Type} (f : α → β) (d : α) (d' : β) {xs : List α} {k : Nat} (h : k < xs.length) : (xs.map f).getD k d' = f (xs.getD k d) := by
  rw [getD_eq d h, getD_eq d' (by rw [List.length_map]; exact h), List.getElem_map]
theorem map_range {α β : Type} (d : α) (e : α → β) (xs : List α) : xs.map e = (List.range xs.length).map fun k => e (xs.getD k d) := by
  apply List.ext_getElem
  · simp
  · intro k h1 h2
    simp only [List.length_map] at h1
    simp [getD_eq d h1, h1]
theorem enumD_range {α : Type} (d : α) (e : α → D) (xs : List α) : enumD 0 (xs.map e) = (List.range xs.length).map fun k => .tup [nE k, e (xs.getD k d)] := by
  rw [enumD_map]
  apply List.ext_getElem
  · simp
  · intro k h1 h2
    have h3 : k < xs.length := by simpa using h2
    simp [getD_eq d h3, h3]
theorem zipD_range {α β : Type} (d : α) (d' : β) (e : α → D) (e' : β → D) {xs : List α} {ys : List β} (h : ys.length = xs.length) : zipD (xs.map e) (ys.map e') = (List.range xs.length).map fun k => .tup [e (xs.getD k d), e' (ys.getD k d')] := by
  rw [zipD_map]
  apply List.ext_getElem
  · simp [h]
  · intro k h1 h2
    have h3 : k < xs.length := by simpa using h2
    have h4 : k < ys.length := by omega
    simp [getD_eq d h3, getD_eq d' h4, h3, h4]
def RngQ (Q : List D → Prop) (ds : List D) : Prop := ∃ n : Nat, ds = [nE n] ∧ n ≤ 16777216 ∧ Q ((List.range n).map nE)
theorem rngQ {n : Nat} {Q : List D → Prop} (h : n ≤ 16777216) (q : Q ((List.range n).map nE)) : RngQ Q [.int (n : Int)] := ⟨n, rfl, h, q⟩
theorem iw_rangeI {ρ : Rho} {ag : As} {Q : List D → Prop} (h : Aw ag ρ (RngQ Q)) : Iw (iRange ag) ρ Q :=
  iw_range (h.mono fun ds ⟨n, e, hn, q⟩ => ⟨n, _, e, rangeD_nat hn, q⟩)
theorem iw_enumR {α : Type} {ρ : Rho} {f : Ex} {Q : List D → Prop} (dflt : α) {xs : List α} {e : α → D} (h : Ew f ρ fun d => ∃ w, itemsD d = some w ∧ w = xs.map e ∧ Q ((List.range xs.length).map fun k => .tup [nE k, e (xs.getD k dflt)])) : Iw (iEnum f) ρ Q :=
  iw_enum (h.mono fun d ⟨w, h1, h2, q⟩ => ⟨w, h1, by rw [h2, enumD_range dflt]; exact q⟩)
/-- what a turn must reach -/
@[reducible] def LpQ (I : Rho → Prop) (Q : Fl → Rho → Prop) : Fl → Rho → Prop := fun fl ρ => match fl with
  | .nx => I ρ
  | .ct => I ρ
  | .bk => Q .nx ρ
  | .rt d => Q (.rt d) ρ
/-- for, over range -/
theorem sw_forR {ρ : Rho} {Q : Fl → Rho → Prop} {s : SS} {it : It} {g : Tg} (n : Nat) (enc : Nat → D) (I : Nat → Rho → Prop) (hi : Iw it ρ fun xs => xs = (List.range n).map enc) (h0 : I 0 ρ)
    (hs : ∀ i, i < n → ∀ ρ1, I i ρ1 → ∃ ρ2, g (enc i) ρ1 = some ρ2 ∧ Sw s ρ2 (LpQ (I (i + 1)) Q)) (q : ∀ ρ1, I n ρ1 → Q .nx ρ1) : Sw (sFor it g s) ρ Q := by
  refine sw_for ((List.range n).map enc) I hi h0 (fun i d ρ1 e r => ?_) fun ρ1 r => q ρ1 (by simpa using r)
  rw [List.getElem?_map] at e
  cases h : (List.range n)[i]? with
  | none => rw [h] at e; cases e
  | some k =>
    rw [h] at e; cases e
    have hk := List.getElem?_eq_some_iff.mp h
    obtain ⟨hl, hk⟩ := hk
    simp at hk hl
    subst hk
    exact hs i hl ρ1 r
theorem sw_store' {ρ : Rho} {Q : Fl → Rho → Prop} {f f' : Ex} {α : Type} {e : α → D} {i : Nat} {xs : List α} (e0 : ρ[i]? = some (Sl.own (.lst (xs.map e)))) (h : Ew f' ρ fun d => ∃ x, d = e x ∧ Ew f ρ fun z => ∃ k : Nat, z = nE k ∧ k < xs.length ∧ Q .nx (ρ.set i (.own (.lst ((xs.set k x).map e))))) : Sw (sStore i f f') ρ Q :=
  sw_store (h.mono fun d ⟨x, ed, h⟩ => ⟨xs.map e, e0, h.mono fun z ⟨k, ez, hk, q⟩ => ⟨k, k, by rw [ez], by
    unfold L2.ixN
    rw [List.length_map]
    have h1 : (0 : Int) ≤ k := by omega
    have h2 : (k : Int) < xs.length := by omega
    simp [h1, h2], by rw [ed, ← List.map_set]; exact q⟩⟩)
theorem sw_augS {ρ : Rho} {Q : Fl → Rho → Prop} {f f' : Ex} {i : Nat} {k : Int → Int → Int} {xs : List Int} (e0 : ρ[i]? = some (Sl.own (lI xs))) (h : Ew f ρ fun z => ∃ j : Nat, z = nE j ∧ j < xs.length ∧ Ew f' ρ fun d => ∃ y, d = .int y ∧ Q .nx (ρ.set i (.own (lI (xs.set j (k (xs.getD j 0) y)))))) : Sw (sAugS i k f f') ρ Q := fun b => by
  obtain ⟨z, b1, e1, j, rfl, hj, h⟩ := h b
  obtain ⟨d, b2, e2, y, rfl, q⟩ := h b1
  refine ⟨.nx, _, b2, ?_, q⟩
  have hix : L2.ixN (xs.map D.int).length (j : Int) = some j := by
    unfold L2.ixN
    rw [List.length_map]
    have h1 : (0 : Int) ≤ j := by omega
    have h2 : (j : Int) < xs.length := by omega
    simp [h1, h2]
  unfold sAugS
  rw [e0]
  simp only [e1, hix, List.getElem?_map, List.getElem?_eq_getElem hj, Option.map_some, e2]
  rw [getD_eq 0 hj, lI, List.map_set]
theorem mw_app {ρ : Rho} {Q : D → Rho → Prop} {α : Type} {e : α → D} {i : Nat} {f : Ex} {xs : List α} (e0 : ρ[i]? = some (Sl.own (.lst (xs.map e)))) (hl : xs.length < 1000000) (h : Ew f ρ fun d => ∃ x, d = e x ∧ Q .non (ρ.set i (.own (.lst ((xs ++ [x]).map e))))) : Mw (mMeth i kApp (mOne (mUp f))) ρ Q :=
  mw_meth e0 (maw_one (mw_up (h.mono fun d ⟨x, ed, q⟩ => ⟨_, _, _, e0, by rw [kApp, if_pos (by rw [List.length_map, PySem.sizeLine_eq]; omega)], by rw [ed]; rw [List.map_append] at q; exact q⟩)))
theorem mw_ext {ρ : Rho} {Q : D → Rho → Prop} {α : Type} {e : α → D} {i : Nat} {f : Ex} {xs : List α} (e0 : ρ[i]? = some (Sl.own (.lst (xs.map e)))) (h : Ew f ρ fun d => ∃ ys : List α, d = .lst (ys.map e) ∧ xs.length + ys.length ≤ 1000000 ∧ Q .non (ρ.set i (.own (.lst ((xs ++ ys).map e))))) : Mw (mMeth i kExt (mOne (mUp f))) ρ Q :=
  mw_meth e0 (maw_one (mw_up (h.mono fun d ⟨ys, ed, hl, q⟩ => ⟨xs.map e, .non, xs.map e ++ ys.map e, e0, by subst ed; rw [kExt, if_pos (by rw [List.length_map, List.length_map, PySem.sizeLine_eq]; omega)], by rw [List.map_append] at q; exact q⟩)))
/-! ### asking for sameness -/
/-- if not same(a, b): return False .. where they are the same -/
theorem sw_same {ρ : Rho} {Q : Fl → Rho → Prop} {F : Fn} {f g : Ex} {s : SS} (h : Ew f ρ fun x => Ew g ρ fun y => Fw F [x, y] (fun d => d = .bl true) ∧ Sw s ρ Q) : Sw (sSeq (sIf (tNot (tOf (eCall F (aCons f (aCons g aNil))))) (sRet (eCon (.bl false))) sNx) s) ρ Q := by
  refine sw_seq (sw_if (tw_not (tw_of (ew_call (aw_cons (h.mono fun x h => aw_cons (h.mono fun y ⟨h1, h2⟩ => aw_nil (h1.mono fun d e => ?_))))))))
  subst e
  exact ⟨true, rfl, fun z => (by cases z), fun _ => sw_nx h2⟩
theorem sw_if_no {ρ : Rho} {Q : Fl → Rho → Prop} {t : Tx} {s s' : SS} (h : Tw t ρ fun k => k = false ∧ Sw s' ρ Q) : Sw (sSeq (sIf t s sNx) s') ρ Q :=
  sw_seq (sw_if (h.mono fun k ⟨e, h2⟩ => by subst e; exact ⟨fun z => (by cases z), fun _ => sw_nx h2⟩))
theorem sw_if_noE {ρ : Rho} {Q : Fl → Rho → Prop} {t : Tx} {s : SS} (h : Tw t ρ fun k => k = false ∧ Q .nx ρ) : Sw (sIf t s sNx) ρ Q :=
  sw_if (h.mono fun k ⟨e, h2⟩ => by subst e; exact ⟨fun z => (by cases z), fun _ => sw_nx h2⟩)
/-! ### what the walker uses -/
theorem o_sumTI {xs : List Int} {Q : D → Prop} (q : Q (.int xs.sum)) : OrW (sumD [.tup (xs.map .int)]) Q := o_sumT (p := fun x => x) (by simpa using q)
theorem tr_imp {k : Bool} {A : Prop} (h : k = true → A) : k = true → A := h
theorem fa_imp {k : Bool} {A : Prop} (h : k = false → A) : k = false → A := h
/-- a test's two ways -/
def Br (k : Bool) (A B : Prop) : Prop := (k = true → A) ∧ (k = false → B)
theorem br {k : Bool} {A B : Prop} (h1 : k = true → A) (h2 : k = false → B) : Br k A B := ⟨h1, h2⟩
theorem brF {k : Bool} {A B : Prop} (e : k = false) (h2 : B) : Br k A B := ⟨fun z => (by rw [e] at z; cases z), fun _ => h2⟩
theorem brT {k : Bool} {A B : Prop} (e : k = true) (h2 : A) : Br k A B := ⟨fun _ => h2, fun z => (by rw [e] at z; cases z)⟩
theorem brD {p : Prop} [Decidable p] {A B : Prop} (h1 : p → A) (h2 : ¬ p → B) : Br (decide p) A B := ⟨fun z => h1 (of_decide_eq_true z), fun z => h2 (of_decide_eq_false z)⟩
theorem sw_ifB {ρ : Rho} {Q : Fl → Rho → Prop} {t : Tx} {s s' : SS} (h : Tw t ρ fun k => Br k (Sw s ρ Q) (Sw s' ρ Q)) : Sw (sIf t s s') ρ Q := sw_if h
theorem ew_ifB {ρ : Rho} {Q : D → Prop} {t : Tx} {f f' : Ex} (h : Tw t ρ fun k => Br k (Ew f ρ Q) (Ew f' ρ Q)) : Ew (eIf t f f') ρ Q := ew_if h
theorem dec_imp {p : Prop} [Decidable p] {A : Prop} (h : p → A) : decide p = true → A := fun z => h (of_decide_eq_true z)
theorem decF_imp {p : Prop} [Decidable p] {A : Prop} (h : ¬ p → A) : decide p = false → A := fun z => h (of_decide_eq_false z)
theorem x_n {k : Nat} {Q : Nat → Prop} (q : Q k) : ∃ j : Nat, nE k = nE j ∧ Q j := ⟨k, rfl, q⟩
theorem sd_lt {a b : Nat} (h : a < b) : a < b := h
theorem sd_le {a b : Nat} (h : a ≤ b) : a ≤ b := h
theorem o_lenTm {α : Type} {e : α → D} {xs : List α} {Q : D → Prop} (q : Q (.int xs.length)) : OrW (lenD [.tup (xs.map e)]) Q := o_lenT (by rw [List.length_map]; exact q)
theorem o_lenLm {α : Type} {e : α → D} {xs : List α} {Q : D → Prop} (q : Q (.int xs.length)) : OrW (lenD [.lst (xs.map e)]) Q := o_lenL (by rw [List.length_map]; exact q)
theorem o_addN {x y : Nat} {Q : D → Prop} (q : Q (nE (x + y))) : OrW (opAdd (nE x) (nE y)) Q := .of rfl (by rw [← Int.natCast_add]; exact q)
theorem o_addN1 {x : Nat} {Q : D → Prop} (q : Q (nE (x + 1))) : OrW (opAdd (nE x) (.int 1)) Q := .of rfl q
theorem o_subN1 {x : Nat} {Q : D → Prop} (h : 1 ≤ x) (q : Q (nE (x - 1))) : OrW (opSub (nE x) (.int 1)) Q := .of rfl (by rw [nE, Int.natCast_sub h] at q; exact q)
theorem o_subN {x y : Nat} {Q : D → Prop} (h : y ≤ x) (q : Q (nE (x - y))) : OrW (opSub (nE x) (nE y)) Q := .of rfl (by rw [nE, Int.natCast_sub h] at q; exact q)
theorem o_ltN {x y : Nat} {Q : D → Prop} (q : Q (.bl (decide (x < y)))) : OrW (opLt (nE x) (nE y)) Q := o_lt (by rw [show decide ((x : Int) < y) = decide (x < y) from decide_eq_decide.mpr (by omega)]; exact q)
theorem o_leN {x y : Nat} {Q : D → Prop} (q : Q (.bl (decide (x ≤ y)))) : OrW (opLe (nE x) (nE y)) Q := o_le (by rw [show decide ((x : Int) ≤ y) = decide (x ≤ y) from decide_eq_decide.mpr (by omega)]; exact q)
theorem o_gtN {x y : Nat} {Q : D → Prop} (q : Q (.bl (decide (y < x)))) : OrW (opGt (nE x) (nE y)) Q := o_gt (by rw [show decide ((y : Int) < x) = decide (y < x) from decide_eq_decide.mpr (by omega)]; exact q)
theorem o_geN {x y : Nat} {Q : D → Prop} (q : Q (.bl (decide (y ≤ x)))) : OrW (opGe (nE x) (nE y)) Q := o_ge (by rw [show decide ((y : Int) ≤ x) = decide (y ≤ x) from decide_eq_decide.mpr (by omega)]; exact q)
theorem o_eqN {x y : Nat} {Q : D → Prop} (q : Q (.bl (decide (x = y)))) : OrW (opEq (nE x) (nE y)) Q := o_eqE enc_nat q
theorem o_neN {x y : Nat} {Q : D → Prop} (q : Q (.bl (!decide (x = y)))) : OrW (opNe (nE x) (nE y)) Q := o_neE enc_nat q
theorem o_inN {x : Nat} {ys : List Nat} {Q : D → Prop} (q : Q (.bl (decide (x ∈ ys)))) : OrW (opIn (nE x) (tN ys)) Q := o_inT enc_nat q
theorem o_ninN {x : Nat} {ys : List Nat} {Q : D → Prop} (q : Q (.bl (!decide (x ∈ ys)))) : OrW (opNotIn (nE x) (tN ys)) Q := o_ninT enc_nat q
theorem o_inNL {x : Nat} {ys : List Nat} {Q : D → Prop} (q : Q (.bl (decide (x ∈ ys)))) : OrW (opIn (nE x) (lN ys)) Q := o_inL enc_nat q
theorem o_ninNL {x : Nat} {ys : List Nat} {Q : D → Prop} (q : Q (.bl (!decide (x ∈ ys)))) : OrW (opNotIn (nE x) (lN ys)) Q := o_ninL enc_nat q
theorem o_sumI {xs : List Int} {Q : D → Prop} (q : Q (.int xs.sum)) : OrW (sumD [.lst (xs.map .int)]) Q := o_sum (p := fun x => x) (by simpa using q)
theorem o_ixT0 {α : Type} [Inhabited α] {e : α → D} {xs : List α} {Q : D → Prop} (h : 0 < xs.length) (q : Q (e (xs.getD 0 default))) : OrW (ixD (.tup (xs.map e)) (.int 0)) Q := o_ixTG (k := 0) h q
theorem o_ixL0 {α : Type} [Inhabited α] {e : α → D} {xs : List α} {Q : D → Prop} (h : 0 < xs.length) (q : Q (e (xs.getD 0 default))) : OrW (ixD (.lst (xs.map e)) (.int 0)) Q := o_ixLG (k := 0) h q
theorem o_ixT1 {α : Type} [Inhabited α] {e : α → D} {xs : List α} {Q : D → Prop} (h : 1 < xs.length) (q : Q (e (xs.getD 1 default))) : OrW (ixD (.tup (xs.map e)) (.int 1)) Q := o_ixTG (k := 1) h q
/-! ### slices -/
theorem sIx_pos {n d : Nat} {j : Int} (h : 0 ≤ j) : HT.sIx n d (some j) = min j.toNat n := by
  show (if j < 0 then _ else _) = _
  rw [if_neg (by omega)]
theorem sIx_neg1 {n d : Nat} : HT.sIx n d (some (-1)) = n - 1 := by
  show (if (-1 : Int) < 0 then ((-1 : Int) + (n : Int)).toNat else min (-1 : Int).toNat n) = n - 1
  rw [if_pos (by omega)]; omega
theorem cut_take {α : Type} (e : α → D) (xs : List α) {j : Int} (h : 0 ≤ j) : cutD (xs.map e) none (some j) = (xs.take j.toNat).map e := by
  have h1 : HT.sIx (xs.map e).length 0 none = 0 := by simp [HT.sIx]
  have h2 : HT.sIx (xs.map e).length (xs.map e).length (some j) = min j.toNat xs.length := by rw [sIx_pos (by omega), List.length_map]
  unfold cutD
  rw [h1, h2, List.drop_zero, Nat.sub_zero, ← List.map_take]
  congr 1
  rcases Nat.le_total j.toNat xs.length with h | h
  · rw [Nat.min_eq_left h]
  · rw [Nat.min_eq_right h, List.take_of_length_le h, List.take_of_length_le (Nat.le_refl _)]
theorem cut_drop {α : Type} (e : α → D) (xs : List α) {j : Int} (h : 0 ≤ j) : cutD (xs.map e) (some j) none = (xs.drop j.toNat).map e := by
  have h1 : HT.sIx (xs.map e).length (xs.map e).length none = xs.length := by simp [HT.sIx]
  have h2 : HT.sIx (xs.map e).length 0 (some j) = min j.toNat xs.length := by rw [sIx_pos (by omega), List.length_map]
  unfold cutD
  rw [h1, h2, ← List.map_drop, ← List.map_take]
  congr 1
  rcases Nat.le_total j.toNat xs.length with h | h
  · rw [Nat.min_eq_left h, List.take_of_length_le (by rw [List.length_drop]; omega)]
  · rw [Nat.min_eq_right h, List.drop_of_length_le h, List.drop_of_length_le (Nat.le_refl _)]; simp
theorem cut_two {α : Type} (e : α → D) (xs : List α) {i j : Int} (h0 : 0 ≤ i) (h : i ≤ j) : cutD (xs.map e) (some i) (some j) = ((xs.drop i.toNat).take (j.toNat - i.toNat)).map e := by
  have h1 : HT.sIx (xs.map e).length (xs.map e).length (some j) = min j.toNat xs.length := by rw [sIx_pos (by omega), List.length_map]
  have h2 : HT.sIx (xs.map e).length 0 (some i) = min i.toNat xs.length := by rw [sIx_pos (by omega), List.length_map]
  unfold cutD
  rw [h1, h2, ← List.map_drop, ← List.map_take]
  congr 1
  rcases Nat.le_total i.toNat xs.length with h | h
  · rw [Nat.min_eq_left h]
    rcases Nat.le_total j.toNat xs.length with h' | h'
    · rw [Nat.min_eq_left h']
    · rw [Nat.min_eq_right h', List.take_of_length_le (by rw [List.length_drop]; omega), List.take_of_length_le (by rw [List.length_drop]; omega)]
  · rw [Nat.min_eq_right h, List.drop_of_length_le h, List.drop_of_length_le (Nat.le_refl _)]
    simp
/-- xs[-1:] -/
theorem cut_last {α : Type} (e : α → D) (xs : List α) : cutD (xs.map e) (some (-1)) none = (xs.drop (xs.length - 1)).map e := by
  have h1 : HT.sIx (xs.map e).length (xs.map e).length none = xs.length := by simp [HT.sIx]
  have h2 : HT.sIx (xs.map e).length 0 (some (-1)) = xs.length - 1 := by rw [sIx_neg1, List.length_map]
  unfold cutD
  rw [h1, h2, ← List.map_drop, ← List.map_take]
  congr 1
  rw [List.take_of_length_le (by rw [List.length_drop]; omega)]
/-- xs[:-1] -/
theorem cut_init {α : Type} (e : α → D) (xs : List α) : cutD (xs.map e) none (some (-1)) = (xs.take (xs.length - 1)).map e := by
  have h1 : HT.sIx (xs.map e).length 0 none = 0 := by simp [HT.sIx]
  have h2 : HT.sIx (xs.map e).length (xs.map e).length (some (-1)) = xs.length - 1 := by rw [sIx_neg1, List.length_map]
  unfold cutD
  rw [h1, h2, List.drop_zero, Nat.sub_zero, ← List.map_take]
theorem o_mulRep {α : Type} {e : α → D} {x : α} {n : Nat} {Q : D → Prop} (h : n ≤ 1000) (q : Q (.tup ((List.replicate n x).map e))) : OrW (opMul (.tup [e x]) (.int (n : Int))) Q := by
  refine .of ?_ q
  simp only [opMul, List.length_cons, List.length_nil]
  rw [if_pos (by omega)]
  simp only [Int.toNat_natCast, List.map_replicate]
  congr 2
  clear q h
  induction n with
  | zero => rfl
  | succ n ih => rw [List.replicate_succ, List.flatten_cons, ih, List.replicate_succ]; rfl
/-! ### two fors -/
theorem lcGo_ev {β : Type} {g : Tg} {t : Tx} {f : Ex} {ρ : Rho} (enc : β → D) (p : β → Bool) (res : β → D) : ∀ ys : List β, (∀ y, y ∈ ys → ∃ ρ1, g (enc y) ρ = some ρ1 ∧ Tw t ρ1 fun k => k = p y ∧ (k = true → Ew f ρ1 fun r => r = res y)) → ∀ b, ∃ b', lcGo g t f ρ (ys.map enc) b = some ((ys.filter p).map res, b')
  | [], _, b => ⟨b, rfl⟩
  | y :: ys, h, b => by
    obtain ⟨ρ1, e1, h1⟩ := h y List.mem_cons_self
    obtain ⟨k, b1, e2, rfl, h2⟩ := h1 b
    cases hp : p y with
    | true =>
      obtain ⟨r, b2, e3, rfl⟩ := h2 hp b1
      obtain ⟨b3, e4⟩ := lcGo_ev enc p res ys (fun z hz => h z (List.mem_cons_of_mem _ hz)) b2
      refine ⟨b3, ?_⟩
      rw [List.map_cons, lcGo]
      simp only [e1, e2, hp, e3, e4]
      simp [hp]
    | false =>
      obtain ⟨b3, e4⟩ := lcGo_ev enc p res ys (fun z hz => h z (List.mem_cons_of_mem _ hz)) b1
      refine ⟨b3, ?_⟩
      rw [List.map_cons, lcGo]
      simp only [e1, e2, hp, e4]
      simp [hp]
theorem ew_lc2' {α β : Type} {ρ : Rho} {Q : D → Prop} {it it1 : It} {g g1 : Tg} {t t1 : Tx} {f : Ex} {vs vs1 : List Nat} {xs : List α} {enc : α → D} {p : α → Bool} {ys : α → List β} {enc1 : α → β → D} {p1 : α → β → Bool} {res : α → β → D} (hi : Iw it ρ fun ds => ds = xs.map enc)
    (hs : ∀ x, x ∈ xs → ∃ ρ1, g (enc x) (wipeR ρ vs) = some ρ1 ∧ Tw t ρ1 fun k => k = p x ∧ (k = true → Iw it1 ρ1 (fun ds => ds = (ys x).map (enc1 x)) ∧ ∀ y, y ∈ ys x → ∃ ρ2, g1 (enc1 x y) (wipeR ρ1 vs1) = some ρ2 ∧ Tw t1 ρ2 fun k => k = p1 x y ∧ (k = true → Ew f ρ2 fun r => r = res x y)))
    (hl : ((xs.filter p).flatMap fun x => ((ys x).filter (p1 x)).map (res x)).length ≤ 1000000) (q : Q (.lst ((xs.filter p).flatMap fun x => ((ys x).filter (p1 x)).map (res x)))) : Ew (eLc2 it g t it1 g1 t1 f vs vs1) ρ Q := fun b => by
  obtain ⟨ds, b1, e1, rfl⟩ := hi b
  have go : ∀ zs : List α, (∀ z, z ∈ zs → z ∈ xs) → ∀ b, ∃ b', lc2Go g t it1 g1 t1 f vs1 (wipeR ρ vs) (zs.map enc) b = some ((zs.filter p).flatMap fun x => ((ys x).filter (p1 x)).map (res x), b') := by
    intro zs
    induction zs with
    | nil => exact fun _ b => ⟨b, rfl⟩
    | cons z zs ih =>
      intro hz b
      obtain ⟨ρ1, e1, h1⟩ := hs z (hz z List.mem_cons_self)
      obtain ⟨k, b1, e2, rfl, h2⟩ := h1 b
      cases hp : p z with
      | true =>
        obtain ⟨h3, h4⟩ := h2 hp
        obtain ⟨_, b2, e3, rfl⟩ := h3 b1
        obtain ⟨b3, e4⟩ := lcGo_ev (enc1 z) (p1 z) (res z) (ys z) h4 b2
        obtain ⟨b4, e5⟩ := ih (fun y hy => hz y (List.mem_cons_of_mem _ hy)) b3
        refine ⟨b4, ?_⟩
        rw [List.map_cons, lc2Go]
        simp only [e1, e2, hp, e3, e4, e5]
        simp [hp]
      | false =>
        obtain ⟨b4, e5⟩ := ih (fun y hy => hz y (List.mem_cons_of_mem _ hy)) b1
        refine ⟨b4, ?_⟩
        rw [List.map_cons, lc2Go]
        simp only [e1, e2, hp, e5]
        simp [hp]
  obtain ⟨b2, e2⟩ := go xs (fun _ h => h) b1
  refine ⟨_, b2, ?_, q⟩
  unfold eLc2
  rw [e1]
  simp only [e2]
  rw [if_pos (by rw [PySem.sizeLine_eq]; omega)]
/-! ### max of a list -/
theorem o_maxA {α : Type} {a : Int} {g : α → Int} {xs : List α} {Q : D → Prop} (q : Q (.int (maxI (a :: xs.map g)))) : OrW (maxLD [.lst ([.int a] ++ xs.map fun x => .int (g x))]) Q := by
  have := o_maxL (xs := a :: xs.map g) (Q := Q) (by simp) q
  rw [List.map_cons, List.map_map] at this
  exact this
theorem o_maxZ {a : Int} {xs : List Int} {Q : D → Prop} (q : Q (.int (maxI (xs ++ [a])))) : OrW (maxLD [.lst (xs.map .int ++ [.int a])]) Q := by
  have := o_maxL (xs := xs ++ [a]) (Q := Q) (by simp) q
  simpa using this
theorem maxI_mem : ∀ {xs : List Int}, xs ≠ [] → maxI xs ∈ xs
  | [], h => absurd rfl h
  | _ :: _, _ => maxI_spec.1
theorem le_maxI : ∀ {xs : List Int} {y : Int}, y ∈ xs → y ≤ maxI xs
  | [], _, h => absurd h (by simp)
  | _ :: _, y, h => maxI_spec.2 y h
theorem maxI_eq {xs ys : List Int} (hx : xs ≠ []) (hy : ys ≠ []) (h1 : ∀ x ∈ xs, ∃ y ∈ ys, x ≤ y) (h2 : ∀ y ∈ ys, ∃ x ∈ xs, y ≤ x) : maxI xs = maxI ys := by
  obtain ⟨y, h3, h4⟩ := h1 _ (maxI_mem hx)
  obtain ⟨x, h5, h6⟩ := h2 _ (maxI_mem hy)
  have := le_maxI h3
  have := le_maxI h5
  omega
theorem sum_le_mul {α : Type} {f : α → Nat} {c : Nat} : ∀ {xs : List α}, (∀ x ∈ xs, f x ≤ c) → (xs.map f).sum ≤ xs.length * c
  | [], _ => by simp
  | x :: xs, h => by
    rw [List.map_cons, List.sum_cons, List.length_cons, Nat.add_mul, Nat.one_mul]
    have := sum_le_mul (xs := xs) fun y hy => h y (List.mem_cons_of_mem _ hy)
    have := h x List.mem_cons_self
    omega
theorem flatMap_int {α β : Type} (e : β → D) (f : α → List β) : ∀ xs : List α, xs.flatMap (fun x => (f x).map e) = (xs.flatMap f).map e
  | [] => rfl
  | x :: xs => by rw [List.flatMap_cons, List.flatMap_cons, List.map_append, flatMap_int e f xs]
/-! ### one way of and, or -/
theorem tw_orF {ρ : Rho} {t u : Tx} {Q : Bool → Prop} (h : Tw t ρ fun k => k = false ∧ Tw u ρ Q) : Tw (tOr t u) ρ Q := tw_or (h.mono fun k ⟨e, h⟩ => ⟨fun z => (by rw [e] at z; cases z), fun _ => h⟩)
theorem tw_orT {ρ : Rho} {t u : Tx} {Q : Bool → Prop} (h : Tw t ρ fun k => k = true) (q : Q true) : Tw (tOr t u) ρ Q := tw_or (h.mono fun k e => ⟨fun _ => q, fun z => (by rw [e] at z; cases z)⟩)
theorem tw_andT {ρ : Rho} {t u : Tx} {Q : Bool → Prop} (h : Tw t ρ fun k => k = true ∧ Tw u ρ Q) : Tw (tAnd t u) ρ Q := tw_and (h.mono fun k ⟨e, h⟩ => ⟨fun _ => h, fun z => (by rw [e] at z; cases z)⟩)
theorem tw_andF {ρ : Rho} {t u : Tx} {Q : Bool → Prop} (h : Tw t ρ fun k => k = false) (q : Q false) : Tw (tAnd t u) ρ Q := tw_and (h.mono fun k e => ⟨fun z => (by rw [e] at z; cases z), fun _ => q⟩)
theorem ew_andT {ρ : Rho} {f f' : Ex} {Q : D → Prop} (h : Ew f ρ fun d => d = .bl true ∧ Ew f' ρ Q) : Ew (eAnd f f') ρ Q := ew_and (h.mono fun d ⟨e, h⟩ => ⟨true, by rw [e]; rfl, fun _ => h, fun z => (by cases z)⟩)
theorem ew_andF {ρ : Rho} {f f' : Ex} {Q : D → Prop} (h : Ew f ρ fun d => d = .bl false) (q : Q (.bl false)) : Ew (eAnd f f') ρ Q := ew_and (h.mono fun d e => ⟨false, by rw [e]; rfl, fun z => (by cases z), fun _ => by rw [e]; exact q⟩)
theorem ew_orF {ρ : Rho} {f f' : Ex} {Q : D → Prop} (h : Ew f ρ fun d => d = .bl false ∧ Ew f' ρ Q) : Ew (eOr f f') ρ Q := ew_or (h.mono fun d ⟨e, h⟩ => ⟨false, by rw [e]; rfl, fun z => (by cases z), fun _ => h⟩)
theorem ew_orT {ρ : Rho} {f f' : Ex} {Q : D → Prop} (h : Ew f ρ fun d => d = .bl true) (q : Q (.bl true)) : Ew (eOr f f') ρ Q := ew_or (h.mono fun d e => ⟨true, by rw [e]; rfl, fun _ => by rw [e]; exact q, fun z => (by cases z)⟩)
/-- isinstance(v, tuple) -/
def isTup : D → Bool
  | .tup _ => true
  | _ => false
theorem o_isTup {v : D} {Q : D → Prop} (hv : v.plain = true) (q : Q (.bl (isTup v))) : OrW ((isT v .tuple).map .bl) Q := by
  cases v <;> first | exact .of rfl q | cases hv
def isInt : D → Bool
  | .int _ => true
  | .bl _ => true
  | _ => false
theorem o_isInt {v : D} {Q : D → Prop} (hv : v.plain = true) (q : Q (.bl (isInt v))) : OrW ((isT v .int).map .bl) Q := by
  cases v <;> first | exact .of rfl q | cases hv
def isBool : D → Bool
  | .bl _ => true
  | _ => false
theorem o_isBool {v : D} {Q : D → Prop} (hv : v.plain = true) (q : Q (.bl (isBool v))) : OrW ((isT v .bool).map .bl) Q := by
  cases v <;> first | exact .of rfl q | cases hv
def isStr : D → Bool
  | .str _ => true
  | _ => false
theorem o_isStr {v : D} {Q : D → Prop} (hv : v.plain = true) (q : Q (.bl (isStr v))) : OrW ((isT v .str).map .bl) Q := by
  cases v <;> first | exact .of rfl q | cases hv
def isLst : D → Bool
  | .lst _ => true
  | _ => false
theorem o_isLst {v : D} {Q : D → Prop} (hv : v.plain = true) (q : Q (.bl (isLst v))) : OrW ((isT v .list).map .bl) Q := by
  cases v <;> first | exact .of rfl q | cases hv
/-- an item of any tuple, of any list -/
theorem o_ixTD {xs : List D} {k : Nat} {Q : D → Prop} (h : k < xs.length) (q : Q (xs.getD k .non)) : OrW (ixD (.tup xs) (.int (k : Int))) Q := .of (by rw [ixD, atI_nat, List.getElem?_eq_getElem h]) (by rw [getD_eq .non h] at q; exact q)
theorem o_ixLD {xs : List D} {k : Nat} {Q : D → Prop} (h : k < xs.length) (q : Q (xs.getD k .non)) : OrW (ixD (.lst xs) (.int (k : Int))) Q := .of (by rw [ixD, atI_nat, List.getElem?_eq_getElem h]) (by rw [getD_eq .non h] at q; exact q)
theorem o_ixTD0 {xs : List D} {Q : D → Prop} (h : 0 < xs.length) (q : Q (xs.getD 0 .non)) : OrW (ixD (.tup xs) (.int 0)) Q := o_ixTD (k := 0) h q
theorem o_ixTD1 {xs : List D} {Q : D → Prop} (h : 1 < xs.length) (q : Q (xs.getD 1 .non)) : OrW (ixD (.tup xs) (.int 1)) Q := o_ixTD (k := 1) h q
theorem o_ixTD2 {xs : List D} {Q : D → Prop} (h : 2 < xs.length) (q : Q (xs.getD 2 .non)) : OrW (ixD (.tup xs) (.int 2)) Q := o_ixTD (k := 2) h q
theorem ndF_imp {p : Prop} [Decidable p] {A : Prop} (h : p → A) : (!decide p) = false → A := fun z => h (by simpa using z)
theorem ndT_imp {p : Prop} [Decidable p] {A : Prop} (h : ¬ p → A) : (!decide p) = true → A := fun z => h (by simpa using z)
theorem nF_imp {k : Bool} {A : Prop} (h : k = true → A) : (!k) = false → A := fun z => h (by simpa using z)
theorem nT_imp {k : Bool} {A : Prop} (h : k = false → A) : (!k) = true → A := fun z => h (by simpa using z)
theorem orF_imp {a b : Bool} {A : Prop} (h : a = false → b = false → A) : (a || b) = false → A := fun z => h (by cases a <;> simp_all) (by cases b <;> simp_all)
theorem andT_imp {a b : Bool} {A : Prop} (h : a = true → b = true → A) : (a && b) = true → A := fun z => h (by cases a <;> simp_all) (by cases b <;> simp_all)
theorem getD_range {n k d : Nat} (h : k < n) : (List.range n).getD k d = k := by rw [getD_eq d (by simpa using h), List.getElem_range]
theorem mapI {α : Type} (xs : List α) : xs = xs.map fun x => x := (List.map_id' xs).symm
theorem asTups : ∀ {xs : List D}, xs.all isTup = true → ∃ R : List (List D), xs = R.map D.tup
  | [], _ => ⟨[], rfl⟩
  | x :: xs, h => by
    rw [List.all_cons, Bool.and_eq_true] at h
    obtain ⟨R, e⟩ := asTups h.2
    cases x with
    | tup r => exact ⟨r :: R, by rw [e]; rfl⟩
    | _ => cases h.1
theorem plain_mem {xs : List D} (hv : (D.tup xs).plain = true) {d : D} (h : d ∈ xs) : d.plain = true := plainL_iff.mp (by simpa [D.plain] using hv) _ h
end Sv

set_option maxHeartbeats 1000000
/-! Pl6: bent data, the second text; rows put one behind the other; how what is bent is used. -/
namespace Sv
open PySem (Str PyData)
local macro_rules | `(tactic| walk_at "w") => `(tactic| (repeat' (first | with_reducible (first | refine sw_seq ?_ | refine sw_set ?_ | refine sw_new ?_ | refine sw_asg ?_ | refine sw_rt ?_ | refine sw_ret ?_ | refine sw_if ?_ | refine sw_par ?_ | refine sw_nx ?_ | refine sw_exprM ?_ | refine kw_nil ?_ | refine kw_frz ?_ | refine kw_new ?_ | refine ew_con ?_ | refine ew_bin ?_ | refine ew_un ?_ | refine ew_tup ?_ | refine ew_lst ?_ | refine ew_fn ?_ | refine ew_call ?_ | refine ew_callO ?_ | refine ew_if ?_ | refine ew_not ?_ | refine ew_chain ?_ | refine ew_slice ?_ | refine ow_none ?_ | refine ow_some ?_ | refine tw_bl ?_ | refine tw_of ?_ | refine tw_not ?_ | refine tw_yes ?_ | refine aw_nil ?_ | refine aw_cons ?_ | refine iw_seq ?_ | refine iw_enum ?_ | refine iw_zip ?_) | refine ew_var rfl ?_ | refine ew_bor rfl ?_ | refine ew_borO rfl ?_ | refine o_eqI ?_ | refine o_neI ?_ | refine o_lt ?_ | refine o_gt ?_ | refine o_le ?_ | refine o_ge ?_ | refine o_all ?_ | refine o_any ?_ | refine o_sum ?_ | refine o_addI ?_ | refine o_subI ?_ | refine o_lenT ?_ | refine o_lenL ?_ | refine o_tupL ?_ | refine o_tupT ?_ | refine o_listL ?_ | refine o_listT ?_ | refine o_negI ?_ | refine o_intI ?_ | refine o_slT ?_ | refine o_slL ?_ | refine o_revT ?_ | refine o_revL ?_ | refine x_int ?_ | refine x_bl ?_ | refine x_tb ?_ | refine x_itT ?_ | refine x_itL ?_ | refine x_rt ?_)))
local macro_rules | `(tactic| walk_at "v1") => `(tactic| first | with_reducible (first | refine sw_seq ?_ | refine sw_set ?_ | refine sw_new ?_ | refine sw_asg ?_ | refine sw_rt ?_ | refine sw_ret ?_ | refine sw_ifB ?_ | refine sw_par ?_ | refine sw_nx ?_ | refine sw_exprM ?_ | refine kw_nil ?_ | refine kw_frz ?_ | refine kw_new ?_ | refine ew_con ?_ | refine ew_bin ?_ | refine ew_un ?_ | refine ew_tup ?_ | refine ew_lst ?_ | refine ew_fn ?_ | refine ew_call ?_ | refine ew_callO ?_ | refine ew_not ?_ | refine ew_chain ?_ | refine ew_slice ?_ | refine ow_none ?_ | refine ow_some ?_ | refine tw_bl ?_ | refine tw_of ?_ | refine tw_not ?_ | refine tw_yes ?_ | refine aw_nil ?_ | refine aw_cons ?_ | refine iw_seq ?_ | refine iw_enum ?_ | refine iw_zip ?_ | refine iw_rangeI ?_ | (apply ew_andC) | (apply ew_orC) | (apply tw_andC) | (apply tw_orC) | (apply ew_lcM') | (apply ew_lc') | exact rfl | exact cut_last _ _ | exact mapI _) | ((with_reducible apply ew_var); exact rfl) | ((with_reducible apply ew_bor); exact rfl) | ((with_reducible apply ew_borO); exact rfl) | with_reducible (first | refine o_eqN ?_ | refine o_neN ?_ | refine o_ltN ?_ | refine o_gtN ?_ | refine o_leN ?_ | refine o_geN ?_ | refine o_inN ?_ | refine o_ninN ?_ | refine o_inNL ?_ | refine o_ninNL ?_ | refine o_lenTm ?_ | refine o_lenLm ?_ | refine o_addN ?_ | refine o_addN1 ?_ | refine o_subN (by first | assumption | omega) ?_ | refine o_subN1 (by first | assumption | omega) ?_ | refine o_sumI ?_ | refine o_sumTI ?_ | refine o_ix0 ?_ | refine o_ix1 ?_ | refine o_ix2 ?_ | refine o_ix3 ?_ | refine o_ixT0 ?_ ?_ | refine o_ixL0 ?_ ?_ | refine o_ixT1 ?_ ?_ | refine o_isTupT ?_ | refine o_ixTN ?_ ?_ | refine o_ixTI ?_ ?_ | refine o_ixLN ?_ ?_ | refine o_ixLI ?_ ?_ | refine o_ixTG ?_ ?_ | refine o_ixLG ?_ ?_ | refine o_ixTD0 ?_ ?_ | refine o_ixTD1 ?_ ?_ | refine o_ixTD2 ?_ ?_ | refine o_ixTD ?_ ?_ | refine o_ixLD ?_ ?_) | with_reducible (first | refine o_eqI ?_ | refine o_neI ?_ | refine o_lt ?_ | refine o_gt ?_ | refine o_le ?_ | refine o_ge ?_ | refine o_all ?_ | refine o_any ?_ | refine o_sum ?_ | refine o_addI ?_ | refine o_subI ?_ | refine o_lenT ?_ | refine o_lenL ?_ | refine o_tupL ?_ | refine o_tupT ?_ | refine o_listL ?_ | refine o_listT ?_ | refine o_negI ?_ | refine o_intI ?_ | refine o_slT ?_ | refine o_slL ?_ | refine o_revT ?_ | refine o_revL ?_ | refine x_n ?_ | refine x_int ?_ | refine x_bl ?_ | refine x_tb ?_ | refine x_itT ?_ | refine x_itL ?_ | refine x_rt ?_ | refine rngQ ?_ ?_ | refine x_trT ?_ | refine x_trL ?_ | refine x_tri ?_ | refine o_max2 ?_ | refine o_min2 ?_ | refine o_addTs ?_ ?_ | refine o_addLs ?_ ?_) | (with_reducible refine And.intro ?_ ?_) | refine dec_imp fun _ => ?_ | refine decF_imp fun _ => ?_ | with_reducible (first | refine ndF_imp fun _ => ?_ | refine ndT_imp fun _ => ?_ | refine nF_imp ?_ | refine nT_imp ?_ | refine orF_imp ?_ | refine andT_imp ?_) | refine tr_imp fun _ => ?_ | refine fa_imp fun _ => ?_ | (intro x hx; refine Exists.intro _ (And.intro rfl ?_); try (have hx := List.mem_range.mp hx)) | (refine sd_lt ?_; first | assumption | omega | (simp only [List.length_map, List.length_range, List.length_cons, List.length_nil, List.length_append, List.length_set] at *; omega)) | (refine sd_le ?_; first | assumption | omega | (simp only [List.length_map, List.length_range, List.length_cons, List.length_nil, List.length_append, List.length_set] at *; omega)))
local macro_rules | `(tactic| walk_at "v") => `(tactic| (repeat' (walk_at "v1")))
abbrev s_bentB2 : SS := sSeq (sSet 2 (eCall drawF (aCons (eVar 0) (aCons (eCon (.int 8)) (aNil))))) (sSeq (sIf (tOf (eUn (fun d => (isT d .tuple).map .bl) (eBor 1))) (sRet (eBin ixD (eLst (aCons (eBin opAdd (eBor 1) (eSlice (eBor 1) none (some (eCon (.int 1))))) (aCons (eSlice (eBor 1) (some (eCon (.int 1))) none) (aCons (eUn revD (eBor 1)) (aCons (eBin opAdd (eBor 1) (eTup (aCons (eCon (.int 0)) (aNil)))) (aCons (eBin opAdd (eSlice (eBor 1) none (some (eCon (.int 1)))) (eBor 1)) (aCons (eSlice (eBor 1) none (some (eUn opNeg (eCon (.int 1))))) (aCons (eCon .non) (aCons (eSlice (eBor 1) none (some (eCon (.int 1)))) (aNil)))))))))) (eVar 2))) (sNx)) (sSeq (sIf (tAnd (tOf (eUn (fun d => (isT d .int).map .bl) (eBor 1))) (tNot (tOf (eUn (fun d => (isT d .bool).map .bl) (eBor 1))))) (sRet (eBin ixD (eLst (aCons (eBin opAdd (eBor 1) (eCon (.int 1))) (aCons (eBin opSub (eBor 1) (eCon (.int 1))) (aCons (eUn opNeg (eBor 1)) (aCons (eBin opEq (eBor 1) (eCon (.int 1))) (aCons (eCon .non) (aCons (eFn strD (aCons (eBor 1) aNil)) (aCons (eTup (aCons (eVar 1) (aNil))) (aCons (eBin opAdd (eBor 1) (eCon (.int 1001))) (aNil)))))))))) (eVar 2))) (sNx)) (sSeq (sIf (tOf (eUn (fun d => (isT d .str).map .bl) (eBor 1))) (sRet (eBin ixD (eLst (aCons (eBin opAdd (eBor 1) (eCon (.str "a"))) (aCons (eSlice (eBor 1) (some (eCon (.int 1))) none) (aCons (eCon (.str "any")) (aCons (eUn upD (eBor 1)) (aCons (eCon (.int 0)) (aCons (eCon (.str "")) (aCons (eBin opAdd (eBor 1) (eCon (.str "z0z0z0z0"))) (aCons (eTup (aCons (eVar 1) (aNil))) (aNil)))))))))) (eVar 2))) (sNx)) (sRet (eBin ixD (eLst (aCons (eCon (.int 0)) (aCons (eCon (.int 1)) (aCons (eCon .non) (aCons (eCon (.bl true)) (aCons (eCon (.bl false)) (aCons (eCon (.str "a")) (aCons (eTup (aNil)) (aCons (eUn opNeg (eCon (.int 1))) (aNil)))))))))) (eVar 2))))))
abbrev s_bentB (rec : Fn) : SS := sSeq (sIf (tAnd (tOf (eUn (fun d => (isT d .tuple).map .bl) (eBor 1))) (tAnd (tBl (eBin opGt (eFn lenD (aCons (eBor 1) aNil)) (eCon (.int 0)))) (tBl (eBin opGt (eCall drawF (aCons (eVar 0) (aCons (eCon (.int 5)) (aNil)))) (eCon (.int 0)))))) (sSeq (sSet 3 (eCall drawF (aCons (eVar 0) (aCons (eFn lenD (aCons (eBor 1) aNil)) (aNil))))) (sRet (eBin opAdd (eBin opAdd (eSlice (eBor 1) none (some (eVar 3))) (eTup (aCons (eCall rec (aCons (eVar 0) (aCons (eBin ixD (eBor 1) (eVar 3)) (aNil)))) (aNil)))) (eSlice (eBor 1) (some (eBin opAdd (eBor 3) (eCon (.int 1)))) none)))) (sNx)) s_bentB2
def f_bent2 : Nat → Fn
  | 0 => noFn
  | n + 1 => runF 4 (s_bentB (f_bent2 n))
mutual
/-- what may be bent: numbers, None, truth values, tuples -/
def bsi : D → Bool
  | .non => true
  | .bl _ => true
  | .int i => decide (i.natAbs ≤ 1000000000)
  | .tup xs => decide (xs.length ≤ 1000) && bsiL xs
  | _ => false
def bsiL : List D → Bool
  | [] => true
  | d :: ds => bsi d && bsiL ds
end
theorem bsiL_iff : ∀ {ds : List D}, bsiL ds = true ↔ ∀ d ∈ ds, bsi d = true
  | [] => by simp [bsiL]
  | d :: ds => by rw [bsiL, Bool.and_eq_true, bsiL_iff]; simp
theorem bsi_tup {xs : List D} : bsi (.tup xs) = true ↔ xs.length ≤ 1000 ∧ ∀ d ∈ xs, bsi d = true := by
  rw [bsi, Bool.and_eq_true, bsiL_iff, decide_eq_true_iff]
theorem bsi_map {α : Type} {e : α → D} {xs : List α} (hn : xs.length ≤ 1000) (h : ∀ x ∈ xs, bsi (e x) = true) : bsi (.tup (xs.map e)) = true := by
  rw [bsi_tup, List.length_map]
  refine ⟨hn, fun d hd => ?_⟩
  obtain ⟨x, hx, rfl⟩ := List.mem_map.mp hd
  exact h x hx
mutual
theorem bsi_gd : ∀ d : D, bsi d = true → gd d = true
  | .non, _ => rfl
  | .bl _, _ => rfl
  | .int _, _ => rfl
  | .str _, h => by simp [bsi] at h
  | .tup xs, h => by
    simp only [bsi, Bool.and_eq_true, decide_eq_true_iff] at h
    simp only [gd, Bool.and_eq_true, decide_eq_true_iff]
    exact ⟨by omega, bsiL_gd xs h.2⟩
  | .lst _, h => by simp [bsi] at h
  | .dct _, h => by simp [bsi] at h
  | .tok _, h => by simp [bsi] at h
theorem bsiL_gd : ∀ d : List D, bsiL d = true → gdL d = true
  | [], _ => rfl
  | d :: ds, h => by
    rw [bsiL, Bool.and_eq_true] at h
    rw [gdL, bsi_gd d h.1, bsiL_gd ds h.2]; rfl
end
theorem w_bent2 : ∀ (n : Nat) {v : D} {Q : D → Prop}, bsi v = true → v.dep < n → (∀ w, Bt v w → Q w) → Fw (f_bent2 n) [.tok 0, v] Q
  | 0, _, _, _, h, _ => absurd h (by omega)
  | n + 1, v, Q, hv, hd, q => by
    show Fw (runF 4 (s_bentB (f_bent2 n))) [.tok 0, v] Q
    refine fw_rt ?_
    have hs8 : ∀ (R : D → Prop), (∀ i : Int, 0 ≤ i → i < 8 → R (.int i)) → Fw drawF [.tok 0, .int 8] R := fun R h => fw_draw (by decide) (by decide) h
    cases v with
    | dct _ => cases hv
    | tok _ => cases hv
    | lst _ => cases hv
    | tup xs =>
      rw [bsi_tup] at hv
      have hg : ∀ d ∈ xs, gd d = true := fun d hd => bsi_gd d (hv.2 d hd)
      have hgt : gd (.tup xs) = true := gd_tup.mpr ⟨by omega, hg⟩
      have hcl : ∀ lo hi, (cutD xs lo hi).length ≤ 1000 := fun lo hi => Nat.le_trans (cutD_len _ _ _) hv.1
      have hcd : ∀ lo hi, D.depL (cutD xs lo hi) ≤ D.depL xs := fun lo hi => depL_sub cutD_sub
      have hsz : (1000000 : Nat) ≤ PySem.sizeLine := by rw [PySem.sizeLine_eq]; omega
      refine sw_seq (sw_if (tw_and (Tw.mono (Q := fun k => k = true) (fun bx => ⟨true, bx, rfl, rfl⟩) fun k ek => ⟨fun _ => ?_, fun z => (by rw [ek] at z; cases z)⟩)))
      have last : ∀ (ρ1 : Rho), ρ1 = [.frz (.tok 0), .frz (.tup xs), .emp, .emp] → Sw s_bentB2 ρ1 (RtQ Q) := fun ρ1 e1 => by
        subst e1
        refine sw_seq (sw_set (ew_call (aw_cons (ew_var rfl (aw_cons (ew_con (aw_nil (hs8 _ fun i h0 h1 => ?_))))))))
        refine sw_seq (sw_if (Tw.mono (Q := fun k => k = true) (fun bx => ⟨true, bx, rfl, rfl⟩) fun k ek => ⟨fun _ => ?_, fun z => (by rw [ek] at z; cases z)⟩))
        have hc1 := hcl none (some 1)
        have hd1 := hcd none (some 1)
        walk_at "w"
        refine o_addT (by omega) ?_
        walk_at "w"
        refine o_addT (by simp only [List.length_cons, List.length_nil]; omega) ?_
        walk_at "w"
        refine o_addT (by omega) ?_
        walk_at "w"
        refine o_pick h0 h1 fun x hx => ⟨_, rfl, q x ?_⟩
        simp only [List.mem_cons, List.not_mem_nil, or_false] at hx
        rcases hx with rfl | rfl | rfl | rfl | rfl | rfl | rfl | rfl
        · exact ⟨gd_appT hg (fun d hd => hg d (cutD_sub d hd)) (by omega), by simp only [D.dep]; have := depL_app (Nat.le_refl (D.depL xs)) hd1; omega⟩
        · exact ⟨gd_cutD hgt, by simp only [D.dep]; have := hcd (some 1) none; omega⟩
        · refine ⟨gd_tup.mpr ⟨by rw [List.length_reverse]; omega, fun d hd => hg d (List.mem_reverse.mp hd)⟩, ?_⟩
          simp only [D.dep]; have := depL_sub (xs := xs.reverse) (ys := xs) fun d hd => List.mem_reverse.mp hd; omega
        · refine ⟨gd_appT hg (fun d hd => by simp only [List.mem_cons, List.not_mem_nil, or_false] at hd; subst hd; rfl) (by simp only [List.length_cons, List.length_nil]; omega), ?_⟩
          simp only [D.dep]; have := depL_app (xs := xs) (ys := [.int 0]) (Nat.le_refl (D.depL xs)) (by simp [D.depL, D.dep]); omega
        · exact ⟨gd_appT (fun d hd => hg d (cutD_sub d hd)) hg (by omega), by simp only [D.dep]; have := depL_app hd1 (Nat.le_refl (D.depL xs)); omega⟩
        · exact ⟨gd_cutD hgt, by simp only [D.dep]; have := hcd none (some (-1)); omega⟩
        · exact ⟨rfl, by simp [D.dep]⟩
        · exact ⟨gd_cutD hgt, by simp only [D.dep]; have := hcd none (some 1); omega⟩
      refine tw_and ?_
      walk_at "w"
      refine ⟨fun e => ?_, fun _ => ⟨(fun z => by cases z), fun _ => sw_nx (last _ rfl)⟩⟩
      have hpos : 0 < xs.length := by have := of_decide_eq_true e; omega
      walk_at "w"
      refine fw_draw (by decide) (by decide) fun i0 h00 h01 => ?_
      walk_at "w"
      refine ⟨fun _ => ?_, fun _ => sw_nx (last _ rfl)⟩
      walk_at "w"
      refine fw_draw (n := (xs.length : Int)) (by omega) (by omega) fun at' h0 h1 => ?_
      have hat : at'.toNat < xs.length := by omega
      have hm : xs[at'.toNat] ∈ xs := List.getElem_mem hat
      walk_at "w"
      refine ⟨xs[at'.toNat], by rw [ixD, atI_pos h0, List.getElem?_eq_getElem hat], ?_⟩
      walk_at "w"
      refine w_bent2 n (hv.2 _ hm) (by have := dep_mem hm; omega) fun w hw => ?_
      have hc1 := hcl none (some at')
      have hc2 := hcl (some (at' + 1)) none
      have hdm := depL_le.mp (Nat.le_refl _) _ hm
      walk_at "w"
      refine o_addT (by simp only [List.length_cons, List.length_nil]; omega) ?_
      walk_at "w"
      refine o_addT (by simp only [List.length_append, List.length_cons, List.length_nil]; omega) ⟨_, rfl, q _ ⟨?_, ?_⟩⟩
      · refine gd_appT (fun d hd => ?_) (fun d hd => hg d (cutD_sub d hd)) (by simp only [List.length_append, List.length_cons, List.length_nil]; omega)
        rcases List.mem_append.mp hd with h | h
        · exact hg d (cutD_sub d h)
        · simp only [List.mem_cons, List.not_mem_nil, or_false] at h
          subst h; exact hw.1
      · have h1' := hcd none (some at')
        have h2' := hcd (some (at' + 1)) none
        have h3' : D.depL [w] ≤ D.depL xs + 2 := by have := hw.2; simp only [D.depL]; omega
        simp only [D.dep]
        have := depL_app (n := D.depL xs + 2) (depL_app (n := D.depL xs + 2) (by omega : D.depL (cutD xs none (some at')) ≤ _) h3') (by omega : D.depL (cutD xs (some (at' + 1)) none) ≤ _)
        omega
    | non =>
      refine sw_seq (sw_if (Tw.mono (Q := fun k => k = false) (fun bx => ⟨false, bx, rfl, rfl⟩) fun k ek => ⟨fun z => (by rw [ek] at z; cases z), fun _ => sw_nx ?_⟩))
      walk_at "w"
      refine hs8 _ fun i h0 h1 => ?_
      refine sw_seq (sw_if (Tw.mono (Q := fun k => k = false) (fun bx => ⟨false, bx, rfl, rfl⟩) fun k ek => ⟨fun z => (by rw [ek] at z; cases z), fun _ => sw_nx ?_⟩))
      refine sw_seq (sw_if (Tw.mono (Q := fun k => k = false) (fun bx => ⟨false, bx, rfl, rfl⟩) fun k ek => ⟨fun z => (by rw [ek] at z; cases z), fun _ => sw_nx ?_⟩))
      refine sw_seq (sw_if (Tw.mono (Q := fun k => k = false) (fun bx => ⟨false, bx, rfl, rfl⟩) fun k ek => ⟨fun z => (by rw [ek] at z; cases z), fun _ => sw_nx ?_⟩))
      walk_at "w"
      refine o_pick h0 h1 fun x hx => q x ?_
      simp only [List.mem_cons, List.not_mem_nil, or_false] at hx
      rcases hx with rfl | rfl | rfl | rfl | rfl | rfl | rfl | rfl <;> exact ⟨by decide +kernel, by simp [D.dep, D.depL]⟩
    | bl y =>
      refine sw_seq (sw_if (Tw.mono (Q := fun k => k = false) (fun bx => ⟨false, bx, rfl, rfl⟩) fun k ek => ⟨fun z => (by rw [ek] at z; cases z), fun _ => sw_nx ?_⟩))
      walk_at "w"
      refine hs8 _ fun i h0 h1 => ?_
      refine sw_seq (sw_if (Tw.mono (Q := fun k => k = false) (fun bx => ⟨false, bx, rfl, rfl⟩) fun k ek => ⟨fun z => (by rw [ek] at z; cases z), fun _ => sw_nx ?_⟩))
      refine sw_seq (sw_if (Tw.mono (Q := fun k => k = false) (fun bx => ⟨false, bx, rfl, rfl⟩) fun k ek => ⟨fun z => (by rw [ek] at z; cases z), fun _ => sw_nx ?_⟩))
      refine sw_seq (sw_if (Tw.mono (Q := fun k => k = false) (fun bx => ⟨false, bx, rfl, rfl⟩) fun k ek => ⟨fun z => (by rw [ek] at z; cases z), fun _ => sw_nx ?_⟩))
      walk_at "w"
      refine o_pick h0 h1 fun x hx => q x ?_
      simp only [List.mem_cons, List.not_mem_nil, or_false] at hx
      rcases hx with rfl | rfl | rfl | rfl | rfl | rfl | rfl | rfl <;> exact ⟨by decide +kernel, by simp [D.dep, D.depL]⟩
    | int z =>
      have hz : z.natAbs ≤ 1000000000 := by simpa [bsi] using hv
      refine sw_seq (sw_if (Tw.mono (Q := fun k => k = false) (fun bx => ⟨false, bx, rfl, rfl⟩) fun k ek => ⟨fun z => (by rw [ek] at z; cases z), fun _ => sw_nx ?_⟩))
      walk_at "w"
      refine hs8 _ fun i h0 h1 => ?_
      refine sw_seq (sw_if (Tw.mono (Q := fun k => k = false) (fun bx => ⟨false, bx, rfl, rfl⟩) fun k ek => ⟨fun z => (by rw [ek] at z; cases z), fun _ => sw_nx ?_⟩))
      refine sw_seq (sw_if (Tw.mono (Q := fun k => k = true) (fun bx => ⟨true, bx, rfl, rfl⟩) fun k ek => ⟨fun _ => ?_, fun z => (by rw [ek] at z; cases z)⟩))
      have hlog : z.natAbs.log2 < 1920 := by
        by_cases hz0 : z.natAbs = 0
        · rw [hz0]; decide
        · rw [Nat.log2_lt hz0]
          exact Nat.lt_of_le_of_lt hz (by decide)
      walk_at "w"
      refine ⟨.str (toString z : String), by rw [strD, if_pos hlog], ?_⟩
      walk_at "w"
      refine o_pick h0 h1 fun x hx => ⟨_, rfl, q x ?_⟩
      simp only [List.mem_cons, List.not_mem_nil, or_false] at hx
      rcases hx with rfl | rfl | rfl | rfl | rfl | rfl | rfl | rfl
      · exact ⟨rfl, by simp [D.dep]⟩
      · exact ⟨rfl, by simp [D.dep]⟩
      · exact ⟨rfl, by simp [D.dep]⟩
      · exact ⟨rfl, by simp [D.dep]⟩
      · exact ⟨rfl, by simp [D.dep]⟩
      · exact ⟨gd_lit _, by simp [D.dep]⟩
      · exact ⟨rfl, by simp [D.dep, D.depL]⟩
      · exact ⟨rfl, by simp [D.dep]⟩
    | str _ => cases hv

/-! ### rows one behind the other -/
abbrev s_flat : SS := sSeq (sNew 1 (eLst (aNil))) (sSeq (sFor (iSeq (eVar 0)) (gNm 2) (sExprM (mMeth 1 kExt (mOne (mUp (eVar 2)))))) (sSeq (sFz 1) (sRet (eVar 1))))
theorem w_flatG {α : Type} {e : α → D} {rows : List (List α)} {Q : D → Prop} (hn : rows.flatten.length ≤ 1000000) (q : Q (.lst (rows.flatten.map e))) : Fw (runF 3 s_flat) [.lst (rows.map fun r => .lst (r.map e))] Q := by
  refine fw_rt ?_
  walk_at "v"
  refine sw_forR rows.length (fun k => .lst ((rows.getD k []).map e)) (fun i ρ => ∃ x2, ρ = [Sl.frz (.lst (rows.map fun r => .lst (r.map e))), .own (.lst (((rows.take i).flatten).map e)), x2]) ?_ ⟨.emp, rfl⟩ ?_ ?_
  · walk_at "v"
    exact map_range [] (fun r : List α => D.lst (r.map e)) rows
  · rintro i hi _ ⟨x2, rfl⟩
    refine ⟨_, rfl, ?_⟩
    have ht : rows.take (i + 1) = rows.take i ++ [rows.getD i []] := by rw [List.take_succ_eq_append_getElem hi, getD_eq [] hi]
    have e2 : (rows.take (i + 1)).flatten = (rows.take i).flatten ++ rows.getD i [] := by rw [ht]; simp
    have hl : (rows.take i).flatten.length + (rows.getD i []).length ≤ 1000000 := by
      have e1 : rows.flatten = (rows.take (i + 1)).flatten ++ (rows.drop (i + 1)).flatten := by rw [← List.flatten_append, List.take_append_drop]
      have := congrArg List.length e1
      rw [e2] at this
      simp only [List.length_append] at this
      omega
    walk_at "v"
    refine mw_ext (e := e) (xs := (rows.take i).flatten) rfl ?_
    walk_at "v"
    exact ⟨rows.getD i [], rfl, hl, _, by rw [e2]; rfl⟩
  · rintro _ ⟨x2, rfl⟩
    rw [List.take_length]
    refine sw_seq (sw_fz rfl ?_)
    walk_at "v"
    exact q
/-! ### bent values in use -/
def Ed (d : D) : Prop := gd d = true ∧ d.dep ≤ 11
theorem vd_tup {xs : List D} (hl : xs.length ≤ 1000000) (h : ∀ d ∈ xs, Ed d) : Vd (.tup xs) := ⟨gd_tup.mpr ⟨hl, fun d hd => (h d hd).1⟩, dep_tup fun d hd => (h d hd).2⟩
theorem ed_tup {xs : List D} {n : Nat} (hl : xs.length ≤ 1000000) (h : ∀ d ∈ xs, gd d = true ∧ d.dep ≤ n) (hn : n ≤ 10) : Ed (.tup xs) := ⟨gd_tup.mpr ⟨hl, fun d hd => (h d hd).1⟩, Nat.le_trans (dep_tup fun d hd => (h d hd).2) (by omega)⟩
theorem ed_int (i : Int) : Ed (.int i) := ⟨rfl, by simp [D.dep]⟩
theorem all_nE {ks : List Nat} : ∀ d ∈ ks.map nE, Ed d := fun d hd => by obtain ⟨k, _, rfl⟩ := List.mem_map.mp hd; exact ed_int _
theorem Ed.vd {d : D} (h : Ed d) : Vd d := ⟨h.1, by have := h.2; omega⟩
theorem Vd.plain {d : D} (h : Vd d) : d.plain = true := gd_plain d h.1
/-- [bent(box, value) for .. in range(m)] -/
theorem ew_bents {ρ : Rho} {m i st : Nat} {v : D} {F : Fn} {fv : Ex} (hF : ∀ {Q : D → Prop}, (∀ w, Bt v w → Q w) → Fw F [.tok 0, v] Q) (hm : m ≤ 100) (hd : v.dep ≤ 10) (e1 : ∀ d, ((wipeR ρ [st]).set st (Sl.frz d))[i]? = some (.frz (.tok 0))) (e2 : ∀ d, Ew fv ((wipeR ρ [st]).set st (Sl.frz d)) fun x => x = v) {Q : D → Prop}
    (q : ∀ rs : List D, rs.length = m → (∀ d ∈ rs, Vd d) → Q (.lst rs)) : Ew (eLc (iRange (aCons (eCon (.int (m : Nat))) (aNil))) (gNm st) (tYes') (eCall F (aCons (eVar i) (aCons fv (aNil)))) [st]) ρ Q := by
  refine ew_lcV Vd ((List.range m).map nE) (iw_rangeN m (aw_cons (ew_con (aw_nil ⟨rfl, by omega, rfl⟩)))) (fun d _ => ⟨_, rfl, ?_⟩) fun rs hl hv => q rs (by simpa using hl) hv
  refine ew_call (aw_cons (ew_var (e1 _) (aw_cons ((e2 _).mono fun x ex => ?_))))
  subst ex
  exact aw_nil (hF fun w hw => ⟨hw.1, by have := hw.2; omega⟩)
/-- for, over so many things at most -/
theorem sw_forD {ρ : Rho} {Q : Fl → Rho → Prop} {s : SS} {it : It} {g : Tg} (N : Nat) (I : Nat → Rho → Prop) (hi : Iw it ρ fun xs => xs.length ≤ N) (h0 : I 0 ρ)
    (hs : ∀ i d ρ1, i < N → I i ρ1 → ∃ ρ2, g d ρ1 = some ρ2 ∧ Sw s ρ2 (LpQ (I (i + 1)) Q)) (q : ∀ i ρ1, i ≤ N → I i ρ1 → Q .nx ρ1) : Sw (sFor it g s) ρ Q := fun b => by
  obtain ⟨ds, b1, e1, hl⟩ := hi b
  have go : ∀ (ds : List D) (i : Nat) (ρ1 : Rho) (b : Bx), i + ds.length ≤ N → I i ρ1 → ∃ fl ρ' b', forGo g s ds ρ1 b = some (fl, ρ', b') ∧ Q fl ρ' := by
    intro ds
    induction ds with
    | nil => exact fun i ρ1 b hi r => ⟨.nx, ρ1, b, rfl, q i _ (by simpa using hi) r⟩
    | cons d ds ih =>
      intro i ρ1 b hi r
      rw [List.length_cons] at hi
      obtain ⟨ρ2, e1, h⟩ := hs i d ρ1 (by omega) r
      obtain ⟨fl, ρ3, b2, e2, h⟩ := h b
      cases fl with
      | nx =>
        obtain ⟨fl, ρ', b', e3, q'⟩ := ih (i + 1) ρ3 b2 (by omega) h
        exact ⟨fl, ρ', b', by unfold forGo; simp only [e1, e2, e3], q'⟩
      | ct =>
        obtain ⟨fl, ρ', b', e3, q'⟩ := ih (i + 1) ρ3 b2 (by omega) h
        exact ⟨fl, ρ', b', by unfold forGo; simp only [e1, e2, e3], q'⟩
      | bk => exact ⟨.nx, ρ3, b2, by unfold forGo; simp only [e1, e2], h⟩
      | rt d => exact ⟨.rt d, ρ3, b2, by unfold forGo; simp only [e1, e2], h⟩
  obtain ⟨fl, ρ', b', e2, q'⟩ := go ds 0 ρ b1 (by omega) h0
  exact ⟨fl, ρ', b', by unfold sFor; rw [e1]; exact e2, q'⟩
theorem iw_rangeD {ρ : Rho} {ag : As} {N : Nat} (hN : N ≤ 16777216) (h : Aw ag ρ fun ds => ∃ n : Nat, ds = [nE n] ∧ n ≤ N) : Iw (iRange ag) ρ fun xs => xs.length ≤ N :=
  iw_rangeI (h.mono fun ds ⟨n, e, hn⟩ => by rw [e]; exact rngQ (by omega) (by simpa using hn))
/-- a comprehension of so many kinds at most .. of so many things, each of a kind -/
theorem ew_lcN {β : Type} {ρ : Rho} {Q : D → Prop} {f : Ex} {it : It} {g : Tg} {vs : List Nat} (n : Nat) (enc : Nat → D) (enc' : β → D) (P : Nat → β → Prop) (dflt : β) (hi : Iw it ρ fun ds => ds = (List.range n).map enc)
    (hs : ∀ x, x < n → ∃ ρ1, g (enc x) (wipeR ρ vs) = some ρ1 ∧ Ew f ρ1 fun r => ∃ y, r = enc' y ∧ P x y) (q : ∀ ys : List β, ys.length = n → (∀ i, i < n → P i (ys.getD i dflt)) → Q (.lst (ys.map enc'))) : Ew (eLc it g tYes' f vs) ρ Q :=
  ew_lcK (List.range n) enc enc' P hi (fun x hx => hs x (List.mem_range.mp hx)) fun ys hl hp => q ys (by simpa using hl) fun i hi => hp i i _ (by rw [List.getElem?_range hi]) (by
    rw [getD_eq dflt (by simp at hl; omega), List.getElem?_eq_getElem])
theorem fw_drawN {n : Nat} {Q : D → Prop} (h0 : 0 < n) (h1 : n < 2 ^ 30) (q : ∀ i : Nat, i < n → Q (nE i)) : Fw drawF [.tok 0, .int (n : Int)] Q :=
  fw_draw (by omega) (by omega) fun i h0 h1 => by
    obtain ⟨i, rfl⟩ := Int.eq_ofNat_of_zero_le h0
    exact q i (by omega)
theorem ew_ifN {ρ : Rho} {Q : D → Prop} {t : Tx} {f f' : Ex} {x y : Nat} (h : Tw t ρ fun k => (k = true → Ew f ρ fun d => d = nE x) ∧ (k = false → Ew f' ρ fun d => d = nE y) ∧ Q (nE (if k = true then x else y))) : Ew (eIf t f f') ρ Q :=
  ew_ifV (h.mono fun k ⟨h1, h2, q⟩ => ⟨h1, h2, by cases k <;> exact q⟩)
theorem o_eqNilL {α : Type} [DecidableEq α] {e : α → D} {n : Nat} (he : Enc e n) {xs : List α} {Q : D → Prop} (q : Q (.bl xs.isEmpty)) (hn : n ≤ 49 := by decide) : OrW (opEq (.lst (xs.map e)) (.lst [])) Q :=
  o_eqE (e := fun xs : List α => D.lst (xs.map e)) he.lst (x := xs) (y := []) (by cases xs <;> simpa using q) (by omega)
theorem o_neNilL {α : Type} [DecidableEq α] {e : α → D} {n : Nat} (he : Enc e n) {xs : List α} {Q : D → Prop} (q : Q (.bl (!xs.isEmpty))) (hn : n ≤ 49 := by decide) : OrW (opNe (.lst (xs.map e)) (.lst [])) Q :=
  o_neE (e := fun xs : List α => D.lst (xs.map e)) he.lst (x := xs) (y := []) (by cases xs <;> simpa using q) (by omega)
theorem o_eqNilT {α : Type} [DecidableEq α] {e : α → D} {n : Nat} (he : Enc e n) {xs : List α} {Q : D → Prop} (q : Q (.bl xs.isEmpty)) (hn : n ≤ 49 := by decide) : OrW (opEq (.tup (xs.map e)) (.tup [])) Q :=
  o_eqE (e := fun xs : List α => D.tup (xs.map e)) he.tup (x := xs) (y := []) (by cases xs <;> simpa using q) (by omega)
theorem o_neNilT {α : Type} [DecidableEq α] {e : α → D} {n : Nat} (he : Enc e n) {xs : List α} {Q : D → Prop} (q : Q (.bl (!xs.isEmpty))) (hn : n ≤ 49 := by decide) : OrW (opNe (.tup (xs.map e)) (.tup [])) Q :=
  o_neE (e := fun xs : List α => D.tup (xs.map e)) he.tup (x := xs) (y := []) (by cases xs <;> simpa using q) (by omega)
theorem head_none {α : Type} (xs : List α) : xs.head?.isNone = xs.isEmpty := by cases xs <;> rfl
/-- data that == may be asked of, and same -/
def Gd (n : Nat) (d : D) : Prop := gd d = true ∧ d.dep ≤ n
theorem Gd.le {n m : Nat} {d : D} (h : Gd n d) (hm : n ≤ m) : Gd m d := ⟨h.1, Nat.le_trans h.2 hm⟩
theorem gd_int' (i : Int) : Gd 0 (.int i) := ⟨rfl, Nat.le_refl _⟩
theorem gd_bl' (i : Bool) : Gd 0 (.bl i) := ⟨rfl, Nat.le_refl _⟩
theorem gd_non' : Gd 0 .non := ⟨rfl, Nat.le_refl _⟩
theorem gd_str' (x : String) : Gd 0 (.str x) := ⟨gd_lit x, Nat.le_refl _⟩
theorem gd_tupM {α : Type} {e : α → D} {xs : List α} {n : Nat} (hl : xs.length ≤ 1000000) (h : ∀ x ∈ xs, Gd n (e x)) : Gd (n + 1) (.tup (xs.map e)) := ⟨gd_map hl fun x hx => (h x hx).1, dep_map fun x hx => (h x hx).2⟩
theorem gd_lstM {α : Type} {e : α → D} {xs : List α} {n : Nat} (hl : xs.length ≤ 1000000) (h : ∀ x ∈ xs, Gd n (e x)) : Gd (n + 1) (.lst (xs.map e)) := ⟨gd_lst.mpr ⟨by rw [List.length_map]; exact hl, fun d hd => by obtain ⟨x, hx, rfl⟩ := List.mem_map.mp hd; exact (h x hx).1⟩, by
  simp only [D.dep]
  exact Nat.succ_le_succ (depL_le.mpr fun d hd => by obtain ⟨x, hx, rfl⟩ := List.mem_map.mp hd; exact (h x hx).2)⟩
theorem gd_tupL {xs : List D} {n : Nat} (hl : xs.length ≤ 1000000) (h : ∀ x ∈ xs, Gd n x) : Gd (n + 1) (.tup xs) := ⟨gd_tup.mpr ⟨hl, fun d hd => (h d hd).1⟩, dep_tup fun d hd => (h d hd).2⟩
theorem gd_all0 {n : Nat} : ∀ x ∈ ([] : List D), Gd n x := fun x h => absurd h (by simp)
theorem gd_allC {n : Nat} {d : D} {ds : List D} (h : Gd n d) (t : ∀ x ∈ ds, Gd n x) : ∀ x ∈ d :: ds, Gd n x := fun x hx => by
  rcases List.mem_cons.mp hx with e | e
  · rw [e]; exact h
  · exact t x e
theorem gd_tIn {xs : List Int} {n : Nat} (hl : xs.length ≤ 1000000) : Gd (n + 1) (tI xs) := gd_tupM hl fun _ _ => (gd_int' _).le (by omega)
theorem gd_tNn {xs : List Nat} {n : Nat} (hl : xs.length ≤ 1000000) : Gd (n + 1) (tN xs) := gd_tupM hl fun _ _ => (gd_int' _).le (by omega)
theorem gd_lNn {xs : List Nat} {n : Nat} (hl : xs.length ≤ 1000000) : Gd (n + 1) (lN xs) := gd_lstM hl fun _ _ => (gd_int' _).le (by omega)
theorem sw_setV {ρ : Rho} {Q : Fl → Rho → Prop} {f : Ex} {i : Nat} (v : D) (h : Ew f ρ fun d => d = v) (q : Q .nx (ρ.set i (.frz v))) : Sw (sSet i f) ρ Q := sw_set (h.mono fun d e => by rw [e]; exact q)
theorem cut_set {α : Type} (e : α → D) {xs : List α} {k : Nat} (y : α) (h : k < xs.length) : cutD (xs.map e) none (some (k : Int)) ++ [e y] ++ cutD (xs.map e) (some ((k + 1 : Nat) : Int)) none = (xs.set k y).map e := by
  rw [cut_take e _ (by omega), cut_drop e _ (by omega), List.set_eq_take_append_cons_drop, if_pos h]
  simp
end Sv

set_option maxHeartbeats 1000000
/-! Pl7: sets kept as dicts of tuples, how many are different, mixed targets -/
namespace Sv
open PySem (Str PyData)
theorem nodup_sub {α : Type} [DecidableEq α] : ∀ (xs ys : List α), xs.Nodup → (∀ x ∈ xs, x ∈ ys) → xs.length ≤ ys.length
  | [], _, _, _ => Nat.zero_le _
  | x :: xs, ys, hn, h => by
    rw [List.nodup_cons] at hn
    have hx := h x List.mem_cons_self
    have ih := nodup_sub xs (ys.erase x) hn.2 fun y hy => (List.mem_erase_of_ne (fun (e : y = x) => hn.1 (e ▸ hy))).mpr (h y (List.mem_cons_of_mem _ hy))
    rw [List.length_erase_of_mem hx] at ih
    have : 0 < ys.length := List.length_pos_of_mem hx
    rw [List.length_cons]; omega
theorem dup_of {α : Type} [DecidableEq α] : ∀ {xs : List α}, ¬ xs.Nodup → ∃ a, a ∈ xs ∧ a ∈ xs.erase a
  | [], h => absurd List.nodup_nil h
  | x :: xs, h => by
    by_cases hx : x ∈ xs
    · exact ⟨x, List.mem_cons_self, by rw [List.erase_cons_head]; exact hx⟩
    · obtain ⟨a, h1, h2⟩ := dup_of (xs := xs) fun z => h (List.nodup_cons.mpr ⟨hx, z⟩)
      have hne : x ≠ a := fun e => hx (e ▸ h1)
      exact ⟨a, List.mem_cons_of_mem _ h1, by rw [List.erase_cons_tail (by simpa using hne)]; exact List.mem_cons_of_mem _ h2⟩
theorem ddI_len (ns : List Int) : decide ((ddI ns).length = ns.length) = decide ns.Nodup := by
  have h1 := nodup_sub (ddI ns) ns (ddI_nodup ns) fun x hx => (ddI_mem ns x).mp hx
  by_cases h : ns.Nodup
  · have h2 := nodup_sub ns (ddI ns) h fun x hx => (ddI_mem ns x).mpr hx
    rw [decide_eq_true h, decide_eq_true (by omega)]
  · obtain ⟨a, ha, ha2⟩ := dup_of h
    have h2 := nodup_sub (ddI ns) (ns.erase a) (ddI_nodup ns) fun x hx => by
      have := (ddI_mem ns x).mp hx
      by_cases e : x = a
      · rw [e]; exact ha2
      · exact (List.mem_erase_of_ne e).mpr this
    rw [List.length_erase_of_mem ha] at h2
    have := List.length_pos_of_mem ha
    rw [decide_eq_false h, decide_eq_false (by omega)]
theorem intsD_int : ∀ xs : List Int, intsD (xs.map D.int) = some xs
  | [] => rfl
  | x :: xs => by rw [List.map_cons, intsD, intsD_int xs]; rfl
theorem o_lenSetT {ns : List Int} {Q : D → Prop} (hl : ns.length ≤ 4000) (q : Q (.int (ddI ns).length)) : OrW (lenSetD [.tup (ns.map D.int)]) Q :=
  .of (by rw [lenSetD, if_pos (by rw [List.length_map]; exact hl), intsD_int]; rfl) q
theorem o_lenSetL {ns : List Int} {Q : D → Prop} (hl : ns.length ≤ 4000) (q : Q (.int (ddI ns).length)) : OrW (lenSetD [.lst (ns.map D.int)]) Q :=
  .of (by rw [lenSetD, if_pos (by rw [List.length_map]; exact hl), intsD_int]; rfl) q
local macro_rules | `(tactic| walk_at "w") => `(tactic| (repeat' (first | with_reducible (first | refine sw_seq ?_ | refine sw_set ?_ | refine sw_new ?_ | refine sw_asg ?_ | refine sw_rt ?_ | refine sw_ret ?_ | refine sw_if ?_ | refine sw_par ?_ | refine sw_nx ?_ | refine sw_exprM ?_ | refine kw_nil ?_ | refine kw_frz ?_ | refine kw_new ?_ | refine ew_con ?_ | refine ew_bin ?_ | refine ew_un ?_ | refine ew_tup ?_ | refine ew_lst ?_ | refine ew_fn ?_ | refine ew_call ?_ | refine ew_callO ?_ | refine ew_if ?_ | refine ew_not ?_ | refine ew_chain ?_ | refine ew_slice ?_ | refine ow_none ?_ | refine ow_some ?_ | refine tw_bl ?_ | refine tw_of ?_ | refine tw_not ?_ | refine tw_yes ?_ | refine aw_nil ?_ | refine aw_cons ?_ | refine iw_seq ?_ | refine iw_enum ?_ | refine iw_zip ?_) | refine ew_var rfl ?_ | refine ew_bor rfl ?_ | refine ew_borO rfl ?_ | refine o_eqI ?_ | refine o_neI ?_ | refine o_lt ?_ | refine o_gt ?_ | refine o_le ?_ | refine o_ge ?_ | refine o_all ?_ | refine o_any ?_ | refine o_sum ?_ | refine o_addI ?_ | refine o_subI ?_ | refine o_lenT ?_ | refine o_lenL ?_ | refine o_tupL ?_ | refine o_tupT ?_ | refine o_listL ?_ | refine o_listT ?_ | refine o_negI ?_ | refine o_intI ?_ | refine o_slT ?_ | refine o_slL ?_ | refine o_revT ?_ | refine o_revL ?_ | refine x_int ?_ | refine x_bl ?_ | refine x_tb ?_ | refine x_itT ?_ | refine x_itL ?_ | refine x_rt ?_)))
/-! ### how long bent data are -/
def lenT : D → Nat
  | .tup xs => xs.length
  | _ => 0
theorem w_bentL : ∀ (n : Nat) {v : D} {Q : D → Prop}, bs v = true → v.dep < n → (∀ w, lenT w ≤ 2001 → Q w) → Fw (f_bent n) [.tok 0, v] Q
  | 0, _, _, _, h, _ => absurd h (by omega)
  | n + 1, v, Q, hv, hd, q => by
    show Fw (runF 4 (s_bent (f_bent n))) [.tok 0, v] Q
    refine fw_rt ?_
    have hs8 : ∀ (R : D → Prop), (∀ i : Int, 0 ≤ i → i < 8 → R (.int i)) → Fw drawF [.tok 0, .int 8] R := fun R h => fw_draw (by decide) (by decide) h
    cases v with
    | dct _ => cases hv
    | tok _ => cases hv
    | lst _ => cases hv
    | tup xs =>
      rw [bs_tup] at hv
      have hg : ∀ d ∈ xs, gd d = true := fun d hd => bs_gd d (hv.2 d hd)
      have hgt : gd (.tup xs) = true := gd_tup.mpr ⟨by omega, hg⟩
      have hcl : ∀ lo hi, (cutD xs lo hi).length ≤ 1000 := fun lo hi => Nat.le_trans (cutD_len _ _ _) hv.1
      have hcd : ∀ lo hi, D.depL (cutD xs lo hi) ≤ D.depL xs := fun lo hi => depL_sub cutD_sub
      have hsz : (1000000 : Nat) ≤ PySem.sizeLine := by rw [PySem.sizeLine_eq]; omega
      refine sw_seq (sw_if (tw_and (Tw.mono (Q := fun k => k = true) (fun bx => ⟨true, bx, rfl, rfl⟩) fun k ek => ⟨fun _ => ?_, fun z => (by rw [ek] at z; cases z)⟩)))
      have last : ∀ (ρ1 : Rho), ρ1 = [.frz (.tok 0), .frz (.tup xs), .emp, .emp] → Sw s_bent2 ρ1 (RtQ Q) := fun ρ1 e1 => by
        subst e1
        refine sw_seq (sw_set (ew_call (aw_cons (ew_var rfl (aw_cons (ew_con (aw_nil (hs8 _ fun i h0 h1 => ?_))))))))
        refine sw_seq (sw_if (Tw.mono (Q := fun k => k = true) (fun bx => ⟨true, bx, rfl, rfl⟩) fun k ek => ⟨fun _ => ?_, fun z => (by rw [ek] at z; cases z)⟩))
        have hc1 := hcl none (some 1)
        have hd1 := hcd none (some 1)
        walk_at "w"
        refine o_addT (by omega) ?_
        walk_at "w"
        refine o_addT (by simp only [List.length_cons, List.length_nil]; omega) ?_
        walk_at "w"
        refine o_addT (by simp only [List.length_cons, List.length_nil]; omega) ?_
        walk_at "w"
        refine o_pick h0 h1 fun x hx => ⟨_, rfl, q x ?_⟩
        simp only [List.mem_cons, List.not_mem_nil, or_false] at hx
        rcases hx with rfl | rfl | rfl | rfl | rfl | rfl | rfl | rfl
        all_goals simp only [lenT, List.length_append, List.length_cons, List.length_nil, List.length_reverse]
        all_goals have hc2 := hcl (some 1) none
        all_goals have hc3 := hcl none (some (-1))
        all_goals omega
      refine tw_and ?_
      walk_at "w"
      refine ⟨fun e => ?_, fun _ => ⟨(fun z => by cases z), fun _ => sw_nx (last _ rfl)⟩⟩
      have hpos : 0 < xs.length := by have := of_decide_eq_true e; omega
      walk_at "w"
      refine fw_draw (by decide) (by decide) fun i0 h00 h01 => ?_
      walk_at "w"
      refine ⟨fun _ => ?_, fun _ => sw_nx (last _ rfl)⟩
      walk_at "w"
      refine fw_draw (n := (xs.length : Int)) (by omega) (by omega) fun at' h0 h1 => ?_
      have hat : at'.toNat < xs.length := by omega
      have hm : xs[at'.toNat] ∈ xs := List.getElem_mem hat
      walk_at "w"
      refine ⟨xs[at'.toNat], by rw [ixD, atI_pos h0, List.getElem?_eq_getElem hat], ?_⟩
      walk_at "w"
      refine w_bentL n (hv.2 _ hm) (by have := dep_mem hm; omega) fun w hw => ?_
      have hc1 := hcl none (some at')
      have hc2 := hcl (some (at' + 1)) none
      have hdm := depL_le.mp (Nat.le_refl _) _ hm
      walk_at "w"
      refine o_addT (by simp only [List.length_cons, List.length_nil]; omega) ?_
      walk_at "w"
      refine o_addT (by simp only [List.length_append, List.length_cons, List.length_nil]; omega) ⟨_, rfl, q _ ?_⟩
      simp only [lenT, List.length_append, List.length_cons, List.length_nil]
      omega
    | non =>
      refine sw_seq (sw_if (Tw.mono (Q := fun k => k = false) (fun bx => ⟨false, bx, rfl, rfl⟩) fun k ek => ⟨fun z => (by rw [ek] at z; cases z), fun _ => sw_nx ?_⟩))
      walk_at "w"
      refine hs8 _ fun i h0 h1 => ?_
      refine sw_seq (sw_if (Tw.mono (Q := fun k => k = false) (fun bx => ⟨false, bx, rfl, rfl⟩) fun k ek => ⟨fun z => (by rw [ek] at z; cases z), fun _ => sw_nx ?_⟩))
      refine sw_seq (sw_if (Tw.mono (Q := fun k => k = false) (fun bx => ⟨false, bx, rfl, rfl⟩) fun k ek => ⟨fun z => (by rw [ek] at z; cases z), fun _ => sw_nx ?_⟩))
      refine sw_seq (sw_if (Tw.mono (Q := fun k => k = false) (fun bx => ⟨false, bx, rfl, rfl⟩) fun k ek => ⟨fun z => (by rw [ek] at z; cases z), fun _ => sw_nx ?_⟩))
      walk_at "w"
      refine o_pick h0 h1 fun x hx => q x ?_
      simp only [List.mem_cons, List.not_mem_nil, or_false] at hx
      rcases hx with rfl | rfl | rfl | rfl | rfl | rfl | rfl | rfl <;> simp [lenT]
    | bl y =>
      refine sw_seq (sw_if (Tw.mono (Q := fun k => k = false) (fun bx => ⟨false, bx, rfl, rfl⟩) fun k ek => ⟨fun z => (by rw [ek] at z; cases z), fun _ => sw_nx ?_⟩))
      walk_at "w"
      refine hs8 _ fun i h0 h1 => ?_
      refine sw_seq (sw_if (Tw.mono (Q := fun k => k = false) (fun bx => ⟨false, bx, rfl, rfl⟩) fun k ek => ⟨fun z => (by rw [ek] at z; cases z), fun _ => sw_nx ?_⟩))
      refine sw_seq (sw_if (Tw.mono (Q := fun k => k = false) (fun bx => ⟨false, bx, rfl, rfl⟩) fun k ek => ⟨fun z => (by rw [ek] at z; cases z), fun _ => sw_nx ?_⟩))
      refine sw_seq (sw_if (Tw.mono (Q := fun k => k = false) (fun bx => ⟨false, bx, rfl, rfl⟩) fun k ek => ⟨fun z => (by rw [ek] at z; cases z), fun _ => sw_nx ?_⟩))
      walk_at "w"
      refine o_pick h0 h1 fun x hx => q x ?_
      simp only [List.mem_cons, List.not_mem_nil, or_false] at hx
      rcases hx with rfl | rfl | rfl | rfl | rfl | rfl | rfl | rfl <;> simp [lenT]
    | int z =>
      have hz : z.natAbs ≤ 1000000000 := by simpa [bs] using hv
      refine sw_seq (sw_if (Tw.mono (Q := fun k => k = false) (fun bx => ⟨false, bx, rfl, rfl⟩) fun k ek => ⟨fun z => (by rw [ek] at z; cases z), fun _ => sw_nx ?_⟩))
      walk_at "w"
      refine hs8 _ fun i h0 h1 => ?_
      refine sw_seq (sw_if (Tw.mono (Q := fun k => k = false) (fun bx => ⟨false, bx, rfl, rfl⟩) fun k ek => ⟨fun z => (by rw [ek] at z; cases z), fun _ => sw_nx ?_⟩))
      refine sw_seq (sw_if (Tw.mono (Q := fun k => k = true) (fun bx => ⟨true, bx, rfl, rfl⟩) fun k ek => ⟨fun _ => ?_, fun z => (by rw [ek] at z; cases z)⟩))
      have hlog : z.natAbs.log2 < 1920 := by
        by_cases hz0 : z.natAbs = 0
        · rw [hz0]; decide
        · rw [Nat.log2_lt hz0]
          exact Nat.lt_of_le_of_lt hz (by decide)
      walk_at "w"
      refine ⟨.str (toString z : String), by rw [strD, if_pos hlog], ?_⟩
      walk_at "w"
      refine o_pick h0 h1 fun x hx => ⟨_, rfl, q x ?_⟩
      simp only [List.mem_cons, List.not_mem_nil, or_false] at hx
      rcases hx with rfl | rfl | rfl | rfl | rfl | rfl | rfl | rfl
      · simp [lenT]
      · simp [lenT]
      · simp [lenT]
      · simp [lenT]
      · simp [lenT]
      · simp [lenT]
      · simp [lenT]
      · simp [lenT]
    | str z =>
      have hz : z.length ≤ 1000 := by simp only [bs, Bool.and_eq_true, decide_eq_true_iff] at hv; exact hv.1
      have hgz : gd (.str z) = true := bs_gd _ hv
      have hsz : (1000000 : Nat) ≤ PySem.sizeLine := by rw [PySem.sizeLine_eq]; omega
      refine sw_seq (sw_if (Tw.mono (Q := fun k => k = false) (fun bx => ⟨false, bx, rfl, rfl⟩) fun k ek => ⟨fun z => (by rw [ek] at z; cases z), fun _ => sw_nx ?_⟩))
      walk_at "w"
      refine hs8 _ fun i h0 h1 => ?_
      refine sw_seq (sw_if (Tw.mono (Q := fun k => k = false) (fun bx => ⟨false, bx, rfl, rfl⟩) fun k ek => ⟨fun z => (by rw [ek] at z; cases z), fun _ => sw_nx ?_⟩))
      refine sw_seq (sw_if (Tw.mono (Q := fun k => k = false) (fun bx => ⟨false, bx, rfl, rfl⟩) fun k ek => ⟨fun z => (by rw [ek] at z; cases z), fun _ => sw_nx ?_⟩))
      refine sw_seq (sw_if (Tw.mono (Q := fun k => k = true) (fun bx => ⟨true, bx, rfl, rfl⟩) fun k ek => ⟨fun _ => ?_, fun z => (by rw [ek] at z; cases z)⟩))
      walk_at "w"
      refine ⟨_, by
        show opAdd (.str z) (.str ("s" : Str)) = some (.str (z ++ ("s" : Str)))
        have : ("s" : Str).length = 1 := by decide +kernel
        simp only [opAdd]
        rw [if_pos (by rw [this]; omega)], ?_⟩
      walk_at "w"
      refine ⟨.str (L2.cutS z (some 1) none), by simp only [sliceD]; rw [if_pos (by omega)], ?_⟩
      walk_at "w"
      refine o_pick h0 h1 fun x hx => ⟨_, rfl, q x ?_⟩
      simp only [List.mem_cons, List.not_mem_nil, or_false] at hx
      rcases hx with rfl | rfl | rfl | rfl | rfl | rfl | rfl | rfl
      · simp [lenT]
      · simp [lenT]
      · simp [lenT]
      · simp [lenT]
      · simp [lenT]
      · simp [lenT]
      · simp [lenT]
      · simp [lenT]
theorem Fw.and {F : Fn} {ds : List D} {Q Q' : D → Prop} (h : Fw F ds Q) (h' : Fw F ds Q') : Fw F ds fun d => Q d ∧ Q' d := fun b => by
  obtain ⟨d, b1, e, q⟩ := h b
  obtain ⟨d', b2, e', q'⟩ := h' b
  rw [e] at e'
  cases e'
  exact ⟨d, b1, e, q, q'⟩
theorem w_bent' (n : Nat) {v : D} {Q : D → Prop} (hv : bs v = true) (hd : v.dep < n) (q : ∀ w, Bt v w → lenT w ≤ 2001 → Q w) : Fw (f_bent n) [.tok 0, v] Q :=
  ((w_bent n (Q := Bt v) hv hd fun _ h => h).and (w_bentL n (Q := fun w => lenT w ≤ 2001) hv hd fun _ h => h)).mono fun d h => q d h.1 h.2
/-! ### a set kept as a dict -/
section
variable {α : Type} [DecidableEq α] {e : α → D} {ρ : Rho}
abbrev dS (e : α → D) (ks : List α) : D := .dct (t0 :: ks.map fun k => (e k, .bl true))
structure KeyE (e : α → D) : Prop where
  inj : ∀ x y, e x = e y → x = y
  key : ∀ x, keyT (e x) = true
theorem isT0_c (r : List (D × D)) : isT0 (t0 :: r) = true := by simp [isT0]
theorem lk_dS (he : KeyE e) (x : α) : ∀ ks : List α, (lkD (ks.map fun k => (e k, D.bl true)) (e x)).isSome = decide (x ∈ ks)
  | [] => by simp [lkD]
  | k :: ks => by
    have ih := lk_dS he x ks
    unfold lkD at ih ⊢
    rw [List.map_cons, List.find?_cons]
    by_cases h : k = x
    · subst h; simp
    · have h2 : e k ≠ e x := fun z => h (he.inj _ _ z)
      simp only [h2, decide_false]
      rw [ih]
      have h3 : x ≠ k := fun z => h z.symm
      simp [h3]
theorem inS (he : KeyE e) (x : α) (ks : List α) : inD (e x) (dS e ks) = some (decide (x ∈ ks)) := by
  show (dGet _ _).map _ = _
  rw [dGet, keyOk, if_pos (isT0_c _), if_pos (he.key x), rowsD, if_pos (isT0_c _), List.tail_cons, Option.map_some, lk_dS he]
theorem o_inS (he : KeyE e) {x : α} {ks : List α} {Q : D → Prop} (q : Q (.bl (decide (x ∈ ks)))) : OrW (opIn (e x) (dS e ks)) Q := .of (by rw [opIn, inS he]; rfl) q
theorem o_ninS (he : KeyE e) {x : α} {ks : List α} {Q : D → Prop} (q : Q (.bl (!decide (x ∈ ks)))) : OrW (opNotIn (e x) (dS e ks)) Q := .of (by rw [opNotIn, inS he]; rfl) q
theorem putS (he : KeyE e) {x : α} {ks : List α} (hx : x ∉ ks) (hl : ks.length < 1000000) : dPut (t0 :: ks.map fun k => (e k, D.bl true)) (e x) (.bl true) = some (t0 :: (ks ++ [x]).map fun k => (e k, D.bl true)) := by
  rw [dPut, keyOk, if_pos (isT0_c _), rowsD, if_pos (isT0_c _), List.tail_cons, if_pos ⟨he.key x, by rw [List.length_map]; rw [PySem.sizeLine_eq]; omega⟩, if_pos (isT0_c _), ptD, lk_dS he, if_neg (by simpa using hx), List.map_append]
  rfl
theorem sw_dputS {Q : Fl → Rho → Prop} {f : Ex} {i : Nat} (he : KeyE e) {x : α} {ks : List α} (e0 : ρ[i]? = some (Sl.own (dS e ks))) (hl : ks.length < 1000000) (hx : x ∉ ks) (h : Ew f ρ fun d => d = e x) (q : Q .nx (ρ.set i (.own (dS e (ks ++ [x]))))) : Sw (sDPut i f (eCon (.bl true))) ρ Q := fun b => by
  obtain ⟨_, b1, e1, rfl⟩ := h b
  exact ⟨.nx, _, b1, by unfold sDPut; rw [show eCon (.bl true) ρ b = some (.bl true, b) from rfl]; simp only [e0, e1, putS he hx hl], q⟩
theorem ew_dS1 {Q : D → Prop} {f : Ex} (he : KeyE e) {x : α} (h : Ew f ρ fun d => d = e x) (q : Q (dS e [x])) : Ew (eDisp true (pCons f (eCon (.bl true)) pNil)) ρ Q := fun b => by
  obtain ⟨_, b1, e1, rfl⟩ := h b
  have := putS he (x := x) (ks := []) (by simp) (by simp)
  rw [List.map_nil, List.nil_append] at this
  exact ⟨_, b1, by unfold eDisp pCons; rw [e1]; simp only [eCon, pNil, if_true, putAll, this], q⟩
end
/-! ### a, xs[i] = e, f -/
theorem sw_pq2 {ρ : Rho} {α : Type} {e : α → D} {xs : List α} {Q : Fl → Rho → Prop} {f f' fi : Ex} {i j : Nat} {v : D} (h : Ew f ρ fun d => d = v) {y : α} (h' : Ew f' ρ fun d => d = e y) (hij : i ≠ j) (e0 : ρ[j]? = some (Sl.own (.lst (xs.map e))))
    {k : Nat} (hi : Ew fi (ρ.set i (.frz v)) fun d => d = nE k) (hk : k < xs.length) (q : Q .nx ((ρ.set i (.frz v)).set j (.own (.lst ((xs.set k y).map e))))) : Sw (sPq (aCons f (aCons f' aNil)) (qNm i :: qSt j fi :: [])) ρ Q := fun b => by
  obtain ⟨_, b1, e1, ed⟩ := h b
  rw [ed] at e1
  obtain ⟨_, b2, e2, rfl⟩ := h' b1
  obtain ⟨_, b3, e3, rfl⟩ := hi b2
  have hix : L2.ixN (xs.map e).length (k : Int) = some k := by
    unfold L2.ixN
    rw [List.length_map]
    have h1 : (0 : Int) ≤ k := by omega
    have h2 : (k : Int) < xs.length := by omega
    simp [h1, h2]
  have e5 : (ρ.set i (Sl.frz v))[j]? = some (Sl.own (.lst (xs.map e))) := by rw [List.getElem?_set_ne hij]; exact e0
  refine ⟨.nx, _, b3, ?_, q⟩
  unfold sPq
  have ea : aCons f (aCons f' aNil) ρ b = some ([v, e y], b2) := by unfold aCons aNil; simp only [e1, e2]
  rw [ea]
  simp only [qAll, qNm, qSt, e5, e3, hix, List.map_set]
/-- for, over typed things: what is behind -/
theorem sw_forP {ρ : Rho} {Q : Fl → Rho → Prop} {s : SS} {it : It} {g : Tg} {α : Type} (xs : List α) (enc : α → D) (I : List α → Rho → Prop) (hi : Iw it ρ fun ds => ds = xs.map enc) (h0 : I [] ρ)
    (hs : ∀ pre x post ρ1, xs = pre ++ x :: post → I pre ρ1 → ∃ ρ2, g (enc x) ρ1 = some ρ2 ∧ Sw s ρ2 (LpQ (I (pre ++ [x])) Q)) (q : ∀ ρ1, I xs ρ1 → Q .nx ρ1) : Sw (sFor it g s) ρ Q := by
  refine sw_for (xs.map enc) (fun i ρ1 => I (xs.take i) ρ1) hi h0 (fun i d ρ1 e r => ?_) fun ρ1 r => q ρ1 (by rw [List.length_map, List.take_length] at r; exact r)
  rw [List.getElem?_map] at e
  cases h : xs[i]? with
  | none => rw [h] at e; cases e
  | some x =>
    rw [h] at e; cases e
    obtain ⟨hl, hx⟩ := List.getElem?_eq_some_iff.mp h
    have hd : xs = xs.take i ++ x :: xs.drop (i + 1) := by
      conv => lhs; rw [← List.take_append_drop i xs, List.drop_eq_getElem_cons hl, hx]
    have ht : xs.take (i + 1) = xs.take i ++ [x] := by rw [List.take_succ, h]; rfl
    have := hs (xs.take i) x (xs.drop (i + 1)) ρ1 hd r
    rw [ht]
    exact this
end Sv

set_option maxHeartbeats 1000000
/-! Pl8: dicts with numbers as keys -/
namespace Sv
open PySem (Str PyData)
section
variable {β : Type} {e : β → D} {ρ : Rho}
abbrev dN (e : β → D) (ps : List (Nat × β)) : D := .dct (ps.map fun p => (nE p.1, e p.2))
theorem noT0 (e : β → D) : ∀ ps : List (Nat × β), isT0 (ps.map fun p => (nE p.1, e p.2)) = false
  | [] => rfl
  | p :: ps => by
    rw [List.map_cons, isT0]
    exact decide_eq_false fun h => by
      have := congrArg Prod.fst h
      cases this
theorem lk_dN (e : β → D) (x : Nat) : ∀ ps : List (Nat × β), lkD (ps.map fun p => (nE p.1, e p.2)) (nE x) = (ps.find? fun p => decide (p.1 = x)).map fun p => e p.2
  | [] => rfl
  | p :: ps => by
    have ih := lk_dN e x ps
    unfold lkD at ih ⊢
    rw [List.map_cons, List.find?_cons, List.find?_cons]
    by_cases h : p.1 = x
    · subst h; simp
    · have h2 : nE p.1 ≠ nE x := fun z => h (by injection z; omega)
      simp only [h2, h, decide_false]
      exact ih
theorem dGet_dN (e : β → D) (x : Nat) (ps : List (Nat × β)) : dGet (ps.map fun p => (nE p.1, e p.2)) (nE x) = some ((ps.find? fun p => decide (p.1 = x)).map fun p => e p.2) := by
  rw [dGet, keyOk, noT0, rowsD, noT0]
  show some (lkD (ps.map fun p => (nE p.1, e p.2)) (nE x)) = _
  rw [lk_dN]
theorem find_some {x : Nat} : ∀ {ps : List (Nat × β)}, (ps.find? fun p => decide (p.1 = x)).isSome = decide (x ∈ ps.map Prod.fst)
  | [] => by simp
  | p :: ps => by
    rw [List.find?_cons]
    by_cases h : p.1 = x
    · subst h; simp
    · simp only [h, decide_false]
      rw [find_some, List.map_cons]
      have h2 : x ≠ p.1 := fun z => h z.symm
      simp [h2]
theorem inN' (e : β → D) (x : Nat) (ps : List (Nat × β)) : inD (nE x) (dN e ps) = some (decide (x ∈ ps.map Prod.fst)) := by
  show (dGet _ _).map _ = _
  rw [dGet_dN, Option.map_some, Option.isSome_map, find_some]
theorem o_inDN {x : Nat} {ps : List (Nat × β)} {Q : D → Prop} (q : Q (.bl (decide (x ∈ ps.map Prod.fst)))) : OrW (opIn (nE x) (dN e ps)) Q := .of (by rw [opIn, inN']; rfl) q
theorem o_ninDN {x : Nat} {ps : List (Nat × β)} {Q : D → Prop} (q : Q (.bl (!decide (x ∈ ps.map Prod.fst)))) : OrW (opNotIn (nE x) (dN e ps)) Q := .of (by rw [opNotIn, inN']; rfl) q
theorem find_of {x : Nat} {y : β} : ∀ {ps : List (Nat × β)}, (ps.map Prod.fst).Nodup → (x, y) ∈ ps → (ps.find? fun p => decide (p.1 = x)) = some (x, y)
  | [], _, h => by cases h
  | p :: ps, hn, h => by
    rw [List.map_cons, List.nodup_cons] at hn
    rw [List.find?_cons]
    rcases List.mem_cons.mp h with e | h
    · subst e; simp
    · have : ¬ p.1 = x := fun z => hn.1 (z ▸ List.mem_map.mpr ⟨_, h, rfl⟩)
      simp only [this, decide_false]
      exact find_of hn.2 h
theorem o_ixDN {x : Nat} {y : β} {ps : List (Nat × β)} {Q : D → Prop} (hn : (ps.map Prod.fst).Nodup) (h : (x, y) ∈ ps) (q : Q (e y)) : OrW (ixD (dN e ps) (nE x)) Q :=
  .of (by
    show (dGet _ _).join = _
    rw [dGet_dN, find_of hn h]; rfl) q
theorem putN' {x : Nat} {y : β} {ps : List (Nat × β)} (hx : x ∉ ps.map Prod.fst) (hl : ps.length < 1000000) : dPut (ps.map fun p => (nE p.1, e p.2)) (nE x) (e y) = some ((ps ++ [(x, y)]).map fun p => (nE p.1, e p.2)) := by
  have hnone : (lkD (ps.map fun p => (nE p.1, e p.2)) (nE x)).isSome = false := by
    rw [lk_dN, Option.isSome_map, find_some, decide_eq_false hx]
  rw [dPut, keyOk, noT0, rowsD, noT0]
  show (if keyS (nE x) = true ∧ _ then some (if false = true then _ else ptD _ _ _) else none) = _
  rw [if_pos ⟨rfl, by show (ps.map _).length < _; rw [List.length_map, PySem.sizeLine_eq]; omega⟩, if_neg (by decide), ptD, hnone, if_neg (by decide), List.map_append]
  rfl
theorem sw_dputN {Q : Fl → Rho → Prop} {f f' : Ex} {i : Nat} {x : Nat} {y : β} {ps : List (Nat × β)} (e0 : ρ[i]? = some (Sl.own (dN e ps))) (hl : ps.length < 1000000) (hx : x ∉ ps.map Prod.fst) (h' : Ew f' ρ fun d => d = e y) (h : Ew f ρ fun d => d = nE x) (q : Q .nx (ρ.set i (.own (dN e (ps ++ [(x, y)]))))) : Sw (sDPut i f f') ρ Q := fun b => by
  obtain ⟨_, b1, e1, rfl⟩ := h' b
  obtain ⟨_, b2, e2, rfl⟩ := h b1
  exact ⟨.nx, _, b2, by unfold sDPut; simp only [e1, e0, e2, putN' hx hl], q⟩
theorem ew_dN1 {Q : D → Prop} {f f' : Ex} {x : Nat} {y : β} (h : Ew f ρ fun d => d = nE x) (h' : Ew f' ρ fun d => d = e y) (q : Q (dN e [(x, y)])) : Ew (eDisp false (pCons f f' pNil)) ρ Q := fun b => by
  obtain ⟨_, b1, e1, rfl⟩ := h b
  obtain ⟨_, b2, e2, rfl⟩ := h' b1
  have := putN' (e := e) (x := x) (y := y) (ps := []) (by simp) (by simp)
  rw [List.map_nil, List.nil_append] at this
  exact ⟨_, b2, by unfold eDisp pCons; rw [e1]; simp only [e2, pNil, Bool.false_eq_true, if_false, putAll, this], q⟩
end
/-! ### xs[i], xs[j] = e, f -/
theorem sw_pqSS {ρ : Rho} {α : Type} {e : α → D} {xs : List α} {Q : Fl → Rho → Prop} {f f' fi fj : Ex} {i : Nat} {y z : α} (h : Ew f ρ fun d => d = e y) (h' : Ew f' ρ fun d => d = e z) (e0 : ρ[i]? = some (Sl.own (.lst (xs.map e))))
    {k l : Nat} (hi : Ew fi ρ fun d => d = nE k) (hk : k < xs.length) (hj : Ew fj (ρ.set i (.own (.lst ((xs.set k y).map e)))) fun d => d = nE l) (hl : l < xs.length)
    (q : Q .nx (ρ.set i (.own (.lst (((xs.set k y).set l z).map e))))) : Sw (sPq (aCons f (aCons f' aNil)) (qSt i fi :: qSt i fj :: [])) ρ Q := fun b => by
  obtain ⟨d1, b1, e1, ed1⟩ := h b
  rw [ed1] at e1
  obtain ⟨d2, b2, e2, ed2⟩ := h' b1
  rw [ed2] at e2
  obtain ⟨d3, b3, e3, ed3⟩ := hi b2
  rw [ed3] at e3
  obtain ⟨d4, b4, e4, ed4⟩ := hj b3
  rw [ed4] at e4
  have ix : ∀ (ys : List α) (m : Nat), m < ys.length → L2.ixN (ys.map e).length (m : Int) = some m := fun ys m hm => by
    unfold L2.ixN
    rw [List.length_map]
    have h1 : (0 : Int) ≤ m := by omega
    have h2 : (m : Int) < ys.length := by omega
    simp [h1, h2]
  have hil : i < ρ.length := by
    obtain ⟨a, _⟩ := List.getElem?_eq_some_iff.mp e0
    exact a
  have e5 : (ρ.set i (Sl.own (.lst ((xs.set k y).map e))))[i]? = some (Sl.own (.lst ((xs.set k y).map e))) := List.getElem?_set_self hil
  refine ⟨.nx, _, b4, ?_, q⟩
  unfold sPq
  have ea : aCons f (aCons f' aNil) ρ b = some ([e y, e z], b2) := by unfold aCons aNil; simp only [e1, e2]
  rw [ea]
  have s1 : (xs.map e).set k (e y) = (xs.set k y).map e := (List.map_set ..).symm
  have s2 : ((xs.set k y).map e).set l (e z) = ((xs.set k y).set l z).map e := (List.map_set ..).symm
  simp only [qAll, qSt, e0, e3, ix xs k hk, s1, e5, e4, ix (xs.set k y) l (by rw [List.length_set]; exact hl), s2, List.set_set]
end Sv

set_option maxHeartbeats 1000000
/-! Pl9: how long, and how large, what the second text has bent is -/
namespace Sv
open PySem (Str PyData)
local macro_rules | `(tactic| walk_at "w") => `(tactic| (repeat' (first | with_reducible (first | refine sw_seq ?_ | refine sw_set ?_ | refine sw_new ?_ | refine sw_asg ?_ | refine sw_rt ?_ | refine sw_ret ?_ | refine sw_if ?_ | refine sw_par ?_ | refine sw_nx ?_ | refine sw_exprM ?_ | refine kw_nil ?_ | refine kw_frz ?_ | refine kw_new ?_ | refine ew_con ?_ | refine ew_bin ?_ | refine ew_un ?_ | refine ew_tup ?_ | refine ew_lst ?_ | refine ew_fn ?_ | refine ew_call ?_ | refine ew_callO ?_ | refine ew_if ?_ | refine ew_not ?_ | refine ew_chain ?_ | refine ew_slice ?_ | refine ow_none ?_ | refine ow_some ?_ | refine tw_bl ?_ | refine tw_of ?_ | refine tw_not ?_ | refine tw_yes ?_ | refine aw_nil ?_ | refine aw_cons ?_ | refine iw_seq ?_ | refine iw_enum ?_ | refine iw_zip ?_) | refine ew_var rfl ?_ | refine ew_bor rfl ?_ | refine ew_borO rfl ?_ | refine o_eqI ?_ | refine o_neI ?_ | refine o_lt ?_ | refine o_gt ?_ | refine o_le ?_ | refine o_ge ?_ | refine o_all ?_ | refine o_any ?_ | refine o_sum ?_ | refine o_addI ?_ | refine o_subI ?_ | refine o_lenT ?_ | refine o_lenL ?_ | refine o_tupL ?_ | refine o_tupT ?_ | refine o_listL ?_ | refine o_listT ?_ | refine o_negI ?_ | refine o_intI ?_ | refine o_slT ?_ | refine o_slL ?_ | refine o_revT ?_ | refine o_revL ?_ | refine x_int ?_ | refine x_bl ?_ | refine x_tb ?_ | refine x_itT ?_ | refine x_itL ?_ | refine x_rt ?_)))
mutual
/-- numbers not beyond B, tuples not longer than 2001 -/
def nm (B : Nat) : D → Bool
  | .int i => decide (i.natAbs ≤ B)
  | .tup xs => decide (xs.length ≤ 2001) && nmL B xs
  | _ => true
def nmL (B : Nat) : List D → Bool
  | [] => true
  | d :: ds => nm B d && nmL B ds
end
theorem nmL_iff {B : Nat} : ∀ {ds : List D}, nmL B ds = true ↔ ∀ d ∈ ds, nm B d = true
  | [] => by simp [nmL]
  | d :: ds => by rw [nmL, Bool.and_eq_true, nmL_iff]; simp
theorem nm_tup {B : Nat} {xs : List D} : nm B (.tup xs) = true ↔ xs.length ≤ 2001 ∧ ∀ d ∈ xs, nm B d = true := by
  rw [nm, Bool.and_eq_true, nmL_iff, decide_eq_true_iff]
theorem nm_int {B : Nat} {i : Int} : nm B (.int i) = true ↔ i.natAbs ≤ B := by rw [nm, decide_eq_true_iff]
mutual
theorem nm_mono {B C : Nat} (h : B ≤ C) : ∀ d : D, nm B d = true → nm C d = true
  | .non, _ => rfl
  | .bl _, _ => rfl
  | .int i, e => nm_int.mpr (Nat.le_trans (nm_int.mp e) h)
  | .str _, _ => rfl
  | .tup xs, e => by
    simp only [nm, Bool.and_eq_true, decide_eq_true_iff] at e ⊢
    exact ⟨e.1, nmL_mono h xs e.2⟩
  | .lst _, _ => rfl
  | .dct _, _ => rfl
  | .tok _, _ => rfl
theorem nmL_mono {B C : Nat} (h : B ≤ C) : ∀ d : List D, nmL B d = true → nmL C d = true
  | [], _ => rfl
  | d :: ds, e => by
    rw [nmL, Bool.and_eq_true] at e ⊢
    exact ⟨nm_mono h d e.1, nmL_mono h ds e.2⟩
end
theorem nm_map {α : Type} {B : Nat} {e : α → D} {xs : List α} (hn : xs.length ≤ 2001) (h : ∀ x ∈ xs, nm B (e x) = true) : nm B (.tup (xs.map e)) = true := by
  rw [nm_tup, List.length_map]
  refine ⟨hn, fun d hd => ?_⟩
  obtain ⟨x, hx, rfl⟩ := List.mem_map.mp hd
  exact h x hx
theorem w_bent2N : ∀ (n : Nat) {v : D} {Q : D → Prop}, bsi v = true → nm 1000 v = true → v.dep < n → (∀ w, nm 3000 w = true → Q w) → Fw (f_bent2 n) [.tok 0, v] Q
  | 0, _, _, _, _, h, _ => absurd h (by omega)
  | n + 1, v, Q, hv, hm0, hd, q => by
    show Fw (runF 4 (s_bentB (f_bent2 n))) [.tok 0, v] Q
    refine fw_rt ?_
    have hs8 : ∀ (R : D → Prop), (∀ i : Int, 0 ≤ i → i < 8 → R (.int i)) → Fw drawF [.tok 0, .int 8] R := fun R h => fw_draw (by decide) (by decide) h
    cases v with
    | dct _ => cases hv
    | tok _ => cases hv
    | lst _ => cases hv
    | tup xs =>
      rw [bsi_tup] at hv
      have hg : ∀ d ∈ xs, gd d = true := fun d hd => bsi_gd d (hv.2 d hd)
      have hN : ∀ d ∈ xs, nm 3000 d = true := fun d hd => nm_mono (by decide) d ((nm_tup.mp hm0).2 d hd)
      have hgt : gd (.tup xs) = true := gd_tup.mpr ⟨by omega, hg⟩
      have hcl : ∀ lo hi, (cutD xs lo hi).length ≤ 1000 := fun lo hi => Nat.le_trans (cutD_len _ _ _) hv.1
      have hcd : ∀ lo hi, D.depL (cutD xs lo hi) ≤ D.depL xs := fun lo hi => depL_sub cutD_sub
      have hsz : (1000000 : Nat) ≤ PySem.sizeLine := by rw [PySem.sizeLine_eq]; omega
      refine sw_seq (sw_if (tw_and (Tw.mono (Q := fun k => k = true) (fun bx => ⟨true, bx, rfl, rfl⟩) fun k ek => ⟨fun _ => ?_, fun z => (by rw [ek] at z; cases z)⟩)))
      have last : ∀ (ρ1 : Rho), ρ1 = [.frz (.tok 0), .frz (.tup xs), .emp, .emp] → Sw s_bentB2 ρ1 (RtQ Q) := fun ρ1 e1 => by
        subst e1
        refine sw_seq (sw_set (ew_call (aw_cons (ew_var rfl (aw_cons (ew_con (aw_nil (hs8 _ fun i h0 h1 => ?_))))))))
        refine sw_seq (sw_if (Tw.mono (Q := fun k => k = true) (fun bx => ⟨true, bx, rfl, rfl⟩) fun k ek => ⟨fun _ => ?_, fun z => (by rw [ek] at z; cases z)⟩))
        have hc1 := hcl none (some 1)
        have hd1 := hcd none (some 1)
        walk_at "w"
        refine o_addT (by omega) ?_
        walk_at "w"
        refine o_addT (by simp only [List.length_cons, List.length_nil]; omega) ?_
        walk_at "w"
        refine o_addT (by omega) ?_
        walk_at "w"
        refine o_pick h0 h1 fun x hx => ⟨_, rfl, q x ?_⟩
        simp only [List.mem_cons, List.not_mem_nil, or_false] at hx
        have hc2 := hcl (some 1) none
        have hc3 := hcl none (some (-1))
        rcases hx with rfl | rfl | rfl | rfl | rfl | rfl | rfl | rfl
        · exact nm_tup.mpr ⟨by rw [List.length_append]; omega, fun d hd => (List.mem_append.mp hd).elim (hN d) fun h => hN d (cutD_sub d h)⟩
        · exact nm_tup.mpr ⟨by omega, fun d hd => hN d (cutD_sub d hd)⟩
        · exact nm_tup.mpr ⟨by rw [List.length_reverse]; omega, fun d hd => hN d (List.mem_reverse.mp hd)⟩
        · refine nm_tup.mpr ⟨by simp only [List.length_append, List.length_cons, List.length_nil]; omega, fun d hd => (List.mem_append.mp hd).elim (hN d) fun h => ?_⟩
          simp only [List.mem_cons, List.not_mem_nil, or_false] at h
          subst h; rfl
        · exact nm_tup.mpr ⟨by rw [List.length_append]; omega, fun d hd => (List.mem_append.mp hd).elim (fun h => hN d (cutD_sub d h)) (hN d)⟩
        · exact nm_tup.mpr ⟨by omega, fun d hd => hN d (cutD_sub d hd)⟩
        · rfl
        · exact nm_tup.mpr ⟨by omega, fun d hd => hN d (cutD_sub d hd)⟩
      refine tw_and ?_
      walk_at "w"
      refine ⟨fun e => ?_, fun _ => ⟨(fun z => by cases z), fun _ => sw_nx (last _ rfl)⟩⟩
      have hpos : 0 < xs.length := by have := of_decide_eq_true e; omega
      walk_at "w"
      refine fw_draw (by decide) (by decide) fun i0 h00 h01 => ?_
      walk_at "w"
      refine ⟨fun _ => ?_, fun _ => sw_nx (last _ rfl)⟩
      walk_at "w"
      refine fw_draw (n := (xs.length : Int)) (by omega) (by omega) fun at' h0 h1 => ?_
      have hat : at'.toNat < xs.length := by omega
      have hm : xs[at'.toNat] ∈ xs := List.getElem_mem hat
      walk_at "w"
      refine ⟨xs[at'.toNat], by rw [ixD, atI_pos h0, List.getElem?_eq_getElem hat], ?_⟩
      walk_at "w"
      refine w_bent2N n (hv.2 _ hm) ((nm_tup.mp hm0).2 _ hm) (by have := dep_mem hm; omega) fun w hw => ?_
      have hc1 := hcl none (some at')
      have hc2 := hcl (some (at' + 1)) none
      have hdm := depL_le.mp (Nat.le_refl _) _ hm
      walk_at "w"
      refine o_addT (by simp only [List.length_cons, List.length_nil]; omega) ?_
      walk_at "w"
      refine o_addT (by simp only [List.length_append, List.length_cons, List.length_nil]; omega) ⟨_, rfl, q _ (nm_tup.mpr ⟨by simp only [List.length_append, List.length_cons, List.length_nil]; omega, fun d hd => ?_⟩)⟩
      rcases List.mem_append.mp hd with h | h
      · rcases List.mem_append.mp h with h | h
        · exact hN d (cutD_sub d h)
        · simp only [List.mem_cons, List.not_mem_nil, or_false] at h
          subst h; exact hw
      · exact hN d (cutD_sub d h)
    | non =>
      refine sw_seq (sw_if (Tw.mono (Q := fun k => k = false) (fun bx => ⟨false, bx, rfl, rfl⟩) fun k ek => ⟨fun z => (by rw [ek] at z; cases z), fun _ => sw_nx ?_⟩))
      walk_at "w"
      refine hs8 _ fun i h0 h1 => ?_
      refine sw_seq (sw_if (Tw.mono (Q := fun k => k = false) (fun bx => ⟨false, bx, rfl, rfl⟩) fun k ek => ⟨fun z => (by rw [ek] at z; cases z), fun _ => sw_nx ?_⟩))
      refine sw_seq (sw_if (Tw.mono (Q := fun k => k = false) (fun bx => ⟨false, bx, rfl, rfl⟩) fun k ek => ⟨fun z => (by rw [ek] at z; cases z), fun _ => sw_nx ?_⟩))
      refine sw_seq (sw_if (Tw.mono (Q := fun k => k = false) (fun bx => ⟨false, bx, rfl, rfl⟩) fun k ek => ⟨fun z => (by rw [ek] at z; cases z), fun _ => sw_nx ?_⟩))
      walk_at "w"
      refine o_pick h0 h1 fun x hx => q x ?_
      simp only [List.mem_cons, List.not_mem_nil, or_false] at hx
      rcases hx with rfl | rfl | rfl | rfl | rfl | rfl | rfl | rfl <;> decide +kernel
    | bl y =>
      refine sw_seq (sw_if (Tw.mono (Q := fun k => k = false) (fun bx => ⟨false, bx, rfl, rfl⟩) fun k ek => ⟨fun z => (by rw [ek] at z; cases z), fun _ => sw_nx ?_⟩))
      walk_at "w"
      refine hs8 _ fun i h0 h1 => ?_
      refine sw_seq (sw_if (Tw.mono (Q := fun k => k = false) (fun bx => ⟨false, bx, rfl, rfl⟩) fun k ek => ⟨fun z => (by rw [ek] at z; cases z), fun _ => sw_nx ?_⟩))
      refine sw_seq (sw_if (Tw.mono (Q := fun k => k = false) (fun bx => ⟨false, bx, rfl, rfl⟩) fun k ek => ⟨fun z => (by rw [ek] at z; cases z), fun _ => sw_nx ?_⟩))
      refine sw_seq (sw_if (Tw.mono (Q := fun k => k = false) (fun bx => ⟨false, bx, rfl, rfl⟩) fun k ek => ⟨fun z => (by rw [ek] at z; cases z), fun _ => sw_nx ?_⟩))
      walk_at "w"
      refine o_pick h0 h1 fun x hx => q x ?_
      simp only [List.mem_cons, List.not_mem_nil, or_false] at hx
      rcases hx with rfl | rfl | rfl | rfl | rfl | rfl | rfl | rfl <;> decide +kernel
    | int z =>
      have hz : z.natAbs ≤ 1000000000 := by simpa [bsi] using hv
      have hz1 : z.natAbs ≤ 1000 := nm_int.mp hm0
      refine sw_seq (sw_if (Tw.mono (Q := fun k => k = false) (fun bx => ⟨false, bx, rfl, rfl⟩) fun k ek => ⟨fun z => (by rw [ek] at z; cases z), fun _ => sw_nx ?_⟩))
      walk_at "w"
      refine hs8 _ fun i h0 h1 => ?_
      refine sw_seq (sw_if (Tw.mono (Q := fun k => k = false) (fun bx => ⟨false, bx, rfl, rfl⟩) fun k ek => ⟨fun z => (by rw [ek] at z; cases z), fun _ => sw_nx ?_⟩))
      refine sw_seq (sw_if (Tw.mono (Q := fun k => k = true) (fun bx => ⟨true, bx, rfl, rfl⟩) fun k ek => ⟨fun _ => ?_, fun z => (by rw [ek] at z; cases z)⟩))
      have hlog : z.natAbs.log2 < 1920 := by
        by_cases hz0 : z.natAbs = 0
        · rw [hz0]; decide
        · rw [Nat.log2_lt hz0]
          exact Nat.lt_of_le_of_lt hz (by decide)
      walk_at "w"
      refine ⟨.str (toString z : String), by rw [strD, if_pos hlog], ?_⟩
      walk_at "w"
      refine o_pick h0 h1 fun x hx => ⟨_, rfl, q x ?_⟩
      simp only [List.mem_cons, List.not_mem_nil, or_false] at hx
      rcases hx with rfl | rfl | rfl | rfl | rfl | rfl | rfl | rfl
      all_goals first | rfl | (refine nm_int.mpr ?_; omega) | (refine nm_tup.mpr ⟨(by simp : [D.int z].length ≤ 2001), fun d hd => ?_⟩; simp only [List.mem_cons, List.not_mem_nil, or_false] at hd; subst hd; refine nm_int.mpr ?_; omega)
    | str _ => cases hv

theorem w_bent2' (n : Nat) {v : D} {Q : D → Prop} (hv : bsi v = true) (hm : nm 1000 v = true) (hd : v.dep < n) (q : ∀ w, Bt v w → nm 3000 w = true → Q w) : Fw (f_bent2 n) [.tok 0, v] Q :=
  ((w_bent2 n (Q := Bt v) hv hd fun _ h => h).and (w_bent2N n (Q := fun w => nm 3000 w = true) hv hm hd fun _ h => h)).mono fun d h => q d h.1 h.2
end Sv

set_option maxHeartbeats 1000000
/-! Pl10: {k: v for .. in ..} with numbers for keys: how many are different -/
namespace Sv
open PySem (Str PyData)
theorem same_len {α : Type} [DecidableEq α] {ks ns : List α} (hn : ks.Nodup) (h : ∀ x, x ∈ ks ↔ x ∈ ns) : decide (ks.length = ns.length) = decide ns.Nodup := by
  have h1 := nodup_sub ks ns hn fun x hx => (h x).mp hx
  by_cases hd : ns.Nodup
  · have h2 := nodup_sub ns ks hd fun x hx => (h x).mpr hx
    rw [decide_eq_true hd, decide_eq_true (by omega)]
  · obtain ⟨a, ha, ha2⟩ := dup_of hd
    have h2 := nodup_sub ks (ns.erase a) hn fun x hx => by
      have := (h x).mp hx
      by_cases e : x = a
      · rw [e]; exact ha2
      · exact (List.mem_erase_of_ne e).mpr this
    rw [List.length_erase_of_mem ha] at h2
    have := List.length_pos_of_mem ha
    rw [decide_eq_false hd, decide_eq_false (by omega)]
section
variable {β : Type} {ρ : Rho} {v : D}
abbrev kN (v : D) (ks : List Nat) : List (D × D) := ks.map fun k => (nE k, v)
theorem kN_dN (v : D) (ks : List Nat) : kN v ks = (ks.map fun k => (k, ())).map fun p => (nE p.1, (fun _ : Unit => v) p.2) := by rw [List.map_map]; rfl
theorem putK {x : Nat} {ks : List Nat} (hl : ks.length < 1000000) : dPut (kN v ks) (nE x) v = some (kN v (if x ∈ ks then ks else ks ++ [x])) := by
  by_cases hx : x ∈ ks
  · rw [if_pos hx]
    have e0 := noT0 (fun _ : Unit => v) (ks.map fun k => (k, ()))
    rw [← kN_dN] at e0
    have hs : (lkD (kN v ks) (nE x)).isSome = true := by
      rw [kN_dN, lk_dN (fun _ : Unit => v) x, Option.isSome_map, find_some, decide_eq_true]
      rw [List.map_map]; simpa using hx
    rw [dPut, keyOk, e0, rowsD, e0]
    show (if keyS (nE x) = true ∧ _ then some (if false = true then _ else ptD _ _ _) else none) = _
    rw [if_pos ⟨rfl, by show (kN v ks).length < _; rw [List.length_map, PySem.sizeLine_eq]; omega⟩, if_neg (by decide), ptD, if_pos hs, List.map_map]
    congr 1
    refine List.map_congr_left fun k _ => ?_
    show (if nE k = nE x then (nE k, v) else (nE k, v)) = (nE k, v)
    split <;> rfl
  · rw [if_neg hx, kN_dN, kN_dN]
    have := putN' (e := fun _ : Unit => v) (x := x) (y := ()) (ps := ks.map fun k => (k, ())) (by rw [List.map_map]; simpa using hx) (by rw [List.length_map]; exact hl)
    rw [this]
    congr 1
    rw [List.map_append, List.map_append, List.map_append]
    rfl
theorem o_lenDK {ks : List Nat} {Q : D → Prop} (q : Q (.int ks.length)) : OrW (lenD [.dct (kN v ks)]) Q :=
  .of (by
    have e0 := noT0 (fun _ : Unit => v) (ks.map fun k => (k, ()))
    rw [← kN_dN] at e0
    rw [lenD, rowsD, e0, if_neg (by decide), List.length_map]) q
theorem ew_dcM {α : Type} {Q : D → Prop} {it : It} {g : Tg} {fk : Ex} {vs : List Nat} (xs : List α) (enc : α → D) (f : α → Nat) (hl : xs.length < 1000000) (hi : Iw it ρ fun ds => ds = xs.map enc)
    (hs : ∀ x ∈ xs, ∃ ρ1, g (enc x) (wipeR ρ vs) = some ρ1 ∧ Ew fk ρ1 fun d => d = nE (f x)) (q : ∀ ks : List Nat, ks.Nodup → (∀ x, x ∈ ks ↔ x ∈ xs.map f) → Q (.dct (kN v ks))) : Ew (eDc false it g tYes' fk (eCon v) vs) ρ Q := fun b => by
  obtain ⟨_, b1, e1, rfl⟩ := hi b
  have go : ∀ (ys : List α) (ks : List Nat) (b : Bx), (∀ y ∈ ys, y ∈ xs) → ks.length + ys.length < 1000000 → ks.Nodup → ∃ ks' b', dcGo g tYes' fk (eCon v) (wipeR ρ vs) (ys.map enc) (kN v ks) b = some (kN v ks', b') ∧ ks'.Nodup ∧ ∀ x, x ∈ ks' ↔ x ∈ ks ∨ x ∈ ys.map f := by
    intro ys
    induction ys with
    | nil => intro ks b _ _ hn; exact ⟨ks, b, rfl, hn, fun x => by simp⟩
    | cons y ys ih =>
      intro ks b hy hlen hn
      rw [List.length_cons] at hlen
      obtain ⟨ρ1, e2, h⟩ := hs y (hy y List.mem_cons_self)
      obtain ⟨_, b2, e3, rfl⟩ := h b
      have hlk : (if f y ∈ ks then ks else ks ++ [f y]).length ≤ ks.length + 1 := by
        split
        · omega
        · rw [List.length_append, List.length_singleton]; omega
      have hnk : (if f y ∈ ks then ks else ks ++ [f y]).Nodup := by
        split
        · exact hn
        · rename_i hx
          rw [List.nodup_append]
          exact ⟨hn, by simp, fun a ha c hc e => hx (by rw [List.mem_singleton.mp hc] at e; exact e ▸ ha)⟩
      obtain ⟨ks', b3, e4, h1, h2⟩ := ih _ b2 (fun z hz => hy z (List.mem_cons_of_mem _ hz)) (by omega) hnk
      refine ⟨ks', b3, ?_, h1, fun x => ?_⟩
      · rw [List.map_cons]
        show (match g (enc y) (wipeR ρ vs) with | some ρ1 => _ | none => none) = _
        rw [e2]
        show (match fk ρ1 b with | some (k, b2) => _ | none => none) = _
        rw [e3]
        show (match dPut (kN v ks) (nE (f y)) v with | some kvs' => _ | none => none) = _
        rw [putK (by omega)]
        exact e4
      · rw [h2, List.map_cons, List.mem_cons]
        by_cases hx : f y ∈ ks
        · rw [if_pos hx]
          constructor
          · rintro (h | h); exact .inl h; exact .inr (.inr h)
          · rintro (h | rfl | h); exact .inl h; exact .inl hx; exact .inr h
        · rw [if_neg hx, List.mem_append, List.mem_singleton, or_assoc]
  obtain ⟨ks, b2, e2, h1, h2⟩ := go xs [] b1 (fun _ h => h) (by simpa using hl) List.nodup_nil
  refine ⟨.dct (kN v ks), b2, ?_, q ks h1 fun x => by rw [h2]; simp⟩
  · unfold eDc
    rw [e1]
    show (match dcGo g tYes' fk (eCon v) (wipeR ρ vs) (xs.map enc) (kN v []) b1 with | some (kvs, b2) => _ | none => none) = _
    rw [e2]
theorem ew_dcK {α : Type} {Q : D → Prop} {it : It} {g : Tg} {fk : Ex} {vs : List Nat} (xs : List α) (enc : α → D) (f : α → Nat) (hl : xs.length < 1000000) (hi : Iw it ρ fun ds => ds = xs.map enc)
    (hs : ∀ x ∈ xs, ∃ ρ1, g (enc x) (wipeR ρ vs) = some ρ1 ∧ Ew fk ρ1 fun d => d = nE (f x)) (q : ∀ ks : List Nat, decide (ks.length = xs.length) = decide (xs.map f).Nodup → Q (.dct (kN v ks))) : Ew (eDc false it g tYes' fk (eCon v) vs) ρ Q :=
  ew_dcM xs enc f hl hi hs fun ks h1 h2 => q ks (by
    have := same_len (ns := xs.map f) h1 h2
    rwa [List.length_map] at this)
end
end Sv

set_option maxHeartbeats 1000000
/-! Pl11: dicts with numbers for keys, as keys and a function; their items sorted; sorted(set(..)). -/
namespace Sv
open PySem (Str PyData)
section
variable {β : Type} {e : β → D} {ρ : Rho} {Q : D → Prop}
def rF (e : β → D) (ks : List Nat) (g : Nat → β) : List (D × D) := ks.map fun k => (nE k, e (g k))
abbrev dF (e : β → D) (ks : List Nat) (g : Nat → β) : D := .dct (rF e ks g)
theorem rF_dN (ks : List Nat) (g : Nat → β) : rF e ks g = (ks.map fun k => (k, g k)).map fun p => (nE p.1, e p.2) := by rw [List.map_map]; rfl
theorem rF_noT0 (ks : List Nat) (g : Nat → β) : isT0 (rF e ks g) = false := by rw [rF_dN]; exact noT0 e _
theorem rF_rows (ks : List Nat) (g : Nat → β) : rowsD (rF e ks g) = rF e ks g := by rw [rowsD, rF_noT0]; rfl
theorem rF_lk (ks : List Nat) (g : Nat → β) (x : Nat) : lkD (rF e ks g) (nE x) = if x ∈ ks then some (e (g x)) else none := by
  induction ks with
  | nil => rfl
  | cons k ks ih =>
    unfold lkD at ih ⊢
    rw [rF, List.map_cons, List.find?_cons]
    by_cases h : k = x
    · subst h; simp
    · have h2 : nE k ≠ nE x := fun z => h (by injection z; omega)
      have h3 : ¬ x = k := fun z => h z.symm
      rw [decide_eq_false h2]
      show ((rF e ks g).find? fun kv => decide (kv.1 = nE x)).map (·.2) = _
      rw [ih]
      by_cases hm : x ∈ ks <;> simp [hm, h3]
theorem rF_get (ks : List Nat) (g : Nat → β) (x : Nat) : dGet (rF e ks g) (nE x) = some (if x ∈ ks then some (e (g x)) else none) := by
  rw [dGet, keyOk, rF_noT0, rF_rows]
  show some (lkD (rF e ks g) (nE x)) = _
  rw [rF_lk]
theorem rF_put {ks : List Nat} {g : Nat → β} {x : Nat} {y : β} (hl : ks.length < 1000000) : dPut (rF e ks g) (nE x) (e y) = some (rF e (if x ∈ ks then ks else ks ++ [x]) fun k => if k = x then y else g k) := by
  rw [dPut, keyOk, rF_noT0, rF_rows]
  show (if keyS (nE x) = true ∧ _ then some (if false = true then _ else ptD _ _ _) else none) = _
  rw [if_pos ⟨rfl, by show (rF e ks g).length < _; rw [rF, List.length_map, PySem.sizeLine_eq]; omega⟩, if_neg (by decide), ptD, rF_lk]
  by_cases hx : x ∈ ks
  · rw [if_pos hx, if_pos hx, if_pos (show (some (e (g x))).isSome = true from rfl), rF, rF, List.map_map]
    congr 1
    refine List.map_congr_left fun k _ => ?_
    show (if nE k = nE x then (nE k, e y) else (nE k, e (g k))) = (nE k, e (if k = x then y else g k))
    by_cases h : k = x
    · subst h; simp
    · have h2 : nE k ≠ nE x := fun z => h (by injection z; omega)
      rw [if_neg h2, if_neg h]
  · rw [if_neg hx, if_neg hx, if_neg (show ¬ (none : Option D).isSome = true by decide), rF, rF, List.map_append]
    congr 1
    congr 1
    · refine List.map_congr_left fun k hk => ?_
      have : ¬ k = x := fun z => hx (z ▸ hk)
      rw [if_neg this]
    · simp
theorem o_getF3 {ks : List Nat} {g : Nat → β} {x : Nat} {d : D} (q : Q (if x ∈ ks then e (g x) else d)) : OrW (getD3 [dF e ks g, nE x, d]) Q :=
  .of (r := if x ∈ ks then e (g x) else d) (by
    show (dGet (rF e ks g) (nE x)).map (fun o => o.getD d) = _
    rw [rF_get]
    by_cases h : x ∈ ks
    · rw [if_pos h, if_pos h]; rfl
    · rw [if_neg h, if_neg h]; rfl) q
theorem o_ixF {ks : List Nat} {g : Nat → β} {x : Nat} (h : x ∈ ks) (q : Q (e (g x))) : OrW (ixD (dF e ks g) (nE x)) Q :=
  .of (r := e (g x)) (by
    show (dGet (rF e ks g) (nE x)).join = _
    rw [rF_get, if_pos h]; rfl) q
theorem o_inF {ks : List Nat} {g : Nat → β} {x : Nat} (q : Q (.bl (decide (x ∈ ks)))) : OrW (opIn (nE x) (dF e ks g)) Q :=
  .of (r := .bl (decide (x ∈ ks))) (by
    show ((dGet (rF e ks g) (nE x)).map Option.isSome).map D.bl = _
    rw [rF_get]
    by_cases h : x ∈ ks <;> simp [h]) q
theorem o_lenF {ks : List Nat} {g : Nat → β} (q : Q (.int ks.length)) : OrW (lenD [dF e ks g]) Q :=
  .of (r := .int ks.length) (by
    show some (D.int (rowsD (rF e ks g)).length) = _
    rw [rF_rows, rF, List.length_map]) q
theorem sw_dputF {Q : Fl → Rho → Prop} {f f' : Ex} {i : Nat} {ks : List Nat} {g : Nat → β} (e0 : ρ[i]? = some (Sl.own (dF e ks g))) (hl : ks.length < 1000000) (h' : Ew f' ρ fun d => ∃ y, d = e y ∧ Ew f ρ fun z => ∃ x : Nat, z = nE x ∧ Q .nx (ρ.set i (.own (dF e (if x ∈ ks then ks else ks ++ [x]) fun k => if k = x then y else g k)))) : Sw (sDPut i f f') ρ Q := fun b => by
  obtain ⟨_, b1, e1, y, rfl, h⟩ := h' b
  obtain ⟨_, b2, e2, x, rfl, q⟩ := h b1
  exact ⟨.nx, _, b2, by unfold sDPut; rw [e1]; simp only [e2, e0, rF_put hl], q⟩
end
/-! ### items sorted -/
theorem lexLt_self {O : PyProof.Rows.KeyOrd} (x : O.α) (r t : List O.α) : PyProof.Rows.lexLt O (x :: r) (x :: t) = PyProof.Rows.lexLt O r t := by
  rw [PyProof.Rows.lexLt, O.irrefl]; rfl
theorem lt_pair (a b : Nat) (x y : Int) (h : a < b) : PySem.W.dataLt (D.tup [nE b, .int y]).py (D.tup [nE a, .int x]).py = false := by
  unfold PySem.W.dataLt
  simp only [D.py, D.pyL, PySem.W.keyToks, PySem.W.keyToksAll]
  show PyProof.Rows.lexLt PyProof.Rows.itemOrd (.inl 1 :: .inl (b : Int) :: _) (.inl 1 :: .inl (a : Int) :: _) = false
  have h1 : ∀ p q : Int, PyProof.Rows.itemOrd.blt (.inl p) (.inl q) = decide (p < q) := fun _ _ => rfl
  rw [lexLt_self, PyProof.Rows.lexLt, h1, h1]
  have h2 : ¬ ((b : Int) < a) := by omega
  have h3 : (a : Int) < b := by omega
  simp [h2, h3]
theorem sortL_pairs {ks : List Nat} (g : Nat → Int) (hs : ks.Pairwise (· < ·)) : sortL (ks.map fun k => .tup [nE k, .int (g k)]) = ks.map fun k => .tup [nE k, .int (g k)] := by
  unfold sortL
  refine List.mergeSort_of_pairwise ?_
  rw [List.pairwise_map]
  refine hs.imp fun {a b} h => ?_
  show (!PySem.W.dataLt (D.tup [nE b, .int (g b)]).py (D.tup [nE a, .int (g a)]).py) = true
  rw [lt_pair a b _ _ h]; rfl
theorem sortOk_pairs (ks : List Nat) (g : Nat → Int) : sortOk (ks.map fun k => .tup [nE k, .int (g k)]) = true := by
  simp only [sortOk, List.all_map, Bool.and_eq_true, Bool.or_eq_true, List.all_eq_true, Function.comp]
  exact ⟨⟨fun _ _ => rfl, fun _ _ _ _ => rfl⟩, .inl fun _ _ => trivial⟩
theorem o_sortItems {ks : List Nat} {g : Nat → Int} {Q : D → Prop} (hs : ks.Pairwise (· < ·)) (q : Q (.lst (ks.map fun k => .tup [nE k, .int (g k)]))) : OrW (sortItemsD [dF D.int ks g]) Q :=
  .of (by
    have e : pairsD (rF D.int ks g) = ks.map fun k => .tup [nE k, .int (g k)] := by
      rw [pairsD, rF_rows, rF, List.map_map]; rfl
    show (if sortOk (pairsD (rF D.int ks g)) = true then some (D.lst (sortL (pairsD (rF D.int ks g)))) else none) = _
    rw [e, if_pos (sortOk_pairs ks g), sortL_pairs g hs]) q
theorem o_sortSet {xs ms : List Nat} {Q : D → Prop} (hl : xs.length ≤ 60) (hs : ms.Pairwise (· < ·)) (hm : ∀ k, k ∈ ms ↔ k ∈ xs) (q : Q (lN ms)) : OrW (sortSetD [tN xs]) Q :=
  .of (by
    show (if (xs.map nE).length ≤ 60 then (intsD (xs.map nE)).map _ else none) = _
    rw [List.length_map, if_pos hl, intsD_nat, Option.map_some, ← sortI_eq (ms := ms.map fun k : Nat => (k : Int)) (by rw [List.pairwise_map]; exact hs.imp fun h => by omega) fun k => by
      rw [List.mem_map, List.mem_map]
      exact ⟨fun ⟨a, h, e⟩ => ⟨a, (hm a).mp h, e⟩, fun ⟨a, h, e⟩ => ⟨a, (hm a).mpr h, e⟩⟩, List.map_map]
    rfl) q
end Sv

set_option maxHeartbeats 1000000
/-! Pl12: typed data in order: <, sorted. -/
namespace Sv
open PySem (Str PyData)
open PySem.W (dataLt alike alikeAll keyToks keyToksAll)
/-! ### orders -/
structure Lin {α : Type} (lt : α → α → Bool) : Prop where
  irr : ∀ x, lt x x = false
  tr : ∀ x y z, lt x y = true → lt y z = true → lt x z = true
  tot : ∀ x y, lt x y = false → lt y x = false → x = y
theorem Lin.asym {α : Type} {lt : α → α → Bool} (h : Lin lt) {x y : α} (e : lt x y = true) : lt y x = false := by
  cases e2 : lt y x with
  | false => rfl
  | true => have := h.tr x y x e e2; rw [h.irr] at this; cases this
theorem Lin.ne {α : Type} {lt : α → α → Bool} (h : Lin lt) {x y : α} (e : lt x y = true) : x ≠ y := fun z => by rw [z, h.irr] at e; cases e
theorem Lin.of_ne {α : Type} {lt : α → α → Bool} (h : Lin lt) {x y : α} (hn : x ≠ y) (e : lt y x = false) : lt x y = true := by
  cases e2 : lt x y with
  | true => rfl
  | false => exact absurd (h.tot x y e2 e) hn
def ltN (a b : Nat) : Bool := decide (a < b)
def ltI (a b : Int) : Bool := decide (a < b)
theorem lin_N : Lin ltN := ⟨fun x => by simp [ltN], fun x y z h1 h2 => by simp only [ltN, decide_eq_true_iff] at *; omega, fun x y h1 h2 => by simp only [ltN, decide_eq_false_iff_not] at *; omega⟩
theorem lin_I : Lin ltI := ⟨fun x => by simp [ltI], fun x y z h1 h2 => by simp only [ltI, decide_eq_true_iff] at *; omega, fun x y h1 h2 => by simp only [ltI, decide_eq_false_iff_not] at *; omega⟩
section
variable {α β : Type} [DecidableEq α] [DecidableEq β]
def ltL (lt : α → α → Bool) : List α → List α → Bool
  | [], [] => false
  | [], _ :: _ => true
  | _ :: _, [] => false
  | x :: xs, y :: ys => if x = y then ltL lt xs ys else lt x y
def ltP (lt : α → α → Bool) (lt' : β → β → Bool) (p q : α × β) : Bool := if p.1 = q.1 then lt' p.2 q.2 else lt p.1 q.1
theorem ltL_irr {lt : α → α → Bool} : ∀ xs : List α, ltL lt xs xs = false
  | [] => rfl
  | x :: xs => by rw [ltL, if_pos rfl]; exact ltL_irr xs
theorem ltL_tr {lt : α → α → Bool} (h : Lin lt) : ∀ x y z : List α, ltL lt x y = true → ltL lt y z = true → ltL lt x z = true
  | [], [], _, h1, _ => by cases h1
  | [], _ :: _, [], _, h2 => by cases h2
  | [], _ :: _, _ :: _, _, _ => rfl
  | _ :: _, [], _, h1, _ => by cases h1
  | _ :: _, _ :: _, [], _, h2 => by cases h2
  | x :: xs, y :: ys, z :: zs, h1, h2 => by
    rw [ltL] at h1 h2 ⊢
    by_cases e1 : x = y
    · subst e1
      rw [if_pos rfl] at h1
      by_cases e2 : x = z
      · rw [if_pos e2] at h2 ⊢; exact ltL_tr h xs ys zs h1 h2
      · rw [if_neg e2] at h2 ⊢; exact h2
    · rw [if_neg e1] at h1
      by_cases e2 : y = z
      · subst e2
        rw [if_neg e1]; exact h1
      · rw [if_neg e2] at h2
        have h3 := h.tr x y z h1 h2
        rw [if_neg (h.ne h3)]; exact h3
theorem ltL_tot {lt : α → α → Bool} (h : Lin lt) : ∀ x y : List α, ltL lt x y = false → ltL lt y x = false → x = y
  | [], [], _, _ => rfl
  | [], _ :: _, h1, _ => by cases h1
  | _ :: _, [], _, h2 => by cases h2
  | x :: xs, y :: ys, h1, h2 => by
    rw [ltL] at h1 h2
    by_cases e1 : x = y
    · subst e1
      rw [if_pos rfl] at h1 h2
      rw [ltL_tot h xs ys h1 h2]
    · rw [if_neg e1] at h1
      rw [if_neg fun z => e1 z.symm] at h2
      exact absurd (h.tot x y h1 h2) e1
theorem Lin.lst {lt : α → α → Bool} (h : Lin lt) : Lin (ltL lt) := ⟨ltL_irr, ltL_tr h, ltL_tot h⟩
theorem Lin.prod {lt : α → α → Bool} {lt' : β → β → Bool} (h : Lin lt) (h' : Lin lt') : Lin (ltP lt lt') := by
  refine ⟨fun x => by rw [ltP, if_pos rfl]; exact h'.irr _, fun x y z h1 h2 => ?_, fun x y h1 h2 => ?_⟩
  · unfold ltP at h1 h2 ⊢
    by_cases e1 : x.1 = y.1
    · rw [if_pos e1] at h1
      by_cases e2 : y.1 = z.1
      · rw [if_pos e2] at h2
        rw [if_pos (e1.trans e2)]
        exact h'.tr _ _ _ h1 h2
      · rw [if_neg e2] at h2
        rw [if_neg fun z => e2 (e1.symm.trans z), e1]; exact h2
    · rw [if_neg e1] at h1
      by_cases e2 : y.1 = z.1
      · rw [if_neg fun z => e1 (z.trans e2.symm), ← e2]; exact h1
      · rw [if_neg e2] at h2
        have h3 := h.tr _ _ _ h1 h2
        rw [if_neg (h.ne h3)]; exact h3
  · unfold ltP at h1 h2
    by_cases e1 : x.1 = y.1
    · rw [if_pos e1] at h1
      rw [if_pos e1.symm] at h2
      exact Prod.ext e1 (h'.tot _ _ h1 h2)
    · rw [if_neg e1] at h1
      rw [if_neg fun z => e1 z.symm] at h2
      exact absurd (h.tot _ _ h1 h2) e1
/-! ### data in order -/
structure OrdE (e : α → D) (lt : α → α → Bool) : Prop where
  lt_eq : ∀ x y, dataLt (e x).py (e y).py = lt x y
  al : ∀ x y, alike (e x).py (e y).py = true
  eqv : ∀ x y, PyData.eqv (e x).py (e y).py = decide (x = y)
theorem ord_int : OrdE D.int ltI := ⟨fun x y => PySem.W.dataLt_int x y, fun _ _ => rfl, enc_int.eqv⟩
theorem ord_nat : OrdE nE ltN := ⟨fun x y => by
  rw [show dataLt (nE x).py (nE y).py = decide ((x : Int) < y) from PySem.W.dataLt_int x y, ltN]
  exact decide_eq_decide.mpr (by omega), fun _ _ => rfl, enc_nat.eqv⟩
theorem toks_map {e : α → D} {lt : α → α → Bool} (h : OrdE e lt) : ∀ xs ys : List α, PyProof.Rows.lexLt PyProof.Rows.itemOrd (keyToksAll (D.pyL (xs.map e))) (keyToksAll (D.pyL (ys.map e))) = ltL lt xs ys
  | [], [] => rfl
  | [], _ :: _ => by
    rw [List.map_nil, List.map_cons, D.pyL, D.pyL, keyToksAll, keyToksAll]
    show PyProof.Rows.lexLt PyProof.Rows.itemOrd (.inl 0 :: []) (.inl 1 :: _) = true
    rw [PyProof.Rows.lexLt]; rfl
  | _ :: _, [] => by
    rw [List.map_nil, List.map_cons, D.pyL, D.pyL, keyToksAll, keyToksAll]
    show PyProof.Rows.lexLt PyProof.Rows.itemOrd (.inl 1 :: _) (.inl 0 :: []) = false
    rw [PyProof.Rows.lexLt]; rfl
  | x :: xs, y :: ys => by
    rw [List.map_cons, List.map_cons, D.pyL, D.pyL, ltL]
    by_cases hxy : x = y
    · rw [if_pos hxy, PySem.W.dataLt_all_yes (h.al x y) (by rw [h.eqv, decide_eq_true hxy]), toks_map h xs ys]
    · rw [if_neg hxy, PySem.W.dataLt_all_no (h.al x y) (by rw [h.eqv, decide_eq_false hxy]), h.lt_eq]
theorem alike_map {e : α → D} (h : ∀ x y, alike (e x).py (e y).py = true) : ∀ xs ys : List α, alikeAll (D.pyL (xs.map e)) (D.pyL (ys.map e)) = true
  | [], ys => by rw [List.map_nil, D.pyL, alikeAll]
  | _ :: _, [] => by rw [List.map_cons, List.map_nil, D.pyL, D.pyL]; rfl
  | x :: xs, y :: ys => by rw [List.map_cons, List.map_cons, D.pyL, D.pyL, alikeAll, h x y, alike_map h xs ys]; rfl
theorem OrdE.tup {e : α → D} {lt : α → α → Bool} (h : OrdE e lt) : OrdE (fun xs : List α => D.tup (xs.map e)) (ltL lt) :=
  ⟨fun xs ys => by rw [D.py, D.py, PySem.W.dataLt_tuple, toks_map h], fun xs ys => by rw [D.py, D.py, alike]; exact alike_map h.al xs ys, fun xs ys => by simp only [D.py, PyData.eqv]; exact eqvAll_map h.eqv xs ys⟩
theorem OrdE.pair {e : α → D} {e' : β → D} {lt : α → α → Bool} {lt' : β → β → Bool} (h : OrdE e lt) (h' : OrdE e' lt') : OrdE (fun p : α × β => D.tup [e p.1, e' p.2]) (ltP lt lt') := by
  refine ⟨fun x y => ?_, fun x y => ?_, fun x y => ?_⟩
  · rw [D.py, D.py, PySem.W.dataLt_tuple]
    simp only [D.pyL]
    unfold ltP
    by_cases e1 : x.1 = y.1
    · rw [if_pos e1, PySem.W.dataLt_all_yes (h.al _ _) (by rw [h.eqv, decide_eq_true e1])]
      by_cases e2 : x.2 = y.2
      · rw [PySem.W.dataLt_all_yes (h'.al _ _) (by rw [h'.eqv, decide_eq_true e2]), ← h'.lt_eq, e2]
        show PyProof.Rows.lexLt PyProof.Rows.itemOrd (keyToksAll []) (keyToksAll []) = PyProof.Rows.lexLt _ _ _
        rw [PyProof.Rows.lex_irrefl, PyProof.Rows.lex_irrefl]
      · rw [PySem.W.dataLt_all_no (h'.al _ _) (by rw [h'.eqv, decide_eq_false e2]), h'.lt_eq]
    · rw [if_neg e1, PySem.W.dataLt_all_no (h.al _ _) (by rw [h.eqv, decide_eq_false e1]), h.lt_eq]
  · rw [D.py, D.py, alike]
    simp only [D.pyL, alikeAll, h.al, h'.al]; rfl
  · simp only [D.py, D.pyL, PyData.eqv, PyData.eqvAll, h.eqv, h'.eqv]
    by_cases e1 : x.1 = y.1 <;> by_cases e2 : x.2 = y.2 <;> simp [e1, e2, Prod.ext_iff]
/-- a triple -/
theorem OrdE.tri {γ : Type} [DecidableEq γ] {e : α → D} {e' : β → D} {e2 : γ → D} {lt : α → α → Bool} {lt' : β → β → Bool} {lt2 : γ → γ → Bool} (h : OrdE e lt) (h' : OrdE e' lt') (h2 : OrdE e2 lt2) : OrdE (fun p : α × β × γ => D.tup [e p.1, e' p.2.1, e2 p.2.2]) (ltP lt (ltP lt' lt2)) := by
  have hp := OrdE.pair h' h2
  refine ⟨fun x y => ?_, fun x y => ?_, fun x y => ?_⟩
  · have hq := hp.lt_eq x.2 y.2
    rw [D.py, D.py, PySem.W.dataLt_tuple] at hq ⊢
    simp only [D.pyL] at hq ⊢
    rw [ltP]
    by_cases e1 : x.1 = y.1
    · rw [if_pos e1, PySem.W.dataLt_all_yes (h.al _ _) (by rw [h.eqv, decide_eq_true e1])]
      exact hq
    · rw [if_neg e1, PySem.W.dataLt_all_no (h.al _ _) (by rw [h.eqv, decide_eq_false e1]), h.lt_eq]
  · rw [D.py, D.py, alike]
    simp only [D.pyL, alikeAll, h.al, h'.al, h2.al]; rfl
  · simp only [D.py, D.pyL, PyData.eqv, PyData.eqvAll, h.eqv, h'.eqv, h2.eqv]
    by_cases e1 : x.1 = y.1 <;> by_cases e2 : x.2.1 = y.2.1 <;> by_cases e3 : x.2.2 = y.2.2 <;> simp [e1, e2, e3, Prod.ext_iff]
end
/-! ### sorted -/
section
variable {α : Type} {lt : α → α → Bool}
def ins (lt : α → α → Bool) (x : α) : List α → List α
  | [] => [x]
  | y :: ys => if lt y x = true then y :: ins lt x ys else x :: y :: ys
/-- in order -/
def srt (lt : α → α → Bool) : List α → List α
  | [] => []
  | x :: xs => ins lt x (srt lt xs)
theorem ins_perm (x : α) : ∀ ys : List α, (ins lt x ys).Perm (x :: ys)
  | [] => List.Perm.refl _
  | y :: ys => by
    rw [ins]
    split
    · exact ((ins_perm x ys).cons y).trans (List.Perm.swap x y ys)
    · exact List.Perm.refl _
theorem srt_perm : ∀ xs : List α, (srt lt xs).Perm xs
  | [] => List.Perm.refl _
  | x :: xs => (ins_perm x _).trans ((srt_perm xs).cons x)
theorem ins_le (h : Lin lt) (x : α) : ∀ {ys : List α}, ys.Pairwise (fun a b => lt b a = false) → (ins lt x ys).Pairwise (fun a b => lt b a = false)
  | [], _ => List.pairwise_singleton _ _
  | y :: ys, hp => by
    rw [List.pairwise_cons] at hp
    rw [ins]
    split
    · rename_i hy
      rw [List.pairwise_cons]
      refine ⟨fun z hz => ?_, ins_le h x hp.2⟩
      rcases List.mem_cons.mp ((ins_perm x ys).mem_iff.mp hz) with e | hz
      · subst e; exact h.asym hy
      · exact hp.1 z hz
    · rename_i hy
      have hy : lt y x = false := by simpa using hy
      rw [List.pairwise_cons]
      refine ⟨fun z hz => ?_, List.pairwise_cons.mpr hp⟩
      rcases List.mem_cons.mp hz with e | hz
      · subst e; exact hy
      · have h1 := hp.1 z hz
        cases e : lt z x with
        | false => rfl
        | true =>
          by_cases exy : x = y
          · subst exy; rw [e] at h1; cases h1
          · have := h.of_ne exy hy
            have := h.tr z x y e this
            rw [this] at h1; cases h1
theorem srt_le (h : Lin lt) : ∀ xs : List α, (srt lt xs).Pairwise (fun a b => lt b a = false)
  | [] => List.Pairwise.nil
  | x :: xs => ins_le h x (srt_le h xs)
theorem srt_mem {x : α} {xs : List α} : x ∈ srt lt xs ↔ x ∈ xs := (srt_perm xs).mem_iff
theorem srt_lt (h : Lin lt) {xs : List α} (nd : xs.Nodup) : (srt lt xs).Pairwise (fun a b => lt a b = true) := by
  have nd2 : (srt lt xs).Nodup := (srt_perm xs).nodup_iff.mpr nd
  exact ((srt_le h xs).and nd2).imp fun ⟨h1, h2⟩ => h.of_ne h2 h1
theorem sorted_eq (h : Lin lt) {xs ys : List α} (h1 : xs.Pairwise (fun a b => lt b a = false)) (h2 : ys.Pairwise (fun a b => lt b a = false)) (hp : xs.Perm ys) : xs = ys :=
  List.Perm.eq_of_pairwise (le := fun a b => lt b a = false) (fun a b _ _ e1 e2 => h.tot a b e2 e1) h1 h2 hp
theorem srt_self (h : Lin lt) {xs : List α} (hs : xs.Pairwise (fun a b => lt a b = true)) : srt lt xs = xs :=
  sorted_eq h (srt_le h xs) (hs.imp fun e => h.asym e) (srt_perm xs)
theorem lt_nodup (h : Lin lt) {xs : List α} (hs : xs.Pairwise (fun a b => lt a b = true)) : xs.Nodup := hs.imp fun e => h.ne e
theorem srt_ext (h : Lin lt) {xs ys : List α} (hs : xs.Pairwise (fun a b => lt a b = true)) (ndy : ys.Nodup) (hm : ∀ x, x ∈ xs ↔ x ∈ ys) : srt lt ys = xs :=
  sorted_eq h (srt_le h ys) (hs.imp fun e => h.asym e) ((srt_perm ys).trans ((List.perm_ext_iff_of_nodup ndy (lt_nodup h hs)).mpr fun x => (hm x).symm))
end
section
variable {α : Type} [DecidableEq α] {e : α → D} {lt : α → α → Bool} {Q : D → Prop} {n : Nat}
theorem sortL_map (ho : OrdE e lt) (h : Lin lt) (xs : List α) : sortL (xs.map e) = (srt lt xs).map e := by
  unfold sortL
  have h1 : (xs.mergeSort fun a b => !lt b a).map e = (xs.map e).mergeSort (PySem.W.dataLe false D.py) := by
    refine List.map_mergeSort fun a _ b _ => ?_
    show (!lt b a) = !dataLt (e b).py (e a).py
    rw [ho.lt_eq]
  rw [← h1]
  congr 1
  refine sorted_eq h ?_ (srt_le h xs) ((List.mergeSort_perm _ _).trans (srt_perm xs).symm)
  have := List.pairwise_mergeSort (le := fun a b => !lt b a) (fun a b c e1 e2 => ?_) (fun a b => ?_) xs
  · exact this.imp fun e => by simpa using e
  · simp only [Bool.not_eq_true'] at e1 e2 ⊢
    cases e3 : lt c a with
    | false => rfl
    | true =>
      by_cases hab : a = b
      · subst hab; rw [e3] at e2; cases e2
      · have := h.of_ne hab e1
        have := h.tr c a b e3 this
        rw [this] at e2; cases e2
  · simp only [Bool.or_eq_true, Bool.not_eq_true']
    cases e3 : lt b a with
    | false => exact .inl rfl
    | true => exact .inr (h.asym e3)
/-- data that can be sorted: tuples with a thing in them, or none -/
theorem sortOk_map (ho : OrdE e lt) (he : Enc e n) (hn : n ≤ 50) {xs : List α} (ht : (∀ x ∈ xs, ∃ d r, e x = .tup (d :: r)) ∨ ∀ x ∈ xs, ∀ r, e x ≠ .tup r ∧ e x ≠ .non) : sortOk (xs.map e) = true := by
  simp only [sortOk, List.all_map, Bool.and_eq_true, Bool.or_eq_true, List.all_eq_true, Function.comp]
  refine ⟨⟨fun x _ => he.sm hn x, fun x _ y _ => ho.al x y⟩, ?_⟩
  rcases ht with h | h
  · refine .inl fun x hx => ?_
    obtain ⟨d, r, q⟩ := h x hx
    rw [q]
  · refine .inr fun x hx => ?_
    have h2 := h x hx
    cases hq : e x with
    | tup r => exact absurd hq (h2 r).1
    | non => exact absurd hq (h2 []).2
    | _ => rfl
theorem o_sortE (ho : OrdE e lt) (h : Lin lt) (he : Enc e n) {xs : List α} (ht : (∀ x ∈ xs, ∃ d r, e x = .tup (d :: r)) ∨ ∀ x ∈ xs, ∀ r, e x ≠ .tup r ∧ e x ≠ .non) (q : Q (.lst ((srt lt xs).map e))) (hn : n ≤ 50 := by decide) : OrW (sortedD [.lst (xs.map e)]) Q :=
  .of (by rw [sortedD, if_pos (sortOk_map ho he hn ht), sortL_map ho h]) q
theorem o_sortET (ho : OrdE e lt) (h : Lin lt) (he : Enc e n) {xs : List α} (ht : (∀ x ∈ xs, ∃ d r, e x = .tup (d :: r)) ∨ ∀ x ∈ xs, ∀ r, e x ≠ .tup r ∧ e x ≠ .non) (q : Q (.lst ((srt lt xs).map e))) (hn : n ≤ 50 := by decide) : OrW (sortedD [.tup (xs.map e)]) Q :=
  .of (by rw [sortedD, if_pos (sortOk_map ho he hn ht), sortL_map ho h]) q
theorem o_sortNL {xs : List Nat} (q : Q (lN (srt ltN xs))) : OrW (sortedD [lN xs]) Q := o_sortE ord_nat lin_N enc_nat (.inr fun _ _ _ => ⟨by simp, by simp⟩) q
theorem o_sortNT {xs : List Nat} (q : Q (lN (srt ltN xs))) : OrW (sortedD [tN xs]) Q := o_sortET ord_nat lin_N enc_nat (.inr fun _ _ _ => ⟨by simp, by simp⟩) q
/-! ### < -/
theorem ltD_E (ho : OrdE e lt) (he : Enc e n) (hn : n ≤ 50) (x y : α) (hx : e x ≠ .non) : ltD (e x) (e y) = some (lt x y) := by
  have h1 := he.sm hn x
  have h2 := he.sm hn y
  have h3 := ho.al x y
  have h4 := ho.lt_eq x y
  unfold ltD
  split
  · rename_i i j e1 e2
    rw [e1, e2] at h4
    rw [show dataLt (D.int i).py (D.int j).py = decide (i < j) from PySem.W.dataLt_int i j] at h4
    rw [h4]
  · rw [if_pos ⟨h1, h2, hx, h3⟩, h4]
theorem o_ltE (ho : OrdE e lt) (he : Enc e n) {x y : α} (hx : e x ≠ .non) (q : Q (.bl (lt x y))) (hn : n ≤ 50 := by decide) : OrW (opLt (e x) (e y)) Q :=
  .of (by rw [opLt, ltD_E ho he hn x y hx]; rfl) q
theorem o_geE (ho : OrdE e lt) (he : Enc e n) {x y : α} (hx : e x ≠ .non) (q : Q (.bl (!lt x y))) (hn : n ≤ 50 := by decide) : OrW (opGe (e x) (e y)) Q :=
  .of (by rw [opGe, ltD_E ho he hn x y hx]; rfl) q
end
end Sv

set_option maxHeartbeats 1000000
/-! Pl13: dicts with tuples as keys, typed -/
namespace Sv
open PySem (Str PyData)
section
variable {α β : Type} [DecidableEq α] {e : α → D} {f : β → D} {ρ : Rho} {Q : D → Prop}
abbrev rT (e : α → D) (f : β → D) (ps : List (α × β)) : List (D × D) := ps.map fun p => (e p.1, f p.2)
abbrev dT (e : α → D) (f : β → D) (ps : List (α × β)) : D := .dct (t0 :: rT e f ps)
def getQ (x : α) : List (α × β) → Option β
  | [] => none
  | p :: ps => if p.1 = x then some p.2 else getQ x ps
def putQ (x : α) (y : β) (ps : List (α × β)) : List (α × β) := if x ∈ ps.map Prod.fst then ps.map (fun p => if p.1 = x then (p.1, y) else p) else ps ++ [(x, y)]
theorem getQ_mem {x : α} : ∀ {ps : List (α × β)}, (getQ x ps).isSome = decide (x ∈ ps.map Prod.fst)
  | [] => by simp [getQ]
  | p :: ps => by
    rw [getQ, List.map_cons]
    by_cases h : p.1 = x
    · subst h; simp
    · have h2 : x ≠ p.1 := fun z => h z.symm
      rw [if_neg h, getQ_mem]; simp [h2]
theorem getQ_of {x : α} {y : β} : ∀ {ps : List (α × β)}, (ps.map Prod.fst).Nodup → (x, y) ∈ ps → getQ x ps = some y
  | [], _, h => by cases h
  | p :: ps, hn, h => by
    rw [List.map_cons, List.nodup_cons] at hn
    rw [getQ]
    rcases List.mem_cons.mp h with e | h
    · subst e; simp
    · have : ¬ p.1 = x := fun z => hn.1 (z ▸ List.mem_map.mpr ⟨_, h, rfl⟩)
      rw [if_neg this]
      exact getQ_of hn.2 h
theorem getQ_in {x : α} {y : β} : ∀ {ps : List (α × β)}, getQ x ps = some y → (x, y) ∈ ps
  | [], h => by cases h
  | p :: ps, h => by
    rw [getQ] at h
    by_cases hp : p.1 = x
    · rw [if_pos hp] at h
      cases h
      subst hp
      exact List.mem_cons_self ..
    · rw [if_neg hp] at h
      exact List.mem_cons_of_mem _ (getQ_in h)
theorem lk_dT (he : KeyE e) (x : α) : ∀ ps : List (α × β), lkD (rT e f ps) (e x) = (getQ x ps).map f
  | [] => rfl
  | p :: ps => by
    have ih := lk_dT he x ps
    unfold lkD at ih ⊢
    rw [rT, List.map_cons, List.find?_cons, getQ]
    by_cases h : p.1 = x
    · subst h; simp
    · have h2 : e p.1 ≠ e x := fun z => h (he.inj _ _ z)
      simp only [h2, decide_false, if_neg h]
      exact ih
theorem dGet_dT (he : KeyE e) (x : α) (ps : List (α × β)) : dGet (t0 :: rT e f ps) (e x) = some ((getQ x ps).map f) := by
  rw [dGet, keyOk, if_pos (isT0_c _), if_pos (he.key x), rowsD, if_pos (isT0_c _), List.tail_cons, lk_dT he]
theorem inT' (he : KeyE e) (x : α) (ps : List (α × β)) : inD (e x) (dT e f ps) = some (decide (x ∈ ps.map Prod.fst)) := by
  show (dGet _ _).map _ = _
  rw [dGet_dT he, Option.map_some, Option.isSome_map, getQ_mem]
theorem o_inDT (he : KeyE e) {x : α} {ps : List (α × β)} (q : Q (.bl (decide (x ∈ ps.map Prod.fst)))) : OrW (opIn (e x) (dT e f ps)) Q := .of (by rw [opIn, inT' he]; rfl) q
theorem o_ninDT (he : KeyE e) {x : α} {ps : List (α × β)} (q : Q (.bl (!decide (x ∈ ps.map Prod.fst)))) : OrW (opNotIn (e x) (dT e f ps)) Q := .of (by rw [opNotIn, inT' he]; rfl) q
theorem o_ixDT (he : KeyE e) {x : α} {y : β} {ps : List (α × β)} (h : getQ x ps = some y) (q : Q (f y)) : OrW (ixD (dT e f ps) (e x)) Q :=
  .of (by
    show (dGet _ _).join = _
    rw [dGet_dT he, h]; rfl) q
theorem o_getDT2 (he : KeyE e) {x : α} {ps : List (α × β)} (q : Q (((getQ x ps).map f).getD .non)) : OrW (getD2 [dT e f ps, e x]) Q :=
  .of (by
    show (dGet _ _).map _ = _
    rw [dGet_dT he]; rfl) q
theorem o_getDT3 (he : KeyE e) {x : α} {d : D} {ps : List (α × β)} (q : Q (((getQ x ps).map f).getD d)) : OrW (getD3 [dT e f ps, e x, d]) Q :=
  .of (by
    show (dGet _ _).map _ = _
    rw [dGet_dT he]; rfl) q
theorem ptT (he : KeyE e) {x : α} {y : β} {ps : List (α × β)} : ptD (rT e f ps) (e x) (f y) = rT e f (putQ x y ps) := by
  rw [ptD, lk_dT he, Option.isSome_map, getQ_mem, putQ]
  by_cases h : x ∈ ps.map Prod.fst
  · rw [if_pos (by simpa using h), if_pos h, rT, rT, List.map_map, List.map_map]
    refine List.map_congr_left fun p _ => ?_
    simp only [Function.comp]
    by_cases hp : p.1 = x
    · rw [if_pos hp, if_pos (by rw [hp])]
    · rw [if_neg hp, if_neg fun z => hp (he.inj _ _ z)]
  · rw [if_neg (by simpa using h), if_neg h, rT, rT, List.map_append]; rfl
theorem putT (he : KeyE e) {x : α} {y : β} {ps : List (α × β)} (hl : ps.length < 1000000) : dPut (t0 :: rT e f ps) (e x) (f y) = some (t0 :: rT e f (putQ x y ps)) := by
  rw [dPut, keyOk, if_pos (isT0_c _), rowsD, if_pos (isT0_c _), List.tail_cons, if_pos ⟨he.key x, by rw [List.length_map]; rw [PySem.sizeLine_eq]; omega⟩, if_pos (isT0_c _), ptT he]
theorem putQ_new {x : α} {y : β} {ps : List (α × β)} (h : x ∉ ps.map Prod.fst) : putQ x y ps = ps ++ [(x, y)] := by rw [putQ, if_neg h]
theorem putQ_keys {x : α} {y : β} {ps : List (α × β)} : (putQ x y ps).map Prod.fst = if x ∈ ps.map Prod.fst then ps.map Prod.fst else ps.map Prod.fst ++ [x] := by
  unfold putQ
  by_cases h : x ∈ ps.map Prod.fst
  · rw [if_pos h, if_pos h, List.map_map]
    refine List.map_congr_left fun p _ => ?_
    simp only [Function.comp]
    by_cases hp : p.1 = x
    · rw [if_pos hp]
    · rw [if_neg hp]
  · rw [if_neg h, if_neg h, List.map_append]; rfl
theorem putQ_nodup {x : α} {y : β} {ps : List (α × β)} (h : (ps.map Prod.fst).Nodup) : ((putQ x y ps).map Prod.fst).Nodup := by
  rw [putQ_keys]
  by_cases hx : x ∈ ps.map Prod.fst
  · rw [if_pos hx]; exact h
  · rw [if_neg hx]
    refine List.nodup_append.mpr ⟨h, by simp, fun a ha b hb => ?_⟩
    rw [List.mem_singleton] at hb
    subst hb
    exact fun z => hx (z ▸ ha)
theorem putQ_mem {x z : α} {y : β} {ps : List (α × β)} : z ∈ (putQ x y ps).map Prod.fst ↔ z = x ∨ z ∈ ps.map Prod.fst := by
  rw [putQ_keys]
  by_cases hx : x ∈ ps.map Prod.fst
  · rw [if_pos hx]
    exact ⟨.inr, fun h => h.elim (fun h => h ▸ hx) id⟩
  · rw [if_neg hx, List.mem_append, List.mem_singleton]
    exact ⟨fun h => h.symm, fun h => h.symm⟩
theorem putQ_len {x : α} {y : β} {ps : List (α × β)} : (putQ x y ps).length ≤ ps.length + 1 := by
  unfold putQ
  split
  · rw [List.length_map]; omega
  · rw [List.length_append, List.length_singleton]; omega
theorem getQ_put {x z : α} {y : β} : ∀ {ps : List (α × β)}, getQ z (putQ x y ps) = if z = x then some y else getQ z ps := by
  intro ps
  unfold putQ
  by_cases hx : x ∈ ps.map Prod.fst
  · rw [if_pos hx]
    induction ps with
    | nil => simp at hx
    | cons p ps ih =>
      rw [List.map_cons, getQ, getQ]
      by_cases hp : p.1 = x
      · rw [if_pos hp]
        by_cases hz : z = x
        · rw [if_pos hz, if_pos (by rw [hp, hz])]
        · rw [if_neg hz, if_neg (by rw [hp]; exact fun q => hz q.symm), if_neg (by rw [hp]; exact fun q => hz q.symm)]
          by_cases hx2 : x ∈ ps.map Prod.fst
          · have := ih hx2
            rw [if_neg hz] at this
            exact this
          · have : ps.map (fun p => if p.1 = x then (p.1, y) else p) = ps := by
              conv => rhs; rw [← List.map_id ps]
              refine List.map_congr_left fun p hp => ?_
              rw [if_neg fun (q : p.1 = x) => hx2 (q ▸ List.mem_map.mpr ⟨_, hp, rfl⟩)]; rfl
            rw [this]
      · rw [if_neg hp]
        have hx2 : x ∈ ps.map Prod.fst := by
          rw [List.map_cons] at hx
          rcases List.mem_cons.mp hx with h | h
          · exact absurd h.symm hp
          · exact h
        by_cases hpz : p.1 = z
        · rw [if_pos hpz, if_pos hpz, if_neg fun q => hp (by rw [hpz, q])]
        · rw [if_neg hpz, if_neg hpz, ih hx2]
  · rw [if_neg hx]
    induction ps with
    | nil =>
      show getQ z [(x, y)] = _
      by_cases hz : z = x
      · subst hz; simp [getQ]
      · have : ¬ x = z := fun q => hz q.symm
        simp [getQ, hz, this]
    | cons p ps ih =>
      have hp : ¬ p.1 = x := fun q => hx (by rw [List.map_cons]; exact List.mem_cons.mpr (.inl q.symm))
      have hx2 : x ∉ ps.map Prod.fst := fun h => hx (by rw [List.map_cons]; exact List.mem_cons_of_mem _ h)
      rw [List.cons_append, getQ, getQ]
      by_cases hpz : p.1 = z
      · rw [if_pos hpz, if_pos hpz, if_neg fun q => hp (by rw [hpz, q])]
      · rw [if_neg hpz, if_neg hpz, ih hx2]
theorem sw_dputT {Q : Fl → Rho → Prop} {g g' : Ex} {i : Nat} (he : KeyE e) {x : α} {y : β} {ps : List (α × β)} (e0 : ρ[i]? = some (Sl.own (dT e f ps))) (hl : ps.length < 1000000) (h' : Ew g' ρ fun d => d = f y) (h : Ew g ρ fun d => d = e x) (q : Q .nx (ρ.set i (.own (dT e f (putQ x y ps))))) : Sw (sDPut i g g') ρ Q := fun b => by
  obtain ⟨_, b1, e1, rfl⟩ := h' b
  obtain ⟨_, b2, e2, rfl⟩ := h b1
  exact ⟨.nx, _, b2, by unfold sDPut; simp only [e1, e0, e2, putT he hl], q⟩
theorem ew_dT0 (q : Q (dT e f [])) : Ew eDicT0 ρ Q := fun b => ⟨_, b, rfl, q⟩
theorem ew_dT1 {g g' : Ex} (he : KeyE e) {x : α} {y : β} (h : Ew g ρ fun d => d = e x) (h' : Ew g' ρ fun d => d = f y) (q : Q (dT e f [(x, y)])) : Ew (eDisp true (pCons g g' pNil)) ρ Q := fun b => by
  obtain ⟨_, b1, e1, rfl⟩ := h b
  obtain ⟨_, b2, e2, rfl⟩ := h' b1
  have : dPut [t0] (e x) (f y) = some (t0 :: rT e f [(x, y)]) := putT (f := f) he (x := x) (y := y) (ps := []) (by simp)
  exact ⟨_, b2, by unfold eDisp pCons; rw [e1]; simp only [e2, pNil, if_true, putAll, this], q⟩
theorem updT (he : KeyE e) : ∀ (qs ps : List (α × β)), updRows (rT e f ps) (rT e f qs) = rT e f (qs.foldl (fun a p => putQ p.1 p.2 a) ps)
  | [], ps => rfl
  | p :: qs, ps => by
    show updRows (ptD (rT e f ps) (e p.1) (f p.2)) (rT e f qs) = _
    rw [ptT he, updT he qs]; rfl
theorem upd_new : ∀ {qs ps : List (α × β)}, ((ps ++ qs).map Prod.fst).Nodup → qs.foldl (fun a p => putQ p.1 p.2 a) ps = ps ++ qs
  | [], ps, _ => by simp
  | p :: qs, ps, h => by
    have h1 : p.1 ∉ ps.map Prod.fst := fun z => by
      rw [List.map_append, List.map_cons] at h
      exact (List.nodup_append.mp h).2.2 _ z _ (List.mem_cons_self ..) rfl
    rw [List.foldl_cons, putQ_new h1, upd_new (by rw [List.append_assoc]; exact h), List.append_assoc]; rfl
theorem sw_updT {Q : Fl → Rho → Prop} {g : Ex} {i : Nat} (he : KeyE e) {ps qs : List (α × β)} (e0 : ρ[i]? = some (Sl.own (dT e f ps))) (h0 : 0 < ps.length) (hl : ps.length + qs.length ≤ 1000000) (hn : ((ps ++ qs).map Prod.fst).Nodup) (h : Ew g ρ fun d => d = dT e f qs) (q : Q .nx (ρ.set i (.own (dT e f (ps ++ qs))))) : Sw (sUpd i g) ρ Q := fun b => by
  obtain ⟨_, b1, e1, rfl⟩ := h b
  refine ⟨.nx, _, b1, ?_, q⟩
  unfold sUpd
  simp only [e0, e1]
  rw [if_pos ⟨isT0_c _, isT0_c _, by rw [List.tail_cons, List.length_map]; exact h0, by rw [List.tail_cons, List.tail_cons, List.length_map, List.length_map, PySem.sizeLine_eq]; omega⟩, List.tail_cons, List.tail_cons, updT he, upd_new hn]
theorem keysT (ps : List (α × β)) : keysD (t0 :: rT e f ps) = (ps.map Prod.fst).map e := by
  rw [keysD, rowsD, if_pos (isT0_c _), List.tail_cons, List.map_map, List.map_map]; rfl
theorem iw_keysT {g : Ex} {Q : List D → Prop} {ps : List (α × β)} (h : Ew g ρ fun d => d = dT e f ps ∧ Q ((ps.map Prod.fst).map e)) : Iw (iKeys g) ρ Q := fun b => by
  obtain ⟨_, b1, e1, rfl, q⟩ := h b
  exact ⟨_, b1, by unfold iKeys; rw [e1], by rw [keysT]; exact q⟩
theorem iw_valsT {g : Ex} {Q : List D → Prop} {ps : List (α × β)} (h : Ew g ρ fun d => d = dT e f ps ∧ Q ((ps.map Prod.snd).map f)) : Iw (iVals g) ρ Q := fun b => by
  obtain ⟨_, b1, e1, rfl, q⟩ := h b
  exact ⟨_, b1, by unfold iVals; rw [e1], by rw [valsD, rowsD, if_pos (isT0_c _), List.tail_cons, List.map_map]; rw [List.map_map] at q; exact q⟩
theorem o_sortDT {lt : α → α → Bool} {n : Nat} (ho : OrdE e lt) (h : Lin lt) (he : Enc e n) {ps : List (α × β)} (ht : ∀ x, ∃ d r, e x = .tup (d :: r)) (q : Q (.lst ((srt lt (ps.map Prod.fst)).map e))) (hn : n ≤ 50 := by decide) : OrW (sortedD [dT e f ps]) Q :=
  .of (by rw [sortedD, keysT, if_pos (sortOk_map ho he hn (.inl fun x _ => ht x)), sortL_map ho h]) q
theorem o_lenDT {ps : List (α × β)} (q : Q (.int ps.length)) : OrW (lenD [dT e f ps]) Q :=
  .of (by
    show some (D.int ((rowsD _).length : Nat)) = _
    rw [rowsD, if_pos (isT0_c _), List.tail_cons, List.length_map]) q
theorem sw_augL {Q : Fl → Rho → Prop} {g : Ex} {i : Nat} {en : α → D} {xs : List α} (e0 : ρ[i]? = some (Sl.own (.lst (xs.map en)))) (h : Ew g ρ fun d => ∃ ys : List α, d = .lst (ys.map en) ∧ xs.length + ys.length ≤ 1000000 ∧ Q .nx (ρ.set i (.own (.lst ((xs ++ ys).map en))))) : Sw (sAugL i g) ρ Q := fun b => by
  obtain ⟨_, b1, e1, ys, rfl, hl, q⟩ := h b
  refine ⟨.nx, _, b1, ?_, q⟩
  unfold sAugL
  simp only [e0, e1]
  rw [if_pos (by rw [List.length_map, List.length_map, PySem.sizeLine_eq]; omega), List.map_append]
/-- {k: v for .. in ..}, tuples as keys -/
theorem ew_dcT {γ : Type} {it : It} {g : Tg} {k v : Ex} {vs : List Nat} (xs : List γ) (enc : γ → D) (fk : γ → α) (fv : γ → β) (he : KeyE e) (hl : xs.length ≤ 1000000) (hi : Iw it ρ fun ds => ds = xs.map enc)
    (hs : ∀ x ∈ xs, ∃ ρ1, g (enc x) (wipeR ρ vs) = some ρ1 ∧ Ew k ρ1 (fun d => d = e (fk x)) ∧ Ew v ρ1 (fun d => d = f (fv x))) (q : Q (dT e f (xs.foldl (fun a x => putQ (fk x) (fv x) a) []))) : Ew (eDc true it g tYes' k v vs) ρ Q := fun b => by
  obtain ⟨_, b1, e1, rfl⟩ := hi b
  have go : ∀ (ys : List γ) (a : List (α × β)) (b : Bx), (∀ x ∈ ys, x ∈ xs) → a.length + ys.length ≤ 1000000 → ∃ b', dcGo g tYes' k v (wipeR ρ vs) (ys.map enc) (t0 :: rT e f a) b = some (t0 :: rT e f (ys.foldl (fun a x => putQ (fk x) (fv x) a) a), b') := by
    intro ys
    induction ys with
    | nil => exact fun a b _ _ => ⟨b, rfl⟩
    | cons y ys ih =>
      intro a b hy hl
      rw [List.length_cons] at hl
      obtain ⟨ρ1, e2, h1, h2⟩ := hs y (hy y (List.mem_cons_self ..))
      obtain ⟨_, b2, e3, rfl⟩ := h1 b
      obtain ⟨_, b3, e4, rfl⟩ := h2 b2
      have hp := putT (f := f) he (x := fk y) (y := fv y) (ps := a) (by omega)
      have hpl := putQ_len (x := fk y) (y := fv y) (ps := a)
      obtain ⟨b4, e5⟩ := ih (putQ (fk y) (fv y) a) b3 (fun x hx => hy x (List.mem_cons_of_mem _ hx)) (by omega)
      refine ⟨b4, ?_⟩
      rw [List.map_cons, List.foldl_cons]
      unfold dcGo
      simp only [e2, tYes', e3, e4, hp]
      exact e5
  obtain ⟨b2, e2⟩ := go xs [] b1 (fun x h => h) (by simpa using hl)
  exact ⟨_, b2, by unfold eDc; rw [e1]; simp only [if_true]; rw [show ([t0] : List (D × D)) = t0 :: rT e f [] from rfl, e2], q⟩
end
end Sv

set_option maxHeartbeats 1000000
/-! k78: lifts, plain -/
namespace K78
open Sv
abbrev Pr := Nat × Nat
/-- how many rides go over floor h: what is due -/
def cdiv (a k : Nat) : Nat := (a + k - 1) / k
def abv (h : Nat) (xs : List Nat) : Nat := (xs.filter fun x => decide (h ≤ x)).length
theorem abv_nil (h : Nat) : abv h [] = 0 := rfl
theorem abv_cons (h x : Nat) (xs : List Nat) : abv h (x :: xs) = (if h ≤ x then 1 else 0) + abv h xs := by
  unfold abv
  rw [List.filter_cons]
  by_cases hx : h ≤ x
  · rw [if_pos hx, if_pos (by simpa using hx), List.length_cons]; omega
  · rw [if_neg hx, if_neg (by simpa using hx)]; omega
theorem abv_app (h : Nat) (xs ys : List Nat) : abv h (xs ++ ys) = abv h xs + abv h ys := by
  unfold abv; rw [List.filter_append, List.length_append]
theorem abv_le (h : Nat) (xs : List Nat) : abv h xs ≤ xs.length := List.length_filter_le _ _
theorem abv_perm {h : Nat} {xs ys : List Nat} (p : xs.Perm ys) : abv h xs = abv h ys := (p.filter _).length_eq
def mx (xs : List Nat) : Nat := xs.foldr max 0
theorem le_mx {xs : List Nat} {x : Nat} (h : x ∈ xs) : x ≤ mx xs := by
  induction xs with
  | nil => cases h
  | cons y xs ih =>
    show x ≤ max y (mx xs)
    rcases List.mem_cons.mp h with e | h
    · omega
    · have := ih h; omega
theorem mx_mem {xs : List Nat} (h : xs ≠ []) : mx xs ∈ xs := by
  induction xs with
  | nil => exact absurd rfl h
  | cons y xs ih =>
    show max y (mx xs) ∈ _
    cases xs with
    | nil => simp [mx]
    | cons z zs =>
      have := ih (by simp)
      by_cases hy : mx (z :: zs) ≤ y
      · rw [Nat.max_eq_left hy]; simp
      · rw [Nat.max_eq_right (by omega)]; exact List.mem_cons_of_mem _ this
theorem abv_zero {h : Nat} {xs : List Nat} (hl : mx xs < h) : abv h xs = 0 := by
  unfold abv
  rw [List.length_eq_zero_iff, List.filter_eq_nil_iff]
  intro x hx
  have := le_mx hx
  simp; omega
/-- so many of the blocks go up to h -/
def over (h : Nat) (B : List (List Nat)) : Nat := (B.filter fun b => decide (h ≤ mx b)).length
theorem over_cons (h : Nat) (b : List Nat) (B : List (List Nat)) : over h (b :: B) = (if h ≤ mx b then 1 else 0) + over h B := by
  unfold over
  rw [List.filter_cons]
  by_cases hx : h ≤ mx b
  · rw [if_pos hx, if_pos (by simpa using hx), List.length_cons]; omega
  · rw [if_neg hx, if_neg (by simpa using hx)]; omega
theorem abv_blocks {k : Nat} {h : Nat} (h1 : 1 ≤ h) : ∀ {B : List (List Nat)}, (∀ b ∈ B, b.length ≤ k) → abv h B.flatten ≤ over h B * k
  | [], _ => by simp [abv_nil]
  | b :: B, hb => by
    rw [List.flatten_cons, abv_app, over_cons]
    have ih := abv_blocks h1 (k := k) (B := B) fun x hx => hb x (by simp [hx])
    have hl := hb b (by simp)
    have h2 := abv_le h b
    by_cases hx : h ≤ mx b
    · rw [if_pos hx, Nat.add_mul, Nat.one_mul]; omega
    · rw [if_neg hx, abv_zero (by omega), Nat.zero_add, Nat.zero_add]; exact ih
theorem cdiv_le {a k m : Nat} (hk : 1 ≤ k) (h : a ≤ m * k) : cdiv a k ≤ m := by
  unfold cdiv
  rw [Nat.div_le_iff_le_mul (by omega)]
  omega
theorem over_ge {k h : Nat} (hk : 1 ≤ k) (h1 : 1 ≤ h) {B : List (List Nat)} (hb : ∀ b ∈ B, b.length ≤ k) : cdiv (abv h B.flatten) k ≤ over h B := cdiv_le hk (abv_blocks h1 hb)
/-- sum over the floors 1 .. N -/
def sumF (N : Nat) (f : Nat → Nat) : Nat := ((List.range N).map fun h => f (h + 1)).sum
theorem sumF_succ (N : Nat) (f : Nat → Nat) : sumF (N + 1) f = sumF N f + f (N + 1) := by unfold sumF; rw [List.range_succ]; simp
theorem sumF_le {f g : Nat → Nat} : ∀ {N : Nat}, (∀ h, 1 ≤ h → h ≤ N → f h ≤ g h) → sumF N f ≤ sumF N g
  | 0, _ => Nat.le_refl _
  | N + 1, h => by
    rw [sumF_succ, sumF_succ]
    have := sumF_le (N := N) fun x h1 h2 => h x h1 (by omega)
    have := h (N + 1) (by omega) (by omega)
    omega
theorem sumF_congr {f g : Nat → Nat} {N : Nat} (h : ∀ x, 1 ≤ x → x ≤ N → f x = g x) : sumF N f = sumF N g := Nat.le_antisymm (sumF_le fun x h1 h2 => Nat.le_of_eq (h x h1 h2)) (sumF_le fun x h1 h2 => Nat.le_of_eq (h x h1 h2).symm)
theorem sumF_add (f g : Nat → Nat) : ∀ N : Nat, sumF N (fun h => f h + g h) = sumF N f + sumF N g
  | 0 => rfl
  | N + 1 => by rw [sumF_succ, sumF_succ, sumF_succ, sumF_add f g N]; omega
theorem sumF_ind (m : Nat) : ∀ N : Nat, sumF N (fun h => if h ≤ m then 1 else 0) = min m N
  | 0 => by simp [sumF]
  | N + 1 => by
    rw [sumF_succ, sumF_ind m N]
    by_cases h : N + 1 ≤ m
    · rw [if_pos h]; omega
    · rw [if_neg h]; omega
theorem sumF_zero : ∀ N : Nat, sumF N (fun _ => 0) = 0
  | 0 => rfl
  | N + 1 => by rw [sumF_succ, sumF_zero N]
/-- times of blocks: by floors -/
theorem time_over {N : Nat} : ∀ {B : List (List Nat)}, (∀ b ∈ B, mx b ≤ N) → (B.map mx).sum = sumF N fun h => over h B
  | [], _ => by
    show 0 = sumF N fun h => 0
    rw [sumF_zero]
  | b :: B, hb => by
    rw [List.map_cons, List.sum_cons, time_over (B := B) fun x hx => hb x (by simp [hx])]
    have e : (fun h => over h (b :: B)) = fun h => (if h ≤ mx b then 1 else 0) + over h B := by funext h; exact over_cons h b B
    rw [e, sumF_add, sumF_ind]
    have := hb b (by simp)
    omega
def due (N k : Nat) (xs : List Nat) : Nat := sumF N fun h => 2 * cdiv (abv h xs) k
theorem sumF_mul (f : Nat → Nat) : ∀ N : Nat, sumF N (fun h => 2 * f h) = 2 * sumF N f
  | 0 => rfl
  | N + 1 => by rw [sumF_succ, sumF_succ, sumF_mul f N]; omega
theorem due_perm {N k : Nat} {xs ys : List Nat} (p : xs.Perm ys) : due N k xs = due N k ys := sumF_congr fun h _ _ => by rw [abv_perm p]
/-- no way takes less than is due -/
theorem due_le {N k : Nat} (hk : 1 ≤ k) {B : List (List Nat)} (hb : ∀ b ∈ B, b.length ≤ k ∧ mx b ≤ N) : due N k B.flatten ≤ 2 * (B.map mx).sum := by
  rw [time_over (N := N) fun b h => (hb b h).2, ← sumF_mul]
  exact sumF_le fun h h1 _ => Nat.mul_le_mul_left 2 (over_ge hk h1 fun b h => (hb b h).1)
/-- blocks as the told ones: all but the last are full, from the top down -/
def Full (k : Nat) : List (List Nat) → Prop
  | [] => True
  | [b] => 1 ≤ b.length ∧ b.length ≤ k
  | b :: B => b.length = k ∧ Full k B
theorem full_cons {k : Nat} {b c : List Nat} {B : List (List Nat)} : Full k (b :: c :: B) ↔ b.length = k ∧ Full k (c :: B) := Iff.rfl
theorem full_len {k : Nat} (hk : 1 ≤ k) : ∀ {B : List (List Nat)}, Full k B → ∀ b ∈ B, 1 ≤ b.length ∧ b.length ≤ k
  | [], _, b, h => by cases h
  | [c], hf, b, h => by
    rw [List.mem_singleton] at h
    subst h
    exact hf
  | c :: d :: B, hf, b, h => by
    rw [full_cons] at hf
    rcases List.mem_cons.mp h with e | h
    · subst e; omega
    · exact full_len hk hf.2 b h
theorem cdiv_add {a k : Nat} (hk : 1 ≤ k) : cdiv (k + a) k = 1 + cdiv a k := by
  unfold cdiv
  rw [show k + a + k - 1 = (a + k - 1) + k by omega, Nat.add_div_right _ (by omega)]
  omega
theorem cdiv_one {a k : Nat} (h1 : 1 ≤ a) (h2 : a ≤ k) : cdiv a k = 1 := by
  unfold cdiv
  rw [show a + k - 1 = (a - 1) + k by omega, Nat.add_div_right _ (by omega), Nat.div_eq_of_lt (by omega)]
theorem cdiv_zero {k : Nat} (hk : 1 ≤ k) : cdiv 0 k = 0 := by
  unfold cdiv
  exact Nat.div_eq_of_lt (by omega)
theorem abv_all {h : Nat} {xs : List Nat} (ha : ∀ x ∈ xs, h ≤ x) : abv h xs = xs.length := by
  unfold abv
  rw [List.filter_eq_self.mpr fun x hx => by simpa using ha x hx]
theorem abv_none {h : Nat} {xs : List Nat} (ha : ∀ x ∈ xs, x < h) : abv h xs = 0 := by
  unfold abv
  rw [List.length_eq_zero_iff, List.filter_eq_nil_iff]
  intro x hx
  have := ha x hx
  simp; omega
theorem abv_pos {h x : Nat} {xs : List Nat} (hx : x ∈ xs) (hh : h ≤ x) : 1 ≤ abv h xs := by
  unfold abv
  exact List.length_pos_of_mem (List.mem_filter.mpr ⟨hx, decide_eq_true hh⟩)
def Desc (xs : List Nat) : Prop := xs.Pairwise (· ≥ ·)
theorem over_zero {h : Nat} (h1 : 1 ≤ h) : ∀ {B : List (List Nat)}, (∀ x ∈ B.flatten, x < h) → over h B = 0
  | [], _ => rfl
  | b :: B, ha => by
    rw [List.flatten_cons] at ha
    rw [over_cons, over_zero h1 (B := B) fun x hx => ha x (List.mem_append.mpr (.inr hx))]
    have : ¬ h ≤ mx b := by
      intro hc
      by_cases hb : b = []
      · subst hb
        have : mx ([] : List Nat) = 0 := rfl
        omega
      · have := ha _ (List.mem_append.mpr (.inl (mx_mem hb)))
        omega
    rw [if_neg this]
theorem over_full {k h : Nat} (hk : 1 ≤ k) (h1 : 1 ≤ h) : ∀ {B : List (List Nat)}, Full k B → Desc B.flatten → over h B = cdiv (abv h B.flatten) k
  | [], _, _ => by rw [List.flatten_nil, abv_nil, cdiv_zero hk]; rfl
  | [b], hf, hd => by
    have hf : 1 ≤ b.length ∧ b.length ≤ k := hf
    rw [over_cons, show ([b] : List (List Nat)).flatten = b by simp]
    have hb : b ≠ [] := fun e => by rw [e] at hf; simp at hf
    have e0 : over h ([] : List (List Nat)) = 0 := rfl
    by_cases hc : h ≤ mx b
    · rw [if_pos hc, cdiv_one (abv_pos (mx_mem hb) hc) (Nat.le_trans (abv_le _ _) hf.2), e0]
    · rw [if_neg hc, abv_zero (by omega), cdiv_zero hk, e0]
  | b :: c :: B, hf, hd => by
    rw [full_cons] at hf
    rw [List.flatten_cons] at hd
    have hd1 := List.pairwise_append.mp hd
    have ih := over_full hk h1 hf.2 hd1.2.1
    rw [over_cons, List.flatten_cons, abv_app, ih]
    have hb : b ≠ [] := fun e => by rw [e] at hf; simp at hf; omega
    by_cases hall : ∀ x ∈ b, h ≤ x
    · rw [abv_all hall, hf.1, cdiv_add hk, if_pos (hall _ (mx_mem hb))]
    · have hex : ∃ y ∈ b, y < h := Classical.byContradiction fun hc => hall fun x hx => Classical.byContradiction fun hlt => hc ⟨x, hx, by omega⟩
      obtain ⟨y, hy, hyh⟩ := hex
      have hrest : ∀ x ∈ (c :: B).flatten, x < h := fun x hx => by
        have := hd1.2.2 y hy x hx
        omega
      rw [abv_none hrest, cdiv_zero hk, Nat.add_zero, Nat.add_zero]
      by_cases hc : h ≤ mx b
      · rw [if_pos hc, cdiv_one (abv_pos (mx_mem hb) hc) (Nat.le_trans (abv_le _ _) (by omega))]
      · rw [if_neg hc, abv_zero (by omega), cdiv_zero hk]
theorem due_full {N k : Nat} (hk : 1 ≤ k) {B : List (List Nat)} (hf : Full k B) (hd : Desc B.flatten) (hN : ∀ b ∈ B, mx b ≤ N) : 2 * (B.map mx).sum = due N k B.flatten := by
  rw [time_over hN, ← sumF_mul]
  exact sumF_congr fun h h1 _ => by rw [over_full hk h1 hf hd]
theorem full_num {k : Nat} (hk : 1 ≤ k) : ∀ {B : List (List Nat)}, Full k B → B.length = cdiv B.flatten.length k
  | [], _ => by
    show 0 = cdiv 0 k
    rw [cdiv_zero hk]
  | [b], hf => by
    have hf : 1 ≤ b.length ∧ b.length ≤ k := hf
    rw [show ([b] : List (List Nat)).flatten = b by simp, cdiv_one hf.1 hf.2]; rfl
  | b :: c :: B, hf => by
    rw [full_cons] at hf
    rw [List.flatten_cons, List.length_append, hf.1, cdiv_add hk, List.length_cons, full_num hk hf.2]; omega
theorem cdiv_hold {a k : Nat} (hk : 1 ≤ k) : cdiv a (k + 1) ≤ cdiv a k := by
  refine cdiv_le (by omega) ?_
  have : a ≤ cdiv a k * k := by
    unfold cdiv
    have := Nat.div_add_mod (a + k - 1) k
    have h2 := Nat.mod_lt (a + k - 1) (show k > 0 by omega)
    rw [Nat.mul_comm] at this
    omega
  rw [Nat.mul_add]
  omega
theorem cdiv_mono {a b k : Nat} (h : a ≤ b) : cdiv a k ≤ cdiv b k := Nat.div_le_div_right (by omega)
theorem due_hold {N k : Nat} (hk : 1 ≤ k) (xs : List Nat) : due N (k + 1) xs ≤ due N k xs := sumF_le fun h _ _ => Nat.mul_le_mul_left 2 (cdiv_hold hk)
theorem due_mono {N k : Nat} {xs ys : List Nat} (h : ∀ x, abv x xs ≤ abv x ys) : due N k xs ≤ due N k ys := sumF_le fun x _ _ => Nat.mul_le_mul_left 2 (cdiv_mono (h x))
/-! ### people, expanded; the told rides -/
def ex (ps : List Pr) : List Nat := ps.flatMap fun p => List.replicate p.2 p.1
theorem ex_app (a b : List Pr) : ex (a ++ b) = ex a ++ ex b := by unfold ex; rw [List.flatMap_append]
theorem ex_one (p : Pr) : ex [p] = List.replicate p.2 p.1 := by unfold ex; simp
/-- the state: rides told, the ride as it is (from the top down), room -/
structure Gs where
  R : List (List Pr)
  cur : List Pr
  room : Nat
def putG (k : Nat) : Nat → Pr → Gs → Gs
  | 0, _, g => g
  | fuel + 1, p, g => if 0 < p.2 then
      let s := min p.2 g.room
      let g2 : Gs := ⟨g.R, g.cur ++ [(p.1, s)], g.room - s⟩
      putG k fuel (p.1, p.2 - s) (if g2.room = 0 then ⟨g2.R ++ [g2.cur.reverse], [], k⟩ else g2)
    else g
def endG (g : Gs) : List (List Pr) := if g.cur = [] then g.R else g.R ++ [g.cur.reverse]
def greedy (k : Nat) (ps : List Pr) : List (List Pr) := endG (ps.reverse.foldl (fun g p => putG k (p.2 + 1) p g) ⟨[], [], k⟩)
end K78

set_option maxHeartbeats 1000000
/-! k78: the told rides, plain -/
namespace K78
open Sv
structure Ld (r : List Pr) : Prop where
  asc : r.Pairwise fun a b => a.1 < b.1
  pos : ∀ p ∈ r, 1 ≤ p.2
structure Gi (k : Nat) (C : List Nat) (lo : Nat) (g : Gs) : Prop where
  flat : (g.R.map fun r => ex r.reverse).flatten ++ ex g.cur = C
  full : ∀ r ∈ g.R, (ex r.reverse).length = k ∧ Ld r
  cur : Ld g.cur.reverse
  lo : ∀ p ∈ g.cur, lo ≤ p.1
  room : (ex g.cur).length + g.room = k
  pos : 1 ≤ g.room
theorem Gi.start {k : Nat} (hk : 1 ≤ k) (lo : Nat) : Gi k [] lo ⟨[], [], k⟩ := ⟨rfl, fun r h => (by cases h), ⟨List.Pairwise.nil, fun p h => (by cases h)⟩, fun p h => (by cases h), by show 0 + k = k; omega, hk⟩
theorem Gi.weak {k lo lo' : Nat} {C : List Nat} {g : Gs} (h : Gi k C lo g) (hl : lo' ≤ lo) : Gi k C lo' g := ⟨h.flat, h.full, h.cur, fun p hp => Nat.le_trans hl (h.lo p hp), h.room, h.pos⟩
theorem ex_nil : ex [] = [] := rfl
theorem rep_split {n m : Nat} {f : Nat} (h : m ≤ n) : List.replicate m f ++ List.replicate (n - m) f = List.replicate n f := by
  rw [List.replicate_append_replicate]; congr 1; omega
theorem putG_zero {k fuel f : Nat} {g : Gs} : putG k fuel (f, 0) g = g := by
  cases fuel with
  | zero => rfl
  | succ n => rw [putG, if_neg (by show ¬ 0 < 0; omega)]
theorem putG_gi {k f : Nat} (hk : 1 ≤ k) : ∀ {fuel n : Nat} {g : Gs} {C : List Nat}, n < fuel → Gi k C (f + 1) g → Gi k (C ++ List.replicate n f) f (putG k fuel (f, n) g)
  | 0, n, _, _, h, _ => by omega
  | fuel + 1, n, g, C, hf, h => by
    by_cases hn : 0 < n
    · rw [putG, if_pos (by exact hn)]
      have hp := h.pos
      have hr := h.room
      obtain ⟨s, hs⟩ : ∃ s, s = min n g.room := ⟨_, rfl⟩
      have hs1 : 1 ≤ s := by omega
      have hsn : s ≤ n := by omega
      have hsr : s ≤ g.room := by omega
      have hcur : Ld (g.cur ++ [(f, s)]).reverse := by
        rw [List.reverse_append]
        refine ⟨List.pairwise_append.mpr ⟨by simp, h.cur.asc, fun a ha b hb => ?_⟩, fun p hp => ?_⟩
        · have ha : a = (f, s) := by simpa using ha
          subst ha
          have := h.lo b (List.mem_reverse.mp hb)
          show f < b.1
          omega
        · rcases List.mem_append.mp hp with hp | hp
          · have hp : p = (f, s) := by simpa using hp
            subst hp
            exact hs1
          · exact h.cur.pos p hp
      show Gi k _ f (putG k fuel (f, n - min n g.room) (if g.room - min n g.room = 0 then _ else _))
      rw [← hs]
      by_cases h0 : g.room - s = 0
      · rw [if_pos h0]
        have h2 : Gi k (C ++ List.replicate s f) (f + 1) ⟨g.R ++ [(g.cur ++ [(f, s)]).reverse], [], k⟩ := by
          refine ⟨?_, fun r hr' => ?_, ⟨List.Pairwise.nil, fun p h => (by cases h)⟩, fun p h => (by cases h), by show 0 + k = k; omega, hk⟩
          · show ((g.R ++ [(g.cur ++ [(f, s)]).reverse]).map fun r => ex r.reverse).flatten ++ [] = _
            rw [List.map_append, List.flatten_append, List.append_nil, ← h.flat, List.append_assoc]
            congr 1
            simp [ex_app, ex_one]
          · rcases List.mem_append.mp hr' with hr' | hr'
            · exact h.full r hr'
            · have hr' : r = (g.cur ++ [(f, s)]).reverse := by simpa using hr'
              subst hr'
              refine ⟨?_, hcur⟩
              rw [List.reverse_reverse, ex_app, ex_one, List.length_append, List.length_replicate]
              show (ex g.cur).length + s = k
              omega
        have := putG_gi hk (fuel := fuel) (n := n - s) (by omega) h2
        rw [List.append_assoc, rep_split hsn] at this
        exact this
      · rw [if_neg h0]
        have hns : n - s = 0 := by omega
        rw [hns, putG_zero]
        have hsn2 : s = n := by omega
        refine ⟨?_, h.full, hcur, fun p hp => ?_, ?_, ?_⟩
        · show _ ++ ex (g.cur ++ [(f, s)]) = _
          rw [ex_app, ex_one, ← List.append_assoc, h.flat, hsn2]
        · have hp : p ∈ g.cur ++ [(f, s)] := hp
          rcases List.mem_append.mp hp with hp | hp
          · have := h.lo p hp; omega
          · have hp : p = (f, s) := by simpa using hp
            rw [hp]; exact Nat.le_refl _
        · show (ex (g.cur ++ [(f, s)])).length + (g.room - s) = k
          rw [ex_app, ex_one, List.length_append, List.length_replicate]
          show (ex g.cur).length + s + (g.room - s) = k
          omega
        · show 1 ≤ g.room - s
          omega
    · have : n = 0 := by omega
      subst this
      rw [putG_zero, List.replicate_zero, List.append_nil]
      exact h.weak (by omega)
abbrev foldG (k : Nat) (qs : List Pr) (g : Gs) : Gs := qs.foldl (fun g p => putG k (p.2 + 1) p g) g
theorem fold_gi {k : Nat} (hk : 1 ≤ k) : ∀ {qs : List Pr} {g : Gs} {C : List Nat} {lo : Nat}, qs.Pairwise (fun a b => b.1 < a.1) → (∀ p ∈ qs, p.1 < lo) → Gi k C lo g → ∃ lo', Gi k (C ++ ex qs) lo' (foldG k qs g)
  | [], g, C, lo, _, _, h => ⟨lo, by rw [ex_nil, List.append_nil]; exact h⟩
  | p :: qs, g, C, lo, hd, hl, h => by
    have h1 := putG_gi (f := p.1) hk (fuel := p.2 + 1) (n := p.2) (by omega) (h.weak (by have := hl p (by simp); omega))
    obtain ⟨lo', h2⟩ := fold_gi hk (qs := qs) (List.pairwise_cons.mp hd).2 (fun q hq => (List.pairwise_cons.mp hd).1 q hq) h1
    refine ⟨lo', ?_⟩
    rw [show p :: qs = [p] ++ qs from rfl, ex_app, ex_one, ← List.append_assoc]
    exact h2
theorem full_of {k : Nat} (hk : 1 ≤ k) : ∀ {B : List (List Nat)}, (∀ b ∈ B, b.length = k) → Full k B
  | [], _ => trivial
  | [b], h => by have := h b (by simp); exact ⟨by omega, by omega⟩
  | b :: c :: B, h => ⟨h b (by simp), full_of hk (B := c :: B) fun x hx => h x (by simp at hx ⊢; exact .inr hx)⟩
theorem full_snoc {k : Nat} {l : List Nat} (h1 : 1 ≤ l.length) (h2 : l.length ≤ k) : ∀ {B : List (List Nat)}, (∀ b ∈ B, b.length = k) → Full k (B ++ [l])
  | [], _ => ⟨h1, h2⟩
  | [b], h => ⟨h b (by simp), h1, h2⟩
  | b :: c :: B, h => ⟨h b (by simp), full_snoc h1 h2 (B := c :: B) fun x hx => h x (by simp at hx ⊢; exact .inr hx)⟩
abbrev blk (rs : List (List Pr)) : List (List Nat) := rs.map fun r => ex r.reverse
/-- what the told rides are -/
structure Told (k : Nat) (ps : List Pr) (rs : List (List Pr)) : Prop where
  ne : ∀ r ∈ rs, r ≠ []
  ld : ∀ r ∈ rs, Ld r
  full : Full k (blk rs)
  flat : (blk rs).flatten = ex ps.reverse
theorem greedy_told {k : Nat} (hk : 1 ≤ k) {ps : List Pr} (ha : ps.Pairwise fun a b => a.1 < b.1) : Told k ps (greedy k ps) := by
  obtain ⟨lo, h⟩ := fold_gi (qs := ps.reverse) hk (by rw [List.pairwise_reverse]; exact ha) (fun p hp => (show p.1 < (ps.map Prod.fst).foldr max 0 + 1 by
    have := le_mx (List.mem_map.mpr ⟨p, List.mem_reverse.mp hp, rfl⟩ : p.1 ∈ ps.map Prod.fst)
    show p.1 < mx _ + 1
    omega)) (Gi.start hk _)
  rw [List.nil_append] at h
  have hR : ∀ r ∈ (foldG k ps.reverse ⟨[], [], k⟩).R, r ≠ [] := fun r hr e => by
    have := (h.full r hr).1
    rw [e] at this
    have h0 : (ex ([] : List Pr).reverse).length = 0 := rfl
    omega
  have hB : ∀ b ∈ blk (foldG k ps.reverse ⟨[], [], k⟩).R, b.length = k := fun b hb => by
    obtain ⟨r, hr, rfl⟩ := List.mem_map.mp hb
    exact (h.full r hr).1
  unfold greedy endG
  show Told k ps (if (foldG k ps.reverse ⟨[], [], k⟩).cur = [] then _ else _)
  by_cases hc : (foldG k ps.reverse ⟨[], [], k⟩).cur = []
  · rw [if_pos hc]
    refine ⟨hR, fun r hr => (h.full r hr).2, full_of hk hB, ?_⟩
    have := h.flat
    rw [hc, ex_nil, List.append_nil] at this
    exact this
  · rw [if_neg hc]
    have e1 : blk ((foldG k ps.reverse ⟨[], [], k⟩).R ++ [(foldG k ps.reverse ⟨[], [], k⟩).cur.reverse]) = blk (foldG k ps.reverse ⟨[], [], k⟩).R ++ [ex (foldG k ps.reverse ⟨[], [], k⟩).cur] := by
      unfold blk; rw [List.map_append]; simp
    refine ⟨fun r hr => ?_, fun r hr => ?_, ?_, ?_⟩
    · rcases List.mem_append.mp hr with hr | hr
      · exact hR r hr
      · rw [List.mem_singleton] at hr
        rw [hr]; simpa using hc
    · rcases List.mem_append.mp hr with hr | hr
      · exact (h.full r hr).2
      · rw [List.mem_singleton] at hr
        rw [hr]; exact h.cur
    · rw [e1]
      refine full_snoc ?_ (by have := h.room; omega) hB
      cases hcur : (foldG k ps.reverse ⟨[], [], k⟩).cur with
      | nil => exact absurd hcur hc
      | cons p q =>
        have h1 := h.cur.pos p (by rw [hcur]; simp)
        rw [show p :: q = [p] ++ q from rfl, ex_app, ex_one, List.length_append, List.length_replicate]
        omega
    · rw [e1, List.flatten_append]
      have := h.flat
      simpa using this
theorem ex_perm {ps qs : List Pr} (h : ps.Perm qs) : (ex ps).Perm (ex qs) := h.flatMap_right _
theorem ex_rev (ps : List Pr) : (ex ps.reverse).Perm (ex ps) := ex_perm (List.reverse_perm ps)
theorem mem_ex {ps : List Pr} {x : Nat} : x ∈ ex ps ↔ ∃ p ∈ ps, p.1 = x ∧ 1 ≤ p.2 := by
  unfold ex
  rw [List.mem_flatMap]
  constructor
  · rintro ⟨p, hp, hx⟩
    rw [List.mem_replicate] at hx
    exact ⟨p, hp, hx.2.symm, by omega⟩
  · rintro ⟨p, hp, h1, h2⟩
    exact ⟨p, hp, List.mem_replicate.mpr ⟨by omega, h1.symm⟩⟩
theorem ex_desc : ∀ {ps : List Pr}, ps.Pairwise (fun a b => b.1 < a.1) → Desc (ex ps)
  | [], _ => List.Pairwise.nil
  | p :: ps, h => by
    rw [show p :: ps = [p] ++ ps from rfl, ex_app, ex_one]
    refine List.pairwise_append.mpr ⟨?_, ex_desc (List.pairwise_cons.mp h).2, fun a ha b hb => ?_⟩
    · rw [List.pairwise_replicate]; exact .inr (Nat.le_refl _)
    · rw [List.mem_replicate] at ha
      obtain ⟨q, hq, e, _⟩ := mem_ex.mp hb
      have := (List.pairwise_cons.mp h).1 q hq
      omega
/-- the last floor of a ride is its highest -/
theorem mx_ride {r : List Pr} (hl : Ld r) (hne : r ≠ []) : mx (ex r.reverse) = (r.getLast hne).1 := by
  have hm := List.getLast_mem hne
  have h1 : (r.getLast hne).1 ∈ ex r.reverse := mem_ex.mpr ⟨_, List.mem_reverse.mpr hm, rfl, hl.pos _ hm⟩
  refine Nat.le_antisymm ?_ (le_mx h1)
  have h2 := mx_mem (xs := ex r.reverse) (fun e => by rw [e] at h1; cases h1)
  obtain ⟨q, hq, e, _⟩ := mem_ex.mp h2
  rw [← e]
  have hq := List.mem_reverse.mp hq
  have hs := List.dropLast_concat_getLast hne
  have ha := hl.asc
  rw [← hs] at ha hq
  rcases List.mem_append.mp hq with hq | hq
  · exact Nat.le_of_lt ((List.pairwise_append.mp ha).2.2 q hq _ (by simp))
  · rw [List.mem_singleton] at hq; rw [hq]; exact Nat.le_refl _
end K78

set_option maxHeartbeats 1000000
/-! k78: loads at any value -/
namespace K78
open Sv
open PySem (Str PyData)
local macro_rules | `(tactic| walk_at "v1") => `(tactic| first | with_reducible (first | refine sw_seq ?_ | refine sw_set ?_ | refine sw_new ?_ | refine sw_asg ?_ | refine sw_rt ?_ | refine sw_ret ?_ | refine sw_ifB ?_ | refine sw_par ?_ | refine sw_nx ?_ | refine sw_exprM ?_ | refine kw_nil ?_ | refine kw_frz ?_ | refine kw_new ?_ | refine ew_con ?_ | refine ew_bin ?_ | refine ew_un ?_ | refine ew_tup ?_ | refine ew_lst ?_ | refine ew_fn ?_ | refine ew_call ?_ | refine ew_callO ?_ | refine ew_not ?_ | refine ew_chain ?_ | refine ew_slice ?_ | refine ow_none ?_ | refine ow_some ?_ | refine tw_bl ?_ | refine tw_of ?_ | refine tw_not ?_ | refine tw_yes ?_ | refine aw_nil ?_ | refine aw_cons ?_ | refine iw_seq ?_ | refine iw_enum ?_ | refine iw_zip ?_ | refine iw_rangeI ?_ | (apply ew_andC) | (apply ew_orC) | (apply tw_andC) | (apply tw_orC) | (apply ew_lcM') | (apply ew_lc') | exact rfl | exact cut_last _ _ | exact mapI _) | ((with_reducible apply ew_var); exact rfl) | ((with_reducible apply ew_bor); exact rfl) | ((with_reducible apply ew_borO); exact rfl) | with_reducible (first | refine o_eqN ?_ | refine o_neN ?_ | refine o_ltN ?_ | refine o_gtN ?_ | refine o_leN ?_ | refine o_geN ?_ | refine o_inN ?_ | refine o_ninN ?_ | refine o_inNL ?_ | refine o_ninNL ?_ | refine o_lenTm ?_ | refine o_lenLm ?_ | refine o_addN ?_ | refine o_addN1 ?_ | refine o_subN (by first | assumption | omega) ?_ | refine o_subN1 (by first | assumption | omega) ?_ | refine o_sumI ?_ | refine o_sumTI ?_ | refine o_ix0 ?_ | refine o_ix1 ?_ | refine o_ix2 ?_ | refine o_ix3 ?_ | refine o_ixT0 ?_ ?_ | refine o_ixL0 ?_ ?_ | refine o_ixT1 ?_ ?_ | refine o_isTupT ?_ | refine o_ixTN ?_ ?_ | refine o_ixTI ?_ ?_ | refine o_ixLN ?_ ?_ | refine o_ixLI ?_ ?_ | refine o_ixTG ?_ ?_ | refine o_ixLG ?_ ?_ | refine o_ixTD0 ?_ ?_ | refine o_ixTD1 ?_ ?_ | refine o_ixTD2 ?_ ?_ | refine o_ixTD ?_ ?_ | refine o_ixLD ?_ ?_) | with_reducible (first | refine o_eqI ?_ | refine o_neI ?_ | refine o_lt ?_ | refine o_gt ?_ | refine o_le ?_ | refine o_ge ?_ | refine o_all ?_ | refine o_any ?_ | refine o_sum ?_ | refine o_addI ?_ | refine o_subI ?_ | refine o_lenT ?_ | refine o_lenL ?_ | refine o_tupL ?_ | refine o_tupT ?_ | refine o_listL ?_ | refine o_listT ?_ | refine o_negI ?_ | refine o_intI ?_ | refine o_slT ?_ | refine o_slL ?_ | refine o_revT ?_ | refine o_revL ?_ | refine x_n ?_ | refine x_int ?_ | refine x_bl ?_ | refine x_tb ?_ | refine x_itT ?_ | refine x_itL ?_ | refine x_rt ?_ | refine rngQ ?_ ?_ | refine x_trT ?_ | refine x_trL ?_ | refine x_tri ?_ | refine o_max2 ?_ | refine o_min2 ?_ | refine o_addTs ?_ ?_ | refine o_addLs ?_ ?_) | (with_reducible refine And.intro ?_ ?_) | refine dec_imp fun _ => ?_ | refine decF_imp fun _ => ?_ | with_reducible (first | refine ndF_imp fun _ => ?_ | refine ndT_imp fun _ => ?_ | refine nF_imp ?_ | refine nT_imp ?_ | refine orF_imp ?_ | refine andT_imp ?_) | refine tr_imp fun _ => ?_ | refine fa_imp fun _ => ?_ | (intro x hx; refine Exists.intro _ (And.intro rfl ?_); try (have hx := List.mem_range.mp hx)) | (refine sd_lt ?_; first | assumption | omega | (simp only [List.length_map, List.length_range, List.length_cons, List.length_nil, List.length_append, List.length_set] at *; omega)) | (refine sd_le ?_; first | assumption | omega | (simp only [List.length_map, List.length_range, List.length_cons, List.length_nil, List.length_append, List.length_set] at *; omega)))
local macro_rules | `(tactic| walk_at "v") => `(tactic| (repeat' (walk_at "v1")))
def isP2 (v : D) : Bool := match v with
  | .tup [_, _] => true
  | _ => false
def toI : D → Int
  | .int i => i
  | _ => 0
theorem gdl {xs : List D} (h : gd (.tup xs) = true) : xs.length ≤ 1000000 := (gd_tup.mp h).1
/-! ### ascending -/
def adjB {α : Type} [Inhabited α] (lt : α → α → Bool) (xs : List α) : Bool := (List.range (xs.length - 1)).all fun k => lt (xs.getD k default) (xs.getD (k + 1) default)
theorem adjB_cons {α : Type} [Inhabited α] {lt : α → α → Bool} (a b : α) (xs : List α) : adjB lt (a :: b :: xs) = (lt a b && adjB lt (b :: xs)) := by
  unfold adjB
  rw [show (a :: b :: xs).length - 1 = xs.length + 1 from rfl, show (b :: xs).length - 1 = xs.length from rfl, List.range_succ_eq_map, List.all_cons, List.all_map]
  rfl
theorem adj_pw {α : Type} [Inhabited α] {lt : α → α → Bool} (tr : ∀ x y z, lt x y = true → lt y z = true → lt x z = true) : ∀ {xs : List α}, adjB lt xs = true → xs.Pairwise fun a b => lt a b = true
  | [], _ => List.Pairwise.nil
  | [a], _ => by simp
  | a :: b :: xs, h => by
    rw [adjB_cons, Bool.and_eq_true] at h
    have ih := adj_pw tr h.2
    refine List.pairwise_cons.mpr ⟨fun x hx => ?_, ih⟩
    rcases List.mem_cons.mp hx with e | hx
    · rw [e]; exact h.1
    · exact tr _ _ _ h.1 ((List.pairwise_cons.mp ih).1 x hx)
theorem pw_adj {α : Type} [Inhabited α] {lt : α → α → Bool} : ∀ {xs : List α}, (xs.Pairwise fun a b => lt a b = true) → adjB lt xs = true
  | [], _ => rfl
  | [a], _ => rfl
  | a :: b :: xs, h => by
    rw [adjB_cons, (List.pairwise_cons.mp h).1 b (by simp), pw_adj (List.pairwise_cons.mp h).2]; rfl
section
variable {Q : D → Prop}
theorem iw_len1 {α : Type} {e : α → D} {xs : List α} {ρ : Rho} {f : Ex} (hl : xs.length ≤ 1000000) (h : Ew f ρ fun d => d = .tup (xs.map e)) : Iw (iRange (aCons (eBin opSub (eFn lenD (aCons f aNil)) (eCon (.int 1))) aNil)) ρ fun ds => ds = (List.range (xs.length - 1)).map nE := by
  cases xs with
  | nil =>
    refine iw_range (aw_cons (ew_bin (ew_fn (aw_cons (h.mono fun d hd => aw_nil ?_)))))
    subst hd
    refine o_lenTm (ew_con (o_subI (aw_nil ⟨_, _, rfl, ?_, rfl⟩)))
    rw [rangeD_neg (by simp) (by simp)]; rfl
  | cons a xs =>
    refine iw_rangeI (aw_cons (ew_bin (ew_fn (aw_cons (h.mono fun d hd => aw_nil ?_)))))
    subst hd
    refine o_lenTm (ew_con (o_subN1 (by simp) (aw_nil (rngQ ?_ rfl))))
    simp only [List.length_cons] at hl ⊢
    omega
theorem w_is_ascending {α : Type} [DecidableEq α] [Inhabited α] {e : α → D} {lt : α → α → Bool} {n : Nat} {xs : List α} (ho : OrdE e lt) (he : Enc e n) (hn : n ≤ 50) (hx : ∀ x, e x ≠ .non) (hl : xs.length ≤ 1000000) (q : Q (.bl (adjB lt xs))) : Fw f_is_ascending [.tup (xs.map e)] Q := by
  refine fw_rt ?_
  refine sw_rt (ew_fn (aw_cons ?_))
  refine ew_lcM' (xs := List.range (xs.length - 1)) (enc := nE) (res := fun k => .bl (lt (xs.getD k default) (xs.getD (k + 1) default))) (iw_len1 hl (ew_bor rfl rfl)) (fun k hk => ⟨_, rfl, ?_⟩) (aw_nil (o_all q))
  have hk := List.mem_range.mp hk
  refine ew_bin (ew_bin (ew_bor (d := .tup (xs.map e)) rfl (ew_var (d := nE k) rfl (o_ixTG (by omega) ?_))))
  refine ew_bin (ew_bor (d := .tup (xs.map e)) rfl (ew_bin (ew_bor (d := nE k) rfl (ew_con (o_addN1 (o_ixTG (by omega) (o_ltE ho he (hx _) rfl hn)))))))
/-- .. as the law asks -/
theorem w_not_desc {α : Type} [DecidableEq α] [Inhabited α] {e : α → D} {lt : α → α → Bool} {n : Nat} {xs : List α} {ρ : Rho} {f : Ex} {j : Nat} (ho : OrdE e lt) (he : Enc e n) (hn : n ≤ 50) (hx : ∀ x, e x ≠ .non) (hl : xs.length ≤ 1000000) (hj : j < ρ.length) (hf : ∀ s : Sl, Ew f (ρ.set j s) fun d => d = .tup (xs.map e)) (hf0 : Ew f ρ fun d => d = .tup (xs.map e)) (q : Q (.bl (!adjB lt xs))) : Ew (eFn anyD (aCons (eLc (iRange (aCons (eBin opSub (eFn lenD (aCons f aNil)) (eCon (.int 1))) aNil)) (gNm j) tYes' (eBin opGe (eBin ixD f (eVar j)) (eBin ixD f (eBin opAdd (eBor j) (eCon (.int 1))))) [j]) aNil)) ρ Q := by
  refine ew_fn (aw_cons ?_)
  refine ew_lcM' (xs := List.range (xs.length - 1)) (enc := nE) (res := fun k => .bl (!lt (xs.getD k default) (xs.getD (k + 1) default))) (iw_len1 hl hf0) (fun k hk => ⟨((wipeR ρ [j]).set j (Sl.frz (nE k))), rfl, ?_⟩) (aw_nil (o_any ?_))
  · have hk := List.mem_range.mp hk
    have e1 : (wipeR ρ [j]).set j (Sl.frz (nE k)) = ρ.set j (Sl.frz (nE k)) := by
      show (ρ.set j _).set j _ = _
      rw [List.set_set]
    rw [e1]
    have e2 : (ρ.set j (Sl.frz (nE k)))[j]? = some (Sl.frz (nE k)) := by rw [List.getElem?_set_self hj]
    refine ew_bin (ew_bin ((hf _).mono fun d hd => ew_var e2 ?_))
    subst hd
    refine o_ixTG (by omega) ?_
    refine ew_bin ((hf _).mono fun d hd => ew_bin (ew_bor e2 (ew_con (o_addN1 ?_))))
    subst hd
    exact o_ixTG (by omega) (o_geE ho he (hx _) rfl hn)
  · have : ((List.range (xs.length - 1)).any fun k => !lt (xs.getD k default) (xs.getD (k + 1) default)) = !adjB lt xs := by
      unfold adjB
      rw [List.not_all_eq_any_not]
    rw [this]; exact q
theorem iw_len1L {α : Type} {e : α → D} {xs : List α} {ρ : Rho} {f : Ex} (hl : xs.length ≤ 1000000) (h : Ew f ρ fun d => d = .lst (xs.map e)) : Iw (iRange (aCons (eBin opSub (eFn lenD (aCons f aNil)) (eCon (.int 1))) aNil)) ρ fun ds => ds = (List.range (xs.length - 1)).map nE := by
  cases xs with
  | nil =>
    refine iw_range (aw_cons (ew_bin (ew_fn (aw_cons (h.mono fun d hd => aw_nil ?_)))))
    subst hd
    refine o_lenLm (ew_con (o_subI (aw_nil ⟨_, _, rfl, ?_, rfl⟩)))
    rw [rangeD_neg (by simp) (by simp)]; rfl
  | cons a xs =>
    refine iw_rangeI (aw_cons (ew_bin (ew_fn (aw_cons (h.mono fun d hd => aw_nil ?_)))))
    subst hd
    refine o_lenLm (ew_con (o_subN1 (by simp) (aw_nil (rngQ ?_ rfl))))
    simp only [List.length_cons] at hl ⊢
    omega
theorem w_is_ascendingL {α : Type} [DecidableEq α] [Inhabited α] {e : α → D} {lt : α → α → Bool} {n : Nat} {xs : List α} (ho : OrdE e lt) (he : Enc e n) (hn : n ≤ 50) (hx : ∀ x, e x ≠ .non) (hl : xs.length ≤ 1000000) (q : Q (.bl (adjB lt xs))) : Fw f_is_ascending [.lst (xs.map e)] Q := by
  refine fw_rt ?_
  refine sw_rt (ew_fn (aw_cons ?_))
  refine ew_lcM' (xs := List.range (xs.length - 1)) (enc := nE) (res := fun k => .bl (lt (xs.getD k default) (xs.getD (k + 1) default))) (iw_len1L hl (ew_bor rfl rfl)) (fun k hk => ⟨_, rfl, ?_⟩) (aw_nil (o_all q))
  have hk := List.mem_range.mp hk
  refine ew_bin (ew_bin (ew_bor (d := .lst (xs.map e)) rfl (ew_var (d := nE k) rfl (o_ixLG (by omega) ?_))))
  refine ew_bin (ew_bor (d := .lst (xs.map e)) rfl (ew_bin (ew_bor (d := nE k) rfl (ew_con (o_addN1 (o_ixLG (by omega) (o_ltE ho he (hx _) rfl hn)))))))
theorem ne2 {xs : List D} (h : ¬ ∃ a b, xs = [a, b]) : decide ((xs.length : Int) = 2) = false := decide_eq_false fun q => by
  match xs, h, q with
  | [], _, q => simp at q
  | [a], _, q => simp at q
  | [a, b], h, q => exact h ⟨a, b, rfl⟩
  | a :: b :: c :: t, _, q => simp at q; omega
theorem w_isP2 {v : D} {ρ : Rho} {k : Nat} (hp : v.plain = true) (e2 : ρ[k]? = some (Sl.frz v)) : Ew (eAnd (eUn (fun d => (isT d .tuple).map .bl) (eBor k)) (eBin opEq (eFn lenD (aCons (eBor k) aNil)) (eCon (.int 2)))) ρ fun d => d = .bl (isP2 v) := by
  cases v with
  | tup vs =>
    refine ew_andT (ew_un (ew_bor e2 (o_isTupT ⟨rfl, ?_⟩)))
    refine ew_bin (ew_fn (aw_cons (ew_bor e2 (aw_nil (o_lenT (ew_con (o_eqI ?_)))))))
    by_cases h : ∃ a b, vs = [a, b]
    · obtain ⟨a, b, rfl⟩ := h; rfl
    · have : isP2 (.tup vs) = false := by
        unfold isP2
        split
        · rename_i a b e; cases e; exact absurd ⟨_, _, rfl⟩ h
        · rfl
      rw [this, ne2 h]
  | dct _ => cases hp
  | tok _ => cases hp
  | _ => exact ew_andF (ew_un (ew_bor e2 ⟨_, rfl, rfl⟩)) rfl
/-! ### numbers -/
def intB (d : D) (g : Int → Bool) : Bool := match d with
  | .int z => g z
  | _ => false
theorem w_intAnd {ρ : Rho} {x f : Ex} {d : D} {g : Int → Bool} (hp : d.plain = true) (hx : Ew x ρ fun z => z = d) (h : ∀ z, d = .int z → Ew f ρ fun y => y = .bl (g z)) (q : Q (.bl (intB d g))) : Ew (eAnd (eUn (fun d => (isT d .int).map .bl) x) (eAnd (eNot (eUn (fun d => (isT d .bool).map .bl) x)) f)) ρ Q := by
  cases d with
  | int i =>
    refine ew_andT (ew_un (hx.mono fun z hz => ?_))
    subst hz
    refine ⟨_, rfl, rfl, ?_⟩
    refine ew_andT (ew_not (ew_un (hx.mono fun z hz => ?_)))
    subst hz
    refine ⟨_, rfl, _, rfl, rfl, ?_⟩
    exact (h i rfl).mono fun y hy => by subst hy; exact q
  | bl k =>
    refine ew_andT (ew_un (hx.mono fun z hz => ?_))
    subst hz
    refine ⟨_, rfl, rfl, ?_⟩
    refine ew_andF (ew_not (ew_un (hx.mono fun z hz => ?_))) q
    subst hz
    exact ⟨_, rfl, _, rfl, rfl⟩
  | dct _ => cases hp
  | tok _ => cases hp
  | _ =>
    refine ew_andF (ew_un (hx.mono fun z hz => ?_)) q
    subst hz
    exact ⟨_, rfl, rfl⟩
def wholeB (v : D) : Bool := match v with
  | .int _ => true
  | _ => false
theorem w_is_whole {v : D} (hp : v.plain = true) (q : Q (.bl (wholeB v))) : Fw f_is_whole [v] Q := by
  refine fw_rt (sw_rt ?_)
  cases v with
  | int i => exact fun b => ⟨_, b, rfl, q⟩
  | bl i => exact fun b => ⟨_, b, rfl, q⟩
  | dct _ => cases hp
  | tok _ => cases hp
  | _ => exact fun b => ⟨_, b, rfl, q⟩
theorem numB_int {d : D} {lo hi : Int} (h : numB d lo hi = true) : ∃ i : Int, d = .int i ∧ lo ≤ i ∧ i ≤ hi := by
  cases d with
  | int i => exact ⟨i, rfl, of_decide_eq_true h⟩
  | _ => cases h
theorem numB_nat1 {d : D} {lo : Nat} {hi : Int} (h : numB d (lo : Int) hi = true) : ∃ k : Nat, d = nE k ∧ lo ≤ k ∧ (k : Int) ≤ hi ∧ toI d = (k : Int) := by
  obtain ⟨i, rfl, h1, h2⟩ := numB_int h
  exact ⟨i.toNat, by show D.int i = D.int (i.toNat : Int); rw [Int.toNat_of_nonneg (by omega)], by omega, by omega, by rw [Int.toNat_of_nonneg (by omega)]; rfl⟩

abbrev eF (p : Pr) : D := .tup [nE p.1, nE p.2]
theorem ord_eF : OrdE eF (ltP ltN ltN) := OrdE.pair ord_nat ord_nat
theorem enc_eF : Enc eF 1 := ⟨fun p => rfl, fun p => dep_tup (n := 0) fun d hd => by
    simp only [List.mem_cons, List.not_mem_nil, or_false] at hd
    rcases hd with rfl | rfl <;> exact Nat.le_refl _, ord_eF.eqv⟩
def pairOk (most : Nat) (d : D) : Bool := match d with
  | .tup [a, b] => numB a 1 60 && numB b 1 (most : Int)
  | _ => false
def toPr (d : D) : Pr := match d with
  | .tup [a, b] => ((toI a).toNat, (toI b).toNat)
  | _ => default
def loadB (most : Nat) (v : D) : Bool := match v with
  | .tup vs => vs.all (pairOk most) && adjB ltN (vs.map fun d => (toPr d).1)
  | _ => false
theorem toPr_eF (p : Pr) : toPr (eF p) = p := by
  obtain ⟨a, b⟩ := p
  show ((a : Int).toNat, (b : Int).toNat) = _
  rw [Int.toNat_natCast, Int.toNat_natCast]
structure POk (most : Nat) (p : Pr) : Prop where
  f1 : 1 ≤ p.1
  f60 : p.1 ≤ 60
  n1 : 1 ≤ p.2
  n2 : p.2 ≤ most
theorem pair_of {most : Nat} {d : D} (h : pairOk most d = true) : ∃ p : Pr, d = eF p ∧ POk most p := by
  unfold pairOk at h
  split at h
  · rw [Bool.and_eq_true] at h
    obtain ⟨i, rfl, h1, h2, _⟩ := numB_nat1 (lo := 1) h.1
    obtain ⟨j, rfl, h3, h4, _⟩ := numB_nat1 (lo := 1) h.2
    exact ⟨(i, j), rfl, h1, by show i ≤ 60; omega, h3, by show j ≤ most; omega⟩
  · cases h
theorem pair_eF {most : Nat} {p : Pr} (h : POk most p) : pairOk most (eF p) = true := by
  obtain ⟨a, b⟩ := p
  obtain ⟨h1, h2, h3, h4⟩ := h
  simp only at h1 h2 h3 h4
  show (numB (nE a) 1 60 && numB (nE b) 1 (most : Int)) = true
  rw [numB, numB, decide_eq_true (by omega), decide_eq_true (by omega)]; rfl
theorem pairs_of {most : Nat} {vs : List D} (h : vs.all (pairOk most) = true) : vs = (vs.map toPr).map eF ∧ ∀ p ∈ vs.map toPr, POk most p := by
  refine ⟨?_, fun t ht => ?_⟩
  · rw [List.map_map]
    conv => lhs; rw [← List.map_id vs]
    refine List.map_congr_left fun d hd => ?_
    obtain ⟨s, rfl, _⟩ := pair_of (List.all_eq_true.mp h d hd)
    simp only [Function.comp, toPr_eF]; rfl
  · obtain ⟨d, hd, rfl⟩ := List.mem_map.mp ht
    obtain ⟨s, rfl, hs⟩ := pair_of (List.all_eq_true.mp h d hd)
    rw [toPr_eF]; exact hs
theorem pair_is {most : Nat} {v : D} (h : isP2 v = false) : pairOk most v = false := by
  unfold pairOk
  split
  · cases h
  · rfl
/-- a load, typed -/
theorem load_of {most : Nat} {v : D} (h : loadB most v = true) : ∃ ps : List Pr, v = .tup (ps.map eF) ∧ (∀ p ∈ ps, POk most p) ∧ ps.Pairwise fun a b => a.1 < b.1 := by
  unfold loadB at h
  split at h
  · rename_i vs
    rw [Bool.and_eq_true] at h
    obtain ⟨h1, h2⟩ := pairs_of h.1
    refine ⟨vs.map toPr, by rw [← h1], h2, ?_⟩
    have h3 := adj_pw lin_N.tr h.2
    rw [show (vs.map fun d => (toPr d).1) = (vs.map toPr).map Prod.fst from by rw [List.map_map]; rfl, List.pairwise_map] at h3
    exact h3.imp fun h => by simpa [ltN] using h
  · cases h
theorem load_eF {most : Nat} {ps : List Pr} (h1 : ∀ p ∈ ps, POk most p) (h2 : ps.Pairwise fun a b => a.1 < b.1) : loadB most (.tup (ps.map eF)) = true := by
  show ((ps.map eF).all (pairOk most) && adjB ltN ((ps.map eF).map fun d => (toPr d).1)) = true
  rw [Bool.and_eq_true, List.all_map, List.map_map]
  refine ⟨List.all_eq_true.mpr fun p hp => pair_eF (h1 p hp), ?_⟩
  rw [show ((fun d => (toPr d).1) ∘ eF) = Prod.fst from funext fun p => by rw [Function.comp, toPr_eF]]
  refine pw_adj ?_
  rw [List.pairwise_map]
  exact h2.imp fun h => by simpa [ltN] using h
theorem w_is_load {most : Nat} {v : D} (hv : gd v = true) (q : Q (.bl (loadB most v))) : Fw f_is_load [v, nE most] Q := by
  have hp := gd_plain v hv
  refine fw_rt ?_
  cases v with
  | tup vs =>
    have gl := gdl hv
    have hg := (gd_tup.mp hv).2
    have e1 : loadB most (.tup vs) = (vs.all (pairOk most) && adjB ltN (vs.map fun d => (toPr d).1)) := rfl
    rw [e1] at q
    refine sw_seq (sw_ifB (tw_orF (tw_not (tw_of (ew_un (ew_bor rfl (o_isTupT (x_tb ⟨rfl, ?_⟩))))))))
    refine tw_not (tw_of (ew_fn (aw_cons (ew_lcM' (xs := vs) (enc := id) (res := fun d => .bl (isP2 d)) (iw_seq (ew_bor rfl (x_itT (by rw [List.map_id])))) (fun d hd => ⟨_, rfl, w_isP2 (plain_mem hp hd) rfl⟩) (aw_nil (o_all (x_tb ?_)))))))
    cases h2 : vs.all isP2 with
    | false =>
      have : vs.all (pairOk most) = false := by
        obtain ⟨d, hd, h⟩ := List.all_eq_false.mp h2
        exact List.all_eq_false.mpr ⟨d, hd, by rw [pair_is (by simpa using h)]; decide⟩
      rw [this, Bool.false_and] at q
      refine brT rfl ?_
      walk_at "v"
      exact q
    | true =>
      refine brF rfl (sw_nx ?_)
      refine sw_seq (sw_forP vs id (fun pre ρ => ∃ (x2 x3 x4 x5 : Sl), ρ = [Sl.frz (.tup vs), .frz (nE most), x2, x3, x4, x5] ∧ pre.all (pairOk most) = true) ?_ ⟨.emp, .emp, .emp, .emp, rfl, rfl⟩ ?_ ?_)
      · exact iw_seq (ew_var (d := .tup vs) rfl (x_itT (by rw [List.map_id])))
      · rintro pre d post _ hx ⟨x2, x3, x4, x5, rfl, hpre⟩
        have hd : d ∈ vs := by rw [hx]; simp
        have h3 := List.all_eq_true.mp h2 d hd
        unfold isP2 at h3
        split at h3
        · rename_i a b
          have ga := gd_plain _ ((gd_tup.mp (hg _ hd)).2 a (by simp))
          have gb := gd_plain _ ((gd_tup.mp (hg _ hd)).2 b (by simp))
          refine ⟨_, rfl, ?_⟩
          have hno : pairOk most (.tup [a, b]) = false → vs.all (pairOk most) = false := fun h => List.all_eq_false.mpr ⟨_, hd, by rw [h]; decide⟩
          have epk : pairOk most (.tup [a, b]) = (numB a 1 60 && numB b 1 (most : Int)) := rfl
          refine sw_ifB (Tw.mono (Q := fun k => k = !pairOk most (.tup [a, b])) ?_ fun k hk => ?_)
          · rw [epk, Bool.not_and]
            refine tw_orC (y := !numB b 1 (most : Int)) (tw_not (tw_of (ew_call (aw_cons (ew_var (d := a) rfl (aw_cons (ew_con (aw_cons (ew_con (aw_nil ?_))))))))))
            refine w_is_number ga (x_tb ⟨fun _ => ?_, rfl⟩)
            cases b with
            | int z =>
              refine tw_orF (tw_not (tw_of (ew_call (aw_cons (ew_var (d := .int z) rfl (aw_nil (w_is_whole gb (x_tb ⟨rfl, ?_⟩))))))))
              refine tw_not (tw_bl (ew_chain (ew_con (ew_bor (d := .int z) rfl ?_))))
              refine ⟨_, by show some (D.bl (!decide (z < 1))) = some (D.bl _); rfl, fun e => ?_, fun e => ?_⟩
              · have : 1 ≤ z := by simpa using e
                refine ew_bor (d := nE most) rfl (o_le ⟨_, rfl, ?_⟩)
                congr 1
                exact decide_eq_decide.mpr (by omega)
              · have : ¬ 1 ≤ z := by simpa using e
                refine ⟨_, rfl, ?_⟩
                show (!false) = !(decide (1 ≤ z ∧ z ≤ (most : Int)))
                rw [decide_eq_false (by omega)]
            | dct _ => cases gb
            | tok _ => cases gb
            | _ => exact tw_orT (tw_not (tw_of (ew_call (aw_cons (ew_var rfl (aw_nil (w_is_whole gb (x_tb rfl)))))))) rfl
          · subst hk
            cases hpk : pairOk most (.tup [a, b]) with
            | false =>
              refine brT rfl (sw_ret (ew_con ⟨_, rfl, ?_⟩))
              rw [hno hpk, Bool.false_and] at q
              exact q
            | true =>
              refine brF rfl (sw_nx ⟨_, _, _, _, rfl, ?_⟩)
              show (pre ++ [D.tup [a, b]]).all (pairOk most) = true
              rw [List.all_append, hpre, List.all_cons, hpk]; rfl
        · cases h3
      · rintro _ ⟨x2, x3, x4, x5, rfl, hall⟩
        rw [hall, Bool.true_and] at q
        obtain ⟨h5, _⟩ := pairs_of hall
        rw [show (vs.map fun d => (toPr d).1) = (vs.map toPr).map Prod.fst from by rw [List.map_map]; rfl] at q
        have hl2 : (vs.map toPr).length = vs.length := List.length_map _
        generalize vs.map toPr = ps at h5 q hl2
        subst h5
        refine sw_rt (ew_call (aw_cons (ew_lcM' (xs := ps) (enc := eF) (res := fun p => nE p.1) ?_ (fun p hp => ⟨_, rfl, ew_var (d := nE p.1) rfl rfl⟩) (aw_nil ?_))))
        · exact iw_seq (ew_bor (d := .tup (ps.map eF)) rfl (x_itT rfl))
        · rw [show ps.map (fun p => nE p.1) = (ps.map Prod.fst).map nE from by rw [List.map_map]; rfl]
          exact w_is_ascendingL ord_nat enc_nat (by decide) (fun _ => by simp) (by rw [List.length_map, hl2]; exact gl) q
  | dct _ => cases hp
  | tok _ => cases hp
  | _ => exact fun b => ⟨_, _, b, rfl, _, rfl, q⟩
end
end K78

set_option maxHeartbeats 1000000
/-! k78: the law's loads; groups -/
namespace K78
open Sv
open PySem (Str PyData)
local macro_rules | `(tactic| walk_at "v1") => `(tactic| first | with_reducible (first | refine sw_seq ?_ | refine sw_set ?_ | refine sw_new ?_ | refine sw_asg ?_ | refine sw_rt ?_ | refine sw_ret ?_ | refine sw_ifB ?_ | refine sw_par ?_ | refine sw_nx ?_ | refine sw_exprM ?_ | refine kw_nil ?_ | refine kw_frz ?_ | refine kw_new ?_ | refine ew_con ?_ | refine ew_bin ?_ | refine ew_un ?_ | refine ew_tup ?_ | refine ew_lst ?_ | refine ew_fn ?_ | refine ew_call ?_ | refine ew_callO ?_ | refine ew_not ?_ | refine ew_chain ?_ | refine ew_slice ?_ | refine ow_none ?_ | refine ow_some ?_ | refine tw_bl ?_ | refine tw_of ?_ | refine tw_not ?_ | refine tw_yes ?_ | refine aw_nil ?_ | refine aw_cons ?_ | refine iw_seq ?_ | refine iw_enum ?_ | refine iw_zip ?_ | refine iw_rangeI ?_ | (apply ew_andC) | (apply ew_orC) | (apply tw_andC) | (apply tw_orC) | (apply ew_lcM') | (apply ew_lc') | exact rfl | exact cut_last _ _ | exact mapI _) | ((with_reducible apply ew_var); exact rfl) | ((with_reducible apply ew_bor); exact rfl) | ((with_reducible apply ew_borO); exact rfl) | with_reducible (first | refine o_eqN ?_ | refine o_neN ?_ | refine o_ltN ?_ | refine o_gtN ?_ | refine o_leN ?_ | refine o_geN ?_ | refine o_inN ?_ | refine o_ninN ?_ | refine o_inNL ?_ | refine o_ninNL ?_ | refine o_lenTm ?_ | refine o_lenLm ?_ | refine o_addN ?_ | refine o_addN1 ?_ | refine o_subN (by first | assumption | omega) ?_ | refine o_subN1 (by first | assumption | omega) ?_ | refine o_sumI ?_ | refine o_sumTI ?_ | refine o_ix0 ?_ | refine o_ix1 ?_ | refine o_ix2 ?_ | refine o_ix3 ?_ | refine o_ixT0 ?_ ?_ | refine o_ixL0 ?_ ?_ | refine o_ixT1 ?_ ?_ | refine o_isTupT ?_ | refine o_ixTN ?_ ?_ | refine o_ixTI ?_ ?_ | refine o_ixLN ?_ ?_ | refine o_ixLI ?_ ?_ | refine o_ixTG ?_ ?_ | refine o_ixLG ?_ ?_ | refine o_ixTD0 ?_ ?_ | refine o_ixTD1 ?_ ?_ | refine o_ixTD2 ?_ ?_ | refine o_ixTD ?_ ?_ | refine o_ixLD ?_ ?_) | with_reducible (first | refine o_eqI ?_ | refine o_neI ?_ | refine o_lt ?_ | refine o_gt ?_ | refine o_le ?_ | refine o_ge ?_ | refine o_all ?_ | refine o_any ?_ | refine o_sum ?_ | refine o_addI ?_ | refine o_subI ?_ | refine o_lenT ?_ | refine o_lenL ?_ | refine o_tupL ?_ | refine o_tupT ?_ | refine o_listL ?_ | refine o_listT ?_ | refine o_negI ?_ | refine o_intI ?_ | refine o_slT ?_ | refine o_slL ?_ | refine o_revT ?_ | refine o_revL ?_ | refine x_n ?_ | refine x_int ?_ | refine x_bl ?_ | refine x_tb ?_ | refine x_itT ?_ | refine x_itL ?_ | refine x_rt ?_ | refine rngQ ?_ ?_ | refine x_trT ?_ | refine x_trL ?_ | refine x_tri ?_ | refine o_max2 ?_ | refine o_min2 ?_ | refine o_addTs ?_ ?_ | refine o_addLs ?_ ?_) | (with_reducible refine And.intro ?_ ?_) | refine dec_imp fun _ => ?_ | refine decF_imp fun _ => ?_ | with_reducible (first | refine ndF_imp fun _ => ?_ | refine ndT_imp fun _ => ?_ | refine nF_imp ?_ | refine nT_imp ?_ | refine orF_imp ?_ | refine andT_imp ?_) | refine tr_imp fun _ => ?_ | refine fa_imp fun _ => ?_ | (intro x hx; refine Exists.intro _ (And.intro rfl ?_); try (have hx := List.mem_range.mp hx)) | (refine sd_lt ?_; first | assumption | omega | (simp only [List.length_map, List.length_range, List.length_cons, List.length_nil, List.length_append, List.length_set] at *; omega)) | (refine sd_le ?_; first | assumption | omega | (simp only [List.length_map, List.length_range, List.length_cons, List.length_nil, List.length_append, List.length_set] at *; omega)))
local macro_rules | `(tactic| walk_at "v") => `(tactic| (repeat' (walk_at "v1")))
section
variable {Q : D → Prop}
def ge1 (d : D) : Bool := intB d fun z => decide (1 ≤ z)
theorem w_ge1 {d : D} {ρ : Rho} (hd : d.plain = true) (e6 : ρ[6]? = some (Sl.frz d)) (q : Q (.bl (ge1 d))) : Ew (eAnd (eUn (fun d => (isT d .int).map .bl) (eBor 6)) (eAnd (eNot (eUn (fun d => (isT d .bool).map .bl) (eBor 6))) (eBin opGe (eBor 6) (eCon (.int 1))))) ρ Q := by
  refine w_intAnd (g := fun z => decide (1 ≤ z)) hd (ew_bor e6 rfl) (fun z hz => ?_) q
  subst hz
  exact ew_bin (ew_bor e6 (ew_con (o_ge rfl)))
theorem ge1_int {d : D} (h : ge1 d = true) : ∃ i : Int, d = .int i ∧ 1 ≤ i := by
  cases d with
  | int i => exact ⟨i, rfl, of_decide_eq_true h⟩
  | _ => cases h
theorem pair_ge {most : Nat} {a b : D} (h : (ge1 a && ge1 b) = false) : pairOk most (.tup [a, b]) = false := by
  cases hq : pairOk most (.tup [a, b]) with
  | false => rfl
  | true =>
    obtain ⟨p, e, hp⟩ := pair_of hq
    injection e with e
    injection e with e1 e
    injection e with e2 _
    subst e1 e2
    have : (ge1 (nE p.1) && ge1 (nE p.2)) = true := by
      show (decide ((1 : Int) ≤ (p.1 : Int)) && decide ((1 : Int) ≤ (p.2 : Int))) = true
      rw [decide_eq_true (by have := hp.f1; omega), decide_eq_true (by have := hp.n1; omega)]; rfl
    rw [this] at h; cases h
theorem w_law_is_load {most : Nat} {v : D} (hv : gd v = true) (q : Q (.bl (loadB most v))) : Fw f_law_is_load [v, nE most] Q := by
  have hp := gd_plain v hv
  refine fw_rt ?_
  cases v with
  | tup vs =>
    have gl := gdl hv
    have hg := (gd_tup.mp hv).2
    have e1 : loadB most (.tup vs) = (vs.all (pairOk most) && adjB ltN (vs.map fun d => (toPr d).1)) := rfl
    rw [e1] at q
    refine sw_seq (sw_ifB (tw_orF (tw_not (tw_of (ew_un (ew_bor rfl (o_isTupT (x_tb ⟨rfl, ?_⟩))))))))
    refine tw_not (tw_of (ew_fn (aw_cons (ew_lcM' (xs := vs) (enc := id) (res := fun d => .bl (isP2 d)) (iw_seq (ew_bor rfl (x_itT (by rw [List.map_id])))) (fun d hd => ⟨_, rfl, w_isP2 (plain_mem hp hd) rfl⟩) (aw_nil (o_all (x_tb ?_)))))))
    cases h2 : vs.all isP2 with
    | false =>
      have : vs.all (pairOk most) = false := by
        obtain ⟨d, hd, h⟩ := List.all_eq_false.mp h2
        exact List.all_eq_false.mpr ⟨d, hd, by rw [pair_is (by simpa using h)]; decide⟩
      rw [this, Bool.false_and] at q
      refine brT rfl ?_
      walk_at "v"
      exact q
    | true =>
      refine brF rfl (sw_nx ?_)
      refine sw_seq (sw_forP vs id (fun pre ρ => ∃ (x2 x3 x4 x5 x6 : Sl), ρ = [Sl.frz (.tup vs), .frz (nE most), x2, x3, x4, x5, x6] ∧ pre.all (pairOk most) = true) ?_ ⟨.emp, .emp, .emp, .emp, .emp, rfl, rfl⟩ ?_ ?_)
      · exact iw_seq (ew_var (d := .tup vs) rfl (x_itT (by rw [List.map_id])))
      · rintro pre d post _ hx ⟨x2, x3, x4, x5, x6, rfl, hpre⟩
        have hd : d ∈ vs := by rw [hx]; simp
        have h3 := List.all_eq_true.mp h2 d hd
        unfold isP2 at h3
        split at h3
        · rename_i a b
          have ga := gd_plain _ ((gd_tup.mp (hg _ hd)).2 a (by simp))
          have gb := gd_plain _ ((gd_tup.mp (hg _ hd)).2 b (by simp))
          refine ⟨_, rfl, ?_⟩
          have hno : pairOk most (.tup [a, b]) = false → vs.all (pairOk most) = false := fun h => List.all_eq_false.mpr ⟨_, hd, by rw [h]; decide⟩
          refine sw_ifB (Tw.mono (Q := fun k => k = !pairOk most (.tup [a, b])) ?_ fun k hk => ?_)
          · have hall : ∀ Q : Bool → Prop, Q (ge1 a && ge1 b) → Tw (tOf (eFn allD (aCons (eLc (iSeq (eTup (aCons (eVar 2) (aCons (eVar 3) (aNil))))) (gNm 6) (tYes') (eAnd (eUn (fun d => (isT d .int).map .bl) (eBor 6)) (eAnd (eNot (eUn (fun d => (isT d .bool).map .bl) (eBor 6))) (eBin opGe (eBor 6) (eCon (.int 1))))) [6]) aNil))) (([Sl.frz (.tup vs), .frz (nE most), x2, x3, x4, x5, x6].set 2 (.frz a)).set 3 (.frz b)) Q := fun Q q => by
              refine tw_of (ew_fn (aw_cons (ew_lcM' (xs := [a, b]) (enc := id) (res := fun d => .bl (ge1 d)) ?_ (fun d hd => ⟨_, rfl, w_ge1 ?_ rfl rfl⟩) (aw_nil (o_all (x_tb ?_))))))
              · exact iw_seq (ew_tup (aw_cons (ew_var (d := a) rfl (aw_cons (ew_var (d := b) rfl (aw_nil (x_itT rfl)))))))
              · simp only [List.mem_cons, List.not_mem_nil, or_false] at hd
                rcases hd with rfl | rfl
                · exact ga
                · exact gb
              · simpa using q
            cases hge : (ge1 a && ge1 b) with
            | false =>
              rw [pair_ge hge]
              exact tw_orT (tw_not (hall _ (by rw [hge]; rfl))) rfl
            | true =>
              refine tw_orF (tw_not (hall _ ⟨by rw [hge]; rfl, ?_⟩))
              rw [Bool.and_eq_true] at hge
              obtain ⟨i, rfl, hi⟩ := ge1_int hge.1
              obtain ⟨j, rfl, hj⟩ := ge1_int hge.2
              refine tw_orC (y := decide ((most : Int) < j)) (tw_bl (ew_bin (ew_bor (d := .int i) rfl (ew_con (o_gt ⟨_, rfl, fun _ => ?_, ?_⟩)))))
              · exact tw_bl (ew_bin (ew_bor (d := .int j) rfl (ew_bor (d := nE most) rfl (o_gt ⟨_, rfl, rfl⟩))))
              · show (decide ((60 : Int) < i) || decide ((most : Int) < j)) = !(decide (1 ≤ i ∧ i ≤ 60) && decide (1 ≤ j ∧ j ≤ (most : Int)))
                rw [Bool.eq_iff_iff]
                simp only [Bool.or_eq_true, Bool.not_eq_true', Bool.and_eq_false_iff, decide_eq_true_iff, decide_eq_false_iff_not]
                omega
          · subst hk
            cases hpk : pairOk most (.tup [a, b]) with
            | false =>
              refine brT rfl (sw_ret (ew_con ⟨_, rfl, ?_⟩))
              rw [hno hpk, Bool.false_and] at q
              exact q
            | true =>
              refine brF rfl (sw_nx ⟨_, _, _, _, _, rfl, ?_⟩)
              show (pre ++ [D.tup [a, b]]).all (pairOk most) = true
              rw [List.all_append, hpre, List.all_cons, hpk]; rfl
        · cases h3
      · rintro _ ⟨x2, x3, x4, x5, x6, rfl, hall⟩
        rw [hall, Bool.true_and] at q
        obtain ⟨h5, _⟩ := pairs_of hall
        rw [show (vs.map fun d => (toPr d).1) = (vs.map toPr).map Prod.fst from by rw [List.map_map]; rfl] at q
        have hl2 : (vs.map toPr).length = vs.length := List.length_map _
        generalize vs.map toPr = ps at h5 q hl2
        subst h5
        refine sw_rt (ew_not (ew_fn (aw_cons (ew_lcM' (xs := List.range (ps.length - 1)) (enc := nE) (res := fun k => .bl (!ltN (ps.getD k default).1 (ps.getD (k + 1) default).1)) (iw_len1 (by rw [hl2]; exact gl) (ew_bor (d := .tup (ps.map eF)) rfl rfl)) (fun k hk => ⟨_, rfl, ?_⟩) (aw_nil (o_any ?_))))))
        · have hk := List.mem_range.mp hk
          refine ew_bin (ew_bin (ew_bin (ew_bor (d := .tup (ps.map eF)) rfl (ew_var (d := nE k) rfl (o_ixTG (by omega) (ew_con (o_ix0 ?_)))))))
          refine ew_bin (ew_bin (ew_bor (d := .tup (ps.map eF)) rfl (ew_bin (ew_bor (d := nE k) rfl (ew_con (o_addN1 (o_ixTG (by omega) (ew_con (o_ix0 ?_)))))))))
          exact o_geE ord_nat enc_nat (by simp) rfl
        · have : ((List.range (ps.length - 1)).any fun k => !ltN (ps.getD k default).1 (ps.getD (k + 1) default).1) = !adjB ltN (ps.map Prod.fst) := by
            unfold adjB
            rw [List.length_map, List.not_all_eq_any_not]
            rw [Bool.eq_iff_iff, List.any_eq_true, List.any_eq_true]
            have hk : ∀ k ∈ List.range (ps.length - 1), ltN ((ps.map Prod.fst).getD k default) ((ps.map Prod.fst).getD (k + 1) default) = ltN (ps.getD k default).1 (ps.getD (k + 1) default).1 := fun k h => by
              have := List.mem_range.mp h
              rw [getD_map Prod.fst default default (by omega), getD_map Prod.fst default default (by omega)]
            constructor
            · rintro ⟨k, h1, h2⟩; exact ⟨k, h1, by rw [hk k h1]; exact h2⟩
            · rintro ⟨k, h1, h2⟩; exact ⟨k, h1, by rw [← hk k h1]; exact h2⟩
          rw [this]
          exact ⟨_, rfl, by rw [Bool.not_not]; exact q⟩
  | dct _ => cases hp
  | tok _ => cases hp
  | _ => exact fun b => ⟨_, _, b, rfl, _, rfl, q⟩
/-! ### groups -/
def len12 (v : D) : Bool := match v with
  | .tup vs => decide (vs.length ≤ 12)
  | _ => false
def groupsB (v : D) : Bool := loadB 200 v && len12 v
theorem load_tup {most : Nat} {v : D} (h : loadB most v = true) : ∃ vs, v = .tup vs := by
  unfold loadB at h
  split at h
  · exact ⟨_, rfl⟩
  · cases h
theorem w_len12 {v : D} {f : Fn} {fv : Ex} {ρ : Rho} (h1 : ∀ Q : D → Prop, Q (.bl (loadB 200 v)) → Ew (eCall f (aCons fv (aCons (eCon (.int 200)) (aNil)))) ρ Q) {k : Nat} (hk : ρ[k]? = some (Sl.frz v)) (q : Q (.bl (groupsB v))) : Ew (eAnd (eCall f (aCons fv (aCons (eCon (.int 200)) (aNil)))) (eBin opLe (eFn lenD (aCons (eBor k) aNil)) (eCon (.int 12)))) ρ Q := by
  unfold groupsB at q
  cases h : loadB 200 v with
  | false => rw [h, Bool.false_and] at q; exact ew_andF (h1 _ (by rw [h])) q
  | true =>
    rw [h, Bool.true_and] at q
    refine ew_andT (h1 _ ⟨by rw [h], ?_⟩)
    obtain ⟨vs, rfl⟩ := load_tup h
    refine ew_bin (ew_fn (aw_cons (ew_bor hk (aw_nil (o_lenT (ew_con (o_leN (y := 12) q)))))))
theorem w_are_groups {v : D} (hv : gd v = true) (q : Q (.bl (groupsB v))) : Fw f_are_groups [v] Q := by
  refine fw_rt (sw_rt (w_len12 (v := v) (k := 0) (fun Q q => ?_) rfl q))
  exact ew_call (aw_cons (ew_var (d := v) rfl (aw_cons (ew_con (aw_nil (w_is_load (most := 200) hv q))))))
end
end K78

set_option maxHeartbeats 1000000
/-! Pl14: dicts of numbers: made by a comprehension, walked, compared -/
namespace Sv
open PySem (Str PyData)
section
variable {α β : Type} {e : β → D} {ρ : Rho} {Q : D → Prop}
/-- the keys and the content of {fk x: fv x for x in xs} -/
def foldF (fk : α → Nat) (fv : α → β) (xs : List α) (s : List Nat × (Nat → β)) : List Nat × (Nat → β) := xs.foldl (fun s x => (if fk x ∈ s.1 then s.1 else s.1 ++ [fk x], fun k => if k = fk x then fv x else s.2 k)) s
theorem ew_dcF {it : It} {g : Tg} {k v : Ex} {vs : List Nat} (xs : List α) (enc : α → D) (fk : α → Nat) (fv : α → β) (g0 : Nat → β) (hl : xs.length ≤ 1000000) (hi : Iw it ρ fun ds => ds = xs.map enc)
    (hs : ∀ x ∈ xs, ∃ ρ1, g (enc x) (wipeR ρ vs) = some ρ1 ∧ Ew k ρ1 (fun d => d = nE (fk x)) ∧ Ew v ρ1 (fun d => d = e (fv x))) (q : Q (dF e (foldF fk fv xs ([], g0)).1 (foldF fk fv xs ([], g0)).2)) : Ew (eDc false it g tYes' k v vs) ρ Q := fun b => by
  obtain ⟨_, b1, e1, rfl⟩ := hi b
  have go : ∀ (ys : List α) (s : List Nat × (Nat → β)) (b : Bx), (∀ x ∈ ys, x ∈ xs) → s.1.length + ys.length ≤ 1000000 → ∃ b', dcGo g tYes' k v (wipeR ρ vs) (ys.map enc) (rF e s.1 s.2) b = some (rF e (foldF fk fv ys s).1 (foldF fk fv ys s).2, b') := by
    intro ys
    induction ys with
    | nil => exact fun s b _ _ => ⟨b, rfl⟩
    | cons y ys ih =>
      intro s b hy hl
      rw [List.length_cons] at hl
      obtain ⟨ρ1, e2, h1, h2⟩ := hs y (hy y (List.mem_cons_self ..))
      obtain ⟨_, b2, e3, rfl⟩ := h1 b
      obtain ⟨_, b3, e4, rfl⟩ := h2 b2
      have hp := rF_put (e := e) (ks := s.1) (g := s.2) (x := fk y) (y := fv y) (by omega)
      have hpl : (if fk y ∈ s.1 then s.1 else s.1 ++ [fk y]).length ≤ s.1.length + 1 := by
        split
        · omega
        · rw [List.length_append, List.length_singleton]; omega
      obtain ⟨b4, e5⟩ := ih (if fk y ∈ s.1 then s.1 else s.1 ++ [fk y], fun k => if k = fk y then fv y else s.2 k) b3 (fun x hx => hy x (List.mem_cons_of_mem _ hx)) (by show (if fk y ∈ s.1 then s.1 else s.1 ++ [fk y]).length + _ ≤ _; omega)
      refine ⟨b4, ?_⟩
      rw [List.map_cons]
      unfold dcGo
      simp only [e2, tYes', e3, e4, hp]
      exact e5
  obtain ⟨b2, e2⟩ := go xs ([], g0) b1 (fun x h => h) (by simpa using hl)
  exact ⟨_, b2, by unfold eDc; rw [e1]; simp only [Bool.false_eq_true, if_false]; rw [show ([] : List (D × D)) = rF e [] g0 from rfl, e2], q⟩
theorem foldF_keys {fk : α → Nat} {fv : α → β} : ∀ {xs : List α} {s : List Nat × (Nat → β)}, (s.1 ++ xs.map fk).Nodup → (foldF fk fv xs s).1 = s.1 ++ xs.map fk
  | [], s, _ => by simp [foldF]
  | x :: xs, s, h => by
    have hx : fk x ∉ s.1 := fun hx => by
      rw [List.map_cons] at h
      exact (List.nodup_append.mp h).2.2 _ hx _ (List.mem_cons_self ..) rfl
    have ih := foldF_keys (fk := fk) (fv := fv) (xs := xs) (s := (s.1 ++ [fk x], fun k => if k = fk x then fv x else s.2 k)) (by rw [List.append_assoc]; exact h)
    show (foldF fk fv xs (if fk x ∈ s.1 then s.1 else s.1 ++ [fk x], _)).1 = _
    rw [if_neg hx, ih, List.append_assoc]; rfl
theorem foldF_out {fk : α → Nat} {fv : α → β} {k : Nat} : ∀ {xs : List α} {s : List Nat × (Nat → β)}, (∀ x ∈ xs, fk x ≠ k) → (foldF fk fv xs s).2 k = s.2 k
  | [], _, _ => rfl
  | x :: xs, s, h => by
    have ih := foldF_out (fk := fk) (fv := fv) (k := k) (xs := xs) (s := (if fk x ∈ s.1 then s.1 else s.1 ++ [fk x], fun k => if k = fk x then fv x else s.2 k)) fun y hy => h y (List.mem_cons_of_mem _ hy)
    show (foldF fk fv xs _).2 k = _
    rw [ih]
    show (if k = fk x then fv x else s.2 k) = s.2 k
    rw [if_neg fun z => h x (List.mem_cons_self ..) z.symm]
theorem foldF_val {fk : α → Nat} {fv : α → β} : ∀ {xs : List α} {s : List Nat × (Nat → β)}, (xs.map fk).Nodup → ∀ x ∈ xs, (foldF fk fv xs s).2 (fk x) = fv x
  | y :: xs, s, h, x, hx => by
    rw [List.map_cons, List.nodup_cons] at h
    rcases List.mem_cons.mp hx with e | hx
    · subst e
      show (foldF fk fv xs _).2 (fk x) = _
      rw [foldF_out fun z hz e => h.1 (by rw [← e]; exact List.mem_map.mpr ⟨z, hz, rfl⟩)]
      show (if fk x = fk x then fv x else s.2 (fk x)) = fv x
      rw [if_pos rfl]
    · exact foldF_val (xs := xs) h.2 x hx
theorem iw_valsF {g : Ex} {Q : List D → Prop} {ks : List Nat} {f : Nat → β} (h : Ew g ρ fun d => d = dF e ks f ∧ Q (ks.map fun k => e (f k))) : Iw (iVals g) ρ Q := fun b => by
  obtain ⟨_, b1, e1, rfl, q⟩ := h b
  exact ⟨_, b1, by unfold iVals; rw [e1], by rw [valsD, rF_rows, rF, List.map_map]; exact q⟩
theorem ew_dF0 (g0 : Nat → β) (q : Q (dF e [] g0)) : Ew eDic0 ρ Q := fun b => ⟨_, b, rfl, q⟩
theorem rF_ints (ks : List Nat) (g : Nat → Int) : ((rF D.int ks g).all fun p => isIntD p.2) = true := by
  unfold rF
  rw [List.all_map, List.all_eq_true]
  exact fun _ _ => rfl
theorem o_eqDF {ks ls : List Nat} {g h : Nat → Int} (q : Q (.bl (ks.length == ls.length && ks.all fun k => decide (k ∈ ls ∧ h k = g k)))) : OrW (opEqD (dF D.int ks g) (dF D.int ls h)) Q := .of (by
  show (eqDct _ _).map D.bl = _
  rw [eqDct, if_pos ⟨rF_noT0 ks g, rF_noT0 ls h, rF_ints ks g, rF_ints ls h⟩]
  show some (D.bl _) = some (D.bl _)
  congr 2
  congr 1
  · unfold rF; rw [List.length_map, List.length_map]
  · unfold rF
    rw [List.all_map]
    refine List.all_congr rfl fun k => ?_
    show decide (lkD (rF D.int ls h) (nE k) = some (D.int (g k))) = _
    rw [rF_lk]
    by_cases hk : k ∈ ls
    · rw [if_pos hk]
      exact decide_eq_decide.mpr ⟨fun z => ⟨hk, by injection z with z; injection z⟩, fun z => by rw [z.2]⟩
    · rw [if_neg hk]
      exact decide_eq_decide.mpr ⟨fun z => (by cases z), fun z => absurd z.1 hk⟩) q
theorem ptF {ks : List Nat} {g : Nat → β} {x : Nat} {y : β} : ptD (rF e ks g) (nE x) (e y) = rF e (if x ∈ ks then ks else ks ++ [x]) fun k => if k = x then y else g k := by
  rw [ptD, rF_lk]
  by_cases hx : x ∈ ks
  · rw [if_pos hx, if_pos hx, if_pos (show (some (e (g x))).isSome = true from rfl), rF, rF, List.map_map]
    refine List.map_congr_left fun k _ => ?_
    show (if nE k = nE x then (nE k, e y) else (nE k, e (g k))) = (nE k, e (if k = x then y else g k))
    by_cases h : k = x
    · subst h; simp
    · have h2 : nE k ≠ nE x := fun z => h (by injection z; omega)
      rw [if_neg h2, if_neg h]
  · rw [if_neg hx, if_neg hx, if_neg (show ¬ (none : Option D).isSome = true by decide), rF, rF, List.map_append]
    congr 1
    · refine List.map_congr_left fun k hk => ?_
      have : ¬ k = x := fun z => hx (z ▸ hk)
      rw [if_neg this]
    · simp
/-- dict([(k, v), ..]) -/
theorem pairsK_map (fk : α → Nat) (fv : α → β) : ∀ xs : List α, pairsK (xs.map fun x => .tup [nE (fk x), e (fv x)]) = some (xs.map fun x => (nE (fk x), e (fv x)))
  | [] => rfl
  | x :: xs => by
    rw [List.map_cons, pairsK, pairsK_map fk fv xs]; rfl
theorem upd_rF (fk : α → Nat) (fv : α → β) : ∀ (xs : List α) (s : List Nat × (Nat → β)), updRows (rF e s.1 s.2) (xs.map fun x => (nE (fk x), e (fv x))) = rF e (foldF fk fv xs s).1 (foldF fk fv xs s).2
  | [], s => rfl
  | x :: xs, s => by
    show updRows (ptD (rF e s.1 s.2) (nE (fk x)) (e (fv x))) _ = _
    rw [ptF]
    exact upd_rF fk fv xs (if fk x ∈ s.1 then s.1 else s.1 ++ [fk x], fun k => if k = fk x then fv x else s.2 k)
end
end Sv

set_option maxHeartbeats 1000000
/-! k78: rides at any value -/
namespace K78
open Sv
open PySem (Str PyData)
local macro_rules | `(tactic| walk_at "v1") => `(tactic| first | with_reducible (first | refine sw_seq ?_ | refine sw_set ?_ | refine sw_new ?_ | refine sw_asg ?_ | refine sw_rt ?_ | refine sw_ret ?_ | refine sw_ifB ?_ | refine sw_par ?_ | refine sw_nx ?_ | refine sw_exprM ?_ | refine kw_nil ?_ | refine kw_frz ?_ | refine kw_new ?_ | refine ew_con ?_ | refine ew_bin ?_ | refine ew_un ?_ | refine ew_tup ?_ | refine ew_lst ?_ | refine ew_fn ?_ | refine ew_call ?_ | refine ew_callO ?_ | refine ew_not ?_ | refine ew_chain ?_ | refine ew_slice ?_ | refine ow_none ?_ | refine ow_some ?_ | refine tw_bl ?_ | refine tw_of ?_ | refine tw_not ?_ | refine tw_yes ?_ | refine aw_nil ?_ | refine aw_cons ?_ | refine iw_seq ?_ | refine iw_enum ?_ | refine iw_zip ?_ | refine iw_rangeI ?_ | (apply ew_andC) | (apply ew_orC) | (apply tw_andC) | (apply tw_orC) | (apply ew_lcM') | (apply ew_lc') | exact rfl | exact cut_last _ _ | exact mapI _) | ((with_reducible apply ew_var); exact rfl) | ((with_reducible apply ew_bor); exact rfl) | ((with_reducible apply ew_borO); exact rfl) | with_reducible (first | refine o_eqN ?_ | refine o_neN ?_ | refine o_ltN ?_ | refine o_gtN ?_ | refine o_leN ?_ | refine o_geN ?_ | refine o_inN ?_ | refine o_ninN ?_ | refine o_inNL ?_ | refine o_ninNL ?_ | refine o_lenTm ?_ | refine o_lenLm ?_ | refine o_addN ?_ | refine o_addN1 ?_ | refine o_subN (by first | assumption | omega) ?_ | refine o_subN1 (by first | assumption | omega) ?_ | refine o_sumI ?_ | refine o_sumTI ?_ | refine o_ix0 ?_ | refine o_ix1 ?_ | refine o_ix2 ?_ | refine o_ix3 ?_ | refine o_ixT0 ?_ ?_ | refine o_ixL0 ?_ ?_ | refine o_ixT1 ?_ ?_ | refine o_isTupT ?_ | refine o_ixTN ?_ ?_ | refine o_ixTI ?_ ?_ | refine o_ixLN ?_ ?_ | refine o_ixLI ?_ ?_ | refine o_ixTG ?_ ?_ | refine o_ixLG ?_ ?_ | refine o_ixTD0 ?_ ?_ | refine o_ixTD1 ?_ ?_ | refine o_ixTD2 ?_ ?_ | refine o_ixTD ?_ ?_ | refine o_ixLD ?_ ?_) | with_reducible (first | refine o_eqI ?_ | refine o_neI ?_ | refine o_lt ?_ | refine o_gt ?_ | refine o_le ?_ | refine o_ge ?_ | refine o_all ?_ | refine o_any ?_ | refine o_sum ?_ | refine o_addI ?_ | refine o_subI ?_ | refine o_lenT ?_ | refine o_lenL ?_ | refine o_tupL ?_ | refine o_tupT ?_ | refine o_listL ?_ | refine o_listT ?_ | refine o_negI ?_ | refine o_intI ?_ | refine o_slT ?_ | refine o_slL ?_ | refine o_revT ?_ | refine o_revL ?_ | refine x_n ?_ | refine x_int ?_ | refine x_bl ?_ | refine x_tb ?_ | refine x_itT ?_ | refine x_itL ?_ | refine x_rt ?_ | refine rngQ ?_ ?_ | refine x_trT ?_ | refine x_trL ?_ | refine x_tri ?_ | refine o_max2 ?_ | refine o_min2 ?_ | refine o_addTs ?_ ?_ | refine o_addLs ?_ ?_) | (with_reducible refine And.intro ?_ ?_) | refine dec_imp fun _ => ?_ | refine decF_imp fun _ => ?_ | with_reducible (first | refine ndF_imp fun _ => ?_ | refine ndT_imp fun _ => ?_ | refine nF_imp ?_ | refine nT_imp ?_ | refine orF_imp ?_ | refine andT_imp ?_) | refine tr_imp fun _ => ?_ | refine fa_imp fun _ => ?_ | (intro x hx; refine Exists.intro _ (And.intro rfl ?_); try (have hx := List.mem_range.mp hx)) | (refine sd_lt ?_; first | assumption | omega | (simp only [List.length_map, List.length_range, List.length_cons, List.length_nil, List.length_append, List.length_set] at *; omega)) | (refine sd_le ?_; first | assumption | omega | (simp only [List.length_map, List.length_range, List.length_cons, List.length_nil, List.length_append, List.length_set] at *; omega)))
local macro_rules | `(tactic| walk_at "v") => `(tactic| (repeat' (walk_at "v1")))
def toL (d : D) : List Pr := match d with
  | .tup xs => xs.map toPr
  | _ => []
abbrev eRd (r : List Pr) : D := .tup (r.map eF)
def sumN (r : List Pr) : Nat := (r.map Prod.snd).sum
def neB (k : Nat) (d : D) : Bool := loadB k d && !(toL d).isEmpty
def rideB (k : Nat) (d : D) : Bool := loadB k d && (!(toL d).isEmpty && decide (sumN (toL d) ≤ k))
abbrev fls (ps : List Pr) : List Nat := ps.map Prod.fst
def atF (f : Nat) (ps : List Pr) : Nat := ((ps.filter fun p => decide (p.1 = f)).map Prod.snd).sum
def balB (gs L : List Pr) : Bool := (fls (gs ++ L)).all fun f => decide (atF f gs = atF f L)
def ridesB (gs : List Pr) (k : Nat) (v : D) : Bool := match v with
  | .tup vs => vs.all (rideB k) && balB gs (vs.map toL).flatten
  | _ => false
theorem toL_eRd (r : List Pr) : toL (eRd r) = r := by
  show (r.map eF).map toPr = r
  rw [List.map_map]
  conv => rhs; rw [← List.map_id r]
  exact List.map_congr_left fun p _ => toPr_eF p
theorem loads_of {k : Nat} {vs : List D} (h : vs.all (loadB k) = true) : vs = (vs.map toL).map eRd ∧ ∀ r ∈ vs.map toL, (∀ p ∈ r, POk k p) ∧ Ld r := by
  refine ⟨?_, fun t ht => ?_⟩
  · rw [List.map_map]
    conv => lhs; rw [← List.map_id vs]
    refine List.map_congr_left fun d hd => ?_
    obtain ⟨s, rfl, _⟩ := load_of (List.all_eq_true.mp h d hd)
    simp only [Function.comp]
    rw [toL_eRd]; rfl
  · obtain ⟨d, hd, rfl⟩ := List.mem_map.mp ht
    obtain ⟨s, rfl, h1, h2⟩ := load_of (List.all_eq_true.mp h d hd)
    rw [toL_eRd]
    exact ⟨h1, h2, fun p hp => (h1 p hp).n1⟩
theorem atF_app (f : Nat) (a b : List Pr) : atF f (a ++ b) = atF f a + atF f b := by
  unfold atF; rw [List.filter_append, List.map_append, List.sum_append]
theorem atF_one (f : Nat) (p : Pr) : atF f [p] = if p.1 = f then p.2 else 0 := by
  unfold atF
  by_cases h : p.1 = f
  · rw [if_pos h]; simp [h]
  · rw [if_neg h]; simp [h]
theorem atF_none {f : Nat} : ∀ {ps : List Pr}, f ∉ fls ps → atF f ps = 0
  | [], _ => rfl
  | p :: ps, h => by
    rw [show p :: ps = [p] ++ ps from rfl, atF_app, atF_one, if_neg fun e => h (by rw [← e]; simp), atF_none fun z => h (by simp at z ⊢; exact .inr z)]
theorem atF_pos {f : Nat} : ∀ {ps : List Pr}, (∀ p ∈ ps, 1 ≤ p.2) → f ∈ fls ps → 1 ≤ atF f ps
  | p :: ps, h, hf => by
    rw [show p :: ps = [p] ++ ps from rfl, atF_app, atF_one]
    by_cases e : p.1 = f
    · rw [if_pos e]; have := h p (by simp); omega
    · have : f ∈ fls ps := by
        simp only [fls, List.map_cons, List.mem_cons] at hf
        exact hf.resolve_left fun z => e z.symm
      have := atF_pos (fun q hq => h q (by simp [hq])) this
      omega
theorem atF_self {ps : List Pr} (hn : (fls ps).Nodup) {p : Pr} (hp : p ∈ ps) : atF p.1 ps = p.2 := by
  induction ps with
  | nil => cases hp
  | cons q ps ih =>
    rw [show q :: ps = [q] ++ ps from rfl, atF_app, atF_one]
    rw [fls, List.map_cons, List.nodup_cons] at hn
    rcases List.mem_cons.mp hp with e | hp
    · subst e
      rw [if_pos rfl, atF_none hn.1]; omega
    · have : q.1 ≠ p.1 := fun e => hn.1 (by rw [e]; exact List.mem_map.mpr ⟨p, hp, rfl⟩)
      rw [if_neg this, ih hn.2 hp]; omega
theorem ld_nodup {r : List Pr} (h : Ld r) : (fls r).Nodup := by
  show (r.map Prod.fst).Pairwise _
  rw [List.pairwise_map]
  exact h.asc.imp fun h => by omega
/-- a dict of sums by floor -/
structure Kv (F0 : List Nat) (b : Nat → Int) (sg : Int) (L : List Pr) (ks : List Nat) (g : Nat → Int) : Prop where
  nd : ks.Nodup
  mem : ∀ f, f ∈ ks ↔ f ∈ F0 ∨ f ∈ fls L
  val : ∀ f ∈ ks, g f = b f + sg * atF f L
  out : ∀ f, f ∉ F0 → b f = 0
theorem Kv.get {F0 : List Nat} {b : Nat → Int} {sg : Int} {L : List Pr} {ks : List Nat} {g : Nat → Int} (h : Kv F0 b sg L ks g) (f : Nat) : (if f ∈ ks then D.int (g f) else D.int 0) = .int (b f + sg * atF f L) := by
  by_cases hf : f ∈ ks
  · rw [if_pos hf, h.val f hf]
  · rw [if_neg hf]
    have h1 : f ∉ F0 := fun z => hf ((h.mem f).mpr (.inl z))
    have h2 : f ∉ fls L := fun z => hf ((h.mem f).mpr (.inr z))
    rw [h.out f h1, atF_none h2]; simp
theorem Kv.step {F0 : List Nat} {b : Nat → Int} {sg : Int} {L : List Pr} {ks : List Nat} {g : Nat → Int} (h : Kv F0 b sg L ks g) (p : Pr) {v : Int} (hv : v = b p.1 + sg * atF p.1 L + sg * p.2) : Kv F0 b sg (L ++ [p]) (if p.1 ∈ ks then ks else ks ++ [p.1]) (fun k => if k = p.1 then v else g k) := by
  have hm : ∀ f, f ∈ (if p.1 ∈ ks then ks else ks ++ [p.1]) ↔ f ∈ ks ∨ f = p.1 := fun f => by
    by_cases hp : p.1 ∈ ks
    · rw [if_pos hp]
      exact ⟨.inl, fun z => z.elim id fun e => e ▸ hp⟩
    · rw [if_neg hp, List.mem_append, List.mem_singleton]
  refine ⟨?_, fun f => ?_, fun f hf => ?_, h.out⟩
  · by_cases hp : p.1 ∈ ks
    · rw [if_pos hp]; exact h.nd
    · rw [if_neg hp]
      refine List.nodup_append.mpr ⟨h.nd, by simp, fun a ha b hb => ?_⟩
      rw [List.mem_singleton] at hb
      subst hb
      exact fun z => hp (z ▸ ha)
  · rw [hm, h.mem, fls, fls, List.map_append, List.mem_append]
    simp only [List.map_cons, List.map_nil, List.mem_singleton]
    exact ⟨fun z => z.elim (fun z => z.elim .inl fun z => .inr (.inl z)) fun z => .inr (.inr z), fun z => z.elim (fun z => .inl (.inl z)) fun z => z.elim (fun z => .inl (.inr z)) .inr⟩
  · show (if f = p.1 then v else g f) = _
    rw [atF_app, atF_one]
    by_cases e : f = p.1
    · subst e
      rw [if_pos rfl, if_pos rfl, hv, Int.natCast_add, Int.mul_add]; omega
    · rw [if_neg e, if_neg fun z => e z.symm, Nat.add_zero]
      exact h.val f (((hm f).mp hf).resolve_right e)
theorem Kv.len {F0 : List Nat} {b : Nat → Int} {sg : Int} {L : List Pr} {ks : List Nat} {g : Nat → Int} (h : Kv F0 b sg L ks g) (h0 : ∀ f ∈ F0, f ≤ 60) (hL : ∀ f ∈ fls L, f ≤ 60) : ks.length ≤ 61 := by
  have := nodup_sub ks (List.range 61) h.nd fun f hf => by
    rw [List.mem_range]
    rcases (h.mem f).mp hf with z | z
    · have := h0 f z; omega
    · have := hL f z; omega
  rw [List.length_range] at this
  exact this
theorem sum_cast (r : List Pr) : (r.map fun p => ((p.2 : Nat) : Int)).sum = ((sumN r : Nat) : Int) := by
  unfold sumN
  induction r with
  | nil => rfl
  | cons p r ih => rw [List.map_cons, List.sum_cons, ih, List.map_cons, List.sum_cons]; simp
structure Gr (gs : List Pr) : Prop where
  ok : ∀ p ∈ gs, POk 200 p
  asc : gs.Pairwise fun a b => a.1 < b.1
  len : gs.length ≤ 60
theorem Gr.ld {gs : List Pr} (h : Gr gs) : Ld gs := ⟨h.asc, fun p hp => (h.ok p hp).n1⟩
theorem rides_no {gs : List Pr} {k : Nat} {vs : List D} {d : D} (hd : d ∈ vs) (h : rideB k d = false) : ridesB gs k (.tup vs) = false := by
  show (vs.all (rideB k) && _) = false
  rw [List.all_eq_false.mpr ⟨d, hd, by rw [h]; decide⟩, Bool.false_and]
section
variable {Q : D → Prop}
theorem w_sumN {r : List Pr} {ρ : Rho} {i j1 j2 : Nat} {g : Tg} {vs : List Nat} (e4 : ρ[i]? = some (Sl.frz (eRd r))) (hg : ∀ p : Pr, ∃ ρ1, g (eF p) (wipeR ρ vs) = some ρ1 ∧ ρ1[j1]? = some (Sl.frz (nE p.2))) (q : Q (.int ((sumN r : Nat) : Int))) : Ew (eFn sumD (aCons (eLc (iSeq (eBor i)) g (tYes') (eVar j1) vs) aNil)) ρ Q := by
  refine ew_fn (aw_cons (ew_lcM' (xs := r) (enc := eF) (res := fun p => .int ((p.2 : Nat) : Int)) (iw_seq (ew_bor e4 (x_itT rfl))) (fun p hp => ?_) (aw_nil (o_sum (p := fun p : Pr => ((p.2 : Nat) : Int)) ?_))))
  · obtain ⟨ρ1, e1, e2⟩ := hg p
    exact ⟨ρ1, e1, ew_var e2 rfl⟩
  · rw [sum_cast]; exact q
theorem w_are_rides {gs : List Pr} {k : Nat} {v : D} (hgs : Gr gs) (hv : gd v = true) (q : Q (.bl (ridesB gs k v))) : Fw f_are_rides [eRd gs, nE k, v] Q := by
  have hp := gd_plain v hv
  have hnd := ld_nodup hgs.ld
  refine fw_rt ?_
  cases v with
  | tup vs =>
    have gl := gdl hv
    have hg := (gd_tup.mp hv).2
    refine sw_seq (sw_ifB (tw_orF (tw_not (tw_of (ew_un (ew_bor rfl (o_isTupT (x_tb ⟨rfl, ?_⟩))))))))
    refine tw_not (tw_of (ew_fn (aw_cons (ew_lcM' (xs := vs) (enc := id) (res := fun d => .bl (neB k d)) (iw_seq (ew_bor rfl (x_itT (by rw [List.map_id])))) (fun d hd => ⟨_, rfl, ?_⟩) (aw_nil (o_all (x_tb ?_)))))))
    · have hcall : ∀ Q : D → Prop, Q (.bl (loadB k d)) → Ew (eCall f_is_load (aCons (eVar 4) (aCons (eVar 1) (aNil)))) [Sl.frz (eRd gs), .frz (nE k), .frz (.tup vs), .emp, .frz d, .emp, .emp, .emp] Q := fun Q q => ew_call (aw_cons (ew_var (d := d) rfl (aw_cons (ew_var (d := nE k) rfl (aw_nil (w_is_load (hg d hd) q))))))
      show Ew _ [Sl.frz (eRd gs), .frz (nE k), .frz (.tup vs), .emp, .frz d, .emp, .emp, .emp] _
      unfold neB
      cases hl : loadB k d with
      | false => exact ew_andF (hcall _ (by rw [hl])) rfl
      | true =>
        refine ew_andT (hcall _ ⟨by rw [hl], ?_⟩)
        obtain ⟨ps, rfl, _⟩ := load_of hl
        refine ew_bin (ew_bor (d := eRd ps) rfl (ew_tup (aw_nil (o_neNilT enc_eF ?_))))
        rw [toL_eRd]; rfl
    cases h1 : vs.all (neB k) with
    | false =>
      obtain ⟨d, hd, h⟩ := List.all_eq_false.mp h1
      have : rideB k d = false := by
        unfold rideB
        unfold neB at h
        cases hl : loadB k d with
        | false => rfl
        | true =>
          rw [hl, Bool.true_and] at h
          cases he : (!(toL d).isEmpty) with
          | false => rfl
          | true => rw [he] at h; exact absurd rfl h
      rw [rides_no hd this] at q
      refine brT rfl ?_
      walk_at "v"
      exact q
    | true =>
      refine brF rfl (sw_nx ?_)
      have hload : vs.all (loadB k) = true := List.all_eq_true.mpr fun d hd => by
        have := List.all_eq_true.mp h1 d hd
        unfold neB at this
        rw [Bool.and_eq_true] at this
        exact this.1
      have hne : ∀ d ∈ vs, (!(toL d).isEmpty) = true := fun d hd => by
        have := List.all_eq_true.mp h1 d hd
        unfold neB at this
        rw [Bool.and_eq_true] at this
        exact this.2
      obtain ⟨h2, h3⟩ := loads_of hload
      have hrid : vs.all (rideB k) = (vs.map toL).all fun r => decide (sumN r ≤ k) := by
        rw [List.all_map]
        rw [Bool.eq_iff_iff, List.all_eq_true, List.all_eq_true]
        have this' : ∀ d ∈ vs, rideB k d = decide (sumN (toL d) ≤ k) := fun d hd => by
          unfold rideB
          rw [List.all_eq_true.mp hload d hd, hne d hd, Bool.true_and, Bool.true_and]
        exact ⟨fun h d hd => by have h9 := h d hd; rw [this' d hd] at h9; exact h9, fun h d hd => by rw [this' d hd]; exact h d hd⟩
      have e1 : ridesB gs k (.tup vs) = (((vs.map toL).all fun r => decide (sumN r ≤ k)) && balB gs (vs.map toL).flatten) := by
        show (vs.all (rideB k) && _) = _
        rw [hrid]
      rw [e1] at q
      generalize vs.map toL = rs at h2 h3 q
      subst h2
      clear h1 hload hne hrid e1 hg hp hv
      rw [List.length_map] at gl
      refine sw_seq (sw_ifB (tw_of (ew_fn (aw_cons (ew_lcM' (xs := rs) (enc := eRd) (res := fun r => .bl (decide ((k : Int) < ((sumN r : Nat) : Int)))) (iw_seq (ew_bor (d := .tup (rs.map eRd)) rfl (x_itT rfl))) (fun r hr => ⟨_, rfl, ?_⟩) (aw_nil (o_any (x_tb ?_))))))))
      · refine ew_bin (w_sumN (r := r) (j2 := 0) rfl (fun p => ⟨_, rfl, rfl⟩) (ew_bor (d := nE k) rfl (o_gt rfl)))
      have hsum : (rs.any fun r => decide ((k : Int) < ((sumN r : Nat) : Int))) = !rs.all fun r => decide (sumN r ≤ k) := by
        rw [List.not_all_eq_any_not]
        congr 1
        funext r
        rw [← decide_not]
        exact decide_eq_decide.mpr (by omega)
      rw [hsum]
      cases h4 : rs.all fun r => decide (sumN r ≤ k) with
      | false =>
        rw [h4, Bool.false_and] at q
        refine brT rfl ?_
        walk_at "v"
        exact q
      | true =>
        rw [h4, Bool.true_and] at q
        refine brF rfl (sw_nx ?_)
        refine sw_seq (sw_new (ew_dcF (e := D.int) gs eF Prod.fst (fun p => ((p.2 : Nat) : Int)) (fun _ => 0) (by have := hgs.len; omega) ?_ (fun p hp => ⟨_, rfl, ew_var (d := nE p.1) rfl rfl, ew_var (d := nE p.2) rfl rfl⟩) ?_))
        · exact iw_seq (ew_bor (d := eRd gs) rfl (x_itT rfl))
        have hk0 : Kv (fls gs) (fun f => ((atF f gs : Nat) : Int)) (-1) [] (foldF Prod.fst (fun p : Pr => ((p.2 : Nat) : Int)) gs ([], fun _ => 0)).1 (foldF Prod.fst (fun p : Pr => ((p.2 : Nat) : Int)) gs ([], fun _ => 0)).2 := by
          have ek := foldF_keys (fk := Prod.fst) (fv := fun p : Pr => ((p.2 : Nat) : Int)) (xs := gs) (s := ([], fun _ => 0)) (by simpa using hnd)
          rw [List.nil_append] at ek
          refine ⟨by rw [ek]; exact hnd, fun f => by rw [ek]; simp [fls], fun f hf => ?_, fun f hf => by rw [atF_none hf]; rfl⟩
          rw [ek] at hf
          obtain ⟨p, hp, rfl⟩ := List.mem_map.mp hf
          rw [foldF_val (by exact hnd) p hp, atF_self hnd hp]
          show _ = _ + -1 * ((atF p.1 [] : Nat) : Int)
          have : atF p.1 [] = 0 := rfl
          rw [this]; simp
        generalize (foldF Prod.fst (fun p : Pr => ((p.2 : Nat) : Int)) gs ([], fun _ => 0)).1 = ks0 at hk0 ⊢
        generalize (foldF Prod.fst (fun p : Pr => ((p.2 : Nat) : Int)) gs ([], fun _ => 0)).2 = g0 at hk0 ⊢
        have h60 : ∀ f ∈ fls gs, f ≤ 60 := fun f hf => by
          obtain ⟨p, hp, rfl⟩ := List.mem_map.mp hf
          exact (hgs.ok p hp).f60
        have hL60 : ∀ L : List Pr, (∀ p ∈ L, POk k p) → ∀ f ∈ fls L, f ≤ 60 := fun L h f hf => by
          obtain ⟨p, hp, rfl⟩ := List.mem_map.mp hf
          exact (h p hp).f60
        refine sw_seq (sw_forP rs eRd (fun pre ρ => ∃ (ks : List Nat) (g : Nat → Int) (x4 x5 x6 x7 : Sl), ρ = [Sl.frz (eRd gs), .frz (nE k), .frz (.tup (rs.map eRd)), .own (dF D.int ks g), x4, x5, x6, x7] ∧ Kv (fls gs) (fun f => ((atF f gs : Nat) : Int)) (-1) pre.flatten ks g) ?_ ⟨ks0, g0, .emp, .emp, .emp, .emp, rfl, hk0⟩ ?_ ?_)
        · exact iw_seq (ew_var (d := .tup (rs.map eRd)) rfl (x_itT rfl))
        · rintro pre r post _ hx ⟨ks, g, x4, x5, x6, x7, rfl, hk⟩
          have hr : r ∈ rs := by rw [hx]; simp
          have hpre : ∀ p ∈ pre.flatten, POk k p := fun p hp => by
            obtain ⟨r', hr', hp'⟩ := List.mem_flatten.mp hp
            exact (h3 r' (by rw [hx]; simp [hr'])).1 p hp'
          refine ⟨_, rfl, ?_⟩
          refine sw_forP r eF (fun pr ρ => ∃ (ks : List Nat) (g : Nat → Int) (x5 x6 x7 : Sl), ρ = [Sl.frz (eRd gs), .frz (nE k), .frz (.tup (rs.map eRd)), .own (dF D.int ks g), .frz (eRd r), x5, x6, x7] ∧ Kv (fls gs) (fun f => ((atF f gs : Nat) : Int)) (-1) (pre.flatten ++ pr) ks g) ?_ ⟨ks, g, x5, x6, x7, rfl, by rw [List.append_nil]; exact hk⟩ ?_ ?_
          · exact iw_seq (ew_var (d := eRd r) rfl (x_itT rfl))
          · rintro pr p post2 _ hx2 ⟨ks, g, x5, x6, x7, rfl, hk⟩
            have hpL : ∀ p' ∈ pre.flatten ++ pr, POk k p' := fun p' hp' => by
              rcases List.mem_append.mp hp' with h | h
              · exact hpre p' h
              · exact (h3 r hr).1 p' (by rw [hx2]; simp [h])
            have hlen := hk.len h60 (hL60 _ hpL)
            refine ⟨_, rfl, ?_⟩
            refine sw_dputF (e := D.int) rfl (by omega) (ew_bin (ew_fn (aw_cons (ew_borO (d := dF D.int ks g) rfl (aw_cons (ew_bor (d := nE p.1) rfl (aw_cons (ew_con (aw_nil (o_getF3 ?_))))))))))
            rw [hk.get p.1]
            refine ew_bor (d := nE p.2) rfl (o_subI ⟨_, rfl, ew_bor (d := nE p.1) rfl ⟨p.1, rfl, ?_⟩⟩)
            refine ⟨_, _, _, _, _, rfl, ?_⟩
            rw [← List.append_assoc]
            exact hk.step p (by omega)
          · rintro _ ⟨ks, g, x5, x6, x7, rfl, hk⟩
            refine ⟨ks, g, _, _, _, _, rfl, ?_⟩
            rw [List.flatten_append]
            simpa using hk
        · rintro _ ⟨ks, g, x4, x5, x6, x7, rfl, hk⟩
          refine sw_seq (sw_fz (d := dF D.int ks g) rfl ?_)
          refine sw_rt (ew_not (ew_fn (aw_cons (ew_lcM' (xs := ks) (enc := fun f => D.int (g f)) (res := fun f => .bl (!decide (g f = 0))) ?_ (fun f hf => ⟨_, rfl, ?_⟩) (aw_nil (o_any ?_))))))
          · exact iw_valsF (ew_var (d := dF D.int ks g) rfl ⟨rfl, rfl⟩)
          · exact ew_bin (ew_bor (d := .int (g f)) rfl (ew_con (o_neI rfl)))
          · have : (!(ks.any fun f => !decide (g f = 0))) = balB gs rs.flatten := by
              rw [List.not_any_eq_all_not]
              unfold balB
              rw [Bool.eq_iff_iff, List.all_eq_true, List.all_eq_true]
              have hm : ∀ f, f ∈ fls (gs ++ rs.flatten) ↔ f ∈ ks := fun f => by
                rw [hk.mem, fls, List.map_append, List.mem_append]
              constructor
              · intro h f hf
                have h1 := h f ((hm f).mp hf)
                have h2 := hk.val f ((hm f).mp hf)
                simp only [Bool.not_not, decide_eq_true_iff] at h1
                exact decide_eq_true (by omega)
              · intro h f hf
                have h1 := of_decide_eq_true (h f ((hm f).mpr hf))
                have h2 := hk.val f hf
                simp only [Bool.not_not, decide_eq_true_iff]
                omega
            exact ⟨_, rfl, by rw [this]; exact q⟩
  | dct _ => cases hp
  | tok _ => cases hp
  | _ => exact fun b => ⟨_, _, b, rfl, _, rfl, q⟩
end
end K78

set_option maxHeartbeats 1000000
/-! k78: the law's rides at any value -/
namespace K78
open Sv
open PySem (Str PyData)
local macro_rules | `(tactic| walk_at "v1") => `(tactic| first | with_reducible (first | refine sw_seq ?_ | refine sw_set ?_ | refine sw_new ?_ | refine sw_asg ?_ | refine sw_rt ?_ | refine sw_ret ?_ | refine sw_ifB ?_ | refine sw_par ?_ | refine sw_nx ?_ | refine sw_exprM ?_ | refine kw_nil ?_ | refine kw_frz ?_ | refine kw_new ?_ | refine ew_con ?_ | refine ew_bin ?_ | refine ew_un ?_ | refine ew_tup ?_ | refine ew_lst ?_ | refine ew_fn ?_ | refine ew_call ?_ | refine ew_callO ?_ | refine ew_not ?_ | refine ew_chain ?_ | refine ew_slice ?_ | refine ow_none ?_ | refine ow_some ?_ | refine tw_bl ?_ | refine tw_of ?_ | refine tw_not ?_ | refine tw_yes ?_ | refine aw_nil ?_ | refine aw_cons ?_ | refine iw_seq ?_ | refine iw_enum ?_ | refine iw_zip ?_ | refine iw_rangeI ?_ | (apply ew_andC) | (apply ew_orC) | (apply tw_andC) | (apply tw_orC) | (apply ew_lcM') | (apply ew_lc') | exact rfl | exact cut_last _ _ | exact mapI _) | ((with_reducible apply ew_var); exact rfl) | ((with_reducible apply ew_bor); exact rfl) | ((with_reducible apply ew_borO); exact rfl) | with_reducible (first | refine o_eqN ?_ | refine o_neN ?_ | refine o_ltN ?_ | refine o_gtN ?_ | refine o_leN ?_ | refine o_geN ?_ | refine o_inN ?_ | refine o_ninN ?_ | refine o_inNL ?_ | refine o_ninNL ?_ | refine o_lenTm ?_ | refine o_lenLm ?_ | refine o_addN ?_ | refine o_addN1 ?_ | refine o_subN (by first | assumption | omega) ?_ | refine o_subN1 (by first | assumption | omega) ?_ | refine o_sumI ?_ | refine o_sumTI ?_ | refine o_ix0 ?_ | refine o_ix1 ?_ | refine o_ix2 ?_ | refine o_ix3 ?_ | refine o_ixT0 ?_ ?_ | refine o_ixL0 ?_ ?_ | refine o_ixT1 ?_ ?_ | refine o_isTupT ?_ | refine o_ixTN ?_ ?_ | refine o_ixTI ?_ ?_ | refine o_ixLN ?_ ?_ | refine o_ixLI ?_ ?_ | refine o_ixTG ?_ ?_ | refine o_ixLG ?_ ?_ | refine o_ixTD0 ?_ ?_ | refine o_ixTD1 ?_ ?_ | refine o_ixTD2 ?_ ?_ | refine o_ixTD ?_ ?_ | refine o_ixLD ?_ ?_) | with_reducible (first | refine o_eqI ?_ | refine o_neI ?_ | refine o_lt ?_ | refine o_gt ?_ | refine o_le ?_ | refine o_ge ?_ | refine o_all ?_ | refine o_any ?_ | refine o_sum ?_ | refine o_addI ?_ | refine o_subI ?_ | refine o_lenT ?_ | refine o_lenL ?_ | refine o_tupL ?_ | refine o_tupT ?_ | refine o_listL ?_ | refine o_listT ?_ | refine o_negI ?_ | refine o_intI ?_ | refine o_slT ?_ | refine o_slL ?_ | refine o_revT ?_ | refine o_revL ?_ | refine x_n ?_ | refine x_int ?_ | refine x_bl ?_ | refine x_tb ?_ | refine x_itT ?_ | refine x_itL ?_ | refine x_rt ?_ | refine rngQ ?_ ?_ | refine x_trT ?_ | refine x_trL ?_ | refine x_tri ?_ | refine o_max2 ?_ | refine o_min2 ?_ | refine o_addTs ?_ ?_ | refine o_addLs ?_ ?_) | (with_reducible refine And.intro ?_ ?_) | refine dec_imp fun _ => ?_ | refine decF_imp fun _ => ?_ | with_reducible (first | refine ndF_imp fun _ => ?_ | refine ndT_imp fun _ => ?_ | refine nF_imp ?_ | refine nT_imp ?_ | refine orF_imp ?_ | refine andT_imp ?_) | refine tr_imp fun _ => ?_ | refine fa_imp fun _ => ?_ | (intro x hx; refine Exists.intro _ (And.intro rfl ?_); try (have hx := List.mem_range.mp hx)) | (refine sd_lt ?_; first | assumption | omega | (simp only [List.length_map, List.length_range, List.length_cons, List.length_nil, List.length_append, List.length_set] at *; omega)) | (refine sd_le ?_; first | assumption | omega | (simp only [List.length_map, List.length_range, List.length_cons, List.length_nil, List.length_append, List.length_set] at *; omega)))
local macro_rules | `(tactic| walk_at "v") => `(tactic| (repeat' (walk_at "v1")))
section
variable {Q : D → Prop}
theorem o_dictP {gs : List Pr} (g0 : Nat → Int) (q : Q (dF D.int (foldF Prod.fst (fun p : Pr => ((p.2 : Nat) : Int)) gs ([], g0)).1 (foldF Prod.fst (fun p : Pr => ((p.2 : Nat) : Int)) gs ([], g0)).2)) : OrW (dictLD [.lst (gs.map eF)]) Q := .of (by
  have h1 := pairsK_map (e := D.int) Prod.fst (fun p : Pr => ((p.2 : Nat) : Int)) gs
  have h2 := upd_rF (e := D.int) Prod.fst (fun p : Pr => ((p.2 : Nat) : Int)) gs ([], g0)
  show (match pairsK (gs.map eF) with | some kvs => some (D.dct (updRows [] kvs)) | none => none) = _
  have h3 : pairsK (gs.map eF) = some (gs.map fun p => (nE p.1, D.int ((p.2 : Nat) : Int))) := h1
  rw [h3]
  show some (D.dct (updRows [] _)) = _
  have h4 : updRows [] (gs.map fun p => (nE p.1, D.int ((p.2 : Nat) : Int))) = rF D.int (foldF Prod.fst (fun p : Pr => ((p.2 : Nat) : Int)) gs ([], g0)).1 (foldF Prod.fst (fun p : Pr => ((p.2 : Nat) : Int)) gs ([], g0)).2 := h2
  rw [h4]) q
theorem bal_eq {gs L : List Pr} {ks ls : List Nat} {g h : Nat → Int} (hg : Ld gs) (hL : ∀ p ∈ L, 1 ≤ p.2) (hk : Kv [] (fun _ => 0) 1 L ks g) (hls : ls = fls gs) (hh : ∀ f ∈ ls, h f = ((atF f gs : Nat) : Int)) : (ks.length == ls.length && ks.all fun f => decide (f ∈ ls ∧ h f = g f)) = balB gs L := by
  subst hls
  have hnd := ld_nodup hg
  have hm : ∀ f, f ∈ ks ↔ f ∈ fls L := fun f => by rw [hk.mem]; simp
  have hv : ∀ f ∈ ks, g f = ((atF f L : Nat) : Int) := fun f hf => by have := hk.val f hf; simpa using this
  rw [Bool.eq_iff_iff, Bool.and_eq_true, beq_iff_eq, List.all_eq_true]
  unfold balB
  rw [List.all_eq_true]
  constructor
  · rintro ⟨h1, h2⟩ f hf
    have hsub : ∀ f ∈ ks, f ∈ fls gs := fun f hf => (of_decide_eq_true (h2 f hf)).1
    have hsup : ∀ f ∈ fls gs, f ∈ ks := fun f hf => Classical.byContradiction fun hc => by
      have := nodup_sub (f :: ks) (fls gs) (List.nodup_cons.mpr ⟨hc, hk.nd⟩) fun x hx => by
        rcases List.mem_cons.mp hx with e | hx
        · rw [e]; exact hf
        · exact hsub x hx
      rw [List.length_cons] at this
      omega
    have hfk : f ∈ ks := by
      rw [fls, List.map_append, List.mem_append] at hf
      exact hf.elim (hsup f) fun z => (hm f).mpr z
    have h3 := (of_decide_eq_true (h2 f hfk)).2
    rw [hh f (hsub f hfk), hv f hfk] at h3
    exact decide_eq_true (by omega)
  · intro h1
    have key : ∀ f ∈ fls (gs ++ L), atF f gs = atF f L := fun f hf => of_decide_eq_true (h1 f hf)
    have hsub : ∀ f ∈ ks, f ∈ fls gs := fun f hf => Classical.byContradiction fun hc => by
      have hfL := (hm f).mp hf
      have h2 := key f (by rw [fls, List.map_append, List.mem_append]; exact .inr hfL)
      rw [atF_none hc] at h2
      have := atF_pos hL hfL
      omega
    have hsup : ∀ f ∈ fls gs, f ∈ ks := fun f hf => (hm f).mpr (Classical.byContradiction fun hc => by
      have h2 := key f (by rw [fls, List.map_append, List.mem_append]; exact .inl hf)
      rw [atF_none hc] at h2
      have := atF_pos hg.pos hf
      omega)
    refine ⟨Nat.le_antisymm (nodup_sub _ _ hk.nd hsub) (nodup_sub _ _ hnd hsup), fun f hf => decide_eq_true ⟨hsub f hf, ?_⟩⟩
    rw [hh f (hsub f hf), hv f hf, key f (by rw [fls, List.map_append, List.mem_append]; exact .inl (hsub f hf))]
theorem w_law_are_rides {gs : List Pr} {k : Nat} {v : D} (hgs : Gr gs) (hv : gd v = true) (q : Q (.bl (ridesB gs k v))) : Fw f_law_are_rides [eRd gs, nE k, v] Q := by
  have hp := gd_plain v hv
  have hnd := ld_nodup hgs.ld
  refine fw_rt ?_
  cases v with
  | tup vs =>
    have gl := gdl hv
    have hg := (gd_tup.mp hv).2
    have e1 : ridesB gs k (.tup vs) = (vs.all (rideB k) && balB gs (vs.map toL).flatten) := rfl
    rw [e1] at q
    refine sw_seq (sw_ifB (tw_orF (tw_not (tw_of (ew_un (ew_bor rfl (o_isTupT (x_tb ⟨rfl, ?_⟩))))))))
    refine tw_not (tw_of (ew_fn (aw_cons (ew_lcM' (xs := vs) (enc := id) (res := fun d => .bl (rideB k d)) (iw_seq (ew_bor rfl (x_itT (by rw [List.map_id])))) (fun d hd => ⟨_, rfl, ?_⟩) (aw_nil (o_all (x_tb ?_)))))))
    · have hcall : ∀ Q : D → Prop, Q (.bl (loadB k d)) → Ew (eCall f_law_is_load (aCons (eVar 4) (aCons (eVar 1) (aNil)))) [Sl.frz (eRd gs), .frz (nE k), .frz (.tup vs), .emp, .frz d, .emp, .emp] Q := fun Q q => ew_call (aw_cons (ew_var (d := d) rfl (aw_cons (ew_var (d := nE k) rfl (aw_nil (w_law_is_load (hg d hd) q))))))
      show Ew _ [Sl.frz (eRd gs), .frz (nE k), .frz (.tup vs), .emp, .frz d, .emp, .emp] _
      unfold rideB
      cases hl : loadB k d with
      | false => exact ew_andF (hcall _ (by rw [hl])) rfl
      | true =>
        refine ew_andT (hcall _ ⟨by rw [hl], ?_⟩)
        obtain ⟨ps, rfl, _⟩ := load_of hl
        rw [toL_eRd, Bool.true_and]
        refine ew_andC (y := decide (sumN ps ≤ k)) (ew_bin (ew_fn (aw_cons (ew_bor (d := eRd ps) rfl (aw_nil (o_lenTm (ew_con (o_gtN (y := 0) ⟨_, rfl, fun _ => ?_, ?_⟩))))))))
        · refine ew_bin (w_sumN (r := ps) (j2 := 0) rfl (fun p => ⟨_, rfl, rfl⟩) (ew_bor (d := nE k) rfl (o_le ?_)))
          congr 1
          exact decide_eq_decide.mpr (by omega)
        · congr 2
          cases ps <;> simp
    cases h1 : vs.all (rideB k) with
    | false =>
      rw [h1, Bool.false_and] at q
      refine brT rfl ?_
      walk_at "v"
      exact q
    | true =>
      rw [h1, Bool.true_and] at q
      refine brF rfl (sw_nx ?_)
      have hload : vs.all (loadB k) = true := List.all_eq_true.mpr fun d hd => by
        have := List.all_eq_true.mp h1 d hd
        unfold rideB at this
        rw [Bool.and_eq_true] at this
        exact this.1
      obtain ⟨h2, h3⟩ := loads_of hload
      generalize vs.map toL = rs at h2 h3 q
      subst h2
      clear h1 hload e1 hg hp hv
      rw [List.length_map] at gl
      have hL60 : ∀ L : List Pr, (∀ p ∈ L, POk k p) → ∀ f ∈ fls L, f ≤ 60 := fun L h f hf => by
        obtain ⟨p, hp, rfl⟩ := List.mem_map.mp hf
        exact (h p hp).f60
      refine sw_seq (sw_new (ew_dF0 (e := D.int) (fun _ => 0) ?_))
      refine sw_seq (sw_forP rs eRd (fun pre ρ => ∃ (ks : List Nat) (g : Nat → Int) (x4 x5 x6 : Sl), ρ = [Sl.frz (eRd gs), .frz (nE k), .frz (.tup (rs.map eRd)), .own (dF D.int ks g), x4, x5, x6] ∧ Kv [] (fun _ => 0) 1 pre.flatten ks g) ?_ ⟨[], fun _ => 0, .emp, .emp, .emp, rfl, ⟨by simp, by simp [fls], by simp, fun _ _ => rfl⟩⟩ ?_ ?_)
      · exact iw_seq (ew_var (d := .tup (rs.map eRd)) rfl (x_itT rfl))
      · rintro pre r post _ hx ⟨ks, g, x4, x5, x6, rfl, hk⟩
        have hr : r ∈ rs := by rw [hx]; simp
        have hpre : ∀ p ∈ pre.flatten, POk k p := fun p hp => by
          obtain ⟨r', hr', hp'⟩ := List.mem_flatten.mp hp
          exact (h3 r' (by rw [hx]; simp [hr'])).1 p hp'
        refine ⟨_, rfl, ?_⟩
        refine sw_forP r eF (fun pr ρ => ∃ (ks : List Nat) (g : Nat → Int) (x5 x6 : Sl), ρ = [Sl.frz (eRd gs), .frz (nE k), .frz (.tup (rs.map eRd)), .own (dF D.int ks g), .frz (eRd r), x5, x6] ∧ Kv [] (fun _ => 0) 1 (pre.flatten ++ pr) ks g) ?_ ⟨ks, g, x5, x6, rfl, by rw [List.append_nil]; exact hk⟩ ?_ ?_
        · exact iw_seq (ew_var (d := eRd r) rfl (x_itT rfl))
        · rintro pr p post2 _ hx2 ⟨ks, g, x5, x6, rfl, hk⟩
          have hpL : ∀ p' ∈ pre.flatten ++ pr, POk k p' := fun p' hp' => by
            rcases List.mem_append.mp hp' with h | h
            · exact hpre p' h
            · exact (h3 r hr).1 p' (by rw [hx2]; simp [h])
          have hlen := hk.len (fun f h => by cases h) (hL60 _ hpL)
          refine ⟨_, rfl, ?_⟩
          refine sw_dputF (e := D.int) rfl (by omega) (ew_bin (ew_fn (aw_cons (ew_borO (d := dF D.int ks g) rfl (aw_cons (ew_bor (d := nE p.1) rfl (aw_cons (ew_con (aw_nil (o_getF3 ?_))))))))))
          rw [hk.get p.1]
          refine ew_bor (d := nE p.2) rfl (o_addI ⟨_, rfl, ew_bor (d := nE p.1) rfl ⟨p.1, rfl, ?_⟩⟩)
          refine ⟨_, _, _, _, rfl, ?_⟩
          rw [← List.append_assoc]
          exact hk.step p (by omega)
        · rintro _ ⟨ks, g, x5, x6, rfl, hk⟩
          refine ⟨ks, g, _, _, _, rfl, ?_⟩
          rw [List.flatten_append]
          simpa using hk
      · rintro _ ⟨ks, g, x4, x5, x6, rfl, hk⟩
        refine sw_rt (ew_bin (ew_borO (d := dF D.int ks g) rfl (ew_fn (aw_cons (ew_fn (aw_cons (ew_bor (d := eRd gs) rfl (aw_nil (o_listT (aw_nil (o_dictP (fun _ => 0) (o_eqDF ?_))))))))))))
        have ek := foldF_keys (fk := Prod.fst) (fv := fun p : Pr => ((p.2 : Nat) : Int)) (xs := gs) (s := ([], fun _ => 0)) (by simpa using hnd)
        rw [List.nil_append] at ek
        rw [bal_eq (gs := gs) (L := rs.flatten) hgs.ld (fun p hp => by
          obtain ⟨r', hr', hp'⟩ := List.mem_flatten.mp hp
          exact ((h3 r' hr').1 p hp').n1) hk ek fun f hf => by
            rw [ek] at hf
            obtain ⟨p, hp, rfl⟩ := List.mem_map.mp hf
            rw [foldF_val (by exact hnd) p hp, atF_self hnd hp]]
        exact q
  | dct _ => cases hp
  | tok _ => cases hp
  | _ => exact fun b => ⟨_, _, b, rfl, _, rfl, q⟩
end
end K78

set_option maxHeartbeats 1000000
/-! k78: times, the bound by floors, the told rides, walked -/
namespace K78
open Sv
open PySem (Str PyData)
local macro_rules | `(tactic| walk_at "v1") => `(tactic| first | with_reducible (first | refine sw_seq ?_ | refine sw_set ?_ | refine sw_new ?_ | refine sw_asg ?_ | refine sw_rt ?_ | refine sw_ret ?_ | refine sw_ifB ?_ | refine sw_par ?_ | refine sw_nx ?_ | refine sw_exprM ?_ | refine kw_nil ?_ | refine kw_frz ?_ | refine kw_new ?_ | refine ew_con ?_ | refine ew_bin ?_ | refine ew_un ?_ | refine ew_tup ?_ | refine ew_lst ?_ | refine ew_fn ?_ | refine ew_call ?_ | refine ew_callO ?_ | refine ew_not ?_ | refine ew_chain ?_ | refine ew_slice ?_ | refine ow_none ?_ | refine ow_some ?_ | refine tw_bl ?_ | refine tw_of ?_ | refine tw_not ?_ | refine tw_yes ?_ | refine aw_nil ?_ | refine aw_cons ?_ | refine iw_seq ?_ | refine iw_enum ?_ | refine iw_zip ?_ | refine iw_rangeI ?_ | (apply ew_andC) | (apply ew_orC) | (apply tw_andC) | (apply tw_orC) | (apply ew_lcM') | (apply ew_lc') | exact rfl | exact cut_last _ _ | exact mapI _) | ((with_reducible apply ew_var); exact rfl) | ((with_reducible apply ew_bor); exact rfl) | ((with_reducible apply ew_borO); exact rfl) | with_reducible (first | refine o_eqN ?_ | refine o_neN ?_ | refine o_ltN ?_ | refine o_gtN ?_ | refine o_leN ?_ | refine o_geN ?_ | refine o_inN ?_ | refine o_ninN ?_ | refine o_inNL ?_ | refine o_ninNL ?_ | refine o_lenTm ?_ | refine o_lenLm ?_ | refine o_addN ?_ | refine o_addN1 ?_ | refine o_subN (by first | assumption | omega) ?_ | refine o_subN1 (by first | assumption | omega) ?_ | refine o_sumI ?_ | refine o_sumTI ?_ | refine o_ix0 ?_ | refine o_ix1 ?_ | refine o_ix2 ?_ | refine o_ix3 ?_ | refine o_ixT0 ?_ ?_ | refine o_ixL0 ?_ ?_ | refine o_ixT1 ?_ ?_ | refine o_isTupT ?_ | refine o_ixTN ?_ ?_ | refine o_ixTI ?_ ?_ | refine o_ixLN ?_ ?_ | refine o_ixLI ?_ ?_ | refine o_ixTG ?_ ?_ | refine o_ixLG ?_ ?_ | refine o_ixTD0 ?_ ?_ | refine o_ixTD1 ?_ ?_ | refine o_ixTD2 ?_ ?_ | refine o_ixTD ?_ ?_ | refine o_ixLD ?_ ?_) | with_reducible (first | refine o_eqI ?_ | refine o_neI ?_ | refine o_lt ?_ | refine o_gt ?_ | refine o_le ?_ | refine o_ge ?_ | refine o_all ?_ | refine o_any ?_ | refine o_sum ?_ | refine o_addI ?_ | refine o_subI ?_ | refine o_lenT ?_ | refine o_lenL ?_ | refine o_tupL ?_ | refine o_tupT ?_ | refine o_listL ?_ | refine o_listT ?_ | refine o_negI ?_ | refine o_intI ?_ | refine o_slT ?_ | refine o_slL ?_ | refine o_revT ?_ | refine o_revL ?_ | refine x_n ?_ | refine x_int ?_ | refine x_bl ?_ | refine x_tb ?_ | refine x_itT ?_ | refine x_itL ?_ | refine x_rt ?_ | refine rngQ ?_ ?_ | refine x_trT ?_ | refine x_trL ?_ | refine x_tri ?_ | refine o_max2 ?_ | refine o_min2 ?_ | refine o_addTs ?_ ?_ | refine o_addLs ?_ ?_) | (with_reducible refine And.intro ?_ ?_) | refine dec_imp fun _ => ?_ | refine decF_imp fun _ => ?_ | with_reducible (first | refine ndF_imp fun _ => ?_ | refine ndT_imp fun _ => ?_ | refine nF_imp ?_ | refine nT_imp ?_ | refine orF_imp ?_ | refine andT_imp ?_) | refine tr_imp fun _ => ?_ | refine fa_imp fun _ => ?_ | (intro x hx; refine Exists.intro _ (And.intro rfl ?_); try (have hx := List.mem_range.mp hx)) | (refine sd_lt ?_; first | assumption | omega | (simp only [List.length_map, List.length_range, List.length_cons, List.length_nil, List.length_append, List.length_set] at *; omega)) | (refine sd_le ?_; first | assumption | omega | (simp only [List.length_map, List.length_range, List.length_cons, List.length_nil, List.length_append, List.length_set] at *; omega)))
local macro_rules | `(tactic| walk_at "v") => `(tactic| (repeat' (walk_at "v1")))
def lastF (r : List Pr) : Nat := (r.getLast?.map Prod.fst).getD 0
def timeN (rs : List (List Pr)) : Nat := (rs.map fun r => 2 * lastF r).sum
section
variable {Q : D → Prop}
theorem o_lastT {α : Type} {e : α → D} {xs : List α} {x : α} (h : xs.getLast? = some x) (q : Q (e x)) : OrW (ixD (.tup (xs.map e)) (.int (-1))) Q := by
  have hn : xs ≠ [] := fun z => by rw [z] at h; cases h
  have hl : 1 ≤ xs.length := List.length_pos_iff.mpr hn
  rw [List.getLast?_eq_getElem?] at h
  refine .of (r := e x) ?_ q
  have hi : L2.ixN (xs.map e).length (-1) = some (xs.length - 1) := by
    unfold L2.ixN
    rw [List.length_map, if_neg (by omega), if_pos (by omega)]
    congr 1
    omega
  rw [ixD, L2.atI, hi]
  simp [h]
theorem sum2_cast (rs : List (List Pr)) : (rs.map fun r => ((2 * lastF r : Nat) : Int)).sum = ((timeN rs : Nat) : Int) := by
  unfold timeN
  induction rs with
  | nil => rfl
  | cons r rs ih => rw [List.map_cons, List.sum_cons, ih, List.map_cons, List.sum_cons]; simp
theorem mul_ok2 {x : Int} : mulOk 2 x = true := by unfold mulOk; simp
theorem w_time {rs : List (List Pr)} {v : D} (hv : itemsD v = some (rs.map eRd)) (hne : ∀ r ∈ rs, r ≠ []) (q : Q (nE (timeN rs))) : Fw f_time_of_rides [v] Q := by
  refine fw_rt (sw_rt (ew_fn (aw_cons ?_)))
  refine ew_lcM' (xs := rs) (enc := eRd) (res := fun r => .int ((2 * lastF r : Nat) : Int)) (iw_seq (ew_bor (d := v) rfl ⟨_, hv, rfl⟩)) (fun r hr => ⟨_, rfl, ?_⟩) (aw_nil (o_sum (p := fun r => ((2 * lastF r : Nat) : Int)) ?_))
  · have hn := hne r hr
    obtain ⟨p, hp⟩ : ∃ p, r.getLast? = some p := ⟨r.getLast hn, List.getLast?_eq_some_getLast hn⟩
    refine ew_bin (ew_con (ew_bin (ew_bin (ew_bor (d := eRd r) rfl (ew_un (ew_con (o_negI (o_lastT hp (ew_con (o_ix0 (o_mulI mul_ok2 ?_)))))))))))
    have : lastF r = p.1 := by unfold lastF; rw [hp]; rfl
    rw [this]
    congr 1
  · rw [sum2_cast]; exact q
theorem abv_ex (h : Nat) : ∀ gs : List Pr, abv h (ex gs) = sumN (gs.filter fun p => decide (h ≤ p.1))
  | [] => rfl
  | p :: gs => by
    rw [show p :: gs = [p] ++ gs from rfl, ex_app, abv_app, abv_ex h gs, ex_one, List.filter_append]
    have : abv h (List.replicate p.2 p.1) = sumN ([p].filter fun p => decide (h ≤ p.1)) := by
      by_cases hp : h ≤ p.1
      · rw [abv_all fun x hx => by rw [List.mem_replicate] at hx; omega, List.length_replicate]
        simp [hp, sumN]
      · rw [abv_none fun x hx => by rw [List.mem_replicate] at hx; omega]
        simp [hp, sumN]
    rw [this]
    unfold sumN
    rw [List.map_append, List.sum_append]
theorem o_fdivN {x y : Nat} (h1 : 1 ≤ y) (h2 : y < 2 ^ 30) (q : Q (nE (x / y))) : OrW (opFdiv (nE x) (nE y)) Q := .of (by
  show (if ((y : Nat) : Int) ≠ 0 ∧ ((y : Nat) : Int).natAbs < 2 ^ 30 then some (D.int (Int.fdiv x y)) else none) = _
  rw [if_pos ⟨by omega, by omega⟩]
  show some (D.int _) = some (D.int _)
  rw [Int.fdiv_eq_ediv_of_nonneg _ (by omega), ← Int.natCast_ediv]) q
theorem w_floor_bound {gs : List Pr} {k : Nat} (hk : 1 ≤ k) (hk2 : k ≤ 1000) (q : Q (nE (due 60 k (ex gs)))) : Fw f_floor_bound [eRd gs, nE k] Q := by
  refine fw_rt ?_
  refine sw_seq (sw_set (ew_con ?_))
  refine sw_seq (sw_forR 60 (fun i => .int ((1 + i : Nat) : Int)) (fun i ρ => ∃ x3 x4 x5 x6 : Sl, ρ = [Sl.frz (eRd gs), .frz (nE k), .frz (.int ((sumF i (fun h => 2 * cdiv (abv h (ex gs)) k) : Nat) : Int)), x3, x4, x5, x6]) ?_ ⟨.emp, .emp, .emp, .emp, rfl⟩ ?_ ?_)
  · exact iw_range2 (aw_cons (ew_con (aw_cons (ew_bin (ew_con (ew_con (o_addI (aw_nil ⟨_, _, _, rfl, rangeD_two (a := 1) (b := 61) (by omega) (by omega), rfl⟩))))))))
  · rintro i hi _ ⟨x3, x4, x5, x6, rfl⟩
    refine ⟨_, rfl, ?_⟩
    refine sw_seq (sw_set (ew_fn (aw_cons (ew_lc (xs := gs) (enc := eF) (p := fun p => decide (1 + i ≤ p.1)) (res := fun p => .int ((p.2 : Nat) : Int)) ?_ (fun p hp => ⟨_, rfl, ?_⟩) (aw_nil (o_sum (p := fun p : Pr => ((p.2 : Nat) : Int)) ?_))))))
    · exact iw_seq (ew_bor (d := eRd gs) rfl (x_itT rfl))
    · refine tw_bl (ew_bin (ew_bor (d := nE p.1) rfl (ew_bor (d := nE (1 + i)) rfl (o_geN ⟨_, rfl, rfl, fun _ => ?_⟩))))
      exact ew_var (d := nE p.2) rfl rfl
    · rw [sum_cast, ← abv_ex]
      have e1 : ((sumF (i + 1) (fun h => 2 * cdiv (abv h (ex gs)) k) : Nat) : Int) = ((sumF i (fun h => 2 * cdiv (abv h (ex gs)) k) : Nat) : Int) + 2 * ((cdiv (abv (1 + i) (ex gs)) k : Nat) : Int) := by
        rw [sumF_succ, Nat.add_comm 1 i]; omega
      refine sw_augI (x := ((sumF i (fun h => 2 * cdiv (abv h (ex gs)) k) : Nat) : Int)) rfl (ew_bin (ew_con (ew_bin (ew_bin (ew_bin (ew_bor (d := nE (abv (1 + i) (ex gs))) rfl (ew_bor (d := nE k) rfl (o_addN (ew_con (o_subN1 (by omega) (ew_bor (d := nE k) rfl (o_fdivN hk (by omega) (o_mulI mul_ok2 ⟨_, rfl, ?_⟩)))))))))))))
      exact ⟨_, _, _, _, by rw [e1]; rfl⟩
  · rintro _ ⟨x3, x4, x5, x6, rfl⟩
    exact sw_rt (ew_var (d := nE (due 60 k (ex gs))) rfl q)
theorem ex_len (gs : List Pr) : (ex gs).length = sumN gs := by
  have := abv_ex 0 gs
  rw [abv_all fun x _ => Nat.zero_le x] at this
  rw [this]
  congr 1
  exact List.filter_eq_self.mpr fun p _ => by simp
theorem sumN_app (a b : List Pr) : sumN (a ++ b) = sumN a + sumN b := by unfold sumN; rw [List.map_append, List.sum_append]
theorem o_minN2 {x y : Nat} (q : Q (nE (min x y))) : OrW (min2D [nE x, nE y]) Q := o_min2 (by rw [show min (x : Int) (y : Int) = ((min x y : Nat) : Int) by omega]; exact q)
theorem w_least {gs : List Pr} {k : Nat} (hk : 1 ≤ k) (hgs : Ld gs) (hN : sumN gs ≤ 90000) (q : Told k gs (greedy k gs) → Q (.tup [nE (timeN (greedy k gs)), .tup ((greedy k gs).map eRd)])) : Fw f_least_rides [eRd gs, nE k] Q := by
  have told := greedy_told hk hgs.asc
  have q := q told
  refine fw_rt ?_
  refine sw_seq (sw_par (kw_new (ew_lst (aw_nil (kw_new (ew_lst (aw_nil (kw_frz (ew_var (d := nE k) rfl (kw_nil ?_))))))))))
  have hsr : sumN gs.reverse = sumN gs := by unfold sumN; rw [List.map_reverse, List.sum_reverse]
  refine sw_seq (sw_forP gs.reverse eF (fun pre ρ => ∃ (g : Gs) (x5 x6 x7 : Sl), ρ = [Sl.frz (eRd gs), .frz (nE k), .own (.lst (g.R.map eRd)), .own (.lst (g.cur.map eF)), .frz (nE g.room), x5, x6, x7] ∧ foldG k pre ⟨[], [], k⟩ = g ∧ 1 ≤ g.room ∧ g.R.length + g.cur.length ≤ sumN pre) ?_ ⟨⟨[], [], k⟩, .emp, .emp, .emp, rfl, rfl, hk, Nat.zero_le _⟩ ?_ ?_)
  · refine iw_seq (ew_un (ew_bor (d := eRd gs) rfl (o_revT (x_itT ?_))))
    rw [List.map_reverse]
  · rintro pre p post _ hx ⟨g, x5, x6, x7, rfl, hg, hroom, hlen⟩
    have htot : sumN pre + p.2 ≤ 90000 := by
      have := congrArg sumN hx
      rw [hsr, sumN_app, show p :: post = [p] ++ post from rfl, sumN_app] at this
      have h1 : sumN [p] = p.2 := by simp [sumN]
      omega
    refine ⟨_, rfl, ?_⟩
    refine sw_wh p.2 (fun m ρ => ∃ (n : Nat) (g2 : Gs) (fuel : Nat) (x7 : Sl), ρ = [Sl.frz (eRd gs), .frz (nE k), .own (.lst (g2.R.map eRd)), .own (.lst (g2.cur.map eF)), .frz (nE g2.room), .frz (nE p.1), .frz (nE n), x7] ∧ n < fuel ∧ putG k fuel (p.1, n) g2 = putG k (p.2 + 1) p g ∧ 1 ≤ g2.room ∧ g2.R.length + g2.cur.length + n ≤ sumN pre + p.2 ∧ m = n) (by omega) ⟨p.2, g, p.2 + 1, x7, rfl, by omega, rfl, hroom, by omega, rfl⟩ ?_
    rintro m _ ⟨n, g2, fuel, x7, rfl, hf, hput, hroom2, hlen2, hm⟩
    refine tw_bl (ew_bin (ew_bor (d := nE n) rfl (ew_con (o_gtN (y := 0) ⟨_, rfl, fun hw => ?_, fun hw => ?_⟩))))
    · have hn : n = 0 := by have := of_decide_eq_false hw; omega
      subst hn
      rw [putG_zero] at hput
      refine ⟨g2, _, _, _, rfl, ?_, hroom2, ?_⟩
      · rw [hput, ← hg]
        show List.foldl _ _ _ = _
        rw [List.foldl_append]; rfl
      · rw [sumN_app]
        have h1 : sumN [p] = p.2 := by simp [sumN]
        omega
    · have hn := of_decide_eq_true hw
      cases fuel with
      | zero => omega
      | succ fuel =>
        rw [putG, if_pos (by exact hn)] at hput
        have hput : putG k fuel (p.1, n - min n g2.room) (if g2.room - min n g2.room = 0 then ⟨g2.R ++ [(g2.cur ++ [(p.1, min n g2.room)]).reverse], [], k⟩ else ⟨g2.R, g2.cur ++ [(p.1, min n g2.room)], g2.room - min n g2.room⟩) = _ := hput
        refine sw_seq (sw_set (ew_fn (aw_cons (ew_bor (d := nE n) rfl (aw_cons (ew_bor (d := nE g2.room) rfl (aw_nil (o_minN2 ?_))))))))
        obtain ⟨s, hs⟩ : ∃ s, s = min n g2.room := ⟨_, rfl⟩
        rw [← hs] at hput ⊢
        refine sw_seq (sw_exprM (mw_app (e := eF) (xs := g2.cur) rfl (by omega) (ew_tup (aw_cons (ew_var (d := nE p.1) rfl (aw_cons (ew_var (d := nE s) rfl (aw_nil ⟨(p.1, s), rfl, ?_⟩))))))))
        refine sw_seq (sw_par (kw_frz (ew_bin (ew_bor (d := nE n) rfl (ew_bor (d := nE s) rfl (o_subN (by omega) (kw_frz (ew_bin (ew_bor (d := nE g2.room) rfl (ew_bor (d := nE s) rfl (o_subN (by omega) (kw_nil ?_))))))))))))
        refine sw_ifB (tw_bl (ew_bin (ew_bor (d := nE (g2.room - s)) rfl (ew_con (o_eqN (y := 0) ⟨_, rfl, brD (fun h0 => ?_) fun h0 => ?_⟩)))))
        · rw [if_pos h0] at hput
          refine sw_seq (sw_exprM (mw_app (e := eRd) (xs := g2.R) rfl (by omega) (ew_fn (aw_cons (ew_un (ew_borO (d := .lst ((g2.cur ++ [(p.1, s)]).map eF)) rfl (o_revL (aw_nil (o_tupL ⟨(g2.cur ++ [(p.1, s)]).reverse, by rw [eRd, List.map_reverse], ?_⟩)))))))))
          refine sw_par (kw_new (ew_lst (aw_nil (kw_frz (ew_var (d := nE k) rfl (kw_nil ?_))))))
          refine ⟨n - s, by omega, n - s, ⟨g2.R ++ [(g2.cur ++ [(p.1, s)]).reverse], [], k⟩, fuel, _, rfl, by omega, hput, hk, ?_, rfl⟩
          show (g2.R ++ [(g2.cur ++ [(p.1, s)]).reverse]).length + 0 + (n - s) ≤ _
          rw [List.length_append, List.length_singleton]; omega
        · rw [if_neg h0] at hput
          refine sw_nx ⟨n - s, by omega, n - s, ⟨g2.R, g2.cur ++ [(p.1, s)], g2.room - s⟩, fuel, _, rfl, by omega, hput, by show 1 ≤ g2.room - s; omega, ?_, rfl⟩
          show g2.R.length + (g2.cur ++ [(p.1, s)]).length + (n - s) ≤ _
          rw [List.length_append, List.length_singleton]; omega
  · rintro _ ⟨g, x5, x6, x7, rfl, hg, hroom, hlen⟩
    have he : greedy k gs = endG g := by unfold greedy; rw [← hg]
    rw [hsr] at hlen
    have hfin : ∀ x5 x6 x7 : Sl, Sw (sSeq (sFz 2) (sRet (eTup (aCons (eCall f_time_of_rides (aCons (eVar 2) (aNil))) (aCons (eFn tupleD (aCons (eBor 2) aNil)) (aNil)))))) [Sl.frz (eRd gs), .frz (nE k), .own (.lst ((greedy k gs).map eRd)), .own (.lst (g.cur.map eF)), .frz (nE g.room), x5, x6, x7] (RtQ Q) := fun x5 x6 x7 => by
      refine sw_seq (sw_fz (d := .lst ((greedy k gs).map eRd)) rfl ?_)
      refine sw_rt (ew_tup (aw_cons (ew_call (aw_cons (ew_var (d := .lst ((greedy k gs).map eRd)) rfl (aw_nil (w_time rfl told.ne ?_)))))))
      exact aw_cons (ew_fn (aw_cons (ew_bor (d := .lst ((greedy k gs).map eRd)) rfl (aw_nil (o_tupL (aw_nil q))))))
    refine sw_seq (sw_ifB (tw_of (ew_borO (d := .lst (g.cur.map eF)) rfl (x_trL ?_))))
    cases hc : g.cur with
    | nil =>
      refine brF rfl (sw_nx ?_)
      have : greedy k gs = g.R := by rw [he, endG, if_pos hc]
      have := hfin x5 x6 x7
      rw [hc] at this
      rw [‹greedy k gs = g.R›] at this
      exact this
    | cons a b =>
      refine brT rfl ?_
      have hge : greedy k gs = g.R ++ [g.cur.reverse] := by rw [he, endG, if_neg (by rw [hc]; simp)]
      refine sw_exprM (mw_app (e := eRd) (xs := g.R) rfl (by omega) (ew_fn (aw_cons (ew_un (ew_borO (d := .lst ((a :: b).map eF)) rfl (o_revL (aw_nil (o_tupL ⟨(a :: b).reverse, by rw [eRd, List.map_reverse], ?_⟩))))))))
      have := hfin x5 x6 x7
      rw [hge, hc] at this
      exact this
end
end K78

set_option maxHeartbeats 1000000
/-! k78: all ways to share people out, plain -/
namespace K78
open Sv
abbrev Row := List (List Nat)
abbrev ltT := ltL ltN
abbrev ltW := ltL ltT
theorem lin_T : Lin ltT := lin_N.lst
theorem lin_W : Lin ltW := lin_T.lst
structure Pt (k : Nat) (xs : List Nat) (B : Row) : Prop where
  perm : B.flatten.Perm xs
  ne : ∀ b ∈ B, b ≠ []
  le : ∀ b ∈ B, b.length ≤ k
abbrev srtT (B : Row) : Row := srt ltT B
theorem srt_eq {A B : Row} (p : A.Perm B) : srtT A = srtT B := sorted_eq lin_T (srt_le lin_T A) (srt_le lin_T B) (((srt_perm A).trans p).trans (srt_perm B).symm)
theorem Pt.of_perm {k : Nat} {xs : List Nat} {A B : Row} (h : Pt k xs A) (p : B.Perm A) : Pt k xs B := ⟨(p.flatten).trans h.perm, fun b hb => h.ne b (p.mem_iff.mp hb), fun b hb => h.le b (p.mem_iff.mp hb)⟩
theorem Pt.srt {k : Nat} {xs : List Nat} {A : Row} (h : Pt k xs A) : Pt k xs (srtT A) := h.of_perm (srt_perm A)
theorem Pt.alone {k : Nat} (hk : 1 ≤ k) {xs : List Nat} {A : Row} (h : Pt k xs A) (f : Nat) : Pt k (xs ++ [f]) (A ++ [[f]]) := ⟨by
    rw [List.flatten_append]
    simpa using h.perm.append_right [f], fun b hb => by
    rcases List.mem_append.mp hb with hb | hb
    · exact h.ne b hb
    · rw [List.mem_singleton] at hb; rw [hb]; simp, fun b hb => by
    rcases List.mem_append.mp hb with hb | hb
    · exact h.le b hb
    · rw [List.mem_singleton] at hb; rw [hb]; exact hk⟩
theorem set_perm {α : Type} {xs : List α} {j : Nat} (hj : j < xs.length) (y : α) : (xs.set j y).Perm (y :: (xs.take j ++ xs.drop (j + 1))) := by
  rw [List.set_eq_take_append_cons_drop, if_pos hj]
  exact List.perm_middle
theorem self_perm {α : Type} {xs : List α} {j : Nat} (hj : j < xs.length) : xs.Perm (xs[j] :: (xs.take j ++ xs.drop (j + 1))) := by
  conv => lhs; rw [← List.take_append_drop j xs, List.drop_eq_getElem_cons hj]
  exact List.perm_middle
theorem Pt.with {k : Nat} {xs : List Nat} {A : Row} (h : Pt k xs A) (f : Nat) {j : Nat} (hj : j < A.length) (hl : A[j].length < k) : Pt k (xs ++ [f]) (A.set j (A[j] ++ [f])) := by
  have p1 := set_perm hj (A[j] ++ [f])
  have p2 := self_perm hj
  refine Pt.of_perm ⟨?_, fun b hb => ?_, fun b hb => ?_⟩ p1
  · rw [List.flatten_cons]
    have h1 := p2.flatten
    rw [List.flatten_cons] at h1
    refine List.Perm.trans ?_ ((h1.symm.trans h.perm).append_right [f])
    rw [List.append_assoc, List.append_assoc]
    exact (List.perm_append_comm).append_left _
  · rcases List.mem_cons.mp hb with e | hb
    · rw [e]; simp
    · exact h.ne b (p2.mem_iff.mpr (List.mem_cons_of_mem _ hb))
  · rcases List.mem_cons.mp hb with e | hb
    · rw [e, List.length_append, List.length_singleton]; omega
    · exact h.le b (p2.mem_iff.mpr (List.mem_cons_of_mem _ hb))
/-- what is made of a row by one more person -/
def Nxt (k f : Nat) (A : Row) (C : Row) : Prop := C = srtT (A ++ [[f]]) ∨ ∃ j, ∃ hj : j < A.length, A[j].length < k ∧ C = srtT (A.set j (A[j] ++ [f]))
def Asn (b : List Nat) : Prop := b.Pairwise (· ≤ ·)
structure Rows (k : Nat) (xs : List Nat) (rows : List Row) : Prop where
  len : rows.length ≤ 7 ^ xs.length
  sound : ∀ A ∈ rows, Pt k xs A
  all : ∀ B, Pt k xs B → (∀ b ∈ B, Asn b) → srtT B ∈ rows
theorem last_max {b : List Nat} {f : Nat} (ha : Asn b) (hf : f ∈ b) (hm : ∀ x ∈ b, x ≤ f) : ∃ c, b = c ++ [f] := by
  have hne : b ≠ [] := fun e => by rw [e] at hf; cases hf
  have hs := List.dropLast_concat_getLast hne
  refine ⟨b.dropLast, ?_⟩
  have h1 : b.getLast hne = f := by
    have h2 := hm _ (List.getLast_mem hne)
    rw [← hs] at hf ha
    rcases List.mem_append.mp hf with h | h
    · have := (List.pairwise_append.mp ha).2.2 f h (b.getLast hne) (by simp)
      omega
    · rw [List.mem_singleton] at h; exact h.symm
  rw [← h1]; exact hs.symm
theorem Pt.nil {k : Nat} {B : Row} (h : Pt k [] B) : B = [] := by
  cases B with
  | nil => rfl
  | cons b B =>
    have h1 := h.perm.length_eq
    have h2 : b ≠ [] := h.ne b (by simp)
    rw [List.flatten_cons, List.length_append] at h1
    have : b.length = 0 := by rw [List.length_nil] at h1; omega
    exact absurd (List.length_eq_zero_iff.mp this) h2
theorem Rows.start (k : Nat) : Rows k [] [[]] := ⟨by simp, fun A hA => by
  rw [List.mem_singleton] at hA
  subst hA
  exact ⟨by simp, by simp, by simp⟩, fun B hB _ => by
  rw [hB.nil]; simp [srt]⟩
/-- all ways with one more come up -/
theorem Rows.next {k f : Nat} {xs : List Nat} {rows : List Row} (h : Rows k xs rows) (hf : ∀ x ∈ xs, x ≤ f) {B : Row} (hB : Pt k (xs ++ [f]) B) (ha : ∀ b ∈ B, Asn b) : ∃ A ∈ rows, Nxt k f A (srtT B) := by
  have hfB : f ∈ B.flatten := hB.perm.mem_iff.mpr (by simp)
  obtain ⟨b, hb, hfb⟩ := List.mem_flatten.mp hfB
  have hmx : ∀ x ∈ b, x ≤ f := fun x hx => by
    have : x ∈ xs ++ [f] := hB.perm.mem_iff.mp (List.mem_flatten.mpr ⟨b, hb, hx⟩)
    rcases List.mem_append.mp this with h1 | h1
    · exact hf x h1
    · rw [List.mem_singleton] at h1; omega
  obtain ⟨c, rfl⟩ := last_max (ha b hb) hfb hmx
  obtain ⟨B1, B2, rfl⟩ := List.append_of_mem hb
  have hp : (c ++ (B1 ++ B2).flatten).Perm xs := by
    have h1 := hB.perm
    have h2 : ((B1 ++ (c ++ [f]) :: B2).flatten).Perm ((c ++ (B1 ++ B2).flatten) ++ [f]) := by
      rw [List.flatten_append, List.flatten_cons, List.flatten_append]
      have : (B1.flatten ++ (c ++ [f] ++ B2.flatten)).Perm ((c ++ [f]) ++ (B1.flatten ++ B2.flatten)) := by
        have h := (List.perm_append_comm (l₁ := B1.flatten) (l₂ := c ++ [f])).append_right B2.flatten
        simpa [List.append_assoc] using h
      refine this.trans ?_
      rw [List.append_assoc, List.append_assoc]
      exact (List.perm_append_comm).append_left _
    exact (List.perm_append_right_iff [f]).mp (h2.symm.trans h1)
  have pm : (B1 ++ (c ++ [f]) :: B2).Perm ((c ++ [f]) :: (B1 ++ B2)) := List.perm_middle
  by_cases hc : c = []
  · subst hc
    have hpt : Pt k xs (B1 ++ B2) := ⟨by simpa using hp, fun b hb => hB.ne b (by simp at hb ⊢; rcases hb with h | h <;> simp [h]), fun b hb => hB.le b (by simp at hb ⊢; rcases hb with h | h <;> simp [h])⟩
    refine ⟨srtT (B1 ++ B2), h.all _ hpt fun b hb => ha b (by simp at hb ⊢; rcases hb with h | h <;> simp [h]), .inl (srt_eq ?_)⟩
    refine pm.trans ?_
    rw [List.nil_append]
    refine List.Perm.trans ?_ ((srt_perm (B1 ++ B2)).symm.append_right [[f]])
    exact (List.perm_append_comm (l₁ := [[f]]) (l₂ := B1 ++ B2))
  · have hpt : Pt k xs (c :: (B1 ++ B2)) := ⟨by rw [List.flatten_cons]; exact hp, fun b hb => by
        rcases List.mem_cons.mp hb with e | hb
        · rw [e]; exact hc
        · exact hB.ne b (by simp at hb ⊢; rcases hb with h | h <;> simp [h]), fun b hb => by
        rcases List.mem_cons.mp hb with e | hb
        · have := hB.le (c ++ [f]) (by simp)
          rw [List.length_append, List.length_singleton] at this
          rw [e]; omega
        · exact hB.le b (by simp at hb ⊢; rcases hb with h | h <;> simp [h])⟩
    have hin := h.all _ hpt fun b hb => by
      rcases List.mem_cons.mp hb with e | hb
      · have := ha (c ++ [f]) (by simp)
        rw [e]
        exact (List.pairwise_append.mp this).1
      · exact ha b (by simp at hb ⊢; rcases hb with h | h <;> simp [h])
    have hcm : c ∈ srtT (c :: (B1 ++ B2)) := srt_mem.mpr (by simp)
    obtain ⟨j, hj, ej⟩ := List.getElem_of_mem hcm
    refine ⟨_, hin, .inr ⟨j, hj, ?_, srt_eq ?_⟩⟩
    · rw [ej]
      have := hB.le (c ++ [f]) (by simp)
      rw [List.length_append, List.length_singleton] at this
      omega
    · refine pm.trans ?_
      refine List.Perm.trans ?_ (set_perm hj _).symm
      rw [ej]
      refine List.Perm.cons _ ?_
      have h1 := self_perm hj
      rw [ej] at h1
      exact (List.Perm.cons_inv (((srt_perm (c :: (B1 ++ B2))).symm.trans h1)))
theorem Rows.snd {k f : Nat} (hk : 1 ≤ k) {xs : List Nat} {rows : List Row} (h : Rows k xs rows) {A C : Row} (hA : A ∈ rows) (hn : Nxt k f A C) : Pt k (xs ++ [f]) C := by
  rcases hn with e | ⟨j, hj, hl, e⟩
  · rw [e]; exact ((h.sound A hA).alone hk f).srt
  · rw [e]; exact ((h.sound A hA).with f hj hl).srt
theorem Pt.blocks {k : Nat} {xs : List Nat} {A : Row} (h : Pt k xs A) : A.length ≤ xs.length := by
  rw [← h.perm.length_eq]
  have : ∀ B : Row, (∀ b ∈ B, b ≠ []) → B.length ≤ B.flatten.length := fun B => by
    induction B with
    | nil => intro _; exact Nat.le_refl _
    | cons b B ih =>
      intro hb
      have h1 := ih fun x hx => hb x (by simp [hx])
      have h2 : 1 ≤ b.length := List.length_pos_iff.mpr (hb b (by simp))
      rw [List.flatten_cons, List.length_append, List.length_cons]; omega
  exact this A h.ne
/-- the told rides are among all ways -/
theorem told_pt {k : Nat} (hk : 1 ≤ k) {gs : List Pr} {rs : List (List Pr)} (h : Told k gs rs) : Pt k (ex gs) ((blk rs).map List.reverse) ∧ ∀ b ∈ (blk rs).map List.reverse, Asn b := by
  have hl := full_len hk h.full
  refine ⟨⟨?_, fun b hb => ?_, fun b hb => ?_⟩, fun b hb => ?_⟩
  · have : ((blk rs).map List.reverse).flatten.Perm (blk rs).flatten := by
      generalize blk rs = B
      induction B with
      | nil => exact List.Perm.refl _
      | cons b B ih =>
        rw [List.map_cons, List.flatten_cons, List.flatten_cons]
        exact (List.reverse_perm b).append ih
    rw [h.flat] at this
    exact this.trans (ex_rev gs)
  · obtain ⟨c, hc, rfl⟩ := List.mem_map.mp hb
    have := (hl c hc).1
    intro e
    rw [List.reverse_eq_nil_iff] at e
    rw [e] at this; simp at this
  · obtain ⟨c, hc, rfl⟩ := List.mem_map.mp hb
    rw [List.length_reverse]
    exact (hl c hc).2
  · obtain ⟨c, hc, rfl⟩ := List.mem_map.mp hb
    obtain ⟨r, hr, rfl⟩ := List.mem_map.mp hc
    unfold Asn
    rw [List.pairwise_reverse]
    exact (ex_desc (ps := r.reverse) (by rw [List.pairwise_reverse]; exact (h.ld r hr).asc)).imp fun h => h
theorem mx_perm {a b : List Nat} (p : a.Perm b) : mx a = mx b := by
  by_cases ha : a = []
  · subst ha
    rw [p.symm.eq_nil]
  · have hb : b ≠ [] := fun e => ha (by rw [e] at p; exact p.eq_nil)
    exact Nat.le_antisymm (le_mx (p.mem_iff.mp (mx_mem ha))) (le_mx (p.mem_iff.mpr (mx_mem hb)))
theorem msum_perm {A B : Row} (p : A.Perm B) : (A.map mx).sum = (B.map mx).sum := (p.map mx).sum_nat
theorem msum_rev (B : Row) : ((B.map List.reverse).map mx).sum = (B.map mx).sum := by
  rw [List.map_map]
  congr 1
  exact List.map_congr_left fun b _ => mx_perm (List.reverse_perm b)
end K78

set_option maxHeartbeats 1000000
/-! k78: the law's ways, walked -/
namespace K78
open Sv
open PySem (Str PyData)
local macro_rules | `(tactic| walk_at "v1") => `(tactic| first | with_reducible (first | refine sw_seq ?_ | refine sw_set ?_ | refine sw_new ?_ | refine sw_asg ?_ | refine sw_rt ?_ | refine sw_ret ?_ | refine sw_ifB ?_ | refine sw_par ?_ | refine sw_nx ?_ | refine sw_exprM ?_ | refine kw_nil ?_ | refine kw_frz ?_ | refine kw_new ?_ | refine ew_con ?_ | refine ew_bin ?_ | refine ew_un ?_ | refine ew_tup ?_ | refine ew_lst ?_ | refine ew_fn ?_ | refine ew_call ?_ | refine ew_callO ?_ | refine ew_not ?_ | refine ew_chain ?_ | refine ew_slice ?_ | refine ow_none ?_ | refine ow_some ?_ | refine tw_bl ?_ | refine tw_of ?_ | refine tw_not ?_ | refine tw_yes ?_ | refine aw_nil ?_ | refine aw_cons ?_ | refine iw_seq ?_ | refine iw_enum ?_ | refine iw_zip ?_ | refine iw_rangeI ?_ | (apply ew_andC) | (apply ew_orC) | (apply tw_andC) | (apply tw_orC) | (apply ew_lcM') | (apply ew_lc') | exact rfl | exact cut_last _ _ | exact mapI _) | ((with_reducible apply ew_var); exact rfl) | ((with_reducible apply ew_bor); exact rfl) | ((with_reducible apply ew_borO); exact rfl) | with_reducible (first | refine o_eqN ?_ | refine o_neN ?_ | refine o_ltN ?_ | refine o_gtN ?_ | refine o_leN ?_ | refine o_geN ?_ | refine o_inN ?_ | refine o_ninN ?_ | refine o_inNL ?_ | refine o_ninNL ?_ | refine o_lenTm ?_ | refine o_lenLm ?_ | refine o_addN ?_ | refine o_addN1 ?_ | refine o_subN (by first | assumption | omega) ?_ | refine o_subN1 (by first | assumption | omega) ?_ | refine o_sumI ?_ | refine o_sumTI ?_ | refine o_ix0 ?_ | refine o_ix1 ?_ | refine o_ix2 ?_ | refine o_ix3 ?_ | refine o_ixT0 ?_ ?_ | refine o_ixL0 ?_ ?_ | refine o_ixT1 ?_ ?_ | refine o_isTupT ?_ | refine o_ixTN ?_ ?_ | refine o_ixTI ?_ ?_ | refine o_ixLN ?_ ?_ | refine o_ixLI ?_ ?_ | refine o_ixTG ?_ ?_ | refine o_ixLG ?_ ?_ | refine o_ixTD0 ?_ ?_ | refine o_ixTD1 ?_ ?_ | refine o_ixTD2 ?_ ?_ | refine o_ixTD ?_ ?_ | refine o_ixLD ?_ ?_) | with_reducible (first | refine o_eqI ?_ | refine o_neI ?_ | refine o_lt ?_ | refine o_gt ?_ | refine o_le ?_ | refine o_ge ?_ | refine o_all ?_ | refine o_any ?_ | refine o_sum ?_ | refine o_addI ?_ | refine o_subI ?_ | refine o_lenT ?_ | refine o_lenL ?_ | refine o_tupL ?_ | refine o_tupT ?_ | refine o_listL ?_ | refine o_listT ?_ | refine o_negI ?_ | refine o_intI ?_ | refine o_slT ?_ | refine o_slL ?_ | refine o_revT ?_ | refine o_revL ?_ | refine x_n ?_ | refine x_int ?_ | refine x_bl ?_ | refine x_tb ?_ | refine x_itT ?_ | refine x_itL ?_ | refine x_rt ?_ | refine rngQ ?_ ?_ | refine x_trT ?_ | refine x_trL ?_ | refine x_tri ?_ | refine o_max2 ?_ | refine o_min2 ?_ | refine o_addTs ?_ ?_ | refine o_addLs ?_ ?_) | (with_reducible refine And.intro ?_ ?_) | refine dec_imp fun _ => ?_ | refine decF_imp fun _ => ?_ | with_reducible (first | refine ndF_imp fun _ => ?_ | refine ndT_imp fun _ => ?_ | refine nF_imp ?_ | refine nT_imp ?_ | refine orF_imp ?_ | refine andT_imp ?_) | refine tr_imp fun _ => ?_ | refine fa_imp fun _ => ?_ | (intro x hx; refine Exists.intro _ (And.intro rfl ?_); try (have hx := List.mem_range.mp hx)) | (refine sd_lt ?_; first | assumption | omega | (simp only [List.length_map, List.length_range, List.length_cons, List.length_nil, List.length_append, List.length_set] at *; omega)) | (refine sd_le ?_; first | assumption | omega | (simp only [List.length_map, List.length_range, List.length_cons, List.length_nil, List.length_append, List.length_set] at *; omega)))
local macro_rules | `(tactic| walk_at "v") => `(tactic| (repeat' (walk_at "v1")))
abbrev eW (B : Row) : D := .tup (B.map tN)
abbrev eU (_ : Unit) : D := .bl true
theorem tN_inj {a b : List Nat} (h : tN a = tN b) : a = b := by
  have := congrArg nats h
  rwa [nats_tN, nats_tN] at this
theorem kok_nats : ∀ xs : List Nat, D.kokL (xs.map nE) = true
  | [] => rfl
  | x :: xs => by rw [List.map_cons, D.kokL, kok_nats xs]; rfl
theorem kok_rows : ∀ B : Row, D.kokL (B.map tN) = true
  | [] => rfl
  | b :: B => by rw [List.map_cons, D.kokL, kok_rows B]; simp only [D.kok, kok_nats]; rfl
theorem map_inj : ∀ {a b : Row}, a.map tN = b.map tN → a = b
  | [], [], _ => rfl
  | [], _ :: _, h => by cases h
  | _ :: _, [], h => by cases h
  | x :: a, y :: b, h => by
    rw [List.map_cons, List.map_cons] at h
    injection h with h1 h2
    rw [tN_inj h1, map_inj h2]
theorem key_eW : KeyE eW := ⟨fun x y h => by
    injection h with h
    exact map_inj h, fun x => by
    rw [keyT, Bool.and_eq_true, decide_eq_true_iff]
    refine ⟨kok_rows x, depL_le.mpr fun d hd => ?_⟩
    obtain ⟨b, _, rfl⟩ := List.mem_map.mp hd
    exact Nat.le_trans (enc_tN.dep b) (by decide)⟩
theorem ord_eW : OrdE eW ltW := ord_nat.tup.tup
theorem enc_eW : Enc eW 2 := enc_tN.tup
section
variable {Q : D → Prop}
theorem maxI_mx : ∀ {xs : List Nat}, xs ≠ [] → maxI (xs.map fun k : Nat => (k : Int)) = ((mx xs : Nat) : Int) := fun {xs} h => by
  have h1 : maxI (xs.map fun k : Nat => (k : Int)) ∈ xs.map fun k : Nat => (k : Int) := maxI_mem (by simpa using h)
  obtain ⟨a, ha, ea⟩ := List.mem_map.mp h1
  have h2 : ((mx xs : Nat) : Int) ≤ maxI (xs.map fun k : Nat => (k : Int)) := le_maxI (List.mem_map.mpr ⟨mx xs, mx_mem h, rfl⟩)
  have h3 := le_mx ha
  omega
theorem o_maxTN {xs : List Nat} (h : xs ≠ []) (q : Q (nE (mx xs))) : OrW (maxLD [tN xs]) Q := by
  cases xs with
  | nil => exact absurd rfl h
  | cons a xs =>
    refine .of (r := .int (maxI ((a :: xs).map fun k : Nat => (k : Int)))) (by unfold maxLD bestOf; simp only [intsD_nat]; rfl) ?_
    rw [maxI_mx h]; exact q
theorem w_sortRow {B : Row} {ρ : Rho} {f : Ex} (hne : ∀ b ∈ B, b ≠ []) (h : Ew f ρ fun d => d = eW B) : Ew (eFn tupleD (aCons (eFn sortedD (aCons f aNil)) aNil)) ρ fun d => d = eW (srtT B) := by
  refine ew_fn (aw_cons (ew_fn (aw_cons (h.mono fun d hd => ?_))))
  subst hd
  refine aw_nil (o_sortET ord_nat.tup lin_N.lst enc_tN (.inl fun b hb => ?_) (aw_nil (o_tupL rfl)))
  have := hne b hb
  cases b with
  | nil => exact absurd rfl this
  | cons a b => exact ⟨_, _, rfl⟩
theorem sumM_cast (A : Row) : (A.map fun b => ((2 * mx b : Nat) : Int)).sum = ((2 * (A.map mx).sum : Nat) : Int) := by
  induction A with
  | nil => rfl
  | cons b A ih => rw [List.map_cons, List.sum_cons, ih, List.map_cons, List.sum_cons]; omega
theorem o_sortDW {M : List (Row × Unit)} (ht : ∀ x ∈ M.map Prod.fst, x ≠ []) (q : Q (.lst ((srt ltW (M.map Prod.fst)).map eW))) : OrW (sortedD [dT eW eU M]) Q :=
  .of (by rw [sortedD, keysT, if_pos (sortOk_map ord_eW enc_eW (by decide) (.inl fun x hx => by
    have := ht x hx
    cases x with
    | nil => exact absurd rfl this
    | cons a b => exact ⟨_, _, rfl⟩)), sortL_map ord_eW lin_W]) q
theorem w_law_ways {xs : List Nat} {k : Nat} (hk : 1 ≤ k) (ha : Asn xs) (hl : xs.length ≤ 6) (q : ∀ rows, Rows k xs rows → Q (.lst (rows.map fun A => nE (2 * (A.map mx).sum)))) : Fw f_law_ways [lN xs, nE k] Q := by
  refine fw_rt ?_
  refine sw_seq (sw_set (ew_lst (aw_cons (ew_tup (aw_nil (aw_nil ?_))))))
  refine sw_seq (sw_forP xs nE (fun pre ρ => ∃ (rows : List Row) (x3 x4 x5 x6 x7 : Sl), ρ = [Sl.frz (lN xs), .frz (nE k), .frz (.lst (rows.map eW)), x3, x4, x5, x6, x7] ∧ Rows k pre rows) ?_ ⟨[[]], .emp, .emp, .emp, .emp, .emp, rfl, Rows.start k⟩ ?_ ?_)
  · exact iw_seq (ew_var (d := lN xs) rfl (x_itL rfl))
  · rintro pre f post _ hx ⟨rows, x3, x4, x5, x6, x7, rfl, hR⟩
    have hpl : pre.length ≤ 5 := by
      have := congrArg List.length hx
      rw [List.length_append, List.length_cons] at this
      omega
    have hrl : rows.length ≤ 7 ^ 5 := Nat.le_trans hR.len (Nat.pow_le_pow_right (by decide) hpl)
    have hfm : ∀ x ∈ pre, x ≤ f := fun x hxp => by
      have h1 := ha
      rw [hx] at h1
      exact (List.pairwise_append.mp h1).2.2 x hxp f (by simp)
    refine ⟨_, rfl, ?_⟩
    refine sw_seq (sw_new (ew_dT0 (e := eW) (f := eU) ?_))
    refine sw_seq (sw_forP rows eW (fun pr ρ => ∃ (M : List (Row × Unit)) (x5 x6 x7 : Sl), ρ = [Sl.frz (lN xs), .frz (nE k), .frz (.lst (rows.map eW)), .frz (nE f), .own (dT eW eU M), x5, x6, x7] ∧ M.length ≤ 7 * pr.length ∧ (M.map Prod.fst).Nodup ∧ ∀ C, C ∈ M.map Prod.fst ↔ ∃ A ∈ pr, Nxt k f A C) ?_ ⟨[], x5, x6, x7, rfl, by simp, by simp, by simp⟩ ?_ ?_)
    · exact iw_seq (ew_var (d := .lst (rows.map eW)) rfl (x_itL rfl))
    · rintro pr A post2 _ hx2 ⟨M, x5, x6, x7, rfl, hM, hnd, hC⟩
      have hA : A ∈ rows := by rw [hx2]; simp
      have hpt := hR.sound A hA
      have hAl : A.length ≤ 5 := Nat.le_trans hpt.blocks hpl
      have hprl : pr.length + 1 ≤ 7 ^ 5 := by
        have := congrArg List.length hx2
        rw [List.length_append, List.length_cons] at this
        omega
      have hMl : M.length ≤ 7 * (7 ^ 5 - 1) := Nat.le_trans hM (Nat.mul_le_mul_left 7 (by omega))
      refine ⟨_, rfl, ?_⟩
      refine sw_seq (sw_dputT (e := eW) (f := eU) (x := srtT (A ++ [[f]])) (y := ()) (ps := M) key_eW rfl (by omega) (ew_con rfl) ?_ ?_)
      · refine w_sortRow (B := A ++ [[f]]) (hpt.alone hk f).ne ?_
        refine ew_bin (ew_bor (d := eW A) rfl (ew_tup (aw_cons (ew_tup (aw_cons (ew_var (d := nE f) rfl (aw_nil (aw_nil (o_addTs ?_ ?_)))))))))
        · rw [List.length_map, List.length_singleton]; omega
        · show D.tup (A.map tN ++ [tN [f]]) = _
          rw [eW, List.map_append]; rfl
      refine sw_forR A.length nE (fun j ρ => ∃ (M2 : List (Row × Unit)) (x6 x7 : Sl), ρ = [Sl.frz (lN xs), .frz (nE k), .frz (.lst (rows.map eW)), .frz (nE f), .own (dT eW eU M2), .frz (eW A), x6, x7] ∧ M2.length ≤ M.length + 1 + j ∧ (M2.map Prod.fst).Nodup ∧ ∀ C, C ∈ M2.map Prod.fst ↔ (C ∈ M.map Prod.fst ∨ C = srtT (A ++ [[f]])) ∨ ∃ i, ∃ hi : i < A.length, i < j ∧ A[i].length < k ∧ C = srtT (A.set i (A[i] ++ [f]))) ?_ ⟨putQ (srtT (A ++ [[f]])) () M, x6, x7, rfl, by have := putQ_len (x := srtT (A ++ [[f]])) (y := ()) (ps := M); omega, putQ_nodup hnd, fun C => ?_⟩ ?_ ?_
      · exact iw_rangeN A.length (aw_cons (ew_fn (aw_cons (ew_bor (d := eW A) rfl (aw_nil (o_lenTm (aw_nil ⟨rfl, by omega, rfl⟩)))))))
      · rw [putQ_mem]
        constructor
        · rintro (h | h)
          · exact .inl (.inr h)
          · exact .inl (.inl h)
        · rintro ((h | h) | ⟨i, _, h, _⟩)
          · exact .inr h
          · exact .inl h
          · omega
      · rintro j hj _ ⟨M2, x6, x7, rfl, hM2, hnd2, hC2⟩
        refine ⟨_, rfl, ?_⟩
        have hget : A[j]? = some A[j] := List.getElem?_eq_getElem hj
        refine sw_ifB (tw_bl (ew_bin (ew_fn (aw_cons (ew_bin (ew_bor (d := eW A) rfl (ew_var (d := nE j) rfl (o_ixTn (e := tN) hget (aw_nil (o_lenTm (ew_bor (d := nE k) rfl (o_ltN ⟨_, rfl, brD (fun hlt => ?_) fun hlt => ?_⟩))))))))))))
        · refine sw_dputT (e := eW) (f := eU) (x := srtT (A.set j (A[j] ++ [f]))) (y := ()) (ps := M2) key_eW rfl (by omega) (ew_con rfl) ?_ ?_
          · refine w_sortRow (B := A.set j (A[j] ++ [f])) (hpt.with f hj hlt).ne ?_
            have hAj : A[j].length ≤ k := hpt.le _ (List.getElem_mem hj)
            have hfl : A[j].length ≤ 6 := by
              have h1 := hpt.perm.length_eq
              have h2 : A[j].length ≤ A.flatten.length := (List.sublist_flatten_of_mem (List.getElem_mem hj)).length_le
              omega
            have hc1 := cutD_len (A.map tN) none (some (j : Int))
            have hc2 := cutD_len (A.map tN) (some ((j + 1 : Nat) : Int)) none
            rw [List.length_map] at hc1 hc2
            refine ew_bin (ew_bin (ew_slice (ew_bor (d := eW A) rfl (ow_none (ow_some (ew_var (d := nE j) rfl ⟨_, rfl, o_slT ?_⟩))))))
            refine ew_tup (aw_cons (ew_bin (ew_bin (ew_bor (d := eW A) rfl (ew_var (d := nE j) rfl (o_ixTn (e := tN) hget (ew_tup (aw_cons (ew_var (d := nE f) rfl (aw_nil (o_addTs ?_ (aw_nil (o_addTs ?_ ?_)))))))))))))
            · rw [List.length_map, List.length_singleton]; omega
            · rw [List.length_singleton]; omega
            · refine ew_slice (ew_bor (d := eW A) rfl (ow_some (ew_bin (ew_bor (d := nE j) rfl (ew_con (o_addN1 ⟨_, rfl, ow_none (o_slT (o_addTs ?_ ?_))⟩))))))
              · rw [List.length_append, List.length_singleton]; omega
              · have h1 := cut_set tN (xs := A) (k := j) (A[j] ++ [f]) hj
                rw [eW, ← h1]
                have h2 : D.tup (A[j].map nE ++ [nE f]) = tN (A[j] ++ [f]) := by rw [tN, List.map_append]; rfl
                rw [h2]
          · refine ⟨putQ (srtT (A.set j (A[j] ++ [f]))) () M2, _, _, rfl, by have := putQ_len (x := srtT (A.set j (A[j] ++ [f]))) (y := ()) (ps := M2); omega, putQ_nodup hnd2, fun C => ?_⟩
            rw [putQ_mem, hC2]
            constructor
            · rintro (h | h | ⟨i, hi, h1, h2, h3⟩)
              · exact .inr ⟨j, hj, by omega, hlt, h⟩
              · exact .inl h
              · exact .inr ⟨i, hi, by omega, h2, h3⟩
            · rintro (h | ⟨i, hi, h1, h2, h3⟩)
              · exact .inr (.inl h)
              · by_cases hij : i = j
                · subst hij; exact .inl h3
                · exact .inr (.inr ⟨i, hi, by omega, h2, h3⟩)
        · refine sw_nx ⟨M2, _, _, rfl, by omega, hnd2, fun C => ?_⟩
          rw [hC2]
          constructor
          · rintro (h | ⟨i, hi, h1, h2, h3⟩)
            · exact .inl h
            · exact .inr ⟨i, hi, by omega, h2, h3⟩
          · rintro (h | ⟨i, hi, h1, h2, h3⟩)
            · exact .inl h
            · by_cases hij : i = j
              · subst hij; exact absurd h2 hlt
              · exact .inr ⟨i, hi, by omega, h2, h3⟩
      · rintro _ ⟨M2, x6, x7, rfl, hM2, hnd2, hC2⟩
        refine ⟨M2, _, _, _, rfl, by rw [List.length_append, List.length_singleton]; omega, hnd2, fun C => ?_⟩
        rw [hC2, hC]
        constructor
        · rintro ((⟨A', hA', h⟩ | h) | ⟨i, hi, h1, h2, h3⟩)
          · exact ⟨A', by simp [hA'], h⟩
          · exact ⟨A, by simp, .inl h⟩
          · exact ⟨A, by simp, .inr ⟨i, hi, h2, h3⟩⟩
        · rintro ⟨A', hA', h⟩
          rcases List.mem_append.mp hA' with hA' | hA'
          · exact .inl (.inl ⟨A', hA', h⟩)
          · rw [List.mem_singleton] at hA'
            subst hA'
            rcases h with h | ⟨i, hi, h2, h3⟩
            · exact .inl (.inr h)
            · exact .inr ⟨i, hi, hi, h2, h3⟩
    · rintro _ ⟨M, x5, x6, x7, rfl, hM, hnd, hC⟩
      have hsnd : ∀ C ∈ M.map Prod.fst, Pt k (pre ++ [f]) C := fun C h => by
        obtain ⟨A, hA, hn⟩ := (hC C).mp h
        exact hR.snd hk hA hn
      refine sw_set (ew_fn (aw_cons (ew_borO (d := dT eW eU M) rfl (aw_nil (o_sortDW (fun C h e => ?_) ?_)))))
      · have := (hsnd C h).perm.length_eq
        rw [e] at this
        simp at this
      · refine ⟨srt ltW (M.map Prod.fst), _, _, _, _, _, rfl, ?_, fun A hA => hsnd A (srt_mem.mp hA), fun B hB hBa => srt_mem.mpr ?_⟩
        · rw [(srt_perm _).length_eq, List.length_map, List.length_append, List.length_singleton, Nat.pow_succ]
          have := hR.len
          omega
        · obtain ⟨A, hA, hn⟩ := hR.next hfm hB hBa
          exact (hC _).mpr ⟨A, hA, hn⟩
  · rintro _ ⟨rows, x3, x4, x5, x6, x7, rfl, hR⟩
    refine sw_rt (ew_lcM' (xs := rows) (enc := eW) (res := fun A => nE (2 * (A.map mx).sum)) (iw_seq (ew_bor (d := .lst (rows.map eW)) rfl (x_itL rfl))) (fun A hA => ⟨_, rfl, ?_⟩) (q rows hR))
    refine ew_fn (aw_cons (ew_lcM' (xs := A) (enc := tN) (res := fun b => .int ((2 * mx b : Nat) : Int)) (iw_seq (ew_bor (d := eW A) rfl (x_itT rfl))) (fun b hb => ⟨_, rfl, ?_⟩) (aw_nil (o_sum (p := fun b => ((2 * mx b : Nat) : Int)) ?_))))
    · refine ew_bin (ew_con (ew_fn (aw_cons (ew_bor (d := tN b) rfl (aw_nil (o_maxTN ((hR.sound A hA).ne b hb) (o_mulI mul_ok2 rfl)))))))
    · rw [sumM_cast]
end
end K78

set_option maxHeartbeats 1000000
/-! k78: the shared defs -/
namespace K78
open Sv
open PySem (Str PyData)
theorem same_eq : ∀ n, f_law_same n = f_same n
  | 0 => rfl
  | n + 1 => by
    show runF 3 (s_law_same (f_law_same n)) = runF 3 (s_same (f_same n))
    rw [same_eq n]
theorem bent_eq : ∀ n, f_law_bent n = f_bent n
  | 0 => rfl
  | n + 1 => by
    show runF 4 (s_law_bent (f_law_bent n)) = runF 4 (s_bent (f_bent n))
    rw [bent_eq n]
theorem w_ls {a b : D} {Q : D → Prop} (ha : gd a = true) (hb : gd b = true) (hd : a.dep < 40) (q : Q (.bl (decide (a = b)))) : Fw (f_law_same 40) [a, b] Q := by
  rw [same_eq]; exact w_same 40 ha hb hd q
theorem w_lsT {a b : D} {Q : D → Prop} (e : a = b) (ha : gd a = true) (hd : a.dep < 40) (q : Q (.bl true)) : Fw (f_law_same 40) [a, b] Q := by
  subst e
  exact w_ls ha ha hd (by rw [decide_eq_true rfl]; exact q)
theorem w_lbent {v : D} {Q : D → Prop} (hv : bs v = true) (hd : v.dep < 40) (q : ∀ w, Bt v w → lenT w ≤ 2001 → Q w) : Fw (f_law_bent 40) [.tok 0, v] Q := by
  rw [bent_eq]; exact w_bent' 40 hv hd q
end K78

set_option maxHeartbeats 1000000
/-! k78: groups drawn; what holds of the told rides -/
namespace K78
open Sv
open PySem (Str PyData)
local macro_rules | `(tactic| walk_at "v1") => `(tactic| first | with_reducible (first | refine sw_seq ?_ | refine sw_set ?_ | refine sw_new ?_ | refine sw_asg ?_ | refine sw_rt ?_ | refine sw_ret ?_ | refine sw_ifB ?_ | refine sw_par ?_ | refine sw_nx ?_ | refine sw_exprM ?_ | refine kw_nil ?_ | refine kw_frz ?_ | refine kw_new ?_ | refine ew_con ?_ | refine ew_bin ?_ | refine ew_un ?_ | refine ew_tup ?_ | refine ew_lst ?_ | refine ew_fn ?_ | refine ew_call ?_ | refine ew_callO ?_ | refine ew_not ?_ | refine ew_chain ?_ | refine ew_slice ?_ | refine ow_none ?_ | refine ow_some ?_ | refine tw_bl ?_ | refine tw_of ?_ | refine tw_not ?_ | refine tw_yes ?_ | refine aw_nil ?_ | refine aw_cons ?_ | refine iw_seq ?_ | refine iw_enum ?_ | refine iw_zip ?_ | refine iw_rangeI ?_ | (apply ew_andC) | (apply ew_orC) | (apply tw_andC) | (apply tw_orC) | (apply ew_lcM') | (apply ew_lc') | exact rfl | exact cut_last _ _ | exact mapI _) | ((with_reducible apply ew_var); exact rfl) | ((with_reducible apply ew_bor); exact rfl) | ((with_reducible apply ew_borO); exact rfl) | with_reducible (first | refine o_eqN ?_ | refine o_neN ?_ | refine o_ltN ?_ | refine o_gtN ?_ | refine o_leN ?_ | refine o_geN ?_ | refine o_inN ?_ | refine o_ninN ?_ | refine o_inNL ?_ | refine o_ninNL ?_ | refine o_lenTm ?_ | refine o_lenLm ?_ | refine o_addN ?_ | refine o_addN1 ?_ | refine o_subN (by first | assumption | omega) ?_ | refine o_subN1 (by first | assumption | omega) ?_ | refine o_sumI ?_ | refine o_sumTI ?_ | refine o_ix0 ?_ | refine o_ix1 ?_ | refine o_ix2 ?_ | refine o_ix3 ?_ | refine o_ixT0 ?_ ?_ | refine o_ixL0 ?_ ?_ | refine o_ixT1 ?_ ?_ | refine o_isTupT ?_ | refine o_ixTN ?_ ?_ | refine o_ixTI ?_ ?_ | refine o_ixLN ?_ ?_ | refine o_ixLI ?_ ?_ | refine o_ixTG ?_ ?_ | refine o_ixLG ?_ ?_ | refine o_ixTD0 ?_ ?_ | refine o_ixTD1 ?_ ?_ | refine o_ixTD2 ?_ ?_ | refine o_ixTD ?_ ?_ | refine o_ixLD ?_ ?_) | with_reducible (first | refine o_eqI ?_ | refine o_neI ?_ | refine o_lt ?_ | refine o_gt ?_ | refine o_le ?_ | refine o_ge ?_ | refine o_all ?_ | refine o_any ?_ | refine o_sum ?_ | refine o_addI ?_ | refine o_subI ?_ | refine o_lenT ?_ | refine o_lenL ?_ | refine o_tupL ?_ | refine o_tupT ?_ | refine o_listL ?_ | refine o_listT ?_ | refine o_negI ?_ | refine o_intI ?_ | refine o_slT ?_ | refine o_slL ?_ | refine o_revT ?_ | refine o_revL ?_ | refine x_n ?_ | refine x_int ?_ | refine x_bl ?_ | refine x_tb ?_ | refine x_itT ?_ | refine x_itL ?_ | refine x_rt ?_ | refine rngQ ?_ ?_ | refine x_trT ?_ | refine x_trL ?_ | refine x_tri ?_ | refine o_max2 ?_ | refine o_min2 ?_ | refine o_addTs ?_ ?_ | refine o_addLs ?_ ?_) | (with_reducible refine And.intro ?_ ?_) | refine dec_imp fun _ => ?_ | refine decF_imp fun _ => ?_ | with_reducible (first | refine ndF_imp fun _ => ?_ | refine ndT_imp fun _ => ?_ | refine nF_imp ?_ | refine nT_imp ?_ | refine orF_imp ?_ | refine andT_imp ?_) | refine tr_imp fun _ => ?_ | refine fa_imp fun _ => ?_ | (intro x hx; refine Exists.intro _ (And.intro rfl ?_); try (have hx := List.mem_range.mp hx)) | (refine sd_lt ?_; first | assumption | omega | (simp only [List.length_map, List.length_range, List.length_cons, List.length_nil, List.length_append, List.length_set] at *; omega)) | (refine sd_le ?_; first | assumption | omega | (simp only [List.length_map, List.length_range, List.length_cons, List.length_nil, List.length_append, List.length_set] at *; omega)))
local macro_rules | `(tactic| walk_at "v") => `(tactic| (repeat' (walk_at "v1")))
/-! ### sums by floor -/
theorem sum_one {f : Nat} {n : Nat} : ∀ {ks : List Nat}, ks.Nodup → f ∈ ks → (ks.map fun x => if f = x then n else 0).sum = n
  | [], _, h => by cases h
  | k :: ks, hn, h => by
    rw [List.nodup_cons] at hn
    rw [List.map_cons, List.sum_cons]
    have hz : ∀ ks : List Nat, f ∉ ks → (ks.map fun x => if f = x then n else 0).sum = 0 := fun ks hf => by
      induction ks with
      | nil => rfl
      | cons a ks ih =>
        rw [List.map_cons, List.sum_cons, ih fun z => hf (by simp [z]), if_neg fun e => hf (by simp [e])]
    rcases List.mem_cons.mp h with e | h
    · subst e
      rw [if_pos rfl, hz ks hn.1]; omega
    · rw [if_neg fun (e : f = k) => hn.1 (e ▸ h), sum_one hn.2 h]; omega
theorem sum_atF {ks : List Nat} (hn : ks.Nodup) : ∀ {L : List Pr}, (∀ p ∈ L, p.1 ∈ ks) → (ks.map fun f => atF f L).sum = sumN L
  | [], _ => by
    have : ∀ ks : List Nat, (ks.map fun f => atF f []).sum = 0 := fun ks => by
      induction ks with
      | nil => rfl
      | cons a ks ih => rw [List.map_cons, List.sum_cons, ih]; rfl
    rw [this]; rfl
  | p :: L, h => by
    have ih := sum_atF hn (L := L) fun q hq => h q (by simp [hq])
    have e : (ks.map fun f => atF f (p :: L)) = ks.map fun f => (if p.1 = f then p.2 else 0) + atF f L := List.map_congr_left fun f _ => by
      rw [show p :: L = [p] ++ L from rfl, atF_app, atF_one]
    have hadd : ∀ (ks : List Nat) (a b : Nat → Nat), (ks.map fun f => a f + b f).sum = (ks.map a).sum + (ks.map b).sum := fun ks a b => by
      induction ks with
      | nil => rfl
      | cons x ks ih => simp only [List.map_cons, List.sum_cons]; omega
    rw [e, hadd, ih, sum_one hn (h p (by simp))]
    show _ = sumN ([p] ++ L)
    rw [sumN_app]
    have h1 : sumN [p] = p.2 := by simp [sumN]
    omega
theorem sum_perm_nat {a b : List Nat} (p : a.Perm b) : a.sum = b.sum := p.sum_nat
/-! ### due, as the law reckons it -/
theorem neg_ceil {a k : Nat} (hk : 1 ≤ k) : -((-(a : Int)).fdiv (k : Int)) = ((cdiv a k : Nat) : Int) := by
  rw [Int.fdiv_eq_ediv_of_nonneg _ (by omega)]
  unfold cdiv
  have h1 := Nat.div_add_mod (a + k - 1) k
  have h2 := Nat.mod_lt (a + k - 1) (show k > 0 by omega)
  obtain ⟨c, hc⟩ : ∃ c, c = (a + k - 1) / k := ⟨_, rfl⟩
  obtain ⟨m, hm⟩ : ∃ m, m = (a + k - 1) % k := ⟨_, rfl⟩
  rw [← hc, ← hm] at h1
  rw [← hm] at h2
  rw [← hc]
  have : (-(a : Int)) / (k : Int) = -(c : Int) := by
    have h3 : ((k * c : Nat) : Int) = (k : Int) * (c : Int) := Int.natCast_mul k c
    have h4 : -(a : Int) = (k : Int) * (-(c : Int)) + ((k * c : Nat) - (a : Int)) := by rw [h3, Int.mul_neg]; omega
    have h5 : (0 : Int) ≤ ((k * c : Nat) : Int) - (a : Int) := by omega
    have h6 : ((k * c : Nat) : Int) - (a : Int) < (k : Int) := by omega
    rw [h4, Int.add_comm, Int.add_mul_ediv_left _ _ (by omega), Int.ediv_eq_zero_of_lt h5 h6]; omega
  omega
section
variable {Q : D → Prop}
theorem o_sortF {ks : List Nat} {g : Nat → Int} (q : Q (lN (srt ltN ks))) : OrW (sortedD [dF D.int ks g]) Q :=
  .of (by
    have e : keysD (rF D.int ks g) = ks.map nE := by rw [keysD, rF_rows, rF, List.map_map]; rfl
    rw [sortedD, e, if_pos (sortOk_map ord_nat enc_nat (by decide) (.inr fun _ _ _ => ⟨by simp, by simp⟩)), sortL_map ord_nat lin_N]) q
theorem o_mulRepL {f n : Nat} (hn : n ≤ 1000) (q : Q (lN (List.replicate n f))) : OrW (opMul (.lst [nE f]) (nE n)) Q := .of (by
  have h1 : ((n : Nat) : Int) < 2 ^ 62 ∧ -(2 ^ 62) < ((n : Nat) : Int) ∧ [nE f].length * ((n : Nat) : Int).toNat ≤ PySem.sizeLine := ⟨by omega, by omega, by rw [PySem.sizeLine_eq, Int.toNat_natCast]; simp; omega⟩
  rw [opMul, if_pos h1, Int.toNat_natCast]
  have : ∀ m : Nat, (List.replicate m [nE f]).flatten = (List.replicate m f).map nE := fun m => by
    induction m with
    | zero => rfl
    | succ m ih => rw [List.replicate_succ, List.flatten_cons, ih, List.replicate_succ, List.map_cons]; rfl
  rw [this n]) q
/-- the groups of counts -/
theorem groups_of {L : List Pr} {ks : List Nat} {g : Nat → Int} (hk : Kv [] (fun _ => 0) 1 L ks g) (h1 : ∀ p ∈ L, p.2 = 1 ∧ 1 ≤ p.1 ∧ p.1 ≤ 9) (hl : L.length ≤ 6) : Gr ((srt ltN ks).map fun f => (f, atF f L)) ∧ (ex ((srt ltN ks).map fun f => (f, atF f L))).length ≤ 6 ∧ (∀ f ∈ ks, g f = ((atF f L : Nat) : Int)) ∧ ks.length ≤ 6 := by
  have hm : ∀ f, f ∈ ks ↔ f ∈ fls L := fun f => by rw [hk.mem]; simp
  have hs : sumN L = L.length := by
    clear hk hl hm
    induction L with
    | nil => rfl
    | cons p L ih =>
      have h2 := (h1 p (by simp)).1
      show sumN ([p] ++ L) = _
      rw [sumN_app, ih fun q hq => h1 q (by simp [hq]), List.length_cons]
      have h3 : sumN [p] = p.2 := by simp [sumN]
      omega
  have hpos : ∀ f ∈ ks, 1 ≤ atF f L := fun f hf => atF_pos (fun p hp => by have := (h1 p hp).1; omega) ((hm f).mp hf)
  have htot : (ks.map fun f => atF f L).sum = sumN L := sum_atF hk.nd fun p hp => (hm p.1).mpr (List.mem_map.mpr ⟨p, hp, rfl⟩)
  have hle : ∀ f, atF f L ≤ 6 := fun f => by
    have hx : ∀ L : List Pr, atF f L ≤ sumN L := fun L => by
      induction L with
      | nil => exact Nat.le_refl _
      | cons p L ih =>
        show atF f ([p] ++ L) ≤ sumN ([p] ++ L)
        rw [atF_app, atF_one, sumN_app]
        have h3 : sumN [p] = p.2 := by simp [sumN]
        split <;> omega
    have := hx L
    omega
  have hkl : ks.length ≤ 6 := by
    have := nodup_sub ks (fls L) hk.nd fun f hf => (hm f).mp hf
    rw [fls, List.length_map] at this
    omega
  refine ⟨⟨fun p hp => ?_, ?_, by rw [List.length_map, (srt_perm _).length_eq]; omega⟩, ?_, fun f hf => by have := hk.val f hf; simpa using this, hkl⟩
  · obtain ⟨f, hf, rfl⟩ := List.mem_map.mp hp
    have hf := srt_mem.mp hf
    obtain ⟨p, hp, e⟩ := List.mem_map.mp ((hm f).mp hf)
    have h2 := h1 p hp
    exact ⟨by show 1 ≤ f; omega, by show f ≤ 60; omega, hpos f hf, by have := hle f; show atF f L ≤ 200; omega⟩
  · rw [List.pairwise_map]
    exact (srt_lt lin_N hk.nd).imp fun h => by simpa [ltN] using h
  · rw [ex_len]
    have : sumN ((srt ltN ks).map fun f => (f, atF f L)) = ((srt ltN ks).map fun f => atF f L).sum := by
      unfold sumN
      rw [List.map_map]; rfl
    rw [this, sum_perm_nat ((srt_perm ks).map _), htot, hs]
    exact hl
end
end K78

set_option maxHeartbeats 1000000
/-! k78: the law's steps -/
namespace K78
open Sv
open PySem (Str PyData)
local macro_rules | `(tactic| walk_at "v1") => `(tactic| first | with_reducible (first | refine sw_seq ?_ | refine sw_set ?_ | refine sw_new ?_ | refine sw_asg ?_ | refine sw_rt ?_ | refine sw_ret ?_ | refine sw_ifB ?_ | refine sw_par ?_ | refine sw_nx ?_ | refine sw_exprM ?_ | refine kw_nil ?_ | refine kw_frz ?_ | refine kw_new ?_ | refine ew_con ?_ | refine ew_bin ?_ | refine ew_un ?_ | refine ew_tup ?_ | refine ew_lst ?_ | refine ew_fn ?_ | refine ew_call ?_ | refine ew_callO ?_ | refine ew_not ?_ | refine ew_chain ?_ | refine ew_slice ?_ | refine ow_none ?_ | refine ow_some ?_ | refine tw_bl ?_ | refine tw_of ?_ | refine tw_not ?_ | refine tw_yes ?_ | refine aw_nil ?_ | refine aw_cons ?_ | refine iw_seq ?_ | refine iw_enum ?_ | refine iw_zip ?_ | refine iw_rangeI ?_ | (apply ew_andC) | (apply ew_orC) | (apply tw_andC) | (apply tw_orC) | (apply ew_lcM') | (apply ew_lc') | exact rfl | exact cut_last _ _ | exact mapI _) | ((with_reducible apply ew_var); exact rfl) | ((with_reducible apply ew_bor); exact rfl) | ((with_reducible apply ew_borO); exact rfl) | with_reducible (first | refine o_eqN ?_ | refine o_neN ?_ | refine o_ltN ?_ | refine o_gtN ?_ | refine o_leN ?_ | refine o_geN ?_ | refine o_inN ?_ | refine o_ninN ?_ | refine o_inNL ?_ | refine o_ninNL ?_ | refine o_lenTm ?_ | refine o_lenLm ?_ | refine o_addN ?_ | refine o_addN1 ?_ | refine o_subN (by first | assumption | omega) ?_ | refine o_subN1 (by first | assumption | omega) ?_ | refine o_sumI ?_ | refine o_sumTI ?_ | refine o_ix0 ?_ | refine o_ix1 ?_ | refine o_ix2 ?_ | refine o_ix3 ?_ | refine o_ixT0 ?_ ?_ | refine o_ixL0 ?_ ?_ | refine o_ixT1 ?_ ?_ | refine o_isTupT ?_ | refine o_ixTN ?_ ?_ | refine o_ixTI ?_ ?_ | refine o_ixLN ?_ ?_ | refine o_ixLI ?_ ?_ | refine o_ixTG ?_ ?_ | refine o_ixLG ?_ ?_ | refine o_ixTD0 ?_ ?_ | refine o_ixTD1 ?_ ?_ | refine o_ixTD2 ?_ ?_ | refine o_ixTD ?_ ?_ | refine o_ixLD ?_ ?_) | with_reducible (first | refine o_eqI ?_ | refine o_neI ?_ | refine o_lt ?_ | refine o_gt ?_ | refine o_le ?_ | refine o_ge ?_ | refine o_all ?_ | refine o_any ?_ | refine o_sum ?_ | refine o_addI ?_ | refine o_subI ?_ | refine o_lenT ?_ | refine o_lenL ?_ | refine o_tupL ?_ | refine o_tupT ?_ | refine o_listL ?_ | refine o_listT ?_ | refine o_negI ?_ | refine o_intI ?_ | refine o_slT ?_ | refine o_slL ?_ | refine o_revT ?_ | refine o_revL ?_ | refine x_n ?_ | refine x_int ?_ | refine x_bl ?_ | refine x_tb ?_ | refine x_itT ?_ | refine x_itL ?_ | refine x_rt ?_ | refine rngQ ?_ ?_ | refine x_trT ?_ | refine x_trL ?_ | refine x_tri ?_ | refine o_max2 ?_ | refine o_min2 ?_ | refine o_addTs ?_ ?_ | refine o_addLs ?_ ?_) | (with_reducible refine And.intro ?_ ?_) | refine dec_imp fun _ => ?_ | refine decF_imp fun _ => ?_ | with_reducible (first | refine ndF_imp fun _ => ?_ | refine ndT_imp fun _ => ?_ | refine nF_imp ?_ | refine nT_imp ?_ | refine orF_imp ?_ | refine andT_imp ?_) | refine tr_imp fun _ => ?_ | refine fa_imp fun _ => ?_ | (intro x hx; refine Exists.intro _ (And.intro rfl ?_); try (have hx := List.mem_range.mp hx)) | (refine sd_lt ?_; first | assumption | omega | (simp only [List.length_map, List.length_range, List.length_cons, List.length_nil, List.length_append, List.length_set] at *; omega)) | (refine sd_le ?_; first | assumption | omega | (simp only [List.length_map, List.length_range, List.length_cons, List.length_nil, List.length_append, List.length_set] at *; omega)))
local macro_rules | `(tactic| walk_at "v") => `(tactic| (repeat' (walk_at "v1")))
section
variable {y0 y2 y3 y4 y5 y6 y7 y8 y9 y10 y11 y12 y13 y14 y15 y16 y17 y18 y19 y20 : Sl}
theorem o_fdivI {x y : Int} {Q : D → Prop} (h : y ≠ 0 ∧ y.natAbs < 2 ^ 30) (q : Q (.int (x.fdiv y))) : OrW (opFdiv (.int x) (.int y)) Q := .of (by rw [opFdiv, if_pos h]) q
theorem s_L3 :
    Sw L3 [y0, .frz (.tok 0), y2, y3, y4, y5, y6, .own (.dct []), y8, y9, y10, y11, y12, y13, y14, y15, y16, y17, y18, y19, y20] fun fl ρ => fl = .nx ∧ ∃ (L : List Pr) (ks : List Nat) (g : Nat → Int) (z8 z11 : Sl), ρ = [y0, .frz (.tok 0), y2, y3, y4, y5, y6, .own (dF D.int ks g), z8, y9, y10, z11, y12, y13, y14, y15, y16, y17, y18, y19, y20] ∧ Kv [] (fun _ => 0) 1 L ks g ∧ (∀ p ∈ L, p.2 = 1 ∧ 1 ≤ p.1 ∧ p.1 ≤ 9) ∧ L.length ≤ 6 := by
  refine sw_forD 6 (fun i ρ => ∃ (L : List Pr) (ks : List Nat) (g : Nat → Int) (z8 z11 : Sl), ρ = [y0, .frz (.tok 0), y2, y3, y4, y5, y6, .own (dF D.int ks g), z8, y9, y10, z11, y12, y13, y14, y15, y16, y17, y18, y19, y20] ∧ Kv [] (fun _ => 0) 1 L ks g ∧ (∀ p ∈ L, p.2 = 1 ∧ 1 ≤ p.1 ∧ p.1 ≤ 9) ∧ L.length ≤ i) ?_ ⟨[], [], fun _ => 0, _, _, rfl, ⟨by simp, by simp [fls], by simp, fun _ _ => rfl⟩, by simp, Nat.le_refl _⟩ ?_ fun i ρ hi h => ?_
  · refine iw_rangeD (by omega) (aw_cons (ew_call (aw_cons (ew_var (d := .tok 0) rfl (aw_cons (ew_con (aw_nil ?_)))))))
    exact fw_drawN (n := 7) (by omega) (by omega) fun z hz => aw_nil ⟨z, rfl, by omega⟩
  · rintro i d _ hi ⟨L, ks, g, z8, z11, rfl, hk, hL, hl⟩
    refine ⟨_, rfl, ?_⟩
    refine sw_seq (sw_set (ew_bin (ew_con (ew_call (aw_cons (ew_var (d := .tok 0) rfl (aw_cons (ew_con (aw_nil ?_)))))))))
    refine fw_drawN (n := 9) (by omega) (by omega) fun f hf => ?_
    refine .of (r := nE (f + 1)) (by show some (D.int (1 + (f : Int))) = some (.int ((f + 1 : Nat) : Int)); congr 2; omega) ?_
    have hlen := hk.len (fun f h => by cases h) fun f hf => by
      obtain ⟨p, hp, rfl⟩ := List.mem_map.mp hf
      have := (hL p hp).2.2
      omega
    refine sw_dputF (e := D.int) rfl (by omega) (ew_bin (ew_fn (aw_cons (ew_borO (d := dF D.int ks g) rfl (aw_cons (ew_bor (d := nE (f + 1)) rfl (aw_cons (ew_con (aw_nil (o_getF3 ?_))))))))))
    rw [hk.get (f + 1)]
    refine ew_con (o_addI ⟨_, rfl, ew_bor (d := nE (f + 1)) rfl ⟨f + 1, rfl, ?_⟩⟩)
    refine ⟨L ++ [(f + 1, 1)], _, _, _, _, rfl, hk.step (f + 1, 1) (by show (0 : Int) + 1 * ((atF (f + 1) L : Nat) : Int) + 1 = 0 + 1 * ((atF (f + 1) L : Nat) : Int) + 1 * ((1 : Nat) : Int); omega), fun p hp => ?_, by rw [List.length_append, List.length_singleton]; omega⟩
    rcases List.mem_append.mp hp with hp | hp
    · exact hL p hp
    · rw [List.mem_singleton] at hp
      rw [hp]
      exact ⟨rfl, by show 1 ≤ f + 1; omega, by show f + 1 ≤ 9; omega⟩
  · obtain ⟨L, ks, g, z8, z11, e, h1, h2, h3⟩ := h
    exact ⟨rfl, L, ks, g, z8, z11, e, h1, h2, by omega⟩
/-- floors.extend([floor] * number) for all groups -/
theorem s_L6 {gs : List Pr} (hn : ∀ p ∈ gs, p.2 ≤ 200) (hl : gs.length ≤ 60) :
    Sw L6 [y0, .frz (.tok 0), y2, y3, y4, y5, y6, y7, y8, .frz (eRd gs), .own (.lst []), y11, y12, y13, y14, y15, y16, y17, y18, y19, y20] fun fl ρ => fl = .nx ∧ ∃ z11 z12 : Sl, ρ = [y0, .frz (.tok 0), y2, y3, y4, y5, y6, y7, y8, .frz (eRd gs), .own (lN (ex gs)), z11, z12, y13, y14, y15, y16, y17, y18, y19, y20] := by
  refine sw_forP gs eF (fun pre ρ => ∃ z11 z12 : Sl, ρ = [y0, .frz (.tok 0), y2, y3, y4, y5, y6, y7, y8, .frz (eRd gs), .own (lN (ex pre)), z11, z12, y13, y14, y15, y16, y17, y18, y19, y20]) ?_ ⟨_, _, rfl⟩ ?_ fun ρ h => ⟨rfl, h⟩
  · exact iw_seq (ew_var (d := eRd gs) rfl (x_itT rfl))
  · rintro pre p post _ hx ⟨z11, z12, rfl⟩
    have hp : p ∈ gs := by rw [hx]; simp
    have hpl := hn p hp
    have hb : (ex pre).length ≤ 200 * pre.length := by
      have : ∀ ps : List Pr, (∀ q ∈ ps, q.2 ≤ 200) → (ex ps).length ≤ 200 * ps.length := fun ps => by
        induction ps with
        | nil => intro _; exact Nat.le_refl _
        | cons q ps ih =>
          intro h
          have h1 := ih fun x hx => h x (by simp [hx])
          have h2 := h q (by simp)
          rw [show q :: ps = [q] ++ ps from rfl, ex_app, ex_one, List.length_append, List.length_replicate]
          simp only [List.length_append, List.length_cons, List.length_nil]
          omega
      exact this pre fun q hq => hn q (by rw [hx]; simp [hq])
    have hpre : pre.length ≤ 60 := by
      have := congrArg List.length hx
      rw [List.length_append] at this
      omega
    refine ⟨_, rfl, ?_⟩
    refine sw_exprM (mw_ext (e := nE) (xs := ex pre) rfl (ew_bin (ew_lst (aw_cons (ew_var (d := nE p.1) rfl (aw_nil (ew_bor (d := nE p.2) rfl (o_mulRepL (by omega) ⟨List.replicate p.2 p.1, rfl, by rw [List.length_replicate]; omega, ?_⟩))))))))
    have e : ex pre ++ List.replicate p.2 p.1 = ex (pre ++ [p]) := by rw [ex_app, ex_one]
    exact ⟨_, _, by rw [e]; rfl⟩
theorem w_due {xs : List Nat} {k : Nat} {Q : D → Prop} (hk : 1 ≤ k) (hk2 : k ≤ 1000) (q : Q (nE (due 60 k xs))) : Ew (eFn sumD (aCons (eLc (iRange (aCons (eCon (.int 1)) (aCons (eCon (.int 61)) (aNil)))) (gNm 19) (tYes') (eBin opMul (eCon (.int 2)) (eUn opNeg (eBin opFdiv (eUn opNeg (eFn lenD (aCons (eLc (iSeq (eBor 10)) (gNm 11) (tBl (eBin opGe (eBor 11) (eBor 19))) (eVar 11) [11]) aNil))) (eBor 4)))) [19]) aNil)) [y0, .frz (.tok 0), y2, y3, .frz (nE k), y5, y6, y7, y8, y9, .own (lN xs), y11, y12, y13, y14, y15, y16, y17, y18, y19, y20] Q := by
  refine ew_fn (aw_cons (ew_lcM' (xs := List.range 60) (enc := fun i => .int ((1 + i : Nat) : Int)) (res := fun i => .int ((2 * cdiv (abv (1 + i) xs) k : Nat) : Int)) ?_ (fun i hi => ⟨_, rfl, ?_⟩) (aw_nil (o_sum (p := fun i => ((2 * cdiv (abv (1 + i) xs) k : Nat) : Int)) ?_))))
  · exact iw_range2 (aw_cons (ew_con (aw_cons (ew_con (aw_nil ⟨_, _, _, rfl, rangeD_two (a := 1) (b := 61) (by omega) (by omega), rfl⟩)))))
  · refine ew_bin (ew_con (ew_un (ew_bin (ew_un (ew_fn (aw_cons (ew_lc (xs := xs) (enc := nE) (p := fun x => decide (1 + i ≤ x)) (res := nE) (iw_seq (ew_borO (d := lN xs) rfl (x_itL rfl))) (fun x hx => ⟨_, rfl, ?_⟩) (aw_nil (o_lenLm (o_negI (ew_bor (d := nE k) rfl (o_fdivI ⟨by omega, by omega⟩ (o_negI ?_)))))))))))))
    · exact tw_bl (ew_bin (ew_bor (d := nE x) rfl (ew_bor (d := nE (1 + i)) rfl (o_geN ⟨_, rfl, rfl, fun _ => ew_var (d := nE x) rfl rfl⟩))))
    · have e : -((-(((xs.filter fun x => decide (1 + i ≤ x)).length : Nat) : Int)).fdiv (k : Int)) = ((cdiv (abv (1 + i) xs) k : Nat) : Int) := neg_ceil hk
      rw [e]
      exact o_mulI mul_ok2 rfl
  · have e : ((List.range 60).map fun i => ((2 * cdiv (abv (1 + i) xs) k : Nat) : Int)).sum = ((due 60 k xs : Nat) : Int) := by
      unfold due sumF
      generalize List.range 60 = is
      induction is with
      | nil => rfl
      | cons i is ih => simp only [List.map_cons, List.sum_cons, ih, Nat.add_comm 1 i]; omega
    rw [e]; exact q
end
end K78

set_option maxHeartbeats 1000000
/-! k78: what holds of rides -/
namespace K78
open Sv
open PySem (Str PyData)
theorem count_ex (f : Nat) : ∀ ps : List Pr, (ex ps).count f = atF f ps
  | [] => rfl
  | p :: ps => by
    rw [show p :: ps = [p] ++ ps from rfl, ex_app, List.count_append, count_ex f ps, atF_app, ex_one, atF_one, List.count_replicate]
    by_cases h : p.1 = f
    · simp [h]
    · have : ¬ (p.1 == f) = true := by simpa using h
      simp [h]
theorem ex_flat : ∀ rs : List (List Pr), ex rs.flatten = (rs.map ex).flatten
  | [] => rfl
  | r :: rs => by rw [List.flatten_cons, ex_app, ex_flat rs]; rfl
theorem blk_perm : ∀ rs : List (List Pr), (blk rs).flatten.Perm (ex rs.flatten)
  | [] => List.Perm.refl _
  | r :: rs => by
    rw [List.flatten_cons, ex_app]
    show ((ex r.reverse) ++ (blk rs).flatten).Perm _
    exact (ex_rev r).append (blk_perm rs)
theorem lastF_mx {r : List Pr} (hl : Ld r) (hne : r ≠ []) : lastF r = mx (ex r.reverse) := by
  rw [mx_ride hl hne]
  unfold lastF
  rw [List.getLast?_eq_some_getLast hne]; rfl
theorem lastF_mx2 {r : List Pr} (hl : Ld r) (hne : r ≠ []) : lastF r = mx (ex r) := by
  rw [lastF_mx hl hne, mx_perm (ex_rev r)]
theorem time_mx {rs : List (List Pr)} {w : List Pr → List Nat} (h : ∀ r ∈ rs, lastF r = mx (w r)) : timeN rs = 2 * ((rs.map w).map mx).sum := by
  unfold timeN
  induction rs with
  | nil => rfl
  | cons r rs ih =>
    rw [List.map_cons, List.sum_cons, ih fun x hx => h x (by simp [hx]), List.map_cons, List.map_cons, List.sum_cons, h r (by simp)]
    omega
section
variable {k : Nat} {gs : List Pr}
theorem fls_ex {ps : List Pr} (h : ∀ p ∈ ps, 1 ≤ p.2) {x : Nat} : x ∈ ex ps ↔ x ∈ fls ps := by
  rw [mem_ex, fls, List.mem_map]
  exact ⟨fun ⟨p, hp, e, _⟩ => ⟨p, hp, e⟩, fun ⟨p, hp, e⟩ => ⟨p, hp, e, h p hp⟩⟩
theorem told_ok (hk : 1 ≤ k) (hg : Gr gs) {rs : List (List Pr)} (h : Told k gs rs) : ∀ r ∈ rs, (∀ p ∈ r, POk k p) ∧ sumN r ≤ k := fun r hr => by
  have hl := full_len hk h.full (ex r.reverse) (List.mem_map.mpr ⟨r, hr, rfl⟩)
  have hs : sumN r ≤ k := by
    have := (ex_rev r).length_eq
    rw [ex_len r] at this
    omega
  refine ⟨fun p hp => ?_, hs⟩
  have h1 := (h.ld r hr).pos p hp
  have hx : p.1 ∈ ex r.reverse := mem_ex.mpr ⟨p, List.mem_reverse.mpr hp, rfl, h1⟩
  have h2 : p.1 ∈ ex gs.reverse := by
    rw [← h.flat]
    exact List.mem_flatten.mpr ⟨_, List.mem_map.mpr ⟨r, hr, rfl⟩, hx⟩
  obtain ⟨q, hq, e, _⟩ := mem_ex.mp h2
  have h3 := hg.ok q (List.mem_reverse.mp hq)
  have h4 : p.2 ≤ sumN r := by
    unfold sumN
    have : ∀ r : List Pr, p ∈ r → p.2 ≤ (r.map Prod.snd).sum := fun r => by
      induction r with
      | nil => intro h; cases h
      | cons q r ih =>
        intro h
        rw [List.map_cons, List.sum_cons]
        rcases List.mem_cons.mp h with e | h
        · subst e; omega
        · have := ih h; omega
    exact this r hp
  exact ⟨by have := h3.f1; omega, by have := h3.f60; omega, h1, by omega⟩
theorem told_rides (hk : 1 ≤ k) (hg : Gr gs) {rs : List (List Pr)} (h : Told k gs rs) : ridesB gs k (.tup (rs.map eRd)) = true := by
  have ho := told_ok hk hg h
  show ((rs.map eRd).all (rideB k) && balB gs ((rs.map eRd).map toL).flatten) = true
  have e1 : (rs.map eRd).map toL = rs := by
    rw [List.map_map]
    conv => rhs; rw [← List.map_id rs]
    exact List.map_congr_left fun r _ => toL_eRd r
  rw [e1, Bool.and_eq_true]
  refine ⟨?_, ?_⟩
  · rw [List.all_map, List.all_eq_true]
    intro r hr
    show rideB k (eRd r) = true
    unfold rideB
    rw [toL_eRd, load_eF (ho r hr).1 (h.ld r hr).asc, decide_eq_true (ho r hr).2]
    have := h.ne r hr
    cases r with
    | nil => exact absurd rfl this
    | cons a b => rfl
  · unfold balB
    rw [List.all_eq_true]
    intro f _
    refine decide_eq_true ?_
    rw [← count_ex, ← count_ex, ← (blk_perm rs).count_eq f, h.flat, (ex_rev gs).count_eq f]
theorem told_time (hk : 1 ≤ k) (hg : Gr gs) {rs : List (List Pr)} (h : Told k gs rs) : timeN rs = due 60 k (ex gs) := by
  have ho := told_ok hk hg h
  rw [time_mx (w := fun r => ex r.reverse) fun r hr => lastF_mx (h.ld r hr) (h.ne r hr)]
  have hd : Desc (blk rs).flatten := by
    rw [h.flat]
    exact ex_desc (by rw [List.pairwise_reverse]; exact hg.asc)
  rw [due_full (N := 60) hk h.full hd fun b hb => ?_, h.flat, due_perm (ex_rev gs)]
  obtain ⟨r, hr, rfl⟩ := List.mem_map.mp hb
  by_cases he : ex r.reverse = []
  · rw [he]; exact Nat.zero_le _
  · obtain ⟨p, hp, e, _⟩ := mem_ex.mp (mx_mem he)
    have := ((ho r hr).1 p (List.mem_reverse.mp hp)).f60
    omega
theorem told_num (hk : 1 ≤ k) {rs : List (List Pr)} (h : Told k gs rs) : rs.length = cdiv (ex gs).length k := by
  have := full_num hk h.full
  rw [List.length_map, h.flat, (ex_rev gs).length_eq] at this
  exact this
theorem rides_typed {v : D} (h : ridesB gs k v = true) : ∃ rs : List (List Pr), v = .tup (rs.map eRd) ∧ (∀ r ∈ rs, r ≠ [] ∧ Ld r ∧ (∀ p ∈ r, POk k p) ∧ sumN r ≤ k) ∧ balB gs rs.flatten = true := by
  unfold ridesB at h
  split at h
  · rename_i vs
    rw [Bool.and_eq_true] at h
    have hload : vs.all (loadB k) = true := List.all_eq_true.mpr fun d hd => by
      have := List.all_eq_true.mp h.1 d hd
      unfold rideB at this
      rw [Bool.and_eq_true] at this
      exact this.1
    obtain ⟨h2, h3⟩ := loads_of hload
    refine ⟨vs.map toL, by rw [← h2], fun r hr => ?_, h.2⟩
    obtain ⟨d, hd, rfl⟩ := List.mem_map.mp hr
    have h4 := List.all_eq_true.mp h.1 d hd
    unfold rideB at h4
    rw [Bool.and_eq_true, Bool.and_eq_true] at h4
    refine ⟨fun e => ?_, (h3 _ hr).2, (h3 _ hr).1, of_decide_eq_true h4.2.2⟩
    rw [e] at h4
    exact absurd h4.2.1 (by decide)
  · cases h
theorem rides_time (hk : 1 ≤ k) {rs : List (List Pr)} (h : ∀ r ∈ rs, r ≠ [] ∧ Ld r ∧ (∀ p ∈ r, POk k p) ∧ sumN r ≤ k) (hb : balB gs rs.flatten = true) : due 60 k (ex gs) ≤ timeN rs := by
  have hp : (rs.map ex).flatten.Perm (ex gs) := by
    rw [← ex_flat]
    refine List.perm_iff_count.mpr fun f => ?_
    rw [count_ex, count_ex]
    by_cases hf : f ∈ fls (gs ++ rs.flatten)
    · exact (of_decide_eq_true (List.all_eq_true.mp hb f hf)).symm
    · have h1 : f ∉ fls gs := fun z => hf (by rw [fls, List.map_append, List.mem_append]; exact .inl z)
      have h2 : f ∉ fls rs.flatten := fun z => hf (by rw [fls, List.map_append, List.mem_append]; exact .inr z)
      rw [atF_none h1, atF_none h2]
  rw [← due_perm hp, time_mx (w := ex) fun r hr => lastF_mx2 (h r hr).2.1 (h r hr).1]
  refine due_le hk fun b hb => ?_
  obtain ⟨r, hr, rfl⟩ := List.mem_map.mp hb
  refine ⟨by rw [ex_len]; exact (h r hr).2.2.2, ?_⟩
  by_cases he : ex r = []
  · rw [he]; exact Nat.zero_le _
  · obtain ⟨p, hp, e, _⟩ := mem_ex.mp (mx_mem he)
    have := ((h r hr).2.2.1 p hp).f60
    omega
/-- the least of all ways -/
theorem ways_min (hk : 1 ≤ k) (hg : Gr gs) {rows : List Row} (h : Rows k (ex gs) rows) : rows.map (fun A => ((2 * (A.map mx).sum : Nat) : Int)) ≠ [] ∧ minI (rows.map fun A => ((2 * (A.map mx).sum : Nat) : Int)) = ((due 60 k (ex gs) : Nat) : Int) := by
  have told := greedy_told hk hg.asc
  obtain ⟨h1, h2⟩ := told_pt hk told
  have hin := h.all _ h1 h2
  have hsum : 2 * ((srtT ((blk (greedy k gs)).map List.reverse)).map mx).sum = due 60 k (ex gs) := by
    rw [msum_perm (srt_perm _), msum_rev, ← told_time hk hg told, time_mx (w := fun r => ex r.reverse) fun r hr => lastF_mx (told.ld r hr) (told.ne r hr)]
  have hge : ∀ A ∈ rows, due 60 k (ex gs) ≤ 2 * (A.map mx).sum := fun A hA => by
    have hs := h.sound A hA
    rw [← due_perm hs.perm]
    refine due_le hk fun b hb => ⟨hs.le b hb, ?_⟩
    have hx := mx_mem (hs.ne b hb)
    have : mx b ∈ ex gs := hs.perm.mem_iff.mp (List.mem_flatten.mpr ⟨b, hb, hx⟩)
    obtain ⟨p, hp, e, _⟩ := mem_ex.mp this
    have := (hg.ok p hp).f60
    omega
  have hmem : ((due 60 k (ex gs) : Nat) : Int) ∈ rows.map fun A => ((2 * (A.map mx).sum : Nat) : Int) := List.mem_map.mpr ⟨_, hin, by rw [hsum]⟩
  refine ⟨fun e => (by rw [e] at hmem; cases hmem), ?_⟩
  generalize hxs : (rows.map fun A => ((2 * (A.map mx).sum : Nat) : Int)) = xs at hmem
  have hall : ∀ x ∈ xs, ((due 60 k (ex gs) : Nat) : Int) ≤ x := fun x hx => by
    rw [← hxs] at hx
    obtain ⟨A, hA, rfl⟩ := List.mem_map.mp hx
    have := hge A hA
    omega
  cases xs with
  | nil => cases hmem
  | cons x xs =>
    obtain ⟨h3, h4⟩ := minI_spec (n := x) (ns := xs)
    have h5 := h4 _ hmem
    have h6 := hall _ h3
    omega
end
end K78

set_option maxHeartbeats 1000000
/-! k78: the law's loops over values -/
namespace K78
open Sv
open PySem (Str PyData)
local macro_rules | `(tactic| walk_at "v1") => `(tactic| first | with_reducible (first | refine sw_seq ?_ | refine sw_set ?_ | refine sw_new ?_ | refine sw_asg ?_ | refine sw_rt ?_ | refine sw_ret ?_ | refine sw_ifB ?_ | refine sw_par ?_ | refine sw_nx ?_ | refine sw_exprM ?_ | refine kw_nil ?_ | refine kw_frz ?_ | refine kw_new ?_ | refine ew_con ?_ | refine ew_bin ?_ | refine ew_un ?_ | refine ew_tup ?_ | refine ew_lst ?_ | refine ew_fn ?_ | refine ew_call ?_ | refine ew_callO ?_ | refine ew_not ?_ | refine ew_chain ?_ | refine ew_slice ?_ | refine ow_none ?_ | refine ow_some ?_ | refine tw_bl ?_ | refine tw_of ?_ | refine tw_not ?_ | refine tw_yes ?_ | refine aw_nil ?_ | refine aw_cons ?_ | refine iw_seq ?_ | refine iw_enum ?_ | refine iw_zip ?_ | refine iw_rangeI ?_ | (apply ew_andC) | (apply ew_orC) | (apply tw_andC) | (apply tw_orC) | (apply ew_lcM') | (apply ew_lc') | exact rfl | exact cut_last _ _ | exact mapI _) | ((with_reducible apply ew_var); exact rfl) | ((with_reducible apply ew_bor); exact rfl) | ((with_reducible apply ew_borO); exact rfl) | with_reducible (first | refine o_eqN ?_ | refine o_neN ?_ | refine o_ltN ?_ | refine o_gtN ?_ | refine o_leN ?_ | refine o_geN ?_ | refine o_inN ?_ | refine o_ninN ?_ | refine o_inNL ?_ | refine o_ninNL ?_ | refine o_lenTm ?_ | refine o_lenLm ?_ | refine o_addN ?_ | refine o_addN1 ?_ | refine o_subN (by first | assumption | omega) ?_ | refine o_subN1 (by first | assumption | omega) ?_ | refine o_sumI ?_ | refine o_sumTI ?_ | refine o_ix0 ?_ | refine o_ix1 ?_ | refine o_ix2 ?_ | refine o_ix3 ?_ | refine o_ixT0 ?_ ?_ | refine o_ixL0 ?_ ?_ | refine o_ixT1 ?_ ?_ | refine o_isTupT ?_ | refine o_ixTN ?_ ?_ | refine o_ixTI ?_ ?_ | refine o_ixLN ?_ ?_ | refine o_ixLI ?_ ?_ | refine o_ixTG ?_ ?_ | refine o_ixLG ?_ ?_ | refine o_ixTD0 ?_ ?_ | refine o_ixTD1 ?_ ?_ | refine o_ixTD2 ?_ ?_ | refine o_ixTD ?_ ?_ | refine o_ixLD ?_ ?_) | with_reducible (first | refine o_eqI ?_ | refine o_neI ?_ | refine o_lt ?_ | refine o_gt ?_ | refine o_le ?_ | refine o_ge ?_ | refine o_all ?_ | refine o_any ?_ | refine o_sum ?_ | refine o_addI ?_ | refine o_subI ?_ | refine o_lenT ?_ | refine o_lenL ?_ | refine o_tupL ?_ | refine o_tupT ?_ | refine o_listL ?_ | refine o_listT ?_ | refine o_negI ?_ | refine o_intI ?_ | refine o_slT ?_ | refine o_slL ?_ | refine o_revT ?_ | refine o_revL ?_ | refine x_n ?_ | refine x_int ?_ | refine x_bl ?_ | refine x_tb ?_ | refine x_itT ?_ | refine x_itL ?_ | refine x_rt ?_ | refine rngQ ?_ ?_ | refine x_trT ?_ | refine x_trL ?_ | refine x_tri ?_ | refine o_max2 ?_ | refine o_min2 ?_ | refine o_addTs ?_ ?_ | refine o_addLs ?_ ?_) | (with_reducible refine And.intro ?_ ?_) | refine dec_imp fun _ => ?_ | refine decF_imp fun _ => ?_ | with_reducible (first | refine ndF_imp fun _ => ?_ | refine ndT_imp fun _ => ?_ | refine nF_imp ?_ | refine nT_imp ?_ | refine orF_imp ?_ | refine andT_imp ?_) | refine tr_imp fun _ => ?_ | refine fa_imp fun _ => ?_ | (intro x hx; refine Exists.intro _ (And.intro rfl ?_); try (have hx := List.mem_range.mp hx)) | (refine sd_lt ?_; first | assumption | omega | (simp only [List.length_map, List.length_range, List.length_cons, List.length_nil, List.length_append, List.length_set] at *; omega)) | (refine sd_le ?_; first | assumption | omega | (simp only [List.length_map, List.length_range, List.length_cons, List.length_nil, List.length_append, List.length_set] at *; omega)))
local macro_rules | `(tactic| walk_at "v") => `(tactic| (repeat' (walk_at "v1")))
theorem gdc {xs : List D} (h : gd (.tup xs) = true) (lo hi : Option Int) : gd (.tup (cutD xs lo hi)) = true := gd_cutD h
theorem gda {xs ys : List D} (h1 : gd (.tup xs) = true) (h2 : gd (.tup ys) = true) (hl : xs.length + ys.length ≤ 1000000) : gd (.tup (xs ++ ys)) = true := gd_appT (gd_tup.mp h1).2 (gd_tup.mp h2).2 hl
theorem gdr {xs : List D} (h : gd (.tup xs) = true) : gd (.tup xs.reverse) = true := gd_tup.mpr ⟨by rw [List.length_reverse]; exact (gd_tup.mp h).1, fun d hd => (gd_tup.mp h).2 d (List.mem_reverse.mp hd)⟩
theorem gd1 {a : D} (h1 : gd a = true) : gd (.tup [a]) = true := gd_tup.mpr ⟨by simp, fun d hd => by
  rw [List.mem_singleton] at hd
  rw [hd]; exact h1⟩
def G (v : D) : Prop := gd v = true
theorem g_all0 : ∀ v ∈ ([] : List D), G v := fun v h => by cases h
theorem g_allC {d : D} {ds : List D} (h : gd d = true) (t : ∀ v ∈ ds, G v) : ∀ v ∈ d :: ds, G v := fun v hv => by
  rcases List.mem_cons.mp hv with e | hv
  · rw [e]; exact h
  · exact t v hv
theorem bs_F {p : Pr} (h1 : p.1 ≤ 1000) (h2 : p.2 ≤ 1000) : bs (eF p) = true := bs_tup.mpr ⟨by simp, fun d hd => by
  simp only [List.mem_cons, List.not_mem_nil, or_false] at hd
  rcases hd with rfl | rfl
  · show decide (_ ≤ _) = true
    exact decide_eq_true (by show (p.1 : Int).natAbs ≤ _; omega)
  · show decide (_ ≤ _) = true
    exact decide_eq_true (by show (p.2 : Int).natAbs ≤ _; omega)⟩
theorem bs_Rd {r : List Pr} (hl : r.length ≤ 1000) (h : ∀ p ∈ r, p.1 ≤ 1000 ∧ p.2 ≤ 1000) : bs (eRd r) = true := bs_map hl fun p hp => bs_F (h p hp).1 (h p hp).2
theorem ld_len {k : Nat} {r : List Pr} (h : Ld r) (ho : ∀ p ∈ r, POk k p) : r.length ≤ 61 := by
  have := nodup_sub (fls r) (List.range 61) (ld_nodup h) fun f hf => by
    obtain ⟨p, hp, rfl⟩ := List.mem_map.mp hf
    have := (ho p hp).f60
    exact List.mem_range.mpr (by omega)
  rw [List.length_range, fls, List.length_map] at this
  exact this
theorem bs_rides {k : Nat} (hk2 : k ≤ 1000) {rs : List (List Pr)} (hl : rs.length ≤ 1000) (h : ∀ r ∈ rs, Ld r ∧ ∀ p ∈ r, POk k p) : bs (.tup (rs.map eRd)) = true := bs_map hl fun r hr => bs_Rd (by have := ld_len (h r hr).1 (h r hr).2; omega) fun p hp => by
  have := (h r hr).2 p hp
  exact ⟨by have := this.f60; omega, by have := this.n2; omega⟩
section
variable {y0 y2 y3 y4 y5 y6 y7 y8 y9 y10 y11 y12 y13 y14 y15 y16 y17 y18 y19 y20 : Sl} {Q : D → Prop}
theorem s_L15 {gs : List Pr} {k : Nat} {rs : List (List Pr)} {vs : List D} (hk : 1 ≤ k) (hg : Gr gs) (hb : bs (.tup (rs.map eRd)) = true) (hvs : ∀ v ∈ vs, G v) (hvl : vs.length ≤ 100) :
    Sw L15 [y0, .frz (.tok 0), y2, y3, .frz (nE k), y5, .frz (.tup (rs.map eRd)), y7, y8, .frz (eRd gs), y10, y11, y12, .frz (nE (due 60 k (ex gs))), y14, .frz (.lst vs), y16, y17, y18, y19, y20] fun fl ρ => fl = .nx ∧ ∃ z16 z17 : Sl, ρ = [y0, .frz (.tok 0), y2, y3, .frz (nE k), y5, .frz (.tup (rs.map eRd)), y7, y8, .frz (eRd gs), y10, y11, y12, .frz (nE (due 60 k (ex gs))), y14, .frz (.lst vs), z16, z17, y18, y19, y20] := by
  refine sw_forV G (fun ρ => ∃ z16 z17 : Sl, ρ = [y0, .frz (.tok 0), y2, y3, .frz (nE k), y5, .frz (.tup (rs.map eRd)), y7, y8, .frz (eRd gs), y10, y11, y12, .frz (nE (due 60 k (ex gs))), y14, .frz (.lst vs), z16, z17, y18, y19, y20]) ?_ ⟨_, _, rfl⟩ ?_ fun ρ h => ⟨rfl, h⟩
  · have hd : (D.tup (rs.map eRd)).dep ≤ 10 := Nat.le_trans (enc_eF.tup.tup.dep rs) (by omega)
    refine iw_seq (ew_bin (ew_bor (d := .lst vs) rfl ?_))
    refine ew_bents (m := 8) (v := .tup (rs.map eRd)) (fun {Q} q => w_lbent hb (by omega) fun w hw _ => q w hw) (by omega) hd ?_ ?_ fun rs2 hrl hrs => ?_
    · exact fun _ => rfl
    · exact fun d => ew_var (d := .tup (rs.map eRd)) rfl rfl
    · refine o_addLs (by omega) (x_itL fun w hw => ?_)
      rcases List.mem_append.mp hw with h | h
      · exact hvs w h
      · exact (hrs w h).1
  · rintro v _ hv ⟨z16, z17, rfl⟩
    refine ⟨_, rfl, ?_⟩
    refine sw_seq (sw_set (ew_call (aw_cons (ew_var (d := eRd gs) rfl (aw_cons (ew_var (d := nE k) rfl (aw_cons (ew_var (d := v) rfl (aw_nil (w_law_are_rides hg hv ?_))))))))))
    refine sw_ifB (tw_orF (tw_not (tw_of (ew_call (aw_cons (ew_call (aw_cons (ew_var (d := eRd gs) rfl (aw_cons (ew_var (d := nE k) rfl (aw_cons (ew_var (d := v) rfl (aw_nil (w_are_rides hg hv (aw_cons (ew_var (d := .bl (ridesB gs k v)) rfl (aw_nil (w_lsT rfl rfl (by simp [D.dep]) (x_tb ⟨rfl, ?_⟩)))))))))))))))))))
    cases hc : ridesB gs k v with
    | false =>
      refine tw_andF (tw_of (ew_bor (d := .bl (ridesB gs k v)) (by rw [hc]; rfl) (x_tb hc))) ?_
      exact brF rfl (sw_nx ⟨_, _, rfl⟩)
    | true =>
      obtain ⟨rs2, rfl, h1, h2⟩ := rides_typed hc
      have h3 := rides_time hk h1 h2
      refine tw_andT (tw_of (ew_bor (d := .bl true) rfl (x_tb ⟨rfl, ?_⟩)))
      refine tw_bl (ew_bin (ew_call (aw_cons (ew_var (d := .tup (rs2.map eRd)) rfl (aw_nil (w_time rfl (fun r hr => (h1 r hr).1) (ew_bor (d := nE (due 60 k (ex gs))) rfl (o_ltN ⟨_, rfl, ?_⟩))))))))
      exact brF (decide_eq_false (by omega)) (sw_nx ⟨_, _, rfl⟩)
theorem s_L19 {gs : List Pr} {vs : List D} (hb : bs (eRd gs) = true) (hvs : ∀ v ∈ vs, G v) (hvl : vs.length ≤ 100) :
    Sw L19 [y0, .frz (.tok 0), y2, y3, y4, y5, y6, y7, y8, .frz (eRd gs), y10, y11, y12, y13, y14, .frz (.lst vs), y16, y17, y18, y19, y20] fun fl ρ => fl = .nx ∧ ∃ z16 : Sl, ρ = [y0, .frz (.tok 0), y2, y3, y4, y5, y6, y7, y8, .frz (eRd gs), y10, y11, y12, y13, y14, .frz (.lst vs), z16, y17, y18, y19, y20] := by
  refine sw_forV G (fun ρ => ∃ z16 : Sl, ρ = [y0, .frz (.tok 0), y2, y3, y4, y5, y6, y7, y8, .frz (eRd gs), y10, y11, y12, y13, y14, .frz (.lst vs), z16, y17, y18, y19, y20]) ?_ ⟨_, rfl⟩ ?_ fun ρ h => ⟨rfl, h⟩
  · have hd : (eRd gs).dep ≤ 10 := Nat.le_trans (enc_eF.tup.dep gs) (by omega)
    refine iw_seq (ew_bin (ew_bor (d := .lst vs) rfl ?_))
    refine ew_bents (m := 5) (v := eRd gs) (fun {Q} q => w_lbent hb (by omega) fun w hw _ => q w hw) (by omega) hd ?_ ?_ fun rs2 hrl hrs => ?_
    · exact fun _ => rfl
    · exact fun d => ew_var (d := eRd gs) rfl rfl
    · refine o_addLs (by omega) (x_itL fun w hw => ?_)
      rcases List.mem_append.mp hw with h | h
      · exact hvs w h
      · exact (hrs w h).1
  · rintro v _ hv ⟨z16, rfl⟩
    refine ⟨_, rfl, ?_⟩
    refine sw_ifB (tw_not (tw_of (ew_call (aw_cons (ew_call (aw_cons (ew_var (d := v) rfl (aw_nil (w_are_groups hv (aw_cons ?_))))))))))
    refine w_len12 (v := v) (k := 16) (fun Q q => ew_call (aw_cons (ew_var (d := v) rfl (aw_cons (ew_con (aw_nil (w_law_is_load (most := 200) hv q))))))) rfl (aw_nil (w_lsT rfl rfl (by simp [D.dep]) (x_tb ?_)))
    exact brF rfl (sw_nx ⟨_, rfl⟩)
end
end K78

set_option maxHeartbeats 1000000
/-! k78: the whole -/
namespace K78
open Sv
open PySem (Str PyData)
local macro_rules | `(tactic| walk_at "v1") => `(tactic| first | with_reducible (first | refine sw_seq ?_ | refine sw_set ?_ | refine sw_new ?_ | refine sw_asg ?_ | refine sw_rt ?_ | refine sw_ret ?_ | refine sw_ifB ?_ | refine sw_par ?_ | refine sw_nx ?_ | refine sw_exprM ?_ | refine kw_nil ?_ | refine kw_frz ?_ | refine kw_new ?_ | refine ew_con ?_ | refine ew_bin ?_ | refine ew_un ?_ | refine ew_tup ?_ | refine ew_lst ?_ | refine ew_fn ?_ | refine ew_call ?_ | refine ew_callO ?_ | refine ew_not ?_ | refine ew_chain ?_ | refine ew_slice ?_ | refine ow_none ?_ | refine ow_some ?_ | refine tw_bl ?_ | refine tw_of ?_ | refine tw_not ?_ | refine tw_yes ?_ | refine aw_nil ?_ | refine aw_cons ?_ | refine iw_seq ?_ | refine iw_enum ?_ | refine iw_zip ?_ | refine iw_rangeI ?_ | (apply ew_andC) | (apply ew_orC) | (apply tw_andC) | (apply tw_orC) | (apply ew_lcM') | (apply ew_lc') | exact rfl | exact cut_last _ _ | exact mapI _) | ((with_reducible apply ew_var); exact rfl) | ((with_reducible apply ew_bor); exact rfl) | ((with_reducible apply ew_borO); exact rfl) | with_reducible (first | refine o_eqN ?_ | refine o_neN ?_ | refine o_ltN ?_ | refine o_gtN ?_ | refine o_leN ?_ | refine o_geN ?_ | refine o_inN ?_ | refine o_ninN ?_ | refine o_inNL ?_ | refine o_ninNL ?_ | refine o_lenTm ?_ | refine o_lenLm ?_ | refine o_addN ?_ | refine o_addN1 ?_ | refine o_subN (by first | assumption | omega) ?_ | refine o_subN1 (by first | assumption | omega) ?_ | refine o_sumI ?_ | refine o_sumTI ?_ | refine o_ix0 ?_ | refine o_ix1 ?_ | refine o_ix2 ?_ | refine o_ix3 ?_ | refine o_ixT0 ?_ ?_ | refine o_ixL0 ?_ ?_ | refine o_ixT1 ?_ ?_ | refine o_isTupT ?_ | refine o_ixTN ?_ ?_ | refine o_ixTI ?_ ?_ | refine o_ixLN ?_ ?_ | refine o_ixLI ?_ ?_ | refine o_ixTG ?_ ?_ | refine o_ixLG ?_ ?_ | refine o_ixTD0 ?_ ?_ | refine o_ixTD1 ?_ ?_ | refine o_ixTD2 ?_ ?_ | refine o_ixTD ?_ ?_ | refine o_ixLD ?_ ?_) | with_reducible (first | refine o_eqI ?_ | refine o_neI ?_ | refine o_lt ?_ | refine o_gt ?_ | refine o_le ?_ | refine o_ge ?_ | refine o_all ?_ | refine o_any ?_ | refine o_sum ?_ | refine o_addI ?_ | refine o_subI ?_ | refine o_lenT ?_ | refine o_lenL ?_ | refine o_tupL ?_ | refine o_tupT ?_ | refine o_listL ?_ | refine o_listT ?_ | refine o_negI ?_ | refine o_intI ?_ | refine o_slT ?_ | refine o_slL ?_ | refine o_revT ?_ | refine o_revL ?_ | refine x_n ?_ | refine x_int ?_ | refine x_bl ?_ | refine x_tb ?_ | refine x_itT ?_ | refine x_itL ?_ | refine x_rt ?_ | refine rngQ ?_ ?_ | refine x_trT ?_ | refine x_trL ?_ | refine x_tri ?_ | refine o_max2 ?_ | refine o_min2 ?_ | refine o_addTs ?_ ?_ | refine o_addLs ?_ ?_) | (with_reducible refine And.intro ?_ ?_) | refine dec_imp fun _ => ?_ | refine decF_imp fun _ => ?_ | with_reducible (first | refine ndF_imp fun _ => ?_ | refine ndT_imp fun _ => ?_ | refine nF_imp ?_ | refine nT_imp ?_ | refine orF_imp ?_ | refine andT_imp ?_) | refine tr_imp fun _ => ?_ | refine fa_imp fun _ => ?_ | (intro x hx; refine Exists.intro _ (And.intro rfl ?_); try (have hx := List.mem_range.mp hx)) | (refine sd_lt ?_; first | assumption | omega | (simp only [List.length_map, List.length_range, List.length_cons, List.length_nil, List.length_append, List.length_set] at *; omega)) | (refine sd_le ?_; first | assumption | omega | (simp only [List.length_map, List.length_range, List.length_cons, List.length_nil, List.length_append, List.length_set] at *; omega)))
local macro_rules | `(tactic| walk_at "v") => `(tactic| (repeat' (walk_at "v1")))
section
variable {y2 y3 y4 y5 y6 y7 y8 y9 y10 y11 y12 y13 y14 y15 y16 y17 y18 y19 y20 : Sl}
/-- behind the groups: all of a turn -/
theorem s_rest {gs : List Pr} {k : Nat} (hk : 1 ≤ k) (hk2 : k ≤ 4) (hg : Gr gs) (hl : (ex gs).length ≤ 6) :
    Sw (sSeq (L7) (sSeq (L8) (sSeq (sSeq (sFz 10) (L9)) (sSeq (L10) (sSeq (L11) (sSeq (L12) (sSeq (L15) (sSeq (L16) (sSeq (L17) (sSeq (L19) (sSeq (L20) (L21)))))))))))) [.emp, .frz (.tok 0), y2, y3, .frz (nE k), y5, y6, y7, y8, .frz (eRd gs), .own (lN (ex gs)), y11, y12, y13, y14, y15, y16, y17, y18, y19, y20] fun fl ρ => fl = .nx ∧ ∃ z2 z3 z4 z5 z6 z7 z8 z9 z10 z11 z12 z13 z14 z15 z16 z17 z18 z19 z20 : Sl, ρ = [.emp, .frz (.tok 0), z2, z3, z4, z5, z6, z7, z8, z9, z10, z11, z12, z13, z14, z15, z16, z17, z18, z19, z20] := by
  have told := greedy_told hk hg.asc
  have htime := told_time hk hg told
  have hnum := told_num hk told
  have hok := told_ok hk hg told
  have hsum : sumN gs ≤ 90000 := by rw [← ex_len]; omega
  have hgl := hg.len
  have hrl : (greedy k gs).length ≤ 6 := by
    rw [hnum]
    exact cdiv_le hk (Nat.le_trans hl (Nat.le_mul_of_pos_right 6 hk))
  have hbr : bs (.tup ((greedy k gs).map eRd)) = true := bs_rides (k := k) (by omega) (by omega) fun r hr => ⟨told.ld r hr, (hok r hr).1⟩
  have hbg : bs (eRd gs) = true := bs_Rd (by omega) fun p hp => by
    have := hg.ok p hp
    exact ⟨by have := this.f60; omega, by have := this.n2; omega⟩
  have hgr := bs_gd _ hbr
  have hgg := bs_gd _ hbg
  refine sw_seq (sw_asg (ew_call (aw_cons (ew_var (d := eRd gs) rfl (aw_cons (ew_var (d := nE k) rfl (aw_nil (w_least hk hg.ld hsum fun _ => ⟨_, rfl, ?_⟩))))))))
  rw [htime]
  refine sw_seq (sw_set (w_due (xs := ex gs) hk (by omega) ?_))
  refine sw_seq (sw_seq (sw_fz (d := lN (ex gs)) rfl ?_))
  -- time, bound, all ways
  refine sw_if_noE (tw_orF (tw_not (tw_of (ew_call (aw_cons (ew_tup (aw_cons (ew_var (d := nE (due 60 k (ex gs))) rfl (aw_cons (ew_call (aw_cons (ew_var (d := eRd gs) rfl (aw_cons (ew_var (d := nE k) rfl (aw_nil (w_floor_bound hk (by omega) (aw_nil (aw_cons (ew_tup (aw_cons (ew_var (d := nE (due 60 k (ex gs))) rfl (aw_cons (ew_var (d := nE (due 60 k (ex gs))) rfl (aw_nil (aw_nil (w_lsT rfl rfl (by simp [D.dep, D.depL]) (x_tb ⟨rfl, ?_⟩)))))))))))))))))))))))))))
  refine tw_bl (ew_bin (ew_fn (aw_cons (ew_call (aw_cons (ew_var (d := lN (ex gs)) rfl (aw_cons (ew_var (d := nE k) rfl (aw_nil (w_law_ways hk ?_ hl fun rows hrows => aw_nil ?_))))))))))
  · have h1 := ex_desc (ps := gs.reverse) (by rw [List.pairwise_reverse]; exact hg.asc)
    have h2 : Asn (ex gs.reverse).reverse := by unfold Asn; rw [List.pairwise_reverse]; exact h1.imp fun h => h
    have h3 : ∀ ps : List Pr, (ex ps.reverse).reverse = ex ps := fun ps => by
      induction ps with
      | nil => rfl
      | cons p ps ih =>
        rw [List.reverse_cons, ex_app, List.reverse_append, ih, ex_one, List.reverse_replicate]
        rw [show p :: ps = [p] ++ ps from rfl, ex_app, ex_one]
    rw [h3] at h2; exact h2
  obtain ⟨hne, hmin⟩ := ways_min hk hg hrows
  rw [show rows.map (fun A => nE (2 * (A.map mx).sum)) = (rows.map fun A => ((2 * (A.map mx).sum : Nat) : Int)).map D.int from by rw [List.map_map]; rfl]
  refine o_minL hne (ew_bor (d := nE (due 60 k (ex gs))) rfl ?_)
  rw [hmin]
  refine o_neI ⟨_, rfl, by simp, ?_⟩
  -- the told rides
  refine sw_seq (sw_if_noE (tw_orF (tw_not (tw_of (ew_call (aw_cons (ew_var (d := eRd gs) rfl (aw_cons (ew_var (d := nE k) rfl (aw_cons (ew_var (d := .tup ((greedy k gs).map eRd)) rfl (aw_nil (w_law_are_rides hg hgr (x_tb ⟨by rw [told_rides hk hg told]; rfl, ?_⟩))))))))))))))
  refine tw_orF (tw_bl (ew_bin (ew_call (aw_cons (ew_var (d := .tup ((greedy k gs).map eRd)) rfl (aw_nil (w_time rfl told.ne (ew_bor (d := nE (due 60 k (ex gs))) rfl (o_neN ⟨_, rfl, by rw [htime]; simp, ?_⟩)))))))))
  refine tw_bl (ew_bin (ew_fn (aw_cons (ew_bor (d := .tup ((greedy k gs).map eRd)) rfl (aw_nil (o_lenTm (ew_un (ew_bin (ew_un (ew_fn (aw_cons (ew_bor (d := lN (ex gs)) rfl (aw_nil (o_lenLm (o_negI (ew_bor (d := nE k) rfl (o_fdivI ⟨by omega, by omega⟩ (o_negI ?_))))))))))))))))))
  rw [neg_ceil hk, hnum]
  refine o_neI ⟨_, rfl, by simp, ?_⟩
  -- single
  refine sw_seq (sw_setV (.tup ((ex gs).map fun f => eRd [(f, 1)])) ?_ ?_)
  · refine ew_fn (aw_cons (ew_lcM' (xs := ex gs) (enc := nE) (res := fun f => eRd [(f, 1)]) (iw_seq (ew_bor (d := lN (ex gs)) rfl (x_itL rfl))) (fun f hf => ⟨_, rfl, ?_⟩) (aw_nil (o_tupL rfl))))
    exact ew_tup (aw_cons (ew_tup (aw_cons (ew_var (d := nE f) rfl (aw_cons (ew_con (aw_nil (aw_nil rfl))))))))
  have hgs1 : gd (.tup ((ex gs).map fun f => eRd [(f, 1)])) = true := gd_map (by omega) fun f hf => gd1 (gd_tup.mpr ⟨by simp, fun d hd => by
    simp only [List.mem_cons, List.not_mem_nil, or_false] at hd
    rcases hd with rfl | rfl <;> rfl⟩)
  have hrv : gd (.tup ((greedy k gs).map fun r => D.tup (r.map eF).reverse)) = true := gd_map (by omega) fun r hr => gdr ((gd_tup.mp hgr).2 _ (List.mem_map.mpr ⟨r, hr, rfl⟩))
  have hc1 := cutD_len ((greedy k gs).map eRd) none (some 1)
  rw [List.length_map] at hc1
  refine sw_seq (sw_set (ew_lst (aw_cons (ew_var (d := .tup ((greedy k gs).map eRd)) rfl (aw_cons (ew_var (d := .tup ((ex gs).map fun f => eRd [(f, 1)])) rfl (aw_cons (ew_un (ew_bor (d := .tup ((greedy k gs).map eRd)) rfl (o_revT (aw_cons (ew_slice (ew_bor (d := .tup ((greedy k gs).map eRd)) rfl (ow_some (ew_con ⟨_, rfl, ow_none (o_slT ?_)⟩)))))))))))))))
  refine aw_cons (ew_bin (ew_bor (d := .tup ((greedy k gs).map eRd)) rfl (ew_slice (ew_bor (d := .tup ((greedy k gs).map eRd)) rfl (ow_none (ow_some (ew_con ⟨_, rfl, o_slT (o_addTs (by rw [List.length_map]; omega) ?_)⟩)))))))
  refine aw_cons (ew_fn (aw_cons (ew_lcM' (xs := greedy k gs) (enc := eRd) (res := fun r => D.tup (r.map eF).reverse) (iw_seq (ew_bor (d := .tup ((greedy k gs).map eRd)) rfl (x_itT rfl))) (fun r hr => ⟨_, rfl, ew_un (ew_bor (d := eRd r) rfl (o_revT rfl))⟩) (aw_nil (o_tupL ?_)))))
  refine aw_cons (ew_tup (aw_nil (aw_cons (ew_con (aw_cons (ew_con (aw_cons (ew_tup (aw_cons (ew_tup (aw_nil (aw_nil (aw_cons (ew_tup (aw_cons (ew_fn (aw_cons (ew_bor (d := eRd gs) rfl (aw_nil (o_tupT (aw_nil (aw_nil ?_))))))))))))))))))))))
  refine sw_seq ((s_L15 (rs := greedy k gs) hk hg hbr (g_allC hgr (g_allC hgs1 (g_allC (gdr hgr) (g_allC (gdc hgr _ _) (g_allC (gda hgr (gdc hgr _ _) (by rw [List.length_map]; omega)) (g_allC hrv (g_allC rfl (g_allC rfl (g_allC rfl (g_allC rfl (g_allC (gd1 hgg) g_all0))))))))))) (by simp)).mono fun fl ρ h => ?_)
  obtain ⟨rfl, z16, z17, rfl⟩ := h
  have hcomp : ∀ (m : Nat) {ρ : Rho} {Q : D → Prop} {a b : Int}, m ≤ 100 → a = 1 → b = ((1 + m : Nat) : Int) → (∀ d, gd d = true → Q d) → (∀ i, ((wipeR ρ [18]).set 18 (Sl.frz (.int ((1 + i : Nat) : Int))))[18]? = some (Sl.frz (.int ((1 + i : Nat) : Int)))) → Ew (eFn tupleD (aCons (eLc (iRange (aCons (eCon (.int a)) (aCons (eCon (.int b)) (aNil)))) (gNm 18) (tYes') (eTup (aCons (eVar 18) (aCons (eCon (.int 1)) (aNil)))) [18]) aNil)) ρ Q := fun m {ρ Q a b} hm ea eb q he => by
    subst ea eb
    refine ew_fn (aw_cons (ew_lcM' (xs := List.range m) (enc := fun i => .int ((1 + i : Nat) : Int)) (res := fun i => .tup [.int ((1 + i : Nat) : Int), .int 1]) ?_ (fun i hi => ⟨_, rfl, ?_⟩) (aw_nil (o_tupL (q _ ?_)))))
    · refine iw_range2 (aw_cons (ew_con (aw_cons (ew_con (aw_nil ⟨_, _, _, rfl, rangeD_two (a := 1) (b := 1 + m) (by omega) (by omega), ?_⟩)))))
      rw [show 1 + m - 1 = m by omega]
    · exact ew_tup (aw_cons (ew_var (he i) (aw_cons (ew_con (aw_nil rfl)))))
    · exact gd_map (by rw [List.length_range]; omega) fun i _ => gd_tup.mpr ⟨by simp, fun d hd => by
        simp only [List.mem_cons, List.not_mem_nil, or_false] at hd
        rcases hd with rfl | rfl <;> rfl⟩
  refine sw_seq (sw_set (ew_lst (aw_cons (ew_var (d := eRd gs) rfl (aw_cons (ew_bin (ew_bor (d := eRd gs) rfl (ew_tup (aw_cons (ew_tup (aw_cons (ew_con (aw_cons (ew_con (aw_nil (aw_nil (o_addTs (by rw [List.length_map]; simp; omega) ?_)))))))))))))))))
  refine aw_cons (ew_un (ew_bor (d := eRd gs) rfl (o_revT (aw_cons (ew_tup (aw_cons (ew_tup (aw_cons (ew_con (aw_cons (ew_con (aw_nil (aw_nil (aw_cons (ew_tup (aw_cons (ew_tup (aw_cons (ew_con (aw_cons (ew_con (aw_nil (aw_nil (aw_cons (ew_tup (aw_cons (ew_tup (aw_cons (ew_con (aw_cons (ew_con (aw_nil (aw_nil ?_)))))))))))))))))))))))))))))))))
  refine aw_cons (hcomp 12 (by omega) rfl rfl (fun d12 h12 => aw_nil ?_) fun i => rfl)
  refine sw_seq (sw_set (ew_bin (ew_bor rfl (ew_lst (aw_cons (hcomp 13 (by omega) rfl rfl (fun d13 h13 => ?_) fun i => rfl))))))
  refine aw_cons (ew_con (aw_cons (ew_tup (aw_cons (ew_tup (aw_cons (ew_con (aw_nil (aw_nil (aw_nil (o_addLs (by simp) ?_)))))))))))
  have hg61 : gd (.tup (gs.map eF ++ [D.tup [.int 61, .int 1]])) = true := gda hgg rfl (by rw [List.length_map]; simp; omega)
  refine sw_seq ((s_L19 hbg (g_allC hgg (g_allC hg61 (g_allC (gdr hgg) (g_allC rfl (g_allC rfl (g_allC rfl (g_allC h12 (g_allC h13 (g_allC rfl (g_allC rfl g_all0)))))))))) (by simp)).mono fun fl ρ h => ?_)
  obtain ⟨rfl, w16, rfl⟩ := h
  -- one more place
  have told2 := greedy_told (k := k + 1) (by omega) hg.asc
  have htime2 := told_time (k := k + 1) (by omega) hg told2
  have hnum2 := told_num (k := k + 1) (by omega) told2
  have hd1 := due_hold (N := 60) hk (ex gs)
  have hd2 := cdiv_hold (a := (ex gs).length) hk
  refine sw_seq (sw_if_noE (tw_orF (tw_bl (ew_bin (ew_bin (ew_call (aw_cons (ew_var (d := eRd gs) rfl (aw_cons (ew_bin (ew_bor (d := nE k) rfl (ew_con (o_addN1 (aw_nil (w_least (k := k + 1) (by omega) hg.ld hsum fun _ => ew_con (o_ix0 (ew_bor (d := nE (due 60 k (ex gs))) rfl (o_gtN ⟨_, rfl, decide_eq_false (by omega), ?_⟩))))))))))))))))))
  refine tw_bl (ew_bin (ew_fn (aw_cons (ew_bin (ew_call (aw_cons (ew_var (d := eRd gs) rfl (aw_cons (ew_bin (ew_bor (d := nE k) rfl (ew_con (o_addN1 (aw_nil (w_least (k := k + 1) (by omega) hg.ld hsum fun _ => ew_con (o_ix1 (aw_nil (o_lenTm (ew_fn (aw_cons (ew_bor (d := .tup ((greedy k gs).map eRd)) rfl (aw_nil (o_lenTm (o_gtN ⟨_, rfl, decide_eq_false (by omega), ?_⟩)))))))))))))))))))))))
  -- one floor lower
  cases gs with
  | nil =>
    exact sw_if_noE (tw_andF (tw_bl (ew_bin (ew_fn (aw_cons (ew_bor (d := eRd []) rfl (aw_nil (o_lenT (ew_con (o_gt ⟨_, rfl, rfl⟩))))))))) ⟨rfl, rfl, _, _, _, _, _, _, _, _, _, _, _, _, _, _, _, _, _, _, _, rfl⟩)
  | cons p ps =>
    refine sw_if_noE (tw_andT (tw_bl (ew_bin (ew_fn (aw_cons (ew_bor (d := eRd (p :: ps)) rfl (aw_nil (o_lenTm (ew_con (o_gtN (y := 0) ⟨_, rfl, decide_eq_true (by simp), ?_⟩))))))))))
    by_cases h1 : 1 < p.1
    · have hg2 : Gr ((p.1 - 1, p.2) :: ps) := ⟨fun q hq => by
          rcases List.mem_cons.mp hq with e | hq
          · have := hg.ok p (by simp)
            rw [e]
            exact ⟨by show 1 ≤ p.1 - 1; omega, by show p.1 - 1 ≤ 60; have := this.f60; omega, this.n1, this.n2⟩
          · exact hg.ok q (by simp [hq]), List.pairwise_cons.mpr ⟨fun q hq => by
          have := (List.pairwise_cons.mp hg.asc).1 q hq
          show p.1 - 1 < q.1
          omega, (List.pairwise_cons.mp hg.asc).2⟩, hg.len⟩
      have told3 := greedy_told hk hg2.asc
      have htime3 := told_time hk hg2 told3
      have hmono : due 60 k (ex ((p.1 - 1, p.2) :: ps)) ≤ due 60 k (ex (p :: ps)) := due_mono fun h => by
        rw [show (p.1 - 1, p.2) :: ps = [(p.1 - 1, p.2)] ++ ps from rfl, show p :: ps = [p] ++ ps from rfl, ex_app, ex_app, abv_app, abv_app, ex_one, ex_one]
        have : abv h (List.replicate p.2 (p.1 - 1)) ≤ abv h (List.replicate p.2 p.1) := by
          by_cases hh : h ≤ p.1
          · rw [abv_all (xs := List.replicate p.2 p.1) fun x hx => by rw [List.mem_replicate] at hx; omega, List.length_replicate]
            have := abv_le h (List.replicate p.2 (p.1 - 1))
            rw [List.length_replicate] at this
            exact this
          · rw [abv_none (xs := List.replicate p.2 (p.1 - 1)) fun x hx => by rw [List.mem_replicate] at hx; omega]
            exact Nat.zero_le _
        show abv h (List.replicate p.2 (p.1 - 1)) + _ ≤ _
        omega
      refine tw_andT (tw_bl (ew_bin (ew_bin (ew_bin (ew_bor (d := eRd (p :: ps)) rfl (ew_con (o_ix0 (ew_con (o_ix0 (ew_con (o_gtN (y := 1) ⟨_, rfl, decide_eq_true h1, ?_⟩)))))))))))
      refine tw_bl (ew_bin (ew_bin (ew_call (aw_cons (ew_bin (ew_tup (aw_cons (ew_tup (aw_cons (ew_bin (ew_bin (ew_bin (ew_bor (d := eRd (p :: ps)) rfl (ew_con (o_ix0 (ew_con (o_ix0 (ew_con (o_subN1 (by omega) ?_)))))))))))))))))))
      refine aw_cons (ew_bin (ew_bin (ew_bor (d := eRd (p :: ps)) rfl (ew_con (o_ix0 (ew_con (o_ix1 (aw_nil (aw_nil ?_)))))))))
      refine ew_slice (ew_bor (d := eRd (p :: ps)) rfl (ow_some (ew_con ⟨_, rfl, ow_none (o_slT ?_)⟩)))
      rw [cut_drop eF (p :: ps) (by omega)]
      have hpsl : ps.length ≤ 60 := by have := hg.len; rw [List.length_cons] at this; omega
      refine o_addTs (by simp; omega) ?_
      refine aw_cons (ew_var (d := nE k) rfl (aw_nil (w_least (gs := (p.1 - 1, p.2) :: ps) hk hg2.ld (by rw [show sumN ((p.1 - 1, p.2) :: ps) = sumN (p :: ps) from rfl]; exact hsum) fun _ => ew_con (o_ix0 (ew_bor (d := nE (due 60 k (ex (p :: ps)))) rfl (o_gtN ⟨_, rfl, decide_eq_false (by omega), ?_⟩))))))
      exact ⟨rfl, _, _, _, _, _, _, _, _, _, _, _, _, _, _, _, _, _, _, _, rfl⟩
    · refine tw_andF (tw_bl ?_) ⟨rfl, rfl, _, _, _, _, _, _, _, _, _, _, _, _, _, _, _, _, _, _, _, rfl⟩
      refine ew_bin (ew_bin (ew_bin (ew_bor (d := eRd (p :: ps)) rfl (ew_con (o_ix0 (ew_con (o_ix0 (ew_con (o_gtN (y := 1) ⟨_, rfl, decide_eq_false h1⟩)))))))))
end
theorem law_sw : Sw s_law (Sl.emp :: Sl.frz (.tok 0) :: List.replicate 19 Sl.emp) (fun fl _ => fl = .rt (.bl true)) := by
  refine sw_seq (sw_forR 4 nE (fun _ ρ => ∃ z2 z3 z4 z5 z6 z7 z8 z9 z10 z11 z12 z13 z14 z15 z16 z17 z18 z19 z20 : Sl, ρ = [.emp, .frz (.tok 0), z2, z3, z4, z5, z6, z7, z8, z9, z10, z11, z12, z13, z14, z15, z16, z17, z18, z19, z20]) ?_ ⟨_, _, _, _, _, _, _, _, _, _, _, _, _, _, _, _, _, _, _, rfl⟩ ?_ ?_)
  · exact iw_rangeN 4 (aw_cons (ew_con (aw_nil ⟨rfl, by omega, rfl⟩)))
  · rintro i hi _ ⟨z2, z3, z4, z5, z6, z7, z8, z9, z10, z11, z12, z13, z14, z15, z16, z17, z18, z19, z20, rfl⟩
    refine ⟨_, rfl, ?_⟩
    refine sw_seq (sw_set (ew_bin (ew_con (ew_call (aw_cons (ew_var (d := .tok 0) rfl (aw_cons (ew_con (aw_nil ?_)))))))))
    refine fw_drawN (n := 4) (by omega) (by omega) fun k0 hk0 => ?_
    refine .of (r := nE (k0 + 1)) (by show some (D.int (1 + (k0 : Int))) = some (.int ((k0 + 1 : Nat) : Int)); congr 2; omega) ?_
    refine sw_seq (sw_new (ew_dF0 (e := D.int) (fun _ => 0) ?_))
    refine sw_seq (s_L3.mono fun fl ρ h => ?_)
    obtain ⟨rfl, L, ks, g, w8, w11, rfl, hkv, hL, hl⟩ := h
    obtain ⟨hg, hex, hval, hkl⟩ := groups_of hkv hL hl
    refine sw_seq (sw_setV (eRd ((srt ltN ks).map fun f => (f, atF f L))) ?_ ?_)
    · refine ew_fn (aw_cons (ew_lcM' (xs := srt ltN ks) (enc := nE) (res := fun f => eF (f, atF f L)) ?_ (fun f hf => ⟨_, rfl, ?_⟩) (aw_nil (o_tupL ?_))))
      · exact iw_seq (ew_fn (aw_cons (ew_borO (d := dF D.int ks g) rfl (aw_nil (o_sortF (x_itL rfl))))))
      · have hf := srt_mem.mp hf
        refine ew_tup (aw_cons (ew_var (d := nE f) rfl (aw_cons (ew_bin (ew_borO (d := dF D.int ks g) rfl (ew_var (d := nE f) rfl (o_ixF hf (aw_nil ?_))))))))
        rw [hval f hf]
      · rw [eRd, List.map_map]; rfl
    generalize (srt ltN ks).map (fun f => (f, atF f L)) = gs at hg hex
    refine sw_seq (sw_new (ew_lst (aw_nil ?_)))
    refine sw_seq ((s_L6 (gs := gs) (fun p hp => (hg.ok p hp).n2) hg.len).mono fun fl ρ h => ?_)
    obtain ⟨rfl, w11, w12, rfl⟩ := h
    refine (s_rest (k := k0 + 1) (by omega) (by omega) hg hex).mono fun fl ρ h => ?_
    obtain ⟨rfl, h⟩ := h
    exact h
  · rintro _ ⟨z2, z3, z4, z5, z6, z7, z8, z9, z10, z11, z12, z13, z14, z15, z16, z17, z18, z19, z20, rfl⟩
    refine sw_seq (sw_set (ew_fn (aw_cons (ew_lcN (β := Pr) 11 nE eF (fun i p => 5 * i + 1 ≤ p.1 ∧ p.1 ≤ 5 * i + 5 ∧ 1 ≤ p.2 ∧ p.2 ≤ 200) default ?_ (fun i hi => ⟨_, rfl, ?_⟩) fun great hgl hgp => aw_nil (o_tupL ?_)))))
    · exact iw_rangeN 11 (aw_cons (ew_con (aw_nil ⟨rfl, by omega, rfl⟩)))
    · refine ew_tup (aw_cons (ew_bin (ew_bin (ew_bin (ew_con (ew_bor (d := nE i) rfl (o_mulI (by unfold mulOk; simp) (ew_con (o_addI ?_)))))))))
      refine ew_call (aw_cons (ew_var (d := .tok 0) rfl (aw_cons (ew_con (aw_nil ?_)))))
      refine fw_drawN (n := 5) (by omega) (by omega) fun a ha => o_addI ?_
      refine aw_cons (ew_bin (ew_con (ew_call (aw_cons (ew_var (d := .tok 0) rfl (aw_cons (ew_con (aw_nil ?_))))))))
      refine fw_drawN (n := 200) (by omega) (by omega) fun c hc => o_addI (aw_nil ⟨(5 * i + 1 + a, c + 1), ?_, ?_⟩)
      · show D.tup [.int (5 * (i : Int) + 1 + (a : Int)), .int (1 + (c : Int))] = D.tup [.int ((5 * i + 1 + a : Nat) : Int), .int ((c + 1 : Nat) : Int)]
        rw [show (5 * (i : Int) + 1 + (a : Int)) = ((5 * i + 1 + a : Nat) : Int) by omega, show (1 + (c : Int)) = ((c + 1 : Nat) : Int) by omega]
      · exact ⟨by show 5 * i + 1 ≤ 5 * i + 1 + a; omega, by show 5 * i + 1 + a ≤ 5 * i + 5; omega, by show 1 ≤ c + 1; omega, by show c + 1 ≤ 200; omega⟩
    · have hget : ∀ (i : Nat) (h : i < great.length), 5 * i + 1 ≤ great[i].1 ∧ great[i].1 ≤ 5 * i + 5 ∧ 1 ≤ great[i].2 ∧ great[i].2 ≤ 200 := fun i h => by
        have := hgp i (by omega)
        rw [getD_eq default h] at this
        exact this
      have hg : Gr great := ⟨fun p hp => by
        obtain ⟨i, hi, rfl⟩ := List.getElem_of_mem hp
        have := hget i hi
        exact ⟨by omega, by omega, by omega, by omega⟩, List.pairwise_iff_getElem.mpr fun i j hi hj hij => by
        have h1 := hget i hi
        have h2 := hget j hj
        omega, by omega⟩
      have hsum : sumN great ≤ 12000 := by
        have : ∀ ps : List Pr, (∀ q ∈ ps, q.2 ≤ 200) → sumN ps ≤ 200 * ps.length := fun ps => by
          induction ps with
          | nil => intro _; exact Nat.le_refl _
          | cons q ps ih =>
            intro h
            have h1 := ih fun x hx => h x (by simp [hx])
            have h2 := h q (by simp)
            rw [show q :: ps = [q] ++ ps from rfl, sumN_app]
            have h3 : sumN [q] = q.2 := by simp [sumN]
            simp only [List.length_append, List.length_cons, List.length_nil]
            omega
        have h1 := this great fun q hq => (hg.ok q hq).n2
        omega
      refine sw_seq (sw_set (ew_bin (ew_con (ew_call (aw_cons (ew_var (d := .tok 0) rfl (aw_cons (ew_con (aw_nil ?_)))))))))
      refine fw_drawN (n := 50) (by omega) (by omega) fun k0 hk0 => ?_
      refine .of (r := nE (k0 + 1)) (by show some (D.int (1 + (k0 : Int))) = some (.int ((k0 + 1 : Nat) : Int)); congr 2; omega) ?_
      obtain ⟨k, hkk⟩ : ∃ k, k = k0 + 1 := ⟨_, rfl⟩
      rw [← hkk]
      have hk : 1 ≤ k := by omega
      have told := greedy_told hk hg.asc
      have htime := told_time hk hg told
      have hnum := told_num hk told
      have hok := told_ok hk hg told
      have hlen : (greedy k great).length ≤ 1000000 := by
        rw [hnum]
        refine Nat.le_trans (cdiv_le (m := (ex great).length) hk (Nat.le_mul_of_pos_right _ hk)) ?_
        rw [ex_len]; omega
      have hgr : gd (.tup ((greedy k great).map eRd)) = true := by
        refine gd_map hlen fun r hr => bs_gd _ (bs_Rd ?_ fun p hp => ?_)
        · have := ld_len (told.ld r hr) (hok r hr).1
          omega
        · have := (hok r hr).1 p hp
          have h1 := this.f60
          have h2 := this.n2
          exact And.intro (by omega) (by omega)
      refine sw_seq (sw_asg (ew_call (aw_cons (ew_var (d := eRd great) rfl (aw_cons (ew_var (d := nE k) rfl (aw_nil (w_least hk hg.ld (by omega) fun _ => ⟨_, rfl, ?_⟩))))))))
      rw [htime]
      refine sw_ret (ew_andT (ew_bin (ew_bor (d := nE (due 60 k (ex great))) rfl (ew_call (aw_cons (ew_var (d := eRd great) rfl (aw_cons (ew_var (d := nE k) rfl (aw_nil (w_floor_bound hk (by omega) (o_eqN ⟨by simp, ?_⟩)))))))))))
      refine ew_andT (ew_call (aw_cons (ew_var (d := eRd great) rfl (aw_cons (ew_var (d := nE k) rfl (aw_cons (ew_var (d := .tup ((greedy k great).map eRd)) rfl (aw_nil (w_law_are_rides hg hgr ⟨by rw [told_rides hk hg told], ?_⟩)))))))))
      have e0 : greedy 3 [(1, 3), (4, 2)] = [[(1, 1), (4, 2)], [(1, 2)]] := by decide +kernel
      refine ew_call (aw_cons (ew_call (aw_cons (Ew.mono (Q := fun d => d = eRd [(1, 3), (4, 2)]) (fun b => ⟨_, b, rfl, rfl⟩) fun d hd => ?_))))
      subst hd
      refine aw_cons (ew_con (aw_nil (w_least (gs := [(1, 3), (4, 2)]) (k := 3) (by decide) ⟨by simp, by simp⟩ (by decide) fun _ => ?_)))
      rw [e0]
      refine aw_cons (Ew.mono (Q := fun d => d = .tup [nE (timeN [[(1, 1), (4, 2)], [(1, 2)]]), .tup (([[(1, 1), (4, 2)], [(1, 2)]] : List (List Pr)).map eRd)]) (fun b => ⟨_, b, rfl, rfl⟩) fun d hd => ?_)
      subst hd
      exact aw_nil (w_lsT rfl (by decide +kernel) (by decide +kernel) rfl)
theorem plain : ∀ ns : List Int, ns.length ≤ 63 → ∃ ρ b, lawAt ⟨ns, 0, 4711 + ns.length⟩ = some (.rt (.bl true), ρ, b) := fun ns _ => by
  obtain ⟨fl, ρ, b, e, h⟩ := law_sw ⟨ns, 0, 4711 + ns.length⟩
  rw [h] at e
  exact ⟨ρ, b, e⟩
end K78

set_option maxHeartbeats 8000000
namespace K78
open PySem L2 Sv
open PyProof.Rows (envOfC)
theorem zz_all_mk {l : PySem.W.OpenLaw} {w : World} {K : PySem.W.Frag} {h : Heap} {mg : Str → Option Value} {fa : Addr} {f1 f2 f3 f8 f9 f10 f11 f12 f13 f15 f16 f17 f18 f19 f20 f21 f22 f23 : Addr} (X : K.In h) (G : h.Ns mainGlobals mg) (hfa : mg "law" = some (.ref fa))
    {od1 an1 : Option Addr} {sl1 : Array (Option Value)} {oc1 kV1 dc1 pm1 cd1 ct1 : Value} (a1 : PySem.W.nsIn K mainGlobals "is_whole" = some (some (.ref f1))) (l1 : K.lookup f1 = some ⟨oc1, od1, .func (PySem.W.fnOf "is_whole" "is_whole" (defArgs (top 1)) (defBody (top 1)) (defScope (top 1)) .none kV1 dc1 pm1 an1 cd1 ct1), sl1⟩) (c1 : PySem.W.codeIn K cd1 "is_whole" = true) (k1 : PySem.W.keepIn K (.ref f1) = true)
    {od2 an2 : Option Addr} {sl2 : Array (Option Value)} {oc2 kV2 dc2 pm2 cd2 ct2 : Value} (a2 : PySem.W.nsIn K mainGlobals "is_number" = some (some (.ref f2))) (l2 : K.lookup f2 = some ⟨oc2, od2, .func (PySem.W.fnOf "is_number" "is_number" (defArgs (top 2)) (defBody (top 2)) (defScope (top 2)) .none kV2 dc2 pm2 an2 cd2 ct2), sl2⟩) (c2 : PySem.W.codeIn K cd2 "is_number" = true) (k2 : PySem.W.keepIn K (.ref f2) = true)
    {od3 an3 : Option Addr} {sl3 : Array (Option Value)} {oc3 kV3 dc3 pm3 cd3 ct3 : Value} (a3 : PySem.W.nsIn K mainGlobals "is_ascending" = some (some (.ref f3))) (l3 : K.lookup f3 = some ⟨oc3, od3, .func (PySem.W.fnOf "is_ascending" "is_ascending" (defArgs (top 3)) (defBody (top 3)) (defScope (top 3)) .none kV3 dc3 pm3 an3 cd3 ct3), sl3⟩) (c3 : PySem.W.codeIn K cd3 "is_ascending" = true) (k3 : PySem.W.keepIn K (.ref f3) = true)
    {od8 an8 : Option Addr} {sl8 : Array (Option Value)} {oc8 kV8 dc8 pm8 cd8 ct8 : Value} (a8 : PySem.W.nsIn K mainGlobals "is_load" = some (some (.ref f8))) (l8 : K.lookup f8 = some ⟨oc8, od8, .func (PySem.W.fnOf "is_load" "is_load" (defArgs (top 8)) (defBody (top 8)) (defScope (top 8)) .none kV8 dc8 pm8 an8 cd8 ct8), sl8⟩) (c8 : PySem.W.codeIn K cd8 "is_load" = true) (k8 : PySem.W.keepIn K (.ref f8) = true)
    {od9 an9 : Option Addr} {sl9 : Array (Option Value)} {oc9 kV9 dc9 pm9 cd9 ct9 : Value} (a9 : PySem.W.nsIn K mainGlobals "are_groups" = some (some (.ref f9))) (l9 : K.lookup f9 = some ⟨oc9, od9, .func (PySem.W.fnOf "are_groups" "are_groups" (defArgs (top 9)) (defBody (top 9)) (defScope (top 9)) .none kV9 dc9 pm9 an9 cd9 ct9), sl9⟩) (c9 : PySem.W.codeIn K cd9 "are_groups" = true) (k9 : PySem.W.keepIn K (.ref f9) = true)
    {od10 an10 : Option Addr} {sl10 : Array (Option Value)} {oc10 kV10 dc10 pm10 cd10 ct10 : Value} (a10 : PySem.W.nsIn K mainGlobals "are_rides" = some (some (.ref f10))) (l10 : K.lookup f10 = some ⟨oc10, od10, .func (PySem.W.fnOf "are_rides" "are_rides" (defArgs (top 10)) (defBody (top 10)) (defScope (top 10)) .none kV10 dc10 pm10 an10 cd10 ct10), sl10⟩) (c10 : PySem.W.codeIn K cd10 "are_rides" = true) (k10 : PySem.W.keepIn K (.ref f10) = true)
    {od11 an11 : Option Addr} {sl11 : Array (Option Value)} {oc11 kV11 dc11 pm11 cd11 ct11 : Value} (a11 : PySem.W.nsIn K mainGlobals "time_of_rides" = some (some (.ref f11))) (l11 : K.lookup f11 = some ⟨oc11, od11, .func (PySem.W.fnOf "time_of_rides" "time_of_rides" (defArgs (top 11)) (defBody (top 11)) (defScope (top 11)) .none kV11 dc11 pm11 an11 cd11 ct11), sl11⟩) (c11 : PySem.W.codeIn K cd11 "time_of_rides" = true) (k11 : PySem.W.keepIn K (.ref f11) = true)
    {od12 an12 : Option Addr} {sl12 : Array (Option Value)} {oc12 kV12 dc12 pm12 cd12 ct12 : Value} (a12 : PySem.W.nsIn K mainGlobals "floor_bound" = some (some (.ref f12))) (l12 : K.lookup f12 = some ⟨oc12, od12, .func (PySem.W.fnOf "floor_bound" "floor_bound" (defArgs (top 12)) (defBody (top 12)) (defScope (top 12)) .none kV12 dc12 pm12 an12 cd12 ct12), sl12⟩) (c12 : PySem.W.codeIn K cd12 "floor_bound" = true) (k12 : PySem.W.keepIn K (.ref f12) = true)
    {od13 an13 : Option Addr} {sl13 : Array (Option Value)} {oc13 kV13 dc13 pm13 cd13 ct13 : Value} (a13 : PySem.W.nsIn K mainGlobals "least_rides" = some (some (.ref f13))) (l13 : K.lookup f13 = some ⟨oc13, od13, .func (PySem.W.fnOf "least_rides" "least_rides" (defArgs (top 13)) (defBody (top 13)) (defScope (top 13)) .none kV13 dc13 pm13 an13 cd13 ct13), sl13⟩) (c13 : PySem.W.codeIn K cd13 "least_rides" = true) (k13 : PySem.W.keepIn K (.ref f13) = true)
    {od15 an15 : Option Addr} {sl15 : Array (Option Value)} {oc15 kV15 dc15 pm15 cd15 ct15 : Value} (a15 : PySem.W.nsIn K mainGlobals "_law_box" = some (some (.ref f15))) (l15 : K.lookup f15 = some ⟨oc15, od15, .func (PySem.W.fnOf "_law_box" "_law_box" (defArgs (top 15)) (defBody (top 15)) (defScope (top 15)) .none kV15 dc15 pm15 an15 cd15 ct15), sl15⟩) (c15 : PySem.W.codeIn K cd15 "_law_box" = true) (k15 : PySem.W.keepIn K (.ref f15) = true)
    {od16 an16 : Option Addr} {sl16 : Array (Option Value)} {oc16 kV16 dc16 pm16 cd16 ct16 : Value} (a16 : PySem.W.nsIn K mainGlobals "_law_load" = some (some (.ref f16))) (l16 : K.lookup f16 = some ⟨oc16, od16, .func (PySem.W.fnOf "_law_load" "_law_load" (defArgs (top 16)) (defBody (top 16)) (defScope (top 16)) .none kV16 dc16 pm16 an16 cd16 ct16), sl16⟩) (c16 : PySem.W.codeIn K cd16 "_law_load" = true) (k16 : PySem.W.keepIn K (.ref f16) = true)
    {od17 an17 : Option Addr} {sl17 : Array (Option Value)} {oc17 kV17 dc17 pm17 cd17 ct17 : Value} (a17 : PySem.W.nsIn K mainGlobals "_law_draw" = some (some (.ref f17))) (l17 : K.lookup f17 = some ⟨oc17, od17, .func (PySem.W.fnOf "_law_draw" "_law_draw" (defArgs (top 17)) (defBody (top 17)) (defScope (top 17)) .none kV17 dc17 pm17 an17 cd17 ct17), sl17⟩) (c17 : PySem.W.codeIn K cd17 "_law_draw" = true) (k17 : PySem.W.keepIn K (.ref f17) = true)
    {od18 an18 : Option Addr} {sl18 : Array (Option Value)} {oc18 kV18 dc18 pm18 cd18 ct18 : Value} (a18 : PySem.W.nsIn K mainGlobals "_law_same" = some (some (.ref f18))) (l18 : K.lookup f18 = some ⟨oc18, od18, .func (PySem.W.fnOf "_law_same" "_law_same" (defArgs (top 18)) (defBody (top 18)) (defScope (top 18)) .none kV18 dc18 pm18 an18 cd18 ct18), sl18⟩) (c18 : PySem.W.codeIn K cd18 "_law_same" = true) (k18 : PySem.W.keepIn K (.ref f18) = true)
    {od19 an19 : Option Addr} {sl19 : Array (Option Value)} {oc19 kV19 dc19 pm19 cd19 ct19 : Value} (a19 : PySem.W.nsIn K mainGlobals "_law_bent" = some (some (.ref f19))) (l19 : K.lookup f19 = some ⟨oc19, od19, .func (PySem.W.fnOf "_law_bent" "_law_bent" (defArgs (top 19)) (defBody (top 19)) (defScope (top 19)) .none kV19 dc19 pm19 an19 cd19 ct19), sl19⟩) (c19 : PySem.W.codeIn K cd19 "_law_bent" = true) (k19 : PySem.W.keepIn K (.ref f19) = true)
    {od20 an20 : Option Addr} {sl20 : Array (Option Value)} {oc20 kV20 dc20 pm20 cd20 ct20 : Value} (a20 : PySem.W.nsIn K mainGlobals "_law_is_load" = some (some (.ref f20))) (l20 : K.lookup f20 = some ⟨oc20, od20, .func (PySem.W.fnOf "_law_is_load" "_law_is_load" (defArgs (top 20)) (defBody (top 20)) (defScope (top 20)) .none kV20 dc20 pm20 an20 cd20 ct20), sl20⟩) (c20 : PySem.W.codeIn K cd20 "_law_is_load" = true) (k20 : PySem.W.keepIn K (.ref f20) = true)
    {od21 an21 : Option Addr} {sl21 : Array (Option Value)} {oc21 kV21 dc21 pm21 cd21 ct21 : Value} (a21 : PySem.W.nsIn K mainGlobals "_law_are_rides" = some (some (.ref f21))) (l21 : K.lookup f21 = some ⟨oc21, od21, .func (PySem.W.fnOf "_law_are_rides" "_law_are_rides" (defArgs (top 21)) (defBody (top 21)) (defScope (top 21)) .none kV21 dc21 pm21 an21 cd21 ct21), sl21⟩) (c21 : PySem.W.codeIn K cd21 "_law_are_rides" = true) (k21 : PySem.W.keepIn K (.ref f21) = true)
    {od22 an22 : Option Addr} {sl22 : Array (Option Value)} {oc22 kV22 dc22 pm22 cd22 ct22 : Value} (a22 : PySem.W.nsIn K mainGlobals "_law_ways" = some (some (.ref f22))) (l22 : K.lookup f22 = some ⟨oc22, od22, .func (PySem.W.fnOf "_law_ways" "_law_ways" (defArgs (top 22)) (defBody (top 22)) (defScope (top 22)) .none kV22 dc22 pm22 an22 cd22 ct22), sl22⟩) (c22 : PySem.W.codeIn K cd22 "_law_ways" = true) (k22 : PySem.W.keepIn K (.ref f22) = true)
    {od23 an23 : Option Addr} {sl23 : Array (Option Value)} {oc23 kV23 dc23 pm23 cd23 ct23 : Value} (a23 : PySem.W.nsIn K mainGlobals "law" = some (some (.ref f23))) (l23 : K.lookup f23 = some ⟨oc23, od23, .func (PySem.W.fnOf "law" "law" (defArgs (top 23)) (defBody (top 23)) (defScope (top 23)) .none kV23 dc23 pm23 an23 cd23 ct23), sl23⟩) (c23 : PySem.W.codeIn K cd23 "law" = true) (k23 : PySem.W.keepIn K (.ref f23) = true)
    (zall : PySem.W.nsIn K mainGlobals "all" = some none)
    (zany : PySem.W.nsIn K mainGlobals "any" = some none)
    (zbool : PySem.W.nsIn K mainGlobals "bool" = some none)
    (zdict : PySem.W.nsIn K mainGlobals "dict" = some none)
    (zint : PySem.W.nsIn K mainGlobals "int" = some none)
    (zisinstance : PySem.W.nsIn K mainGlobals "isinstance" = some none)
    (zlen : PySem.W.nsIn K mainGlobals "len" = some none)
    (zlist : PySem.W.nsIn K mainGlobals "list" = some none)
    (zmax : PySem.W.nsIn K mainGlobals "max" = some none)
    (zmin : PySem.W.nsIn K mainGlobals "min" = some none)
    (zrange : PySem.W.nsIn K mainGlobals "range" = some none)
    (zsorted : PySem.W.nsIn K mainGlobals "sorted" = some none)
    (zstr : PySem.W.nsIn K mainGlobals "str" = some none)
    (zsum : PySem.W.nsIn K mainGlobals "sum" = some none)
    (ztuple : PySem.W.nsIn K mainGlobals "tuple" = some none)
    {tMAX_FLOOR : Tok} (gMAX_FLOOR : PySem.W.nsIn K mainGlobals "MAX_FLOOR" = some (some (.int 60 tMAX_FLOOR)))
    {tMAX_GROUPS : Tok} (gMAX_GROUPS : PySem.W.nsIn K mainGlobals "MAX_GROUPS" = some (some (.int 12 tMAX_GROUPS)))
    {tMAX_WAITING : Tok} (gMAX_WAITING : PySem.W.nsIn K mainGlobals "MAX_WAITING" = some (some (.int 200 tMAX_WAITING))) :
    ∃ fd : FuncData, (∀ (s : Shared) (v : Value), BindsTo s fd ⟨[v], []⟩ [("script", v)]) ∧ ∀ base : Heap, K.In base → base.Ns mainGlobals mg → FnOk l.prog w K mg base CX0 43 fa fd ["script"] (spLaw K) := by
  have e := hfa.symm.trans (PySem.W.mg_of X G a23)
  cases e
  let fas : Nat → Addr := fun i => ([0, f1, f2, f3, 0, 0, 0, 0, f8, f9, f10, f11, f12, f13, 0, f15, f16, f17, f18, f19, f20, f21, f22, fa] : List Addr).getD i 0
  have F1 := fun_mk (st := top 1) l1 c1 k1
  have F2 := fun_mk (st := top 2) l2 c2 k2
  have F3 := fun_mk (st := top 3) l3 c3 k3
  have F8 := fun_mk (st := top 8) l8 c8 k8
  have F9 := fun_mk (st := top 9) l9 c9 k9
  have F10 := fun_mk (st := top 10) l10 c10 k10
  have F11 := fun_mk (st := top 11) l11 c11 k11
  have F12 := fun_mk (st := top 12) l12 c12 k12
  have F13 := fun_mk (st := top 13) l13 c13 k13
  have F15 := fun_mk (st := top 15) l15 c15 k15
  have F16 := fun_mk (st := top 16) l16 c16 k16
  have F17 := fun_mk (st := top 17) l17 c17 k17
  have F18 := fun_mk (st := top 18) l18 c18 k18
  have F19 := fun_mk (st := top 19) l19 c19 k19
  have F20 := fun_mk (st := top 20) l20 c20 k20
  have F21 := fun_mk (st := top 21) l21 c21 k21
  have F22 := fun_mk (st := top 22) l22 c22 k22
  have F23 := fun_mk (st := top 23) l23 c23 k23
  let fds : Nat → FuncData := fun i => ([PySem.W.fnOf "law" "law" (defArgs (top 23)) (defBody (top 23)) (defScope (top 23)) .none kV23 dc23 pm23 an23 cd23 ct23, PySem.W.fnOf "is_whole" "is_whole" (defArgs (top 1)) (defBody (top 1)) (defScope (top 1)) .none kV1 dc1 pm1 an1 cd1 ct1, PySem.W.fnOf "is_number" "is_number" (defArgs (top 2)) (defBody (top 2)) (defScope (top 2)) .none kV2 dc2 pm2 an2 cd2 ct2, PySem.W.fnOf "is_ascending" "is_ascending" (defArgs (top 3)) (defBody (top 3)) (defScope (top 3)) .none kV3 dc3 pm3 an3 cd3 ct3, PySem.W.fnOf "law" "law" (defArgs (top 23)) (defBody (top 23)) (defScope (top 23)) .none kV23 dc23 pm23 an23 cd23 ct23, PySem.W.fnOf "law" "law" (defArgs (top 23)) (defBody (top 23)) (defScope (top 23)) .none kV23 dc23 pm23 an23 cd23 ct23, PySem.W.fnOf "law" "law" (defArgs (top 23)) (defBody (top 23)) (defScope (top 23)) .none kV23 dc23 pm23 an23 cd23 ct23, PySem.W.fnOf "law" "law" (defArgs (top 23)) (defBody (top 23)) (defScope (top 23)) .none kV23 dc23 pm23 an23 cd23 ct23, PySem.W.fnOf "is_load" "is_load" (defArgs (top 8)) (defBody (top 8)) (defScope (top 8)) .none kV8 dc8 pm8 an8 cd8 ct8, PySem.W.fnOf "are_groups" "are_groups" (defArgs (top 9)) (defBody (top 9)) (defScope (top 9)) .none kV9 dc9 pm9 an9 cd9 ct9, PySem.W.fnOf "are_rides" "are_rides" (defArgs (top 10)) (defBody (top 10)) (defScope (top 10)) .none kV10 dc10 pm10 an10 cd10 ct10, PySem.W.fnOf "time_of_rides" "time_of_rides" (defArgs (top 11)) (defBody (top 11)) (defScope (top 11)) .none kV11 dc11 pm11 an11 cd11 ct11, PySem.W.fnOf "floor_bound" "floor_bound" (defArgs (top 12)) (defBody (top 12)) (defScope (top 12)) .none kV12 dc12 pm12 an12 cd12 ct12, PySem.W.fnOf "least_rides" "least_rides" (defArgs (top 13)) (defBody (top 13)) (defScope (top 13)) .none kV13 dc13 pm13 an13 cd13 ct13, PySem.W.fnOf "law" "law" (defArgs (top 23)) (defBody (top 23)) (defScope (top 23)) .none kV23 dc23 pm23 an23 cd23 ct23, PySem.W.fnOf "_law_box" "_law_box" (defArgs (top 15)) (defBody (top 15)) (defScope (top 15)) .none kV15 dc15 pm15 an15 cd15 ct15, PySem.W.fnOf "_law_load" "_law_load" (defArgs (top 16)) (defBody (top 16)) (defScope (top 16)) .none kV16 dc16 pm16 an16 cd16 ct16, PySem.W.fnOf "_law_draw" "_law_draw" (defArgs (top 17)) (defBody (top 17)) (defScope (top 17)) .none kV17 dc17 pm17 an17 cd17 ct17, PySem.W.fnOf "_law_same" "_law_same" (defArgs (top 18)) (defBody (top 18)) (defScope (top 18)) .none kV18 dc18 pm18 an18 cd18 ct18, PySem.W.fnOf "_law_bent" "_law_bent" (defArgs (top 19)) (defBody (top 19)) (defScope (top 19)) .none kV19 dc19 pm19 an19 cd19 ct19, PySem.W.fnOf "_law_is_load" "_law_is_load" (defArgs (top 20)) (defBody (top 20)) (defScope (top 20)) .none kV20 dc20 pm20 an20 cd20 ct20, PySem.W.fnOf "_law_are_rides" "_law_are_rides" (defArgs (top 21)) (defBody (top 21)) (defScope (top 21)) .none kV21 dc21 pm21 an21 cd21 ct21, PySem.W.fnOf "_law_ways" "_law_ways" (defArgs (top 22)) (defBody (top 22)) (defScope (top 22)) .none kV22 dc22 pm22 an22 cd22 ct22, PySem.W.fnOf "law" "law" (defArgs (top 23)) (defBody (top 23)) (defScope (top 23)) .none kV23 dc23 pm23 an23 cd23 ct23] : List FuncData).getD i (PySem.W.fnOf "law" "law" (defArgs (top 23)) (defBody (top 23)) (defScope (top 23)) .none kV23 dc23 pm23 an23 cd23 ct23)
  have b1 := F1.binds (ps := ["value"]) fun _ _ _ _ _ _ us hl => match us, hl with | [_], _ => rfl
  have b2 := F2.binds (ps := ["value", "least", "most"]) fun _ _ _ _ _ _ us hl => match us, hl with | [_, _, _], _ => rfl
  have b3 := F3.binds (ps := ["rows"]) fun _ _ _ _ _ _ us hl => match us, hl with | [_], _ => rfl
  have b8 := F8.binds (ps := ["value", "most"]) fun _ _ _ _ _ _ us hl => match us, hl with | [_, _], _ => rfl
  have b9 := F9.binds (ps := ["value"]) fun _ _ _ _ _ _ us hl => match us, hl with | [_], _ => rfl
  have b10 := F10.binds (ps := ["groups", "hold", "value"]) fun _ _ _ _ _ _ us hl => match us, hl with | [_, _, _], _ => rfl
  have b11 := F11.binds (ps := ["rides"]) fun _ _ _ _ _ _ us hl => match us, hl with | [_], _ => rfl
  have b12 := F12.binds (ps := ["groups", "hold"]) fun _ _ _ _ _ _ us hl => match us, hl with | [_, _], _ => rfl
  have b13 := F13.binds (ps := ["groups", "hold"]) fun _ _ _ _ _ _ us hl => match us, hl with | [_, _], _ => rfl
  have b15 := F15.binds (ps := ["script"]) fun _ _ _ _ _ _ us hl => match us, hl with | [_], _ => rfl
  have b16 := F16.binds (ps := ["box"]) fun _ _ _ _ _ _ us hl => match us, hl with | [_], _ => rfl
  have b17 := F17.binds (ps := ["box", "many"]) fun _ _ _ _ _ _ us hl => match us, hl with | [_, _], _ => rfl
  have b18 := F18.binds (ps := ["a", "b"]) fun _ _ _ _ _ _ us hl => match us, hl with | [_, _], _ => rfl
  have b19 := F19.binds (ps := ["box", "value"]) fun _ _ _ _ _ _ us hl => match us, hl with | [_, _], _ => rfl
  have b20 := F20.binds (ps := ["value", "most"]) fun _ _ _ _ _ _ us hl => match us, hl with | [_, _], _ => rfl
  have b21 := F21.binds (ps := ["groups", "hold", "value"]) fun _ _ _ _ _ _ us hl => match us, hl with | [_, _, _], _ => rfl
  have b22 := F22.binds (ps := ["floors", "hold"]) fun _ _ _ _ _ _ us hl => match us, hl with | [_, _], _ => rfl
  have b23 := F23.binds (ps := ["script"]) fun _ _ _ _ _ _ us hl => match us, hl with | [_], _ => rfl
  have T : Txt K mg fas fds := ⟨⟨F1, PySem.W.mg_of X G a1, b1⟩, ⟨F2, PySem.W.mg_of X G a2, b2⟩, ⟨F3, PySem.W.mg_of X G a3, b3⟩, ⟨F8, PySem.W.mg_of X G a8, b8⟩, ⟨F9, PySem.W.mg_of X G a9, b9⟩, ⟨F10, PySem.W.mg_of X G a10, b10⟩, ⟨F11, PySem.W.mg_of X G a11, b11⟩, ⟨F12, PySem.W.mg_of X G a12, b12⟩, ⟨F13, PySem.W.mg_of X G a13, b13⟩, ⟨F15, PySem.W.mg_of X G a15, b15⟩, ⟨F16, PySem.W.mg_of X G a16, b16⟩, ⟨F17, PySem.W.mg_of X G a17, b17⟩, ⟨F18, PySem.W.mg_of X G a18, b18⟩, ⟨F19, PySem.W.mg_of X G a19, b19⟩, ⟨F20, PySem.W.mg_of X G a20, b20⟩, ⟨F21, PySem.W.mg_of X G a21, b21⟩, ⟨F22, PySem.W.mg_of X G a22, b22⟩, ⟨F23, PySem.W.mg_of X G a23, b23⟩, PySem.W.mg_none_of X G zall, PySem.W.mg_none_of X G zany, PySem.W.mg_none_of X G zbool, PySem.W.mg_none_of X G zdict, PySem.W.mg_none_of X G zint, PySem.W.mg_none_of X G zisinstance, PySem.W.mg_none_of X G zlen, PySem.W.mg_none_of X G zlist, PySem.W.mg_none_of X G zmax, PySem.W.mg_none_of X G zmin, PySem.W.mg_none_of X G zrange, PySem.W.mg_none_of X G zsorted, PySem.W.mg_none_of X G zstr, PySem.W.mg_none_of X G zsum, PySem.W.mg_none_of X G ztuple, ⟨_, PySem.W.mg_of X G gMAX_FLOOR, ⟨_, rfl⟩⟩, ⟨_, PySem.W.mg_of X G gMAX_GROUPS, ⟨_, rfl⟩⟩, ⟨_, PySem.W.mg_of X G gMAX_WAITING, ⟨_, rfl⟩⟩⟩
  exact ⟨fds 23, fun s v => .of_eq rfl, fun base _ _ => ok_law T plain⟩
theorem zz_walk {l : PySem.W.OpenLaw} {q : Program} {loose : List Str} {XP : (Str → Option Value) → Heap → Prop} {YP : World → Heap → Prop} {d : DefRec} {K : Params → PySem.W.Frag} (hn : l.most = some 63) (hdf : d.params.defaults = [])
    (hY : ∀ (w : World) (h : Heap), YP w h → (K w.params).In h)
    (F : ∀ (w : World) (mg : Str → Option Value) (fa : Addr) (h : Heap), (K w.params).In h → h.Ns mainGlobals mg → mg d.name = some (.ref fa) →
      ∃ fd : FuncData, (∀ (s : Shared) (u : Value), BindsTo s fd ⟨[u], []⟩ [("script", u)]) ∧ ∀ base : Heap, (K w.params).In base → base.Ns mainGlobals mg → FnOk l.prog w (K w.params) mg base CX0 43 fa fd ["script"] (spLaw (K w.params))) :
    PySem.W.WalkO q loose XP YP l.row.toRowW d [] (fun f vs => PySem.call f vs) :=
  L2.walk_of (n := 63) (k := 43) (x := "script") (CX := fun _ => CX0) (sp := fun w => spLaw (K w.params)) hn (by decide) hdf ⟨rfl, by decide, by decide⟩ hY F (fun _ _ a ns hl _ hS => ⟨a, ns, rfl, hS, hl, fun _ => rfl⟩) fun _ _ _ _ _ z => z
end K78

open PySem PySem.W PyProof.Rows in
set_option maxRecDepth 100000 in
set_option maxHeartbeats 0 in
theorem PySem.Challenge.cw_roomsemptied_k78_whole_lifts_holds : PySem.Challenge.rw_roomsemptied_k78_whole_lifts.Holds := by
  w_on; o_law; k_head; (case hw => w_witness2)
  k_fill
  refine K78.zz_walk (l := PySem.Challenge.rw_roomsemptied_k78_whole_lifts) rfl rfl (fun w h Y => PySem.W.kIn_of Y) ?F
  case F =>
    intro w mg fa h KX G hmg
    refine' K78.zz_all_mk KX G hmg ?a1 ?l1 ?c1 ?k1 ?a2 ?l2 ?c2 ?k2 ?a3 ?l3 ?c3 ?k3 ?a8 ?l8 ?c8 ?k8 ?a9 ?l9 ?c9 ?k9 ?a10 ?l10 ?c10 ?k10 ?a11 ?l11 ?c11 ?k11 ?a12 ?l12 ?c12 ?k12 ?a13 ?l13 ?c13 ?k13 ?a15 ?l15 ?c15 ?k15 ?a16 ?l16 ?c16 ?k16 ?a17 ?l17 ?c17 ?k17 ?a18 ?l18 ?c18 ?k18 ?a19 ?l19 ?c19 ?k19 ?a20 ?l20 ?c20 ?k20 ?a21 ?l21 ?c21 ?k21 ?a22 ?l22 ?c22 ?k22 ?a23 ?l23 ?c23 ?k23 ?zall ?zany ?zbool ?zdict ?zint ?zisinstance ?zlen ?zlist ?zmax ?zmin ?zrange ?zsorted ?zstr ?zsum ?ztuple ?gMAX_FLOOR ?gMAX_GROUPS ?gMAX_WAITING
    (case a1 => k_is)
    (case l1 => k_is)
    (case c1 => k_is)
    (case k1 => k_is)
    (case a2 => k_is)
    (case l2 => k_is)
    (case c2 => k_is)
    (case k2 => k_is)
    (case a3 => k_is)
    (case l3 => k_is)
    (case c3 => k_is)
    (case k3 => k_is)
    (case a8 => k_is)
    (case l8 => k_is)
    (case c8 => k_is)
    (case k8 => k_is)
    (case a9 => k_is)
    (case l9 => k_is)
    (case c9 => k_is)
    (case k9 => k_is)
    (case a10 => k_is)
    (case l10 => k_is)
    (case c10 => k_is)
    (case k10 => k_is)
    (case a11 => k_is)
    (case l11 => k_is)
    (case c11 => k_is)
    (case k11 => k_is)
    (case a12 => k_is)
    (case l12 => k_is)
    (case c12 => k_is)
    (case k12 => k_is)
    (case a13 => k_is)
    (case l13 => k_is)
    (case c13 => k_is)
    (case k13 => k_is)
    (case a15 => k_is)
    (case l15 => k_is)
    (case c15 => k_is)
    (case k15 => k_is)
    (case a16 => k_is)
    (case l16 => k_is)
    (case c16 => k_is)
    (case k16 => k_is)
    (case a17 => k_is)
    (case l17 => k_is)
    (case c17 => k_is)
    (case k17 => k_is)
    (case a18 => k_is)
    (case l18 => k_is)
    (case c18 => k_is)
    (case k18 => k_is)
    (case a19 => k_is)
    (case l19 => k_is)
    (case c19 => k_is)
    (case k19 => k_is)
    (case a20 => k_is)
    (case l20 => k_is)
    (case c20 => k_is)
    (case k20 => k_is)
    (case a21 => k_is)
    (case l21 => k_is)
    (case c21 => k_is)
    (case k21 => k_is)
    (case a22 => k_is)
    (case l22 => k_is)
    (case c22 => k_is)
    (case k22 => k_is)
    (case a23 => k_is)
    (case l23 => k_is)
    (case c23 => k_is)
    (case k23 => k_is)
    (case zall => k_is)
    (case zany => k_is)
    (case zbool => k_is)
    (case zdict => k_is)
    (case zint => k_is)
    (case zisinstance => k_is)
    (case zlen => k_is)
    (case zlist => k_is)
    (case zmax => k_is)
    (case zmin => k_is)
    (case zrange => k_is)
    (case zsorted => k_is)
    (case zstr => k_is)
    (case zsum => k_is)
    (case ztuple => k_is)
    (case gMAX_FLOOR => k_is)
    (case gMAX_GROUPS => k_is)
    (case gMAX_WAITING => k_is)
