import PyProof.Rows.All
import Wide.All
import OpenK.AllK
import Wide.FinOn
import HandS.ForMost
import HandS.IsInst
import HandS.Conv
import HandS.Zip
import HandS.NoneIn
import HandS.TupAny
import HandS.Flow
import HandS.Style
import KE.KDictKeyed
import KE.SortData
import KE.SortKeyHeap
import KE.DataMinMax
import HandS.TupMul
import HandS.Wide
import HandS.SortInts
import HandS.TupLe
import HandS.AnyAll
import KE.GoesMore
import HandS.More
import HandS.Remove
import PySem.Challenge.RW_roomsemptied_k83_whole_safe_loans
set_option Elab.async false
set_option linter.all false
set_option autoImplicit false
set_option maxRecDepth 100000
/-! Sv1: plain data D, the heap's picture of them (Rp), the running state (Rel). -/
namespace Sv
open PySem L2

/-- plain data: what a Python value is worth, apart from where it stands -/
inductive D where
  | non | bl (b : Bool) | int (i : Int) | str (s : Str) | tup (xs : List D) | lst (xs : List D) | dct (kvs : List (D × D)) | tok (n : Nat)
  deriving Inhabited

namespace D
mutual
def beq : D → D → Bool
  | .non, .non => true
  | .bl a, .bl b => decide (a = b)
  | .int a, .int b => decide (a = b)
  | .str a, .str b => decide (a = b)
  | .tup a, .tup b => beqL a b
  | .lst a, .lst b => beqL a b
  | .dct a, .dct b => beqK a b
  | .tok a, .tok b => decide (a = b)
  | _, _ => false
def beqL : List D → List D → Bool
  | [], [] => true
  | a :: as, b :: bs => beq a b && beqL as bs
  | _, _ => false
def beqK : List (D × D) → List (D × D) → Bool
  | [], [] => true
  | (a, x) :: as, (b, y) :: bs => beq a b && (beq x y && beqK as bs)
  | _, _ => false
end
mutual
theorem beq_self : ∀ a : D, beq a a = true
  | .non => by simp [beq]
  | .bl _ => by simp [beq]
  | .int _ => by simp [beq]
  | .str _ => by simp [beq]
  | .tup a => by rw [beq]; exact beqL_self a
  | .lst a => by rw [beq]; exact beqL_self a
  | .dct a => by rw [beq]; exact beqK_self a
  | .tok _ => by simp [beq]
theorem beqL_self : ∀ a : List D, beqL a a = true
  | [] => by simp [beqL]
  | a :: as => by rw [beqL, beq_self a, beqL_self as]; rfl
theorem beqK_self : ∀ a : List (D × D), beqK a a = true
  | [] => by simp [beqK]
  | (a, x) :: as => by rw [beqK, beq_self a, beq_self x, beqK_self as]; rfl
end
mutual
theorem eq_of_beq : ∀ a b : D, beq a b = true → a = b
  | .non, b, h => by cases b <;> simp_all [beq]
  | .bl _, b, h => by cases b <;> simp_all [beq]
  | .int _, b, h => by cases b <;> simp_all [beq]
  | .str _, b, h => by cases b <;> simp_all [beq]
  | .tup a, b, h => by
    cases b with
    | tup b => rw [beq] at h; rw [eq_of_beqL a b h]
    | _ => simp [beq] at h
  | .lst a, b, h => by
    cases b with
    | lst b => rw [beq] at h; rw [eq_of_beqL a b h]
    | _ => simp [beq] at h
  | .dct a, b, h => by
    cases b with
    | dct b => rw [beq] at h; rw [eq_of_beqK a b h]
    | _ => simp [beq] at h
  | .tok _, b, h => by cases b <;> simp_all [beq]
theorem eq_of_beqL : ∀ a b : List D, beqL a b = true → a = b
  | [], b, h => by cases b <;> simp_all [beqL]
  | a :: as, b, h => by
    cases b with
    | nil => simp [beqL] at h
    | cons b bs =>
      rw [beqL, Bool.and_eq_true] at h
      rw [eq_of_beq a b h.1, eq_of_beqL as bs h.2]
theorem eq_of_beqK : ∀ a b : List (D × D), beqK a b = true → a = b
  | [], b, h => by cases b <;> simp_all [beqK]
  | (a, x) :: as, b, h => by
    cases b with
    | nil => simp [beqK] at h
    | cons b bs =>
      obtain ⟨b, y⟩ := b
      rw [beqK, Bool.and_eq_true, Bool.and_eq_true] at h
      rw [eq_of_beq a b h.1, eq_of_beq x y h.2.1, eq_of_beqK as bs h.2.2]
end
instance : DecidableEq D := fun a b => if h : beq a b = true then isTrue (eq_of_beq a b h) else isFalse fun e => h (e ▸ beq_self a)

mutual
/-- as the library's data -/
def py : D → PyData
  | .non => .none
  | .bl b => .bool b
  | .int i => .int i
  | .str s => .str s
  | .tup xs => .tuple (pyL xs)
  | .lst xs => .list (pyL xs)
  | .dct _ => .none
  | .tok _ => .none
def pyL : List D → List PyData
  | [] => []
  | d :: ds => py d :: pyL ds
end
mutual
/-- no dicts, no tokens -/
def plain : D → Bool
  | .non => true
  | .bl _ => true
  | .int _ => true
  | .str s => s.cps.all (· < 0x110000)
  | .tup xs => plainL xs
  | .lst xs => plainL xs
  | .dct _ => false
  | .tok _ => false
def plainL : List D → Bool
  | [] => true
  | d :: ds => plain d && plainL ds
end
mutual
def dep : D → Nat
  | .non => 0
  | .bl _ => 0
  | .int _ => 0
  | .str _ => 0
  | .tup xs => depL xs + 1
  | .lst xs => depL xs + 1
  | .dct _ => 0
  | .tok _ => 0
def depL : List D → Nat
  | [] => 0
  | d :: ds => max (dep d) (depL ds)
end
/-- data that == and < are asked of -/
def sm (d : D) : Bool := plain d && decide (dep d ≤ 50)
mutual
/-- nothing in it that can be changed -/
def flat : D → Bool
  | .non => true
  | .bl _ => true
  | .int _ => true
  | .str _ => true
  | .tup xs => flatL xs
  | .lst _ => false
  | .dct _ => false
  | .tok _ => true
def flatL : List D → Bool
  | [] => true
  | d :: ds => flat d && flatL ds
end
mutual
/-- as a key of a dict (True is 1) -/
def nk : D → Option NestedKey
  | .non => some .none
  | .bl b => some (.num (if b then 1 else 0))
  | .int i => some (.num i)
  | .str s => some (.text s)
  | .tup xs => (nkL xs).map .tup
  | .lst _ => none
  | .dct _ => none
  | .tok _ => none
def nkL : List D → Option (List NestedKey)
  | [] => some []
  | d :: ds => match nk d, nkL ds with
    | some k, some ks => some (k :: ks)
    | _, _ => none
end
end D

/-- the law's random source: cells, two numbers -/
structure Bx where
  cs : List Int
  x : Int
  y : Int

abbrev Bo := Option (Addr × Addr)
def inBox : Bo → Addr → Prop
  | none, _ => False
  | some (p, q), a => a = p ∨ a = q

/-- what is fixed through a law -/
structure Pm where
  P : Program
  w : World
  K : PySem.W.Frag
  fn : Nat → Option V

/-- what a token stands for: 0 the random source, k + 1 the k-th function -/
def Tk (m : Pm) (bo : Bo) : Nat → V → Prop
  | 0, v => ∃ p q, bo = some (p, q) ∧ v = .ref p
  | n + 1, v => m.fn n = some v

/-- a dict object with just these entries (keys: tuples) -/
def DicO (m : Pm) (a : Addr) (es : List (NestedKey × Addr × Value)) : HO :=
  .ext fun h => ∃ o arr ep, h.get? a = some o ∧ o.ExactDict ∧ o.data = .dict arr ep ∧ arr.toList = es.map (entryOfKey (nestedKind m.P m.w)) ∧ (es.map (·.1)).Nodup ∧ es.length ≤ sizeLine ∧ (a == sysModules) = false

def keyD : Key → D
  | .inl i => .int i
  | .inr x => .str x

section
variable (m : Pm) (bo : Bo) (F : Addr → Prop) (H : Hp)
mutual
/-- the value v is the datum d; its lists and dicts stand at places of F -/
def Rp : D → V → Prop
  | .non, v => v = .non
  | .bl b, v => v = .bl b
  | .int i, v => v = .int i
  | .str s, v => v = .str s
  | .tup ds, v => ∃ a vs, v = .ref a ∧ SqT m.K H a vs ∧ vs.length ≤ sizeLine ∧ RpL ds vs
  | .lst ds, v => ∃ a vs, v = .ref a ∧ F a ∧ H a = some (.lst vs) ∧ vs.length ≤ sizeLine ∧ RpL ds vs
  | .dct kvs, v => ∃ a, v = .ref a ∧ F a ∧ ((∃ ws, H a = some (.dK ws) ∧ RpA kvs ws) ∨ ∃ es, H a = some (DicO m a es) ∧ RpB kvs es)
  | .tok n, v => Tk m bo n v
def RpL : List D → List V → Prop
  | [], vs => vs = []
  | d :: ds, vs => ∃ v r, vs = v :: r ∧ Rp d v ∧ RpL ds r
def RpA : List (D × D) → List (Key × V) → Prop
  | [], vs => vs = []
  | (k, d) :: ds, vs => ∃ k' v r, vs = (k', v) :: r ∧ k = keyD k' ∧ Rp d v ∧ RpA ds r
def RpB : List (D × D) → List (NestedKey × Addr × Value) → Prop
  | [], vs => vs = []
  | (k, d) :: ds, vs => ∃ k' a u r, vs = (k', a, u) :: r ∧ k.nk = some k' ∧ k.flat = true ∧ k'.depth ≤ 8 ∧ Rp k (.ref a) ∧ (∃ v, RelV v u ∧ Rp d v) ∧ RpB ds r
end
/-- the content of a list or dict of one's own -/
def Own : D → Addr → Prop
  | .lst ds, a => ∃ vs, H a = some (.lst vs) ∧ vs.length ≤ sizeLine ∧ RpL m bo F H ds vs
  | .dct kvs, a => (∃ ws, H a = some (.dK ws) ∧ RpA m bo F H kvs ws) ∨ ∃ es, H a = some (DicO m a es) ∧ RpB m bo F H kvs es
  | _, _ => False
/-- an operand: as Rp, or a thing of one's own -/
def RpO (d : D) (v : V) : Prop := Rp m bo F H d v ∨ ∃ a, v = .ref a ∧ ¬ inBox bo a ∧ ¬ F a ∧ Own m bo F H d a
end

/-- what is written in place -/
def MutO : HO → Prop
  | .lst _ => True
  | .dK _ => True
  | .dT _ => True
  | .set _ _ => True
  | .ins _ _ _ => True
  | .ext _ => True
  | _ => False

/-- F's objects and all tuples stay -/
structure FK (F : Addr → Prop) (H : Hp) (F' : Addr → Prop) (H' : Hp) : Prop where
  sub : ∀ a, F a → F' a
  at_ : ∀ a, F a → H' a = H a
  imm : ∀ a o, H a = some o → ¬ MutO o → H' a = some o
theorem FK.refl (F : Addr → Prop) (H : Hp) : FK F H F H := ⟨fun _ h => h, fun _ _ => rfl, fun _ _ h _ => h⟩
theorem FK.trans {F F1 F2 : Addr → Prop} {H H1 H2 : Hp} (a : FK F H F1 H1) (b : FK F1 H1 F2 H2) : FK F H F2 H2 :=
  ⟨fun c h => b.sub c (a.sub c h), fun c h => (b.at_ c (a.sub c h)).trans (a.at_ c h), fun c o h n => b.imm c o (a.imm c o h n) n⟩

theorem SqT.fk {K : PySem.W.Frag} {F F' : Addr → Prop} {H H' : Hp} {a : Addr} {vs : List V} (k : FK F H F' H') (h : SqT K H a vs) : SqT K H' a vs := by
  rcases h with (h | ⟨o, h⟩) | h
  · exact .inl (.inl (k.imm _ _ h (by simp [MutO])))
  · exact .inl (.inr ⟨o, k.imm _ _ h (by simp [MutO])⟩)
  · exact .inr h

section
variable {m : Pm} {bo bo' : Bo} {F F' : Addr → Prop} {H H' : Hp}
mutual
theorem Rp.mono (kT : ∀ n v, Tk m bo n v → Tk m bo' n v) (k : FK F H F' H') : ∀ (d : D) (v : V), Rp m bo F H d v → Rp m bo' F' H' d v
  | .non, v, h => by simpa [Rp] using h
  | .bl _, v, h => by simpa [Rp] using h
  | .int _, v, h => by simpa [Rp] using h
  | .str _, v, h => by simpa [Rp] using h
  | .tup ds, v, h => by
    simp only [Rp] at h ⊢
    obtain ⟨a, vs, e, s, z, r⟩ := h
    exact ⟨a, vs, e, Sv.SqT.fk k s, z, RpL.mono kT k ds vs r⟩
  | .lst ds, v, h => by
    simp only [Rp] at h ⊢
    obtain ⟨a, vs, e, f, s, z, r⟩ := h
    exact ⟨a, vs, e, k.sub a f, (k.at_ a f).trans s, z, RpL.mono kT k ds vs r⟩
  | .dct kvs, v, h => by
    simp only [Rp] at h ⊢
    obtain ⟨a, e, f, ⟨ws, s, r⟩ | ⟨es, s, r⟩⟩ := h
    · exact ⟨a, e, k.sub a f, .inl ⟨ws, (k.at_ a f).trans s, RpA.mono kT k kvs ws r⟩⟩
    · exact ⟨a, e, k.sub a f, .inr ⟨es, (k.at_ a f).trans s, RpB.mono kT k kvs es r⟩⟩
  | .tok n, v, h => by
    simp only [Rp] at h ⊢
    exact kT n v h
theorem RpL.mono (kT : ∀ n v, Tk m bo n v → Tk m bo' n v) (k : FK F H F' H') : ∀ (ds : List D) (vs : List V), RpL m bo F H ds vs → RpL m bo' F' H' ds vs
  | [], vs, h => by simpa [RpL] using h
  | d :: ds, vs, h => by
    simp only [RpL] at h ⊢
    obtain ⟨v, r, e, h1, h2⟩ := h
    exact ⟨v, r, e, Rp.mono kT k d v h1, RpL.mono kT k ds r h2⟩
theorem RpA.mono (kT : ∀ n v, Tk m bo n v → Tk m bo' n v) (k : FK F H F' H') : ∀ (ds : List (D × D)) (vs : List (Key × V)), RpA m bo F H ds vs → RpA m bo' F' H' ds vs
  | [], vs, h => by simpa [RpA] using h
  | (x, d) :: ds, vs, h => by
    simp only [RpA] at h ⊢
    obtain ⟨k', v, r, e, ek, h1, h2⟩ := h
    exact ⟨k', v, r, e, ek, Rp.mono kT k d v h1, RpA.mono kT k ds r h2⟩
theorem RpB.mono (kT : ∀ n v, Tk m bo n v → Tk m bo' n v) (k : FK F H F' H') : ∀ (ds : List (D × D)) (vs : List (NestedKey × Addr × Value)), RpB m bo F H ds vs → RpB m bo' F' H' ds vs
  | [], vs, h => by simpa [RpB] using h
  | (x, d) :: ds, vs, h => by
    simp only [RpB] at h ⊢
    obtain ⟨k', a, u, r, e, ek, fl, dp, hk, ⟨v, rv, h1⟩, h2⟩ := h
    exact ⟨k', a, u, r, e, ek, fl, dp, Rp.mono kT k x _ hk, ⟨v, rv, Rp.mono kT k d v h1⟩, RpB.mono kT k ds r h2⟩
end
theorem Rp.fk (k : FK F H F' H') {d : D} {v : V} (h : Rp m bo F H d v) : Rp m bo F' H' d v := Rp.mono (fun _ _ h => h) k d v h
theorem RpL.fk (k : FK F H F' H') {d : List D} {v : List V} (h : RpL m bo F H d v) : RpL m bo F' H' d v := RpL.mono (fun _ _ h => h) k d v h
theorem RpA.fk (k : FK F H F' H') {d : List (D × D)} {v : List (Key × V)} (h : RpA m bo F H d v) : RpA m bo F' H' d v := RpA.mono (fun _ _ h => h) k d v h
theorem RpB.fk (k : FK F H F' H') {d : List (D × D)} {v : List (NestedKey × Addr × Value)} (h : RpB m bo F H d v) : RpB m bo F' H' d v := RpB.mono (fun _ _ h => h) k d v h
theorem Own.fk (k : FK F H F' H') {d : D} {a : Addr} (e : H' a = H a) (h : Own m bo F H d a) : Own m bo F' H' d a := by
  cases d with
  | lst ds => obtain ⟨vs, s, z, r⟩ := h; exact ⟨vs, e.trans s, z, r.fk k⟩
  | dct kvs =>
    rcases h with ⟨ws, s, r⟩ | ⟨es, s, r⟩
    · exact .inl ⟨ws, e.trans s, r.fk k⟩
    · exact .inr ⟨es, e.trans s, r.fk k⟩
  | _ => exact (show False from h).elim
end

section
variable {m : Pm} {bo : Bo} {F : Addr → Prop} {H : Hp}
theorem RpL.length : ∀ {ds : List D} {vs : List V}, RpL m bo F H ds vs → vs.length = ds.length
  | [], vs, h => by simp only [RpL] at h; simp [h]
  | d :: ds, vs, h => by
    simp only [RpL] at h
    obtain ⟨v, r, rfl, _, h2⟩ := h
    simp [RpL.length h2]
theorem RpL.nil : RpL m bo F H [] [] := by simp [RpL]
theorem RpL.cons {d : D} {v : V} {ds : List D} {vs : List V} (h : Rp m bo F H d v) (t : RpL m bo F H ds vs) : RpL m bo F H (d :: ds) (v :: vs) := by
  simp only [RpL]
  exact ⟨v, vs, rfl, h, t⟩
theorem RpL.head {d : D} {v : V} {ds : List D} {vs : List V} (h : RpL m bo F H (d :: ds) (v :: vs)) : Rp m bo F H d v ∧ RpL m bo F H ds vs := by
  simp only [RpL] at h
  obtain ⟨v', r, e, h1, h2⟩ := h
  cases e
  exact ⟨h1, h2⟩
theorem RpL.append : ∀ {ds es : List D} {vs us : List V}, RpL m bo F H ds vs → RpL m bo F H es us → RpL m bo F H (ds ++ es) (vs ++ us)
  | [], es, vs, us, h, t => by simp only [RpL] at h; subst h; exact t
  | d :: ds, es, vs, us, h, t => by
    simp only [RpL] at h
    obtain ⟨v, r, rfl, h1, h2⟩ := h
    exact RpL.cons h1 (RpL.append h2 t)
theorem RpL.get : ∀ {ds : List D} {vs : List V} {i : Nat} {d : D}, RpL m bo F H ds vs → ds[i]? = some d → ∃ v, vs[i]? = some v ∧ Rp m bo F H d v
  | [], _, _, _, _, e => by simp at e
  | d :: ds, vs, 0, x, h, e => by
    simp only [RpL] at h
    obtain ⟨v, r, rfl, h1, h2⟩ := h
    simp at e; subst e
    exact ⟨v, rfl, h1⟩
  | d :: ds, vs, i + 1, x, h, e => by
    simp only [RpL] at h
    obtain ⟨v, r, rfl, h1, h2⟩ := h
    obtain ⟨u, q, z⟩ := RpL.get (i := i) h2 (by simpa using e)
    exact ⟨u, by simpa using q, z⟩
theorem RpL.of_get : ∀ {ds : List D} {vs : List V} {i : Nat} {v : V}, RpL m bo F H ds vs → vs[i]? = some v → ∃ d, ds[i]? = some d ∧ Rp m bo F H d v := fun {ds vs i v} h e => by
  have hl := h.length
  have hi := (List.getElem?_eq_some_iff.mp e).1
  have hi' : i < ds.length := by omega
  obtain ⟨u, q, z⟩ := h.get (List.getElem?_eq_getElem hi')
  rw [e] at q; cases q
  exact ⟨_, List.getElem?_eq_getElem hi', z⟩
theorem RpL.take : ∀ {ds : List D} {vs : List V} (n : Nat), RpL m bo F H ds vs → RpL m bo F H (ds.take n) (vs.take n)
  | _, _, 0, _ => by simp [RpL]
  | [], _, n + 1, h => by simp only [RpL] at h; subst h; simp [RpL]
  | d :: ds, vs, n + 1, h => by
    simp only [RpL] at h
    obtain ⟨v, r, rfl, h1, h2⟩ := h
    exact RpL.cons h1 (RpL.take n h2)
theorem RpL.drop : ∀ {ds : List D} {vs : List V} (n : Nat), RpL m bo F H ds vs → RpL m bo F H (ds.drop n) (vs.drop n)
  | _, _, 0, h => h
  | [], _, n + 1, h => by simp only [RpL] at h; subst h; simp [RpL]
  | d :: ds, vs, n + 1, h => by
    simp only [RpL] at h
    obtain ⟨v, r, rfl, h1, h2⟩ := h
    exact RpL.drop n h2
theorem RpL.set : ∀ {ds : List D} {vs : List V} (i : Nat) {d : D} {v : V}, RpL m bo F H ds vs → Rp m bo F H d v → RpL m bo F H (ds.set i d) (vs.set i v)
  | [], _, i, _, _, h, _ => by simp only [RpL] at h; subst h; simp [RpL]
  | x :: ds, vs, 0, d, v, h, q => by
    simp only [RpL] at h
    obtain ⟨u, r, rfl, h1, h2⟩ := h
    exact RpL.cons q h2
  | x :: ds, vs, i + 1, d, v, h, q => by
    simp only [RpL] at h
    obtain ⟨u, r, rfl, h1, h2⟩ := h
    exact RpL.cons h1 (RpL.set i h2 q)
theorem RpL.reverse : ∀ {ds : List D} {vs : List V}, RpL m bo F H ds vs → RpL m bo F H ds.reverse vs.reverse
  | [], _, h => by simp only [RpL] at h; subst h; simp [RpL]
  | x :: ds, vs, h => by
    simp only [RpL] at h
    obtain ⟨u, r, rfl, h1, h2⟩ := h
    rw [List.reverse_cons, List.reverse_cons]
    exact RpL.append (RpL.reverse h2) (RpL.cons h1 RpL.nil)
theorem RpL.eraseIdx : ∀ {ds : List D} {vs : List V} (i : Nat), RpL m bo F H ds vs → RpL m bo F H (ds.eraseIdx i) (vs.eraseIdx i)
  | [], _, i, h => by simp only [RpL] at h; subst h; simp [RpL]
  | x :: ds, vs, 0, h => by
    simp only [RpL] at h
    obtain ⟨u, r, rfl, h1, h2⟩ := h
    exact h2
  | x :: ds, vs, i + 1, h => by
    simp only [RpL] at h
    obtain ⟨u, r, rfl, h1, h2⟩ := h
    exact RpL.cons h1 (RpL.eraseIdx i h2)
theorem RpL.replicate {d : D} {v : V} (h : Rp m bo F H d v) : ∀ n, RpL m bo F H (List.replicate n d) (List.replicate n v)
  | 0 => by simp [RpL]
  | n + 1 => RpL.cons h (RpL.replicate h n)
/-- ints, bools, texts read off -/
theorem RpL.ints : ∀ {is : List Int} {vs : List V}, RpL m bo F H (is.map .int) vs → vs = is.map .int
  | [], vs, h => by simpa [RpL] using h
  | i :: is, vs, h => by
    simp only [RpL, List.map_cons, Rp] at h
    obtain ⟨v, r, rfl, rfl, h2⟩ := h
    rw [RpL.ints h2]; rfl
theorem RpL.bools : ∀ {is : List Bool} {vs : List V}, RpL m bo F H (is.map .bl) vs → vs = is.map .bl
  | [], vs, h => by simpa [RpL] using h
  | i :: is, vs, h => by
    simp only [RpL, List.map_cons, Rp] at h
    obtain ⟨v, r, rfl, rfl, h2⟩ := h
    rw [RpL.bools h2]; rfl
theorem RpL.strs : ∀ {is : List Str} {vs : List V}, RpL m bo F H (is.map .str) vs → vs = is.map .str
  | [], vs, h => by simpa [RpL] using h
  | i :: is, vs, h => by
    simp only [RpL, List.map_cons, Rp] at h
    obtain ⟨v, r, rfl, rfl, h2⟩ := h
    rw [RpL.strs h2]; rfl
end

/-! a flat datum's picture does not lean on F -/
mutual
theorem Rp.flat {m : Pm} {bo : Bo} {F F' : Addr → Prop} {H : Hp} : ∀ (d : D) (v : V), d.flat = true → Rp m bo F H d v → Rp m bo F' H d v
  | .non, v, _, h => by simpa [Rp] using h
  | .bl _, v, _, h => by simpa [Rp] using h
  | .int _, v, _, h => by simpa [Rp] using h
  | .str _, v, _, h => by simpa [Rp] using h
  | .tup ds, v, e, h => by
    simp only [Rp] at h ⊢
    obtain ⟨a, vs, e1, s, z, r⟩ := h
    exact ⟨a, vs, e1, s, z, RpL.flat ds vs (by simpa [D.flat] using e) r⟩
  | .lst _, _, e, _ => by simp [D.flat] at e
  | .dct _, _, e, _ => by simp [D.flat] at e
  | .tok n, v, _, h => by simpa [Rp] using h
theorem RpL.flat {m : Pm} {bo : Bo} {F F' : Addr → Prop} {H : Hp} : ∀ (d : List D) (v : List V), D.flatL d = true → RpL m bo F H d v → RpL m bo F' H d v
  | [], v, _, h => by simpa [RpL] using h
  | d :: ds, v, e, h => by
    simp only [RpL] at h ⊢
    rw [D.flatL, Bool.and_eq_true] at e
    obtain ⟨x, r, e1, h1, h2⟩ := h
    exact ⟨x, r, e1, Rp.flat d x e.1 h1, RpL.flat ds r e.2 h2⟩
end

/-- the random source at its place -/
def BoxOk (bo : Bo) (F : Addr → Prop) (H : Hp) (b : Bx) : Prop :=
  match bo with
  | none => True
  | some (p, q) => p ≠ q ∧ ¬ F p ∧ ¬ F q ∧ H p = some (.lst [.ref q, .int b.x, .int b.y]) ∧ H q = some (.lst (b.cs.map .int))

/-- the heap has grown; all but the random source is as it was -/
structure Grow (bo : Bo) (F : Addr → Prop) (H : Hp) (F' : Addr → Prop) (H' : Hp) : Prop where
  keep : ∀ a o, H a = some o → ¬ inBox bo a → H' a = some o
  free : ∀ a, H' a = none → H a = none
  sub : ∀ a, F a → F' a
  new : ∀ a, F' a → F a ∨ H a = none
  dom : ∀ a, F' a → H' a ≠ none
theorem Grow.refl {bo : Bo} {F : Addr → Prop} {H : Hp} (d : ∀ a, F a → H a ≠ none) : Grow bo F H F H := ⟨fun _ _ h _ => h, fun _ h => h, fun _ h => h, fun _ h => .inl h, d⟩
theorem Grow.trans {bo : Bo} {F F1 F2 : Addr → Prop} {H H1 H2 : Hp} (a : Grow bo F H F1 H1) (b : Grow bo F1 H1 F2 H2) : Grow bo F H F2 H2 :=
  ⟨fun c o h n => b.keep c o (a.keep c o h n) n, fun c h => a.free c (b.free c h), fun c h => b.sub c (a.sub c h), fun c h => (b.new c h).elim (fun q => a.new c q) fun q => .inr (a.free c q), b.dom⟩

structure Core (H0 : Hp) (F0 : Addr → Prop) (bo : Bo) (F : Addr → Prop) (H : Hp) (b : Bx) : Prop where
  box : BoxOk bo F H b
  keep : ∀ a o, H0 a = some o → ¬ inBox bo a → H a = some o
  free : ∀ a, H a = none → H0 a = none
  sub : ∀ a, F0 a → F a
  new : ∀ a, F a → F0 a ∨ H0 a = none
  dom : ∀ a, F a → H a ≠ none

/-- a slot of a def: empty, a datum that stays, a list or dict of one's own -/
inductive Sl where
  | emp | frz (d : D) | own (d : D)
  deriving Inhabited
abbrev Rho := List Sl

structure Rel (m : Pm) (H0 : Hp) (F0 : Addr → Prop) (bo : Bo) (σ : St) (ρ : Rho) (F : Addr → Prop) (H : Hp) (b : Bx) : Prop where
  core : Core H0 F0 bo F H b
  len : σ.length = ρ.length
  frz : ∀ (i : Nat) (d : D), ρ[i]? = some (Sl.frz d) → ∃ v, σ[i]? = some (some v) ∧ Rp m bo F H d v
  own : ∀ (i : Nat) (d : D), ρ[i]? = some (Sl.own d) → ∃ a, σ[i]? = some (some (V.ref a)) ∧ ¬ F a ∧ ¬ inBox bo a ∧ H0 a = none ∧ Own m bo F H d a
  dis : ∀ (i j : Nat) (di dj : D) (a : Addr), i ≠ j → ρ[i]? = some (Sl.own di) → ρ[j]? = some (Sl.own dj) → σ[i]? = some (some (V.ref a)) → σ[j]? = some (some (V.ref a)) → False

theorem inBox_some {bo : Bo} {F : Addr → Prop} {H : Hp} {b : Bx} (h : BoxOk bo F H b) {a : Addr} (n : inBox bo a) : ¬ F a ∧ ∃ vs, H a = some (.lst vs) := by
  match bo, h, n with
  | some (p, q), ⟨_, h1, h2, h3, h4⟩, n =>
    rcases n with rfl | rfl
    · exact ⟨h1, _, h3⟩
    · exact ⟨h2, _, h4⟩
theorem Grow.fk {bo : Bo} {F F' : Addr → Prop} {H H' : Hp} {b : Bx} (g : Grow bo F H F' H') (hb : BoxOk bo F H b) (dom : ∀ a, F a → H a ≠ none) : FK F H F' H' where
  sub := g.sub
  at_ := fun a f => by
    cases q : H a with
    | none => exact absurd q (dom a f)
    | some o => exact g.keep a o q fun n => (inBox_some hb n).1 f
  imm := fun a o h n => g.keep a o h fun z => by
    obtain ⟨_, vs, e⟩ := inBox_some hb z
    rw [h] at e; cases e
    exact n trivial

theorem Core.grow {H0 : Hp} {F0 : Addr → Prop} {bo : Bo} {F F' : Addr → Prop} {H H' : Hp} {b b' : Bx} (c : Core H0 F0 bo F H b) (g : Grow bo F H F' H') (hb : BoxOk bo F' H' b') : Core H0 F0 bo F' H' b' :=
  ⟨hb, fun a o h n => g.keep a o (c.keep a o h n) n, fun a h => c.free a (g.free a h), fun a h => g.sub a (c.sub a h), fun a h => (g.new a h).elim (fun q => c.new a q) fun q => .inr (c.free a q), g.dom⟩

section
variable {m : Pm} {H0 : Hp} {F0 : Addr → Prop} {bo : Bo} {σ : St} {ρ : Rho} {F F' : Addr → Prop} {H H' : Hp} {b b' : Bx}
theorem Rel.fkg (R : Rel m H0 F0 bo σ ρ F H b) (g : Grow bo F H F' H') : FK F H F' H' := g.fk R.core.box R.core.dom
theorem Own.some {d : D} {a : Addr} (h : Own m bo F H d a) : ∃ o, H a = some o ∧ MutO o := by
  cases d with
  | lst ds => obtain ⟨vs, s, z, r⟩ := h; exact ⟨_, s, trivial⟩
  | dct kvs =>
    rcases h with ⟨ws, s, r⟩ | ⟨es, s, r⟩
    · exact ⟨_, s, trivial⟩
    · exact ⟨_, s, trivial⟩
  | _ => exact (show False from h).elim
theorem Rel.grow (R : Rel m H0 F0 bo σ ρ F H b) (g : Grow bo F H F' H') (hb : BoxOk bo F' H' b') : Rel m H0 F0 bo σ ρ F' H' b' where
  core := R.core.grow g hb
  len := R.len
  frz := fun i d e => by
    obtain ⟨v, h1, h2⟩ := R.frz i d e
    exact ⟨v, h1, h2.fk (R.fkg g)⟩
  own := fun i d e => by
    obtain ⟨a, h1, h2, h3, h4, h5⟩ := R.own i d e
    obtain ⟨o, q, _⟩ := h5.some
    refine ⟨a, h1, fun z => ?_, h3, h4, h5.fk (R.fkg g) ((g.keep a o q h3).trans q.symm)⟩
    rcases g.new a z with z | z
    · exact h2 z
    · rw [q] at z; cases z
  dis := R.dis
/-- the heap at hand -/
structure Wo (bo : Bo) (F : Addr → Prop) (H : Hp) (b : Bx) : Prop where
  box : BoxOk bo F H b
  dom : ∀ a, F a → H a ≠ none
theorem Rel.wo (R : Rel m H0 F0 bo σ ρ F H b) : Wo bo F H b := ⟨R.core.box, R.core.dom⟩
/-- an operand stays one while the heap grows -/
theorem RpO.grow {d : D} {v : V} (W : Wo bo F H b) (g : Grow bo F H F' H') (h : RpO m bo F H d v) : RpO m bo F' H' d v := by
  rcases h with h | ⟨a, rfl, n, f, h⟩
  · exact .inl (h.fk (g.fk W.box W.dom))
  · obtain ⟨o, q, _⟩ := h.some
    refine .inr ⟨a, rfl, n, fun z => ?_, h.fk (g.fk W.box W.dom) ((g.keep a o q n).trans q.symm)⟩
    rcases g.new a z with z | z
    · exact f z
    · rw [q] at z; cases z
theorem inBox_new (W : Wo bo F H b) {a : Addr} (h : H a = none) : ¬ inBox bo a := fun z => by
  obtain ⟨_, vs, e⟩ := inBox_some W.box z
  rw [h] at e; cases e
theorem BoxOk.alloc {p : Addr} {o : HO} (W : Wo bo F H b) (hp : H p = none) (sub : ∀ a, F' a → F a ∨ a = p) : BoxOk bo F' (upd H p o) b := by
  have hb := W.box
  match bo, hb with
  | none, _ => trivial
  | some (x, y), ⟨h1, h2, h3, h4, h5⟩ =>
    have nx : x ≠ p := ne_of_none h4 hp
    have ny : y ≠ p := ne_of_none h5 hp
    refine ⟨h1, fun z => (sub x z).elim h2 nx, fun z => (sub y z).elim h3 ny, by rw [upd_ne nx]; exact h4, by rw [upd_ne ny]; exact h5⟩
/-- a new object -/
theorem Grow.alloc {p : Addr} {o : HO} (W : Wo bo F H b) (hp : H p = none) : Grow bo F H F (upd H p o) where
  keep := fun a u e _ => by rw [upd_ne (ne_of_none e hp)]; exact e
  free := fun a e => by
    by_cases h : a = p
    · rw [h]; exact hp
    · rw [upd_ne h] at e; exact e
  sub := fun _ h => h
  new := fun _ h => .inl h
  dom := fun a f e => by
    by_cases h : a = p
    · rw [h, upd_same] at e; cases e
    · rw [upd_ne h] at e; exact W.dom a f e
/-- .. that stays as it is -/
theorem Grow.allocF {p : Addr} {o : HO} (W : Wo bo F H b) (hp : H p = none) : Grow bo F H (fun a => F a ∨ a = p) (upd H p o) where
  keep := fun a u e _ => by rw [upd_ne (ne_of_none e hp)]; exact e
  free := fun a e => by
    by_cases h : a = p
    · rw [h]; exact hp
    · rw [upd_ne h] at e; exact e
  sub := fun _ h => .inl h
  new := fun a h => h.elim .inl fun e => .inr (by rw [e]; exact hp)
  dom := fun a f e => by
    by_cases h : a = p
    · rw [h, upd_same] at e; cases e
    · rw [upd_ne h] at e
      rcases f with f | f
      · exact W.dom a f e
      · exact h f
theorem Wo.grow (W : Wo bo F H b) (g : Grow bo F H F' H') (hb : BoxOk bo F' H' b') : Wo bo F' H' b' := ⟨hb, g.dom⟩
theorem Wo.fk (W : Wo bo F H b) (g : Grow bo F H F' H') : FK F H F' H' := g.fk W.box W.dom
/-- a new tuple -/
theorem new_tup {p : Addr} {ds : List D} {vs : List V} (W : Wo bo F H b) (hp : H p = none) (r : RpL m bo F H ds vs) (z : vs.length ≤ sizeLine) :
    Grow bo F H F (upd H p (.tup vs)) ∧ BoxOk bo F (upd H p (.tup vs)) b ∧ Rp m bo F (upd H p (.tup vs)) (.tup ds) (.ref p) := by
  have g : Grow bo F H F (upd H p (.tup vs)) := Grow.alloc W hp
  refine ⟨g, BoxOk.alloc W hp fun _ h => .inl h, ?_⟩
  simp only [Rp]
  exact ⟨p, vs, rfl, SqT.of upd_same, z, r.fk (W.fk g)⟩
/-- a new list, to stay as it is -/
theorem new_lst {p : Addr} {ds : List D} {vs : List V} (W : Wo bo F H b) (hp : H p = none) (r : RpL m bo F H ds vs) (z : vs.length ≤ sizeLine) :
    Grow bo F H (fun a => F a ∨ a = p) (upd H p (.lst vs)) ∧ BoxOk bo (fun a => F a ∨ a = p) (upd H p (.lst vs)) b ∧ Rp m bo (fun a => F a ∨ a = p) (upd H p (.lst vs)) (.lst ds) (.ref p) := by
  have g : Grow bo F H (fun a => F a ∨ a = p) (upd H p (.lst vs)) := Grow.allocF W hp
  refine ⟨g, BoxOk.alloc W hp fun _ h => h, ?_⟩
  simp only [Rp]
  exact ⟨p, vs, rfl, .inr rfl, upd_same, z, r.fk (W.fk g)⟩
/-- .. to be changed -/
theorem new_own {p : Addr} {ds : List D} {vs : List V} (W : Wo bo F H b) (hp : H p = none) (r : RpL m bo F H ds vs) (z : vs.length ≤ sizeLine) :
    Grow bo F H F (upd H p (.lst vs)) ∧ BoxOk bo F (upd H p (.lst vs)) b ∧ ¬ F p ∧ Own m bo F (upd H p (.lst vs)) (.lst ds) p := by
  have g : Grow bo F H F (upd H p (.lst vs)) := Grow.alloc W hp
  exact ⟨g, BoxOk.alloc W hp fun _ h => .inl h, fun f => W.dom p f hp, vs, upd_same, z, r.fk (W.fk g)⟩
/-- a thing of one's own, left to stay as it is -/
theorem freeze {d : D} {a : Addr} (W : Wo bo F H b) (nb : ¬ inBox bo a) (h : Own m bo F H d a) :
    FK F H (fun c => F c ∨ c = a) H ∧ BoxOk bo (fun c => F c ∨ c = a) H b ∧ (∀ c, (F c ∨ c = a) → H c ≠ none) ∧ Rp m bo (fun c => F c ∨ c = a) H d (.ref a) := by
  obtain ⟨o, q, _⟩ := h.some
  have k : FK F H (fun c => F c ∨ c = a) H := ⟨fun _ h => .inl h, fun _ _ => rfl, fun _ _ h _ => h⟩
  refine ⟨k, ?_, fun c f e => ?_, ?_⟩
  · have hb := W.box
    match bo, hb, nb with
    | none, _, _ => trivial
    | some (x, y), ⟨h1, h2, h3, h4, h5⟩, nb =>
      exact ⟨h1, fun z => z.elim h2 fun e => nb (.inl e.symm), fun z => z.elim h3 fun e => nb (.inr e.symm), h4, h5⟩
  · rcases f with f | f
    · exact W.dom c f e
    · rw [f, q] at e; cases e
  · have h' := h.fk (F' := fun c => F c ∨ c = a) k rfl
    cases d with
    | lst ds => obtain ⟨vs, s, z, r⟩ := h'; simp only [Rp]; exact ⟨a, vs, rfl, .inr rfl, s, z, r⟩
    | dct kvs => simp only [Rp]; exact ⟨a, rfl, .inr rfl, h'⟩
    | _ => exact (show False from h).elim
end
end Sv

/-! Sv2: what the constructs compute, on plain data. -/
namespace Sv
open PySem L2

/-! ### operators -/
/-- how large a number may grow -/
def bigOk (i : Int) : Bool := decide (i.natAbs < 2 ^ 30000)
def mulOk (i j : Int) : Bool := decide (i.natAbs < 2 ^ 63) || decide (j.natAbs < 2 ^ 63) || (bigOk i && bigOk j)
def opAdd : D → D → Option D
  | .int i, .int j => some (.int (i + j))
  | .str x, .str y => if x.length + y.length ≤ sizeLine then some (.str (x ++ y)) else none
  | .tup xs, .tup ys => if xs.length + ys.length ≤ sizeLine then some (.tup (xs ++ ys)) else none
  | .lst xs, .lst ys => if xs.length + ys.length ≤ sizeLine then some (.lst (xs ++ ys)) else none
  | _, _ => none
def opSub : D → D → Option D
  | .int i, .int j => some (.int (i - j))
  | _, _ => none
def opMul : D → D → Option D
  | .int i, .int j => if mulOk i j = true then some (.int (i * j)) else none
  | .lst xs, .int k => if k < 2 ^ 62 ∧ -(2 ^ 62) < k ∧ xs.length * k.toNat ≤ sizeLine then some (.lst (List.replicate k.toNat xs).flatten) else none
  | .tup xs, .int k => if k ≤ 1000 ∧ -1000 ≤ k ∧ xs.length ≤ 1000 then some (.tup (List.replicate k.toNat xs).flatten) else none
  | _, _ => none
def opFdiv : D → D → Option D
  | .int i, .int j => if j ≠ 0 ∧ j.natAbs < 2 ^ 30 then some (.int (i.fdiv j)) else none
  | _, _ => none
def opMod : D → D → Option D
  | .int i, .int j => if j ≠ 0 then some (.int (i.fmod j)) else none
  | _, _ => none
def opNeg : D → Option D
  | .int i => some (.int (-i))
  | _ => none

/-! ### truth, comparisons -/
def truthD : D → Option Bool
  | .non => some false
  | .bl b => some b
  | .int i => some (i != 0)
  | .str s => if s.length ≤ sizeLine then some (s.length != 0) else none
  | .tup xs => some (!xs.isEmpty)
  | .lst xs => some (!xs.isEmpty)
  | _ => none
def eqD (d e : D) : Option Bool := if d.sm = true ∧ e.sm = true then some (PyData.eqv d.py e.py) else none
def opEq (d e : D) : Option D := (eqD d e).map .bl
def opNe (d e : D) : Option D := (eqD d e).map fun k => .bl (!k)
def ltD : D → D → Option Bool
  | .int i, .int j => some (decide (i < j))
  | d, e => if d.sm = true ∧ e.sm = true ∧ d ≠ .non ∧ PySem.W.alike d.py e.py = true then some (PySem.W.dataLt d.py e.py) else none
def opLt (d e : D) : Option D := (ltD d e).map .bl
def opGt (d e : D) : Option D := (ltD e d).map .bl
def opLe (d e : D) : Option D := (ltD e d).map fun k => .bl (!k)
def opGe (d e : D) : Option D := (ltD d e).map fun k => .bl (!k)
def opIsN : D → Option D
  | .tok _ => none
  | .non => some (.bl true)
  | _ => some (.bl false)
def opNotN (d : D) : Option D := match d with
  | .tok _ => none
  | .non => some (.bl false)
  | _ => some (.bl true)
def opIsB : D → D → Option D
  | .bl a, .bl b => some (.bl (decide (a = b)))
  | _, _ => none
def opIsntB : D → D → Option D
  | .bl a, .bl b => some (.bl (!decide (a = b)))
  | _, _ => none
def inD (x y : D) : Option Bool := match y with
  | .lst ds => if x.sm = true ∧ D.sm (.lst ds) = true then some (ds.any fun z => PyData.eqv z.py x.py) else none
  | .tup ds => if x.sm = true ∧ D.sm (.tup ds) = true then some (ds.any fun z => PyData.eqv z.py x.py) else none
  | _ => none
def opIn (x y : D) : Option D := (inD x y).map .bl
def opNotIn (x y : D) : Option D := (inD x y).map fun k => .bl (!k)

/-! ### subscripts, slices -/
def ixD : D → D → Option D
  | .tup xs, .int i => atI xs i
  | .lst xs, .int i => atI xs i
  | .str z, .int i => if z.length ≤ sizeLine then (atI z.cps.toList i).map fun c => .str ⟨#[c]⟩ else none
  | _, _ => none
def cutD (xs : List D) (lo hi : Option Int) : List D := (xs.drop (HT.sIx xs.length 0 lo)).take (HT.sIx xs.length xs.length hi - HT.sIx xs.length 0 lo)
def sliceD (x : D) (lo hi : Option Int) : Option D := match x with
  | .tup xs => some (.tup (cutD xs lo hi))
  | .lst xs => some (.lst (cutD xs lo hi))
  | .str z => if z.length ≤ sizeLine then some (.str (cutS z lo hi)) else none
  | _ => none
def revD : D → Option D
  | .tup xs => some (.tup xs.reverse)
  | .lst xs => some (.lst xs.reverse)
  | _ => none

/-! ### built-ins -/
def lenD : List D → Option D
  | [.tup xs] => some (.int xs.length)
  | [.lst xs] => some (.int xs.length)
  | [.str z] => if z.length ≤ sizeLine then some (.int z.length) else none
  | _ => none
def boolsD : List D → Option (List Bool)
  | [] => some []
  | .bl b :: r => (boolsD r).map (b :: ·)
  | _ :: _ => none
def intsD : List D → Option (List Int)
  | [] => some []
  | .int b :: r => (intsD r).map (b :: ·)
  | _ :: _ => none
def strsD : List D → Option (List Str)
  | [] => some []
  | .str b :: r => (strsD r).map (b :: ·)
  | _ :: _ => none
def anyD : List D → Option D
  | [.lst xs] => (boolsD xs).map fun bs => .bl (bs.any id)
  | _ => none
def allD : List D → Option D
  | [.lst xs] => (boolsD xs).map fun bs => .bl (bs.all id)
  | _ => none
def sumD : List D → Option D
  | [.lst xs] => (intsD xs).map fun is => .int is.sum
  | _ => none
def absD : List D → Option D
  | [.int i] => some (.int (if i < 0 then -i else i))
  | _ => none
def max2D : List D → Option D
  | [.int i, .int j] => some (.int (if j > i then j else i))
  | _ => none
def min2D : List D → Option D
  | [.int i, .int j] => some (.int (if j < i then j else i))
  | _ => none
def minI : List Int → Int
  | [] => 0
  | x :: xs => xs.foldl min x
def maxI : List Int → Int
  | [] => 0
  | x :: xs => xs.foldl max x
def intD : List D → Option D
  | [.int i] => some (.int i)
  | [.bl b] => some (.int (if b then 1 else 0))
  | _ => none
def strD : List D → Option D
  | [.int i] => if i.natAbs.log2 < 1920 then some (.str (toString i : String)) else none
  | _ => none
def tupleD : List D → Option D
  | [.lst xs] => some (.tup xs)
  | [.tup xs] => some (.tup xs)
  | _ => none
def listD : List D → Option D
  | [.lst xs] => some (.lst xs)
  | [.tup xs] => some (.lst xs)
  | _ => none
/-- all data alike: numbers, truth values, texts, tuples and lists of these -/
def sortOk (xs : List D) : Bool := xs.all (·.sm) && (xs.all fun d => xs.all fun e => PySem.W.alike d.py e.py) && ((xs.all fun d => match d with | .tup (_ :: _) => true | _ => false) || (xs.all fun d => match d with | .tup _ => false | .non => false | _ => true))
def sortL (xs : List D) : List D := xs.mergeSort (PySem.W.dataLe false D.py)
def sortedD : List D → Option D
  | [.lst xs] => if sortOk xs = true then some (.lst (sortL xs)) else none
  | [.tup xs] => if sortOk xs = true then some (.lst (sortL xs)) else none
  | _ => none
/-- the built-in classes that isinstance is asked of -/
inductive Ty where
  | int | bool | str | tuple | list
  deriving DecidableEq
def isT : D → Ty → Option Bool
  | .non, _ => some false
  | .bl _, t => some (decide (t = .int ∨ t = .bool))
  | .int _, t => some (decide (t = .int))
  | .str _, t => some (decide (t = .str))
  | .tup _, t => some (decide (t = .tuple))
  | .lst _, t => some (decide (t = .list))
  | _, _ => none
/-- the turns of a range -/
def rangeD (lo hi : Int) : Option (List D) := if hi - lo ≤ 16777216 ∧ -(2 ^ 62) ≤ lo ∧ lo < 2 ^ 62 ∧ -(2 ^ 62) ≤ hi ∧ hi < 2 ^ 62 then some ((List.range (hi - lo).toNat).map fun k => .int (lo + (k : Nat))) else none
/-- list(range(..)), tuple(range(..)) -/
def rlD : List D → Option D
  | [.int j] => (rangeD 0 j).map .lst
  | [.int i, .int j] => (rangeD i j).map .lst
  | _ => none
def rtD : List D → Option D
  | [.int j] => (rangeD 0 j).map .tup
  | [.int i, .int j] => (rangeD i j).map .tup
  | _ => none
def enumD : Nat → List D → List D
  | _, [] => []
  | k, d :: ds => .tup [.int k, d] :: enumD (k + 1) ds
def zipD : List D → List D → List D
  | d :: ds, e :: es => .tup [d, e] :: zipD ds es
  | _, _ => []

/-! ### expressions -/
abbrev Ex := Rho → Bx → Option (D × Bx)
abbrev Tx := Rho → Bx → Option (Bool × Bx)
abbrev As := Rho → Bx → Option (List D × Bx)
def eVar (i : Nat) : Ex := fun ρ b => match ρ[i]? with
  | some (.frz d) => some (d, b)
  | _ => none
/-- a name that is only looked at -/
def eBor (i : Nat) : Ex := fun ρ b => match ρ[i]? with
  | some (.frz d) => some (d, b)
  | some (.own d) => some (d, b)
  | _ => none
def eCon (d : D) : Ex := fun _ b => some (d, b)
def eUn (g : D → Option D) (f : Ex) : Ex := fun ρ b => match f ρ b with
  | some (d, b1) => match g d with
    | some r => some (r, b1)
    | none => none
  | none => none
def eBin (g : D → D → Option D) (f f' : Ex) : Ex := fun ρ b => match f ρ b with
  | some (d, b1) => match f' ρ b1 with
    | some (e, b2) => match g d e with
      | some r => some (r, b2)
      | none => none
    | none => none
  | none => none
def aNil : As := fun _ b => some ([], b)
def aCons (f : Ex) (g : As) : As := fun ρ b => match f ρ b with
  | some (d, b1) => match g ρ b1 with
    | some (ds, b2) => some (d :: ds, b2)
    | none => none
  | none => none
def eFn (g : List D → Option D) (f : As) : Ex := fun ρ b => match f ρ b with
  | some (ds, b1) => match g ds with
    | some r => some (r, b1)
    | none => none
  | none => none
def eTup (f : As) : Ex := eFn (fun ds => some (.tup ds)) f
def eLst (f : As) : Ex := eFn (fun ds => some (.lst ds)) f
def eIf (t : Tx) (f g : Ex) : Ex := fun ρ b => match t ρ b with
  | some (true, b1) => f ρ b1
  | some (false, b1) => g ρ b1
  | none => none
def tOf (f : Ex) : Tx := fun ρ b => match f ρ b with
  | some (d, b1) => match truthD d with
    | some k => some (k, b1)
    | none => none
  | none => none
/-- a test whose value is a bool -/
def tBl (f : Ex) : Tx := fun ρ b => match f ρ b with
  | some (.bl k, b1) => some (k, b1)
  | _ => none
def tNot (f : Tx) : Tx := fun ρ b => match f ρ b with
  | some (k, b1) => some (!k, b1)
  | none => none
def tAnd (f g : Tx) : Tx := fun ρ b => match f ρ b with
  | some (true, b1) => g ρ b1
  | some (false, b1) => some (false, b1)
  | none => none
def tOr (f g : Tx) : Tx := fun ρ b => match f ρ b with
  | some (true, b1) => some (true, b1)
  | some (false, b1) => g ρ b1
  | none => none
/-- and, or, not as values, by truth -/
def eAnd (f g : Ex) : Ex := fun ρ b => match f ρ b with
  | some (d, b1) => match truthD d with
    | some true => g ρ b1
    | some false => some (d, b1)
    | none => none
  | none => none
def eOr (f g : Ex) : Ex := fun ρ b => match f ρ b with
  | some (d, b1) => match truthD d with
    | some true => some (d, b1)
    | some false => g ρ b1
    | none => none
  | none => none
def eNot (f : Ex) : Ex := eUn (fun d => (truthD d).map fun k => .bl (!k)) f
/-- a < b < c -/
def eChain (g g' : D → D → Option D) (f f' f'' : Ex) : Ex := fun ρ b => match f ρ b with
  | some (d, b1) => match f' ρ b1 with
    | some (e, b2) => match g d e with
      | some (.bl true) => match f'' ρ b2 with
        | some (c, b3) => match g' e c with
          | some r => some (r, b3)
          | none => none
        | none => none
      | some (.bl false) => some (.bl false, b2)
      | _ => none
    | none => none
  | none => none
/-- a[lo:hi] -/
def eOpt : Option Ex → Rho → Bx → Option (Option Int × Bx)
  | none, _, b => some (none, b)
  | some f, ρ, b => match f ρ b with
    | some (.int i, b1) => some (some i, b1)
    | _ => none
def eSlice (f : Ex) (lo hi : Option Ex) : Ex := fun ρ b => match f ρ b with
  | some (d, b1) => match eOpt lo ρ b1 with
    | some (l, b2) => match eOpt hi ρ b2 with
      | some (h, b3) => match sliceD d l h with
        | some r => some (r, b3)
        | none => none
      | none => none
    | none => none
  | none => none
/-- a call of a def of the text -/
abbrev Fn := List D → Bx → Option (D × Bx)
def eCall (F : Fn) (f : As) : Ex := fun ρ b => match f ρ b with
  | some (ds, b1) => F ds b1
  | none => none
/-- .. with things of one's own among the arguments -/
def eCallO (F : Fn) (f : As) : Ex := fun ρ b => match f ρ b with
  | some (ds, b1) => match F ds b1 with
    | some (d, b2) => if d.flat = true then some (d, b2) else none
    | none => none
  | none => none

/-! ### what is walked -/
abbrev It := Rho → Bx → Option (List D × Bx)
def itemsD : D → Option (List D)
  | .lst xs => some xs
  | .tup xs => some xs
  | _ => none
def iSeq (f : Ex) : It := fun ρ b => match f ρ b with
  | some (d, b1) => match itemsD d with
    | some xs => some (xs, b1)
    | none => none
  | none => none
def iStr (f : Ex) : It := fun ρ b => match f ρ b with
  | some (.str z, b1) => if z.length ≤ sizeLine then some (z.cps.toList.map fun c => .str ⟨#[c]⟩, b1) else none
  | _ => none
def iRange (f : As) : It := fun ρ b => match f ρ b with
  | some ([.int j], b1) => match rangeD 0 j with
    | some xs => some (xs, b1)
    | none => none
  | some ([.int i, .int j], b1) => match rangeD i j with
    | some xs => some (xs, b1)
    | none => none
  | _ => none
def iEnum (f : Ex) : It := fun ρ b => match f ρ b with
  | some (d, b1) => match itemsD d with
    | some xs => some (enumD 0 xs, b1)
    | none => none
  | none => none
def zipDD : D → D → Option (List D)
  | .lst xs, .lst ys => some (zipD xs ys)
  | .tup xs, .tup ys => some (zipD xs ys)
  | _, _ => none
def iZip (f g : Ex) : It := fun ρ b => match f ρ b with
  | some (d, b1) => match g ρ b1 with
    | some (e, b2) => match zipDD d e with
      | some zs => some (zs, b2)
      | none => none
    | none => none
  | none => none
/-- targets -/
abbrev Tg := D → Rho → Option Rho
def gNm (i : Nat) : Tg := fun d ρ => some (ρ.set i (.frz d))
def gNone : List D → Rho → Option Rho
  | [], ρ => some ρ
  | _ :: _, _ => none
def gMore (g : Tg) (h : List D → Rho → Option Rho) : List D → Rho → Option Rho
  | d :: ds, ρ => match g d ρ with
    | some ρ1 => h ds ρ1
    | none => none
  | [], _ => none
def gTp (h : List D → Rho → Option Rho) : Tg := fun d ρ => match d with
  | .tup ds => h ds ρ
  | _ => none

/-! ### comprehensions -/
def wipeR (ρ : Rho) : List Nat → Rho
  | [] => ρ
  | v :: vs => (wipeR ρ vs).set v .emp
def lcGo (g : Tg) (t : Tx) (f : Ex) (ρ : Rho) : List D → Bx → Option (List D × Bx)
  | [], b => some ([], b)
  | d :: ds, b => match g d ρ with
    | some ρ1 => match t ρ1 b with
      | some (true, b1) => match f ρ1 b1 with
        | some (r, b2) => match lcGo g t f ρ ds b2 with
          | some (rs, b3) => some (r :: rs, b3)
          | none => none
        | none => none
      | some (false, b1) => lcGo g t f ρ ds b1
      | none => none
    | none => none
def eLc (it : It) (g : Tg) (t : Tx) (f : Ex) (vs : List Nat) : Ex := fun ρ b => match it ρ b with
  | some (ds, b1) => match lcGo g t f (wipeR ρ vs) ds b1 with
    | some (rs, b2) => some (.lst rs, b2)
    | none => none
  | none => none
def tYes' : Tx := fun _ b => some (true, b)

/-! ### statements -/
inductive Fl where
  | nx | bk | ct | rt (d : D)
abbrev SS := Rho → Bx → Option (Fl × Rho × Bx)
def sNx : SS := fun ρ b => some (.nx, ρ, b)
def sBk : SS := fun ρ b => some (.bk, ρ, b)
def sCt : SS := fun ρ b => some (.ct, ρ, b)
def sSeq (s t : SS) : SS := fun ρ b => match s ρ b with
  | some (.nx, ρ1, b1) => t ρ1 b1
  | r => r
def sRet (f : Ex) : SS := fun ρ b => match f ρ b with
  | some (d, b1) => some (.rt d, ρ, b1)
  | none => none
def sIf (t : Tx) (s s' : SS) : SS := fun ρ b => match t ρ b with
  | some (true, b1) => s ρ b1
  | some (false, b1) => s' ρ b1
  | none => none
/-- name = e -/
def sSet (i : Nat) (f : Ex) : SS := fun ρ b => match f ρ b with
  | some (d, b1) => some (.nx, ρ.set i (.frz d), b1)
  | none => none
/-- name = a new list or dict, to be changed -/
def sNew (i : Nat) (f : Ex) : SS := fun ρ b => match f ρ b with
  | some (d, b1) => some (.nx, ρ.set i (.own d), b1)
  | none => none
/-- target = e -/
def sAsg (g : Tg) (f : Ex) : SS := fun ρ b => match f ρ b with
  | some (d, b1) => match g d ρ with
    | some ρ1 => some (.nx, ρ1, b1)
    | none => none
  | none => none
/-- a thing of one's own is left to stay as it is -/
def sFz (i : Nat) : SS := fun ρ b => match ρ[i]? with
  | some (.own d) => some (.nx, ρ.set i (.frz d), b)
  | _ => none
def sExpr (f : Ex) : SS := fun ρ b => match f ρ b with
  | some (_, b1) => some (.nx, ρ, b1)
  | none => none
/-- xs.append(e) -/
def sApp (i : Nat) (f : Ex) : SS := fun ρ b => match ρ[i]? with
  | some (.own (.lst xs)) => match f ρ b with
    | some (d, b1) => if xs.length < sizeLine then some (.nx, ρ.set i (.own (.lst (xs ++ [d]))), b1) else none
    | none => none
  | _ => none
def sExt (i : Nat) (f : Ex) : SS := fun ρ b => match ρ[i]? with
  | some (.own (.lst xs)) => match f ρ b with
    | some (.lst ys, b1) => if xs.length + ys.length ≤ sizeLine then some (.nx, ρ.set i (.own (.lst (xs ++ ys))), b1) else none
    | _ => none
  | _ => none
def forGo (g : Tg) (s : SS) : List D → SS
  | [], ρ, b => some (.nx, ρ, b)
  | d :: ds, ρ, b => match g d ρ with
    | some ρ1 => match s ρ1 b with
      | some (.nx, ρ2, b2) => forGo g s ds ρ2 b2
      | some (.ct, ρ2, b2) => forGo g s ds ρ2 b2
      | some (.bk, ρ2, b2) => some (.nx, ρ2, b2)
      | some (.rt r, ρ2, b2) => some (.rt r, ρ2, b2)
      | none => none
    | none => none
def sFor (it : It) (g : Tg) (s : SS) : SS := fun ρ b => match it ρ b with
  | some (ds, b1) => forGo g s ds ρ b1
  | none => none
def whGo (t : Tx) (s : SS) : Nat → SS
  | 0, _, _ => none
  | n + 1, ρ, b => match t ρ b with
    | some (false, b1) => some (.nx, ρ, b1)
    | some (true, b1) => match s ρ b1 with
      | some (.nx, ρ2, b2) => whGo t s n ρ2 b2
      | some (.ct, ρ2, b2) => whGo t s n ρ2 b2
      | some (.bk, ρ2, b2) => some (.nx, ρ2, b2)
      | some (.rt r, ρ2, b2) => some (.rt r, ρ2, b2)
      | none => none
    | none => none
/-- a while, of at most so many turns -/
def sWh (t : Tx) (s : SS) : SS := whGo t s 100000
/-- a def's body at its arguments: n names -/
def runF (n : Nat) (s : SS) : Fn := fun ds b => match s (ds.map Sl.frz ++ List.replicate (n - ds.length) .emp) b with
  | some (.rt d, _, b1) => some (d, b1)
  | some (.nx, _, b1) => some (.non, b1)
  | _ => none
end Sv

/-! Sv3: the judgements over plain data, expressions. -/
namespace Sv
open PySem L2

abbrev pm (X : Cx) (fn : Nat → Option V) : Pm := ⟨X.prog, X.w, X.K, fn⟩

/-! ### readings -/
def tEx (m : Pm) (f : Ex) : TE := fun σ H Q => ∃ H0 F0 bo ρ F b, Rel m H0 F0 bo σ ρ F H b ∧ ∃ d b', f ρ b = some (d, b') ∧
  ∀ v F' H', Grow bo F H F' H' → BoxOk bo F' H' b' → Rp m bo F' H' d v → Q v H'
def tEo (m : Pm) (f : Ex) : TE := fun σ H Q => ∃ H0 F0 bo ρ F b, Rel m H0 F0 bo σ ρ F H b ∧ ∃ d b', f ρ b = some (d, b') ∧
  ∀ v F' H', Grow bo F H F' H' → BoxOk bo F' H' b' → RpO m bo F' H' d v → Q v H'
def tEn (m : Pm) (f : Ex) : TE := fun σ H Q => ∃ H0 F0 bo ρ F b, Rel m H0 F0 bo σ ρ F H b ∧ ∃ d b', f ρ b = some (d, b') ∧
  ∀ a F' H', Grow bo F H F' H' → BoxOk bo F' H' b' → H a = none → ¬ F' a → Own m bo F' H' d a → Q (.ref a) H'
def tTx (m : Pm) (f : Tx) : TT := fun σ H Q => ∃ H0 F0 bo ρ F b, Rel m H0 F0 bo σ ρ F H b ∧ ∃ d b', f ρ b = some (d, b') ∧
  ∀ F' H', Grow bo F H F' H' → BoxOk bo F' H' b' → Q d H'
section
variable (m : Pm) (bo : Bo) (F : Addr → Prop) (H : Hp)
def RpOL : List D → List V → Prop
  | [], vs => vs = []
  | d :: ds, vs => ∃ v r, vs = v :: r ∧ RpO m bo F H d v ∧ RpOL ds r
end
theorem RpOL.grow {m : Pm} {bo : Bo} {F F' : Addr → Prop} {H H' : Hp} {b : Bx} (W : Wo bo F H b) (g : Grow bo F H F' H') : ∀ {ds : List D} {vs : List V}, RpOL m bo F H ds vs → RpOL m bo F' H' ds vs
  | [], vs, h => by simpa [RpOL] using h
  | d :: ds, vs, h => by
    simp only [RpOL] at h ⊢
    obtain ⟨v, r, e, h1, h2⟩ := h
    exact ⟨v, r, e, RpO.grow W g h1, RpOL.grow W g h2⟩
theorem RpL.o {m : Pm} {bo : Bo} {F : Addr → Prop} {H : Hp} : ∀ {ds : List D} {vs : List V}, RpL m bo F H ds vs → RpOL m bo F H ds vs
  | [], vs, h => by simpa [RpOL, RpL] using h
  | d :: ds, vs, h => by
    simp only [RpOL, RpL] at h ⊢
    obtain ⟨v, r, e, h1, h2⟩ := h
    exact ⟨v, r, e, .inl h1, RpL.o h2⟩
def tAs (m : Pm) (f : As) : TA := fun σ H Q => ∃ H0 F0 bo ρ F b, Rel m H0 F0 bo σ ρ F H b ∧ ∃ d b', f ρ b = some (d, b') ∧
  ∀ v F' H', Grow bo F H F' H' → BoxOk bo F' H' b' → RpL m bo F' H' d v → Q v H'
def tAo (m : Pm) (f : As) : TA := fun σ H Q => ∃ H0 F0 bo ρ F b, Rel m H0 F0 bo σ ρ F H b ∧ ∃ d b', f ρ b = some (d, b') ∧
  ∀ v F' H', Grow bo F H F' H' → BoxOk bo F' H' b' → RpOL m bo F' H' d v → Q v H'

/-! ### judgements -/
section
variable (fn : Nat → Option V) (X : Cx)
abbrev PEx (e : Expr) (f : Ex) : Prop := PE X e (tEx (pm X fn) f)
abbrev PEo (e : Expr) (f : Ex) : Prop := PE X e (tEo (pm X fn) f)
abbrev PEn (e : Expr) (f : Ex) : Prop := PE X e (tEn (pm X fn) f)
abbrev PTx (e : Expr) (f : Tx) : Prop := PT X e (tTx (pm X fn) f)
abbrev PWx (e : Expr) (f : Tx) : Prop := PW X e (tTx (pm X fn) f)
structure PAs (es : List Expr) (f : As) : Prop where
  pa : PA X es (tAs (pm X fn) f)
  len : ∀ ρ b ds b', f ρ b = some (ds, b') → ds.length = es.length
structure PAo (es : List Expr) (f : As) : Prop where
  pa : PA X es (tAo (pm X fn) f)
  len : ∀ ρ b ds b', f ρ b = some (ds, b') → ds.length = es.length
end

theorem PE.imp {X : Cx} {e : Expr} {t t' : TE} (h : PE X e t) (i : ∀ σ H Q, t' σ H Q → t σ H Q) : PE X e t' := ⟨fun pins s σ H Q I q => h.run pins s σ H Q I (i σ H Q q)⟩
theorem PT.imp {X : Cx} {e : Expr} {t t' : TT} (h : PT X e t) (i : ∀ σ H Q, t' σ H Q → t σ H Q) : PT X e t' := ⟨fun pins s σ H Q I q => h.run pins s σ H Q I (i σ H Q q)⟩
theorem PW.imp {X : Cx} {e : Expr} {t t' : TT} (h : PW X e t) (i : ∀ σ H Q, t' σ H Q → t σ H Q) : PW X e t' := ⟨fun wh pins s σ H Q I q => h.run wh pins s σ H Q I (i σ H Q q)⟩
theorem PA.imp {X : Cx} {e : List Expr} {t t' : TA} (h : PA X e t) (i : ∀ σ H Q, t' σ H Q → t σ H Q) : PA X e t' := ⟨fun p pins s σ H Q I q => h.run p pins s σ H Q I (i σ H Q q)⟩

section
variable {fn : Nat → Option V} {X : Cx} {e a c : Expr} {es rest : List Expr} {pos : Pos} {f g h : Ex} {t u : Tx}

theorem PEx.o (p : PEx fn X e f) : PEo fn X e f := PE.imp p fun σ H Q ⟨H0, F0, bo, ρ, F, b, R, d, b', e, q⟩ => ⟨H0, F0, bo, ρ, F, b, R, d, b', e, fun v F' H' g hb r => q v F' H' g hb (.inl r)⟩
theorem PAs.o {g : As} (p : PAs fn X es g) : PAo fn X es g := ⟨PA.imp p.pa fun σ H Q ⟨H0, F0, bo, ρ, F, b, R, d, b', e, q⟩ => ⟨H0, F0, bo, ρ, F, b, R, d, b', e, fun v F' H' g hb r => q v F' H' g hb r.o⟩, p.len⟩
/-- a new thing, left to stay as it is -/
theorem PEn.x (p : PEn fn X e f) : PEx fn X e f := PE.imp p fun σ H Q ⟨H0, F0, bo, ρ, F, b, R, d, b', e, q⟩ => ⟨H0, F0, bo, ρ, F, b, R, d, b', e, fun a F' H' g hb ha nf ow => by
  have W' : Wo bo F' H' b' := ⟨hb, g.dom⟩
  have nb : ¬ inBox bo a := inBox_new R.wo ha
  obtain ⟨k, hb', dm, r⟩ := freeze W' nb ow
  refine q _ (fun c => F' c ∨ c = a) H' ⟨g.keep, g.free, fun c h => .inl (g.sub c h), fun c h => h.elim (g.new c) fun e => .inr (by rw [e]; exact ha), dm⟩ hb' r⟩

theorem px_var {i : Nat} (p : PE X e (tVar i)) : PEx fn X e (eVar i) := PE.imp p fun σ H Q ⟨H0, F0, bo, ρ, F, b, R, d, b', e, q⟩ => by
  unfold eVar at e
  split at e
  · rename_i d' he
    cases e
    obtain ⟨v, h1, h2⟩ := R.frz i _ he
    exact ⟨v, h1, q v F H (Grow.refl R.core.dom) R.core.box h2⟩
  · cases e
theorem po_bor {i : Nat} (p : PE X e (tVar i)) : PEo fn X e (eBor i) := PE.imp p fun σ H Q ⟨H0, F0, bo, ρ, F, b, R, d, b', e, q⟩ => by
  unfold eBor at e
  split at e
  · rename_i d' he
    cases e
    obtain ⟨v, h1, h2⟩ := R.frz i _ he
    exact ⟨v, h1, q v F H (Grow.refl R.core.dom) R.core.box (.inl h2)⟩
  · rename_i d' he
    cases e
    obtain ⟨a, h1, h2, h3, _, h4⟩ := R.own i _ he
    exact ⟨_, h1, q _ F H (Grow.refl R.core.dom) R.core.box (.inr ⟨a, rfl, h3, h2, h4⟩)⟩
  · cases e
theorem px_con {v : V} {d : D} (p : PE X e (tC v)) (hv : ∀ bo F H, Rp (pm X fn) bo F H d v) : PEx fn X e (eCon d) := PE.imp p fun σ H Q ⟨H0, F0, bo, ρ, F, b, R, d', b', e, q⟩ => by
  cases e
  exact q v F H (Grow.refl R.core.dom) R.core.box (hv _ _ _)
theorem px_int {i j pos} : PEx fn X (.Constant (.int i) j pos) (eCon (.int i)) := px_con pe_int fun _ _ _ => by simp [Rp]
theorem px_bl {i j pos} : PEx fn X (.Constant (.bool i) j pos) (eCon (.bl i)) := px_con pe_bl fun _ _ _ => by simp [Rp]
theorem px_non {j pos} : PEx fn X (.Constant .none j pos) (eCon .non) := px_con pe_non fun _ _ _ => by simp [Rp]
theorem px_str {i j pos} : PEx fn X (.Constant (.str i) j pos) (eCon (.str i)) := px_con pe_str fun _ _ _ => by simp [Rp]

/-- an operation on two operands -/
def rD2 (m : Pm) (g : D → D → Option D) : R2 := fun x y H Q => ∃ bo F b, Wo bo F H b ∧ ∃ d e r, RpO m bo F H d x ∧ RpO m bo F H e y ∧ g d e = some r ∧
  ∀ v F' H', Grow bo F H F' H' → BoxOk bo F' H' b → Rp m bo F' H' r v → Q v H'
theorem two_o {m : Pm} {σ : St} {H : Hp} {Q : VK} {g : D → D → Option D} {f f' : Ex} (h : tEx m (eBin g f f') σ H Q) : tOp (rD2 m g) (tEo m f) (tEo m f') σ H Q := by
  obtain ⟨H0, F0, bo, ρ, F, b, R, r, b', e, q⟩ := h
  unfold eBin at e
  split at e
  · rename_i d b1 e1
    split at e
    · rename_i d2 b2 e2
      split at e
      · rename_i r' e3
        cases e
        refine ⟨H0, F0, bo, ρ, F, b, R, d, b1, e1, fun v1 F1 H1 g1 hb1 r1 => ?_⟩
        have R1 := R.grow g1 hb1
        refine ⟨H0, F0, bo, ρ, F1, b1, R1, d2, _, e2, fun v2 F2 H2 g2 hb2 r2 => ?_⟩
        exact ⟨bo, F2, _, ⟨hb2, g2.dom⟩, d, d2, r, RpO.grow R1.wo g2 r1, r2, e3, fun v F' H' g3 hb3 r3 => q v F' H' ((g1.trans g2).trans g3) hb3 r3⟩
      · cases e
    · cases e
  · cases e
theorem px_bin {op : Operator} {g' : D → D → Option D} (ho : OpR X (binaryOp op) (rD2 (pm X fn) g')) (ha : PEo fn X a f) (hb : PEo fn X c g) : PEx fn X (.BinOp a op c pos) (eBin g' f g) :=
  PE.imp (pe_op ho ha hb) fun _ _ _ h => two_o h
theorem px_cmp {op : CmpOp} {g' : D → D → Option D} (ho : OpR X (compareOp op) (rD2 (pm X fn) g')) (ha : PEo fn X a f) (hb : PEo fn X c g) (hm : behindInMarks op c = false) : PEx fn X (.Compare a [op] [c] pos) (eBin g' f g) :=
  PE.imp (pe_cmpR ho ha hb hm) fun _ _ _ h => two_o h
theorem two_t {m : Pm} {σ : St} {H : Hp} {Q : Bool → Hp → Prop} {g : D → D → Option D} {f f' : Ex} (h : tTx m (tBl (eBin g f f')) σ H Q) : tTest (tOp (rD2 m g) (tEo m f) (tEo m f')) σ H Q := by
  obtain ⟨H0, F0, bo, ρ, F, b, R, r, b', e, q⟩ := h
  unfold tBl at e
  split at e
  · rename_i k b1 e1
    cases e
    refine two_o ⟨H0, F0, bo, ρ, F, b, R, .bl r, b', e1, fun v F' H' g hb rv => ?_⟩
    simp only [Rp] at rv
    exact ⟨r, rv, q F' H' g hb⟩
  · cases e
theorem pt_cmp' {op : CmpOp} {g' : D → D → Option D} (ho : OpR X (compareOp op) (rD2 (pm X fn) g')) (ha : PEo fn X a f) (hb : PEo fn X c g) (hm : behindInMarks op c = false) : PTx fn X (.Compare a [op] [c] pos) (tBl (eBin g' f g)) :=
  PT.imp (pt_cmpR ho ha hb hm) fun _ _ _ h => two_t h
theorem chain_o {m : Pm} {σ : St} {H : Hp} {Q : VK} {g g' : D → D → Option D} {f f' f'' : Ex} (h : tEx m (eChain g g' f f' f'') σ H Q) : tChain (rD2 m g) (rD2 m g') (tEo m f) (tEo m f') (tEo m f'') σ H Q := by
  obtain ⟨H0, F0, bo, ρ, F, b, R, r, b', e, q⟩ := h
  unfold eChain at e
  split at e
  · rename_i d b1 e1
    split at e
    · rename_i d2 b2 e2
      refine ⟨H0, F0, bo, ρ, F, b, R, d, b1, e1, fun v1 F1 H1 g1 hb1 r1 => ?_⟩
      have R1 := R.grow g1 hb1
      refine ⟨H0, F0, bo, ρ, F1, b1, R1, d2, b2, e2, fun v2 F2 H2 g2 hb2 r2 => ?_⟩
      have R2 := R1.grow g2 hb2
      split at e
      · rename_i e3
        split at e
        · rename_i d3 b3 e4
          split at e
          · rename_i r' e5
            cases e
            refine ⟨bo, F2, b2, R2.wo, d, d2, _, RpO.grow R1.wo g2 r1, r2, e3, fun v F3 H3 g3 hb3 r3 => ?_⟩
            simp only [Rp] at r3
            refine ⟨true, r3, ?_⟩
            refine iteT ?_
            have R3 := R2.grow g3 hb3
            refine ⟨H0, F0, bo, ρ, F3, b2, R3, d3, _, e4, fun v4 F4 H4 g4 hb4 r4 => ?_⟩
            exact ⟨bo, F4, _, ⟨hb4, g4.dom⟩, d2, d3, _, RpO.grow R3.wo g4 (RpO.grow R2.wo g3 r2), r4, e5, fun v5 F5 H5 g5 hb5 r5 => q v5 F5 H5 ((((g1.trans g2).trans g3).trans g4).trans g5) hb5 r5⟩
          · cases e
        · cases e
      · rename_i e3
        cases e
        refine ⟨bo, F2, _, R2.wo, d, d2, _, RpO.grow R1.wo g2 r1, r2, e3, fun v F3 H3 g3 hb3 r3 => ?_⟩
        simp only [Rp] at r3
        refine ⟨false, r3, ?_⟩
        refine iteF ?_
        exact q _ F3 H3 ((g1.trans g2).trans g3) hb3 (by simp [Rp])
      · cases e
    · cases e
  · cases e
theorem px_chain {op op' : CmpOp} {k k' : D → D → Option D} {c' : Expr} (ho : OpR X (compareOp op) (rD2 (pm X fn) k)) (ho' : OpR X (compareOp op') (rD2 (pm X fn) k')) (ha : PEo fn X a f) (hb : PEo fn X c g) (hc : PEo fn X c' h)
    (hm : lastMarks [op, op'] [c, c'] = false := by with_unfolding_all rfl) : PEx fn X (.Compare a [op, op'] [c, c'] pos) (eChain k k' f g h) := PE.imp (pe_chain ho ho' ha hb hc hm) fun _ _ _ h => chain_o h
theorem pt_chain' {op op' : CmpOp} {k k' : D → D → Option D} {c' : Expr} (ho : OpR X (compareOp op) (rD2 (pm X fn) k)) (ho' : OpR X (compareOp op') (rD2 (pm X fn) k')) (ha : PEo fn X a f) (hb : PEo fn X c g) (hc : PEo fn X c' h)
    (hm : lastMarks [op, op'] [c, c'] = false := by with_unfolding_all rfl) : PTx fn X (.Compare a [op, op'] [c, c'] pos) (tBl (eChain k k' f g h)) := PT.imp (pt_chain ho ho' ha hb hc hm) fun σ H Q h' => by
  obtain ⟨H0, F0, bo, ρ, F, b, R, r, b', e, q⟩ := h'
  unfold tBl at e
  split at e
  · rename_i k b1 e1
    cases e
    refine chain_o ⟨H0, F0, bo, ρ, F, b, R, .bl r, b', e1, fun v F' H' g hb rv => ?_⟩
    simp only [Rp] at rv
    exact ⟨r, rv, q F' H' g hb⟩
  · cases e
/-- .. on one -/
def rD1 (m : Pm) (g : D → Option D) : V → Hp → VK → Prop := fun x H Q => ∃ bo F b, Wo bo F H b ∧ ∃ d r, RpO m bo F H d x ∧ g d = some r ∧
  ∀ v F' H', Grow bo F H F' H' → BoxOk bo F' H' b → Rp m bo F' H' r v → Q v H'
theorem one_o {m : Pm} {σ : St} {H : Hp} {Q : VK} {g : D → Option D} {f : Ex} (h : tEx m (eUn g f) σ H Q) : tEo m f σ H (fun x H1 => rD1 m g x H1 Q) := by
  obtain ⟨H0, F0, bo, ρ, F, b, R, r, b', e, q⟩ := h
  unfold eUn at e
  split at e
  · rename_i d b1 e1
    split at e
    · rename_i r' e3
      cases e
      refine ⟨H0, F0, bo, ρ, F, b, R, d, _, e1, fun v1 F1 H1 g1 hb1 r1 => ?_⟩
      have R1 := R.grow g1 hb1
      exact ⟨bo, F1, _, R1.wo, d, r, r1, e3, fun v F' H' g3 hb3 r3 => q v F' H' (g1.trans g3) hb3 r3⟩
    · cases e
  · cases e
theorem px_un {op : UnaryOp} {g' : D → Option D} (ho : UnR X (unaryOp op) (rD1 (pm X fn) g')) (ha : PEo fn X a f) : PEx fn X (.UnaryOp op a pos) (eUn g' f) :=
  PE.imp (pe_un ho ha) fun _ _ _ h => one_o h

/-! ### argument lists -/
theorem ps_nil' : PAs fn X [] aNil := by
  refine ⟨PA.imp pa_nil fun σ H Q ⟨H0, F0, bo, ρ, F, b, R, d, b', e, q⟩ => ?_, fun _ _ _ _ e => by cases e; rfl⟩
  cases e
  exact q [] F H (Grow.refl R.core.dom) R.core.box RpL.nil
theorem aCons_len {g : As} {n : Nat} (hl : ∀ ρ b ds b', g ρ b = some (ds, b') → ds.length = n) : ∀ ρ b ds b', aCons f g ρ b = some (ds, b') → ds.length = n + 1 := fun ρ b ds b' e => by
  unfold aCons at e
  split at e
  · split at e
    · rename_i e2
      cases e
      simp [hl _ _ _ _ e2]
    · cases e
  · cases e
theorem ps_cons' {g : As} (ha : PEx fn X a f) (hr : PAs fn X es g) (hs : starEach (a :: es) X.env = (false, eval a X.env) :: starEach es X.env := by rfl) : PAs fn X (a :: es) (aCons f g) := by
  refine ⟨PA.imp (pa_cons ha hr.pa hs) fun σ H Q ⟨H0, F0, bo, ρ, F, b, R, r, b', e, q⟩ => ?_, aCons_len hr.len⟩
  unfold aCons at e
  split at e
  · rename_i d b1 e1
    split at e
    · rename_i d2 b2 e2
      cases e
      refine ⟨H0, F0, bo, ρ, F, b, R, d, b1, e1, fun v1 F1 H1 g1 hb1 r1 => ?_⟩
      have R1 := R.grow g1 hb1
      exact ⟨H0, F0, bo, ρ, F1, b1, R1, d2, _, e2, fun v2 F2 H2 g2 hb2 r2 => q _ F2 H2 (g1.trans g2) hb2 (RpL.cons (r1.fk (R1.fkg g2)) r2)⟩
    · cases e
  · cases e
theorem pao_nil : PAo fn X [] aNil := ps_nil'.o
theorem pao_cons {g : As} (ha : PEo fn X a f) (hr : PAo fn X es g) (hs : starEach (a :: es) X.env = (false, eval a X.env) :: starEach es X.env := by rfl) : PAo fn X (a :: es) (aCons f g) := by
  refine ⟨PA.imp (pa_cons ha hr.pa hs) fun σ H Q ⟨H0, F0, bo, ρ, F, b, R, r, b', e, q⟩ => ?_, aCons_len hr.len⟩
  unfold aCons at e
  split at e
  · rename_i d b1 e1
    split at e
    · rename_i d2 b2 e2
      cases e
      refine ⟨H0, F0, bo, ρ, F, b, R, d, b1, e1, fun v1 F1 H1 g1 hb1 r1 => ?_⟩
      have R1 := R.grow g1 hb1
      exact ⟨H0, F0, bo, ρ, F1, b1, R1, d2, _, e2, fun v2 F2 H2 g2 hb2 r2 => q _ F2 H2 (g1.trans g2) hb2 ⟨_, _, rfl, RpO.grow R1.wo g2 r1, r2⟩⟩
    · cases e
  · cases e

/-! ### displays -/
theorem px_tup {g : As} {k : Nat} (p : PAs fn X es g) (hl : es.length ≤ 1000 := by decide) : PEx fn X (.Tuple es k pos) (eTup g) := PE.imp (pe_tup p.pa) fun σ H Q ⟨H0, F0, bo, ρ, F, b, R, r, b', e, q⟩ => by
  unfold eTup eFn at e
  split at e
  · rename_i ds b1 e1
    cases e
    refine ⟨H0, F0, bo, ρ, F, b, R, ds, _, e1, fun v1 F1 H1 g1 hb1 r1 => ?_⟩
    have z1 : v1.length ≤ sizeLine := by rw [r1.length, p.len _ _ _ _ e1, sizeLine_eq]; omega
    refine ⟨z1, fun x hx => ?_⟩
    · have R1 := R.grow g1 hb1
      obtain ⟨g2, hb2, r2⟩ := new_tup R1.wo hx r1 z1
      exact q _ _ _ (g1.trans g2) hb2 r2
  · cases e
theorem pn_lst {g : As} (p : PAs fn X es g) (hl : es.length ≤ 1000 := by decide) : PEn fn X (.List es pos) (eLst g) := PE.imp (pe_lst p.pa) fun σ H Q ⟨H0, F0, bo, ρ, F, b, R, r, b', e, q⟩ => by
  unfold eLst eFn at e
  split at e
  · rename_i ds b1 e1
    cases e
    refine ⟨H0, F0, bo, ρ, F, b, R, ds, _, e1, fun v1 F1 H1 g1 hb1 r1 => ?_⟩
    have z1 : v1.length ≤ sizeLine := by rw [r1.length, p.len _ _ _ _ e1, sizeLine_eq]; omega
    refine ⟨z1, fun x hx => ?_⟩
    · have R1 := R.grow g1 hb1
      obtain ⟨g2, hb2, nf, r2⟩ := new_own R1.wo hx r1 z1
      exact q _ _ _ (g1.trans g2) hb2 (g1.free x hx) nf r2
  · cases e

/-! ### tests -/
theorem truD {m : Pm} {bo : Bo} {F : Addr → Prop} {H : Hp} {d : D} {v : V} {k : Bool} (r : RpO m bo F H d v) (e : truthD d = some k) : TruV m.K v H k := by
  have len0 : ∀ {ds : List D} {vs : List V}, vs.length = ds.length → (!vs.isEmpty) = !ds.isEmpty := fun {ds vs} h => by
    cases ds <;> cases vs <;> simp_all
  rcases r with r | ⟨a, rfl, nb, nf, ow⟩
  · cases d with
    | non => simp only [Rp, truthD] at r e; subst r; cases e; rfl
    | bl b => simp only [Rp, truthD] at r e; subst r; cases e; rfl
    | int i => simp only [Rp, truthD] at r e; subst r; cases e; rfl
    | str z =>
      simp only [Rp, truthD] at r e; subst r
      split at e
      · rename_i hz
        cases e
        refine ⟨hz, ?_⟩
        rw [Bool.eq_iff_iff]
        simp
      · cases e
    | tup ds =>
      simp only [Rp, truthD] at r e
      obtain ⟨a, vs, rfl, s, z, r⟩ := r
      cases e
      exact .inr (.inl ⟨vs, s, (len0 r.length).symm⟩)
    | lst ds =>
      simp only [Rp, truthD] at r e
      obtain ⟨a, vs, rfl, f, s, z, r⟩ := r
      cases e
      exact .inl ⟨vs, SqL.of s, (len0 r.length).symm⟩
    | _ => simp [truthD] at e
  · cases d with
    | lst ds =>
      simp only [truthD] at e
      obtain ⟨vs, s, z, r⟩ := ow
      cases e
      exact .inl ⟨vs, SqL.of s, (len0 r.length).symm⟩
    | dct _ => simp [truthD] at e
    | _ => exact (show False from ow).elim
theorem pt_of (p : PEo fn X e f) (he : ∀ whole, isTrue e X.env whole = (do let v ← whole; standAt e.pos; holding [v] (truthy v)) := by intro _; rfl) : PTx fn X e (tOf f) :=
  PT.imp (pt_truth p he) fun σ H Q ⟨H0, F0, bo, ρ, F, b, R, r, b', e, q⟩ => by
    unfold tOf at e
    split at e
    · rename_i d b1 e1
      split at e
      · rename_i k e2
        cases e
        exact ⟨H0, F0, bo, ρ, F, b, R, d, _, e1, fun v F' H' g hb rv => ⟨r, truD rv e2, q F' H' g hb⟩⟩
      · cases e
    · cases e
theorem pt_not' (p : PTx fn X a t) : PTx fn X (.UnaryOp .Not a pos) (tNot t) := PT.imp (pt_not p) fun σ H Q ⟨H0, F0, bo, ρ, F, b, R, r, b', e, q⟩ => by
  unfold tNot at e
  split at e
  · rename_i k b1 e1
    cases e
    exact ⟨H0, F0, bo, ρ, F, b, R, k, _, e1, fun F' H' g hb => q F' H' g hb⟩
  · cases e
theorem pw_one_and (p : PTx fn X a t) : PWx fn X (.BoolOp .And [a] pos) t := pw_and1 p
theorem pw_one_or (p : PTx fn X a t) : PWx fn X (.BoolOp .Or [a] pos) t := pw_or1 p
theorem pw_and' (p : PTx fn X a t) (p' : PWx fn X (.BoolOp .And (c :: rest) pos) u) : PWx fn X (.BoolOp .And (a :: c :: rest) pos) (tAnd t u) := PW.imp (pw_and p p') fun σ H Q ⟨H0, F0, bo, ρ, F, b, R, r, b', e, q⟩ => by
  unfold tAnd at e
  split at e
  · rename_i b1 e1
    refine ⟨H0, F0, bo, ρ, F, b, R, true, b1, e1, fun F' H' g hb => ?_⟩
    refine iteT ?_
    exact ⟨H0, F0, bo, ρ, F', b1, R.grow g hb, r, b', e, fun F2 H2 g2 hb2 => q F2 H2 (g.trans g2) hb2⟩
  · rename_i b1 e1
    cases e
    refine ⟨H0, F0, bo, ρ, F, b, R, false, _, e1, fun F' H' g hb => ?_⟩
    refine iteF ?_
    exact q F' H' g hb
  · cases e
theorem pw_or' (p : PTx fn X a t) (p' : PWx fn X (.BoolOp .Or (c :: rest) pos) u) : PWx fn X (.BoolOp .Or (a :: c :: rest) pos) (tOr t u) := PW.imp (pw_or p p') fun σ H Q ⟨H0, F0, bo, ρ, F, b, R, r, b', e, q⟩ => by
  unfold tOr at e
  split at e
  · rename_i b1 e1
    cases e
    refine ⟨H0, F0, bo, ρ, F, b, R, true, _, e1, fun F' H' g hb => ?_⟩
    refine iteT ?_
    exact q F' H' g hb
  · rename_i b1 e1
    refine ⟨H0, F0, bo, ρ, F, b, R, false, b1, e1, fun F' H' g hb => ?_⟩
    refine iteF ?_
    exact ⟨H0, F0, bo, ρ, F', b1, R.grow g hb, r, b', e, fun F2 H2 g2 hb2 => q F2 H2 (g.trans g2) hb2⟩
  · cases e
theorem px_if {t : Tx} {c : Expr} (pc : PTx fn X c t) (pa : PEx fn X a f) (pb : PEx fn X e g) : PEx fn X (.IfExp c a e pos) (eIf t f g) := PE.imp (pe_ifExp pc pa pb) fun σ H Q ⟨H0, F0, bo, ρ, F, b, R, r, b', e, q⟩ => by
  unfold eIf at e
  split at e
  · rename_i b1 e1
    refine ⟨H0, F0, bo, ρ, F, b, R, true, b1, e1, fun F' H' g hb => ?_⟩
    refine iteT ?_
    exact ⟨H0, F0, bo, ρ, F', b1, R.grow g hb, r, b', e, fun v F2 H2 g2 hb2 rv => q v F2 H2 (g.trans g2) hb2 rv⟩
  · rename_i b1 e1
    refine ⟨H0, F0, bo, ρ, F, b, R, false, b1, e1, fun F' H' g hb => ?_⟩
    refine iteF ?_
    exact ⟨H0, F0, bo, ρ, F', b1, R.grow g hb, r, b', e, fun v F2 H2 g2 hb2 rv => q v F2 H2 (g.trans g2) hb2 rv⟩
  · cases e
theorem px_one {op : BoolOp} (p : PEx fn X a f) : PEx fn X (.BoolOp op [a] pos) f := pe_one p
theorem px_and (pa : PEx fn X a f) (pb : PEx fn X (.BoolOp .And (c :: rest) pos) g) : PEx fn X (.BoolOp .And (a :: c :: rest) pos) (eAnd f g) := PE.imp (pe_andT pa pb) fun σ H Q ⟨H0, F0, bo, ρ, F, b, R, r, b', e, q⟩ => by
  unfold eAnd at e
  split at e
  · rename_i d b1 e1
    split at e
    · rename_i e2
      refine ⟨H0, F0, bo, ρ, F, b, R, d, b1, e1, fun v F' H' g hb rv => ⟨true, truD (.inl rv) e2, ?_⟩⟩
      refine iteT ?_
      exact ⟨H0, F0, bo, ρ, F', b1, R.grow g hb, r, b', e, fun v F2 H2 g2 hb2 rv => q v F2 H2 (g.trans g2) hb2 rv⟩
    · rename_i e2
      cases e
      refine ⟨H0, F0, bo, ρ, F, b, R, _, _, e1, fun v F' H' g hb rv => ⟨false, truD (.inl rv) e2, ?_⟩⟩
      refine iteF ?_
      exact q v F' H' g hb rv
    · cases e
  · cases e
theorem px_or (pa : PEx fn X a f) (pb : PEx fn X (.BoolOp .Or (c :: rest) pos) g) : PEx fn X (.BoolOp .Or (a :: c :: rest) pos) (eOr f g) := PE.imp (pe_orT pa pb) fun σ H Q ⟨H0, F0, bo, ρ, F, b, R, r, b', e, q⟩ => by
  unfold eOr at e
  split at e
  · rename_i d b1 e1
    split at e
    · rename_i e2
      cases e
      refine ⟨H0, F0, bo, ρ, F, b, R, _, _, e1, fun v F' H' g hb rv => ⟨true, truD (.inl rv) e2, ?_⟩⟩
      refine iteT ?_
      exact q v F' H' g hb rv
    · rename_i e2
      refine ⟨H0, F0, bo, ρ, F, b, R, d, b1, e1, fun v F' H' g hb rv => ⟨false, truD (.inl rv) e2, ?_⟩⟩
      refine iteF ?_
      exact ⟨H0, F0, bo, ρ, F', b1, R.grow g hb, r, b', e, fun v F2 H2 g2 hb2 rv => q v F2 H2 (g.trans g2) hb2 rv⟩
    · cases e
  · cases e
theorem px_not (p : PEo fn X a f) : PEx fn X (.UnaryOp .Not a pos) (eNot f) := PE.imp (pe_notT p) fun σ H Q h => by
  have h' : tEx (pm X fn) (eUn (fun d => (truthD d).map fun k => .bl (!k)) f) σ H Q := h
  obtain ⟨H0, F0, bo, ρ, F, b, R, d, b1, e1, k⟩ := one_o h'
  refine ⟨H0, F0, bo, ρ, F, b, R, d, b1, e1, fun v F' H' g hb rv => ?_⟩
  obtain ⟨bo', F2, b2, W, d', r, rd, er, q⟩ := k v F' H' g hb rv
  have er' : Option.map (fun k => D.bl !k) (truthD d') = some r := er
  cases ek : truthD d' with
  | none => rw [ek] at er'; cases er'
  | some k =>
    rw [ek] at er'; cases er'
    exact ⟨k, truD rd ek, q _ F2 H' (Grow.refl W.dom) W.box (by simp [Rp])⟩

/-! ### built-in functions -/
def rDn (m : Pm) (g : List D → Option D) : List V → Hp → VK → Prop := fun xs H Q => ∃ bo F b, Wo bo F H b ∧ ∃ ds r, RpOL m bo F H ds xs ∧ g ds = some r ∧
  ∀ v F' H', Grow bo F H F' H' → BoxOk bo F' H' b → Rp m bo F' H' r v → Q v H'
def rDnN (m : Pm) (g : List D → Option D) : List V → Hp → VK → Prop := fun xs H Q => ∃ bo F b, Wo bo F H b ∧ ∃ ds r, RpOL m bo F H ds xs ∧ g ds = some r ∧
  ∀ a F' H', Grow bo F H F' H' → BoxOk bo F' H' b → H a = none → ¬ F' a → Own m bo F' H' r a → Q (.ref a) H'
theorem fn_o {m : Pm} {σ : St} {H : Hp} {Q : VK} {g : List D → Option D} {f : As} (h : tEx m (eFn g f) σ H Q) : tAo m f σ H (fun xs H1 => rDn m g xs H1 Q) := by
  obtain ⟨H0, F0, bo, ρ, F, b, R, r, b', e, q⟩ := h
  unfold eFn at e
  split at e
  · rename_i d b1 e1
    split at e
    · rename_i r' e3
      cases e
      refine ⟨H0, F0, bo, ρ, F, b, R, d, _, e1, fun v1 F1 H1 g1 hb1 r1 => ?_⟩
      have R1 := R.grow g1 hb1
      exact ⟨bo, F1, _, R1.wo, d, r, r1, e3, fun v F' H' g3 hb3 r3 => q v F' H' (g1.trans g3) hb3 r3⟩
    · cases e
  · cases e
theorem fn_n {m : Pm} {σ : St} {H : Hp} {Q : VK} {g : List D → Option D} {f : As} (h : tEn m (eFn g f) σ H Q) : tAo m f σ H (fun xs H1 => rDnN m g xs H1 Q) := by
  obtain ⟨H0, F0, bo, ρ, F, b, R, r, b', e, q⟩ := h
  unfold eFn at e
  split at e
  · rename_i d b1 e1
    split at e
    · rename_i r' e3
      cases e
      refine ⟨H0, F0, bo, ρ, F, b, R, d, _, e1, fun v1 F1 H1 g1 hb1 r1 => ?_⟩
      have R1 := R.grow g1 hb1
      exact ⟨bo, F1, _, R1.wo, d, r, r1, e3, fun v F' H' g3 hb3 hn nf r3 => q v F' H' (g1.trans g3) hb3 (g1.free _ hn) nf r3⟩
    · cases e
  · cases e
variable {x : Str} {p : Pos} {id T : String} {ag : As} {gd : List D → Option D}
theorem px_fn (hc : CallR X (.builtin id) (rDn (pm X fn) gd)) (hg : Gl X x) (hm : X.mg x = none) (hv : bootBuiltins x = some (.builtin id)) (ha : PAo fn X (e :: es) ag) (hn : x ≠ "__name__" := by decide) (hdb : (x == ("__debug__" : Str)) = false := by decide)
    (he : starEach (e :: es) X.env = (false, eval e X.env) :: starEach es X.env := by rfl) (hpl : (backTo pos (starEach es X.env)).any (·.1) = false := by rfl) : PEx fn X (.Call (.Name x p) (e :: es) [] pos) (eFn gd ag) :=
  PE.imp (pe_callB hc hg hm hv ha.pa hn hdb he hpl) fun _ _ _ h => fn_o h
theorem pn_fn (hc : CallR X (.builtin id) (rDnN (pm X fn) gd)) (hg : Gl X x) (hm : X.mg x = none) (hv : bootBuiltins x = some (.builtin id)) (ha : PAo fn X (e :: es) ag) (hn : x ≠ "__name__" := by decide) (hdb : (x == ("__debug__" : Str)) = false := by decide)
    (he : starEach (e :: es) X.env = (false, eval e X.env) :: starEach es X.env := by rfl) (hpl : (backTo pos (starEach es X.env)).any (·.1) = false := by rfl) : PEn fn X (.Call (.Name x p) (e :: es) [] pos) (eFn gd ag) :=
  PE.imp (pe_callB hc hg hm hv ha.pa hn hdb he hpl) fun _ _ _ h => fn_n h
theorem px_ty (hc : CallR X (.type T) (rDn (pm X fn) gd)) (hg : Gl X x) (hm : X.mg x = none) (hv : bootBuiltins x = some (.type T)) (ha : PAo fn X (e :: es) ag) (hn : x ≠ "__name__" := by decide) (hdb : (x == ("__debug__" : Str)) = false := by decide)
    (he : starEach (e :: es) X.env = (false, eval e X.env) :: starEach es X.env := by rfl) (hpl : (backTo pos (starEach es X.env)).any (·.1) = false := by rfl) : PEx fn X (.Call (.Name x p) (e :: es) [] pos) (eFn gd ag) :=
  PE.imp (pe_callTy hc hg hm hv ha.pa hn hdb he hpl) fun _ _ _ h => fn_o h
theorem pn_ty (hc : CallR X (.type T) (rDnN (pm X fn) gd)) (hg : Gl X x) (hm : X.mg x = none) (hv : bootBuiltins x = some (.type T)) (ha : PAo fn X (e :: es) ag) (hn : x ≠ "__name__" := by decide) (hdb : (x == ("__debug__" : Str)) = false := by decide)
    (he : starEach (e :: es) X.env = (false, eval e X.env) :: starEach es X.env := by rfl) (hpl : (backTo pos (starEach es X.env)).any (·.1) = false := by rfl) : PEn fn X (.Call (.Name x p) (e :: es) [] pos) (eFn gd ag) :=
  PE.imp (pe_callTy hc hg hm hv ha.pa hn hdb he hpl) fun _ _ _ h => fn_n h

/-! ### slices, subscripts -/
def rSl (m : Pm) : V → Option Int → Option Int → Hp → VK → Prop := fun x lo hi H Q => ∃ bo F b, Wo bo F H b ∧ ∃ d r, RpO m bo F H d x ∧ sliceD d lo hi = some r ∧
  ∀ v F' H', Grow bo F H F' H' → BoxOk bo F' H' b → Rp m bo F' H' r v → Q v H'
/-- a part of a slice -/
abbrev tOpt (m : Pm) (o : Option Ex) : St → Hp → (Option Int → Hp → Prop) → Prop := fun σ H Q => ∃ H0 F0 bo ρ F b, Rel m H0 F0 bo σ ρ F H b ∧ ∃ d b', eOpt o ρ b = some (d, b') ∧
  ∀ F' H', Grow bo F H F' H' → BoxOk bo F' H' b' → Q d H'
def POx (fn : Nat → Option V) (X : Cx) (lo : Option Expr) (o : Option Ex) : Prop := ∃ t, PO X lo t ∧ ∀ σ H Q, tOpt (pm X fn) o σ H Q → t σ H Q
theorem pox_none : POx fn X none none := ⟨_, po_none, fun σ H Q ⟨H0, F0, bo, ρ, F, b, R, d, b', e, q⟩ => by
  cases e
  exact q F H (Grow.refl R.core.dom) R.core.box⟩
theorem pox_some (pa : PEx fn X a f) : POx fn X (some a) (some f) := ⟨_, po_some pa, fun σ H Q ⟨H0, F0, bo, ρ, F, b, R, d, b', e, q⟩ => by
  have e : (match f ρ b with | some (.int i, b1) => some (some i, b1) | _ => none) = some (d, b') := e
  split at e
  · rename_i i b1 e1
    cases e
    refine ⟨H0, F0, bo, ρ, F, b, R, .int i, _, e1, fun v F' H' g hb rv => ?_⟩
    simp only [Rp] at rv
    exact ⟨i, rv, q F' H' g hb⟩
  · cases e⟩
theorem px_slice {lo hi : Option Expr} {l u : Option Ex} {p2 : Pos} (hr : SlR X (rSl (pm X fn))) (pa : PEo fn X a f) (pl : POx fn X lo l) (pu : POx fn X hi u) : PEx fn X (.Subscript a (.Slice lo hi none p2) pos) (eSlice f l u) := by
  obtain ⟨tl, ql, il⟩ := pl
  obtain ⟨tu, qu, iu⟩ := pu
  refine PE.imp (pe_slice hr pa ql qu) fun σ H Q ⟨H0, F0, bo, ρ, F, b, R, r, b', e, q⟩ => ?_
  unfold eSlice at e
  split at e
  · rename_i d b1 e1
    split at e
    · rename_i l' b2 e2
      split at e
      · rename_i u' b3 e3
        split at e
        · rename_i r' e4
          cases e
          refine ⟨H0, F0, bo, ρ, F, b, R, d, b1, e1, fun v1 F1 H1 g1 hb1 r1 => ?_⟩
          have R1 := R.grow g1 hb1
          refine il _ _ _ ⟨H0, F0, bo, ρ, F1, b1, R1, l', b2, e2, fun F2 H2 g2 hb2 => ?_⟩
          have R2 := R1.grow g2 hb2
          refine iu _ _ _ ⟨H0, F0, bo, ρ, F2, b2, R2, u', _, e3, fun F3 H3 g3 hb3 => ?_⟩
          have R3 := R2.grow g3 hb3
          exact ⟨bo, F3, _, R3.wo, d, r, RpO.grow R2.wo g3 (RpO.grow R1.wo g2 r1), e4, fun v F4 H4 g4 hb4 rv => q v F4 H4 (((g1.trans g2).trans g3).trans g4) hb4 rv⟩
        · cases e
      · cases e
    · cases e
  · cases e
theorem px_ix (hr : IxR X (rD2 (pm X fn) ixD)) (pa : PEo fn X a f) (pc : PEx fn X c g) (hs : PlainIx c := by intro _ _; rfl) : PEx fn X (.Subscript a c pos) (eBin ixD f g) :=
  PE.imp (pe_ix hr pa (PEx.o pc) hs) fun _ _ _ h => two_o h
end
end Sv

set_option maxHeartbeats 4000000
/-! Sv4: operators and built-ins keep the promises of plain data. -/
namespace Sv
open PySem L2

/-! ### data read off the heap -/
section
variable {m : Pm} {bo : Bo} {F : Addr → Prop} {H : Hp}
mutual
theorem Rp.dp : ∀ (d : D) (v : V), d.plain = true → Rp m bo F H d v → Dp m.K H v d.py
  | .non, v, _, h => by simp only [Rp] at h; subst h; simp only [D.py]; exact .non
  | .bl b, v, _, h => by simp only [Rp] at h; subst h; simp only [D.py]; exact .bl b
  | .int b, v, _, h => by simp only [Rp] at h; subst h; simp only [D.py]; exact .int b
  | .str b, v, _, h => by simp only [Rp] at h; subst h; simp only [D.py]; exact .str b
  | .tup ds, v, e, h => by
    simp only [Rp] at h
    obtain ⟨a, vs, rfl, s, z, r⟩ := h
    simp only [D.py]
    exact .tup s (RpL.dp ds vs (by simpa [D.plain] using e) r)
  | .lst ds, v, e, h => by
    simp only [Rp] at h
    obtain ⟨a, vs, rfl, f, s, z, r⟩ := h
    simp only [D.py]
    exact .lst (SqL.of s) (RpL.dp ds vs (by simpa [D.plain] using e) r)
  | .dct _, _, e, _ => by simp [D.plain] at e
  | .tok _, _, e, _ => by simp [D.plain] at e
theorem RpL.dp : ∀ (ds : List D) (vs : List V), D.plainL ds = true → RpL m bo F H ds vs → DpAll m.K H vs (D.pyL ds)
  | [], vs, _, h => by simp only [RpL] at h; subst h; simp only [D.pyL]; exact .nil
  | d :: ds, vs, e, h => by
    simp only [RpL] at h
    rw [D.plainL, Bool.and_eq_true] at e
    obtain ⟨v, r, rfl, h1, h2⟩ := h
    simp only [D.pyL]
    exact .cons (Rp.dp d v e.1 h1) (RpL.dp ds r e.2 h2)
end
theorem RpO.dp {d : D} {v : V} (e : d.plain = true) (h : RpO m bo F H d v) : Dp m.K H v d.py := by
  rcases h with h | ⟨a, rfl, _, _, h⟩
  · exact Rp.dp d v e h
  · cases d with
    | lst ds =>
      obtain ⟨vs, s, z, r⟩ := h
      simp only [D.py]
      exact .lst (SqL.of s) (RpL.dp ds vs (by simpa [D.plain] using e) r)
    | dct _ => simp [D.plain] at e
    | _ => exact (show False from h).elim
/-- a list, a tuple that is read -/
theorem RpO.lst {ds : List D} {v : V} (h : RpO m bo F H (.lst ds) v) : ∃ a vs, v = .ref a ∧ H a = some (.lst vs) ∧ vs.length ≤ sizeLine ∧ RpL m bo F H ds vs := by
  rcases h with h | ⟨a, rfl, _, _, h⟩
  · simp only [Rp] at h
    obtain ⟨a, vs, rfl, f, s, z, r⟩ := h
    exact ⟨a, vs, rfl, s, z, r⟩
  · obtain ⟨vs, s, z, r⟩ := h
    exact ⟨a, vs, rfl, s, z, r⟩
theorem RpO.tup {ds : List D} {v : V} (h : RpO m bo F H (.tup ds) v) : ∃ a vs, v = .ref a ∧ SqT m.K H a vs ∧ vs.length ≤ sizeLine ∧ RpL m bo F H ds vs := by
  rcases h with h | ⟨a, rfl, _, _, h⟩
  · simpa only [Rp] using h
  · exact (show False from h).elim
theorem RpO.int {i : Int} {v : V} (h : RpO m bo F H (.int i) v) : v = .int i := by
  rcases h with h | ⟨a, rfl, _, _, h⟩
  · simpa only [Rp] using h
  · exact (show False from h).elim
theorem RpO.bl {i : Bool} {v : V} (h : RpO m bo F H (.bl i) v) : v = .bl i := by
  rcases h with h | ⟨a, rfl, _, _, h⟩
  · simpa only [Rp] using h
  · exact (show False from h).elim
theorem RpO.str {i : Str} {v : V} (h : RpO m bo F H (.str i) v) : v = .str i := by
  rcases h with h | ⟨a, rfl, _, _, h⟩
  · simpa only [Rp] using h
  · exact (show False from h).elim
theorem RpO.non {v : V} (h : RpO m bo F H .non v) : v = .non := by
  rcases h with h | ⟨a, rfl, _, _, h⟩
  · simpa only [Rp] using h
  · exact (show False from h).elim
theorem RpOL.one {d : D} {vs : List V} (h : RpOL m bo F H [d] vs) : ∃ v, vs = [v] ∧ RpO m bo F H d v := by
  simp only [RpOL] at h
  obtain ⟨v, r, rfl, h1, rfl⟩ := h
  exact ⟨v, rfl, h1⟩
theorem RpOL.two {d e : D} {vs : List V} (h : RpOL m bo F H [d, e] vs) : ∃ v u, vs = [v, u] ∧ RpO m bo F H d v ∧ RpO m bo F H e u := by
  simp only [RpOL] at h
  obtain ⟨v, r, rfl, h1, v', r', rfl, h2, rfl⟩ := h
  exact ⟨v, v', rfl, h1, h2⟩
end
mutual
theorem D.py_lay : ∀ d : D, d.plain = true → d.py.canLay0 = true
  | .non, _ => by simp [D.py, PyData.canLay0]
  | .bl _, _ => by simp [D.py, PyData.canLay0]
  | .int _, _ => by simp [D.py, PyData.canLay0]
  | .str s, h => by simpa [D.py, PyData.canLay0, D.plain, PyData.strOk] using h
  | .tup xs, h => by simp only [D.py, PyData.canLay0]; exact D.py_layL xs (by simpa [D.plain] using h)
  | .lst xs, h => by simp only [D.py, PyData.canLay0]; exact D.py_layL xs (by simpa [D.plain] using h)
  | .dct _, h => by simp [D.plain] at h
  | .tok _, h => by simp [D.plain] at h
theorem D.py_layL : ∀ d : List D, D.plainL d = true → PyData.canLayAll0 (D.pyL d) = true
  | [], _ => by simp [D.pyL, PyData.canLayAll0]
  | d :: ds, h => by
    rw [D.plainL, Bool.and_eq_true] at h
    simp only [D.pyL, PyData.canLayAll0, D.py_lay d h.1, D.py_layL ds h.2, Bool.and_self]
end
mutual
theorem D.py_dep : ∀ d : D, d.py.depth = d.dep
  | .non => by simp [D.py, PyData.depth, D.dep]
  | .bl _ => by simp [D.py, PyData.depth, D.dep]
  | .int _ => by simp [D.py, PyData.depth, D.dep]
  | .str s => by simp [D.py, PyData.depth, D.dep]
  | .tup xs => by simp only [D.py, PyData.depth, D.dep, D.py_depL xs]
  | .lst xs => by simp only [D.py, PyData.depth, D.dep, D.py_depL xs]
  | .dct _ => by simp [D.py, PyData.depth, D.dep]
  | .tok _ => by simp [D.py, PyData.depth, D.dep]
theorem D.py_depL : ∀ d : List D, PyData.depthAll (D.pyL d) = D.depL d
  | [] => by simp [D.pyL, PyData.depthAll, D.depL]
  | d :: ds => by simp only [D.pyL, PyData.depthAll, D.depL, D.py_dep d, D.py_depL ds]
end
theorem D.pyL_map : ∀ ds : List D, D.pyL ds = ds.map D.py
  | [] => rfl
  | d :: ds => by simp only [D.pyL, List.map_cons, D.pyL_map ds]
theorem D.sm_plain {d : D} (h : d.sm = true) : d.plain = true := by unfold D.sm at h; rw [Bool.and_eq_true] at h; exact h.1
theorem D.sm_dep {d : D} (h : d.sm = true) : d.dep ≤ 50 := by unfold D.sm at h; rw [Bool.and_eq_true] at h; exact of_decide_eq_true h.2
theorem D.sm_shaped {d : D} (h : d.sm = true) : SeqAt.shaped d.py = true := by
  unfold SeqAt.shaped
  rw [Bool.and_eq_true]
  have h2 := D.sm_dep h
  exact ⟨D.py_lay d (D.sm_plain h), decide_eq_true (by rw [D.py_dep]; omega)⟩

section
variable {fn : Nat → Option V} {X : Cx}

/-! ### arithmetic -/
theorem bigOk_lt {i : Int} (h : bigOk i = true) : i.natAbs < 2 ^ 30000 := of_decide_eq_true h
theorem d_add : OpR X (binaryOp .Add) (rD2 (pm X fn) opAdd) := by
  intro pins s σ H x y v u Q I rx ry h
  obtain ⟨bo, F, b, W, d, e, r, hd, he, hg, q⟩ := h
  unfold opAdd at hg
  split at hg
  · cases hg
    rw [hd.int] at rx; rw [he.int] at ry
    exact op_add pins s σ H _ _ v u Q I rx ry ⟨_, _, rfl, rfl, q _ F H (Grow.refl W.dom) W.box (by simp [Rp])⟩
  · split at hg
    · rename_i hz
      cases hg
      rw [hd.str] at rx; rw [he.str] at ry
      exact op_add_str pins s σ H _ _ v u Q I rx ry ⟨_, _, rfl, rfl, hz, q _ F H (Grow.refl W.dom) W.box (by simp [Rp])⟩
    · cases hg
  · split at hg
    · rename_i xs ys hz
      cases hg
      obtain ⟨a, vs, rfl, s1, z1, r1⟩ := hd.tup
      obtain ⟨a', vs', rfl, s2, z2, r2⟩ := he.tup
      refine op_catA pins s σ H _ _ v u Q I rx ry ⟨a, a', vs, vs', rfl, rfl, s1, s2, by rw [r1.length, r2.length]; exact hz, fun e => ?_, fun _ e => ?_, fun _ _ p hp => ?_⟩
      · have e0 : xs = [] := by have := r1.length; rw [e] at this; exact List.eq_nil_of_length_eq_zero this.symm
        refine q _ F H (Grow.refl W.dom) W.box ?_
        simp only [Rp]
        exact ⟨a', vs', rfl, s2, z2, by rw [e0]; exact r2⟩
      · have e0 : ys = [] := by have := r2.length; rw [e] at this; exact List.eq_nil_of_length_eq_zero this.symm
        refine q _ F H (Grow.refl W.dom) W.box ?_
        simp only [Rp]
        exact ⟨a, vs, rfl, s1, z1, by rw [e0, List.append_nil]; exact r1⟩
      · obtain ⟨g, hb, rr⟩ := new_tup W hp (r1.append r2) (by rw [List.length_append, r1.length, r2.length]; exact hz)
        exact q _ _ _ g hb rr
    · cases hg
  · split at hg
    · rename_i hz
      cases hg
      obtain ⟨a, vs, rfl, s1, z1, r1⟩ := hd.lst
      obtain ⟨a', vs', rfl, s2, z2, r2⟩ := he.lst
      refine op_cat pins s σ H _ _ v u Q I rx ry ⟨a, a', vs, vs', rfl, rfl, s1, s2, by rw [r1.length, r2.length]; exact hz, fun p hp => ?_⟩
      obtain ⟨g, hb, rr⟩ := new_lst W hp (r1.append r2) (by rw [List.length_append, r1.length, r2.length]; exact hz)
      exact q _ _ _ g hb rr
    · cases hg
  · cases hg
theorem d_sub : OpR X (binaryOp .Sub) (rD2 (pm X fn) opSub) := by
  intro pins s σ H x y v u Q I rx ry h
  obtain ⟨bo, F, b, W, d, e, r, hd, he, hg, q⟩ := h
  unfold opSub at hg
  split at hg
  · cases hg
    rw [hd.int] at rx; rw [he.int] at ry
    exact op_sub pins s σ H _ _ v u Q I rx ry ⟨_, _, rfl, rfl, q _ F H (Grow.refl W.dom) W.box (by simp [Rp])⟩
  · cases hg
theorem d_fdiv : OpR X (binaryOp .FloorDiv) (rD2 (pm X fn) opFdiv) := by
  intro pins s σ H x y v u Q I rx ry h
  obtain ⟨bo, F, b, W, d, e, r, hd, he, hg, q⟩ := h
  unfold opFdiv at hg
  split at hg
  · split at hg
    · rename_i hz
      cases hg
      rw [hd.int] at rx; rw [he.int] at ry
      exact op_fdivN pins s σ H _ _ v u Q I rx ry ⟨_, _, rfl, rfl, hz, q _ F H (Grow.refl W.dom) W.box (by simp [Rp])⟩
    · cases hg
  · cases hg
theorem d_mod : OpR X (binaryOp .Mod) (rD2 (pm X fn) opMod) := by
  intro pins s σ H x y v u Q I rx ry h
  obtain ⟨bo, F, b, W, d, e, r, hd, he, hg, q⟩ := h
  unfold opMod at hg
  split at hg
  · split at hg
    · rename_i hz
      cases hg
      rw [hd.int] at rx; rw [he.int] at ry
      exact op_modN pins s σ H _ _ v u Q I rx ry ⟨_, _, rfl, rfl, hz, q _ F H (Grow.refl W.dom) W.box (by simp [Rp])⟩
    · cases hg
  · cases hg
theorem d_neg : UnR X (unaryOp .USub) (rD1 (pm X fn) opNeg) := by
  intro pins s σ H x v Q I rx h
  obtain ⟨bo, F, b, W, d, r, hd, hg, q⟩ := h
  unfold opNeg at hg
  split at hg
  · cases hg
    rw [hd.int] at rx
    exact un_neg pins s σ H _ v Q I rx ⟨_, rfl, q _ F H (Grow.refl W.dom) W.box (by simp [Rp])⟩
  · cases hg
/-! #### products -/
theorem RpL.flatten {m : Pm} {bo : Bo} {F : Addr → Prop} {H : Hp} {ds : List D} {vs : List V} (h : RpL m bo F H ds vs) : ∀ n, RpL m bo F H (List.replicate n ds).flatten (List.replicate n vs).flatten
  | 0 => by simp [RpL]
  | n + 1 => by
    rw [List.replicate_succ, List.flatten_cons, List.replicate_succ, List.flatten_cons]
    exact h.append (RpL.flatten h n)
theorem tuple_mulSame (l : Addr) (items : Array Value) (n : Nat) (x : Int) (u : Tok) (c0 : (decide (x < -(2 ^ 63)) || decide (x ≥ 2 ^ 63)) = false) (c1 : (items.isEmpty || x == 1) = true) (dd : Option Addr) (sl : Array (Option Value)) :
    Meets (Builtin.«tuple.__mul__» ⟨[.ref l, .int x u], []⟩) (fun _ R s => s.heap.get? l = some { cls := .type "tuple", dict := dd, data := .seq items n, slots := sl } ∧
      R (.ok (.ret (Value.ref l))) s) :=
  .of_wp fun prog w A R s h => by
    obtain ⟨hp, g, d, tk, os⟩ := s
    obtain ⟨hl, h⟩ := h
    have f1 := AutoSeq1.idx_int
    wp_walk using AutoSeq1.wpAny_loadPart' hl
    repeat (first
      | (refine wpAny_ite_false (decide_eq_false (by rw [c0]; exact Bool.false_ne_true)) ?_; wp_walk using AutoSeq1.wpAny_loadPart' hl)
      | (refine wpAny_ite_true (decide_eq_true (by rw [c1])) ?_; wp_walk using AutoSeq1.wpAny_loadPart' hl))
    exact ⟨_, rfl, h⟩
theorem tuple_mulNone (l : Addr) (items : Array Value) (n : Nat) (x : Int) (u : Tok) (c0 : (decide (x < -(2 ^ 63)) || decide (x ≥ 2 ^ 63)) = false) (c1 : (items.isEmpty || x == 1) = false) (c2 : (decide (x ≤ 0) || items.isEmpty) = true) (dd : Option Addr) (sl : Array (Option Value)) :
    Meets (Builtin.«tuple.__mul__» ⟨[.ref l, .int x u], []⟩) (fun _ R s => s.heap.get? l = some { cls := .type "tuple", dict := dd, data := .seq items n, slots := sl } ∧
      R (.ok (.ret (Value.ref s.heap.objs.size))) { s with heap := s.heap.push { cls := Value.type "tuple", data := Data.seq #[] }, toks := s.toks }) :=
  .of_wp fun prog w A R s h => by
    obtain ⟨hp, g, d, tk, os⟩ := s
    obtain ⟨hl, h⟩ := h
    have f1 := AutoSeq1.idx_int
    wp_walk using AutoSeq1.wpAny_loadPart' hl
    repeat (first
      | (refine wpAny_ite_false (decide_eq_false (by rw [c0]; exact Bool.false_ne_true)) ?_; wp_walk using AutoSeq1.wpAny_loadPart' hl)
      | (refine wpAny_ite_false (decide_eq_false (by rw [c1]; exact Bool.false_ne_true)) ?_; wp_walk using AutoSeq1.wpAny_loadPart' hl)
      | (refine wpAny_ite_true (decide_eq_true (by rw [c2])) ?_; wp_walk using AutoSeq1.wpAny_loadPart' hl)
      | (refine wpAny_ite_false (by decide) ?_; wp_walk using AutoSeq1.wpAny_loadPart' hl))
    exact ⟨_, rfl, h⟩
theorem d_mul : OpR X (binaryOp .Mult) (rD2 (pm X fn) opMul) := by
  intro pins s σ H x y v u Q I rx ry h
  obtain ⟨bo, F, b, W, d, e, r, hd, he, hg, q⟩ := h
  unfold opMul at hg
  split at hg
  · split at hg
    · rename_i i j hz
      cases hg
      rw [hd.int] at rx; rw [he.int] at ry
      have q' := q (.int (i * j)) F H (Grow.refl W.dom) W.box (by simp [Rp])
      unfold mulOk at hz
      rw [Bool.or_eq_true, Bool.or_eq_true] at hz
      rcases hz with (hz | hz) | hz
      · have hz := of_decide_eq_true hz
        exact op_mul pins s σ H _ _ v u Q I rx ry ⟨_, _, rfl, rfl, .inl ⟨by omega, by omega⟩, q'⟩
      · have hz := of_decide_eq_true hz
        exact op_mul pins s σ H _ _ v u Q I rx ry ⟨_, _, rfl, rfl, .inr ⟨by omega, by omega⟩, q'⟩
      · rw [Bool.and_eq_true] at hz
        exact op_mulW pins s σ H _ _ v u Q I rx ry ⟨_, _, rfl, rfl, wide_mul (bigOk_lt hz.1) (bigOk_lt hz.2) (by decide) (by decide) (by decide), q'⟩
    · cases hg
  · split at hg
    · rename_i xs k hz
      cases hg
      obtain ⟨a, vs, rfl, s1, z1, r1⟩ := hd.lst
      rw [he.int] at ry
      refine op_rep pins s σ H _ _ v u Q I rx ry ⟨a, k, vs, rfl, rfl, s1, by omega, by omega, by rw [r1.length]; exact hz.2.2, fun p hp => ?_⟩
      obtain ⟨g, hb, rr⟩ := new_lst W hp (r1.flatten k.toNat) (by rw [PyProof.Rows.lm_len_rep_flat, r1.length, Nat.mul_comm]; exact hz.2.2)
      exact q _ _ _ g hb rr
    · cases hg
  · split at hg
    · rename_i xs k hz
      cases hg
      obtain ⟨a, vs, rfl, s1, z1, r1⟩ := hd.tup
      rw [he.int] at ry
      obtain ⟨hz1, hz2, hz3⟩ := hz
      have fresh : H s.heap.objs.size = none := I.hok.fresh (Nat.le_refl _)
      by_cases h2 : vs ≠ [] ∧ 2 ≤ k
      · refine op_repT pins s σ H _ _ v u Q I rx ry ⟨a, k, vs, rfl, rfl, s1, h2.1, h2.2, hz1, by rw [r1.length]; exact hz3, fun p hp => ?_⟩
        obtain ⟨g, hb, rr⟩ := new_tup W hp (r1.flatten k.toNat) (by rw [PyProof.Rows.lm_len_rep_flat, r1.length, sizeLine_eq]; have a1 : k.toNat * xs.length ≤ 1000 * 1000 := Nat.mul_le_mul (by omega) hz3; omega)
        exact q _ _ _ g hb rr
      · cases rx
        obtain ⟨t, rfl⟩ := ry
        obtain ⟨its, ri, ⟨⟨cls, dd, data, sl⟩, ho, hc, n, hd'⟩, hs⟩ := I.tuple s1
        simp only at hc hd'
        subst hc hd'
        have hle : its.length = vs.length := ri.length.symm
        have c0 : (decide (k < -(2 ^ 63)) || decide (k ≥ 2 ^ 63)) = false := by
          rw [decide_eq_false (by omega), decide_eq_false (by omega)] <;> rfl
        have emp : its.toArray.isEmpty = vs.isEmpty := by
          cases its <;> cases vs <;> simp_all
        by_cases c1 : (its.toArray.isEmpty || k == 1) = true
        · refine wpAny_binaryOp_repeat_ref (T := "tuple") (U := "int") (by decide) ⟨_, ho, rfl⟩ (fun s' => typeIs_int s' k t) noFill_tuple_mul PySem.F.fills_int_mul PySem.F.slot_int_rmul repeat_tuple PySem.F.slot_int_index.lookup
            (call_meets PySem.F.slot_int_rmul (typeIs_int s k t) PySem.F.entry_int_rmul (PySem.F.args_int_rmul_2 _ _) (int_rmul_tuple k t a its.toArray n dd sl)
              ⟨ho, rfl, ⟨_, ho, rfl⟩, call_meets PySem.F.slot_tuple_mul ⟨_, ho, rfl⟩ PySem.F.entry_tuple_mul (PySem.F.args_tuple_mul_2 _ _) (tuple_mulSame a its.toArray n k t c0 c1 dd sl) ⟨ho, ?_⟩⟩)
          refine ⟨.ref a, H, I, rfl, q _ F H (Grow.refl W.dom) W.box ?_⟩
          simp only [Rp]
          refine ⟨a, vs, rfl, s1, z1, ?_⟩
          rw [Bool.or_eq_true] at c1
          rcases c1 with c1 | c1
          · rw [emp, List.isEmpty_iff] at c1
            have := r1.length
            rw [c1] at this
            have e0 : xs = [] := List.eq_nil_of_length_eq_zero this.symm
            subst e0
            simp [RpL, c1]
          · have e1 : k = 1 := by simpa using c1
            subst e1
            simpa using r1
        · have c1' : (its.toArray.isEmpty || k == 1) = false := by simpa using c1
          have k0 : k ≤ 0 := by
            rw [Bool.or_eq_false_iff] at c1'
            have hv : vs ≠ [] := fun e => by rw [emp, e] at c1'; simp at c1'
            have hk : k ≠ 1 := by simpa using c1'.2
            have : ¬ 2 ≤ k := fun z => h2 ⟨hv, z⟩
            omega
          have c2 : (decide (k ≤ 0) || its.toArray.isEmpty) = true := by rw [decide_eq_true k0]; rfl
          refine wpAny_binaryOp_repeat_ref (T := "tuple") (U := "int") (by decide) ⟨_, ho, rfl⟩ (fun s' => typeIs_int s' k t) noFill_tuple_mul PySem.F.fills_int_mul PySem.F.slot_int_rmul repeat_tuple PySem.F.slot_int_index.lookup
            (call_meets PySem.F.slot_int_rmul (typeIs_int s k t) PySem.F.entry_int_rmul (PySem.F.args_int_rmul_2 _ _) (int_rmul_tuple k t a its.toArray n dd sl)
              ⟨ho, rfl, ⟨_, ho, rfl⟩, call_meets PySem.F.slot_tuple_mul ⟨_, ho, rfl⟩ PySem.F.entry_tuple_mul (PySem.F.args_tuple_mul_2 _ _) (tuple_mulNone a its.toArray n k t c0 c1' c2 dd sl) ⟨ho, ?_⟩⟩)
          have e0 : (List.replicate k.toNat xs).flatten = [] := by rw [Int.toNat_of_nonpos k0]; rfl
          obtain ⟨g, hb, rr⟩ := new_tup (m := pm X fn) W fresh (ds := []) (vs := []) RpL.nil (by simp)
          refine ⟨.ref s.heap.objs.size, _, I.laid (t' := s.toks) (o := .tup []) (fun b ob q => Heap.get?_push_of_some _ q) (Nat.le_refl _) ?_, rfl, q _ _ _ g hb (by rw [e0]; exact rr)⟩
          exact ⟨by simp, [], .nil, ⟨_, Heap.get?_push_size _ rfl, rfl, _, rfl⟩⟩
    · cases hg
  · cases hg

/-! ### comparisons -/
theorem o_bl {Q : VK} {bo : Bo} {F : Addr → Prop} {H : Hp} {b : Bx} {m : Pm} {k : Bool} (W : Wo bo F H b) (q : ∀ v F' H', Grow bo F H F' H' → BoxOk bo F' H' b → Rp m bo F' H' (.bl k) v → Q v H') : Q (.bl k) H :=
  q _ F H (Grow.refl W.dom) W.box (by simp [Rp])
theorem d_eq (hu : X.A.units + 64 < cLine) : OpR X (compareOp .Eq) (rD2 (pm X fn) opEq) := by
  intro pins s σ H x y v u Q I rx ry h
  obtain ⟨bo, F, b, W, d, e, r, hd, he, hg, q⟩ := h
  unfold opEq eqD at hg
  split at hg
  · rename_i hz
    cases hg
    exact op_eqD hu pins s σ H x y v u Q I rx ry ⟨_, _, hd.dp (D.sm_plain hz.1), he.dp (D.sm_plain hz.2), D.sm_shaped hz.1, D.sm_shaped hz.2, o_bl W q⟩
  · cases hg
theorem d_ne (hu : X.A.units + 64 < cLine) : OpR X (compareOp .NotEq) (rD2 (pm X fn) opNe) := by
  intro pins s σ H x y v u Q I rx ry h
  obtain ⟨bo, F, b, W, d, e, r, hd, he, hg, q⟩ := h
  unfold opNe eqD at hg
  split at hg
  · rename_i hz
    cases hg
    exact op_neD hu pins s σ H x y v u Q I rx ry ⟨_, _, hd.dp (D.sm_plain hz.1), he.dp (D.sm_plain hz.2), D.sm_shaped hz.1, D.sm_shaped hz.2, o_bl W q⟩
  · cases hg
theorem ltD_cases {d e : D} {k : Bool} (h : ltD d e = some k) : (∃ i j, d = .int i ∧ e = .int j ∧ k = decide (i < j)) ∨ (d.sm = true ∧ e.sm = true ∧ d ≠ .non ∧ PySem.W.alike d.py e.py = true ∧ k = PySem.W.dataLt d.py e.py) := by
  unfold ltD at h
  split at h
  · cases h; exact .inl ⟨_, _, rfl, rfl, rfl⟩
  · split at h
    · rename_i hz
      cases h
      exact .inr ⟨hz.1, hz.2.1, hz.2.2.1, hz.2.2.2, rfl⟩
    · cases h
theorem D.py_non {d : D} (h : d.plain = true) (n : d ≠ .non) : d.py ≠ .none := by
  cases d <;> simp_all [D.py, D.plain]
theorem alike_non {d : D} {e : PyData} (h : PySem.W.alike d.py e = true) (n : e ≠ .none) : d.py ≠ .none := by
  intro z
  rw [z] at h
  cases e <;> simp_all [PySem.W.alike]
theorem RpO.reads {pins : List (Addr × Obj)} {s : Shared} {σ : St} {H : Hp} {bo : Bo} {F : Addr → Prop} {d : D} {v : V} {u : Value} (I : Inv X pins σ H s) (hd : RpO (pm X fn) bo F H d v) (h : d.sm = true) (r : RelV v u) : ∃ as, Reads s.heap u d.py as :=
  Dp.reads I d.py v u (hd.dp (D.sm_plain h)) r
theorem min_dep {X : Cx} {d e : D} (hu : X.A.units + 64 < cLine) (h : d.sm = true) : X.A.units + min d.py.depth e.py.depth < cLine := by
  have := D.sm_dep h
  rw [D.py_dep]
  have h2 : min d.dep e.py.depth ≤ d.dep := Nat.min_le_left _ _
  omega
theorem d_lt (hu : X.A.units + 64 < cLine) : OpR X (compareOp .Lt) (rD2 (pm X fn) opLt) := by
  intro pins s σ H x y v u Q I rx ry h
  obtain ⟨bo, F, b, W, d, e, r, hd, he, hg, q⟩ := h
  unfold opLt at hg
  cases hk : ltD d e with
  | none => rw [hk] at hg; cases hg
  | some k =>
    rw [hk] at hg; cases hg
    rcases ltD_cases hk with ⟨i, j, rfl, rfl, rfl⟩ | ⟨h1, h2, h3, h4, rfl⟩
    · rw [hd.int] at rx; rw [he.int] at ry
      exact op_lt pins s σ H _ _ v u Q I rx ry ⟨_, _, rfl, rfl, o_bl W q⟩
    · obtain ⟨as, ra⟩ := hd.reads I h1 rx
      obtain ⟨bs, rb⟩ := he.reads I h2 ry
      exact PySem.W.lt_data ra rb h4 (D.py_non (D.sm_plain h1) h3) (min_dep hu h1) ⟨.bl _, H, I, rfl, o_bl W q⟩
theorem d_ge (hu : X.A.units + 64 < cLine) : OpR X (compareOp .GtE) (rD2 (pm X fn) opGe) := by
  intro pins s σ H x y v u Q I rx ry h
  obtain ⟨bo, F, b, W, d, e, r, hd, he, hg, q⟩ := h
  unfold opGe at hg
  cases hk : ltD d e with
  | none => rw [hk] at hg; cases hg
  | some k =>
    rw [hk] at hg; cases hg
    rcases ltD_cases hk with ⟨i, j, rfl, rfl, rfl⟩ | ⟨h1, h2, h3, h4, rfl⟩
    · rw [hd.int] at rx; rw [he.int] at ry
      have e1 : decide (j ≤ i) = !decide (i < j) := by rw [← decide_not]; exact decide_eq_decide.mpr (by omega)
      exact op_ge pins s σ H _ _ v u Q I rx ry ⟨_, _, rfl, rfl, by show Q (.bl (decide (j ≤ i))) H; rw [e1]; exact o_bl W q⟩
    · obtain ⟨as, ra⟩ := hd.reads I h1 rx
      obtain ⟨bs, rb⟩ := he.reads I h2 ry
      exact PySem.W.ge_data ra rb h4 (D.py_non (D.sm_plain h1) h3) (min_dep hu h1) ⟨.bl _, H, I, rfl, o_bl W q⟩
theorem d_gt (hu : X.A.units + 64 < cLine) : OpR X (compareOp .Gt) (rD2 (pm X fn) opGt) := by
  intro pins s σ H x y v u Q I rx ry h
  obtain ⟨bo, F, b, W, d, e, r, hd, he, hg, q⟩ := h
  unfold opGt at hg
  cases hk : ltD e d with
  | none => rw [hk] at hg; cases hg
  | some k =>
    rw [hk] at hg; cases hg
    rcases ltD_cases hk with ⟨i, j, rfl, rfl, rfl⟩ | ⟨h1, h2, h3, h4, rfl⟩
    · rw [hd.int] at rx; rw [he.int] at ry
      exact op_gt pins s σ H _ _ v u Q I rx ry ⟨_, _, rfl, rfl, o_bl W q⟩
    · obtain ⟨as, ra⟩ := hd.reads I h2 rx
      obtain ⟨bs, rb⟩ := he.reads I h1 ry
      have h5 : PySem.W.alike d.py e.py = true := (PySem.W.alike_comm _ _).trans h4
      exact PySem.W.gt_data ra rb h5 (alike_non h5 (D.py_non (D.sm_plain h1) h3)) (min_dep hu h2) ⟨.bl _, H, I, rfl, o_bl W q⟩
theorem d_le (hu : X.A.units + 64 < cLine) : OpR X (compareOp .LtE) (rD2 (pm X fn) opLe) := by
  intro pins s σ H x y v u Q I rx ry h
  obtain ⟨bo, F, b, W, d, e, r, hd, he, hg, q⟩ := h
  unfold opLe at hg
  cases hk : ltD e d with
  | none => rw [hk] at hg; cases hg
  | some k =>
    rw [hk] at hg; cases hg
    rcases ltD_cases hk with ⟨i, j, rfl, rfl, rfl⟩ | ⟨h1, h2, h3, h4, rfl⟩
    · rw [hd.int] at rx; rw [he.int] at ry
      have e1 : decide (j ≤ i) = !decide (i < j) := by rw [← decide_not]; exact decide_eq_decide.mpr (by omega)
      exact op_le pins s σ H _ _ v u Q I rx ry ⟨_, _, rfl, rfl, by show Q (.bl (decide (j ≤ i))) H; rw [e1]; exact o_bl W q⟩
    · obtain ⟨as, ra⟩ := hd.reads I h2 rx
      obtain ⟨bs, rb⟩ := he.reads I h1 ry
      have h5 : PySem.W.alike d.py e.py = true := (PySem.W.alike_comm _ _).trans h4
      exact PySem.W.le_data ra rb h5 (alike_non h5 (D.py_non (D.sm_plain h1) h3)) (min_dep hu h2) ⟨.bl _, H, I, rfl, o_bl W q⟩
/-! #### is -/
theorem Rp.not_non {m : Pm} {bo : Bo} {F : Addr → Prop} {H : Hp} {d : D} {v : V} (h : RpO m bo F H d v) (n : d ≠ .non) (t : ∀ k, d ≠ .tok k) : v ≠ .non := by
  rcases h with h | ⟨a, rfl, _⟩
  · cases d with
    | non => exact absurd rfl n
    | bl b => simp only [Rp] at h; subst h; exact fun z => nomatch z
    | int b => simp only [Rp] at h; subst h; exact fun z => nomatch z
    | str b => simp only [Rp] at h; subst h; exact fun z => nomatch z
    | tup ds => simp only [Rp] at h; obtain ⟨a, vs, rfl, _⟩ := h; exact fun z => nomatch z
    | lst ds => simp only [Rp] at h; obtain ⟨a, vs, rfl, _⟩ := h; exact fun z => nomatch z
    | dct ds => simp only [Rp] at h; obtain ⟨a, rfl, _⟩ := h; exact fun z => nomatch z
    | tok k => exact absurd rfl (t k)
  · exact fun z => nomatch z
theorem isN_dec {m : Pm} {bo : Bo} {F : Addr → Prop} {H : Hp} {d : D} {v : V} {r : D} (h : RpO m bo F H d v) (e : opIsN d = some r) : r = .bl (decide (v = .non)) := by
  unfold opIsN at e
  split at e
  · cases e
  · cases e
    have := h.non
    subst this
    simp
  · rename_i n2 n1
    cases e
    have := Rp.not_non h n1 n2
    simp [this]
theorem notN_dec {m : Pm} {bo : Bo} {F : Addr → Prop} {H : Hp} {d : D} {v : V} {r : D} (h : RpO m bo F H d v) (e : opNotN d = some r) : r = .bl (!decide (v = .non)) := by
  unfold opNotN at e
  split at e
  · cases e
  · cases e
    have := h.non
    subst this
    simp
  · rename_i n2 n1
    cases e
    have := Rp.not_non h n1 n2
    simp [this]
def opIsN2 (d e : D) : Option D := match e with
  | .non => opIsN d
  | _ => none
def opNotN2 (d e : D) : Option D := match e with
  | .non => opNotN d
  | _ => none
theorem d_isN : OpR X (compareOp .Is) (rD2 (pm X fn) opIsN2) := by
  intro pins s σ H x y v u Q I rx ry h
  obtain ⟨bo, F, b, W, d, e, r, hd, he, hg, q⟩ := h
  unfold opIsN2 at hg
  split at hg
  · have e1 := isN_dec hd hg
    subst e1
    exact op_isN pins s σ H x y v u Q I rx ry ⟨he.non, o_bl W q⟩
  · cases hg
theorem d_notN : OpR X (compareOp .IsNot) (rD2 (pm X fn) opNotN2) := by
  intro pins s σ H x y v u Q I rx ry h
  obtain ⟨bo, F, b, W, d, e, r, hd, he, hg, q⟩ := h
  unfold opNotN2 at hg
  split at hg
  · have e1 := notN_dec hd hg
    subst e1
    exact op_notN pins s σ H x y v u Q I rx ry ⟨he.non, o_bl W q⟩
  · cases hg
theorem d_isB : OpR X (compareOp .Is) (rD2 (pm X fn) opIsB) := by
  intro pins s σ H x y v u Q I rx ry h
  obtain ⟨bo, F, b, W, d, e, r, hd, he, hg, q⟩ := h
  unfold opIsB at hg
  split at hg
  · cases hg
    rw [hd.bl] at rx; rw [he.bl] at ry
    exact op_isBl pins s σ H _ _ v u Q I rx ry ⟨_, _, rfl, rfl, o_bl W q⟩
  · cases hg
theorem d_isntB : OpR X (compareOp .IsNot) (rD2 (pm X fn) opIsntB) := by
  intro pins s σ H x y v u Q I rx ry h
  obtain ⟨bo, F, b, W, d, e, r, hd, he, hg, q⟩ := h
  unfold opIsntB at hg
  split at hg
  · cases hg
    rw [hd.bl] at rx; rw [he.bl] at ry
    exact op_isnot_bl pins s σ H _ _ v u Q I rx ry ⟨_, _, rfl, rfl, o_bl W q⟩
  · cases hg
/-! #### in -/
theorem any_py {ds : List D} {x : D} : (D.pyL ds).any (fun z => PyData.eqv z x.py) = ds.any fun z => PyData.eqv z.py x.py := by
  rw [D.pyL_map, List.any_map]
  rfl
theorem in_room {X : Cx} {ds : List D} {x : D} (hu : X.A.units + 65 < cLine) (h : x.sm = true) : X.A.units + 1 + min (PyData.depthAll (D.pyL ds)) x.py.depth < cLine := by
  have := D.sm_dep h
  rw [D.py_dep x]
  have h2 : min (PyData.depthAll (D.pyL ds)) x.dep ≤ x.dep := Nat.min_le_right _ _
  omega
theorem d_in (hu : X.A.units + 65 < cLine) : OpR X (compareOp .In) (rD2 (pm X fn) opIn) := by
  intro pins s σ H x y v u Q I rx ry h
  obtain ⟨bo, F, b, W, d, e, r, hd, he, hg, q⟩ := h
  unfold opIn inD at hg
  cases e with
  | lst ds =>
    dsimp only at hg
    split at hg
    · rename_i hz
      cases hg
      obtain ⟨as, ra⟩ := hd.reads I hz.1 rx
      obtain ⟨bs, rb⟩ := he.reads I hz.2 ry
      have pl := D.py_layL ds (by simpa [D.plain] using D.sm_plain hz.2)
      exact SeqAt.in_list_reads (by simpa only [D.py] using rb) ra pl (D.py_lay d (D.sm_plain hz.1)) (in_room hu hz.1) ⟨.bl _, H, I, rfl, by rw [any_py]; exact o_bl W q⟩
    · cases hg
  | tup ds =>
    dsimp only at hg
    split at hg
    · rename_i hz
      cases hg
      obtain ⟨as, ra⟩ := hd.reads I hz.1 rx
      obtain ⟨bs, rb⟩ := he.reads I hz.2 ry
      have pl := D.py_layL ds (by simpa [D.plain] using D.sm_plain hz.2)
      exact SeqAt.in_tuple_reads (by simpa only [D.py] using rb) ra pl (D.py_lay d (D.sm_plain hz.1)) (in_room hu hz.1) ⟨.bl _, H, I, rfl, by rw [any_py]; exact o_bl W q⟩
    · cases hg
  | _ => cases hg
theorem d_notIn (hu : X.A.units + 65 < cLine) : OpR X (compareOp .NotIn) (rD2 (pm X fn) opNotIn) := by
  intro pins s σ H x y v u Q I rx ry h
  obtain ⟨bo, F, b, W, d, e, r, hd, he, hg, q⟩ := h
  unfold opNotIn inD at hg
  cases e with
  | lst ds =>
    dsimp only at hg
    split at hg
    · rename_i hz
      cases hg
      obtain ⟨as, ra⟩ := hd.reads I hz.1 rx
      obtain ⟨bs, rb⟩ := he.reads I hz.2 ry
      have pl := D.py_layL ds (by simpa [D.plain] using D.sm_plain hz.2)
      exact SeqAt.notIn_list_reads (by simpa only [D.py] using rb) ra pl (D.py_lay d (D.sm_plain hz.1)) (in_room hu hz.1) ⟨.bl _, H, I, rfl, by rw [any_py]; exact o_bl W q⟩
    · cases hg
  | tup ds =>
    dsimp only at hg
    split at hg
    · rename_i hz
      cases hg
      obtain ⟨as, ra⟩ := hd.reads I hz.1 rx
      obtain ⟨bs, rb⟩ := he.reads I hz.2 ry
      have pl := D.py_layL ds (by simpa [D.plain] using D.sm_plain hz.2)
      exact SeqAt.notIn_tuple_reads (by simpa only [D.py] using rb) ra pl (D.py_lay d (D.sm_plain hz.1)) (in_room hu hz.1) ⟨.bl _, H, I, rfl, by rw [any_py]; exact o_bl W q⟩
    · cases hg
  | _ => cases hg

/-! ### subscripts, slices -/
theorem RpL.atI {m : Pm} {bo : Bo} {F : Addr → Prop} {H : Hp} {ds : List D} {vs : List V} {i : Int} {d : D} (r : RpL m bo F H ds vs) (h : L2.atI ds i = some d) : ∃ v, L2.atI vs i = some v ∧ Rp m bo F H d v := by
  unfold L2.atI at h ⊢
  rw [r.length]
  cases hj : ixN ds.length i with
  | none => rw [hj] at h; cases h
  | some j =>
    rw [hj] at h
    exact r.get (by simpa using h)
theorem d_ix : IxR X (rD2 (pm X fn) ixD) := by
  intro value slice pins s σ H x y v u Q I rx ry h hs
  obtain ⟨bo, F, b, W, d, e, r, hd, he, hg, q⟩ := h
  unfold ixD at hg
  split at hg
  · obtain ⟨a, vs, rfl, s1, z1, r1⟩ := hd.tup
    rw [he.int] at ry
    obtain ⟨w, hw, rw'⟩ := r1.atI hg
    exact ix_tup value slice pins s σ H _ _ v u Q I rx ry ⟨a, vs, _, w, rfl, rfl, s1, hw, q _ F H (Grow.refl W.dom) W.box rw'⟩ hs
  · obtain ⟨a, vs, rfl, s1, z1, r1⟩ := hd.lst
    rw [he.int] at ry
    obtain ⟨w, hw, rw'⟩ := r1.atI hg
    exact ix_list value slice pins s σ H _ _ v u Q I rx ry ⟨a, vs, _, w, rfl, rfl, SqL.of s1, hw, q _ F H (Grow.refl W.dom) W.box rw'⟩ hs
  · split at hg
    · rename_i z i hz
      rw [hd.str] at rx; rw [he.int] at ry
      cases hc : L2.atI z.cps.toList i with
      | none => rw [hc] at hg; cases hg
      | some c =>
        rw [hc] at hg; cases hg
        exact ix_str value slice pins s σ H _ _ v u Q I rx ry ⟨z, i, c, rfl, rfl, hz, hc, q _ F H (Grow.refl W.dom) W.box (by simp [Rp])⟩ hs
    · cases hg
  · cases hg
theorem RpL.cut {m : Pm} {bo : Bo} {F : Addr → Prop} {H : Hp} {ds : List D} {vs : List V} (r : RpL m bo F H ds vs) (lo hi : Option Int) : RpL m bo F H (cutD ds lo hi) (cutV vs lo hi) := by
  unfold cutD cutV
  rw [r.length]
  exact (r.drop _).take _
theorem d_sl : SlR X (rSl (pm X fn)) := by
  intro pins s σ H x v vl vu lo hi sl Q I rx hs pl pu h
  obtain ⟨bo, F, b, W, d, r, hd, hg, q⟩ := h
  unfold sliceD at hg
  split at hg
  · rename_i xs
    cases hg
    obtain ⟨a, vs, rfl, s1, z1, r1⟩ := hd.tup
    refine sl_tupA pins s σ H _ v vl vu lo hi sl Q I rx hs pl pu ⟨a, vs, s1 |> fun _ => rfl, s1, fun hw => ?_, fun _ p hp => ?_⟩
    · refine q _ F H (Grow.refl W.dom) W.box ?_
      simp only [Rp]
      refine ⟨a, vs, rfl, s1, z1, ?_⟩
      have e : cutV vs lo hi = vs := by
        unfold cutV
        rw [hw.1, hw.2, List.drop_zero, Nat.sub_zero, List.take_length]
      have := r1.cut lo hi
      rw [e] at this
      exact this
    · obtain ⟨g, hb, rr⟩ := new_tup W hp (r1.cut lo hi) (Nat.le_trans (cutV_length _ _ _) z1)
      exact q _ _ _ g hb rr
  · cases hg
    obtain ⟨a, vs, rfl, s1, z1, r1⟩ := hd.lst
    refine sl_list pins s σ H _ v vl vu lo hi sl Q I rx hs pl pu ⟨a, vs, rfl, SqL.of s1, fun p hp => ?_⟩
    obtain ⟨g, hb, rr⟩ := new_lst W hp (r1.cut lo hi) (Nat.le_trans (cutV_length _ _ _) z1)
    exact q _ _ _ g hb rr
  · split at hg
    · rename_i z hz
      cases hg
      rw [hd.str] at rx
      exact sl_str pins s σ H _ v vl vu lo hi sl Q I rx hs pl pu ⟨z, rfl, hz, q _ F H (Grow.refl W.dom) W.box (by simp [Rp])⟩
    · cases hg
  · cases hg
end
end Sv

set_option maxHeartbeats 4000000
/-! Sv5: built-in functions, isinstance, x[::-1], sorted. -/
namespace Sv
open PySem L2
open PyProof.Rows (IsTup Subscript_ subscriptTail tail_any)

/-! ### t[::-1] -/
theorem adjust_rev (n : Nat) : Builtin.Slice.sliceAdjust none none (-1) (n : Int) = ((n : Int) - 1, -1) := by
  unfold Builtin.Slice.sliceAdjust
  simp
theorem places_rev (n : Nat) : Builtin.Slice.slicePlaces ((n : Int) - 1) (-1) (-1) = n := by
  unfold Builtin.Slice.slicePlaces
  rw [if_neg (by omega)]
  split
  · rw [show -(-1 : Int) = 1 from rfl, Int.ediv_one]; omega
  · omega
theorem pick_rev (xs : List Value) : ((List.range xs.length).filterMap fun (k : Nat) => xs[(((xs.length : Int) - 1) + (k : Int) * (-1)).toNat]?) = xs.reverse := by
  apply List.ext_getElem?
  intro i
  have key : ∀ (m : Nat), m ≤ xs.length → ((List.range m).filterMap fun (k : Nat) => xs[(((xs.length : Int) - 1) + (k : Int) * (-1)).toNat]?) = (xs.reverse).take m := by
    intro m
    induction m with
    | zero => intro _; simp
    | succ m ih =>
      intro hm
      rw [List.range_succ, List.filterMap_append, ih (by omega)]
      have e : (((xs.length : Int) - 1) + (m : Int) * (-1)).toNat = xs.length - 1 - m := by omega
      have hlt : xs.length - 1 - m < xs.length := by omega
      simp only [List.filterMap_cons, List.filterMap_nil, e, List.getElem?_eq_getElem hlt]
      rw [List.take_succ, List.getElem?_reverse (by omega), List.getElem?_eq_getElem hlt]
      rfl
  rw [key _ (Nat.le_refl _)]
  rw [List.take_of_length_le (by simp)]
section
variable {prog : Program} {w : World} {A : Around} {E : Value → Shared → Prop} {s : Shared}
theorem sliceApplied_rev {sl : Addr} {t : Tok} {n : Nat} {Q : Int × Int × Nat → Shared → Prop} (hs : s.heap.IsSliceOf sl .none .none (.int (-1) t))
    (h : Q ((n : Int) - 1, -1, n) s) : wpAny (model prog w) A (Builtin.Slice.sliceApplied (.ref sl) (pure (n : Int))) Q E s := by
  obtain ⟨os, hos, hcs, hds⟩ := id hs
  unfold Builtin.Slice.sliceApplied Builtin.Slice.sliceFields
  refine wpAny_bind (wpAny_bind (wpAny_field hos hds (x := .none) rfl (wpAny_bind (wpAny_field hos hds (x := .none) rfl (wpAny_bind (wpAny_field hos hds (x := .int (-1) t) rfl (wpAny_pure ?_)))))))
  refine wpAny_bind (HT.slicePart_ (.int (-1) t) ?_)
  show wpAny _ _ (if ((-1 : Int) == 0) = true then _ else _) _ _ s
  rw [if_neg (by decide)]
  refine wpAny_bind (HT.slicePart_ .none (wpAny_bind (HT.slicePart_ .none (wpAny_bind (wpAny_pure ?_)))))
  show wpAny _ _ (match Builtin.Slice.sliceAdjust none none (-1) (n : Int) with | (lo, hi) => pure (lo, (-1 : Int), Builtin.Slice.slicePlaces lo hi (-1))) _ _ s
  rw [adjust_rev]
  show wpAny _ _ (pure ((n : Int) - 1, (-1 : Int), Builtin.Slice.slicePlaces ((n : Int) - 1) (-1) (-1))) _ _ s
  rw [places_rev]
  exact wpAny_pure h
/-- behind t[::-1] stands a new tuple, or t itself where it is empty .. it is not told which -/
theorem getItem_tuple_rev {t sl : Addr} {items : List Value} {tk : Tok} {Q : Value → Shared → Prop} (ht : IsTup s.heap t items.toArray) (hs : s.heap.IsSliceOf sl .none .none (.int (-1) tk))
    (h : Q (.ref s.heap.objs.size) { s with heap := s.heap.push { cls := .type "tuple", data := .seq items.reverse.toArray } }) (hsz : items.length ≤ sizeLine) : wpAny (model prog w) A (getItem (.ref t) (.ref sl)) Q E s := by
  have htake : sizeOk (.seq items.reverse.toArray) := by
    show items.reverse.toArray.size ≤ sizeLine
    rw [List.size_toArray, List.length_reverse]; exact hsz
  obtain ⟨os, hos, hcs, hds⟩ := id hs
  have hTs : s.TypeIs (.ref sl) "slice" := ⟨os, hos, hcs⟩
  unfold getItem
  try with_reducible refine wpAny_holding ?_
  first | refine wpAny_bind (wpAny_pure ?_) | skip
  refine wpAny_bind (wpAny_sequenceKey ht.typeIs (by decide) ?_)
  refine wpAny_bind (wpAny_callSpecial?_slot (name := Str.ofString "__getitem__") ht.typeIs PyProof.Rows.slot_tuple_getitem (wpAny_call_entry PyProof.Rows.slot_tuple_getitem ht.typeIs PyProof.Rows.entry_tuple_getitem ?_ (PyProof.Rows.args_tuple_getitem _ _)))
  show wpAny _ _ (Builtin.Tuple.tupleItemsOf (.ref t) >>= _) _ _ s
  refine wpAny_bind (PyProof.Rows.tupleItemsOf_ ht ?_)
  refine wpAny_bind (wpAny_typeOf hTs ?_)
  rw [if_pos (by decide)]
  have e0 : ((items.toArray.size : Nat) : Int) = ((items.length : Nat) : Int) := by simp
  refine wpAny_bind (sliceApplied_rev (n := items.toArray.size) hs ?_)
  show wpAny _ _ (if (((((items.toArray.size : Nat) : Int) - 1) == 0 && (-1 : Int) == 1) && items.toArray.size == items.toArray.size) = true then _ else _) _ _ s
  rw [if_neg (by rw [show ((-1 : Int) == 1) = false from rfl]; simp)]
  have e1 : ((List.range items.toArray.size).filterMap fun (k : Nat) => items.toArray[((((items.toArray.size : Nat) : Int) - 1) + (k : Int) * (-1)).toNat]?).toArray = items.reverse.toArray := by
    have := pick_rev items
    simp only [List.size_toArray, List.getElem?_toArray]
    rw [this]
  rw [e1]
  first
    | exact wpAny_bind (m := Builtin.Tuple.tupleExact _) (wpAny_newObj_type (wpAny_pure ⟨_, rfl, wpAny_pure h⟩) htake)
    | exact wpAny_bind (m := Builtin.Tuple.tupleExact _) (wpAny_newObj_type (wpAny_bind (wpAny_pure (wpAny_pure ⟨_, rfl, wpAny_pure h⟩))) htake)
    | exact wpAny_bind (wpAny_bind (m := Builtin.Tuple.tupleExact _) (wpAny_newObj_type (wpAny_pure (wpAny_pure ⟨_, rfl, wpAny_pure h⟩)) htake))
    | exact wpAny_bind (wpAny_bind (m := Builtin.Tuple.tupleExact _) (wpAny_newObj_type (wpAny_pure ⟨_, rfl, wpAny_pure h⟩) htake))
end
section
variable {fn : Nat → Option V} {X : Cx} {e a : Expr} {es : List Expr} {f g : Ex} {pos : Pos}
/-- x[::-1] -/
theorem px_rev {k : Nat} {p1 p2 p3 : Pos} (he : PEo fn X e f) : PEx fn X (.Subscript e (.Slice none none (some (.UnaryOp .USub (.Constant (.int 1) k p1) p2)) p3) pos) (eUn revD f) := by
  refine ⟨fun pins s σ H Q I h => ?_⟩
  refine Subscript_ (thn (he.run pins s σ H _ I (one_o h)) fun v s1 ⟨x, H1, I1, r1, q1⟩ => ?_)
  obtain ⟨bo, F, b, W, d, r, hd, hg, q⟩ := q1
  have hst : PO X (some (.UnaryOp .USub (.Constant (.int 1) k p1) p2)) (tPart (tUn (rU fun i => .int (-i)) (tC (.int 1)))) := po_some (pe_un un_neg pe_int)
  refine wpAny_Slice (thn (po_none.run pins s1 σ H1 (fun o H2 => o = none ∧ H2 = H1) I1 ⟨rfl, rfl⟩) fun vl s2 ⟨l, H2, I2, pl, el, e2⟩ => ?_)
  subst el e2
  refine thn (po_none.run pins s2 σ H2 (fun o H3 => o = none ∧ H3 = H2) I2 ⟨rfl, rfl⟩) fun vu s3 ⟨u, H3, I3, pu, eu, e3⟩ => ?_
  subst eu e3
  refine thn (hst.run pins s3 σ H3 (fun o H4 => o = some (-1) ∧ H4 = H3) I3 ⟨1, rfl, -1, rfl, rfl, rfl⟩) fun vs s4 ⟨o, H4, I4, ps, eo, e4⟩ => ?_
  subst eo e4
  have I5 : Inv X pins σ H4 { s4 with heap := s4.heap.push { cls := .type "slice", data := .fields #[vl, vu, vs] } } := I4.kept (t' := s4.toks) fun b ob q => Heap.get?_push_of_some _ q
  have fresh := I5.hok.fresh (Nat.le_refl _)
  unfold revD at hg
  split at hg
  · cases hg
    obtain ⟨p, ws, rfl, s1', z1', r1'⟩ := hd.tup
    cases r1
    obtain ⟨its, r, ht, hz⟩ := I5.tuple s1'
    have hlen := r.length
    cases pl
    cases pu
    obtain ⟨tk, rfl⟩ : ∃ t, vs = .int (-1) t := by cases ps; exact ⟨_, rfl⟩
    show wpAny (model X.prog X.w) X.A (subscriptTail e (.Slice none none (some (.UnaryOp .USub (.Constant (.int 1) k p1) p2)) p3) (.ref p) (.ref s4.heap.objs.size)) (EP X pins σ Q) X.xe { s4 with heap := s4.heap.push { cls := .type "slice", data := .fields #[.none, .none, .int (-1) tk] } }
    refine tail_any (ops := [.ref p, .ref s4.heap.objs.size]) ht.typeIs (PyProof.Rows.slot_tuple_getitem.lookup) ?_ (by with_unfolding_all rfl)
    refine getItem_tuple_rev ht (Heap.IsSliceOf.new _ .none .none (.int (-1) tk)) ?_ (by omega)
    obtain ⟨g', hb', rr⟩ := new_tup W fresh r1'.reverse (by rw [List.length_reverse]; exact z1')
    refine ⟨.ref _, _, I5.laid (t' := s4.toks) (o := .tup ws.reverse) (fun b ob q => Heap.get?_push_of_some _ q) (Nat.le_refl _) ?_, rfl, q _ _ _ g' hb' rr⟩
    exact ⟨by rw [List.length_reverse]; exact hz, _, r.reverse, ⟨_, Heap.get?_push_size _ rfl, rfl, _, rfl⟩⟩
  · cases hg
    obtain ⟨p, ws, rfl, s1', z1', r1'⟩ := hd.lst
    cases r1
    obtain ⟨its, r, ht, hz⟩ := I5.list (SqL.of s1')
    have hlen := r.length
    show wpAny (model X.prog X.w) X.A (subscriptTail e (.Slice none none (some (.UnaryOp .USub (.Constant (.int 1) k p1) p2)) p3) (.ref p) (.ref s4.heap.objs.size)) (EP X pins σ Q) X.xe { s4 with heap := s4.heap.push { cls := .type "slice", data := .fields #[vl, vu, vs] } }
    refine tail_any (ops := [.ref p, .ref s4.heap.objs.size]) ht.isList.typeIs (PySem.slot_list_getitem.lookup) ?_ (by with_unfolding_all rfl)
    refine wpAny_getItem_list_slice ht.isList (Heap.IsSliceOf.new _ vl vu vs) pl pu ps (by decide) ?_ (by rw [List.size_toArray]; omega)
    rw [PySem.W.krv_pick]
    obtain ⟨g', hb', rr⟩ := new_lst W fresh r1'.reverse (by rw [List.length_reverse]; exact z1')
    refine ⟨.ref _, _, I5.laid (t' := s4.toks) (o := .lst ws.reverse) (fun b ob q => Heap.get?_push_of_some _ q) (Nat.le_refl _) ?_, rfl, q _ _ _ g' hb' rr⟩
    exact ⟨by rw [List.length_reverse]; exact hz, _, 0, r.reverse, Heap.get?_push_size _ rfl⟩
  · cases hg

/-! ### isinstance -/
def tyN : Ty → String
  | .int => "int"
  | .bool => "bool"
  | .str => "str"
  | .tuple => "tuple"
  | .list => "list"
theorem isT_key {m : Pm} {H : Hp} {d : D} {v : V} {t : Ty} {k : Bool} (T : String) (e : isT d t = some k) (a : TyX m.K H v (.type T)) (b : ∀ t', kitB T (tyN t') = isT d t') : ∃ T : String, TyX m.K H v (.type T) ∧ kitB T (tyN t) = some k :=
  ⟨T, a, (b t).trans e⟩
theorem isT_ty {m : Pm} {bo : Bo} {F : Addr → Prop} {H : Hp} {d : D} {v : V} {t : Ty} {k : Bool} (h : RpO m bo F H d v) (e : isT d t = some k) : ∃ T : String, TyX m.K H v (.type T) ∧ kitB T (tyN t) = some k := by
  rcases h with h | ⟨p, rfl, _, _, h⟩
  · cases d with
    | non => simp only [Rp] at h; subst h; exact isT_key "NoneType" e (.base .non) fun t' => by cases t' <;> decide +kernel
    | bl b => simp only [Rp] at h; subst h; exact isT_key "bool" e (.base (.bl b)) fun t' => by cases t' <;> rfl
    | int b => simp only [Rp] at h; subst h; exact isT_key "int" e (.base (.int b)) fun t' => by cases t' <;> rfl
    | str b => simp only [Rp] at h; subst h; exact isT_key "str" e (.base (.str b)) fun t' => by cases t' <;> rfl
    | tup ds =>
      simp only [Rp] at h
      obtain ⟨p, vs, rfl, s, z, r⟩ := h
      have e2 : TyX m.K H (.ref p) (.type "tuple") := by
        rcases s with (s | ⟨o, s⟩) | ⟨o, its, n, s, c, _⟩
        · exact .base (.tup s)
        · exact .fTuple s
        · exact .kTuple s c
      exact isT_key "tuple" e e2 fun t' => by cases t' <;> rfl
    | lst ds =>
      simp only [Rp] at h
      obtain ⟨p, vs, rfl, f, s, z, r⟩ := h
      exact isT_key "list" e (.base (.lst s)) fun t' => by cases t' <;> rfl
    | dct _ => simp [isT] at e
    | tok _ => simp [isT] at e
  · cases d with
    | lst ds => obtain ⟨vs, s, z, r⟩ := h; exact isT_key "list" e (.base (.lst s)) fun t' => by cases t' <;> rfl
    | dct _ => simp [isT] at e
    | _ => exact (show False from h).elim
theorem px_isi {t : Ty} {x : Str} {p p2 : Pos} (he : PEo fn X e f) (hg : Gl X "isinstance") (hm : X.mg "isinstance" = none) (hg2 : Gl X x) (hm2 : X.mg x = none) (hv2 : bootBuiltins x = some (.type (tyN t))) (hn : x ≠ "__name__" := by decide) (hd : (x == ("__debug__" : Str)) = false := by decide)
    (hs : starEach (e :: [.Name x p2]) X.env = (false, eval e X.env) :: starEach [.Name x p2] X.env := by rfl) (hpl : (backTo pos (starEach [.Name x p2] X.env)).any (·.1) = false := by rfl) :
    PEx fn X (.Call (.Name "isinstance" p) [e, .Name x p2] [] pos) (eUn (fun d => (isT d t).map .bl) f) := by
  refine PE.imp (pe_callB call_isi hg hm (by decide +kernel) (pa_cons he (pa_cons (pe_bltn (v := .ty (tyN t)) hg2 hm2 hv2 rfl hn hd) pa_nil) hs) (by decide) (by decide) hs hpl) fun σ H Q h => ?_
  obtain ⟨H0, F0, bo, ρ, F, b, R, d, b1, e1, k⟩ := one_o h
  refine ⟨H0, F0, bo, ρ, F, b, R, d, b1, e1, fun v F' H' g hb rv => ?_⟩
  obtain ⟨bo', F2, b2, W, d', r, rd, er, q⟩ := k v F' H' g hb rv
  have er' : Option.map D.bl (isT d' t) = some r := er
  cases ek : isT d' t with
  | none => rw [ek] at er'; cases er'
  | some k =>
    rw [ek] at er'; cases er'
    obtain ⟨T, h1, h2⟩ := isT_ty rd ek
    refine ⟨_, _, .type T, .type (tyN t), k, rfl, .ty _, h1, kit_ty h2, ?_⟩
    exact q _ F2 H' (Grow.refl W.dom) W.box (by simp [Rp])

/-! ### len, any, all, sum .. -/
theorem same_o {Q : VK} {bo : Bo} {F : Addr → Prop} {H : Hp} {b : Bx} {m : Pm} {d : D} {w : V} (W : Wo bo F H b) (q : ∀ v F' H', Grow bo F H F' H' → BoxOk bo F' H' b → Rp m bo F' H' d v → Q v H') (h : Rp m bo F H d w) : Q w H :=
  q _ F H (Grow.refl W.dom) W.box h
theorem d_len : CallR X (.builtin "len") (rDn (pm X fn) lenD) := by
  intro pins s σ H xs us Q I r h
  obtain ⟨bo, F, b, W, ds, d, hr, hg, q⟩ := h
  unfold lenD at hg
  split at hg
  · cases hg
    obtain ⟨v, rfl, h1⟩ := hr.one
    obtain ⟨p, vs, rfl, s1, z1, r1⟩ := h1.tup
    exact call_len_seq pins s σ H _ us Q I r ⟨p, vs, rfl, .inr s1, by rw [r1.length]; exact same_o W q (by simp [Rp])⟩
  · cases hg
    obtain ⟨v, rfl, h1⟩ := hr.one
    obtain ⟨p, vs, rfl, s1, z1, r1⟩ := h1.lst
    exact call_len_seq pins s σ H _ us Q I r ⟨p, vs, rfl, .inl (SqL.of s1), by rw [r1.length]; exact same_o W q (by simp [Rp])⟩
  · split at hg
    · rename_i z hz
      cases hg
      obtain ⟨v, rfl, h1⟩ := hr.one
      have := h1.str
      subst this
      exact call_len_str pins s σ H _ us Q I r ⟨z, rfl, hz, same_o W q (by simp [Rp])⟩
    · cases hg
  · cases hg
theorem boolsD_map : ∀ {ds : List D} {bs : List Bool}, boolsD ds = some bs → ds = bs.map .bl
  | [], bs, h => by cases h; rfl
  | d :: ds, bs, h => by
    cases d with
    | bl b =>
      simp only [boolsD] at h
      cases e : boolsD ds with
      | none => rw [e] at h; cases h
      | some r => rw [e] at h; cases h; rw [boolsD_map e]; rfl
    | _ => simp [boolsD] at h
theorem intsD_map : ∀ {ds : List D} {bs : List Int}, intsD ds = some bs → ds = bs.map .int
  | [], bs, h => by cases h; rfl
  | d :: ds, bs, h => by
    cases d with
    | int b =>
      simp only [intsD] at h
      cases e : intsD ds with
      | none => rw [e] at h; cases h
      | some r => rw [e] at h; cases h; rw [intsD_map e]; rfl
    | _ => simp [intsD] at h
theorem strsD_map : ∀ {ds : List D} {bs : List Str}, strsD ds = some bs → ds = bs.map .str
  | [], bs, h => by cases h; rfl
  | d :: ds, bs, h => by
    cases d with
    | str b =>
      simp only [strsD] at h
      cases e : strsD ds with
      | none => rw [e] at h; cases h
      | some r => rw [e] at h; cases h; rw [strsD_map e]; rfl
    | _ => simp [strsD] at h
theorem d_any (hc : X.calm = true) : CallR X (.builtin "any") (rDn (pm X fn) anyD) := by
  intro pins s σ H xs us Q I r h
  obtain ⟨bo, F, b, W, ds, d, hr, hg, q⟩ := h
  unfold anyD at hg
  split at hg
  · rename_i ds
    cases e : boolsD ds with
    | none => rw [e] at hg; cases hg
    | some bs =>
      rw [e] at hg; cases hg
      obtain ⟨v, rfl, h1⟩ := hr.one
      obtain ⟨p, vs, rfl, s1, z1, r1⟩ := h1.lst
      rw [boolsD_map e] at r1
      have := r1.bools
      subst this
      exact cr_any hc pins s σ H _ us Q I r ⟨p, bs, rfl, SqL.of s1, same_o W q (by simp [Rp])⟩
  · cases hg
theorem d_all (hc : X.calm = true) : CallR X (.builtin "all") (rDn (pm X fn) allD) := by
  intro pins s σ H xs us Q I r h
  obtain ⟨bo, F, b, W, ds, d, hr, hg, q⟩ := h
  unfold allD at hg
  split at hg
  · rename_i ds
    cases e : boolsD ds with
    | none => rw [e] at hg; cases hg
    | some bs =>
      rw [e] at hg; cases hg
      obtain ⟨v, rfl, h1⟩ := hr.one
      obtain ⟨p, vs, rfl, s1, z1, r1⟩ := h1.lst
      rw [boolsD_map e] at r1
      have := r1.bools
      subst this
      exact cr_all hc pins s σ H _ us Q I r ⟨p, bs, rfl, SqL.of s1, same_o W q (by simp [Rp])⟩
  · cases hg
theorem d_sum (hc : X.calm = true) : CallR X (.builtin "sum") (rDn (pm X fn) sumD) := by
  intro pins s σ H xs us Q I r h
  obtain ⟨bo, F, b, W, ds, d, hr, hg, q⟩ := h
  unfold sumD at hg
  split at hg
  · rename_i ds
    cases e : intsD ds with
    | none => rw [e] at hg; cases hg
    | some bs =>
      rw [e] at hg; cases hg
      obtain ⟨v, rfl, h1⟩ := hr.one
      obtain ⟨p, vs, rfl, s1, z1, r1⟩ := h1.lst
      rw [intsD_map e] at r1
      have := r1.ints
      subst this
      exact cr_sum hc pins s σ H _ us Q I r ⟨p, bs, rfl, SqL.of s1, same_o W q (by simp [Rp])⟩
  · cases hg
theorem d_abs : CallR X (.builtin "abs") (rDn (pm X fn) absD) := by
  intro pins s σ H xs us Q I r h
  obtain ⟨bo, F, b, W, ds, d, hr, hg, q⟩ := h
  unfold absD at hg
  split at hg
  · cases hg
    obtain ⟨v, rfl, h1⟩ := hr.one
    have := h1.int
    subst this
    exact call_abs pins s σ H _ us Q I r ⟨_, rfl, same_o W q (by simp [Rp])⟩
  · cases hg
theorem d_max2 (hc : X.calm = true) : CallR X (.builtin "max") (rDn (pm X fn) max2D) := by
  intro pins s σ H xs us Q I r h
  obtain ⟨bo, F, b, W, ds, d, hr, hg, q⟩ := h
  unfold max2D at hg
  split at hg
  · cases hg
    obtain ⟨v, u, rfl, h1, h2⟩ := hr.two
    have e1 := h1.int
    have e2 := h2.int
    subst e1 e2
    exact call_max2 hc pins s σ H _ us Q I r ⟨_, _, rfl, same_o W q (by simp [Rp])⟩
  · cases hg
theorem d_min2 (hc : X.calm = true) : CallR X (.builtin "min") (rDn (pm X fn) min2D) := by
  intro pins s σ H xs us Q I r h
  obtain ⟨bo, F, b, W, ds, d, hr, hg, q⟩ := h
  unfold min2D at hg
  split at hg
  · cases hg
    obtain ⟨v, u, rfl, h1, h2⟩ := hr.two
    have e1 := h1.int
    have e2 := h2.int
    subst e1 e2
    exact call_min2 hc pins s σ H _ us Q I r ⟨_, _, rfl, same_o W q (by simp [Rp])⟩
  · cases hg
theorem d_int : CallR X (.type "int") (rDn (pm X fn) intD) := by
  intro pins s σ H xs us Q I r h
  obtain ⟨bo, F, b, W, ds, d, hr, hg, q⟩ := h
  unfold intD at hg
  split at hg
  · cases hg
    obtain ⟨v, rfl, h1⟩ := hr.one
    have := h1.int
    subst this
    exact call_int1 pins s σ H _ us Q I r (.inl ⟨_, rfl, same_o W q (by simp [Rp])⟩)
  · cases hg
    obtain ⟨v, rfl, h1⟩ := hr.one
    have := h1.bl
    subst this
    exact call_int1 pins s σ H _ us Q I r (.inr ⟨_, rfl, same_o W q (by simp [Rp])⟩)
  · cases hg
theorem d_str : CallR X (.type "str") (rDn (pm X fn) strD) := by
  intro pins s σ H xs us Q I r h
  obtain ⟨bo, F, b, W, ds, d, hr, hg, q⟩ := h
  unfold strD at hg
  split at hg
  · split at hg
    · rename_i i hz
      cases hg
      obtain ⟨v, rfl, h1⟩ := hr.one
      have := h1.int
      subst this
      exact call_str_int pins s σ H _ us Q I r ⟨i, rfl, hz, same_o W q (by simp [Rp])⟩
    · cases hg
  · cases hg
theorem d_tuple : CallR X (.type "tuple") (rDn (pm X fn) tupleD) := by
  intro pins s σ H xs us Q I r h
  obtain ⟨bo, F, b, W, ds, d, hr, hg, q⟩ := h
  unfold tupleD at hg
  split at hg
  · cases hg
    obtain ⟨v, rfl, h1⟩ := hr.one
    obtain ⟨p, vs, rfl, s1, z1, r1⟩ := h1.lst
    refine call_tuple_of pins s σ H _ us Q I r ⟨p, vs, rfl, .inl ⟨SqL.of s1, fun l hl => ?_⟩⟩
    obtain ⟨g', hb', rr⟩ := new_tup W hl r1 z1
    exact q _ _ _ g' hb' rr
  · cases hg
    obtain ⟨v, rfl, h1⟩ := hr.one
    obtain ⟨p, vs, rfl, s1, z1, r1⟩ := h1.tup
    refine call_tuple_of pins s σ H _ us Q I r ⟨p, vs, rfl, .inr ⟨s1, same_o W q ?_⟩⟩
    simp only [Rp]
    exact ⟨p, vs, rfl, s1, z1, r1⟩
  · cases hg
theorem d_list : CallR X (.type "list") (rDnN (pm X fn) listD) := by
  intro pins s σ H xs us Q I r h
  obtain ⟨bo, F, b, W, ds, d, hr, hg, q⟩ := h
  unfold listD at hg
  split at hg
  · cases hg
    obtain ⟨v, rfl, h1⟩ := hr.one
    obtain ⟨p, vs, rfl, s1, z1, r1⟩ := h1.lst
    refine call_list_of pins s σ H _ us Q I r ⟨p, vs, rfl, .inl (SqL.of s1), fun l hl => ?_⟩
    obtain ⟨g', hb', nf, rr⟩ := new_own W hl r1 z1
    exact q _ _ _ g' hb' hl nf rr
  · cases hg
    obtain ⟨v, rfl, h1⟩ := hr.one
    obtain ⟨p, vs, rfl, s1, z1, r1⟩ := h1.tup
    refine call_list_of pins s σ H _ us Q I r ⟨p, vs, rfl, .inr s1, fun l hl => ?_⟩
    obtain ⟨g', hb', nf, rr⟩ := new_own W hl r1 z1
    exact q _ _ _ g' hb' hl nf rr
  · cases hg
end
end Sv

set_option maxHeartbeats 4000000
/-! Sv6: sorted of lists and tuples of alike data. -/
namespace Sv
open PySem L2 PySem.W
open PyProof.Rows (seqObj)

section
variable {prog : Program} {w : World} {A : Around} {E : Value → Shared → Prop} {s : Shared}
theorem collect_seq {l : Addr} {vs : List Value} {o : Obj} {n : Nat} {Q : List Value → Shared → Prop} (ho : s.heap.get? l = some o) (hc : o.cls = .type "list" ∨ o.cls = .type "tuple") (hd : o.data = .seq vs.toArray n)
    (h : Q vs { s with heap := (s.heap.push (seqObj "list" #[] 0)).update s.heap.objs.size (Obj.mapSeq (· ++ vs.toArray)) }) (hsz : vs.length ≤ sizeLine) :
    wpAny (model prog w) A (collect (.ref l)) Q E s := by
  unfold collect
  refine wpAny_bind (wpAny_runValue (codeAny_builtin PyProof.Rows.entry_proto_collect' ?_))
  show wpAny _ _ (do again (.builtin "list.__iadd__" ⟨[← newList [], .ref l], []⟩)) _ _ s
  refine wpAny_bind (wpAny_newList (wpAny_pure ⟨Code.quiet_builtin _ (by decide +kernel), codeAny_builtin PyProof.Rows.entry_list_iadd' ?_⟩))
  show wpAny _ _ (Builtin.List.listExtendWith (.ref s.heap.objs.size) (.ref l) (.ref s.heap.objs.size)) _ _ { s with heap := s.heap.push (seqObj "list" #[] 0) }
  unfold Builtin.List.listExtendWith
  have ho' : (s.heap.push (seqObj "list" #[] 0)).get? l = some o := Heap.get?_push_of_some _ ho
  have hb : ∀ T, o.cls = .type T → (T = "list" ∨ T = "tuple") → (Builtin.List.listSameRef (.ref s.heap.objs.size) (.ref l) || Value.type T == Value.type "list" || Value.type T == Value.type "tuple") = true := fun T _ e => by
    rcases e with rfl | rfl
    · rw [show (Value.type "list" == Value.type "list") = true from rfl]; simp
    · rw [show (Value.type "tuple" == Value.type "tuple") = true from rfl]; simp
  obtain ⟨T, hT, hT2⟩ : ∃ T, o.cls = .type T ∧ (T = "list" ∨ T = "tuple") := by
    rcases hc with h | h
    · exact ⟨_, h, .inl rfl⟩
    · exact ⟨_, h, .inr rfl⟩
  refine wpAny_bind (wpAny_typeOf (T := T) ⟨o, ho', hT⟩ ?_)
  rw [if_pos (hb T hT hT2)]
  refine wpAny_bind (PyProof.Rows.listItems_at ho' hd ?_)
  refine wpAny_bind (PyProof.Rows.listItems_at (xs := #[]) (n := 0) (Heap.get?_push_size _ rfl) rfl ?_)
  rw [if_neg (by simp)]
  refine wpAny_bind (PyProof.Rows.listUpdate_at (xs := #[]) (n := 0) (Heap.get?_push_size _ rfl) rfl ?_ (Nat.zero_le _) (by simp only [Array.size_append, List.size_toArray, List.length_nil]; omega))
  refine wpAny_pure ?_
  show wpAny (model prog w) A (do
      let o ← load s.heap.objs.size
      match o.data with
      | .seq xs _ => pure xs.toList
      | _ => unsupported "internal:collect") Q E { s with heap := (s.heap.push (seqObj "list" #[] 0)).update s.heap.objs.size (Obj.mapSeq (· ++ vs.toArray)) }
  refine wpAny_bind (wpAny_load (PyProof.Rows.get?_update_seq (Heap.get?_push_size _ rfl) _) ?_)
  show wpAny _ _ (pure ((#[] : Array Value) ++ vs.toArray).toList) Q E _
  rw [show ((#[] : Array Value) ++ vs.toArray).toList = vs by simp]
  exact wpAny_pure h
theorem sorted_seq {l : Addr} {vs : List Value} {o : Obj} {n : Nat} {kw : List (Str × Value)} {Q : Value → Shared → Prop} (ho : s.heap.get? l = some o) (hc : o.cls = .type "list" ∨ o.cls = .type "tuple") (hd : o.data = .seq vs.toArray n) (hL : vs.length ≤ sizeLine)
    (ha1 : argsOk "sorted" ⟨[.ref l], kw⟩) (ha2 : ∀ x, argsOk "list.sort" ⟨[.ref x], kw⟩)
    (body : ∀ E' : Value → Shared → Prop, wpAny (model prog w) A.in1.in1 (Builtin.«list.sort» ⟨[.ref (s.heap.objs.size + 1)], kw⟩) (fun f s' => f = .done (.ret .none) ∧ Q (.ref (s.heap.objs.size + 1)) s') E' { s with heap := copyHeap s.heap vs }) :
    wpAny (model prog w) A (call (.builtin "sorted") [.ref l] kw) Q E s := by
  refine PyProof.Rows.call_function_entry_kw PyProof.Rows.kind_sorted PyProof.Rows.plain_sorted PyProof.Rows.entry_sorted ha1 ?_
  unfold Builtin.«sorted»
  refine wpAny_bind (m := checkCount "sorted" 1 1 _) (wpAny_pure ?_)
  refine wpAny_bind (collect_seq ho hc hd ?_ hL)
  refine wpAny_bind (wpAny_newList ?_ hL)
  have hsz : ((s.heap.push (seqObj "list" #[] 0)).update s.heap.objs.size (Obj.mapSeq (· ++ vs.toArray))).objs.size = s.heap.objs.size + 1 := by
    rw [Heap.size_update, PyProof.Rows.size_push']
  show wpAny _ _ _ _ _ { s with heap := copyHeap s.heap vs }
  rw [hsz]
  refine wpAny_bind (wpAny_holding (PyProof.Rows.wpAny_call_entry_kw PyProof.Rows.slot_list_sort ⟨_, copyHeap_at s.heap vs, rfl⟩ PyProof.Rows.entry_list_sort ?body (ha2 _)))
  case body =>
    show wpAny (model prog w) A.in1.in1 (Builtin.«list.sort» ⟨[.ref (s.heap.objs.size + 1)], kw⟩) _ _ _
    refine wpAny_mono (body _) (fun f s' hf => ?_) fun _ _ e => e
    obtain ⟨rfl, hq⟩ := hf
    exact ⟨_, rfl, wpAny_pure ⟨_, rfl, hq⟩⟩
end

theorem each_of {α β : Type} {R : α → β → Prop} : ∀ {as : List α} {bs : List β}, as.length = bs.length → (∀ (i : Nat) a b, as[i]? = some a → bs[i]? = some b → R a b) → EachIs R as bs
  | [], [], _, _ => .nil
  | [], _ :: _, h, _ => by simp at h
  | _ :: _, [], h, _ => by simp at h
  | a :: as, b :: bs, h, k => .cons (k 0 a b rfl rfl) (each_of (by simpa using h) fun i a b e1 e2 => k (i + 1) a b (by simpa using e1) (by simpa using e2))
theorem each_get {α β : Type} {R : α → β → Prop} : ∀ {as : List α} {bs : List β}, EachIs R as bs → as.length = bs.length ∧ ∀ (i : Nat) a, as[i]? = some a → ∃ b, bs[i]? = some b ∧ R a b
  | _, _, .nil => ⟨rfl, fun i a h => by simp at h⟩
  | _, _, .cons h t => by
    obtain ⟨l, g⟩ := each_get t
    refine ⟨by simp [l], fun i a e => ?_⟩
    cases i with
    | zero => simp at e; subst e; exact ⟨_, rfl, h⟩
    | succ i => obtain ⟨b, h1, h2⟩ := g i a (by simpa using e); exact ⟨b, by simpa using h1, h2⟩
theorem vals_of_each {m : Pm} {bo : Bo} {F : Addr → Prop} {H : Hp} : ∀ {us : List Value} {ds : List D}, EachIs (fun u d => ∃ v, RelV v u ∧ Rp m bo F H d v) us ds → ∃ vs, Vals vs us ∧ RpL m bo F H ds vs
  | _, _, .nil => ⟨[], .nil, RpL.nil⟩
  | _, _, .cons ⟨v, r, p⟩ t => by
    obtain ⟨vs, h1, h2⟩ := vals_of_each t
    exact ⟨v :: vs, .cons r h1, RpL.cons p h2⟩
theorem each_of_vals {m : Pm} {bo : Bo} {F : Addr → Prop} {H : Hp} : ∀ {us : List Value} {vs : List V} {ds : List D}, Vals vs us → RpL m bo F H ds vs → EachIs (fun u d => ∃ v, RelV v u ∧ Rp m bo F H d v) us ds
  | _, _, [], .nil, _ => .nil
  | _, _, [], .cons _ _, h => by simp [RpL] at h
  | _, _, d :: ds, .nil, h => by simp [RpL] at h
  | _, _, d :: ds, .cons r t, h => .cons ⟨_, r, h.head.1⟩ (each_of_vals t h.head.2)

section
variable {fn : Nat → Option V} {X : Cx}
theorem sortOk_facts {ds : List D} (h : sortOk ds = true) : (∀ d ∈ ds, d.sm = true) ∧ AllAlike (ds.map D.py) ∧ Sortable (ds.map D.py) := by
  unfold sortOk at h
  rw [Bool.and_eq_true, Bool.and_eq_true] at h
  obtain ⟨⟨h1, h2⟩, h3⟩ := h
  have h1 := List.all_eq_true.mp h1
  have h2 := List.all_eq_true.mp h2
  refine ⟨h1, ?_, ?_⟩
  · intro d hd d' hd'
    obtain ⟨a, ha, rfl⟩ := List.mem_map.mp hd
    obtain ⟨b, hb, rfl⟩ := List.mem_map.mp hd'
    exact List.all_eq_true.mp (h2 a ha) b hb
  · rw [Bool.or_eq_true] at h3
    rcases h3 with h3 | h3
    · refine .inl fun d hd => ?_
      obtain ⟨a, ha, rfl⟩ := List.mem_map.mp hd
      have := List.all_eq_true.mp h3 a ha
      cases a with
      | tup xs =>
        cases xs with
        | nil => simp at this
        | cons x xs => exact ⟨x.py, D.pyL xs, by simp [D.py, D.pyL]⟩
      | _ => simp at this
    · refine .inr fun d hd => ?_
      obtain ⟨a, ha, rfl⟩ := List.mem_map.mp hd
      have h4 := List.all_eq_true.mp h3 a ha
      have h5 := D.sm_plain (h1 a ha)
      cases a <;> simp_all [D.py, D.plain]
theorem sorted_run {pins : List (Addr × Obj)} {s : Shared} {σ : St} {H : Hp} {Q : VK} {bo : Bo} {F : Addr → Prop} {b : Bx} {ds : List D} {vs : List V} {p : Addr} {its : List Value} {o : Obj} {n : Nat} (hu : X.A.units + 64 < cLine) (I : Inv X pins σ H s) (W : Wo bo F H b)
    (r1 : RpL (pm X fn) bo F H ds vs) (rv : Vals vs its) (hz : vs.length ≤ sizeLine) (ho : s.heap.get? p = some o) (hc : o.cls = .type "list" ∨ o.cls = .type "tuple") (hd : o.data = .seq its.toArray n) (ok : sortOk ds = true)
    (q : ∀ a F' H', Grow bo F H F' H' → BoxOk bo F' H' b → H a = none → ¬ F' a → Own (pm X fn) bo F' H' (.lst (sortL ds)) a → Q (.ref a) H') :
    wpAny (model X.prog X.w) X.A (call (.builtin "sorted") [.ref p]) (EP X pins σ Q) X.xe s := by
  obtain ⟨sm, al, so⟩ := sortOk_facts ok
  have hlen : its.length = ds.length := by rw [← rv.length]; exact r1.length
  have hL : its.length ≤ sizeLine := by rw [← rv.length]; exact hz
  have fresh : H (s.heap.objs.size + 1) = none := I.hok.fresh (Nat.le_succ _)
  have e0 := each_of_vals rv r1
  have er : EachIs (fun v (d : D) => ∃ as, Reads s.heap v d.py as) its ds := by
    refine each_of hlen fun i a d ea ed => ?_
    obtain ⟨d', e1, v, rr, rp⟩ := (each_get e0).2 i a ea
    rw [ed] at e1; cases e1
    have hm : d ∈ ds := List.mem_of_getElem? ed
    exact RpO.reads (fn := fn) I (.inl rp) (sm d hm) rr
  have er' : EachIs (fun v (d : D) => ∃ as, Reads (sortingHeap (copyHeap s.heap its) (s.heap.objs.size + 1) its) v d.py as) its ds := er.mono fun _ _ ⟨as, r⟩ => ⟨as, PyProof.Rows.Reads.keeps (fun _ _ => sorting_copy_old) r⟩
  have room : ∀ d, d ∈ ds → X.A.in1.in1.units + d.py.depth < cLine := fun d hd => by
    have := D.sm_dep (sm d hd)
    rw [D.py_dep]
    show X.A.units + 1 + 1 + d.dep < cLine
    omega
  refine sorted_seq ho hc hd hL (PyProof.Rows.args_sorted1 _) (fun _ => PyProof.Rows.args_list_sort _) fun E' => ?_
  refine list_sort_vals (s := { s with heap := copyHeap s.heap its }) (κ := dataKind (sortingHeap (copyHeap s.heap its) (s.heap.objs.size + 1) its) (ds.map D.py)) (copyHeap_at s.heap its)
    (SortsAt.data (s := { s with heap := sortingHeap (copyHeap s.heap its) (s.heap.objs.size + 1) its }) (each_map (R := fun v d => ∃ as, Reads (sortingHeap (copyHeap s.heap its) (s.heap.objs.size + 1) its) v d as) D.py er') al so (bound_map (A := X.A.in1.in1) room)) hL ⟨rfl, ?_⟩
  have eo := sortVals_data (enc := D.py) false e0 er' al
  obtain ⟨ws, hv, hr⟩ := vals_of_each eo
  obtain ⟨ep, he'⟩ := PyProof.Rows.sortedAll_at s.heap its (sortVals (dataKind (sortingHeap (copyHeap s.heap its) (s.heap.objs.size + 1) its) (ds.map D.py)) false its its).toArray
  have hws : ws.length ≤ sizeLine := by
    rw [hr.length]
    rw [List.length_mergeSort, ← hlen]
    exact hL
  obtain ⟨g, hb, nf, ow⟩ := new_own W fresh hr hws
  exact ⟨.ref _, upd H (s.heap.objs.size + 1) (.lst ws), I.laid (t' := s.toks) (fun _ _ => PyProof.Rows.sortedAll_old) (Nat.le_succ _) (show ObjOk X.prog X.w _ _ _ (.lst ws) from ⟨hws, _, ep, hv, he'⟩), rfl, q _ _ _ g hb fresh nf ow⟩
theorem d_sorted (hu : X.A.units + 64 < cLine) : CallR X (.builtin "sorted") (rDnN (pm X fn) sortedD) := by
  intro pins s σ H xs us Q I r h
  obtain ⟨bo, F, b, W, ds, d, hr, hg, q⟩ := h
  unfold sortedD at hg
  split at hg
  · split at hg
    · rename_i hz
      cases hg
      obtain ⟨v, rfl, h1⟩ := hr.one
      obtain ⟨p, vs, rfl, s1, z1, r1⟩ := h1.lst
      obtain ⟨its, rv, ⟨o, n, ho, hc, _, hd⟩, hsz⟩ := I.list (SqL.of s1)
      cases r with
      | cons ra rb =>
        cases rb
        cases ra
        exact sorted_run hu I W r1 rv hsz ho (.inl hc) hd hz q
    · cases hg
  · split at hg
    · rename_i hz
      cases hg
      obtain ⟨v, rfl, h1⟩ := hr.one
      obtain ⟨p, vs, rfl, s1, z1, r1⟩ := h1.tup
      obtain ⟨its, rv, ⟨o, ho, hc, n, hd⟩, hsz⟩ := I.tuple s1
      cases r with
      | cons ra rb =>
        cases rb
        cases ra
        exact sorted_run hu I W r1 rv hsz ho (.inr hc) hd hz q
    · cases hg
  · cases hg
end
end Sv

set_option maxHeartbeats 4000000
/-! Sv7: what is walked, targets. -/
namespace Sv
open PySem L2
open PyProof.Rows (IsTup)

/-! ### enumerate of a tuple -/
theorem meets_enumerate_newT (l : Addr) (items : Array Value) (n : Nat) (dct : Option Addr) (sl : Array (Option Value)) :
    Meets (Builtin.«enumerate.__new__» ⟨[.type "enumerate", .ref l], []⟩) (fun _ R s => s.heap.get? l = some { cls := .type "tuple", dict := dct, data := .seq items n, slots := sl } ∧
      R (.ok (.ret (.ref (s.heap.push { cls := .type "tuple_iterator", data := .fields #[.ref l, .int 0 0] }).objs.size)))
        { s with heap := (s.heap.push { cls := .type "tuple_iterator", data := .fields #[.ref l, .int 0 0] }).push { cls := .type "enumerate", data := .fields #[.none, .bool false, .ref s.heap.objs.size, rawInt 0, .none, .none] } }) :=
  .of_wp fun prog w A R s h => by
    obtain ⟨hp, g, d, tk, os⟩ := s; obtain ⟨hl, h⟩ := h
    have hsub := sub_enumerate
    have hL : Heap.IsTuple (Shared.heap ⟨hp, g, d, tk, os⟩) l items := ⟨_, hl, rfl, n, rfl⟩
    wp_walk using AutoSeq1.wpAny_loadPart' hl
    refine wpAny_stack_any fun st => wpAny_pure ?_
    split
    · rename_i c _ _ _ _ _
      cases (c == Value.type "enumerate")
      · wp_walk using AutoSeq1.wpAny_loadPart' hl, wpAny_pyIter_tuple hL
        exact ⟨_, rfl, h⟩
      · wp_walk using AutoSeq1.wpAny_loadPart' hl, wpAny_pyIter_tuple hL
        exact ⟨_, rfl, h⟩
    · wp_walk using AutoSeq1.wpAny_loadPart' hl, wpAny_pyIter_tuple hL
      exact ⟨_, rfl, h⟩
theorem call_enumerate_tup {prog : Program} {w : World} {A : Around} {E : Value → Shared → Prop} {s : Shared} {l : Addr} {items : Array Value} {Q : Value → Shared → Prop} (hL : s.heap.IsTuple l items)
    (h : ∀ h', IsEnum h' (s.heap.objs.size + 1) s.heap.objs.size 0 .none → h'.IsTupleIter s.heap.objs.size l 0 → (∀ b o, s.heap.get? b = some o → h'.get? b = some o) → Q (.ref (s.heap.objs.size + 1)) { s with heap := h' }) :
    wpAny (model prog w) A (call (.type "enumerate") [.ref l]) Q E s := by
  obtain ⟨⟨c, dct, dt, sl⟩, hl, hc, n, hd⟩ := hL
  replace hc : c = .type "tuple" := hc
  replace hd : dt = .seq items n := hd
  subst hc hd
  refine callType_new PySem.F.called_enumerate (by decide) (PySem.F.typeCall_enumerate_1 _) (PySem.F.newCall_enumerate_1 _) (fun obj => PySem.F.args_object_init_2 obj _) PySem.F.entry_enumerate_new (meets_enumerate_newT l items n dct sl) ⟨hl, ?_⟩
  have hz : (s.heap.push { cls := .type "tuple_iterator", data := .fields #[.ref l, .int 0 0] }).objs.size = s.heap.objs.size + 1 := Heap.size_push ..
  show _ ∧ _
  rw [hz]
  have he : IsEnum ((s.heap.push { cls := .type "tuple_iterator", data := .fields #[.ref l, .int 0 0] }).push { cls := .type "enumerate", data := .fields #[.none, .bool false, .ref s.heap.objs.size, rawInt 0, .none, .none] }) (s.heap.objs.size + 1) s.heap.objs.size 0 .none := by
    have := Heap.get?_push_size (s.heap.push { cls := .type "tuple_iterator", data := .fields #[.ref l, .int 0 0] }) (o := { cls := .type "enumerate", data := .fields #[.none, .bool false, .ref s.heap.objs.size, rawInt 0, .none, .none] }) rfl
    rw [hz] at this
    exact this
  have hi : ((s.heap.push { cls := .type "tuple_iterator", data := .fields #[.ref l, .int 0 0] }).push { cls := .type "enumerate", data := .fields #[.none, .bool false, .ref s.heap.objs.size, rawInt 0, .none, .none] }).IsTupleIter s.heap.objs.size l 0 :=
    ⟨_, Heap.get?_push_of_some _ (Heap.get?_push_size _ rfl), rfl, rfl⟩
  exact ⟨⟨_, he, rfl⟩, h _ he hi fun b o x => Heap.get?_push_of_some _ (Heap.get?_push_of_some _ x)⟩
/-- the tuple at t, each item in a new pair -/
def IteT (K : PySem.W.Frag) (t : Addr) : L2.It :=
  ⟨fun i H => ∃ (xs : List V) (x : V), SqT K H t xs ∧ xs[i]? = some x, fun i H v H' => ∃ T x, v = .ref T ∧ H T = none ∧ H' = upd H T (.tup [.int (i : Nat), x]) ∧ ∀ xs, SqT K H t xs → xs[i]? = some x, fun i H => ∃ xs : List V, SqT K H t xs ∧ xs.length = i⟩
theorem turn_enumT {P : Program} {w : World} {K : PySem.W.Frag} {elts : List Expr} {kk : Nat} {tpos : Pos} (a e it : Addr) (hne : e ≠ it) (hae : a ≠ e) (hai : a ≠ it) :
    Turn P w K (.Tuple elts kk tpos) (IteT K a) [e, it] e (fun i h => (∃ old, IsEnum h e it ((i : Nat) : Int) old) ∧ h.IsTupleIter it a i) where
  mem := by simp
  obj := fun i h st b hb => by
    obtain ⟨⟨old, he⟩, o, ho, hc, hd⟩ := st
    have e' : b = e ∨ b = it := by simpa using hb
    rcases e' with z | z
    · rw [z]; exact ⟨_, he, fun v q => nomatch q⟩
    · rw [z]; exact ⟨o, ho, fun v q => by rw [hd] at q; cases q⟩
  keep := fun i h h' st k => let ⟨⟨old, he⟩, hi⟩ := st; ⟨⟨old, k e (by simp) _ he⟩, hi.at fun o q => k it (by simp) o q⟩
  item := by
    intro X hP hw hK hc i pins s σ H E I hf st hg
    subst hP hw hK
    obtain ⟨⟨old, he⟩, hit⟩ := st
    obtain ⟨xs, x, hq, hx⟩ := hg
    obtain ⟨its, rv, p, hz⟩ := I.tuple hq
    obtain ⟨u, hu, ru⟩ := rv.get hx
    have hel : e < s.heap.objs.size := Heap.lt_size he
    have hil : it < s.heap.objs.size := by obtain ⟨_, q, _⟩ := hit; exact Heap.lt_size q
    have W := WalksT.enumerateD (Draws.tuple (prog := X.prog) (w := X.w) (A := X.A.in1) (I.ok.hd hc) it a hai its.toArray) e hne (by simp [hne, Ne.symm hae]) (by simp)
    have hlt : i < its.toArray.size := by
      have := (List.getElem?_eq_some_iff.mp hu).1
      simpa using this
    refine W.item i s _ _ hlt ⟨⟨old, he⟩, hit, show s.heap.IsTuple a its.toArray from p⟩ fun T vals h' tk hP' hT hTup hMid hk => ⟨_, rfl, ?_⟩
    refine W.go elts kk tpos i T { s with heap := h', toks := tk } _ _ hMid fun h'' hSt hk2 => ?_
    obtain ⟨tk', x', hx', rfl⟩ := hP'
    have ex : x' = u := by
      have hu2 : its.toArray[i]? = some u := by simpa using hu
      rw [hu2] at hx'; cases hx'; rfl
    subst ex
    have hTn := W.apart i T h' hMid
    have hTup2 : h''.IsTuple T #[.int i tk', x'] := by
      obtain ⟨o, ho, r⟩ := hTup
      exact ⟨o, hk2 T o hTn ho, r⟩
    have new : ObjOk X.prog X.w (upd H T (.tup [.int (i : Nat), x])) h'' T (.tup [.int (i : Nat), x]) :=
      ⟨by show 2 ≤ sizeLine; decide, [.int i tk', x'], .cons ⟨_, rfl⟩ (.cons ru .nil), hTup2⟩
    have I1 : Inv X pins σ (upd H T (.tup [.int (i : Nat), x])) { s with heap := h'', toks := tk } :=
      I.turnedNew (ch := [e, it]) (fun b ob hb q => hk2 b ob hb (hk b ob hb q)) hf hT new
    refine ⟨.ref T, _, I1, rfl, ⟨T, x, rfl, I.hok.fresh hT, rfl, fun ys hy => by rw [I.tuple_inj hy hq]; exact hx⟩, ⟨?_, hSt.2.1⟩, fun b hb => ?_⟩
    · obtain ⟨⟨old', he'⟩, _⟩ := hSt
      exact ⟨old', by simpa using he'⟩
    · have hb' : b < s.heap.objs.size := by
        have e' : b = e ∨ b = it := by simpa using hb
        rcases e' with z | z
        · rw [z]; exact hel
        · rw [z]; exact hil
      rw [upd_ne (Nat.ne_of_lt (Nat.lt_of_lt_of_le hb' hT))]
      exact (hf b hb).1
  done := by
    intro X hP hw hK hc i pins s σ H E I hf st hg
    subst hP hw hK
    obtain ⟨⟨old, he⟩, hit⟩ := st
    obtain ⟨xs, hq, hx⟩ := hg
    obtain ⟨its, rv, p, hz⟩ := I.tuple hq
    have hl := rv.length
    have W := WalksT.enumerateD (Draws.tuple (prog := X.prog) (w := X.w) (A := X.A.in1) (I.ok.hd hc) it a hai its.toArray) e hne (by simp [hne, Ne.symm hae]) (by simp)
    have ei : i = its.toArray.size := by rw [List.size_toArray]; omega
    subst ei
    obtain ⟨f0, f1, f2, f3, f4, f5⟩ := hf it (by simp)
    exact wpAny_pyNext_enum_endD (Draws.tuple (prog := X.prog) (w := X.w) (A := X.A.in1) (I.ok.hd hc) it a hai its.toArray) he ⟨hit, show s.heap.IsTuple a its.toArray from p⟩
      fun h' eb => ⟨rfl, I.turned (t' := s.toks) (fun b o hb e => eb b o hb e) f0 f1 f3 f4 f5⟩
  self := fun A i s Q E st h => by
    obtain ⟨⟨old, he⟩, _⟩ := st
    exact wpAny_pyIter_enum he h

/-! ### what is walked -/
/-- from any later state in which F's objects stand the walk gives the data ds -/
def Yields (m : Pm) (bo : Bo) (J : L2.It) (ds : List D) (F : Addr → Prop) (H : Hp) : Prop := ∀ F' H' b, FK F H F' H' → Wo bo F' H' b →
  (∀ (i : Nat) d, ds[i]? = some d → J.go i H' ∧ ∀ x H2, J.yld i H' x H2 → Grow bo F' H' F' H2 ∧ BoxOk bo F' H2 b ∧ Rp m bo F' H2 d x) ∧ J.stop ds.length H'
def iEx (m : Pm) (f : It) : TI := fun σ H R => ∃ H0 F0 bo ρ F b, Rel m H0 F0 bo σ ρ F H b ∧ ∃ ds b', f ρ b = some (ds, b') ∧
  ∀ J F' H', Grow bo F H F' H' → BoxOk bo F' H' b' → ds.length ≤ sizeLine → Yields m bo J ds F' H' → R J H'
/-- .. in any later state of the walk of a comprehension: what stood stands -/
def YieldsG (m : Pm) (bo : Bo) (J : L2.It) (ds : List D) (F : Addr → Prop) (H : Hp) : Prop := ∀ F' H' b, Grow bo F H F' H' → Wo bo F' H' b →
  (∀ (i : Nat) d, ds[i]? = some d → J.go i H' ∧ ∀ x H2, J.yld i H' x H2 → Grow bo F' H' F' H2 ∧ BoxOk bo F' H2 b ∧ Rp m bo F' H2 d x) ∧ J.stop ds.length H'
def iEo (m : Pm) (f : It) : TI := fun σ H R => ∃ H0 F0 bo ρ F b, Rel m H0 F0 bo σ ρ F H b ∧ ∃ ds b', f ρ b = some (ds, b') ∧
  ∀ J F' H', Grow bo F H F' H' → BoxOk bo F' H' b' → ds.length ≤ sizeLine → YieldsG m bo J ds F' H' → R J H'
abbrev PIx (fn : Nat → Option V) (X : Cx) (tg e : Expr) (f : It) : Prop := PI X tg e (iEx (pm X fn) f)
abbrev PIo (fn : Nat → Option V) (X : Cx) (tg e : Expr) (f : It) : Prop := PI X tg e (iEo (pm X fn) f)
theorem PI.imp {X : Cx} {tg e : Expr} {t t' : TI} (h : PI X tg e t) (i : ∀ σ H Q, t' σ H Q → t σ H Q) : PI X tg e t' := ⟨fun pins s σ H Q I q => h.run pins s σ H Q I (i σ H Q q)⟩

section
variable {fn : Nat → Option V} {X : Cx} {tg e e' : Expr} {f g : Ex} {pos p : Pos}
theorem iEx_o {m : Pm} {f : It} {σ : St} {H : Hp} {R : L2.It → Hp → Prop} (h : iEo m f σ H R) : iEx m f σ H R := by
  obtain ⟨H0, F0, bo, ρ, F, b, R', ds, b', e, q⟩ := h
  refine ⟨H0, F0, bo, ρ, F, b, R', ds, b', e, fun J F' H' g hb hz y => q J F' H' g hb hz fun F2 H2 b2 g2 W => y F2 H2 b2 (g2.fk hb g.dom) W⟩
theorem PIx.o {f : It} (h : PIx fn X tg e f) : PIo fn X tg e f := PI.imp h fun _ _ _ h => iEx_o h
/-- a list, a tuple -/
theorem pi_any {l : Expr} {tl : TE} (hl : PE X l tl) : PI X tg l (fun σ H R => tl σ H fun x H1 => ∃ a, x = .ref a ∧ ((∃ xs, SqL X.K H1 a xs) ∧ R (Itl X.K a) H1 ∨ (∃ xs, SqT X.K H1 a xs) ∧ R (Itt X.K a) H1)) := by
  refine ⟨fun pins s σ H R I h => ?_⟩
  refine thn (hl.run pins s σ H _ I h) fun v s1 ⟨x, H1, I1, r1, a, e, q⟩ => ?_
  subst e
  cases r1
  have fresh : ∀ b ∈ [s1.heap.objs.size], FpOk X pins H1 b := fun b hb => by
    have e : b = s1.heap.objs.size := by simpa using hb
    subst e
    exact I1.fpOk (Nat.le_refl _) (I1.hok.fresh (Nat.le_refl _))
  rcases q with ⟨⟨xs, hq⟩, q⟩ | ⟨⟨xs, hq⟩, q⟩
  · obtain ⟨its, rv, p, hz⟩ := I1.list hq
    exact wpAny_pyIter_list p.isList ⟨s1.heap.objs.size, [s1.heap.objs.size], _, _, H1, rfl, I1.kept (t' := s1.toks) fun b o e => Heap.get?_push_of_some _ e, turn_list a _, ⟨_, Heap.get?_push_size _ rfl, rfl, rfl⟩, fresh, q⟩
  · obtain ⟨its, rv, p, hz⟩ := I1.tuple hq
    exact wpAny_pyIter_tuple (show s1.heap.IsTuple a its.toArray from p) ⟨s1.heap.objs.size, [s1.heap.objs.size], _, _, H1, rfl, I1.kept (t' := s1.toks) fun b o e => Heap.get?_push_of_some _ e, turn_tuple a _, ⟨_, Heap.get?_push_size _ rfl, rfl, rfl⟩, fresh, q⟩
theorem yield_same {m : Pm} {bo : Bo} {F : Addr → Prop} {H : Hp} {b : Bx} {d : D} {x : V} (W : Wo bo F H b) (h : Rp m bo F H d x) : Grow bo F H F H ∧ BoxOk bo F H b ∧ Rp m bo F H d x := ⟨Grow.refl W.dom, W.box, h⟩
theorem yields_list {m : Pm} {bo : Bo} {F : Addr → Prop} {H : Hp} {b : Bx} {a : Addr} {vs : List V} {ds : List D} (W : Wo bo F H b) (r : RpL m bo F H ds vs) (s : SqL m.K H a vs) :
    (∀ (i : Nat) d, ds[i]? = some d → (Itl m.K a).go i H ∧ ∀ x H2, (Itl m.K a).yld i H x H2 → Grow bo F H F H2 ∧ BoxOk bo F H2 b ∧ Rp m bo F H2 d x) ∧ (Itl m.K a).stop ds.length H := by
  refine ⟨fun i d e => ?_, vs, s, by rw [r.length]; exact Nat.le_refl _⟩
  obtain ⟨v, hv, rv⟩ := r.get e
  refine ⟨⟨vs, v, s, hv⟩, fun x H2 ⟨e1, e2⟩ => ?_⟩
  subst e1
  have := e2 vs s
  rw [hv] at this; cases this
  exact yield_same W rv
theorem yields_tup {m : Pm} {bo : Bo} {F : Addr → Prop} {H : Hp} {b : Bx} {a : Addr} {vs : List V} {ds : List D} (W : Wo bo F H b) (r : RpL m bo F H ds vs) (s : SqT m.K H a vs) :
    (∀ (i : Nat) d, ds[i]? = some d → (Itt m.K a).go i H ∧ ∀ x H2, (Itt m.K a).yld i H x H2 → Grow bo F H F H2 ∧ BoxOk bo F H2 b ∧ Rp m bo F H2 d x) ∧ (Itt m.K a).stop ds.length H := by
  refine ⟨fun i d e => ?_, vs, s, by rw [r.length]; exact Nat.le_refl _⟩
  obtain ⟨v, hv, rv⟩ := r.get e
  refine ⟨⟨vs, v, s, hv⟩, fun x H2 ⟨e1, e2⟩ => ?_⟩
  subst e1
  have := e2 vs s
  rw [hv] at this; cases this
  exact yield_same W rv
theorem pi_seq (pe : PEx fn X e f) : PIx fn X tg e (iSeq f) := PI.imp (pi_any pe) fun σ H R ⟨H0, F0, bo, ρ, F, b, R', ds, b', e, q⟩ => by
  unfold iSeq at e
  split at e
  · rename_i d b1 e1
    split at e
    · rename_i xs e2
      cases e
      refine ⟨H0, F0, bo, ρ, F, b, R', d, _, e1, fun v F' H' g hb rv => ?_⟩
      unfold itemsD at e2
      split at e2
      · cases e2
        simp only [Rp] at rv
        obtain ⟨a, vs, rfl, f1, s, z, r⟩ := rv
        refine ⟨a, rfl, .inl ⟨⟨vs, SqL.of s⟩, q _ F' H' g hb (by rw [← r.length]; exact z) fun F2 H2 b2 k W => ?_⟩⟩
        exact yields_list W (r.fk k) (SqL.of ((k.at_ a f1).trans s))
      · cases e2
        simp only [Rp] at rv
        obtain ⟨a, vs, rfl, s, z, r⟩ := rv
        refine ⟨a, rfl, .inr ⟨⟨vs, s⟩, q _ F' H' g hb (by rw [← r.length]; exact z) fun F2 H2 b2 k W => ?_⟩⟩
        exact yields_tup W (r.fk k) (Sv.SqT.fk k s)
      · cases e2
    · cases e
  · cases e
theorem pio_seq (pe : PEo fn X e f) : PIo fn X tg e (iSeq f) := PI.imp (pi_any pe) fun σ H R ⟨H0, F0, bo, ρ, F, b, R', ds, b', e, q⟩ => by
  unfold iSeq at e
  split at e
  · rename_i d b1 e1
    split at e
    · rename_i xs e2
      cases e
      refine ⟨H0, F0, bo, ρ, F, b, R', d, _, e1, fun v F' H' g hb rv => ?_⟩
      unfold itemsD at e2
      split at e2
      · cases e2
        have nb : ∀ a vs, v = .ref a → H' a = some (.lst vs) → ¬ inBox bo a := fun a vs ev es => by
          rcases rv with rv | ⟨a', e', nb, _⟩
          · simp only [Rp] at rv
            obtain ⟨a', vs', e', f1, s, z, r⟩ := rv
            rw [ev] at e'; cases e'
            exact fun z => (inBox_some hb z).1 f1
          · rw [ev] at e'; cases e'
            exact nb
        obtain ⟨a, vs, rfl, s, z, r⟩ := rv.lst
        refine ⟨a, rfl, .inl ⟨⟨vs, SqL.of s⟩, q _ F' H' g hb (by rw [← r.length]; exact z) fun F2 H2 b2 k W => ?_⟩⟩
        exact yields_list W (r.fk (k.fk hb g.dom)) (SqL.of (k.keep a _ s (nb a vs rfl s)))
      · cases e2
        obtain ⟨a, vs, rfl, s, z, r⟩ := rv.tup
        refine ⟨a, rfl, .inr ⟨⟨vs, s⟩, q _ F' H' g hb (by rw [← r.length]; exact z) fun F2 H2 b2 k W => ?_⟩⟩
        exact yields_tup W (r.fk (k.fk hb g.dom)) (Sv.SqT.fk (k.fk hb g.dom) s)
      · cases e2
    · cases e
  · cases e
/-- range(n), range(a, b) -/
theorem rangeD_get {lo hi : Int} {ds : List D} (h : rangeD lo hi = some ds) : ds.length = (hi - lo).toNat ∧ (∀ (i : Nat) d, ds[i]? = some d → d = .int (lo + (i : Nat)) ∧ i < (hi - lo).toNat) ∧ (-(2 ^ 62) ≤ lo ∧ lo < 2 ^ 62 ∧ -(2 ^ 62) ≤ hi ∧ hi < 2 ^ 62) ∧ ds.length ≤ sizeLine := by
  unfold rangeD at h
  split at h
  · rename_i hz
    cases h
    refine ⟨by simp, fun i d e => ?_, hz.2, by rw [sizeLine_eq]; simp; omega⟩
    rw [List.getElem?_map] at e
    cases hi' : (List.range (hi - lo).toNat)[i]? with
    | none => rw [hi'] at e; cases e
    | some k =>
      rw [hi'] at e; cases e
      obtain ⟨h1, h2⟩ := List.getElem?_eq_some_iff.mp hi'
      rw [List.getElem_range] at h2
      rw [List.length_range] at h1
      subst h2
      exact ⟨rfl, h1⟩
  · cases h
theorem yields_range {m : Pm} {bo : Bo} {F : Addr → Prop} {H : Hp} {lo hi : Int} {ds : List D} (h : rangeD lo hi = some ds) : Yields m bo (Itr lo (hi - lo).toNat) ds F H := fun F' H' b k W => by
  obtain ⟨h1, h2, _⟩ := rangeD_get h
  refine ⟨fun i d e => ?_, by show (hi - lo).toNat ≤ ds.length; omega⟩
  obtain ⟨rfl, h3⟩ := h2 i d e
  refine ⟨h3, fun x H2 ⟨e1, e2⟩ => ?_⟩
  subst e1 e2
  exact yield_same W (by simp [Rp])
theorem pi_range {ag : As} (hg : Gl X "range") (hm : X.mg "range" = none) (ha : PAs fn X [e] ag) (hs : starEach [e] X.env = [(false, eval e X.env)] := by rfl) : PIx fn X tg (.Call (.Name "range" p) [e] [] pos) (iRange ag) := PI.imp (pi_range1 hg hm ha.pa hs) fun σ H R ⟨H0, F0, bo, ρ, F, b, R', ds, b', e, q⟩ => by
  unfold iRange at e
  split at e
  · rename_i j b1 e1
    split at e
    · rename_i xs e2
      cases e
      refine ⟨H0, F0, bo, ρ, F, b, R', _, _, e1, fun vs F' H' g hb rv => ?_⟩
      have ev : vs = [.int j] := RpL.ints (is := [j]) rv
      obtain ⟨_, _, ⟨h3, h4, h5, h6⟩, hz⟩ := rangeD_get e2
      exact ⟨j, ev, h5, h6, q _ F' H' g hb hz (by have := yields_range (m := pm X fn) (bo := bo) (F := F') (H := H') e2; rwa [Int.sub_zero] at this)⟩
    · cases e
  · rename_i i j b1 e1
    have := ha.len _ _ _ _ e1
    simp at this
  · cases e
theorem pi_rangeT {ag : As} (hg : Gl X "range") (hm : X.mg "range" = none) (ha : PAs fn X [e, e'] ag) (hs : starEach [e, e'] X.env = [(false, eval e X.env), (false, eval e' X.env)] := by rfl) (hs2 : starEach [e'] X.env = [(false, eval e' X.env)] := by rfl) :
    PIx fn X tg (.Call (.Name "range" p) [e, e'] [] pos) (iRange ag) := PI.imp (pi_range2 hg hm ha.pa hs hs2) fun σ H R ⟨H0, F0, bo, ρ, F, b, R', ds, b', e, q⟩ => by
  unfold iRange at e
  split at e
  · rename_i j b1 e1
    have := ha.len _ _ _ _ e1
    simp at this
  · rename_i i j b1 e1
    split at e
    · rename_i xs e2
      cases e
      refine ⟨H0, F0, bo, ρ, F, b, R', _, _, e1, fun vs F' H' g hb rv => ?_⟩
      have ev : vs = [.int i, .int j] := RpL.ints (is := [i, j]) rv
      obtain ⟨_, _, h3, hz⟩ := rangeD_get e2
      exact ⟨i, j, ev, h3, q _ F' H' g hb hz (yields_range e2)⟩
    · cases e
  · cases e
/-- a text, sign by sign -/
theorem pi_str' (pe : PEo fn X e f) : PIx fn X tg e (iStr f) := PI.imp (pi_str pe) fun σ H R ⟨H0, F0, bo, ρ, F, b, R', ds, b', e, q⟩ => by
  unfold iStr at e
  split at e
  · rename_i z b1 e1
    split at e
    · rename_i hz
      cases e
      refine ⟨H0, F0, bo, ρ, F, b, R', _, _, e1, fun v F' H' g hb rv => ⟨z, rv.str, q _ F' H' g hb (by simpa [Str.length] using hz) fun F2 H2 b2 k W => ?_⟩⟩
      refine ⟨fun i d e => ?_, ?_⟩
      · rw [List.getElem?_map] at e
        cases hc : z.cps.toList[i]? with
        | none => rw [hc] at e; cases e
        | some c =>
          rw [hc] at e; cases e
          have hlt : i < z.cps.size := by
            have := (List.getElem?_eq_some_iff.mp hc).1
            simpa using this
          refine ⟨hlt, fun x H3 ⟨e1, c', e2, e3⟩ => ?_⟩
          subst e1 e3
          have : c' = c := by
            rw [Array.getElem?_toList, e2] at hc
            cases hc; rfl
          subst this
          exact yield_same W (by simp [Rp])
      · show z.cps.size ≤ _
        simp
    · cases e
  · cases e
/-! #### enumerate, zip: new pairs -/
theorem pi_enumA {ta : TA} {tpos : Pos} {elts : List Expr} {kk : Nat} (hg : Gl X "enumerate") (hm : X.mg "enumerate" = none) (ha : PA X [e] ta) (hs : starEach [e] X.env = [(false, eval e X.env)] := by rfl) :
    PI X (.Tuple elts kk tpos) (.Call (.Name "enumerate" p) [e] [] pos) (fun σ H R => ta σ H fun vs H1 => ∃ a xs, vs = [.ref a] ∧ (SqL X.K H1 a xs ∧ R (Ite X.K a) H1 ∨ SqT X.K H1 a xs ∧ R (IteT X.K a) H1)) := by
  refine ⟨fun pins s σ H R I h => ?_⟩
  refine PyProof.Rows.Call_ (ld_blt I hg hm PyProof.Rows.boot_enumerate (PyProof.Rows.callWith_type1 (thn (ha.run pos pins s σ H _ I h) fun us s1 ⟨vs, H1, I1, r1, a, xs, ex, q⟩ => ?_) hs rfl))
  subst ex
  have fp : ∀ (h' : Heap) (I2 : Inv X pins σ H1 { s1 with heap := h' }), ∀ b ∈ [s1.heap.objs.size + 1, s1.heap.objs.size], FpOk X pins H1 b := fun h' I2 b hb => by
    have e' : b = s1.heap.objs.size + 1 ∨ b = s1.heap.objs.size := by simpa using hb
    have hle : s1.heap.objs.size ≤ b := by
      rcases e' with z | z
      · rw [z]; exact Nat.le_succ _
      · rw [z]; exact Nat.le_refl _
    exact I1.fpOk hle (I1.hok.fresh hle)
  cases r1 with
  | cons r rr =>
    cases rr
    cases r
    rcases q with ⟨hq, q⟩ | ⟨hq, q⟩
    · obtain ⟨its, rv, p', hz⟩ := I1.list hq
      refine call_enumerate_list p'.isList fun h' he hit hsz hk => wpAny_pyIter_enum he ?_
      have I2 : Inv X pins σ H1 { s1 with heap := h' } := I1.kept (t' := s1.toks) hk
      exact ⟨s1.heap.objs.size + 1, [s1.heap.objs.size + 1, s1.heap.objs.size], _, _, H1, rfl, I2, turn_enum a (s1.heap.objs.size + 1) s1.heap.objs.size, ⟨⟨.none, he⟩, hit, Nat.succ_ne_self _⟩, fp h' I2, q⟩
    · obtain ⟨its, rv, p', hz⟩ := I1.tuple hq
      have hp : s1.heap.IsTuple a its.toArray := p'
      have hlt : a < s1.heap.objs.size := by obtain ⟨o, ho, _⟩ := hp; exact Heap.lt_size ho
      refine call_enumerate_tup hp fun h' he hit hk => wpAny_pyIter_enum he ?_
      have I2 : Inv X pins σ H1 { s1 with heap := h' } := I1.kept (t' := s1.toks) hk
      exact ⟨s1.heap.objs.size + 1, [s1.heap.objs.size + 1, s1.heap.objs.size], _, _, H1, rfl, I2, turn_enumT a (s1.heap.objs.size + 1) s1.heap.objs.size (Nat.succ_ne_self _) (Nat.ne_of_lt (Nat.lt_succ_of_lt hlt)) (Nat.ne_of_lt hlt), ⟨⟨.none, he⟩, hit⟩, fp h' I2, q⟩
theorem enumD_get : ∀ {k : Nat} {ds : List D}, (enumD k ds).length = ds.length ∧ ∀ (i : Nat) d, (enumD k ds)[i]? = some d → ∃ x, ds[i]? = some x ∧ d = .tup [.int ((k + i : Nat) : Int), x]
  | k, [] => ⟨rfl, fun i d e => by simp [enumD] at e⟩
  | k, x :: ds => by
    obtain ⟨h1, h2⟩ := enumD_get (k := k + 1) (ds := ds)
    refine ⟨by simp [enumD, h1], fun i d e => ?_⟩
    cases i with
    | zero => simp [enumD] at e; exact ⟨x, rfl, by rw [← e]; rfl⟩
    | succ i =>
      obtain ⟨y, e1, e2⟩ := h2 i d (by simpa [enumD] using e)
      exact ⟨y, by simpa using e1, by rw [e2, show k + 1 + i = k + (i + 1) by omega]⟩
theorem new_pair {m : Pm} {bo : Bo} {F : Addr → Prop} {H : Hp} {b : Bx} {T : Addr} {d e : D} {x y : V} (W : Wo bo F H b) (hT : H T = none) (h1 : Rp m bo F H d x) (h2 : Rp m bo F H e y) :
    Grow bo F H F (upd H T (.tup [x, y])) ∧ BoxOk bo F (upd H T (.tup [x, y])) b ∧ Rp m bo F (upd H T (.tup [x, y])) (.tup [d, e]) (.ref T) := new_tup W hT (RpL.cons h1 (RpL.cons h2 RpL.nil)) (by show 2 ≤ sizeLine; decide)
theorem yields_enumL {m : Pm} {bo : Bo} {F : Addr → Prop} {H : Hp} {b : Bx} {a : Addr} {vs : List V} {ds : List D} (W : Wo bo F H b) (r : RpL m bo F H ds vs) (s : SqL m.K H a vs) :
    (∀ (i : Nat) d, (enumD 0 ds)[i]? = some d → (Ite m.K a).go i H ∧ ∀ x H2, (Ite m.K a).yld i H x H2 → Grow bo F H F H2 ∧ BoxOk bo F H2 b ∧ Rp m bo F H2 d x) ∧ (Ite m.K a).stop (enumD 0 ds).length H := by
  obtain ⟨k1, k2⟩ := enumD_get (k := 0) (ds := ds)
  refine ⟨fun i d e => ?_, vs, s, by rw [r.length, k1]; exact Nat.le_refl _⟩
  obtain ⟨y, e1, rfl⟩ := k2 i d e
  obtain ⟨v, hv, rv⟩ := r.get e1
  refine ⟨⟨vs, v, s, hv⟩, fun x H2 ⟨T, x', h1, h2, h3, h4⟩ => ?_⟩
  subst h1 h3
  have := h4 vs s
  rw [hv] at this; cases this
  exact new_pair W h2 (by simp [Rp]) rv
theorem yields_enumT {m : Pm} {bo : Bo} {F : Addr → Prop} {H : Hp} {b : Bx} {a : Addr} {vs : List V} {ds : List D} (W : Wo bo F H b) (r : RpL m bo F H ds vs) (s : SqT m.K H a vs) :
    (∀ (i : Nat) d, (enumD 0 ds)[i]? = some d → (IteT m.K a).go i H ∧ ∀ x H2, (IteT m.K a).yld i H x H2 → Grow bo F H F H2 ∧ BoxOk bo F H2 b ∧ Rp m bo F H2 d x) ∧ (IteT m.K a).stop (enumD 0 ds).length H := by
  obtain ⟨k1, k2⟩ := enumD_get (k := 0) (ds := ds)
  refine ⟨fun i d e => ?_, vs, s, by rw [r.length, k1]⟩
  obtain ⟨y, e1, rfl⟩ := k2 i d e
  obtain ⟨v, hv, rv⟩ := r.get e1
  refine ⟨⟨vs, v, s, hv⟩, fun x H2 ⟨T, x', h1, h2, h3, h4⟩ => ?_⟩
  subst h1 h3
  have := h4 vs s
  rw [hv] at this; cases this
  exact new_pair W h2 (by simp [Rp]) rv
theorem pi_enum' {tpos : Pos} {elts : List Expr} {kk : Nat} (hg : Gl X "enumerate") (hm : X.mg "enumerate" = none) (pe : PEx fn X e f) (hs : starEach [e] X.env = [(false, eval e X.env)] := by rfl) :
    PIx fn X (.Tuple elts kk tpos) (.Call (.Name "enumerate" p) [e] [] pos) (iEnum f) := PI.imp (pi_enumA hg hm (pa_cons pe pa_nil hs) hs) fun σ H R ⟨H0, F0, bo, ρ, F, b, R', ds, b', e, q⟩ => by
  unfold iEnum at e
  split at e
  · rename_i d b1 e1
    split at e
    · rename_i xs e2
      cases e
      refine ⟨H0, F0, bo, ρ, F, b, R', d, _, e1, fun v F' H' g hb rv => ?_⟩
      unfold itemsD at e2
      split at e2
      · cases e2
        simp only [Rp] at rv
        obtain ⟨a, vs, rfl, f1, s, z, r⟩ := rv
        exact ⟨a, vs, rfl, .inl ⟨SqL.of s, q _ F' H' g hb (by rw [(enumD_get (k := 0)).1, ← r.length]; exact z) fun F2 H2 b2 k W => yields_enumL W (r.fk k) (SqL.of ((k.at_ a f1).trans s))⟩⟩
      · cases e2
        simp only [Rp] at rv
        obtain ⟨a, vs, rfl, s, z, r⟩ := rv
        exact ⟨a, vs, rfl, .inr ⟨s, q _ F' H' g hb (by rw [(enumD_get (k := 0)).1, ← r.length]; exact z) fun F2 H2 b2 k W => yields_enumT W (r.fk k) (Sv.SqT.fk k s)⟩⟩
      · cases e2
    · cases e
  · cases e
theorem zipD_get : ∀ {ds es : List D}, (zipD ds es).length = min ds.length es.length ∧ ∀ (i : Nat) d, (zipD ds es)[i]? = some d → ∃ x y, ds[i]? = some x ∧ es[i]? = some y ∧ d = .tup [x, y]
  | [], es => by simp [zipD]
  | x :: ds, [] => by simp [zipD]
  | x :: ds, y :: es => by
    obtain ⟨h1, h2⟩ := zipD_get (ds := ds) (es := es)
    refine ⟨by simp [zipD, h1], fun i d e => ?_⟩
    cases i with
    | zero => simp [zipD] at e; exact ⟨x, y, rfl, rfl, e.symm⟩
    | succ i => simpa using h2 i d (by simpa [zipD] using e)
theorem yields_zipL {m : Pm} {bo : Bo} {F : Addr → Prop} {H : Hp} {b : Bx} {a a' : Addr} {vs us : List V} {ds es : List D} (W : Wo bo F H b) (r : RpL m bo F H ds vs) (s : SqL m.K H a vs) (r' : RpL m bo F H es us) (s' : SqL m.K H a' us) :
    (∀ (i : Nat) d, (zipD ds es)[i]? = some d → (Itz m.K a a').go i H ∧ ∀ x H2, (Itz m.K a a').yld i H x H2 → Grow bo F H F H2 ∧ BoxOk bo F H2 b ∧ Rp m bo F H2 d x) ∧ (Itz m.K a a').stop (zipD ds es).length H := by
  obtain ⟨k1, k2⟩ := zipD_get (ds := ds) (es := es)
  refine ⟨fun i d e => ?_, vs, us, s, s', by rw [r.length, r'.length, k1]; omega⟩
  obtain ⟨y, z, e1, e2, rfl⟩ := k2 i d e
  obtain ⟨v, hv, rv⟩ := r.get e1
  obtain ⟨u, hu, ru⟩ := r'.get e2
  refine ⟨⟨vs, us, v, u, s, s', hv, hu⟩, fun x H2 ⟨T, x', y', h1, h2, h3, h4, h5⟩ => ?_⟩
  subst h1 h3
  have q1 := h4 vs s
  have q2 := h5 us s'
  rw [hv] at q1; cases q1
  rw [hu] at q2; cases q2
  exact new_pair W h2 rv ru
theorem yields_zipT {m : Pm} {bo : Bo} {F : Addr → Prop} {H : Hp} {b : Bx} {a a' : Addr} {vs us : List V} {ds es : List D} (W : Wo bo F H b) (r : RpL m bo F H ds vs) (s : SqT m.K H a vs) (r' : RpL m bo F H es us) (s' : SqT m.K H a' us) :
    (∀ (i : Nat) d, (zipD ds es)[i]? = some d → (RZ.ItzT m.K a a').go i H ∧ ∀ x H2, (RZ.ItzT m.K a a').yld i H x H2 → Grow bo F H F H2 ∧ BoxOk bo F H2 b ∧ Rp m bo F H2 d x) ∧ (RZ.ItzT m.K a a').stop (zipD ds es).length H := by
  obtain ⟨k1, k2⟩ := zipD_get (ds := ds) (es := es)
  refine ⟨fun i d e => ?_, vs, us, s, s', by rw [r.length, r'.length, k1]; omega⟩
  obtain ⟨y, z, e1, e2, rfl⟩ := k2 i d e
  obtain ⟨v, hv, rv⟩ := r.get e1
  obtain ⟨u, hu, ru⟩ := r'.get e2
  refine ⟨⟨vs, us, v, u, s, s', hv, hu⟩, fun x H2 ⟨T, x', y', h1, h2, h3, h4, h5⟩ => ?_⟩
  subst h1 h3
  have q1 := h4 vs s
  have q2 := h5 us s'
  rw [hv] at q1; cases q1
  rw [hu] at q2; cases q2
  exact new_pair W h2 rv ru
theorem pi_zip' {tpos : Pos} {elts : List Expr} {kk : Nat} (hg : Gl X "zip") (hm : X.mg "zip" = none) (pe : PEx fn X e f) (pe' : PEx fn X e' g) (hs : starEach [e, e'] X.env = (false, eval e X.env) :: starEach [e'] X.env := by rfl) (hs2 : starEach [e'] X.env = [(false, eval e' X.env)] := by rfl) (hpl : (backTo pos (starEach [e'] X.env)).any (·.1) = false := by rfl) :
    PIx fn X (.Tuple elts kk tpos) (.Call (.Name "zip" p) [e, e'] [] pos) (iZip f g) := PI.imp (RZ.pi_zipA hg hm (pa_cons pe (pa_cons pe' pa_nil hs2) hs) hs hpl) fun σ H R ⟨H0, F0, bo, ρ, F, b, R', ds, b', e, q⟩ => by
  unfold iZip at e
  split at e
  · rename_i d b1 e1
    split at e
    · rename_i d2 b2 e2
      split at e
      · rename_i zs e3
        cases e
        refine ⟨H0, F0, bo, ρ, F, b, R', d, b1, e1, fun v F1 H1 g1 hb1 rv => ?_⟩
        have R1 := R'.grow g1 hb1
        refine ⟨H0, F0, bo, ρ, F1, b1, R1, d2, _, e2, fun u F2 H2 g2 hb2 ru => ?_⟩
        have rv := rv.fk (R1.fkg g2)
        unfold zipDD at e3
        split at e3
        · cases e3
          simp only [Rp] at rv ru
          obtain ⟨a, vs, rfl, f1, s, z, r⟩ := rv
          obtain ⟨a', us, rfl, f1', s', z', r'⟩ := ru
          exact ⟨a, a', vs, us, rfl, .inl ⟨SqL.of s, SqL.of s', q _ F2 H2 (g1.trans g2) hb2 (by rw [zipD_get.1, ← r.length]; exact Nat.le_trans (Nat.min_le_left _ _) z) fun F3 H3 b3 k W => yields_zipL W (r.fk k) (SqL.of ((k.at_ a f1).trans s)) (r'.fk k) (SqL.of ((k.at_ a' f1').trans s'))⟩⟩
        · cases e3
          simp only [Rp] at rv ru
          obtain ⟨a, vs, rfl, s, z, r⟩ := rv
          obtain ⟨a', us, rfl, s', z', r'⟩ := ru
          exact ⟨a, a', vs, us, rfl, .inr ⟨s, s', q _ F2 H2 (g1.trans g2) hb2 (by rw [zipD_get.1, ← r.length]; exact Nat.le_trans (Nat.min_le_left _ _) z) fun F3 H3 b3 k W => yields_zipT W (r.fk k) (Sv.SqT.fk k s) (r'.fk k) (Sv.SqT.fk k s')⟩⟩
        · cases e3
      · cases e
    · cases e
  · cases e
end
end Sv

set_option maxHeartbeats 4000000
/-! Sv8: targets, comprehensions. -/
namespace Sv
open PySem L2

/-! ### slots -/
section
variable {m : Pm} {H0 : Hp} {F0 : Addr → Prop} {bo : Bo} {σ : St} {ρ : Rho} {F F' : Addr → Prop} {H H' : Hp} {b b' : Bx}
theorem Rel.set_frz (R : Rel m H0 F0 bo σ ρ F H b) {i : Nat} {d : D} {v : V} (h : Rp m bo F H d v) : Rel m H0 F0 bo (σ.set i (some v)) (ρ.set i (Sl.frz d)) F H b where
  core := R.core
  len := by simp [R.len]
  frz := fun j e hj => by
    by_cases hij : i = j
    · subst hij
      have hl : i < ρ.length := by
        have := (List.getElem?_eq_some_iff.mp hj).1
        simpa using this
      rw [List.getElem?_set_self hl] at hj
      cases hj
      exact ⟨v, by rw [List.getElem?_set_self (by rw [R.len]; exact hl)], h⟩
    · rw [List.getElem?_set_ne hij] at hj
      obtain ⟨u, h1, h2⟩ := R.frz j e hj
      exact ⟨u, by rw [List.getElem?_set_ne hij]; exact h1, h2⟩
  own := fun j e hj => by
    by_cases hij : i = j
    · subst hij
      have hl : i < ρ.length := by
        have := (List.getElem?_eq_some_iff.mp hj).1
        simpa using this
      rw [List.getElem?_set_self hl] at hj
      cases hj
    · rw [List.getElem?_set_ne hij] at hj
      obtain ⟨u, h1, h2⟩ := R.own j e hj
      exact ⟨u, by rw [List.getElem?_set_ne hij]; exact h1, h2⟩
  dis := fun j k dj dk a hjk hj hk h1 h2 => by
    have nj : i ≠ j := fun e => by
      subst e
      have hl : i < ρ.length := by
        have := (List.getElem?_eq_some_iff.mp hj).1
        simpa using this
      rw [List.getElem?_set_self hl] at hj
      cases hj
    have nk : i ≠ k := fun e => by
      subst e
      have hl : i < ρ.length := by
        have := (List.getElem?_eq_some_iff.mp hk).1
        simpa using this
      rw [List.getElem?_set_self hl] at hk
      cases hk
    rw [List.getElem?_set_ne nj] at hj h1
    rw [List.getElem?_set_ne nk] at hk h2
    exact R.dis j k dj dk a hjk hj hk h1 h2
theorem Rel.set_emp (R : Rel m H0 F0 bo σ ρ F H b) {i : Nat} {v : Option V} : Rel m H0 F0 bo (σ.set i v) (ρ.set i Sl.emp) F H b where
  core := R.core
  len := by simp [R.len]
  frz := fun j e hj => by
    by_cases hij : i = j
    · subst hij
      have hl : i < ρ.length := by
        have := (List.getElem?_eq_some_iff.mp hj).1
        simpa using this
      rw [List.getElem?_set_self hl] at hj
      cases hj
    · rw [List.getElem?_set_ne hij] at hj
      obtain ⟨u, h1, h2⟩ := R.frz j e hj
      exact ⟨u, by rw [List.getElem?_set_ne hij]; exact h1, h2⟩
  own := fun j e hj => by
    by_cases hij : i = j
    · subst hij
      have hl : i < ρ.length := by
        have := (List.getElem?_eq_some_iff.mp hj).1
        simpa using this
      rw [List.getElem?_set_self hl] at hj
      cases hj
    · rw [List.getElem?_set_ne hij] at hj
      obtain ⟨u, h1, h2⟩ := R.own j e hj
      exact ⟨u, by rw [List.getElem?_set_ne hij]; exact h1, h2⟩
  dis := fun j k dj dk a hjk hj hk h1 h2 => by
    have nj : i ≠ j := fun e => by
      subst e
      have hl : i < ρ.length := by
        have := (List.getElem?_eq_some_iff.mp hj).1
        simpa using this
      rw [List.getElem?_set_self hl] at hj
      cases hj
    have nk : i ≠ k := fun e => by
      subst e
      have hl : i < ρ.length := by
        have := (List.getElem?_eq_some_iff.mp hk).1
        simpa using this
      rw [List.getElem?_set_self hl] at hk
      cases hk
    rw [List.getElem?_set_ne nj] at hj h1
    rw [List.getElem?_set_ne nk] at hk h2
    exact R.dis j k dj dk a hjk hj hk h1 h2
/-- a slot of one's own, its place new or that of no other -/
theorem Rel.set_own (R : Rel m H0 F0 bo σ ρ F H b) {i : Nat} {d : D} {a : Addr} (nf : ¬ F a) (nb : ¬ inBox bo a) (h0 : H0 a = none) (h : Own m bo F H d a)
    (hd : ∀ j dj, j ≠ i → ρ[j]? = some (Sl.own dj) → σ[j]? = some (some (V.ref a)) → False) : Rel m H0 F0 bo (σ.set i (some (V.ref a))) (ρ.set i (Sl.own d)) F H b where
  core := R.core
  len := by simp [R.len]
  frz := fun j e hj => by
    by_cases hij : i = j
    · subst hij
      have hl : i < ρ.length := by
        have := (List.getElem?_eq_some_iff.mp hj).1
        simpa using this
      rw [List.getElem?_set_self hl] at hj
      cases hj
    · rw [List.getElem?_set_ne hij] at hj
      obtain ⟨u, h1, h2⟩ := R.frz j e hj
      exact ⟨u, by rw [List.getElem?_set_ne hij]; exact h1, h2⟩
  own := fun j e hj => by
    by_cases hij : i = j
    · subst hij
      have hl : i < ρ.length := by
        have := (List.getElem?_eq_some_iff.mp hj).1
        simpa using this
      rw [List.getElem?_set_self hl] at hj
      cases hj
      exact ⟨a, by rw [List.getElem?_set_self (by rw [R.len]; exact hl)], nf, nb, h0, h⟩
    · rw [List.getElem?_set_ne hij] at hj
      obtain ⟨u, h1, h2⟩ := R.own j e hj
      exact ⟨u, by rw [List.getElem?_set_ne hij]; exact h1, h2⟩
  dis := fun j k dj dk c hjk hj hk h1 h2 => by
    by_cases ej : i = j
    · subst ej
      have hl : i < ρ.length := by
        have := (List.getElem?_eq_some_iff.mp hj).1
        simpa using this
      rw [List.getElem?_set_self (by rw [R.len]; exact hl)] at h1
      cases h1
      rw [List.getElem?_set_ne hjk] at hk h2
      exact hd k dk (Ne.symm hjk) hk h2
    · by_cases ek : i = k
      · subst ek
        have hl : i < ρ.length := by
          have := (List.getElem?_eq_some_iff.mp hk).1
          simpa using this
        rw [List.getElem?_set_self (by rw [R.len]; exact hl)] at h2
        cases h2
        rw [List.getElem?_set_ne ej] at hj h1
        exact hd j dj hjk hj h1
      · rw [List.getElem?_set_ne ej] at hj h1
        rw [List.getElem?_set_ne ek] at hk h2
        exact R.dis j k dj dk c hjk hj hk h1 h2
theorem Rel.wipe (R : Rel m H0 F0 bo σ ρ F H b) : ∀ vs : List Nat, Rel m H0 F0 bo (L2.wipe σ vs) (wipeR ρ vs) F H b
  | [] => R
  | v :: vs => (Rel.wipe R vs).set_emp
end

/-! ### targets -/
/-- the slots a target stores to are of sl -/
def wipeEq (sl : List Nat) (σ σ' : St) : Prop := ∀ vs : List Nat, (∀ i ∈ sl, i ∈ vs) → L2.wipe σ' vs = L2.wipe σ vs
theorem wipeEq.refl {sl : List Nat} {σ : St} : wipeEq sl σ σ := fun _ _ => rfl
theorem wipe_set {σ : St} {i : Nat} {v : Option V} : ∀ {vs : List Nat}, i ∈ vs → L2.wipe (σ.set i v) vs = L2.wipe σ vs
  | w :: vs, h => by
    show (L2.wipe (σ.set i v) vs).set w none = (L2.wipe σ vs).set w none
    by_cases hi : i ∈ vs
    · rw [wipe_set hi]
    · have hw : i = w := by
        rcases List.mem_cons.mp h with h | h
        · exact h
        · exact absurd h hi
      subst hw
      apply List.ext_getElem?
      intro j
      by_cases hj : i = j
      · subst hj
        rw [List.getElem?_set, List.getElem?_set]
        simp [wipe_length]
      · rw [List.getElem?_set_ne hj, List.getElem?_set_ne hj]
        by_cases hjv : j ∈ vs
        · have p : ∀ σ : St, j < σ.length → (L2.wipe σ vs)[j]? = some none := fun σ hl => by
            cases q : (L2.wipe σ vs)[j]? with
            | none =>
              rw [List.getElem?_eq_none_iff, wipe_length] at q
              omega
            | some o =>
              cases o with
              | none => rfl
              | some x => exact absurd hjv (wipe_some q).2
          by_cases hl : j < σ.length
          · rw [p _ (by simpa using hl), p _ hl]
          · rw [List.getElem?_eq_none (by rw [wipe_length]; simp; omega), List.getElem?_eq_none (by rw [wipe_length]; omega)]
        · rw [wipe_out hjv, wipe_out hjv, List.getElem?_set_ne hj]
theorem wipe_wipe {σ : St} {us : List Nat} : ∀ {vs : List Nat}, (∀ i ∈ vs, i ∈ us) → L2.wipe (L2.wipe σ vs) us = L2.wipe σ us
  | [], _ => rfl
  | v :: vs, h => by
    show L2.wipe ((L2.wipe σ vs).set v none) us = _
    rw [wipe_set (h v (by simp)), wipe_wipe fun i hi => h i (List.mem_cons_of_mem _ hi)]
def gEx (m : Pm) (sl : List Nat) (g : Tg) : TG := fun v σ H Q => ∃ H0 F0 bo ρ F b, Rel m H0 F0 bo σ ρ F H b ∧ ∃ d ρ', Rp m bo F H d v ∧ g d ρ = some ρ' ∧
  ∀ σ', Rel m H0 F0 bo σ' ρ' F H b → wipeEq sl σ σ' → Q σ' H
def gExs (m : Pm) (sl : List Nat) (g : List D → Rho → Option Rho) : TGs := fun vs σ H Q => ∃ H0 F0 bo ρ F b, Rel m H0 F0 bo σ ρ F H b ∧ ∃ ds ρ', RpL m bo F H ds vs ∧ g ds ρ = some ρ' ∧
  ∀ σ', Rel m H0 F0 bo σ' ρ' F H b → wipeEq sl σ σ' → Q σ' H
abbrev PGx (fn : Nat → Option V) (X : Cx) (tg : Expr) (sl : List Nat) (g : Tg) : Prop := PG X tg (gEx (pm X fn) sl g)
structure PGxs (fn : Nat → Option V) (X : Cx) (ts : List Expr) (sl : List Nat) (g : List D → Rho → Option Rho) : Prop where
  pg : PGs X ts (gExs (pm X fn) sl g)
  len : ∀ ds ρ ρ', g ds ρ = some ρ' → ds.length = ts.length
theorem PG.imp {X : Cx} {e : Expr} {t t' : TG} (h : PG X e t) (i : ∀ v σ H Q, t' v σ H Q → t v σ H Q) : PG X e t' := ⟨fun pins s σ H v u Q I r q => h.run pins s σ H v u Q I r (i v σ H Q q)⟩
theorem PGs.imp {X : Cx} {e : List Expr} {t t' : TGs} (h : PGs X e t) (i : ∀ v σ H Q, t' v σ H Q → t v σ H Q) : PGs X e t' := ⟨fun pins s σ H v u Q I r q => h.run pins s σ H v u Q I r (i v σ H Q q)⟩
section
variable {fn : Nat → Option V} {X : Cx} {pos : Pos}
theorem pgx_nm {i : Nat} {x : Str} (hN : X.N.Nodup) (hi : X.N[i]? = some x) (hx : Loc X.env.scope x) (hf : X.fn x = true ∨ X.env.scope.names.lookup x = some .local := by first | exact .inl rfl | exact .inr rfl | assumption) : PGx fn X (.Name x pos) [i] (gNm i) :=
  PG.imp (pg_name hN hi hx hf) fun v σ H Q ⟨H0, F0, bo, ρ, F, b, R, d, ρ', r, e, q⟩ => by
    cases e
    exact q _ (R.set_frz r) fun vs h => wipe_set (h i (by simp))
theorem gNone_len : ∀ ds ρ ρ', gNone ds ρ = some ρ' → ds.length = 0 := fun ds ρ ρ' e => by
  unfold gNone at e
  split at e
  · rfl
  · cases e
theorem gMore_len {g : Tg} {h : List D → Rho → Option Rho} {n : Nat} (hl : ∀ ds ρ ρ', h ds ρ = some ρ' → ds.length = n) : ∀ ds ρ ρ', gMore g h ds ρ = some ρ' → ds.length = n + 1 := fun ds ρ ρ' e => by
  unfold gMore at e
  split at e
  · split at e
    · have := hl _ _ _ e
      simp [this]
    · cases e
  · cases e
theorem pgx_nil : PGxs fn X [] [] gNone := by
  refine ⟨PGs.imp pgs_nil fun v σ H Q ⟨H0, F0, bo, ρ, F, b, R, ds, ρ', r, e, q⟩ => ?_, gNone_len⟩
  unfold gNone at e
  split at e
  · cases e
    simp only [RpL] at r
    exact ⟨r, q _ R wipeEq.refl⟩
  · cases e
theorem pgx_cons {t : Expr} {ts : List Expr} {sl sl' : List Nat} {g : Tg} {h : List D → Rho → Option Rho} (h1 : PGx fn X t sl g) (h2 : PGxs fn X ts sl' h)
    (hs : (assignEach (t :: ts) X.env).map (·.2) = assign t X.env :: (assignEach ts X.env).map (·.2) := by rfl) : PGxs fn X (t :: ts) (sl ++ sl') (gMore g h) := by
  refine ⟨PGs.imp (pgs_cons h1 h2.pg hs) fun v σ H Q ⟨H0, F0, bo, ρ, F, b, R, ds, ρ', r, e, q⟩ => ?_, gMore_len h2.len⟩
  unfold gMore at e
  split at e
  · rename_i d ds'
    split at e
    · rename_i ρ1 e1
      simp only [RpL] at r
      obtain ⟨v1, vr, rfl, r1, r2⟩ := r
      refine ⟨v1, vr, rfl, H0, F0, bo, ρ, F, b, R, d, ρ1, r1, e1, fun σ1 R1 w1 => ?_⟩
      exact ⟨H0, F0, bo, ρ1, F, b, R1, ds', ρ', r2, e, fun σ2 R2 w2 => q σ2 R2 fun vs hv => (w2 vs fun i hi => hv i (List.mem_append_right _ hi)).trans (w1 vs fun i hi => hv i (List.mem_append_left _ hi))⟩
    · cases e
  · cases e
theorem pgx_tup {ts : List Expr} {k : Nat} {sl : List Nat} {h : List D → Rho → Option Rho} (hc : X.calm = true) (p : PGxs fn X ts sl h) (hn : (assignEach ts X.env).length = ts.length := by rfl) (hst : (assignEach ts X.env).findIdx? (·.1) = none := by rfl) :
    PGx fn X (.Tuple ts k pos) sl (gTp h) := PG.imp (pg_tup hc p.pg hn hst) fun v σ H Q ⟨H0, F0, bo, ρ, F, b, R, d, ρ', r, e, q⟩ => by
  unfold gTp at e
  split at e
  · rename_i ds
    simp only [Rp] at r
    obtain ⟨a, vs, rfl, s, z, r⟩ := r
    exact ⟨a, vs, rfl, s, by rw [r.length, p.len _ _ _ e], H0, F0, bo, ρ, F, b, R, ds, ρ', r, e, q⟩
  · cases e

/-! ### list comprehensions -/
abbrev PTsx (fn : Nat → Option V) (X : Cx) (ifs : List Expr) (t : Tx) : Prop := PTs X ifs (tTx (pm X fn) t)
theorem PTs.imp {X : Cx} {e : List Expr} {t t' : TT} (h : PTs X e t) (i : ∀ σ H Q, t' σ H Q → t σ H Q) : PTs X e t' := ⟨fun pins s σ H Q I q => h.run pins s σ H Q I (i σ H Q q)⟩
theorem ptx_nil : PTsx fn X [] tYes' := PTs.imp pts_nil fun σ H Q ⟨H0, F0, bo, ρ, F, b, R, d, b', e, q⟩ => by
  cases e
  exact q F H (Grow.refl R.core.dom) R.core.box
theorem ptx_one {c : Expr} {t : Tx} (h : PTx fn X c t) : PTsx fn X [c] t := pts_one h
theorem lcGo_len {g : Tg} {t : Tx} {f : Ex} {ρ : Rho} : ∀ {ds : List D} {b : Bx} {rs : List D} {b' : Bx}, lcGo g t f ρ ds b = some (rs, b') → rs.length ≤ ds.length
  | [], b, rs, b', e => by cases e; simp
  | d :: ds, b, rs, b', e => by
    unfold lcGo at e
    split at e
    · split at e
      · split at e
        · split at e
          · rename_i e3
            cases e
            have := lcGo_len e3
            simp; omega
          · cases e
        · cases e
      · have := lcGo_len e
        simp; omega
      · cases e
    · cases e
theorem lc_o {m : Pm} {it : It} {g : Tg} {t : Tx} {f : Ex} {sl vs : List Nat} (hsl : ∀ i ∈ sl, i ∈ vs) {σ : St} {H : Hp} {Q : VK} (h : tEn m (eLc it g t f vs) σ H Q) : tLc (iEo m it) (gEx m sl g) (tTx m t) (tEx m f) vs σ H Q := by
  obtain ⟨H0, F0, bo, ρ, F, b, R, r, b', e, q⟩ := h
  unfold eLc at e
  split at e
  · rename_i ds b1 e1
    split at e
    · rename_i rs b2 e2
      cases e
      refine ⟨H0, F0, bo, ρ, F, b, R, ds, b1, e1, fun J F1 H1 g1 hb1 hz y D hD => ?_⟩
      have R1 := R.grow g1 hb1
      have W1 : Wo bo F1 H1 b1 := R1.wo
      have nD : ¬ inBox bo D := inBox_new W1 hD
      refine ⟨fun i mm H2 => mm = ds.length - i ∧ i ≤ ds.length ∧ ∃ F2 bb acc accD rs2, Grow bo F1 H1 F2 H2 ∧ BoxOk bo F2 H2 bb ∧ H2 D = some (.lst acc) ∧ ¬ F2 D ∧ RpL m bo F2 H2 accD acc ∧ acc.length ≤ i ∧ lcGo g t f (wipeR ρ vs) (ds.drop i) bb = some (rs2, b') ∧ accD ++ rs2 = rs,
        ⟨_, rfl, Nat.zero_le _, F1, b1, [], [], rs, Grow.alloc W1 hD, BoxOk.alloc W1 hD fun _ h => .inl h, upd_same, fun z => W1.dom D z hD, RpL.nil, Nat.zero_le _, e2, rfl⟩, ?_⟩
      rintro i mm H2 ⟨rfl, hi, F2, bb, acc, accD, rs2, g2, hb2, hD2, nF, ra, hal, eg, er⟩
      obtain ⟨yy, yst⟩ := y F2 H2 bb g2 ⟨hb2, g2.dom⟩
      by_cases hlt : i < ds.length
      · refine .inr ?_
        obtain ⟨ygo, yyl⟩ := yy i ds[i] (List.getElem?_eq_getElem hlt)
        rw [List.drop_eq_getElem_cons hlt] at eg
        refine ⟨ygo, fun H3 => ∃ F2 bb acc accD rs2, Grow bo F1 H1 F2 H3 ∧ BoxOk bo F2 H3 bb ∧ H3 D = some (.lst acc) ∧ ¬ F2 D ∧ RpL m bo F2 H3 accD acc ∧ acc.length ≤ i + 1 ∧ lcGo g t f (wipeR ρ vs) (ds.drop (i + 1)) bb = some (rs2, b') ∧ accD ++ rs2 = rs, fun H' hh => ⟨_, by omega, rfl, hlt, hh⟩, fun x H3 hy => ?_⟩
        obtain ⟨g3, hb3, rx⟩ := yyl x H3 hy
        have W2 : Wo bo F2 H2 bb := ⟨hb2, g2.dom⟩
        have R3 := ((R1.grow g2 hb2).grow g3 hb3).wipe vs
        have hD3 : H3 D = some (.lst acc) := g3.keep D _ hD2 nD
        have ra3 := ra.fk (W2.fk g3)
        unfold lcGo at eg
        split at eg
        · rename_i ρ1 e3
          refine ⟨H0, F0, bo, _, F2, bb, R3, _, ρ1, rx, e3, fun σ4 R4 w4 => ⟨w4 vs hsl |>.trans ?_, ?_⟩⟩
          · exact wipe_wipe fun i h => h
          split at eg
          · rename_i b3 e4
            refine ⟨H0, F0, bo, ρ1, F2, bb, R4, true, b3, e4, fun F5 H5 g5 hb5 => iteT ?_⟩
            split at eg
            · rename_i z b4 e5
              split at eg
              · rename_i zs b5 e6
                cases eg
                refine ⟨H0, F0, bo, ρ1, F5, b3, R4.grow g5 hb5, z, b4, e5, fun v F6 H6 g6 hb6 rv => ?_⟩
                have g36 := (g3.trans g5).trans g6
                have W3 : Wo bo F2 H3 bb := ⟨hb3, g3.dom⟩
                have W5 : Wo bo F5 H5 b3 := ⟨hb5, g5.dom⟩
                have hD6 : H6 D = some (.lst acc) := g36.keep D _ hD2 nD
                have nF6 : ¬ F6 D := fun hf => by
                  rcases g36.new D hf with k | k
                  · exact nF k
                  · rw [hD2] at k; cases k
                have kk : FK F6 H6 F6 (upd H6 D (.lst (acc ++ [v]))) := by
                  refine ⟨fun _ h => h, fun c hc => upd_ne fun e => nF6 (e ▸ hc), fun c o ho hm => ?_⟩
                  by_cases hcD : c = D
                  · subst hcD
                    rw [hD6] at ho; cases ho
                    exact absurd trivial hm
                  · rw [upd_ne hcD]; exact ho
                have g16 := g2.trans g36
                have ra6 := ra.fk (W2.fk g36)
                refine ⟨acc, hD6, by omega, F6, b4, acc ++ [v], accD ++ [z], zs, ⟨fun c o ho hn => ?_, fun c ho => ?_, g16.sub, g16.new, fun c hc ho => ?_⟩, ?_, upd_same, nF6, RpL.append (ra6.fk kk) (RpL.cons (rv.fk kk) RpL.nil), by simp; omega, e6, by simpa using er⟩
                · by_cases hcD : c = D
                  · subst hcD; rw [hD] at ho; cases ho
                  · rw [upd_ne hcD]; exact g16.keep c o ho hn
                · by_cases hcD : c = D
                  · subst hcD; exact hD
                  · rw [upd_ne hcD] at ho; exact g16.free c ho
                · by_cases hcD : c = D
                  · subst hcD; rw [upd_same] at ho; cases ho
                  · rw [upd_ne hcD] at ho; exact g16.dom c hc ho
                · cases bo with
                  | none => trivial
                  | some pq =>
                    obtain ⟨p, q'⟩ := pq
                    obtain ⟨a1, a2, a3, a4, a5⟩ := hb6
                    exact ⟨a1, a2, a3, by rw [upd_ne fun e => nD (.inl e.symm)]; exact a4, by rw [upd_ne fun e => nD (.inr e.symm)]; exact a5⟩
              · cases eg
            · cases eg
          · rename_i b3 e4
            refine ⟨H0, F0, bo, ρ1, F2, bb, R4, false, b3, e4, fun F5 H5 g5 hb5 => iteF ?_⟩
            have g35 := g3.trans g5
            have nF5 : ¬ F5 D := fun hf => by
              rcases g35.new D hf with k | k
              · exact nF k
              · rw [hD2] at k; cases k
            exact ⟨F5, b3, acc, accD, rs2, g2.trans g35, hb5, g35.keep D _ hD2 nD, nF5, ra.fk (W2.fk g35), by omega, eg, er⟩
          · cases eg
        · cases eg
      · have ei : i = ds.length := by omega
        subst ei
        rw [List.drop_length] at eg
        cases eg
        refine .inl ⟨yst, ?_⟩
        rw [List.append_nil] at er
        subst er
        have : accD.length ≤ sizeLine := by rw [← ra.length]; omega
        exact q D F2 H2 (g1.trans g2) hb2 (g1.free D hD) nF ⟨acc, hD2, by omega, ra⟩
    · cases e
  · cases e
theorem pn_lc {elt tg iter : Expr} {ifs : List Expr} {scope : Scope} {own : List (Str × Nat)} {it : It} {g : Tg} {t : Tx} {f : Ex} {sl : List Nat} (hc : X.calm = true) (hN : X.N.Nodup) (hi : PIo fn X tg iter it) (ok : BlkOk X.N X.env.scope scope own)
    (hg : ∀ (s : Shared) (H : Hp) (C : Addr) (cl : List (Str × Addr)) (fp : List Addr), PGx fn (X.blk s H scope (compEnvC scope cl C X.env) fp) tg sl g)
    (ht : ∀ (s : Shared) (H : Hp) (C : Addr) (cl : List (Str × Addr)) (fp : List Addr), PTsx fn (X.blk s H scope (compEnvC scope cl C X.env) fp) ifs t)
    (he : ∀ (s : Shared) (H : Hp) (C : Addr) (cl : List (Str × Addr)) (fp : List Addr), PEx fn (X.blk s H scope (compEnvC scope cl C X.env) fp) elt f)
    (hsl : ∀ i ∈ sl, i ∈ own.map (·.2) := by decide) (hs : ∀ x, foldedSetIterable iter X.env x = pure x := by intro _; rfl) :
    PEn fn X (.ListComp elt [⟨tg, iter, ifs, 0⟩] scope pos) (eLc it g t f (own.map (·.2))) :=
  PE.imp (pe_lc hc hN hi ok hg ht he hs) fun _ _ _ h => lc_o hsl h
end
end Sv

set_option maxHeartbeats 4000000
/-! Sv9: statements. -/
namespace Sv
open PySem L2

/-- what is reached at an end -/
def PostS (m : Pm) (H0 : Hp) (F0 : Addr → Prop) (bo : Bo) (F : Addr → Prop) (H : Hp) (D : Ends) : Fl → Rho → Bx → Prop
  | .nx, ρ, b => ∀ σ' F' H', Rel m H0 F0 bo σ' ρ F' H' b → FK F H F' H' → D.nx σ' H'
  | .bk, ρ, b => ∀ σ' F' H', Rel m H0 F0 bo σ' ρ F' H' b → FK F H F' H' → D.bk σ' H'
  | .ct, ρ, b => ∀ σ' F' H', Rel m H0 F0 bo σ' ρ F' H' b → FK F H F' H' → D.ct σ' H'
  | .rt d, _, b => ∀ v F' H', Core H0 F0 bo F' H' b → Rp m bo F' H' d v → D.rt v H'
theorem PostS.fk {m : Pm} {H0 : Hp} {F0 : Addr → Prop} {bo : Bo} {F F1 : Addr → Prop} {H H1 : Hp} {D : Ends} (k : FK F H F1 H1) : ∀ {fl : Fl} {ρ : Rho} {b : Bx}, PostS m H0 F0 bo F H D fl ρ b → PostS m H0 F0 bo F1 H1 D fl ρ b
  | .nx, _, _, h => fun σ' F' H' R k' => h σ' F' H' R (k.trans k')
  | .bk, _, _, h => fun σ' F' H' R k' => h σ' F' H' R (k.trans k')
  | .ct, _, _, h => fun σ' F' H' R k' => h σ' F' H' R (k.trans k')
  | .rt _, _, _, h => h
def tSs (m : Pm) (s : SS) : TS := fun D σ H => ∃ H0 F0 bo ρ F b, Rel m H0 F0 bo σ ρ F H b ∧ ∃ fl ρ' b', s ρ b = some (fl, ρ', b') ∧ PostS m H0 F0 bo F H D fl ρ' b'
abbrev PSx (fn : Nat → Option V) (X : Cx) (st : Stmt) (s : SS) : Prop := PS X st (tSs (pm X fn) s)
abbrev PSsx (fn : Nat → Option V) (X : Cx) (st : List Stmt) (s : SS) : Prop := PSs X st (tSs (pm X fn) s)
theorem PS.imp {X : Cx} {e : Stmt} {t t' : TS} (h : PS X e t) (i : ∀ D σ H, t' D σ H → t D σ H) : PS X e t' := ⟨fun pins s σ H D I q => h.run pins s σ H D I (i D σ H q)⟩
theorem PSs.imp {X : Cx} {e : List Stmt} {t t' : TS} (h : PSs X e t) (i : ∀ D σ H, t' D σ H → t D σ H) : PSs X e t' := ⟨fun pins s σ H D I q => h.run pins s σ H D I (i D σ H q)⟩

section
variable {m : Pm} {D : Ends} {σ : St} {H : Hp} {Q : VK}
theorem en_of_ex {f : Ex} (h : tEx m f σ H Q) : tEn m f σ H Q := by
  obtain ⟨H0, F0, bo, ρ, F, b, R, d, b', e, q⟩ := h
  refine ⟨H0, F0, bo, ρ, F, b, R, d, b', e, fun a F' H' g hb ha nf ow => ?_⟩
  have W' : Wo bo F' H' b' := ⟨hb, g.dom⟩
  have nb : ¬ inBox bo a := inBox_new R.wo ha
  obtain ⟨k, hb', dm, r⟩ := freeze W' nb ow
  exact q _ (fun c => F' c ∨ c = a) H' ⟨g.keep, g.free, fun c h => .inl (g.sub c h), fun c h => h.elim (g.new c) fun e => .inr (by rw [e]; exact ha), dm⟩ hb' r
theorem seq_o {s t : SS} (h : tSs m (sSeq s t) D σ H) : tSeq (tSs m s) (tSs m t) D σ H := by
  obtain ⟨H0, F0, bo, ρ, F, b, R, fl, ρ', b', e, q⟩ := h
  unfold sSeq at e
  split at e
  · rename_i ρ1 b1 e1
    exact ⟨H0, F0, bo, ρ, F, b, R, .nx, ρ1, b1, e1, fun σ1 F1 H1 R1 k1 => ⟨H0, F0, bo, ρ1, F1, b1, R1, fl, ρ', b', e, q.fk k1⟩⟩
  · rename_i hn
    refine ⟨H0, F0, bo, ρ, F, b, R, fl, ρ', b', e, ?_⟩
    cases fl with
    | nx => exact absurd e (hn _ _)
    | bk => exact q
    | ct => exact q
    | rt d => exact q
theorem set_o {i : Nat} {f : Ex} (h : tSs m (sSet i f) D σ H) : tEx m f σ H fun x H1 => D.nx (σ.set i (some x)) H1 := by
  obtain ⟨H0, F0, bo, ρ, F, b, R, fl, ρ', b', e, q⟩ := h
  unfold sSet at e
  split at e
  · rename_i d b1 e1
    cases e
    exact ⟨H0, F0, bo, ρ, F, b, R, d, _, e1, fun v F' H' g hb r => q _ F' H' ((R.grow g hb).set_frz r) (R.fkg g)⟩
  · cases e
theorem ne_own {bo : Bo} {F F' : Addr → Prop} {H H' : Hp} {σ : St} {ρ : Rho} {H0 : Hp} {F0 : Addr → Prop} {b : Bx} (R : Rel m H0 F0 bo σ ρ F H b) {a : Addr} (ha : H a = none) : ∀ (j : Nat) dj, ρ[j]? = some (Sl.own dj) → σ[j]? = some (some (V.ref a)) → False := fun j dj hj hs => by
  obtain ⟨c, h1, h2, h3, h4, h5⟩ := R.own j dj hj
  rw [hs] at h1
  cases h1
  obtain ⟨o, q, _⟩ := h5.some
  rw [ha] at q; cases q
theorem new_o {i : Nat} {f : Ex} (h : tSs m (sNew i f) D σ H) : tEn m f σ H fun x H1 => D.nx (σ.set i (some x)) H1 := by
  obtain ⟨H0, F0, bo, ρ, F, b, R, fl, ρ', b', e, q⟩ := h
  unfold sNew at e
  split at e
  · rename_i d b1 e1
    cases e
    refine ⟨H0, F0, bo, ρ, F, b, R, d, _, e1, fun a F' H' g hb ha nf ow => q _ F' H' ((R.grow g hb).set_own nf (inBox_new R.wo ha) (R.core.free a ha) ow fun j dj _ hj hs => ?_) (R.fkg g)⟩
    exact ne_own (F' := F) (H' := H) R ha j dj hj hs
  · cases e
end

/-! ### several names at once -/
abbrev Ks := Rho → Bx → Option (List Sl × Bx)
def kNil : Ks := fun _ b => some ([], b)
def kFrz (f : Ex) (g : Ks) : Ks := fun ρ b => match f ρ b with
  | some (d, b1) => match g ρ b1 with
    | some (ss, b2) => some (.frz d :: ss, b2)
    | none => none
  | none => none
def kNew (f : Ex) (g : Ks) : Ks := fun ρ b => match f ρ b with
  | some (d, b1) => match g ρ b1 with
    | some (ss, b2) => some (.own d :: ss, b2)
    | none => none
  | none => none
def setK : Rho → List Nat → List Sl → Rho
  | ρ, i :: is, s :: ss => setK (ρ.set i s) is ss
  | ρ, _, _ => ρ
def setV : St → List Nat → List V → St
  | σ, i :: is, v :: vs => setV (σ.set i (some v)) is vs
  | σ, _, _ => σ
def sPar (is : List Nat) (f : Ks) : SS := fun ρ b => match f ρ b with
  | some (ss, b1) => some (.nx, setK ρ is ss, b1)
  | none => none
section
variable (m : Pm) (bo : Bo) (Hs : Hp) (F : Addr → Prop) (H : Hp)
def RpK : List Sl → List V → Prop
  | [], vs => vs = []
  | .frz d :: ss, vs => ∃ v r, vs = v :: r ∧ Rp m bo F H d v ∧ RpK ss r
  | .own d :: ss, vs => ∃ a r, vs = V.ref a :: r ∧ ¬ F a ∧ Hs a = none ∧ Own m bo F H d a ∧ (∀ (k : Nat) d', ss[k]? = some (Sl.own d') → r[k]? = some (V.ref a) → False) ∧ RpK ss r
  | .emp :: _, _ => False
end
def tKs (m : Pm) (f : Ks) : TA := fun σ H Q => ∃ H0 F0 bo ρ F b, Rel m H0 F0 bo σ ρ F H b ∧ ∃ d b', f ρ b = some (d, b') ∧
  ∀ v F' H', Grow bo F H F' H' → BoxOk bo F' H' b' → RpK m bo H F' H' d v → Q v H'
structure PKs (fn : Nat → Option V) (X : Cx) (es : List Expr) (f : Ks) : Prop where
  pa : PA X es (tKs (pm X fn) f)
  len : ∀ ρ b ds b', f ρ b = some (ds, b') → ds.length = es.length
section
variable {m : Pm} {bo : Bo} {Hs : Hp} {F : Addr → Prop} {H : Hp}
theorem RpK.length : ∀ {ss : List Sl} {vs : List V}, RpK m bo Hs F H ss vs → vs.length = ss.length
  | [], vs, h => by
    have : vs = [] := h
    subst this; rfl
  | .frz d :: ss, vs, h => by
    obtain ⟨v, r, rfl, _, h2⟩ := h
    simp [RpK.length h2]
  | .own d :: ss, vs, h => by
    obtain ⟨v, r, rfl, _, _, _, _, h2⟩ := h
    simp [RpK.length h2]
  | .emp :: ss, vs, h => h.elim
theorem RpK.mono {Hs' : Hp} (hh : ∀ a, Hs' a = none → Hs a = none) : ∀ {ss : List Sl} {vs : List V}, RpK m bo Hs' F H ss vs → RpK m bo Hs F H ss vs
  | [], vs, h => h
  | .frz d :: ss, vs, h => by
    obtain ⟨v, r, rfl, h1, h2⟩ := h
    exact ⟨v, r, rfl, h1, RpK.mono hh h2⟩
  | .own d :: ss, vs, h => by
    obtain ⟨a, r, rfl, h1, h2, h3, h4, h5⟩ := h
    exact ⟨a, r, rfl, h1, hh a h2, h3, h4, RpK.mono hh h5⟩
  | .emp :: ss, vs, h => h
theorem RpK.fresh : ∀ {ss : List Sl} {vs : List V}, RpK m bo Hs F H ss vs → ∀ (k : Nat) d a, ss[k]? = some (Sl.own d) → vs[k]? = some (V.ref a) → Hs a = none
  | [], vs, h, k, d, a, e, _ => by simp at e
  | .frz d :: ss, vs, h, 0, _, a, e, _ => by simp at e
  | .frz d :: ss, vs, h, k + 1, d', a, e, e2 => by
    obtain ⟨v, r, rfl, h1, h2⟩ := h
    exact RpK.fresh h2 k d' a (by simpa using e) (by simpa using e2)
  | .own d :: ss, vs, h, 0, _, a, e, e2 => by
    obtain ⟨c, r, rfl, h1, h2, h3, h4, h5⟩ := h
    simp at e2
    subst e2
    exact h2
  | .own d :: ss, vs, h, k + 1, d', a, e, e2 => by
    obtain ⟨c, r, rfl, h1, h2, h3, h4, h5⟩ := h
    exact RpK.fresh h5 k d' a (by simpa using e) (by simpa using e2)
  | .emp :: ss, vs, h, _, _, _, _, _ => h.elim
theorem Rel.setK {H0 : Hp} {F0 : Addr → Prop} {b : Bx} (hb : ∀ a, Hs a = none → ¬ inBox bo a) (h0 : ∀ a, Hs a = none → H0 a = none) : ∀ {is : List Nat} {ss : List Sl} {vs : List V} {σ : St} {ρ : Rho}, Rel m H0 F0 bo σ ρ F H b → RpK m bo Hs F H ss vs →
    (∀ (j : Nat) dj a, ρ[j]? = some (Sl.own dj) → σ[j]? = some (some (V.ref a)) → ∀ (k : Nat) d', ss[k]? = some (Sl.own d') → vs[k]? = some (V.ref a) → False) → Rel m H0 F0 bo (setV σ is vs) (Sv.setK ρ is ss) F H b
  | [], [], vs, σ, ρ, R, r, hd => by
    have : vs = [] := r
    subst this; exact R
  | [], s :: ss, vs, σ, ρ, R, r, hd => by cases vs <;> exact R
  | i :: is, [], vs, σ, ρ, R, r, hd => by
    have : vs = [] := r
    subst this; exact R
  | i :: is, .frz d :: ss, vs, σ, ρ, R, r, hd => by
    obtain ⟨v, r, rfl, h1, h2⟩ := r
    refine Rel.setK hb h0 (is := is) (R.set_frz h1) h2 fun j dj a hj hs k d' e1 e2 => ?_
    by_cases hij : i = j
    · subst hij
      have hl : i < ρ.length := by
        have := (List.getElem?_eq_some_iff.mp hj).1
        simpa using this
      rw [List.getElem?_set_self hl] at hj
      cases hj
    · rw [List.getElem?_set_ne hij] at hj hs
      exact hd j dj a hj hs (k + 1) d' (by simpa using e1) (by simpa using e2)
  | i :: is, .own d :: ss, vs, σ, ρ, R, r, hd => by
    obtain ⟨c, r, rfl, h1, h2, h3, h4, h5⟩ := r
    refine Rel.setK hb h0 (is := is) (R.set_own h1 (hb c h2) (h0 c h2) h3 fun j dj _ hj hs => hd j dj c hj hs 0 d rfl rfl) h5 fun j dj a hj hs k d' e1 e2 => ?_
    by_cases hij : i = j
    · subst hij
      have hl : i < ρ.length := by
        have := (List.getElem?_eq_some_iff.mp hj).1
        simpa using this
      rw [List.getElem?_set_self (by rw [R.len]; exact hl)] at hs
      cases hs
      exact h4 k d' e1 e2
    · rw [List.getElem?_set_ne hij] at hj hs
      exact hd j dj a hj hs (k + 1) d' (by simpa using e1) (by simpa using e2)
  | i :: is, .emp :: ss, vs, σ, ρ, R, r, hd => r.elim
end
theorem par_o {m : Pm} {D : Ends} {σ : St} {H : Hp} {is : List Nat} {f : Ks} (h : tSs m (sPar is f) D σ H) : tKs m f σ H fun vs H1 => D.nx (setV σ is vs) H1 := by
  obtain ⟨H0, F0, bo, ρ, F, b, R, fl, ρ', b', e, q⟩ := h
  unfold sPar at e
  split at e
  · rename_i d b1 e1
    cases e
    refine ⟨H0, F0, bo, ρ, F, b, R, d, _, e1, fun v F' H' g hb r => q _ F' H' (Rel.setK (fun a ha => inBox_new R.wo ha) (fun a ha => R.core.free a ha) (R.grow g hb) r fun j dj a hj hs k d' e1 e2 => ?_) (R.fkg g)⟩
    exact ne_own (F' := F) (H' := H) R (r.fresh k d' a e1 e2) j dj hj hs
  · cases e
section
variable {fn : Nat → Option V} {X : Cx} {a c e : Expr} {es rest : List Expr} {st : Stmt} {sts : List Stmt} {pos : Pos} {f g h : Ex} {t u : Tx} {s s' : SS}
theorem pks_nil : PKs fn X [] kNil := by
  refine ⟨PA.imp pa_nil fun σ H Q ⟨H0, F0, bo, ρ, F, b, R, d, b', e, q⟩ => ?_, fun _ _ _ _ e => by cases e; rfl⟩
  cases e
  exact q [] F H (Grow.refl R.core.dom) R.core.box rfl
theorem kFrz_len {g : Ks} {n : Nat} (hl : ∀ ρ b ds b', g ρ b = some (ds, b') → ds.length = n) : ∀ ρ b ds b', kFrz f g ρ b = some (ds, b') → ds.length = n + 1 := fun ρ b ds b' e => by
  unfold kFrz at e
  split at e
  · split at e
    · rename_i e2
      cases e
      simp [hl _ _ _ _ e2]
    · cases e
  · cases e
theorem kNew_len {g : Ks} {n : Nat} (hl : ∀ ρ b ds b', g ρ b = some (ds, b') → ds.length = n) : ∀ ρ b ds b', kNew f g ρ b = some (ds, b') → ds.length = n + 1 := fun ρ b ds b' e => by
  unfold kNew at e
  split at e
  · split at e
    · rename_i e2
      cases e
      simp [hl _ _ _ _ e2]
    · cases e
  · cases e
theorem pks_frz {g : Ks} (ha : PEx fn X a f) (hr : PKs fn X es g) (hs : starEach (a :: es) X.env = (false, eval a X.env) :: starEach es X.env := by rfl) : PKs fn X (a :: es) (kFrz f g) := by
  refine ⟨PA.imp (pa_cons ha hr.pa hs) fun σ H Q ⟨H0, F0, bo, ρ, F, b, R, r, b', e, q⟩ => ?_, kFrz_len hr.len⟩
  unfold kFrz at e
  split at e
  · rename_i d b1 e1
    split at e
    · rename_i d2 b2 e2
      cases e
      refine ⟨H0, F0, bo, ρ, F, b, R, d, b1, e1, fun v1 F1 H1 g1 hb1 r1 => ?_⟩
      have R1 := R.grow g1 hb1
      exact ⟨H0, F0, bo, ρ, F1, b1, R1, d2, _, e2, fun v2 F2 H2 g2 hb2 r2 => q _ F2 H2 (g1.trans g2) hb2 ⟨v1, v2, rfl, r1.fk (R1.fkg g2), r2.mono g1.free⟩⟩
    · cases e
  · cases e
theorem pks_new {g : Ks} (ha : PEn fn X a f) (hr : PKs fn X es g) (hs : starEach (a :: es) X.env = (false, eval a X.env) :: starEach es X.env := by rfl) : PKs fn X (a :: es) (kNew f g) := by
  refine ⟨PA.imp (pa_cons ha hr.pa hs) fun σ H Q ⟨H0, F0, bo, ρ, F, b, R, r, b', e, q⟩ => ?_, kNew_len hr.len⟩
  unfold kNew at e
  split at e
  · rename_i d b1 e1
    split at e
    · rename_i d2 b2 e2
      cases e
      refine ⟨H0, F0, bo, ρ, F, b, R, d, b1, e1, fun a1 F1 H1 g1 hb1 ha1 nf1 ow1 => ?_⟩
      have R1 := R.grow g1 hb1
      refine ⟨H0, F0, bo, ρ, F1, b1, R1, d2, _, e2, fun v2 F2 H2 g2 hb2 r2 => q _ F2 H2 (g1.trans g2) hb2 ?_⟩
      obtain ⟨o, hq, _⟩ := ow1.some
      have hk := g2.keep a1 o hq (inBox_new R.wo ha1)
      refine ⟨a1, v2, rfl, fun z => ?_, ha1, ow1.fk (R1.fkg g2) (hk.trans hq.symm), fun k d' e1 e2 => ?_, r2.mono g1.free⟩
      · rcases g2.new a1 z with z | z
        · exact nf1 z
        · rw [hq] at z; cases z
      · have := r2.fresh k d' a1 e1 e2
        rw [hq] at this; cases this
    · cases e
  · cases e

/-! ### rules -/
theorem psx_nil : PSsx fn X [] sNx := PSs.imp pss_nil fun D σ H ⟨H0, F0, bo, ρ, F, b, R, fl, ρ', b', e, q⟩ => by
  cases e
  exact q σ F H R (FK.refl _ _)
theorem psx_cons (h1 : PSx fn X st s) (h2 : PSsx fn X sts s') : PSsx fn X (st :: sts) (sSeq s s') := PSs.imp (pss_cons h1 h2) fun _ _ _ h => seq_o h
theorem psx_one (h1 : PSx fn X st s) : PSsx fn X [st] s := pss_one h1
theorem fz_o {m : Pm} {D : Ends} {σ : St} {H : Hp} {i : Nat} (h : tSs m (sSeq (sFz i) s) D σ H) : tSs m s D σ H := by
  obtain ⟨H0, F0, bo, ρ, F, b, R, fl, ρ', b', e, q⟩ := h
  unfold sSeq at e
  split at e
  · rename_i ρ1 b1 e1
    unfold sFz at e1
    split at e1
    · rename_i d hi
      cases e1
      obtain ⟨a, h1, h2, h3, h4, h5⟩ := R.own i d hi
      obtain ⟨k, hb, dm, r⟩ := freeze R.wo h3 h5
      have R1 : Rel m H0 F0 bo σ (ρ.set i (Sl.frz d)) (fun c => F c ∨ c = a) H b := by
        refine ⟨⟨hb, R.core.keep, R.core.free, fun c h => .inl (R.core.sub c h), fun c h => h.elim (R.core.new c) fun e => .inr (by rw [e]; exact h4), dm⟩, by simp [R.len], fun j e hj => ?_, fun j e hj => ?_, fun j k dj dk c hjk hj hk x1 x2 => ?_⟩
        · by_cases hij : i = j
          · subst hij
            have hl : i < ρ.length := by
              have := (List.getElem?_eq_some_iff.mp hj).1
              simpa using this
            rw [List.getElem?_set_self hl] at hj
            cases hj
            exact ⟨_, h1, r⟩
          · rw [List.getElem?_set_ne hij] at hj
            obtain ⟨v, z1, z2⟩ := R.frz j e hj
            exact ⟨v, z1, z2.fk k⟩
        · by_cases hij : i = j
          · subst hij
            have hl : i < ρ.length := by
              have := (List.getElem?_eq_some_iff.mp hj).1
              simpa using this
            rw [List.getElem?_set_self hl] at hj
            cases hj
          · rw [List.getElem?_set_ne hij] at hj
            obtain ⟨c, z1, z2, z3, z4, z5⟩ := R.own j e hj
            refine ⟨c, z1, fun z => ?_, z3, z4, z5.fk k rfl⟩
            rcases z with z | z
            · exact z2 z
            · subst z; exact R.dis i j d e c hij hi hj h1 z1
        · by_cases hij : i = j
          · subst hij
            have hl : i < ρ.length := by
              have := (List.getElem?_eq_some_iff.mp hj).1
              simpa using this
            rw [List.getElem?_set_self hl] at hj
            cases hj
          · by_cases hik : i = k
            · subst hik
              have hl : i < ρ.length := by
                have := (List.getElem?_eq_some_iff.mp hk).1
                simpa using this
              rw [List.getElem?_set_self hl] at hk
              cases hk
            · rw [List.getElem?_set_ne hij] at hj
              rw [List.getElem?_set_ne hik] at hk
              exact R.dis j k dj dk c hjk hj hk x1 x2
      exact ⟨H0, F0, bo, _, _, _, R1, fl, ρ', b', e, q.fk k⟩
    · cases e1
  · rename_i hn
    exfalso
    unfold sFz at e hn
    split at e
    · rename_i d hi
      rw [hi] at hn
      exact hn _ _ rfl
    · cases e
theorem psx_fz {i : Nat} (h : PSx fn X st s) : PSx fn X st (sSeq (sFz i) s) := PS.imp h fun _ _ _ h => fz_o h
theorem pssx_fz {i : Nat} (h : PSsx fn X sts s) : PSsx fn X sts (sSeq (sFz i) s) := PSs.imp h fun _ _ _ h => fz_o h
theorem psx_ret (h : PEx fn X e f) : PSx fn X (.Return (some e) pos) (sRet f) := PS.imp (ps_ret h) fun D σ H ⟨H0, F0, bo, ρ, F, b, R, fl, ρ', b', e, q⟩ => by
  unfold sRet at e
  split at e
  · rename_i d b1 e1
    cases e
    exact ⟨H0, F0, bo, ρ, F, b, R, d, _, e1, fun v F' H' g hb r => q v F' H' (R.core.grow g hb) r⟩
  · cases e
theorem psx_retN : PSx fn X (.Return none pos) (sRet (eCon .non)) := PS.imp ps_retN fun D σ H ⟨H0, F0, bo, ρ, F, b, R, fl, ρ', b', e, q⟩ => by
  cases e
  exact q .non F H R.core (by simp [Rp])
theorem psx_if {p q : List Stmt} (hc : PTx fn X c t) (ha : PSsx fn X p s) (hb : PSsx fn X q s') : PSx fn X (.If c p q pos) (sIf t s s') := PS.imp (ps_if hc ha hb) fun D σ H ⟨H0, F0, bo, ρ, F, b, R, fl, ρ', b', e, q⟩ => by
  unfold sIf at e
  split at e
  · rename_i b1 e1
    refine ⟨H0, F0, bo, ρ, F, b, R, true, b1, e1, fun F' H' g hb => iteT ?_⟩
    exact ⟨H0, F0, bo, ρ, F', b1, R.grow g hb, fl, ρ', b', e, q.fk (R.fkg g)⟩
  · rename_i b1 e1
    refine ⟨H0, F0, bo, ρ, F, b, R, false, b1, e1, fun F' H' g hb => iteF ?_⟩
    exact ⟨H0, F0, bo, ρ, F', b1, R.grow g hb, fl, ρ', b', e, q.fk (R.fkg g)⟩
  · cases e
theorem psx_pass : PSx fn X (.Pass pos) sNx := PS.imp ps_pass fun D σ H ⟨H0, F0, bo, ρ, F, b, R, fl, ρ', b', e, q⟩ => by
  cases e
  exact q σ F H R (FK.refl _ _)
theorem psx_doc {x j pos'} : PSx fn X (.Expr (.Constant (.str x) j pos) pos') sNx := PS.imp ps_doc fun D σ H ⟨H0, F0, bo, ρ, F, b, R, fl, ρ', b', e, q⟩ => by
  cases e
  exact q σ F H R (FK.refl _ _)
theorem psx_break : PSx fn X (.Break pos) sBk := PS.imp ps_break fun D σ H ⟨H0, F0, bo, ρ, F, b, R, fl, ρ', b', e, q⟩ => by
  cases e
  exact q σ F H R (FK.refl _ _)
theorem psx_continue : PSx fn X (.Continue pos) sCt := PS.imp ps_continue fun D σ H ⟨H0, F0, bo, ρ, F, b, R, fl, ρ', b', e, q⟩ => by
  cases e
  exact q σ F H R (FK.refl _ _)
theorem psx_set {i : Nat} {x : Str} {pos' : Pos} (hN : X.N.Nodup) (hi : X.N[i]? = some x) (hx : Loc X.env.scope x) (he : PEx fn X e f) (hs : swapsWith e (some (.Name x pos')) pos.line X.env = pure false := by rfl) (hf : X.fn x = true ∨ X.env.scope.names.lookup x = some .local := by first | exact .inl rfl | exact .inr rfl | assumption) :
    PSx fn X (.Assign [.Name x pos'] e pos) (sSet i f) := PS.imp (ps_set hN hi hx he hs hf) fun _ _ _ h => set_o h
theorem psx_new {i : Nat} {x : Str} {pos' : Pos} (hN : X.N.Nodup) (hi : X.N[i]? = some x) (hx : Loc X.env.scope x) (he : PEn fn X e f) (hs : swapsWith e (some (.Name x pos')) pos.line X.env = pure false := by rfl) (hf : X.fn x = true ∨ X.env.scope.names.lookup x = some .local := by first | exact .inl rfl | exact .inr rfl | assumption) :
    PSx fn X (.Assign [.Name x pos'] e pos) (sNew i f) := PS.imp (ps_set hN hi hx he hs hf) fun _ _ _ h => new_o h
/-- target = e -/
theorem psx_asg {tg : Expr} {sl : List Nat} {g : Tg} (he : PEx fn X e f) (hg : PGx fn X tg sl g) (hs : swapsWithSole [tg] e pos.line X.env = pure false := by rfl) (hw : swappedStores [tg] e X.env = pure none := by rfl)
    (h1 : (assignEach [tg] X.env).map (·.2) = [assign tg X.env] := by rfl) : PSx fn X (.Assign [tg] e pos) (sAsg g f) := PS.imp (ps_asg he hg hs hw h1) fun D σ H ⟨H0, F0, bo, ρ, F, b, R, fl, ρ', b', e, q⟩ => by
  unfold sAsg at e
  split at e
  · rename_i d b1 e1
    split at e
    · rename_i ρ1 e2
      cases e
      refine ⟨H0, F0, bo, ρ, F, b, R, d, _, e1, fun v F' H' g hb r => ?_⟩
      exact ⟨H0, F0, bo, ρ, F', _, R.grow g hb, d, _, r, e2, fun σ' R' _ => q σ' F' H' R' (R.fkg g)⟩
    · cases e
  · cases e
theorem psx_expr (he : PEx fn X e f) (hs : swapsWith e none pos.line X.env = pure false := by rfl) : PSx fn X (.Expr e pos) (sExpr f) := PS.imp (ps_expr he hs) fun D σ H ⟨H0, F0, bo, ρ, F, b, R, fl, ρ', b', e, q⟩ => by
  unfold sExpr at e
  split at e
  · rename_i d b1 e1
    cases e
    exact ⟨H0, F0, bo, ρ, F, b, R, _, _, e1, fun v F' H' g hb r => q σ F' H' (R.grow g hb) (R.fkg g)⟩
  · cases e
/-- name = [..] on one line, the name a local -/
theorem psx_setLc {i : Nat} {y : Str} {py : Pos} {elt tg iter : Expr} {ifs : List Expr} {scope : Scope} {own : List (Str × Nat)} {spos : Pos} {it : It} {g : Tg} {sl : List Nat} (hc : X.calm = true) (hN : X.N.Nodup) (hy : X.N[i]? = some y) (hyl : X.env.scope.names.lookup y = some .local)
    (hsw : swapsWith (.ListComp elt [⟨tg, iter, ifs, 0⟩] scope pos) (some (.Name y py)) spos.line X.env = pure true) (hi : PIo fn X tg iter it) (ok : BlkOk X.N X.env.scope scope own)
    (hg : ∀ (s : Shared) (H : Hp) (C : Addr) (cl : List (Str × Addr)) (fp : List Addr), PGx fn (X.blk s H scope (compEnvC scope cl C X.env) fp) tg sl g)
    (ht : ∀ (s : Shared) (H : Hp) (C : Addr) (cl : List (Str × Addr)) (fp : List Addr), PTsx fn (X.blk s H scope (compEnvC scope cl C X.env) fp) ifs t)
    (he : ∀ (s : Shared) (H : Hp) (C : Addr) (cl : List (Str × Addr)) (fp : List Addr), PEx fn (X.blk s H scope (compEnvC scope cl C X.env) fp) elt f)
    (hsl : ∀ i ∈ sl, i ∈ own.map (·.2) := by decide) (hs : ∀ x, foldedSetIterable iter X.env x = pure x := by intro _; rfl) :
    PSx fn X (.Assign [.Name y py] (.ListComp elt [⟨tg, iter, ifs, 0⟩] scope pos) spos) (sNew i (eLc it g t f (own.map (·.2)))) :=
  PS.imp (ps_setLc hc hN hy hyl hsw hi ok hg ht he hs) fun _ _ _ h => lc_o hsl (new_o h)
theorem psx_setLcF {i : Nat} {y : Str} {py : Pos} {elt tg iter : Expr} {ifs : List Expr} {scope : Scope} {own : List (Str × Nat)} {spos : Pos} {it : It} {g : Tg} {sl : List Nat} (hc : X.calm = true) (hN : X.N.Nodup) (hy : X.N[i]? = some y) (hyl : X.env.scope.names.lookup y = some .local)
    (hsw : swapsWith (.ListComp elt [⟨tg, iter, ifs, 0⟩] scope pos) (some (.Name y py)) spos.line X.env = pure true) (hi : PIo fn X tg iter it) (ok : BlkOk X.N X.env.scope scope own)
    (hg : ∀ (s : Shared) (H : Hp) (C : Addr) (cl : List (Str × Addr)) (fp : List Addr), PGx fn (X.blk s H scope (compEnvC scope cl C X.env) fp) tg sl g)
    (ht : ∀ (s : Shared) (H : Hp) (C : Addr) (cl : List (Str × Addr)) (fp : List Addr), PTsx fn (X.blk s H scope (compEnvC scope cl C X.env) fp) ifs t)
    (he : ∀ (s : Shared) (H : Hp) (C : Addr) (cl : List (Str × Addr)) (fp : List Addr), PEx fn (X.blk s H scope (compEnvC scope cl C X.env) fp) elt f)
    (hsl : ∀ i ∈ sl, i ∈ own.map (·.2) := by decide) (hs : ∀ x, foldedSetIterable iter X.env x = pure x := by intro _; rfl) :
    PSx fn X (.Assign [.Name y py] (.ListComp elt [⟨tg, iter, ifs, 0⟩] scope pos) spos) (sSet i (eLc it g t f (own.map (·.2)))) :=
  PS.imp (ps_setLc hc hN hy hyl hsw hi ok hg ht he hs) fun _ _ _ h => lc_o hsl (en_of_ex (set_o h))

/-! ### for, while -/
theorem psx_for {iter tg : Expr} {body : List Stmt} {it : It} {g : Tg} {sl : List Nat} (hp : PassesOwn (model X.prog X.w) X.A X.env X.xe) (hc : X.calm = true) (hi : PIx fn X tg iter it) (hg : PGx fn X tg sl g) (hb : PSsx fn X body s)
    (hs : ∀ x, foldedSetIterable iter X.env x = pure x := by intro _; rfl) : PSx fn X (.For tg iter body [] pos) (sFor it g s) := PS.imp (ps_for hp hc hi hg hb hs) fun D σ H ⟨H0, F0, bo, ρ, F, b, R, fl, ρ', b', e, q⟩ => by
  unfold sFor at e
  split at e
  · rename_i ds b1 e1
    refine ⟨H0, F0, bo, ρ, F, b, R, ds, b1, e1, fun J F1 H1 g1 hb1 hz y => ?_⟩
    have R1 := R.grow g1 hb1
    have q1 := q.fk (R.fkg g1)
    refine ⟨fun i mm σ H => mm = ds.length - i ∧ i ≤ ds.length ∧ ∃ ρ F b, Rel (pm X fn) H0 F0 bo σ ρ F H b ∧ FK F1 H1 F H ∧ forGo g s (ds.drop i) ρ b = some (fl, ρ', b'), ⟨_, rfl, Nat.zero_le _, ρ, F1, b1, R1, FK.refl _ _, e⟩, ?_⟩
    rintro i mm σ2 H2 ⟨rfl, hi, ρ2, F2, b2, R2, k2, e2⟩
    obtain ⟨yy, yst⟩ := y F2 H2 b2 k2 R2.wo
    by_cases hlt : i < ds.length
    · obtain ⟨ygo, yyl⟩ := yy i ds[i] (List.getElem?_eq_getElem hlt)
      rw [List.drop_eq_getElem_cons hlt] at e2
      refine .inr ⟨ygo, fun σ H => ∃ ρ F b, Rel (pm X fn) H0 F0 bo σ ρ F H b ∧ FK F1 H1 F H ∧ forGo g s (ds.drop (i + 1)) ρ b = some (fl, ρ', b'), fun σ' H' hh => ⟨_, by omega, rfl, hlt, hh⟩, fun x H3 hy => ?_⟩
      obtain ⟨g3, hb3, rx⟩ := yyl x H3 hy
      have R3 := R2.grow g3 hb3
      have k3 := k2.trans (R2.fkg g3)
      unfold forGo at e2
      split at e2
      · rename_i ρ3 e3
        refine ⟨H0, F0, bo, ρ2, F2, b2, R3, _, ρ3, rx, e3, fun σ4 R4 _ => ?_⟩
        split at e2
        · rename_i ρ4 b4 e4
          exact ⟨H0, F0, bo, ρ3, F2, b2, R4, .nx, ρ4, b4, e4, fun σ5 F5 H5 R5 k5 => ⟨ρ4, F5, b4, R5, k3.trans k5, e2⟩⟩
        · rename_i ρ4 b4 e4
          exact ⟨H0, F0, bo, ρ3, F2, b2, R4, .ct, ρ4, b4, e4, fun σ5 F5 H5 R5 k5 => ⟨ρ4, F5, b4, R5, k3.trans k5, e2⟩⟩
        · rename_i ρ4 b4 e4
          cases e2
          exact ⟨H0, F0, bo, ρ3, F2, b2, R4, .bk, _, _, e4, fun σ5 F5 H5 R5 k5 => q1 σ5 F5 H5 R5 (k3.trans k5)⟩
        · rename_i r ρ4 b4 e4
          cases e2
          exact ⟨H0, F0, bo, ρ3, F2, b2, R4, .rt r, _, _, e4, q1⟩
        · cases e2
      · cases e2
    · have ei : i = ds.length := by omega
      subst ei
      rw [List.drop_length] at e2
      cases e2
      exact .inl ⟨yst, q1 σ2 F2 H2 R2 k2⟩
  · cases e
theorem psx_while {body : List Stmt} (hp : PassesOwn (model X.prog X.w) X.A X.env X.xe) (hc : PTx fn X c t) (hb : PSsx fn X body s) : PSx fn X (.While c body [] pos) (sWh t s) := PS.imp (ps_while hp hc hb) fun D σ H ⟨H0, F0, bo, ρ, F, b, R, fl, ρ', b', e, q⟩ => by
  have e : whGo t s 100000 ρ b = some (fl, ρ', b') := e
  generalize 100000 = n at e
  refine ⟨fun mm σ H2 => ∃ ρ F2 b, Rel (pm X fn) H0 F0 bo σ ρ F2 H2 b ∧ FK F H F2 H2 ∧ whGo t s mm ρ b = some (fl, ρ', b'), ⟨n, ρ, F, b, R, FK.refl _ _, e⟩, ?_⟩
  rintro mm σ2 H2 ⟨ρ2, F2, b2, R2, k2, e2⟩
  cases mm with
  | zero => cases e2
  | succ mm =>
    unfold whGo at e2
    split at e2
    · rename_i b3 e3
      cases e2
      refine ⟨H0, F0, bo, _, F2, b2, R2, false, _, e3, fun F3 H3 g3 hb3 => iteF ?_⟩
      exact q σ2 F3 H3 (R2.grow g3 hb3) (k2.trans (R2.fkg g3))
    · rename_i b3 e3
      refine ⟨H0, F0, bo, ρ2, F2, b2, R2, true, b3, e3, fun F3 H3 g3 hb3 => iteT ?_⟩
      have R3 := R2.grow g3 hb3
      have k3 := k2.trans (R2.fkg g3)
      refine ⟨fun σ H4 => ∃ ρ F2 b, Rel (pm X fn) H0 F0 bo σ ρ F2 H4 b ∧ FK F H F2 H4 ∧ whGo t s mm ρ b = some (fl, ρ', b'), fun σ' H' hh => ⟨mm, Nat.lt_succ_self _, hh⟩, ?_⟩
      split at e2
      · rename_i ρ4 b4 e4
        exact ⟨H0, F0, bo, ρ2, F3, b3, R3, .nx, ρ4, b4, e4, fun σ5 F5 H5 R5 k5 => ⟨ρ4, F5, b4, R5, k3.trans k5, e2⟩⟩
      · rename_i ρ4 b4 e4
        exact ⟨H0, F0, bo, ρ2, F3, b3, R3, .ct, ρ4, b4, e4, fun σ5 F5 H5 R5 k5 => ⟨ρ4, F5, b4, R5, k3.trans k5, e2⟩⟩
      · rename_i ρ4 b4 e4
        cases e2
        exact ⟨H0, F0, bo, ρ2, F3, b3, R3, .bk, _, _, e4, fun σ5 F5 H5 R5 k5 => q σ5 F5 H5 R5 (k3.trans k5)⟩
      · rename_i r ρ4 b4 e4
        cases e2
        exact ⟨H0, F0, bo, ρ2, F3, b3, R3, .rt r, _, _, e4, q⟩
      · cases e2
    · cases e2

/-! ### several names -/
theorem psx_par2 {i j : Nat} {x y : Str} {k : Ks} {px py pt : Pos} {kt k2 pt2} (hc : X.calm = true) (hN : X.N.Nodup) (hi : X.N[i]? = some x) (hj : X.N[j]? = some y) (hij : i ≠ j)
    (hx : X.env.scope.names.lookup x = some .local) (hy : X.env.scope.names.lookup y = some .local) (ha : PKs fn X [a, c] k)
    (hw : swappedStores [.Tuple [.Name x px, .Name y py] kt pt] (.Tuple [a, c] k2 pt2) X.env = pure (some [x, y]))
    (hs : swapsWithSole [.Tuple [.Name x px, .Name y py] kt pt] (.Tuple [a, c] k2 pt2) pos.line X.env = pure false := by rfl) :
    PSx fn X (.Assign [.Tuple [.Name x px, .Name y py] kt pt] (.Tuple [a, c] k2 pt2) pos) (sPar [i, j] k) := PS.imp (ps_par hc hN hi hj hij hx hy ha.pa hw hs) fun D σ H h => by
  obtain ⟨H0, F0, bo, ρ, F, b, R, d, b', e, q⟩ := par_o h
  refine ⟨H0, F0, bo, ρ, F, b, R, d, b', e, fun v F' H' g hb r => ?_⟩
  have hl : v.length = 2 := by rw [r.length]; exact ha.len _ _ _ _ e
  match v, hl with
  | [v, w], _ => exact ⟨v, w, rfl, q _ F' H' g hb r⟩
theorem psx_par3 {i j l : Nat} {x y z : Str} {k : Ks} {px py pz pt : Pos} {kt k2 pt2} (hc : X.calm = true) (hN : X.N.Nodup) (hi : X.N[i]? = some x) (hj : X.N[j]? = some y) (hl : X.N[l]? = some z) (hij : i ≠ j) (hil : i ≠ l) (hjl : j ≠ l)
    (hx : X.env.scope.names.lookup x = some .local) (hy : X.env.scope.names.lookup y = some .local) (hz : X.env.scope.names.lookup z = some .local) (ha : PKs fn X [a, c, e] k)
    (hw : swappedStores [.Tuple [.Name x px, .Name y py, .Name z pz] kt pt] (.Tuple [a, c, e] k2 pt2) X.env = pure (some [x, y, z]))
    (hs : swapsWithSole [.Tuple [.Name x px, .Name y py, .Name z pz] kt pt] (.Tuple [a, c, e] k2 pt2) pos.line X.env = pure false := by rfl) :
    PSx fn X (.Assign [.Tuple [.Name x px, .Name y py, .Name z pz] kt pt] (.Tuple [a, c, e] k2 pt2) pos) (sPar [i, j, l] k) := PS.imp (ps_par3 hc hN hi hj hl hij hil hjl hx hy hz ha.pa hw hs) fun D σ H h => by
  obtain ⟨H0, F0, bo, ρ, F, b, R, d, b', e, q⟩ := par_o h
  refine ⟨H0, F0, bo, ρ, F, b, R, d, b', e, fun v F' H' g hb r => ?_⟩
  have hl : v.length = 3 := by rw [r.length]; exact ha.len _ _ _ _ e
  match v, hl with
  | [u, v, w], _ => exact ⟨u, v, w, rfl, q _ F' H' g hb r⟩
/-- names of any kind -/
def gSetV (is : List Nat) : TGs := fun vs σ H Q => vs.length = is.length ∧ Q (setV σ is vs) H
theorem pgv_nil : PGs X [] (gSetV []) := PGs.imp pgs_nil fun v σ H Q ⟨hl, q⟩ => by
  match v, hl with
  | [], _ => exact ⟨rfl, q⟩
theorem pgv_cons {i : Nat} {is : List Nat} {x : Str} {px : Pos} (hN : X.N.Nodup) (hi : X.N[i]? = some x) (hx : Loc X.env.scope x) (h2 : PGs X es (gSetV is)) (hf : X.fn x = true ∨ X.env.scope.names.lookup x = some .local := by first | exact .inl rfl | exact .inr rfl | assumption)
    (hs : (assignEach (.Name x px :: es) X.env).map (·.2) = assign (.Name x px) X.env :: (assignEach es X.env).map (·.2) := by rfl) : PGs X (.Name x px :: es) (gSetV (i :: is)) := PGs.imp (pgs_cons (pg_name hN hi hx hf) h2 hs) fun v σ H Q ⟨hl, q⟩ => by
  match v, hl with
  | v :: vs, hl => exact ⟨v, vs, rfl, by simpa using hl, q⟩
theorem psx_parT {ts : List Expr} {is : List Nat} {k : Ks} {k1 k2 : Nat} {pt pt2 : Pos} (hc : X.calm = true) (ha : PKs fn X es k) (hg : PGs X ts (gSetV is)) (he : es.length = ts.length := by rfl) (hi : is.length = ts.length := by rfl) (hl : es.length ≤ 1000 := by decide)
    (hs : swapsWithSole [.Tuple ts k1 pt] (.Tuple es k2 pt2) pos.line X.env = pure false := by rfl) (hw : swappedStores [.Tuple ts k1 pt] (.Tuple es k2 pt2) X.env = pure none := by rfl)
    (h1 : (assignEach [.Tuple ts k1 pt] X.env).map (·.2) = [assign (.Tuple ts k1 pt) X.env] := by rfl) (hn : (assignEach ts X.env).length = ts.length := by rfl) (hst : (assignEach ts X.env).findIdx? (·.1) = none := by rfl) :
    PSx fn X (.Assign [.Tuple ts k1 pt] (.Tuple es k2 pt2) pos) (sPar is k) := PS.imp (ps_asg (pe_tup ha.pa) (pg_tup hc hg hn hst) hs hw h1) fun D σ H h => by
  obtain ⟨H0, F0, bo, ρ, F, b, R, fl, ρ', b', e, q⟩ := h
  unfold sPar at e
  split at e
  · rename_i ss b1 e1
    cases e
    refine ⟨H0, F0, bo, ρ, F, b, R, ss, _, e1, fun v F1 H1 g1 hb1 r => ?_⟩
    have hz : v.length = es.length := by rw [r.length]; exact ha.len _ _ _ _ e1
    refine ⟨by rw [hz, sizeLine_eq]; omega, fun p hp => ?_⟩
    have R1 := R.grow g1 hb1
    have g2 : Grow bo F1 H1 F1 (upd H1 p (.tup v)) := Grow.alloc R1.wo hp
    have hb2 : BoxOk bo F1 (upd H1 p (.tup v)) _ := BoxOk.alloc R1.wo hp fun _ h => .inl h
    have R2 := R1.grow g2 hb2
    refine ⟨p, v, rfl, SqT.of upd_same, by rw [hz, he], by rw [hz, he, hi], ?_⟩
    have rk : RpK (pm X fn) bo H F1 (upd H1 p (.tup v)) ss v := by
      have : ∀ {ss : List Sl} {v' : List V}, RpK (pm X fn) bo H F1 H1 ss v' → RpK (pm X fn) bo H F1 (upd H1 p (.tup v)) ss v' := by
        intro ss
        induction ss with
        | nil => intro v' h; exact h
        | cons s ss ih =>
          intro v' h
          cases s with
          | emp => exact h
          | frz d =>
            obtain ⟨v, r, rfl, h1, h2⟩ := h
            exact ⟨v, r, rfl, h1.fk (R1.fkg g2), ih h2⟩
          | own d =>
            obtain ⟨a, r, rfl, h1, h2, h3, h4, h5⟩ := h
            obtain ⟨o, hq, _⟩ := h3.some
            refine ⟨a, r, rfl, h1, h2, h3.fk (R1.fkg g2) ?_, h4, ih h5⟩
            exact upd_ne (ne_of_none hq hp)
      exact this r
    exact q _ F1 _ (Rel.setK (fun a ha => inBox_new R.wo ha) (fun a ha => R.core.free a ha) R2 rk fun j dj a hj hs k d' e1 e2 => ne_own (F' := F) (H' := H) R (r.fresh k d' a e1 e2) j dj hj hs) ((R.fkg g1).trans (R1.fkg g2))
  · cases e
end
end Sv

set_option maxHeartbeats 4000000
/-! Sv10: lists of one's own, changed in place. -/
namespace Sv
open PySem L2

section
variable {m : Pm} {H0 : Hp} {F0 : Addr → Prop} {bo : Bo} {σ : St} {ρ : Rho} {F F' : Addr → Prop} {H H' : Hp} {b b' : Bx}
theorem BoxOk.upd {a : Addr} {o : HO} (nb : ¬ inBox bo a) (h : BoxOk bo F H b) : BoxOk bo F (L2.upd H a o) b := by
  cases bo with
  | none => trivial
  | some pq =>
    obtain ⟨p, q'⟩ := pq
    obtain ⟨a1, a2, a3, a4, a5⟩ := h
    exact ⟨a1, a2, a3, by rw [upd_ne fun e => nb (.inl e.symm)]; exact a4, by rw [upd_ne fun e => nb (.inr e.symm)]; exact a5⟩
theorem FK.upd {a : Addr} {o : HO} (nf : ¬ F a) (hm : ∀ u, H a = some u → MutO u) : FK F H F (L2.upd H a o) := by
  refine ⟨fun _ h => h, fun c hc => upd_ne fun e => nf (e ▸ hc), fun c u hu hn => ?_⟩
  by_cases hca : c = a
  · subst hca
    exact absurd (hm u hu) hn
  · rw [upd_ne hca]; exact hu
/-- a thing of one's own changed in place -/
theorem Rel.mut (R : Rel m H0 F0 bo σ ρ F H b) {i : Nat} {d d' : D} {a : Addr} {o : HO} (hi : ρ[i]? = some (Sl.own d)) (ha : σ[i]? = some (some (V.ref a))) (ow : FK F H F (L2.upd H a o) → Own m bo F (L2.upd H a o) d' a) :
    Rel m H0 F0 bo σ (ρ.set i (Sl.own d')) F (L2.upd H a o) b ∧ FK F H F (L2.upd H a o) := by
  obtain ⟨a', h1, nf, nb, h0, hw⟩ := R.own i d hi
  rw [ha] at h1
  cases h1
  obtain ⟨u, hu, um⟩ := hw.some
  have k : FK F H F (L2.upd H a o) := FK.upd nf fun u' hu' => by rw [hu] at hu'; cases hu'; exact um
  refine ⟨⟨⟨R.core.box.upd nb, fun c v hc hn => ?_, fun c hc => ?_, R.core.sub, R.core.new, fun c hc => ?_⟩, by simp [R.len], fun j e hj => ?_, fun j e hj => ?_, fun j l dj dl c hjl hj hl x1 x2 => ?_⟩, k⟩
  · have nca : c ≠ a := ne_of_none hc h0
    rw [upd_ne nca]; exact R.core.keep c v hc hn
  · by_cases hca : c = a
    · subst hca; exact h0
    · rw [upd_ne hca] at hc; exact R.core.free c hc
  · by_cases hca : c = a
    · subst hca; exact absurd hc nf
    · rw [upd_ne hca]; exact R.core.dom c hc
  · by_cases hij : i = j
    · subst hij
      have hl : i < ρ.length := by
        have := (List.getElem?_eq_some_iff.mp hj).1
        simpa using this
      rw [List.getElem?_set_self hl] at hj
      cases hj
    · rw [List.getElem?_set_ne hij] at hj
      obtain ⟨v, z1, z2⟩ := R.frz j e hj
      exact ⟨v, z1, z2.fk k⟩
  · by_cases hij : i = j
    · subst hij
      have hl : i < ρ.length := by
        have := (List.getElem?_eq_some_iff.mp hj).1
        simpa using this
      rw [List.getElem?_set_self hl] at hj
      cases hj
      exact ⟨a, ha, nf, nb, h0, ow k⟩
    · rw [List.getElem?_set_ne hij] at hj
      obtain ⟨c, z1, z2, z3, z4, z5⟩ := R.own j e hj
      have nca : c ≠ a := fun e => by subst e; exact R.dis i j _ _ c hij hi hj ha z1
      exact ⟨c, z1, z2, z3, z4, z5.fk k (upd_ne nca)⟩
  · have back : ∀ (j : Nat) dj, (ρ.set i (Sl.own d'))[j]? = some (Sl.own dj) → ∃ dj', ρ[j]? = some (Sl.own dj') := fun j dj hj => by
      by_cases hij : i = j
      · subst hij; exact ⟨d, hi⟩
      · rw [List.getElem?_set_ne hij] at hj; exact ⟨dj, hj⟩
    obtain ⟨_, y1⟩ := back j dj hj
    obtain ⟨_, y2⟩ := back l dl hl
    exact R.dis j l _ _ c hjl y1 y2 x1 x2
end

/-! ### expressions that change a slot's list -/
abbrev Mx := Rho → Bx → Option (D × Rho × Bx)
abbrev MAs := Rho → Bx → Option (List D × Rho × Bx)
def mUp (f : Ex) : Mx := fun ρ b => match f ρ b with
  | some (d, b1) => some (d, ρ, b1)
  | none => none
def mUpA (f : As) : MAs := fun ρ b => match f ρ b with
  | some (d, b1) => some (d, ρ, b1)
  | none => none
def mOne (f : Mx) : MAs := fun ρ b => match f ρ b with
  | some (d, ρ1, b1) => some ([d], ρ1, b1)
  | none => none
/-- xs.m(..) -/
def mMeth (i : Nat) (k : List D → List D → Option (D × List D)) (g : MAs) : Mx := fun ρ b => match ρ[i]? with
  | some (.own (.lst _)) => match g ρ b with
    | some (ds, ρ1, b1) => match ρ1[i]? with
      | some (.own (.lst xs)) => match k xs ds with
        | some (r, ys) => some (r, ρ1.set i (.own (.lst ys)), b1)
        | none => none
      | _ => none
    | none => none
  | _ => none
def kApp (xs : List D) : List D → Option (D × List D)
  | [d] => if xs.length < sizeLine then some (.non, xs ++ [d]) else none
  | _ => none
def kExt (xs : List D) : List D → Option (D × List D)
  | [.lst ys] => if xs.length + ys.length ≤ sizeLine then some (.non, xs ++ ys) else none
  | _ => none
def kPop (xs : List D) : List D → Option (D × List D)
  | [] => match xs[xs.length - 1]? with
    | some d => some (d, xs.dropLast)
    | none => none
  | _ => none
def kPopAt (xs : List D) : List D → Option (D × List D)
  | [.int i] => match ixN xs.length i with
    | some k => match xs[k]? with
      | some d => some (d, xs.eraseIdx k)
      | none => none
    | none => none
  | _ => none
def kIns (xs : List D) : List D → Option (D × List D)
  | [.int i, d] => if xs.length < sizeLine ∧ 0 ≤ i ∧ i < 2 ^ 63 then some (.non, xs.take i.toNat ++ [d] ++ xs.drop i.toNat) else none
  | _ => none
def kRem (xs : List D) : List D → Option (D × List D)
  | [.int k] => match intsD xs with
    | some ns => if k ∈ ns then some (.non, (ns.erase k).map .int) else none
    | none => none
  | _ => none
def tMx (m : Pm) (f : Mx) : TE := fun σ H Q => ∃ H0 F0 bo ρ F b, Rel m H0 F0 bo σ ρ F H b ∧ ∃ d ρ' b', f ρ b = some (d, ρ', b') ∧
  ∀ v F' H', Rel m H0 F0 bo σ ρ' F' H' b' → FK F H F' H' → Rp m bo F' H' d v → Q v H'
def tMAs (m : Pm) (f : MAs) : TA := fun σ H Q => ∃ H0 F0 bo ρ F b, Rel m H0 F0 bo σ ρ F H b ∧ ∃ d ρ' b', f ρ b = some (d, ρ', b') ∧
  ∀ v F' H', Rel m H0 F0 bo σ ρ' F' H' b' → FK F H F' H' → RpL m bo F' H' d v → Q v H'
abbrev PMx (fn : Nat → Option V) (X : Cx) (e : Expr) (f : Mx) : Prop := PE X e (tMx (pm X fn) f)
abbrev PMAs (fn : Nat → Option V) (X : Cx) (es : List Expr) (f : MAs) : Prop := PA X es (tMAs (pm X fn) f)
/-- a method of a list, by values -/
def rM (m : Pm) (k : List D → List D → Option (D × List D)) : V → List V → Hp → VK → Prop := fun x vs H Q => ∃ bo F b, Wo bo F H b ∧ ∃ a xs ds us r ys, x = .ref a ∧ ¬ F a ∧ ¬ inBox bo a ∧ H a = some (.lst us) ∧ us.length ≤ sizeLine ∧ RpL m bo F H xs us ∧ RpL m bo F H ds vs ∧ k xs ds = some (r, ys) ∧
  ∀ v ws, RpL m bo F H ys ws → ws.length ≤ sizeLine → Rp m bo F H r v → Q v (upd H a (.lst ws))
section
variable {fn : Nat → Option V} {X : Cx} {a c e : Expr} {es rest : List Expr} {st : Stmt} {sts : List Stmt} {pos p : Pos} {f g h : Ex} {t u : Tx} {s s' : SS}
theorem pmx_up (h : PEx fn X e f) : PMx fn X e (mUp f) := PE.imp h fun σ H Q ⟨H0, F0, bo, ρ, F, b, R, d, ρ', b', e, q⟩ => by
  unfold mUp at e
  split at e
  · rename_i d b1 e1
    cases e
    exact ⟨H0, F0, bo, _, F, b, R, d, _, e1, fun v F' H' g hb r => q v F' H' (R.grow g hb) (R.fkg g) r⟩
  · cases e
theorem pmas_up {g : As} (h : PAs fn X es g) : PMAs fn X es (mUpA g) := PA.imp h.pa fun σ H Q ⟨H0, F0, bo, ρ, F, b, R, d, ρ', b', e, q⟩ => by
  unfold mUpA at e
  split at e
  · rename_i d b1 e1
    cases e
    exact ⟨H0, F0, bo, _, F, b, R, d, _, e1, fun v F' H' g hb r => q v F' H' (R.grow g hb) (R.fkg g) r⟩
  · cases e
theorem pmas_one {g : Mx} (h : PMx fn X e g) (hs : starEach [e] X.env = (false, eval e X.env) :: starEach [] X.env := by rfl) : PMAs fn X [e] (mOne g) := PA.imp (pa_cons h pa_nil hs) fun σ H Q ⟨H0, F0, bo, ρ, F, b, R, d, ρ', b', e, q⟩ => by
  unfold mOne at e
  split at e
  · rename_i d ρ1 b1 e1
    cases e
    exact ⟨H0, F0, bo, ρ, F, b, R, d, ρ', b', e1, fun v F' H' R' k r => q [v] F' H' R' k (RpL.cons r RpL.nil)⟩
  · cases e

/-! #### the methods by values -/
theorem m_app : MtR X "list.append" (rM (pm X fn) kApp) := by
  intro pins s σ H x vs v us Q I rx rv ⟨bo, F, b, W, a, xs, ds, ws, r, ys, ex, nf, nb, ha, hz, r1, r2, ek, q⟩
  subst ex
  unfold kApp at ek
  split at ek
  · rename_i d
    split at ek
    · rename_i hlt
      cases ek
      have r2' := r2
      simp only [RpL] at r2'
      obtain ⟨v1, _, rfl, r3, rfl⟩ := r2'
      exact mt_append pins s σ H _ _ _ _ _ I rx rv ⟨a, ws, v1, rfl, rfl, ha, by rw [r1.length]; exact hlt, q .non _ (RpL.append r1 r2) (by have := r1.length; simp; omega) (by simp [Rp])⟩
    · cases ek
  · cases ek
theorem m_ext : MtR X "list.extend" (rM (pm X fn) kExt) := by
  intro pins s σ H x vs v us Q I rx rv ⟨bo, F, b, W, a, xs, ds, ws, r, ys, ex, nf, nb, ha, hz, r1, r2, ek, q⟩
  subst ex
  unfold kExt at ek
  split at ek
  · rename_i d
    split at ek
    · rename_i hlt
      cases ek
      simp only [RpL, Rp] at r2
      obtain ⟨v1, _, rfl, ⟨a2, us2, rfl, f2, h2, z2, r3⟩, rfl⟩ := r2
      have l1 := r1.length
      have l2 := r3.length
      exact mt_extend pins s σ H _ _ _ _ _ I rx rv ⟨a, a2, ws, us2, rfl, rfl, ha, h2, by omega, q .non _ (RpL.append r1 r3) (by simp; omega) (by simp [Rp])⟩
    · cases ek
  · cases ek
theorem RpL.dropLast {m : Pm} {bo : Bo} {F : Addr → Prop} {H : Hp} {ds : List D} {vs : List V} (h : RpL m bo F H ds vs) : RpL m bo F H ds.dropLast vs.dropLast := by
  rw [List.dropLast_eq_take, List.dropLast_eq_take, h.length]
  exact h.take _
theorem m_pop : MtR X "list.pop" (rM (pm X fn) kPop) := by
  intro pins s σ H x vs v us Q I rx rv ⟨bo, F, b, W, a, xs, ds, ws, r, ys, ex, nf, nb, ha, hz, r1, r2, ek, q⟩
  subst ex
  unfold kPop at ek
  split at ek
  · split at ek
    · rename_i d hd
      cases ek
      simp only [RpL] at r2
      subst r2
      obtain ⟨v1, e1, r3⟩ := r1.get hd
      exact mt_pop pins s σ H _ _ _ _ _ I rx rv ⟨a, ws, v1, rfl, rfl, ha, by rw [r1.length]; exact e1, q v1 _ r1.dropLast (by rw [List.length_dropLast]; omega) r3⟩
    · cases ek
  · cases ek
theorem m_popAt : MtR X "list.pop" (rM (pm X fn) kPopAt) := by
  intro pins s σ H x vs v us Q I rx rv ⟨bo, F, b, W, a, xs, ds, ws, r, ys, ex, nf, nb, ha, hz, r1, r2, ek, q⟩
  subst ex
  unfold kPopAt at ek
  split at ek
  · rename_i i
    split at ek
    · rename_i k hk
      split at ek
      · rename_i d hd
        cases ek
        simp only [RpL, Rp] at r2
        obtain ⟨_, _, rfl, rfl, rfl⟩ := r2
        obtain ⟨v1, e1, r3⟩ := r1.get hd
        obtain ⟨h1, h2, h3, h4⟩ := ixN_seq hk
        have l1 := r1.length
        have hn := line63
        exact mt_popAt pins s σ H _ _ _ _ _ I rx rv ⟨a, ws, i, k, v1, rfl, rfl, ha, by omega, by omega, by rw [l1]; exact h1, e1, q v1 _ (r1.eraseIdx k) (Nat.le_trans (len_erase ws k) hz) r3⟩
      · cases ek
    · cases ek
  · cases ek
theorem m_ins : MtR X "list.insert" (rM (pm X fn) kIns) := by
  intro pins s σ H x vs v us Q I rx rv ⟨bo, F, b, W, a, xs, ds, ws, r, ys, ex, nf, nb, ha, hz, r1, r2, ek, q⟩
  subst ex
  unfold kIns at ek
  split at ek
  · rename_i i d
    split at ek
    · rename_i hc
      obtain ⟨hlt, h0, h1⟩ := hc
      cases ek
      simp only [RpL, Rp] at r2
      obtain ⟨_, _, rfl, rfl, v1, _, rfl, r3, rfl⟩ := r2
      have l1 := r1.length
      refine mt_insert pins s σ H _ _ _ _ _ I rx rv ⟨a, ws, i, v1, rfl, rfl, ha, by omega, h0, h1, q .non _ (RpL.append (RpL.append (r1.take _) (RpL.cons r3 RpL.nil)) (r1.drop _)) ?_ (by simp [Rp])⟩
      simp only [List.length_append, List.length_take, List.length_drop, List.length_singleton]
      omega
    · cases ek
  · cases ek

/-! #### .. as expressions -/
theorem meth_o {m : Pm} {K : PySem.W.Frag} {i : Nat} {k : List D → List D → Option (D × List D)} {g : MAs} {σ : St} {H : Hp} {Q : VK} (h : tMx m (mMeth i k g) σ H Q) : tBM K "list" (rM m k) (tVar i) (tMAs m g) σ H Q := by
  obtain ⟨H0, F0, bo, ρ, F, b, R, r, ρ', b', e, q⟩ := h
  unfold mMeth at e
  split at e
  · rename_i xs0 hi
    split at e
    · rename_i ds ρ1 b1 e1
      split at e
      · rename_i xs hi1
        split at e
        · rename_i r' ys ek
          cases e
          obtain ⟨a, h1, nf, nb, h0, us0, hu0, hz0, ru0⟩ := R.own i _ hi
          refine ⟨_, h1, .inl ⟨rfl, us0, SqL.of hu0⟩, H0, F0, bo, ρ, F, b, R, ds, ρ1, _, e1, fun vs F' H' R' k' rv => ?_⟩
          obtain ⟨a', h1', nf', nb', h0', us, hu, hz, ru⟩ := R'.own i _ hi1
          rw [h1] at h1'; cases h1'
          refine ⟨bo, F', _, R'.wo, a, xs, ds, us, r, ys, rfl, nf', nb', hu, hz, ru, rv, ek, fun v ws rw' zw rr => ?_⟩
          obtain ⟨R2, k2⟩ := R'.mut hi1 h1 (d' := .lst ys) (o := .lst ws) fun k2 => ⟨ws, upd_same, zw, rw'.fk k2⟩
          exact q v F' _ R2 (k'.trans k2) (rr.fk k2)
        · cases e
      · cases e
    · cases e
  · cases e
variable {o : Expr} {name : Str} {apos cpos : Pos} {T id : String} {i : Nat} {k : List D → List D → Option (D × List D)} {ga : MAs}
theorem pmx_meth (pa : PlainAttrs "list") (slot : Slot "list" name id) (hty : typeOf (.builtin id) = pure (.type "method_descriptor")) (hm : MtR X id (rM (pm X fn) k)) (ho : PE X o (tVar i)) (ha : PMAs fn X (e :: es) ga)
    (hbase : attributeBase o name X.env (eval o X.env) = eval o X.env := by rfl)
    (hfew : ((backTo cpos (starEach (e :: es) X.env)).all (fun x => !x.1) && (backToKw cpos (keywordEach [] X.env)).all (fun x => x.1.isSome)
      && decide ((e :: es).length + ([] : List Keyword).length + (if ([] : List Keyword).isEmpty then 0 else 1) < 30)) = true := by rfl)
    (hline : (apos.endLine == cpos.line) = true := by rfl) (hs : starEach (e :: es) X.env = (false, eval e X.env) :: starEach es X.env := by rfl) (hplain : (backTo cpos (starEach es X.env)).any (·.1) = false := by rfl) :
    PMx fn X (.Call (.Attribute o name apos) (e :: es) [] cpos) (mMeth i k ga) :=
  PE.imp (pe_bm pa slot hty hm ho ha hbase hfew hline hs hplain) fun _ _ _ h => meth_o h
def mNil : MAs := fun ρ b => some ([], ρ, b)
theorem pmx_meth0 (pa : PlainAttrs "list") (slot : Slot "list" name id) (hty : typeOf (.builtin id) = pure (.type "method_descriptor")) (hm : MtR X id (rM (pm X fn) k)) (ho : PE X o (tVar i))
    (hbase : attributeBase o name X.env (eval o X.env) = eval o X.env := by rfl) (hline : (apos.endLine == cpos.line) = true := by rfl) :
    PMx fn X (.Call (.Attribute o name apos) [] [] cpos) (mMeth i k mNil) :=
  PE.imp (pe_bm0 pa slot hty hm ho hbase hline) fun σ H Q h => by
    obtain ⟨v, h1, ty, H0, F0, bo, ρ, F, b, R, d, ρ', b', e, q⟩ := meth_o (K := X.K) h
    cases e
    exact ⟨v, h1, ty, q [] F H R (FK.refl _ _) RpL.nil⟩
theorem pmx_app (ho : PE X o (tVar i)) (ha : PMAs fn X [e] ga) (hbase : attributeBase o "append" X.env (eval o X.env) = eval o X.env := by rfl)
    (hfew : ((backTo cpos (starEach [e] X.env)).all (fun x => !x.1) && (backToKw cpos (keywordEach [] X.env)).all (fun x => x.1.isSome)
      && decide ([e].length + ([] : List Keyword).length + (if ([] : List Keyword).isEmpty then 0 else 1) < 30)) = true := by rfl)
    (hline : (apos.endLine == cpos.line) = true := by rfl) (hs : starEach [e] X.env = (false, eval e X.env) :: starEach [] X.env := by rfl) (hplain : (backTo cpos (starEach [] X.env)).any (·.1) = false := by rfl) :
    PMx fn X (.Call (.Attribute o "append" apos) [e] [] cpos) (mMeth i kApp ga) := pmx_meth PySem.F.plainAttrs_list PySem.F.slot_list_append PySem.F.type_list_append m_app ho ha hbase hfew hline hs hplain
theorem pmx_ext (ho : PE X o (tVar i)) (ha : PMAs fn X [e] ga) (hbase : attributeBase o "extend" X.env (eval o X.env) = eval o X.env := by rfl)
    (hfew : ((backTo cpos (starEach [e] X.env)).all (fun x => !x.1) && (backToKw cpos (keywordEach [] X.env)).all (fun x => x.1.isSome)
      && decide ([e].length + ([] : List Keyword).length + (if ([] : List Keyword).isEmpty then 0 else 1) < 30)) = true := by rfl)
    (hline : (apos.endLine == cpos.line) = true := by rfl) (hs : starEach [e] X.env = (false, eval e X.env) :: starEach [] X.env := by rfl) (hplain : (backTo cpos (starEach [] X.env)).any (·.1) = false := by rfl) :
    PMx fn X (.Call (.Attribute o "extend" apos) [e] [] cpos) (mMeth i kExt ga) := pmx_meth PySem.F.plainAttrs_list PySem.F.slot_list_extend PySem.F.type_list_extend m_ext ho ha hbase hfew hline hs hplain
theorem pmx_pop (ho : PE X o (tVar i)) (hbase : attributeBase o "pop" X.env (eval o X.env) = eval o X.env := by rfl) (hline : (apos.endLine == cpos.line) = true := by rfl) :
    PMx fn X (.Call (.Attribute o "pop" apos) [] [] cpos) (mMeth i kPop mNil) := pmx_meth0 PySem.F.plainAttrs_list PySem.F.slot_list_pop PySem.F.type_list_pop m_pop ho hbase hline
theorem pmx_popAt (ho : PE X o (tVar i)) (ha : PMAs fn X [e] ga) (hbase : attributeBase o "pop" X.env (eval o X.env) = eval o X.env := by rfl)
    (hfew : ((backTo cpos (starEach [e] X.env)).all (fun x => !x.1) && (backToKw cpos (keywordEach [] X.env)).all (fun x => x.1.isSome)
      && decide ([e].length + ([] : List Keyword).length + (if ([] : List Keyword).isEmpty then 0 else 1) < 30)) = true := by rfl)
    (hline : (apos.endLine == cpos.line) = true := by rfl) (hs : starEach [e] X.env = (false, eval e X.env) :: starEach [] X.env := by rfl) (hplain : (backTo cpos (starEach [] X.env)).any (·.1) = false := by rfl) :
    PMx fn X (.Call (.Attribute o "pop" apos) [e] [] cpos) (mMeth i kPopAt ga) := pmx_meth PySem.F.plainAttrs_list PySem.F.slot_list_pop PySem.F.type_list_pop m_popAt ho ha hbase hfew hline hs hplain
theorem pmx_ins {e' : Expr} (ho : PE X o (tVar i)) (ha : PMAs fn X [e, e'] ga) (hbase : attributeBase o "insert" X.env (eval o X.env) = eval o X.env := by rfl)
    (hfew : ((backTo cpos (starEach [e, e'] X.env)).all (fun x => !x.1) && (backToKw cpos (keywordEach [] X.env)).all (fun x => x.1.isSome)
      && decide ([e, e'].length + ([] : List Keyword).length + (if ([] : List Keyword).isEmpty then 0 else 1) < 30)) = true := by rfl)
    (hline : (apos.endLine == cpos.line) = true := by rfl) (hs : starEach [e, e'] X.env = (false, eval e X.env) :: starEach [e'] X.env := by rfl) (hplain : (backTo cpos (starEach [e'] X.env)).any (·.1) = false := by rfl) :
    PMx fn X (.Call (.Attribute o "insert" apos) [e, e'] [] cpos) (mMeth i kIns ga) := pmx_meth PySem.F.plainAttrs_list PySem.F.slot_list_insert PySem.F.type_list_insert m_ins ho ha hbase hfew hline hs hplain
theorem intsD_eq : ∀ {xs : List D} {ns : List Int}, intsD xs = some ns → xs = ns.map .int
  | [], ns, e => by cases e; rfl
  | .int i :: xs, ns, e => by
    unfold intsD at e
    cases h : intsD xs with
    | none => rw [h] at e; cases e
    | some r => rw [h] at e; cases e; rw [intsD_eq h]; rfl
  | .non :: _, _, e => by cases e
  | .bl _ :: _, _, e => by cases e
  | .str _ :: _, _, e => by cases e
  | .tup _ :: _, _, e => by cases e
  | .lst _ :: _, _, e => by cases e
  | .dct _ :: _, _, e => by cases e
  | .tok _ :: _, _, e => by cases e
theorem RpL.mk_ints {m : Pm} {bo : Bo} {F : Addr → Prop} {H : Hp} : ∀ (ns : List Int), RpL m bo F H (ns.map .int) (ns.map V.int)
  | [] => RpL.nil
  | n :: ns => RpL.cons (by simp [Rp]) (RpL.mk_ints ns)
/-- the remove that finds it; noV: no exception goes out -/
theorem pmx_rem {W : WX} (hc : X.calm = true) (tk : Takes X W) (ho : PE X o (tVar i)) (ha : PEx fn X e f) (hbase : attributeBase o "remove" X.env (eval o X.env) = eval o X.env := by rfl)
    (hfew : ((backTo cpos (starEach [e] X.env)).all (fun x => !x.1) && (backToKw cpos (keywordEach [] X.env)).all (fun x => x.1.isSome)
      && decide (([e] : List Expr).length + ([] : List Keyword).length + (if ([] : List Keyword).isEmpty then 0 else 1) < 30)) = true := by rfl)
    (hline : (apos.endLine == cpos.line) = true := by rfl) (hs : starEach [e] X.env = (false, eval e X.env) :: starEach [] X.env := by rfl) (hplain : (backTo cpos (starEach [] X.env)).any (·.1) = false := by rfl) :
    PMx fn X (.Call (.Attribute o "remove" apos) [e] [] cpos) (mMeth i kRem (mOne (mUp f))) := PE.imp (pe_remX hc tk ho ha hbase hfew hline hs hplain) fun σ H Q ⟨H0, F0, bo, ρ, F, b, R, r, ρ', b', e, q⟩ => by
  unfold mMeth mOne mUp at e
  split at e
  · rename_i xs0 hi
    split at e
    · rename_i ds ρ1 b1 e1
      split at e1
      · rename_i d ρ2 b2 e2
        cases e1
        split at e2
        · rename_i d3 b3 e3
          cases e2
          split at e
          · rename_i xs hi1
            split at e
            · rename_i r' ys ek
              cases e
              unfold kRem at ek
              split at ek
              · rename_i kk hkk
                cases hkk
                split at ek
                · rename_i ns hns
                  split at ek
                  · rename_i hmem
                    cases ek
                    obtain ⟨a, h1, nf, nb, h0, us0, hu0, hz0, ru0⟩ := R.own i _ hi
                    refine ⟨_, h1, .inl ⟨rfl, us0, SqL.of hu0⟩, H0, F0, bo, _, F, b, R, _, _, e3, fun v F' H' g hb rv => ?_⟩
                    have R' := R.grow g hb
                    obtain ⟨a', h1', nf', nb', h0', us, hu, hz, ru⟩ := R'.own i _ hi1
                    rw [h1] at h1'; cases h1'
                    rw [intsD_eq hns] at ru
                    have eu := ru.ints
                    subst eu
                    simp only [Rp] at rv
                    refine ⟨a, ns, kk, rfl, rv, hu, fun _ => ?_, fun hn => absurd hmem hn⟩
                    have hzz : ((ns.erase kk).map V.int).length ≤ sizeLine := by
                      rw [List.length_map]
                      have := List.length_erase_le (a := kk) (l := ns)
                      rw [List.length_map] at hz
                      omega
                    obtain ⟨R2, k2⟩ := R'.mut hi1 h1 (d' := .lst ((ns.erase kk).map .int)) (o := .lst ((ns.erase kk).map V.int)) fun k2 => ⟨_, upd_same, hzz, RpL.mk_ints _⟩
                    exact q .non F' _ R2 ((R.fkg g).trans k2) (by simp [Rp])
                  · cases ek
                · cases ek
              · cases ek
            · cases e
          · cases e
        · cases e2
      · cases e1
    · cases e
  · cases e

/-! ### statements -/
def sExprM (f : Mx) : SS := fun ρ b => match f ρ b with
  | some (_, ρ1, b1) => some (.nx, ρ1, b1)
  | none => none
def sSetM (i : Nat) (f : Mx) : SS := fun ρ b => match f ρ b with
  | some (d, ρ1, b1) => some (.nx, ρ1.set i (.frz d), b1)
  | none => none
def sAsgM (g : Tg) (f : Mx) : SS := fun ρ b => match f ρ b with
  | some (d, ρ1, b1) => match g d ρ1 with
    | some ρ2 => some (.nx, ρ2, b1)
    | none => none
  | none => none
theorem psx_exprM {f : Mx} (he : PMx fn X e f) (hs : swapsWith e none pos.line X.env = pure false := by rfl) : PSx fn X (.Expr e pos) (sExprM f) := PS.imp (ps_expr he hs) fun D σ H ⟨H0, F0, bo, ρ, F, b, R, fl, ρ', b', e, q⟩ => by
  unfold sExprM at e
  split at e
  · rename_i d ρ1 b1 e1
    cases e
    exact ⟨H0, F0, bo, ρ, F, b, R, _, _, _, e1, fun v F' H' R' k r => q σ F' H' R' k⟩
  · cases e
theorem psx_setM {f : Mx} {i : Nat} {x : Str} {pos' : Pos} (hN : X.N.Nodup) (hi : X.N[i]? = some x) (hx : Loc X.env.scope x) (he : PMx fn X e f) (hs : swapsWith e (some (.Name x pos')) pos.line X.env = pure false := by rfl) (hf : X.fn x = true ∨ X.env.scope.names.lookup x = some .local := by first | exact .inl rfl | exact .inr rfl | assumption) :
    PSx fn X (.Assign [.Name x pos'] e pos) (sSetM i f) := PS.imp (ps_set hN hi hx he hs hf) fun D σ H ⟨H0, F0, bo, ρ, F, b, R, fl, ρ', b', e, q⟩ => by
  unfold sSetM at e
  split at e
  · rename_i d ρ1 b1 e1
    cases e
    exact ⟨H0, F0, bo, ρ, F, b, R, _, _, _, e1, fun v F' H' R' k r => q _ F' H' (R'.set_frz r) k⟩
  · cases e
theorem psx_asgM {f : Mx} {tg : Expr} {sl : List Nat} {g : Tg} (he : PMx fn X e f) (hg : PGx fn X tg sl g) (hs : swapsWithSole [tg] e pos.line X.env = pure false := by rfl) (hw : swappedStores [tg] e X.env = pure none := by rfl)
    (h1 : (assignEach [tg] X.env).map (·.2) = [assign tg X.env] := by rfl) : PSx fn X (.Assign [tg] e pos) (sAsgM g f) := PS.imp (ps_asg he hg hs hw h1) fun D σ H ⟨H0, F0, bo, ρ, F, b, R, fl, ρ', b', e, q⟩ => by
  unfold sAsgM at e
  split at e
  · rename_i d ρ1 b1 e1
    split at e
    · rename_i ρ2 e2
      cases e
      refine ⟨H0, F0, bo, ρ, F, b, R, _, _, _, e1, fun v F' H' R' k r => ?_⟩
      exact ⟨H0, F0, bo, ρ1, F', _, R', d, _, r, e2, fun σ' R2 _ => q σ' F' H' R2 k⟩
    · cases e
  · cases e
/-- xs[i] = e, xs a slot's list -/
def sStore (i : Nat) (fi fe : Ex) : SS := fun ρ b => match fe ρ b with
  | some (d, b1) => match ρ[i]? with
    | some (.own (.lst xs)) => match fi ρ b1 with
      | some (.int k, b2) => match ixN xs.length k with
        | some j => some (.nx, ρ.set i (.own (.lst (xs.set j d))), b2)
        | none => none
      | _ => none
    | _ => none
  | none => none
theorem psx_store {tpos : Pos} (ho : PE X o (tVar i)) (hi : PEx fn X c g) (he : PEx fn X e f)
    (ha : ∀ v, assign (.Subscript o c tpos) X.env v = (do
      let ov ← holding [v] (eval o X.env)
      let iv ← holding [v, ov] (eval c X.env)
      standAt tpos
      holding [v, ov, iv] (setItem ov iv v)
      release [v, ov, iv] []) := by intro _; rfl) (hs : swapsWithSole [.Subscript o c tpos] e pos.line X.env = pure false := by rfl) (hw : swappedStores [.Subscript o c tpos] e X.env = pure none := by rfl)
    (h1 : (assignEach [.Subscript o c tpos] X.env).map (·.2) = [assign (.Subscript o c tpos) X.env] := by rfl) :
    PSx fn X (.Assign [.Subscript o c tpos] e pos) (sStore i g f) := PS.imp (ps_asg he (pg_sub ho hi set_list ha) hs hw h1) fun D σ H ⟨H0, F0, bo, ρ, F, b, R, fl, ρ', b', e, q⟩ => by
  unfold sStore at e
  split at e
  · rename_i d b1 e1
    split at e
    · rename_i xs hi
      split at e
      · rename_i k b2 e2
        split at e
        · rename_i j hj
          cases e
          refine ⟨H0, F0, bo, ρ, F, b, R, d, b1, e1, fun v F1 H1 g1 hb1 r1 => ?_⟩
          have R1 := R.grow g1 hb1
          obtain ⟨a, h1, nf, nb, h0, us, hu, hz, ru⟩ := R1.own i _ hi
          refine ⟨_, h1, H0, F0, bo, ρ, F1, b1, R1, .int k, _, e2, fun iv F2 H2 g2 hb2 r2 => ?_⟩
          simp only [Rp] at r2
          have R2 := R1.grow g2 hb2
          obtain ⟨a', h1', nf', nb', h0', us, hu, hz, ru⟩ := R2.own i _ hi
          rw [h1] at h1'; cases h1'
          refine ⟨a, us, k, j, rfl, r2, hu, by rw [ru.length]; exact hj, ?_⟩
          obtain ⟨R3, k3⟩ := R2.mut hi h1 (d' := .lst (xs.set j d)) (o := .lst (us.set j v)) fun k3 => ⟨_, upd_same, by simpa using hz, (ru.set j (r1.fk (R1.fkg g2))).fk k3⟩
          exact q σ F2 _ R3 (((R.fkg g1).trans (R1.fkg g2)).trans k3)
        · cases e
      · cases e
    · cases e
  · cases e
/-- name op= e, numbers -/
def sAugI (i : Nat) (k : Int → Int → Int) (f : Ex) : SS := fun ρ b => match ρ[i]? with
  | some (.frz (.int x)) => match f ρ b with
    | some (.int y, b1) => some (.nx, ρ.set i (.frz (.int (k x y))), b1)
    | _ => none
  | _ => none
theorem psx_augI {op : Operator} {k : Int → Int → Int} {x : Str} {pos' : Pos} (ho : PIp X op (ipI k)) (hN : X.N.Nodup) (hi : X.N[i]? = some x) (hx : Loc X.env.scope x) (he : PEx fn X e f) (hf : X.fn x = true ∨ X.env.scope.names.lookup x = some .local := by first | exact .inl rfl | exact .inr rfl | assumption) :
    PSx fn X (.AugAssign (.Name x pos') op e pos) (sAugI i k f) := PS.imp (ps_aug hN hi hx he ho hf) fun D σ H ⟨H0, F0, bo, ρ, F, b, R, fl, ρ', b', e, q⟩ => by
  unfold sAugI at e
  split at e
  · rename_i x hx
    split at e
    · rename_i y b1 e1
      cases e
      obtain ⟨v, h1, h2⟩ := R.frz i _ hx
      simp only [Rp] at h2
      refine ⟨v, h1, H0, F0, bo, ρ, F, b, R, _, _, e1, fun w F1 H1 g1 hb1 r1 => ?_⟩
      simp only [Rp] at r1
      exact ⟨x, y, h2, r1, q _ F1 H1 ((R.grow g1 hb1).set_frz (by simp [Rp])) (R.fkg g1)⟩
    · cases e
  · cases e
/-- xs[i] op= e, xs a slot's list of numbers -/
def sAugS (i : Nat) (k : Int → Int → Int) (fi fe : Ex) : SS := fun ρ b => match ρ[i]? with
  | some (.own (.lst xs)) => match fi ρ b with
    | some (.int z, b1) => match ixN xs.length z with
      | some j => match xs[j]? with
        | some (.int x) => match fe ρ b1 with
          | some (.int y, b2) => some (.nx, ρ.set i (.own (.lst (xs.set j (.int (k x y))))), b2)
          | _ => none
        | _ => none
      | none => none
    | _ => none
  | _ => none
def rGetL : V → V → Hp → VK → Prop := fun o i H Q => ∃ p us z j v, o = .ref p ∧ i = .int z ∧ H p = some (.lst us) ∧ ixN us.length z = some j ∧ us[j]? = some v ∧ Q v H
theorem get_list : PGet X rGetL := by
  intro pins s σ H o i ov iv Q I ro ri ⟨p, us, z, j, v, e1, e2, hp, hj, hv, q⟩
  subst e1 e2
  cases ro
  obtain ⟨t, rfl⟩ := ri
  obtain ⟨its, n, r, ho, hz⟩ := I.lst hp
  obtain ⟨h1, h2, h3, h4⟩ := ixN_seq hj
  obtain ⟨w, ew, rw'⟩ := r.get hv
  have hl := r.length
  have hn := line63
  have pl : s.heap.IsList p its.toArray := PySem.IsL.isList ho
  by_cases h0 : 0 ≤ z
  · have hk : z.toNat = j := by
      rw [seqIndex_of h0 h4] at h1
      exact Option.some.inj h1
    exact wpAny_getItem_list pl h0 (by omega) (x := w) (by rw [hk]; simpa using ew) ⟨v, H, I, rw', q⟩
  · have hk : (z + (its.toArray.size : Int)).toNat = j := by
      rw [seqIndex_neg (by omega) h3] at h1
      rw [List.size_toArray, ← hl]
      exact Option.some.inj h1
    exact wpAny_getItem_list_neg pl (by omega) (by rw [List.size_toArray] <;> omega) (by omega) (x := w) (by rw [hk]; simpa using ew) ⟨v, H, I, rw', q⟩
theorem psx_augS {op : Operator} {k : Int → Int → Int} {tpos : Pos} (hp : PIp X op (ipI k)) (ho : PE X o (tVar i)) (hi : PEx fn X c g) (he : PEx fn X e f)
    (ha : ∀ ov iv new, augStore c ov iv new = (do holding [new, ov, iv] (setItem ov iv new); release [new, ov, iv] []; pure .next) := by intros; rfl) :
    PSx fn X (.AugAssign (.Subscript o c tpos) op e pos) (sAugS i k g f) := PS.imp (ps_augS ho hi get_list he hp set_list ha) fun D σ H ⟨H0, F0, bo, ρ, F, b, R, fl, ρ', b', e, q⟩ => by
  unfold sAugS at e
  split at e
  · rename_i xs hi
    split at e
    · rename_i z b1 e1
      split at e
      · rename_i j hj
        split at e
        · rename_i x hx
          split at e
          · rename_i y b2 e2
            cases e
            obtain ⟨a, h1, nf, nb, h0, us, hu, hz, ru⟩ := R.own i _ hi
            refine ⟨_, h1, H0, F0, bo, ρ, F, b, R, _, _, e1, fun iv F1 H1 g1 hb1 r1 => ?_⟩
            simp only [Rp] at r1
            have R1 := R.grow g1 hb1
            obtain ⟨a', h1', nf', nb', h0', us, hu, hz, ru⟩ := R1.own i _ hi
            rw [h1] at h1'; cases h1'
            obtain ⟨w, hw, rw'⟩ := ru.get hx
            simp only [Rp] at rw'
            refine ⟨a, us, z, j, w, rfl, r1, hu, by rw [ru.length]; exact hj, hw, H0, F0, bo, ρ, F1, b1, R1, _, _, e2, fun u F2 H2 g2 hb2 r2 => ?_⟩
            simp only [Rp] at r2
            have R2 := R1.grow g2 hb2
            obtain ⟨a', h1', nf', nb', h0', us, hu, hz, ru⟩ := R2.own i _ hi
            rw [h1] at h1'; cases h1'
            refine ⟨x, y, rw', r2, a, us, z, j, rfl, r1, hu, by rw [ru.length]; exact hj, ?_⟩
            obtain ⟨R3, k3⟩ := R2.mut hi h1 (d' := .lst (xs.set j (.int (k x y)))) (o := .lst (us.set j (.int (k x y)))) fun k3 => ⟨_, upd_same, by simpa using hz, (ru.set j (by simp [Rp])).fk k3⟩
            exact q σ F2 _ R3 (((R.fkg g1).trans (R1.fkg g2)).trans k3)
          · cases e
        · cases e
      · cases e
    · cases e
  · cases e
end
end Sv

set_option maxHeartbeats 4000000
/-! Sv11: what a def promises, calls. -/
namespace Sv
open PySem L2
open PyProof.Rows (envOfC)

/-- the promise of a def of n parameters that computes F -/
def spD (m : Pm) (n : Nat) (Fs : Fn) : Sp := fun vs H Q _ => ∃ bo F b, Wo bo F H b ∧ ∃ ds d b', RpL m bo F H ds vs ∧ ds.length = n ∧ Fs ds b = some (d, b') ∧
  ∀ v F' H', Grow bo F H F' H' → BoxOk bo F' H' b' → Rp m bo F' H' d v → Q v H'
theorem spD_len {m : Pm} {n : Nat} {Fs : Fn} (vs : List V) (H : Hp) (Q : VK) (E : XK) (h : spD m n Fs vs H Q E) : vs.length = n := by
  obtain ⟨bo, F, b, W, ds, d, b', r, hl, _⟩ := h
  rw [r.length, hl]
/-- a def with no promise kept: never called -/
def noFn : Fn := fun _ _ => none
theorem fn_none {P : Program} {w : World} {K : PySem.W.Frag} {mg : Str → Option Value} {base : Heap} {k : Nat} {f : Addr} {fd : FuncData} {ps : List Str} {m : Pm} (n : Nat) (hn : ps.length = n) : FnOk P w K mg base CX0 k f fd ps (spD m n noFn) :=
  ⟨fun vs H Q E h => (spD_len vs H Q E h).trans hn.symm, fun A outer s H args us vs Q E _ _ _ _ h => by
    obtain ⟨_, _, _, _, _, _, _, _, _, e, _⟩ := h
    cases e⟩
/-- the names at the entry -/
theorem rel_start {m : Pm} {bo : Bo} {F : Addr → Prop} {H : Hp} {b : Bx} {N : List Str} {ds : List D} {vs : List V} (W : Wo bo F H b) (r : RpL m bo F H ds vs) : Rel m H F bo (L2.start N vs) (ds.map Sl.frz ++ List.replicate (N.length - ds.length) Sl.emp) F H b := by
  have hl := r.length
  refine ⟨⟨W.box, fun a o e _ => e, fun a e => e, fun _ h => h, fun _ h => .inl h, W.dom⟩, ?_, fun i d e => ?_, fun i d e => ?_, fun i j di dj a _ e => ?_⟩
  · unfold L2.start
    simp [hl]
  · by_cases hi : i < ds.length
    · rw [List.getElem?_append_left (by simpa using hi), List.getElem?_map] at e
      cases ed : ds[i]? with
      | none => rw [ed] at e; cases e
      | some d' =>
        rw [ed] at e; cases e
        obtain ⟨v, e1, e2⟩ := r.get ed
        refine ⟨v, ?_, e2⟩
        unfold L2.start
        rw [List.getElem?_append_left (by simp; omega), List.getElem?_map, e1]
        rfl
    · rw [List.getElem?_append_right (by simpa using hi), List.getElem?_replicate] at e
      split at e <;> cases e
  · exfalso
    by_cases hi : i < ds.length
    · rw [List.getElem?_append_left (by simpa using hi), List.getElem?_map] at e
      cases ed : ds[i]? with
      | none => rw [ed] at e; cases e
      | some d' => rw [ed] at e; cases e
    · rw [List.getElem?_append_right (by simpa using hi), List.getElem?_replicate] at e
      split at e <;> cases e
  · exfalso
    by_cases hi : i < ds.length
    · rw [List.getElem?_append_left (by simpa using hi), List.getElem?_map] at e
      cases ed : ds[i]? with
      | none => rw [ed] at e; cases e
      | some d' => rw [ed] at e; cases e
    · rw [List.getElem?_append_right (by simpa using hi), List.getElem?_replicate] at e
      split at e <;> cases e
/-- THE RULE for a def -/
theorem fn_sv {P : Program} {w : World} {K : PySem.W.Frag} {mg : Str → Option Value} {base : Heap} {k : Nat} {f : Addr} {fd : FuncData} {x qual : Str} {st : Stmt} {N ps : List Str} {fn : Nat → Option V} {n : Nat} (F : Fun K x qual st f fd) (S : FnScope N ps (defScope st)) (hn : ps.length = n) (s : SS)
    (hb : ∀ (cdv : Value) (A : Around) (outer : List Env) (s0 : Shared) (H : Hp) (E : XK), Room k (A.deeper (envOfC qual (defScope st) s0.heap.objs.size f cdv)) →
      PSsx fn (cxOf CX0 P w K mg base N qual (defScope st) f cdv A outer s0 H E).nox (defBody st) s) : FnOk P w K mg base CX0 (k + 1) f fd ps (spD ⟨P, w, K, fn⟩ n (runF N.length s)) := by
  refine F.ok S (fun vs H Q E h => (spD_len vs H Q E h).trans hn.symm) fun cdv A outer s0 H vs Q E hr ⟨bo, F, b, W, ds, d, b', r, hl, e, q⟩ => ⟨_, hb cdv A outer s0 H E hr, ?_⟩
  have R : Rel ⟨P, w, K, fn⟩ H F bo (L2.start N vs) (ds.map Sl.frz ++ List.replicate (N.length - ds.length) Sl.emp) F H b := rel_start W r
  unfold runF at e
  split at e
  · rename_i d' ρ1 b1 e1
    cases e
    exact ⟨H, F, bo, _, F, b, R, _, _, _, e1, fun v F' H' c r => q v F' H' ⟨c.keep, c.free, c.sub, c.new, c.dom⟩ c.box r⟩
  · rename_i ρ1 b1 e1
    cases e
    exact ⟨H, F, bo, _, F, b, R, _, _, _, e1, fun σ' F' H' R' _ => q .non F' H' ⟨R'.core.keep, R'.core.free, R'.core.sub, R'.core.new, R'.core.dom⟩ R'.core.box (by simp [Rp])⟩
  · cases e

/-! ### calls -/
/-- a def that may be called by its name -/
structure Cal (P : Program) (w : World) (K : PySem.W.Frag) (mg : Str → Option Value) (base : Heap) (A : Around) (fn : Nat → Option V) (x : Str) (n : Nat) (Fs : Fn) : Prop where
  ex : ∃ (k : Nat) (f : Addr) (fd : FuncData) (ps : List Str), FnOk P w K mg base CX0 k f fd ps (spD ⟨P, w, K, fn⟩ n Fs) ∧ Room k A ∧ mg x = some (.ref f) ∧ PySem.W.keepIn K (.ref f) = true ∧ Binds K fd ps []
/-- a def of the text -/
structure Df (K : PySem.W.Frag) (mg : Str → Option Value) (x : Str) (st : Stmt) (ps : List Str) (f : Addr) (fd : FuncData) : Prop where
  fu : L2.Fun K x x st f fd
  mg : mg x = some (.ref f)
  bi : Binds K fd ps []
theorem Df.cal {P : Program} {w : World} {K : PySem.W.Frag} {mg : Str → Option Value} {base : Heap} {A : Around} {fn : Nat → Option V} {x : Str} {n : Nat} {Fs : Fn} {st : Stmt} {ps : List Str} {f : Addr} {fd : FuncData} {k j : Nat} (d : Df K mg x st ps f fd)
    (F : FnOk P w K mg base CX0 k f fd ps (spD ⟨P, w, K, fn⟩ n Fs)) (hr : Room j A) (h : k ≤ j := by omega) : Cal P w K mg base A fn x n Fs := ⟨k, f, fd, ps, F, hr.mono h, d.mg, d.fu.kp, d.bi⟩
section
variable {fn : Nat → Option V} {X : Cx} {e : Expr} {es : List Expr} {x : Str} {p pos : Pos} {n : Nat} {Fs : Fn} {ag : As}
theorem call_o {m : Pm} {σ : St} {H : Hp} {Q : VK} (hl : ∀ ρ b ds b', ag ρ b = some (ds, b') → ds.length = n) (h : tEx m (eCall Fs ag) σ H Q) : tCall (spD m n Fs) [] E0 (tAs m ag) σ H Q := by
  obtain ⟨H0, F0, bo, ρ, F, b, R, d, b', e, q⟩ := h
  unfold eCall at e
  split at e
  · rename_i ds b1 e1
    refine ⟨H0, F0, bo, ρ, F, b, R, ds, b1, e1, fun vs F1 H1 g1 hb1 r1 => ?_⟩
    show spD m n Fs (vs ++ []) H1 Q E0
    rw [List.append_nil]
    exact ⟨bo, F1, b1, ⟨hb1, g1.dom⟩, ds, d, b', r1, hl _ _ _ _ e1, e, fun v F' H' g hb r => q v F' H' (g1.trans g) hb r⟩
  · cases e
theorem px_call (c : Cal X.prog X.w X.K X.mg X.base X.A fn x n Fs) (hg : Gl X x) (ha : PAs fn X (e :: es) ag) (hn : (e :: es).length = n := by rfl) (hdb : (x == ("__debug__" : Str)) = false := by decide) (he : starEach (e :: es) X.env = (false, eval e X.env) :: starEach es X.env := by rfl) (hpl : (backTo pos (starEach es X.env)).any (·.1) = false := by rfl) :
    PEx fn X (.Call (.Name x p) (e :: es) [] pos) (eCall Fs ag) := by
  obtain ⟨k, f, fd, ps, F, hr, hm, hk, hb⟩ := c.ex
  exact PE.imp (pe_call F hr hg hm hk hb .nil pass0 ha.pa hdb he hpl) fun _ _ _ h => call_o (fun ρ b ds b' e => (ha.len ρ b ds b' e).trans hn) h
theorem px_call0 (c : Cal X.prog X.w X.K X.mg X.base X.A fn x 0 Fs) (hg : Gl X x) (hdb : (x == ("__debug__" : Str)) = false := by decide) : PEx fn X (.Call (.Name x p) [] [] pos) (eCall Fs aNil) := by
  obtain ⟨k, f, fd, ps, F, hr, hm, hk, hb⟩ := c.ex
  refine PE.imp (pe_call0 F hr hg hm hk hb .nil pass0 hdb) fun σ H Q h => ?_
  obtain ⟨H0, F0, bo, ρ, F, b, R, d, b', e, q⟩ := h
  exact ⟨bo, F, b, R.wo, [], d, b', RpL.nil, rfl, e, fun v F' H' g hb r => q v F' H' g hb r⟩
/-- .. things of one's own lent -/
theorem lend {m : Pm} {bo : Bo} {H : Hp} {b : Bx} : ∀ {ds : List D} {vs : List V} {F : Addr → Prop}, Wo bo F H b → RpOL m bo F H ds vs → ∃ F2 : Addr → Prop, (∀ a, F a → F2 a) ∧ Wo bo F2 H b ∧ RpL m bo F2 H ds vs
  | [], vs, F, W, h => ⟨F, fun _ h => h, W, by simpa [RpL, RpOL] using h⟩
  | d :: ds, vs, F, W, h => by
    simp only [RpOL] at h
    obtain ⟨v, r, rfl, h1, h2⟩ := h
    have key : ∀ F1 : Addr → Prop, (∀ a, F a → F1 a) → FK F H F1 H → Wo bo F1 H b → Rp m bo F1 H d v → ∃ F2 : Addr → Prop, (∀ a, F a → F2 a) ∧ Wo bo F2 H b ∧ RpL m bo F2 H (d :: ds) (v :: r) := fun F1 hs k W1 r1 => by
      -- the others too
      have h2' : RpOL m bo F1 H ds r := by
        clear h1
        have : ∀ {ds : List D} {r : List V}, RpOL m bo F H ds r → RpOL m bo F1 H ds r := by
          intro ds
          induction ds with
          | nil => intro r h; exact h
          | cons d ds ih =>
            intro r h
            simp only [RpOL] at h ⊢
            obtain ⟨v, r, rfl, q1, q2⟩ := h
            refine ⟨v, r, rfl, ?_, ih q2⟩
            rcases q1 with q1 | ⟨a, rfl, nb, nf, ow⟩
            · exact .inl (q1.fk k)
            · by_cases hf : F1 a
              · refine .inl ?_
                have ow' := ow.fk (F' := F1) k rfl
                cases d with
                | lst xs => obtain ⟨us, s, z, r⟩ := ow'; simp only [Rp]; exact ⟨a, us, rfl, hf, s, z, r⟩
                | dct kvs => simp only [Rp]; exact ⟨a, rfl, hf, ow'⟩
                | _ => exact (show False from ow').elim
              · exact .inr ⟨a, rfl, nb, hf, ow.fk k rfl⟩
        exact this h2
      obtain ⟨F2, s2, W2, r2⟩ := lend (F := F1) W1 h2'
      have k2 : FK F1 H F2 H := ⟨s2, fun _ _ => rfl, fun _ _ h _ => h⟩
      exact ⟨F2, fun a h => s2 a (hs a h), W2, RpL.cons (r1.fk k2) r2⟩
    rcases h1 with h1 | ⟨a, rfl, nb, nf, ow⟩
    · exact key F (fun _ h => h) (FK.refl _ _) W h1
    · obtain ⟨k, hb, dm, r1⟩ := freeze W nb ow
      exact key _ (fun _ h => .inl h) k ⟨hb, dm⟩ r1
theorem callO_o {m : Pm} {σ : St} {H : Hp} {Q : VK} (hl : ∀ ρ b ds b', ag ρ b = some (ds, b') → ds.length = n) (h : tEx m (eCallO Fs ag) σ H Q) : tCall (spD m n Fs) [] E0 (tAo m ag) σ H Q := by
  obtain ⟨H0, F0, bo, ρ, F, b, R, d, b', e, q⟩ := h
  unfold eCallO at e
  split at e
  · rename_i ds b1 e1
    split at e
    · rename_i d2 b2 e2
      split at e
      · rename_i hfl
        cases e
        refine ⟨H0, F0, bo, ρ, F, b, R, ds, b1, e1, fun vs F1 H1 g1 hb1 r1 => ?_⟩
        show spD m n Fs (vs ++ []) H1 Q E0
        rw [List.append_nil]
        have R1 := R.grow g1 hb1
        obtain ⟨F2, s2, W2, r2⟩ := lend R1.wo r1
        refine ⟨bo, F2, b1, W2, ds, d, _, r2, hl _ _ _ _ e1, e2, fun v F' H' g hb r => ?_⟩
        have g2 : Grow bo F1 H1 F1 H' := ⟨g.keep, g.free, fun _ h => h, fun _ h => .inl h, fun a f => g.dom a (g.sub a (s2 a f))⟩
        refine q v F1 H' (g1.trans g2) ?_ (Rp.flat d v hfl r)
        cases bo with
        | none => trivial
        | some pq =>
          obtain ⟨p, q'⟩ := pq
          obtain ⟨a1, a2, a3, a4, a5⟩ := hb
          exact ⟨a1, fun z => a2 (g.sub _ (s2 _ z)), fun z => a3 (g.sub _ (s2 _ z)), a4, a5⟩
      · cases e
    · cases e
  · cases e
theorem px_callO (c : Cal X.prog X.w X.K X.mg X.base X.A fn x n Fs) (hg : Gl X x) (ha : PAo fn X (e :: es) ag) (hn : (e :: es).length = n := by rfl) (hdb : (x == ("__debug__" : Str)) = false := by decide) (he : starEach (e :: es) X.env = (false, eval e X.env) :: starEach es X.env := by rfl) (hpl : (backTo pos (starEach es X.env)).any (·.1) = false := by rfl) :
    PEx fn X (.Call (.Name x p) (e :: es) [] pos) (eCallO Fs ag) := by
  obtain ⟨k, f, fd, ps, F, hr, hm, hk, hb⟩ := c.ex
  exact PE.imp (pe_call F hr hg hm hk hb .nil pass0 ha.pa hdb he hpl) fun _ _ _ h => callO_o (fun ρ b ds b' e => (ha.len ρ b ds b' e).trans hn) h
end
end Sv

set_option maxHeartbeats 4000000
/-! Sv12: the law's random source. -/
namespace Sv
open PySem L2
open PyProof.Rows (envOfC)

def restB (b : Bx) : Int × Bx :=
  let first := (b.y * 48271 + 17).fmod 2147483629
  let second := (first * 69621 + 5).fmod 2147483587
  let y := (second * 40692 + 3).fmod 2147483563
  (first * 4611686014132420609 + second * 2147483647 + y, ⟨b.cs, b.x, y⟩)
def sizeB (c : Int) : Int := if 0 ≤ c then 2 * c else -2 * c - 1
def loadB (b : Bx) : Int × Bx := match b.cs with
  | c :: cs => if 1000000000000000000 ≤ sizeB c then (sizeB c, ⟨cs, b.x, b.y⟩) else restB ⟨cs, b.x, (b.y * 69621 + sizeB c * 48271 + 11).fmod 2147483647⟩
  | [] => restB b
def fillB (b : Bx) (many : Int) : Bx := if b.x < many then ⟨(loadB b).2.cs, (loadB b).1, (loadB b).2.y⟩ else b
def drawB (b : Bx) (many : Int) : Int × Bx := ((fillB b many).x.fmod many, ⟨(fillB b many).cs, (fillB b many).x.fdiv many, (fillB b many).y⟩)
/-- _law_draw -/
def drawF : Fn := fun ds b => match ds with
  | [.tok 0, .int many] => if many ≠ 0 ∧ many.natAbs < 2 ^ 30 then some (.int (drawB b many).1, (drawB b many).2) else none
  | _ => none
/-- the source stands at p, its cells at q -/
def BSt (p q : Addr) (b : Bx) (H : Hp) : Prop := p ≠ q ∧ H p = some (.lst [.ref q, .int b.x, .int b.y]) ∧ H q = some (.lst (b.cs.map .int))
def Off (p q : Addr) (H H' : Hp) : Prop := ∀ a, a ≠ p → a ≠ q → H' a = H a
theorem Off.refl {p q : Addr} {H : Hp} : Off p q H H := fun _ _ _ => rfl
theorem Off.trans {p q : Addr} {H H1 H2 : Hp} (a : Off p q H H1) (b : Off p q H1 H2) : Off p q H H2 := fun c h1 h2 => (b c h1 h2).trans (a c h1 h2)
theorem Off.updp {p q : Addr} {H : Hp} {o : HO} : Off p q H (upd H p o) := fun _ h _ => upd_ne h
theorem Off.updq {p q : Addr} {H : Hp} {o : HO} : Off p q H (upd H q o) := fun _ _ h => upd_ne h
def spBox (K : PySem.W.Frag) : Sp := fun vs H Q _ => ∃ (a : Addr) (ns : List Int), vs = [.ref a] ∧ SqL K H a (ns.map V.int) ∧ ns.length ≤ 63 ∧ ∀ p q H', BSt p q ⟨ns, 0, 4711 + ns.length⟩ H' → Q (.ref p) H'
def spLoad : Sp := fun vs H Q _ => ∃ p q b, vs = [.ref p] ∧ BSt p q b H ∧ ∀ H', Off p q H H' → BSt p q (loadB b).2 H' → Q (.int (loadB b).1) H'
def spDraw : Sp := fun vs H Q _ => ∃ p q b many, vs = [.ref p, .int many] ∧ many ≠ 0 ∧ many.natAbs < 2 ^ 30 ∧ BSt p q b H ∧ ∀ H', Off p q H H' → BSt p q (drawB b many).2 H' → Q (.int (drawB b many).1) H'
theorem draw_imp {m : Pm} (vs : List V) (H : Hp) (Q : VK) (E : XK) (h : spD m 2 drawF vs H Q E) : spDraw vs H Q E := by
  obtain ⟨bo, F, b, W, ds, d, b', r, hl, e, k⟩ := h
  unfold drawF at e
  split at e
  · rename_i many
    split at e
    · rename_i hm
      cases e
      simp only [RpL, Rp, Tk] at r
      obtain ⟨_, _, rfl, ⟨p, q, hbo, rfl⟩, _, _, rfl, rfl, rfl⟩ := r
      subst hbo
      obtain ⟨b1, b2, b3, b4, b5⟩ := W.box
      refine ⟨p, q, b, many, rfl, hm.1, hm.2, ⟨b1, b4, b5⟩, fun H' o s => k _ F H' ⟨fun a u e n => ?_, fun a e => ?_, fun _ h => h, fun _ h => .inl h, fun a f => ?_⟩ ⟨b1, b2, b3, s.2.1, s.2.2⟩ (by simp [Rp])⟩
      · rw [o a (fun z => n (.inl z)) (fun z => n (.inr z))]; exact e
      · by_cases h1 : a = p
        · subst h1; rw [s.2.1] at e; cases e
        · by_cases h2 : a = q
          · subst h2; rw [s.2.2] at e; cases e
          · rw [o a h1 h2] at e; exact e
      · rw [o a (fun z => b2 (z ▸ f)) (fun z => b3 (z ▸ f))]; exact W.dom a f
    · cases e
  · cases e
/-- the entry of a law behind its first row -/
theorem rel_law {m : Pm} {σ : St} {p q : Addr} {H : Hp} {b : Bx} {n : Nat} (s : BSt p q b H) (hl : σ.length = n + 2) (h1 : σ[1]? = some (some (V.ref p))) :
    Rel m H (fun _ => False) (some (p, q)) σ (Sl.emp :: Sl.frz (.tok 0) :: List.replicate n Sl.emp) (fun _ => False) H b := by
  refine ⟨⟨⟨s.1, fun h => h, fun h => h, s.2.1, s.2.2⟩, fun a o e _ => e, fun a e => e, fun _ h => h, fun _ h => .inl h, fun _ h => h.elim⟩, by simp [hl], fun i d e => ?_, fun i d e => ?_, fun i j di dj a _ e => ?_⟩
  · match i, e with
    | 1, e => cases e; exact ⟨_, h1, by simp only [Rp, Tk]; exact ⟨p, q, rfl, rfl⟩⟩
    | i + 2, e =>
      exfalso
      simp only [List.getElem?_cons_succ, List.getElem?_replicate] at e
      split at e <;> cases e
  · exfalso
    match i, e with
    | i + 2, e =>
      simp only [List.getElem?_cons_succ, List.getElem?_replicate] at e
      split at e <;> cases e
  · exfalso
    match i, e with
    | i + 2, e =>
      simp only [List.getElem?_cons_succ, List.getElem?_replicate] at e
      split at e <;> cases e
end Sv

set_option maxHeartbeats 4000000
/-! Sv13: the rules in short, for printed derivations. -/
namespace Sv
open PySem L2

theorem rangeD_rg {i j : Int} {xs : List D} (h : rangeD i j = some xs) : RgOk i j ∧ ∀ (m : Pm) (bo : Bo) (F : Addr → Prop) (H : Hp), RpL m bo F H xs (rgV i j) ∧ (rgV i j).length ≤ sizeLine := by
  unfold rangeD at h
  split at h
  · rename_i hc
    cases h
    refine ⟨⟨hc.2.1, hc.2.2.1, hc.2.2.2.1, hc.2.2.2.2, by omega⟩, fun m bo F H => ⟨?_, ?_⟩⟩
    · unfold rgV
      have : ∀ l : List Nat, RpL m bo F H (l.map fun k => D.int (i + (k : Nat))) (l.map fun k => V.int (i + (k : Nat))) := by
        intro l
        induction l with
        | nil => exact RpL.nil
        | cons k l ih => exact RpL.cons (by simp [Rp]) ih
      exact this _
    · rw [rgV_length, sizeLine_eq]; omega
  · cases h
section
variable {fn : Nat → Option V} {X : Cx} {a c e e' : Expr} {es rest : List Expr} {pos p p' p2 : Pos} {f g h : Ex} {t u : Tx} {ag : As} {x : Str} {i : Nat}
theorem pn_lr1 (hm : X.mg "list" = none) (hm2 : X.mg "range" = none) (he : PEx fn X e f) (hc : X.calm = true := by rfl) (hg : Gl X "list" := by rfl) (hg2 : Gl X "range" := by rfl) (na : starEach [e] X.env = (false, eval e X.env) :: starEach [] X.env := by rfl)
    (nb : starEach [.Call (.Name "range" p2) [e] [] p'] X.env = (false, eval (.Call (.Name "range" p2) [e] [] p') X.env) :: starEach [] X.env := by rfl) : PEn fn X (.Call (.Name "list" p) [.Call (.Name "range" p2) [e] [] p'] [] pos) (eFn rlD (aCons f aNil)) :=
  PE.imp (pe_listRg hc hg hm (prg_1 hg2 hm2 he na) nb) fun σ H Q ⟨H0, F0, bo, ρ, F, b, R, d, b', e, q⟩ => by
    unfold eFn aCons at e
    split at e
    · rename_i ds b1 e1
      split at e1
      · rename_i d1 b2 e2
        cases e1
        split at e
        · rename_i r er
          cases e
          unfold rlD at er
          split at er
          · rename_i j hj
            cases hj
            cases hx : rangeD 0 j with
            | none => rw [hx] at er; cases er
            | some xs =>
              rw [hx] at er; cases er
              obtain ⟨h1, h2⟩ := rangeD_rg hx
              refine ⟨H0, F0, bo, ρ, F, b, R, _, _, e2, fun v F' H' g hb r => ⟨j, by simpa [Rp] using r, h1, fun q' hq' => ?_⟩⟩
              obtain ⟨g2, hb2, nf, ow⟩ := new_own (m := pm X fn) (R.grow g hb).wo hq' (h2 (pm X fn) bo F' H').1 (h2 (pm X fn) bo F' H').2
              exact q q' F' _ (g.trans g2) hb2 (g.free q' hq') nf ow
          · rename_i h0; cases h0
          · cases er
        · cases e
      · cases e1
    · cases e
theorem px_tr1 (hm : X.mg "tuple" = none) (hm2 : X.mg "range" = none) (he : PEx fn X e f) (hc : X.calm = true := by rfl) (hg : Gl X "tuple" := by rfl) (hg2 : Gl X "range" := by rfl) (na : starEach [e] X.env = (false, eval e X.env) :: starEach [] X.env := by rfl)
    (nb : starEach [.Call (.Name "range" p2) [e] [] p'] X.env = (false, eval (.Call (.Name "range" p2) [e] [] p') X.env) :: starEach [] X.env := by rfl) : PEx fn X (.Call (.Name "tuple" p) [.Call (.Name "range" p2) [e] [] p'] [] pos) (eFn rtD (aCons f aNil)) :=
  PE.imp (pe_tupRg hc hg hm (prg_1 hg2 hm2 he na) nb) fun σ H Q ⟨H0, F0, bo, ρ, F, b, R, d, b', e, q⟩ => by
    unfold eFn aCons at e
    split at e
    · rename_i ds b1 e1
      split at e1
      · rename_i d1 b2 e2
        cases e1
        split at e
        · rename_i r er
          cases e
          unfold rtD at er
          split at er
          · rename_i j hj
            cases hj
            cases hx : rangeD 0 j with
            | none => rw [hx] at er; cases er
            | some xs =>
              rw [hx] at er; cases er
              obtain ⟨h1, h2⟩ := rangeD_rg hx
              refine ⟨H0, F0, bo, ρ, F, b, R, _, _, e2, fun v F' H' g hb r => ⟨j, by simpa [Rp] using r, h1, fun q' hq' => ?_⟩⟩
              obtain ⟨g2, hb2, r2⟩ := new_tup (m := pm X fn) (R.grow g hb).wo hq' (h2 (pm X fn) bo F' H').1 (h2 (pm X fn) bo F' H').2
              exact q _ F' _ (g.trans g2) hb2 r2
          · rename_i h0; cases h0
          · cases er
        · cases e
      · cases e1
    · cases e
theorem pn_lr2 (hm : X.mg "list" = none) (hm2 : X.mg "range" = none) (he : PEx fn X e f) (he' : PEx fn X e' g) (hc : X.calm = true := by rfl) (hg : Gl X "list" := by rfl) (hg2 : Gl X "range" := by rfl) (na : starEach [e, e'] X.env = (false, eval e X.env) :: starEach [e'] X.env := by rfl)
    (na2 : starEach [e'] X.env = (false, eval e' X.env) :: starEach [] X.env := by rfl) (hp : (backTo p' (starEach [e'] X.env)).any (·.1) = false := by rfl)
    (nb : starEach [.Call (.Name "range" p2) [e, e'] [] p'] X.env = (false, eval (.Call (.Name "range" p2) [e, e'] [] p') X.env) :: starEach [] X.env := by rfl) : PEn fn X (.Call (.Name "list" p) [.Call (.Name "range" p2) [e, e'] [] p'] [] pos) (eFn rlD (aCons f (aCons g aNil))) :=
  PE.imp (pe_listRg hc hg hm (prg_2 hg2 hm2 he he' na na2 hp) nb) fun σ H Q ⟨H0, F0, bo, ρ, F, b, R, d, b', e, q⟩ => by
    unfold eFn aCons at e
    split at e
    · rename_i ds b1 e1
      split at e1
      · rename_i d1 b2 e2
        split at e1
        · rename_i d2 b3 e3
          split at e3
          · rename_i d4 b4 e4
            cases e3
            cases e1
            split at e
            · rename_i r er
              cases e
              unfold rlD at er
              split at er
              · rename_i h0; cases h0
              · rename_i i j hj
                cases hj
                cases hx : rangeD i j with
                | none => rw [hx] at er; cases er
                | some xs =>
                  rw [hx] at er; cases er
                  obtain ⟨h1, h2⟩ := rangeD_rg hx
                  refine ⟨H0, F0, bo, ρ, F, b, R, _, _, e2, fun v F' H' g hb r => ⟨H0, F0, bo, ρ, F', _, R.grow g hb, _, _, e4, fun v2 F2 H2 g2 hb2 r2 => ⟨i, j, by simpa [Rp] using r, by simpa [Rp] using r2, h1, fun q' hq' => ?_⟩⟩⟩
                  obtain ⟨g3, hb3, nf, ow⟩ := new_own (m := pm X fn) ((R.grow g hb).grow g2 hb2).wo hq' (h2 (pm X fn) bo F2 H2).1 (h2 (pm X fn) bo F2 H2).2
                  exact q q' F2 _ ((g.trans g2).trans g3) hb3 ((g.trans g2).free q' hq') nf ow
              · cases er
            · cases e
          · cases e3
        · cases e1
      · cases e1
    · cases e

/-! ### names -/
theorem vx (i : Nat) (hN : X.N[i]? = some x := by rfl) (hv : Vis X.env.scope x := by first | exact Or.inl rfl | exact Or.inr (Or.inl rfl) | exact Or.inr (Or.inr rfl)) (hd : (x == ("__debug__" : Str)) = false := by decide)
    (hcd : (x == ("__classdict__" : Str)) = false := by decide) : PEx fn X (.Name x p) (eVar i) := px_var (pe_var hN hv hd hcd)
theorem vo (i : Nat) (hN : X.N[i]? = some x := by rfl) (hv : Vis X.env.scope x := by first | exact Or.inl rfl | exact Or.inr (Or.inl rfl) | exact Or.inr (Or.inr rfl)) (hd : (x == ("__debug__" : Str)) = false := by decide)
    (hcd : (x == ("__classdict__" : Str)) = false := by decide) : PEo fn X (.Name x p) (eBor i) := po_bor (pe_var hN hv hd hcd)
/-! ### built-ins by name -/
theorem b_len (hm : X.mg "len" = none) (ha : PEo fn X e f) (hg : Gl X "len" := by rfl) (he : starEach [e] X.env = (false, eval e X.env) :: starEach [] X.env := by rfl) : PEx fn X (.Call (.Name "len" p) [e] [] pos) (eFn lenD (aCons f aNil)) :=
  px_fn d_len hg hm (by decide +kernel) (pao_cons ha pao_nil he) (by decide) (by decide) he rfl
theorem b_any (hm : X.mg "any" = none) (ha : PEo fn X e f) (hg : Gl X "any" := by rfl) (hc : X.calm = true := by rfl) (he : starEach [e] X.env = (false, eval e X.env) :: starEach [] X.env := by rfl) : PEx fn X (.Call (.Name "any" p) [e] [] pos) (eFn anyD (aCons f aNil)) :=
  px_fn (d_any hc) hg hm (by decide +kernel) (pao_cons ha pao_nil he) (by decide) (by decide) he rfl
theorem b_all (hm : X.mg "all" = none) (ha : PEo fn X e f) (hg : Gl X "all" := by rfl) (hc : X.calm = true := by rfl) (he : starEach [e] X.env = (false, eval e X.env) :: starEach [] X.env := by rfl) : PEx fn X (.Call (.Name "all" p) [e] [] pos) (eFn allD (aCons f aNil)) :=
  px_fn (d_all hc) hg hm (by decide +kernel) (pao_cons ha pao_nil he) (by decide) (by decide) he rfl
theorem b_sum (hm : X.mg "sum" = none) (ha : PEo fn X e f) (hg : Gl X "sum" := by rfl) (hc : X.calm = true := by rfl) (he : starEach [e] X.env = (false, eval e X.env) :: starEach [] X.env := by rfl) : PEx fn X (.Call (.Name "sum" p) [e] [] pos) (eFn sumD (aCons f aNil)) :=
  px_fn (d_sum hc) hg hm (by decide +kernel) (pao_cons ha pao_nil he) (by decide) (by decide) he rfl
theorem b_abs (hm : X.mg "abs" = none) (ha : PEo fn X e f) (hg : Gl X "abs" := by rfl) (he : starEach [e] X.env = (false, eval e X.env) :: starEach [] X.env := by rfl) : PEx fn X (.Call (.Name "abs" p) [e] [] pos) (eFn absD (aCons f aNil)) :=
  px_fn d_abs hg hm (by decide +kernel) (pao_cons ha pao_nil he) (by decide) (by decide) he rfl
theorem b_max2 (hm : X.mg "max" = none) (ha : PEo fn X e f) (hb : PEo fn X e' g) (hg : Gl X "max" := by rfl) (hc : X.calm = true := by rfl) (he : starEach [e, e'] X.env = (false, eval e X.env) :: starEach [e'] X.env := by rfl) (he2 : starEach [e'] X.env = (false, eval e' X.env) :: starEach [] X.env := by rfl) (hpl : (backTo pos (starEach [e'] X.env)).any (·.1) = false := by rfl) :
    PEx fn X (.Call (.Name "max" p) [e, e'] [] pos) (eFn max2D (aCons f (aCons g aNil))) := px_fn (d_max2 hc) hg hm (by decide +kernel) (pao_cons ha (pao_cons hb pao_nil he2) he) (by decide) (by decide) he hpl
theorem b_min2 (hm : X.mg "min" = none) (ha : PEo fn X e f) (hb : PEo fn X e' g) (hg : Gl X "min" := by rfl) (hc : X.calm = true := by rfl) (he : starEach [e, e'] X.env = (false, eval e X.env) :: starEach [e'] X.env := by rfl) (he2 : starEach [e'] X.env = (false, eval e' X.env) :: starEach [] X.env := by rfl) (hpl : (backTo pos (starEach [e'] X.env)).any (·.1) = false := by rfl) :
    PEx fn X (.Call (.Name "min" p) [e, e'] [] pos) (eFn min2D (aCons f (aCons g aNil))) := px_fn (d_min2 hc) hg hm (by decide +kernel) (pao_cons ha (pao_cons hb pao_nil he2) he) (by decide) (by decide) he hpl
theorem b_int (hm : X.mg "int" = none) (ha : PEo fn X e f) (hg : Gl X "int" := by rfl) (he : starEach [e] X.env = (false, eval e X.env) :: starEach [] X.env := by rfl) : PEx fn X (.Call (.Name "int" p) [e] [] pos) (eFn intD (aCons f aNil)) :=
  px_ty d_int hg hm (by decide +kernel) (pao_cons ha pao_nil he) (by decide) (by decide) he rfl
theorem b_str (hm : X.mg "str" = none) (ha : PEo fn X e f) (hg : Gl X "str" := by rfl) (he : starEach [e] X.env = (false, eval e X.env) :: starEach [] X.env := by rfl) : PEx fn X (.Call (.Name "str" p) [e] [] pos) (eFn strD (aCons f aNil)) :=
  px_ty d_str hg hm (by decide +kernel) (pao_cons ha pao_nil he) (by decide) (by decide) he rfl
theorem b_tuple (hm : X.mg "tuple" = none) (ha : PEo fn X e f) (hg : Gl X "tuple" := by rfl) (he : starEach [e] X.env = (false, eval e X.env) :: starEach [] X.env := by rfl) : PEx fn X (.Call (.Name "tuple" p) [e] [] pos) (eFn tupleD (aCons f aNil)) :=
  px_ty d_tuple hg hm (by decide +kernel) (pao_cons ha pao_nil he) (by decide) (by decide) he rfl
theorem b_list (hm : X.mg "list" = none) (ha : PEo fn X e f) (hg : Gl X "list" := by rfl) (he : starEach [e] X.env = (false, eval e X.env) :: starEach [] X.env := by rfl) : PEn fn X (.Call (.Name "list" p) [e] [] pos) (eFn listD (aCons f aNil)) :=
  pn_ty d_list hg hm (by decide +kernel) (pao_cons ha pao_nil he) (by decide) (by decide) he rfl
theorem b_sorted (hm : X.mg "sorted" = none) (hu : X.A.units + 64 < cLine) (ha : PEo fn X e f) (hg : Gl X "sorted" := by rfl) (he : starEach [e] X.env = (false, eval e X.env) :: starEach [] X.env := by rfl) : PEn fn X (.Call (.Name "sorted" p) [e] [] pos) (eFn sortedD (aCons f aNil)) :=
  pn_fn (d_sorted hu) hg hm (by decide +kernel) (pao_cons ha pao_nil he) (by decide) (by decide) he rfl
end
/-- a global constant -/
theorem px_gc {X : Cx} {x : Str} {pos : Pos} {v : V} (hg : Gl X x) (h : ∃ u, X.mg x = some u ∧ RelV v u) (hd : (x == ("__debug__" : Str)) = false := by decide) : PE X (.Name x pos) (tC v) := by
  obtain ⟨u, h1, h2⟩ := h
  exact pe_glob hg h1 h2 hd
/-- no exception goes out -/
theorem tk0 {X : Cx} : Takes X fun _ _ _ _ => False := fun u s' ⟨a, B, sI, pins, σ, H, cls, d, e, I, nb, up, sky, na, os, ag, w⟩ => w.elim
/-- the law's own promise -/
def spLaw (K : PySem.W.Frag) : Sp := fun vs H Q _ => ∃ (a : Addr) (ns : List Int), vs = [.ref a] ∧ SqL K H a (ns.map V.int) ∧ ns.length ≤ 63 ∧ ∀ H', Q (.bl true) H'
theorem hu64 {A : Around} {k : Nat} (hr : Room k A) : A.units + 64 < cLine := by have := hr.un; omega
theorem hu65 {A : Around} {k : Nat} (hr : Room k A) : A.units + 65 < cLine := by have := hr.un; omega
end Sv

namespace K83
open Sv
abbrev s_is_number : SS := sRet (eAnd (eUn (fun d => (isT d .int).map .bl) (eBor 0)) (eAnd (eNot (eUn (fun d => (isT d .bool).map .bl) (eBor 0))) (eChain opLe opLe (eBor 1) (eBor 0) (eBor 2))))
def f_is_number : Fn := runF 3 s_is_number
abbrev s_is_ascending : SS := sRet (eFn allD (aCons (eLc (iRange (aCons (eBin opSub (eFn lenD (aCons (eBor 0) aNil)) (eCon (.int 1))) (aNil))) (gNm 1) (tYes') (eBin opLt (eBin ixD (eBor 0) (eVar 1)) (eBin ixD (eBor 0) (eBin opAdd (eBor 1) (eCon (.int 1))))) [1]) aNil))
def f_is_ascending : Fn := runF 2 s_is_ascending
abbrev s_is_thing_row : SS := sRet (eAnd (eUn (fun d => (isT d .tuple).map .bl) (eBor 1)) (eAnd (eBin opEq (eFn lenD (aCons (eBor 1) aNil)) (eBor 0)) (eFn allD (aCons (eLc (iSeq (eBor 1)) (gNm 2) (tYes') (eCall f_is_number (aCons (eVar 2) (aCons (eCon (.int 0)) (aCons (eCon (.int 99)) (aNil))))) [2]) aNil))))
def f_is_thing_row : Fn := runF 3 s_is_thing_row
abbrev s_is_loan : SS := sSeq (sIf (tOr (tNot (tOf (eUn (fun d => (isT d .tuple).map .bl) (eBor 0)))) (tOr (tBl (eBin opNe (eFn lenD (aCons (eBor 0) aNil)) (eCon (.int 3)))) (tNot (tOf (eFn allD (aCons (eLc (iSeq (eBor 0)) (gNm 5) (tYes') (eUn (fun d => (isT d .tuple).map .bl) (eBor 5)) [5]) aNil)))))) (sRet (eCon (.bl false))) (sNx)) (sSeq (sAsg (gTp (gMore (gNm 1) (gMore (gNm 2) (gMore (gNm 3) (gNone))))) (eVar 0)) (sSeq (sIf (tOr (tNot (tBl (eChain opLe opLe (eCon (.int 1)) (eFn lenD (aCons (eBor 1) aNil)) (eCon (.int 6))))) (tOr (tBl (eBin opNe (eFn lenD (aCons (eBor 2) aNil)) (eFn lenD (aCons (eBor 3) aNil)))) (tBl (eBin opGt (eFn lenD (aCons (eBor 2) aNil)) (eCon (.int 12)))))) (sRet (eCon (.bl false))) (sNx)) (sRet (eFn allD (aCons (eLc (iSeq (eBin opAdd (eBin opAdd (eTup (aCons (eVar 1) (aNil))) (eBor 2)) (eBor 3))) (gNm 4) (tYes') (eCall f_is_thing_row (aCons (eFn lenD (aCons (eBor 1) aNil)) (aCons (eVar 4) (aNil)))) [4]) aNil)))))
def f_is_loan : Fn := runF 6 s_is_loan
abbrev s_fits : SS := sRet (eFn allD (aCons (eLc (iZip (eVar 0) (eVar 1)) (gTp (gMore (gNm 2) (gMore (gNm 3) (gNone)))) (tYes') (eBin opLe (eBor 2) (eBor 3)) [2, 3]) aNil))
def f_fits : Fn := runF 4 s_fits
abbrev s_added_to : SS := sRet (eFn tupleD (aCons (eLc (iZip (eVar 0) (eVar 1)) (gTp (gMore (gNm 2) (gMore (gNm 3) (gNone)))) (tYes') (eBin opAdd (eBor 2) (eBor 3)) [2, 3]) aNil))
def f_added_to : Fn := runF 4 s_added_to
abbrev s_safe_order : SS := sSeq (sAsg (gTp (gMore (gNm 1) (gMore (gNm 2) (gMore (gNm 3) (gNone))))) (eVar 0)) (sSeq (sPar [4, 5] (kNew (eFn rlD (aCons (eFn lenD (aCons (eBor 2) aNil)) (aNil))) (kNew (eLst (aNil)) (kNil)))) (sSeq (sWh (tOf (eBor 4)) (sSeq (sSet 6 (eLc (iSeq (eBor 4)) (gNm 7) (tOf (eCall f_fits (aCons (eBin ixD (eBor 3) (eVar 7)) (aCons (eVar 1) (aNil))))) (eVar 7) [7])) (sSeq (sIf (tNot (tOf (eBor 6))) (sRet (eTup (aCons (eCon (.str "stuck")) (aCons (eFn tupleD (aCons (eBor 4) aNil)) (aNil))))) (sNx)) (sSeq (sExprM (mMeth 5 kApp (mOne (mUp (eBin ixD (eBor 6) (eCon (.int 0))))))) (sSeq (sExprM (mMeth 4 kRem (mOne (mUp (eBin ixD (eBor 6) (eCon (.int 0))))))) (sSet 1 (eCall f_added_to (aCons (eVar 1) (aCons (eBin ixD (eBor 2) (eBin ixD (eBor 6) (eCon (.int 0)))) (aNil)))))))))) (sRet (eTup (aCons (eCon (.str "order")) (aCons (eFn tupleD (aCons (eBor 5) aNil)) (aNil)))))))
def f_safe_order : Fn := runF 8 s_safe_order
abbrev s_is_safe_order : SS := sSeq (sAsg (gTp (gMore (gNm 2) (gMore (gNm 3) (gMore (gNm 4) (gNone))))) (eVar 0)) (sSeq (sIf (tOr (tNot (tOf (eUn (fun d => (isT d .tuple).map .bl) (eBor 1)))) (tNot (tOf (eFn allD (aCons (eLc (iSeq (eBor 1)) (gNm 5) (tYes') (eCall f_is_number (aCons (eVar 5) (aCons (eCon (.int 0)) (aCons (eBin opSub (eFn lenD (aCons (eBor 3) aNil)) (eCon (.int 1))) (aNil))))) [5]) aNil))))) (sRet (eCon (.bl false))) (sNx)) (sSeq (sIf (tBl (eBin opNe (eFn sortedD (aCons (eBor 1) aNil)) (eFn rlD (aCons (eFn lenD (aCons (eBor 3) aNil)) (aNil))))) (sRet (eCon (.bl false))) (sNx)) (sSeq (sFor (iSeq (eVar 1)) (gNm 5) (sSeq (sIf (tNot (tOf (eCall f_fits (aCons (eBin ixD (eBor 4) (eVar 5)) (aCons (eVar 2) (aNil)))))) (sRet (eCon (.bl false))) (sNx)) (sSet 2 (eCall f_added_to (aCons (eVar 2) (aCons (eBin ixD (eBor 3) (eVar 5)) (aNil))))))) (sRet (eCon (.bl true))))))
def f_is_safe_order : Fn := runF 6 s_is_safe_order
abbrev s_is_stuck : SS := sSeq (sAsg (gTp (gMore (gNm 2) (gMore (gNm 3) (gMore (gNm 4) (gNone))))) (eVar 0)) (sSeq (sIf (tOr (tNot (tOf (eUn (fun d => (isT d .tuple).map .bl) (eBor 1)))) (tOr (tBl (eBin opEq (eBor 1) (eTup (aNil)))) (tNot (tOf (eFn allD (aCons (eLc (iSeq (eBor 1)) (gNm 7) (tYes') (eCall f_is_number (aCons (eVar 7) (aCons (eCon (.int 0)) (aCons (eBin opSub (eFn lenD (aCons (eBor 3) aNil)) (eCon (.int 1))) (aNil))))) [7]) aNil)))))) (sRet (eCon (.bl false))) (sNx)) (sSeq (sIf (tNot (tOf (eCall f_is_ascending (aCons (eVar 1) (aNil))))) (sRet (eCon (.bl false))) (sNx)) (sSeq (sFor (iEnum (eVar 3)) (gTp (gMore (gNm 5) (gMore (gNm 6) (gNone)))) (sIf (tBl (eBin opNotIn (eBor 5) (eBor 1))) (sSet 2 (eCall f_added_to (aCons (eVar 2) (aCons (eVar 6) (aNil))))) (sNx))) (sRet (eNot (eFn anyD (aCons (eLc (iSeq (eBor 1)) (gNm 5) (tYes') (eCall f_fits (aCons (eBin ixD (eBor 4) (eVar 5)) (aCons (eVar 2) (aNil)))) [5]) aNil)))))))
def f_is_stuck : Fn := runF 8 s_is_stuck
abbrev s_after_asking : SS := sSeq (sAsg (gTp (gMore (gNm 3) (gMore (gNm 4) (gMore (gNm 5) (gNone))))) (eVar 0)) (sSeq (sSet 6 (eFn tupleD (aCons (eLc (iZip (eBin ixD (eBor 5) (eVar 1)) (eVar 2)) (gTp (gMore (gNm 8) (gMore (gNm 7) (gNone)))) (tYes') (eBin opSub (eBor 8) (eBor 7)) [8, 7]) aNil))) (sSeq (sSet 7 (eCall f_added_to (aCons (eBin ixD (eBor 4) (eVar 1)) (aCons (eVar 2) (aNil))))) (sSeq (sSet 4 (eBin opAdd (eBin opAdd (eSlice (eBor 4) none (some (eVar 1))) (eTup (aCons (eVar 7) (aNil)))) (eSlice (eBor 4) (some (eBin opAdd (eBor 1) (eCon (.int 1)))) none))) (sSeq (sSet 5 (eBin opAdd (eBin opAdd (eSlice (eBor 5) none (some (eVar 1))) (eTup (aCons (eVar 6) (aNil)))) (eSlice (eBor 5) (some (eBin opAdd (eBor 1) (eCon (.int 1)))) none))) (sRet (eTup (aCons (eFn tupleD (aCons (eLc (iZip (eVar 3) (eVar 2)) (gTp (gMore (gNm 9) (gMore (gNm 10) (gNone)))) (tYes') (eBin opSub (eBor 9) (eBor 10)) [9, 10]) aNil)) (aCons (eVar 4) (aCons (eVar 5) (aNil))))))))))
def f_after_asking : Fn := runF 11 s_after_asking
abbrev s_may_grant : SS := sRet (eAnd (eCall f_fits (aCons (eVar 2) (aCons (eBin ixD (eBor 0) (eCon (.int 0))) (aNil)))) (eBin opEq (eBin ixD (eCall f_safe_order (aCons (eCall f_after_asking (aCons (eVar 0) (aCons (eVar 1) (aCons (eVar 2) (aNil))))) (aNil))) (eCon (.int 0))) (eCon (.str "order"))))
def f_may_grant : Fn := runF 3 s_may_grant
abbrev s_law_flat : SS := sSeq (sNew 1 (eLst (aNil))) (sSeq (sFor (iSeq (eVar 0)) (gNm 2) (sExprM (mMeth 1 kExt (mOne (mUp (eVar 2)))))) (sSeq (sFz 1) (sRet (eVar 1))))
def f_law_flat : Fn := runF 3 s_law_flat
abbrev s_law_same (rec : Fn) : SS := sSeq (sIf (tOr (tAnd (tOf (eUn (fun d => (isT d .tuple).map .bl) (eBor 0))) (tOf (eUn (fun d => (isT d .tuple).map .bl) (eBor 1)))) (tAnd (tOf (eUn (fun d => (isT d .list).map .bl) (eBor 0))) (tOf (eUn (fun d => (isT d .list).map .bl) (eBor 1))))) (sRet (eAnd (eBin opEq (eFn lenD (aCons (eBor 0) aNil)) (eFn lenD (aCons (eBor 1) aNil))) (eFn allD (aCons (eLc (iRange (aCons (eFn lenD (aCons (eBor 0) aNil)) (aNil))) (gNm 2) (tYes') (eCall rec (aCons (eBin ixD (eBor 0) (eVar 2)) (aCons (eBin ixD (eBor 1) (eVar 2)) (aNil)))) [2]) aNil)))) (sNx)) (sSeq (sIf (tOr (tOf (eUn (fun d => (isT d .bool).map .bl) (eBor 0))) (tOf (eUn (fun d => (isT d .bool).map .bl) (eBor 1)))) (sRet (eAnd (eUn (fun d => (isT d .bool).map .bl) (eBor 0)) (eAnd (eUn (fun d => (isT d .bool).map .bl) (eBor 1)) (eBin opEq (eBor 0) (eBor 1))))) (sNx)) (sSeq (sIf (tOr (tAnd (tOf (eUn (fun d => (isT d .int).map .bl) (eBor 0))) (tOf (eUn (fun d => (isT d .int).map .bl) (eBor 1)))) (tAnd (tOf (eUn (fun d => (isT d .str).map .bl) (eBor 0))) (tOf (eUn (fun d => (isT d .str).map .bl) (eBor 1))))) (sRet (eBin opEq (eBor 0) (eBor 1))) (sNx)) (sRet (eAnd (eBin opIsN2 (eBor 0) (eCon .non)) (eBin opIsN2 (eBor 1) (eCon .non))))))
def f_law_same : Nat → Fn
  | 0 => noFn
  | n + 1 => runF 3 (s_law_same (f_law_same n))
abbrev s_law_loan : SS := sSeq (sSet 4 (eFn tupleD (aCons (eLc (iRange (aCons (eVar 1) (aNil))) (gNm 6) (tYes') (eCall drawF (aCons (eVar 0) (aCons (eVar 3) (aNil)))) [6]) aNil))) (sSeq (sSet 5 (eFn tupleD (aCons (eLc (iRange (aCons (eVar 2) (aNil))) (gNm 7) (tYes') (eFn tupleD (aCons (eLc (iRange (aCons (eVar 1) (aNil))) (gNm 6) (tYes') (eCall drawF (aCons (eVar 0) (aCons (eVar 3) (aNil)))) [6]) aNil)) [7]) aNil))) (sRet (eTup (aCons (eVar 4) (aCons (eVar 5) (aCons (eFn tupleD (aCons (eLc (iRange (aCons (eVar 2) (aNil))) (gNm 7) (tYes') (eFn tupleD (aCons (eLc (iRange (aCons (eVar 1) (aNil))) (gNm 6) (tYes') (eCall drawF (aCons (eVar 0) (aCons (eBin opAdd (eBor 3) (eCon (.int 1))) (aNil)))) [6]) aNil)) [7]) aNil)) (aNil)))))))
def f_law_loan : Fn := runF 8 s_law_loan
abbrev s_law_ends : SS := sSeq (sSet 2 (eFn listD (aCons (eBin ixD (eBor 0) (eCon (.int 0))) aNil))) (sSeq (sFor (iSeq (eVar 1)) (gNm 3) (sSeq (sIf (tOf (eFn anyD (aCons (eLc (iRange (aCons (eFn lenD (aCons (eBor 2) aNil)) (aNil))) (gNm 4) (tYes') (eBin opGt (eBin ixD (eBin ixD (eBin ixD (eBor 0) (eCon (.int 2))) (eVar 3)) (eVar 4)) (eBin ixD (eBor 2) (eVar 4))) [4]) aNil))) (sRet (eCon (.bl false))) (sNx)) (sSet 2 (eLc (iRange (aCons (eFn lenD (aCons (eBor 2) aNil)) (aNil))) (gNm 4) (tYes') (eBin opAdd (eBin ixD (eBor 2) (eVar 4)) (eBin ixD (eBin ixD (eBin ixD (eBor 0) (eCon (.int 1))) (eVar 3)) (eVar 4))) [4])))) (sRet (eCon (.bl true))))
def f_law_ends : Fn := runF 5 s_law_ends
abbrev s_law_orders : SS := sSeq (sSet 1 (eLst (aCons (eTup (aNil)) (aNil)))) (sSeq (sFor (iRange (aCons (eVar 0) (aNil))) (gNm 2) (sSet 1 (eCall f_law_flat (aCons (eLc (iSeq (eBor 1)) (gNm 3) (tYes') (eLc (iRange (aCons (eVar 0) (aNil))) (gNm 4) (tBl (eBin opNotIn (eBor 4) (eBor 3))) (eBin opAdd (eBor 3) (eTup (aCons (eVar 4) (aNil)))) [4]) [3]) (aNil))))) (sRet (eVar 1)))
def f_law_orders : Fn := runF 5 s_law_orders
abbrev s_law_sets : SS := sSeq (sSet 1 (eLst (aCons (eTup (aNil)) (aNil)))) (sSeq (sFor (iRange (aCons (eVar 0) (aNil))) (gNm 2) (sSet 1 (eBin opAdd (eBor 1) (eLc (iSeq (eBor 1)) (gNm 3) (tYes') (eBin opAdd (eBor 3) (eTup (aCons (eVar 2) (aNil)))) [3])))) (sRet (eVar 1)))
def f_law_sets : Fn := runF 4 s_law_sets
abbrev s_law_stuck : SS := sSeq (sSet 2 (eLc (iRange (aCons (eFn lenD (aCons (eBin ixD (eBor 0) (eCon (.int 0))) aNil)) (aNil))) (gNm 3) (tYes') (eBin opAdd (eBin ixD (eBin ixD (eBor 0) (eCon (.int 0))) (eVar 3)) (eFn sumD (aCons (eLc (iRange (aCons (eFn lenD (aCons (eBin ixD (eBor 0) (eCon (.int 1))) aNil)) (aNil))) (gNm 4) (tBl (eBin opNotIn (eBor 4) (eBor 1))) (eBin ixD (eBin ixD (eBin ixD (eBor 0) (eCon (.int 1))) (eVar 4)) (eVar 3)) [4]) aNil))) [3])) (sRet (eAnd (eBin opGt (eFn lenD (aCons (eBor 1) aNil)) (eCon (.int 0))) (eFn allD (aCons (eLc (iSeq (eBor 1)) (gNm 4) (tYes') (eFn anyD (aCons (eLc (iRange (aCons (eFn lenD (aCons (eBor 2) aNil)) (aNil))) (gNm 3) (tYes') (eBin opGt (eBin ixD (eBin ixD (eBin ixD (eBor 0) (eCon (.int 2))) (eVar 4)) (eVar 3)) (eBin ixD (eBor 2) (eVar 3))) [3]) aNil)) [4]) aNil))))
def f_law_stuck : Fn := runF 5 s_law_stuck
abbrev s_law_numbers : SS := sRet (eAnd (eUn (fun d => (isT d .tuple).map .bl) (eBor 0)) (eFn allD (aCons (eLc (iSeq (eBor 0)) (gNm 2) (tYes') (eAnd (eUn (fun d => (isT d .int).map .bl) (eBor 2)) (eAnd (eNot (eUn (fun d => (isT d .bool).map .bl) (eBor 2))) (eAnd (eBin opLe (eCon (.int 0)) (eBor 2)) (eBin opLt (eBor 2) (eBor 1))))) [2]) aNil)))
def f_law_numbers : Fn := runF 3 s_law_numbers
abbrev s_law_is_loan : SS := sSeq (sIf (tOr (tNot (tOf (eUn (fun d => (isT d .tuple).map .bl) (eBor 0)))) (tOr (tBl (eBin opNe (eFn lenD (aCons (eBor 0) aNil)) (eCon (.int 3)))) (tOr (tNot (tOf (eFn allD (aCons (eLc (iSeq (eBor 0)) (gNm 2) (tYes') (eUn (fun d => (isT d .tuple).map .bl) (eBor 2)) [2]) aNil)))) (tNot (tBl (eChain opLe opLe (eCon (.int 1)) (eFn lenD (aCons (eBin ixD (eBor 0) (eCon (.int 0))) aNil)) (eCon (.int 6)))))))) (sRet (eCon (.bl false))) (sNx)) (sSeq (sIf (tOr (tBl (eBin opNe (eFn lenD (aCons (eBin ixD (eBor 0) (eCon (.int 1))) aNil)) (eFn lenD (aCons (eBin ixD (eBor 0) (eCon (.int 2))) aNil)))) (tBl (eBin opGt (eFn lenD (aCons (eBin ixD (eBor 0) (eCon (.int 1))) aNil)) (eCon (.int 12))))) (sRet (eCon (.bl false))) (sNx)) (sRet (eFn allD (aCons (eLc (iSeq (eBin opAdd (eBin opAdd (eTup (aCons (eBin ixD (eBor 0) (eCon (.int 0))) (aNil))) (eBin ixD (eBor 0) (eCon (.int 1)))) (eBin ixD (eBor 0) (eCon (.int 2))))) (gNm 1) (tYes') (eAnd (eCall f_law_numbers (aCons (eVar 1) (aCons (eCon (.int 100)) (aNil)))) (eBin opEq (eFn lenD (aCons (eBor 1) aNil)) (eFn lenD (aCons (eBin ixD (eBor 0) (eCon (.int 0))) aNil)))) [1]) aNil))))
def f_law_is_loan : Fn := runF 3 s_law_is_loan
abbrev s_law_bent (rec : Fn) : SS := sSeq (sIf (tAnd (tOf (eUn (fun d => (isT d .tuple).map .bl) (eBor 1))) (tAnd (tBl (eBin opGt (eFn lenD (aCons (eBor 1) aNil)) (eCon (.int 0)))) (tBl (eBin opGt (eCall drawF (aCons (eVar 0) (aCons (eCon (.int 5)) (aNil)))) (eCon (.int 0)))))) (sSeq (sSet 3 (eCall drawF (aCons (eVar 0) (aCons (eFn lenD (aCons (eBor 1) aNil)) (aNil))))) (sRet (eBin opAdd (eBin opAdd (eSlice (eBor 1) none (some (eVar 3))) (eTup (aCons (eCall rec (aCons (eVar 0) (aCons (eBin ixD (eBor 1) (eVar 3)) (aNil)))) (aNil)))) (eSlice (eBor 1) (some (eBin opAdd (eBor 3) (eCon (.int 1)))) none)))) (sNx)) (sSeq (sSet 2 (eCall drawF (aCons (eVar 0) (aCons (eCon (.int 8)) (aNil))))) (sSeq (sIf (tOf (eUn (fun d => (isT d .tuple).map .bl) (eBor 1))) (sRet (eBin ixD (eLst (aCons (eBin opAdd (eBor 1) (eSlice (eBor 1) none (some (eCon (.int 1))))) (aCons (eSlice (eBor 1) (some (eCon (.int 1))) none) (aCons (eUn revD (eBor 1)) (aCons (eBin opAdd (eBor 1) (eTup (aCons (eCon (.int 0)) (aNil)))) (aCons (eTup (aCons (eVar 1) (aNil))) (aCons (eSlice (eBor 1) none (some (eUn opNeg (eCon (.int 1))))) (aCons (eCon .non) (aCons (eBin opAdd (eBor 1) (eTup (aCons (eTup (aCons (eCon (.int 0)) (aCons (eCon (.int 1)) (aNil)))) (aNil)))) (aNil)))))))))) (eVar 2))) (sNx)) (sSeq (sIf (tAnd (tOf (eUn (fun d => (isT d .int).map .bl) (eBor 1))) (tNot (tOf (eUn (fun d => (isT d .bool).map .bl) (eBor 1))))) (sRet (eBin ixD (eLst (aCons (eBin opAdd (eBor 1) (eCon (.int 1))) (aCons (eBin opSub (eBor 1) (eCon (.int 1))) (aCons (eCon (.int 0)) (aCons (eBin opEq (eBor 1) (eCon (.int 1))) (aCons (eCon .non) (aCons (eFn strD (aCons (eBor 1) aNil)) (aCons (eTup (aCons (eVar 1) (aNil))) (aCons (eBin opAdd (eBor 1) (eCon (.int 2))) (aNil)))))))))) (eVar 2))) (sNx)) (sSeq (sIf (tOf (eUn (fun d => (isT d .str).map .bl) (eBor 1))) (sRet (eBin ixD (eLst (aCons (eBin opAdd (eBor 1) (eCon (.str "s"))) (aCons (eSlice (eBor 1) (some (eCon (.int 1))) none) (aCons (eCon (.str "jump")) (aCons (eCon (.str "open")) (aCons (eCon (.int 0)) (aCons (eCon .non) (aCons (eCon (.str "")) (aCons (eCon (.str "bent")) (aNil)))))))))) (eVar 2))) (sNx)) (sRet (eBin ixD (eLst (aCons (eCon (.int 0)) (aCons (eCon (.int 1)) (aCons (eCon .non) (aCons (eCon (.bl true)) (aCons (eCon (.str "a")) (aCons (eTup (aNil)) (aCons (eTup (aCons (eCon (.int 0)) (aNil))) (aCons (eCon (.str "point")) (aNil)))))))))) (eVar 2)))))))
def f_law_bent : Nat → Fn
  | 0 => noFn
  | n + 1 => runF 4 (s_law_bent (f_law_bent n))
abbrev L0 : SS := sSet 6 (eCall f_law_loan (aCons (eVar 1) (aCons (eBin opAdd (eCon (.int 1)) (eCall drawF (aCons (eVar 1) (aCons (eCon (.int 3)) (aNil))))) (aCons (eCall drawF (aCons (eVar 1) (aCons (eCon (.int 6)) (aNil)))) (aCons (eBin opAdd (eCon (.int 1)) (eCall drawF (aCons (eVar 1) (aCons (eCon (.int 3)) (aNil))))) (aNil))))))
abbrev L1 : SS := sSet 7 (eFn lenD (aCons (eBin ixD (eBor 6) (eCon (.int 1))) aNil))
abbrev L2 : SS := sIf (tBl (eBin opIsntB (eCall f_is_loan (aCons (eVar 6) (aNil))) (eCon (.bl true)))) (sRet (eCon (.bl false))) (sNx)
abbrev L3 : SS := sSet 8 (eLc (iSeq (eCall f_law_orders (aCons (eVar 7) (aNil)))) (gNm 19) (tOf (eCall f_law_ends (aCons (eVar 6) (aCons (eVar 19) (aNil))))) (eVar 19) [19])
abbrev L4 : SS := sSet 9 (eLc (iSeq (eCall f_law_sets (aCons (eVar 7) (aNil)))) (gNm 20) (tOf (eCall f_law_stuck (aCons (eVar 6) (aCons (eVar 20) (aNil))))) (eVar 20) [20])
abbrev L5 : SS := sIf (tBl (eBin opNe (eBin opGt (eFn lenD (aCons (eBor 8) aNil)) (eCon (.int 0))) (eBin opEq (eFn lenD (aCons (eBor 9) aNil)) (eCon (.int 0))))) (sRet (eCon (.bl false))) (sNx)
abbrev L6 : SS := sAsg (gTp (gMore (gNm 4) (gMore (gNm 5) (gNone)))) (eCall f_safe_order (aCons (eVar 6) (aNil)))
abbrev L7 : SS := sIf (tAnd (tBl (eBin opGt (eFn lenD (aCons (eBor 8) aNil)) (eCon (.int 0)))) (tNot (tOf (eCall (f_law_same 40) (aCons (eTup (aCons (eVar 4) (aCons (eVar 5) (aNil)))) (aCons (eTup (aCons (eCon (.str "order")) (aCons (eBin ixD (eBor 8) (eCon (.int 0))) (aNil)))) (aNil))))))) (sRet (eCon (.bl false))) (sNx)
abbrev L8 : SS := sSet 3 (eFn tupleD (aCons (eLc (iRange (aCons (eVar 7) (aNil))) (gNm 22) (tOf (eFn anyD (aCons (eLc (iSeq (eBor 9)) (gNm 20) (tYes') (eBin opIn (eBor 22) (eBor 20)) [20]) aNil))) (eVar 22) [22]) aNil))
abbrev L9 : SS := sIf (tOr (tNot (tOf (eCall (f_law_same 40) (aCons (eTup (aCons (eVar 4) (aCons (eVar 5) (aNil)))) (aCons (eTup (aCons (eCon (.str "stuck")) (aCons (eVar 3) (aNil)))) (aNil)))))) (tBl (eBin opNotIn (eBor 3) (eBor 9)))) (sRet (eCon (.bl false))) (sNx)
abbrev L10 : SS := sIf (tBl (eBin opEq (eFn lenD (aCons (eBor 8) aNil)) (eCon (.int 0)))) (sSeq (L8) (L9)) (sNx)
abbrev L11 : SS := sSet 10 (eIf (tBl (eBin opEq (eBor 4) (eCon (.str "order")))) (eVar 5) (eFn rtD (aCons (eVar 7) (aNil))))
abbrev L12 : SS := sSet 13 (eAnd (eCall f_law_numbers (aCons (eVar 11) (aCons (eVar 7) (aNil)))) (eAnd (eBin opEq (eFn sortedD (aCons (eBor 11) aNil)) (eFn rlD (aCons (eVar 7) (aNil)))) (eCall f_law_ends (aCons (eVar 6) (aCons (eVar 11) (aNil))))))
abbrev L13 : SS := sIf (tNot (tOf (eCall (f_law_same 40) (aCons (eCall f_is_safe_order (aCons (eVar 6) (aCons (eVar 11) (aNil)))) (aCons (eVar 13) (aNil)))))) (sRet (eCon (.bl false))) (sNx)
abbrev L14 : SS := sFor (iSeq (eBin opAdd (eLst (aCons (eVar 10) (aCons (eUn revD (eBor 10)) (aCons (eSlice (eBor 10) (some (eCon (.int 1))) none) (aCons (eBin opAdd (eBor 10) (eTup (aCons (eCon (.int 0)) (aNil)))) (aCons (eTup (aNil)) (aCons (eCon .non) (aCons (eCon (.int 0)) (aCons (eBin opMul (eTup (aCons (eCon (.bl true)) (aNil))) (eBor 7)) (aNil)))))))))) (eLc (iRange (aCons (eCon (.int 5)) (aNil))) (gNm 21) (tYes') (eCall (f_law_bent 40) (aCons (eVar 1) (aCons (eVar 10) (aNil)))) [21]))) (gNm 11) (sSeq (L12) (L13))
abbrev L15 : SS := sSet 10 (eIf (tBl (eBin opEq (eBor 4) (eCon (.str "stuck")))) (eVar 5) (eFn rtD (aCons (eVar 7) (aNil))))
abbrev L16 : SS := sSet 13 (eAnd (eCall f_law_numbers (aCons (eVar 11) (aCons (eVar 7) (aNil)))) (eAnd (eNot (eFn anyD (aCons (eLc (iRange (aCons (eBin opSub (eFn lenD (aCons (eBor 11) aNil)) (eCon (.int 1))) (aNil))) (gNm 24) (tYes') (eBin opGe (eBin ixD (eBor 11) (eVar 24)) (eBin ixD (eBor 11) (eBin opAdd (eBor 24) (eCon (.int 1))))) [24]) aNil))) (eCall f_law_stuck (aCons (eVar 6) (aCons (eVar 11) (aNil))))))
abbrev L17 : SS := sIf (tOr (tNot (tOf (eCall (f_law_same 40) (aCons (eCall f_is_stuck (aCons (eVar 6) (aCons (eVar 11) (aNil)))) (aCons (eVar 13) (aNil)))))) (tAnd (tOf (eBor 13)) (tBl (eBin opEq (eBor 4) (eCon (.str "order")))))) (sRet (eCon (.bl false))) (sNx)
abbrev L18 : SS := sFor (iSeq (eBin opAdd (eBin opAdd (eSlice (eBor 9) none (some (eCon (.int 3)))) (eLst (aCons (eVar 10) (aCons (eSlice (eBor 10) (some (eCon (.int 1))) none) (aCons (eSlice (eBor 10) none (some (eUn opNeg (eCon (.int 1))))) (aCons (eUn revD (eBor 10)) (aCons (eTup (aNil)) (aCons (eCon .non) (aCons (eCon (.int 0)) (aCons (eTup (aCons (eVar 7) (aNil))) (aNil))))))))))) (eLc (iRange (aCons (eCon (.int 5)) (aNil))) (gNm 21) (tYes') (eCall (f_law_bent 40) (aCons (eVar 1) (aCons (eVar 10) (aNil)))) [21]))) (gNm 11) (sSeq (L16) (L17))
abbrev L19 : SS := sSet 12 (eLst (aCons (eVar 6) (aCons (eSlice (eBor 6) none (some (eCon (.int 2)))) (aCons (eUn revD (eBor 6)) (aCons (eBin opAdd (eTup (aCons (eTup (aNil)) (aNil))) (eSlice (eBor 6) (some (eCon (.int 1))) none)) (aCons (eTup (aCons (eBin ixD (eBor 6) (eCon (.int 0))) (aCons (eBin opAdd (eBin ixD (eBor 6) (eCon (.int 1))) (eSlice (eBin ixD (eBor 6) (eCon (.int 1))) none (some (eCon (.int 1))))) (aCons (eBin ixD (eBor 6) (eCon (.int 2))) (aNil))))) (aCons (eTup (aCons (eTup (aCons (eCon (.int 100)) (aNil))) (aCons (eTup (aNil)) (aCons (eTup (aNil)) (aNil))))) (aNil))))))))
abbrev L20 : SS := sSet 12 (eBin opAdd (eBor 12) (eLst (aCons (eTup (aCons (eTup (aCons (eCon (.int 1)) (aNil))) (aCons (eBin opMul (eTup (aCons (eTup (aCons (eCon (.int 1)) (aNil))) (aNil))) (eCon (.int 12))) (aCons (eBin opMul (eTup (aCons (eTup (aCons (eCon (.int 1)) (aNil))) (aNil))) (eCon (.int 12))) (aNil))))) (aCons (eTup (aCons (eTup (aCons (eCon (.int 1)) (aNil))) (aCons (eBin opMul (eTup (aCons (eTup (aCons (eCon (.int 1)) (aNil))) (aNil))) (eCon (.int 13))) (aCons (eBin opMul (eTup (aCons (eTup (aCons (eCon (.int 1)) (aNil))) (aNil))) (eCon (.int 13))) (aNil))))) (aCons (eCon .non) (aCons (eTup (aCons (eTup (aCons (eCon (.bl true)) (aNil))) (aCons (eTup (aNil)) (aCons (eTup (aNil)) (aNil))))) (aNil)))))))
abbrev L21 : SS := sIf (tNot (tOf (eCall (f_law_same 40) (aCons (eCall f_is_loan (aCons (eVar 11) (aNil))) (aCons (eCall f_law_is_loan (aCons (eVar 11) (aNil))) (aNil)))))) (sRet (eCon (.bl false))) (sNx)
abbrev L22 : SS := sFor (iSeq (eBin opAdd (eBor 12) (eLc (iRange (aCons (eCon (.int 6)) (aNil))) (gNm 21) (tYes') (eCall (f_law_bent 40) (aCons (eVar 1) (aCons (eVar 6) (aNil)))) [21]))) (gNm 11) (L21)
abbrev L23 : SS := sSet 14 (eCall drawF (aCons (eVar 1) (aCons (eVar 7) (aNil))))
abbrev L24 : SS := sSet 15 (eFn tupleD (aCons (eLc (iSeq (eBin ixD (eBin ixD (eBor 6) (eCon (.int 2))) (eVar 14))) (gNm 23) (tYes') (eCall drawF (aCons (eVar 1) (aCons (eBin opAdd (eBor 23) (eCon (.int 1))) (aNil)))) [23]) aNil))
abbrev L25 : SS := sSet 16 (eTup (aCons (eFn tupleD (aCons (eLc (iRange (aCons (eFn lenD (aCons (eBor 15) aNil)) (aNil))) (gNm 24) (tYes') (eBin opSub (eBin ixD (eBin ixD (eBor 6) (eCon (.int 0))) (eVar 24)) (eBin ixD (eBor 15) (eVar 24))) [24]) aNil)) (aCons (eFn tupleD (aCons (eLc (iRange (aCons (eVar 7) (aNil))) (gNm 22) (tYes') (eFn tupleD (aCons (eLc (iRange (aCons (eFn lenD (aCons (eBor 15) aNil)) (aNil))) (gNm 24) (tYes') (eBin opAdd (eBin ixD (eBin ixD (eBin ixD (eBor 6) (eCon (.int 1))) (eVar 22)) (eVar 24)) (eIf (tBl (eBin opEq (eBor 22) (eBor 14))) (eBin ixD (eBor 15) (eVar 24)) (eCon (.int 0)))) [24]) aNil)) [22]) aNil)) (aCons (eFn tupleD (aCons (eLc (iRange (aCons (eVar 7) (aNil))) (gNm 22) (tYes') (eFn tupleD (aCons (eLc (iRange (aCons (eFn lenD (aCons (eBor 15) aNil)) (aNil))) (gNm 24) (tYes') (eBin opSub (eBin ixD (eBin ixD (eBin ixD (eBor 6) (eCon (.int 2))) (eVar 22)) (eVar 24)) (eIf (tBl (eBin opEq (eBor 22) (eBor 14))) (eBin ixD (eBor 15) (eVar 24)) (eCon (.int 0)))) [24]) aNil)) [22]) aNil)) (aNil)))))
abbrev L26 : SS := sSet 17 (eFn allD (aCons (eLc (iRange (aCons (eFn lenD (aCons (eBor 15) aNil)) (aNil))) (gNm 24) (tYes') (eBin opLe (eBin ixD (eBor 15) (eVar 24)) (eBin ixD (eBin ixD (eBor 6) (eCon (.int 0))) (eVar 24))) [24]) aNil))
abbrev L27 : SS := sIf (tNot (tOf (eCall (f_law_same 40) (aCons (eCall f_after_asking (aCons (eVar 6) (aCons (eVar 14) (aCons (eVar 15) (aNil))))) (aCons (eVar 16) (aNil)))))) (sRet (eCon (.bl false))) (sNx)
abbrev L28 : SS := sIf (tNot (tOf (eCall (f_law_same 40) (aCons (eCall f_may_grant (aCons (eVar 6) (aCons (eVar 14) (aCons (eVar 15) (aNil))))) (aCons (eAnd (eVar 17) (eFn anyD (aCons (eLc (iSeq (eCall f_law_orders (aCons (eVar 7) (aNil)))) (gNm 19) (tYes') (eCall f_law_ends (aCons (eVar 16) (aCons (eVar 19) (aNil)))) [19]) aNil))) (aNil)))))) (sRet (eCon (.bl false))) (sNx)
abbrev L29 : SS := sSet 18 (eTup (aCons (eFn tupleD (aCons (eLc (iSeq (eBin ixD (eBor 6) (eCon (.int 0)))) (gNm 25) (tYes') (eBin opAdd (eBor 25) (eCall drawF (aCons (eVar 1) (aCons (eCon (.int 2)) (aNil))))) [25]) aNil)) (aCons (eBin ixD (eBor 6) (eCon (.int 1))) (aCons (eFn tupleD (aCons (eLc (iSeq (eBin ixD (eBor 6) (eCon (.int 2)))) (gNm 26) (tYes') (eFn tupleD (aCons (eLc (iSeq (eBor 26)) (gNm 23) (tYes') (eFn max2D (aCons (eCon (.int 0)) (aCons (eBin opSub (eBor 23) (eCall drawF (aCons (eVar 1) (aCons (eCon (.int 2)) (aNil))))) aNil))) [23]) aNil)) [26]) aNil)) (aNil)))))
abbrev L30 : SS := sIf (tAnd (tBl (eBin opEq (eBor 4) (eCon (.str "order")))) (tBl (eBin opNe (eBin ixD (eCall f_safe_order (aCons (eVar 18) (aNil))) (eCon (.int 0))) (eCon (.str "order"))))) (sRet (eCon (.bl false))) (sNx)
abbrev L31 : SS := sIf (tAnd (tNot (tOf (eBor 17))) (tBl (eBin opIsntB (eCall f_may_grant (aCons (eVar 6) (aCons (eVar 14) (aCons (eVar 15) (aNil))))) (eCon (.bl false))))) (sRet (eCon (.bl false))) (sNx)
abbrev L32 : SS := sIf (tBl (eBin opGt (eBor 7) (eCon (.int 0)))) (sSeq (L23) (sSeq (L24) (sSeq (L25) (sSeq (L26) (sSeq (L27) (sSeq (L28) (sSeq (L29) (sSeq (L30) (L31))))))))) (sNx)
abbrev L33 : SS := sFor (iRange (aCons (eCon (.int 4)) (aNil))) (gNm 2) (sSeq (L0) (sSeq (L1) (sSeq (L2) (sSeq (L3) (sSeq (L4) (sSeq (L5) (sSeq (L6) (sSeq (L7) (sSeq (L10) (sSeq (L11) (sSeq (L14) (sSeq (L15) (sSeq (L18) (sSeq (L19) (sSeq (L20) (sSeq (L22) (L32)))))))))))))))))
abbrev L34 : SS := sSet 3 (eCall f_law_loan (aCons (eVar 1) (aCons (eCon (.int 4)) (aCons (eCon (.int 12)) (aCons (eCon (.int 9)) (aNil))))))
abbrev L35 : SS := sAsg (gTp (gMore (gNm 4) (gMore (gNm 5) (gNone)))) (eCall f_safe_order (aCons (eVar 3) (aNil)))
abbrev L36 : SS := sIf (tOr (tAnd (tBl (eBin opEq (eBor 4) (eCon (.str "order")))) (tNot (tOf (eCall f_law_ends (aCons (eVar 3) (aCons (eVar 5) (aNil))))))) (tAnd (tBl (eBin opEq (eBor 4) (eCon (.str "stuck")))) (tNot (tOf (eCall f_law_stuck (aCons (eVar 3) (aCons (eVar 5) (aNil)))))))) (sRet (eCon (.bl false))) (sNx)
abbrev L37 : SS := sRet (eAnd (eCall (f_law_same 40) (aCons (eCall f_safe_order (aCons (eTup (aCons (eTup (aCons (eCon (.int 1)) (aNil))) (aCons (eTup (aCons (eTup (aCons (eCon (.int 1)) (aNil))) (aCons (eTup (aCons (eCon (.int 1)) (aNil))) (aNil)))) (aCons (eTup (aCons (eTup (aCons (eCon (.int 2)) (aNil))) (aCons (eTup (aCons (eCon (.int 1)) (aNil))) (aNil)))) (aNil))))) (aNil))) (aCons (eTup (aCons (eCon (.str "order")) (aCons (eTup (aCons (eCon (.int 1)) (aCons (eCon (.int 0)) (aNil)))) (aNil)))) (aNil)))) (eCall (f_law_same 40) (aCons (eCall f_safe_order (aCons (eTup (aCons (eTup (aCons (eCon (.int 0)) (aNil))) (aCons (eTup (aCons (eTup (aCons (eCon (.int 1)) (aNil))) (aCons (eTup (aCons (eCon (.int 1)) (aNil))) (aNil)))) (aCons (eTup (aCons (eTup (aCons (eCon (.int 1)) (aNil))) (aCons (eTup (aCons (eCon (.int 1)) (aNil))) (aNil)))) (aNil))))) (aNil))) (aCons (eTup (aCons (eCon (.str "stuck")) (aCons (eTup (aCons (eCon (.int 0)) (aCons (eCon (.int 1)) (aNil)))) (aNil)))) (aNil)))))
abbrev s_law : SS := sSeq (L33) (sSeq (L34) (sSeq (L35) (sSeq (L36) (L37))))
def lawAt (b : Bx) : Option (Fl × Rho × Bx) := s_law (Sl.emp :: Sl.frz (.tok 0) :: List.replicate 25 Sl.emp) b
end K83

set_option maxHeartbeats 8000000
namespace K83
open PySem L2 Sv
open PyProof.Rows (envOfC)
def top (i : Nat) : Stmt := PySem.Challenge.pw_roomsemptied_k83_whole_safe_loans.main.body.getD i (.Pass ⟨0, 0, 0, 0⟩)
def ifThen : Stmt → List Stmt
  | .If (body := b) .. => b
  | _ => []
abbrev st_law_box : Stmt := top 18
abbrev st_law_load : Stmt := top 19
abbrev st_law_draw : Stmt := top 20
structure BtF (K : PySem.W.Frag) (mg : Str → Option Value) : Prop where
  len : mg "len" = none
  int : mg "int" = none
  list : mg "list" = none
theorem iteT' {c : Bool} {p q : Prop} (e : c = true) (h : p) : if c = true then p else q := by rw [if_pos e]; exact h
theorem iteF' {c : Bool} {p q : Prop} (e : c = false) (h : q) : if c = true then p else q := by rw [if_neg (by rw [e]; decide)]; exact h
section
variable {P : Program} {w : World} {K : PySem.W.Frag} {mg : Str → Option Value} {base : Heap}
theorem sc_box : FnScope ["script"] ["script"] (defScope st_law_box) := ⟨rfl, rfl, rfl, by decide +kernel, rfl, by decide +kernel, by decide +kernel⟩
theorem ok_box {f : Addr} {fd : FuncData} (F : L2.Fun K "_law_box" "_law_box" st_law_box f fd) (T : BtF K mg) : FnOk P w K mg base CX0 1 f fd ["script"] (spBox K) := by
  refine F.ok sc_box (fun vs H Q E h => ?_) (fun cdv A outer s H vs Q E hr h => ?_)
  · obtain ⟨a, ns, rfl, _⟩ := h
    rfl
  · obtain ⟨a, ns, rfl, hs, hn, k⟩ := h
    refine ⟨_, pss_one (ps_ret (pe_lst (pa_cons (pe_callTy call_list_of (by rfl) T.list (by decide +kernel) (pa_cons (pe_slice sl_list (pv 0) po_none (po_some pe_int)) pa_nil)) (pa_cons pe_int (pa_cons (pe_op op_add pe_int (pe_callB call_len_seq (by rfl) T.len PySem.boot_len (pa_cons (pv 0) pa_nil))) pa_nil))))), ?_⟩
    refine ⟨_, rfl, 63, rfl, a, _, rfl, hs, fun p hp => ?_⟩
    have hcut : cutV (ns.map V.int) none (some 63) = ns.map V.int := by
      have h1 : HT.sIx (ns.map V.int).length 0 none = 0 := by simp [HT.sIx]
      have h2 : HT.sIx (ns.map V.int).length (ns.map V.int).length (some 63) = (ns.map V.int).length := by
        simp [HT.sIx]; omega
      unfold cutV
      rw [h1, h2, List.drop_zero, Nat.sub_zero, List.take_length]
    rw [hcut]
    have s1 : Same H (upd H p (.lst (ns.map V.int))) := fun b o e => by rw [upd_ne (ne_of_none e hp)]; exact e
    refine ⟨p, _, rfl, .inl (SqL.of upd_same), fun q hq => ?_⟩
    have npq : p ≠ q := ne_of_none upd_same hq
    have s2 : Same H (upd (upd H p (.lst (ns.map V.int))) q (.lst (ns.map V.int))) := fun b o e => by rw [upd_ne (ne_of_none (s1 b o e) hq)]; exact s1 b o e
    refine ⟨_, rfl, a, _, rfl, .inl (s2.seq hs), _, _, rfl, rfl, ⟨by show 3 ≤ _; decide, fun r hr => ?_⟩⟩
    have nqr : q ≠ r := ne_of_none upd_same hr
    refine k r q _ ⟨nqr.symm, ?_, by rw [upd_ne nqr]; exact upd_same⟩
    rw [upd_same, List.length_map]
theorem sc_load : FnScope ["box", "cells", "cell", "size", "first", "second"] ["box"] (defScope st_law_load) := ⟨rfl, rfl, rfl, by decide +kernel, rfl, by decide +kernel, by decide +kernel⟩
theorem ok_load {f : Addr} {fd : FuncData} (F : L2.Fun K "_law_load" "_law_load" st_law_load f fd) (T : BtF K mg) : FnOk P w K mg base CX0 1 f fd ["box"] spLoad := by
  refine F.ok sc_load (fun vs H Q E h => ?_) (fun cdv A outer s H vs Q E hr h => ?_)
  · obtain ⟨p, q, b, rfl, _⟩ := h
    rfl
  · obtain ⟨p, q, b, rfl, hb, k⟩ := h
    have pint : ∀ {X : Cx} {e : Expr} {te : TE} {p pos : Pos}, Gl X "int" → X.mg "int" = none → PE X e te → starEach [e] X.env = (false, eval e X.env) :: starEach [] X.env → PE X (.Call (.Name "int" p) [e] [] pos) (tCB (fun xs H Q => (∃ i, xs = [.int i] ∧ Q (.int i) H) ∨ ∃ k, xs = [.bl k] ∧ Q (.int (if k then 1 else 0)) H) (tCons te tNil)) := fun hg hm he hs => pe_callTy call_int1 hg hm (by decide +kernel) (pa_cons he pa_nil hs) (by decide) (by decide) hs rfl
    obtain ⟨t2, h2, q2⟩ : ∃ t : TS, PSs (cxOf CX0 P w K mg base ["box", "cells", "cell", "size", "first", "second"] "_law_load" (defScope st_law_load) f cdv A outer s H E).nox ((defBody st_law_load).drop 2) t ∧
        ∀ (c z : Option V) (H1 : Hp) (b1 : Bx), BSt p q b1 H1 → Off p q H H1 → restB b1 = loadB b → t { nx := fun _ H' => Q .non H', rt := Q } [some (.ref p), some (.ref q), c, z, none, none] H1 :=
      ⟨_, pss_cons (ps_set (i := 4) sc_load.nd rfl (Or.inl rfl) (pe_op op_modN (pint (by rfl) T.int (pe_op op_add (pe_op op_mul (pe_ix ix_list (pv 0) pe_int (by intro _ _; rfl)) pe_int) pe_int) rfl) pe_int))
      (pss_cons (ps_set (i := 5) sc_load.nd rfl (Or.inl rfl) (pe_op op_modN (pint (by rfl) T.int (pe_op op_add (pe_op op_mul (pv 4) pe_int) pe_int) rfl) pe_int))
      (pss_cons (ps_asg (pe_op op_modN (pint (by rfl) T.int (pe_op op_add (pe_op op_mul (pv 5) pe_int) pe_int) rfl) pe_int) (pg_sub (pv 0) pe_int set_list))
      (pss_one (ps_ret (pe_op op_add (pe_op op_add (pe_op op_mul (pv 4) pe_int) (pe_op op_mul (pv 5) pe_int)) (pe_ix ix_list (pv 0) pe_int (by intro _ _; rfl))))))), fun c z H1 b1 ⟨npq, hp, hq⟩ off er => by
        refine ⟨_, rfl, p, _, 2, _, rfl, rfl, SqL.of hp, rfl, _, _, rfl, rfl, .inr ⟨by decide, by decide⟩, _, _, rfl, rfl, .inl ⟨_, rfl, _, _, rfl, rfl, (show (_ : Int) ≠ 0 by decide), ?_⟩⟩
        refine ⟨_, rfl, _, _, rfl, rfl, .inr ⟨by decide, by decide⟩, _, _, rfl, rfl, .inl ⟨_, rfl, _, _, rfl, rfl, (show (_ : Int) ≠ 0 by decide), ?_⟩⟩
        refine ⟨_, rfl, _, _, rfl, rfl, .inr ⟨by decide, by decide⟩, _, _, rfl, rfl, .inl ⟨_, rfl, _, _, rfl, rfl, (show (_ : Int) ≠ 0 by decide), ?_⟩⟩
        refine ⟨_, rfl, p, _, 2, 2, rfl, rfl, hp, rfl, ?_⟩
        refine ⟨_, rfl, _, _, rfl, rfl, .inr ⟨by decide, by decide⟩, _, rfl, _, _, rfl, rfl, .inr ⟨by decide, by decide⟩, _, _, rfl, rfl, ?_⟩
        refine ⟨_, rfl, p, _, 2, _, rfl, rfl, SqL.of upd_same, rfl, _, _, rfl, rfl, ?_⟩
        have e1 := congrArg Prod.fst er
        have e2 := congrArg Prod.snd er
        have k1 := k (upd H1 p (.lst [.ref q, .int b1.x, .int (restB b1).2.y])) (off.trans Off.updp) ?_
        · rw [← er] at k1; exact k1
        · rw [← er]
          exact ⟨npq, upd_same, by rw [upd_ne npq.symm]; exact hq⟩⟩
    obtain ⟨t3, h3, q3⟩ : ∃ t : TS, PSs (cxOf CX0 P w K mg base ["box", "cells", "cell", "size", "first", "second"] "_law_load" (defScope st_law_load) f cdv A outer s H E).nox ((ifThen ((defBody st_law_load).getD 1 (.Pass ⟨0, 0, 0, 0⟩))).drop 2) t ∧
        ∀ (c z : Int) (cs : List Int), b.cs = c :: cs → sizeB c = z → t { nx := t2 { nx := fun _ H' => Q .non H', rt := Q }, rt := Q } [some (.ref p), some (.ref q), some (.int c), some (.int z), none, none] (upd H q (.lst (cs.map V.int))) :=
      ⟨_, pss_cons (ps_if (pt_cmpR op_ge (pv 3) pe_int (nomark _)) (pss_one (ps_ret (pv 3))) pss_nil)
        (pss_one (ps_asg (pe_op op_modN (pint (by rfl) T.int (pe_op op_add (pe_op op_add (pe_op op_mul (pe_ix ix_list (pv 0) pe_int (by intro _ _; rfl)) pe_int) (pe_op op_mul (pv 3) pe_int)) pe_int) rfl) pe_int) (pg_sub (pv 0) pe_int set_list))), fun c z cs ec hz => by
        obtain ⟨npq, hp, hq⟩ := id hb
        obtain ⟨_, x, y⟩ := b
        obtain rfl : _ = c :: cs := ec
        have hq2 : ∀ H1, H1 = upd H q (.lst (cs.map V.int)) → BSt p q ⟨cs, x, y⟩ H1 := fun H1 e => by
          subst e
          exact ⟨npq, by rw [upd_ne npq]; exact hp, upd_same⟩
        obtain ⟨_, hp2, _⟩ := hq2 _ rfl
        refine ⟨_, rfl, _, _, rfl, rfl, _, rfl, ?_⟩
        by_cases h1 : 1000000000000000000 ≤ z
        · refine iteT' (decide_eq_true h1) ?_
          refine ⟨_, rfl, ?_⟩
          have el : loadB ⟨c :: cs, x, y⟩ = (sizeB c, ⟨cs, x, y⟩) := if_pos (by rw [hz]; exact h1)
          have k1 := k (upd H q (.lst (cs.map V.int))) Off.updq (by rw [el]; exact hq2 _ rfl)
          rw [el, hz] at k1
          exact k1
        · refine iteF' (decide_eq_false h1) ?_
          have el : loadB ⟨c :: cs, x, y⟩ = restB ⟨cs, x, (y * 69621 + sizeB c * 48271 + 11).fmod 2147483647⟩ := if_neg (by rw [hz]; exact h1)
          refine ⟨_, rfl, p, _, 2, _, rfl, rfl, SqL.of hp2, rfl, _, _, rfl, rfl, .inr ⟨by decide, by decide⟩, _, rfl, _, _, rfl, rfl, .inr ⟨by decide, by decide⟩, _, _, rfl, rfl, _, _, rfl, rfl, .inl ⟨_, rfl, _, _, rfl, rfl, (show (_ : Int) ≠ 0 by decide), ?_⟩⟩
          refine ⟨_, rfl, p, _, 2, 2, rfl, rfl, hp2, rfl, ?_⟩
          refine q2 (some (.int c)) (some (.int z)) _ ⟨cs, x, (y * 69621 + z * 48271 + 11).fmod 2147483647⟩ ⟨npq, upd_same, by rw [upd_ne npq.symm]; exact upd_same⟩ (Off.updq.trans Off.updp) ?_
          rw [el, hz]⟩
    refine ⟨_, pss_cons (ps_set (i := 1) sc_load.nd rfl (Or.inl rfl) (pe_ix ix_list (pv 0) pe_int (by intro _ _; rfl)))
      (pss_cons (ps_if (pt_cmpR op_gt (pe_callB call_len_seq (by rfl) T.len PySem.boot_len (pa_cons (pv 1) pa_nil)) pe_int (nomark _))
        (pss_cons (ps_set (i := 2) sc_load.nd rfl (Or.inl rfl) (pint (by rfl) T.int (pe_bm PySem.F.plainAttrs_list PySem.F.slot_list_pop PySem.F.type_list_pop mt_popAt (pv 1) (pa_cons pe_int pa_nil)) rfl))
        (pss_cons (ps_set (i := 3) sc_load.nd rfl (Or.inl rfl) (pe_ifExp (pt_cmpR op_ge (pv 2) pe_int (nomark _)) (pe_op op_mul pe_int (pv 2)) (pe_op op_sub (pe_op op_mul (pe_un un_neg pe_int) (pv 2)) pe_int)))
        h3)) pss_nil)
      h2), ?_⟩
    obtain ⟨npq, hp, hq⟩ := id hb
    refine ⟨_, rfl, p, _, 0, _, rfl, rfl, SqL.of hp, rfl, ?_⟩
    refine ⟨_, rfl, q, _, rfl, .inl (SqL.of hq), _, _, rfl, rfl, _, rfl, ?_⟩
    obtain ⟨cs, x, y⟩ := b
    cases cs with
    | nil =>
      refine iteF' rfl ?_
      exact q2 none none H _ hb Off.refl rfl
    | cons c cs =>
      refine iteT' (decide_eq_true (by simp)) ?_
      refine ⟨_, rfl, .inl ⟨rfl, _, SqL.of hq⟩, q, _, 0, 0, .int c, rfl, rfl, hq, by decide, by decide, ?_, rfl, .inl ⟨_, rfl, ?_⟩⟩
      · show seqIndex? 0 ((c :: cs).map V.int).length = some 0
        rw [seqIndex_of (by decide) (by simp)]; rfl
      refine ⟨_, rfl, _, _, rfl, rfl, _, rfl, ?_⟩
      by_cases h0 : 0 ≤ c
      · refine iteT' (decide_eq_true h0) ?_
        refine ⟨_, rfl, _, _, rfl, rfl, .inl ⟨by decide, by decide⟩, ?_⟩
        exact q3 c _ cs rfl (if_pos h0)
      · refine iteF' (decide_eq_false h0) ?_
        refine ⟨_, rfl, _, rfl, _, _, rfl, rfl, .inl ⟨by decide, by decide⟩, _, _, rfl, rfl, ?_⟩
        exact q3 c _ cs rfl (if_neg h0)
theorem sc_draw : FnScope ["box", "many", "digit"] ["box", "many"] (defScope st_law_draw) := ⟨rfl, rfl, rfl, by decide +kernel, rfl, by decide +kernel, by decide +kernel⟩
theorem ok_draw {f fL : Addr} {fd fdL : FuncData} (F : L2.Fun K "_law_draw" "_law_draw" st_law_draw f fd) (T : BtF K mg) (FL : FnOk P w K mg base CX0 1 fL fdL ["box"] spLoad) (ml : mg "_law_load" = some (.ref fL)) (kl : PySem.W.keepIn K (.ref fL) = true) (bl : Binds K fdL ["box"] []) : FnOk P w K mg base CX0 2 f fd ["box", "many"] spDraw := by
  refine F.ok sc_draw (fun vs H Q E h => ?_) (fun cdv A outer s H vs Q E hr h => ?_)
  · obtain ⟨p, q, b, many, rfl, _⟩ := h
    rfl
  · obtain ⟨p, q, b, many, rfl, hm, hn, hb, k⟩ := h
    have pint : ∀ {X : Cx} {e : Expr} {te : TE} {p pos : Pos}, Gl X "int" → X.mg "int" = none → PE X e te → starEach [e] X.env = (false, eval e X.env) :: starEach [] X.env → PE X (.Call (.Name "int" p) [e] [] pos) (tCB (fun xs H Q => (∃ i, xs = [.int i] ∧ Q (.int i) H) ∨ ∃ k, xs = [.bl k] ∧ Q (.int (if k then 1 else 0)) H) (tCons te tNil)) := fun hg hm he hs => pe_callTy call_int1 hg hm (by decide +kernel) (pa_cons he (pa_nil) hs) (by decide) (by decide) hs rfl
    obtain ⟨t2, h2, q2⟩ : ∃ t : TS, PSs (cxOf CX0 P w K mg base ["box", "many", "digit"] "_law_draw" (defScope st_law_draw) f cdv A outer s H E).nox ((defBody st_law_draw).drop 1) t ∧
        ∀ (H1 : Hp) (b1 : Bx), BSt p q b1 H1 → Off p q H H1 → b1 = fillB b many → t { nx := fun _ H' => Q .non H', rt := Q } [some (.ref p), some (.int many), none] H1 :=
      ⟨_, pss_cons (ps_set (i := 2) sc_draw.nd rfl (Or.inl rfl) (pe_op op_modN (pint (by rfl) T.int (pe_ix ix_list (pv 0) pe_int (by intro _ _; rfl)) rfl) (pv 1)))
        (pss_cons (ps_asg (pe_op op_fdivN (pe_ix ix_list (pv 0) pe_int (by intro _ _; rfl)) (pv 1)) (pg_sub (pv 0) pe_int set_list)) (pss_one (ps_ret (pv 2)))), fun H1 b1 ⟨npq, hp, hq⟩ off eb => by
        refine ⟨_, rfl, p, _, 1, _, rfl, rfl, SqL.of hp, rfl, .inl ⟨_, rfl, _, rfl, _, _, rfl, rfl, hm, ?_⟩⟩
        refine ⟨_, rfl, p, _, 1, _, rfl, rfl, SqL.of hp, rfl, _, rfl, _, _, rfl, rfl, ⟨hm, hn⟩, ?_⟩
        refine ⟨_, rfl, p, _, 1, 1, rfl, rfl, hp, rfl, _, rfl, ?_⟩
        have k1 := k (upd H1 p (.lst [.ref q, .int (b1.x.fdiv many), .int b1.y])) (off.trans Off.updp) ?_
        · unfold drawB at k1
          rw [← eb] at k1
          exact k1
        · unfold drawB
          rw [← eb]
          exact ⟨npq, upd_same, by rw [upd_ne npq.symm]; exact hq⟩⟩
    refine ⟨_, pss_cons (ps_if (pt_cmpR op_lt (pe_ix ix_list (pv 0) pe_int (by intro _ _; rfl)) (pv 1) (nomark _))
      (pss_one (ps_asg (pe_call FL hr (by rfl) ml kl bl .nil pass0 (pa_cons (pv 0) pa_nil)) (pg_sub (pv 0) pe_int set_list))) pss_nil) h2, ?_⟩
    obtain ⟨npq, hp, hq⟩ := id hb
    refine ⟨_, rfl, p, _, 1, _, rfl, rfl, SqL.of hp, rfl, _, rfl, _, _, rfl, rfl, _, rfl, ?_⟩
    by_cases h0 : b.x < many
    · refine iteT' (decide_eq_true h0) ?_
      refine ⟨_, rfl, p, q, b, rfl, hb, fun H' off bs => ?_⟩
      refine ⟨_, rfl, p, _, 1, 1, rfl, rfl, bs.2.1, rfl, ?_⟩
      refine q2 _ ⟨(loadB b).2.cs, (loadB b).1, (loadB b).2.y⟩ ⟨npq, upd_same, by rw [upd_ne npq.symm]; exact bs.2.2⟩ (off.trans Off.updp) ?_
      unfold fillB
      rw [if_pos h0]
    · refine iteF' (decide_eq_false h0) ?_
      refine q2 H b hb Off.refl ?_
      unfold fillB
      rw [if_neg h0]
end

structure Txt (K : PySem.W.Frag) (mg : Str → Option Value) (fa : Nat → Addr) (fd : Nat → FuncData) : Prop where
  d_is_number : Df K mg "is_number" (top 1) ["value", "least", "most"] (fa 1) (fd 1)
  d_is_ascending : Df K mg "is_ascending" (top 2) ["rows"] (fa 2) (fd 2)
  d_is_thing_row : Df K mg "is_thing_row" (top 7) ["kinds", "value"] (fa 7) (fd 7)
  d_is_loan : Df K mg "is_loan" (top 8) ["value"] (fa 8) (fd 8)
  d_fits : Df K mg "fits" (top 9) ["needed", "free"] (fa 9) (fd 9)
  d_added_to : Df K mg "added_to" (top 10) ["free", "row"] (fa 10) (fd 10)
  d_safe_order : Df K mg "safe_order" (top 11) ["loan"] (fa 11) (fd 11)
  d_is_safe_order : Df K mg "is_safe_order" (top 12) ["loan", "value"] (fa 12) (fd 12)
  d_is_stuck : Df K mg "is_stuck" (top 13) ["loan", "value"] (fa 13) (fd 13)
  d_after_asking : Df K mg "after_asking" (top 14) ["loan", "helper", "row"] (fa 14) (fd 14)
  d_may_grant : Df K mg "may_grant" (top 15) ["loan", "helper", "row"] (fa 15) (fd 15)
  d_law_flat : Df K mg "_law_flat" (top 17) ["rows"] (fa 17) (fd 17)
  d_law_box : Df K mg "_law_box" (top 18) ["script"] (fa 18) (fd 18)
  d_law_load : Df K mg "_law_load" (top 19) ["box"] (fa 19) (fd 19)
  d_law_draw : Df K mg "_law_draw" (top 20) ["box", "many"] (fa 20) (fd 20)
  d_law_same : Df K mg "_law_same" (top 21) ["a", "b"] (fa 21) (fd 21)
  d_law_loan : Df K mg "_law_loan" (top 22) ["box", "kinds", "many", "most"] (fa 22) (fd 22)
  d_law_ends : Df K mg "_law_ends" (top 23) ["loan", "order"] (fa 23) (fd 23)
  d_law_orders : Df K mg "_law_orders" (top 24) ["n"] (fa 24) (fd 24)
  d_law_sets : Df K mg "_law_sets" (top 25) ["n"] (fa 25) (fd 25)
  d_law_stuck : Df K mg "_law_stuck" (top 26) ["loan", "group"] (fa 26) (fd 26)
  d_law_numbers : Df K mg "_law_numbers" (top 27) ["value", "n"] (fa 27) (fd 27)
  d_law_is_loan : Df K mg "_law_is_loan" (top 28) ["value"] (fa 28) (fd 28)
  d_law_bent : Df K mg "_law_bent" (top 29) ["box", "value"] (fa 29) (fd 29)
  d_law : Df K mg "law" (top 30) ["script"] (fa 30) (fd 30)
  b_all : mg "all" = none
  b_any : mg "any" = none
  b_bool : mg "bool" = none
  b_enumerate : mg "enumerate" = none
  b_int : mg "int" = none
  b_isinstance : mg "isinstance" = none
  b_len : mg "len" = none
  b_list : mg "list" = none
  b_max : mg "max" = none
  b_range : mg "range" = none
  b_sorted : mg "sorted" = none
  b_str : mg "str" = none
  b_sum : mg "sum" = none
  b_tuple : mg "tuple" = none
  b_zip : mg "zip" = none
  g_MAX_HELPERS : ∃ u, mg "MAX_HELPERS" = some u ∧ RelV (.int 12) u
  g_MAX_KINDS : ∃ u, mg "MAX_KINDS" = some u ∧ RelV (.int 6) u
  g_MAX_THINGS : ∃ u, mg "MAX_THINGS" = some u ∧ RelV (.int 99) u
theorem Txt.btF {K : PySem.W.Frag} {mg : Str → Option Value} {fa : Nat → Addr} {fd : Nat → FuncData} (T : Txt K mg fa fd) : BtF K mg := ⟨T.b_len, T.b_int, T.b_list⟩
section
variable {P : Program} {w : World} {K : PySem.W.Frag} {mg : Str → Option Value} {base : Heap} {fn : Nat → Option V} {fa : Nat → Addr} {fd : Nat → FuncData}
theorem okd_draw (T : Txt K mg fa fd) : FnOk P w K mg base CX0 2 (fa 20) (fd 20) ["box", "many"] (spD ⟨P, w, K, fn⟩ 2 drawF) :=
  (ok_draw T.d_law_draw.fu T.btF (ok_load T.d_law_load.fu T.btF) T.d_law_load.mg T.d_law_load.fu.kp T.d_law_load.bi).imp draw_imp
abbrev t_is_number : Stmt := top 1
theorem sc_is_number : FnScope ["value", "least", "most"] ["value", "least", "most"] (defScope t_is_number) := ⟨rfl, rfl, rfl, by decide +kernel, rfl, by decide +kernel, by decide +kernel⟩
theorem ok_is_number (T : Txt K mg fa fd) : FnOk P w K mg base CX0 1 (fa 1) (fd 1) ["value", "least", "most"] (spD ⟨P, w, K, fn⟩ 3 f_is_number) := by
    refine fn_sv (k := 0) T.d_is_number.fu sc_is_number rfl s_is_number fun cdv A outer s0 H E hr => ?_
    have nd := sc_is_number.nd
    have hu := hu64 hr
    have hu5 := hu65 hr
    exact psx_one (psx_ret (px_and (px_isi (t := .int) (vo 0) (by rfl) T.b_isinstance (by rfl) T.b_int (by decide +kernel)) (px_and (px_not ((px_isi (t := .bool) (vo 0) (by rfl) T.b_isinstance (by rfl) T.b_bool (by decide +kernel)).o)) (px_one (px_chain (d_le hu) (d_le hu) (vo 1) (vo 0) (vo 2))))))
abbrev t_is_ascending : Stmt := top 2
theorem sc_is_ascending : FnScope ["rows", "k"] ["rows"] (defScope t_is_ascending) := ⟨rfl, rfl, rfl, by decide +kernel, rfl, by decide +kernel, by decide +kernel⟩
theorem ok_is_ascending (T : Txt K mg fa fd) : FnOk P w K mg base CX0 1 (fa 2) (fd 2) ["rows"] (spD ⟨P, w, K, fn⟩ 1 f_is_ascending) := by
    refine fn_sv (k := 0) T.d_is_ascending.fu sc_is_ascending rfl s_is_ascending fun cdv A outer s0 H E hr => ?_
    have nd := sc_is_ascending.nd
    have hu := hu64 hr
    have hu5 := hu65 hr
    exact psx_one (psx_ret (b_all T.b_all (((pn_lc (own := [("k", 1)]) (by rfl) nd ((pi_range (by rfl) T.b_range (ps_cons' (px_bin d_sub ((b_len T.b_len (vo 0)).o) ((px_int).o)) (ps_nil'))).o) (blkOk_by (by kernel_rfl)) (fun _ _ _ _ _ => pgx_nm (i := 1) nd rfl (by first | exact Or.inl rfl | exact Or.inr rfl)) (fun _ _ _ _ _ => ptx_nil) (fun _ _ _ _ _ => px_cmp (d_lt hu) ((px_ix d_ix (vo 0) (vx 1)).o) ((px_ix d_ix (vo 0) (px_bin d_add (vo 1) ((px_int).o))).o) (nomark _))).x).o)))
abbrev t_is_thing_row : Stmt := top 7
theorem sc_is_thing_row : FnScope ["kinds", "value", "x"] ["kinds", "value"] (defScope t_is_thing_row) := ⟨rfl, rfl, rfl, by decide +kernel, rfl, by decide +kernel, by decide +kernel⟩
theorem ok_is_thing_row (T : Txt K mg fa fd) : FnOk P w K mg base CX0 2 (fa 7) (fd 7) ["kinds", "value"] (spD ⟨P, w, K, fn⟩ 2 f_is_thing_row) := by
    refine fn_sv (k := 1) T.d_is_thing_row.fu sc_is_thing_row rfl s_is_thing_row fun cdv A outer s0 H E hr => ?_
    have nd := sc_is_thing_row.nd
    have hu := hu64 hr
    have hu5 := hu65 hr
    have c_is_number := T.d_is_number.cal (ok_is_number (P := P) (w := w) (base := base) (fn := fn) T) hr
    exact psx_one (psx_ret (px_and (px_isi (t := .tuple) (vo 1) (by rfl) T.b_isinstance (by rfl) T.b_tuple (by decide +kernel)) (px_and (px_cmp (d_eq hu) ((b_len T.b_len (vo 1)).o) (vo 0) (nomark _)) (px_one (b_all T.b_all (((pn_lc (own := [("x", 2)]) (by rfl) nd (pio_seq (vo 1)) (blkOk_by (by kernel_rfl)) (fun _ _ _ _ _ => pgx_nm (i := 2) nd rfl (by first | exact Or.inl rfl | exact Or.inr rfl)) (fun _ _ _ _ _ => ptx_nil) (fun _ _ _ _ _ => px_call c_is_number (by rfl) (ps_cons' (vx 2) (ps_cons' (px_int) (ps_cons' (px_con (px_gc (by rfl) T.g_MAX_THINGS) (fun _ _ _ => by simp [Rp])) (ps_nil')))))).x).o))))))
abbrev t_is_loan : Stmt := top 8
theorem sc_is_loan : FnScope ["value", "free", "held", "needed", "row", "part"] ["value"] (defScope t_is_loan) := ⟨rfl, rfl, rfl, by decide +kernel, rfl, by decide +kernel, by decide +kernel⟩
theorem ok_is_loan (T : Txt K mg fa fd) : FnOk P w K mg base CX0 3 (fa 8) (fd 8) ["value"] (spD ⟨P, w, K, fn⟩ 1 f_is_loan) := by
    refine fn_sv (k := 2) T.d_is_loan.fu sc_is_loan rfl s_is_loan fun cdv A outer s0 H E hr => ?_
    have nd := sc_is_loan.nd
    have hu := hu64 hr
    have hu5 := hu65 hr
    have c_is_thing_row := T.d_is_thing_row.cal (ok_is_thing_row (P := P) (w := w) (base := base) (fn := fn) T) hr
    exact psx_cons (psx_if ((pw_or' (pt_not' (pt_of ((px_isi (t := .tuple) (vo 0) (by rfl) T.b_isinstance (by rfl) T.b_tuple (by decide +kernel)).o))) (pw_or' (pt_cmp' (d_ne hu) ((b_len T.b_len (vo 0)).o) ((px_int).o) (nomark _)) (pw_one_or (pt_not' (pt_of ((b_all T.b_all (((pn_lc (own := [("part", 5)]) (by rfl) nd (pio_seq (vo 0)) (blkOk_by (by kernel_rfl)) (fun _ _ _ _ _ => pgx_nm (i := 5) nd rfl (by first | exact Or.inl rfl | exact Or.inr rfl)) (fun _ _ _ _ _ => ptx_nil) (fun _ _ _ _ _ => px_isi (t := .tuple) (vo 5) (by rfl) T.b_isinstance (by rfl) T.b_tuple (by decide +kernel))).x).o)).o)))))).pt) (psx_one (psx_ret (px_bl))) (psx_nil)) (psx_cons (psx_asg (vx 0) (pgx_tup (by rfl) (pgx_cons (pgx_nm (i := 1) nd rfl (by first | exact Or.inl rfl | exact Or.inr rfl)) (pgx_cons (pgx_nm (i := 2) nd rfl (by first | exact Or.inl rfl | exact Or.inr rfl)) (pgx_cons (pgx_nm (i := 3) nd rfl (by first | exact Or.inl rfl | exact Or.inr rfl)) (pgx_nil)))))) (psx_cons (psx_if ((pw_or' (pt_not' (pt_chain' (d_le hu) (d_le hu) ((px_int).o) ((b_len T.b_len (vo 1)).o) ((px_con (px_gc (by rfl) T.g_MAX_KINDS) (fun _ _ _ => by simp [Rp])).o))) (pw_or' (pt_cmp' (d_ne hu) ((b_len T.b_len (vo 2)).o) ((b_len T.b_len (vo 3)).o) (nomark _)) (pw_one_or (pt_cmp' (d_gt hu) ((b_len T.b_len (vo 2)).o) ((px_con (px_gc (by rfl) T.g_MAX_HELPERS) (fun _ _ _ => by simp [Rp])).o) (nomark _))))).pt) (psx_one (psx_ret (px_bl))) (psx_nil)) (psx_one (psx_ret (b_all T.b_all (((pn_lc (own := [("row", 4)]) (by rfl) nd (pio_seq ((px_bin d_add ((px_bin d_add ((px_tup (ps_cons' (vx 1) (ps_nil'))).o) (vo 2)).o) (vo 3)).o)) (blkOk_by (by kernel_rfl)) (fun _ _ _ _ _ => pgx_nm (i := 4) nd rfl (by first | exact Or.inl rfl | exact Or.inr rfl)) (fun _ _ _ _ _ => ptx_nil) (fun _ _ _ _ _ => px_call c_is_thing_row (by rfl) (ps_cons' (b_len T.b_len (vo 1)) (ps_cons' (vx 4) (ps_nil'))))).x).o))))))
abbrev t_fits : Stmt := top 9
theorem sc_fits : FnScope ["needed", "free", "need", "there"] ["needed", "free"] (defScope t_fits) := ⟨rfl, rfl, rfl, by decide +kernel, rfl, by decide +kernel, by decide +kernel⟩
theorem ok_fits (T : Txt K mg fa fd) : FnOk P w K mg base CX0 1 (fa 9) (fd 9) ["needed", "free"] (spD ⟨P, w, K, fn⟩ 2 f_fits) := by
    refine fn_sv (k := 0) T.d_fits.fu sc_fits rfl s_fits fun cdv A outer s0 H E hr => ?_
    have nd := sc_fits.nd
    have hu := hu64 hr
    have hu5 := hu65 hr
    exact psx_one (psx_ret (b_all T.b_all (((pn_lc (own := [("need", 2), ("there", 3)]) (by rfl) nd ((pi_zip' (by rfl) T.b_zip (vx 0) (vx 1)).o) (blkOk_by (by kernel_rfl)) (fun _ _ _ _ _ => pgx_tup (by rfl) (pgx_cons (pgx_nm (i := 2) nd rfl (by first | exact Or.inl rfl | exact Or.inr rfl)) (pgx_cons (pgx_nm (i := 3) nd rfl (by first | exact Or.inl rfl | exact Or.inr rfl)) (pgx_nil)))) (fun _ _ _ _ _ => ptx_nil) (fun _ _ _ _ _ => px_cmp (d_le hu) (vo 2) (vo 3) (nomark _))).x).o)))
abbrev t_added_to : Stmt := top 10
theorem sc_added_to : FnScope ["free", "row", "there", "more"] ["free", "row"] (defScope t_added_to) := ⟨rfl, rfl, rfl, by decide +kernel, rfl, by decide +kernel, by decide +kernel⟩
theorem ok_added_to (T : Txt K mg fa fd) : FnOk P w K mg base CX0 1 (fa 10) (fd 10) ["free", "row"] (spD ⟨P, w, K, fn⟩ 2 f_added_to) := by
    refine fn_sv (k := 0) T.d_added_to.fu sc_added_to rfl s_added_to fun cdv A outer s0 H E hr => ?_
    have nd := sc_added_to.nd
    have hu := hu64 hr
    have hu5 := hu65 hr
    exact psx_one (psx_ret (b_tuple T.b_tuple (((pn_lc (own := [("there", 2), ("more", 3)]) (by rfl) nd ((pi_zip' (by rfl) T.b_zip (vx 0) (vx 1)).o) (blkOk_by (by kernel_rfl)) (fun _ _ _ _ _ => pgx_tup (by rfl) (pgx_cons (pgx_nm (i := 2) nd rfl (by first | exact Or.inl rfl | exact Or.inr rfl)) (pgx_cons (pgx_nm (i := 3) nd rfl (by first | exact Or.inl rfl | exact Or.inr rfl)) (pgx_nil)))) (fun _ _ _ _ _ => ptx_nil) (fun _ _ _ _ _ => px_bin d_add (vo 2) (vo 3))).x).o)))
abbrev t_safe_order : Stmt := top 11
theorem sc_safe_order : FnScope ["loan", "free", "held", "needed", "left", "order", "able", "helper"] ["loan"] (defScope t_safe_order) := ⟨rfl, rfl, rfl, by decide +kernel, rfl, by decide +kernel, by decide +kernel⟩
theorem ok_safe_order (T : Txt K mg fa fd) : FnOk P w K mg base CX0 2 (fa 11) (fd 11) ["loan"] (spD ⟨P, w, K, fn⟩ 1 f_safe_order) := by
    refine fn_sv (k := 1) T.d_safe_order.fu sc_safe_order rfl s_safe_order fun cdv A outer s0 H E hr => ?_
    have nd := sc_safe_order.nd
    have hu := hu64 hr
    have hu5 := hu65 hr
    have c_added_to := T.d_added_to.cal (ok_added_to (P := P) (w := w) (base := base) (fn := fn) T) hr
    have c_fits := T.d_fits.cal (ok_fits (P := P) (w := w) (base := base) (fn := fn) T) hr
    exact psx_cons (psx_asg (vx 0) (pgx_tup (by rfl) (pgx_cons (pgx_nm (i := 1) nd rfl (by first | exact Or.inl rfl | exact Or.inr rfl)) (pgx_cons (pgx_nm (i := 2) nd rfl (by first | exact Or.inl rfl | exact Or.inr rfl)) (pgx_cons (pgx_nm (i := 3) nd rfl (by first | exact Or.inl rfl | exact Or.inr rfl)) (pgx_nil)))))) (psx_cons (psx_par2 (by rfl) nd rfl rfl  (by decide) rfl rfl  (pks_new (pn_lr1 T.b_list T.b_range (b_len T.b_len (vo 2))) (pks_new (pn_lst (ps_nil')) (pks_nil))) (by kernel_rfl)) (psx_cons (psx_while PassesOwn.never (pt_of (vo 4)) (psx_cons (psx_setLcF (i := 6) (own := [("helper", 7)]) (by rfl) nd rfl rfl (sw_true rfl rfl rfl (by decide +kernel)) (pio_seq (vo 4)) (blkOk_by (by kernel_rfl)) (fun _ _ _ _ _ => pgx_nm (i := 7) nd rfl (by first | exact Or.inl rfl | exact Or.inr rfl)) (fun _ _ _ _ _ => ptx_one (pt_of ((px_call c_fits (by rfl) (ps_cons' (px_ix d_ix (vo 3) (vx 7)) (ps_cons' (vx 1) (ps_nil')))).o))) (fun _ _ _ _ _ => vx 7)) (psx_cons (psx_if (pt_not' (pt_of (vo 6))) (psx_one (psx_ret (px_tup (ps_cons' (px_str) (ps_cons' (b_tuple T.b_tuple (vo 4)) (ps_nil')))))) (psx_nil)) (psx_cons (psx_exprM (pmx_app (pv 5) (pmas_one (pmx_up (px_ix d_ix (vo 6) (px_int)))))) (psx_cons (psx_exprM (pmx_rem (by rfl) tk0 (pv 4) (px_ix d_ix (vo 6) (px_int)))) (psx_one (psx_set (i := 1) nd rfl (by first | exact Or.inl rfl | exact Or.inr rfl) (px_call c_added_to (by rfl) (ps_cons' (vx 1) (ps_cons' (px_ix d_ix (vo 2) (px_ix d_ix (vo 6) (px_int))) (ps_nil'))))))))))) (psx_one (psx_ret (px_tup (ps_cons' (px_str) (ps_cons' (b_tuple T.b_tuple (vo 5)) (ps_nil'))))))))
abbrev t_is_safe_order : Stmt := top 12
theorem sc_is_safe_order : FnScope ["loan", "value", "free", "held", "needed", "helper"] ["loan", "value"] (defScope t_is_safe_order) := ⟨rfl, rfl, rfl, by decide +kernel, rfl, by decide +kernel, by decide +kernel⟩
theorem ok_is_safe_order (T : Txt K mg fa fd) : FnOk P w K mg base CX0 2 (fa 12) (fd 12) ["loan", "value"] (spD ⟨P, w, K, fn⟩ 2 f_is_safe_order) := by
    refine fn_sv (k := 1) T.d_is_safe_order.fu sc_is_safe_order rfl s_is_safe_order fun cdv A outer s0 H E hr => ?_
    have nd := sc_is_safe_order.nd
    have hu := hu64 hr
    have hu5 := hu65 hr
    have c_added_to := T.d_added_to.cal (ok_added_to (P := P) (w := w) (base := base) (fn := fn) T) hr
    have c_fits := T.d_fits.cal (ok_fits (P := P) (w := w) (base := base) (fn := fn) T) hr
    have c_is_number := T.d_is_number.cal (ok_is_number (P := P) (w := w) (base := base) (fn := fn) T) hr
    exact psx_cons (psx_asg (vx 0) (pgx_tup (by rfl) (pgx_cons (pgx_nm (i := 2) nd rfl (by first | exact Or.inl rfl | exact Or.inr rfl)) (pgx_cons (pgx_nm (i := 3) nd rfl (by first | exact Or.inl rfl | exact Or.inr rfl)) (pgx_cons (pgx_nm (i := 4) nd rfl (by first | exact Or.inl rfl | exact Or.inr rfl)) (pgx_nil)))))) (psx_cons (psx_if ((pw_or' (pt_not' (pt_of ((px_isi (t := .tuple) (vo 1) (by rfl) T.b_isinstance (by rfl) T.b_tuple (by decide +kernel)).o))) (pw_one_or (pt_not' (pt_of ((b_all T.b_all (((pn_lc (own := [("helper", 5)]) (by rfl) nd (pio_seq (vo 1)) (blkOk_by (by kernel_rfl)) (fun _ _ _ _ _ => pgx_nm (i := 5) nd rfl (by first | exact Or.inl rfl | exact Or.inr rfl)) (fun _ _ _ _ _ => ptx_nil) (fun _ _ _ _ _ => px_call c_is_number (by rfl) (ps_cons' (vx 5) (ps_cons' (px_int) (ps_cons' (px_bin d_sub ((b_len T.b_len (vo 3)).o) ((px_int).o)) (ps_nil')))))).x).o)).o))))).pt) (psx_one (psx_ret (px_bl))) (psx_nil)) (psx_cons (psx_if (pt_cmp' (d_ne hu) (((b_sorted T.b_sorted hu (vo 1)).x).o) (((pn_lr1 T.b_list T.b_range (b_len T.b_len (vo 3))).x).o) (nomark _)) (psx_one (psx_ret (px_bl))) (psx_nil)) (psx_cons (psx_for PassesOwn.never (by rfl) (pi_seq (vx 1)) (pgx_nm (i := 5) nd rfl (by first | exact Or.inl rfl | exact Or.inr rfl)) (psx_cons (psx_if (pt_not' (pt_of ((px_call c_fits (by rfl) (ps_cons' (px_ix d_ix (vo 4) (vx 5)) (ps_cons' (vx 2) (ps_nil')))).o))) (psx_one (psx_ret (px_bl))) (psx_nil)) (psx_one (psx_set (i := 2) nd rfl (by first | exact Or.inl rfl | exact Or.inr rfl) (px_call c_added_to (by rfl) (ps_cons' (vx 2) (ps_cons' (px_ix d_ix (vo 3) (vx 5)) (ps_nil')))))))) (psx_one (psx_ret (px_bl))))))
abbrev t_is_stuck : Stmt := top 13
theorem sc_is_stuck : FnScope ["loan", "value", "free", "held", "needed", "helper", "row", "k"] ["loan", "value"] (defScope t_is_stuck) := ⟨rfl, rfl, rfl, by decide +kernel, rfl, by decide +kernel, by decide +kernel⟩
theorem ok_is_stuck (T : Txt K mg fa fd) : FnOk P w K mg base CX0 2 (fa 13) (fd 13) ["loan", "value"] (spD ⟨P, w, K, fn⟩ 2 f_is_stuck) := by
    refine fn_sv (k := 1) T.d_is_stuck.fu sc_is_stuck rfl s_is_stuck fun cdv A outer s0 H E hr => ?_
    have nd := sc_is_stuck.nd
    have hu := hu64 hr
    have hu5 := hu65 hr
    have c_added_to := T.d_added_to.cal (ok_added_to (P := P) (w := w) (base := base) (fn := fn) T) hr
    have c_fits := T.d_fits.cal (ok_fits (P := P) (w := w) (base := base) (fn := fn) T) hr
    have c_is_ascending := T.d_is_ascending.cal (ok_is_ascending (P := P) (w := w) (base := base) (fn := fn) T) hr
    have c_is_number := T.d_is_number.cal (ok_is_number (P := P) (w := w) (base := base) (fn := fn) T) hr
    exact psx_cons (psx_asg (vx 0) (pgx_tup (by rfl) (pgx_cons (pgx_nm (i := 2) nd rfl (by first | exact Or.inl rfl | exact Or.inr rfl)) (pgx_cons (pgx_nm (i := 3) nd rfl (by first | exact Or.inl rfl | exact Or.inr rfl)) (pgx_cons (pgx_nm (i := 4) nd rfl (by first | exact Or.inl rfl | exact Or.inr rfl)) (pgx_nil)))))) (psx_cons (psx_if ((pw_or' (pt_not' (pt_of ((px_isi (t := .tuple) (vo 1) (by rfl) T.b_isinstance (by rfl) T.b_tuple (by decide +kernel)).o))) (pw_or' (pt_cmp' (d_eq hu) (vo 1) ((px_tup (ps_nil')).o) (nomark _)) (pw_one_or (pt_not' (pt_of ((b_all T.b_all (((pn_lc (own := [("k", 7)]) (by rfl) nd (pio_seq (vo 1)) (blkOk_by (by kernel_rfl)) (fun _ _ _ _ _ => pgx_nm (i := 7) nd rfl (by first | exact Or.inl rfl | exact Or.inr rfl)) (fun _ _ _ _ _ => ptx_nil) (fun _ _ _ _ _ => px_call c_is_number (by rfl) (ps_cons' (vx 7) (ps_cons' (px_int) (ps_cons' (px_bin d_sub ((b_len T.b_len (vo 3)).o) ((px_int).o)) (ps_nil')))))).x).o)).o)))))).pt) (psx_one (psx_ret (px_bl))) (psx_nil)) (psx_cons (psx_if (pt_not' (pt_of ((px_call c_is_ascending (by rfl) (ps_cons' (vx 1) (ps_nil'))).o))) (psx_one (psx_ret (px_bl))) (psx_nil)) (psx_cons (psx_for PassesOwn.never (by rfl) (pi_enum' (by rfl) T.b_enumerate (vx 3)) (pgx_tup (by rfl) (pgx_cons (pgx_nm (i := 5) nd rfl (by first | exact Or.inl rfl | exact Or.inr rfl)) (pgx_cons (pgx_nm (i := 6) nd rfl (by first | exact Or.inl rfl | exact Or.inr rfl)) (pgx_nil)))) (psx_one (psx_if (pt_cmp' (d_notIn hu5) (vo 5) (vo 1) (by rfl)) (psx_one (psx_set (i := 2) nd rfl (by first | exact Or.inl rfl | exact Or.inr rfl) (px_call c_added_to (by rfl) (ps_cons' (vx 2) (ps_cons' (vx 6) (ps_nil')))))) (psx_nil)))) (psx_one (psx_ret (px_not ((b_any T.b_any (((pn_lc (own := [("helper", 5)]) (by rfl) nd (pio_seq (vo 1)) (blkOk_by (by kernel_rfl)) (fun _ _ _ _ _ => pgx_nm (i := 5) nd rfl (by first | exact Or.inl rfl | exact Or.inr rfl)) (fun _ _ _ _ _ => ptx_nil) (fun _ _ _ _ _ => px_call c_fits (by rfl) (ps_cons' (px_ix d_ix (vo 4) (vx 5)) (ps_cons' (vx 2) (ps_nil'))))).x).o)).o)))))))
abbrev t_after_asking : Stmt := top 14
theorem sc_after_asking : FnScope ["loan", "helper", "row", "free", "held", "needed", "less", "more", "need", "there", "given"] ["loan", "helper", "row"] (defScope t_after_asking) := ⟨rfl, rfl, rfl, by decide +kernel, rfl, by decide +kernel, by decide +kernel⟩
theorem ok_after_asking (T : Txt K mg fa fd) : FnOk P w K mg base CX0 2 (fa 14) (fd 14) ["loan", "helper", "row"] (spD ⟨P, w, K, fn⟩ 3 f_after_asking) := by
    refine fn_sv (k := 1) T.d_after_asking.fu sc_after_asking rfl s_after_asking fun cdv A outer s0 H E hr => ?_
    have nd := sc_after_asking.nd
    have hu := hu64 hr
    have hu5 := hu65 hr
    have c_added_to := T.d_added_to.cal (ok_added_to (P := P) (w := w) (base := base) (fn := fn) T) hr
    exact psx_cons (psx_asg (vx 0) (pgx_tup (by rfl) (pgx_cons (pgx_nm (i := 3) nd rfl (by first | exact Or.inl rfl | exact Or.inr rfl)) (pgx_cons (pgx_nm (i := 4) nd rfl (by first | exact Or.inl rfl | exact Or.inr rfl)) (pgx_cons (pgx_nm (i := 5) nd rfl (by first | exact Or.inl rfl | exact Or.inr rfl)) (pgx_nil)))))) (psx_cons (psx_set (i := 6) nd rfl (by first | exact Or.inl rfl | exact Or.inr rfl) (b_tuple T.b_tuple (((pn_lc (own := [("need", 8), ("more", 7)]) (by rfl) nd ((pi_zip' (by rfl) T.b_zip (px_ix d_ix (vo 5) (vx 1)) (vx 2)).o) (blkOk_by (by kernel_rfl)) (fun _ _ _ _ _ => pgx_tup (by rfl) (pgx_cons (pgx_nm (i := 8) nd rfl (by first | exact Or.inl rfl | exact Or.inr rfl)) (pgx_cons (pgx_nm (i := 7) nd rfl (by first | exact Or.inl rfl | exact Or.inr rfl)) (pgx_nil)))) (fun _ _ _ _ _ => ptx_nil) (fun _ _ _ _ _ => px_bin d_sub (vo 8) (vo 7))).x).o))) (psx_cons (psx_set (i := 7) nd rfl (by first | exact Or.inl rfl | exact Or.inr rfl) (px_call c_added_to (by rfl) (ps_cons' (px_ix d_ix (vo 4) (vx 1)) (ps_cons' (vx 2) (ps_nil'))))) (psx_cons (psx_set (i := 4) nd rfl (by first | exact Or.inl rfl | exact Or.inr rfl) (px_bin d_add ((px_bin d_add ((px_slice d_sl (vo 4) pox_none (pox_some (vx 1))).o) ((px_tup (ps_cons' (vx 7) (ps_nil'))).o)).o) ((px_slice d_sl (vo 4) (pox_some (px_bin d_add (vo 1) ((px_int).o))) pox_none).o))) (psx_cons (psx_set (i := 5) nd rfl (by first | exact Or.inl rfl | exact Or.inr rfl) (px_bin d_add ((px_bin d_add ((px_slice d_sl (vo 5) pox_none (pox_some (vx 1))).o) ((px_tup (ps_cons' (vx 6) (ps_nil'))).o)).o) ((px_slice d_sl (vo 5) (pox_some (px_bin d_add (vo 1) ((px_int).o))) pox_none).o))) (psx_one (psx_ret (px_tup (ps_cons' (b_tuple T.b_tuple (((pn_lc (own := [("there", 9), ("given", 10)]) (by rfl) nd ((pi_zip' (by rfl) T.b_zip (vx 3) (vx 2)).o) (blkOk_by (by kernel_rfl)) (fun _ _ _ _ _ => pgx_tup (by rfl) (pgx_cons (pgx_nm (i := 9) nd rfl (by first | exact Or.inl rfl | exact Or.inr rfl)) (pgx_cons (pgx_nm (i := 10) nd rfl (by first | exact Or.inl rfl | exact Or.inr rfl)) (pgx_nil)))) (fun _ _ _ _ _ => ptx_nil) (fun _ _ _ _ _ => px_bin d_sub (vo 9) (vo 10))).x).o)) (ps_cons' (vx 4) (ps_cons' (vx 5) (ps_nil')))))))))))
abbrev t_may_grant : Stmt := top 15
theorem sc_may_grant : FnScope ["loan", "helper", "row"] ["loan", "helper", "row"] (defScope t_may_grant) := ⟨rfl, rfl, rfl, by decide +kernel, rfl, by decide +kernel, by decide +kernel⟩
theorem ok_may_grant (T : Txt K mg fa fd) : FnOk P w K mg base CX0 3 (fa 15) (fd 15) ["loan", "helper", "row"] (spD ⟨P, w, K, fn⟩ 3 f_may_grant) := by
    refine fn_sv (k := 2) T.d_may_grant.fu sc_may_grant rfl s_may_grant fun cdv A outer s0 H E hr => ?_
    have nd := sc_may_grant.nd
    have hu := hu64 hr
    have hu5 := hu65 hr
    have c_after_asking := T.d_after_asking.cal (ok_after_asking (P := P) (w := w) (base := base) (fn := fn) T) hr
    have c_fits := T.d_fits.cal (ok_fits (P := P) (w := w) (base := base) (fn := fn) T) hr
    have c_safe_order := T.d_safe_order.cal (ok_safe_order (P := P) (w := w) (base := base) (fn := fn) T) hr
    exact psx_one (psx_ret (px_and (px_call c_fits (by rfl) (ps_cons' (vx 2) (ps_cons' (px_ix d_ix (vo 0) (px_int)) (ps_nil')))) (px_one (px_cmp (d_eq hu) ((px_ix d_ix ((px_call c_safe_order (by rfl) (ps_cons' (px_call c_after_asking (by rfl) (ps_cons' (vx 0) (ps_cons' (vx 1) (ps_cons' (vx 2) (ps_nil'))))) (ps_nil'))).o) (px_int)).o) ((px_str).o) (nomark _)))))
abbrev t_law_flat : Stmt := top 17
theorem sc_law_flat : FnScope ["rows", "found", "row"] ["rows"] (defScope t_law_flat) := ⟨rfl, rfl, rfl, by decide +kernel, rfl, by decide +kernel, by decide +kernel⟩
theorem ok_law_flat (T : Txt K mg fa fd) : FnOk P w K mg base CX0 1 (fa 17) (fd 17) ["rows"] (spD ⟨P, w, K, fn⟩ 1 f_law_flat) := by
    refine fn_sv (k := 0) T.d_law_flat.fu sc_law_flat rfl s_law_flat fun cdv A outer s0 H E hr => ?_
    have nd := sc_law_flat.nd
    have hu := hu64 hr
    have hu5 := hu65 hr
    exact psx_cons (psx_new (i := 1) nd rfl (by first | exact Or.inl rfl | exact Or.inr rfl) (pn_lst (ps_nil'))) (psx_cons (psx_for PassesOwn.never (by rfl) (pi_seq (vx 0)) (pgx_nm (i := 2) nd rfl (by first | exact Or.inl rfl | exact Or.inr rfl)) (psx_one (psx_exprM (pmx_ext (pv 1) (pmas_one (pmx_up (vx 2))))))) (psx_one (psx_fz (psx_ret (vx 1)))))
abbrev t_law_same : Stmt := top 21
theorem sc_law_same : FnScope ["a", "b", "k"] ["a", "b"] (defScope t_law_same) := ⟨rfl, rfl, rfl, by decide +kernel, rfl, by decide +kernel, by decide +kernel⟩
theorem ok_law_same (T : Txt K mg fa fd) : ∀ n : Nat, FnOk P w K mg base CX0 (0 + n) (fa 21) (fd 21) ["a", "b"] (spD ⟨P, w, K, fn⟩ 2 (f_law_same n))
  | 0 => fn_none 2 rfl
  | n + 1 => by
    have ih := ok_law_same T n
    refine fn_sv (k := 0 + n) T.d_law_same.fu sc_law_same rfl (s_law_same (f_law_same n)) fun cdv A outer s0 H E hr => ?_
    have nd := sc_law_same.nd
    have hu := hu64 hr
    have hu5 := hu65 hr
    have c_law_same := T.d_law_same.cal ih hr
    exact psx_cons (psx_if ((pw_or' ((pw_and' (pt_of ((px_isi (t := .tuple) (vo 0) (by rfl) T.b_isinstance (by rfl) T.b_tuple (by decide +kernel)).o)) (pw_one_and (pt_of ((px_isi (t := .tuple) (vo 1) (by rfl) T.b_isinstance (by rfl) T.b_tuple (by decide +kernel)).o)))).pt) (pw_one_or ((pw_and' (pt_of ((px_isi (t := .list) (vo 0) (by rfl) T.b_isinstance (by rfl) T.b_list (by decide +kernel)).o)) (pw_one_and (pt_of ((px_isi (t := .list) (vo 1) (by rfl) T.b_isinstance (by rfl) T.b_list (by decide +kernel)).o)))).pt))).pt) (psx_one (psx_ret (px_and (px_cmp (d_eq hu) ((b_len T.b_len (vo 0)).o) ((b_len T.b_len (vo 1)).o) (nomark _)) (px_one (b_all T.b_all (((pn_lc (own := [("k", 2)]) (by rfl) nd ((pi_range (by rfl) T.b_range (ps_cons' (b_len T.b_len (vo 0)) (ps_nil'))).o) (blkOk_by (by kernel_rfl)) (fun _ _ _ _ _ => pgx_nm (i := 2) nd rfl (by first | exact Or.inl rfl | exact Or.inr rfl)) (fun _ _ _ _ _ => ptx_nil) (fun _ _ _ _ _ => px_call c_law_same (by rfl) (ps_cons' (px_ix d_ix (vo 0) (vx 2)) (ps_cons' (px_ix d_ix (vo 1) (vx 2)) (ps_nil'))))).x).o)))))) (psx_nil)) (psx_cons (psx_if ((pw_or' (pt_of ((px_isi (t := .bool) (vo 0) (by rfl) T.b_isinstance (by rfl) T.b_bool (by decide +kernel)).o)) (pw_one_or (pt_of ((px_isi (t := .bool) (vo 1) (by rfl) T.b_isinstance (by rfl) T.b_bool (by decide +kernel)).o)))).pt) (psx_one (psx_ret (px_and (px_isi (t := .bool) (vo 0) (by rfl) T.b_isinstance (by rfl) T.b_bool (by decide +kernel)) (px_and (px_isi (t := .bool) (vo 1) (by rfl) T.b_isinstance (by rfl) T.b_bool (by decide +kernel)) (px_one (px_cmp (d_eq hu) (vo 0) (vo 1) (nomark _))))))) (psx_nil)) (psx_cons (psx_if ((pw_or' ((pw_and' (pt_of ((px_isi (t := .int) (vo 0) (by rfl) T.b_isinstance (by rfl) T.b_int (by decide +kernel)).o)) (pw_one_and (pt_of ((px_isi (t := .int) (vo 1) (by rfl) T.b_isinstance (by rfl) T.b_int (by decide +kernel)).o)))).pt) (pw_one_or ((pw_and' (pt_of ((px_isi (t := .str) (vo 0) (by rfl) T.b_isinstance (by rfl) T.b_str (by decide +kernel)).o)) (pw_one_and (pt_of ((px_isi (t := .str) (vo 1) (by rfl) T.b_isinstance (by rfl) T.b_str (by decide +kernel)).o)))).pt))).pt) (psx_one (psx_ret (px_cmp (d_eq hu) (vo 0) (vo 1) (nomark _)))) (psx_nil)) (psx_one (psx_ret (px_and (px_cmp d_isN (vo 0) ((px_non).o) (nomark _)) (px_one (px_cmp d_isN (vo 1) ((px_non).o) (nomark _))))))))
abbrev t_law_loan : Stmt := top 22
theorem sc_law_loan : FnScope ["box", "kinds", "many", "most", "free", "held", "k", "j"] ["box", "kinds", "many", "most"] (defScope t_law_loan) := ⟨rfl, rfl, rfl, by decide +kernel, rfl, by decide +kernel, by decide +kernel⟩
theorem ok_law_loan (T : Txt K mg fa fd) : FnOk P w K mg base CX0 3 (fa 22) (fd 22) ["box", "kinds", "many", "most"] (spD ⟨P, w, K, fn⟩ 4 f_law_loan) := by
    refine fn_sv (k := 2) T.d_law_loan.fu sc_law_loan rfl s_law_loan fun cdv A outer s0 H E hr => ?_
    have nd := sc_law_loan.nd
    have hu := hu64 hr
    have hu5 := hu65 hr
    have c_law_draw := T.d_law_draw.cal (okd_draw (P := P) (w := w) (base := base) (fn := fn) T) hr
    exact psx_cons (psx_set (i := 4) nd rfl (by first | exact Or.inl rfl | exact Or.inr rfl) (b_tuple T.b_tuple (((pn_lc (own := [("k", 6)]) (by rfl) nd ((pi_range (by rfl) T.b_range (ps_cons' (vx 1) (ps_nil'))).o) (blkOk_by (by kernel_rfl)) (fun _ _ _ _ _ => pgx_nm (i := 6) nd rfl (by first | exact Or.inl rfl | exact Or.inr rfl)) (fun _ _ _ _ _ => ptx_nil) (fun _ _ _ _ _ => px_call c_law_draw (by rfl) (ps_cons' (vx 0) (ps_cons' (vx 3) (ps_nil'))))).x).o))) (psx_cons (psx_set (i := 5) nd rfl (by first | exact Or.inl rfl | exact Or.inr rfl) (b_tuple T.b_tuple (((pn_lc (own := [("j", 7)]) (by rfl) nd ((pi_range (by rfl) T.b_range (ps_cons' (vx 2) (ps_nil'))).o) (blkOk_by (by kernel_rfl)) (fun _ _ _ _ _ => pgx_nm (i := 7) nd rfl (by first | exact Or.inl rfl | exact Or.inr rfl)) (fun _ _ _ _ _ => ptx_nil) (fun _ _ _ _ _ => b_tuple T.b_tuple (((pn_lc (own := [("k", 6)]) (by rfl) nd ((pi_range (by rfl) T.b_range (ps_cons' (vx 1) (ps_nil'))).o) (blkOk_by (by kernel_rfl)) (fun _ _ _ _ _ => pgx_nm (i := 6) nd rfl (by first | exact Or.inl rfl | exact Or.inr rfl)) (fun _ _ _ _ _ => ptx_nil) (fun _ _ _ _ _ => px_call c_law_draw (by rfl) (ps_cons' (vx 0) (ps_cons' (vx 3) (ps_nil'))))).x).o))).x).o))) (psx_one (psx_ret (px_tup (ps_cons' (vx 4) (ps_cons' (vx 5) (ps_cons' (b_tuple T.b_tuple (((pn_lc (own := [("j", 7)]) (by rfl) nd ((pi_range (by rfl) T.b_range (ps_cons' (vx 2) (ps_nil'))).o) (blkOk_by (by kernel_rfl)) (fun _ _ _ _ _ => pgx_nm (i := 7) nd rfl (by first | exact Or.inl rfl | exact Or.inr rfl)) (fun _ _ _ _ _ => ptx_nil) (fun _ _ _ _ _ => b_tuple T.b_tuple (((pn_lc (own := [("k", 6)]) (by rfl) nd ((pi_range (by rfl) T.b_range (ps_cons' (vx 1) (ps_nil'))).o) (blkOk_by (by kernel_rfl)) (fun _ _ _ _ _ => pgx_nm (i := 6) nd rfl (by first | exact Or.inl rfl | exact Or.inr rfl)) (fun _ _ _ _ _ => ptx_nil) (fun _ _ _ _ _ => px_call c_law_draw (by rfl) (ps_cons' (vx 0) (ps_cons' (px_bin d_add (vo 3) ((px_int).o)) (ps_nil'))))).x).o))).x).o)) (ps_nil'))))))))
abbrev t_law_ends : Stmt := top 23
theorem sc_law_ends : FnScope ["loan", "order", "free", "j", "k"] ["loan", "order"] (defScope t_law_ends) := ⟨rfl, rfl, rfl, by decide +kernel, rfl, by decide +kernel, by decide +kernel⟩
theorem ok_law_ends (T : Txt K mg fa fd) : FnOk P w K mg base CX0 1 (fa 23) (fd 23) ["loan", "order"] (spD ⟨P, w, K, fn⟩ 2 f_law_ends) := by
    refine fn_sv (k := 0) T.d_law_ends.fu sc_law_ends rfl s_law_ends fun cdv A outer s0 H E hr => ?_
    have nd := sc_law_ends.nd
    have hu := hu64 hr
    have hu5 := hu65 hr
    exact psx_cons (psx_set (i := 2) nd rfl (by first | exact Or.inl rfl | exact Or.inr rfl) ((b_list T.b_list ((px_ix d_ix (vo 0) (px_int)).o)).x)) (psx_cons (psx_for PassesOwn.never (by rfl) (pi_seq (vx 1)) (pgx_nm (i := 3) nd rfl (by first | exact Or.inl rfl | exact Or.inr rfl)) (psx_cons (psx_if (pt_of ((b_any T.b_any (((pn_lc (own := [("k", 4)]) (by rfl) nd ((pi_range (by rfl) T.b_range (ps_cons' (b_len T.b_len (vo 2)) (ps_nil'))).o) (blkOk_by (by kernel_rfl)) (fun _ _ _ _ _ => pgx_nm (i := 4) nd rfl (by first | exact Or.inl rfl | exact Or.inr rfl)) (fun _ _ _ _ _ => ptx_nil) (fun _ _ _ _ _ => px_cmp (d_gt hu) ((px_ix d_ix ((px_ix d_ix ((px_ix d_ix (vo 0) (px_int)).o) (vx 3)).o) (vx 4)).o) ((px_ix d_ix (vo 2) (vx 4)).o) (nomark _))).x).o)).o)) (psx_one (psx_ret (px_bl))) (psx_nil)) (psx_one (psx_set (i := 2) nd rfl (by first | exact Or.inl rfl | exact Or.inr rfl) ((pn_lc (own := [("k", 4)]) (by rfl) nd ((pi_range (by rfl) T.b_range (ps_cons' (b_len T.b_len (vo 2)) (ps_nil'))).o) (blkOk_by (by kernel_rfl)) (fun _ _ _ _ _ => pgx_nm (i := 4) nd rfl (by first | exact Or.inl rfl | exact Or.inr rfl)) (fun _ _ _ _ _ => ptx_nil) (fun _ _ _ _ _ => px_bin d_add ((px_ix d_ix (vo 2) (vx 4)).o) ((px_ix d_ix ((px_ix d_ix ((px_ix d_ix (vo 0) (px_int)).o) (vx 3)).o) (vx 4)).o))).x))))) (psx_one (psx_ret (px_bl))))
abbrev t_law_orders : Stmt := top 24
theorem sc_law_orders : FnScope ["n", "rows", "step", "row", "j"] ["n"] (defScope t_law_orders) := ⟨rfl, rfl, rfl, by decide +kernel, rfl, by decide +kernel, by decide +kernel⟩
theorem ok_law_orders (T : Txt K mg fa fd) : FnOk P w K mg base CX0 2 (fa 24) (fd 24) ["n"] (spD ⟨P, w, K, fn⟩ 1 f_law_orders) := by
    refine fn_sv (k := 1) T.d_law_orders.fu sc_law_orders rfl s_law_orders fun cdv A outer s0 H E hr => ?_
    have nd := sc_law_orders.nd
    have hu := hu64 hr
    have hu5 := hu65 hr
    have c_law_flat := T.d_law_flat.cal (ok_law_flat (P := P) (w := w) (base := base) (fn := fn) T) hr
    exact psx_cons (psx_set (i := 1) nd rfl (by first | exact Or.inl rfl | exact Or.inr rfl) ((pn_lst (ps_cons' (px_tup (ps_nil')) (ps_nil'))).x)) (psx_cons (psx_for PassesOwn.never (by rfl) (pi_range (by rfl) T.b_range (ps_cons' (vx 0) (ps_nil'))) (pgx_nm (i := 2) nd rfl (by first | exact Or.inl rfl | exact Or.inr rfl)) (psx_one (psx_set (i := 1) nd rfl (by first | exact Or.inl rfl | exact Or.inr rfl) (px_call c_law_flat (by rfl) (ps_cons' ((pn_lc (own := [("row", 3)]) (by rfl) nd (pio_seq (vo 1)) (blkOk_by (by kernel_rfl)) (fun _ _ _ _ _ => pgx_nm (i := 3) nd rfl (by first | exact Or.inl rfl | exact Or.inr rfl)) (fun _ _ _ _ _ => ptx_nil) (fun _ _ _ _ _ => (pn_lc (own := [("j", 4)]) (by rfl) nd ((pi_range (by rfl) T.b_range (ps_cons' (vx 0) (ps_nil'))).o) (blkOk_by (by kernel_rfl)) (fun _ _ _ _ _ => pgx_nm (i := 4) nd rfl (by first | exact Or.inl rfl | exact Or.inr rfl)) (fun _ _ _ _ _ => ptx_one (pt_cmp' (d_notIn hu5) (vo 4) (vo 3) (by rfl))) (fun _ _ _ _ _ => px_bin d_add (vo 3) ((px_tup (ps_cons' (vx 4) (ps_nil'))).o))).x)).x) (ps_nil')))))) (psx_one (psx_ret (vx 1))))
abbrev t_law_sets : Stmt := top 25
theorem sc_law_sets : FnScope ["n", "rows", "k", "row"] ["n"] (defScope t_law_sets) := ⟨rfl, rfl, rfl, by decide +kernel, rfl, by decide +kernel, by decide +kernel⟩
theorem ok_law_sets (T : Txt K mg fa fd) : FnOk P w K mg base CX0 1 (fa 25) (fd 25) ["n"] (spD ⟨P, w, K, fn⟩ 1 f_law_sets) := by
    refine fn_sv (k := 0) T.d_law_sets.fu sc_law_sets rfl s_law_sets fun cdv A outer s0 H E hr => ?_
    have nd := sc_law_sets.nd
    have hu := hu64 hr
    have hu5 := hu65 hr
    exact psx_cons (psx_set (i := 1) nd rfl (by first | exact Or.inl rfl | exact Or.inr rfl) ((pn_lst (ps_cons' (px_tup (ps_nil')) (ps_nil'))).x)) (psx_cons (psx_for PassesOwn.never (by rfl) (pi_range (by rfl) T.b_range (ps_cons' (vx 0) (ps_nil'))) (pgx_nm (i := 2) nd rfl (by first | exact Or.inl rfl | exact Or.inr rfl)) (psx_one (psx_set (i := 1) nd rfl (by first | exact Or.inl rfl | exact Or.inr rfl) (px_bin d_add (vo 1) (((pn_lc (own := [("row", 3)]) (by rfl) nd (pio_seq (vo 1)) (blkOk_by (by kernel_rfl)) (fun _ _ _ _ _ => pgx_nm (i := 3) nd rfl (by first | exact Or.inl rfl | exact Or.inr rfl)) (fun _ _ _ _ _ => ptx_nil) (fun _ _ _ _ _ => px_bin d_add (vo 3) ((px_tup (ps_cons' (vx 2) (ps_nil'))).o))).x).o))))) (psx_one (psx_ret (vx 1))))
abbrev t_law_stuck : Stmt := top 26
theorem sc_law_stuck : FnScope ["loan", "group", "free", "k", "j"] ["loan", "group"] (defScope t_law_stuck) := ⟨rfl, rfl, rfl, by decide +kernel, rfl, by decide +kernel, by decide +kernel⟩
theorem ok_law_stuck (T : Txt K mg fa fd) : FnOk P w K mg base CX0 1 (fa 26) (fd 26) ["loan", "group"] (spD ⟨P, w, K, fn⟩ 2 f_law_stuck) := by
    refine fn_sv (k := 0) T.d_law_stuck.fu sc_law_stuck rfl s_law_stuck fun cdv A outer s0 H E hr => ?_
    have nd := sc_law_stuck.nd
    have hu := hu64 hr
    have hu5 := hu65 hr
    exact psx_cons (psx_set (i := 2) nd rfl (by first | exact Or.inl rfl | exact Or.inr rfl) ((pn_lc (own := [("k", 3)]) (by rfl) nd ((pi_range (by rfl) T.b_range (ps_cons' (b_len T.b_len ((px_ix d_ix (vo 0) (px_int)).o)) (ps_nil'))).o) (blkOk_by (by kernel_rfl)) (fun _ _ _ _ _ => pgx_nm (i := 3) nd rfl (by first | exact Or.inl rfl | exact Or.inr rfl)) (fun _ _ _ _ _ => ptx_nil) (fun _ _ _ _ _ => px_bin d_add ((px_ix d_ix ((px_ix d_ix (vo 0) (px_int)).o) (vx 3)).o) ((b_sum T.b_sum (((pn_lc (own := [("j", 4)]) (by rfl) nd ((pi_range (by rfl) T.b_range (ps_cons' (b_len T.b_len ((px_ix d_ix (vo 0) (px_int)).o)) (ps_nil'))).o) (blkOk_by (by kernel_rfl)) (fun _ _ _ _ _ => pgx_nm (i := 4) nd rfl (by first | exact Or.inl rfl | exact Or.inr rfl)) (fun _ _ _ _ _ => ptx_one (pt_cmp' (d_notIn hu5) (vo 4) (vo 1) (by rfl))) (fun _ _ _ _ _ => px_ix d_ix ((px_ix d_ix ((px_ix d_ix (vo 0) (px_int)).o) (vx 4)).o) (vx 3))).x).o)).o))).x)) (psx_one (psx_ret (px_and (px_cmp (d_gt hu) ((b_len T.b_len (vo 1)).o) ((px_int).o) (nomark _)) (px_one (b_all T.b_all (((pn_lc (own := [("j", 4)]) (by rfl) nd (pio_seq (vo 1)) (blkOk_by (by kernel_rfl)) (fun _ _ _ _ _ => pgx_nm (i := 4) nd rfl (by first | exact Or.inl rfl | exact Or.inr rfl)) (fun _ _ _ _ _ => ptx_nil) (fun _ _ _ _ _ => b_any T.b_any (((pn_lc (own := [("k", 3)]) (by rfl) nd ((pi_range (by rfl) T.b_range (ps_cons' (b_len T.b_len (vo 2)) (ps_nil'))).o) (blkOk_by (by kernel_rfl)) (fun _ _ _ _ _ => pgx_nm (i := 3) nd rfl (by first | exact Or.inl rfl | exact Or.inr rfl)) (fun _ _ _ _ _ => ptx_nil) (fun _ _ _ _ _ => px_cmp (d_gt hu) ((px_ix d_ix ((px_ix d_ix ((px_ix d_ix (vo 0) (px_int)).o) (vx 4)).o) (vx 3)).o) ((px_ix d_ix (vo 2) (vx 3)).o) (nomark _))).x).o))).x).o))))))
abbrev t_law_numbers : Stmt := top 27
theorem sc_law_numbers : FnScope ["value", "n", "x"] ["value", "n"] (defScope t_law_numbers) := ⟨rfl, rfl, rfl, by decide +kernel, rfl, by decide +kernel, by decide +kernel⟩
theorem ok_law_numbers (T : Txt K mg fa fd) : FnOk P w K mg base CX0 1 (fa 27) (fd 27) ["value", "n"] (spD ⟨P, w, K, fn⟩ 2 f_law_numbers) := by
    refine fn_sv (k := 0) T.d_law_numbers.fu sc_law_numbers rfl s_law_numbers fun cdv A outer s0 H E hr => ?_
    have nd := sc_law_numbers.nd
    have hu := hu64 hr
    have hu5 := hu65 hr
    exact psx_one (psx_ret (px_and (px_isi (t := .tuple) (vo 0) (by rfl) T.b_isinstance (by rfl) T.b_tuple (by decide +kernel)) (px_one (b_all T.b_all (((pn_lc (own := [("x", 2)]) (by rfl) nd (pio_seq (vo 0)) (blkOk_by (by kernel_rfl)) (fun _ _ _ _ _ => pgx_nm (i := 2) nd rfl (by first | exact Or.inl rfl | exact Or.inr rfl)) (fun _ _ _ _ _ => ptx_nil) (fun _ _ _ _ _ => px_and (px_isi (t := .int) (vo 2) (by rfl) T.b_isinstance (by rfl) T.b_int (by decide +kernel)) (px_and (px_not ((px_isi (t := .bool) (vo 2) (by rfl) T.b_isinstance (by rfl) T.b_bool (by decide +kernel)).o)) (px_and (px_cmp (d_le hu) ((px_int).o) (vo 2) (nomark _)) (px_one (px_cmp (d_lt hu) (vo 2) (vo 1) (nomark _))))))).x).o)))))
abbrev t_law_is_loan : Stmt := top 28
theorem sc_law_is_loan : FnScope ["value", "row", "part"] ["value"] (defScope t_law_is_loan) := ⟨rfl, rfl, rfl, by decide +kernel, rfl, by decide +kernel, by decide +kernel⟩
theorem ok_law_is_loan (T : Txt K mg fa fd) : FnOk P w K mg base CX0 2 (fa 28) (fd 28) ["value"] (spD ⟨P, w, K, fn⟩ 1 f_law_is_loan) := by
    refine fn_sv (k := 1) T.d_law_is_loan.fu sc_law_is_loan rfl s_law_is_loan fun cdv A outer s0 H E hr => ?_
    have nd := sc_law_is_loan.nd
    have hu := hu64 hr
    have hu5 := hu65 hr
    have c_law_numbers := T.d_law_numbers.cal (ok_law_numbers (P := P) (w := w) (base := base) (fn := fn) T) hr
    exact psx_cons (psx_if ((pw_or' (pt_not' (pt_of ((px_isi (t := .tuple) (vo 0) (by rfl) T.b_isinstance (by rfl) T.b_tuple (by decide +kernel)).o))) (pw_or' (pt_cmp' (d_ne hu) ((b_len T.b_len (vo 0)).o) ((px_int).o) (nomark _)) (pw_or' (pt_not' (pt_of ((b_all T.b_all (((pn_lc (own := [("part", 2)]) (by rfl) nd (pio_seq (vo 0)) (blkOk_by (by kernel_rfl)) (fun _ _ _ _ _ => pgx_nm (i := 2) nd rfl (by first | exact Or.inl rfl | exact Or.inr rfl)) (fun _ _ _ _ _ => ptx_nil) (fun _ _ _ _ _ => px_isi (t := .tuple) (vo 2) (by rfl) T.b_isinstance (by rfl) T.b_tuple (by decide +kernel))).x).o)).o))) (pw_one_or (pt_not' (pt_chain' (d_le hu) (d_le hu) ((px_int).o) ((b_len T.b_len ((px_ix d_ix (vo 0) (px_int)).o)).o) ((px_int).o))))))).pt) (psx_one (psx_ret (px_bl))) (psx_nil)) (psx_cons (psx_if ((pw_or' (pt_cmp' (d_ne hu) ((b_len T.b_len ((px_ix d_ix (vo 0) (px_int)).o)).o) ((b_len T.b_len ((px_ix d_ix (vo 0) (px_int)).o)).o) (nomark _)) (pw_one_or (pt_cmp' (d_gt hu) ((b_len T.b_len ((px_ix d_ix (vo 0) (px_int)).o)).o) ((px_int).o) (nomark _)))).pt) (psx_one (psx_ret (px_bl))) (psx_nil)) (psx_one (psx_ret (b_all T.b_all (((pn_lc (own := [("row", 1)]) (by rfl) nd (pio_seq ((px_bin d_add ((px_bin d_add ((px_tup (ps_cons' (px_ix d_ix (vo 0) (px_int)) (ps_nil'))).o) ((px_ix d_ix (vo 0) (px_int)).o)).o) ((px_ix d_ix (vo 0) (px_int)).o)).o)) (blkOk_by (by kernel_rfl)) (fun _ _ _ _ _ => pgx_nm (i := 1) nd rfl (by first | exact Or.inl rfl | exact Or.inr rfl)) (fun _ _ _ _ _ => ptx_nil) (fun _ _ _ _ _ => px_and (px_call c_law_numbers (by rfl) (ps_cons' (vx 1) (ps_cons' (px_int) (ps_nil')))) (px_one (px_cmp (d_eq hu) ((b_len T.b_len (vo 1)).o) ((b_len T.b_len ((px_ix d_ix (vo 0) (px_int)).o)).o) (nomark _))))).x).o)))))
abbrev t_law_bent : Stmt := top 29
theorem sc_law_bent : FnScope ["box", "value", "pick", "at"] ["box", "value"] (defScope t_law_bent) := ⟨rfl, rfl, rfl, by decide +kernel, rfl, by decide +kernel, by decide +kernel⟩
theorem ok_law_bent (T : Txt K mg fa fd) : ∀ n : Nat, FnOk P w K mg base CX0 (2 + n) (fa 29) (fd 29) ["box", "value"] (spD ⟨P, w, K, fn⟩ 2 (f_law_bent n))
  | 0 => fn_none 2 rfl
  | n + 1 => by
    have ih := ok_law_bent T n
    refine fn_sv (k := 2 + n) T.d_law_bent.fu sc_law_bent rfl (s_law_bent (f_law_bent n)) fun cdv A outer s0 H E hr => ?_
    have nd := sc_law_bent.nd
    have hu := hu64 hr
    have hu5 := hu65 hr
    have c_law_bent := T.d_law_bent.cal ih hr
    have c_law_draw := T.d_law_draw.cal (okd_draw (P := P) (w := w) (base := base) (fn := fn) T) hr
    exact psx_cons (psx_if ((pw_and' (pt_of ((px_isi (t := .tuple) (vo 1) (by rfl) T.b_isinstance (by rfl) T.b_tuple (by decide +kernel)).o)) (pw_and' (pt_cmp' (d_gt hu) ((b_len T.b_len (vo 1)).o) ((px_int).o) (nomark _)) (pw_one_and (pt_cmp' (d_gt hu) ((px_call c_law_draw (by rfl) (ps_cons' (vx 0) (ps_cons' (px_int) (ps_nil')))).o) ((px_int).o) (nomark _))))).pt) (psx_cons (psx_set (i := 3) nd rfl (by first | exact Or.inl rfl | exact Or.inr rfl) (px_call c_law_draw (by rfl) (ps_cons' (vx 0) (ps_cons' (b_len T.b_len (vo 1)) (ps_nil'))))) (psx_one (psx_ret (px_bin d_add ((px_bin d_add ((px_slice d_sl (vo 1) pox_none (pox_some (vx 3))).o) ((px_tup (ps_cons' (px_call c_law_bent (by rfl) (ps_cons' (vx 0) (ps_cons' (px_ix d_ix (vo 1) (vx 3)) (ps_nil')))) (ps_nil'))).o)).o) ((px_slice d_sl (vo 1) (pox_some (px_bin d_add (vo 3) ((px_int).o))) pox_none).o))))) (psx_nil)) (psx_cons (psx_set (i := 2) nd rfl (by first | exact Or.inl rfl | exact Or.inr rfl) (px_call c_law_draw (by rfl) (ps_cons' (vx 0) (ps_cons' (px_int) (ps_nil'))))) (psx_cons (psx_if (pt_of ((px_isi (t := .tuple) (vo 1) (by rfl) T.b_isinstance (by rfl) T.b_tuple (by decide +kernel)).o)) (psx_one (psx_ret (px_ix d_ix (((pn_lst (ps_cons' (px_bin d_add (vo 1) ((px_slice d_sl (vo 1) pox_none (pox_some (px_int))).o)) (ps_cons' (px_slice d_sl (vo 1) (pox_some (px_int)) pox_none) (ps_cons' (px_rev (vo 1)) (ps_cons' (px_bin d_add (vo 1) ((px_tup (ps_cons' (px_int) (ps_nil'))).o)) (ps_cons' (px_tup (ps_cons' (vx 1) (ps_nil'))) (ps_cons' (px_slice d_sl (vo 1) pox_none (pox_some (px_un d_neg ((px_int).o)))) (ps_cons' (px_non) (ps_cons' (px_bin d_add (vo 1) ((px_tup (ps_cons' (px_tup (ps_cons' (px_int) (ps_cons' (px_int) (ps_nil')))) (ps_nil'))).o)) (ps_nil')))))))))).x).o) (vx 2)))) (psx_nil)) (psx_cons (psx_if ((pw_and' (pt_of ((px_isi (t := .int) (vo 1) (by rfl) T.b_isinstance (by rfl) T.b_int (by decide +kernel)).o)) (pw_one_and (pt_not' (pt_of ((px_isi (t := .bool) (vo 1) (by rfl) T.b_isinstance (by rfl) T.b_bool (by decide +kernel)).o))))).pt) (psx_one (psx_ret (px_ix d_ix (((pn_lst (ps_cons' (px_bin d_add (vo 1) ((px_int).o)) (ps_cons' (px_bin d_sub (vo 1) ((px_int).o)) (ps_cons' (px_int) (ps_cons' (px_cmp (d_eq hu) (vo 1) ((px_int).o) (nomark _)) (ps_cons' (px_non) (ps_cons' (b_str T.b_str (vo 1)) (ps_cons' (px_tup (ps_cons' (vx 1) (ps_nil'))) (ps_cons' (px_bin d_add (vo 1) ((px_int).o)) (ps_nil')))))))))).x).o) (vx 2)))) (psx_nil)) (psx_cons (psx_if (pt_of ((px_isi (t := .str) (vo 1) (by rfl) T.b_isinstance (by rfl) T.b_str (by decide +kernel)).o)) (psx_one (psx_ret (px_ix d_ix (((pn_lst (ps_cons' (px_bin d_add (vo 1) ((px_str).o)) (ps_cons' (px_slice d_sl (vo 1) (pox_some (px_int)) pox_none) (ps_cons' (px_str) (ps_cons' (px_str) (ps_cons' (px_int) (ps_cons' (px_non) (ps_cons' (px_str) (ps_cons' (px_str) (ps_nil')))))))))).x).o) (vx 2)))) (psx_nil)) (psx_one (psx_ret (px_ix d_ix (((pn_lst (ps_cons' (px_int) (ps_cons' (px_int) (ps_cons' (px_non) (ps_cons' (px_bl) (ps_cons' (px_str) (ps_cons' (px_tup (ps_nil')) (ps_cons' (px_tup (ps_cons' (px_int) (ps_nil'))) (ps_cons' (px_str) (ps_nil')))))))))).x).o) (vx 2))))))))
abbrev t_law : Stmt := top 30
theorem sc_law : FnScope ["script", "box", "turn", "great", "word", "paper", "loan", "n", "fine", "groups", "some", "value", "values", "right", "helper", "row", "there", "enough", "more", "order", "group", "step", "j", "need", "k", "x", "part"] ["script"] (defScope t_law) := ⟨rfl, rfl, rfl, by decide +kernel, rfl, by decide +kernel, by decide +kernel⟩
theorem ok_law (T : Txt K mg fa fd) (hlaw : ∀ ns : List Int, ns.length ≤ 63 → ∃ ρ b, lawAt ⟨ns, 0, 4711 + ns.length⟩ = some (.rt (.bl true), ρ, b)) : FnOk P w K mg base CX0 43 (fa 30) (fd 30) ["script"] (spLaw K) := by
  refine T.d_law.fu.ok sc_law (fun vs H Q E h => ?_) (fun cdv A outer s H vs Q E hr h => ?_)
  · obtain ⟨a, ns, rfl, _⟩ := h
    rfl
  · obtain ⟨a, ns, rfl, hS, hlen, k⟩ := h
    have fn : Nat → Option V := fun _ => none
    obtain ⟨t2, h2, q2⟩ : ∃ t : TS, PSs (cxOf CX0 P w K mg base ["script", "box", "turn", "great", "word", "paper", "loan", "n", "fine", "groups", "some", "value", "values", "right", "helper", "row", "there", "enough", "more", "order", "group", "step", "j", "need", "k", "x", "part"] "law" (defScope t_law) (fa 30) cdv A outer s H E).nox ((defBody t_law).drop 1) t ∧
        ∀ (p q : Addr) (H1 : Hp), BSt p q ⟨ns, 0, 4711 + ns.length⟩ H1 → t { nx := fun _ H' => Q .non H', rt := Q } ((L2.start ["script", "box", "turn", "great", "word", "paper", "loan", "n", "fine", "groups", "some", "value", "values", "right", "helper", "row", "there", "enough", "more", "order", "group", "step", "j", "need", "k", "x", "part"] [V.ref a]).set 1 (some (.ref p))) H1 := by
      refine ⟨tSs ⟨P, w, K, fn⟩ s_law, ?_, fun p q H1 hb => ?_⟩
      · skip
        have nd := sc_law.nd
        have hu := hu64 hr
        have hu5 := hu65 hr
        have c_law_bent := T.d_law_bent.cal (ok_law_bent (P := P) (w := w) (base := base) (fn := fn) T 40) hr
        have c_law_draw := T.d_law_draw.cal (okd_draw (P := P) (w := w) (base := base) (fn := fn) T) hr
        have c_law_ends := T.d_law_ends.cal (ok_law_ends (P := P) (w := w) (base := base) (fn := fn) T) hr
        have c_law_is_loan := T.d_law_is_loan.cal (ok_law_is_loan (P := P) (w := w) (base := base) (fn := fn) T) hr
        have c_law_loan := T.d_law_loan.cal (ok_law_loan (P := P) (w := w) (base := base) (fn := fn) T) hr
        have c_law_numbers := T.d_law_numbers.cal (ok_law_numbers (P := P) (w := w) (base := base) (fn := fn) T) hr
        have c_law_orders := T.d_law_orders.cal (ok_law_orders (P := P) (w := w) (base := base) (fn := fn) T) hr
        have c_law_same := T.d_law_same.cal (ok_law_same (P := P) (w := w) (base := base) (fn := fn) T 40) hr
        have c_law_sets := T.d_law_sets.cal (ok_law_sets (P := P) (w := w) (base := base) (fn := fn) T) hr
        have c_law_stuck := T.d_law_stuck.cal (ok_law_stuck (P := P) (w := w) (base := base) (fn := fn) T) hr
        have c_after_asking := T.d_after_asking.cal (ok_after_asking (P := P) (w := w) (base := base) (fn := fn) T) hr
        have c_is_loan := T.d_is_loan.cal (ok_is_loan (P := P) (w := w) (base := base) (fn := fn) T) hr
        have c_is_safe_order := T.d_is_safe_order.cal (ok_is_safe_order (P := P) (w := w) (base := base) (fn := fn) T) hr
        have c_is_stuck := T.d_is_stuck.cal (ok_is_stuck (P := P) (w := w) (base := base) (fn := fn) T) hr
        have c_may_grant := T.d_may_grant.cal (ok_may_grant (P := P) (w := w) (base := base) (fn := fn) T) hr
        have c_safe_order := T.d_safe_order.cal (ok_safe_order (P := P) (w := w) (base := base) (fn := fn) T) hr
        exact psx_cons (psx_for PassesOwn.never (by rfl) (pi_range (by rfl) T.b_range (ps_cons' (px_int) (ps_nil'))) (pgx_nm (i := 2) nd rfl (by first | exact Or.inl rfl | exact Or.inr rfl)) (psx_cons (psx_set (i := 6) nd rfl (by first | exact Or.inl rfl | exact Or.inr rfl) (px_call c_law_loan (by rfl) (ps_cons' (vx 1) (ps_cons' (px_bin d_add ((px_int).o) ((px_call c_law_draw (by rfl) (ps_cons' (vx 1) (ps_cons' (px_int) (ps_nil')))).o)) (ps_cons' (px_call c_law_draw (by rfl) (ps_cons' (vx 1) (ps_cons' (px_int) (ps_nil')))) (ps_cons' (px_bin d_add ((px_int).o) ((px_call c_law_draw (by rfl) (ps_cons' (vx 1) (ps_cons' (px_int) (ps_nil')))).o)) (ps_nil'))))))) (psx_cons (psx_set (i := 7) nd rfl (by first | exact Or.inl rfl | exact Or.inr rfl) (b_len T.b_len ((px_ix d_ix (vo 6) (px_int)).o))) (psx_cons (psx_if (pt_cmp' d_isntB ((px_call c_is_loan (by rfl) (ps_cons' (vx 6) (ps_nil'))).o) ((px_bl).o) (nomark _)) (psx_one (psx_ret (px_bl))) (psx_nil)) (psx_cons (psx_setLcF (i := 8) (own := [("order", 19)]) (by rfl) nd rfl rfl (sw_true rfl rfl rfl (by decide +kernel)) (pio_seq ((px_call c_law_orders (by rfl) (ps_cons' (vx 7) (ps_nil'))).o)) (blkOk_by (by kernel_rfl)) (fun _ _ _ _ _ => pgx_nm (i := 19) nd rfl (by first | exact Or.inl rfl | exact Or.inr rfl)) (fun _ _ _ _ _ => ptx_one (pt_of ((px_call c_law_ends (by rfl) (ps_cons' (vx 6) (ps_cons' (vx 19) (ps_nil')))).o))) (fun _ _ _ _ _ => vx 19)) (psx_cons (psx_set (i := 9) nd rfl (by first | exact Or.inl rfl | exact Or.inr rfl) ((pn_lc (own := [("group", 20)]) (by rfl) nd (pio_seq ((px_call c_law_sets (by rfl) (ps_cons' (vx 7) (ps_nil'))).o)) (blkOk_by (by kernel_rfl)) (fun _ _ _ _ _ => pgx_nm (i := 20) nd rfl (by first | exact Or.inl rfl | exact Or.inr rfl)) (fun _ _ _ _ _ => ptx_one (pt_of ((px_call c_law_stuck (by rfl) (ps_cons' (vx 6) (ps_cons' (vx 20) (ps_nil')))).o))) (fun _ _ _ _ _ => vx 20)).x)) (psx_cons (psx_if (pt_cmp' (d_ne hu) ((px_cmp (d_gt hu) ((b_len T.b_len (vo 8)).o) ((px_int).o) (nomark _)).o) ((px_cmp (d_eq hu) ((b_len T.b_len (vo 9)).o) ((px_int).o) (nomark _)).o) (nomark _)) (psx_one (psx_ret (px_bl))) (psx_nil)) (psx_cons (psx_asg (px_call c_safe_order (by rfl) (ps_cons' (vx 6) (ps_nil'))) (pgx_tup (by rfl) (pgx_cons (pgx_nm (i := 4) nd rfl (by first | exact Or.inl rfl | exact Or.inr rfl)) (pgx_cons (pgx_nm (i := 5) nd rfl (by first | exact Or.inl rfl | exact Or.inr rfl)) (pgx_nil))))) (psx_cons (psx_if ((pw_and' (pt_cmp' (d_gt hu) ((b_len T.b_len (vo 8)).o) ((px_int).o) (nomark _)) (pw_one_and (pt_not' (pt_of ((px_call c_law_same (by rfl) (ps_cons' (px_tup (ps_cons' (vx 4) (ps_cons' (vx 5) (ps_nil')))) (ps_cons' (px_tup (ps_cons' (px_str) (ps_cons' (px_ix d_ix (vo 8) (px_int)) (ps_nil')))) (ps_nil')))).o))))).pt) (psx_one (psx_ret (px_bl))) (psx_nil)) (psx_cons (psx_if (pt_cmp' (d_eq hu) ((b_len T.b_len (vo 8)).o) ((px_int).o) (nomark _)) (psx_cons (psx_set (i := 3) nd rfl (by first | exact Or.inl rfl | exact Or.inr rfl) (b_tuple T.b_tuple (((pn_lc (own := [("j", 22)]) (by rfl) nd ((pi_range (by rfl) T.b_range (ps_cons' (vx 7) (ps_nil'))).o) (blkOk_by (by kernel_rfl)) (fun _ _ _ _ _ => pgx_nm (i := 22) nd rfl (by first | exact Or.inl rfl | exact Or.inr rfl)) (fun _ _ _ _ _ => ptx_one (pt_of ((b_any T.b_any (((pn_lc (own := [("group", 20)]) (by rfl) nd (pio_seq (vo 9)) (blkOk_by (by kernel_rfl)) (fun _ _ _ _ _ => pgx_nm (i := 20) nd rfl (by first | exact Or.inl rfl | exact Or.inr rfl)) (fun _ _ _ _ _ => ptx_nil) (fun _ _ _ _ _ => px_cmp (d_in hu5) (vo 22) (vo 20) (by rfl))).x).o)).o))) (fun _ _ _ _ _ => vx 22)).x).o))) (psx_one (psx_if ((pw_or' (pt_not' (pt_of ((px_call c_law_same (by rfl) (ps_cons' (px_tup (ps_cons' (vx 4) (ps_cons' (vx 5) (ps_nil')))) (ps_cons' (px_tup (ps_cons' (px_str) (ps_cons' (vx 3) (ps_nil')))) (ps_nil')))).o))) (pw_one_or (pt_cmp' (d_notIn hu5) (vo 3) (vo 9) (by rfl)))).pt) (psx_one (psx_ret (px_bl))) (psx_nil)))) (psx_nil)) (psx_cons (psx_set (i := 10) nd rfl (by first | exact Or.inl rfl | exact Or.inr rfl) (px_if (pt_cmp' (d_eq hu) (vo 4) ((px_str).o) (nomark _)) (vx 5) (px_tr1 T.b_tuple T.b_range (vx 7)))) (psx_cons (psx_for PassesOwn.never (by rfl) (pi_seq (px_bin d_add (((pn_lst (ps_cons' (vx 10) (ps_cons' (px_rev (vo 10)) (ps_cons' (px_slice d_sl (vo 10) (pox_some (px_int)) pox_none) (ps_cons' (px_bin d_add (vo 10) ((px_tup (ps_cons' (px_int) (ps_nil'))).o)) (ps_cons' (px_tup (ps_nil')) (ps_cons' (px_non) (ps_cons' (px_int) (ps_cons' (px_bin d_mul ((px_tup (ps_cons' (px_bl) (ps_nil'))).o) (vo 7)) (ps_nil')))))))))).x).o) (((pn_lc (own := [("step", 21)]) (by rfl) nd ((pi_range (by rfl) T.b_range (ps_cons' (px_int) (ps_nil'))).o) (blkOk_by (by kernel_rfl)) (fun _ _ _ _ _ => pgx_nm (i := 21) nd rfl (by first | exact Or.inl rfl | exact Or.inr rfl)) (fun _ _ _ _ _ => ptx_nil) (fun _ _ _ _ _ => px_call c_law_bent (by rfl) (ps_cons' (vx 1) (ps_cons' (vx 10) (ps_nil'))))).x).o))) (pgx_nm (i := 11) nd rfl (by first | exact Or.inl rfl | exact Or.inr rfl)) (psx_cons (psx_set (i := 13) nd rfl (by first | exact Or.inl rfl | exact Or.inr rfl) (px_and (px_call c_law_numbers (by rfl) (ps_cons' (vx 11) (ps_cons' (vx 7) (ps_nil')))) (px_and (px_cmp (d_eq hu) (((b_sorted T.b_sorted hu (vo 11)).x).o) (((pn_lr1 T.b_list T.b_range (vx 7)).x).o) (nomark _)) (px_one (px_call c_law_ends (by rfl) (ps_cons' (vx 6) (ps_cons' (vx 11) (ps_nil')))))))) (psx_one (psx_if (pt_not' (pt_of ((px_call c_law_same (by rfl) (ps_cons' (px_call c_is_safe_order (by rfl) (ps_cons' (vx 6) (ps_cons' (vx 11) (ps_nil')))) (ps_cons' (vx 13) (ps_nil')))).o))) (psx_one (psx_ret (px_bl))) (psx_nil))))) (psx_cons (psx_set (i := 10) nd rfl (by first | exact Or.inl rfl | exact Or.inr rfl) (px_if (pt_cmp' (d_eq hu) (vo 4) ((px_str).o) (nomark _)) (vx 5) (px_tr1 T.b_tuple T.b_range (vx 7)))) (psx_cons (psx_for PassesOwn.never (by rfl) (pi_seq (px_bin d_add ((px_bin d_add ((px_slice d_sl (vo 9) pox_none (pox_some (px_int))).o) (((pn_lst (ps_cons' (vx 10) (ps_cons' (px_slice d_sl (vo 10) (pox_some (px_int)) pox_none) (ps_cons' (px_slice d_sl (vo 10) pox_none (pox_some (px_un d_neg ((px_int).o)))) (ps_cons' (px_rev (vo 10)) (ps_cons' (px_tup (ps_nil')) (ps_cons' (px_non) (ps_cons' (px_int) (ps_cons' (px_tup (ps_cons' (vx 7) (ps_nil'))) (ps_nil')))))))))).x).o)).o) (((pn_lc (own := [("step", 21)]) (by rfl) nd ((pi_range (by rfl) T.b_range (ps_cons' (px_int) (ps_nil'))).o) (blkOk_by (by kernel_rfl)) (fun _ _ _ _ _ => pgx_nm (i := 21) nd rfl (by first | exact Or.inl rfl | exact Or.inr rfl)) (fun _ _ _ _ _ => ptx_nil) (fun _ _ _ _ _ => px_call c_law_bent (by rfl) (ps_cons' (vx 1) (ps_cons' (vx 10) (ps_nil'))))).x).o))) (pgx_nm (i := 11) nd rfl (by first | exact Or.inl rfl | exact Or.inr rfl)) (psx_cons (psx_set (i := 13) nd rfl (by first | exact Or.inl rfl | exact Or.inr rfl) (px_and (px_call c_law_numbers (by rfl) (ps_cons' (vx 11) (ps_cons' (vx 7) (ps_nil')))) (px_and (px_not ((b_any T.b_any (((pn_lc (own := [("k", 24)]) (by rfl) nd ((pi_range (by rfl) T.b_range (ps_cons' (px_bin d_sub ((b_len T.b_len (vo 11)).o) ((px_int).o)) (ps_nil'))).o) (blkOk_by (by kernel_rfl)) (fun _ _ _ _ _ => pgx_nm (i := 24) nd rfl (by first | exact Or.inl rfl | exact Or.inr rfl)) (fun _ _ _ _ _ => ptx_nil) (fun _ _ _ _ _ => px_cmp (d_ge hu) ((px_ix d_ix (vo 11) (vx 24)).o) ((px_ix d_ix (vo 11) (px_bin d_add (vo 24) ((px_int).o))).o) (nomark _))).x).o)).o)) (px_one (px_call c_law_stuck (by rfl) (ps_cons' (vx 6) (ps_cons' (vx 11) (ps_nil')))))))) (psx_one (psx_if ((pw_or' (pt_not' (pt_of ((px_call c_law_same (by rfl) (ps_cons' (px_call c_is_stuck (by rfl) (ps_cons' (vx 6) (ps_cons' (vx 11) (ps_nil')))) (ps_cons' (vx 13) (ps_nil')))).o))) (pw_one_or ((pw_and' (pt_of (vo 13)) (pw_one_and (pt_cmp' (d_eq hu) (vo 4) ((px_str).o) (nomark _)))).pt))).pt) (psx_one (psx_ret (px_bl))) (psx_nil))))) (psx_cons (psx_set (i := 12) nd rfl (by first | exact Or.inl rfl | exact Or.inr rfl) ((pn_lst (ps_cons' (vx 6) (ps_cons' (px_slice d_sl (vo 6) pox_none (pox_some (px_int))) (ps_cons' (px_rev (vo 6)) (ps_cons' (px_bin d_add ((px_tup (ps_cons' (px_tup (ps_nil')) (ps_nil'))).o) ((px_slice d_sl (vo 6) (pox_some (px_int)) pox_none).o)) (ps_cons' (px_tup (ps_cons' (px_ix d_ix (vo 6) (px_int)) (ps_cons' (px_bin d_add ((px_ix d_ix (vo 6) (px_int)).o) ((px_slice d_sl ((px_ix d_ix (vo 6) (px_int)).o) pox_none (pox_some (px_int))).o)) (ps_cons' (px_ix d_ix (vo 6) (px_int)) (ps_nil'))))) (ps_cons' (px_tup (ps_cons' (px_tup (ps_cons' (px_int) (ps_nil'))) (ps_cons' (px_tup (ps_nil')) (ps_cons' (px_tup (ps_nil')) (ps_nil'))))) (ps_nil')))))))).x)) (psx_cons (psx_set (i := 12) nd rfl (by first | exact Or.inl rfl | exact Or.inr rfl) (px_bin d_add (vo 12) (((pn_lst (ps_cons' (px_tup (ps_cons' (px_tup (ps_cons' (px_int) (ps_nil'))) (ps_cons' (px_bin d_mul ((px_tup (ps_cons' (px_tup (ps_cons' (px_int) (ps_nil'))) (ps_nil'))).o) ((px_int).o)) (ps_cons' (px_bin d_mul ((px_tup (ps_cons' (px_tup (ps_cons' (px_int) (ps_nil'))) (ps_nil'))).o) ((px_int).o)) (ps_nil'))))) (ps_cons' (px_tup (ps_cons' (px_tup (ps_cons' (px_int) (ps_nil'))) (ps_cons' (px_bin d_mul ((px_tup (ps_cons' (px_tup (ps_cons' (px_int) (ps_nil'))) (ps_nil'))).o) ((px_int).o)) (ps_cons' (px_bin d_mul ((px_tup (ps_cons' (px_tup (ps_cons' (px_int) (ps_nil'))) (ps_nil'))).o) ((px_int).o)) (ps_nil'))))) (ps_cons' (px_non) (ps_cons' (px_tup (ps_cons' (px_tup (ps_cons' (px_bl) (ps_nil'))) (ps_cons' (px_tup (ps_nil')) (ps_cons' (px_tup (ps_nil')) (ps_nil'))))) (ps_nil')))))).x).o))) (psx_cons (psx_for PassesOwn.never (by rfl) (pi_seq (px_bin d_add (vo 12) (((pn_lc (own := [("step", 21)]) (by rfl) nd ((pi_range (by rfl) T.b_range (ps_cons' (px_int) (ps_nil'))).o) (blkOk_by (by kernel_rfl)) (fun _ _ _ _ _ => pgx_nm (i := 21) nd rfl (by first | exact Or.inl rfl | exact Or.inr rfl)) (fun _ _ _ _ _ => ptx_nil) (fun _ _ _ _ _ => px_call c_law_bent (by rfl) (ps_cons' (vx 1) (ps_cons' (vx 6) (ps_nil'))))).x).o))) (pgx_nm (i := 11) nd rfl (by first | exact Or.inl rfl | exact Or.inr rfl)) (psx_one (psx_if (pt_not' (pt_of ((px_call c_law_same (by rfl) (ps_cons' (px_call c_is_loan (by rfl) (ps_cons' (vx 11) (ps_nil'))) (ps_cons' (px_call c_law_is_loan (by rfl) (ps_cons' (vx 11) (ps_nil'))) (ps_nil')))).o))) (psx_one (psx_ret (px_bl))) (psx_nil)))) (psx_one (psx_if (pt_cmp' (d_gt hu) (vo 7) ((px_int).o) (nomark _)) (psx_cons (psx_set (i := 14) nd rfl (by first | exact Or.inl rfl | exact Or.inr rfl) (px_call c_law_draw (by rfl) (ps_cons' (vx 1) (ps_cons' (vx 7) (ps_nil'))))) (psx_cons (psx_set (i := 15) nd rfl (by first | exact Or.inl rfl | exact Or.inr rfl) (b_tuple T.b_tuple (((pn_lc (own := [("need", 23)]) (by rfl) nd (pio_seq ((px_ix d_ix ((px_ix d_ix (vo 6) (px_int)).o) (vx 14)).o)) (blkOk_by (by kernel_rfl)) (fun _ _ _ _ _ => pgx_nm (i := 23) nd rfl (by first | exact Or.inl rfl | exact Or.inr rfl)) (fun _ _ _ _ _ => ptx_nil) (fun _ _ _ _ _ => px_call c_law_draw (by rfl) (ps_cons' (vx 1) (ps_cons' (px_bin d_add (vo 23) ((px_int).o)) (ps_nil'))))).x).o))) (psx_cons (psx_set (i := 16) nd rfl (by first | exact Or.inl rfl | exact Or.inr rfl) (px_tup (ps_cons' (b_tuple T.b_tuple (((pn_lc (own := [("k", 24)]) (by rfl) nd ((pi_range (by rfl) T.b_range (ps_cons' (b_len T.b_len (vo 15)) (ps_nil'))).o) (blkOk_by (by kernel_rfl)) (fun _ _ _ _ _ => pgx_nm (i := 24) nd rfl (by first | exact Or.inl rfl | exact Or.inr rfl)) (fun _ _ _ _ _ => ptx_nil) (fun _ _ _ _ _ => px_bin d_sub ((px_ix d_ix ((px_ix d_ix (vo 6) (px_int)).o) (vx 24)).o) ((px_ix d_ix (vo 15) (vx 24)).o))).x).o)) (ps_cons' (b_tuple T.b_tuple (((pn_lc (own := [("j", 22)]) (by rfl) nd ((pi_range (by rfl) T.b_range (ps_cons' (vx 7) (ps_nil'))).o) (blkOk_by (by kernel_rfl)) (fun _ _ _ _ _ => pgx_nm (i := 22) nd rfl (by first | exact Or.inl rfl | exact Or.inr rfl)) (fun _ _ _ _ _ => ptx_nil) (fun _ _ _ _ _ => b_tuple T.b_tuple (((pn_lc (own := [("k", 24)]) (by rfl) nd ((pi_range (by rfl) T.b_range (ps_cons' (b_len T.b_len (vo 15)) (ps_nil'))).o) (blkOk_by (by kernel_rfl)) (fun _ _ _ _ _ => pgx_nm (i := 24) nd rfl (by first | exact Or.inl rfl | exact Or.inr rfl)) (fun _ _ _ _ _ => ptx_nil) (fun _ _ _ _ _ => px_bin d_add ((px_ix d_ix ((px_ix d_ix ((px_ix d_ix (vo 6) (px_int)).o) (vx 22)).o) (vx 24)).o) ((px_if (pt_cmp' (d_eq hu) (vo 22) (vo 14) (nomark _)) (px_ix d_ix (vo 15) (vx 24)) (px_int)).o))).x).o))).x).o)) (ps_cons' (b_tuple T.b_tuple (((pn_lc (own := [("j", 22)]) (by rfl) nd ((pi_range (by rfl) T.b_range (ps_cons' (vx 7) (ps_nil'))).o) (blkOk_by (by kernel_rfl)) (fun _ _ _ _ _ => pgx_nm (i := 22) nd rfl (by first | exact Or.inl rfl | exact Or.inr rfl)) (fun _ _ _ _ _ => ptx_nil) (fun _ _ _ _ _ => b_tuple T.b_tuple (((pn_lc (own := [("k", 24)]) (by rfl) nd ((pi_range (by rfl) T.b_range (ps_cons' (b_len T.b_len (vo 15)) (ps_nil'))).o) (blkOk_by (by kernel_rfl)) (fun _ _ _ _ _ => pgx_nm (i := 24) nd rfl (by first | exact Or.inl rfl | exact Or.inr rfl)) (fun _ _ _ _ _ => ptx_nil) (fun _ _ _ _ _ => px_bin d_sub ((px_ix d_ix ((px_ix d_ix ((px_ix d_ix (vo 6) (px_int)).o) (vx 22)).o) (vx 24)).o) ((px_if (pt_cmp' (d_eq hu) (vo 22) (vo 14) (nomark _)) (px_ix d_ix (vo 15) (vx 24)) (px_int)).o))).x).o))).x).o)) (ps_nil')))))) (psx_cons (psx_set (i := 17) nd rfl (by first | exact Or.inl rfl | exact Or.inr rfl) (b_all T.b_all (((pn_lc (own := [("k", 24)]) (by rfl) nd ((pi_range (by rfl) T.b_range (ps_cons' (b_len T.b_len (vo 15)) (ps_nil'))).o) (blkOk_by (by kernel_rfl)) (fun _ _ _ _ _ => pgx_nm (i := 24) nd rfl (by first | exact Or.inl rfl | exact Or.inr rfl)) (fun _ _ _ _ _ => ptx_nil) (fun _ _ _ _ _ => px_cmp (d_le hu) ((px_ix d_ix (vo 15) (vx 24)).o) ((px_ix d_ix ((px_ix d_ix (vo 6) (px_int)).o) (vx 24)).o) (nomark _))).x).o))) (psx_cons (psx_if (pt_not' (pt_of ((px_call c_law_same (by rfl) (ps_cons' (px_call c_after_asking (by rfl) (ps_cons' (vx 6) (ps_cons' (vx 14) (ps_cons' (vx 15) (ps_nil'))))) (ps_cons' (vx 16) (ps_nil')))).o))) (psx_one (psx_ret (px_bl))) (psx_nil)) (psx_cons (psx_if (pt_not' (pt_of ((px_call c_law_same (by rfl) (ps_cons' (px_call c_may_grant (by rfl) (ps_cons' (vx 6) (ps_cons' (vx 14) (ps_cons' (vx 15) (ps_nil'))))) (ps_cons' (px_and (vx 17) (px_one (b_any T.b_any (((pn_lc (own := [("order", 19)]) (by rfl) nd (pio_seq ((px_call c_law_orders (by rfl) (ps_cons' (vx 7) (ps_nil'))).o)) (blkOk_by (by kernel_rfl)) (fun _ _ _ _ _ => pgx_nm (i := 19) nd rfl (by first | exact Or.inl rfl | exact Or.inr rfl)) (fun _ _ _ _ _ => ptx_nil) (fun _ _ _ _ _ => px_call c_law_ends (by rfl) (ps_cons' (vx 16) (ps_cons' (vx 19) (ps_nil'))))).x).o)))) (ps_nil')))).o))) (psx_one (psx_ret (px_bl))) (psx_nil)) (psx_cons (psx_set (i := 18) nd rfl (by first | exact Or.inl rfl | exact Or.inr rfl) (px_tup (ps_cons' (b_tuple T.b_tuple (((pn_lc (own := [("x", 25)]) (by rfl) nd (pio_seq ((px_ix d_ix (vo 6) (px_int)).o)) (blkOk_by (by kernel_rfl)) (fun _ _ _ _ _ => pgx_nm (i := 25) nd rfl (by first | exact Or.inl rfl | exact Or.inr rfl)) (fun _ _ _ _ _ => ptx_nil) (fun _ _ _ _ _ => px_bin d_add (vo 25) ((px_call c_law_draw (by rfl) (ps_cons' (vx 1) (ps_cons' (px_int) (ps_nil')))).o))).x).o)) (ps_cons' (px_ix d_ix (vo 6) (px_int)) (ps_cons' (b_tuple T.b_tuple (((pn_lc (own := [("part", 26)]) (by rfl) nd (pio_seq ((px_ix d_ix (vo 6) (px_int)).o)) (blkOk_by (by kernel_rfl)) (fun _ _ _ _ _ => pgx_nm (i := 26) nd rfl (by first | exact Or.inl rfl | exact Or.inr rfl)) (fun _ _ _ _ _ => ptx_nil) (fun _ _ _ _ _ => b_tuple T.b_tuple (((pn_lc (own := [("need", 23)]) (by rfl) nd (pio_seq (vo 26)) (blkOk_by (by kernel_rfl)) (fun _ _ _ _ _ => pgx_nm (i := 23) nd rfl (by first | exact Or.inl rfl | exact Or.inr rfl)) (fun _ _ _ _ _ => ptx_nil) (fun _ _ _ _ _ => b_max2 T.b_max ((px_int).o) ((px_bin d_sub (vo 23) ((px_call c_law_draw (by rfl) (ps_cons' (vx 1) (ps_cons' (px_int) (ps_nil')))).o)).o))).x).o))).x).o)) (ps_nil')))))) (psx_cons (psx_if ((pw_and' (pt_cmp' (d_eq hu) (vo 4) ((px_str).o) (nomark _)) (pw_one_and (pt_cmp' (d_ne hu) ((px_ix d_ix ((px_call c_safe_order (by rfl) (ps_cons' (vx 18) (ps_nil'))).o) (px_int)).o) ((px_str).o) (nomark _)))).pt) (psx_one (psx_ret (px_bl))) (psx_nil)) (psx_one (psx_if ((pw_and' (pt_not' (pt_of (vo 17))) (pw_one_and (pt_cmp' d_isntB ((px_call c_may_grant (by rfl) (ps_cons' (vx 6) (ps_cons' (vx 14) (ps_cons' (vx 15) (ps_nil'))))).o) ((px_bl).o) (nomark _)))).pt) (psx_one (psx_ret (px_bl))) (psx_nil))))))))))) (psx_nil)))))))))))))))))))) (psx_cons (psx_set (i := 3) nd rfl (by first | exact Or.inl rfl | exact Or.inr rfl) (px_call c_law_loan (by rfl) (ps_cons' (vx 1) (ps_cons' (px_int) (ps_cons' (px_int) (ps_cons' (px_int) (ps_nil'))))))) (psx_cons (psx_asg (px_call c_safe_order (by rfl) (ps_cons' (vx 3) (ps_nil'))) (pgx_tup (by rfl) (pgx_cons (pgx_nm (i := 4) nd rfl (by first | exact Or.inl rfl | exact Or.inr rfl)) (pgx_cons (pgx_nm (i := 5) nd rfl (by first | exact Or.inl rfl | exact Or.inr rfl)) (pgx_nil))))) (psx_cons (psx_if ((pw_or' ((pw_and' (pt_cmp' (d_eq hu) (vo 4) ((px_str).o) (nomark _)) (pw_one_and (pt_not' (pt_of ((px_call c_law_ends (by rfl) (ps_cons' (vx 3) (ps_cons' (vx 5) (ps_nil')))).o))))).pt) (pw_one_or ((pw_and' (pt_cmp' (d_eq hu) (vo 4) ((px_str).o) (nomark _)) (pw_one_and (pt_not' (pt_of ((px_call c_law_stuck (by rfl) (ps_cons' (vx 3) (ps_cons' (vx 5) (ps_nil')))).o))))).pt))).pt) (psx_one (psx_ret (px_bl))) (psx_nil)) (psx_one (psx_ret (px_and (px_call c_law_same (by rfl) (ps_cons' (px_call c_safe_order (by rfl) (ps_cons' (px_tup (ps_cons' (px_tup (ps_cons' (px_int) (ps_nil'))) (ps_cons' (px_tup (ps_cons' (px_tup (ps_cons' (px_int) (ps_nil'))) (ps_cons' (px_tup (ps_cons' (px_int) (ps_nil'))) (ps_nil')))) (ps_cons' (px_tup (ps_cons' (px_tup (ps_cons' (px_int) (ps_nil'))) (ps_cons' (px_tup (ps_cons' (px_int) (ps_nil'))) (ps_nil')))) (ps_nil'))))) (ps_nil'))) (ps_cons' (px_tup (ps_cons' (px_str) (ps_cons' (px_tup (ps_cons' (px_int) (ps_cons' (px_int) (ps_nil')))) (ps_nil')))) (ps_nil')))) (px_one (px_call c_law_same (by rfl) (ps_cons' (px_call c_safe_order (by rfl) (ps_cons' (px_tup (ps_cons' (px_tup (ps_cons' (px_int) (ps_nil'))) (ps_cons' (px_tup (ps_cons' (px_tup (ps_cons' (px_int) (ps_nil'))) (ps_cons' (px_tup (ps_cons' (px_int) (ps_nil'))) (ps_nil')))) (ps_cons' (px_tup (ps_cons' (px_tup (ps_cons' (px_int) (ps_nil'))) (ps_cons' (px_tup (ps_cons' (px_int) (ps_nil'))) (ps_nil')))) (ps_nil'))))) (ps_nil'))) (ps_cons' (px_tup (ps_cons' (px_str) (ps_cons' (px_tup (ps_cons' (px_int) (ps_cons' (px_int) (ps_nil')))) (ps_nil')))) (ps_nil')))))))))))
      · obtain ⟨ρ', b', e⟩ := hlaw ns hlen
        refine ⟨_, _, _, _, _, _, rel_law (n := 25) hb rfl rfl, _, ρ', b', e, fun v F' H' _ r => ?_⟩
        simp only [Rp] at r
        rw [r]
        exact k _
    have okb := ok_box (P := P) (w := w) (base := base) T.d_law_box.fu T.btF
    refine ⟨_, pss_cons (ps_set (i := 1) sc_law.nd rfl (by first | exact Or.inl rfl | exact Or.inr rfl) (pe_call okb (hr.mono (by omega)) (by rfl) T.d_law_box.mg T.d_law_box.fu.kp T.d_law_box.bi .nil pass0 (pa_cons (pv 0) pa_nil))) h2, ?_⟩
    exact ⟨_, rfl, a, ns, rfl, hS, hlen, fun p q H1 hb => q2 p q H1 hb⟩
end
end K83

set_option maxHeartbeats 1000000
/-! Pl1: plain reasoning about what defs compute. W: it ends, and the wish holds. -/
namespace Sv
open PySem (Str PyData)

def Ew (f : Ex) (ρ : Rho) (Q : D → Prop) : Prop := ∀ b, ∃ d b', f ρ b = some (d, b') ∧ Q d
def Tw (f : Tx) (ρ : Rho) (Q : Bool → Prop) : Prop := ∀ b, ∃ d b', f ρ b = some (d, b') ∧ Q d
def Aw (f : As) (ρ : Rho) (Q : List D → Prop) : Prop := ∀ b, ∃ d b', f ρ b = some (d, b') ∧ Q d
def Fw (F : Fn) (ds : List D) (Q : D → Prop) : Prop := ∀ b, ∃ d b', F ds b = some (d, b') ∧ Q d
def Mw (f : Mx) (ρ : Rho) (Q : D → Rho → Prop) : Prop := ∀ b, ∃ d ρ' b', f ρ b = some (d, ρ', b') ∧ Q d ρ'
def MAw (f : MAs) (ρ : Rho) (Q : List D → Rho → Prop) : Prop := ∀ b, ∃ d ρ' b', f ρ b = some (d, ρ', b') ∧ Q d ρ'
def Kw (f : Ks) (ρ : Rho) (Q : List Sl → Prop) : Prop := ∀ b, ∃ d b', f ρ b = some (d, b') ∧ Q d
def Sw (s : SS) (ρ : Rho) (Q : Fl → Rho → Prop) : Prop := ∀ b, ∃ fl ρ' b', s ρ b = some (fl, ρ', b') ∧ Q fl ρ'
def OrW (o : Option D) (Q : D → Prop) : Prop := ∃ r, o = some r ∧ Q r

theorem Ew.mono {f : Ex} {ρ : Rho} {Q Q' : D → Prop} (h : Ew f ρ Q) (i : ∀ d, Q d → Q' d) : Ew f ρ Q' := fun b => let ⟨d, b', e, q⟩ := h b; ⟨d, b', e, i d q⟩
theorem Tw.mono {f : Tx} {ρ : Rho} {Q Q' : Bool → Prop} (h : Tw f ρ Q) (i : ∀ d, Q d → Q' d) : Tw f ρ Q' := fun b => let ⟨d, b', e, q⟩ := h b; ⟨d, b', e, i d q⟩
theorem Aw.mono {f : As} {ρ : Rho} {Q Q' : List D → Prop} (h : Aw f ρ Q) (i : ∀ d, Q d → Q' d) : Aw f ρ Q' := fun b => let ⟨d, b', e, q⟩ := h b; ⟨d, b', e, i d q⟩
theorem Fw.mono {F : Fn} {ds : List D} {Q Q' : D → Prop} (h : Fw F ds Q) (i : ∀ d, Q d → Q' d) : Fw F ds Q' := fun b => let ⟨d, b', e, q⟩ := h b; ⟨d, b', e, i d q⟩
theorem Sw.mono {s : SS} {ρ : Rho} {Q Q' : Fl → Rho → Prop} (h : Sw s ρ Q) (i : ∀ fl ρ', Q fl ρ' → Q' fl ρ') : Sw s ρ Q' := fun b => let ⟨d, ρ', b', e, q⟩ := h b; ⟨d, ρ', b', e, i d ρ' q⟩

section
variable {ρ : Rho} {Q : D → Prop} {f f' f'' : Ex} {t u : Tx} {ag : As}
/-! ### expressions -/
theorem ew_var {i : Nat} {d : D} (e : ρ[i]? = some (Sl.frz d)) (q : Q d) : Ew (eVar i) ρ Q := fun b => ⟨d, b, by unfold eVar; rw [e], q⟩
theorem ew_bor {i : Nat} {d : D} (e : ρ[i]? = some (Sl.frz d)) (q : Q d) : Ew (eBor i) ρ Q := fun b => ⟨d, b, by unfold eBor; rw [e], q⟩
theorem ew_borO {i : Nat} {d : D} (e : ρ[i]? = some (Sl.own d)) (q : Q d) : Ew (eBor i) ρ Q := fun b => ⟨d, b, by unfold eBor; rw [e], q⟩
theorem ew_con {d : D} (q : Q d) : Ew (eCon d) ρ Q := fun b => ⟨d, b, rfl, q⟩
theorem ew_un {g : D → Option D} (h : Ew f ρ fun d => OrW (g d) Q) : Ew (eUn g f) ρ Q := fun b => by
  obtain ⟨d, b', e, r, e2, q⟩ := h b
  exact ⟨r, b', by unfold eUn; rw [e]; simp only [e2], q⟩
theorem ew_bin {g : D → D → Option D} (h : Ew f ρ fun d => Ew f' ρ fun d' => OrW (g d d') Q) : Ew (eBin g f f') ρ Q := fun b => by
  obtain ⟨d, b1, e1, h2⟩ := h b
  obtain ⟨d2, b2, e2, r, e3, q⟩ := h2 b1
  exact ⟨r, b2, by unfold eBin; rw [e1]; simp only [e2, e3], q⟩
theorem ew_fn {g : List D → Option D} (h : Aw ag ρ fun ds => OrW (g ds) Q) : Ew (eFn g ag) ρ Q := fun b => by
  obtain ⟨d, b', e, r, e2, q⟩ := h b
  exact ⟨r, b', by unfold eFn; rw [e]; simp only [e2], q⟩
theorem ew_tup (h : Aw ag ρ fun ds => Q (.tup ds)) : Ew (eTup ag) ρ Q := ew_fn (h.mono fun ds q => ⟨_, rfl, q⟩)
theorem ew_lst (h : Aw ag ρ fun ds => Q (.lst ds)) : Ew (eLst ag) ρ Q := ew_fn (h.mono fun ds q => ⟨_, rfl, q⟩)
theorem ew_call {F : Fn} (h : Aw ag ρ fun ds => Fw F ds Q) : Ew (eCall F ag) ρ Q := fun b => by
  obtain ⟨d, b1, e1, h2⟩ := h b
  obtain ⟨d2, b2, e2, q⟩ := h2 b1
  exact ⟨d2, b2, by unfold eCall; rw [e1]; exact e2, q⟩
theorem ew_callO {F : Fn} (h : Aw ag ρ fun ds => Fw F ds fun d => d.flat = true ∧ Q d) : Ew (eCallO F ag) ρ Q := fun b => by
  obtain ⟨d, b1, e1, h2⟩ := h b
  obtain ⟨d2, b2, e2, fl, q⟩ := h2 b1
  exact ⟨d2, b2, by unfold eCallO; rw [e1]; simp only [e2, fl, if_true], q⟩
theorem ew_if (h : Tw t ρ fun k => (k = true → Ew f ρ Q) ∧ (k = false → Ew f' ρ Q)) : Ew (eIf t f f') ρ Q := fun b => by
  obtain ⟨k, b1, e1, h1, h2⟩ := h b
  cases k with
  | true =>
    obtain ⟨d, b2, e2, q⟩ := h1 rfl b1
    exact ⟨d, b2, by unfold eIf; rw [e1]; exact e2, q⟩
  | false =>
    obtain ⟨d, b2, e2, q⟩ := h2 rfl b1
    exact ⟨d, b2, by unfold eIf; rw [e1]; exact e2, q⟩
theorem ew_and (h : Ew f ρ fun d => ∃ k, truthD d = some k ∧ (k = true → Ew f' ρ Q) ∧ (k = false → Q d)) : Ew (eAnd f f') ρ Q := fun b => by
  obtain ⟨d, b1, e1, k, ek, h1, h2⟩ := h b
  cases k with
  | true =>
    obtain ⟨d2, b2, e2, q⟩ := h1 rfl b1
    exact ⟨d2, b2, by unfold eAnd; rw [e1]; simp only [ek, e2], q⟩
  | false => exact ⟨d, b1, by unfold eAnd; rw [e1]; simp only [ek], h2 rfl⟩
theorem ew_or (h : Ew f ρ fun d => ∃ k, truthD d = some k ∧ (k = true → Q d) ∧ (k = false → Ew f' ρ Q)) : Ew (eOr f f') ρ Q := fun b => by
  obtain ⟨d, b1, e1, k, ek, h1, h2⟩ := h b
  cases k with
  | true => exact ⟨d, b1, by unfold eOr; rw [e1]; simp only [ek], h1 rfl⟩
  | false =>
    obtain ⟨d2, b2, e2, q⟩ := h2 rfl b1
    exact ⟨d2, b2, by unfold eOr; rw [e1]; simp only [ek, e2], q⟩
theorem ew_not (h : Ew f ρ fun d => ∃ k, truthD d = some k ∧ Q (.bl (!k))) : Ew (eNot f) ρ Q := ew_un (h.mono fun d ⟨k, e, q⟩ => ⟨_, by rw [e]; rfl, q⟩)
/-- and, or of truth values: one way -/
theorem ew_andB {x y : Bool} (h : Ew f ρ fun d => d = .bl x) (h' : x = true → Ew f' ρ fun d => d = .bl y) (q : Q (.bl (x && y))) : Ew (eAnd f f') ρ Q := ew_and (h.mono fun d e => by
  subst e
  refine ⟨x, rfl, fun e => (h' e).mono fun d e' => ?_, fun e => ?_⟩
  · subst e; subst e'; simpa using q
  · subst e; simpa using q)
theorem ew_orB {x y : Bool} (h : Ew f ρ fun d => d = .bl x) (h' : x = false → Ew f' ρ fun d => d = .bl y) (q : Q (.bl (x || y))) : Ew (eOr f f') ρ Q := ew_or (h.mono fun d e => by
  subst e
  refine ⟨x, rfl, fun e => ?_, fun e => (h' e).mono fun d e' => ?_⟩
  · subst e; simpa using q
  · subst e; subst e'; simpa using q)
theorem ew_chain {g g' : D → D → Option D} (h : Ew f ρ fun d => Ew f' ρ fun e => ∃ k, g d e = some (.bl k) ∧ (k = true → Ew f'' ρ fun c => OrW (g' e c) Q) ∧ (k = false → Q (.bl false))) : Ew (eChain g g' f f' f'') ρ Q := fun b => by
  obtain ⟨d, b1, e1, h⟩ := h b
  obtain ⟨e, b2, e2, k, ek, h1, h2⟩ := h b1
  cases k with
  | true =>
    obtain ⟨c, b3, e3, r, er, q⟩ := h1 rfl b2
    exact ⟨r, b3, by unfold eChain; rw [e1]; simp only [e2, ek, e3, er], q⟩
  | false => exact ⟨_, b2, by unfold eChain; rw [e1]; simp only [e2, ek], h2 rfl⟩
def Ow (o : Option Ex) (ρ : Rho) (Q : Option Int → Prop) : Prop := ∀ b, ∃ d b', eOpt o ρ b = some (d, b') ∧ Q d
theorem ow_none {Q : Option Int → Prop} (q : Q none) : Ow none ρ Q := fun b => ⟨none, b, rfl, q⟩
theorem ow_some {Q : Option Int → Prop} (h : Ew f ρ fun d => ∃ i, d = .int i ∧ Q (some i)) : Ow (some f) ρ Q := fun b => by
  obtain ⟨d, b1, e1, i, rfl, q⟩ := h b
  exact ⟨some i, b1, by show (match f ρ b with | some (D.int i, b1) => some (some i, b1) | _ => none) = _; rw [e1], q⟩
theorem ew_slice {lo hi : Option Ex} (h : Ew f ρ fun d => Ow lo ρ fun l => Ow hi ρ fun u => OrW (sliceD d l u) Q) : Ew (eSlice f lo hi) ρ Q := fun b => by
  obtain ⟨d, b1, e1, h⟩ := h b
  obtain ⟨l, b2, e2, h⟩ := h b1
  obtain ⟨u, b3, e3, r, e4, q⟩ := h b2
  exact ⟨r, b3, by unfold eSlice; rw [e1]; simp only [e2, e3, e4], q⟩
/-! ### tests -/
theorem tw_bl {Q : Bool → Prop} (h : Ew f ρ fun d => ∃ k, d = .bl k ∧ Q k) : Tw (tBl f) ρ Q := fun b => by
  obtain ⟨d, b1, e1, k, rfl, q⟩ := h b
  exact ⟨k, b1, by unfold tBl; rw [e1], q⟩
theorem tw_of {Q : Bool → Prop} (h : Ew f ρ fun d => ∃ k, truthD d = some k ∧ Q k) : Tw (tOf f) ρ Q := fun b => by
  obtain ⟨d, b1, e1, k, e2, q⟩ := h b
  exact ⟨k, b1, by unfold tOf; rw [e1]; simp only [e2], q⟩
theorem tw_not {Q : Bool → Prop} (h : Tw t ρ fun k => Q (!k)) : Tw (tNot t) ρ Q := fun b => by
  obtain ⟨k, b1, e1, q⟩ := h b
  exact ⟨!k, b1, by unfold tNot; rw [e1], q⟩
theorem tw_and {Q : Bool → Prop} (h : Tw t ρ fun k => (k = true → Tw u ρ Q) ∧ (k = false → Q false)) : Tw (tAnd t u) ρ Q := fun b => by
  obtain ⟨k, b1, e1, h1, h2⟩ := h b
  cases k with
  | true =>
    obtain ⟨d, b2, e2, q⟩ := h1 rfl b1
    exact ⟨d, b2, by unfold tAnd; rw [e1]; exact e2, q⟩
  | false => exact ⟨false, b1, by unfold tAnd; rw [e1], h2 rfl⟩
theorem tw_or {Q : Bool → Prop} (h : Tw t ρ fun k => (k = true → Q true) ∧ (k = false → Tw u ρ Q)) : Tw (tOr t u) ρ Q := fun b => by
  obtain ⟨k, b1, e1, h1, h2⟩ := h b
  cases k with
  | true => exact ⟨true, b1, by unfold tOr; rw [e1], h1 rfl⟩
  | false =>
    obtain ⟨d, b2, e2, q⟩ := h2 rfl b1
    exact ⟨d, b2, by unfold tOr; rw [e1]; exact e2, q⟩
theorem tw_andB {Q : Bool → Prop} {x y : Bool} (h : Tw t ρ fun k => k = x) (h' : x = true → Tw u ρ fun k => k = y) (q : Q (x && y)) : Tw (tAnd t u) ρ Q := tw_and (h.mono fun k e => by
  subst e
  refine ⟨fun e => (h' e).mono fun d e' => ?_, fun e => ?_⟩
  · subst e; subst e'; simpa using q
  · subst e; simpa using q)
theorem tw_orB {Q : Bool → Prop} {x y : Bool} (h : Tw t ρ fun k => k = x) (h' : x = false → Tw u ρ fun k => k = y) (q : Q (x || y)) : Tw (tOr t u) ρ Q := tw_or (h.mono fun k e => by
  subst e
  refine ⟨fun e => ?_, fun e => (h' e).mono fun d e' => ?_⟩
  · subst e; simpa using q
  · subst e; subst e'; simpa using q)
theorem tw_yes {Q : Bool → Prop} (q : Q true) : Tw tYes' ρ Q := fun b => ⟨true, b, rfl, q⟩
/-! ### arguments -/
theorem aw_nil {Q : List D → Prop} (q : Q []) : Aw aNil ρ Q := fun b => ⟨[], b, rfl, q⟩
theorem aw_cons {Q : List D → Prop} (h : Ew f ρ fun d => Aw ag ρ fun ds => Q (d :: ds)) : Aw (aCons f ag) ρ Q := fun b => by
  obtain ⟨d, b1, e1, h⟩ := h b
  obtain ⟨ds, b2, e2, q⟩ := h b1
  exact ⟨_, b2, by unfold aCons; rw [e1]; simp only [e2], q⟩
/-! ### what is walked -/
def Iw (f : It) (ρ : Rho) (Q : List D → Prop) : Prop := ∀ b, ∃ d b', f ρ b = some (d, b') ∧ Q d
theorem iw_seq {Q : List D → Prop} (h : Ew f ρ fun d => ∃ xs, itemsD d = some xs ∧ Q xs) : Iw (iSeq f) ρ Q := fun b => by
  obtain ⟨d, b1, e1, xs, e2, q⟩ := h b
  exact ⟨xs, b1, by unfold iSeq; rw [e1]; simp only [e2], q⟩
theorem iw_str {Q : List D → Prop} (h : Ew f ρ fun d => ∃ z, d = .str z ∧ z.length ≤ PySem.sizeLine ∧ Q (z.cps.toList.map fun c => .str ⟨#[c]⟩)) : Iw (iStr f) ρ Q := fun b => by
  obtain ⟨d, b1, e1, z, rfl, hz, q⟩ := h b
  exact ⟨_, b1, by unfold iStr; rw [e1]; simp only [hz, if_true], q⟩
theorem iw_range {Q : List D → Prop} (h : Aw ag ρ fun ds => ∃ j xs, ds = [.int j] ∧ rangeD 0 j = some xs ∧ Q xs) : Iw (iRange ag) ρ Q := fun b => by
  obtain ⟨d, b1, e1, j, xs, rfl, e2, q⟩ := h b
  exact ⟨xs, b1, by unfold iRange; rw [e1]; simp only [e2], q⟩
theorem iw_range2 {Q : List D → Prop} (h : Aw ag ρ fun ds => ∃ i j xs, ds = [.int i, .int j] ∧ rangeD i j = some xs ∧ Q xs) : Iw (iRange ag) ρ Q := fun b => by
  obtain ⟨d, b1, e1, i, j, xs, rfl, e2, q⟩ := h b
  exact ⟨xs, b1, by unfold iRange; rw [e1]; simp only [e2], q⟩
theorem iw_enum {Q : List D → Prop} (h : Ew f ρ fun d => ∃ xs, itemsD d = some xs ∧ Q (enumD 0 xs)) : Iw (iEnum f) ρ Q := fun b => by
  obtain ⟨d, b1, e1, xs, e2, q⟩ := h b
  exact ⟨_, b1, by unfold iEnum; rw [e1]; simp only [e2], q⟩
theorem iw_zip {Q : List D → Prop} (h : Ew f ρ fun d => Ew f' ρ fun e => ∃ xs, zipDD d e = some xs ∧ Q xs) : Iw (iZip f f') ρ Q := fun b => by
  obtain ⟨d, b1, e1, h⟩ := h b
  obtain ⟨e, b2, e2, xs, e3, q⟩ := h b1
  exact ⟨xs, b2, by unfold iZip; rw [e1]; simp only [e2, e3], q⟩
/-! ### comprehensions -/
/-- R by the items done and what is made -/
theorem ew_lcI {it : It} {g : Tg} {vs : List Nat} (ds : List D) (R : Nat → List D → Prop) (hi : Iw it ρ fun xs => xs = ds) (h0 : R 0 [])
    (hs : ∀ i d acc, ds[i]? = some d → R i acc → ∃ ρ1, g d (wipeR ρ vs) = some ρ1 ∧ Tw t ρ1 fun k => (k = true → Ew f ρ1 fun r => R (i + 1) (acc ++ [r])) ∧ (k = false → R (i + 1) acc)) (q : ∀ acc, R ds.length acc → Q (.lst acc)) : Ew (eLc it g t f vs) ρ Q := fun b => by
  obtain ⟨_, b1, e1, rfl⟩ := hi b
  rename_i ds
  have go : ∀ (n i : Nat) (acc : List D) (b : Bx), n = ds.length - i → i ≤ ds.length → R i acc → ∃ rs b', lcGo g t f (wipeR ρ vs) (ds.drop i) b = some (rs, b') ∧ R ds.length (acc ++ rs) := by
    intro n
    induction n with
    | zero =>
      intro i acc b hn hi r
      have : i = ds.length := by omega
      subst this
      exact ⟨[], b, by rw [List.drop_length]; rfl, by simpa using r⟩
    | succ n ih =>
      intro i acc b hn hi r
      have hlt : i < ds.length := by omega
      obtain ⟨ρ1, e1, h⟩ := hs i ds[i] acc (List.getElem?_eq_getElem hlt) r
      obtain ⟨k, b1, e2, h1, h2⟩ := h b
      rw [List.drop_eq_getElem_cons hlt]
      cases k with
      | true =>
        obtain ⟨d, b2, e3, r'⟩ := h1 rfl b1
        obtain ⟨rs, b3, e4, r2⟩ := ih (i + 1) _ b2 (by omega) hlt r'
        exact ⟨d :: rs, b3, by unfold lcGo; simp only [e1, e2, e3, e4], by simpa using r2⟩
      | false =>
        obtain ⟨rs, b3, e4, r2⟩ := ih (i + 1) _ b1 (by omega) hlt (h2 rfl)
        exact ⟨rs, b3, by unfold lcGo; simp only [e1, e2, e4], r2⟩
  obtain ⟨rs, b2, e2, r⟩ := go _ 0 [] b1 rfl (Nat.zero_le _) h0
  rw [List.drop_zero] at e2
  exact ⟨.lst rs, b2, by unfold eLc; rw [e1]; simp only [e2], q rs (by simpa using r)⟩
/-- each item by itself, of typed items -/
theorem ew_lc {α : Type} {it : It} {g : Tg} {vs : List Nat} (xs : List α) (enc : α → D) (p : α → Bool) (res : α → D) (hi : Iw it ρ fun ds => ds = xs.map enc)
    (hs : ∀ x ∈ xs, ∃ ρ1, g (enc x) (wipeR ρ vs) = some ρ1 ∧ Tw t ρ1 fun k => k = p x ∧ (k = true → Ew f ρ1 fun r => r = res x)) (q : Q (.lst ((xs.filter p).map res))) : Ew (eLc it g t f vs) ρ Q := by
  refine ew_lcI (xs.map enc) (fun i acc => acc = ((xs.take i).filter p).map res) hi rfl (fun i d acc e r => ?_) fun acc r => ?_
  · rw [List.getElem?_map] at e
    cases ex : xs[i]? with
    | none => rw [ex] at e; cases e
    | some x =>
      rw [ex] at e; cases e
      obtain ⟨hl, hx⟩ := List.getElem?_eq_some_iff.mp ex
      obtain ⟨ρ1, e1, h⟩ := hs x (List.mem_of_getElem? ex)
      have ht : xs.take (i + 1) = xs.take i ++ [x] := by rw [List.take_succ, ex]; rfl
      refine ⟨ρ1, e1, h.mono fun k ⟨hk, h2⟩ => ⟨fun e => (h2 e).mono fun r' hr' => ?_, fun e => ?_⟩⟩
      · subst hr'
        rw [ht, List.filter_append, List.map_append, r]
        rw [hk] at e
        simp [e]
      · rw [ht, List.filter_append, List.map_append, r]
        rw [hk] at e
        simp [e]
  · rw [List.length_map, List.take_length] at r
    rw [r]; exact q
/-- .. no test -/
theorem ew_lcM {α : Type} {it : It} {g : Tg} {vs : List Nat} (xs : List α) (enc : α → D) (res : α → D) (hi : Iw it ρ fun ds => ds = xs.map enc)
    (hs : ∀ x ∈ xs, ∃ ρ1, g (enc x) (wipeR ρ vs) = some ρ1 ∧ Ew f ρ1 fun r => r = res x) (q : Q (.lst (xs.map res))) : Ew (eLc it g tYes' f vs) ρ Q :=
  ew_lc xs enc (fun _ => true) res hi (fun x hx => let ⟨ρ1, e, h⟩ := hs x hx; ⟨ρ1, e, tw_yes ⟨rfl, fun _ => h⟩⟩) (by rw [List.filter_eq_self.mpr fun _ _ => rfl]; exact q)
/-- .. what is made is of a kind -/
theorem ew_lcK {α β : Type} {it : It} {g : Tg} {vs : List Nat} (xs : List α) (enc : α → D) (enc' : β → D) (P : α → β → Prop) (hi : Iw it ρ fun ds => ds = xs.map enc)
    (hs : ∀ x ∈ xs, ∃ ρ1, g (enc x) (wipeR ρ vs) = some ρ1 ∧ Ew f ρ1 fun r => ∃ y, r = enc' y ∧ P x y) (q : ∀ ys : List β, ys.length = xs.length → (∀ (i : Nat) x y, xs[i]? = some x → ys[i]? = some y → P x y) → Q (.lst (ys.map enc'))) : Ew (eLc it g tYes' f vs) ρ Q := by
  refine ew_lcI (xs.map enc) (fun i acc => ∃ ys : List β, acc = ys.map enc' ∧ ys.length = i ∧ ∀ (j : Nat) x y, xs[j]? = some x → ys[j]? = some y → P x y) hi ⟨[], rfl, rfl, fun _ _ _ _ e => by simp at e⟩ (fun i d acc e r => ?_) fun acc r => ?_
  · rw [List.getElem?_map] at e
    cases ex : xs[i]? with
    | none => rw [ex] at e; cases e
    | some x =>
      rw [ex] at e; cases e
      obtain ⟨ys, ey, hl, hp⟩ := r
      obtain ⟨ρ1, e1, h⟩ := hs x (List.mem_of_getElem? ex)
      refine ⟨ρ1, e1, tw_yes ⟨fun _ => h.mono fun r ⟨y, er, hy⟩ => ⟨ys ++ [y], by rw [ey, er]; simp, by simp [hl], fun j x' y' e1 e2 => ?_⟩, fun e => by cases e⟩⟩
      by_cases hj : j < ys.length
      · rw [List.getElem?_append_left hj] at e2
        exact hp j x' y' e1 e2
      · have hj2 : j = i := by
          have := (List.getElem?_eq_some_iff.mp e2).1
          simp at this; omega
        subst hj2
        rw [ex] at e1; cases e1
        rw [List.getElem?_append_right (by omega)] at e2
        simp [hl] at e2
        subst e2; exact hy
  · obtain ⟨ys, ey, hl, hp⟩ := r
    rw [ey]
    exact q ys (by simpa using hl) hp
end
/-! ### defs -/
theorem fw_run {n : Nat} {s : SS} {ds : List D} {Q : D → Prop} (h : Sw s (ds.map Sl.frz ++ List.replicate (n - ds.length) .emp) fun fl _ => (∃ d, fl = .rt d ∧ Q d) ∨ (fl = .nx ∧ Q .non)) : Fw (runF n s) ds Q := fun b => by
  obtain ⟨fl, ρ', b', e, q⟩ := h b
  rcases q with ⟨d, rfl, q⟩ | ⟨rfl, q⟩
  · exact ⟨d, b', by unfold runF; rw [e], q⟩
  · exact ⟨.non, b', by unfold runF; rw [e], q⟩
/-- .. that returns -/
@[reducible] def RtQ (Q : D → Prop) : Fl → Rho → Prop := fun fl _ => ∃ d, fl = .rt d ∧ Q d
theorem fw_rt {n : Nat} {s : SS} {ds : List D} {Q : D → Prop} (h : Sw s (ds.map Sl.frz ++ List.replicate (n - ds.length) .emp) (RtQ Q)) : Fw (runF n s) ds Q := fw_run (h.mono fun _ _ q => .inl q)
theorem fw_draw {n : Int} {Q : D → Prop} (h0 : 0 < n) (h1 : n < 2 ^ 30) (q : ∀ i : Int, 0 ≤ i → i < n → Q (.int i)) : Fw drawF [.tok 0, .int n] Q := fun b => by
  refine ⟨.int (drawB b n).1, (drawB b n).2, ?_, q _ ?_ ?_⟩
  · have : n ≠ 0 ∧ n.natAbs < 2 ^ 30 := ⟨by omega, by omega⟩
    simp only [drawF, this, and_self, ne_eq, not_false_eq_true, if_true]
  · exact Int.fmod_nonneg_of_pos _ h0
  · exact Int.fmod_lt_of_pos _ h0
/-! ### statements -/
@[reducible] def Then (K : Rho → Prop) (Q : Fl → Rho → Prop) : Fl → Rho → Prop := fun fl ρ => match fl with
  | .nx => K ρ
  | fl => Q fl ρ
section
variable {ρ : Rho} {Q : Fl → Rho → Prop} {f f' : Ex} {t : Tx} {s s' : SS}
theorem sw_nx (q : Q .nx ρ) : Sw sNx ρ Q := fun b => ⟨.nx, ρ, b, rfl, q⟩
theorem sw_bk (q : Q .bk ρ) : Sw sBk ρ Q := fun b => ⟨.bk, ρ, b, rfl, q⟩
theorem sw_ct (q : Q .ct ρ) : Sw sCt ρ Q := fun b => ⟨.ct, ρ, b, rfl, q⟩
theorem sw_seq (h : Sw s ρ (Then (fun ρ1 => Sw s' ρ1 Q) Q)) : Sw (sSeq s s') ρ Q := fun b => by
  obtain ⟨fl, ρ1, b1, e1, h⟩ := h b
  cases fl with
  | nx =>
    obtain ⟨fl, ρ2, b2, e2, q⟩ := (h : Sw s' ρ1 Q) b1
    exact ⟨fl, ρ2, b2, by unfold sSeq; rw [e1]; exact e2, q⟩
  | bk => exact ⟨.bk, ρ1, b1, by unfold sSeq; rw [e1], h⟩
  | ct => exact ⟨.ct, ρ1, b1, by unfold sSeq; rw [e1], h⟩
  | rt d => exact ⟨.rt d, ρ1, b1, by unfold sSeq; rw [e1], h⟩
theorem sw_ret (h : Ew f ρ fun d => Q (.rt d) ρ) : Sw (sRet f) ρ Q := fun b => by
  obtain ⟨d, b1, e1, q⟩ := h b
  exact ⟨.rt d, ρ, b1, by unfold sRet; rw [e1], q⟩
theorem sw_rt {Q : D → Prop} (h : Ew f ρ Q) : Sw (sRet f) ρ (RtQ Q) := sw_ret (h.mono fun d q => ⟨d, rfl, q⟩)
theorem sw_if (h : Tw t ρ fun k => (k = true → Sw s ρ Q) ∧ (k = false → Sw s' ρ Q)) : Sw (sIf t s s') ρ Q := fun b => by
  obtain ⟨k, b1, e1, h1, h2⟩ := h b
  cases k with
  | true =>
    obtain ⟨fl, ρ1, b2, e2, q⟩ := h1 rfl b1
    exact ⟨fl, ρ1, b2, by unfold sIf; rw [e1]; exact e2, q⟩
  | false =>
    obtain ⟨fl, ρ1, b2, e2, q⟩ := h2 rfl b1
    exact ⟨fl, ρ1, b2, by unfold sIf; rw [e1]; exact e2, q⟩
theorem sw_set {i : Nat} (h : Ew f ρ fun d => Q .nx (ρ.set i (Sl.frz d))) : Sw (sSet i f) ρ Q := fun b => by
  obtain ⟨d, b1, e1, q⟩ := h b
  exact ⟨.nx, _, b1, by unfold sSet; rw [e1], q⟩
theorem sw_new {i : Nat} (h : Ew f ρ fun d => Q .nx (ρ.set i (Sl.own d))) : Sw (sNew i f) ρ Q := fun b => by
  obtain ⟨d, b1, e1, q⟩ := h b
  exact ⟨.nx, _, b1, by unfold sNew; rw [e1], q⟩
theorem sw_asg {g : Tg} (h : Ew f ρ fun d => ∃ ρ1, g d ρ = some ρ1 ∧ Q .nx ρ1) : Sw (sAsg g f) ρ Q := fun b => by
  obtain ⟨d, b1, e1, ρ1, e2, q⟩ := h b
  exact ⟨.nx, _, b1, by unfold sAsg; rw [e1]; simp only [e2], q⟩
theorem sw_expr (h : Ew f ρ fun d => Q .nx ρ) : Sw (sExpr f) ρ Q := fun b => by
  obtain ⟨d, b1, e1, q⟩ := h b
  exact ⟨.nx, _, b1, by unfold sExpr; rw [e1], q⟩
theorem sw_fz {i : Nat} {d : D} (e : ρ[i]? = some (Sl.own d)) (q : Q .nx (ρ.set i (Sl.frz d))) : Sw (sFz i) ρ Q := fun b => ⟨.nx, _, b, by unfold sFz; rw [e], q⟩
theorem kw_nil {Q : List Sl → Prop} (q : Q []) : Kw kNil ρ Q := fun b => ⟨[], b, rfl, q⟩
theorem kw_frz {Q : List Sl → Prop} {g : Ks} (h : Ew f ρ fun d => Kw g ρ fun ss => Q (.frz d :: ss)) : Kw (kFrz f g) ρ Q := fun b => by
  obtain ⟨d, b1, e1, h⟩ := h b
  obtain ⟨ds, b2, e2, q⟩ := h b1
  exact ⟨_, b2, by unfold kFrz; rw [e1]; simp only [e2], q⟩
theorem kw_new {Q : List Sl → Prop} {g : Ks} (h : Ew f ρ fun d => Kw g ρ fun ss => Q (.own d :: ss)) : Kw (kNew f g) ρ Q := fun b => by
  obtain ⟨d, b1, e1, h⟩ := h b
  obtain ⟨ds, b2, e2, q⟩ := h b1
  exact ⟨_, b2, by unfold kNew; rw [e1]; simp only [e2], q⟩
theorem sw_par {is : List Nat} {k : Ks} (h : Kw k ρ fun ss => Q .nx (setK ρ is ss)) : Sw (sPar is k) ρ Q := fun b => by
  obtain ⟨d, b1, e1, q⟩ := h b
  exact ⟨.nx, _, b1, by unfold sPar; rw [e1], q⟩
/-- for: I by the items done; E: what holds where it goes on -/
theorem sw_for {it : It} {g : Tg} (ds : List D) (I : Nat → Rho → Prop) (hi : Iw it ρ fun xs => xs = ds) (h0 : I 0 ρ)
    (hs : ∀ i d ρ1, ds[i]? = some d → I i ρ1 → ∃ ρ2, g d ρ1 = some ρ2 ∧ Sw s ρ2 fun fl ρ3 => match fl with | .nx => I (i + 1) ρ3 | .ct => I (i + 1) ρ3 | .bk => Q .nx ρ3 | .rt d => Q (.rt d) ρ3) (q : ∀ ρ1, I ds.length ρ1 → Q .nx ρ1) : Sw (sFor it g s) ρ Q := fun b => by
  obtain ⟨_, b1, e1, rfl⟩ := hi b
  rename_i ds
  have go : ∀ (n i : Nat) (ρ1 : Rho) (b : Bx), n = ds.length - i → i ≤ ds.length → I i ρ1 → ∃ fl ρ' b', forGo g s (ds.drop i) ρ1 b = some (fl, ρ', b') ∧ Q fl ρ' := by
    intro n
    induction n with
    | zero =>
      intro i ρ1 b hn hi r
      have : i = ds.length := by omega
      subst this
      exact ⟨.nx, ρ1, b, by rw [List.drop_length]; rfl, q _ r⟩
    | succ n ih =>
      intro i ρ1 b hn hi r
      have hlt : i < ds.length := by omega
      obtain ⟨ρ2, e1, h⟩ := hs i ds[i] ρ1 (List.getElem?_eq_getElem hlt) r
      obtain ⟨fl, ρ3, b2, e2, h⟩ := h b
      rw [List.drop_eq_getElem_cons hlt]
      cases fl with
      | nx =>
        obtain ⟨fl, ρ', b', e3, q'⟩ := ih (i + 1) ρ3 b2 (by omega) hlt h
        exact ⟨fl, ρ', b', by unfold forGo; simp only [e1, e2, e3], q'⟩
      | ct =>
        obtain ⟨fl, ρ', b', e3, q'⟩ := ih (i + 1) ρ3 b2 (by omega) hlt h
        exact ⟨fl, ρ', b', by unfold forGo; simp only [e1, e2, e3], q'⟩
      | bk => exact ⟨.nx, ρ3, b2, by unfold forGo; simp only [e1, e2], h⟩
      | rt d => exact ⟨.rt d, ρ3, b2, by unfold forGo; simp only [e1, e2], h⟩
  obtain ⟨fl, ρ', b', e2, q'⟩ := go _ 0 ρ b1 rfl (Nat.zero_le _) h0
  rw [List.drop_zero] at e2
  exact ⟨fl, ρ', b', by unfold sFor; rw [e1]; exact e2, q'⟩
/-- while: I by a measure -/
theorem sw_wh (n : Nat) (I : Nat → Rho → Prop) (hn : n < 100000) (h0 : I n ρ)
    (hs : ∀ m ρ1, I m ρ1 → Tw t ρ1 fun k => (k = false → Q .nx ρ1) ∧ (k = true → Sw s ρ1 fun fl ρ3 => match fl with | .nx => ∃ m', m' < m ∧ I m' ρ3 | .ct => ∃ m', m' < m ∧ I m' ρ3 | .bk => Q .nx ρ3 | .rt d => Q (.rt d) ρ3)) : Sw (sWh t s) ρ Q := fun b => by
  have go : ∀ (N m : Nat) (ρ1 : Rho) (b : Bx), m < N → I m ρ1 → ∃ fl ρ' b', whGo t s N ρ1 b = some (fl, ρ', b') ∧ Q fl ρ' := by
    intro N
    induction N with
    | zero => intro m ρ1 b h; omega
    | succ N ih =>
      intro m ρ1 b hm r
      obtain ⟨k, b1, e1, h1, h2⟩ := hs m ρ1 r b
      cases k with
      | false => exact ⟨.nx, ρ1, b1, by unfold whGo; simp only [e1], h1 rfl⟩
      | true =>
        obtain ⟨fl, ρ3, b2, e2, h⟩ := h2 rfl b1
        cases fl with
        | nx =>
          obtain ⟨m', hm', r'⟩ := h
          obtain ⟨fl, ρ', b', e3, q'⟩ := ih m' ρ3 b2 (by omega) r'
          exact ⟨fl, ρ', b', by unfold whGo; simp only [e1, e2, e3], q'⟩
        | ct =>
          obtain ⟨m', hm', r'⟩ := h
          obtain ⟨fl, ρ', b', e3, q'⟩ := ih m' ρ3 b2 (by omega) r'
          exact ⟨fl, ρ', b', by unfold whGo; simp only [e1, e2, e3], q'⟩
        | bk => exact ⟨.nx, ρ3, b2, by unfold whGo; simp only [e1, e2], h⟩
        | rt d => exact ⟨.rt d, ρ3, b2, by unfold whGo; simp only [e1, e2], h⟩
  exact go 100000 n ρ b hn h0
/-! ### changes in place -/
theorem mw_up {Q : D → Rho → Prop} (h : Ew f ρ fun d => Q d ρ) : Mw (mUp f) ρ Q := fun b => by
  obtain ⟨d, b1, e1, q⟩ := h b
  exact ⟨d, ρ, b1, by unfold mUp; rw [e1], q⟩
theorem maw_up {Q : List D → Rho → Prop} {ag : As} (h : Aw ag ρ fun d => Q d ρ) : MAw (mUpA ag) ρ Q := fun b => by
  obtain ⟨d, b1, e1, q⟩ := h b
  exact ⟨d, ρ, b1, by unfold mUpA; rw [e1], q⟩
theorem maw_one {Q : List D → Rho → Prop} {g : Mx} (h : Mw g ρ fun d ρ1 => Q [d] ρ1) : MAw (mOne g) ρ Q := fun b => by
  obtain ⟨d, ρ1, b1, e1, q⟩ := h b
  exact ⟨[d], ρ1, b1, by unfold mOne; rw [e1], q⟩
theorem maw_nil {Q : List D → Rho → Prop} (q : Q [] ρ) : MAw mNil ρ Q := fun b => ⟨[], ρ, b, rfl, q⟩
theorem mw_meth {Q : D → Rho → Prop} {i : Nat} {k : List D → List D → Option (D × List D)} {g : MAs} {xs0 : List D} (e0 : ρ[i]? = some (Sl.own (.lst xs0))) (h : MAw g ρ fun ds ρ1 => ∃ xs r ys, ρ1[i]? = some (Sl.own (.lst xs)) ∧ k xs ds = some (r, ys) ∧ Q r (ρ1.set i (.own (.lst ys)))) : Mw (mMeth i k g) ρ Q := fun b => by
  obtain ⟨ds, ρ1, b1, e1, xs, r, ys, e2, e3, q⟩ := h b
  exact ⟨r, _, b1, by unfold mMeth; rw [e0]; simp only [e1, e2, e3], q⟩
theorem sw_exprM {g : Mx} (h : Mw g ρ fun d ρ1 => Q .nx ρ1) : Sw (sExprM g) ρ Q := fun b => by
  obtain ⟨d, ρ1, b1, e1, q⟩ := h b
  exact ⟨.nx, _, b1, by unfold sExprM; rw [e1], q⟩
theorem sw_setM {g : Mx} {i : Nat} (h : Mw g ρ fun d ρ1 => Q .nx (ρ1.set i (.frz d))) : Sw (sSetM i g) ρ Q := fun b => by
  obtain ⟨d, ρ1, b1, e1, q⟩ := h b
  exact ⟨.nx, _, b1, by unfold sSetM; rw [e1], q⟩
theorem sw_asgM {g : Mx} {tg : Tg} (h : Mw g ρ fun d ρ1 => ∃ ρ2, tg d ρ1 = some ρ2 ∧ Q .nx ρ2) : Sw (sAsgM tg g) ρ Q := fun b => by
  obtain ⟨d, ρ1, b1, e1, ρ2, e2, q⟩ := h b
  exact ⟨.nx, _, b1, by unfold sAsgM; rw [e1]; simp only [e2], q⟩
theorem sw_store {i : Nat} (h : Ew f' ρ fun d => ∃ xs, ρ[i]? = some (Sl.own (.lst xs)) ∧ Ew f ρ fun z => ∃ k j, z = .int k ∧ L2.ixN xs.length k = some j ∧ Q .nx (ρ.set i (.own (.lst (xs.set j d))))) : Sw (sStore i f f') ρ Q := fun b => by
  obtain ⟨d, b1, e1, xs, e2, h⟩ := h b
  obtain ⟨z, b2, e3, k, j, rfl, e4, q⟩ := h b1
  exact ⟨.nx, _, b2, by unfold sStore; rw [e1]; simp only [e2, e3, e4], q⟩
theorem sw_augI {i : Nat} {k : Int → Int → Int} {x : Int} (e0 : ρ[i]? = some (Sl.frz (.int x))) (h : Ew f ρ fun d => ∃ y, d = .int y ∧ Q .nx (ρ.set i (.frz (.int (k x y))))) : Sw (sAugI i k f) ρ Q := fun b => by
  obtain ⟨d, b1, e1, y, rfl, q⟩ := h b
  exact ⟨.nx, _, b1, by unfold sAugI; rw [e0]; simp only [e1], q⟩
end
end Sv

set_option maxHeartbeats 1000000
/-! Pl2: operations on typed data. -/
namespace Sv
open PySem (Str PyData)

theorem OrW.of {o : Option D} {Q : D → Prop} {r : D} (e : o = some r) (q : Q r) : OrW o Q := ⟨r, e, q⟩
abbrev tI (xs : List Int) : D := .tup (xs.map .int)
abbrev lI (xs : List Int) : D := .lst (xs.map .int)

/-! ### sm -/
theorem plainL_iff : ∀ {ds : List D}, D.plainL ds = true ↔ ∀ d ∈ ds, d.plain = true
  | [] => by simp [D.plainL]
  | d :: ds => by rw [D.plainL, Bool.and_eq_true, plainL_iff]; simp
theorem depL_le {n : Nat} : ∀ {ds : List D}, D.depL ds ≤ n ↔ ∀ d ∈ ds, d.dep ≤ n
  | [] => by simp [D.depL]
  | d :: ds => by rw [D.depL, Nat.max_le, depL_le]; simp
theorem sm_of {d : D} (h1 : d.plain = true) (h2 : d.dep ≤ 50) : d.sm = true := by simp [D.sm, h1, h2]
theorem sm_int (i : Int) : (D.int i).sm = true := rfl
/-- an encoding: plain, of a depth, told apart by == -/
structure Enc {α : Type} [DecidableEq α] (e : α → D) (n : Nat) : Prop where
  plain : ∀ x, (e x).plain = true
  dep : ∀ x, (e x).dep ≤ n
  eqv : ∀ x y, PyData.eqv (e x).py (e y).py = decide (x = y)
theorem enc_int : Enc D.int 0 := ⟨fun _ => rfl, fun _ => Nat.le_refl _, fun x y => by simp only [D.py, PyData.eqv]; by_cases h : x = y <;> simp [h]⟩
theorem eqvAll_map {α : Type} [DecidableEq α] {e : α → D} (h : ∀ x y, PyData.eqv (e x).py (e y).py = decide (x = y)) : ∀ xs ys : List α, PyData.eqvAll (D.pyL (xs.map e)) (D.pyL (ys.map e)) = decide (xs = ys)
  | [], [] => rfl
  | [], _ :: _ => rfl
  | _ :: _, [] => rfl
  | x :: xs, y :: ys => by
    simp only [List.map_cons, D.pyL, PyData.eqvAll]
    rw [h x y, eqvAll_map h xs ys]
    by_cases h1 : x = y <;> by_cases h2 : xs = ys <;> simp [h1, h2]
theorem Enc.tup {α : Type} [DecidableEq α] {e : α → D} {n : Nat} (h : Enc e n) : Enc (fun xs : List α => D.tup (xs.map e)) (n + 1) := by
  refine ⟨fun xs => ?_, fun xs => ?_, fun xs ys => ?_⟩
  · simp only [D.plain]
    rw [plainL_iff]
    intro d hd
    obtain ⟨x, _, rfl⟩ := List.mem_map.mp hd
    exact h.plain x
  · simp only [D.dep]
    refine Nat.succ_le_succ (depL_le.mpr fun d hd => ?_)
    obtain ⟨x, _, rfl⟩ := List.mem_map.mp hd
    exact h.dep x
  · simp only [D.py, PyData.eqv]
    exact eqvAll_map h.eqv xs ys
theorem Enc.lst {α : Type} [DecidableEq α] {e : α → D} {n : Nat} (h : Enc e n) : Enc (fun xs : List α => D.lst (xs.map e)) (n + 1) := by
  refine ⟨fun xs => ?_, fun xs => ?_, fun xs ys => ?_⟩
  · simp only [D.plain]
    rw [plainL_iff]
    intro d hd
    obtain ⟨x, _, rfl⟩ := List.mem_map.mp hd
    exact h.plain x
  · simp only [D.dep]
    refine Nat.succ_le_succ (depL_le.mpr fun d hd => ?_)
    obtain ⟨x, _, rfl⟩ := List.mem_map.mp hd
    exact h.dep x
  · simp only [D.py, PyData.eqv]
    exact eqvAll_map h.eqv xs ys
theorem enc_tI : Enc tI 1 := enc_int.tup
theorem Enc.sm {α : Type} [DecidableEq α] {e : α → D} {n : Nat} (h : Enc e n) (hn : n ≤ 50) (x : α) : (e x).sm = true := sm_of (h.plain x) (Nat.le_trans (h.dep x) hn)
section
variable {Q : D → Prop}
/-! ### == of encoded data, in -/
theorem o_eqE {α : Type} [DecidableEq α] {e : α → D} {n : Nat} (h : Enc e n) {x y : α} (q : Q (.bl (decide (x = y)))) (hn : n ≤ 50 := by decide) : OrW (opEq (e x) (e y)) Q := by
  refine .of (r := .bl (decide (x = y))) ?_ q
  simp only [opEq, eqD, h.sm hn, and_self, if_true, Option.map_some, h.eqv]
theorem o_neE {α : Type} [DecidableEq α] {e : α → D} {n : Nat} (h : Enc e n) {x y : α} (q : Q (.bl (!decide (x = y)))) (hn : n ≤ 50 := by decide) : OrW (opNe (e x) (e y)) Q := by
  refine .of (r := .bl (!decide (x = y))) ?_ q
  simp only [opNe, eqD, h.sm hn, and_self, if_true, Option.map_some, h.eqv]
theorem o_eqI {x y : Int} (q : Q (.bl (decide (x = y)))) : OrW (opEq (.int x) (.int y)) Q := o_eqE enc_int q
theorem o_neI {x y : Int} (q : Q (.bl (!decide (x = y)))) : OrW (opNe (.int x) (.int y)) Q := o_neE enc_int q
theorem any_eqv {α : Type} [DecidableEq α] {e : α → D} (h : ∀ x y, PyData.eqv (e x).py (e y).py = decide (x = y)) (x : α) (ys : List α) : ((ys.map e).any fun z => PyData.eqv z.py (e x).py) = decide (x ∈ ys) := by
  induction ys with
  | nil => rfl
  | cons y ys ih =>
    rw [List.map_cons, List.any_cons, ih, h]
    by_cases h1 : y = x
    · simp [h1]
    · have h2 : ¬ x = y := fun z => h1 z.symm
      simp [h1, h2]
theorem inD_tup {α : Type} [DecidableEq α] {e : α → D} {n : Nat} (h : Enc e n) (hn : n ≤ 49) (x : α) (ys : List α) : inD (e x) (.tup (ys.map e)) = some (decide (x ∈ ys)) := by
  have h1 : (e x).sm = true := h.sm (by omega) x
  have h2 : (D.tup (ys.map e)).sm = true := h.tup.sm (by omega) ys
  simp only [inD, h1, h2, and_self, if_true, any_eqv h.eqv]
theorem inD_lst {α : Type} [DecidableEq α] {e : α → D} {n : Nat} (h : Enc e n) (hn : n ≤ 49) (x : α) (ys : List α) : inD (e x) (.lst (ys.map e)) = some (decide (x ∈ ys)) := by
  have h1 : (e x).sm = true := h.sm (by omega) x
  have h2 : (D.lst (ys.map e)).sm = true := h.lst.sm (by omega) ys
  simp only [inD, h1, h2, and_self, if_true, any_eqv h.eqv]
theorem o_inT {α : Type} [DecidableEq α] {e : α → D} {n : Nat} (h : Enc e n) {x : α} {ys : List α} (q : Q (.bl (decide (x ∈ ys)))) (hn : n ≤ 49 := by decide) : OrW (opIn (e x) (.tup (ys.map e))) Q :=
  .of (by rw [opIn, inD_tup h hn]; rfl) q
theorem o_ninT {α : Type} [DecidableEq α] {e : α → D} {n : Nat} (h : Enc e n) {x : α} {ys : List α} (q : Q (.bl (!decide (x ∈ ys)))) (hn : n ≤ 49 := by decide) : OrW (opNotIn (e x) (.tup (ys.map e))) Q :=
  .of (by rw [opNotIn, inD_tup h hn]; rfl) q
theorem o_inL {α : Type} [DecidableEq α] {e : α → D} {n : Nat} (h : Enc e n) {x : α} {ys : List α} (q : Q (.bl (decide (x ∈ ys)))) (hn : n ≤ 49 := by decide) : OrW (opIn (e x) (.lst (ys.map e))) Q :=
  .of (by rw [opIn, inD_lst h hn]; rfl) q
theorem o_ninL {α : Type} [DecidableEq α] {e : α → D} {n : Nat} (h : Enc e n) {x : α} {ys : List α} (q : Q (.bl (!decide (x ∈ ys)))) (hn : n ≤ 49 := by decide) : OrW (opNotIn (e x) (.lst (ys.map e))) Q :=
  .of (by rw [opNotIn, inD_lst h hn]; rfl) q
/-! ### < of numbers -/
theorem o_lt {x y : Int} (q : Q (.bl (decide (x < y)))) : OrW (opLt (.int x) (.int y)) Q := .of rfl q
theorem o_gt {x y : Int} (q : Q (.bl (decide (y < x)))) : OrW (opGt (.int x) (.int y)) Q := .of rfl q
theorem o_le {x y : Int} (q : Q (.bl (decide (x ≤ y)))) : OrW (opLe (.int x) (.int y)) Q := by
  refine .of (r := .bl (decide (x ≤ y))) ?_ q
  show some (D.bl (!decide (y < x))) = _
  by_cases h : y < x
  · have : ¬ x ≤ y := by omega
    simp [h, this]
  · have : x ≤ y := by omega
    simp [h, this]
theorem o_ge {x y : Int} (q : Q (.bl (decide (y ≤ x)))) : OrW (opGe (.int x) (.int y)) Q := by
  refine .of (r := .bl (decide (y ≤ x))) ?_ q
  show some (D.bl (!decide (x < y))) = _
  by_cases h : x < y
  · have : ¬ y ≤ x := by omega
    simp [h, this]
  · have : y ≤ x := by omega
    simp [h, this]
/-! ### len, all, any, sum -/
theorem o_lenT {ds : List D} (q : Q (.int ds.length)) : OrW (lenD [.tup ds]) Q := .of rfl q
theorem o_lenL {ds : List D} (q : Q (.int ds.length)) : OrW (lenD [.lst ds]) Q := .of rfl q
theorem boolsD_typed {α : Type} (p : α → Bool) : ∀ xs : List α, boolsD (xs.map fun x => .bl (p x)) = some (xs.map p)
  | [] => rfl
  | x :: xs => by rw [List.map_cons, boolsD, boolsD_typed p xs]; rfl
theorem intsD_typed {α : Type} (p : α → Int) : ∀ xs : List α, intsD (xs.map fun x => .int (p x)) = some (xs.map p)
  | [] => rfl
  | x :: xs => by rw [List.map_cons, intsD, intsD_typed p xs]; rfl
theorem o_all {α : Type} {p : α → Bool} {xs : List α} (q : Q (.bl (xs.all p))) : OrW (allD [.lst (xs.map fun x => .bl (p x))]) Q := by
  refine .of ?_ q
  simp only [allD, boolsD_typed, Option.map_some, List.all_map]
  rfl
theorem o_any {α : Type} {p : α → Bool} {xs : List α} (q : Q (.bl (xs.any p))) : OrW (anyD [.lst (xs.map fun x => .bl (p x))]) Q := by
  refine .of ?_ q
  simp only [anyD, boolsD_typed, Option.map_some, List.any_map]
  rfl
theorem o_sum {α : Type} {p : α → Int} {xs : List α} (q : Q (.int (xs.map p).sum)) : OrW (sumD [.lst (xs.map fun x => .int (p x))]) Q := by
  refine .of ?_ q
  simp only [sumD, intsD_typed, Option.map_some]
/-! ### subscripts -/
theorem atI_nat {α : Type} {xs : List α} {k : Nat} : L2.atI xs (k : Int) = xs[k]? := by
  unfold L2.atI L2.ixN
  by_cases h : k < xs.length
  · have h1 : (0 : Int) ≤ k := by omega
    have h2 : (k : Int) < xs.length := by omega
    simp [h1, h2]
  · have h1 : (0 : Int) ≤ k := by omega
    have h2 : ¬ (k : Int) < xs.length := by omega
    rw [List.getElem?_eq_none (by omega)]
    simp [h1, h2]
theorem atI_pos {α : Type} {xs : List α} {i : Int} (h : 0 ≤ i) : L2.atI xs i = xs[i.toNat]? := by
  have := atI_nat (xs := xs) (k := i.toNat)
  rwa [Int.toNat_of_nonneg h] at this
theorem o_ixT {α : Type} {e : α → D} {xs : List α} {i : Int} {x : α} (h : 0 ≤ i) (hx : xs[i.toNat]? = some x) (q : Q (e x)) : OrW (ixD (.tup (xs.map e)) (.int i)) Q :=
  .of (by rw [ixD, atI_pos h, List.getElem?_map, hx]; rfl) q
theorem o_ixL {α : Type} {e : α → D} {xs : List α} {i : Int} {x : α} (h : 0 ≤ i) (hx : xs[i.toNat]? = some x) (q : Q (e x)) : OrW (ixD (.lst (xs.map e)) (.int i)) Q :=
  .of (by rw [ixD, atI_pos h, List.getElem?_map, hx]; rfl) q
theorem o_ixTn {α : Type} {e : α → D} {xs : List α} {k : Nat} {x : α} (hx : xs[k]? = some x) (q : Q (e x)) : OrW (ixD (.tup (xs.map e)) (.int (k : Nat))) Q :=
  .of (by rw [ixD, atI_nat, List.getElem?_map, hx]; rfl) q
theorem o_ixLn {α : Type} {e : α → D} {xs : List α} {k : Nat} {x : α} (hx : xs[k]? = some x) (q : Q (e x)) : OrW (ixD (.lst (xs.map e)) (.int (k : Nat))) Q :=
  .of (by rw [ixD, atI_nat, List.getElem?_map, hx]; rfl) q
/-! ### slices -/
theorem cutD_map {α : Type} (e : α → D) (xs : List α) (lo hi : Option Int) : cutD (xs.map e) lo hi = ((xs.drop (HT.sIx xs.length 0 lo)).take (HT.sIx xs.length xs.length hi - HT.sIx xs.length 0 lo)).map e := by
  simp only [cutD, List.length_map, List.map_drop, List.map_take]
end
/-! ### zip, range, enumerate of typed data -/
theorem zipD_map {α β : Type} (e : α → D) (e' : β → D) : ∀ (xs : List α) (ys : List β), zipD (xs.map e) (ys.map e') = (xs.zip ys).map fun p => .tup [e p.1, e' p.2]
  | [], _ => by simp [zipD]
  | _ :: _, [] => by simp [zipD]
  | x :: xs, y :: ys => by simp only [List.map_cons, zipD, zipD_map e e' xs ys, List.zip_cons_cons]
theorem enumD_map {α : Type} (e : α → D) : ∀ (k : Nat) (xs : List α), enumD k (xs.map e) = (xs.zipIdx k).map fun p => .tup [.int (p.2 : Nat), e p.1]
  | _, [] => rfl
  | k, x :: xs => by simp only [List.map_cons, enumD, enumD_map e (k + 1) xs, List.zipIdx_cons]
theorem rangeD_nat {n : Nat} (h : n ≤ 16777216) : rangeD 0 (n : Int) = some ((List.range n).map fun k => .int (k : Nat)) := by
  unfold rangeD
  rw [if_pos (by refine ⟨?_, ?_, ?_, ?_, ?_⟩ <;> omega)]
  simp
theorem rangeD_neg {i : Int} (h : i ≤ 0) (h2 : -(2 ^ 62) ≤ i) : rangeD 0 i = some [] := by
  unfold rangeD
  rw [if_pos (by refine ⟨?_, ?_, ?_, ?_, ?_⟩ <;> omega)]
  have : (i - 0).toNat = 0 := by omega
  rw [this]; rfl
theorem rangeD_two {a b : Nat} (h : b ≤ 16777216) (ha : a ≤ 16777216) : rangeD (a : Int) (b : Int) = some ((List.range (b - a)).map fun k => .int ((a + k : Nat) : Int)) := by
  unfold rangeD
  rw [if_pos (by refine ⟨?_, ?_, ?_, ?_, ?_⟩ <;> omega)]
  have : ((b : Int) - (a : Int)).toNat = b - a := by omega
  rw [this]
  simp
end Sv
namespace Sv
open PySem (Str PyData)
/-! ### natural numbers -/
abbrev nE (k : Nat) : D := .int (k : Int)
abbrev tN (xs : List Nat) : D := .tup (xs.map nE)
abbrev lN (xs : List Nat) : D := .lst (xs.map nE)
theorem enc_nat : Enc nE 0 := ⟨fun _ => rfl, fun _ => Nat.le_refl _, fun x y => by simp only [D.py, PyData.eqv]; by_cases h : x = y <;> simp [h] <;> omega⟩
theorem enc_tN : Enc tN 1 := enc_nat.tup
theorem intsD_nat : ∀ xs : List Nat, intsD (xs.map nE) = some (xs.map fun k : Nat => (k : Int))
  | [] => rfl
  | x :: xs => by rw [List.map_cons, intsD, intsD_nat xs]; rfl
theorem erase_cast (a : Nat) : ∀ xs : List Nat, (xs.map fun k : Nat => (k : Int)).erase (a : Int) = (xs.erase a).map fun k : Nat => (k : Int)
  | [] => rfl
  | x :: xs => by
    by_cases h : x = a
    · subst h; simp
    · have h2 : ¬ ((x : Int) = (a : Int)) := by omega
      rw [List.map_cons, List.erase_cons_tail (by simpa using h2), List.erase_cons_tail (by simpa using h), List.map_cons, erase_cast a xs]
theorem kRem_nat {a : Nat} {xs : List Nat} (h : a ∈ xs) : kRem (xs.map nE) [nE a] = some (.non, (xs.erase a).map nE) := by
  have h1 : (a : Int) ∈ xs.map fun k : Nat => (k : Int) := List.mem_map.mpr ⟨a, h, rfl⟩
  simp only [kRem, intsD_nat, h1, if_true, erase_cast, List.map_map]
  rfl
theorem rlD_nat {n : Nat} (h : n ≤ 16777216) : rlD [.int (n : Int)] = some (lN (List.range n)) := by rw [rlD, rangeD_nat h]; rfl
theorem rtD_nat {n : Nat} (h : n ≤ 16777216) : rtD [.int (n : Int)] = some (tN (List.range n)) := by rw [rtD, rangeD_nat h]; rfl
theorem truth_list {α : Type} {e : α → D} {xs : List α} : truthD (.lst (xs.map e)) = some (!xs.isEmpty) := by
  cases xs <;> rfl
theorem iw_rangeN {ρ : Rho} {ag : As} {Q : List D → Prop} (n : Nat) (h : Aw ag ρ fun ds => ds = [.int (n : Int)] ∧ n ≤ 16777216 ∧ Q ((List.range n).map nE)) : Iw (iRange ag) ρ Q :=
  iw_range (h.mono fun ds ⟨e, hn, q⟩ => ⟨n, _, e, rangeD_nat hn, q⟩)
end Sv
namespace Sv
section
variable {Q : D → Prop}
theorem o_addI {x y : Int} (q : Q (.int (x + y))) : OrW (opAdd (.int x) (.int y)) Q := .of rfl q
theorem o_subI {x y : Int} (q : Q (.int (x - y))) : OrW (opSub (.int x) (.int y)) Q := .of rfl q
theorem o_tupL {xs : List D} (q : Q (.tup xs)) : OrW (tupleD [.lst xs]) Q := .of rfl q
theorem o_tupT {xs : List D} (q : Q (.tup xs)) : OrW (tupleD [.tup xs]) Q := .of rfl q
theorem o_listL {xs : List D} (q : Q (.lst xs)) : OrW (listD [.lst xs]) Q := .of rfl q
theorem o_listT {xs : List D} (q : Q (.lst xs)) : OrW (listD [.tup xs]) Q := .of rfl q
theorem o_negI {x : Int} (q : Q (.int (-x))) : OrW (opNeg (.int x)) Q := .of rfl q
theorem o_intI {x : Int} (q : Q (.int x)) : OrW (intD [.int x]) Q := .of rfl q
theorem o_addT {xs ys : List D} (h : xs.length + ys.length ≤ PySem.sizeLine) (q : Q (.tup (xs ++ ys))) : OrW (opAdd (.tup xs) (.tup ys)) Q := .of (by simp only [opAdd, h, if_true]) q
theorem o_addL {xs ys : List D} (h : xs.length + ys.length ≤ PySem.sizeLine) (q : Q (.lst (xs ++ ys))) : OrW (opAdd (.lst xs) (.lst ys)) Q := .of (by simp only [opAdd, h, if_true]) q
end
end Sv
namespace Sv
/-! ### forms at hand -/
theorem o_slT {Q : D → Prop} {xs : List D} {lo hi : Option Int} (q : Q (.tup (cutD xs lo hi))) : OrW (sliceD (.tup xs) lo hi) Q := .of rfl q
theorem o_slL {Q : D → Prop} {xs : List D} {lo hi : Option Int} (q : Q (.lst (cutD xs lo hi))) : OrW (sliceD (.lst xs) lo hi) Q := .of rfl q
theorem o_revT {Q : D → Prop} {xs : List D} (q : Q (.tup xs.reverse)) : OrW (revD (.tup xs)) Q := .of rfl q
theorem o_revL {Q : D → Prop} {xs : List D} (q : Q (.lst xs.reverse)) : OrW (revD (.lst xs)) Q := .of rfl q
theorem x_int {Q : Int → Prop} {j : Int} (q : Q j) : ∃ i, D.int j = .int i ∧ Q i := ⟨j, rfl, q⟩
theorem x_bl {Q : Bool → Prop} {j : Bool} (q : Q j) : ∃ i, D.bl j = .bl i ∧ Q i := ⟨j, rfl, q⟩
theorem x_tb {Q : Bool → Prop} {j : Bool} (q : Q j) : ∃ i, truthD (.bl j) = some i ∧ Q i := ⟨j, rfl, q⟩
theorem x_itT {Q : List D → Prop} {j : List D} (q : Q j) : ∃ i, itemsD (.tup j) = some i ∧ Q i := ⟨j, rfl, q⟩
theorem x_itL {Q : List D → Prop} {j : List D} (q : Q j) : ∃ i, itemsD (.lst j) = some i ∧ Q i := ⟨j, rfl, q⟩
theorem x_rt {Q : D → Prop} {j : D} (q : Q j) : ∃ i, Fl.rt j = .rt i ∧ Q i := ⟨j, rfl, q⟩
theorem x_chB {Q : Bool → Prop} {j : Bool} (q : Q j) : ∃ k, some (D.bl j) = some (.bl k) ∧ Q k := ⟨j, rfl, q⟩
theorem x_isNone {Q : D → Prop} {d : D} (q : Q (.bl (decide (d = .non)))) (h : ∀ n, d ≠ .tok n) : OrW (opIsN2 d .non) Q := by
  cases d with
  | tok n => exact absurd rfl (h n)
  | _ => exact ⟨_, rfl, by simpa using q⟩
end Sv

set_option maxHeartbeats 1000000
/-! Pl3: the defs that many laws share. -/
namespace Sv
open PySem (Str PyData)
local macro_rules | `(tactic| walk_at "w") => `(tactic| (repeat' (first | with_reducible (first | refine sw_seq ?_ | refine sw_set ?_ | refine sw_new ?_ | refine sw_asg ?_ | refine sw_rt ?_ | refine sw_ret ?_ | refine sw_if ?_ | refine sw_par ?_ | refine sw_nx ?_ | refine sw_exprM ?_ | refine kw_nil ?_ | refine kw_frz ?_ | refine kw_new ?_ | refine ew_con ?_ | refine ew_bin ?_ | refine ew_un ?_ | refine ew_tup ?_ | refine ew_lst ?_ | refine ew_fn ?_ | refine ew_call ?_ | refine ew_callO ?_ | refine ew_if ?_ | refine ew_not ?_ | refine ew_chain ?_ | refine ew_slice ?_ | refine ow_none ?_ | refine ow_some ?_ | refine tw_bl ?_ | refine tw_of ?_ | refine tw_not ?_ | refine tw_yes ?_ | refine aw_nil ?_ | refine aw_cons ?_ | refine iw_seq ?_ | refine iw_enum ?_ | refine iw_zip ?_) | refine ew_var rfl ?_ | refine ew_bor rfl ?_ | refine ew_borO rfl ?_ | refine o_eqI ?_ | refine o_neI ?_ | refine o_lt ?_ | refine o_gt ?_ | refine o_le ?_ | refine o_ge ?_ | refine o_all ?_ | refine o_any ?_ | refine o_sum ?_ | refine o_addI ?_ | refine o_subI ?_ | refine o_lenT ?_ | refine o_lenL ?_ | refine o_tupL ?_ | refine o_tupT ?_ | refine o_listL ?_ | refine o_listT ?_ | refine o_negI ?_ | refine o_intI ?_ | refine o_slT ?_ | refine o_slL ?_ | refine o_revT ?_ | refine o_revL ?_ | refine x_int ?_ | refine x_bl ?_ | refine x_tb ?_ | refine x_itT ?_ | refine x_itL ?_ | refine x_rt ?_)))
mutual
/-- good data -/
def gd : D → Bool
  | .non => true
  | .bl _ => true
  | .int _ => true
  | .str s => s.cps.all (· < 0x110000)
  | .tup xs => decide (xs.length ≤ 1000000) && gdL xs
  | .lst xs => decide (xs.length ≤ 1000000) && gdL xs
  | .dct _ => false
  | .tok _ => false
def gdL : List D → Bool
  | [] => true
  | d :: ds => gd d && gdL ds
end
theorem gdL_iff : ∀ {ds : List D}, gdL ds = true ↔ ∀ d ∈ ds, gd d = true
  | [] => by simp [gdL]
  | d :: ds => by rw [gdL, Bool.and_eq_true, gdL_iff]; simp
mutual
theorem gd_plain : ∀ d : D, gd d = true → d.plain = true
  | .non, _ => rfl
  | .bl _, _ => rfl
  | .int _, _ => rfl
  | .str s, h => by simpa [gd, D.plain] using h
  | .tup xs, h => by
    simp only [gd, Bool.and_eq_true] at h
    simp only [D.plain]
    exact gdL_plain xs h.2
  | .lst xs, h => by
    simp only [gd, Bool.and_eq_true] at h
    simp only [D.plain]
    exact gdL_plain xs h.2
  | .dct _, h => by simp [gd] at h
  | .tok _, h => by simp [gd] at h
theorem gdL_plain : ∀ d : List D, gdL d = true → D.plainL d = true
  | [], _ => rfl
  | d :: ds, h => by
    rw [gdL, Bool.and_eq_true] at h
    rw [D.plainL, gd_plain d h.1, gdL_plain ds h.2]; rfl
end
theorem gd_tup {xs : List D} : gd (.tup xs) = true ↔ xs.length ≤ 1000000 ∧ ∀ d ∈ xs, gd d = true := by
  rw [gd, Bool.and_eq_true, gdL_iff, decide_eq_true_iff]
theorem gd_lst {xs : List D} : gd (.lst xs) = true ↔ xs.length ≤ 1000000 ∧ ∀ d ∈ xs, gd d = true := by
  rw [gd, Bool.and_eq_true, gdL_iff, decide_eq_true_iff]
theorem gd_map {α : Type} {e : α → D} {xs : List α} (hn : xs.length ≤ 1000000) (h : ∀ x ∈ xs, gd (e x) = true) : gd (.tup (xs.map e)) = true := by
  rw [gd_tup, List.length_map]
  refine ⟨hn, fun d hd => ?_⟩
  obtain ⟨x, hx, rfl⟩ := List.mem_map.mp hd
  exact h x hx
theorem dep_tup {xs : List D} {n : Nat} (h : ∀ d ∈ xs, d.dep ≤ n) : (D.tup xs).dep ≤ n + 1 := by
  simp only [D.dep]; exact Nat.succ_le_succ (depL_le.mpr h)
theorem dep_mem {xs : List D} {d : D} (h : d ∈ xs) : d.dep < (D.tup xs).dep := by
  simp only [D.dep]
  exact Nat.lt_succ_of_le (depL_le.mp (Nat.le_refl _) d h)
theorem dep_memL {xs : List D} {d : D} (h : d ∈ xs) : d.dep < (D.lst xs).dep := by
  simp only [D.dep]
  exact Nat.lt_succ_of_le (depL_le.mp (Nat.le_refl _) d h)
theorem dep_map {α : Type} {e : α → D} {xs : List α} {n : Nat} (h : ∀ x ∈ xs, (e x).dep ≤ n) : (D.tup (xs.map e)).dep ≤ n + 1 :=
  dep_tup fun d hd => by obtain ⟨x, hx, rfl⟩ := List.mem_map.mp hd; exact h x hx

/-! ### is_number -/
abbrev s_is_number : SS := sRet (eAnd (eUn (fun d => (isT d .int).map .bl) (eBor 0)) (eAnd (eNot (eUn (fun d => (isT d .bool).map .bl) (eBor 0))) (eChain opLe opLe (eBor 1) (eBor 0) (eBor 2))))
def numB (v : D) (lo hi : Int) : Bool := match v with
  | .int i => decide (lo ≤ i ∧ i ≤ hi)
  | _ => false
theorem w_is_number {v : D} {lo hi : Int} {Q : D → Prop} (hv : v.plain = true) (q : Q (.bl (numB v lo hi))) : Fw (runF 3 s_is_number) [v, .int lo, .int hi] Q := by
  refine fw_rt ?_
  unfold s_is_number
  walk_at "w"
  refine ew_and ?_
  walk_at "w"
  cases v with
  | int i =>
    refine ⟨_, rfl, _, rfl, fun _ => ?_, fun e => by cases e⟩
    refine ew_and ?_
    walk_at "w"
    refine ⟨_, rfl, _, rfl, _, rfl, fun _ => ?_, fun e => by cases e⟩
    walk_at "w"
    refine ⟨_, by show some (D.bl (!decide (i < lo))) = some (D.bl _); rfl, fun e => ?_, fun e => ?_⟩
    · have : lo ≤ i := by simpa using e
      walk_at "w"
      have hb : numB (.int i) lo hi = decide (i ≤ hi) := by simp [numB, this]
      rw [hb] at q; exact q
    · have : ¬ lo ≤ i := by simpa using e
      have hb : numB (.int i) lo hi = false := by simp [numB, this]
      rw [hb] at q; exact q
  | bl k =>
    refine ⟨_, rfl, _, rfl, fun _ => ?_, fun e => by cases e⟩
    refine ew_and ?_
    walk_at "w"
    exact ⟨_, rfl, _, rfl, _, rfl, (fun e => by cases e), fun _ => q⟩
  | non => exact ⟨_, rfl, _, rfl, (fun e => by cases e), fun _ => q⟩
  | str _ => exact ⟨_, rfl, _, rfl, (fun e => by cases e), fun _ => q⟩
  | tup _ => exact ⟨_, rfl, _, rfl, (fun e => by cases e), fun _ => q⟩
  | lst _ => exact ⟨_, rfl, _, rfl, (fun e => by cases e), fun _ => q⟩
  | dct _ => cases hv
  | tok _ => cases hv
/-! ### _law_same -/
abbrev s_same (rec : Fn) : SS := sSeq (sIf (tOr (tAnd (tOf (eUn (fun d => (isT d .tuple).map .bl) (eBor 0))) (tOf (eUn (fun d => (isT d .tuple).map .bl) (eBor 1)))) (tAnd (tOf (eUn (fun d => (isT d .list).map .bl) (eBor 0))) (tOf (eUn (fun d => (isT d .list).map .bl) (eBor 1))))) (sRet (eAnd (eBin opEq (eFn lenD (aCons (eBor 0) aNil)) (eFn lenD (aCons (eBor 1) aNil))) (eFn allD (aCons (eLc (iRange (aCons (eFn lenD (aCons (eBor 0) aNil)) (aNil))) (gNm 2) (tYes') (eCall rec (aCons (eBin ixD (eBor 0) (eVar 2)) (aCons (eBin ixD (eBor 1) (eVar 2)) (aNil)))) [2]) aNil)))) (sNx)) (sSeq (sIf (tOr (tOf (eUn (fun d => (isT d .bool).map .bl) (eBor 0))) (tOf (eUn (fun d => (isT d .bool).map .bl) (eBor 1)))) (sRet (eAnd (eUn (fun d => (isT d .bool).map .bl) (eBor 0)) (eAnd (eUn (fun d => (isT d .bool).map .bl) (eBor 1)) (eBin opEq (eBor 0) (eBor 1))))) (sNx)) (sSeq (sIf (tOr (tAnd (tOf (eUn (fun d => (isT d .int).map .bl) (eBor 0))) (tOf (eUn (fun d => (isT d .int).map .bl) (eBor 1)))) (tAnd (tOf (eUn (fun d => (isT d .str).map .bl) (eBor 0))) (tOf (eUn (fun d => (isT d .str).map .bl) (eBor 1))))) (sRet (eBin opEq (eBor 0) (eBor 1))) (sNx)) (sRet (eAnd (eBin opIsN2 (eBor 0) (eCon .non)) (eBin opIsN2 (eBor 1) (eCon .non))))))
def f_same : Nat → Fn
  | 0 => noFn
  | n + 1 => runF 3 (s_same (f_same n))
theorem eq_get {xs ys : List D} (h : xs.length = ys.length) : decide (xs = ys) = (List.range xs.length).all fun k => decide (xs.getD k .non = ys.getD k .non) := by
  rw [Bool.eq_iff_iff]
  simp only [decide_eq_true_iff, List.all_eq_true, List.mem_range]
  refine ⟨fun e k _ => by rw [e], fun e => List.ext_getElem h fun k h1 h2 => ?_⟩
  have := e k h1
  rw [List.getD_eq_getElem?_getD, List.getD_eq_getElem?_getD, List.getElem?_eq_getElem h1, List.getElem?_eq_getElem h2] at this
  exact this
theorem w_same_items {rec : Fn} {xs ys : List D} {Q : D → Prop} {ρ : Rho} {w : List D → D} (hw0 : (w xs = .tup xs ∧ w ys = .tup ys) ∨ (w xs = .lst xs ∧ w ys = .lst ys)) (e0 : ρ = [Sl.frz (w xs), .frz (w ys), .emp]) (hx : xs.length ≤ 1000000)
    (hr : ∀ k, k < xs.length → ∀ R : D → Prop, xs.length = ys.length → R (.bl (decide (xs.getD k .non = ys.getD k .non))) → Fw rec [xs.getD k .non, ys.getD k .non] R) (q : Q (.bl (decide (xs = ys)))) :
    Ew (eAnd (eBin opEq (eFn lenD (aCons (eBor 0) aNil)) (eFn lenD (aCons (eBor 1) aNil))) (eFn allD (aCons (eLc (iRange (aCons (eFn lenD (aCons (eBor 0) aNil)) (aNil))) (gNm 2) (tYes') (eCall rec (aCons (eBin ixD (eBor 0) (eVar 2)) (aCons (eBin ixD (eBor 1) (eVar 2)) (aNil)))) [2]) aNil))) ρ Q := by
  subst e0
  have hlen : ∀ zs : List D, (w zs = .tup zs ∨ w zs = .lst zs) → lenD [w zs] = some (.int zs.length) := fun zs h => by rcases h with h | h <;> rw [h] <;> rfl
  have hix : ∀ zs : List D, (w zs = .tup zs ∨ w zs = .lst zs) → ∀ k : Nat, k < zs.length → ixD (w zs) (.int (k : Nat)) = some (zs.getD k .non) := fun zs h k hk => by
    have : L2.atI zs (k : Int) = some (zs.getD k .non) := by rw [atI_nat, List.getD_eq_getElem?_getD, List.getElem?_eq_getElem hk]; rfl
    rcases h with h | h <;> rw [h] <;> exact this
  have hwx : w xs = .tup xs ∨ w xs = .lst xs := by rcases hw0 with h | h; exact .inl h.1; exact .inr h.1
  have hwy : w ys = .tup ys ∨ w ys = .lst ys := by rcases hw0 with h | h; exact .inl h.2; exact .inr h.2
  refine ew_andB (x := decide (xs.length = ys.length)) (y := decide (xs = ys)) ?_ (fun e => ?_) ?_
  · walk_at "w"
    refine ⟨_, hlen xs hwx, ?_⟩
    walk_at "w"
    refine ⟨_, hlen ys hwy, ?_⟩
    walk_at "w"
    by_cases h : xs.length = ys.length
    · simp [h]
    · have : ¬ (xs.length : Int) = ys.length := by omega
      simp [h, this]
  · have hl : xs.length = ys.length := by simpa using e
    walk_at "w"
    refine ew_lcM (List.range xs.length) nE (fun k => .bl (decide (xs.getD k .non = ys.getD k .non))) ?_ ?_ ?_
    · refine iw_rangeN xs.length ?_
      walk_at "w"
      exact ⟨_, hlen xs hwx, aw_nil ⟨rfl, by omega, rfl⟩⟩
    · intro k hk
      refine ⟨_, rfl, ?_⟩
      have hk := List.mem_range.mp hk
      walk_at "w"
      refine ⟨_, hix xs hwx k hk, ?_⟩
      walk_at "w"
      refine ⟨_, hix ys hwy k (by omega), ?_⟩
      walk_at "w"
      exact hr k hk _ hl rfl
    · walk_at "w"
      rw [eq_get hl]
  · by_cases h : xs.length = ys.length
    · simpa [h] using q
    · have : ¬ xs = ys := fun z => h (by rw [z])
      simpa [h, this] using q
theorem sm_gd {d : D} (h : gd d = true) (hd : d.dep ≤ 50) : d.sm = true := sm_of (gd_plain d h) hd
theorem getD_mem {xs : List D} {k : Nat} (h : k < xs.length) : xs.getD k .non ∈ xs := by
  rw [List.getD_eq_getElem?_getD, List.getElem?_eq_getElem h]; exact List.getElem_mem h
theorem w_same : ∀ (n : Nat) {a b : D} {Q : D → Prop}, gd a = true → gd b = true → a.dep < n → Q (.bl (decide (a = b))) → Fw (f_same n) [a, b] Q
  | 0, _, _, _, _, _, h, _ => absurd h (by omega)
  | n + 1, a, b, Q, ga, gb, hd, q => by
    show Fw (runF 3 (s_same (f_same n))) [a, b] Q
    cases a with
    | dct _ => cases ga
    | tok _ => cases ga
    | non =>
      cases b with
      | dct _ => cases gb
      | tok _ => cases gb
      | non => exact fun bx => ⟨_, bx, rfl, q⟩
      | _ => exact fun bx => ⟨.bl false, bx, rfl, by simpa using q⟩
    | bl x =>
      cases b with
      | dct _ => cases gb
      | tok _ => cases gb
      | bl y =>
        have e : PyData.eqv (D.bl x).py (D.bl y).py = decide (D.bl x = D.bl y) := by
          simp only [D.py, PyData.eqv]; cases x <;> cases y <;> simp
        exact fun bx => ⟨.bl (PyData.eqv (D.bl x).py (D.bl y).py), bx, rfl, by rw [e]; exact q⟩
      | _ => exact fun bx => ⟨.bl false, bx, rfl, by simpa using q⟩
    | int x =>
      cases b with
      | dct _ => cases gb
      | tok _ => cases gb
      | int y =>
        have e : PyData.eqv (D.int x).py (D.int y).py = decide (D.int x = D.int y) := by
          simp only [D.py, PyData.eqv]; by_cases h : x = y <;> simp [h]
        exact fun bx => ⟨.bl (PyData.eqv (D.int x).py (D.int y).py), bx, rfl, by rw [e]; exact q⟩
      | _ => exact fun bx => ⟨.bl false, bx, rfl, by simpa using q⟩
    | str x =>
      cases b with
      | dct _ => cases gb
      | tok _ => cases gb
      | str y =>
        have e : opEq (.str x) (.str y) = some (.bl (decide (D.str x = D.str y))) := by
          simp only [opEq, eqD, sm_gd ga (by simp [D.dep]), sm_gd gb (by simp [D.dep]), and_self, if_true, Option.map_some, D.py, PyData.eqv]
          by_cases h : x = y
          · simp [h]
          · simp [h]
        refine fw_rt (sw_seq (sw_if (Tw.mono (Q := fun k => k = false) (fun bx => ⟨false, bx, rfl, rfl⟩) fun k ek => ⟨fun z => (by rw [ek] at z; cases z), fun _ => sw_nx ?_⟩)))
        refine sw_seq (sw_if (Tw.mono (Q := fun k => k = false) (fun bx => ⟨false, bx, rfl, rfl⟩) fun k ek => ⟨fun z => (by rw [ek] at z; cases z), fun _ => sw_nx ?_⟩))
        refine sw_seq (sw_if (Tw.mono (Q := fun k => k = true) (fun bx => ⟨true, bx, rfl, rfl⟩) fun k ek => ⟨fun _ => sw_ret ?_, fun z => (by rw [ek] at z; cases z)⟩))
        walk_at "w"
        exact ⟨_, e, _, rfl, q⟩
      | _ => exact fun bx => ⟨.bl false, bx, rfl, by simpa using q⟩
    | tup xs =>
      cases b with
      | dct _ => cases gb
      | tok _ => cases gb
      | tup ys =>
        rw [gd_tup] at ga gb
        refine fw_rt (sw_seq (sw_if (tw_orB (x := true) (y := true) ?_ (fun e => by cases e) ⟨fun _ => sw_ret ?_, fun e => by cases e⟩)))
        · exact fun bx => ⟨true, bx, rfl, rfl⟩
        · refine w_same_items (xs := xs) (ys := ys) (w := .tup) (.inl ⟨rfl, rfl⟩) rfl ga.1 (fun k hk R hl hR => ?_) ?_
          · have hm := getD_mem hk
            exact w_same n (ga.2 _ hm) (gb.2 _ (getD_mem (by omega))) (by have := dep_mem hm; omega) hR
          · refine ⟨_, rfl, ?_⟩
            have : decide (D.tup xs = D.tup ys) = decide (xs = ys) := by simp
            rw [this] at q; exact q
      | _ => exact fun bx => ⟨.bl false, bx, rfl, by simpa using q⟩
    | lst xs =>
      cases b with
      | dct _ => cases gb
      | tok _ => cases gb
      | lst ys =>
        rw [gd_lst] at ga gb
        refine fw_rt (sw_seq (sw_if (tw_orB (x := false) (y := true) ?_ (fun _ => ?_) ⟨fun _ => sw_ret ?_, fun e => by cases e⟩)))
        · exact fun bx => ⟨false, bx, rfl, rfl⟩
        · exact fun bx => ⟨true, bx, rfl, rfl⟩
        · refine w_same_items (xs := xs) (ys := ys) (w := .lst) (.inr ⟨rfl, rfl⟩) rfl ga.1 (fun k hk R hl hR => ?_) ?_
          · have hm := getD_mem hk
            exact w_same n (ga.2 _ hm) (gb.2 _ (getD_mem (by omega))) (by have := dep_memL hm; omega) hR
          · refine ⟨_, rfl, ?_⟩
            have : decide (D.lst xs = D.lst ys) = decide (xs = ys) := by simp
            rw [this] at q; exact q
      | _ => exact fun bx => ⟨.bl false, bx, rfl, by simpa using q⟩

/-! ### _law_bent -/
abbrev s_bent2 : SS := sSeq (sSet 2 (eCall drawF (aCons (eVar 0) (aCons (eCon (.int 8)) (aNil))))) (sSeq (sIf (tOf (eUn (fun d => (isT d .tuple).map .bl) (eBor 1))) (sRet (eBin ixD (eLst (aCons (eBin opAdd (eBor 1) (eSlice (eBor 1) none (some (eCon (.int 1))))) (aCons (eSlice (eBor 1) (some (eCon (.int 1))) none) (aCons (eUn revD (eBor 1)) (aCons (eBin opAdd (eBor 1) (eTup (aCons (eCon (.int 0)) (aNil)))) (aCons (eTup (aCons (eVar 1) (aNil))) (aCons (eSlice (eBor 1) none (some (eUn opNeg (eCon (.int 1))))) (aCons (eCon .non) (aCons (eBin opAdd (eBor 1) (eTup (aCons (eTup (aCons (eCon (.int 0)) (aCons (eCon (.int 1)) (aNil)))) (aNil)))) (aNil)))))))))) (eVar 2))) (sNx)) (sSeq (sIf (tAnd (tOf (eUn (fun d => (isT d .int).map .bl) (eBor 1))) (tNot (tOf (eUn (fun d => (isT d .bool).map .bl) (eBor 1))))) (sRet (eBin ixD (eLst (aCons (eBin opAdd (eBor 1) (eCon (.int 1))) (aCons (eBin opSub (eBor 1) (eCon (.int 1))) (aCons (eCon (.int 0)) (aCons (eBin opEq (eBor 1) (eCon (.int 1))) (aCons (eCon .non) (aCons (eFn strD (aCons (eBor 1) aNil)) (aCons (eTup (aCons (eVar 1) (aNil))) (aCons (eBin opAdd (eBor 1) (eCon (.int 2))) (aNil)))))))))) (eVar 2))) (sNx)) (sSeq (sIf (tOf (eUn (fun d => (isT d .str).map .bl) (eBor 1))) (sRet (eBin ixD (eLst (aCons (eBin opAdd (eBor 1) (eCon (.str "s"))) (aCons (eSlice (eBor 1) (some (eCon (.int 1))) none) (aCons (eCon (.str "jump")) (aCons (eCon (.str "open")) (aCons (eCon (.int 0)) (aCons (eCon .non) (aCons (eCon (.str "")) (aCons (eCon (.str "bent")) (aNil)))))))))) (eVar 2))) (sNx)) (sRet (eBin ixD (eLst (aCons (eCon (.int 0)) (aCons (eCon (.int 1)) (aCons (eCon .non) (aCons (eCon (.bl true)) (aCons (eCon (.str "a")) (aCons (eTup (aNil)) (aCons (eTup (aCons (eCon (.int 0)) (aNil))) (aCons (eCon (.str "point")) (aNil)))))))))) (eVar 2))))))
abbrev s_bent (rec : Fn) : SS := sSeq (sIf (tAnd (tOf (eUn (fun d => (isT d .tuple).map .bl) (eBor 1))) (tAnd (tBl (eBin opGt (eFn lenD (aCons (eBor 1) aNil)) (eCon (.int 0)))) (tBl (eBin opGt (eCall drawF (aCons (eVar 0) (aCons (eCon (.int 5)) (aNil)))) (eCon (.int 0)))))) (sSeq (sSet 3 (eCall drawF (aCons (eVar 0) (aCons (eFn lenD (aCons (eBor 1) aNil)) (aNil))))) (sRet (eBin opAdd (eBin opAdd (eSlice (eBor 1) none (some (eVar 3))) (eTup (aCons (eCall rec (aCons (eVar 0) (aCons (eBin ixD (eBor 1) (eVar 3)) (aNil)))) (aNil)))) (eSlice (eBor 1) (some (eBin opAdd (eBor 3) (eCon (.int 1)))) none)))) (sNx)) s_bent2
def f_bent : Nat → Fn
  | 0 => noFn
  | n + 1 => runF 4 (s_bent (f_bent n))
mutual
/-- what may be bent -/
def bs : D → Bool
  | .non => true
  | .bl _ => true
  | .int i => decide (i.natAbs ≤ 1000000000)
  | .str s => decide (s.length ≤ 1000) && s.cps.all (· < 0x110000)
  | .tup xs => decide (xs.length ≤ 1000) && bsL xs
  | _ => false
def bsL : List D → Bool
  | [] => true
  | d :: ds => bs d && bsL ds
end
theorem bsL_iff : ∀ {ds : List D}, bsL ds = true ↔ ∀ d ∈ ds, bs d = true
  | [] => by simp [bsL]
  | d :: ds => by rw [bsL, Bool.and_eq_true, bsL_iff]; simp
theorem bs_tup {xs : List D} : bs (.tup xs) = true ↔ xs.length ≤ 1000 ∧ ∀ d ∈ xs, bs d = true := by
  rw [bs, Bool.and_eq_true, bsL_iff, decide_eq_true_iff]
theorem bs_map {α : Type} {e : α → D} {xs : List α} (hn : xs.length ≤ 1000) (h : ∀ x ∈ xs, bs (e x) = true) : bs (.tup (xs.map e)) = true := by
  rw [bs_tup, List.length_map]
  refine ⟨hn, fun d hd => ?_⟩
  obtain ⟨x, hx, rfl⟩ := List.mem_map.mp hd
  exact h x hx
mutual
theorem bs_gd : ∀ d : D, bs d = true → gd d = true
  | .non, _ => rfl
  | .bl _, _ => rfl
  | .int _, _ => rfl
  | .str s, h => by simp only [bs, Bool.and_eq_true] at h; simpa [gd] using h.2
  | .tup xs, h => by
    simp only [bs, Bool.and_eq_true, decide_eq_true_iff] at h
    simp only [gd, Bool.and_eq_true, decide_eq_true_iff]
    exact ⟨by omega, bsL_gd xs h.2⟩
  | .lst _, h => by simp [bs] at h
  | .dct _, h => by simp [bs] at h
  | .tok _, h => by simp [bs] at h
theorem bsL_gd : ∀ d : List D, bsL d = true → gdL d = true
  | [], _ => rfl
  | d :: ds, h => by
    rw [bsL, Bool.and_eq_true] at h
    rw [gdL, bs_gd d h.1, bsL_gd ds h.2]; rfl
end
/-- one of a written list -/
theorem o_pick {xs : List D} {i : Int} {Q : D → Prop} (h0 : 0 ≤ i) (h1 : i < xs.length) (q : ∀ x ∈ xs, Q x) : OrW (ixD (.lst xs) (.int i)) Q := by
  have h : i.toNat < xs.length := by omega
  refine .of (r := xs[i.toNat]) ?_ (q _ (List.getElem_mem h))
  rw [ixD, atI_pos h0, List.getElem?_eq_getElem h]
theorem gd_str {z : Str} : gd (.str z) = true ↔ ∀ c ∈ z.cps.toList, c < 0x110000 := by
  simp only [gd, ← Array.all_toList, List.all_eq_true, decide_eq_true_iff]
theorem gd_lit (x : String) : gd (.str x) = true := by
  rw [gd_str]
  intro c hc
  have e : (x : Str) = ⟨(x.toList.map Char.toNat).toArray⟩ := PySem.Str.ofString_eq_toList x
  rw [e] at hc
  obtain ⟨d, _, rfl⟩ := List.mem_map.mp (by simpa using hc)
  have := d.valid
  show d.val.toNat < _
  rcases this with h | h
  · have : d.val.toNat < 0xd800 := h
    omega
  · exact h.2
theorem gd_app {x y : Str} (hx : gd (.str x) = true) (hy : gd (.str y) = true) : gd (.str (x ++ y)) = true := by
  rw [gd_str] at hx hy ⊢
  intro c hc
  have e : (x ++ y).cps.toList = x.cps.toList ++ y.cps.toList := by
    show (x.cps ++ y.cps).toList = _
    simp
  rw [e, List.mem_append] at hc
  rcases hc with h | h
  · exact hx c h
  · exact hy c h
theorem gd_cut {x : Str} (hx : gd (.str x) = true) (lo hi : Option Int) : gd (.str (L2.cutS x lo hi)) = true := by
  rw [gd_str] at hx ⊢
  intro c hc
  have e : (L2.cutS x lo hi).cps.toList = ((x.cps.toList.drop (HT.sIx x.length 0 lo)).take (HT.sIx x.length x.length hi - HT.sIx x.length 0 lo)) := by simp [L2.cutS]
  rw [e] at hc
  exact hx c (List.mem_of_mem_drop (List.mem_of_mem_take hc))
theorem cutD_sub {xs : List D} {lo hi : Option Int} : ∀ d ∈ cutD xs lo hi, d ∈ xs := fun d h => List.mem_of_mem_drop (List.mem_of_mem_take h)
theorem cutD_len (xs : List D) (lo hi : Option Int) : (cutD xs lo hi).length ≤ xs.length := by
  unfold cutD
  rw [List.length_take, List.length_drop]
  omega
theorem gd_cutD {xs : List D} {lo hi : Option Int} (h : gd (.tup xs) = true) : gd (.tup (cutD xs lo hi)) = true := by
  rw [gd_tup] at h ⊢
  exact ⟨Nat.le_trans (cutD_len _ _ _) h.1, fun d hd => h.2 d (cutD_sub d hd)⟩
theorem gd_appT {xs ys : List D} (hx : ∀ d ∈ xs, gd d = true) (hy : ∀ d ∈ ys, gd d = true) (hn : xs.length + ys.length ≤ 1000000) : gd (.tup (xs ++ ys)) = true := by
  rw [gd_tup, List.length_append]
  refine ⟨hn, fun d hd => ?_⟩
  rcases List.mem_append.mp hd with h | h
  · exact hx d h
  · exact hy d h
theorem dep_sub {xs ys : List D} (h : ∀ d ∈ xs, d ∈ ys) : (D.tup xs).dep ≤ (D.tup ys).dep := by
  simp only [D.dep]
  exact Nat.succ_le_succ (depL_le.mpr fun d hd => depL_le.mp (Nat.le_refl _) d (h d hd))
theorem depL_app {xs ys : List D} {n : Nat} (h1 : D.depL xs ≤ n) (h2 : D.depL ys ≤ n) : D.depL (xs ++ ys) ≤ n := by
  rw [depL_le] at h1 h2 ⊢
  intro d hd
  rcases List.mem_append.mp hd with h | h
  · exact h1 d h
  · exact h2 d h
theorem depL_sub {xs ys : List D} (h : ∀ d ∈ xs, d ∈ ys) : D.depL xs ≤ D.depL ys := depL_le.mpr fun d hd => depL_le.mp (Nat.le_refl _) d (h d hd)
/-- bent data: good, not much deeper, not much longer -/
def Bt (v w : D) : Prop := gd w = true ∧ w.dep ≤ v.dep + 2
theorem w_bent : ∀ (n : Nat) {v : D} {Q : D → Prop}, bs v = true → v.dep < n → (∀ w, Bt v w → Q w) → Fw (f_bent n) [.tok 0, v] Q
  | 0, _, _, _, h, _ => absurd h (by omega)
  | n + 1, v, Q, hv, hd, q => by
    show Fw (runF 4 (s_bent (f_bent n))) [.tok 0, v] Q
    refine fw_rt ?_
    have hs8 : ∀ (R : D → Prop), (∀ i : Int, 0 ≤ i → i < 8 → R (.int i)) → Fw drawF [.tok 0, .int 8] R := fun R h => fw_draw (by decide) (by decide) h
    cases v with
    | dct _ => cases hv
    | tok _ => cases hv
    | lst _ => cases hv
    | tup xs =>
      rw [bs_tup] at hv
      have hg : ∀ d ∈ xs, gd d = true := fun d hd => bs_gd d (hv.2 d hd)
      have hgt : gd (.tup xs) = true := gd_tup.mpr ⟨by omega, hg⟩
      have hcl : ∀ lo hi, (cutD xs lo hi).length ≤ 1000 := fun lo hi => Nat.le_trans (cutD_len _ _ _) hv.1
      have hcd : ∀ lo hi, D.depL (cutD xs lo hi) ≤ D.depL xs := fun lo hi => depL_sub cutD_sub
      have hsz : (1000000 : Nat) ≤ PySem.sizeLine := by rw [PySem.sizeLine_eq]; omega
      refine sw_seq (sw_if (tw_and (Tw.mono (Q := fun k => k = true) (fun bx => ⟨true, bx, rfl, rfl⟩) fun k ek => ⟨fun _ => ?_, fun z => (by rw [ek] at z; cases z)⟩)))
      have last : ∀ (ρ1 : Rho), ρ1 = [.frz (.tok 0), .frz (.tup xs), .emp, .emp] → Sw s_bent2 ρ1 (RtQ Q) := fun ρ1 e1 => by
        subst e1
        refine sw_seq (sw_set (ew_call (aw_cons (ew_var rfl (aw_cons (ew_con (aw_nil (hs8 _ fun i h0 h1 => ?_))))))))
        refine sw_seq (sw_if (Tw.mono (Q := fun k => k = true) (fun bx => ⟨true, bx, rfl, rfl⟩) fun k ek => ⟨fun _ => ?_, fun z => (by rw [ek] at z; cases z)⟩))
        have hc1 := hcl none (some 1)
        have hd1 := hcd none (some 1)
        walk_at "w"
        refine o_addT (by omega) ?_
        walk_at "w"
        refine o_addT (by simp only [List.length_cons, List.length_nil]; omega) ?_
        walk_at "w"
        refine o_addT (by simp only [List.length_cons, List.length_nil]; omega) ?_
        walk_at "w"
        refine o_pick h0 h1 fun x hx => ⟨_, rfl, q x ?_⟩
        simp only [List.mem_cons, List.not_mem_nil, or_false] at hx
        rcases hx with rfl | rfl | rfl | rfl | rfl | rfl | rfl | rfl
        · exact ⟨gd_appT hg (fun d hd => hg d (cutD_sub d hd)) (by omega), by simp only [D.dep]; have := depL_app (Nat.le_refl (D.depL xs)) hd1; omega⟩
        · exact ⟨gd_cutD hgt, by simp only [D.dep]; have := hcd (some 1) none; omega⟩
        · refine ⟨gd_tup.mpr ⟨by rw [List.length_reverse]; omega, fun d hd => hg d (List.mem_reverse.mp hd)⟩, ?_⟩
          simp only [D.dep]; have := depL_sub (xs := xs.reverse) (ys := xs) fun d hd => List.mem_reverse.mp hd; omega
        · refine ⟨gd_appT hg (fun d hd => by simp only [List.mem_cons, List.not_mem_nil, or_false] at hd; subst hd; rfl) (by simp only [List.length_cons, List.length_nil]; omega), ?_⟩
          simp only [D.dep]; have := depL_app (xs := xs) (ys := [.int 0]) (Nat.le_refl (D.depL xs)) (by simp [D.depL, D.dep]); omega
        · refine ⟨gd_tup.mpr ⟨by simp, fun d hd => by simp only [List.mem_cons, List.not_mem_nil, or_false] at hd; subst hd; exact hgt⟩, ?_⟩
          simp only [D.dep, D.depL]; omega
        · exact ⟨gd_cutD hgt, by simp only [D.dep]; have := hcd none (some (-1)); omega⟩
        · exact ⟨rfl, by simp [D.dep]⟩
        · refine ⟨gd_appT hg (fun d hd => by simp only [List.mem_cons, List.not_mem_nil, or_false] at hd; subst hd; rfl) (by simp only [List.length_cons, List.length_nil]; omega), ?_⟩
          simp only [D.dep]; have := depL_app (xs := xs) (ys := [.tup [.int 0, .int 1]]) (n := D.depL xs + 1) (by omega) (by simp [D.depL, D.dep]); omega
      refine tw_and ?_
      walk_at "w"
      refine ⟨fun e => ?_, fun _ => ⟨(fun z => by cases z), fun _ => sw_nx (last _ rfl)⟩⟩
      have hpos : 0 < xs.length := by have := of_decide_eq_true e; omega
      walk_at "w"
      refine fw_draw (by decide) (by decide) fun i0 h00 h01 => ?_
      walk_at "w"
      refine ⟨fun _ => ?_, fun _ => sw_nx (last _ rfl)⟩
      walk_at "w"
      refine fw_draw (n := (xs.length : Int)) (by omega) (by omega) fun at' h0 h1 => ?_
      have hat : at'.toNat < xs.length := by omega
      have hm : xs[at'.toNat] ∈ xs := List.getElem_mem hat
      walk_at "w"
      refine ⟨xs[at'.toNat], by rw [ixD, atI_pos h0, List.getElem?_eq_getElem hat], ?_⟩
      walk_at "w"
      refine w_bent n (hv.2 _ hm) (by have := dep_mem hm; omega) fun w hw => ?_
      have hc1 := hcl none (some at')
      have hc2 := hcl (some (at' + 1)) none
      have hdm := depL_le.mp (Nat.le_refl _) _ hm
      walk_at "w"
      refine o_addT (by simp only [List.length_cons, List.length_nil]; omega) ?_
      walk_at "w"
      refine o_addT (by simp only [List.length_append, List.length_cons, List.length_nil]; omega) ⟨_, rfl, q _ ⟨?_, ?_⟩⟩
      · refine gd_appT (fun d hd => ?_) (fun d hd => hg d (cutD_sub d hd)) (by simp only [List.length_append, List.length_cons, List.length_nil]; omega)
        rcases List.mem_append.mp hd with h | h
        · exact hg d (cutD_sub d h)
        · simp only [List.mem_cons, List.not_mem_nil, or_false] at h
          subst h; exact hw.1
      · have h1' := hcd none (some at')
        have h2' := hcd (some (at' + 1)) none
        have h3' : D.depL [w] ≤ D.depL xs + 2 := by have := hw.2; simp only [D.depL]; omega
        simp only [D.dep]
        have := depL_app (n := D.depL xs + 2) (depL_app (n := D.depL xs + 2) (by omega : D.depL (cutD xs none (some at')) ≤ _) h3') (by omega : D.depL (cutD xs (some (at' + 1)) none) ≤ _)
        omega
    | non =>
      refine sw_seq (sw_if (Tw.mono (Q := fun k => k = false) (fun bx => ⟨false, bx, rfl, rfl⟩) fun k ek => ⟨fun z => (by rw [ek] at z; cases z), fun _ => sw_nx ?_⟩))
      walk_at "w"
      refine hs8 _ fun i h0 h1 => ?_
      refine sw_seq (sw_if (Tw.mono (Q := fun k => k = false) (fun bx => ⟨false, bx, rfl, rfl⟩) fun k ek => ⟨fun z => (by rw [ek] at z; cases z), fun _ => sw_nx ?_⟩))
      refine sw_seq (sw_if (Tw.mono (Q := fun k => k = false) (fun bx => ⟨false, bx, rfl, rfl⟩) fun k ek => ⟨fun z => (by rw [ek] at z; cases z), fun _ => sw_nx ?_⟩))
      refine sw_seq (sw_if (Tw.mono (Q := fun k => k = false) (fun bx => ⟨false, bx, rfl, rfl⟩) fun k ek => ⟨fun z => (by rw [ek] at z; cases z), fun _ => sw_nx ?_⟩))
      walk_at "w"
      refine o_pick h0 h1 fun x hx => q x ?_
      simp only [List.mem_cons, List.not_mem_nil, or_false] at hx
      rcases hx with rfl | rfl | rfl | rfl | rfl | rfl | rfl | rfl <;> exact ⟨by decide +kernel, by simp [D.dep, D.depL]⟩
    | bl y =>
      refine sw_seq (sw_if (Tw.mono (Q := fun k => k = false) (fun bx => ⟨false, bx, rfl, rfl⟩) fun k ek => ⟨fun z => (by rw [ek] at z; cases z), fun _ => sw_nx ?_⟩))
      walk_at "w"
      refine hs8 _ fun i h0 h1 => ?_
      refine sw_seq (sw_if (Tw.mono (Q := fun k => k = false) (fun bx => ⟨false, bx, rfl, rfl⟩) fun k ek => ⟨fun z => (by rw [ek] at z; cases z), fun _ => sw_nx ?_⟩))
      refine sw_seq (sw_if (Tw.mono (Q := fun k => k = false) (fun bx => ⟨false, bx, rfl, rfl⟩) fun k ek => ⟨fun z => (by rw [ek] at z; cases z), fun _ => sw_nx ?_⟩))
      refine sw_seq (sw_if (Tw.mono (Q := fun k => k = false) (fun bx => ⟨false, bx, rfl, rfl⟩) fun k ek => ⟨fun z => (by rw [ek] at z; cases z), fun _ => sw_nx ?_⟩))
      walk_at "w"
      refine o_pick h0 h1 fun x hx => q x ?_
      simp only [List.mem_cons, List.not_mem_nil, or_false] at hx
      rcases hx with rfl | rfl | rfl | rfl | rfl | rfl | rfl | rfl <;> exact ⟨by decide +kernel, by simp [D.dep, D.depL]⟩
    | int z =>
      have hz : z.natAbs ≤ 1000000000 := by simpa [bs] using hv
      refine sw_seq (sw_if (Tw.mono (Q := fun k => k = false) (fun bx => ⟨false, bx, rfl, rfl⟩) fun k ek => ⟨fun z => (by rw [ek] at z; cases z), fun _ => sw_nx ?_⟩))
      walk_at "w"
      refine hs8 _ fun i h0 h1 => ?_
      refine sw_seq (sw_if (Tw.mono (Q := fun k => k = false) (fun bx => ⟨false, bx, rfl, rfl⟩) fun k ek => ⟨fun z => (by rw [ek] at z; cases z), fun _ => sw_nx ?_⟩))
      refine sw_seq (sw_if (Tw.mono (Q := fun k => k = true) (fun bx => ⟨true, bx, rfl, rfl⟩) fun k ek => ⟨fun _ => ?_, fun z => (by rw [ek] at z; cases z)⟩))
      have hlog : z.natAbs.log2 < 1920 := by
        by_cases hz0 : z.natAbs = 0
        · rw [hz0]; decide
        · rw [Nat.log2_lt hz0]
          exact Nat.lt_of_le_of_lt hz (by decide)
      walk_at "w"
      refine ⟨.str (toString z : String), by rw [strD, if_pos hlog], ?_⟩
      walk_at "w"
      refine o_pick h0 h1 fun x hx => ⟨_, rfl, q x ?_⟩
      simp only [List.mem_cons, List.not_mem_nil, or_false] at hx
      rcases hx with rfl | rfl | rfl | rfl | rfl | rfl | rfl | rfl
      · exact ⟨rfl, by simp [D.dep]⟩
      · exact ⟨rfl, by simp [D.dep]⟩
      · exact ⟨rfl, by simp [D.dep]⟩
      · exact ⟨rfl, by simp [D.dep]⟩
      · exact ⟨rfl, by simp [D.dep]⟩
      · exact ⟨gd_lit _, by simp [D.dep]⟩
      · exact ⟨rfl, by simp [D.dep, D.depL]⟩
      · exact ⟨rfl, by simp [D.dep]⟩
    | str z =>
      have hz : z.length ≤ 1000 := by simp only [bs, Bool.and_eq_true, decide_eq_true_iff] at hv; exact hv.1
      have hgz : gd (.str z) = true := bs_gd _ hv
      have hsz : (1000000 : Nat) ≤ PySem.sizeLine := by rw [PySem.sizeLine_eq]; omega
      refine sw_seq (sw_if (Tw.mono (Q := fun k => k = false) (fun bx => ⟨false, bx, rfl, rfl⟩) fun k ek => ⟨fun z => (by rw [ek] at z; cases z), fun _ => sw_nx ?_⟩))
      walk_at "w"
      refine hs8 _ fun i h0 h1 => ?_
      refine sw_seq (sw_if (Tw.mono (Q := fun k => k = false) (fun bx => ⟨false, bx, rfl, rfl⟩) fun k ek => ⟨fun z => (by rw [ek] at z; cases z), fun _ => sw_nx ?_⟩))
      refine sw_seq (sw_if (Tw.mono (Q := fun k => k = false) (fun bx => ⟨false, bx, rfl, rfl⟩) fun k ek => ⟨fun z => (by rw [ek] at z; cases z), fun _ => sw_nx ?_⟩))
      refine sw_seq (sw_if (Tw.mono (Q := fun k => k = true) (fun bx => ⟨true, bx, rfl, rfl⟩) fun k ek => ⟨fun _ => ?_, fun z => (by rw [ek] at z; cases z)⟩))
      walk_at "w"
      refine ⟨_, by
        show opAdd (.str z) (.str ("s" : Str)) = some (.str (z ++ ("s" : Str)))
        have : ("s" : Str).length = 1 := by decide +kernel
        simp only [opAdd]
        rw [if_pos (by rw [this]; omega)], ?_⟩
      walk_at "w"
      refine ⟨.str (L2.cutS z (some 1) none), by simp only [sliceD]; rw [if_pos (by omega)], ?_⟩
      walk_at "w"
      refine o_pick h0 h1 fun x hx => ⟨_, rfl, q x ?_⟩
      simp only [List.mem_cons, List.not_mem_nil, or_false] at hx
      rcases hx with rfl | rfl | rfl | rfl | rfl | rfl | rfl | rfl
      · exact ⟨gd_app hgz (gd_lit _), by simp [D.dep]⟩
      · exact ⟨gd_cut hgz _ _, by simp [D.dep]⟩
      · exact ⟨gd_lit _, by simp [D.dep]⟩
      · exact ⟨gd_lit _, by simp [D.dep]⟩
      · exact ⟨rfl, by simp [D.dep]⟩
      · exact ⟨rfl, by simp [D.dep]⟩
      · exact ⟨gd_lit _, by simp [D.dep]⟩
      · exact ⟨gd_lit _, by simp [D.dep]⟩
end Sv

set_option maxHeartbeats 1000000
/-! Pl4: numbers in tuples, sorted. -/
namespace Sv
open PySem (Str PyData)
/-! ### indices -/
def idxB (n : Nat) (v : D) : Bool := match v with
  | .tup vs => vs.all fun d => numB d 0 ((n : Int) - 1)
  | _ => false
def nats : D → List Nat
  | .tup vs => vs.map fun d => match d with | .int i => i.toNat | _ => 0
  | _ => []
theorem numB_nat {d : D} {n : Nat} (h : numB d 0 ((n : Int) - 1) = true) : ∃ k : Nat, d = nE k ∧ k < n := by
  cases d with
  | int i =>
    simp only [numB, decide_eq_true_iff] at h
    exact ⟨i.toNat, by show D.int i = D.int (i.toNat : Int); rw [Int.toNat_of_nonneg h.1], by omega⟩
  | _ => cases h
theorem idx_of {n : Nat} {v : D} (h : idxB n v = true) : v = tN (nats v) ∧ ∀ k ∈ nats v, k < n := by
  cases v with
  | tup vs =>
    simp only [idxB, List.all_eq_true] at h
    refine ⟨?_, fun k hk => ?_⟩
    · simp only [tN, nats, List.map_map]
      congr 1
      conv => lhs; rw [← List.map_id vs]
      refine List.map_congr_left fun d hd => ?_
      obtain ⟨k, rfl, _⟩ := numB_nat (h d hd)
      simp
    · obtain ⟨d, hd, rfl⟩ := List.mem_map.mp hk
      obtain ⟨k, rfl, hk2⟩ := numB_nat (h d hd)
      simpa using hk2
  | _ => cases h
theorem nats_tN (ks : List Nat) : nats (tN ks) = ks := by simp [nats, tN, Function.comp_def]
theorem idxB_tN {n : Nat} {ks : List Nat} : idxB n (tN ks) = ks.all fun k => decide (k < n) := by
  simp only [idxB, tN, List.all_map]
  congr 1
  funext k
  simp only [Function.comp, nE, numB]
  by_cases h : k < n
  · have : (0 : Int) ≤ k ∧ (k : Int) ≤ n - 1 := by omega
    simp [h, this]
  · have : ¬ ((0 : Int) ≤ k ∧ (k : Int) ≤ n - 1) := by omega
    rw [decide_eq_false this, decide_eq_false h]
/-! ### sorted -/
theorem sortOk_nat (ks : List Nat) : sortOk (ks.map nE) = true := by
  simp only [sortOk, List.all_map, Bool.and_eq_true, Bool.or_eq_true, List.all_eq_true, Function.comp]
  exact ⟨⟨fun _ _ => rfl, fun _ _ _ _ => by simp [D.py, PySem.W.alike]⟩, .inr fun _ _ => trivial⟩
theorem sortL_mem {xs : List D} {d : D} : d ∈ sortL xs ↔ d ∈ xs := by
  unfold sortL
  exact (List.mergeSort_perm xs _).mem_iff
theorem sm_sortL {ks : List Nat} : (D.lst (sortL (ks.map nE))).sm = true := by
  refine sm_of ?_ ?_
  · simp only [D.plain]
    rw [plainL_iff]
    intro d hd
    rw [sortL_mem] at hd
    obtain ⟨k, _, rfl⟩ := List.mem_map.mp hd
    rfl
  · simp only [D.dep]
    have : D.depL (sortL (ks.map nE)) ≤ 0 := depL_le.mpr fun d hd => by
      rw [sortL_mem] at hd
      obtain ⟨k, _, rfl⟩ := List.mem_map.mp hd
      exact Nat.le_refl _
    omega
/-- sorted(ks) == list(range(n)) -/
def srtB (ks : List Nat) (n : Nat) : Bool := PyData.eqv (D.lst (sortL (ks.map nE))).py (lN (List.range n)).py
theorem o_sortT {ks : List Nat} {Q : D → Prop} (q : Q (.lst (sortL (ks.map nE)))) : OrW (sortedD [tN ks]) Q := .of (by simp only [sortedD, tN, sortOk_nat, if_true]) q
theorem o_eqSrt {ks : List Nat} {n : Nat} {Q : D → Prop} (q : Q (.bl (srtB ks n))) : OrW (opEq (.lst (sortL (ks.map nE))) (lN (List.range n))) Q :=
  .of (by simp only [opEq, eqD, sm_sortL, enc_nat.lst.sm (by decide) (List.range n), and_self, if_true, Option.map_some]; rfl) q
theorem o_neSrt {ks : List Nat} {n : Nat} {Q : D → Prop} (q : Q (.bl (!srtB ks n))) : OrW (opNe (.lst (sortL (ks.map nE))) (lN (List.range n))) Q :=
  .of (by simp only [opNe, eqD, sm_sortL, enc_nat.lst.sm (by decide) (List.range n), and_self, if_true, Option.map_some]; rfl) q
/-- all([p(x) for x in value]) of any tuple -/
theorem iw_tup {ρ : Rho} {f : Ex} {Q : List D → Prop} {vs : List D} (h : Ew f ρ fun d => d = .tup vs) (q : Q vs) : Iw (iSeq f) ρ Q := iw_seq (h.mono fun d e => ⟨vs, by rw [e]; rfl, q⟩)
end Sv
namespace Sv
open PySem (Str PyData)
/-! ### lists of data of a kind -/
theorem sw_forV {ρ : Rho} {Q : Fl → Rho → Prop} {s : SS} {it : It} {g : Tg} (V : D → Prop) (I : Rho → Prop) (hi : Iw it ρ fun ds => ∀ d ∈ ds, V d) (h0 : I ρ)
    (hs : ∀ d ρ1, V d → I ρ1 → ∃ ρ2, g d ρ1 = some ρ2 ∧ Sw s ρ2 fun fl ρ3 => match fl with | .nx => I ρ3 | .ct => I ρ3 | .bk => Q .nx ρ3 | .rt d => Q (.rt d) ρ3) (q : ∀ ρ1, I ρ1 → Q .nx ρ1) : Sw (sFor it g s) ρ Q := fun b => by
  obtain ⟨ds, b1, e1, hv⟩ := hi b
  have h := sw_for (it := fun _ b => some (ds, b)) (g := g) (s := s) (Q := Q) (ρ := ρ) ds (fun _ ρ => I ρ) (fun b => ⟨ds, b, rfl, rfl⟩) h0 (fun i d ρ1 hd hI => hs d ρ1 (hv d (List.mem_of_getElem? hd)) hI) fun ρ1 h => q ρ1 h
  obtain ⟨fl, ρ', b', e2, q'⟩ := h b1
  exact ⟨fl, ρ', b', by unfold sFor at e2 ⊢; rw [e1]; exact e2, q'⟩
theorem ew_lcV {ρ : Rho} {Q : D → Prop} {f : Ex} {it : It} {g : Tg} {vs : List Nat} (V : D → Prop) (ds : List D) (hi : Iw it ρ fun xs => xs = ds)
    (hs : ∀ d ∈ ds, ∃ ρ1, g d (wipeR ρ vs) = some ρ1 ∧ Ew f ρ1 V) (q : ∀ rs : List D, rs.length = ds.length → (∀ d ∈ rs, V d) → Q (.lst rs)) : Ew (eLc it g tYes' f vs) ρ Q :=
  ew_lcI ds (fun i acc => acc.length = i ∧ ∀ d ∈ acc, V d) hi ⟨rfl, by simp⟩ (fun i d acc e r => by
    obtain ⟨ρ1, e1, h⟩ := hs d (List.mem_of_getElem? e)
    refine ⟨ρ1, e1, tw_yes ⟨fun _ => h.mono fun z hz => ⟨by simp [r.1], fun d' hd => ?_⟩, fun e => by cases e⟩⟩
    rcases List.mem_append.mp hd with h | h
    · exact r.2 d' h
    · simp at h; subst h; exact hz) fun acc r => q acc r.1 r.2
theorem o_neB {a b : Bool} {Q : D → Prop} (q : Q (.bl (a != b))) : OrW (opNe (.bl a) (.bl b)) Q := .of (by cases a <;> cases b <;> rfl) q
theorem o_eqB {a b : Bool} {Q : D → Prop} (q : Q (.bl (a == b))) : OrW (opEq (.bl a) (.bl b)) Q := .of (by cases a <;> cases b <;> rfl) q
/-- data that are asked about -/
def Vd (v : D) : Prop := gd v = true ∧ v.dep ≤ 12
end Sv

set_option maxHeartbeats 1000000
namespace K83
open Sv
open PySem (Str PyData)
local macro_rules | `(tactic| walk_at "w") => `(tactic| (repeat' (first | with_reducible (first | refine sw_seq ?_ | refine sw_set ?_ | refine sw_new ?_ | refine sw_asg ?_ | refine sw_rt ?_ | refine sw_ret ?_ | refine sw_if ?_ | refine sw_par ?_ | refine sw_nx ?_ | refine sw_exprM ?_ | refine kw_nil ?_ | refine kw_frz ?_ | refine kw_new ?_ | refine ew_con ?_ | refine ew_bin ?_ | refine ew_un ?_ | refine ew_tup ?_ | refine ew_lst ?_ | refine ew_fn ?_ | refine ew_call ?_ | refine ew_callO ?_ | refine ew_if ?_ | refine ew_not ?_ | refine ew_chain ?_ | refine ew_slice ?_ | refine ow_none ?_ | refine ow_some ?_ | refine tw_bl ?_ | refine tw_of ?_ | refine tw_not ?_ | refine tw_yes ?_ | refine aw_nil ?_ | refine aw_cons ?_ | refine iw_seq ?_ | refine iw_enum ?_ | refine iw_zip ?_) | refine ew_var rfl ?_ | refine ew_bor rfl ?_ | refine ew_borO rfl ?_ | refine o_eqI ?_ | refine o_neI ?_ | refine o_lt ?_ | refine o_gt ?_ | refine o_le ?_ | refine o_ge ?_ | refine o_all ?_ | refine o_any ?_ | refine o_sum ?_ | refine o_addI ?_ | refine o_subI ?_ | refine o_lenT ?_ | refine o_lenL ?_ | refine o_tupL ?_ | refine o_tupT ?_ | refine o_listL ?_ | refine o_listT ?_ | refine o_negI ?_ | refine o_intI ?_ | refine o_slT ?_ | refine o_slL ?_ | refine o_revT ?_ | refine o_revL ?_ | refine x_int ?_ | refine x_bl ?_ | refine x_tb ?_ | refine x_itT ?_ | refine x_itL ?_ | refine x_rt ?_)))
abbrev Row := List Int
def eL (F : Row) (H N : List Row) : D := .tup [tI F, .tup (H.map tI), .tup (N.map tI)]
def fits (n f : Row) : Bool := (n.zip f).all fun p => decide (p.1 ≤ p.2)
def addR (f r : Row) : Row := (f.zip r).map fun p => p.1 + p.2
theorem w_fits {n f : Row} {Q : D → Prop} (q : Q (.bl (fits n f))) : Fw f_fits [tI n, tI f] Q := by
  refine fw_rt ?_
  walk_at "w"
  refine ew_lcM (n.zip f) (fun p => .tup [.int p.1, .int p.2]) (fun p => .bl (decide (p.1 ≤ p.2))) ?_ ?_ ?_
  · walk_at "w"
    exact zipD_map _ _ _ _
  · intro x _
    refine ⟨_, rfl, ?_⟩
    walk_at "w"
    rfl
  · walk_at "w"
    exact q
theorem w_added {n f : Row} {Q : D → Prop} (q : Q (tI (addR n f))) : Fw f_added_to [tI n, tI f] Q := by
  refine fw_rt ?_
  walk_at "w"
  refine ew_lcM (n.zip f) (fun p => .tup [.int p.1, .int p.2]) (fun p => .int (p.1 + p.2)) ?_ ?_ ?_
  · walk_at "w"
    exact zipD_map _ _ _ _
  · intro x _
    refine ⟨_, rfl, ?_⟩
    walk_at "w"
    rfl
  · walk_at "w"
    rw [addR, tI, List.map_map] at q
    exact q
def able (N : List Row) (f : Row) (left : List Nat) : List Nat := left.filter fun h => fits (N.getD h []) f
def greedy (H N : List Row) : Nat → List Nat → Row → List Nat → Bool × List Nat
  | 0, left, _, _ => (false, left)
  | m + 1, left, f, ord => match left with
    | [] => (true, ord)
    | _ :: _ => match able N f left with
      | [] => (false, left)
      | a :: _ => greedy H N m (left.erase a) (addR f (H.getD a [])) (ord ++ [a])
def sword (g : Bool × List Nat) : D := .tup [.str (if g.1 then "order" else "stuck"), tN g.2]
theorem w_safe {F : Row} {H N : List Row} {Q : D → Prop} (hl : H.length = N.length) (hn : H.length ≤ 100) (q : Q (sword (greedy H N (H.length + 1) (List.range H.length) F []))) : Fw f_safe_order [eL F H N] Q := by
  refine fw_rt ?_
  walk_at "w"
  refine ⟨_, rfl, ?_⟩
  walk_at "w"
  refine ⟨_, rlD_nat (by rw [List.length_map]; omega), ?_⟩
  walk_at "w"
  rw [List.length_map]
  refine sw_wh (H.length) (fun m ρ => ∃ left ord f x6 x7, ρ = [Sl.frz (eL F H N), .frz (tI f), .frz (.tup (H.map tI)), .frz (.tup (N.map tI)), .own (lN left), .own (lN ord), x6, x7] ∧ left.length = m ∧ ord.length + m = H.length ∧ (∀ k ∈ left, k < H.length) ∧
    greedy H N (m + 1) left f ord = greedy H N (H.length + 1) (List.range H.length) F []) (by omega) ⟨List.range H.length, [], F, .emp, .emp, rfl, by simp, by simp, by simp, by rfl⟩ ?_
  rintro m _ ⟨left, ord, f, x6, x7, rfl, hm, ho, hk, hg⟩
  walk_at "w"
  refine ⟨fun e => ?_, fun e => ?_⟩
  · have : left = [] := by simpa using e
    subst this
    walk_at "w"
    have hg2 : greedy H N (m + 1) [] f ord = (true, ord) := rfl
    rw [← hg, hg2] at q
    exact q
  · walk_at "w"
    refine ew_lc left nE (fun h => fits (N.getD h []) f) nE (iw_seq (ew_borO rfl ⟨_, rfl, rfl⟩)) (fun x hx => ⟨_, rfl, ?_⟩) ?_
    · have hx2 : x < N.length := by rw [← hl]; exact hk x hx
      have hx3 : N[x]? = some N[x] := List.getElem?_eq_getElem hx2
      walk_at "w"
      refine o_ixTn (e := tI) hx3 ?_
      walk_at "w"
      refine w_fits ?_
      walk_at "w"
      refine ⟨?_, fun _ => ?_⟩
      · show fits N[x] f = fits (N.getD x []) f
        rw [List.getD_eq_getElem?_getD, hx3]; rfl
      · walk_at "w"
        rfl
    · walk_at "w"
      refine ⟨fun e2 => ?_, fun e2 => ?_⟩
      · have ha : able N f left = [] := by simpa [able] using e2
        walk_at "w"
        have hg2 : greedy H N (m + 1) left f ord = (false, left) := by
          cases left with
          | nil => cases e
          | cons y ys => rw [greedy, ha]
        rw [← hg, hg2] at q
        exact q
      · cases ha : able N f left with
        | nil => rw [able] at ha; rw [ha] at e2; cases e2
        | cons a rest =>
          have ham : a ∈ left := by
            have : a ∈ able N f left := by rw [ha]; exact List.mem_cons_self
            exact (List.mem_filter.mp this).1
          have hax : a < H.length := hk a ham
          have hH : H[a]? = some H[a] := List.getElem?_eq_getElem hax
          have ha' : left.filter (fun h => fits (N.getD h []) f) = a :: rest := ha
          rw [ha']
          have hlm : left.length ≤ 100 := by omega
          walk_at "w"
          refine mw_meth (xs0 := ord.map nE) rfl (maw_one (mw_up ?_))
          walk_at "w"
          refine o_ixLn (e := nE) (k := 0) (x := a) rfl ⟨_, _, _, rfl, by rw [kApp, if_pos (by rw [List.length_map, PySem.sizeLine_eq]; omega)], ?_⟩
          walk_at "w"
          refine mw_meth (xs0 := left.map nE) rfl (maw_one (mw_up ?_))
          walk_at "w"
          refine o_ixLn (e := nE) (k := 0) (x := a) rfl ⟨_, _, _, rfl, kRem_nat ham, ?_⟩
          walk_at "w"
          refine o_ixLn (e := nE) (k := 0) (x := a) rfl ?_
          refine o_ixTn (e := tI) (k := a) hH ?_
          walk_at "w"
          refine w_added ?_
          refine ⟨left.length - 1, by cases left with | nil => cases e | cons _ _ => simp at hm ⊢; omega, left.erase a, ord ++ [a], addR f H[a], .frz (.lst ((a :: rest).map nE)), x7, ?_, ?_, ?_, ?_, ?_⟩
          · simp only [lN, List.map_append]; rfl
          · rw [List.length_erase_of_mem ham]
          · have : 0 < left.length := List.length_pos_of_mem ham
            simp; omega
          · exact fun k hk2 => hk k (List.mem_of_mem_erase hk2)
          · rw [← hg]
            have : 0 < left.length := List.length_pos_of_mem ham
            have hm2 : m = left.length - 1 + 1 := by omega
            cases left with
            | nil => cases e
            | cons y ys =>
              rw [← hm2]
              conv => rhs; rw [greedy, ha]
              simp only [List.getD_eq_getElem?_getD, hH, Option.getD_some]

theorem getD_some {α : Type} {xs : List α} {k : Nat} {d : α} (h : k < xs.length) : xs[k]? = some (xs.getD k d) := by
  rw [List.getD_eq_getElem?_getD, List.getElem?_eq_getElem h]; rfl
theorem zip_range {α β γ : Type} (a : α) (b : β) (g : α → β → γ) {xs : List α} {ys : List β} {n : Nat} (h1 : xs.length = n) (h2 : ys.length = n) : (xs.zip ys).map (fun p => g p.1 p.2) = (List.range n).map fun k => g (xs.getD k a) (ys.getD k b) := by
  apply List.ext_getElem
  · simp [h1, h2]
  · intro k hk1 hk2
    simp at hk1 hk2
    simp only [List.getElem_map, List.getElem_zip, List.getElem_range, List.getD_eq_getElem?_getD]
    rw [List.getElem?_eq_getElem (by omega), List.getElem?_eq_getElem (by omega)]
    rfl
theorem fits_range {n f : Row} {K : Nat} (h1 : n.length = K) (h2 : f.length = K) : fits n f = !((List.range K).any fun k => decide (f.getD k 0 < n.getD k 0)) := by
  have e := zip_range 0 0 (fun x y : Int => decide (x ≤ y)) h1 h2
  have : fits n f = ((n.zip f).map fun p => decide (p.1 ≤ p.2)).all id := by simp [fits, List.all_map]
  rw [this, e, List.all_map, List.not_any_eq_all_not]
  congr 1
  funext k
  simp only [Function.comp, id]
  by_cases h : f.getD k 0 < n.getD k 0
  · have : ¬ n.getD k 0 ≤ f.getD k 0 := by omega
    rw [decide_eq_true h, decide_eq_false this]; rfl
  · have : n.getD k 0 ≤ f.getD k 0 := by omega
    rw [decide_eq_false h, decide_eq_true this]; rfl
theorem addR_range {f r : Row} {K : Nat} (h1 : f.length = K) (h2 : r.length = K) : addR f r = (List.range K).map fun k => f.getD k 0 + r.getD k 0 := zip_range 0 0 (fun x y : Int => x + y) h1 h2
theorem addR_len {f r : Row} {K : Nat} (h1 : f.length = K) (h2 : r.length = K) : (addR f r).length = K := by rw [addR_range h1 h2]; simp
structure Ok (K : Nat) (F : Row) (H N : List Row) : Prop where
  f : F.length = K
  hn : H.length = N.length
  h : ∀ r ∈ H, r.length = K
  n : ∀ r ∈ N, r.length = K
  k : K ≤ 100
  s : H.length ≤ 100
theorem rowLen {H : List Row} {K k : Nat} (h : ∀ r ∈ H, r.length = K) (hk : k < H.length) : (H.getD k []).length = K := by
  have := getD_some (d := ([] : Row)) hk
  exact h _ (List.mem_of_getElem? this)
def ends (H N : List Row) : List Nat → Row → Bool
  | [], _ => true
  | k :: ks, f => fits (N.getD k []) f && ends H N ks (addR f (H.getD k []))
theorem w_ends {K : Nat} {F : Row} {H N : List Row} {ks : List Nat} {Q : D → Prop} {w : List D → D} (ok : Ok K F H N) (hw : itemsD (w (ks.map nE)) = some (ks.map nE)) (hk : ∀ k ∈ ks, k < H.length) (q : Q (.bl (ends H N ks F))) : Fw f_law_ends [eL F H N, w (ks.map nE)] Q := by
  refine fw_rt ?_
  walk_at "w"
  refine sw_for (ks.map nE) (fun i ρ => ∃ f x3, ρ = [Sl.frz (eL F H N), .frz (w (ks.map nE)), .frz (lI f), x3, .emp] ∧ f.length = K ∧ ends H N (ks.drop i) f = ends H N ks F) ?_ ⟨F, .emp, rfl, ok.f, by rw [List.drop_zero]⟩ ?_ ?_
  · refine iw_seq (ew_var rfl ⟨_, hw, rfl⟩)
  · rintro i d _ hd ⟨f, x3, rfl, hf, he⟩
    rw [List.getElem?_map] at hd
    cases hi : ks[i]? with
    | none => rw [hi] at hd; cases hd
    | some j =>
      rw [hi] at hd; cases hd
      have hj : j < H.length := hk j (List.mem_of_getElem? hi)
      have hjN : j < N.length := by rw [← ok.hn]; exact hj
      have lH := rowLen ok.h hj
      have lN' := rowLen ok.n hjN
      obtain ⟨hil, hie⟩ := List.getElem?_eq_some_iff.mp hi
      rw [List.drop_eq_getElem_cons hil, hie] at he
      refine ⟨_, rfl, ?_⟩
      walk_at "w"
      refine ew_lcM (List.range K) nE (fun k => .bl (decide (f.getD k 0 < (N.getD j []).getD k 0))) ?_ ?_ ?_
      · refine iw_rangeN K ?_
        walk_at "w"
        exact ⟨by rw [List.length_map, hf], by have := ok.k; omega, rfl⟩
      · intro k hk2
        have hk3 := List.mem_range.mp hk2
        refine ⟨_, rfl, ?_⟩
        walk_at "w"
        refine o_ixTn (e := tI) (k := j) (getD_some (d := []) hjN) ?_
        walk_at "w"
        refine o_ixTn (e := D.int) (k := k) (getD_some (d := 0) (by omega)) ?_
        walk_at "w"
        refine o_ixLn (e := D.int) (k := k) (getD_some (d := 0) (by omega)) ?_
        walk_at "w"
        rfl
      · have hfr := fits_range lN' hf
        walk_at "w"
        refine ⟨fun e => ?_, fun e => ?_⟩
        · walk_at "w"
          rw [e] at hfr
          rw [← he, ends, hfr] at q
          exact q
        · walk_at "w"
          rw [e] at hfr
          refine ew_lcM (List.range K) nE (fun k => .int (f.getD k 0 + (H.getD j []).getD k 0)) ?_ ?_ ?_
          · refine iw_rangeN K ?_
            walk_at "w"
            exact ⟨by rw [List.length_map, hf], by have := ok.k; omega, rfl⟩
          · intro k hk2
            have hk3 := List.mem_range.mp hk2
            refine ⟨_, rfl, ?_⟩
            walk_at "w"
            refine o_ixLn (e := D.int) (k := k) (getD_some (d := 0) (by omega)) ?_
            walk_at "w"
            refine o_ixTn (e := tI) (k := j) (getD_some (d := []) hj) ?_
            walk_at "w"
            refine o_ixTn (e := D.int) (k := k) (getD_some (d := 0) (by omega)) ?_
            walk_at "w"
            rfl
          · refine ⟨addR f (H.getD j []), .frz (nE j), ?_, addR_len hf lH, ?_⟩
            · rw [addR_range hf lH]; simp only [lI, List.map_map]; rfl
            · rw [← he, ends, hfr]; rfl
  · rintro _ ⟨f, x3, rfl, hf, he⟩
    rw [List.length_map, List.drop_length] at he
    rw [← he] at q
    walk_at "w"
    exact q

/-! ### listings -/
theorem w_flat {α : Type} {e : α → D} {rows : List (List α)} {Q : D → Prop} (hn : rows.flatten.length ≤ 1000000) (q : Q (.lst (rows.flatten.map e))) : Fw f_law_flat [.lst (rows.map fun r => .lst (r.map e))] Q := by
  have hsz : (1000000 : Nat) ≤ PySem.sizeLine := by rw [PySem.sizeLine_eq]; omega
  refine fw_rt ?_
  walk_at "w"
  refine sw_for (rows.map fun r => .lst (r.map e)) (fun i ρ => ∃ x2, ρ = [Sl.frz (.lst (rows.map fun r => .lst (r.map e))), .own (.lst (((rows.take i).flatten).map e)), x2]) (iw_seq (ew_var rfl ⟨_, rfl, rfl⟩)) ⟨.emp, rfl⟩ ?_ ?_
  · rintro i d _ hd ⟨x2, rfl⟩
    rw [List.getElem?_map] at hd
    cases hi : rows[i]? with
    | none => rw [hi] at hd; cases hd
    | some r =>
      rw [hi] at hd; cases hd
      have ht : rows.take (i + 1) = rows.take i ++ [r] := by rw [List.take_succ, hi]; rfl
      have hl : ((rows.take i).flatten.map e).length + (r.map e).length ≤ PySem.sizeLine := by
        have e1 : rows.flatten = (rows.take (i + 1)).flatten ++ (rows.drop (i + 1)).flatten := by rw [← List.flatten_append, List.take_append_drop]
        have e2 : (rows.take (i + 1)).flatten.length = (rows.take i).flatten.length + r.length := by
          rw [ht]; simp only [List.flatten_append, List.flatten_cons, List.flatten_nil, List.append_nil, List.length_append]
        rw [e1, List.length_append] at hn
        rw [List.length_map, List.length_map]
        omega
      refine ⟨_, rfl, ?_⟩
      walk_at "w"
      refine mw_meth (xs0 := (rows.take i).flatten.map e) rfl (maw_one (mw_up (ew_var rfl ⟨_, _, _, rfl, if_pos hl, ?_⟩)))
      refine ⟨.frz (.lst (r.map e)), ?_⟩
      rw [ht]
      simp
  · rintro _ ⟨x2, rfl⟩
    rw [List.length_map, List.take_length]
    refine sw_seq (sw_fz rfl ?_)
    walk_at "w"
    exact q
def ordStep (n : Nat) (rows : List (List Nat)) : List (List Nat) := (rows.map fun row => ((List.range n).filter fun j => !decide (j ∈ row)).map fun j => row ++ [j]).flatten
def orders (n : Nat) : Nat → List (List Nat)
  | 0 => [[]]
  | k + 1 => ordStep n (orders n k)
theorem orders_len : ∀ {n k : Nat}, n ≤ 5 → k ≤ n → (orders n k).length ≤ 5 ^ k ∧ ∀ r ∈ orders n k, r.length = k
  | n, 0, _, _ => by simp [orders]
  | n, k + 1, hn, hk => by
    obtain ⟨h1, h2⟩ := orders_len (n := n) (k := k) hn (by omega)
    refine ⟨?_, ?_⟩
    · have : ∀ rows : List (List Nat), (ordStep n rows).length ≤ rows.length * 5 := by
        intro rows
        induction rows with
        | nil => simp [ordStep]
        | cons r rows ih =>
          have e : ordStep n (r :: rows) = (((List.range n).filter fun j => !decide (j ∈ r)).map fun j => r ++ [j]) ++ ordStep n rows := by simp [ordStep]
          rw [e, List.length_append, List.length_map, List.length_cons]
          have := List.length_filter_le (fun j => !decide (j ∈ r)) (List.range n)
          rw [List.length_range] at this
          omega
      have := this (orders n k)
      rw [orders, Nat.pow_succ]
      have := Nat.mul_le_mul_right 5 h1
      omega
    · intro r hr
      rw [orders, ordStep, List.mem_flatten] at hr
      obtain ⟨l, hl, hr⟩ := hr
      obtain ⟨row, hrow, rfl⟩ := List.mem_map.mp hl
      obtain ⟨j, _, rfl⟩ := List.mem_map.mp hr
      simp [h2 row hrow]
theorem w_orders {n : Nat} {Q : D → Prop} (hn : n ≤ 5) (q : Q (.lst ((orders n n).map tN))) : Fw f_law_orders [nE n] Q := by
  refine fw_rt ?_
  walk_at "w"
  refine sw_for ((List.range n).map nE) (fun i ρ => ∃ x2, ρ = [Sl.frz (nE n), .frz (.lst ((orders n i).map tN)), x2, .emp, .emp]) ?_ ⟨.emp, rfl⟩ ?_ ?_
  · refine iw_rangeN n ?_
    walk_at "w"
    exact ⟨rfl, by omega, rfl⟩
  · rintro i d _ hd ⟨x2, rfl⟩
    have hi : i < n := by
      have := (List.getElem?_eq_some_iff.mp hd).1
      simpa using this
    obtain ⟨hl1, hl2⟩ := orders_len (n := n) (k := i) hn (by omega)
    obtain ⟨hl3, _⟩ := orders_len (n := n) (k := i + 1) hn (by omega)
    have h5 : ∀ k ≤ 5, 5 ^ k ≤ 3125 := by decide
    refine ⟨_, rfl, ?_⟩
    walk_at "w"
    refine ew_lcM (orders n i) tN (fun row => .lst ((((List.range n).filter fun j => !decide (j ∈ row)).map fun j => row ++ [j]).map tN)) (iw_seq (ew_bor rfl ⟨_, rfl, rfl⟩)) ?_ ?_
    · intro row hrow
      refine ⟨_, rfl, ?_⟩
      refine ew_lc (List.range n) nE (fun j => !decide (j ∈ row)) (fun j => tN (row ++ [j])) ?_ ?_ ?_
      · refine iw_rangeN n ?_
        walk_at "w"
        exact ⟨rfl, by omega, rfl⟩
      · intro j _
        refine ⟨_, rfl, ?_⟩
        walk_at "w"
        refine o_ninT enc_nat ?_
        walk_at "w"
        refine ⟨rfl, fun _ => ?_⟩
        walk_at "w"
        refine o_addT (by rw [List.length_map, hl2 row hrow, PySem.sizeLine_eq]; simp; omega) ?_
        simp [tN]
      · rw [List.map_map]; rfl
    · walk_at "w"
      have := w_flat (e := tN) (rows := (orders n i).map fun row => ((List.range n).filter fun j => !decide (j ∈ row)).map fun j => row ++ [j]) (Q := fun d => d = .lst ((orders n (i + 1)).map tN)) (by
        have := h5 (i + 1) (by omega)
        show (orders n (i + 1)).length ≤ _
        omega) rfl
      rw [List.map_map] at this
      exact this.mono fun d2 ed => ⟨.frz d, by rw [ed]; rfl⟩
  · rintro _ ⟨x2, rfl⟩
    rw [List.length_map, List.length_range]
    walk_at "w"
    exact q

def sets : Nat → List (List Nat)
  | 0 => [[]]
  | k + 1 => sets k ++ (sets k).map fun r => r ++ [k]
theorem sets_len : ∀ k, (sets k).length = 2 ^ k ∧ ∀ r ∈ sets k, r.length ≤ k
  | 0 => by simp [sets]
  | k + 1 => by
    obtain ⟨h1, h2⟩ := sets_len k
    refine ⟨by simp [sets, h1, Nat.pow_succ]; omega, fun r hr => ?_⟩
    rcases List.mem_append.mp hr with h | h
    · have := h2 r h; omega
    · obtain ⟨r', hr', rfl⟩ := List.mem_map.mp h
      have := h2 r' hr'
      simp; omega
theorem w_sets {n : Nat} {Q : D → Prop} (hn : n ≤ 12) (q : Q (.lst ((sets n).map tN))) : Fw f_law_sets [nE n] Q := by
  refine fw_rt ?_
  walk_at "w"
  refine sw_for ((List.range n).map nE) (fun i ρ => ∃ x2, ρ = [Sl.frz (nE n), .frz (.lst ((sets i).map tN)), x2, .emp]) ?_ ⟨.emp, rfl⟩ ?_ ?_
  · refine iw_rangeN n ?_
    walk_at "w"
    exact ⟨rfl, by omega, rfl⟩
  · rintro i d _ hd ⟨x2, rfl⟩
    rw [List.getElem?_map] at hd
    have hi : i < n := by
      have := (List.getElem?_eq_some_iff.mp (show ((List.range n).map nE)[i]? = some d by rw [List.getElem?_map]; exact hd)).1
      simpa using this
    rw [List.getElem?_range hi] at hd
    cases hd
    obtain ⟨hl1, hl2⟩ := sets_len i
    have h5 : ∀ k ≤ 12, 2 ^ k ≤ 4096 := by decide
    have h6 := h5 i (by omega)
    refine ⟨_, rfl, ?_⟩
    walk_at "w"
    refine ew_lcM (sets i) tN (fun row => tN (row ++ [i])) (iw_seq (ew_bor rfl ⟨_, rfl, rfl⟩)) ?_ ?_
    · intro row hrow
      have := hl2 row hrow
      refine ⟨_, rfl, ?_⟩
      walk_at "w"
      refine o_addT (by rw [List.length_map, PySem.sizeLine_eq]; simp; omega) ?_
      simp [tN]
    · refine o_addL (by rw [List.length_map, List.length_map, PySem.sizeLine_eq]; omega) ?_
      exact ⟨.frz (nE i), by simp [sets]⟩
  · rintro _ ⟨x2, rfl⟩
    rw [List.length_map, List.length_range]
    walk_at "w"
    exact q
/-! ### stuck groups -/
/-- what is free behind all that are not in the group -/
def freed (H : List Row) (K : Nat) (F : Row) (g : List Nat) : Row := (List.range K).map fun k => F.getD k 0 + (((List.range H.length).filter fun j => !decide (j ∈ g)).map fun j => (H.getD j []).getD k 0).sum
def stuckB (F : Row) (H N : List Row) (K : Nat) (g : List Nat) : Bool := decide (0 < g.length) && g.all fun k => !fits (N.getD k []) (freed H K F g)
theorem freed_len {H : List Row} {K : Nat} {F : Row} {g : List Nat} : (freed H K F g).length = K := by simp [freed]
theorem w_lstuck {K : Nat} {F : Row} {H N : List Row} {g : List Nat} {Q : D → Prop} (ok : Ok K F H N) (hk : ∀ k ∈ g, k < H.length) (q : Q (.bl (stuckB F H N K g))) : Fw f_law_stuck [eL F H N, tN g] Q := by
  refine fw_rt ?_
  walk_at "w"
  refine ew_lcM (List.range K) nE (fun k => .int (F.getD k 0 + (((List.range H.length).filter fun j => !decide (j ∈ g)).map fun j => (H.getD j []).getD k 0).sum)) ?_ ?_ ?_
  · refine iw_rangeN K ?_
    walk_at "w"
    exact ⟨by rw [List.length_map, ok.f], by have := ok.k; omega, rfl⟩
  · intro k hk2
    have hk3 := List.mem_range.mp hk2
    refine ⟨_, rfl, ?_⟩
    walk_at "w"
    refine o_ixTn (e := D.int) (k := k) (getD_some (d := 0) (by rw [ok.f]; exact hk3)) ?_
    walk_at "w"
    refine ew_lc (List.range H.length) nE (fun j => !decide (j ∈ g)) (fun j => .int ((H.getD j []).getD k 0)) ?_ ?_ ?_
    · refine iw_rangeN H.length ?_
      walk_at "w"
      exact ⟨by rw [List.length_map], by have := ok.s; omega, rfl⟩
    · intro j hj
      have hj3 := List.mem_range.mp hj
      have lH := rowLen ok.h hj3
      refine ⟨_, rfl, ?_⟩
      walk_at "w"
      refine o_ninT enc_nat ?_
      walk_at "w"
      refine ⟨rfl, fun _ => ?_⟩
      walk_at "w"
      refine o_ixTn (e := tI) (k := j) (getD_some (d := []) hj3) ?_
      walk_at "w"
      refine o_ixTn (e := D.int) (xs := H.getD j []) (k := k) (getD_some (d := 0) (by omega)) ?_
      rfl
    · walk_at "w"
      rfl
  · have hfree : (D.lst ((List.range K).map fun k => D.int (F.getD k 0 + (((List.range H.length).filter fun j => !decide (j ∈ g)).map fun j => (H.getD j []).getD k 0).sum))) = lI (freed H K F g) := by
      simp only [lI, freed, List.map_map]; rfl
    rw [hfree]
    have fl := freed_len (H := H) (K := K) (F := F) (g := g)
    generalize hfd : freed H K F g = fr at fl
    walk_at "w"
    refine ew_andB (x := decide (0 < g.length)) (y := g.all fun k => !fits (N.getD k []) fr) ?_ (fun _ => ?_) (by rw [stuckB, hfd] at q; exact q)
    · walk_at "w"
      rw [List.length_map]
      simp
    · walk_at "w"
      refine ew_lcM g nE (fun j => .bl (!fits (N.getD j []) fr)) (iw_seq (ew_bor rfl ⟨_, rfl, rfl⟩)) ?_ ?_
      · intro j hj
        have hjN : j < N.length := by rw [← ok.hn]; exact hk j hj
        have lN' := rowLen ok.n hjN
        refine ⟨_, rfl, ?_⟩
        walk_at "w"
        refine ew_lcM (List.range K) nE (fun k => .bl (decide (fr.getD k 0 < (N.getD j []).getD k 0))) ?_ ?_ ?_
        · refine iw_rangeN K ?_
          walk_at "w"
          exact ⟨by rw [List.length_map, fl], by have := ok.k; omega, rfl⟩
        · intro k hk2
          have hk3 := List.mem_range.mp hk2
          refine ⟨_, rfl, ?_⟩
          walk_at "w"
          refine o_ixTn (e := tI) (k := j) (getD_some (d := []) hjN) ?_
          walk_at "w"
          refine o_ixTn (e := D.int) (xs := N.getD j []) (k := k) (getD_some (d := 0) (by omega)) ?_
          walk_at "w"
          refine o_ixLn (e := D.int) (k := k) (getD_some (d := 0) (by omega)) ?_
          walk_at "w"
          rfl
        · walk_at "w"
          rw [fits_range lN' fl, Bool.not_not]
      · walk_at "w"
        rfl

/-! ### any value -/
def safeV (F : Row) (H N : List Row) (v : D) : Bool := idxB H.length v && (srtB (nats v) H.length && ends H N (nats v) F)
theorem isT_tup {v : D} (h : gd v = true) : ∃ k, isT v .tuple = some k ∧ (k = true → ∃ vs, v = .tup vs) ∧ (k = false → ∀ vs, v ≠ .tup vs) := by
  cases v with
  | dct _ => cases h
  | tok _ => cases h
  | tup vs => exact ⟨true, rfl, fun _ => ⟨vs, rfl⟩, fun e => by cases e⟩
  | _ => exact ⟨false, rfl, (fun e => by cases e), fun _ _ => by simp⟩
theorem idxB_no {n : Nat} {v : D} (h : ∀ vs, v ≠ .tup vs) : idxB n v = false := by
  cases v with
  | tup vs => exact absurd rfl (h vs)
  | _ => rfl
theorem w_is_safe {K : Nat} {F : Row} {H N : List Row} {v : D} {Q : D → Prop} (ok : Ok K F H N) (hv : gd v = true) (q : Q (.bl (safeV F H N v))) : Fw f_is_safe_order [eL F H N, v] Q := by
  refine fw_rt ?_
  refine sw_seq ?_
  walk_at "w"
  refine ⟨_, rfl, sw_seq (sw_if (tw_or ?_))⟩
  obtain ⟨k, ek, hk1, hk2⟩ := isT_tup hv
  refine tw_not (tw_of (ew_un (ew_bor rfl ⟨.bl k, by rw [ek]; rfl, x_tb ⟨fun e => ⟨fun _ => ?_, fun e2 => by cases e2⟩, fun e => ?_⟩⟩)))
  · have hn : idxB H.length v = false := idxB_no (hk2 (by simpa using e))
    rw [safeV, hn] at q
    walk_at "w"
    exact q
  · obtain ⟨vs, rfl⟩ := hk1 (by simpa using e)
    have hv' := gd_tup.mp hv
    walk_at "w"
    refine ew_lcM vs (fun d => d) (fun d => .bl (numB d 0 ((H.length : Int) - 1))) (iw_seq (ew_bor rfl ⟨vs, rfl, by simp⟩)) ?_ ?_
    · intro d hd
      refine ⟨_, rfl, ?_⟩
      walk_at "w"
      rw [List.length_map]
      exact w_is_number (gd_plain d (hv'.2 d hd)) rfl
    · walk_at "w"
      have hidx : idxB H.length (.tup vs) = vs.all fun d => numB d 0 ((H.length : Int) - 1) := rfl
      rw [← hidx]
      refine ⟨fun e => ?_, fun e => sw_nx ?_⟩
      · have hn : idxB H.length (.tup vs) = false := by simpa using e
        rw [safeV, hn] at q
        walk_at "w"
        exact q
      · have hn : idxB H.length (.tup vs) = true := by simpa using e
        obtain ⟨e1, hlt⟩ := idx_of hn
        rw [safeV, hn, Bool.true_and] at q
        generalize hks : nats (.tup vs) = ks at e1 hlt q
        rw [e1]
        walk_at "w"
        refine o_sortT ?_
        walk_at "w"
        refine ⟨_, rlD_nat (by rw [List.length_map]; have := ok.s; omega), ?_⟩
        rw [List.length_map]
        refine o_neSrt ?_
        walk_at "w"
        refine ⟨fun e => ?_, fun e => ?_⟩
        · have hs : srtB ks H.length = false := by simpa using e
          rw [hs] at q
          walk_at "w"
          exact q
        · have hs : srtB ks H.length = true := by simpa using e
          rw [hs, Bool.true_and] at q
          walk_at "w"
          refine sw_for (ks.map nE) (fun i ρ => ∃ f x5, ρ = [Sl.frz (eL F H N), .frz (tN ks), .frz (tI f), .frz (.tup (H.map tI)), .frz (.tup (N.map tI)), x5] ∧ f.length = K ∧ ends H N (ks.drop i) f = ends H N ks F) (iw_seq (ew_var rfl ⟨_, rfl, rfl⟩)) ⟨F, .emp, rfl, ok.f, by rw [List.drop_zero]⟩ ?_ ?_
          · rintro i d _ hd ⟨f, x5, rfl, hf, he⟩
            rw [List.getElem?_map] at hd
            cases hi : ks[i]? with
            | none => rw [hi] at hd; cases hd
            | some j =>
              rw [hi] at hd; cases hd
              have hj : j < H.length := hlt j (List.mem_of_getElem? hi)
              have hjN : j < N.length := by rw [← ok.hn]; exact hj
              obtain ⟨hil, hie⟩ := List.getElem?_eq_some_iff.mp hi
              rw [List.drop_eq_getElem_cons hil, hie] at he
              refine ⟨_, rfl, ?_⟩
              walk_at "w"
              refine o_ixTn (e := tI) (k := j) (getD_some (d := []) hjN) ?_
              walk_at "w"
              refine w_fits ?_
              walk_at "w"
              refine ⟨fun e => ?_, fun e => ?_⟩
              · have hfl : fits (N.getD j []) f = false := by simpa using e
                rw [← he, ends, hfl] at q
                walk_at "w"
                exact q
              · have hfl : fits (N.getD j []) f = true := by simpa using e
                walk_at "w"
                refine o_ixTn (e := tI) (k := j) (getD_some (d := []) hj) ?_
                walk_at "w"
                refine w_added ?_
                exact ⟨addR f (H.getD j []), .frz (nE j), rfl, addR_len hf (rowLen ok.h hj), by rw [← he, ends, hfl]; rfl⟩
          · rintro _ ⟨f, x5, rfl, hf, he⟩
            rw [List.length_map, List.drop_length] at he
            rw [← he] at q
            walk_at "w"
            exact q

theorem zipIdx_get {α : Type} {xs : List α} {i : Nat} {x : α} (h : xs[i]? = some x) : (xs.zipIdx)[i]? = some (x, i) := by
  rw [List.getElem?_zipIdx, h]; simp
def asc (ks : List Nat) : Bool := (List.range (ks.length - 1)).all fun k => decide (ks.getD k 0 < ks.getD (k + 1) 0)
def stuckV (F : Row) (H N : List Row) (K : Nat) (v : D) : Bool := idxB H.length v && (asc (nats v) && stuckB F H N K (nats v))
theorem w_ascending {ks : List Nat} {Q : D → Prop} (hn : ks.length ≤ 1000000) (q : Q (.bl (asc ks))) : Fw f_is_ascending [tN ks] Q := by
  refine fw_rt ?_
  walk_at "w"
  refine ew_lcM (List.range (ks.length - 1)) nE (fun k => .bl (decide (ks.getD k 0 < ks.getD (k + 1) 0))) ?_ ?_ ?_
  · by_cases h : ks.length = 0
    · refine iw_range ?_
      walk_at "w"
      rw [List.length_map, h]
      exact ⟨_, [], rfl, rfl, rfl⟩
    · refine iw_rangeN (ks.length - 1) ?_
      walk_at "w"
      rw [List.length_map]
      exact ⟨by congr 2; omega, by omega, rfl⟩
  · intro k hk
    have hk := List.mem_range.mp hk
    refine ⟨_, rfl, ?_⟩
    walk_at "w"
    refine o_ixTn (e := nE) (k := k) (getD_some (d := 0) (by omega)) ?_
    walk_at "w"
    refine o_ixTn (e := nE) (k := k + 1) (getD_some (d := 0) (by omega)) ?_
    walk_at "w"
    congr 1
    by_cases h : ks.getD k 0 < ks.getD (k + 1) 0
    · rw [decide_eq_true h, decide_eq_true (by omega)]
    · rw [decide_eq_false h, decide_eq_false (by omega)]
  · walk_at "w"
    exact q
def freedTo (H : List Row) (K : Nat) (F : Row) (g : List Nat) (i : Nat) : Row := (List.range K).map fun k => F.getD k 0 + (((List.range i).filter fun j => !decide (j ∈ g)).map fun j => (H.getD j []).getD k 0).sum
theorem freedTo_len {H : List Row} {K : Nat} {F : Row} {g : List Nat} {i : Nat} : (freedTo H K F g i).length = K := by simp [freedTo]
theorem freedTo_zero {H : List Row} {K : Nat} {F : Row} {g : List Nat} (h : F.length = K) : freedTo H K F g 0 = F := by
  apply List.ext_getElem
  · simp [freedTo, h]
  · intro k h1 h2
    simp [freedTo, List.getElem?_eq_getElem h2]
theorem getD_map_range {K k : Nat} {g : Nat → Int} (h : k < K) : ((List.range K).map g).getD k 0 = g k := by
  rw [List.getD_eq_getElem?_getD, List.getElem?_map, List.getElem?_range h]; rfl
theorem freedTo_in {H : List Row} {K : Nat} {F : Row} {g : List Nat} {i : Nat} (h : i ∈ g) : freedTo H K F g (i + 1) = freedTo H K F g i := by
  simp only [freedTo, List.range_succ, List.filter_append]
  simp [h]
theorem freedTo_out {H : List Row} {K : Nat} {F : Row} {g : List Nat} {i : Nat} (h : i ∉ g) (hl : (H.getD i []).length = K) : freedTo H K F g (i + 1) = addR (freedTo H K F g i) (H.getD i []) := by
  rw [addR_range freedTo_len hl]
  simp only [freedTo]
  refine List.map_congr_left fun k hk => ?_
  have hk := List.mem_range.mp hk
  rw [getD_map_range hk, List.range_succ, List.filter_append]
  simp [h]
  omega
theorem w_is_stuck {K : Nat} {F : Row} {H N : List Row} {v : D} {Q : D → Prop} (ok : Ok K F H N) (hv : gd v = true) (hd : v.dep ≤ 40) (q : Q (.bl (stuckV F H N K v))) : Fw f_is_stuck [eL F H N, v] Q := by
  refine fw_rt ?_
  refine sw_seq ?_
  walk_at "w"
  refine ⟨_, rfl, sw_seq (sw_if (tw_or ?_))⟩
  obtain ⟨k, ek, hk1, hk2⟩ := isT_tup hv
  refine tw_not (tw_of (ew_un (ew_bor rfl ⟨.bl k, by rw [ek]; rfl, x_tb ⟨fun e => ⟨fun _ => ?_, fun e2 => by cases e2⟩, fun e => ?_⟩⟩)))
  · have hn : idxB H.length v = false := idxB_no (hk2 (by simpa using e))
    rw [stuckV, hn] at q
    walk_at "w"
    exact q
  · obtain ⟨vs, rfl⟩ := hk1 (by simpa using e)
    have hv' := gd_tup.mp hv
    have hsm := sm_gd hv (by omega)
    refine tw_or (tw_bl ?_)
    walk_at "w"
    refine ⟨.bl vs.isEmpty, ?_, x_bl ⟨fun e => ⟨fun _ => ?_, fun e2 => by cases e2⟩, fun evs => ?_⟩⟩
    · have h0 : (D.tup []).sm = true := rfl
      simp only [opEq, eqD, hsm, h0, and_self, if_true, Option.map_some, D.py, D.pyL, PyData.eqv]
      cases vs <;> rfl
    · have : vs = [] := by simpa using e
      subst this
      have hn : stuckV F H N K (.tup []) = false := by simp [stuckV, stuckB, nats]
      rw [hn] at q
      walk_at "w"
      exact q
    walk_at "w"
    refine ew_lcM vs (fun d => d) (fun d => .bl (numB d 0 ((H.length : Int) - 1))) (iw_seq (ew_bor rfl ⟨vs, rfl, by simp⟩)) ?_ ?_
    · intro d hd
      refine ⟨_, rfl, ?_⟩
      walk_at "w"
      rw [List.length_map]
      exact w_is_number (gd_plain d (hv'.2 d hd)) rfl
    · walk_at "w"
      have hidx : idxB H.length (.tup vs) = vs.all fun d => numB d 0 ((H.length : Int) - 1) := rfl
      rw [← hidx]
      refine ⟨fun e => ?_, fun e => sw_nx ?_⟩
      · have hn : idxB H.length (.tup vs) = false := by simpa using e
        rw [stuckV, hn] at q
        walk_at "w"
        exact q
      · have hn : idxB H.length (.tup vs) = true := by simpa using e
        obtain ⟨e1, hlt⟩ := idx_of hn
        rw [stuckV, hn, Bool.true_and] at q
        have hvl : (nats (.tup vs)).length ≤ 1000000 := by simp only [nats, List.length_map]; exact hv'.1
        generalize hks : nats (.tup vs) = ks at e1 hlt q hvl
        rw [e1]
        walk_at "w"
        refine w_ascending hvl ?_
        walk_at "w"
        refine ⟨fun e => ?_, fun e => ?_⟩
        · have hs : asc ks = false := by simpa using e
          rw [hs] at q
          walk_at "w"
          exact q
        · have hs : asc ks = true := by simpa using e
          rw [hs, Bool.true_and] at q
          walk_at "w"
          refine sw_for ((H.zipIdx 0).map fun p => .tup [.int (p.2 : Nat), tI p.1]) (fun i ρ => ∃ x5 x6, ρ = [Sl.frz (eL F H N), .frz (tN ks), .frz (tI (freedTo H K F ks i)), .frz (.tup (H.map tI)), .frz (.tup (N.map tI)), x5, x6, .emp]) ?_ ⟨.emp, .emp, by rw [freedTo_zero ok.f]; rfl⟩ ?_ ?_
          · walk_at "w"
            exact enumD_map tI 0 H
          · rintro i d _ hd ⟨x5, x6, rfl⟩
            rw [List.getElem?_map] at hd
            cases hi : H[i]? with
            | none =>
              have : (H.zipIdx 0)[i]? = none := by rw [List.getElem?_zipIdx, hi]; rfl
              rw [this] at hd; cases hd
            | some r =>
              rw [zipIdx_get hi] at hd; cases hd
              have hil := (List.getElem?_eq_some_iff.mp hi).1
              have er : H.getD i [] = r := by rw [List.getD_eq_getElem?_getD, hi]; rfl
              refine ⟨_, rfl, ?_⟩
              walk_at "w"
              refine o_ninT (x := i) enc_nat ?_
              walk_at "w"
              refine ⟨fun e => ?_, fun e => ?_⟩
              · have hni : i ∉ ks := by simpa using e
                walk_at "w"
                refine w_added ⟨.frz (nE i), .frz (tI r), ?_⟩
                rw [freedTo_out hni (rowLen ok.h hil), er]; rfl
              · have hni : i ∈ ks := by simpa using e
                walk_at "w"
                refine ⟨.frz (nE i), .frz (tI r), ?_⟩
                rw [freedTo_in hni]; rfl
          · rintro _ ⟨x5, x6, rfl⟩
            rw [List.length_map, List.length_zipIdx]
            have hfr : freedTo H K F ks H.length = freed H K F ks := rfl
            rw [hfr]
            have fl := freed_len (H := H) (K := K) (F := F) (g := ks)
            generalize hfd : freed H K F ks = fr at fl
            walk_at "w"
            refine ew_lcM ks nE (fun k => .bl (fits (N.getD k []) fr)) (iw_seq (ew_bor rfl ⟨_, rfl, rfl⟩)) ?_ ?_
            · intro j hj
              refine ⟨_, rfl, ?_⟩
              walk_at "w"
              refine o_ixTn (e := tI) (k := j) (getD_some (d := []) (by rw [← ok.hn]; exact hlt j hj)) ?_
              walk_at "w"
              exact w_fits rfl
            · walk_at "w"
              rw [stuckB, hfd] at q
              have hne : decide (0 < ks.length) = true := by
                have : ks ≠ [] := fun z => by
                  rw [z] at e1
                  have : vs = [] := by simpa [tN] using e1
                  subst this
                  cases evs
                exact decide_eq_true (List.length_pos_iff.mpr this)
              rw [hne, Bool.true_and] at q
              rw [List.not_any_eq_all_not]
              exact q
end K83

set_option maxHeartbeats 1000000
namespace K83
open Sv
open PySem (Str PyData)
local macro_rules | `(tactic| walk_at "w") => `(tactic| (repeat' (first | with_reducible (first | refine sw_seq ?_ | refine sw_set ?_ | refine sw_new ?_ | refine sw_asg ?_ | refine sw_rt ?_ | refine sw_ret ?_ | refine sw_if ?_ | refine sw_par ?_ | refine sw_nx ?_ | refine sw_exprM ?_ | refine kw_nil ?_ | refine kw_frz ?_ | refine kw_new ?_ | refine ew_con ?_ | refine ew_bin ?_ | refine ew_un ?_ | refine ew_tup ?_ | refine ew_lst ?_ | refine ew_fn ?_ | refine ew_call ?_ | refine ew_callO ?_ | refine ew_if ?_ | refine ew_not ?_ | refine ew_chain ?_ | refine ew_slice ?_ | refine ow_none ?_ | refine ow_some ?_ | refine tw_bl ?_ | refine tw_of ?_ | refine tw_not ?_ | refine tw_yes ?_ | refine aw_nil ?_ | refine aw_cons ?_ | refine iw_seq ?_ | refine iw_enum ?_ | refine iw_zip ?_) | refine ew_var rfl ?_ | refine ew_bor rfl ?_ | refine ew_borO rfl ?_ | refine o_eqI ?_ | refine o_neI ?_ | refine o_lt ?_ | refine o_gt ?_ | refine o_le ?_ | refine o_ge ?_ | refine o_all ?_ | refine o_any ?_ | refine o_sum ?_ | refine o_addI ?_ | refine o_subI ?_ | refine o_lenT ?_ | refine o_lenL ?_ | refine o_tupL ?_ | refine o_tupT ?_ | refine o_listL ?_ | refine o_listT ?_ | refine o_negI ?_ | refine o_intI ?_ | refine o_slT ?_ | refine o_slL ?_ | refine o_revT ?_ | refine o_revL ?_ | refine x_int ?_ | refine x_bl ?_ | refine x_tb ?_ | refine x_itT ?_ | refine x_itL ?_ | refine x_rt ?_)))
/-! ### is_loan -/
def tupB (d : D) : Bool := match d with | .tup _ => true | _ => false
theorem isT_tupB {d : D} (h : gd d = true) : isT d .tuple = some (tupB d) := by
  cases d with
  | dct _ => cases h
  | tok _ => cases h
  | _ => rfl
def itemsT : D → List D | .tup vs => vs | _ => []
def rowV (k : Nat) (d : D) : Bool := tupB d && (decide ((itemsT d).length = k) && (itemsT d).all fun x => numB x 0 99)
theorem w_thing {d : D} {k : Nat} {Q : D → Prop} (h : gd d = true) (q : Q (.bl (rowV k d))) : Fw f_is_thing_row [nE k, d] Q := by
  refine fw_rt ?_
  walk_at "w"
  refine ew_andB (x := tupB d) (y := decide ((itemsT d).length = k) && (itemsT d).all fun x => numB x 0 99) ?_ (fun e => ?_) q
  · refine ew_un (ew_bor rfl ⟨_, by rw [isT_tupB h]; rfl, rfl⟩)
  · cases d with
    | tup vs =>
      have hg := gd_tup.mp h
      refine ew_andB (x := decide (vs.length = k)) (y := vs.all fun x => numB x 0 99) ?_ (fun e => ?_) rfl
      · walk_at "w"
        by_cases h : vs.length = k
        · rw [decide_eq_true h, decide_eq_true (by omega)]
        · rw [decide_eq_false h, decide_eq_false (by omega)]
      · walk_at "w"
        refine ew_lcM vs (fun d => d) (fun d => .bl (numB d 0 99)) (iw_seq (ew_bor rfl ⟨vs, rfl, by simp⟩)) ?_ ?_
        · intro x hx
          refine ⟨_, rfl, ?_⟩
          walk_at "w"
          exact w_is_number (gd_plain x (hg.2 x hx)) rfl
        · walk_at "w"
          rfl
    | _ => cases e
/-- its three parts -/
def loanV (v : D) : Bool := match v with
  | .tup [.tup f, .tup h, .tup n] => decide (1 ≤ f.length ∧ f.length ≤ 6) && (decide (h.length = n.length) && (decide (h.length ≤ 12) && (((D.tup f :: h) ++ n).all (rowV f.length))))
  | _ => false
theorem loanV_parts {vs : List D} (h1 : vs.length = 3) (h2 : vs.all tupB = true) : ∃ f h n, vs = [.tup f, .tup h, .tup n] := by
  match vs, h1 with
  | [a, b, c], _ =>
    simp only [List.all_cons, List.all_nil, Bool.and_true, Bool.and_eq_true] at h2
    obtain ⟨ha, hb, hc⟩ := h2
    cases a <;> cases ha
    cases b <;> cases hb
    cases c <;> cases hc
    exact ⟨_, _, _, rfl⟩
theorem loanV_no {v : D} (h : ∀ vs, v = .tup vs → ¬ (vs.length = 3 ∧ vs.all tupB = true)) : loanV v = false := by
  unfold loanV
  split
  · rename_i f h' n
    exact absurd ⟨rfl, rfl⟩ (h _ rfl)
  · rfl
theorem w_is_loan {v : D} {Q : D → Prop} (hv : gd v = true) (q : Q (.bl (loanV v))) : Fw f_is_loan [v] Q := by
  refine fw_rt ?_
  refine sw_seq (sw_if ?_)
  refine tw_orB (x := !tupB v) (y := !(decide ((itemsT v).length = 3) && (itemsT v).all tupB)) ?_ (fun e => ?_) ?_
  · refine tw_not (tw_of (ew_un (ew_bor rfl ⟨.bl (tupB v), by rw [isT_tupB hv]; rfl, x_tb rfl⟩)))
  · cases v with
    | tup vs =>
      have hg := gd_tup.mp hv
      refine tw_orB (x := !decide (vs.length = 3)) (y := !vs.all tupB) ?_ (fun e => ?_) ?_
      · walk_at "w"
        congr 1
        by_cases h : vs.length = 3
        · rw [decide_eq_true h, decide_eq_true (by omega)]
        · rw [decide_eq_false h, decide_eq_false (by omega)]
      · walk_at "w"
        refine ew_lcM vs (fun d => d) (fun d => .bl (tupB d)) (iw_seq (ew_bor rfl ⟨vs, rfl, by simp⟩)) ?_ ?_
        · intro x hx
          refine ⟨_, rfl, ?_⟩
          refine ew_un (ew_bor rfl ⟨.bl (tupB x), by rw [isT_tupB (hg.2 x hx)]; rfl, rfl⟩)
        · walk_at "w"
          rfl
      · show (!decide (vs.length = 3) || !vs.all tupB) = !(decide (vs.length = 3) && vs.all tupB)
        rw [Bool.not_and]
    | _ => cases e
  · refine ⟨fun e => ?_, fun e => sw_nx ?_⟩
    · have : loanV v = false := loanV_no fun vs ev => by
        subst ev
        rintro ⟨h1, h2⟩
        simp [tupB, itemsT, h1, h2] at e
      rw [this] at q
      walk_at "w"
      exact q
    · cases v with
      | tup vs =>
        have h3 : vs.length = 3 ∧ vs.all tupB = true := by
          have e' : (!true || !(decide (vs.length = 3) && vs.all tupB)) = false := e
          simp only [Bool.not_true, Bool.false_or, Bool.not_eq_false', Bool.and_eq_true, decide_eq_true_iff] at e'
          exact e'
        obtain ⟨f, h, n, rfl⟩ := loanV_parts h3.1 h3.2
        have hg := gd_tup.mp hv
        have gf := hg.2 (.tup f) (by simp)
        have gh := gd_tup.mp (hg.2 (.tup h) (by simp))
        have gn := gd_tup.mp (hg.2 (.tup n) (by simp))
        have hsz : (3000000 : Nat) ≤ PySem.sizeLine := by rw [PySem.sizeLine_eq]; omega
        walk_at "w"
        refine ⟨_, rfl, ?_⟩
        walk_at "w"
        have hin : ∀ a b : Nat, decide ((a : Int) = (b : Int)) = decide (a = b) := fun a b => by
          by_cases h : a = b
          · rw [decide_eq_true h, decide_eq_true (by omega)]
          · rw [decide_eq_false h, decide_eq_false (by omega)]
        refine tw_orB (x := !decide (1 ≤ f.length ∧ f.length ≤ 6)) (y := !(decide (h.length = n.length) && decide (h.length ≤ 12))) ?_ (fun e => ?_) ?_
        · walk_at "w"
          refine ⟨decide ((1 : Int) ≤ f.length), by show some (D.bl (!decide ((f.length : Int) < 1))) = _; (by_cases h1 : (1 : Int) ≤ f.length); (rw [decide_eq_true h1, decide_eq_false (by omega)]; rfl); (rw [decide_eq_false h1, decide_eq_true (by omega)]; rfl), fun e => ?_, fun e => ?_⟩
          · have e := of_decide_eq_true e
            walk_at "w"
            congr 1
            by_cases h1 : f.length ≤ 6
            · rw [decide_eq_true (by omega), decide_eq_true (by omega)]
            · rw [decide_eq_false (by omega), decide_eq_false (by omega)]
          · have e := of_decide_eq_false e
            walk_at "w"
            rw [decide_eq_false (by omega)]
        · refine tw_orB (x := !decide (h.length = n.length)) (y := !decide (h.length ≤ 12)) ?_ (fun e => ?_) (by rw [Bool.not_and])
          · walk_at "w"
            rw [hin]
          · walk_at "w"
            by_cases h1 : h.length ≤ 12
            · rw [decide_eq_false (by omega), decide_eq_true h1]; rfl
            · rw [decide_eq_true (by omega), decide_eq_false h1]; rfl
        · have hV : loanV (.tup [.tup f, .tup h, .tup n]) = (decide (1 ≤ f.length ∧ f.length ≤ 6) && (decide (h.length = n.length) && (decide (h.length ≤ 12) && ((D.tup f :: h) ++ n).all (rowV f.length)))) := rfl
          rw [hV] at q
          refine ⟨fun e => ?_, fun e => ?_⟩
          · have : (decide (1 ≤ f.length ∧ f.length ≤ 6) && (decide (h.length = n.length) && (decide (h.length ≤ 12) && ((D.tup f :: h) ++ n).all (rowV f.length)))) = false := by
              rw [← Bool.not_and, Bool.not_eq_true'] at e
              rw [← Bool.and_assoc (decide (h.length = n.length)), ← Bool.and_assoc, e, Bool.false_and]
            rw [this] at q
            walk_at "w"
            exact q
          · have : (decide (1 ≤ f.length ∧ f.length ≤ 6) && (decide (h.length = n.length) && (decide (h.length ≤ 12) && ((D.tup f :: h) ++ n).all (rowV f.length)))) = ((D.tup f :: h) ++ n).all (rowV f.length) := by
              rw [← Bool.not_and, Bool.not_eq_false'] at e
              rw [← Bool.and_assoc (decide (h.length = n.length)), ← Bool.and_assoc, e, Bool.true_and]
            rw [this] at q
            walk_at "w"
            have ga : ∀ d ∈ (D.tup f :: h) ++ n, gd d = true := fun d hd => by
              rcases List.mem_append.mp hd with h1 | h1
              · rcases List.mem_cons.mp h1 with h2 | h2
                · rw [h2]; exact gf
                · exact gh.2 d h2
              · exact gn.2 d h1
            refine ew_lcM ((D.tup f :: h) ++ n) (fun d => d) (fun d => .bl (rowV f.length d)) ?_ ?_ ?_
            · walk_at "w"
              refine o_addT (by simp only [List.length_cons, List.length_nil]; omega) ?_
              walk_at "w"
              refine o_addT (by simp only [List.length_cons, List.length_nil, List.length_append]; omega) ?_
              walk_at "w"
              simp
            · intro d hd
              refine ⟨_, rfl, ?_⟩
              walk_at "w"
              exact w_thing (ga d hd) rfl
            · walk_at "w"
              exact q
      | _ => cases e

theorem w_law_numbers {v : D} {n : Int} {Q : D → Prop} (hv : gd v = true) (q : Q (.bl (tupB v && (itemsT v).all fun d => numB d 0 (n - 1)))) : Fw f_law_numbers [v, .int n] Q := by
  refine fw_rt ?_
  walk_at "w"
  refine ew_andB (x := tupB v) (y := (itemsT v).all fun d => numB d 0 (n - 1)) ?_ (fun e => ?_) q
  · refine ew_un (ew_bor rfl ⟨_, by rw [isT_tupB hv]; rfl, rfl⟩)
  · cases v with
    | tup vs =>
      have hg := gd_tup.mp hv
      walk_at "w"
      refine ew_lcM vs (fun d => d) (fun d => .bl (numB d 0 (n - 1))) (iw_seq (ew_bor rfl ⟨vs, rfl, by simp⟩)) ?_ ?_
      · intro x hx
        refine ⟨_, rfl, ?_⟩
        have hx := hg.2 x hx
        cases x with
        | dct _ => cases hx
        | tok _ => cases hx
        | int i =>
          refine ew_andB (x := true) (y := decide (0 ≤ i) && decide (i < n)) (fun b => ⟨_, b, rfl, rfl⟩) (fun _ => ?_) ?_
          · refine ew_andB (x := true) (y := decide (0 ≤ i) && decide (i < n)) (fun b => ⟨_, b, rfl, rfl⟩) (fun _ => ?_) rfl
            refine ew_andB (x := decide (0 ≤ i)) (y := decide (i < n)) ?_ (fun _ => ?_) rfl
            · walk_at "w"
              rfl
            · walk_at "w"
              rfl
          · rw [Bool.true_and]
            congr 1
            simp only [numB]
            by_cases h1 : 0 ≤ i <;> by_cases h2 : i < n
            · rw [decide_eq_true h1, decide_eq_true h2, decide_eq_true (p := 0 ≤ i ∧ i ≤ n - 1) (by omega)]; rfl
            · rw [decide_eq_true h1, decide_eq_false h2, decide_eq_false (p := 0 ≤ i ∧ i ≤ n - 1) (by omega)]; rfl
            · rw [decide_eq_false h1, decide_eq_false (p := 0 ≤ i ∧ i ≤ n - 1) (by omega)]; rfl
            · rw [decide_eq_false h1, decide_eq_false (p := 0 ≤ i ∧ i ≤ n - 1) (by omega)]; rfl
        | bl y => exact fun b => ⟨_, b, rfl, rfl⟩
        | non => exact fun b => ⟨_, b, rfl, rfl⟩
        | str _ => exact fun b => ⟨_, b, rfl, rfl⟩
        | tup _ => exact fun b => ⟨_, b, rfl, rfl⟩
        | lst _ => exact fun b => ⟨_, b, rfl, rfl⟩
      · walk_at "w"
        rfl
    | _ => cases e
theorem hin (a b : Nat) : decide ((a : Int) = (b : Int)) = decide (a = b) := by
  by_cases h : a = b
  · rw [decide_eq_true h, decide_eq_true (by omega)]
  · rw [decide_eq_false h, decide_eq_false (by omega)]
theorem w_law_is_loan {v : D} {Q : D → Prop} (hv : gd v = true) (q : Q (.bl (loanV v))) : Fw f_law_is_loan [v] Q := by
  refine fw_rt ?_
  refine sw_seq (sw_if ?_)
  refine tw_or ?_
  refine tw_not (tw_of (ew_un (ew_bor rfl ⟨.bl (tupB v), by rw [isT_tupB hv]; rfl, x_tb ⟨fun e => ⟨fun _ => ?_, fun z => by cases z⟩, fun e => ?_⟩⟩)))
  · have : loanV v = false := loanV_no fun vs ev => by
      subst ev
      cases e
    rw [this] at q
    walk_at "w"
    exact q
  cases v with
  | tup vs =>
    have hg := gd_tup.mp hv
    refine tw_or (tw_bl ?_)
    walk_at "w"
    refine ⟨fun e => ⟨fun _ => ?_, fun z => by cases z⟩, fun e => ?_⟩
    · have : loanV (.tup vs) = false := loanV_no fun vs' ev => by
        cases ev
        rintro ⟨h1, h2⟩
        rw [h1] at e; cases e
      rw [this] at q
      walk_at "w"
      exact q
    have hl3 : vs.length = 3 := by
      rw [Bool.not_eq_false', decide_eq_true_iff] at e; omega
    refine tw_or ?_
    walk_at "w"
    refine ew_lcM vs (fun d => d) (fun d => .bl (tupB d)) (iw_seq (ew_bor rfl ⟨vs, rfl, by simp⟩)) ?_ ?_
    · intro x hx
      refine ⟨_, rfl, ?_⟩
      refine ew_un (ew_bor rfl ⟨.bl (tupB x), by rw [isT_tupB (hg.2 x hx)]; rfl, rfl⟩)
    walk_at "w"
    refine ⟨fun e => ⟨fun _ => ?_, fun z => by cases z⟩, fun e => ?_⟩
    · have : loanV (.tup vs) = false := loanV_no fun vs' ev => by
        cases ev
        rintro ⟨h1, h2⟩
        have e' : (!vs.all tupB) = true := e
        rw [h2] at e'; cases e'
      rw [this] at q
      walk_at "w"
      exact q
    have hall : vs.all tupB = true := by
      have e' : (!vs.all tupB) = false := e
      simpa using e'
    obtain ⟨f, h, n, rfl⟩ := loanV_parts hl3 hall
    have gf := hg.2 (.tup f) (by simp)
    have gh := gd_tup.mp (hg.2 (.tup h) (by simp))
    have gn := gd_tup.mp (hg.2 (.tup n) (by simp))
    have hsz : (3000000 : Nat) ≤ PySem.sizeLine := by rw [PySem.sizeLine_eq]; omega
    have hV : loanV (.tup [.tup f, .tup h, .tup n]) = (decide (1 ≤ f.length ∧ f.length ≤ 6) && (decide (h.length = n.length) && (decide (h.length ≤ 12) && ((D.tup f :: h) ++ n).all (rowV f.length)))) := rfl
    rw [hV] at q
    have t1 : Tw (tNot (tBl (eChain opLe opLe (eCon (.int 1)) (eFn lenD (aCons (eBin ixD (eBor 0) (eCon (.int 0))) aNil)) (eCon (.int 6))))) [.frz (.tup [.tup f, .tup h, .tup n]), .emp, .emp] (fun k => k = !decide (1 ≤ f.length ∧ f.length ≤ 6)) := by
      walk_at "w"
      refine ⟨decide ((1 : Int) ≤ f.length), by show some (D.bl (!decide ((f.length : Int) < 1))) = _; (by_cases h1 : (1 : Int) ≤ f.length); (rw [decide_eq_true h1, decide_eq_false (by omega)]; rfl); (rw [decide_eq_false h1, decide_eq_true (by omega)]; rfl), fun e => ?_, fun e => ?_⟩
      · have e := of_decide_eq_true e
        walk_at "w"
        congr 1
        by_cases h1 : f.length ≤ 6
        · rw [decide_eq_true (by omega), decide_eq_true (by omega)]
        · rw [decide_eq_false (by omega), decide_eq_false (by omega)]
      · have e := of_decide_eq_false e
        walk_at "w"
        rw [decide_eq_false (by omega)]
    refine t1.mono fun k ek => ⟨fun e => ?_, fun e => sw_nx ?_⟩
    · have h0 : decide (1 ≤ f.length ∧ f.length ≤ 6) = false := by rw [ek, Bool.not_eq_true'] at e; exact e
      rw [h0, Bool.false_and] at q
      walk_at "w"
      exact q
    have h0 : decide (1 ≤ f.length ∧ f.length ≤ 6) = true := by
      rw [ek, Bool.not_eq_false'] at e; exact e
    rw [h0, Bool.true_and] at q
    refine sw_seq (sw_if ?_)
    refine tw_orB (x := !decide (h.length = n.length)) (y := !decide (h.length ≤ 12)) ?_ (fun e => ?_) ?_
    · walk_at "w"
      rw [hin]
    · walk_at "w"
      by_cases h1 : h.length ≤ 12
      · rw [decide_eq_false (by omega), decide_eq_true h1]; rfl
      · rw [decide_eq_true (by omega), decide_eq_false h1]; rfl
    refine ⟨fun e => ?_, fun e => sw_nx ?_⟩
    · have : (decide (h.length = n.length) && (decide (h.length ≤ 12) && ((D.tup f :: h) ++ n).all (rowV f.length))) = false := by
        rw [← Bool.not_and, Bool.not_eq_true'] at e
        rw [← Bool.and_assoc (decide (h.length = n.length)), e, Bool.false_and]
      rw [this] at q
      walk_at "w"
      exact q
    have : (decide (h.length = n.length) && (decide (h.length ≤ 12) && ((D.tup f :: h) ++ n).all (rowV f.length))) = ((D.tup f :: h) ++ n).all (rowV f.length) := by
      rw [← Bool.not_and, Bool.not_eq_false'] at e
      rw [← Bool.and_assoc (decide (h.length = n.length)), e, Bool.true_and]
    rw [this] at q
    walk_at "w"
    have ga : ∀ d ∈ (D.tup f :: h) ++ n, gd d = true := fun d hd => by
      rcases List.mem_append.mp hd with h1 | h1
      · rcases List.mem_cons.mp h1 with h2 | h2
        · rw [h2]; exact gf
        · exact gh.2 d h2
      · exact gn.2 d h1
    refine ew_lcM ((D.tup f :: h) ++ n) (fun d => d) (fun d => .bl (rowV f.length d)) ?_ ?_ ?_
    · walk_at "w"
      refine o_addT (by simp only [List.length_cons, List.length_nil]; omega) ?_
      walk_at "w"
      refine o_addT (by simp only [List.length_cons, List.length_nil, List.length_append]; omega) ?_
      walk_at "w"
      simp
    · intro d hd
      refine ⟨_, rfl, ?_⟩
      have hgd := ga d hd
      refine ew_andB (x := tupB d && (itemsT d).all fun d => numB d 0 99) (y := decide ((itemsT d).length = f.length)) ?_ (fun e => ?_) ?_
      · walk_at "w"
        exact w_law_numbers hgd rfl
      · cases d with
        | tup r =>
          walk_at "w"
          rw [hin]; rfl
        | _ => cases e
      · rw [rowV, Bool.and_assoc]
        congr 2
        rw [Bool.and_comm]
    · walk_at "w"
      exact q
  | _ => cases e
end K83

set_option maxHeartbeats 1000000
/-! the plain law about loans: the greedy order -/
namespace K83
open Sv
theorem sum_erase (w : Nat → Int) {k : Nat} : ∀ {L : List Nat}, k ∈ L → (L.map w).sum = w k + ((L.erase k).map w).sum
  | x :: L, h => by
    by_cases hx : x = k
    · subst hx; simp
    · have hk : k ∈ L := by
        rcases List.mem_cons.mp h with h | h
        · exact absurd h.symm hx
        · exact h
      rw [List.erase_cons_tail (by simpa using hx)]
      simp only [List.map_cons, List.sum_cons, sum_erase w hk]
      omega
theorem sum_nonneg (w : Nat → Int) : ∀ {L : List Nat}, (∀ k ∈ L, 0 ≤ w k) → 0 ≤ (L.map w).sum
  | [], _ => by simp
  | x :: L, h => by
    have h1 := h x (by simp)
    have h2 := sum_nonneg w (L := L) fun k hk => h k (List.mem_cons_of_mem _ hk)
    simp only [List.map_cons, List.sum_cons]
    omega
theorem sum_le (w : Nat → Int) : ∀ {ks L : List Nat}, ks.Nodup → (∀ k ∈ ks, k ∈ L) → (∀ k ∈ L, 0 ≤ w k) → (ks.map w).sum ≤ (L.map w).sum
  | [], L, _, _, hL => by simpa using sum_nonneg w hL
  | k :: ks, L, hn, hs, hL => by
    obtain ⟨h1, h2⟩ := List.nodup_cons.mp hn
    rw [sum_erase w (hs k (by simp))]
    simp only [List.map_cons, List.sum_cons]
    have := sum_le w (ks := ks) (L := L.erase k) h2 (fun x hx => (List.mem_erase_of_ne (by rintro rfl; exact h1 hx)).mpr (hs x (List.mem_cons_of_mem _ hx))) fun x hx => hL x (List.mem_of_mem_erase hx)
    omega
/-- a loan whose numbers are not below zero -/
structure PosH (H : List Row) : Prop where
  pos : ∀ j k, 0 ≤ (H.getD j []).getD k 0
theorem pos_of {H : List Row} (h : ∀ r ∈ H, ∀ x ∈ r, (0 : Int) ≤ x) : PosH H := by
  refine ⟨fun j k => ?_⟩
  by_cases hj : j < H.length
  · have hm := List.mem_of_getElem? (getD_some (d := ([] : Row)) hj)
    by_cases hk : k < (H.getD j []).length
    · exact h _ hm _ (List.mem_of_getElem? (getD_some (d := (0 : Int)) hk))
    · rw [List.getD_eq_getElem?_getD (l := H.getD j []), List.getElem?_eq_none (by omega)]; exact Int.le_refl _
  · have : H.getD j [] = [] := by rw [List.getD_eq_getElem?_getD, List.getElem?_eq_none (by omega)]; rfl
    rw [this]; exact Int.le_refl _
def addAll (H : List Row) (F : Row) (ks : List Nat) : Row := ks.foldl (fun f k => addR f (H.getD k [])) F
section
variable {K : Nat} {F : Row} {H N : List Row}
theorem addAll_len (ok : Ok K F H N) : ∀ {ks : List Nat} {f : Row}, f.length = K → (∀ k ∈ ks, k < H.length) → (addAll H f ks).length = K
  | [], f, hf, _ => hf
  | k :: ks, f, hf, h => addAll_len ok (ks := ks) (addR_len hf (rowLen ok.h (h k (by simp)))) fun x hx => h x (List.mem_cons_of_mem _ hx)
theorem addAll_get (ok : Ok K F H N) {i : Nat} (hi : i < K) : ∀ {ks : List Nat} {f : Row}, f.length = K → (∀ k ∈ ks, k < H.length) → (addAll H f ks).getD i 0 = f.getD i 0 + (ks.map fun j => (H.getD j []).getD i 0).sum
  | [], f, hf, _ => by simp [addAll]
  | k :: ks, f, hf, h => by
    have lk := rowLen ok.h (h k (by simp))
    have e : addAll H f (k :: ks) = addAll H (addR f (H.getD k [])) ks := rfl
    rw [e, addAll_get ok hi (addR_len hf lk) fun x hx => h x (List.mem_cons_of_mem _ hx), addR_range hf lk, getD_map_range hi]
    simp only [List.map_cons, List.sum_cons]
    omega
theorem ends_append : ∀ {p q : List Nat} {f : Row}, ends H N (p ++ q) f = (ends H N p f && ends H N q (addAll H f p))
  | [], q, f => rfl
  | k :: p, q, f => by
    show (fits _ _ && ends H N (p ++ q) _) = _
    rw [ends_append, ends, Bool.and_assoc]
    rfl
theorem freed_get {g : List Nat} {i : Nat} (hi : i < K) : (freed H K F g).getD i 0 = F.getD i 0 + (((List.range H.length).filter fun j => !decide (j ∈ g)).map fun j => (H.getD j []).getD i 0).sum := by
  rw [freed, getD_map_range hi]
theorem fits_mono {n f g : Row} (hn : n.length = K) (hf : f.length = K) (hg : g.length = K) (h : ∀ i, i < K → f.getD i 0 ≤ g.getD i 0) (e : fits n f = true) : fits n g = true := by
  rw [fits_range hn hf, Bool.not_eq_true', List.any_eq_false] at e
  rw [fits_range hn hg, Bool.not_eq_true', List.any_eq_false]
  intro i hi
  have h1 := e i hi
  have h2 := h i (List.mem_range.mp hi)
  rw [decide_eq_true_iff] at h1 ⊢
  omega
/-- a group that none of can go -/
def Stk (H N : List Row) (K : Nat) (F : Row) (g : List Nat) : Prop := ∀ k ∈ g, k < H.length ∧ fits (N.getD k []) (freed H K F g) = false
/-- who goes is of no stuck group -/
theorem ends_out (ok : Ok K F H N) (po : PosH H) {g : List Nat} (hg : Stk H N K F g) : ∀ (q p : List Nat), (p ++ q).Nodup → (∀ k ∈ p ++ q, k < H.length) → (∀ k ∈ p, k ∉ g) → ends H N q (addAll H F p) = true → ∀ k ∈ q, k ∉ g
  | [], p, _, _, _, _ => by simp
  | a :: q, p, hn, hl, hp, he => by
    rw [ends, Bool.and_eq_true] at he
    have hpl : ∀ k ∈ p, k < H.length := fun k hk => hl k (List.mem_append_left _ hk)
    have hna : a ∉ g := fun hag => by
      obtain ⟨hal, hf⟩ := hg a hag
      have l1 := addAll_len ok ok.f hpl
      have : fits (N.getD a []) (freed H K F g) = true := fits_mono (rowLen ok.n (by rw [← ok.hn]; exact hal)) l1 freed_len (fun i hi => by
        rw [addAll_get ok hi ok.f hpl, freed_get hi]
        have := sum_le (fun j => (H.getD j []).getD i 0) (ks := p) (L := (List.range H.length).filter fun j => !decide (j ∈ g)) (List.nodup_append.mp hn).1 (fun k hk => List.mem_filter.mpr ⟨List.mem_range.mpr (hpl k hk), by simpa using hp k hk⟩) fun k _ => po.pos k i
        omega) he.1
      rw [this] at hf; cases hf
    have ih := ends_out ok po hg q (p ++ [a]) (by simpa using hn) (by simpa using hl) (fun k hk => by
      rcases List.mem_append.mp hk with h | h
      · exact hp k h
      · simp at h; subst h; exact hna) (by
      have : addAll H F (p ++ [a]) = addR (addAll H F p) (H.getD a []) := by simp [addAll, List.foldl_append]
      rw [this]; exact he.2)
    intro k hk
    rcases List.mem_cons.mp hk with h | h
    · rw [h]; exact hna
    · exact ih k h
/-- the state of the greedy way -/
structure GS (H N : List Row) (F : Row) (left : List Nat) (f : Row) (ord : List Nat) : Prop where
  nd : ord.Nodup
  lt : ∀ k ∈ ord, k < H.length
  left : left = (List.range H.length).filter fun j => !decide (j ∈ ord)
  en : ends H N ord F = true
  f : f = addAll H F ord
theorem GS.start : GS H N F (List.range H.length) F [] := ⟨by simp, by simp, by simp [List.filter_eq_self.mpr], rfl, rfl⟩
theorem GS.step {left : List Nat} {f : Row} {ord : List Nat} (s : GS H N F left f ord) {a : Nat} {rest : List Nat} (h : able N f left = a :: rest) : GS H N F (left.erase a) (addR f (H.getD a [])) (ord ++ [a]) := by
  have ha : a ∈ able N f left := by rw [h]; exact List.mem_cons_self
  obtain ⟨hal, hf⟩ := List.mem_filter.mp ha
  have hal2 := hal
  rw [s.left] at hal2
  obtain ⟨h1, h2⟩ := List.mem_filter.mp hal2
  have hno : a ∉ ord := by simpa using h2
  have hlt := List.mem_range.mp h1
  refine ⟨?_, ?_, ?_, ?_, ?_⟩
  · rw [List.nodup_append]
    refine ⟨s.nd, by simp, fun x hx y hy => ?_⟩
    simp at hy; subst hy
    rintro rfl
    exact hno hx
  · intro k hk
    rcases List.mem_append.mp hk with h | h
    · exact s.lt k h
    · simp at h; subst h; exact hlt
  · have nd : left.Nodup := by rw [s.left]; exact List.nodup_range.filter _
    rw [nd.erase_eq_filter, s.left, List.filter_filter]
    refine List.filter_congr fun x _ => ?_
    by_cases hx : x = a
    · subst hx; simp
    · simp [hx]
  · rw [ends_append, s.en, ← s.f]
    simp only [ends, Bool.true_and, Bool.and_true]
    exact hf
  · rw [s.f]; simp [addAll, List.foldl_append]
theorem greedy_true : ∀ (m : Nat) {left : List Nat} {f : Row} {ord o : List Nat}, GS H N F left f ord → left.length < m → greedy H N m left f ord = (true, o) → ∃ f', GS H N F [] f' o
  | 0, _, _, _, _, _, h, _ => absurd h (by omega)
  | m + 1, left, f, ord, o, s, hm, e => by
    cases left with
    | nil => cases e; exact ⟨f, s⟩
    | cons x xs =>
      rw [greedy] at e
      split at e
      · cases e
      · rename_i a rest ha
        have hmem : a ∈ x :: xs := by
          have : a ∈ able N f (x :: xs) := by rw [ha]; exact List.mem_cons_self
          exact (List.mem_filter.mp this).1
        exact greedy_true m (s.step ha) (by rw [List.length_erase_of_mem hmem]; simp at hm ⊢; omega) e
theorem greedy_false : ∀ (m : Nat) {left : List Nat} {f : Row} {ord l : List Nat}, GS H N F left f ord → left.length < m → greedy H N m left f ord = (false, l) → ∃ f' o, GS H N F l f' o ∧ l ≠ [] ∧ able N f' l = []
  | 0, _, _, _, _, _, h, _ => absurd h (by omega)
  | m + 1, left, f, ord, l, s, hm, e => by
    cases left with
    | nil => cases e
    | cons x xs =>
      rw [greedy] at e
      split at e
      · rename_i ha
        cases e
        exact ⟨f, ord, s, by simp, ha⟩
      · rename_i a rest ha
        have hmem : a ∈ x :: xs := by
          have : a ∈ able N f (x :: xs) := by rw [ha]; exact List.mem_cons_self
          exact (List.mem_filter.mp this).1
        exact greedy_false m (s.step ha) (by rw [List.length_erase_of_mem hmem]; simp at hm ⊢; omega) e
theorem GS.freed (ok : Ok K F H N) (po : PosH H) {left : List Nat} {f : Row} {ord : List Nat} (s : GS H N F left f ord) : f = freed H K F left := by
  have l1 : f.length = K := by rw [s.f]; exact addAll_len ok ok.f s.lt
  have l2 := freed_len (H := H) (K := K) (F := F) (g := left)
  refine List.ext_getElem (by rw [l1, l2]) fun i h1 h2 => ?_
  have hi : i < K := by rw [← l1]; exact h1
  have e : f.getD i 0 = (K83.freed H K F left).getD i 0 := by
    rw [freed_get hi, s.f, addAll_get ok hi ok.f s.lt]
    congr 1
    have mem : ∀ k, k ∈ ((List.range H.length).filter fun j => !decide (j ∈ left)) ↔ k ∈ ord := fun k => by
      rw [List.mem_filter, List.mem_range, s.left, Bool.not_eq_true', decide_eq_false_iff_not, List.mem_filter, List.mem_range]
      constructor
      · rintro ⟨h, h'⟩
        by_cases hk : k ∈ ord
        · exact hk
        · exact absurd ⟨h, by simpa using hk⟩ h'
      · intro h
        exact ⟨s.lt k h, fun ⟨_, h'⟩ => by simp [h] at h'⟩
    refine Int.le_antisymm ?_ ?_
    · exact sum_le _ s.nd (fun k hk => (mem k).mpr hk) fun k _ => po.pos k i
    · exact sum_le _ (List.nodup_range.filter _) (fun k hk => (mem k).mp hk) fun k _ => po.pos k i
  rw [List.getD_eq_getElem?_getD, List.getD_eq_getElem?_getD, List.getElem?_eq_getElem h1, List.getElem?_eq_getElem h2] at e
  exact e
theorem GS.stk (ok : Ok K F H N) (po : PosH H) {left : List Nat} {f : Row} {ord : List Nat} (s : GS H N F left f ord) (h : able N f left = []) : Stk H N K F left := by
  intro k hk
  refine ⟨?_, ?_⟩
  · rw [s.left] at hk
    exact List.mem_range.mp (List.mem_filter.mp hk).1
  · rw [← s.freed ok po]
    have := List.filter_eq_nil_iff.mp h k hk
    simpa using this
/-! ### the listings -/
def ext (n : Nat) : List Nat → Nat → List (List Nat)
  | p, 0 => [p]
  | p, m + 1 => ((List.range n).filter fun j => !decide (j ∈ p)).flatMap fun j => ext n (p ++ [j]) m
theorem orders_ext (n : Nat) : ∀ (m k : Nat), orders n (k + m) = (orders n k).flatMap fun p => ext n p m
  | 0, k => by
    show orders n k = _
    simp [ext]
  | m + 1, k => by
    have e : k + (m + 1) = (k + 1) + m := by omega
    rw [e, orders_ext n m (k + 1), orders, ordStep, ← List.flatMap_def, List.flatMap_assoc]
    congr 1
    funext p
    rw [List.flatMap_map]
    rfl
theorem ext_spec (n : Nat) : ∀ (m : Nat) (p q : List Nat), q ∈ ext n p m → (∃ r, q = p ++ r) ∧ (p.Nodup → q.Nodup) ∧ ((∀ k ∈ p, k < n) → ∀ k ∈ q, k < n) ∧ q.length = p.length + m
  | 0, p, q, h => by
    have : q = p := by simpa [ext] using h
    subst this
    exact ⟨⟨[], by simp⟩, id, id, rfl⟩
  | m + 1, p, q, h => by
    rw [ext, List.mem_flatMap] at h
    obtain ⟨j, hj, hq⟩ := h
    obtain ⟨h1, h2⟩ := List.mem_filter.mp hj
    have hjp : j ∉ p := by simpa using h2
    obtain ⟨⟨r, hr⟩, a, b, c⟩ := ext_spec n m (p ++ [j]) q hq
    refine ⟨⟨j :: r, by rw [hr]; simp⟩, fun hp => a ?_, fun hp => b ?_, by rw [c]; simp; omega⟩
    · rw [List.nodup_append]
      refine ⟨hp, by simp, fun x hx y hy => ?_⟩
      simp at hy; subst hy
      rintro rfl
      exact hjp hx
    · intro k hk
      rcases List.mem_append.mp hk with h | h
      · exact hp k h
      · simp at h; subst h; exact List.mem_range.mp h1
theorem find_ext (o : List Nat) : ∀ (m : Nat) {left : List Nat} {f : Row} {ord : List Nat}, GS H N F left f ord → left.length = m → greedy H N (m + 1) left f ord = (true, o) → (ext H.length ord m).find? (fun q => ends H N q F) = some o
  | 0, left, f, ord, s, hm, e => by
    have : left = [] := List.length_eq_zero_iff.mp hm
    subst this
    cases e
    simp [ext, s.en]
  | m + 1, left, f, ord, s, hm, e => by
    cases hleft : left with
    | nil => rw [hleft] at hm; cases hm
    | cons x xs =>
      have e2 := e
      rw [hleft, greedy] at e2
      split at e2
      · cases e2
      · rename_i a rest ha
        rw [← hleft] at ha e2
        obtain ⟨l1, l2, hl, hno, hyes, _⟩ := List.filter_eq_cons_iff.mp ha
        have hmem : a ∈ left := by rw [hl]; simp
        rw [ext, ← s.left, hl, List.flatMap_append, List.find?_append]
        have h1 : (l1.flatMap fun j => ext H.length (ord ++ [j]) m).find? (fun q => ends H N q F) = none := by
          rw [List.find?_eq_none]
          intro q hq
          obtain ⟨j, hj, hq⟩ := List.mem_flatMap.mp hq
          obtain ⟨⟨r, hr⟩, _⟩ := ext_spec H.length m (ord ++ [j]) q hq
          rw [hr, List.append_assoc, ends_append, ← s.f]
          have hf : fits (N.getD j []) f = false := Bool.eq_false_iff.mpr (hno j hj)
          have h0 : ends H N ([j] ++ r) f = false := by
            show (fits _ _ && _) = false
            rw [hf]; rfl
          rw [h0, Bool.and_false]
          decide
        rw [h1]
        simp only [Option.none_or, List.flatMap_cons, List.find?_append]
        rw [find_ext o m (s.step ha) (by rw [List.length_erase_of_mem hmem]; omega) e2]
        rfl
/-- distinct numbers below n, n of them: all -/
theorem full {n : Nat} {q : List Nat} (h1 : q.Nodup) (h2 : ∀ k ∈ q, k < n) (h3 : q.length = n) {k : Nat} (hk : k < n) : k ∈ q := by
  by_cases h : k ∈ q
  · exact h
  · exfalso
    have := sum_le (fun _ => 1) (ks := q) (L := (List.range n).erase k) h1 (fun x hx => (List.mem_erase_of_ne (by rintro rfl; exact h hx)).mpr (List.mem_range.mpr (h2 x hx))) (fun _ _ => by omega)
    have ones : ∀ l : List Nat, (l.map fun _ => (1 : Int)).sum = l.length := fun l => by
      induction l with
      | nil => rfl
      | cons x l ih => simp only [List.map_cons, List.sum_cons, List.length_cons, ih]; omega
    rw [ones, ones, List.length_erase_of_mem (List.mem_range.mpr hk), List.length_range, h3] at this
    omega
theorem sets_filter (p : Nat → Bool) : ∀ n, (List.range n).filter p ∈ sets n
  | 0 => by simp [sets]
  | n + 1 => by
    rw [List.range_succ, List.filter_append, sets, List.mem_append]
    have ih := sets_filter p n
    cases hp : p n with
    | true => exact .inr (List.mem_map.mpr ⟨_, ih, by simp [hp]⟩)
    | false => exact .inl (by simpa [hp] using ih)
theorem sets_lt : ∀ n, ∀ g ∈ sets n, ∀ k ∈ g, k < n
  | 0, g, h, k, hk => by simp [sets] at h; subst h; cases hk
  | n + 1, g, h, k, hk => by
    rcases List.mem_append.mp (show g ∈ sets n ++ (sets n).map fun r => r ++ [n] from h) with h | h
    · have := sets_lt n g h k hk; omega
    · obtain ⟨r, hr, rfl⟩ := List.mem_map.mp h
      rcases List.mem_append.mp hk with h | h
      · have := sets_lt n r hr k h; omega
      · simp at h; omega
/-! ### the law about it -/
abbrev gr (F : Row) (H N : List Row) : Bool × List Nat := greedy H N (H.length + 1) (List.range H.length) F []
def fine (F : Row) (H N : List Row) : List (List Nat) := (orders H.length H.length).filter fun q => ends H N q F
def groups (F : Row) (H N : List Row) (K : Nat) : List (List Nat) := (sets H.length).filter fun g => stuckB F H N K g
theorem orders_all {n : Nat} {q : List Nat} (h : q ∈ orders n n) : q.Nodup ∧ (∀ k ∈ q, k < n) ∧ q.length = n := by
  have e := orders_ext n n 0
  rw [Nat.zero_add] at e
  rw [e] at h
  simp only [orders, List.flatMap_cons, List.flatMap_nil, List.append_nil] at h
  obtain ⟨_, a, b, c⟩ := ext_spec n n [] q h
  exact ⟨a (by simp), b (by simp), by simpa using c⟩
theorem stk_of {g : List Nat} (h1 : g ∈ sets H.length) (h2 : stuckB F H N K g = true) : Stk H N K F g := by
  intro k hk
  refine ⟨sets_lt _ g h1 k hk, ?_⟩
  rw [stuckB, Bool.and_eq_true, List.all_eq_true] at h2
  simpa using h2.2 k hk
theorem safe_case (ok : Ok K F H N) (po : PosH H) {o : List Nat} (h : gr F H N = (true, o)) : (fine F H N).head? = some o ∧ groups F H N K = [] := by
  refine ⟨?_, ?_⟩
  · rw [fine, List.head?_filter]
    have e := orders_ext H.length H.length 0
    rw [Nat.zero_add] at e
    rw [e]
    simp only [orders, List.flatMap_cons, List.flatMap_nil, List.append_nil]
    exact find_ext o H.length GS.start (by simp) h
  · rw [groups, List.filter_eq_nil_iff]
    intro g hg hs
    obtain ⟨f', s⟩ := greedy_true _ GS.start (by simp) h
    have hst := stk_of hg hs
    have out := ends_out ok po hst o [] (by simpa using s.nd) (by simpa using s.lt) (by simp) s.en
    rw [stuckB, Bool.and_eq_true, decide_eq_true_iff] at hs
    obtain ⟨k, hk⟩ := List.exists_mem_of_length_pos hs.1
    have hkl := (hst k hk).1
    have : k ∈ o := by
      by_cases h : k ∈ o
      · exact h
      · have : k ∈ ([] : List Nat) := by rw [s.left]; exact List.mem_filter.mpr ⟨List.mem_range.mpr hkl, by simpa using h⟩
        cases this
    exact out k this hk
theorem stuck_case (ok : Ok K F H N) (po : PosH H) {l : List Nat} (h : gr F H N = (false, l)) : fine F H N = [] ∧ l ∈ groups F H N K ∧ ((List.range H.length).filter fun j => (groups F H N K).any fun g => decide (j ∈ g)) = l ∧ (∀ k ∈ l, k < H.length) := by
  obtain ⟨f', o, s, hne, ha⟩ := greedy_false _ GS.start (by simp) h
  have hst := s.stk ok po ha
  have hlg : l ∈ groups F H N K := by
    refine List.mem_filter.mpr ⟨by rw [s.left]; exact sets_filter _ _, ?_⟩
    rw [stuckB, Bool.and_eq_true, decide_eq_true_iff, List.all_eq_true]
    exact ⟨List.length_pos_iff.mpr hne, fun k hk => (by rw [(hst k hk).2]; rfl)⟩
  refine ⟨?_, hlg, ?_, fun k hk => (hst k hk).1⟩
  · rw [fine, List.filter_eq_nil_iff]
    intro q hq he
    obtain ⟨a, b, c⟩ := orders_all hq
    obtain ⟨k, hk⟩ := List.exists_mem_of_length_pos (List.length_pos_iff.mpr hne)
    exact ends_out ok po hst q [] (by simpa using a) (by simpa using b) (by simp) he k (full a b c (hst k hk).1) hk
  · conv => rhs; rw [s.left]
    refine List.filter_congr fun j hj => ?_
    rw [Bool.eq_iff_iff]
    simp only [List.any_eq_true, decide_eq_true_iff, Bool.not_eq_true', decide_eq_false_iff_not]
    constructor
    · rintro ⟨g, hg, hjg⟩ hjo
      obtain ⟨hg1, hg2⟩ := List.mem_filter.mp hg
      exact ends_out ok po (stk_of hg1 hg2) o [] (by simpa using s.nd) (by simpa using s.lt) (by simp) s.en j hjo hjg
    · intro hjo
      exact ⟨l, hlg, by rw [s.left]; exact List.mem_filter.mpr ⟨hj, by simpa using hjo⟩⟩
/-- more free, less needed: safe stays safe -/
theorem safe_mono {F' : Row} {N' : List Row} (ok : Ok K F H N) (ok' : Ok K F' H N') (po : PosH H) (hF : ∀ i, i < K → F.getD i 0 ≤ F'.getD i 0) (hN : ∀ j i, j < H.length → i < K → (N'.getD j []).getD i 0 ≤ (N.getD j []).getD i 0) (h : (gr F H N).1 = true) : (gr F' H N').1 = true := by
  cases e' : gr F' H N' with
  | mk b l =>
    cases b with
    | true => rfl
    | false =>
      exfalso
      cases e : gr F H N with
      | mk b o =>
        rw [e] at h
        cases (show b = true from h)
        obtain ⟨f1, s⟩ := greedy_true _ GS.start (by simp) e
        obtain ⟨f2, o2, s2, hne, ha⟩ := greedy_false _ GS.start (by simp) e'
        have hst := s2.stk ok' po ha
        -- the group is stuck for the lesser loan too
        have hst2 : Stk H N K F l := fun k hk => by
          obtain ⟨hkl, hf⟩ := hst k hk
          refine ⟨hkl, ?_⟩
          rw [Bool.eq_false_iff]
          intro hfit
          have hkN : k < N.length := by rw [← ok.hn]; exact hkl
          have hkN' : k < N'.length := by rw [← ok'.hn]; exact hkl
          have l1 := rowLen ok.n hkN
          have l2 := rowLen ok'.n hkN'
          rw [fits_range l1 freed_len, Bool.not_eq_true', List.any_eq_false] at hfit
          rw [fits_range l2 freed_len, Bool.not_eq_false', List.any_eq_true] at hf
          obtain ⟨i, hi, hlt⟩ := hf
          have hiK := List.mem_range.mp hi
          have h1 := hfit i hi
          rw [decide_eq_true_iff] at h1 hlt
          rw [freed_get hiK] at h1 hlt
          have h2 := hF i hiK
          have h3 := hN k i hkl hiK
          omega
        have out := ends_out ok po hst2 o [] (by simpa using s.nd) (by simpa using s.lt) (by simp) s.en
        obtain ⟨k, hk⟩ := List.exists_mem_of_length_pos (List.length_pos_iff.mpr hne)
        have : k ∈ o := by
          by_cases h : k ∈ o
          · exact h
          · have : k ∈ ([] : List Nat) := by rw [s.left]; exact List.mem_filter.mpr ⟨List.mem_range.mpr (hst k hk).1, by simpa using h⟩
            cases this
        exact out k this hk
end
end K83

set_option maxHeartbeats 1000000
/-! k83: drawn loans, askings, the law -/
namespace K83
open Sv
open PySem (Str PyData)
local macro_rules | `(tactic| walk_at "w") => `(tactic| (repeat' (first | with_reducible (first | refine sw_seq ?_ | refine sw_set ?_ | refine sw_new ?_ | refine sw_asg ?_ | refine sw_rt ?_ | refine sw_ret ?_ | refine sw_if ?_ | refine sw_par ?_ | refine sw_nx ?_ | refine sw_exprM ?_ | refine kw_nil ?_ | refine kw_frz ?_ | refine kw_new ?_ | refine ew_con ?_ | refine ew_bin ?_ | refine ew_un ?_ | refine ew_tup ?_ | refine ew_lst ?_ | refine ew_fn ?_ | refine ew_call ?_ | refine ew_callO ?_ | refine ew_if ?_ | refine ew_not ?_ | refine ew_chain ?_ | refine ew_slice ?_ | refine ow_none ?_ | refine ow_some ?_ | refine tw_bl ?_ | refine tw_of ?_ | refine tw_not ?_ | refine tw_yes ?_ | refine aw_nil ?_ | refine aw_cons ?_ | refine iw_seq ?_ | refine iw_enum ?_ | refine iw_zip ?_) | refine ew_var rfl ?_ | refine ew_bor rfl ?_ | refine ew_borO rfl ?_ | refine o_eqI ?_ | refine o_neI ?_ | refine o_lt ?_ | refine o_gt ?_ | refine o_le ?_ | refine o_ge ?_ | refine o_all ?_ | refine o_any ?_ | refine o_sum ?_ | refine o_addI ?_ | refine o_subI ?_ | refine o_lenT ?_ | refine o_lenL ?_ | refine o_tupL ?_ | refine o_tupT ?_ | refine o_listL ?_ | refine o_listT ?_ | refine o_negI ?_ | refine o_intI ?_ | refine o_slT ?_ | refine o_slL ?_ | refine o_revT ?_ | refine o_revL ?_ | refine x_int ?_ | refine x_bl ?_ | refine x_tb ?_ | refine x_itT ?_ | refine x_itL ?_ | refine x_rt ?_)))
structure Drawn (K M : Nat) (most : Int) (F : Row) (H N : List Row) : Prop where
  lf : F.length = K
  lh : H.length = M
  ln : N.length = M
  lhr : ∀ r ∈ H, r.length = K
  lnr : ∀ r ∈ N, r.length = K
  f : ∀ x ∈ F, 0 ≤ x ∧ x < most
  h : ∀ r ∈ H, ∀ x ∈ r, 0 ≤ x ∧ x < most
  n : ∀ r ∈ N, ∀ x ∈ r, 0 ≤ x ∧ x < most + 1
theorem Drawn.ok {K M : Nat} {most : Int} {F : Row} {H N : List Row} (d : Drawn K M most F H N) (hK : K ≤ 100) (hM : M ≤ 100) : Ok K F H N := ⟨d.lf, by rw [d.lh, d.ln], d.lhr, d.lnr, hK, by rw [d.lh]; exact hM⟩
theorem all_of {β : Type} {P : β → Prop} {n : Nat} {ys : List β} (hl : ys.length = n) (h : ∀ (i : Nat) x y, (List.range n)[i]? = some x → ys[i]? = some y → P y) : ∀ y ∈ ys, P y := fun y hy => by
  obtain ⟨i, hi, rfl⟩ := List.getElem_of_mem hy
  exact h i i _ (by rw [List.getElem?_range (by omega)]) (List.getElem?_eq_getElem hi)
theorem w_row {ρ : Rho} {K : Nat} {m : Int} {i j l : Nat} {f : Ex} (hK : K ≤ 16777216) (h0 : 0 < m) (h1 : m < 2 ^ 30) (ei : ∀ d, (wipeR ρ [l]).set l (.frz d) = ((wipeR ρ [l]).set l (.frz d))) (eK : ρ[i]? = some (.frz (nE K))) (et : ∀ d, ((wipeR ρ [l]).set l (Sl.frz d))[j]? = some (.frz (.tok 0))) (em : ∀ d, Ew f ((wipeR ρ [l]).set l (Sl.frz d)) fun z => z = .int m) {Q : D → Prop}
    (q : ∀ r : Row, r.length = K → (∀ x ∈ r, 0 ≤ x ∧ x < m) → Q (tI r)) : Ew (eFn tupleD (aCons (eLc (iRange (aCons (eVar i) (aNil))) (gNm l) (tYes') (eCall drawF (aCons (eVar j) (aCons f (aNil)))) [l]) aNil)) ρ Q := by
  refine ew_fn (aw_cons ?_)
  refine ew_lcK (List.range K) nE D.int (fun _ y => 0 ≤ y ∧ y < m) (iw_rangeN K (aw_cons (ew_var eK (aw_nil ⟨rfl, hK, rfl⟩)))) (fun k _ => ⟨_, rfl, ?_⟩) fun ys hl hp => aw_nil (o_tupL (q ys (by simpa using hl) (all_of (by simpa using hl) hp)))
  refine ew_call (aw_cons (ew_var (et _) (aw_cons ((em _).mono fun z ez => ?_))))
  rw [ez]
  exact aw_nil (fw_draw h0 h1 fun i h2 h3 => ⟨i, rfl, h2, h3⟩)
theorem w_law_loan {K M : Nat} {most : Int} {Q : D → Prop} (hK : K ≤ 100) (hM : M ≤ 100) (h0 : 0 < most) (h1 : most < 1000) (q : ∀ F H N, Drawn K M most F H N → Q (eL F H N)) : Fw f_law_loan [.tok 0, nE K, nE M, .int most] Q := by
  refine fw_rt ?_
  refine sw_seq (sw_set (w_row (K := K) (m := most) (by omega) h0 (by omega) (fun _ => rfl) rfl (fun _ => rfl) (fun _ => ew_var rfl rfl) fun F lf hf => ?_))
  refine sw_seq (sw_set (ew_fn (aw_cons ?_)))
  refine ew_lcK (List.range M) nE tI (fun _ (r : Row) => r.length = K ∧ ∀ x ∈ r, 0 ≤ x ∧ x < most) (iw_rangeN M (aw_cons (ew_var rfl (aw_nil ⟨rfl, by omega, rfl⟩)))) (fun j _ => ⟨_, rfl, w_row (K := K) (m := most) (by omega) h0 (by omega) (fun _ => rfl) rfl (fun _ => rfl) (fun _ => ew_var rfl rfl) fun r lr hr => ⟨r, rfl, lr, hr⟩⟩) fun H lh hh => aw_nil (o_tupL ?_)
  have hH := all_of (P := fun r : Row => r.length = K ∧ ∀ x ∈ r, 0 ≤ x ∧ x < most) (by simpa using lh) hh
  refine sw_rt (ew_tup (aw_cons (ew_var rfl (aw_cons (ew_var rfl (aw_cons ?_))))))
  refine ew_fn (aw_cons ?_)
  refine ew_lcK (List.range M) nE tI (fun _ (r : Row) => r.length = K ∧ ∀ x ∈ r, 0 ≤ x ∧ x < most + 1) (iw_rangeN M (aw_cons (ew_var rfl (aw_nil ⟨rfl, by omega, rfl⟩)))) (fun j _ => ⟨_, rfl, w_row (K := K) (m := most + 1) (by omega) (by omega) (by omega) (fun _ => rfl) rfl (fun _ => rfl) (fun _ => ew_bin (ew_bor rfl (ew_con (o_addI rfl)))) fun r lr hr => ⟨r, rfl, lr, hr⟩⟩) fun N ln hn => aw_nil (o_tupL (aw_nil ?_))
  have hN := all_of (P := fun r : Row => r.length = K ∧ ∀ x ∈ r, 0 ≤ x ∧ x < most + 1) (by simpa using ln) hn
  exact q F H N ⟨lf, by simpa using lh, by simpa using ln, fun r hr => (hH r hr).1, fun r hr => (hN r hr).1, hf, fun r hr => (hH r hr).2, fun r hr => (hN r hr).2⟩
/-! ### askings -/
def subR (f r : Row) : Row := (f.zip r).map fun p => p.1 - p.2
theorem subR_range {f r : Row} {K : Nat} (h1 : f.length = K) (h2 : r.length = K) : subR f r = (List.range K).map fun k => f.getD k 0 - r.getD k 0 := zip_range 0 0 (fun x y : Int => x - y) h1 h2
theorem sIx_zero (n : Nat) : HT.sIx n 0 none = 0 := by simp [HT.sIx]
theorem sIx_end (n : Nat) : HT.sIx n n none = n := by simp [HT.sIx]
theorem cut_to (xs : List D) (k : Nat) : cutD xs none (some (k : Int)) = xs.take k := by
  have : HT.sIx xs.length xs.length (some (k : Int)) = min k xs.length := by simp [HT.sIx]; omega
  rw [cutD, sIx_zero, this, List.drop_zero, Nat.sub_zero]
  rcases Nat.le_total k xs.length with h | h
  · rw [Nat.min_eq_left h]
  · rw [Nat.min_eq_right h, List.take_of_length_le (Nat.le_refl _), List.take_of_length_le h]
theorem cut_from (xs : List D) (k : Nat) : cutD xs (some (k : Int)) none = xs.drop k := by
  have : HT.sIx xs.length 0 (some (k : Int)) = min k xs.length := by simp [HT.sIx]; omega
  rw [cutD, sIx_end, this]
  rcases Nat.le_total k xs.length with h | h
  · rw [Nat.min_eq_left h, List.take_of_length_le (by rw [List.length_drop]; omega)]
  · rw [Nat.min_eq_right h, List.drop_of_length_le h, List.drop_of_length_le (Nat.le_refl _)]; simp
theorem cut_set {xs : List D} {k : Nat} {d : D} (h : k < xs.length) : xs.take k ++ [d] ++ xs.drop (k + 1) = xs.set k d := by
  rw [List.set_eq_take_append_cons_drop, if_pos h]; simp
theorem w_after {K : Nat} {F : Row} {H N : List Row} {p : Nat} {r : Row} {Q : D → Prop} (ok : Ok K F H N) (hp : p < H.length) (q : Q (eL (subR F r) (H.set p (addR (H.getD p []) r)) (N.set p (subR (N.getD p []) r)))) : Fw f_after_asking [eL F H N, nE p, tI r] Q := by
  have hpN : p < N.length := by rw [← ok.hn]; exact hp
  have hs := ok.s
  have hs2 : N.length ≤ 100 := by rw [← ok.hn]; exact hs
  have hsz : (3000000 : Nat) ≤ PySem.sizeLine := by rw [PySem.sizeLine_eq]; omega
  have e1 : (H.map tI).take p ++ [tI (addR (H.getD p []) r)] ++ (H.map tI).drop (p + 1) = (H.set p (addR (H.getD p []) r)).map tI := by
    rw [cut_set (by rw [List.length_map]; exact hp), List.map_set]
  have e2 : (N.map tI).take p ++ [tI (subR (N.getD p []) r)] ++ (N.map tI).drop (p + 1) = (N.set p (subR (N.getD p []) r)).map tI := by
    rw [cut_set (by rw [List.length_map]; exact hpN), List.map_set]
  have e3 : D.tup (((N.getD p []).zip r).map fun p => .int (p.1 - p.2)) = tI (subR (N.getD p []) r) := by simp only [tI, subR, List.map_map]; rfl
  have e4 : D.tup ((F.zip r).map fun p => .int (p.1 - p.2)) = tI (subR F r) := by simp only [tI, subR, List.map_map]; rfl
  have e5 : ((p : Int) + 1) = ((p + 1 : Nat) : Int) := by omega
  have q : Q (.tup [tI (subR F r), .tup ((H.set p (addR (H.getD p []) r)).map tI), .tup ((N.set p (subR (N.getD p []) r)).map tI)]) := q
  refine fw_rt ?_
  refine sw_seq (sw_asg (ew_var rfl ⟨_, rfl, ?_⟩))
  refine sw_seq (sw_set (ew_fn (aw_cons ?_)))
  refine ew_lcM ((N.getD p []).zip r) (fun p => .tup [.int p.1, .int p.2]) (fun p => .int (p.1 - p.2)) ?_ ?_ ?_
  · refine iw_zip (ew_bin (ew_bor rfl (ew_var rfl (o_ixTn (e := tI) (k := p) (getD_some (d := []) hpN) (ew_var rfl ⟨_, rfl, zipD_map _ _ _ _⟩)))))
  · exact fun x _ => ⟨_, rfl, ew_bin (ew_bor rfl (ew_bor rfl (o_subI rfl)))⟩
  refine aw_nil (o_tupL ?_)
  rw [e3]
  refine sw_seq (sw_set (ew_call (aw_cons (ew_bin (ew_bor rfl (ew_var rfl (o_ixTn (e := tI) (k := p) (getD_some (d := []) hp) (aw_cons (ew_var rfl (aw_nil (w_added ?_)))))))))))
  have hl : ∀ (X : List D) (a : D), X.length ≤ 100 → (X.take p).length + [a].length ≤ PySem.sizeLine ∧ (X.take p ++ [a]).length + (X.drop (p + 1)).length ≤ PySem.sizeLine := fun X a h => by
    rw [List.length_append, List.length_take, List.length_drop]; simp only [List.length_cons, List.length_nil]; omega
  refine sw_seq (sw_set (ew_bin (ew_bin (ew_slice (ew_bor rfl (ow_none (ow_some (ew_var rfl ⟨_, rfl, o_slT ?_⟩))))))))
  rw [cut_to]
  refine ew_tup (aw_cons (ew_var rfl (aw_nil (o_addT (hl _ _ (by simpa using hs)).1 (ew_slice (ew_bor rfl (ow_some (ew_bin (ew_bor rfl (ew_con (o_addI ⟨_, rfl, ow_none (o_slT ?_)⟩)))))))))))
  rw [e5, cut_from]
  refine o_addT (hl _ _ (by simpa using hs)).2 ?_
  rw [e1]
  generalize (H.set p (addR (H.getD p []) r)).map tI = HH at q
  refine sw_seq (sw_set (ew_bin (ew_bin (ew_slice (ew_bor rfl (ow_none (ow_some (ew_var rfl ⟨_, rfl, o_slT ?_⟩))))))))
  rw [cut_to]
  refine ew_tup (aw_cons (ew_var rfl (aw_nil (o_addT (hl _ _ (by simpa using hs2)).1 (ew_slice (ew_bor rfl (ow_some (ew_bin (ew_bor rfl (ew_con (o_addI ⟨_, rfl, ow_none (o_slT ?_)⟩)))))))))))
  rw [e5, cut_from]
  refine o_addT (hl _ _ (by simpa using hs2)).2 ?_
  rw [e2]
  generalize (N.set p (subR (N.getD p []) r)).map tI = NN at q
  refine sw_rt (ew_tup (aw_cons (ew_fn (aw_cons ?_))))
  refine ew_lcM (F.zip r) (fun p => .tup [.int p.1, .int p.2]) (fun p => .int (p.1 - p.2)) ?_ ?_ ?_
  · exact iw_zip (ew_var rfl (ew_var rfl ⟨_, rfl, zipD_map _ _ _ _⟩))
  · exact fun x _ => ⟨_, rfl, ew_bin (ew_bor rfl (ew_bor rfl (o_subI rfl)))⟩
  refine aw_nil (o_tupL ?_)
  rw [e4]
  exact aw_cons (ew_var rfl (aw_cons (ew_var rfl (aw_nil q))))
theorem ok_set {K : Nat} {F F' : Row} {H N : List Row} {p : Nat} {a b : Row} (ok : Ok K F H N) (hF : F'.length = K) (ha : a.length = K) (hb : b.length = K) : Ok K F' (H.set p a) (N.set p b) :=
  ⟨hF, by simp [ok.hn], fun r hr => by rcases List.mem_or_eq_of_mem_set hr with h | h; exact ok.h r h; rw [h]; exact ha, fun r hr => by rcases List.mem_or_eq_of_mem_set hr with h | h; exact ok.n r h; rw [h]; exact hb, ok.k, by simpa using ok.s⟩
theorem w_grant {K : Nat} {F : Row} {H N : List Row} {p : Nat} {r : Row} {Q : D → Prop} (ok : Ok K F H N) (hr : r.length = K) (hp : p < H.length) (q : Q (.bl (fits r F && (gr (subR F r) (H.set p (addR (H.getD p []) r)) (N.set p (subR (N.getD p []) r))).1))) : Fw f_may_grant [eL F H N, nE p, tI r] Q := by
  have lp := rowLen ok.h hp
  have lq := rowLen ok.n (by rw [← ok.hn]; exact hp)
  have ok' : Ok K (subR F r) (H.set p (addR (H.getD p []) r)) (N.set p (subR (N.getD p []) r)) := ok_set ok (by rw [subR_range ok.f hr]; simp) (addR_len lp hr) (by rw [subR_range lq hr]; simp)
  refine fw_rt ?_
  walk_at "w"
  refine ew_andB (x := fits r F) (y := (gr (subR F r) (H.set p (addR (H.getD p []) r)) (N.set p (subR (N.getD p []) r))).1) ?_ (fun _ => ?_) q
  · walk_at "w"
    exact w_fits rfl
  · walk_at "w"
    refine w_after ok hp ?_
    walk_at "w"
    refine w_safe ok'.hn ok'.s ?_
    simp only [gr]
    generalize greedy (H.set p (addR (H.getD p []) r)) (N.set p (subR (N.getD p []) r)) ((H.set p (addR (H.getD p []) r)).length + 1) (List.range (H.set p (addR (H.getD p []) r)).length) (subR F r) [] = g
    obtain ⟨b, l⟩ := g
    refine ew_con (.of (r := .str (if b = true then "order" else "stuck")) rfl (ew_con ?_))
    cases b
    · exact ⟨.bl false, by decide +kernel, rfl⟩
    · exact ⟨.bl true, by decide +kernel, rfl⟩
end K83

set_option maxHeartbeats 1000000
/-! k83: the law, step by step -/
namespace K83
open Sv
open PySem (Str PyData)
local macro_rules | `(tactic| walk_at "w") => `(tactic| (repeat' (first | with_reducible (first | refine sw_seq ?_ | refine sw_set ?_ | refine sw_new ?_ | refine sw_asg ?_ | refine sw_rt ?_ | refine sw_ret ?_ | refine sw_if ?_ | refine sw_par ?_ | refine sw_nx ?_ | refine sw_exprM ?_ | refine kw_nil ?_ | refine kw_frz ?_ | refine kw_new ?_ | refine ew_con ?_ | refine ew_bin ?_ | refine ew_un ?_ | refine ew_tup ?_ | refine ew_lst ?_ | refine ew_fn ?_ | refine ew_call ?_ | refine ew_callO ?_ | refine ew_if ?_ | refine ew_not ?_ | refine ew_chain ?_ | refine ew_slice ?_ | refine ow_none ?_ | refine ow_some ?_ | refine tw_bl ?_ | refine tw_of ?_ | refine tw_not ?_ | refine tw_yes ?_ | refine aw_nil ?_ | refine aw_cons ?_ | refine iw_seq ?_ | refine iw_enum ?_ | refine iw_zip ?_) | refine ew_var rfl ?_ | refine ew_bor rfl ?_ | refine ew_borO rfl ?_ | refine o_eqI ?_ | refine o_neI ?_ | refine o_lt ?_ | refine o_gt ?_ | refine o_le ?_ | refine o_ge ?_ | refine o_all ?_ | refine o_any ?_ | refine o_sum ?_ | refine o_addI ?_ | refine o_subI ?_ | refine o_lenT ?_ | refine o_lenL ?_ | refine o_tupL ?_ | refine o_tupT ?_ | refine o_listL ?_ | refine o_listT ?_ | refine o_negI ?_ | refine o_intI ?_ | refine o_slT ?_ | refine o_slL ?_ | refine o_revT ?_ | refine o_revL ?_ | refine x_int ?_ | refine x_bl ?_ | refine x_tb ?_ | refine x_itT ?_ | refine x_itL ?_ | refine x_rt ?_)))
theorem same_eq : ∀ n, f_law_same n = f_same n
  | 0 => rfl
  | n + 1 => by
    show runF 3 (s_law_same (f_law_same n)) = runF 3 (s_same (f_same n))
    rw [same_eq n]
theorem bent_eq : ∀ n, f_law_bent n = f_bent n
  | 0 => rfl
  | n + 1 => by
    show runF 4 (s_law_bent (f_law_bent n)) = runF 4 (s_bent (f_bent n))
    rw [bent_eq n]
theorem w_ls {a b : D} {Q : D → Prop} (ha : gd a = true) (hb : gd b = true) (hd : a.dep < 40) (q : Q (.bl (decide (a = b)))) : Fw (f_law_same 40) [a, b] Q := by
  rw [same_eq]; exact w_same 40 ha hb hd q
/-- not same(a, a): no -/
theorem t_ls {a b : D} {ρ : Rho} {f g : Ex} {Q : Bool → Prop} (ha : Ew f ρ fun d => d = a) (hb : Ew g ρ fun d => d = b) (h : a = b) (hg : gd a = true) (hd : a.dep < 40) (q : Q false) : Tw (tNot (tOf (eCall (f_law_same 40) (aCons f (aCons g aNil))))) ρ Q := by
  subst h
  refine tw_not (tw_of (ew_call (aw_cons (ha.mono fun x ex => ?_))))
  subst ex
  refine aw_cons (hb.mono fun y ey => ?_)
  subst ey
  exact aw_nil (w_ls hg hg hd ⟨true, by simp [truthD], q⟩)
abbrev R (x2 x3 w p l n fi g s v vs ri he ro th en mo : Sl) : Rho := [.emp, .frz (.tok 0), x2, x3, w, p, l, n, fi, g, s, v, vs, ri, he, ro, th, en, mo, .emp, .emp, .emp, .emp, .emp, .emp, .emp, .emp]
section
variable {x2 x3 w p l n fi g s v vs ri he ro th en mo : Sl} {K : Nat} {F : Row} {H N : List Row} {Q : Fl → Rho → Prop}
theorem idx_numbers {n : Nat} {v : D} : (tupB v && (itemsT v).all fun d => numB d 0 ((n : Int) - 1)) = idxB n v := by
  cases v <;> rfl
theorem st_B (ok : Ok K F H N) {d : D} (hd : Vd d) (q : ∀ ri, Q .nx (R x2 x3 w p (.frz (eL F H N)) (.frz (nE H.length)) fi g s (.frz d) vs ri he ro th en mo)) : Sw (sSeq L12 L13) (R x2 x3 w p (.frz (eL F H N)) (.frz (nE H.length)) fi g s (.frz d) vs ri he ro th en mo) Q := by
  refine sw_seq (sw_set ?_)
  refine ew_andB (x := idxB H.length d) (y := srtB (nats d) H.length && ends H N (nats d) F) ?_ (fun e => ?_) ?_
  · refine ew_call (aw_cons (ew_var rfl (aw_cons (ew_var rfl (aw_nil (w_law_numbers hd.1 ?_))))))
    rw [idx_numbers]
  · obtain ⟨e1, hlt⟩ := idx_of e
    generalize nats d = ks at e1 hlt ⊢
    subst e1
    refine ew_andB (x := srtB ks H.length) (y := ends H N ks F) ?_ (fun _ => ?_) rfl
    · refine ew_bin (ew_fn (aw_cons (ew_bor rfl (aw_nil (o_sortT ?_)))))
      refine ew_fn (aw_cons (ew_var rfl (aw_nil ⟨_, rlD_nat (by have := ok.s; omega), o_eqSrt rfl⟩)))
    · refine ew_call (aw_cons (ew_var rfl (aw_cons (ew_var rfl (aw_nil ?_)))))
      exact w_ends (w := .tup) ok rfl hlt rfl
  · refine sw_if (t_ls (a := .bl (safeV F H N d)) (b := .bl (safeV F H N d)) ?_ (ew_var rfl rfl) rfl rfl (by simp [D.dep]) ⟨fun e => (by cases e), fun _ => sw_nx (q _)⟩)
    exact ew_call (aw_cons (ew_var rfl (aw_cons (ew_var rfl (aw_nil (w_is_safe ok hd.1 rfl))))))
theorem asc_not {ks : List Nat} : (!(List.range (ks.length - 1)).any fun k => decide (ks.getD (k + 1) 0 ≤ ks.getD k 0)) = asc ks := by
  rw [asc, List.not_any_eq_all_not]
  congr 1
  funext k
  by_cases h : ks.getD k 0 < ks.getD (k + 1) 0
  · rw [decide_eq_true h, decide_eq_false (by omega)]; rfl
  · rw [decide_eq_false h, decide_eq_true (by omega)]; rfl
theorem iw_less {ρ : Rho} {f : Ex} {m : Nat} (hm : m ≤ 1000000) (h : Ew f ρ fun d => d = .int ((m : Int) - 1)) : Iw (iRange (aCons f aNil)) ρ fun ds => ds = (List.range (m - 1)).map nE := by
  by_cases h0 : m = 0
  · refine iw_range (aw_cons (h.mono fun d e => aw_nil ⟨(m : Int) - 1, [], by rw [e], ?_, ?_⟩))
    · rw [h0]; rfl
    · rw [h0]; rfl
  · refine iw_rangeN (m - 1) (aw_cons (h.mono fun d e => aw_nil ⟨?_, by omega, rfl⟩))
    rw [e]
    congr 2
    omega
theorem st_C (ok : Ok K F H N) {d : D} (hd : Vd d) {ww : PySem.Str} (hw : w = .frz (.str ww)) (hno : ww = "order" → ∀ ks : List Nat, (∀ k ∈ ks, k < H.length) → asc ks = true → stuckB F H N K ks = false) (hw2 : ww = "order" ∨ ww = "stuck")
    (q : ∀ ri, Q .nx (R x2 x3 w p (.frz (eL F H N)) (.frz (nE H.length)) fi g s (.frz d) vs ri he ro th en mo)) : Sw (sSeq L16 L17) (R x2 x3 w p (.frz (eL F H N)) (.frz (nE H.length)) fi g s (.frz d) vs ri he ro th en mo) Q := by
  subst hw
  refine sw_seq (sw_set ?_)
  refine ew_andB (x := idxB H.length d) (y := asc (nats d) && stuckB F H N K (nats d)) ?_ (fun e => ?_) ?_
  · refine ew_call (aw_cons (ew_var rfl (aw_cons (ew_var rfl (aw_nil (w_law_numbers hd.1 ?_))))))
    rw [idx_numbers]
  · have hln : (nats d).length ≤ 1000000 := by
      cases d with
      | tup xs => simp only [nats, List.length_map]; exact (gd_tup.mp hd.1).1
      | _ => simp [nats]
    obtain ⟨e1, hlt⟩ := idx_of e
    generalize nats d = ks at e1 hlt hln ⊢
    subst e1
    refine ew_andB (x := asc ks) (y := stuckB F H N K ks) ?_ (fun _ => ?_) rfl
    · refine ew_not (ew_fn (aw_cons ?_))
      refine ew_lcM (List.range (ks.length - 1)) nE (fun k => .bl (decide (ks.getD (k + 1) 0 ≤ ks.getD k 0))) ?_ ?_ ?_
      · refine iw_less hln (ew_bin (ew_fn (aw_cons (ew_bor rfl (aw_nil (o_lenT (ew_con (o_subI ?_))))))))
        rw [List.length_map]
      · intro k hk
        have hk := List.mem_range.mp hk
        refine ⟨_, rfl, ?_⟩
        refine ew_bin (ew_bin (ew_bor rfl (ew_var rfl (o_ixTn (e := nE) (k := k) (getD_some (d := 0) (by omega)) ?_))))
        refine ew_bin (ew_bor rfl (ew_bin (ew_bor rfl (ew_con (o_addI (o_ixTn (e := nE) (k := k + 1) (getD_some (d := 0) (by omega)) (o_ge ?_)))))))
        congr 1
        by_cases h : ks.getD (k + 1) 0 ≤ ks.getD k 0
        · rw [decide_eq_true h, decide_eq_true (by omega)]
        · rw [decide_eq_false h, decide_eq_false (by omega)]
      · exact aw_nil (o_any ⟨_, rfl, by rw [asc_not]⟩)
    · exact ew_call (aw_cons (ew_var rfl (aw_cons (ew_var rfl (aw_nil (w_lstuck ok hlt rfl))))))
  · refine sw_if (tw_or (t_ls (a := .bl (stuckV F H N K d)) (b := .bl (stuckV F H N K d)) ?_ (ew_var rfl rfl) rfl rfl (by simp [D.dep]) ⟨fun e => (by cases e), fun _ => ?_⟩))
    · exact ew_call (aw_cons (ew_var rfl (aw_cons (ew_var rfl (aw_nil (w_is_stuck ok hd.1 (by have := hd.2; omega) rfl))))))
    · refine tw_and (tw_of (ew_bor rfl ⟨stuckV F H N K d, rfl, fun e => ?_, fun _ => ⟨fun e => (by cases e), fun _ => sw_nx (q _)⟩⟩))
      have hst : ww = "stuck" := by
        rcases hw2 with h | h
        · exfalso
          rw [stuckV, Bool.and_eq_true, Bool.and_eq_true] at e
          rw [hno h _ (idx_of e.1).2 e.2.1] at e
          cases e.2.2
        · exact h
      subst hst
      exact tw_bl (ew_bin (ew_bor rfl (ew_con ⟨.bl false, by decide +kernel, x_bl ⟨fun e => (by cases e), fun _ => sw_nx (q _)⟩⟩)))
theorem st_D {d : D} (hd : Vd d) (q : Q .nx (R x2 x3 w p l n fi g s (.frz d) vs ri he ro th en mo)) : Sw L21 (R x2 x3 w p l n fi g s (.frz d) vs ri he ro th en mo) Q := by
  refine sw_if (t_ls (a := .bl (loanV d)) (b := .bl (loanV d)) ?_ ?_ rfl rfl (by simp [D.dep]) ⟨fun e => (by cases e), fun _ => sw_nx q⟩)
  · exact ew_call (aw_cons (ew_var rfl (aw_nil (w_is_loan hd.1 rfl))))
  · exact ew_call (aw_cons (ew_var rfl (aw_nil (w_law_is_loan hd.1 rfl))))
end

/-! ### the values that are asked about -/
def Ed (d : D) : Prop := gd d = true ∧ d.dep ≤ 11
theorem vd_tup {xs : List D} (hl : xs.length ≤ 1000000) (h : ∀ d ∈ xs, Ed d) : Vd (.tup xs) := ⟨gd_tup.mpr ⟨hl, fun d hd => (h d hd).1⟩, dep_tup fun d hd => (h d hd).2⟩
theorem ed_tup {xs : List D} {n : Nat} (hl : xs.length ≤ 1000000) (h : ∀ d ∈ xs, gd d = true ∧ d.dep ≤ n) (hn : n ≤ 10) : Ed (.tup xs) := ⟨gd_tup.mpr ⟨hl, fun d hd => (h d hd).1⟩, Nat.le_trans (dep_tup fun d hd => (h d hd).2) (by omega)⟩
theorem ed_int (i : Int) : Ed (.int i) := ⟨rfl, by simp [D.dep]⟩
theorem all_nE {ks : List Nat} : ∀ d ∈ ks.map nE, Ed d := fun d hd => by obtain ⟨k, _, rfl⟩ := List.mem_map.mp hd; exact ed_int _
theorem iw_bent {ρ : Rho} {m i j st : Nat} {v : D} (hm : m ≤ 100) (hb : bs v = true) (hd : v.dep ≤ 10) (e1 : ∀ d, ((wipeR ρ [st]).set st (Sl.frz d))[i]? = some (.frz (.tok 0))) (e2 : ∀ d, ((wipeR ρ [st]).set st (Sl.frz d))[j]? = some (.frz v)) {Q : D → Prop}
    (q : ∀ rs : List D, rs.length = m → (∀ d ∈ rs, Vd d) → Q (.lst rs)) : Ew (eLc (iRange (aCons (eCon (.int (m : Nat))) (aNil))) (gNm st) (tYes') (eCall (f_law_bent 40) (aCons (eVar i) (aCons (eVar j) (aNil)))) [st]) ρ Q := by
  refine ew_lcV Vd ((List.range m).map nE) (iw_rangeN m (aw_cons (ew_con (aw_nil ⟨rfl, by omega, rfl⟩)))) (fun d _ => ⟨_, rfl, ?_⟩) fun rs hl hv => q rs (by simpa using hl) hv
  refine ew_call (aw_cons (ew_var (e1 _) (aw_cons (ew_var (e2 _) (aw_nil ?_)))))
  rw [bent_eq]
  exact w_bent 40 hb (by omega) fun w hw => ⟨hw.1, by have := hw.2; omega⟩
theorem bs_tN {ks : List Nat} (hl : ks.length ≤ 1000) (hk : ∀ k ∈ ks, k < 1000) : bs (tN ks) = true := bs_map hl fun k hk2 => by
  have := hk k hk2
  simp only [nE, bs, decide_eq_true_iff]
  omega
theorem dep_tN {ks : List Nat} : (tN ks).dep ≤ 1 := dep_map fun _ _ => Nat.le_refl _
section
variable {x2 x3 w p l n fi g s v vs ri he ro th en mo : Sl} {K : Nat} {F : Row} {H N : List Row} {Q : Fl → Rho → Prop}
theorem st_L14 (ok : Ok K F H N) (hn : H.length ≤ 12) {ks : List Nat} (hl : ks.length ≤ 12) (hk : ∀ k ∈ ks, k < 1000) (q : ∀ v ri, Q .nx (R x2 x3 w p (.frz (eL F H N)) (.frz (nE H.length)) fi g (.frz (tN ks)) v vs ri he ro th en mo)) : Sw L14 (R x2 x3 w p (.frz (eL F H N)) (.frz (nE H.length)) fi g (.frz (tN ks)) v vs ri he ro th en mo) Q := by
  have hsz : (3000000 : Nat) ≤ PySem.sizeLine := by rw [PySem.sizeLine_eq]; omega
  refine sw_forV Vd (fun ρ => ∃ v ri, ρ = R x2 x3 w p (.frz (eL F H N)) (.frz (nE H.length)) fi g (.frz (tN ks)) v vs ri he ro th en mo) ?_ ⟨v, ri, rfl⟩ ?_ ?_
  · refine iw_seq (ew_bin (ew_lst ?_))
    walk_at "w"
    refine o_addT (by rw [List.length_map]; simp only [List.length_cons, List.length_nil]; omega) ?_
    walk_at "w"
    refine ⟨.tup (List.replicate H.length [D.bl true]).flatten, ?_, ?_⟩
    · simp only [opMul]
      rw [if_pos ⟨by omega, by omega, by simp⟩]
      rfl
    refine aw_nil ?_
    refine iw_bent (m := 5) (by omega) (bs_tN (by omega) hk) (Nat.le_trans dep_tN (by omega)) (fun _ => rfl) (fun _ => rfl) fun rs hrl hrs => ?_
    refine o_addL (by simp only [List.length_cons, List.length_nil]; omega) ⟨_, rfl, fun d hd => ?_⟩
    have hks : ∀ d ∈ ks.map nE, Ed d := all_nE
    rcases List.mem_append.mp hd with h | h
    · simp only [List.mem_cons, List.not_mem_nil, or_false] at h
      rcases h with rfl | rfl | rfl | rfl | rfl | rfl | rfl | rfl
      · exact vd_tup (by rw [List.length_map]; omega) hks
      · exact vd_tup (by rw [List.length_reverse, List.length_map]; omega) fun d hd => hks d (List.mem_reverse.mp hd)
      · exact vd_tup (by have := cutD_len (ks.map nE) (some 1) none; rw [List.length_map] at this; omega) fun d hd => hks d (cutD_sub d hd)
      · refine vd_tup (by rw [List.length_append, List.length_map]; simp only [List.length_cons, List.length_nil]; omega) fun d hd => ?_
        rcases List.mem_append.mp hd with h | h
        · exact hks d h
        · simp at h; subst h; exact ed_int _
      · exact ⟨rfl, by simp [D.dep, D.depL]⟩
      · exact ⟨rfl, by simp [D.dep]⟩
      · exact ⟨rfl, by simp [D.dep]⟩
      · refine vd_tup (by simp; omega) fun d hd => ?_
        simp at hd
        rw [hd.2]
        exact ⟨rfl, by simp [D.dep]⟩
    · exact hrs d h
  · rintro d _ hd ⟨v, ri, rfl⟩
    exact ⟨_, rfl, st_B ok hd fun ri => ⟨.frz d, ri, rfl⟩⟩
  · rintro _ ⟨v, ri, rfl⟩
    exact q v ri
theorem st_L18 (ok : Ok K F H N) (hn : H.length ≤ 12) {ks : List Nat} {gs : List (List Nat)} (hgl : gs.length ≤ 100000) (hgs : ∀ g ∈ gs, g.length ≤ 12) (hl : ks.length ≤ 12) (hk : ∀ k ∈ ks, k < 1000) {ww : PySem.Str} (hw : w = .frz (.str ww)) (hno : ww = "order" → ∀ ks : List Nat, (∀ k ∈ ks, k < H.length) → asc ks = true → stuckB F H N K ks = false) (hw2 : ww = "order" ∨ ww = "stuck")
    (q : ∀ v ri, Q .nx (R x2 x3 w p (.frz (eL F H N)) (.frz (nE H.length)) fi (.frz (.lst (gs.map tN))) (.frz (tN ks)) v vs ri he ro th en mo)) : Sw L18 (R x2 x3 w p (.frz (eL F H N)) (.frz (nE H.length)) fi (.frz (.lst (gs.map tN))) (.frz (tN ks)) v vs ri he ro th en mo) Q := by
  have hsz : (3000000 : Nat) ≤ PySem.sizeLine := by rw [PySem.sizeLine_eq]; omega
  refine sw_forV Vd (fun ρ => ∃ v ri, ρ = R x2 x3 w p (.frz (eL F H N)) (.frz (nE H.length)) fi (.frz (.lst (gs.map tN))) (.frz (tN ks)) v vs ri he ro th en mo) ?_ ⟨v, ri, rfl⟩ ?_ ?_
  · have hcl := cutD_len (gs.map tN) none (some 3)
    rw [List.length_map] at hcl
    walk_at "w"
    refine o_addL (by simp only [List.length_cons, List.length_nil]; omega) ?_
    refine iw_bent (m := 5) (by omega) (bs_tN (by omega) hk) (Nat.le_trans dep_tN (by omega)) (fun _ => rfl) (fun _ => rfl) fun rs hrl hrs => ?_
    refine o_addL (by rw [List.length_append]; simp only [List.length_cons, List.length_nil]; omega) ⟨_, rfl, fun d hd => ?_⟩
    have hks : ∀ d ∈ ks.map nE, Ed d := all_nE
    rcases List.mem_append.mp hd with h | h
    · rcases List.mem_append.mp h with h | h
      · obtain ⟨g0, hg0, rfl⟩ := List.mem_map.mp (cutD_sub d h)
        exact vd_tup (by rw [List.length_map]; have := hgs g0 hg0; omega) all_nE
      simp only [List.mem_cons, List.not_mem_nil, or_false] at h
      rcases h with rfl | rfl | rfl | rfl | rfl | rfl | rfl | rfl
      · exact vd_tup (by rw [List.length_map]; omega) hks
      · exact vd_tup (by have := cutD_len (ks.map nE) (some 1) none; rw [List.length_map] at this; omega) fun d hd => hks d (cutD_sub d hd)
      · exact vd_tup (by have := cutD_len (ks.map nE) none (some (-1)); rw [List.length_map] at this; omega) fun d hd => hks d (cutD_sub d hd)
      · exact vd_tup (by rw [List.length_reverse, List.length_map]; omega) fun d hd => hks d (List.mem_reverse.mp hd)
      · exact ⟨rfl, by simp [D.dep, D.depL]⟩
      · exact ⟨rfl, by simp [D.dep]⟩
      · exact ⟨rfl, by simp [D.dep]⟩
      · exact vd_tup (by simp) fun d hd => by simp at hd; subst hd; exact ed_int _
    · exact hrs d h
  · rintro d _ hd ⟨v, ri, rfl⟩
    exact ⟨_, rfl, st_C ok hd hw hno hw2 fun ri => ⟨.frz d, ri, rfl⟩⟩
  · rintro _ ⟨v, ri, rfl⟩
    exact q v ri
end
end K83

set_option maxHeartbeats 1000000
/-! k83: the law, its second half -/
namespace K83
open Sv
open PySem (Str PyData)
local macro_rules | `(tactic| walk_at "w") => `(tactic| (repeat' (first | with_reducible (first | refine sw_seq ?_ | refine sw_set ?_ | refine sw_new ?_ | refine sw_asg ?_ | refine sw_rt ?_ | refine sw_ret ?_ | refine sw_if ?_ | refine sw_par ?_ | refine sw_nx ?_ | refine sw_exprM ?_ | refine kw_nil ?_ | refine kw_frz ?_ | refine kw_new ?_ | refine ew_con ?_ | refine ew_bin ?_ | refine ew_un ?_ | refine ew_tup ?_ | refine ew_lst ?_ | refine ew_fn ?_ | refine ew_call ?_ | refine ew_callO ?_ | refine ew_if ?_ | refine ew_not ?_ | refine ew_chain ?_ | refine ew_slice ?_ | refine ow_none ?_ | refine ow_some ?_ | refine tw_bl ?_ | refine tw_of ?_ | refine tw_not ?_ | refine tw_yes ?_ | refine aw_nil ?_ | refine aw_cons ?_ | refine iw_seq ?_ | refine iw_enum ?_ | refine iw_zip ?_) | refine ew_var rfl ?_ | refine ew_bor rfl ?_ | refine ew_borO rfl ?_ | refine o_eqI ?_ | refine o_neI ?_ | refine o_lt ?_ | refine o_gt ?_ | refine o_le ?_ | refine o_ge ?_ | refine o_all ?_ | refine o_any ?_ | refine o_sum ?_ | refine o_addI ?_ | refine o_subI ?_ | refine o_lenT ?_ | refine o_lenL ?_ | refine o_tupL ?_ | refine o_tupT ?_ | refine o_listL ?_ | refine o_listT ?_ | refine o_negI ?_ | refine o_intI ?_ | refine o_slT ?_ | refine o_slL ?_ | refine o_revT ?_ | refine o_revL ?_ | refine x_int ?_ | refine x_bl ?_ | refine x_tb ?_ | refine x_itT ?_ | refine x_itL ?_ | refine x_rt ?_)))
theorem gd_tI {r : Row} (h : r.length ≤ 1000) : gd (tI r) = true := gd_map (by omega) fun _ _ => rfl
theorem dep_tI {r : Row} : (tI r).dep ≤ 1 := dep_map fun _ _ => Nat.le_refl _
theorem gd_rows {H : List Row} (hl : H.length ≤ 1000) (h : ∀ r ∈ H, r.length ≤ 1000) : gd (.tup (H.map tI)) = true := gd_map (by omega) fun r hr => gd_tI (h r hr)
theorem dep_rows {H : List Row} : (D.tup (H.map tI)).dep ≤ 2 := dep_map fun _ _ => dep_tI
theorem ed_row {r : Row} (h : r.length ≤ 1000) : Ed (tI r) := ⟨gd_tI h, Nat.le_trans dep_tI (by omega)⟩
theorem ed_rows {H : List Row} (hl : H.length ≤ 1000) (h : ∀ r ∈ H, r.length ≤ 1000) : Ed (.tup (H.map tI)) := ⟨gd_rows hl h, Nat.le_trans dep_rows (by omega)⟩
section
variable {x2 x3 w p l n fi g s v vs ri he ro th en mo : Sl} {K : Nat} {F : Row} {H N : List Row} {Q : Fl → Rho → Prop}
theorem ok_small (ok : Ok K F H N) : F.length ≤ 1000 ∧ H.length ≤ 1000 ∧ N.length ≤ 1000 ∧ (∀ r ∈ H, r.length ≤ 1000) ∧ ∀ r ∈ N, r.length ≤ 1000 := by
  have := ok.k
  have := ok.s
  have e := ok.f
  have e2 := ok.hn
  exact ⟨by omega, by omega, by omega, fun r hr => by have := ok.h r hr; omega, fun r hr => by have := ok.n r hr; omega⟩
theorem ed_parts (ok : Ok K F H N) : ∀ d ∈ [tI F, D.tup (H.map tI), D.tup (N.map tI)], Ed d := by
  obtain ⟨a, b, c, d, e⟩ := ok_small ok
  intro z hz
  simp only [List.mem_cons, List.not_mem_nil, or_false] at hz
  rcases hz with rfl | rfl | rfl
  · exact ed_row a
  · exact ed_rows b d
  · exact ed_rows c e
theorem dep_eL : (eL F H N).dep ≤ 3 := dep_tup fun z hz => by
  simp only [List.mem_cons, List.not_mem_nil, or_false] at hz
  rcases hz with rfl | rfl | rfl
  · exact Nat.le_trans dep_tI (by omega)
  · exact dep_rows
  · exact dep_rows
theorem vd_loan (ok : Ok K F H N) : Vd (eL F H N) := vd_tup (by simp) (ed_parts ok)
theorem bs_loan {K M : Nat} {most : Int} {F : Row} {H N : List Row} (dr : Drawn K M most F H N) (hK : K ≤ 100) (hM : M ≤ 100) (hm : most ≤ 1000) : bs (eL F H N) = true := by
  have row : ∀ r : Row, r.length ≤ 100 → (∀ x ∈ r, 0 ≤ x ∧ x < most + 1) → bs (tI r) = true := fun r hr hx => bs_map (by omega) fun x hx2 => by
    have := hx x hx2
    simp only [bs, decide_eq_true_iff]
    omega
  have h1 := dr.lf
  have h2 := dr.lh
  have h3 := dr.ln
  rw [eL, bs_tup]
  refine ⟨by simp, fun z hz => ?_⟩
  simp only [List.mem_cons, List.not_mem_nil, or_false] at hz
  rcases hz with rfl | rfl | rfl
  · exact row F (by omega) fun x hx => by have := dr.f x hx; omega
  · exact bs_map (by omega) fun r hr => row r (by rw [dr.lhr r hr]; exact hK) fun x hx => by have := dr.h r hr x hx; omega
  · exact bs_map (by omega) fun r hr => row r (by rw [dr.lnr r hr]; exact hK) fun x hx => dr.n r hr x hx
theorem st_values (ok : Ok K F H N) (hb : bs (eL F H N) = true) {rest : SS} (q : ∀ v vs, Sw rest (R x2 x3 w p (.frz (eL F H N)) n fi g s v vs ri he ro th en mo) Q) : Sw (sSeq L19 (sSeq L20 (sSeq L22 rest))) (R x2 x3 w p (.frz (eL F H N)) n fi g s v vs ri he ro th en mo) Q := by
  have hsz : (3000000 : Nat) ≤ PySem.sizeLine := by rw [PySem.sizeLine_eq]; omega
  obtain ⟨la, lb, lc, ld, le⟩ := ok_small ok
  have hep := ed_parts ok
  have hcut := cutD_len (H.map tI) none (some 1)
  rw [List.length_map] at hcut
  refine sw_seq (sw_set (ew_lst ?_))
  walk_at "w"
  refine o_addT (by rw [List.length_map]; omega) ?_
  walk_at "w"
  refine sw_forV Vd (fun ρ => ∃ v vs, ρ = R x2 x3 w p (.frz (eL F H N)) n fi g s v vs ri he ro th en mo) ?_ ⟨v, _, rfl⟩ ?_ ?_
  · refine iw_seq (ew_bin (ew_bor rfl ?_))
    refine iw_bent (m := 6) (by omega) hb (Nat.le_trans dep_eL (by omega)) (fun _ => rfl) (fun _ => rfl) fun rs hrl hrs => ?_
    refine o_addL (by simp only [List.length_append, List.length_cons, List.length_nil]; omega) ⟨_, rfl, fun d hd => ?_⟩
    rcases List.mem_append.mp hd with h | h
    · simp only [List.cons_append, List.nil_append, List.mem_cons, List.not_mem_nil, or_false] at h
      rcases h with rfl | rfl | rfl | rfl | rfl | rfl | rfl | rfl | rfl | rfl
      · exact vd_loan ok
      · exact vd_tup (by have := cutD_len [tI F, D.tup (H.map tI), D.tup (N.map tI)] none (some 2); simp only [List.length_cons, List.length_nil] at this; omega) fun d hd => hep d (cutD_sub d hd)
      · exact vd_tup (by simp) fun d hd => hep d (List.mem_reverse.mp hd)
      · refine vd_tup (by have := cutD_len [tI F, D.tup (H.map tI), D.tup (N.map tI)] (some 1) none; simp only [List.length_cons, List.length_nil] at this ⊢; omega) fun d hd => ?_
        rcases List.mem_cons.mp hd with h | h
        · rw [h]; exact ⟨rfl, by simp [D.dep, D.depL]⟩
        · exact hep d (cutD_sub d h)
      · refine vd_tup (by simp) fun d hd => ?_
        simp only [List.mem_cons, List.not_mem_nil, or_false] at hd
        rcases hd with rfl | rfl | rfl
        · exact ed_row la
        · refine ed_tup (n := 1) (by rw [List.length_append, List.length_map]; omega) (fun d hd => ?_) (by omega)
          have : d ∈ H.map tI := by
            rcases List.mem_append.mp hd with h | h
            · exact h
            · exact cutD_sub d h
          obtain ⟨r, hr, rfl⟩ := List.mem_map.mp this
          exact ⟨gd_tI (ld r hr), dep_tI⟩
        · exact ed_rows lc le
      · exact ⟨by decide +kernel, by decide +kernel⟩
      · exact ⟨by decide +kernel, by decide +kernel⟩
      · exact ⟨by decide +kernel, by decide +kernel⟩
      · exact ⟨by decide +kernel, by decide +kernel⟩
      · exact ⟨by decide +kernel, by decide +kernel⟩
    · exact hrs d h
  · rintro d _ hd ⟨v, vs, rfl⟩
    exact ⟨_, rfl, st_D hd ⟨.frz d, vs, rfl⟩⟩
  · rintro _ ⟨v, vs, rfl⟩
    exact q v vs
/-! ### the asking -/
theorem getD_set {α : Type} {xs : List α} {p j : Nat} {a d : α} (hp : p < xs.length) : (xs.set p a).getD j d = if j = p then a else xs.getD j d := by
  simp only [List.getD_eq_getElem?_getD]
  by_cases h : j = p
  · subst h; rw [List.getElem?_set_self hp]; simp
  · rw [List.getElem?_set_ne (fun e => h e.symm)]; simp [h]
theorem there_rows {H : List Row} {r : Row} {p : Nat} {K : Nat} {op : Row → Row → Row} {f : Int → Int → Int} (hop : ∀ a b : Row, a.length = K → b.length = K → op a b = (List.range K).map fun k => f (a.getD k 0) (b.getD k 0)) (f0 : ∀ x, f x 0 = x) (hH : ∀ r ∈ H, r.length = K) (hr : r.length = K) (hp : p < H.length) :
    (List.range H.length).map (fun j => (List.range K).map fun k => f ((H.getD j []).getD k 0) (if j = p then r.getD k 0 else 0)) = H.set p (op (H.getD p []) r) := by
  apply List.ext_getElem
  · simp
  · intro j h1 h2
    have hj : j < H.length := by simpa using h1
    have lj := rowLen hH hj
    rw [List.getElem_map, List.getElem_range]
    by_cases h : j = p
    · subst h
      simp only [if_true]
      rw [List.getElem_set_self, hop _ _ lj hr]
    · simp only [h, if_false, f0]
      rw [List.getElem_set_ne (fun e => h e.symm)]
      have e : H.getD j [] = H[j] := by rw [List.getD_eq_getElem?_getD, List.getElem?_eq_getElem hj]; rfl
      rw [e] at lj ⊢
      apply List.ext_getElem
      · simp [lj]
      · intro k k1 k2
        simp [List.getElem?_eq_getElem k2]
theorem st_there (ok : Ok K F H N) {r : Row} (hr : r.length = K) {p0 : Nat} (hp : p0 < H.length) (q : Q .nx (R x2 x3 w p (.frz (eL F H N)) (.frz (nE H.length)) fi g s v vs ri (.frz (nE p0)) (.frz (tI r)) (.frz (eL (subR F r) (H.set p0 (addR (H.getD p0 []) r)) (N.set p0 (subR (N.getD p0 []) r)))) en mo)) : Sw L25 (R x2 x3 w p (.frz (eL F H N)) (.frz (nE H.length)) fi g s v vs ri (.frz (nE p0)) (.frz (tI r)) th en mo) Q := by
  have hs := ok.s
  have hk := ok.k
  have hpN : p0 < N.length := by rw [← ok.hn]; exact hp
  refine sw_set (ew_tup (aw_cons (ew_fn (aw_cons ?_))))
  have hiw : ∀ {ρ : Rho}, ρ[15]? = some (.frz (tI r)) → Iw (iRange (aCons (eFn lenD (aCons (eBor 15) aNil)) (aNil))) ρ fun ds => ds = (List.range K).map nE := fun {ρ} e => iw_rangeN K (aw_cons (ew_fn (aw_cons (ew_bor e (aw_nil (o_lenT (aw_nil ⟨by rw [List.length_map, hr], by omega, rfl⟩)))))))
  refine ew_lcM (List.range K) nE (fun k => .int (F.getD k 0 - r.getD k 0)) (hiw rfl) (fun k hk2 => ⟨_, rfl, ?_⟩) ?_
  · have hk2 := List.mem_range.mp hk2
    refine ew_bin (ew_bin (ew_bin (ew_bor rfl (ew_con ⟨_, rfl, ew_var rfl (o_ixTn (e := D.int) (k := k) (getD_some (d := 0) (by rw [ok.f]; exact hk2)) ?_)⟩))))
    exact ew_bin (ew_bor rfl (ew_var rfl (o_ixTn (e := D.int) (k := k) (getD_some (d := 0) (by omega)) (o_subI rfl))))
  refine aw_nil (o_tupL (aw_cons (ew_fn (aw_cons ?_))))
  refine ew_lcM (List.range H.length) nE (fun j => tI ((List.range K).map fun k => (H.getD j []).getD k 0 + (if j = p0 then r.getD k 0 else 0))) (iw_rangeN H.length (aw_cons (ew_var rfl (aw_nil ⟨rfl, by omega, rfl⟩)))) (fun j hj => ⟨_, rfl, ?_⟩) ?_
  · have hj := List.mem_range.mp hj
    have lj := rowLen ok.h hj
    refine ew_fn (aw_cons ?_)
    refine ew_lcM (List.range K) nE (fun k => .int ((H.getD j []).getD k 0 + (if j = p0 then r.getD k 0 else 0))) (hiw rfl) (fun k hk2 => ⟨_, rfl, ?_⟩) ?_
    · have hk2 := List.mem_range.mp hk2
      refine ew_bin (ew_bin (ew_bin (ew_bin (ew_bor rfl (ew_con ⟨_, rfl, ew_var rfl (o_ixTn (e := tI) (k := j) (getD_some (d := []) hj) (ew_var rfl (o_ixTn (e := D.int) (xs := H.getD j []) (k := k) (getD_some (d := 0) (by omega)) ?_)))⟩)))))
      refine ew_if (tw_bl (ew_bin (ew_bor rfl (ew_bor rfl (o_eqI (x_bl ⟨fun e => ?_, fun e => ?_⟩))))))
      · have e : j = p0 := by have := of_decide_eq_true e; omega
        rw [if_pos e]
        exact ew_bin (ew_bor rfl (ew_var rfl (o_ixTn (e := D.int) (k := k) (getD_some (d := 0) (by omega)) (o_addI rfl))))
      · have e : ¬ j = p0 := by have := of_decide_eq_false e; omega
        rw [if_neg e]
        exact ew_con (o_addI rfl)
    · refine aw_nil (o_tupL ?_)
      simp only [tI, List.map_map]; rfl
  refine aw_nil (o_tupL (aw_cons (ew_fn (aw_cons ?_))))
  refine ew_lcM (List.range N.length) nE (fun j => tI ((List.range K).map fun k => (N.getD j []).getD k 0 - (if j = p0 then r.getD k 0 else 0))) (iw_rangeN N.length (aw_cons (ew_var rfl (aw_nil ⟨by rw [ok.hn], by rw [← ok.hn]; omega, rfl⟩)))) (fun j hj => ⟨_, rfl, ?_⟩) ?_
  · have hj := List.mem_range.mp hj
    have lj := rowLen ok.n hj
    refine ew_fn (aw_cons ?_)
    refine ew_lcM (List.range K) nE (fun k => .int ((N.getD j []).getD k 0 - (if j = p0 then r.getD k 0 else 0))) (hiw rfl) (fun k hk2 => ⟨_, rfl, ?_⟩) ?_
    · have hk2 := List.mem_range.mp hk2
      refine ew_bin (ew_bin (ew_bin (ew_bin (ew_bor rfl (ew_con ⟨_, rfl, ew_var rfl (o_ixTn (e := tI) (k := j) (getD_some (d := []) hj) (ew_var rfl (o_ixTn (e := D.int) (xs := N.getD j []) (k := k) (getD_some (d := 0) (by omega)) ?_)))⟩)))))
      refine ew_if (tw_bl (ew_bin (ew_bor rfl (ew_bor rfl (o_eqI (x_bl ⟨fun e => ?_, fun e => ?_⟩))))))
      · have e : j = p0 := by have := of_decide_eq_true e; omega
        rw [if_pos e]
        exact ew_bin (ew_bor rfl (ew_var rfl (o_ixTn (e := D.int) (k := k) (getD_some (d := 0) (by omega)) (o_subI rfl))))
      · have e : ¬ j = p0 := by have := of_decide_eq_false e; omega
        rw [if_neg e]
        exact ew_con (o_subI rfl)
    · refine aw_nil (o_tupL ?_)
      simp only [tI, List.map_map]; rfl
  refine aw_nil (o_tupL (aw_nil ?_))
  have e1 := there_rows (op := addR) (f := fun x y => x + y) (p := p0) (fun a b ha hb => addR_range ha hb) (fun x => by omega) ok.h hr hp
  have e2 := there_rows (op := subR) (f := fun x y => x - y) (p := p0) (fun a b ha hb => subR_range ha hb) (fun x => by omega) ok.n hr hpN
  have e3 : D.tup ((List.range K).map fun k => .int (F.getD k 0 - r.getD k 0)) = tI (subR F r) := by rw [subR_range ok.f hr]; simp only [tI, List.map_map]; rfl
  have e4 : D.tup ((List.range H.length).map fun j => tI ((List.range K).map fun k => (H.getD j []).getD k 0 + (if j = p0 then r.getD k 0 else 0))) = D.tup ((H.set p0 (addR (H.getD p0 []) r)).map tI) := by rw [← e1, List.map_map]; rfl
  have e5 : D.tup ((List.range N.length).map fun j => tI ((List.range K).map fun k => (N.getD j []).getD k 0 - (if j = p0 then r.getD k 0 else 0))) = D.tup ((N.set p0 (subR (N.getD p0 []) r)).map tI) := by rw [← e2, List.map_map]; rfl
  rw [e3, e4, e5]
  exact q
theorem iw_rowlen (ok : Ok K F H N) {r : Row} (hr : r.length = K) {ρ : Rho} (e : ρ[15]? = some (.frz (tI r))) : Iw (iRange (aCons (eFn lenD (aCons (eBor 15) aNil)) (aNil))) ρ fun ds => ds = (List.range K).map nE :=
  iw_rangeN K (aw_cons (ew_fn (aw_cons (ew_bor e (aw_nil (o_lenT (aw_nil ⟨by rw [List.length_map, hr], by have := ok.k; omega, rfl⟩)))))))
theorem st_row (ok : Ok K F H N) (hN : ∀ r ∈ N, ∀ x ∈ r, 0 ≤ x ∧ x < 1000) {p0 : Nat} (hp : p0 < H.length) (q : ∀ r : Row, r.length = K → (∀ x ∈ r, 0 ≤ x) → Q .nx (R x2 x3 w p (.frz (eL F H N)) n fi g s v vs ri (.frz (nE p0)) (.frz (tI r)) th en mo)) : Sw L24 (R x2 x3 w p (.frz (eL F H N)) n fi g s v vs ri (.frz (nE p0)) ro th en mo) Q := by
  have hpN : p0 < N.length := by rw [← ok.hn]; exact hp
  have hm := List.mem_of_getElem? (getD_some (d := ([] : Row)) hpN)
  refine sw_set (ew_fn (aw_cons ?_))
  refine ew_lcK (N.getD p0 []) D.int D.int (fun _ y => 0 ≤ y) ?_ (fun x hx => ⟨_, rfl, ?_⟩) fun ys hl hy => aw_nil (o_tupL (q ys ?_ ?_))
  · refine iw_seq (ew_bin (ew_bin (ew_bor rfl (ew_con ⟨_, rfl, ew_var rfl (o_ixTn (e := tI) (k := p0) (getD_some (d := []) hpN) ⟨_, rfl, rfl⟩)⟩))))
  · have := hN _ hm x hx
    refine ew_call (aw_cons (ew_var rfl (aw_cons (ew_bin (ew_bor rfl (ew_con (o_addI (aw_nil (fw_draw (by omega) (by omega) fun i h0 h1 => ⟨i, rfl, h0⟩)))))))))
  · rw [hl, rowLen ok.n hpN]
  · intro y hy2
    obtain ⟨i, hi, rfl⟩ := List.getElem_of_mem hy2
    exact hy i _ _ (getD_some (d := 0) (by omega)) (List.getElem?_eq_getElem hi)
theorem fits_le {r f : Row} (h1 : r.length = K) (h2 : f.length = K) : fits r f = (List.range K).all fun k => decide (r.getD k 0 ≤ f.getD k 0) := by
  rw [fits_range h1 h2, List.not_any_eq_all_not]
  congr 1
  funext k
  by_cases h : f.getD k 0 < r.getD k 0
  · rw [decide_eq_true h, decide_eq_false (by omega)]; rfl
  · rw [decide_eq_false h, decide_eq_true (by omega)]; rfl
theorem st_enough (ok : Ok K F H N) {r : Row} (hr : r.length = K) (q : Q .nx (R x2 x3 w p (.frz (eL F H N)) n fi g s v vs ri he (.frz (tI r)) th (.frz (.bl (fits r F))) mo)) : Sw L26 (R x2 x3 w p (.frz (eL F H N)) n fi g s v vs ri he (.frz (tI r)) th en mo) Q := by
  refine sw_set (ew_fn (aw_cons ?_))
  refine ew_lcM (List.range K) nE (fun k => .bl (decide (r.getD k 0 ≤ F.getD k 0))) (iw_rowlen ok hr rfl) (fun k hk => ⟨_, rfl, ?_⟩) ?_
  · have hk := List.mem_range.mp hk
    refine ew_bin (ew_bin (ew_bor rfl (ew_var rfl (o_ixTn (e := D.int) (k := k) (getD_some (d := 0) (by omega)) ?_))))
    refine ew_bin (ew_bin (ew_bor rfl (ew_con ⟨_, rfl, ew_var rfl (o_ixTn (e := D.int) (k := k) (getD_some (d := 0) (by rw [ok.f]; exact hk)) (o_le rfl))⟩)))
  · refine aw_nil (o_all ?_)
    rw [← fits_le hr ok.f]
    exact q
theorem any_ends (ok : Ok K F H N) (po : PosH H) : (orders H.length H.length).any (fun q => ends H N q F) = (gr F H N).1 := by
  cases e : gr F H N with
  | mk b o =>
    cases b with
    | true =>
      obtain ⟨h, _⟩ := safe_case ok po e
      rw [fine, List.head?_filter] at h
      have h1 := List.find?_some h
      exact List.any_eq_true.mpr ⟨o, List.mem_of_find?_eq_some h, h1⟩
    | false =>
      obtain ⟨h, _⟩ := stuck_case ok po e
      rw [fine, List.filter_eq_nil_iff] at h
      exact List.any_eq_false.mpr h
theorem pos_set (ok : Ok K F H N) (po : ∀ r ∈ H, ∀ x ∈ r, (0 : Int) ≤ x) {r : Row} (hr : r.length = K) (hr0 : ∀ x ∈ r, 0 ≤ x) {p0 : Nat} (hp : p0 < H.length) : PosH (H.set p0 (addR (H.getD p0 []) r)) := by
  refine pos_of fun r' hr' x hx => ?_
  rcases List.mem_or_eq_of_mem_set hr' with h | h
  · exact po r' h x hx
  · rw [h, addR] at hx
    obtain ⟨⟨a, b⟩, hab, rfl⟩ := List.mem_map.mp hx
    have h1 := List.of_mem_zip hab
    have h2 := po _ (List.mem_of_getElem? (getD_some (d := ([] : Row)) hp)) a h1.1
    have h3 := hr0 b h1.2
    show 0 ≤ a + b
    omega
theorem st_asked (ok : Ok K F H N) (po : ∀ r ∈ H, ∀ x ∈ r, (0 : Int) ≤ x) (hM : H.length ≤ 5) {r : Row} (hr : r.length = K) (hr0 : ∀ x ∈ r, 0 ≤ x) {p0 : Nat} (hp : p0 < H.length) {rest : SS} (q : Sw rest (R x2 x3 w p (.frz (eL F H N)) (.frz (nE H.length)) fi g s v vs ri (.frz (nE p0)) (.frz (tI r)) (.frz (eL (subR F r) (H.set p0 (addR (H.getD p0 []) r)) (N.set p0 (subR (N.getD p0 []) r)))) (.frz (.bl (fits r F))) mo) Q) :
    Sw (sSeq L27 (sSeq L28 rest)) (R x2 x3 w p (.frz (eL F H N)) (.frz (nE H.length)) fi g s v vs ri (.frz (nE p0)) (.frz (tI r)) (.frz (eL (subR F r) (H.set p0 (addR (H.getD p0 []) r)) (N.set p0 (subR (N.getD p0 []) r)))) (.frz (.bl (fits r F))) mo) Q := by
  have lp := rowLen ok.h hp
  have lq := rowLen ok.n (by rw [← ok.hn]; exact hp)
  have ok' : Ok K (subR F r) (H.set p0 (addR (H.getD p0 []) r)) (N.set p0 (subR (N.getD p0 []) r)) := ok_set ok (by rw [subR_range ok.f hr]; simp) (addR_len lp hr) (by rw [subR_range lq hr]; simp)
  have po' := pos_set ok po hr hr0 hp
  have gt := (vd_loan ok').1
  have dt : (eL (subR F r) (H.set p0 (addR (H.getD p0 []) r)) (N.set p0 (subR (N.getD p0 []) r))).dep < 40 := by have := dep_eL (F := subR F r) (H := H.set p0 (addR (H.getD p0 []) r)) (N := N.set p0 (subR (N.getD p0 []) r)); omega
  refine sw_seq (sw_if (t_ls ?_ (ew_var rfl rfl) rfl gt dt ⟨fun e => (by cases e), fun _ => sw_nx ?_⟩))
  · exact ew_call (aw_cons (ew_var rfl (aw_cons (ew_var rfl (aw_cons (ew_var rfl (aw_nil (w_after ok hp rfl))))))))
  refine sw_seq (sw_if (t_ls (a := .bl (fits r F && (gr (subR F r) (H.set p0 (addR (H.getD p0 []) r)) (N.set p0 (subR (N.getD p0 []) r))).1)) (b := .bl (fits r F && (gr (subR F r) (H.set p0 (addR (H.getD p0 []) r)) (N.set p0 (subR (N.getD p0 []) r))).1)) ?_ ?_ rfl rfl (by simp [D.dep]) ⟨fun e => (by cases e), fun _ => sw_nx q⟩))
  · exact ew_call (aw_cons (ew_var rfl (aw_cons (ew_var rfl (aw_cons (ew_var rfl (aw_nil (w_grant ok hr hp rfl))))))))
  · refine ew_andB (x := fits r F) (y := (gr (subR F r) (H.set p0 (addR (H.getD p0 []) r)) (N.set p0 (subR (N.getD p0 []) r))).1) (ew_var rfl rfl) (fun _ => ?_) rfl
    rw [← any_ends ok' po']
    generalize hH' : H.set p0 (addR (H.getD p0 []) r) = H' at ok'
    generalize N.set p0 (subR (N.getD p0 []) r) = N' at ok'
    generalize subR F r = F' at ok'
    have hl : H'.length = H.length := by rw [← hH']; simp
    rw [hl]
    refine ew_fn (aw_cons ?_)
    refine ew_lcM (orders H.length H.length) tN (fun o => .bl (ends H' N' o F')) ?_ (fun o ho => ⟨_, rfl, ?_⟩) ?_
    · exact iw_seq (ew_call (aw_cons (ew_var rfl (aw_nil (w_orders hM ⟨_, rfl, rfl⟩)))))
    · exact ew_call (aw_cons (ew_var rfl (aw_cons (ew_var rfl (aw_nil (w_ends (w := .tup) ok' rfl (fun k hk => by rw [hl]; exact (orders_all ho).2.1 k hk) rfl))))))
    · exact aw_nil (o_any rfl)
/-! ### more free, less needed -/
theorem st_more (ok : Ok K F H N) (q : ∀ F' N', Ok K F' H N' → (∀ i, i < K → F.getD i 0 ≤ F'.getD i 0) → (∀ j i, j < H.length → i < K → (N'.getD j []).getD i 0 ≤ max 0 ((N.getD j []).getD i 0)) → Q .nx (R x2 x3 w p (.frz (eL F H N)) n fi g s v vs ri he ro th en (.frz (eL F' H N')))) : Sw L29 (R x2 x3 w p (.frz (eL F H N)) n fi g s v vs ri he ro th en mo) Q := by
  refine sw_set (ew_tup (aw_cons (ew_fn (aw_cons ?_))))
  refine ew_lcK F D.int D.int (fun x y => x ≤ y) (iw_seq (ew_bin (ew_bor rfl (ew_con ⟨_, rfl, _, rfl, rfl⟩)))) (fun x hx => ⟨_, rfl, ?_⟩) fun F' hl hF => aw_nil (o_tupL (aw_cons (ew_bin (ew_bor rfl (ew_con ⟨_, rfl, aw_cons (ew_fn (aw_cons ?_))⟩)))))
  · refine ew_bin (ew_bor rfl (ew_call (aw_cons (ew_var rfl (aw_cons (ew_con (aw_nil ?_)))))))
    exact fw_draw (by decide) (by decide) fun i h0 h1 => o_addI ⟨x + i, rfl, by omega⟩
  refine ew_lcK N tI tI (fun a b => b.length = a.length ∧ ∀ (i : Nat) x y, a[i]? = some x → b[i]? = some y → y ≤ max 0 x) (iw_seq (ew_bin (ew_bor rfl (ew_con ⟨_, rfl, _, rfl, rfl⟩)))) (fun a ha => ⟨_, rfl, ?_⟩) fun N' hl2 hN => aw_nil (o_tupL (aw_nil ?_))
  · refine ew_fn (aw_cons ?_)
    refine ew_lcK a D.int D.int (fun x y => y ≤ max 0 x) (iw_seq (ew_bor rfl ⟨_, rfl, rfl⟩)) (fun x hx => ⟨_, rfl, ?_⟩) fun b hb hy => aw_nil (o_tupL ⟨b, rfl, hb, hy⟩)
    refine ew_fn (aw_cons (ew_con (aw_cons (ew_bin (ew_bor rfl (ew_call (aw_cons (ew_var rfl (aw_cons (ew_con (aw_nil ?_)))))))))))
    refine fw_draw (by decide) (by decide) fun i h0 h1 => o_subI (aw_nil ⟨_, rfl, _, rfl, ?_⟩)
    split
    · omega
    · omega
  · refine q F' N' ⟨by rw [hl, ok.f], by rw [hl2, ok.hn], ok.h, fun b hb => ?_, ok.k, ok.s⟩ (fun i hi => ?_) fun j i hj hi => ?_
    · obtain ⟨j, hj, rfl⟩ := List.getElem_of_mem hb
      have hjN : j < N.length := by omega
      rw [(hN j _ _ (List.getElem?_eq_getElem hjN) (List.getElem?_eq_getElem hj)).1]
      exact ok.n _ (List.getElem_mem hjN)
    · exact hF i _ _ (getD_some (d := 0) (by rw [ok.f]; exact hi)) (getD_some (d := 0) (by rw [hl, ok.f]; exact hi))
    · have hjN : j < N.length := by rw [← ok.hn]; exact hj
      obtain ⟨h1, h2⟩ := hN j _ _ (getD_some (d := []) hjN) (getD_some (d := []) (by omega))
      have h3 := rowLen ok.n hjN
      exact h2 i _ _ (getD_some (d := 0) (by omega)) (getD_some (d := 0) (by omega))
theorem str_ne {b : Bool} : opNe (.str (if b = true then "order" else "stuck")) (.str "order") = some (.bl (!b)) := by cases b <;> decide +kernel
theorem str_eqO {b : Bool} : opEq (.str (if b = true then "order" else "stuck")) (.str "order") = some (.bl b) := by cases b <;> decide +kernel
theorem str_eqS {b : Bool} : opEq (.str (if b = true then "order" else "stuck")) (.str "stuck") = some (.bl (!b)) := by cases b <;> decide +kernel
theorem st_ask (ok : Ok K F H N) (po : ∀ r ∈ H, ∀ x ∈ r, (0 : Int) ≤ x) (hN : ∀ r ∈ N, ∀ x ∈ r, (0 : Int) ≤ x ∧ x < 1000) (hM : H.length ≤ 5) (hw : w = .frz (.str (if (gr F H N).1 = true then "order" else "stuck")))
    (q : ∀ he ro th en mo, Q .nx (R x2 x3 w p (.frz (eL F H N)) (.frz (nE H.length)) fi g s v vs ri he ro th en mo)) : Sw L32 (R x2 x3 w p (.frz (eL F H N)) (.frz (nE H.length)) fi g s v vs ri he ro th en mo) Q := by
  refine sw_if (tw_bl (ew_bin (ew_bor rfl (ew_con (o_gt (x_bl ⟨fun e => ?_, fun _ => sw_nx (q _ _ _ _ _)⟩))))))
  have hpos : 0 < H.length := by have := of_decide_eq_true e; omega
  refine sw_seq (sw_set (ew_call (aw_cons (ew_var rfl (aw_cons (ew_var rfl (aw_nil (fw_draw (by omega) (by omega) fun i h0 h1 => ?_))))))))
  obtain ⟨p0, rfl⟩ := Int.eq_ofNat_of_zero_le h0
  have hp : p0 < H.length := by omega
  refine sw_seq (st_row ok hN hp fun r hr hr0 => ?_)
  refine sw_seq (st_there ok hr hp ?_)
  refine sw_seq (st_enough ok hr ?_)
  refine st_asked ok po hM hr hr0 hp ?_
  refine sw_seq (st_more ok fun F' N' ok' hF hN' => ?_)
  subst hw
  have fin : Sw L31 (R x2 x3 (.frz (.str (if (gr F H N).1 = true then "order" else "stuck"))) p (.frz (eL F H N)) (.frz (nE H.length)) fi g s v vs ri (.frz (nE p0)) (.frz (tI r)) (.frz (eL (subR F r) (H.set p0 (addR (H.getD p0 []) r)) (N.set p0 (subR (N.getD p0 []) r)))) (.frz (.bl (fits r F))) (.frz (eL F' H N'))) Q := by
    refine sw_if (tw_and (tw_not (tw_of (ew_bor rfl (x_tb ⟨fun e => ?_, fun _ => ⟨fun e => (by cases e), fun _ => sw_nx (q _ _ _ _ _)⟩⟩)))))
    have hf : fits r F = false := by simpa using e
    refine tw_bl (ew_bin (ew_call (aw_cons (ew_var rfl (aw_cons (ew_var rfl (aw_cons (ew_var rfl (aw_nil (w_grant ok hr hp ?_))))))))))
    rw [hf, Bool.false_and]
    exact ew_con ⟨.bl false, rfl, x_bl ⟨fun e => (by cases e), fun _ => sw_nx (q _ _ _ _ _)⟩⟩
  refine sw_seq (sw_if (tw_and (tw_bl (ew_bin (ew_bor rfl (ew_con ⟨_, str_eqO, x_bl ⟨fun eb => ?_, fun _ => ⟨fun e => (by cases e), fun _ => sw_nx fin⟩⟩⟩))))))
  have hmore : (gr F' H N').1 = true := safe_mono ok ok' (pos_of po) hF (fun j i hj hi => by
    have h1 := hN' j i hj hi
    have hjN : j < N.length := by rw [← ok.hn]; exact hj
    have hl := rowLen ok.n hjN
    have h2 := (hN _ (List.mem_of_getElem? (getD_some (d := ([] : Row)) hjN)) _ (List.mem_of_getElem? (getD_some (d := (0 : Int)) (show i < (N.getD j []).length by omega)))).1
    omega) eb
  refine tw_bl (ew_bin (ew_bin (ew_call (aw_cons (ew_var rfl (aw_nil (w_safe ok'.hn ok'.s ?_)))))))
  refine ew_con ⟨.str (if (gr F' H N').1 = true then "order" else "stuck"), rfl, ew_con ⟨_, str_ne, x_bl ⟨fun e => ?_, fun _ => sw_nx fin⟩⟩⟩
  rw [hmore] at e
  cases e
/-- a drawn loan is one -/
theorem loan_true {M : Nat} {most : Int} (dr : Drawn K M most F H N) (h1 : 1 ≤ K) (h2 : K ≤ 6) (h3 : M ≤ 12) (h4 : most ≤ 99) : loanV (eL F H N) = true := by
  have e : loanV (eL F H N) = (decide (1 ≤ (F.map D.int).length ∧ (F.map D.int).length ≤ 6) && (decide ((H.map tI).length = (N.map tI).length) && (decide ((H.map tI).length ≤ 12) && ((tI F :: H.map tI) ++ N.map tI).all (rowV (F.map D.int).length)))) := rfl
  have row : ∀ r : Row, r.length = K → (∀ x ∈ r, 0 ≤ x ∧ x < most + 1) → rowV K (tI r) = true := fun r hr hx => by
    have e2 : rowV K (tI r) = (decide ((r.map D.int).length = K) && (r.map D.int).all fun x => numB x 0 99) := rfl
    rw [e2, List.length_map, hr, decide_eq_true rfl, Bool.true_and, List.all_map, List.all_eq_true]
    intro x hx2
    have := hx x hx2
    simp only [Function.comp, numB, decide_eq_true_iff]
    omega
  simp only [List.length_map, dr.lf, dr.lh, dr.ln] at e
  rw [e, decide_eq_true ⟨h1, h2⟩, decide_eq_true trivial, decide_eq_true h3, Bool.true_and, Bool.true_and, Bool.true_and, List.all_eq_true]
  intro d hd
  rcases List.mem_append.mp hd with h | h
  · rcases List.mem_cons.mp h with h | h
    · rw [h]; exact row F dr.lf fun x hx => by have := dr.f x hx; omega
    · obtain ⟨r, hr, rfl⟩ := List.mem_map.mp h
      exact row r (dr.lhr r hr) fun x hx => by have := dr.h r hr x hx; omega
  · obtain ⟨r, hr, rfl⟩ := List.mem_map.mp h
    exact row r (dr.lnr r hr) fun x hx => dr.n r hr x hx
theorem st_fine (ok : Ok K F H N) (hM : H.length ≤ 5) {rest : SS} (hrest : Sw rest (R x2 x3 w p (.frz (eL F H N)) (.frz (nE H.length)) (.frz (.lst ((fine F H N).map tN))) (.frz (.lst ((groups F H N K).map tN))) s v vs ri he ro th en mo) Q) : Sw (sSeq L3 (sSeq L4 rest)) (R x2 x3 w p (.frz (eL F H N)) (.frz (nE H.length)) fi g s v vs ri he ro th en mo) Q := by
  refine sw_seq (sw_set ?_)
  refine ew_lc (orders H.length H.length) tN (fun o => ends H N o F) tN (iw_seq (ew_call (aw_cons (ew_var rfl (aw_nil (w_orders hM ⟨_, rfl, rfl⟩)))))) (fun o ho => ⟨_, rfl, ?_⟩) ?_
  · refine tw_of (ew_call (aw_cons (ew_var rfl (aw_cons (ew_var rfl (aw_nil (w_ends (w := .tup) ok rfl (orders_all ho).2.1 (x_tb ⟨rfl, fun _ => ew_var rfl rfl⟩))))))))
  refine sw_seq (sw_set ?_)
  refine ew_lc (sets H.length) tN (fun g => stuckB F H N K g) tN (iw_seq (ew_call (aw_cons (ew_var rfl (aw_nil (w_sets (by omega) ⟨_, rfl, rfl⟩)))))) (fun g hg => ⟨_, rfl, ?_⟩) hrest
  refine tw_of (ew_call (aw_cons (ew_var rfl (aw_cons (ew_var rfl (aw_nil (w_lstuck ok (sets_lt _ g hg) (x_tb ⟨rfl, fun _ => ew_var rfl rfl⟩))))))))
theorem safe_no (ok : Ok K F H N) (po : PosH H) {o : List Nat} (h : gr F H N = (true, o)) {ks : List Nat} (hk : ∀ k ∈ ks, k < H.length) : stuckB F H N K ks = false := by
  rw [Bool.eq_false_iff]
  intro hs
  obtain ⟨f', s⟩ := greedy_true _ GS.start (by simp) h
  rw [stuckB, Bool.and_eq_true, decide_eq_true_iff, List.all_eq_true] at hs
  have hst : Stk H N K F ks := fun k hk2 => ⟨hk k hk2, by simpa using hs.2 k hk2⟩
  have out := ends_out ok po hst o [] (by simpa using s.nd) (by simpa using s.lt) (by simp) s.en
  obtain ⟨k, hk2⟩ := List.exists_mem_of_length_pos hs.1
  have : k ∈ o := by
    by_cases h : k ∈ o
    · exact h
    · have : k ∈ ([] : List Nat) := by rw [s.left]; exact List.mem_filter.mpr ⟨List.mem_range.mpr (hk k hk2), by simpa using h⟩
      cases this
  exact out k this hk2
theorem gr_small : (gr F H N).2.length ≤ H.length ∧ ∀ k ∈ (gr F H N).2, k < H.length := by
  cases e : gr F H N with
  | mk b o =>
    cases b with
    | true =>
      obtain ⟨f', s⟩ := greedy_true _ GS.start (by simp) e
      refine ⟨?_, s.lt⟩
      have := sum_le (fun _ => 1) (ks := o) (L := List.range H.length) s.nd (fun k hk => List.mem_range.mpr (s.lt k hk)) (fun _ _ => by omega)
      have ones : ∀ l : List Nat, (l.map fun _ => (1 : Int)).sum = l.length := fun l => by
        induction l with
        | nil => rfl
        | cons x l ih => simp only [List.map_cons, List.sum_cons, List.length_cons, ih]; omega
      rw [ones, ones, List.length_range] at this
      show o.length ≤ _
      omega
    | false =>
      obtain ⟨f', o', s, _, _⟩ := greedy_false _ GS.start (by simp) e
      have hl := s.left
      refine ⟨?_, fun k hk => ?_⟩
      · show o.length ≤ _
        rw [hl]
        have := List.length_filter_le (fun j => !decide (j ∈ o')) (List.range H.length)
        rw [List.length_range] at this
        exact this
      · have hk : k ∈ o := hk
        rw [hl] at hk
        exact List.mem_range.mp (List.mem_filter.mp hk).1
theorem gd_word {b : Bool} {ks : List Nat} (h : ks.length ≤ 1000) : gd (.tup [.str (if b = true then "order" else "stuck"), tN ks]) = true := by
  rw [gd_tup]
  refine ⟨by simp, fun d hd => ?_⟩
  simp only [List.mem_cons, List.not_mem_nil, or_false] at hd
  rcases hd with rfl | rfl
  · cases b <;> exact gd_lit _
  · exact gd_map (by omega) fun _ _ => rfl
theorem dep_word {x : PySem.Str} {ks : List Nat} : (D.tup [.str x, tN ks]).dep < 40 := by
  have : (D.tup [.str x, tN ks]).dep ≤ 1 + 1 := dep_tup fun d hd => by
    simp only [List.mem_cons, List.not_mem_nil, or_false] at hd
    rcases hd with rfl | rfl
    · simp [D.dep]
    · exact dep_tN
  omega
theorem st_words (ok : Ok K F H N) (po : PosH H) (hM : H.length ≤ 5) {rest : SS}
    (q : ∀ x3, Sw rest (R x2 x3 (.frz (.str (if (gr F H N).1 = true then "order" else "stuck"))) (.frz (tN (gr F H N).2)) (.frz (eL F H N)) (.frz (nE H.length)) (.frz (.lst ((fine F H N).map tN))) (.frz (.lst ((groups F H N K).map tN))) s v vs ri he ro th en mo) Q) :
    Sw (sSeq L5 (sSeq L6 (sSeq L7 (sSeq L10 rest)))) (R x2 x3 w p (.frz (eL F H N)) (.frz (nE H.length)) (.frz (.lst ((fine F H N).map tN))) (.frz (.lst ((groups F H N K).map tN))) s v vs ri he ro th en mo) Q := by
  have hsm := gr_small (F := F) (H := H) (N := N)
  have key : (decide (0 < (fine F H N).length) = (gr F H N).1) ∧ (decide ((groups F H N K).length = 0) = (gr F H N).1) := by
    cases e : gr F H N with
    | mk b o =>
      cases b with
      | true =>
        obtain ⟨h1, h2⟩ := safe_case ok po e
        rw [h2]
        cases hf : fine F H N with
        | nil => rw [hf] at h1; cases h1
        | cons a l => exact ⟨by simp, rfl⟩
      | false =>
        obtain ⟨h1, h2, _⟩ := stuck_case ok po e
        rw [h1]
        have := List.length_pos_of_mem h2
        exact ⟨rfl, decide_eq_false (by omega)⟩
  have e1 : ∀ m : Nat, decide ((0 : Int) < (m : Int)) = decide (0 < m) := fun m => by
    by_cases h : 0 < m
    · rw [decide_eq_true h, decide_eq_true (by omega)]
    · rw [decide_eq_false h, decide_eq_false (by omega)]
  have e2 : ∀ m : Nat, decide ((m : Int) = (0 : Int)) = decide (m = 0) := fun m => hin m 0
  refine sw_seq (sw_if (tw_bl (ew_bin (ew_bin (ew_fn (aw_cons (ew_bor rfl (aw_nil (o_lenL (ew_con (o_gt ?_)))))))))))
  rw [List.length_map, e1, key.1]
  refine ew_bin (ew_fn (aw_cons (ew_bor rfl (aw_nil (o_lenL (ew_con (o_eqI (o_neB (x_bl ?_)))))))))
  rw [List.length_map, e2, key.2]
  refine ⟨fun e => by simp at e, fun _ => sw_nx ?_⟩
  refine sw_seq (sw_asg (ew_call (aw_cons (ew_var rfl (aw_nil (w_safe ok.hn ok.s ⟨_, rfl, ?_⟩))))))
  -- both cases
  have done : ∀ x3, Sw rest (R x2 x3 (.frz (.str (if (gr F H N).1 = true then "order" else "stuck"))) (.frz (tN (gr F H N).2)) (.frz (eL F H N)) (.frz (nE H.length)) (.frz (.lst ((fine F H N).map tN))) (.frz (.lst ((groups F H N K).map tN))) s v vs ri he ro th en mo) Q := q
  show Sw (sSeq L7 (sSeq L10 rest)) (R x2 x3 (.frz (.str (if (gr F H N).1 = true then "order" else "stuck"))) (.frz (tN (gr F H N).2)) (.frz (eL F H N)) (.frz (nE H.length)) (.frz (.lst ((fine F H N).map tN))) (.frz (.lst ((groups F H N K).map tN))) s v vs ri he ro th en mo) Q
  cases e : gr F H N with
  | mk b o =>
    rw [e] at hsm key done
    have hs1 : o.length ≤ H.length := hsm.1
    cases b with
    | true =>
      obtain ⟨h1, h2⟩ := safe_case ok po e
      have hlen : decide (0 < (fine F H N).length) = true := key.1
      cases hf : fine F H N with
      | nil => rw [hf] at h1; cases h1
      | cons a l =>
        have ha : a = o := by rw [hf] at h1; exact Option.some.inj h1
        subst ha
        rw [hf] at done
        refine sw_seq (sw_if (tw_and (tw_bl (ew_bin (ew_fn (aw_cons (ew_bor rfl (aw_nil (o_lenL (ew_con (o_gt (x_bl ⟨fun _ => ?_, fun ez => ⟨fun e => (by cases e), fun _ => sw_nx ?_⟩⟩))))))))))))
        · refine t_ls (a := .tup [.str (if true = true then "order" else "stuck"), tN a]) (b := .tup [.str (if true = true then "order" else "stuck"), tN a]) (ew_tup (aw_cons (ew_var rfl (aw_cons (ew_var rfl (aw_nil rfl)))))) ?_ rfl (gd_word (by omega)) dep_word ⟨fun e => (by cases e), fun _ => sw_nx ?_⟩
          · exact ew_tup (aw_cons (ew_con (aw_cons (ew_bin (ew_bor rfl (ew_con (o_ixLn (e := tN) (k := 0) (x := a) rfl (aw_nil rfl))))))))
          · refine sw_seq (sw_if (tw_bl (ew_bin (ew_fn (aw_cons (ew_bor rfl (aw_nil (o_lenL (ew_con (o_eqI (x_bl ⟨fun e => ?_, fun _ => sw_nx (done _)⟩)))))))))))
            have := of_decide_eq_true e
            simp at this
            omega
        · have := of_decide_eq_false ez
          simp at this
    | false =>
      obtain ⟨h1, h2, h3, h4⟩ := stuck_case ok po e
      rw [h1] at done ⊢
      refine sw_seq (sw_if (tw_and (tw_bl (ew_bin (ew_fn (aw_cons (ew_bor rfl (aw_nil (o_lenL (ew_con (o_gt (x_bl ⟨fun e => (by cases e), fun _ => ⟨fun e => (by cases e), fun _ => sw_nx ?_⟩⟩))))))))))))
      refine sw_seq (sw_if (tw_bl (ew_bin (ew_fn (aw_cons (ew_bor rfl (aw_nil (o_lenL (ew_con (o_eqI (x_bl ⟨fun _ => ?_, fun e => (by cases e)⟩)))))))))))
      refine sw_seq (sw_set (ew_fn (aw_cons ?_)))
      refine ew_lc (List.range H.length) nE (fun j => (groups F H N K).any fun g => decide (j ∈ g)) nE (iw_rangeN H.length (aw_cons (ew_var rfl (aw_nil ⟨rfl, by omega, rfl⟩)))) (fun j hj => ⟨_, rfl, ?_⟩) ?_
      · refine tw_of (ew_fn (aw_cons ?_))
        refine ew_lcM (groups F H N K) tN (fun g => .bl (decide (j ∈ g))) (iw_seq (ew_bor rfl ⟨_, rfl, rfl⟩)) (fun g hg => ⟨_, rfl, ew_bin (ew_bor rfl (ew_bor rfl (o_inT enc_nat rfl)))⟩) ?_
        exact aw_nil (o_any (x_tb ⟨rfl, fun _ => ew_var rfl rfl⟩))
      · rw [h3]
        refine aw_nil (o_tupL ?_)
        refine sw_if (tw_or ?_)
        refine t_ls (a := .tup [.str (if false = true then "order" else "stuck"), tN o]) (b := .tup [.str (if false = true then "order" else "stuck"), tN o]) (ew_tup (aw_cons (ew_var rfl (aw_cons (ew_var rfl (aw_nil rfl)))))) (ew_tup (aw_cons (ew_con (aw_cons (ew_var rfl (aw_nil rfl)))))) rfl (gd_word (by omega)) dep_word ⟨fun e => (by cases e), fun _ => ?_⟩
        refine tw_bl (ew_bin (ew_bor rfl (ew_bor rfl (o_ninL enc_tN ?_))))
        exact x_bl ⟨fun e => absurd h2 (by simpa using e), fun _ => sw_nx (done _)⟩
end
end K83

set_option maxHeartbeats 1000000
/-! k83: the law -/
namespace K83
open Sv
open PySem (Str PyData)
local macro_rules | `(tactic| walk_at "w") => `(tactic| (repeat' (first | with_reducible (first | refine sw_seq ?_ | refine sw_set ?_ | refine sw_new ?_ | refine sw_asg ?_ | refine sw_rt ?_ | refine sw_ret ?_ | refine sw_if ?_ | refine sw_par ?_ | refine sw_nx ?_ | refine sw_exprM ?_ | refine kw_nil ?_ | refine kw_frz ?_ | refine kw_new ?_ | refine ew_con ?_ | refine ew_bin ?_ | refine ew_un ?_ | refine ew_tup ?_ | refine ew_lst ?_ | refine ew_fn ?_ | refine ew_call ?_ | refine ew_callO ?_ | refine ew_if ?_ | refine ew_not ?_ | refine ew_chain ?_ | refine ew_slice ?_ | refine ow_none ?_ | refine ow_some ?_ | refine tw_bl ?_ | refine tw_of ?_ | refine tw_not ?_ | refine tw_yes ?_ | refine aw_nil ?_ | refine aw_cons ?_ | refine iw_seq ?_ | refine iw_enum ?_ | refine iw_zip ?_) | refine ew_var rfl ?_ | refine ew_bor rfl ?_ | refine ew_borO rfl ?_ | refine o_eqI ?_ | refine o_neI ?_ | refine o_lt ?_ | refine o_gt ?_ | refine o_le ?_ | refine o_ge ?_ | refine o_all ?_ | refine o_any ?_ | refine o_sum ?_ | refine o_addI ?_ | refine o_subI ?_ | refine o_lenT ?_ | refine o_lenL ?_ | refine o_tupL ?_ | refine o_tupT ?_ | refine o_listL ?_ | refine o_listT ?_ | refine o_negI ?_ | refine o_intI ?_ | refine o_slT ?_ | refine o_slL ?_ | refine o_revT ?_ | refine o_revL ?_ | refine x_int ?_ | refine x_bl ?_ | refine x_tb ?_ | refine x_itT ?_ | refine x_itL ?_ | refine x_rt ?_)))
abbrev turn : SS := sSeq (L0) (sSeq (L1) (sSeq (L2) (sSeq (L3) (sSeq (L4) (sSeq (L5) (sSeq (L6) (sSeq (L7) (sSeq (L10) (sSeq (L11) (sSeq (L14) (sSeq (L15) (sSeq (L18) (sSeq (L19) (sSeq (L20) (sSeq (L22) (L32))))))))))))))))
section
variable {x2 x3 w p l n fi g s v vs ri he ro th en mo : Sl} {K : Nat} {F : Row} {H N : List Row} {Q : Fl → Rho → Prop}
theorem st_turn (q : ∀ x3 w p l n fi g s v vs ri he ro th en mo, Q .nx (R x2 x3 w p l n fi g s v vs ri he ro th en mo)) : Sw turn (R x2 x3 w p l n fi g s v vs ri he ro th en mo) Q := by
  refine sw_seq (sw_set (ew_call ?_))
  walk_at "w"
  refine fw_draw (by decide) (by decide) fun i h0 h1 => o_addI ?_
  obtain ⟨K, eK⟩ : ∃ K : Nat, (1 : Int) + i = (K : Nat) := Int.eq_ofNat_of_zero_le (by omega)
  have hK1 : 1 ≤ K := by omega
  have hK3 : K ≤ 3 := by omega
  rw [eK]
  walk_at "w"
  refine fw_draw (by decide) (by decide) fun m m0 m1 => ?_
  obtain ⟨M, rfl⟩ := Int.eq_ofNat_of_zero_le m0
  have hM5 : M ≤ 5 := by omega
  walk_at "w"
  refine fw_draw (by decide) (by decide) fun z z0 z1 => o_addI ?_
  walk_at "w"
  refine w_law_loan (K := K) (M := M) (most := 1 + z) (by omega) (by omega) (by omega) (by omega) fun F H N dr => ?_
  have ok : Ok K F H N := dr.ok (by omega) (by omega)
  have hHl : H.length = M := dr.lh
  have poH : ∀ r ∈ H, ∀ x ∈ r, (0 : Int) ≤ x := fun r hr x hx => (dr.h r hr x hx).1
  have po : PosH H := pos_of poH
  have hN0 : ∀ r ∈ N, ∀ x ∈ r, (0 : Int) ≤ x ∧ x < 1000 := fun r hr x hx => by have := dr.n r hr x hx; omega
  have hH5 : H.length ≤ 5 := by omega
  refine sw_seq (sw_set (ew_fn (aw_cons (ew_bin (ew_bor rfl (ew_con ⟨_, rfl, aw_nil (o_lenT ?_)⟩))))))
  rw [List.length_map]
  refine sw_seq (sw_if (tw_bl (ew_bin (ew_call (aw_cons (ew_var rfl (aw_nil (w_is_loan (vd_loan ok).1 ?_))))))))
  rw [loan_true dr hK1 (by omega) (by omega) (by omega)]
  refine ew_con ⟨.bl false, rfl, x_bl ⟨fun e => (by cases e), fun _ => sw_nx ?_⟩⟩
  refine st_fine ok hH5 ?_
  refine st_words ok po hH5 fun x3' => ?_
  obtain ⟨hg1, hg2⟩ := gr_small (F := F) (H := H) (N := N)
  have hrl : (List.range H.length).length ≤ 12 := by rw [List.length_range]; omega
  have hrk : ∀ k ∈ List.range H.length, k < 1000 := fun k hk => by have := List.mem_range.mp hk; omega
  have hgk : ∀ k ∈ (gr F H N).2, k < 1000 := fun k hk => by have := hg2 k hk; omega
  have some' : ∀ (f : D → D → Option D) (c : D) (ρ : Rho) (R' : D → Prop), ρ[4]? = some (.frz (.str (if (gr F H N).1 = true then "order" else "stuck"))) → ρ[5]? = some (.frz (tN (gr F H N).2)) → ρ[7]? = some (.frz (nE H.length)) → (∃ b, f (.str (if (gr F H N).1 = true then "order" else "stuck")) c = some (.bl b)) → (∀ ks : List Nat, ks.length ≤ 12 → (∀ k ∈ ks, k < 1000) → R' (tN ks)) →
      Ew (eIf (tBl (eBin f (eBor 4) (eCon c))) (eVar 5) (eFn rtD (aCons (eVar 7) (aNil)))) ρ R' := fun f c ρ R' e4 e5 e7 ⟨b, eb⟩ hR => by
    refine ew_if (tw_bl (ew_bin (ew_bor e4 (ew_con ⟨_, eb, x_bl ⟨fun _ => ew_var e5 (hR _ (by omega) hgk), fun _ => ?_⟩⟩))))
    exact ew_fn (aw_cons (ew_var e7 (aw_nil ⟨_, rtD_nat (by omega), hR _ hrl hrk⟩)))
  refine sw_seq (sw_set (some' opEq (.str "order") _ _ rfl rfl rfl ⟨_, str_eqO⟩ fun ks hl hk => ?_))
  refine sw_seq (st_L14 ok (by omega) hl hk fun v ri => ?_)
  refine sw_seq (sw_set (some' opEq (.str "stuck") _ _ rfl rfl rfl ⟨_, str_eqS⟩ fun ks hl hk => ?_))
  refine sw_seq (st_L18 ok (by omega) (gs := groups F H N K) ?_ ?_ hl hk (ww := if (gr F H N).1 = true then "order" else "stuck") rfl ?_ ?_ fun v ri => ?_)
  · have h1 : (groups F H N K).length ≤ (sets H.length).length := List.length_filter_le _ _
    have h2 := (sets_len H.length).1
    have h3 : ∀ k ≤ 5, 2 ^ k ≤ 32 := by decide
    have := h3 _ hH5
    omega
  · intro g hg
    have := (sets_len H.length).2 g (List.mem_filter.mp hg).1
    omega
  · intro e ks hk _
    cases eg : gr F H N with
    | mk b o =>
      cases b with
      | true => exact safe_no ok po eg hk
      | false => rw [eg] at e; exact absurd (show ("stuck" : PySem.Str) = "order" from e) (by decide +kernel)
  · cases (gr F H N).1
    · exact .inr rfl
    · exact .inl rfl
  refine st_values ok (bs_loan dr (by omega) (by omega) (by omega)) fun v vs => ?_
  exact st_ask ok poH hN0 hH5 rfl fun he ro th en mo => q _ _ _ _ _ _ _ _ _ _ _ _ _ _ _ _
theorem law_sw : Sw s_law (Sl.emp :: Sl.frz (.tok 0) :: List.replicate 25 Sl.emp) (fun fl _ => fl = .rt (.bl true)) := by
  refine sw_seq (sw_for ((List.range 4).map nE) (fun _ ρ => ∃ x2 x3 w p l n fi g s v vs ri he ro th en mo, ρ = R x2 x3 w p l n fi g s v vs ri he ro th en mo) (iw_rangeN 4 (aw_cons (ew_con (aw_nil ⟨rfl, by omega, rfl⟩)))) ⟨.emp, .emp, .emp, .emp, .emp, .emp, .emp, .emp, .emp, .emp, .emp, .emp, .emp, .emp, .emp, .emp, .emp, rfl⟩ ?_ ?_)
  · rintro i d _ _ ⟨x2, x3, w, p, l, n, fi, g, s, v, vs, ri, he, ro, th, en, mo, rfl⟩
    refine ⟨_, rfl, st_turn (x2 := .frz d) fun _ _ _ _ _ _ _ _ _ _ _ _ _ _ _ _ => ⟨_, _, _, _, _, _, _, _, _, _, _, _, _, _, _, _, _, rfl⟩⟩
  · rintro _ ⟨x2, x3, w, p, l, n, fi, g, s, v, vs, ri, he, ro, th, en, mo, rfl⟩
    refine sw_seq (sw_set (ew_call ?_))
    walk_at "w"
    refine w_law_loan (K := 4) (M := 12) (most := 9) (by omega) (by omega) (by omega) (by omega) fun F H N dr => ?_
    have ok : Ok 4 F H N := dr.ok (by omega) (by omega)
    have po : PosH H := pos_of fun r hr x hx => (dr.h r hr x hx).1
    obtain ⟨hg1, hg2⟩ := gr_small (F := F) (H := H) (N := N)
    refine sw_seq (sw_asg (ew_call (aw_cons (ew_var rfl (aw_nil (w_safe ok.hn ok.s ⟨_, rfl, ?_⟩))))))
    have fin : ∀ w p, Sw L37 (R x2 (.frz (eL F H N)) w p l n fi g s v vs ri he ro th en mo) (fun fl _ => fl = .rt (.bl true)) := fun w p => by
      have o1 : Ok 1 [1] [[1], [1]] [[2], [1]] := ⟨rfl, rfl, by simp, by simp, by omega, by simp⟩
      have o2 : Ok 1 [0] [[1], [1]] [[1], [1]] := ⟨rfl, rfl, by simp, by simp, by omega, by simp⟩
      refine sw_ret (ew_andB (x := true) (y := true) ?_ (fun _ => ?_) rfl)
      · refine ew_call (aw_cons (Ew.mono (Q := fun d => d = .tup [.str "order", tN [1, 0]]) ?_ fun d e => ?_))
        · refine ew_call (aw_cons (Ew.mono (Q := fun d => d = eL [1] [[1], [1]] [[2], [1]]) (fun b => ⟨_, b, rfl, rfl⟩) fun d e => ?_))
          rw [e]
          exact aw_nil (w_safe o1.hn o1.s (by decide +kernel))
        · subst e
          refine aw_cons (Ew.mono (Q := fun d => d = .tup [.str "order", tN [1, 0]]) (fun b => ⟨_, b, rfl, rfl⟩) fun d e => ?_)
          subst e
          exact aw_nil (w_ls (gd_word (b := true) (by simp)) (gd_word (b := true) (by simp)) dep_word (by simp))
      · refine ew_call (aw_cons (Ew.mono (Q := fun d => d = .tup [.str "stuck", tN [0, 1]]) ?_ fun d e => ?_))
        · refine ew_call (aw_cons (Ew.mono (Q := fun d => d = eL [0] [[1], [1]] [[1], [1]]) (fun b => ⟨_, b, rfl, rfl⟩) fun d e => ?_))
          rw [e]
          exact aw_nil (w_safe o2.hn o2.s (by decide +kernel))
        · subst e
          refine aw_cons (Ew.mono (Q := fun d => d = .tup [.str "stuck", tN [0, 1]]) (fun b => ⟨_, b, rfl, rfl⟩) fun d e => ?_)
          subst e
          exact aw_nil (w_ls (gd_word (b := false) (by simp)) (gd_word (b := false) (by simp)) dep_word (by simp))
    show Sw (sSeq L36 L37) (R x2 (.frz (eL F H N)) (.frz (.str (if (gr F H N).1 = true then "order" else "stuck"))) (.frz (tN (gr F H N).2)) l n fi g s v vs ri he ro th en mo) _
    cases e : gr F H N with
    | mk b o =>
      rw [e] at hg2
      cases b with
      | true =>
        obtain ⟨f', st⟩ := greedy_true _ GS.start (by simp) e
        refine sw_seq (sw_if (tw_or (tw_and (tw_bl (ew_bin (ew_bor rfl (ew_con ⟨_, str_eqO (b := true), x_bl ⟨fun _ => ?_, fun z => (by cases z)⟩⟩)))))))
        refine tw_not (tw_of (ew_call (aw_cons (ew_var rfl (aw_cons (ew_var rfl (aw_nil (w_ends (w := .tup) ok rfl st.lt ?_))))))))
        rw [st.en]
        refine x_tb ⟨fun z => (by cases z), fun _ => ?_⟩
        exact tw_and (tw_bl (ew_bin (ew_bor rfl (ew_con ⟨_, str_eqS (b := true), x_bl ⟨fun z => (by cases z), fun _ => ⟨fun z => (by cases z), fun _ => sw_nx (fin _ _)⟩⟩⟩))))
      | false =>
        obtain ⟨h1, h2, h3, h4⟩ := stuck_case ok po e
        have hs := (List.mem_filter.mp h2).2
        refine sw_seq (sw_if (tw_or (tw_and (tw_bl (ew_bin (ew_bor rfl (ew_con ⟨_, str_eqO (b := false), x_bl ⟨fun z => (by cases z), fun _ => ⟨fun z => (by cases z), fun _ => ?_⟩⟩⟩)))))))
        refine tw_and (tw_bl (ew_bin (ew_bor rfl (ew_con ⟨_, str_eqS (b := false), x_bl ⟨fun _ => ?_, fun z => (by cases z)⟩⟩))))
        refine tw_not (tw_of (ew_call (aw_cons (ew_var rfl (aw_cons (ew_var rfl (aw_nil (w_lstuck ok h4 ?_))))))))
        rw [hs]
        exact x_tb ⟨fun z => (by cases z), fun _ => sw_nx (fin _ _)⟩
end
theorem plain : ∀ ns : List Int, ns.length ≤ 63 → ∃ ρ b, lawAt ⟨ns, 0, 4711 + ns.length⟩ = some (.rt (.bl true), ρ, b) := fun ns _ => by
  obtain ⟨fl, ρ, b, e, h⟩ := law_sw ⟨ns, 0, 4711 + ns.length⟩
  rw [h] at e
  exact ⟨ρ, b, e⟩
end K83

set_option maxHeartbeats 8000000
namespace K83
open PySem L2 Sv
open PyProof.Rows (envOfC)
theorem all_mk {l : PySem.W.OpenLaw} {w : World} {K : PySem.W.Frag} {h : Heap} {mg : Str → Option Value} {fa : Addr} {f1 f2 f7 f8 f9 f10 f11 f12 f13 f14 f15 f17 f18 f19 f20 f21 f22 f23 f24 f25 f26 f27 f28 f29 f30 : Addr} (X : K.In h) (G : h.Ns mainGlobals mg) (hfa : mg "law" = some (.ref fa))
    {od1 an1 : Option Addr} {sl1 : Array (Option Value)} {oc1 kV1 dc1 pm1 cd1 ct1 : Value} (a1 : PySem.W.nsIn K mainGlobals "is_number" = some (some (.ref f1))) (l1 : K.lookup f1 = some ⟨oc1, od1, .func (PySem.W.fnOf "is_number" "is_number" (defArgs (top 1)) (defBody (top 1)) (defScope (top 1)) .none kV1 dc1 pm1 an1 cd1 ct1), sl1⟩) (c1 : PySem.W.codeIn K cd1 "is_number" = true) (k1 : PySem.W.keepIn K (.ref f1) = true)
    {od2 an2 : Option Addr} {sl2 : Array (Option Value)} {oc2 kV2 dc2 pm2 cd2 ct2 : Value} (a2 : PySem.W.nsIn K mainGlobals "is_ascending" = some (some (.ref f2))) (l2 : K.lookup f2 = some ⟨oc2, od2, .func (PySem.W.fnOf "is_ascending" "is_ascending" (defArgs (top 2)) (defBody (top 2)) (defScope (top 2)) .none kV2 dc2 pm2 an2 cd2 ct2), sl2⟩) (c2 : PySem.W.codeIn K cd2 "is_ascending" = true) (k2 : PySem.W.keepIn K (.ref f2) = true)
    {od7 an7 : Option Addr} {sl7 : Array (Option Value)} {oc7 kV7 dc7 pm7 cd7 ct7 : Value} (a7 : PySem.W.nsIn K mainGlobals "is_thing_row" = some (some (.ref f7))) (l7 : K.lookup f7 = some ⟨oc7, od7, .func (PySem.W.fnOf "is_thing_row" "is_thing_row" (defArgs (top 7)) (defBody (top 7)) (defScope (top 7)) .none kV7 dc7 pm7 an7 cd7 ct7), sl7⟩) (c7 : PySem.W.codeIn K cd7 "is_thing_row" = true) (k7 : PySem.W.keepIn K (.ref f7) = true)
    {od8 an8 : Option Addr} {sl8 : Array (Option Value)} {oc8 kV8 dc8 pm8 cd8 ct8 : Value} (a8 : PySem.W.nsIn K mainGlobals "is_loan" = some (some (.ref f8))) (l8 : K.lookup f8 = some ⟨oc8, od8, .func (PySem.W.fnOf "is_loan" "is_loan" (defArgs (top 8)) (defBody (top 8)) (defScope (top 8)) .none kV8 dc8 pm8 an8 cd8 ct8), sl8⟩) (c8 : PySem.W.codeIn K cd8 "is_loan" = true) (k8 : PySem.W.keepIn K (.ref f8) = true)
    {od9 an9 : Option Addr} {sl9 : Array (Option Value)} {oc9 kV9 dc9 pm9 cd9 ct9 : Value} (a9 : PySem.W.nsIn K mainGlobals "fits" = some (some (.ref f9))) (l9 : K.lookup f9 = some ⟨oc9, od9, .func (PySem.W.fnOf "fits" "fits" (defArgs (top 9)) (defBody (top 9)) (defScope (top 9)) .none kV9 dc9 pm9 an9 cd9 ct9), sl9⟩) (c9 : PySem.W.codeIn K cd9 "fits" = true) (k9 : PySem.W.keepIn K (.ref f9) = true)
    {od10 an10 : Option Addr} {sl10 : Array (Option Value)} {oc10 kV10 dc10 pm10 cd10 ct10 : Value} (a10 : PySem.W.nsIn K mainGlobals "added_to" = some (some (.ref f10))) (l10 : K.lookup f10 = some ⟨oc10, od10, .func (PySem.W.fnOf "added_to" "added_to" (defArgs (top 10)) (defBody (top 10)) (defScope (top 10)) .none kV10 dc10 pm10 an10 cd10 ct10), sl10⟩) (c10 : PySem.W.codeIn K cd10 "added_to" = true) (k10 : PySem.W.keepIn K (.ref f10) = true)
    {od11 an11 : Option Addr} {sl11 : Array (Option Value)} {oc11 kV11 dc11 pm11 cd11 ct11 : Value} (a11 : PySem.W.nsIn K mainGlobals "safe_order" = some (some (.ref f11))) (l11 : K.lookup f11 = some ⟨oc11, od11, .func (PySem.W.fnOf "safe_order" "safe_order" (defArgs (top 11)) (defBody (top 11)) (defScope (top 11)) .none kV11 dc11 pm11 an11 cd11 ct11), sl11⟩) (c11 : PySem.W.codeIn K cd11 "safe_order" = true) (k11 : PySem.W.keepIn K (.ref f11) = true)
    {od12 an12 : Option Addr} {sl12 : Array (Option Value)} {oc12 kV12 dc12 pm12 cd12 ct12 : Value} (a12 : PySem.W.nsIn K mainGlobals "is_safe_order" = some (some (.ref f12))) (l12 : K.lookup f12 = some ⟨oc12, od12, .func (PySem.W.fnOf "is_safe_order" "is_safe_order" (defArgs (top 12)) (defBody (top 12)) (defScope (top 12)) .none kV12 dc12 pm12 an12 cd12 ct12), sl12⟩) (c12 : PySem.W.codeIn K cd12 "is_safe_order" = true) (k12 : PySem.W.keepIn K (.ref f12) = true)
    {od13 an13 : Option Addr} {sl13 : Array (Option Value)} {oc13 kV13 dc13 pm13 cd13 ct13 : Value} (a13 : PySem.W.nsIn K mainGlobals "is_stuck" = some (some (.ref f13))) (l13 : K.lookup f13 = some ⟨oc13, od13, .func (PySem.W.fnOf "is_stuck" "is_stuck" (defArgs (top 13)) (defBody (top 13)) (defScope (top 13)) .none kV13 dc13 pm13 an13 cd13 ct13), sl13⟩) (c13 : PySem.W.codeIn K cd13 "is_stuck" = true) (k13 : PySem.W.keepIn K (.ref f13) = true)
    {od14 an14 : Option Addr} {sl14 : Array (Option Value)} {oc14 kV14 dc14 pm14 cd14 ct14 : Value} (a14 : PySem.W.nsIn K mainGlobals "after_asking" = some (some (.ref f14))) (l14 : K.lookup f14 = some ⟨oc14, od14, .func (PySem.W.fnOf "after_asking" "after_asking" (defArgs (top 14)) (defBody (top 14)) (defScope (top 14)) .none kV14 dc14 pm14 an14 cd14 ct14), sl14⟩) (c14 : PySem.W.codeIn K cd14 "after_asking" = true) (k14 : PySem.W.keepIn K (.ref f14) = true)
    {od15 an15 : Option Addr} {sl15 : Array (Option Value)} {oc15 kV15 dc15 pm15 cd15 ct15 : Value} (a15 : PySem.W.nsIn K mainGlobals "may_grant" = some (some (.ref f15))) (l15 : K.lookup f15 = some ⟨oc15, od15, .func (PySem.W.fnOf "may_grant" "may_grant" (defArgs (top 15)) (defBody (top 15)) (defScope (top 15)) .none kV15 dc15 pm15 an15 cd15 ct15), sl15⟩) (c15 : PySem.W.codeIn K cd15 "may_grant" = true) (k15 : PySem.W.keepIn K (.ref f15) = true)
    {od17 an17 : Option Addr} {sl17 : Array (Option Value)} {oc17 kV17 dc17 pm17 cd17 ct17 : Value} (a17 : PySem.W.nsIn K mainGlobals "_law_flat" = some (some (.ref f17))) (l17 : K.lookup f17 = some ⟨oc17, od17, .func (PySem.W.fnOf "_law_flat" "_law_flat" (defArgs (top 17)) (defBody (top 17)) (defScope (top 17)) .none kV17 dc17 pm17 an17 cd17 ct17), sl17⟩) (c17 : PySem.W.codeIn K cd17 "_law_flat" = true) (k17 : PySem.W.keepIn K (.ref f17) = true)
    {od18 an18 : Option Addr} {sl18 : Array (Option Value)} {oc18 kV18 dc18 pm18 cd18 ct18 : Value} (a18 : PySem.W.nsIn K mainGlobals "_law_box" = some (some (.ref f18))) (l18 : K.lookup f18 = some ⟨oc18, od18, .func (PySem.W.fnOf "_law_box" "_law_box" (defArgs (top 18)) (defBody (top 18)) (defScope (top 18)) .none kV18 dc18 pm18 an18 cd18 ct18), sl18⟩) (c18 : PySem.W.codeIn K cd18 "_law_box" = true) (k18 : PySem.W.keepIn K (.ref f18) = true)
    {od19 an19 : Option Addr} {sl19 : Array (Option Value)} {oc19 kV19 dc19 pm19 cd19 ct19 : Value} (a19 : PySem.W.nsIn K mainGlobals "_law_load" = some (some (.ref f19))) (l19 : K.lookup f19 = some ⟨oc19, od19, .func (PySem.W.fnOf "_law_load" "_law_load" (defArgs (top 19)) (defBody (top 19)) (defScope (top 19)) .none kV19 dc19 pm19 an19 cd19 ct19), sl19⟩) (c19 : PySem.W.codeIn K cd19 "_law_load" = true) (k19 : PySem.W.keepIn K (.ref f19) = true)
    {od20 an20 : Option Addr} {sl20 : Array (Option Value)} {oc20 kV20 dc20 pm20 cd20 ct20 : Value} (a20 : PySem.W.nsIn K mainGlobals "_law_draw" = some (some (.ref f20))) (l20 : K.lookup f20 = some ⟨oc20, od20, .func (PySem.W.fnOf "_law_draw" "_law_draw" (defArgs (top 20)) (defBody (top 20)) (defScope (top 20)) .none kV20 dc20 pm20 an20 cd20 ct20), sl20⟩) (c20 : PySem.W.codeIn K cd20 "_law_draw" = true) (k20 : PySem.W.keepIn K (.ref f20) = true)
    {od21 an21 : Option Addr} {sl21 : Array (Option Value)} {oc21 kV21 dc21 pm21 cd21 ct21 : Value} (a21 : PySem.W.nsIn K mainGlobals "_law_same" = some (some (.ref f21))) (l21 : K.lookup f21 = some ⟨oc21, od21, .func (PySem.W.fnOf "_law_same" "_law_same" (defArgs (top 21)) (defBody (top 21)) (defScope (top 21)) .none kV21 dc21 pm21 an21 cd21 ct21), sl21⟩) (c21 : PySem.W.codeIn K cd21 "_law_same" = true) (k21 : PySem.W.keepIn K (.ref f21) = true)
    {od22 an22 : Option Addr} {sl22 : Array (Option Value)} {oc22 kV22 dc22 pm22 cd22 ct22 : Value} (a22 : PySem.W.nsIn K mainGlobals "_law_loan" = some (some (.ref f22))) (l22 : K.lookup f22 = some ⟨oc22, od22, .func (PySem.W.fnOf "_law_loan" "_law_loan" (defArgs (top 22)) (defBody (top 22)) (defScope (top 22)) .none kV22 dc22 pm22 an22 cd22 ct22), sl22⟩) (c22 : PySem.W.codeIn K cd22 "_law_loan" = true) (k22 : PySem.W.keepIn K (.ref f22) = true)
    {od23 an23 : Option Addr} {sl23 : Array (Option Value)} {oc23 kV23 dc23 pm23 cd23 ct23 : Value} (a23 : PySem.W.nsIn K mainGlobals "_law_ends" = some (some (.ref f23))) (l23 : K.lookup f23 = some ⟨oc23, od23, .func (PySem.W.fnOf "_law_ends" "_law_ends" (defArgs (top 23)) (defBody (top 23)) (defScope (top 23)) .none kV23 dc23 pm23 an23 cd23 ct23), sl23⟩) (c23 : PySem.W.codeIn K cd23 "_law_ends" = true) (k23 : PySem.W.keepIn K (.ref f23) = true)
    {od24 an24 : Option Addr} {sl24 : Array (Option Value)} {oc24 kV24 dc24 pm24 cd24 ct24 : Value} (a24 : PySem.W.nsIn K mainGlobals "_law_orders" = some (some (.ref f24))) (l24 : K.lookup f24 = some ⟨oc24, od24, .func (PySem.W.fnOf "_law_orders" "_law_orders" (defArgs (top 24)) (defBody (top 24)) (defScope (top 24)) .none kV24 dc24 pm24 an24 cd24 ct24), sl24⟩) (c24 : PySem.W.codeIn K cd24 "_law_orders" = true) (k24 : PySem.W.keepIn K (.ref f24) = true)
    {od25 an25 : Option Addr} {sl25 : Array (Option Value)} {oc25 kV25 dc25 pm25 cd25 ct25 : Value} (a25 : PySem.W.nsIn K mainGlobals "_law_sets" = some (some (.ref f25))) (l25 : K.lookup f25 = some ⟨oc25, od25, .func (PySem.W.fnOf "_law_sets" "_law_sets" (defArgs (top 25)) (defBody (top 25)) (defScope (top 25)) .none kV25 dc25 pm25 an25 cd25 ct25), sl25⟩) (c25 : PySem.W.codeIn K cd25 "_law_sets" = true) (k25 : PySem.W.keepIn K (.ref f25) = true)
    {od26 an26 : Option Addr} {sl26 : Array (Option Value)} {oc26 kV26 dc26 pm26 cd26 ct26 : Value} (a26 : PySem.W.nsIn K mainGlobals "_law_stuck" = some (some (.ref f26))) (l26 : K.lookup f26 = some ⟨oc26, od26, .func (PySem.W.fnOf "_law_stuck" "_law_stuck" (defArgs (top 26)) (defBody (top 26)) (defScope (top 26)) .none kV26 dc26 pm26 an26 cd26 ct26), sl26⟩) (c26 : PySem.W.codeIn K cd26 "_law_stuck" = true) (k26 : PySem.W.keepIn K (.ref f26) = true)
    {od27 an27 : Option Addr} {sl27 : Array (Option Value)} {oc27 kV27 dc27 pm27 cd27 ct27 : Value} (a27 : PySem.W.nsIn K mainGlobals "_law_numbers" = some (some (.ref f27))) (l27 : K.lookup f27 = some ⟨oc27, od27, .func (PySem.W.fnOf "_law_numbers" "_law_numbers" (defArgs (top 27)) (defBody (top 27)) (defScope (top 27)) .none kV27 dc27 pm27 an27 cd27 ct27), sl27⟩) (c27 : PySem.W.codeIn K cd27 "_law_numbers" = true) (k27 : PySem.W.keepIn K (.ref f27) = true)
    {od28 an28 : Option Addr} {sl28 : Array (Option Value)} {oc28 kV28 dc28 pm28 cd28 ct28 : Value} (a28 : PySem.W.nsIn K mainGlobals "_law_is_loan" = some (some (.ref f28))) (l28 : K.lookup f28 = some ⟨oc28, od28, .func (PySem.W.fnOf "_law_is_loan" "_law_is_loan" (defArgs (top 28)) (defBody (top 28)) (defScope (top 28)) .none kV28 dc28 pm28 an28 cd28 ct28), sl28⟩) (c28 : PySem.W.codeIn K cd28 "_law_is_loan" = true) (k28 : PySem.W.keepIn K (.ref f28) = true)
    {od29 an29 : Option Addr} {sl29 : Array (Option Value)} {oc29 kV29 dc29 pm29 cd29 ct29 : Value} (a29 : PySem.W.nsIn K mainGlobals "_law_bent" = some (some (.ref f29))) (l29 : K.lookup f29 = some ⟨oc29, od29, .func (PySem.W.fnOf "_law_bent" "_law_bent" (defArgs (top 29)) (defBody (top 29)) (defScope (top 29)) .none kV29 dc29 pm29 an29 cd29 ct29), sl29⟩) (c29 : PySem.W.codeIn K cd29 "_law_bent" = true) (k29 : PySem.W.keepIn K (.ref f29) = true)
    {od30 an30 : Option Addr} {sl30 : Array (Option Value)} {oc30 kV30 dc30 pm30 cd30 ct30 : Value} (a30 : PySem.W.nsIn K mainGlobals "law" = some (some (.ref f30))) (l30 : K.lookup f30 = some ⟨oc30, od30, .func (PySem.W.fnOf "law" "law" (defArgs (top 30)) (defBody (top 30)) (defScope (top 30)) .none kV30 dc30 pm30 an30 cd30 ct30), sl30⟩) (c30 : PySem.W.codeIn K cd30 "law" = true) (k30 : PySem.W.keepIn K (.ref f30) = true)
    (zall : PySem.W.nsIn K mainGlobals "all" = some none)
    (zany : PySem.W.nsIn K mainGlobals "any" = some none)
    (zbool : PySem.W.nsIn K mainGlobals "bool" = some none)
    (zenumerate : PySem.W.nsIn K mainGlobals "enumerate" = some none)
    (zint : PySem.W.nsIn K mainGlobals "int" = some none)
    (zisinstance : PySem.W.nsIn K mainGlobals "isinstance" = some none)
    (zlen : PySem.W.nsIn K mainGlobals "len" = some none)
    (zlist : PySem.W.nsIn K mainGlobals "list" = some none)
    (zmax : PySem.W.nsIn K mainGlobals "max" = some none)
    (zrange : PySem.W.nsIn K mainGlobals "range" = some none)
    (zsorted : PySem.W.nsIn K mainGlobals "sorted" = some none)
    (zstr : PySem.W.nsIn K mainGlobals "str" = some none)
    (zsum : PySem.W.nsIn K mainGlobals "sum" = some none)
    (ztuple : PySem.W.nsIn K mainGlobals "tuple" = some none)
    (zzip : PySem.W.nsIn K mainGlobals "zip" = some none)
    {tMAX_HELPERS : Tok} (gMAX_HELPERS : PySem.W.nsIn K mainGlobals "MAX_HELPERS" = some (some (.int 12 tMAX_HELPERS)))
    {tMAX_KINDS : Tok} (gMAX_KINDS : PySem.W.nsIn K mainGlobals "MAX_KINDS" = some (some (.int 6 tMAX_KINDS)))
    {tMAX_THINGS : Tok} (gMAX_THINGS : PySem.W.nsIn K mainGlobals "MAX_THINGS" = some (some (.int 99 tMAX_THINGS))) :
    ∃ fd : FuncData, (∀ (s : Shared) (v : Value), BindsTo s fd ⟨[v], []⟩ [("script", v)]) ∧ ∀ base : Heap, K.In base → base.Ns mainGlobals mg → FnOk l.prog w K mg base CX0 43 fa fd ["script"] (spLaw K) := by
  have e := hfa.symm.trans (PySem.W.mg_of X G a30)
  cases e
  let fas : Nat → Addr := fun i => ([0, f1, f2, 0, 0, 0, 0, f7, f8, f9, f10, f11, f12, f13, f14, f15, 0, f17, f18, f19, f20, f21, f22, f23, f24, f25, f26, f27, f28, f29, fa] : List Addr).getD i 0
  have F1 := fun_mk (st := top 1) l1 c1 k1
  have F2 := fun_mk (st := top 2) l2 c2 k2
  have F7 := fun_mk (st := top 7) l7 c7 k7
  have F8 := fun_mk (st := top 8) l8 c8 k8
  have F9 := fun_mk (st := top 9) l9 c9 k9
  have F10 := fun_mk (st := top 10) l10 c10 k10
  have F11 := fun_mk (st := top 11) l11 c11 k11
  have F12 := fun_mk (st := top 12) l12 c12 k12
  have F13 := fun_mk (st := top 13) l13 c13 k13
  have F14 := fun_mk (st := top 14) l14 c14 k14
  have F15 := fun_mk (st := top 15) l15 c15 k15
  have F17 := fun_mk (st := top 17) l17 c17 k17
  have F18 := fun_mk (st := top 18) l18 c18 k18
  have F19 := fun_mk (st := top 19) l19 c19 k19
  have F20 := fun_mk (st := top 20) l20 c20 k20
  have F21 := fun_mk (st := top 21) l21 c21 k21
  have F22 := fun_mk (st := top 22) l22 c22 k22
  have F23 := fun_mk (st := top 23) l23 c23 k23
  have F24 := fun_mk (st := top 24) l24 c24 k24
  have F25 := fun_mk (st := top 25) l25 c25 k25
  have F26 := fun_mk (st := top 26) l26 c26 k26
  have F27 := fun_mk (st := top 27) l27 c27 k27
  have F28 := fun_mk (st := top 28) l28 c28 k28
  have F29 := fun_mk (st := top 29) l29 c29 k29
  have F30 := fun_mk (st := top 30) l30 c30 k30
  let fds : Nat → FuncData := fun i => ([PySem.W.fnOf "law" "law" (defArgs (top 30)) (defBody (top 30)) (defScope (top 30)) .none kV30 dc30 pm30 an30 cd30 ct30, PySem.W.fnOf "is_number" "is_number" (defArgs (top 1)) (defBody (top 1)) (defScope (top 1)) .none kV1 dc1 pm1 an1 cd1 ct1, PySem.W.fnOf "is_ascending" "is_ascending" (defArgs (top 2)) (defBody (top 2)) (defScope (top 2)) .none kV2 dc2 pm2 an2 cd2 ct2, PySem.W.fnOf "law" "law" (defArgs (top 30)) (defBody (top 30)) (defScope (top 30)) .none kV30 dc30 pm30 an30 cd30 ct30, PySem.W.fnOf "law" "law" (defArgs (top 30)) (defBody (top 30)) (defScope (top 30)) .none kV30 dc30 pm30 an30 cd30 ct30, PySem.W.fnOf "law" "law" (defArgs (top 30)) (defBody (top 30)) (defScope (top 30)) .none kV30 dc30 pm30 an30 cd30 ct30, PySem.W.fnOf "law" "law" (defArgs (top 30)) (defBody (top 30)) (defScope (top 30)) .none kV30 dc30 pm30 an30 cd30 ct30, PySem.W.fnOf "is_thing_row" "is_thing_row" (defArgs (top 7)) (defBody (top 7)) (defScope (top 7)) .none kV7 dc7 pm7 an7 cd7 ct7, PySem.W.fnOf "is_loan" "is_loan" (defArgs (top 8)) (defBody (top 8)) (defScope (top 8)) .none kV8 dc8 pm8 an8 cd8 ct8, PySem.W.fnOf "fits" "fits" (defArgs (top 9)) (defBody (top 9)) (defScope (top 9)) .none kV9 dc9 pm9 an9 cd9 ct9, PySem.W.fnOf "added_to" "added_to" (defArgs (top 10)) (defBody (top 10)) (defScope (top 10)) .none kV10 dc10 pm10 an10 cd10 ct10, PySem.W.fnOf "safe_order" "safe_order" (defArgs (top 11)) (defBody (top 11)) (defScope (top 11)) .none kV11 dc11 pm11 an11 cd11 ct11, PySem.W.fnOf "is_safe_order" "is_safe_order" (defArgs (top 12)) (defBody (top 12)) (defScope (top 12)) .none kV12 dc12 pm12 an12 cd12 ct12, PySem.W.fnOf "is_stuck" "is_stuck" (defArgs (top 13)) (defBody (top 13)) (defScope (top 13)) .none kV13 dc13 pm13 an13 cd13 ct13, PySem.W.fnOf "after_asking" "after_asking" (defArgs (top 14)) (defBody (top 14)) (defScope (top 14)) .none kV14 dc14 pm14 an14 cd14 ct14, PySem.W.fnOf "may_grant" "may_grant" (defArgs (top 15)) (defBody (top 15)) (defScope (top 15)) .none kV15 dc15 pm15 an15 cd15 ct15, PySem.W.fnOf "law" "law" (defArgs (top 30)) (defBody (top 30)) (defScope (top 30)) .none kV30 dc30 pm30 an30 cd30 ct30, PySem.W.fnOf "_law_flat" "_law_flat" (defArgs (top 17)) (defBody (top 17)) (defScope (top 17)) .none kV17 dc17 pm17 an17 cd17 ct17, PySem.W.fnOf "_law_box" "_law_box" (defArgs (top 18)) (defBody (top 18)) (defScope (top 18)) .none kV18 dc18 pm18 an18 cd18 ct18, PySem.W.fnOf "_law_load" "_law_load" (defArgs (top 19)) (defBody (top 19)) (defScope (top 19)) .none kV19 dc19 pm19 an19 cd19 ct19, PySem.W.fnOf "_law_draw" "_law_draw" (defArgs (top 20)) (defBody (top 20)) (defScope (top 20)) .none kV20 dc20 pm20 an20 cd20 ct20, PySem.W.fnOf "_law_same" "_law_same" (defArgs (top 21)) (defBody (top 21)) (defScope (top 21)) .none kV21 dc21 pm21 an21 cd21 ct21, PySem.W.fnOf "_law_loan" "_law_loan" (defArgs (top 22)) (defBody (top 22)) (defScope (top 22)) .none kV22 dc22 pm22 an22 cd22 ct22, PySem.W.fnOf "_law_ends" "_law_ends" (defArgs (top 23)) (defBody (top 23)) (defScope (top 23)) .none kV23 dc23 pm23 an23 cd23 ct23, PySem.W.fnOf "_law_orders" "_law_orders" (defArgs (top 24)) (defBody (top 24)) (defScope (top 24)) .none kV24 dc24 pm24 an24 cd24 ct24, PySem.W.fnOf "_law_sets" "_law_sets" (defArgs (top 25)) (defBody (top 25)) (defScope (top 25)) .none kV25 dc25 pm25 an25 cd25 ct25, PySem.W.fnOf "_law_stuck" "_law_stuck" (defArgs (top 26)) (defBody (top 26)) (defScope (top 26)) .none kV26 dc26 pm26 an26 cd26 ct26, PySem.W.fnOf "_law_numbers" "_law_numbers" (defArgs (top 27)) (defBody (top 27)) (defScope (top 27)) .none kV27 dc27 pm27 an27 cd27 ct27, PySem.W.fnOf "_law_is_loan" "_law_is_loan" (defArgs (top 28)) (defBody (top 28)) (defScope (top 28)) .none kV28 dc28 pm28 an28 cd28 ct28, PySem.W.fnOf "_law_bent" "_law_bent" (defArgs (top 29)) (defBody (top 29)) (defScope (top 29)) .none kV29 dc29 pm29 an29 cd29 ct29, PySem.W.fnOf "law" "law" (defArgs (top 30)) (defBody (top 30)) (defScope (top 30)) .none kV30 dc30 pm30 an30 cd30 ct30] : List FuncData).getD i (PySem.W.fnOf "law" "law" (defArgs (top 30)) (defBody (top 30)) (defScope (top 30)) .none kV30 dc30 pm30 an30 cd30 ct30)
  have b1 := F1.binds (ps := ["value", "least", "most"]) fun _ _ _ _ _ _ us hl => match us, hl with | [_, _, _], _ => rfl
  have b2 := F2.binds (ps := ["rows"]) fun _ _ _ _ _ _ us hl => match us, hl with | [_], _ => rfl
  have b7 := F7.binds (ps := ["kinds", "value"]) fun _ _ _ _ _ _ us hl => match us, hl with | [_, _], _ => rfl
  have b8 := F8.binds (ps := ["value"]) fun _ _ _ _ _ _ us hl => match us, hl with | [_], _ => rfl
  have b9 := F9.binds (ps := ["needed", "free"]) fun _ _ _ _ _ _ us hl => match us, hl with | [_, _], _ => rfl
  have b10 := F10.binds (ps := ["free", "row"]) fun _ _ _ _ _ _ us hl => match us, hl with | [_, _], _ => rfl
  have b11 := F11.binds (ps := ["loan"]) fun _ _ _ _ _ _ us hl => match us, hl with | [_], _ => rfl
  have b12 := F12.binds (ps := ["loan", "value"]) fun _ _ _ _ _ _ us hl => match us, hl with | [_, _], _ => rfl
  have b13 := F13.binds (ps := ["loan", "value"]) fun _ _ _ _ _ _ us hl => match us, hl with | [_, _], _ => rfl
  have b14 := F14.binds (ps := ["loan", "helper", "row"]) fun _ _ _ _ _ _ us hl => match us, hl with | [_, _, _], _ => rfl
  have b15 := F15.binds (ps := ["loan", "helper", "row"]) fun _ _ _ _ _ _ us hl => match us, hl with | [_, _, _], _ => rfl
  have b17 := F17.binds (ps := ["rows"]) fun _ _ _ _ _ _ us hl => match us, hl with | [_], _ => rfl
  have b18 := F18.binds (ps := ["script"]) fun _ _ _ _ _ _ us hl => match us, hl with | [_], _ => rfl
  have b19 := F19.binds (ps := ["box"]) fun _ _ _ _ _ _ us hl => match us, hl with | [_], _ => rfl
  have b20 := F20.binds (ps := ["box", "many"]) fun _ _ _ _ _ _ us hl => match us, hl with | [_, _], _ => rfl
  have b21 := F21.binds (ps := ["a", "b"]) fun _ _ _ _ _ _ us hl => match us, hl with | [_, _], _ => rfl
  have b22 := F22.binds (ps := ["box", "kinds", "many", "most"]) fun _ _ _ _ _ _ us hl => match us, hl with | [_, _, _, _], _ => rfl
  have b23 := F23.binds (ps := ["loan", "order"]) fun _ _ _ _ _ _ us hl => match us, hl with | [_, _], _ => rfl
  have b24 := F24.binds (ps := ["n"]) fun _ _ _ _ _ _ us hl => match us, hl with | [_], _ => rfl
  have b25 := F25.binds (ps := ["n"]) fun _ _ _ _ _ _ us hl => match us, hl with | [_], _ => rfl
  have b26 := F26.binds (ps := ["loan", "group"]) fun _ _ _ _ _ _ us hl => match us, hl with | [_, _], _ => rfl
  have b27 := F27.binds (ps := ["value", "n"]) fun _ _ _ _ _ _ us hl => match us, hl with | [_, _], _ => rfl
  have b28 := F28.binds (ps := ["value"]) fun _ _ _ _ _ _ us hl => match us, hl with | [_], _ => rfl
  have b29 := F29.binds (ps := ["box", "value"]) fun _ _ _ _ _ _ us hl => match us, hl with | [_, _], _ => rfl
  have b30 := F30.binds (ps := ["script"]) fun _ _ _ _ _ _ us hl => match us, hl with | [_], _ => rfl
  have T : Txt K mg fas fds := ⟨⟨F1, PySem.W.mg_of X G a1, b1⟩, ⟨F2, PySem.W.mg_of X G a2, b2⟩, ⟨F7, PySem.W.mg_of X G a7, b7⟩, ⟨F8, PySem.W.mg_of X G a8, b8⟩, ⟨F9, PySem.W.mg_of X G a9, b9⟩, ⟨F10, PySem.W.mg_of X G a10, b10⟩, ⟨F11, PySem.W.mg_of X G a11, b11⟩, ⟨F12, PySem.W.mg_of X G a12, b12⟩, ⟨F13, PySem.W.mg_of X G a13, b13⟩, ⟨F14, PySem.W.mg_of X G a14, b14⟩, ⟨F15, PySem.W.mg_of X G a15, b15⟩, ⟨F17, PySem.W.mg_of X G a17, b17⟩, ⟨F18, PySem.W.mg_of X G a18, b18⟩, ⟨F19, PySem.W.mg_of X G a19, b19⟩, ⟨F20, PySem.W.mg_of X G a20, b20⟩, ⟨F21, PySem.W.mg_of X G a21, b21⟩, ⟨F22, PySem.W.mg_of X G a22, b22⟩, ⟨F23, PySem.W.mg_of X G a23, b23⟩, ⟨F24, PySem.W.mg_of X G a24, b24⟩, ⟨F25, PySem.W.mg_of X G a25, b25⟩, ⟨F26, PySem.W.mg_of X G a26, b26⟩, ⟨F27, PySem.W.mg_of X G a27, b27⟩, ⟨F28, PySem.W.mg_of X G a28, b28⟩, ⟨F29, PySem.W.mg_of X G a29, b29⟩, ⟨F30, PySem.W.mg_of X G a30, b30⟩, PySem.W.mg_none_of X G zall, PySem.W.mg_none_of X G zany, PySem.W.mg_none_of X G zbool, PySem.W.mg_none_of X G zenumerate, PySem.W.mg_none_of X G zint, PySem.W.mg_none_of X G zisinstance, PySem.W.mg_none_of X G zlen, PySem.W.mg_none_of X G zlist, PySem.W.mg_none_of X G zmax, PySem.W.mg_none_of X G zrange, PySem.W.mg_none_of X G zsorted, PySem.W.mg_none_of X G zstr, PySem.W.mg_none_of X G zsum, PySem.W.mg_none_of X G ztuple, PySem.W.mg_none_of X G zzip, ⟨_, PySem.W.mg_of X G gMAX_HELPERS, ⟨_, rfl⟩⟩, ⟨_, PySem.W.mg_of X G gMAX_KINDS, ⟨_, rfl⟩⟩, ⟨_, PySem.W.mg_of X G gMAX_THINGS, ⟨_, rfl⟩⟩⟩
  exact ⟨fds 30, fun s v => .of_eq rfl, fun base _ _ => ok_law T plain⟩
theorem walk {l : PySem.W.OpenLaw} {q : Program} {loose : List Str} {XP : (Str → Option Value) → Heap → Prop} {YP : World → Heap → Prop} {d : DefRec} {K : Params → PySem.W.Frag} (hn : l.most = some 63) (hdf : d.params.defaults = [])
    (hY : ∀ (w : World) (h : Heap), YP w h → (K w.params).In h)
    (F : ∀ (w : World) (mg : Str → Option Value) (fa : Addr) (h : Heap), (K w.params).In h → h.Ns mainGlobals mg → mg d.name = some (.ref fa) →
      ∃ fd : FuncData, (∀ (s : Shared) (u : Value), BindsTo s fd ⟨[u], []⟩ [("script", u)]) ∧ ∀ base : Heap, (K w.params).In base → base.Ns mainGlobals mg → FnOk l.prog w (K w.params) mg base CX0 43 fa fd ["script"] (spLaw (K w.params))) :
    PySem.W.WalkO q loose XP YP l.row.toRowW d [] (fun f vs => PySem.call f vs) :=
  L2.walk_of (n := 63) (k := 43) (x := "script") (CX := fun _ => CX0) (sp := fun w => spLaw (K w.params)) hn (by decide) hdf ⟨rfl, by decide, by decide⟩ hY F (fun _ _ a ns hl _ hS => ⟨a, ns, rfl, hS, hl, fun _ => rfl⟩) fun _ _ _ _ _ z => z
end K83

open PySem PySem.W PyProof.Rows in
set_option maxRecDepth 100000 in
set_option maxHeartbeats 0 in
theorem PySem.Challenge.cw_roomsemptied_k83_whole_safe_loans_holds : PySem.Challenge.rw_roomsemptied_k83_whole_safe_loans.Holds := by
  w_on; o_law; k_head; (case hw => w_witness2)
  k_fill
  refine K83.walk (l := PySem.Challenge.rw_roomsemptied_k83_whole_safe_loans) rfl rfl (fun w h Y => PySem.W.kIn_of Y) ?F
  case F =>
    intro w mg fa h KX G hmg
    refine' K83.all_mk KX G hmg ?a1 ?l1 ?c1 ?k1 ?a2 ?l2 ?c2 ?k2 ?a7 ?l7 ?c7 ?k7 ?a8 ?l8 ?c8 ?k8 ?a9 ?l9 ?c9 ?k9 ?a10 ?l10 ?c10 ?k10 ?a11 ?l11 ?c11 ?k11 ?a12 ?l12 ?c12 ?k12 ?a13 ?l13 ?c13 ?k13 ?a14 ?l14 ?c14 ?k14 ?a15 ?l15 ?c15 ?k15 ?a17 ?l17 ?c17 ?k17 ?a18 ?l18 ?c18 ?k18 ?a19 ?l19 ?c19 ?k19 ?a20 ?l20 ?c20 ?k20 ?a21 ?l21 ?c21 ?k21 ?a22 ?l22 ?c22 ?k22 ?a23 ?l23 ?c23 ?k23 ?a24 ?l24 ?c24 ?k24 ?a25 ?l25 ?c25 ?k25 ?a26 ?l26 ?c26 ?k26 ?a27 ?l27 ?c27 ?k27 ?a28 ?l28 ?c28 ?k28 ?a29 ?l29 ?c29 ?k29 ?a30 ?l30 ?c30 ?k30 ?zall ?zany ?zbool ?zenumerate ?zint ?zisinstance ?zlen ?zlist ?zmax ?zrange ?zsorted ?zstr ?zsum ?ztuple ?zzip ?gMAX_HELPERS ?gMAX_KINDS ?gMAX_THINGS
    (case a1 => k_is)
    (case l1 => k_is)
    (case c1 => k_is)
    (case k1 => k_is)
    (case a2 => k_is)
    (case l2 => k_is)
    (case c2 => k_is)
    (case k2 => k_is)
    (case a7 => k_is)
    (case l7 => k_is)
    (case c7 => k_is)
    (case k7 => k_is)
    (case a8 => k_is)
    (case l8 => k_is)
    (case c8 => k_is)
    (case k8 => k_is)
    (case a9 => k_is)
    (case l9 => k_is)
    (case c9 => k_is)
    (case k9 => k_is)
    (case a10 => k_is)
    (case l10 => k_is)
    (case c10 => k_is)
    (case k10 => k_is)
    (case a11 => k_is)
    (case l11 => k_is)
    (case c11 => k_is)
    (case k11 => k_is)
    (case a12 => k_is)
    (case l12 => k_is)
    (case c12 => k_is)
    (case k12 => k_is)
    (case a13 => k_is)
    (case l13 => k_is)
    (case c13 => k_is)
    (case k13 => k_is)
    (case a14 => k_is)
    (case l14 => k_is)
    (case c14 => k_is)
    (case k14 => k_is)
    (case a15 => k_is)
    (case l15 => k_is)
    (case c15 => k_is)
    (case k15 => k_is)
    (case a17 => k_is)
    (case l17 => k_is)
    (case c17 => k_is)
    (case k17 => k_is)
    (case a18 => k_is)
    (case l18 => k_is)
    (case c18 => k_is)
    (case k18 => k_is)
    (case a19 => k_is)
    (case l19 => k_is)
    (case c19 => k_is)
    (case k19 => k_is)
    (case a20 => k_is)
    (case l20 => k_is)
    (case c20 => k_is)
    (case k20 => k_is)
    (case a21 => k_is)
    (case l21 => k_is)
    (case c21 => k_is)
    (case k21 => k_is)
    (case a22 => k_is)
    (case l22 => k_is)
    (case c22 => k_is)
    (case k22 => k_is)
    (case a23 => k_is)
    (case l23 => k_is)
    (case c23 => k_is)
    (case k23 => k_is)
    (case a24 => k_is)
    (case l24 => k_is)
    (case c24 => k_is)
    (case k24 => k_is)
    (case a25 => k_is)
    (case l25 => k_is)
    (case c25 => k_is)
    (case k25 => k_is)
    (case a26 => k_is)
    (case l26 => k_is)
    (case c26 => k_is)
    (case k26 => k_is)
    (case a27 => k_is)
    (case l27 => k_is)
    (case c27 => k_is)
    (case k27 => k_is)
    (case a28 => k_is)
    (case l28 => k_is)
    (case c28 => k_is)
    (case k28 => k_is)
    (case a29 => k_is)
    (case l29 => k_is)
    (case c29 => k_is)
    (case k29 => k_is)
    (case a30 => k_is)
    (case l30 => k_is)
    (case c30 => k_is)
    (case k30 => k_is)
    (case zall => k_is)
    (case zany => k_is)
    (case zbool => k_is)
    (case zenumerate => k_is)
    (case zint => k_is)
    (case zisinstance => k_is)
    (case zlen => k_is)
    (case zlist => k_is)
    (case zmax => k_is)
    (case zrange => k_is)
    (case zsorted => k_is)
    (case zstr => k_is)
    (case zsum => k_is)
    (case ztuple => k_is)
    (case zzip => k_is)
    (case gMAX_HELPERS => k_is)
    (case gMAX_KINDS => k_is)
    (case gMAX_THINGS => k_is)
