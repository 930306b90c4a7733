import PyProof.Rows.All
import Wide.All
import OpenK.AllK
import Wide.FinOn
import HandS.ForMost
import HandS.Deep
import HandS.AnyAll
import HandS.Exc
import HandS.TryOnly
import HandS.WordsExc
import HandS.CallSlots
import HandS.TupLe
import HandS.TupAny
import HandS.TupMul
import HandS.TupLen
import PyProof.DictMoreH
import HandS.Style
import HandS.Conv
import HandS.IsInst
import KE.KDictCopyH
import KE.SortCalls
import HandS.More
import HandS.Small
import HandS.Keys
import HandS.DictComp
import HandS.Defaults
import HandS.Head0
import HandS.Head1
import HandS.Head2
import HandS.HeadEnd
import HandS.HeadHook1
import HandS.HeadHook2
import HandS.Ends
import HandS.EndTab
import KE.GoesMore
import KE.GoesEnum
import HandS.Iter
import PyProof.TableCode
import PySem.Challenge.RW_tilehall_k14_known_counts_of_pairs
set_option Elab.async false
set_option linter.all false
set_option maxRecDepth 100000
set_option maxHeartbeats 4000000
namespace EV
open PySem PySem.Spec PyProof.Rows L2

/-! ### data -/
inductive D where
  | non | bl (b : Bool) | int (i : Int) | str (x : Str) | tup (xs : List D) | lst (xs : List D) | dct (ks vs : List D) | obj (k : Nat) | fz (xs : List Int)
  deriving Inhabited
mutual
def D.beq : D → D → Bool
  | .non, .non => true
  | .bl a, .bl b => a == b
  | .int i, .int j => i == j
  | .str x, .str y => x == y
  | .tup xs, .tup ys => D.beqL xs ys
  | .lst xs, .lst ys => D.beqL xs ys
  | .dct ks vs, .dct ls ws => D.beqL ks ls && D.beqL vs ws
  | .obj i, .obj j => Nat.beq i j
  | .fz i, .fz j => i == j
  | _, _ => false
def D.beqL : List D → List D → Bool
  | [], [] => true
  | x :: xs, y :: ys => D.beq x y && D.beqL xs ys
  | _, _ => false
end
mutual
theorem D.beq_eq : ∀ {a b : D}, D.beq a b = true → a = b
  | .non, b, h => by cases b <;> simp [D.beq] at h ⊢
  | .bl x, b, h => by cases b <;> simp [D.beq] at h ⊢; exact h
  | .int x, b, h => by cases b <;> simp [D.beq] at h ⊢; exact h
  | .str x, b, h => by cases b <;> simp [D.beq] at h ⊢; exact h
  | .tup xs, b, h => by cases b <;> simp [D.beq] at h ⊢; exact D.beqL_eq h
  | .lst xs, b, h => by cases b <;> simp [D.beq] at h ⊢; exact D.beqL_eq h
  | .dct xs ys, b, h => by cases b <;> simp [D.beq] at h ⊢; exact ⟨D.beqL_eq h.1, D.beqL_eq h.2⟩
  | .obj x, b, h => by cases b <;> simp [D.beq] at h ⊢; exact h
  | .fz x, b, h => by cases b <;> simp [D.beq] at h ⊢; exact h
theorem D.beqL_eq : ∀ {a b : List D}, D.beqL a b = true → a = b
  | [], b, h => by cases b <;> simp [D.beqL] at h ⊢
  | x :: xs, b, h => by
    cases b with
    | nil => simp [D.beqL] at h
    | cons y ys =>
      simp [D.beqL] at h
      rw [D.beq_eq h.1, D.beqL_eq h.2]
end
mutual
theorem D.beq_refl : ∀ a : D, D.beq a a = true
  | .non => rfl
  | .bl x => by simp [D.beq]
  | .int x => by simp [D.beq]
  | .str x => by simp [D.beq]
  | .tup xs => by simp [D.beq]; exact D.beqL_refl xs
  | .lst xs => by simp [D.beq]; exact D.beqL_refl xs
  | .dct xs ys => by simp [D.beq]; exact ⟨D.beqL_refl xs, D.beqL_refl ys⟩
  | .obj x => by simp [D.beq]
  | .fz x => by simp [D.beq]
theorem D.beqL_refl : ∀ a : List D, D.beqL a a = true
  | [] => rfl
  | x :: xs => by simp [D.beqL]; exact ⟨D.beq_refl x, D.beqL_refl xs⟩
end
theorem D.beq_iff {a b : D} : D.beq a b = true ↔ a = b := ⟨D.beq_eq, fun h => h ▸ D.beq_refl a⟩
instance : DecidableEq D := fun a b => decidable_of_iff _ D.beq_iff
theorem D.decide_eq (a b : D) : decide (a = b) = D.beq a b := by
  cases h : D.beq a b with
  | true => exact decide_eq_true (D.beq_eq h)
  | false => exact decide_eq_false fun e => by rw [D.beq_iff.mpr e] at h; cases h

/-- what stands in a numbered place: a list, a dict (f: walked by a loop, not to be written), an instance -/
inductive Cell where
  | lst (f : Bool) (xs : List D)
  | dct (f : Bool) (ks vs : List D)
  | ins (c : Nat) (fs : List D)
  | hid
  deriving Inhabited
def Cell.frz : Cell → Bool
  | .lst f _ => f
  | .dct f _ _ => f
  | .ins _ _ => false
  | .hid => true
/-- b: the places below b belong to callers -/
structure Mem where
  b : Nat
  c : List Cell
inductive Res (α : Type) where
  | ok (a : α) (M : Mem)
  | exc (c : Nat) (fs : List D) (M : Mem)
  | bad
abbrev Sl := List (Option D)
def Res.bind {α β : Type} (r : Res α) (f : α → Mem → Res β) : Res β :=
  match r with
  | .ok a M => f a M
  | .exc c fs M => .exc c fs M
  | .bad => .bad
abbrev Ex := Sl → Mem → Res D
inductive Fl where
  | nx (e : Sl) (M : Mem)
  | rt (d : D) (M : Mem)
  | bk (e : Sl) (M : Mem)
  | ct (e : Sl) (M : Mem)
  | exc (c : Nat) (fs : List D) (e : Sl) (M : Mem)
  | bad
abbrev Sx := Sl → Mem → Fl
abbrev Fn := List D → Mem → Res D

mutual
/-- all places named in it lie below n -/
def refsLt (n : Nat) : D → Bool
  | .obj k => Nat.blt k n
  | .tup xs => refsLtL n xs
  | .lst xs => refsLtL n xs
  | .dct ks vs => refsLtL n ks && refsLtL n vs
  | .non => true
  | .bl _ => true
  | .int _ => true
  | .str _ => true
  | .fz _ => true
def refsLtL (n : Nat) : List D → Bool
  | [] => true
  | x :: xs => refsLt n x && refsLtL n xs
end
def Cell.refsLt (n : Nat) : Cell → Bool
  | .lst _ xs => refsLtL n xs
  | .dct _ ks vs => refsLtL n ks && refsLtL n vs
  | .ins _ fs => refsLtL n fs
  | .hid => true

/-! ### the tables of a text: exceptions' classes, instances' classes -/
structure Tb where
  xc : Nat → Addr
  xf : Nat → List Str
  ic : Nat → Addr
  nf : Nat → List Str
  tabs : List Addr := []
structure Kx where
  K : PySem.W.Frag
  w : World
  P : Program
  T : Tb

mutual
/-- what may be a key of a dict that is keyed by tuples: ints, texts, None, tuples of these -/
def isKey : D → Bool
  | .non => true
  | .int _ => true
  | .str x => PyData.strOk x
  | .tup xs => isKeys xs
  | _ => false
def isKeys : List D → Bool
  | [] => true
  | x :: xs => isKey x && isKeys xs
end
mutual
def dep : D → Nat
  | .tup xs => depL xs + 1
  | .lst xs => depL xs + 1
  | _ => 0
def depL : List D → Nat
  | [] => 0
  | x :: xs => Nat.max (dep x) (depL xs)
end
mutual
/-- plain data (no dict, no numbered place) -/
def pd : D → Option PyData
  | .non => some .none
  | .bl b => some (.bool b)
  | .int i => some (.int i)
  | .str x => some (.str x)
  | .tup xs => (pdL xs).map .tuple
  | .lst xs => (pdL xs).map .list
  | .dct _ _ => none
  | .obj _ => none
  | .fz _ => none
def pdL : List D → Option (List PyData)
  | [] => some []
  | x :: xs => match pd x, pdL xs with
    | some y, some ys => some (y :: ys)
    | _, _ => none
end
mutual
/-- equal as Python has it (a bool is an int) -/
def deq : D → D → Bool
  | .non, .non => true
  | .bl a, .bl b => a == b
  | .bl a, .int j => (if a then 1 else 0) == j
  | .int i, .bl b => i == (if b then 1 else 0)
  | .int i, .int j => i == j
  | .str x, .str y => x == y
  | .tup xs, .tup ys => deqL xs ys
  | .lst xs, .lst ys => deqL xs ys
  | _, _ => false
def deqL : List D → List D → Bool
  | [], [] => true
  | x :: xs, y :: ys => deq x y && deqL xs ys
  | _, _ => false
end
mutual
theorem deq_eqv : ∀ {a b : D} {x y : PyData}, pd a = some x → pd b = some y → PyData.eqv x y = deq a b
  | .non, b, x, y, h1, h2 => by
    simp [pd] at h1; subst h1
    cases b <;> simp [pd] at h2 <;> (first | (subst h2; simp [PyData.eqv, deq]) | (obtain ⟨z, _, rfl⟩ := h2; simp [PyData.eqv, deq]))
  | .bl _, b, x, y, h1, h2 => by
    simp [pd] at h1; subst h1
    cases b <;> simp [pd] at h2 <;> (first | (subst h2; simp [PyData.eqv, deq]) | (obtain ⟨z, _, rfl⟩ := h2; simp [PyData.eqv, deq]))
  | .int _, b, x, y, h1, h2 => by
    simp [pd] at h1; subst h1
    cases b <;> simp [pd] at h2 <;> (first | (subst h2; simp [PyData.eqv, deq]) | (obtain ⟨z, _, rfl⟩ := h2; simp [PyData.eqv, deq]))
  | .str _, b, x, y, h1, h2 => by
    simp [pd] at h1; subst h1
    cases b <;> simp [pd] at h2 <;> (first | (subst h2; simp [PyData.eqv, deq]) | (obtain ⟨z, _, rfl⟩ := h2; simp [PyData.eqv, deq]))
  | .tup xs, b, x, y, h1, h2 => by
    simp [pd] at h1
    obtain ⟨z1, e1, rfl⟩ := h1
    cases b <;> simp [pd] at h2 <;> (first | (subst h2; simp [PyData.eqv, deq]) | (obtain ⟨z, e2, rfl⟩ := h2; first | (simp only [PyData.eqv, deq]; exact deqL_eqv e1 e2) | simp only [PyData.eqv, deq]))
  | .lst xs, b, x, y, h1, h2 => by
    simp [pd] at h1
    obtain ⟨z1, e1, rfl⟩ := h1
    cases b <;> simp [pd] at h2 <;> (first | (subst h2; simp [PyData.eqv, deq]) | (obtain ⟨z, e2, rfl⟩ := h2; first | (simp only [PyData.eqv, deq]; exact deqL_eqv e1 e2) | simp only [PyData.eqv, deq]))
  | .dct _ _, _, _, _, h1, _ => by simp [pd] at h1
  | .obj _, _, _, _, h1, _ => by simp [pd] at h1
  | .fz _, _, _, _, h1, _ => by simp [pd] at h1
theorem deqL_eqv : ∀ {a b : List D} {x y : List PyData}, pdL a = some x → pdL b = some y → PyData.eqvAll x y = deqL a b
  | [], b, x, y, h1, h2 => by
    simp [pdL] at h1; subst h1
    cases b with
    | nil => simp [pdL] at h2; subst h2; simp [PyData.eqvAll, deqL]
    | cons z zs =>
      simp only [pdL] at h2
      split at h2
      · cases h2; simp [PyData.eqvAll, deqL]
      · cases h2
  | a :: as, b, x, y, h1, h2 => by
    simp only [pdL] at h1
    split at h1
    · rename_i u us e1 e2
      cases h1
      cases b with
      | nil => simp [pdL] at h2; subst h2; simp [PyData.eqvAll, deqL]
      | cons z zs =>
        simp only [pdL] at h2
        split at h2
        · rename_i w ws e3 e4
          cases h2
          simp only [PyData.eqvAll, deqL, deq_eqv e1 e3, deqL_eqv e2 e4]
        · cases h2
    · cases h1
end
mutual
theorem dep_pd : ∀ {a : D} {x : PyData}, pd a = some x → x.depth = dep a
  | .non, x, h => by simp [pd] at h; subst h; simp [PyData.depth, dep]
  | .bl _, x, h => by simp [pd] at h; subst h; simp [PyData.depth, dep]
  | .int _, x, h => by simp [pd] at h; subst h; simp [PyData.depth, dep]
  | .str _, x, h => by simp [pd] at h; subst h; simp [PyData.depth, dep]
  | .tup xs, x, h => by
    simp [pd] at h
    obtain ⟨z, e, rfl⟩ := h
    simp only [PyData.depth, dep, depL_pd e]; try omega
  | .lst xs, x, h => by
    simp [pd] at h
    obtain ⟨z, e, rfl⟩ := h
    simp only [PyData.depth, dep, depL_pd e]; try omega
  | .dct _ _, _, h => by simp [pd] at h
  | .obj _, _, h => by simp [pd] at h
  | .fz _, _, h => by simp [pd] at h
theorem depL_pd : ∀ {a : List D} {x : List PyData}, pdL a = some x → PyData.depthAll x = depL a
  | [], x, h => by simp [pdL] at h; subst h; simp [PyData.depthAll, depL]
  | a :: as, x, h => by
    simp only [pdL] at h
    split at h
    · rename_i u us e1 e2
      cases h
      simp only [PyData.depthAll, depL, dep_pd e1, depL_pd e2]; try rfl
    · cases h
end
end EV

set_option Elab.async false
set_option linter.all false
set_option maxRecDepth 100000
set_option maxHeartbeats 4000000
namespace EV
open PySem PySem.Spec PyProof.Rows L2

/-! ### deep keys -/
mutual
/-- the value u in the heap h is the key d -/
inductive KeyAt (h : Heap) : D → Value → Prop
  | non : KeyAt h .non .none
  | int (i : Int) (t : Tok) : KeyAt h (.int i) (.int i t)
  | str (x : Str) (t : Tok) : PyData.strOk x = true → KeyAt h (.str x) (.str x t)
  | tup {a : Addr} {o : Obj} {items : Array Value} {n : Nat} {ds : List D} : h.get? a = some o → o.cls = .type "tuple" → o.data = .seq items n → KeysAt h ds items.toList → KeyAt h (.tup ds) (.ref a)
inductive KeysAt (h : Heap) : List D → List Value → Prop
  | nil : KeysAt h [] []
  | cons {d : D} {u : Value} {ds : List D} {us : List Value} : KeyAt h d u → KeysAt h ds us → KeysAt h (d :: ds) (u :: us)
end
mutual
theorem KeyAt.inj {h : Heap} : ∀ {d e : D} {u : Value}, KeyAt h d u → KeyAt h e u → d = e
  | _, _, _, .non, y => by cases y; rfl
  | _, _, _, .int _ _, y => by cases y; rfl
  | _, _, _, .str _ _ _, y => by cases y; rfl
  | _, _, _, .tup g1 g2 g3 g4, y => by
    cases y with
    | tup k1 k2 k3 k4 =>
      rw [g1] at k1; cases k1
      rw [g3] at k3; cases k3
      rw [KeysAt.inj g4 k4]
theorem KeysAt.inj {h : Heap} : ∀ {ds es : List D} {us : List Value}, KeysAt h ds us → KeysAt h es us → ds = es
  | _, _, _, .nil, y => by cases y; rfl
  | _, _, _, .cons a b, y => by
    cases y with
    | cons c d => rw [KeyAt.inj a c, KeysAt.inj b d]
end
mutual
theorem KeyAt.keeps {h h' : Heap} (k : ∀ a o vs n, h.get? a = some o → o.cls = .type "tuple" → o.data = .seq vs n → h'.get? a = some o) : ∀ {d : D} {u : Value}, KeyAt h d u → KeyAt h' d u
  | _, _, .non => .non
  | _, _, .int i t => .int i t
  | _, _, .str x t e => .str x t e
  | _, _, .tup g1 g2 g3 g4 => .tup (k _ _ _ _ g1 g2 g3) g2 g3 (KeysAt.keeps k g4)
theorem KeysAt.keeps {h h' : Heap} (k : ∀ a o vs n, h.get? a = some o → o.cls = .type "tuple" → o.data = .seq vs n → h'.get? a = some o) : ∀ {ds : List D} {us : List Value}, KeysAt h ds us → KeysAt h' ds us
  | _, _, .nil => .nil
  | _, _, .cons a b => .cons (KeyAt.keeps k a) (KeysAt.keeps k b)
end
mutual
theorem KeyAt.reads {h : Heap} : ∀ {d : D} {u : Value}, KeyAt h d u → ∃ p as, pd d = some p ∧ Reads h u p as ∧ p.canLay0 = true
  | _, _, .non => ⟨_, _, rfl, .none, by simp [PyData.canLay0]⟩
  | _, _, .int i t => ⟨_, _, rfl, .int i t, by simp [PyData.canLay0]⟩
  | _, _, .str x t e => ⟨_, _, rfl, .str x t, by simpa [PyData.canLay0] using e⟩
  | _, _, .tup g1 g2 g3 g4 => by
    obtain ⟨ps, as, e, r, c⟩ := KeysAt.reads g4
    exact ⟨.tuple ps, as, by simp [pd, e], .tuple g1 g2 g3 r, by simpa [PyData.canLay0] using c⟩
theorem KeysAt.reads {h : Heap} : ∀ {ds : List D} {us : List Value}, KeysAt h ds us → ∃ ps as, pdL ds = some ps ∧ ReadsAll h us ps as ∧ PyData.canLayAll0 ps = true
  | _, _, .nil => ⟨[], [], rfl, .nil, by simp [PyData.canLayAll0]⟩
  | _, _, .cons a b => by
    obtain ⟨p, as, e, r, c⟩ := KeyAt.reads a
    obtain ⟨ps, bs, e', r', c'⟩ := KeysAt.reads b
    exact ⟨p :: ps, as ++ bs, by simp [pdL, e, e'], .cons r r', by simp [PyData.canLayAll0, c, c']⟩
end
mutual
theorem KeyAt.isKey {h : Heap} : ∀ {d : D} {u : Value}, KeyAt h d u → isKey d = true
  | _, _, .non => rfl
  | _, _, .int i t => rfl
  | _, _, .str x t e => by simpa [EV.isKey] using e
  | _, _, .tup g1 g2 g3 g4 => by simp [EV.isKey]; exact KeysAt.isKeys g4
theorem KeysAt.isKeys {h : Heap} : ∀ {ds : List D} {us : List Value}, KeysAt h ds us → isKeys ds = true
  | _, _, .nil => rfl
  | _, _, .cons a b => by simp [EV.isKeys]; exact ⟨KeyAt.isKey a, KeysAt.isKeys b⟩
end
mutual
theorem deq_key : ∀ {a b : D}, isKey a = true → isKey b = true → deq a b = decide (a = b)
  | .non, b, _, hb => by cases b <;> simp [isKey] at hb <;> simp [deq]
  | .int i, b, _, hb => by
    cases b <;> simp [isKey] at hb <;> simp [deq]
    rename_i j
    by_cases e : i = j <;> simp [e]
  | .str i, b, _, hb => by
    cases b <;> simp [isKey] at hb <;> simp [deq]
    rename_i j
    by_cases e : i = j <;> simp [e]
  | .tup xs, b, ha, hb => by
    cases b <;> simp [isKey] at hb <;> simp [deq]
    rename_i ys
    rw [deqL_key (by simpa [isKey] using ha) hb]
theorem deqL_key : ∀ {a b : List D}, isKeys a = true → isKeys b = true → deqL a b = decide (a = b)
  | [], b, _, hb => by cases b <;> simp [deqL]
  | x :: xs, b, ha, hb => by
    cases b with
    | nil => simp [deqL]
    | cons y ys =>
      simp [isKeys] at ha hb
      simp only [deqL, deq_key ha.1 hb.1, deqL_key ha.2 hb.2]
      by_cases e : x = y <;> by_cases e' : xs = ys <;> simp [e, e']
end

def hashNon : Int := reduceHash 0xFCA86420
mutual
def kHash (w : World) : D → Int
  | .int i => hashInt i
  | .str x => hashStr w x
  | .tup xs => reduceHash (Builtin.Tuple.tupleHashOf (kHashL w xs))
  | _ => hashNon
def kHashL (w : World) : List D → List Int
  | [] => []
  | x :: xs => kHash w x :: kHashL w xs
end
mutual
def kDraw : D → Nat
  | .tup xs => kDrawL xs + 1
  | _ => 1
def kDrawL : List D → Nat
  | [] => 0
  | x :: xs => kDraw x + kDrawL xs
end
section
variable {prog : Program} {w : World} {E : Value → Shared → Prop}
theorem room_line {s : Shared} {A : Around} {u : Value} {Q : Unit → Shared → Prop} (hu : A.units < cLine) (h : Q () s) : wpAny (model prog w) A (cRoomFor "hash" [u]) Q E s := wpAny_cRoomFor_or (.inr hu) h
theorem hash_non {s : Shared} {A : Around} {Q : Int → Shared → Prop} (hu : A.units < cLine) (h : Q hashNon { s with toks := s.toks + 1 }) : wpAny (model prog w) A (pyHash .none) Q E s := by
  have hT : s.TypeIs .none "NoneType" := rfl
  unfold pyHash pyHashByItsType
  refine wpAny_bind (wpAny_cRoomFor_or (.inr hu) (wpAny_bind (wpAny_specialOf hT F.slot_NoneType_hash.lookup ?_)))
  show wpAny _ _ (if (some (Value.builtin "NoneType.__hash__") == some Value.none) = true then _ else _) Q E s
  rw [if_neg (by rw [beq_builtin_none]; decide)]
  refine wpAny_bind (wpAny_specialOf hT F.slot_NoneType_hash.lookup ?_)
  show wpAny _ _ (callSpecialIfBoundUnlessNone? .none "__hash__" _ >>= _) Q E s
  refine wpAny_bind (wpAny_callSpecialIfBoundUnlessNone?_slot hT F.slot_NoneType_hash (wpAny_call_entry F.slot_NoneType_hash hT F.entry_NoneType_hash ?_ (F.args_NoneType_hash_1 _)))
  show wpAny _ _ (retInt 0xFCA86420) _ _ _
  refine wpAny_ret_mkInt ?_
  exact wpAny_pure h
end
end EV

set_option Elab.async false
set_option linter.all false
set_option maxRecDepth 100000
set_option maxHeartbeats 4000000
namespace EV
open PySem PySem.Spec PyProof.Rows L2
section
variable {prog : Program} {w : World}
def HashOk (prog : Program) (w : World) (d : D) : Prop := ∀ (u : Value) (s : Shared) (A : Around) (E : Value → Shared → Prop) (Q : Int → Shared → Prop), KeyAt s.heap d u → A.units + dep d < cLine → Q (kHash w d) { s with toks := s.toks + kDraw d } → wpAny (model prog w) A (pyHash u) Q E s
theorem KeyAt.tupType {s : Shared} {ds : List D} {a : Addr} (x : KeyAt s.heap (.tup ds) (.ref a)) : s.TypeIs (.ref a) "tuple" := by
  cases x with
  | tup g1 g2 g3 g4 => exact ⟨_, g1, g2⟩
theorem kHashL_append (w : World) : ∀ a b : List D, kHashL w (a ++ b) = kHashL w a ++ kHashL w b
  | [], _ => rfl
  | x :: a, b => by simp [kHashL, kHashL_append w a b]
theorem kDrawL_append : ∀ a b : List D, kDrawL (a ++ b) = kDrawL a + kDrawL b
  | [], b => by simp [kDrawL]
  | x :: a, b => by simp [kDrawL, kDrawL_append a b]; omega
theorem depL_mem : ∀ {xs : List D} {x : D}, x ∈ xs → dep x ≤ depL xs
  | y :: ys, x, h => by
    simp only [depL]
    rcases List.mem_cons.mp h with rfl | h
    · exact Nat.le_max_left _ _
    · exact Nat.le_trans (depL_mem h) (Nat.le_max_right _ _)
theorem hash_tup {ds : List D} (ih : ∀ d ∈ ds, HashOk prog w d) : HashOk prog w (.tup ds) := by
  intro u s A E Q hk hu h
  cases hk with
  | @tup a o items n _ g1 g2 g3 g4 =>
  have hT : s.TypeIs (.ref a) "tuple" := ⟨o, g1, g2⟩
  simp only [dep] at hu
  unfold pyHash pyHashByItsType
  refine wpAny_bind (wpAny_cRoomFor_or (.inr (by omega)) (wpAny_bind (wpAny_specialOf hT F.slot_tuple_hash.lookup ?_)))
  show wpAny _ _ (if (some (Value.builtin "tuple.__hash__") == some Value.none) = true then _ else _) Q E s
  rw [if_neg (by rw [beq_builtin_none]; decide)]
  refine wpAny_bind (wpAny_specialOf hT F.slot_tuple_hash.lookup ?_)
  show wpAny _ _ (callSpecialIfBoundUnlessNone? (.ref a) "__hash__" _ >>= _) Q E s
  refine wpAny_bind (wpAny_callSpecialIfBoundUnlessNone?_slot hT F.slot_tuple_hash (wpAny_call_entry F.slot_tuple_hash hT F.entry_tuple_hash ?goal (F.args_tuple_hash_1 _)))
  show wpAny _ _ (Builtin.Tuple.tupleItemsOf (.ref a) >>= _) _ _ s
  refine wpAny_bind (wpAny_tupleItemsOf g1 g3 (wpAny_bind ?_))
  rw [← Array.forIn_toList]
  refine wpAny_forIn_list _
    (fun rest (b : Array Int) z => ∃ dn lf, ds = dn ++ lf ∧ KeysAt s.heap lf rest ∧ b.toList = kHashL w dn ∧ z = { s with toks := s.toks + kDrawL dn }) _ ?_ ?_ _ _ ⟨[], ds, rfl, g4, rfl, rfl⟩
  · rintro x rest b z ⟨dn, lf, e0, hl, hb, rfl⟩
    cases hl with
    | @cons k _ lf' _ h1 hl' =>
      have hm : k ∈ ds := by rw [e0]; simp
      have hd := depL_mem hm
      refine wpAny_bind (ih k hm x _ _ _ _ (show KeyAt s.heap k x from h1) (by show A.units + 1 + dep k < cLine; omega) ?_)
      have fin : ∃ dn' lf'', ds = dn' ++ lf'' ∧ KeysAt s.heap lf'' rest ∧ (b.push (kHash w k)).toList = kHashL w dn' ∧ ({ s with toks := s.toks + kDrawL dn + kDraw k } : Shared) = { s with toks := s.toks + kDrawL dn' } :=
        ⟨dn ++ [k], lf', by simp [e0], hl', by simp [hb, kHashL_append, kHashL], by simp [kDrawL_append, kDrawL]; omega⟩
      first
        | exact wpAny_pure fin
        | exact wpAny_bind (wpAny_pure (wpAny_pure fin))
  · rintro b z ⟨dn, lf, e0, hl, hb, rfl⟩
    cases hl
    rw [List.append_nil] at e0
    subst e0
    show wpAny _ _ (retInt (Builtin.Tuple.tupleHashOf b.toList)) _ _ _
    rw [hb]
    refine wpAny_ret_mkInt ?_
    simp only [kHash, kDraw] at h
    unfold reduceHash at h
    show wpAny _ _ (if (decide (-(2 : Int) ^ 63 ≤ Builtin.Tuple.tupleHashOf (kHashL w ds)) && decide (Builtin.Tuple.tupleHashOf (kHashL w ds) < 2 ^ 63)) = true then _ else _) Q E _
    by_cases hr : (decide (-(2 : Int) ^ 63 ≤ Builtin.Tuple.tupleHashOf (kHashL w ds)) && decide (Builtin.Tuple.tupleHashOf (kHashL w ds) < 2 ^ 63)) = true
    · rw [if_pos hr] at h ⊢
      exact wpAny_pure (by simpa [Nat.add_assoc] using h)
    · rw [if_neg hr] at h ⊢
      exact wpAny_bind (wpAny_rule (wpAny_pure (by simpa [Nat.add_assoc] using h)))
mutual
theorem hash_ok : ∀ d : D, HashOk prog w d
  | .non => fun u s A E Q k hu h => by cases k; exact hash_non (by simpa [dep] using hu) h
  | .int i => fun u s A E Q k hu h => by cases k; exact wpAny_pyHash_int h
  | .str x => fun u s A E Q k hu h => by cases k; exact wpAny_pyHash_str h
  | .tup xs => hash_tup (hash_all xs)
  | .bl _ => fun u s A E Q k hu h => by cases k
  | .lst _ => fun u s A E Q k hu h => by cases k
  | .dct _ _ => fun u s A E Q k hu h => by cases k
  | .obj _ => fun u s A E Q k hu h => by cases k
  | .fz _ => fun u s A E Q k hu h => by cases k
theorem hash_all : ∀ (xs : List D) (d : D), d ∈ xs → HashOk prog w d
  | [], _, h => nomatch h
  | x :: xs, d, h => by
    rcases List.mem_cons.mp h with e | h
    · rw [e]; exact hash_ok x
    · exact hash_all xs d h
end
theorem eq_key {x y : D} {u v : Value} {s : Shared} {A : Around} {E : Value → Shared → Prop} {Q : Bool → Shared → Prop} (hu : A.units + dep x < cLine) (hx : KeyAt s.heap x u) (hy : KeyAt s.heap y v) (h : Q (decide (x = y)) s) : wpAny (model prog w) A (eqBool u v) Q E s := by
  obtain ⟨p, as, e1, r1, c1⟩ := hx.reads
  obtain ⟨q, bs, e2, r2, c2⟩ := hy.reads
  refine SeqAt.eqBoolOverData prog w A E s u v p q as bs Q r1 r2 c1 c2 ?_ ?_
  · rw [dep_pd e1]
    have := Nat.min_le_left (dep x) q.depth
    omega
  · rw [deq_eqv e1 e2, deq_key hx.isKey hy.isKey]
    exact h
/-- no own comparison is met -/
theorem quiet_key : ∀ (n : Nat) (d : D) (u : Value) (s : Shared) (A : Around) (E : Value → Shared → Prop) (Q : Bool → Shared → Prop), dep d < n → KeyAt s.heap d u → Q true s → wpAny (model prog w) A (eqIsQuiet n u) Q E s := by
  intro n
  induction n with
  | zero => intro d u s A E Q hd; omega
  | succ n ih =>
    intro d u s A E Q hd hk h
    cases hk with
    | non => rw [eqIsQuiet_byValue _ rfl]; exact wpAny_pure h
    | int i t => rw [eqIsQuiet_byValue _ rfl]; exact wpAny_pure h
    | str x t e => rw [eqIsQuiet_byValue _ rfl]; exact wpAny_pure h
    | @tup a o items k ds g1 g2 g3 g4 =>
      have hT : s.TypeIs (.ref a) "tuple" := ⟨o, g1, g2⟩
      simp only [dep] at hd
      unfold eqIsQuiet
      refine wpAny_bind (wpAny_specialOf hT F.slot_tuple_eq.lookup ?_)
      show wpAny _ _ (isInstance (.ref a) (.type "tuple") >>= _) _ _ s
      refine wpAny_bind (wpAny_isInstance hT isSubtype_tuple_tuple ?_)
      simp only [Bool.not_true, Bool.false_eq_true, if_false]
      refine wpAny_bind (wpAny_seqItems g1 g3 (wpAny_bind ?_))
      show wpAny _ _ (forIn items _ _) _ _ s
      rw [← Array.forIn_toList]
      refine wpAny_forIn_list _ (fun rest r z => r.1 = none ∧ z = s ∧ ∃ lf, KeysAt s.heap lf rest ∧ depL lf ≤ depL ds) _ ?_ ?_ _ _ ⟨rfl, rfl, ds, g4, Nat.le_refl _⟩
      · rintro v rest r z ⟨hr, rfl, lf, hl, hle⟩
        cases hl with
        | @cons k1 _ lf' _ h1 hl' =>
          simp only [depL] at hle
          have q1 := Nat.le_trans (Nat.le_max_left (dep k1) (depL lf')) hle
          have q2 := Nat.le_trans (Nat.le_max_right (dep k1) (depL lf')) hle
          refine wpAny_bind (ih k1 v _ _ _ _ (by omega) h1 ?_)
          simp only [Bool.not_true, Bool.false_eq_true, if_false]
          exact wpAny_pure ⟨rfl, rfl, lf', hl', q2⟩
      · rintro ⟨r1, r2⟩ z ⟨hr, rfl, _⟩
        simp only at hr
        subst hr
        exact wpAny_pure h
/-- tuples of any depth below 8 as keys -/
def deepKind (prog : Program) (w : World) : HeapKind prog w D where
  is := fun h d a => KeyAt h d (.ref a) ∧ dep d < 8
  hash := kHash w
  draws := kDraw
  room := fun A => A.units + 8 < cLine
  inj := fun hx hy => hx.1.inj hy.1
  keeps := fun {h h' k a d o es ep} x ho hd hs => ⟨x.1.keeps fun b u vs n e c q => (hs.2 b (fun z => by
    subst z; rw [ho] at e; cases e; rw [hd] at q; cases q)).trans e, x.2⟩
  pyHash := fun hu hk h => hash_ok _ _ _ _ _ _ hk.1 (by have := hk.2; omega) h
  eqBool := fun hu hx hy h => eq_key (by have := hx.2; omega) hx.1 hy.1 h
  quiet := fun hk h => quiet_key 8 _ _ _ _ _ _ hk.2 hk.1 h
end
end EV

set_option Elab.async false
set_option linter.all false
set_option autoImplicit false
set_option maxRecDepth 100000
set_option maxHeartbeats 4000000
namespace EV
open PySem PySem.Spec PyProof.Rows L2

/-! ### dicts on the abstract heap -/
/-- a dict: (the key, its value, the value there), the object's count of changes -/
def dictO (w : World) (a : Addr) (ep : Nat) (raw : List (D × V × V)) : HO := .ext fun h => ∃ o es, h.get? a = some o ∧ o.ExactDict ∧ o.data = .dict es ep ∧
  Paired (fun (r : D × V × V) (e : DictEntry) => e.hash = kHash w r.1 ∧ RelV r.2.1 e.key ∧ RelV r.2.2 e.val) raw es.toList
def scal : D → Bool
  | .int _ => true
  | .str _ => true
  | _ => false
def deepK : D → Bool
  | .tup xs => isKeys xs && Nat.ble (depL xs + 2) 8
  | _ => false
theorem deepK_iff {d : D} (h : deepK d = true) : isKey d = true ∧ dep d < 8 ∧ ∃ xs, d = .tup xs := by
  cases d <;> simp [deepK] at h
  rename_i xs
  refine ⟨by simpa [isKey] using h.1, ?_, xs, rfl⟩
  simp only [dep]
  omega
def kD : Key → D
  | .inl i => .int i
  | .inr x => .str x
def DictAt (G : Kx) (H : Hp) (a : Addr) (ks : List D) (kvs vvs : List V) : Prop :=
  ∃ (ep : Nat) (raw : List (D × V × V)), H a = some (dictO G.w a ep raw) ∧ ks = raw.map (·.1) ∧ kvs = raw.map (·.2.1) ∧ vvs = raw.map (·.2.2) ∧ ks.Nodup ∧ ((∀ d ∈ ks, EV.scal d = true) ∨ ∀ d ∈ ks, deepK d = true) ∧ raw.length ≤ sizeLine ∧ (a == sysModules) = false
/-- the script, as it was handed in: known to the heap, or an object of the module -/
def FzAt (G : Kx) (as : List Addr) (H : Hp) (a : Addr) (xs : List Int) : Prop := (Rd H a (.lst (xs.map V.int)) ∧ a ∉ as) ∨
  ∃ (o : Obj) (its : Array Value) (n : Nat), G.K.lookup a = some o ∧ o.cls = .type "list" ∧ o.dict = none ∧ o.data = .seq its n ∧ its.size ≤ sizeLine ∧ Vals (xs.map V.int) its.toList
theorem FzAt.sql {G : Kx} {as : List Addr} {H : Hp} {a : Addr} {xs : List Int} (h : FzAt G as H a xs) : SqL G.K H a (xs.map V.int) := h.imp (fun z => z.1) id
mutual
/-- what stands for what -/
inductive RV (G : Kx) (as : List Addr) (H : Hp) : V → D → Prop
  | non : RV G as H .non .non
  | bl (b : Bool) : RV G as H (.bl b) (.bl b)
  | int (i : Int) : RV G as H (.int i) (.int i)
  | str (x : Str) : PyData.strOk x = true → RV G as H (.str x) (.str x)
  | tup {a : Addr} {vs : List V} {ds : List D} : SqT G.K H a vs → RVs G as H vs ds → RV G as H (.ref a) (.tup ds)
  | lst {a : Addr} {vs : List V} {ds : List D} : H a = some (.lst vs) → a ∉ as → RVs G as H vs ds → RV G as H (.ref a) (.lst ds)
  | dct {a : Addr} {kvs vvs : List V} {ks vs : List D} : DictAt G H a ks kvs vvs → a ∉ as → RVs G as H kvs ks → RVs G as H vvs vs → RV G as H (.ref a) (.dct ks vs)
  | obj {a : Addr} {k : Nat} : as[k]? = some a → RV G as H (.ref a) (.obj k)
  | fz {a : Addr} {xs : List Int} : FzAt G as H a xs → RV G as H (.ref a) (.fz xs)
inductive RVs (G : Kx) (as : List Addr) (H : Hp) : List V → List D → Prop
  | nil : RVs G as H [] []
  | cons {v : V} {vs : List V} {d : D} {ds : List D} : RV G as H v d → RVs G as H vs ds → RVs G as H (v :: vs) (d :: ds)
end
def CellAt (G : Kx) (as : List Addr) (H : Hp) (a : Addr) : Cell → Prop
  | .lst _ xs => ∃ vs, H a = some (.lst vs) ∧ RVs G as H vs xs
  | .dct _ ks vs => ∃ kvs vvs, DictAt G H a ks kvs vvs ∧ RVs G as H kvs ks ∧ RVs G as H vvs vs
  | .ins c fs => ∃ dx fvs, H a = some (.ins (G.T.ic c) dx fvs) ∧ fvs.map (·.1) = (G.T.nf c).take fs.length ∧ RVs G as H (fvs.map (·.2)) fs
  | .hid => ∃ o, H a = some o ∧ (∀ xs, o ≠ .tup xs) ∧ ∀ q u, o ≠ .frz q u
def Low (n : Nat) (c : List Cell) : Prop := ∀ (k : Nat) (x : Cell), k < n → c[k]? = some x → x.refsLt n = true
structure Rel (G : Kx) (as : List Addr) (M : Mem) (H : Hp) : Prop where
  len : as.length = M.c.length
  nd : as.Nodup
  bl : M.b ≤ M.c.length
  cell : ∀ (k : Nat) (a : Addr) (c : Cell), as[k]? = some a → M.c[k]? = some c → CellAt G as H a c
  tab : ∀ p, p ∈ G.T.tabs → GxR.TabG H p ∧ p ∉ as
/-- the place may be written -/
def Wr (as : List Addr) (M : Mem) (a : Addr) : Prop := ∃ (k : Nat) (c : Cell), as[k]? = some a ∧ M.c[k]? = some c ∧ c.frz = false
structure Stp (as : List Addr) (M : Mem) (H : Hp) (as' : List Addr) (M' : Mem) (H' : Hp) : Prop where
  pre : ∀ (k : Nat) (a : Addr), as[k]? = some a → as'[k]? = some a
  new : ∀ a, a ∈ as' → a ∈ as ∨ H a = none
  keep0 : ∀ a o, H a = some o → ¬ Wr as M a → (∀ ps, o ≠ .tbl ps) → H' a = some o
  tbk : ∀ a ps, H a = some (.tbl ps) → a ∉ as → ∃ qs, H' a = some (.tbl qs)
  frz : ∀ a, a ∈ as → Wr as' M' a → Wr as M a
  b : M'.b = M.b
  low : ∀ n, n ≤ M.b → Low n M.c → Low n M'.c
  hd : ∀ k : Nat, M.c[k]? = some .hid → M'.c[k]? = some .hid

section
variable {G : Kx} {as as1 as2 : List Addr} {M M1 M2 : Mem} {H H1 H2 : Hp}
theorem Stp.refl : Stp as M H as M H := ⟨fun _ _ h => h, fun _ h => .inl h, fun _ _ h _ _ => h, fun a ps h _ => ⟨ps, h⟩, fun _ _ h => h, rfl, fun _ _ h => h, fun _ h => h⟩
theorem Stp.keep (s : Stp as M H as1 M1 H1) (a : Addr) (o : HO) (h : H a = some o) (n : ¬ Wr as M a) (ht : ∀ ps, o ≠ .tbl ps := by exact fun _ z => nomatch z) : H1 a = some o := s.keep0 a o h n ht
theorem Stp.out (s : Stp as M H as1 M1 H1) {a : Addr} {o : HO} (n : a ∉ as) (h : H a = some o) : a ∉ as1 := fun z => by
  rcases s.new a z with q | q
  · exact n q
  · rw [h] at q; cases q
theorem Stp.nwr (s : Stp as M H as1 M1 H1) {a : Addr} {o : HO} (h : H a = some o) (n : ¬ Wr as M a) : ¬ Wr as1 M1 a := fun q => by
  obtain ⟨k, c, e, e2, f⟩ := q
  rcases s.new a (List.mem_of_getElem? e) with z | z
  · exact n (s.frz a z ⟨k, c, e, e2, f⟩)
  · rw [h] at z; cases z
theorem Stp.mem (s : Stp as M H as1 M1 H1) {a : Addr} (h : a ∈ as) : a ∈ as1 := by
  obtain ⟨k, e⟩ := List.mem_iff_getElem?.mp h
  exact List.mem_of_getElem? (s.pre k a e)
theorem Stp.trans (s : Stp as M H as1 M1 H1) (t : Stp as1 M1 H1 as2 M2 H2) : Stp as M H as2 M2 H2 where
  pre := fun k a h => t.pre k a (s.pre k a h)
  new := fun a h => by
    rcases t.new a h with z | z
    · exact s.new a z
    · by_cases q : a ∈ as
      · exact .inl q
      · refine .inr ?_
        cases e : H a with
        | none => rfl
        | some o =>
          by_cases ho : ∃ ps, o = .tbl ps
          · obtain ⟨ps, rfl⟩ := ho
            obtain ⟨qs, e2⟩ := s.tbk a ps e q
            rw [e2] at z
            cases z
          · rw [s.keep a o e (fun ⟨k, c, e1, _⟩ => q (List.mem_of_getElem? e1)) fun ps y => ho ⟨ps, y⟩] at z
            cases z
  keep0 := fun a o h n ht => t.keep a o (s.keep a o h n ht) (s.nwr h n) ht
  tbk := fun a ps h n => let ⟨qs, e⟩ := s.tbk a ps h n; t.tbk a qs e (s.out n h)
  frz := fun a h w => s.frz a h (t.frz a (s.mem h) w)
  b := t.b.trans s.b
  low := fun n hn h => t.low n (by rw [s.b]; exact hn) (s.low n hn h)
  hd := fun k h => t.hd k (s.hd k h)
theorem CellAt.kind {a : Addr} {c : Cell} (h : CellAt G as H a c) : ∃ o, H a = some o ∧ (∀ xs, o ≠ .tup xs) ∧ ∀ q u, o ≠ .frz q u := by
  cases c with
  | lst f xs =>
    obtain ⟨vs, e, _⟩ := h
    exact ⟨_, e, ⟨fun _ z => (nomatch z), fun _ _ z => (nomatch z)⟩⟩
  | dct f ks vs =>
    obtain ⟨kvs, vvs, d, _⟩ := h
    obtain ⟨ep, raw, e, _⟩ := d
    exact ⟨_, e, ⟨fun _ z => (nomatch z), fun _ _ z => (nomatch z)⟩⟩
  | ins c fs =>
    obtain ⟨dx, fvs, e, _⟩ := h
    exact ⟨_, e, ⟨fun _ z => (nomatch z), fun _ _ z => (nomatch z)⟩⟩
  | hid => exact h
theorem Rel.some_of (r : Rel G as M H) {a : Addr} (h : a ∈ as) : ∃ (k : Nat) (c : Cell), as[k]? = some a ∧ M.c[k]? = some c ∧ CellAt G as H a c := by
  obtain ⟨k, e⟩ := List.mem_iff_getElem?.mp h
  have hk : k < M.c.length := by rw [← r.len]; exact (List.getElem?_eq_some_iff.mp e).1
  exact ⟨k, M.c[k], e, List.getElem?_eq_getElem hk, r.cell k a _ e (List.getElem?_eq_getElem hk)⟩
theorem Rel.notup (r : Rel G as M H) {a : Addr} {xs : List V} (h : H a = some (.tup xs)) : a ∉ as := fun z => by
  obtain ⟨k, c, _, _, ca⟩ := r.some_of z
  obtain ⟨o, e, n, _⟩ := ca.kind
  rw [h] at e; cases e
  exact n xs rfl
theorem Rel.nofrz (r : Rel G as M H) {a : Addr} {o : Obj} {u : HO} (h : H a = some (.frz o u)) : a ∉ as := fun z => by
  obtain ⟨k, c, _, _, ca⟩ := r.some_of z
  obtain ⟨o, e, _, n⟩ := ca.kind
  rw [h] at e; cases e
  exact n _ _ rfl
theorem nwr_of {a : Addr} (h : a ∉ as) : ¬ Wr as M a := fun ⟨k, c, e, _⟩ => h (List.mem_of_getElem? e)
theorem Rd.ex {a : Addr} {u : HO} (h : Rd H a u) : ∃ o, H a = some o := by
  rcases h with h | ⟨o, h⟩
  · exact ⟨_, h⟩
  · exact ⟨_, h⟩
theorem Stp.rd (s : Stp as M H as1 M1 H1) {a : Addr} {u : HO} (n : a ∉ as) (h : Rd H a u) (ht : ∀ ps, u ≠ .tbl ps := by exact fun _ z => nomatch z) : Rd H1 a u := by
  rcases h with h | ⟨o, h⟩
  · exact .inl (s.keep a _ h (nwr_of n) ht)
  · exact .inr ⟨o, s.keep a _ h (nwr_of n)⟩
theorem Stp.notin (s : Stp as M H as1 M1 H1) {a : Addr} {o : HO} (n : a ∉ as) (h : H a = some o) : a ∉ as1 := fun z => by
  rcases s.new a z with q | q
  · exact n q
  · rw [h] at q; cases q
theorem Stp.sqt (s : Stp as M H as1 M1 H1) (r : Rel G as M H) {a : Addr} {xs : List V} (h : SqT G.K H a xs) : SqT G.K H1 a xs := by
  rcases h with (h | ⟨o, h⟩) | h
  · exact .inl (.inl (s.keep a _ h (nwr_of (r.notup h))))
  · exact .inl (.inr ⟨o, s.keep a _ h (nwr_of (r.nofrz h))⟩)
  · exact .inr h
theorem DictAt.some {a : Addr} {ks : List D} {kvs vvs : List V} (h : DictAt G H a ks kvs vvs) : ∃ o, H a = some o ∧ ∀ ps, o ≠ .tbl ps := by
  obtain ⟨ep, raw, e, _⟩ := h
  exact ⟨_, e, fun _ z => nomatch z⟩
theorem DictAt.at {a : Addr} {ks : List D} {kvs vvs : List V} (h : DictAt G H a ks kvs vvs) (e : H1 a = H a) : DictAt G H1 a ks kvs vvs := by
  obtain ⟨ep, raw, q, r⟩ := h
  exact ⟨ep, raw, e.trans q, r⟩
theorem Stp.dict (s : Stp as M H as1 M1 H1) {a : Addr} {ks : List D} {kvs vvs : List V} (n : ¬ Wr as M a) (h : DictAt G H a ks kvs vvs) : DictAt G H1 a ks kvs vvs := by
  obtain ⟨o, e, ht⟩ := h.some
  exact h.at ((s.keep a o e n ht).trans e.symm)
mutual
theorem RV.step (r : Rel G as M H) (s : Stp as M H as1 M1 H1) : ∀ {v : V} {d : D}, RV G as H v d → RV G as1 H1 v d
  | _, _, .non => .non
  | _, _, .bl b => .bl b
  | _, _, .int i => .int i
  | _, _, .str x h => .str x h
  | _, _, .tup h q => .tup (s.sqt r h) (RVs.step r s q)
  | _, _, .lst h n q => .lst (s.keep _ _ h (nwr_of n)) (s.notin n h) (RVs.step r s q)
  | _, _, .dct h n q t => .dct (s.dict (nwr_of n) h) (let ⟨o, e, _⟩ := h.some; s.notin n e) (RVs.step r s q) (RVs.step r s t)
  | _, _, .obj h => .obj (s.pre _ _ h)
  | _, _, .fz h => .fz (h.imp (fun ⟨h, n⟩ => ⟨s.rd n h, let ⟨o, e⟩ := Rd.ex h; s.notin n e⟩) id)
theorem RVs.step (r : Rel G as M H) (s : Stp as M H as1 M1 H1) : ∀ {vs : List V} {ds : List D}, RVs G as H vs ds → RVs G as1 H1 vs ds
  | _, _, .nil => .nil
  | _, _, .cons a b => .cons (RV.step r s a) (RVs.step r s b)
end
theorem RVs.len : ∀ {vs : List V} {ds : List D}, RVs G as H vs ds → vs.length = ds.length
  | _, _, .nil => rfl
  | _, _, .cons _ b => by simp [RVs.len b]
theorem RVs.get : ∀ {vs : List V} {ds : List D} {i : Nat} {d : D}, RVs G as H vs ds → ds[i]? = some d → ∃ v, vs[i]? = some v ∧ RV G as H v d
  | _, _, _, _, .nil, e => by simp at e
  | _, _, 0, _, .cons a _, e => by simp at e; subst e; exact ⟨_, rfl, a⟩
  | _, _, i + 1, _, .cons _ b, e => by
    obtain ⟨v, h1, h2⟩ := RVs.get (i := i) b (by simpa using e)
    exact ⟨v, by simpa using h1, h2⟩
theorem RVs.get' : ∀ {vs : List V} {ds : List D} {i : Nat} {v : V}, RVs G as H vs ds → vs[i]? = some v → ∃ d, ds[i]? = some d ∧ RV G as H v d
  | _, _, _, _, .nil, e => by simp at e
  | _, _, 0, _, .cons a _, e => by simp at e; subst e; exact ⟨_, rfl, a⟩
  | _, _, i + 1, _, .cons _ b, e => by
    obtain ⟨v, h1, h2⟩ := RVs.get' (i := i) b (by simpa using e)
    exact ⟨v, by simpa using h1, h2⟩
theorem RVs.app : ∀ {vs ws : List V} {ds es : List D}, RVs G as H vs ds → RVs G as H ws es → RVs G as H (vs ++ ws) (ds ++ es)
  | _, _, _, _, .nil, q => q
  | _, _, _, _, .cons a b, q => .cons a (RVs.app b q)
theorem RVs.take : ∀ {vs : List V} {ds : List D} (n : Nat), RVs G as H vs ds → RVs G as H (vs.take n) (ds.take n)
  | _, _, 0, _ => .nil
  | _, _, _ + 1, .nil => .nil
  | _, _, n + 1, .cons a b => .cons a (RVs.take n b)
theorem RVs.drop : ∀ {vs : List V} {ds : List D} (n : Nat), RVs G as H vs ds → RVs G as H (vs.drop n) (ds.drop n)
  | _, _, 0, q => q
  | _, _, _ + 1, .nil => .nil
  | _, _, n + 1, .cons _ b => RVs.drop n b
theorem RVs.set {v : V} {d : D} (h : RV G as H v d) : ∀ {vs : List V} {ds : List D} (n : Nat), RVs G as H vs ds → RVs G as H (vs.set n v) (ds.set n d)
  | _, _, _, .nil => .nil
  | _, _, 0, .cons _ b => .cons h b
  | _, _, n + 1, .cons a b => .cons a (RVs.set h n b)
theorem RVs.rev : ∀ {vs : List V} {ds : List D}, RVs G as H vs ds → RVs G as H vs.reverse ds.reverse
  | _, _, .nil => .nil
  | _, _, .cons a b => by
    rw [List.reverse_cons, List.reverse_cons]
    exact (RVs.rev b).app (.cons a .nil)
theorem RVs.mem : ∀ {vs : List V} {ds : List D} {v : V}, RVs G as H vs ds → v ∈ vs → ∃ d, d ∈ ds ∧ RV G as H v d
  | _, _, _, .cons a b, h => by
    rcases List.mem_cons.mp h with rfl | h
    · exact ⟨_, List.mem_cons_self, a⟩
    · obtain ⟨d, h1, h2⟩ := RVs.mem b h
      exact ⟨d, List.mem_cons_of_mem _ h1, h2⟩
mutual
theorem RV.refs : ∀ {v : V} {d : D}, RV G as H v d → refsLt as.length d = true
  | _, _, .non => rfl
  | _, _, .bl _ => rfl
  | _, _, .int _ => rfl
  | _, _, .str _ _ => rfl
  | _, _, .tup _ q => by simp only [refsLt]; exact RVs.refs q
  | _, _, .lst _ _ q => by simp only [refsLt]; exact RVs.refs q
  | _, _, .dct _ _ q t => by simp only [refsLt, RVs.refs q, RVs.refs t, Bool.and_self]
  | _, _, .obj h => by
    simp only [refsLt]
    have := (List.getElem?_eq_some_iff.mp h).1
    simp [Nat.blt]; omega
  | _, _, .fz _ => rfl
theorem RVs.refs : ∀ {vs : List V} {ds : List D}, RVs G as H vs ds → refsLtL as.length ds = true
  | _, _, .nil => rfl
  | _, _, .cons a b => by simp only [refsLtL, RV.refs a, RVs.refs b, Bool.and_self]
end
mutual
theorem refsLt.mono {m n : Nat} (h : m ≤ n) : ∀ {d : D}, refsLt m d = true → refsLt n d = true
  | .non, _ => rfl
  | .bl _, _ => rfl
  | .int _, _ => rfl
  | .str _, _ => rfl
  | .tup xs, q => by simp only [refsLt] at q ⊢; exact refsLtL.mono h q
  | .lst xs, q => by simp only [refsLt] at q ⊢; exact refsLtL.mono h q
  | .dct xs ys, q => by
    simp only [refsLt, Bool.and_eq_true] at q ⊢
    exact ⟨refsLtL.mono h q.1, refsLtL.mono h q.2⟩
  | .obj k, q => by simp [refsLt, Nat.blt] at q ⊢; omega
  | .fz _, _ => rfl
theorem refsLtL.mono {m n : Nat} (h : m ≤ n) : ∀ {d : List D}, refsLtL m d = true → refsLtL n d = true
  | [], _ => rfl
  | x :: xs, q => by
    simp only [refsLtL, Bool.and_eq_true] at q ⊢
    exact ⟨refsLt.mono h q.1, refsLtL.mono h q.2⟩
end
theorem Rel.low (r : Rel G as M H) : Low M.c.length M.c := fun k x hk e => by
  have hk' : k < as.length := by rw [r.len]; exact hk
  have c := r.cell k as[k] x (List.getElem?_eq_getElem hk') e
  rw [← r.len]
  cases x with
  | lst f xs => obtain ⟨vs, _, q⟩ := c; exact q.refs
  | dct f ks vs => obtain ⟨_, _, _, q, t⟩ := c; simp only [Cell.refsLt, q.refs, t.refs, Bool.and_self]
  | ins c fs => obtain ⟨_, _, _, _, q⟩ := c; exact q.refs
  | hid => rfl
/-- a new place that is tracked but not numbered (a tuple, a by-value list ..) -/
theorem Stp.laid {a : Addr} {o : HO} (h : H a = none) : Stp as M H as M (upd H a o) where
  pre := fun _ _ h => h
  new := fun _ h => .inl h
  keep0 := fun b u e _ _ => by rw [upd_ne (ne_of_none e h)]; exact e
  tbk := fun b ps e _ => ⟨ps, by rw [upd_ne (ne_of_none e h)]; exact e⟩
  frz := fun _ _ h => h
  b := rfl
  low := fun _ _ h => h
  hd := fun _ h => h
theorem CellAt.step {a : Addr} {c : Cell} (r : Rel G as M H) (s : Stp as M H as1 M1 H1) (e : H1 a = H a) (h : CellAt G as H a c) : CellAt G as1 H1 a c := by
  cases c with
  | lst f xs => obtain ⟨vs, q, t⟩ := h; exact ⟨vs, e.trans q, t.step r s⟩
  | dct f ks vs => obtain ⟨kvs, vvs, d, q, t⟩ := h; exact ⟨kvs, vvs, d.at e, q.step r s, t.step r s⟩
  | ins c fs => obtain ⟨dx, fvs, q, n, t⟩ := h; exact ⟨dx, fvs, e.trans q, n, t.step r s⟩
  | hid => obtain ⟨o, q, t⟩ := h; exact ⟨o, e.trans q, t⟩
/-- more is known -/
def Grow (H H' : Hp) : Prop := ∀ a o, H a = some o → H' a = some o
theorem Grow.refl (H : Hp) : Grow H H := fun _ _ h => h
theorem Grow.stp (g : Grow H H1) : Stp as M H as M H1 := ⟨fun _ _ h => h, fun _ h => .inl h, fun a o e _ _ => g a o e, fun a ps e _ => ⟨ps, g a _ e⟩, fun _ _ h => h, rfl, fun _ _ h => h, fun _ h => h⟩
theorem tabg_grow (g : Grow H H1) {p : Addr} (h : GxR.TabG H p) : GxR.TabG H1 p := let ⟨ps, e, t⟩ := h; ⟨ps, g p _ e, t⟩
theorem ne_at {l : List Addr} {k : Nat} {a b : Addr} (hk : l[k]? = some a) (n : b ∉ l) : b ≠ a := fun q => n (by rw [q]; exact List.mem_of_getElem? hk)
theorem grow_upd {a : Addr} {o : HO} (h : H a = none) : Grow H (upd H a o) := fun b u e => by rw [upd_ne (ne_of_none e h)]; exact e
theorem Grow.rel (g : Grow H H1) (r : Rel G as M H) : Rel G as M H1 := ⟨r.len, r.nd, r.bl, fun k a c e1 e2 => by
  have q := r.cell k a c e1 e2
  obtain ⟨o, eo, _⟩ := q.kind
  exact q.step r g.stp ((g a o eo).trans eo.symm), fun p hp => ⟨tabg_grow g (r.tab p hp).1, (r.tab p hp).2⟩⟩
theorem Rel.laid {a : Addr} {o : HO} (r : Rel G as M H) (h : H a = none) : Rel G as M (upd H a o) where
  len := r.len
  nd := r.nd
  bl := r.bl
  cell := fun k b c e1 e2 => by
    have q := r.cell k b c e1 e2
    obtain ⟨u, eu, _⟩ := q.kind
    exact q.step r (Stp.laid h) (upd_ne (ne_of_none eu h))
  tab := fun p hp => ⟨tabg_grow (grow_upd h) (r.tab p hp).1, (r.tab p hp).2⟩
end
end EV

set_option Elab.async false
set_option linter.all false
set_option autoImplicit false
set_option maxRecDepth 100000
set_option maxHeartbeats 4000000
namespace EV
open PySem PySem.Spec PyProof.Rows L2

@[reducible] def gx (X : Cx) (T : Tb) : Kx := ⟨X.K, X.w, X.prog, T⟩
/-- the slots -/
def RSl (G : Kx) (as : List Addr) (H : Hp) (σ : L2.St) (e : Sl) : Prop := σ.length = e.length ∧ ∀ (i : Nat) (d : D), e[i]? = some (some d) → ∃ v, σ[i]? = some (some v) ∧ RV G as H v d
/-- an exception of the class numbered c, its own dict at od -/
def RX (G : Kx) (as : List Addr) (H : Hp) (od : Option Addr) (c : Nat) (fs : List D) : Prop :=
  match fs with
  | [] => od = none
  | _ => ∃ da vs, od = some da ∧ H da = some (.xd ((G.T.xf c).zip vs)) ∧ RVs G as H vs fs ∧ da ∉ as
def PostE (G : Kx) (W : WX) (σ : L2.St) (as : List Addr) (M : Mem) (H : Hp) (Q : VK) : Res D → Prop
  | .ok d M' => ∀ as' H' v, Stp as M H as' M' H' → Rel G as' M' H' → RV G as' H' v d → Q v H'
  | .exc c fs M' => ∀ as' H' od, Stp as M H as' M' H' → Rel G as' M' H' → RX G as' H' od c fs → W (.ref (G.T.xc c)) od σ H'
  | .bad => False
def PostA (G : Kx) (W : WX) (σ : L2.St) (as : List Addr) (M : Mem) (H : Hp) (Q : List V → Hp → Prop) : Res (List D) → Prop
  | .ok d M' => ∀ as' H' v, Stp as M H as' M' H' → Rel G as' M' H' → RVs G as' H' v d → Q v H'
  | .exc c fs M' => ∀ as' H' od, Stp as M H as' M' H' → Rel G as' M' H' → RX G as' H' od c fs → W (.ref (G.T.xc c)) od σ H'
  | .bad => False
def PostT (G : Kx) (W : WX) (σ : L2.St) (as : List Addr) (M : Mem) (H : Hp) (Q : Bool → Hp → Prop) : Res Bool → Prop
  | .ok d M' => ∀ as' H', Stp as M H as' M' H' → Rel G as' M' H' → Q d H'
  | .exc c fs M' => ∀ as' H' od, Stp as M H as' M' H' → Rel G as' M' H' → RX G as' H' od c fs → W (.ref (G.T.xc c)) od σ H'
  | .bad => False
def PostS (G : Kx) (W : WX) (as : List Addr) (M : Mem) (H : Hp) (D : Ends) : Fl → Prop
  | .nx e M' => ∀ as' H' σ', Stp as M H as' M' H' → Rel G as' M' H' → RSl G as' H' σ' e → D.nx σ' H'
  | .rt d M' => ∀ as' H' v, Stp as M H as' M' H' → Rel G as' M' H' → RV G as' H' v d → D.rt v H'
  | .bk e M' => ∀ as' H' σ', Stp as M H as' M' H' → Rel G as' M' H' → RSl G as' H' σ' e → D.bk σ' H'
  | .ct e M' => ∀ as' H' σ', Stp as M H as' M' H' → Rel G as' M' H' → RSl G as' H' σ' e → D.ct σ' H'
  | .exc c fs e M' => ∀ as' H' σ' od, Stp as M H as' M' H' → Rel G as' M' H' → RSl G as' H' σ' e → RX G as' H' od c fs → W (.ref (G.T.xc c)) od σ' H'
  | .bad => False
abbrev Ax := Sl → Mem → Res (List D)
abbrev Tx := Sl → Mem → Res Bool
def tE (G : Kx) (W : WX) (t : Ex) : TE := fun σ H Q => ∃ as M e, Rel G as M H ∧ RSl G as H σ e ∧ PostE G W σ as M H Q (t e M)
def tA (G : Kx) (W : WX) (t : Ax) : TA := fun σ H Q => ∃ as M e, Rel G as M H ∧ RSl G as H σ e ∧ PostA G W σ as M H Q (t e M)
def tT (G : Kx) (W : WX) (t : Tx) : TT := fun σ H Q => ∃ as M e, Rel G as M H ∧ RSl G as H σ e ∧ PostT G W σ as M H Q (t e M)
def tS (G : Kx) (W : WX) (t : Sx) : TS := fun D σ H => ∃ as M e, Rel G as M H ∧ RSl G as H σ e ∧ PostS G W as M H D (t e M)
/-! ### the judgements -/
abbrev SE (X : Cx) (T : Tb) (W : WX) (e : Expr) (t : Ex) : Prop := PE X e (tE (gx X T) W t)
abbrev SA (X : Cx) (T : Tb) (W : WX) (es : List Expr) (t : Ax) : Prop := PA X es (tA (gx X T) W t)
abbrev ST (X : Cx) (T : Tb) (W : WX) (e : Expr) (t : Tx) : Prop := PT X e (tT (gx X T) W t)
abbrev SW (X : Cx) (T : Tb) (W : WX) (e : Expr) (t : Tx) : Prop := PW X e (tT (gx X T) W t)
abbrev SS (X : Cx) (T : Tb) (W : WX) (st : Stmt) (t : Sx) : Prop := PS X st (tS (gx X T) W t)
abbrev SB (X : Cx) (T : Tb) (W : WX) (st : List Stmt) (t : Sx) : Prop := PSs X st (tS (gx X T) W t)

section
variable {G : Kx} {W : WX} {σ : L2.St} {as as1 : List Addr} {M M1 : Mem} {H H1 : Hp}
theorem RSl.step {e : Sl} (q : RSl G as H σ e) (r : Rel G as M H) (s : Stp as M H as1 M1 H1) : RSl G as1 H1 σ e :=
  ⟨q.1, fun i d h => let ⟨v, h1, h2⟩ := q.2 i d h; ⟨v, h1, h2.step r s⟩⟩
theorem PostE.re {Q : VK} {r : Res D} (s : Stp as M H as1 M1 H1) (h : PostE G W σ as M H Q r) : PostE G W σ as1 M1 H1 Q r := by
  cases r with
  | ok d M' => exact fun a b v t => h a b v (s.trans t)
  | exc c fs M' => exact fun a b v t => h a b v (s.trans t)
  | bad => exact h
theorem PostA.re {Q : List V → Hp → Prop} {r : Res (List D)} (s : Stp as M H as1 M1 H1) (h : PostA G W σ as M H Q r) : PostA G W σ as1 M1 H1 Q r := by
  cases r with
  | ok d M' => exact fun a b v t => h a b v (s.trans t)
  | exc c fs M' => exact fun a b v t => h a b v (s.trans t)
  | bad => exact h
theorem PostT.re {Q : Bool → Hp → Prop} {r : Res Bool} (s : Stp as M H as1 M1 H1) (h : PostT G W σ as M H Q r) : PostT G W σ as1 M1 H1 Q r := by
  cases r with
  | ok d M' => exact fun a b t => h a b (s.trans t)
  | exc c fs M' => exact fun a b v t => h a b v (s.trans t)
  | bad => exact h
theorem PostS.re {D : Ends} {r : Fl} (s : Stp as M H as1 M1 H1) (h : PostS G W as M H D r) : PostS G W as1 M1 H1 D r := by
  cases r with
  | nx e M' => exact fun a b v t => h a b v (s.trans t)
  | rt d M' => exact fun a b v t => h a b v (s.trans t)
  | bk e M' => exact fun a b v t => h a b v (s.trans t)
  | ct e M' => exact fun a b v t => h a b v (s.trans t)
  | exc c fs e M' => exact fun a b v o t => h a b v o (s.trans t)
  | bad => exact h
theorem PostE.fin {Q : VK} {d : D} {v : V} (r : Rel G as M H) (h : PostE G W σ as M H Q (.ok d M)) (q : RV G as H v d) : Q v H := h as H v Stp.refl r q
/-- what one part gives, the rest takes -/
theorem bindE {Q : VK} {R : VK} {t : Ex} {k : D → Mem → Res D} {e : Sl} (r : Rel G as M H) (q : RSl G as H σ e) (h : PostE G W σ as M H Q ((t e M).bind k))
    (hk : ∀ d v as' M' H', Rel G as' M' H' → RSl G as' H' σ e → Stp as M H as' M' H' → RV G as' H' v d → PostE G W σ as' M' H' Q (k d M') → R v H') : tE G W t σ H R := by
  refine ⟨as, M, e, r, q, ?_⟩
  cases ht : t e M with
  | ok d M' =>
    rw [ht] at h
    exact fun a b v s r' rv => hk d v a M' b r' (q.step r s) s rv (h.re s)
  | exc c fs M' => rw [ht] at h; exact h
  | bad => rw [ht] at h; exact h
theorem bindEA {Q : List V → Hp → Prop} {R : VK} {t : Ex} {k : D → Mem → Res (List D)} {e : Sl} (r : Rel G as M H) (q : RSl G as H σ e) (h : PostA G W σ as M H Q ((t e M).bind k))
    (hk : ∀ d v as' M' H', Rel G as' M' H' → RSl G as' H' σ e → Stp as M H as' M' H' → RV G as' H' v d → PostA G W σ as' M' H' Q (k d M') → R v H') : tE G W t σ H R := by
  refine ⟨as, M, e, r, q, ?_⟩
  cases ht : t e M with
  | ok d M' =>
    rw [ht] at h
    exact fun a b v s r' rv => hk d v a M' b r' (q.step r s) s rv (h.re s)
  | exc c fs M' => rw [ht] at h; exact h
  | bad => rw [ht] at h; exact h
theorem bindAE {Q : VK} {R : List V → Hp → Prop} {t : Ax} {k : List D → Mem → Res D} {e : Sl} (r : Rel G as M H) (q : RSl G as H σ e) (h : PostE G W σ as M H Q ((t e M).bind k))
    (hk : ∀ d v as' M' H', Rel G as' M' H' → RSl G as' H' σ e → Stp as M H as' M' H' → RVs G as' H' v d → PostE G W σ as' M' H' Q (k d M') → R v H') : tA G W t σ H R := by
  refine ⟨as, M, e, r, q, ?_⟩
  cases ht : t e M with
  | ok d M' =>
    rw [ht] at h
    exact fun a b v s r' rv => hk d v a M' b r' (q.step r s) s rv (h.re s)
  | exc c fs M' => rw [ht] at h; exact h
  | bad => rw [ht] at h; exact h
theorem bindAA {Q : List V → Hp → Prop} {R : List V → Hp → Prop} {t : Ax} {k : List D → Mem → Res (List D)} {e : Sl} (r : Rel G as M H) (q : RSl G as H σ e) (h : PostA G W σ as M H Q ((t e M).bind k))
    (hk : ∀ d v as' M' H', Rel G as' M' H' → RSl G as' H' σ e → Stp as M H as' M' H' → RVs G as' H' v d → PostA G W σ as' M' H' Q (k d M') → R v H') : tA G W t σ H R := by
  refine ⟨as, M, e, r, q, ?_⟩
  cases ht : t e M with
  | ok d M' =>
    rw [ht] at h
    exact fun a b v s r' rv => hk d v a M' b r' (q.step r s) s rv (h.re s)
  | exc c fs M' => rw [ht] at h; exact h
  | bad => rw [ht] at h; exact h
theorem bindET {Q : Bool → Hp → Prop} {R : VK} {t : Ex} {k : D → Mem → Res Bool} {e : Sl} (r : Rel G as M H) (q : RSl G as H σ e) (h : PostT G W σ as M H Q ((t e M).bind k))
    (hk : ∀ d v as' M' H', Rel G as' M' H' → RSl G as' H' σ e → Stp as M H as' M' H' → RV G as' H' v d → PostT G W σ as' M' H' Q (k d M') → R v H') : tE G W t σ H R := by
  refine ⟨as, M, e, r, q, ?_⟩
  cases ht : t e M with
  | ok d M' =>
    rw [ht] at h
    exact fun a b v s r' rv => hk d v a M' b r' (q.step r s) s rv (h.re s)
  | exc c fs M' => rw [ht] at h; exact h
  | bad => rw [ht] at h; exact h
theorem bindTE {Q : VK} {R : Bool → Hp → Prop} {t : Tx} {k : Bool → Mem → Res D} {e : Sl} (r : Rel G as M H) (q : RSl G as H σ e) (h : PostE G W σ as M H Q ((t e M).bind k))
    (hk : ∀ d as' M' H', Rel G as' M' H' → RSl G as' H' σ e → Stp as M H as' M' H' → PostE G W σ as' M' H' Q (k d M') → R d H') : tT G W t σ H R := by
  refine ⟨as, M, e, r, q, ?_⟩
  cases ht : t e M with
  | ok d M' =>
    rw [ht] at h
    exact fun a b s r' => hk d a M' b r' (q.step r s) s (h.re s)
  | exc c fs M' => rw [ht] at h; exact h
  | bad => rw [ht] at h; exact h
theorem bindTT {Q : Bool → Hp → Prop} {R : Bool → Hp → Prop} {t : Tx} {k : Bool → Mem → Res Bool} {e : Sl} (r : Rel G as M H) (q : RSl G as H σ e) (h : PostT G W σ as M H Q ((t e M).bind k))
    (hk : ∀ d as' M' H', Rel G as' M' H' → RSl G as' H' σ e → Stp as M H as' M' H' → PostT G W σ as' M' H' Q (k d M') → R d H') : tT G W t σ H R := by
  refine ⟨as, M, e, r, q, ?_⟩
  cases ht : t e M with
  | ok d M' =>
    rw [ht] at h
    exact fun a b s r' => hk d a M' b r' (q.step r s) s (h.re s)
  | exc c fs M' => rw [ht] at h; exact h
  | bad => rw [ht] at h; exact h
/-- .. in a statement -/
def Res.thn {α : Type} (r : Res α) (e : Sl) (f : α → Mem → Fl) : Fl :=
  match r with
  | .ok a M => f a M
  | .exc c fs M => .exc c fs e M
  | .bad => .bad
theorem bindES {D' : Ends} {R : VK} {t : Ex} {k : D → Mem → Fl} {e : Sl} (r : Rel G as M H) (q : RSl G as H σ e) (h : PostS G W as M H D' ((t e M).thn e k))
    (hk : ∀ d v as' M' H', Rel G as' M' H' → RSl G as' H' σ e → Stp as M H as' M' H' → RV G as' H' v d → PostS G W as' M' H' D' (k d M') → R v H') : tE G W t σ H R := by
  refine ⟨as, M, e, r, q, ?_⟩
  cases ht : t e M with
  | ok d M' =>
    rw [ht] at h
    exact fun a b v s r' rv => hk d v a M' b r' (q.step r s) s rv (h.re s)
  | exc c fs M' => rw [ht] at h; exact fun a b o s r' rx => h a b σ o s r' (q.step r s) rx
  | bad => rw [ht] at h; exact h
theorem bindAS {D' : Ends} {R : List V → Hp → Prop} {t : Ax} {k : List D → Mem → Fl} {e : Sl} (r : Rel G as M H) (q : RSl G as H σ e) (h : PostS G W as M H D' ((t e M).thn e k))
    (hk : ∀ d v as' M' H', Rel G as' M' H' → RSl G as' H' σ e → Stp as M H as' M' H' → RVs G as' H' v d → PostS G W as' M' H' D' (k d M') → R v H') : tA G W t σ H R := by
  refine ⟨as, M, e, r, q, ?_⟩
  cases ht : t e M with
  | ok d M' =>
    rw [ht] at h
    exact fun a b v s r' rv => hk d v a M' b r' (q.step r s) s rv (h.re s)
  | exc c fs M' => rw [ht] at h; exact fun a b o s r' rx => h a b σ o s r' (q.step r s) rx
  | bad => rw [ht] at h; exact h
theorem bindTS {D' : Ends} {R : Bool → Hp → Prop} {t : Tx} {k : Bool → Mem → Fl} {e : Sl} (r : Rel G as M H) (q : RSl G as H σ e) (h : PostS G W as M H D' ((t e M).thn e k))
    (hk : ∀ d as' M' H', Rel G as' M' H' → RSl G as' H' σ e → Stp as M H as' M' H' → PostS G W as' M' H' D' (k d M') → R d H') : tT G W t σ H R := by
  refine ⟨as, M, e, r, q, ?_⟩
  cases ht : t e M with
  | ok d M' =>
    rw [ht] at h
    exact fun a b s r' => hk d a M' b r' (q.step r s) s (h.re s)
  | exc c fs M' => rw [ht] at h; exact fun a b o s r' rx => h a b σ o s r' (q.step r s) rx
  | bad => rw [ht] at h; exact h
end
section
variable {X : Cx}
theorem _root_.L2.PE.weak {e : Expr} {t t' : TE} (h : PE X e t) (w : ∀ σ H Q, t' σ H Q → t σ H Q) : PE X e t' := ⟨fun pins s σ H Q I q => h.run pins s σ H Q I (w σ H Q q)⟩
theorem _root_.L2.PT.weak {e : Expr} {t t' : TT} (h : PT X e t) (w : ∀ σ H Q, t' σ H Q → t σ H Q) : PT X e t' := ⟨fun pins s σ H Q I q => h.run pins s σ H Q I (w σ H Q q)⟩
theorem _root_.L2.PW.weak {e : Expr} {t t' : TT} (h : PW X e t) (w : ∀ σ H Q, t' σ H Q → t σ H Q) : PW X e t' := ⟨fun wh pins s σ H Q I q => h.run wh pins s σ H Q I (w σ H Q q)⟩
theorem _root_.L2.PA.weak {e : List Expr} {t t' : TA} (h : PA X e t) (w : ∀ σ H Q, t' σ H Q → t σ H Q) : PA X e t' := ⟨fun pos pins s σ H Q I q => h.run pos pins s σ H Q I (w σ H Q q)⟩
theorem _root_.L2.PS.weak {e : Stmt} {t t' : TS} (h : PS X e t) (w : ∀ D σ H, t' D σ H → t D σ H) : PS X e t' := ⟨fun pins s σ H D I q => h.run pins s σ H D I (w D σ H q)⟩
theorem _root_.L2.PSs.weak {e : List Stmt} {t t' : TS} (h : PSs X e t) (w : ∀ D σ H, t' D σ H → t D σ H) : PSs X e t' := ⟨fun pins s σ H D I q => h.run pins s σ H D I (w D σ H q)⟩
end

/-! ### names, constants -/
section
variable {X : Cx} {T : Tb} {W : WX} {pos : Pos}
def eVar (i : Nat) : Ex := fun e M => match e[i]? with
  | some (some d) => .ok d M
  | _ => .bad
def eC (d : D) : Ex := fun _ M => .ok d M
theorem se_var (i : Nat) {x : Str} (hN : X.N[i]? = some x := by rfl) (hv : Vis X.env.scope x := by first | exact Or.inl rfl | exact Or.inr (Or.inl rfl) | exact Or.inr (Or.inr rfl)) (hd : (x == ("__debug__" : Str)) = false := by decide)
    (hcd : (x == ("__classdict__" : Str)) = false := by decide) : SE X T W (.Name x pos) (eVar i) :=
  (pe_var hN hv hd hcd).weak fun σ H Q ⟨as, M, e, r, q, h⟩ => by
    unfold eVar at h
    split at h
    · rename_i d hd
      obtain ⟨v, hv, rv⟩ := q.2 i d hd
      exact ⟨v, hv, h.fin r rv⟩
    · exact h.elim
theorem se_int {i : Int} {j : Nat} : SE X T W (.Constant (.int i) j pos) (eC (.int i)) := pe_int.weak fun σ H Q ⟨as, M, e, r, q, h⟩ => PostE.fin r h (.int i)
theorem se_bl {b : Bool} {j : Nat} : SE X T W (.Constant (.bool b) j pos) (eC (.bl b)) := pe_bl.weak fun σ H Q ⟨as, M, e, r, q, h⟩ => PostE.fin r h (.bl b)
theorem se_non {j : Nat} : SE X T W (.Constant .none j pos) (eC .non) := pe_non.weak fun σ H Q ⟨as, M, e, r, q, h⟩ => PostE.fin r h .non
theorem se_str {x : Str} {j : Nat} (hx : PyData.strOk x = true := by decide +kernel) : SE X T W (.Constant (.str x) j pos) (eC (.str x)) := pe_str.weak fun σ H Q ⟨as, M, e, r, q, h⟩ => PostE.fin r h (.str x hx)
/-- a constant of the module's -/
theorem se_glob {x : Str} {v : V} {u : Value} {d : D} (hg : Gl X x) (hm : X.mg x = some u) (r : RelV v u) (hd : ∀ as H, RV (gx X T) as H v d) (hdb : (x == ("__debug__" : Str)) = false := by decide) : SE X T W (.Name x pos) (eC d) :=
  (pe_glob hg hm r hdb).weak fun σ H Q ⟨as, M, e, rl, q, h⟩ => PostE.fin rl h (hd as H)

/-! ### argument lists, displays -/
def aNil : Ax := fun _ M => .ok [] M
def aCons (t : Ex) (u : Ax) : Ax := fun e M => (t e M).bind fun x M1 => (u e M1).bind fun xs M2 => .ok (x :: xs) M2
theorem sa_nil : SA X T W [] aNil := pa_nil.weak fun σ H Q ⟨as, M, e, r, q, h⟩ => h as H [] Stp.refl r .nil
theorem sa_cons {a : Expr} {es : List Expr} {t : Ex} {u : Ax} (ha : SE X T W a t) (hb : SA X T W es u) (hs : starEach (a :: es) X.env = (false, eval a X.env) :: starEach es X.env := by rfl) : SA X T W (a :: es) (aCons t u) :=
  (pa_cons ha hb hs).weak fun σ H Q ⟨as, M, e, r, q, h⟩ => bindEA r q h fun d v as1 M1 H1 r1 q1 s1 rv h1 =>
    bindAA r1 q1 h1 fun ds vs as2 M2 H2 r2 q2 s2 rvs h2 => h2 as2 H2 (v :: vs) Stp.refl r2 (.cons (rv.step r1 s2) rvs)
def eTup (t : Ax) : Ex := fun e M => (t e M).bind fun xs M1 => .ok (.tup xs) M1
/-- a new list: by value, or (o) as a numbered place -/
def mkL (o : Bool) (xs : List D) (M : Mem) : Res D := if o then .ok (.obj M.c.length) ⟨M.b, M.c ++ [.lst false xs]⟩ else .ok (.lst xs) M
def mkD (o : Bool) (ks vs : List D) (M : Mem) : Res D := if o then .ok (.obj M.c.length) ⟨M.b, M.c ++ [.dct false ks vs]⟩ else .ok (.dct ks vs) M
def eLst (o : Bool) (t : Ax) : Ex := fun e M => (t e M).bind fun xs M1 => mkL o xs M1
/-- how many a display has -/
def ALen (n : Nat) (t : Ax) : Prop := ∀ e M xs M1, t e M = .ok xs M1 → xs.length = n
theorem alen_nil : ALen 0 aNil := fun e M xs M1 h => by cases h; rfl
theorem alen_cons {n : Nat} {t : Ex} {u : Ax} (h : ALen n u) : ALen (n + 1) (aCons t u) := fun e M xs M1 q => by
  unfold aCons at q
  cases h1 : t e M with
  | ok x M2 =>
    rw [h1] at q
    simp only [Res.bind] at q
    cases h2 : u e M2 with
    | ok ys M3 =>
      rw [h2] at q
      cases q
      simp [h _ _ _ _ h2]
    | exc c fs M3 => rw [h2] at q; cases q
    | bad => rw [h2] at q; cases q
  | exc c fs M2 => rw [h1] at q; cases q
  | bad => rw [h1] at q; cases q
theorem tup_new {G : Kx} {as : List Addr} {M : Mem} {H : Hp} {vs : List V} {ds : List D} {p : Addr} (r : Rel G as M H) (hp : H p = none) (q : RVs G as H vs ds) : RV G as (upd H p (.tup vs)) (.ref p) (.tup ds) :=
  .tup (.inl (.inl upd_same)) (q.step r (Stp.laid hp))
theorem Rel.fresh {G : Kx} {as : List Addr} {M : Mem} {H : Hp} {p : Addr} (r : Rel G as M H) (hp : H p = none) : p ∉ as := fun z => by
  obtain ⟨k, c, _, _, ca⟩ := r.some_of z
  obtain ⟨o, e, _⟩ := ca.kind
  rw [hp] at e; cases e
theorem lst_new {G : Kx} {as : List Addr} {M : Mem} {H : Hp} {vs : List V} {ds : List D} {p : Addr} (r : Rel G as M H) (hp : H p = none) (q : RVs G as H vs ds) : RV G as (upd H p (.lst vs)) (.ref p) (.lst ds) :=
  .lst upd_same (r.fresh hp) (q.step r (Stp.laid hp))
/-- a new numbered place -/
theorem Stp.add {G : Kx} {as : List Addr} {M : Mem} {H : Hp} {p : Addr} {o : HO} (c : Cell) (r : Rel G as M H) (hp : H p = none) : Stp as M H (as ++ [p]) ⟨M.b, M.c ++ [c]⟩ (upd H p o) where
  pre := fun k a h => by rw [List.getElem?_append_left (List.getElem?_eq_some_iff.mp h).1]; exact h
  new := fun a h => by
    rcases List.mem_append.mp h with h | h
    · exact .inl h
    · rw [List.mem_singleton.mp h]; exact .inr hp
  keep0 := fun b u e _ _ => by rw [upd_ne (ne_of_none e hp)]; exact e
  tbk := fun b ps e _ => ⟨ps, by rw [upd_ne (ne_of_none e hp)]; exact e⟩
  frz := fun a h ⟨k, x, e1, e2, f⟩ => by
    have hk : k < as.length := by
      by_cases q : k < as.length
      · exact q
      · rw [List.getElem?_append_right (by omega)] at e1
        have : k - as.length = 0 := by
          have := (List.getElem?_eq_some_iff.mp e1).1
          simpa using this
        rw [this] at e1
        simp at e1
        exact absurd h (e1 ▸ r.fresh hp)
    rw [List.getElem?_append_left hk] at e1
    rw [List.getElem?_append_left (by rw [← r.len]; exact hk)] at e2
    exact ⟨k, x, e1, e2, f⟩
  b := rfl
  low := fun n hn h k x hk e => by
    have := r.bl
    rw [List.getElem?_append_left (by omega)] at e
    exact h k x hk e
  hd := fun k h => by rw [List.getElem?_append_left (List.getElem?_eq_some_iff.mp h).1]; exact h
theorem Rel.add {G : Kx} {as : List Addr} {M : Mem} {H : Hp} {p : Addr} {o : HO} {c : Cell} (r : Rel G as M H) (hp : H p = none) (hc : CellAt G (as ++ [p]) (upd H p o) p c) : Rel G (as ++ [p]) ⟨M.b, M.c ++ [c]⟩ (upd H p o) where
  len := by simp [r.len]
  nd := by
    rw [List.nodup_append]
    refine ⟨r.nd, by simp, fun a ha b hb => ?_⟩
    rw [List.mem_singleton.mp hb]
    exact fun e => r.fresh hp (e ▸ ha)
  bl := by have := r.bl; simp; omega
  cell := fun k a x e1 e2 => by
    by_cases hk : k < as.length
    · rw [List.getElem?_append_left hk] at e1
      rw [List.getElem?_append_left (by rw [← r.len]; exact hk)] at e2
      have q := r.cell k a x e1 e2
      obtain ⟨u, eu, _⟩ := q.kind
      exact q.step r (Stp.add (o := o) c r hp) (upd_ne (ne_of_none eu hp))
    · have hk1 : k < as.length + 1 := by have := (List.getElem?_eq_some_iff.mp e1).1; simpa using this
      have e : k = as.length := by omega
      subst e
      rw [List.getElem?_append_right (Nat.le_refl _)] at e1
      rw [r.len, List.getElem?_append_right (Nat.le_refl _)] at e2
      simp at e1 e2
      subst e1 e2
      exact hc
  tab := fun q hq => ⟨tabg_grow (grow_upd hp) (r.tab q hq).1, fun z => by
    rcases List.mem_append.mp z with z | z
    · exact (r.tab q hq).2 z
    · obtain ⟨⟨ps, e, _⟩, _⟩ := r.tab q hq
      rw [List.mem_singleton.mp z, hp] at e
      cases e⟩
theorem PostE.mkL {G : Kx} {W : WX} {σ : L2.St} {as : List Addr} {M : Mem} {H : Hp} {Q : VK} {o : Bool} {ds : List D} {vs : List V} (r : Rel G as M H) (h : PostE G W σ as M H Q (EV.mkL o ds M)) (q : RVs G as H vs ds) : ∀ p, H p = none → Q (.ref p) (upd H p (.lst vs)) := fun p hp => by
  unfold EV.mkL at h
  split at h
  · have st := Stp.add (o := .lst vs) (.lst false ds) r hp
    exact h (as ++ [p]) _ (.ref p) st (r.add hp ⟨vs, upd_same, q.step r st⟩) (.obj (by rw [List.getElem?_append_right (by rw [r.len]; exact Nat.le_refl _)]; simp [r.len]))
  · exact h as _ (.ref p) (Stp.laid hp) (r.laid hp) (lst_new r hp q)
theorem se_tup {es : List Expr} {k n : Nat} {t : Ax} (ha : SA X T W es t) (hn : ALen n t) (hz : n ≤ sizeLine := by decide) : SE X T W (.Tuple es k pos) (eTup t) :=
  (pe_tup ha).weak fun σ H Q ⟨as, M, e, r, q, h⟩ => by
    refine ⟨as, M, e, r, q, ?_⟩
    unfold eTup at h
    cases ht : t e M with
    | ok ds M1 =>
      rw [ht] at h
      intro as1 H1 vs s1 r1 rvs
      refine ⟨by rw [rvs.len, hn _ _ _ _ ht]; exact hz, fun p hp => ?_⟩
      exact h as1 _ (.ref p) (s1.trans (Stp.laid hp)) (r1.laid hp) (tup_new r1 hp rvs)
    | exc c fs M1 => rw [ht] at h; exact h
    | bad => rw [ht] at h; exact h
theorem se_lst (o : Bool) {es : List Expr} {n : Nat} {t : Ax} (ha : SA X T W es t) (hn : ALen n t) (hz : n ≤ sizeLine := by decide) : SE X T W (.List es pos) (eLst o t) :=
  (pe_lst ha).weak fun σ H Q ⟨as, M, e, r, q, h⟩ => by
    refine ⟨as, M, e, r, q, ?_⟩
    unfold eLst at h
    cases ht : t e M with
    | ok ds M1 =>
      rw [ht] at h
      intro as1 H1 vs s1 r1 rvs
      refine ⟨by rw [rvs.len, hn _ _ _ _ ht]; exact hz, fun p hp => ?_⟩
      exact PostE.mkL r1 (PostE.re s1 h) rvs p hp
    | exc c fs M1 => rw [ht] at h; exact h
    | bad => rw [ht] at h; exact h
end
end EV

set_option Elab.async false
set_option linter.all false
set_option autoImplicit false
set_option maxRecDepth 100000
set_option maxHeartbeats 4000000
namespace EV
open PySem PySem.Spec PyProof.Rows L2

/-! ### contents -/
def asL (M : Mem) : D → Option (List D)
  | .lst xs => some xs
  | .obj k => match M.c[k]? with
    | some (.lst _ xs) => some xs
    | _ => none
  | _ => none
def asD (M : Mem) : D → Option (List D × List D)
  | .dct ks vs => some (ks, vs)
  | .obj k => match M.c[k]? with
    | some (.dct _ ks vs) => some (ks, vs)
    | _ => none
  | _ => none
/-- a numbered list looked at as a list -/
def look (M : Mem) : D → D
  | .obj k => match M.c[k]? with
    | some (.lst _ xs) => .lst xs
    | _ => .obj k
  | d => d
mutual
def plain : D → Bool
  | .tup xs => plainL xs
  | .lst xs => plainL xs
  | .dct _ _ => false
  | .obj _ => false
  | .non => true
  | .bl _ => true
  | .int _ => true
  | .str _ => true
  | .fz _ => false
def plainL : List D → Bool
  | [] => true
  | x :: xs => plain x && plainL xs
end
mutual
theorem plain_pd : ∀ {d : D}, plain d = true → ∃ p, pd d = some p
  | .non, _ => ⟨_, rfl⟩
  | .bl _, _ => ⟨_, rfl⟩
  | .int _, _ => ⟨_, rfl⟩
  | .str _, _ => ⟨_, rfl⟩
  | .tup xs, h => by
    obtain ⟨p, e⟩ := plainL_pd (by simpa [plain] using h)
    exact ⟨.tuple p, by simp [pd, e]⟩
  | .lst xs, h => by
    obtain ⟨p, e⟩ := plainL_pd (by simpa [plain] using h)
    exact ⟨.list p, by simp [pd, e]⟩
  | .dct _ _, h => by simp [plain] at h
  | .obj _, h => by simp [plain] at h
  | .fz _, h => by simp [plain] at h
theorem plainL_pd : ∀ {d : List D}, plainL d = true → ∃ p, pdL d = some p
  | [], _ => ⟨[], rfl⟩
  | x :: xs, h => by
    simp [plainL] at h
    obtain ⟨p, e⟩ := plain_pd h.1
    obtain ⟨ps, es⟩ := plainL_pd h.2
    exact ⟨p :: ps, by simp [pdL, e, es]⟩
end
section
variable {G : Kx} {as : List Addr} {M : Mem} {H : Hp}
theorem asL_ok {v : V} {d : D} {xs : List D} (r : Rel G as M H) (q : RV G as H v d) (h : asL M d = some xs) : ∃ a vs, v = .ref a ∧ H a = some (.lst vs) ∧ RVs G as H vs xs := by
  cases q with
  | lst h1 h2 h3 => simp [asL] at h; subst h; exact ⟨_, _, rfl, h1, h3⟩
  | @obj a k h1 =>
    simp only [asL] at h
    split at h
    · rename_i f ys e
      cases h
      obtain ⟨vs, e1, e2⟩ := r.cell k a _ h1 e
      exact ⟨a, vs, rfl, e1, e2⟩
    · cases h
  | non => cases h
  | bl => cases h
  | int => cases h
  | str => cases h
  | tup => cases h
  | dct => cases h
  | fz => cases h
theorem asD_ok {v : V} {d : D} {ks ws : List D} (r : Rel G as M H) (q : RV G as H v d) (h : asD M d = some (ks, ws)) : ∃ a kvs vvs, v = .ref a ∧ DictAt G H a ks kvs vvs ∧ RVs G as H kvs ks ∧ RVs G as H vvs ws := by
  cases q with
  | dct h1 h2 h3 h4 => simp [asD] at h; obtain ⟨rfl, rfl⟩ := h; exact ⟨_, _, _, rfl, h1, h3, h4⟩
  | @obj a k h1 =>
    simp only [asD] at h
    split at h
    · rename_i f ks' ws' e
      cases h
      obtain ⟨kvs, vvs, e1, e2, e3⟩ := r.cell k a _ h1 e
      exact ⟨a, kvs, vvs, rfl, e1, e2, e3⟩
    · cases h
  | non => cases h
  | bl => cases h
  | int => cases h
  | str => cases h
  | tup => cases h
  | lst => cases h
  | fz => cases h
theorem tup_ok {v : V} {ds : List D} (q : RV G as H v (.tup ds)) : ∃ a vs, v = .ref a ∧ SqT G.K H a vs ∧ RVs G as H vs ds := by
  cases q with
  | tup h1 h2 => exact ⟨_, _, rfl, h1, h2⟩
mutual
theorem RV.dp : ∀ {v : V} {d : D} {p : PyData}, RV G as H v d → pd d = some p → Dp G.K H v p ∧ p.canLay0 = true
  | _, _, _, .non, h => by cases h; exact ⟨.non, by simp [PyData.canLay0]⟩
  | _, _, _, .bl b, h => by cases h; exact ⟨.bl b, by simp [PyData.canLay0]⟩
  | _, _, _, .int b, h => by cases h; exact ⟨.int b, by simp [PyData.canLay0]⟩
  | _, _, _, .str b s, h => by cases h; exact ⟨.str b, by simpa [PyData.canLay0] using s⟩
  | _, _, _, .tup h1 h2, h => by
    simp [pd] at h
    obtain ⟨ps, e, rfl⟩ := h
    obtain ⟨a, b⟩ := RVs.dp h2 e
    exact ⟨.tup h1 a, by simpa [PyData.canLay0] using b⟩
  | _, _, _, .lst h1 _ h2, h => by
    simp [pd] at h
    obtain ⟨ps, e, rfl⟩ := h
    obtain ⟨a, b⟩ := RVs.dp h2 e
    exact ⟨.lst (.inl (.inl h1)) a, by simpa [PyData.canLay0] using b⟩
  | _, _, _, .dct _ _ _ _, h => by simp [pd] at h
  | _, _, _, .obj _, h => by simp [pd] at h
  | _, _, _, .fz _, h => by simp [pd] at h
theorem RVs.dp : ∀ {v : List V} {d : List D} {p : List PyData}, RVs G as H v d → pdL d = some p → DpAll G.K H v p ∧ PyData.canLayAll0 p = true
  | _, _, _, .nil, h => by cases h; exact ⟨.nil, by simp [PyData.canLayAll0]⟩
  | _, _, _, .cons a b, h => by
    simp only [pdL] at h
    split at h
    · rename_i e1 e2
      cases h
      obtain ⟨u, cu⟩ := RV.dp a e1
      obtain ⟨us, cus⟩ := RVs.dp b e2
      exact ⟨.cons u us, by simp [PyData.canLayAll0, cu, cus]⟩
    · cases h
end
theorem look_dp {v : V} {d : D} {p : PyData} (r : Rel G as M H) (q : RV G as H v d) (h : pd (look M d) = some p) : Dp G.K H v p ∧ p.canLay0 = true := by
  cases q with
  | @obj a k h1 =>
    simp only [look] at h
    split at h
    · rename_i f ys e
      obtain ⟨vs, e1, e2⟩ := r.cell k a _ h1 e
      simp [pd] at h
      obtain ⟨ps, ep, rfl⟩ := h
      obtain ⟨u, cu⟩ := e2.dp ep
      exact ⟨.lst (.inl (.inl e1)) u, by simpa [PyData.canLay0] using cu⟩
    · simp [pd] at h
  | non => exact RV.dp (as := as) .non h
  | bl b => exact RV.dp (as := as) (.bl b) h
  | int b => exact RV.dp (as := as) (.int b) h
  | str b s => exact RV.dp (as := as) (.str b s) h
  | tup h1 h2 => exact RV.dp (.tup h1 h2) h
  | lst h1 h2 h3 => exact RV.dp (.lst h1 h2 h3) h
  | dct h1 h2 h3 h4 => exact RV.dp (.dct h1 h2 h3 h4) h
  | fz h1 => exact RV.dp (.fz h1) h
end

/-! ### operators on values -/
/-- f gives what g tells -/
def OpD (X : Cx) (T : Tb) (f : Value → Value → Sem Value) (g : D → D → Mem → Res D) : Prop :=
  ∀ (pins : List (Addr × Obj)) (s : Shared) (σ : L2.St) (H : Hp) (as : List Addr) (M : Mem) (x y : D) (v w : V) (u z : Value) (Q : VK) (W : WX) (σ₀ : L2.St), Inv X pins σ H s → Rel (gx X T) as M H → RV (gx X T) as H v x → RV (gx X T) as H w y → RelV v u → RelV w z →
    PostE (gx X T) W σ₀ as M H Q (g x y M) → wpAny (model X.prog X.w) X.A (f u z) (EP X pins σ Q) X.xe s
def UnD (X : Cx) (T : Tb) (f : Value → Sem Value) (g : D → Mem → Res D) : Prop :=
  ∀ (pins : List (Addr × Obj)) (s : Shared) (σ : L2.St) (H : Hp) (as : List Addr) (M : Mem) (x : D) (v : V) (u : Value) (Q : VK) (W : WX), Inv X pins σ H s → Rel (gx X T) as M H → RV (gx X T) as H v x → RelV v u →
    PostE (gx X T) W σ as M H Q (g x M) → wpAny (model X.prog X.w) X.A (f u) (EP X pins σ Q) X.xe s
def eOp (g : D → D → Mem → Res D) (ta tb : Ex) : Ex := fun e M => (ta e M).bind fun x M1 => (tb e M1).bind fun y M2 => g x y M2
def eUn (g : D → Mem → Res D) (ta : Ex) : Ex := fun e M => (ta e M).bind fun x M1 => g x M1
section
variable {X : Cx} {T : Tb} {W : WX} {pos : Pos} {a b : Expr} {ta tb : Ex}
theorem opd_bin {f : Value → Value → Sem Value} {g : D → D → Mem → Res D} (ho : OpD X T f g) (ha : SE X T W a ta) (hb : SE X T W b tb) {pins : List (Addr × Obj)} {s : Shared} {σ : L2.St} {H : Hp} {Q : VK} (I : Inv X pins σ H s) (h : tE (gx X T) W (eOp g ta tb) σ H Q) :
    wpAny (model X.prog X.w) X.A (eval a X.env) (fun v s₁ => wpAny (model X.prog X.w) X.A (eval b X.env) (fun u s₂ => wpAny (model X.prog X.w) X.A (f v u) (EP X pins σ Q) X.xe s₂) X.xe s₁) X.xe s := by
  obtain ⟨as, M, e, r, q, h⟩ := h
  refine bin ha hb I (R := fun v w H2 => ∃ as2 M2 x y, Rel (gx X T) as2 M2 H2 ∧ RV (gx X T) as2 H2 v x ∧ RV (gx X T) as2 H2 w y ∧ PostE (gx X T) W σ as2 M2 H2 Q (g x y M2)) ?_ fun v u s2 x y H2 I2 rx ry h2 => ?_
  · exact bindE r q h fun d v as1 M1 H1 r1 q1 s1 rv h1 => bindE r1 q1 h1 fun d2 v2 as2 M2 H2 r2 q2 s2 rv2 h2 => ⟨as2, M2, d, d2, r2, rv.step r1 s2, rv2, h2⟩
  · obtain ⟨as2, M2, dx, dy, r2, rx2, ry2, h2⟩ := h2
    exact ho pins s2 σ H2 as2 M2 dx dy x y v u Q W σ I2 r2 rx2 ry2 rx ry h2
theorem se_op {op : Operator} {g : D → D → Mem → Res D} (ho : OpD X T (binaryOp op) g) (ha : SE X T W a ta) (hb : SE X T W b tb) : SE X T W (.BinOp a op b pos) (eOp g ta tb) :=
  ⟨fun pins s σ H Q I h => wpAny_BinOp (opd_bin ho ha hb I h)⟩
theorem se_cmp {op : CmpOp} {g : D → D → Mem → Res D} (ho : OpD X T (compareOp op) g) (ha : SE X T W a ta) (hb : SE X T W b tb) (hm : behindInMarks op b = false := by first | exact nomark _ | rfl) : SE X T W (.Compare a [op] [b] pos) (eOp g ta tb) :=
  ⟨fun pins s σ H Q I h => wpAny_Compare1 (opd_bin ho ha hb I h) hm⟩
theorem se_un {op : UnaryOp} {g : D → Mem → Res D} (ho : UnD X T (unaryOp op) g) (ha : SE X T W a ta) : SE X T W (.UnaryOp op a pos) (eUn g ta) := by
  refine ⟨fun pins s σ H Q I ⟨as, M, e, r, q, h⟩ => UnaryOp_ ?_⟩
  refine thn (ha.run pins s σ H (fun v H1 => ∃ as1 M1 x, Rel (gx X T) as1 M1 H1 ∧ RV (gx X T) as1 H1 v x ∧ PostE (gx X T) W σ as1 M1 H1 Q (g x M1)) I (bindE r q h fun d v as1 M1 H1 r1 q1 s1 rv h1 => ⟨as1, M1, d, r1, rv, h1⟩)) fun u s1 ⟨v, H1, I1, rx, as1, M1, x, r1, rv, h1⟩ => ?_
  exact ho pins s1 σ H1 as1 M1 x v u Q W I1 r1 rv rx h1
end

/-! ### equality -/
def dEq (x y : D) (M : Mem) : Res D :=
  if plain (look M x) && plain (look M y) && Nat.ble (dep (look M x)) 64 then .ok (.bl (deq (look M x) (look M y))) M else .bad
def dNe (x y : D) (M : Mem) : Res D :=
  if plain (look M x) && plain (look M y) && Nat.ble (dep (look M x)) 64 then .ok (.bl (!deq (look M x) (look M y))) M else .bad
/-- the current context has room for comparisons of depth 64 -/
def Rm (X : Cx) : Prop := X.A.units + 66 < cLine
section
variable {X : Cx} {T : Tb}
theorem reads_of {pins : List (Addr × Obj)} {s : Shared} {σ : L2.St} {H : Hp} {as : List Addr} {M : Mem} {x : D} {v : V} {u : Value} (I : Inv X pins σ H s) (r : Rel (gx X T) as M H) (q : RV (gx X T) as H v x) (ru : RelV v u) (hp : plain (look M x) = true) :
    ∃ p bs, pd (look M x) = some p ∧ Reads s.heap u p bs ∧ p.canLay0 = true := by
  obtain ⟨p, e⟩ := plain_pd hp
  obtain ⟨d, c⟩ := look_dp r q e
  obtain ⟨bs, h⟩ := Dp.reads I p v u d ru
  exact ⟨p, bs, e, h, c⟩
theorem op_dEq (hu : Rm X) : OpD X T (compareOp .Eq) dEq := by
  intro pins s σ H as M x y v w u z Q W σ₀ I r rx ry ru rz h
  unfold dEq at h
  split at h
  · rename_i hc
    simp only [Bool.and_eq_true] at hc
    obtain ⟨⟨h1, h2⟩, h3⟩ := hc
    obtain ⟨p, bs, e1, q1, c1⟩ := reads_of I r rx ru h1
    obtain ⟨p2, bs2, e2, q2, c2⟩ := reads_of I r ry rz h2
    refine SeqAt.compareEq_reads q1 q2 c1 c2 ?_ ?_
    · rw [dep_pd e1]
      have := Nat.min_le_left (dep (look M x)) p2.depth
      have := Nat.le_of_ble_eq_true h3
      unfold Rm at hu
      omega
    · rw [deq_eqv e1 e2]
      exact ⟨.bl _, H, I, rfl, h.fin r (.bl _)⟩
  · exact h.elim
theorem op_dNe (hu : Rm X) : OpD X T (compareOp .NotEq) dNe := by
  intro pins s σ H as M x y v w u z Q W σ₀ I r rx ry ru rz h
  unfold dNe at h
  split at h
  · rename_i hc
    simp only [Bool.and_eq_true] at hc
    obtain ⟨⟨h1, h2⟩, h3⟩ := hc
    obtain ⟨p, bs, e1, q1, c1⟩ := reads_of I r rx ru h1
    obtain ⟨p2, bs2, e2, q2, c2⟩ := reads_of I r ry rz h2
    refine SeqAt.compareNe_reads q1 q2 c1 c2 ?_ ?_
    · rw [dep_pd e1]
      have := Nat.min_le_left (dep (look M x)) p2.depth
      have := Nat.le_of_ble_eq_true h3
      unfold Rm at hu
      omega
    · rw [deq_eqv e1 e2]
      exact ⟨.bl _, H, I, rfl, h.fin r (.bl _)⟩
  · exact h.elim
end

/-! ### order -/
def strLt (x y : Str) : Bool := decide (x.cps.toList < y.cps.toList)
mutual
/-- Python's < where it is one of ints, texts, tuples of these -/
def dlt : D → D → Option Bool
  | .int i, .int j => some (decide (i < j))
  | .str x, .str y => some (strLt x y)
  | .tup xs, .tup ys => dltL xs ys
  | _, _ => none
def dltL : List D → List D → Option Bool
  | [], [] => some false
  | [], _ :: _ => some true
  | _ :: _, [] => some false
  | x :: xs, y :: ys => if deq x y then dltL xs ys else dlt x y
end

/-- as the layer's rule for <, but asked at the first unequal pair alone -/
theorem tup_lt_first (l b : Addr) (us vs : Array Value) (n n2 : Nat) (dd dd2 : Option Addr) (sl sl2 : Array (Option Value)) (e r : Nat → Bool) :
    PySem.Meets (Builtin.«tuple.__lt__» ⟨[.ref l, .ref b], []⟩)
      (fun A R s => s.heap.get? l = some { cls := .type "tuple", dict := dd, data := .seq us n, slots := sl } ∧ s.heap.get? b = some { cls := .type "tuple", dict := dd2, data := .seq vs n2, slots := sl2 } ∧
        (∀ j (h1 : j < us.size) (h2 : j < vs.size), SeqAt.EqAt A.in1 s us[j] vs[j] (e j)) ∧
        (∀ j (h1 : j < us.size) (h2 : j < vs.size), (∀ i, i < j → e i = true) → e j = false → Ob.RcOp .Lt A.in1 s us[j] vs[j] (r j)) ∧
        R (.ok (.ret (.bool (Ob.lexAt e r (decide (us.size < vs.size)) 0 (min us.size vs.size))))) s) := by
  open PySem.SeqAt PySem.AutoSeq1 PySem.MeetsSeq PySem.MeetsSeq2 PySem.MeetsSeq3 in
  exact .of_wp fun prog w A R s h => by
    obtain ⟨hp, g, d, tk, os⟩ := s; obtain ⟨hl, hb, he, hr, h⟩ := h
    have f2 := AutoSeq1.sub_tuple_tuple
    have hZ : (us.toList.zip vs.toList).length = min us.size vs.size := by simp
    wp_walk using wpAny_loadPart' hl, wpAny_loadPart' hb, wpAny_forIn_list _ (fun rest b z => b.1 = none ∧ z = ⟨hp, g, d, tk, os⟩ ∧ ∃ i, rest = (us.toList.zip vs.toList).drop i ∧ (∀ k, k < i → e k = true) ∧
      R (.ok (.ret (.bool (Ob.lexAt e r (decide (us.size < vs.size)) i (min us.size vs.size - i))))) ⟨hp, g, d, tk, os⟩) _
    case turn =>
      rintro ⟨y, x⟩ rest b z ⟨hb', rfl, i, hz, hall, hR⟩
      have hlt : i < (us.toList.zip vs.toList).length := by
        rcases Nat.lt_or_ge i (us.toList.zip vs.toList).length with q | q
        · exact q
        · rw [List.drop_of_length_le q] at hz; cases hz
      have hm : i < min us.size vs.size := hZ ▸ hlt
      have k1 : i < us.size := Nat.lt_of_lt_of_le hm (Nat.min_le_left _ _)
      have k2 : i < vs.size := Nat.lt_of_lt_of_le hm (Nat.min_le_right _ _)
      rw [List.drop_eq_getElem_cons hlt] at hz
      injection hz with hyx hrest
      have hy : y = us[i] := by have q := congrArg Prod.fst hyx; simpa using q
      have hx : x = vs[i] := by have q := congrArg Prod.snd hyx; simpa using q
      subst hy hx
      rw [show min us.size vs.size - i = (min us.size vs.size - (i + 1)) + 1 by omega, Ob.lexAt_succ] at hR
      refine wpAny_bind (he i k1 k2 prog w _ _ ?_)
      cases hei : e i with
      | true =>
        rw [hei, if_pos rfl] at hR
        wp_walk
        exact ⟨rfl, rfl, i + 1, hrest, fun k hk => (Nat.lt_succ_iff_lt_or_eq.mp hk).elim (hall k) (fun q => q ▸ hei), hR⟩
      | false =>
        rw [hei, if_neg Bool.false_ne_true] at hR
        have hri := hr i k1 k2 hall hei prog w
        wp_walk using hri
        exact ⟨_, rfl, by simpa using hR⟩
    case fin =>
      rintro ⟨b1, b2⟩ z ⟨hb', rfl, i, hz, hall, hR⟩
      simp only at hb'
      subst hb'
      have hge : min us.size vs.size ≤ i := by
        rcases Nat.lt_or_ge i (us.toList.zip vs.toList).length with q | q
        · rw [List.drop_eq_getElem_cons q] at hz; cases hz
        · exact hZ ▸ q
      rw [Nat.sub_eq_zero_of_le hge, Ob.lexAt_zero] at hR
      wp_walk
      exact ⟨_, rfl, by simpa [Builtin.Tuple.tupleCompareSizes] using hR⟩
    case h =>
      exact ⟨rfl, rfl, 0, rfl, fun k hk => absurd hk (Nat.not_lt_zero k), by simpa using h⟩
theorem rc_tups {A : Around} {s : Shared} {l b : Addr} {us vs : Array Value} {e r : Nat → Bool} (hl : s.heap.IsTuple l us) (hb : s.heap.IsTuple b vs) (hu : A.units < cLine)
    (he : ∀ j (h1 : j < us.size) (h2 : j < vs.size), SeqAt.EqAt A.in1 s us[j] vs[j] (e j))
    (hr : ∀ j (h1 : j < us.size) (h2 : j < vs.size), (∀ i, i < j → e i = true) → e j = false → Ob.RcOp .Lt A.in1 s us[j] vs[j] (r j)) :
    Ob.RcOp .Lt A s (.ref l) (.ref b) (Ob.lexAt e r (decide (us.size < vs.size)) 0 (min us.size vs.size)) := fun prog w E Q h => by
  obtain ⟨⟨cls, dd, data, sl⟩, ho, hc, n, hd⟩ := id hl
  obtain ⟨⟨cls2, dd2, data2, sl2⟩, ho2, hc2, n2, hd2⟩ := id hb
  simp only at hc hd hc2 hd2
  subst hc hd hc2 hd2
  exact PySem.richCompare_meets_room (op := .Lt) ⟨_, ho, rfl⟩ ⟨_, ho2, rfl⟩ F.slot_tuple_lt F.entry_tuple_lt (F.args_tuple_lt_2 _ _) (tup_lt_first l b us vs n n2 dd dd2 sl sl2 e r)
    ⟨ho, ho2, he, hr, ⟨(fun x => nomatch x), h⟩⟩ hu

theorem readsAll_get {h : Heap} : ∀ {us : List Value} {ps : List PyData} {as : List Addr} {j : Nat} {u : Value}, ReadsAll h us ps as → us[j]? = some u → ∃ p bs, ps[j]? = some p ∧ Reads h u p bs
  | _, _, _, _, _, .nil, e => by simp at e
  | _, _, _, 0, _, .cons a _, e => by simp at e; subst e; exact ⟨_, _, rfl, a⟩
  | _, _, _, j + 1, _, .cons _ b, e => by
    obtain ⟨p, bs, h1, h2⟩ := readsAll_get (j := j) b (by simpa using e)
    exact ⟨p, bs, by simpa using h1, h2⟩
theorem readsAll_len {h : Heap} : ∀ {us : List Value} {ps : List PyData} {as : List Addr}, ReadsAll h us ps as → us.length = ps.length
  | _, _, _, .nil => rfl
  | _, _, _, .cons _ b => by simp [readsAll_len b]
theorem pdL_get : ∀ {xs : List D} {ps : List PyData} {j : Nat} {p : PyData}, pdL xs = some ps → ps[j]? = some p → ∃ x, xs[j]? = some x ∧ pd x = some p
  | [], ps, j, p, h, e => by simp [pdL] at h; subst h; simp at e
  | x :: xs, ps, j, p, h, e => by
    simp only [pdL] at h
    split at h
    · rename_i e1 e2
      cases h
      cases j with
      | zero => simp at e; subst e; exact ⟨x, rfl, e1⟩
      | succ j => exact pdL_get (j := j) e2 (by simpa using e)
    · cases h
theorem pdL_len : ∀ {xs : List D} {ps : List PyData}, pdL xs = some ps → xs.length = ps.length
  | [], ps, h => by simp [pdL] at h; subst h; rfl
  | x :: xs, ps, h => by
    simp only [pdL] at h
    split at h
    · rename_i e1 e2
      cases h
      simp [pdL_len e2]
    · cases h
theorem canLay_get : ∀ {ps : List PyData} {j : Nat} {p : PyData}, PyData.canLayAll0 ps = true → ps[j]? = some p → p.canLay0 = true
  | [], _, _, _, e => by simp at e
  | x :: xs, 0, _, h, e => by simp at e; subst e; simp [PyData.canLayAll0] at h; exact h.1
  | x :: xs, j + 1, _, h, e => by
    simp [PyData.canLayAll0] at h
    exact canLay_get (j := j) h.2 (by simpa using e)
/-- the lists' order as the model's machine goes -/
theorem lexAt_dlt (z : Bool) : ∀ (xs ys : List D) (i : Nat) (e r : Nat → Bool) (b : Bool), (∀ j x y, xs[j]? = some x → ys[j]? = some y → e (i + j) = deq x y) → (∀ j x y, xs[j]? = some x → ys[j]? = some y → deq x y = false → (∀ m x y, m < j → xs[m]? = some x → ys[m]? = some y → deq x y = true) → dlt x y = some (r (i + j))) →
    dltL xs ys = some b → z = decide (xs.length < ys.length) → Ob.lexAt e r z i (min xs.length ys.length) = b
  | [], ys, i, e, r, b, he, hr, h, hz => by
    cases ys with
    | nil => simp [dltL] at h; simp [Ob.lexAt, ← h, hz]
    | cons y ys => simp [dltL] at h; simp [Ob.lexAt, ← h, hz]
  | x :: xs, [], i, e, r, b, he, hr, h, hz => by simp [dltL] at h; simp [Ob.lexAt, ← h, hz]
  | x :: xs, y :: ys, i, e, r, b, he, hr, h, hz => by
    rw [show min (x :: xs).length (y :: ys).length = min xs.length ys.length + 1 by simp, Ob.lexAt_succ]
    have e0 := he 0 x y rfl rfl
    rw [Nat.add_zero] at e0
    rw [e0]
    simp only [dltL] at h
    by_cases q : deq x y = true
    · rw [if_pos q] at h ⊢
      refine lexAt_dlt z xs ys (i + 1) e r b (fun j u v hu hv => ?_) (fun j u v hu hv hn hall => ?_) h (by rw [hz]; simp)
      · rw [Nat.add_assoc, Nat.add_comm 1 j]; exact he (j + 1) u v (by simpa using hu) (by simpa using hv)
      · rw [Nat.add_assoc, Nat.add_comm 1 j]
        refine hr (j + 1) u v (by simpa using hu) (by simpa using hv) hn fun m u' v' hm hu' hv' => ?_
        cases m with
        | zero => simp at hu' hv'; subst hu' hv'; exact q
        | succ m => exact hall m u' v' (by omega) (by simpa using hu') (by simpa using hv')
    · rw [if_neg q] at h ⊢
      have := hr 0 x y rfl rfl (by simpa using q) fun m _ _ hm => absurd hm (Nat.not_lt_zero m)
      rw [Nat.add_zero, h] at this
      exact (Option.some.inj this).symm
def LtOk (x : D) : Prop := ∀ (y : D) (p q : PyData) (u z : Value) (bs cs : List Addr) (b : Bool) (A : Around) (s : Shared), pd x = some p → pd y = some q → Reads s.heap u p bs → Reads s.heap z q cs → p.canLay0 = true → q.canLay0 = true → A.units + dep x < cLine → dlt x y = some b → Ob.RcOp .Lt A s u z b
theorem lt_tup {xs : List D} (ih : ∀ x ∈ xs, LtOk x) : LtOk (.tup xs) := by
  intro y p q u z bs cs b A s e1 e2 r1 r2 c1 c2 hu h
  cases y with
  | tup ys =>
    simp [pd] at e1 e2
    obtain ⟨ps, e1, rfl⟩ := e1
    obtain ⟨qs, e2, rfl⟩ := e2
    cases r1 with
    | @tuple a1 o1 vs1 n1 _ _ g1 g2 g3 g4 =>
    cases r2 with
    | @tuple a2 o2 vs2 n2 _ _ k1 k2 k3 k4 =>
    simp only [dlt] at h
    simp only [dep] at hu
    have c1' : PyData.canLayAll0 ps = true := by simpa [PyData.canLay0] using c1
    have c2' : PyData.canLayAll0 qs = true := by simpa [PyData.canLay0] using c2
    have l1 : vs1.size = xs.length := by rw [← Array.length_toList, readsAll_len g4, pdL_len e1]
    have l2 : vs2.size = ys.length := by rw [← Array.length_toList, readsAll_len k4, pdL_len e2]
    have look1 : ∀ (j : Nat) (h1 : j < vs1.size), ∃ x p bs, xs[j]? = some x ∧ pd x = some p ∧ Reads s.heap vs1[j] p bs ∧ p.canLay0 = true := fun j h1 => by
      obtain ⟨p, bs, hp, rp⟩ := readsAll_get (j := j) (u := vs1[j]) g4 (by simp [h1])
      obtain ⟨x, hx, ex⟩ := pdL_get e1 hp
      exact ⟨x, p, bs, hx, ex, rp, canLay_get c1' hp⟩
    have look2 : ∀ (j : Nat) (h1 : j < vs2.size), ∃ x p bs, ys[j]? = some x ∧ pd x = some p ∧ Reads s.heap vs2[j] p bs ∧ p.canLay0 = true := fun j h1 => by
      obtain ⟨p, bs, hp, rp⟩ := readsAll_get (j := j) (u := vs2[j]) k4 (by simp [h1])
      obtain ⟨x, hx, ex⟩ := pdL_get e2 hp
      exact ⟨x, p, bs, hx, ex, rp, canLay_get c2' hp⟩
    have key := rc_tups (A := A) (s := s) (l := a1) (b := a2) (us := vs1) (vs := vs2) (e := fun j => deq (xs.getD j .non) (ys.getD j .non)) (r := fun j => (dlt (xs.getD j .non) (ys.getD j .non)).getD false)
      ⟨o1, g1, g2, n1, g3⟩ ⟨o2, k1, k2, n2, k3⟩ (by omega) (fun j h1 h2 => ?_) (fun j h1 h2 hall hne => ?_)
    · refine (show Ob.lexAt _ _ _ 0 _ = b from ?_) ▸ key
      rw [l1, l2]
      refine lexAt_dlt _ xs ys 0 _ _ b (fun j x y hx hy => ?_) (fun j x y hx hy hn hall => ?_) h rfl
      · simp [List.getD, hx, hy]
      · have : (dlt x y).isSome = true := dlt_some h hx hy hn hall
        obtain ⟨c, hc⟩ := Option.isSome_iff_exists.mp this
        simp [List.getD, hx, hy, hc]
    · obtain ⟨x, p, bs, hx, ex, rp, cp⟩ := look1 j h1
      obtain ⟨y, q, cs, hy, ey, rq, cq⟩ := look2 j h2
      have hd := depL_mem (List.mem_of_getElem? hx)
      have := SeqAt.eqAt_reads p q A.in1 s _ _ bs cs rp rq cp cq (by rw [dep_pd ex]; have := Nat.min_le_left (dep x) q.depth; show A.units + 1 + _ < cLine; omega)
      rw [deq_eqv ex ey] at this
      simpa [List.getD, hx, hy] using this
    · obtain ⟨x, p, bs, hx, ex, rp, cp⟩ := look1 j h1
      obtain ⟨y, q, cs, hy, ey, rq, cq⟩ := look2 j h2
      have hd := depL_mem (List.mem_of_getElem? hx)
      have hn : deq x y = false := by simpa [List.getD, hx, hy] using hne
      have : (dlt x y).isSome = true := dlt_some h hx hy hn fun m u v hm hu hv => by
        have := hall m hm
        simpa [List.getD, hu, hv] using this
      obtain ⟨c, hc⟩ := Option.isSome_iff_exists.mp this
      have := ih x (List.mem_of_getElem? hx) y p q _ _ bs cs c A.in1 s ex ey rp rq cp cq (by show A.units + 1 + dep x < cLine; omega) hc
      simpa [List.getD, hx, hy, hc] using this
  | _ => simp [dlt] at h
where
  dlt_some : ∀ {xs ys : List D} {b : Bool} {j : Nat} {x y : D}, dltL xs ys = some b → xs[j]? = some x → ys[j]? = some y → deq x y = false → (∀ m x y, m < j → xs[m]? = some x → ys[m]? = some y → deq x y = true) → (dlt x y).isSome = true
  | [], _, _, _, _, _, _, h, _, _, _ => by simp at h
  | _ :: _, [], _, _, _, _, _, _, h, _, _ => by simp at h
  | u :: xs, v :: ys, b, 0, x, y, h, hx, hy, hn, _ => by
    simp at hx hy
    subst hx hy
    simp only [dltL, hn] at h
    simp at h
    simp [h]
  | u :: xs, v :: ys, b, j + 1, x, y, h, hx, hy, hn, hall => by
    have q := hall 0 u v (Nat.succ_pos j) rfl rfl
    simp only [dltL, q, if_true] at h
    exact dlt_some h (by simpa using hx) (by simpa using hy) hn fun m u' v' hm hu hv => hall (m + 1) u' v' (by omega) (by simpa using hu) (by simpa using hv)
mutual
theorem lt_ok : ∀ x : D, LtOk x
  | .int i => by
    intro y p q u z bs cs b A s e1 e2 r1 r2 c1 c2 hu h
    cases y <;> simp [dlt] at h
    simp [pd] at e1 e2
    subst e1 e2
    cases r1; cases r2
    rw [← h]
    exact Ob.RcOp.lt_int _ _ _ _
  | .str x => by
    intro y p q u z bs cs b A s e1 e2 r1 r2 c1 c2 hu h
    cases y <;> simp [dlt] at h
    simp [pd] at e1 e2
    subst e1 e2
    cases r1; cases r2
    rw [← h]
    intro prog w E Q hQ
    exact PyProof.Rows.lt_str hQ
  | .tup xs => lt_tup (lt_all xs)
  | .non => by intro y p q u z bs cs b A s e1 e2 r1 r2 c1 c2 hu h; simp [dlt] at h
  | .bl _ => by intro y p q u z bs cs b A s e1 e2 r1 r2 c1 c2 hu h; simp [dlt] at h
  | .lst _ => by intro y p q u z bs cs b A s e1 e2 r1 r2 c1 c2 hu h; simp [dlt] at h
  | .dct _ _ => by intro y p q u z bs cs b A s e1 e2 r1 r2 c1 c2 hu h; simp [dlt] at h
  | .obj _ => by intro y p q u z bs cs b A s e1 e2 r1 r2 c1 c2 hu h; simp [dlt] at h
  | .fz _ => by intro y p q u z bs cs b A s e1 e2 r1 r2 c1 c2 hu h; simp [dlt] at h
theorem lt_all : ∀ (xs : List D) (d : D), d ∈ xs → LtOk d
  | [], _, h => nomatch h
  | x :: xs, d, h => by
    rcases List.mem_cons.mp h with e | h
    · rw [e]; exact lt_ok x
    · exact lt_all xs d h
end
end EV

set_option Elab.async false
set_option linter.all false
set_option autoImplicit false
set_option maxRecDepth 100000
set_option maxHeartbeats 4000000
namespace EV
open PySem PySem.Spec PyProof.Rows L2
def nle (a b : Nat) : Bool := Nat.ble a b
theorem nle_iff {a b : Nat} : nle a b = true ↔ a ≤ b := by unfold nle; rw [Nat.ble_eq]
section
variable {G : Kx} {W : WX} {σ : L2.St} {as : List Addr} {M : Mem} {H : Hp} {Q : VK}
theorem PostE.newT {ds : List D} {vs : List V} (r : Rel G as M H) (h : PostE G W σ as M H Q (.ok (.tup ds) M)) (q : RVs G as H vs ds) : ∀ p, H p = none → Q (.ref p) (upd H p (.tup vs)) := fun p hp =>
  h as _ (.ref p) (Stp.laid hp) (r.laid hp) (tup_new r hp q)
theorem PostE.newL {ds : List D} {vs : List V} (r : Rel G as M H) (h : PostE G W σ as M H Q (.ok (.lst ds) M)) (q : RVs G as H vs ds) : ∀ p, H p = none → Q (.ref p) (upd H p (.lst vs)) := fun p hp =>
  h as _ (.ref p) (Stp.laid hp) (r.laid hp) (lst_new r hp q)
end
/-! ### + - * // % ** -/
def mulOk (i j : Int) : Bool := (decide (-(2 ^ 64) < i) && decide (i < 2 ^ 64)) || (decide (-(2 ^ 64) < j) && decide (j < 2 ^ 64))
def dAdd (x y : D) (M : Mem) : Res D :=
  match x, y with
  | .int i, .int j => .ok (.int (i + j)) M
  | .str i, .str j => if nle (i.length + j.length) sizeLine then .ok (.str (i ++ j)) M else .bad
  | .tup xs, .tup ys => if nle (xs.length + ys.length) sizeLine then .ok (.tup (xs ++ ys)) M else .bad
  | x, y => match asL M x, asL M y with
    | some xs, some ys => if nle (xs.length + ys.length) sizeLine then .ok (.lst (xs ++ ys)) M else .bad
    | _, _ => .bad
def dSub (x y : D) (M : Mem) : Res D :=
  match x, y with
  | .int i, .int j => .ok (.int (i - j)) M
  | _, _ => .bad
def repL {α : Type} (n : Nat) (xs : List α) : List α := (List.replicate n xs).flatten
def dMul (x y : D) (M : Mem) : Res D :=
  match x, y with
  | .int i, .int j => if mulOk i j then .ok (.int (i * j)) M else .bad
  | .tup xs, .int k => if k == 1 then .ok (.tup xs) M else if !xs.isEmpty && decide (2 ≤ k) && decide (k ≤ 1000) && nle xs.length 1000 then .ok (.tup (repL k.toNat xs)) M else .bad
  | x, .int k => match asL M x with
    | some xs => if decide (-(2 ^ 63) ≤ k) && decide (k < 2 ^ 63) && nle (xs.length * k.toNat) sizeLine then .ok (.lst (repL k.toNat xs)) M else .bad
    | _ => .bad
  | _, _ => .bad
def dDiv (x y : D) (M : Mem) : Res D :=
  match x, y with
  | .int i, .int j => if decide (0 < j) && decide (j < 1073741824) then .ok (.int (i / j)) M else .bad
  | _, _ => .bad
def dMod (x y : D) (M : Mem) : Res D :=
  match x, y with
  | .int i, .int j => if decide (0 < j) then .ok (.int (i % j)) M else .bad
  | _, _ => .bad
def dPow (x y : D) (M : Mem) : Res D :=
  match x, y with
  | .int i, .int j => if decide (0 ≤ j) && decide (j ≤ 1000) && nle i.natAbs 1000000 then .ok (.int (i ^ j.toNat)) M else .bad
  | _, _ => .bad
theorem RVs.rep {G : Kx} {as : List Addr} {H : Hp} {vs : List V} {ds : List D} (h : RVs G as H vs ds) : ∀ n, RVs G as H (repL n vs) (repL n ds)
  | 0 => .nil
  | n + 1 => by
    unfold repL
    rw [List.replicate_succ, List.replicate_succ, List.flatten_cons, List.flatten_cons]
    exact h.app (RVs.rep h n)
section
variable {X : Cx} {T : Tb}
theorem strOk_app {i j : Str} (h1 : PyData.strOk i = true) (h2 : PyData.strOk j = true) : PyData.strOk (i ++ j) = true := by
  unfold PyData.strOk at *
  show (Str.cps (i ++ j)).all _ = true
  have e : (i ++ j).cps = i.cps ++ j.cps := rfl
  rw [e, Array.all_append, h1, h2]; rfl
theorem cat_lists {pins : List (Addr × Obj)} {s : Shared} {σ : L2.St} {H : Hp} {l b : Addr} {xs zs : List V} {Q : VK} (I : Inv X pins σ H s) (h1 : H l = some (.lst xs)) (h2 : H b = some (.lst zs)) (hz : xs.length + zs.length ≤ sizeLine) (q : ∀ p, H p = none → Q (.ref p) (upd H p (.lst (xs ++ zs)))) :
    wpAny (model X.prog X.w) X.A (binaryOp .Add (.ref l) (.ref b)) (EP X pins σ Q) X.xe s := by
  obtain ⟨z, its, n, r, hl, e⟩ := I.lstM h1
  obtain ⟨z2, its2, n2, r2, hl2, e2⟩ := I.lstM h2
  refine PySem.P.add_list e e2 ?_ (by rw [List.size_toArray, List.size_toArray]; omega)
  rw [show its.toArray ++ its2.toArray = (its ++ its2).toArray by simp]
  exact ⟨.ref _, _, I.lnew (t' := s.toks) (r.append r2) (by rw [List.length_append]; omega), rfl, q _ I.fresh⟩
theorem op_dAdd : OpD X T (binaryOp .Add) dAdd := by
  intro pins s σ H as M x y v w u z Q W σ₀ I r rx ry ru rz h
  unfold dAdd at h
  split at h
  · cases rx; cases ry
    exact op_add pins s σ H _ _ u z Q I ru rz ⟨_, _, rfl, rfl, h.fin r (.int _)⟩
  · split at h
    · rename_i hc
      cases rx with
      | str _ s1 => cases ry with
        | str _ s2 => exact op_add_str pins s σ H _ _ u z Q I ru rz ⟨_, _, rfl, rfl, nle_iff.mp hc, h.fin r (.str _ (strOk_app s1 s2))⟩
    · exact h.elim
  · split at h
    · rename_i xs ys hc
      obtain ⟨a, vs, rfl, h1, h2⟩ := tup_ok rx
      obtain ⟨b, ws, rfl, h3, h4⟩ := tup_ok ry
      refine op_catA pins s σ H _ _ u z Q I ru rz ⟨a, b, vs, ws, rfl, rfl, h1, h3, by rw [h2.len, h4.len]; exact nle_iff.mp hc, fun e => ?_, fun e e' => ?_, fun _ _ => h.newT r (h2.app h4)⟩
      · subst e
        cases h2
        exact h.fin r (.tup h3 h4)
      · subst e'
        cases h4
        rw [List.append_nil] at h
        exact h.fin r (.tup h1 h2)
    · exact h.elim
  · split at h
    · rename_i xs ys e1 e2
      split at h
      · rename_i hc
        obtain ⟨a, vs, rfl, h1, h2⟩ := asL_ok r rx e1
        obtain ⟨b, ws, rfl, h3, h4⟩ := asL_ok r ry e2
        cases ru; cases rz
        exact cat_lists I h1 h3 (by rw [h2.len, h4.len]; exact nle_iff.mp hc) (h.newL r (h2.app h4))
      · exact h.elim
    · exact h.elim
theorem op_dSub : OpD X T (binaryOp .Sub) dSub := by
  intro pins s σ H as M x y v w u z Q W σ₀ I r rx ry ru rz h
  unfold dSub at h
  split at h
  · cases rx; cases ry
    exact op_sub pins s σ H _ _ u z Q I ru rz ⟨_, _, rfl, rfl, h.fin r (.int _)⟩
  · exact h.elim
theorem op_dDiv : OpD X T (binaryOp .FloorDiv) dDiv := by
  intro pins s σ H as M x y v w u z Q W σ₀ I r rx ry ru rz h
  unfold dDiv at h
  split at h
  · split at h
    · rename_i hc
      cases rx; cases ry
      simp only [Bool.and_eq_true, decide_eq_true_eq] at hc
      exact op_fdiv pins s σ H _ _ u z Q I ru rz ⟨_, _, rfl, rfl, hc, h.fin r (.int _)⟩
    · exact h.elim
  · exact h.elim
theorem op_dMod : OpD X T (binaryOp .Mod) dMod := by
  intro pins s σ H as M x y v w u z Q W σ₀ I r rx ry ru rz h
  unfold dMod at h
  split at h
  · split at h
    · rename_i hc
      cases rx; cases ry
      exact op_mod pins s σ H _ _ u z Q I ru rz ⟨_, _, rfl, rfl, of_decide_eq_true hc, h.fin r (.int _)⟩
    · exact h.elim
  · exact h.elim
theorem op_dPow : OpD X T (binaryOp .Pow) dPow := by
  intro pins s σ H as M x y v w u z Q W σ₀ I r rx ry ru rz h
  unfold dPow at h
  split at h
  · split at h
    · rename_i hc
      cases rx; cases ry
      simp only [Bool.and_eq_true, decide_eq_true_eq, nle_iff] at hc
      exact op_pow pins s σ H _ _ u z Q I ru rz ⟨_, _, rfl, rfl, ⟨hc.1.1, by omega, Nat.lt_of_le_of_lt hc.2 (by decide)⟩, h.fin r (.int _)⟩
    · exact h.elim
  · exact h.elim
theorem op_dMul (h1 : ∀ (pins : List (Addr × Obj)) (s : Shared) (σ : L2.St) (H : Hp) (a : Addr) (vs : List V) (z : Value) (Q : VK), Inv X pins σ H s → SqT X.K H a vs → RelV (.int 1) z → Q (.ref a) H → wpAny (model X.prog X.w) X.A (binaryOp .Mult (.ref a) z) (EP X pins σ Q) X.xe s) : OpD X T (binaryOp .Mult) dMul := by
  intro pins s σ H as M x y v w u z Q W σ₀ I r rx ry ru rz h
  unfold dMul at h
  split at h
  · split at h
    · rename_i hc
      cases rx; cases ry
      refine op_mul pins s σ H _ _ u z Q I ru rz ⟨_, _, rfl, rfl, ?_, h.fin r (.int _)⟩
      simpa [mulOk, CMul] using hc
    · exact h.elim
  · obtain ⟨a, vs, rfl, g1, g2⟩ := tup_ok rx
    cases ry
    split at h
    · rename_i hc
      have e := eq_of_beq hc
      subst e
      cases ru
      exact h1 pins s σ H a vs z Q I g1 rz (h.fin r (.tup g1 g2))
    · split at h
      · rename_i hc
        simp only [Bool.and_eq_true, decide_eq_true_eq, nle_iff] at hc
        obtain ⟨⟨⟨c1, c2⟩, c3⟩, c4⟩ := hc
        refine op_repT pins s σ H _ _ u z Q I ru rz ⟨a, _, vs, rfl, rfl, g1, fun e => ?_, c2, c3, by rw [g2.len]; exact c4, h.newT r (g2.rep _)⟩
        subst e
        cases g2
        simp at c1
      · exact h.elim
  · split at h
    · rename_i xs e1
      split at h
      · rename_i hc
        simp only [Bool.and_eq_true, decide_eq_true_eq, nle_iff] at hc
        obtain ⟨a, vs, rfl, g1, g2⟩ := asL_ok r rx e1
        cases ry
        exact op_rep pins s σ H _ _ u z Q I ru rz ⟨a, _, vs, rfl, rfl, g1, hc.1.1, hc.1.2, by rw [g2.len]; exact hc.2, h.newL r (g2.rep _)⟩
      · exact h.elim
    · exact h.elim
  · exact h.elim
end
end EV

set_option Elab.async false
set_option linter.all false
set_option autoImplicit false
set_option maxRecDepth 100000
set_option maxHeartbeats 4000000
namespace EV
open PySem PySem.Spec PyProof.Rows L2

/-! ### dicts as two lists -/
def dfind (k : D) : List D → List D → Option D
  | x :: xs, y :: ys => if D.beq x k then some y else dfind k xs ys
  | _, _ => none
def dputV (k v : D) : List D → List D → List D
  | x :: xs, y :: ys => if D.beq x k then v :: ys else y :: dputV k v xs ys
  | _, _ => [v]
def dputK (k : D) : List D → List D
  | x :: xs => if D.beq x k then x :: xs else x :: dputK k xs
  | [] => [k]
def ddelV (k : D) : List D → List D → List D
  | x :: xs, y :: ys => if D.beq x k then ys else y :: ddelV k xs ys
  | _, _ => []
def ddelK (k : D) : List D → List D
  | x :: xs => if D.beq x k then xs else x :: ddelK k xs
  | [] => []
/-- the key q may be asked of a dict with the keys ks -/
def kok (ks : List D) (q : D) : Bool :=
  match ks with
  | [] => EV.scal q || deepK q
  | k :: _ => if EV.scal k then EV.scal q else deepK q
section
variable {X : Cx} {T : Tb} {pins : List (Addr × Obj)} {σ : L2.St} {H : Hp} {s : Shared} {as : List Addr} {a : Addr}
mutual
theorem RV.keyAt (I : Inv X pins σ H s) : ∀ {v : V} {d : D} {u : Value}, RV (gx X T) as H v d → isKey d = true → RelV v u → KeyAt s.heap d u
  | _, _, _, .non, _, r => by cases r; exact .non
  | _, _, _, .int i, _, r => by obtain ⟨t, rfl⟩ := r; exact .int i t
  | _, _, _, .str x e, _, r => by obtain ⟨t, rfl⟩ := r; exact .str x t e
  | _, _, _, .tup h1 h2, k, r => by
    cases r
    obtain ⟨its, rv, ⟨o, e1, e2, n, e3⟩, _⟩ := I.tuple h1
    exact .tup e1 e2 e3 (by simpa using RVs.keyAt I h2 (by simpa [isKey] using k) rv)
  | _, _, _, .bl _, k, _ => by simp [isKey] at k
  | _, _, _, .lst _ _ _, k, _ => by simp [isKey] at k
  | _, _, _, .dct _ _ _ _, k, _ => by simp [isKey] at k
  | _, _, _, .obj _, k, _ => by simp [isKey] at k
  | _, _, _, .fz _, k, _ => by simp [isKey] at k
theorem RVs.keyAt (I : Inv X pins σ H s) : ∀ {vs : List V} {ds : List D} {us : List Value}, RVs (gx X T) as H vs ds → isKeys ds = true → Vals vs us → KeysAt s.heap ds us
  | _, _, _, .nil, _, r => by cases r; exact .nil
  | _, _, _, .cons a b, k, r => by
    simp [isKeys] at k
    cases r with
    | cons r1 r2 => exact .cons (RV.keyAt I a k.1 r1) (RVs.keyAt I b k.2 r2)
end
/-- the raw entries, read off the object -/
theorem raw_of {w : World} : ∀ {raw : List (D × V × V)} {es : List DictEntry}, Paired (fun (r : D × V × V) (e : DictEntry) => e.hash = kHash w r.1 ∧ RelV r.2.1 e.key ∧ RelV r.2.2 e.val) raw es → (∀ r ∈ raw, ∃ b, r.2.1 = .ref b) →
    ∃ xs : List (D × Addr × Value), es = xs.map (fun x => ⟨kHash w x.1, .ref x.2.1, x.2.2⟩) ∧ xs.map (·.1) = raw.map (·.1) ∧ xs.map (fun x => V.ref x.2.1) = raw.map (·.2.1) ∧ Vals (raw.map (·.2.2)) (xs.map (·.2.2))
  | _, _, .nil, _ => ⟨[], rfl, rfl, rfl, .nil⟩
  | _, _, @Paired.cons _ _ _ r e _ _ h t, hr => by
    obtain ⟨xs, e1, e2, e3, e4⟩ := raw_of t fun x hx => hr x (List.mem_cons_of_mem _ hx)
    obtain ⟨h1, h2, h3⟩ := h
    obtain ⟨b, eb⟩ := hr r List.mem_cons_self
    rw [eb] at h2
    refine ⟨(r.1, b, e.val) :: xs, ?_, by simp [e2], by simp [e3, eb], .cons h3 e4⟩
    rw [List.map_cons, ← e1]
    obtain ⟨hh, hk, hv⟩ := e
    simp only at h1
    cases (show hk = Value.ref b from h2)
    rw [h1]
theorem raw_to {w : World} : ∀ {xs : List (D × Addr × Value)} {vvs : List V}, Vals vvs (xs.map (·.2.2)) →
    ∃ raw : List (D × V × V), Paired (fun (r : D × V × V) (e : DictEntry) => e.hash = kHash w r.1 ∧ RelV r.2.1 e.key ∧ RelV r.2.2 e.val) raw (xs.map (fun x => ⟨kHash w x.1, .ref x.2.1, x.2.2⟩)) ∧ raw.map (·.1) = xs.map (·.1) ∧ raw.map (·.2.1) = xs.map (fun x => V.ref x.2.1) ∧ raw.map (·.2.2) = vvs
  | [], vvs, h => by
    rw [List.map_nil] at h
    cases h
    exact ⟨[], .nil, rfl, rfl, rfl⟩
  | x :: xs, vvs, h => by
    rw [List.map_cons] at h
    cases h with
    | @cons v _ vs _ r t =>
      obtain ⟨raw, p, e1, e2, e3⟩ := raw_to (w := w) t
      exact ⟨(x.1, .ref x.2.1, v) :: raw, .cons ⟨rfl, rfl, r⟩ p, by simp [e1], by simp [e2], by simp [e3]⟩
structure Deep (X : Cx) (s : Shared) (a : Addr) (ks : List D) (kvs vvs : List V) (xs : List (D × Addr × Value)) : Prop where
  at_ : s.heap.DictOfH (deepKind X.prog X.w) a xs
  ks : xs.map (·.1) = ks
  kvs : xs.map (fun x => V.ref x.2.1) = kvs
  vvs : Vals vvs (xs.map (·.2.2))
  sys : (a == sysModules) = false
  len : xs.length ≤ sizeLine
theorem keys_is (I : Inv X pins σ H s) : ∀ {xs : List (D × Addr × Value)} {ks : List D} {kvs : List V}, RVs (gx X T) as H kvs ks → xs.map (·.1) = ks → xs.map (fun x => V.ref x.2.1) = kvs → (∀ d ∈ ks, deepK d = true) → ∀ x ∈ xs, (deepKind X.prog X.w).is s.heap x.1 x.2.1
  | [], _, _, _, _, _, _, _, h => nomatch h
  | y :: ys, ks, kvs, r, e1, e2, hk, x, hx => by
    rw [List.map_cons] at e1 e2
    subst e1 e2
    cases r with
    | cons r1 r2 =>
      rcases List.mem_cons.mp hx with e | hx
      · subst e
        have q := deepK_iff (hk x.1 List.mem_cons_self)
        exact ⟨r1.keyAt I q.1 rfl, q.2.1⟩
      · exact keys_is I r2 rfl rfl (fun d hd => hk d (List.mem_cons_of_mem _ hd)) x hx
theorem scal_deep {d : D} (h1 : EV.scal d = true) (h2 : deepK d = true) : False := by
  obtain ⟨xs, e⟩ := (deepK_iff h2).2.2
  subst e
  simp [EV.scal] at h1
theorem deep_refs {raw : List (D × V × V)} (rk : RVs (gx X T) as H (raw.map (·.2.1)) (raw.map (·.1))) (hk : ∀ d ∈ raw.map (·.1), deepK d = true) : ∀ r ∈ raw, ∃ b, r.2.1 = V.ref b := by
  induction raw with
  | nil => intro r hr; exact nomatch hr
  | cons y ys ih =>
    intro r hr
    cases rk with
    | cons r1 r2 =>
      rcases List.mem_cons.mp hr with e | hr
      · subst e
        obtain ⟨xs, e⟩ := (deepK_iff (hk r.1 (by simp))).2.2
        have r1 : RV (gx X T) as H r.2.1 r.1 := r1
        rw [e] at r1
        obtain ⟨a, _, e, _⟩ := tup_ok r1
        exact ⟨a, e⟩
      · exact ih r2 (fun d hd => hk d (List.mem_cons_of_mem _ hd)) r hr
theorem dict_deep {ks : List D} {kvs vvs : List V} (I : Inv X pins σ H s) (d : DictAt (gx X T) H a ks kvs vvs) (rk : RVs (gx X T) as H kvs ks) (hk : ks.head?.all (fun k => !EV.scal k) = true) : ∃ xs, Deep X s a ks kvs vvs xs := by
  obtain ⟨ep, raw, e, rfl, rfl, rfl, nd, hkey, hl, hs⟩ := d
  have hkey : ∀ d ∈ raw.map (·.1), deepK d = true := by
    rcases hkey with h | h
    · intro d hd
      cases raw with
      | nil => exact nomatch hd
      | cons y ys =>
        have := h y.1 (by simp)
        simp [this] at hk
    · exact h
  obtain ⟨⟨o, es, h1, h2, h3, h4⟩, _⟩ := (show ObjOk X.prog X.w H s.heap a (dictO X.w a ep raw) from I.hok a _ e)
  obtain ⟨xs, e1, e2, e3, e4⟩ := raw_of h4 (deep_refs rk hkey)
  refine ⟨xs, ⟨o, es, ep, h1, h2, h3, e1, keys_is I rk e2 e3 hkey, by rw [e2]; exact nd⟩, e2, e3, e4, hs, ?_⟩
  have := congrArg List.length e2
  simp at this
  omega
structure Sca (X : Cx) (s : Shared) (a : Addr) (ks : List D) (vvs : List V) (l : List (Key × V)) (vs : List (Key × Value)) : Prop where
  at_ : s.heap.DictOf (mixKind X.prog X.w) a vs
  rel : KV l vs
  ks : l.map (fun p => kD p.1) = ks
  vvs : l.map (·.2) = vvs
  sys : (a == sysModules) = false
  len : l.length ≤ sizeLine
theorem kD_inj {a b : Key} (e : kD a = kD b) : a = b := by
  cases a <;> cases b <;> simp [kD] at e
  · rw [e]
  · rw [e]
theorem kHash_kD (P : Program) (w : World) (k : Key) : kHash w (kD k) = (mixKind P w).hash k := by
  cases k <;> rfl
theorem scal_of {G : Kx} {as : List Addr} {H : Hp} {q : D} {v : V} (h : EV.scal q = true) (r : RV G as H v q) : ∃ k : Key, q = kD k ∧ v = kV k := by
  cases r <;> simp [EV.scal] at h
  · exact ⟨.inl _, rfl, rfl⟩
  · exact ⟨.inr _, rfl, rfl⟩
theorem sca_raw {P : Program} {w : World} {G : Kx} {as : List Addr} {H : Hp} : ∀ {raw : List (D × V × V)} {es : List DictEntry}, Paired (fun (r : D × V × V) (e : DictEntry) => e.hash = kHash w r.1 ∧ RelV r.2.1 e.key ∧ RelV r.2.2 e.val) raw es → RVs G as H (raw.map (·.2.1)) (raw.map (·.1)) → (∀ d ∈ raw.map (·.1), EV.scal d = true) →
    ∃ (l : List (Key × V)) (vs : List (Key × Value)), KV l vs ∧ l.map (fun p => kD p.1) = raw.map (·.1) ∧ l.map (·.2) = raw.map (·.2.2) ∧ Pairs (mixKind P w) es vs ∧ (∀ e ∈ es, ∃ k, (mixKind P w).is k e.key = true ∧ e.hash = (mixKind P w).hash k)
  | _, _, .nil, _, _ => ⟨[], [], .nil, rfl, rfl, .nil, fun e h => nomatch h⟩
  | _, _, @Paired.cons _ _ _ r e rs es h t, rk, hs => by
    obtain ⟨h1, h2, h3⟩ := h
    rw [List.map_cons, List.map_cons] at rk
    cases rk with
    | cons r1 r2 =>
      obtain ⟨l, vs, kv, e1, e2, pr, hk⟩ := sca_raw (P := P) t r2 fun d hd => hs d (List.mem_cons_of_mem _ hd)
      obtain ⟨k, ek, ev⟩ := scal_of (hs r.1 (by simp)) r1
      rw [ev] at h2
      refine ⟨(k, r.2.2) :: l, (k, e.val) :: vs, .cons ⟨rfl, h3⟩ kv, by simp [e1, ek], by simp [e2], .cons (kV_is h2) rfl pr, fun x hx => ?_⟩
      rcases List.mem_cons.mp hx with q | q
      · subst q
        exact ⟨k, kV_is h2, by rw [h1, ek, kHash_kD P]⟩
      · exact hk x q
theorem nodup_kD : ∀ {l : List (Key × V)}, (l.map (fun p => kD p.1)).Nodup → (l.map (·.1)).Nodup
  | [], _ => List.nodup_nil
  | x :: l, h => by
    simp only [List.map_cons, List.nodup_cons] at h ⊢
    refine ⟨fun z => h.1 ?_, nodup_kD h.2⟩
    obtain ⟨y, hy, e⟩ := List.mem_map.mp z
    exact List.mem_map.mpr ⟨y, hy, by rw [e]⟩
theorem dict_scal {ks : List D} {kvs vvs : List V} (I : Inv X pins σ H s) (d : DictAt (gx X T) H a ks kvs vvs) (rk : RVs (gx X T) as H kvs ks) (hk : ks.head?.all EV.scal = true) : ∃ l vs, Sca X s a ks vvs l vs := by
  obtain ⟨ep, raw, e, rfl, rfl, rfl, nd, hkey, hl, hs⟩ := d
  have hkey : ∀ d ∈ raw.map (·.1), EV.scal d = true := by
    rcases hkey with h | h
    · exact h
    · intro d hd
      cases raw with
      | nil => exact nomatch hd
      | cons y ys =>
        have := h y.1 (by simp)
        simp at hk
        exact (scal_deep hk this).elim
  obtain ⟨⟨o, es, h1, h2, h3, h4⟩, _⟩ := (show ObjOk X.prog X.w H s.heap a (dictO X.w a ep raw) from I.hok a _ e)
  obtain ⟨l, vs, kv, e1, e2, pr, hk⟩ := sca_raw (P := X.prog) h4 rk hkey
  refine ⟨l, vs, ⟨o, es, ep, h1, h2, h3, fun e he => hk e (Array.mem_toList_iff.mpr he), pr, ?_⟩, kv, e1, e2, hs, ?_⟩
  · have q := kv.keys
    rw [← q]
    exact nodup_kD (by rw [e1]; exact nd)
  · have := congrArg List.length e1
    simp at this
    omega
end
end EV

set_option Elab.async false
set_option linter.all false
set_option autoImplicit false
set_option maxRecDepth 100000
set_option maxHeartbeats 4000000
namespace EV
open PySem PySem.Spec PyProof.Rows L2
section
variable {G : Kx} {as : List Addr} {H : Hp}
theorem beqK {x k : D} : (D.beq x k = true) ↔ x = k := D.beq_iff
theorem find_deep (k : D) : ∀ {xs : List (D × Addr × Value)} {vvs : List V} {ws : List D}, Vals vvs (xs.map (·.2.2)) → RVs G as H vvs ws →
    (∀ d, dfind k (xs.map (·.1)) ws = some d → ∃ p v, atKey xs k = some p ∧ RelV v p.2 ∧ RV G as H v d) ∧ (dfind k (xs.map (·.1)) ws = none → atKey xs k = none)
  | [], _, _, _, _ => ⟨fun d h => by simp [dfind] at h, fun _ => rfl⟩
  | (x, b, u) :: xs, vvs, ws, hv, hr => by
    rw [List.map_cons] at hv
    cases hv with
    | @cons v _ vs _ r t =>
      cases hr with
      | @cons _ _ d ds r1 r2 =>
        obtain ⟨i1, i2⟩ := find_deep k t r2
        simp only [List.map_cons, dfind]
        by_cases e : x = k
        · subst e
          rw [if_pos (D.beq_refl x)]
          exact ⟨fun d' h => by cases h; exact ⟨(b, u), v, by simp [atKey], r, r1⟩, fun h => nomatch h⟩
        · rw [if_neg (fun q => e (D.beq_eq q))]
          have q : atKey ((x, b, u) :: xs) k = atKey xs k := by simp [atKey, List.find?_cons, e]
          rw [q]
          exact ⟨i1, i2⟩
theorem find_scal (k : Key) : ∀ {l : List (Key × V)} {ws : List D}, RVs G as H (l.map (·.2)) ws →
    (∀ d, dfind (kD k) (l.map (fun p => kD p.1)) ws = some d → ∃ v, valV l k = some v ∧ RV G as H v d) ∧ (dfind (kD k) (l.map (fun p => kD p.1)) ws = none → valV l k = none)
  | [], _, _ => ⟨fun d h => by simp [dfind] at h, fun _ => rfl⟩
  | (x, u) :: l, ws, hr => by
    rw [List.map_cons] at hr
    cases hr with
    | @cons _ _ d ds r1 r2 =>
      obtain ⟨i1, i2⟩ := find_scal k r2
      simp only [List.map_cons, dfind]
      by_cases e : x = k
      · subst e
        rw [if_pos (D.beq_refl _), valV_pos rfl]
        exact ⟨fun d' h => by cases h; exact ⟨u, rfl, r1⟩, fun h => nomatch h⟩
      · rw [if_neg (fun q => e (kD_inj (D.beq_eq q))), valV_neg e]
        exact ⟨i1, i2⟩
theorem scal_key {q : D} {v : V} (h : EV.scal q = true) (r : RV G as H v q) : ∃ k : Key, q = kD k ∧ v = kV k := scal_of h r
theorem deep_key {q : D} {v : V} (h : deepK q = true) (r : RV G as H v q) : ∃ a, v = .ref a := by
  cases r <;> simp [deepK] at h
  exact ⟨_, rfl⟩
end
theorem kok_cases {ks : List D} {q : D} (h : kok ks q = true) : (EV.scal q = true ∧ ks.head?.all EV.scal = true) ∨ (deepK q = true ∧ ks.head?.all (fun k => !EV.scal k) = true) := by
  cases ks with
  | nil => simp [kok] at h; rcases h with h | h <;> simp [h]
  | cons k ks =>
    simp only [kok] at h
    by_cases e : EV.scal k = true
    · rw [if_pos e] at h; exact .inl ⟨h, by simp [e]⟩
    · rw [if_neg e] at h; exact .inr ⟨h, by simp [e]⟩
section
variable {X : Cx} {T : Tb} {pins : List (Addr × Obj)} {σ : L2.St} {H : Hp} {s : Shared} {as : List Addr} {a : Addr} {ks ws : List D} {kvs vvs : List V} {q : D} {v : V} {u : Value}
theorem Rm.deep (hu : Rm X) : (deepKind X.prog X.w).room X.A.in1 := by
  show X.A.units + 1 + 8 < cLine
  unfold Rm at hu
  omega
/-- d[q], there -/
theorem e_getItem {d : D} {Q : Value → Shared → Prop} (hu : Rm X) (I : Inv X pins σ H s) (da : DictAt (gx X T) H a ks kvs vvs) (rk : RVs (gx X T) as H kvs ks) (rw_ : RVs (gx X T) as H vvs ws) (hk : kok ks q = true) (rq : RV (gx X T) as H v q) (ru : RelV v u) (hf : dfind q ks ws = some d)
    (h : ∀ w' z s', Inv X pins σ H s' → RelV z w' → RV (gx X T) as H z d → Q w' s') : wpAny (model X.prog X.w) X.A (getItem (.ref a) u) Q X.xe s := by
  rcases kok_cases hk with ⟨h1, h2⟩ | ⟨h1, h2⟩
  · obtain ⟨l, vs, S⟩ := dict_scal I da rk h2
    obtain ⟨k, rfl, rfl⟩ := scal_key h1 rq
    obtain ⟨f1, _⟩ := find_scal k (show RVs (gx X T) as H (l.map (·.2)) ws by rw [S.vvs]; exact rw_)
    rw [S.ks] at f1
    obtain ⟨z, e, rz⟩ := f1 d hf
    obtain ⟨w', hw, rw'⟩ := RelO.some_of (v := z) (o := valueAt vs k) (by rw [← e]; exact S.rel.val k)
    exact wpAny_getItem_of (kV_is ru) S.at_.mapOf hw (h w' z _ (I.tok _) rw' rz)
  · obtain ⟨xs, S⟩ := dict_deep I da rk h2
    obtain ⟨b, rfl⟩ := deep_key h1 rq
    cases ru
    have kk := deepK_iff h1
    obtain ⟨f1, _⟩ := find_deep q S.vvs rw_
    rw [S.ks] at f1
    obtain ⟨p, z, e, r1, rz⟩ := f1 d hf
    exact wpAny_getItem_heap hu.deep ⟨rq.keyAt I kk.1 rfl, kk.2.1⟩ S.at_ e (h p.2 z _ (I.tok _) r1 rz)
theorem e_in {Q : Value → Shared → Prop} (hu : Rm X) (I : Inv X pins σ H s) (da : DictAt (gx X T) H a ks kvs vvs) (rk : RVs (gx X T) as H kvs ks) (rw_ : RVs (gx X T) as H vvs ws) (hk : kok ks q = true) (rq : RV (gx X T) as H v q) (ru : RelV v u)
    (h : ∀ s', Inv X pins σ H s' → Q (.bool (dfind q ks ws).isSome) s') : wpAny (model X.prog X.w) X.A (compareOp .In u (.ref a)) Q X.xe s := by
  rcases kok_cases hk with ⟨h1, h2⟩ | ⟨h1, h2⟩
  · obtain ⟨l, vs, S⟩ := dict_scal I da rk h2
    obtain ⟨k, rfl, rfl⟩ := scal_key h1 rq
    obtain ⟨f1, f2⟩ := find_scal k (show RVs (gx X T) as H (l.map (·.2)) ws by rw [S.vvs]; exact rw_)
    rw [S.ks] at f1 f2
    refine wpAny_in_of (kV_is ru) S.sys S.at_.mapOf ?_
    rw [← (S.rel.val k).isSome_eq]
    have e : (valV l k).isSome = (dfind (kD k) ks ws).isSome := by
      cases hf : dfind (kD k) ks ws with
      | none => rw [f2 hf]; rfl
      | some d => obtain ⟨z, e, _⟩ := f1 d hf; rw [e]; rfl
    rw [e]
    exact h _ (I.tok _)
  · obtain ⟨xs, S⟩ := dict_deep I da rk h2
    obtain ⟨b, rfl⟩ := deep_key h1 rq
    cases ru
    have kk := deepK_iff h1
    obtain ⟨f1, f2⟩ := find_deep q S.vvs rw_
    rw [S.ks] at f1 f2
    refine wpAny_in_heap hu.deep ⟨rq.keyAt I kk.1 rfl, kk.2.1⟩ S.sys S.at_ ?_
    have e : (atKey xs q).isSome = (dfind q ks ws).isSome := by
      cases hf : dfind q ks ws with
      | none => rw [f2 hf]; rfl
      | some d => obtain ⟨p, z, e, _⟩ := f1 d hf; rw [e]; rfl
    rw [e]
    exact h _ (I.tok _)
theorem e_notIn {Q : Value → Shared → Prop} (hu : Rm X) (I : Inv X pins σ H s) (da : DictAt (gx X T) H a ks kvs vvs) (rk : RVs (gx X T) as H kvs ks) (rw_ : RVs (gx X T) as H vvs ws) (hk : kok ks q = true) (rq : RV (gx X T) as H v q) (ru : RelV v u)
    (h : ∀ s', Inv X pins σ H s' → Q (.bool (!(dfind q ks ws).isSome)) s') : wpAny (model X.prog X.w) X.A (compareOp .NotIn u (.ref a)) Q X.xe s := by
  rcases kok_cases hk with ⟨h1, h2⟩ | ⟨h1, h2⟩
  · obtain ⟨l, vs, S⟩ := dict_scal I da rk h2
    obtain ⟨k, rfl, rfl⟩ := scal_key h1 rq
    obtain ⟨f1, f2⟩ := find_scal k (show RVs (gx X T) as H (l.map (·.2)) ws by rw [S.vvs]; exact rw_)
    rw [S.ks] at f1 f2
    refine wpAny_notIn_of (kV_is ru) S.sys S.at_.mapOf ?_
    rw [← (S.rel.val k).isSome_eq]
    have e : (valV l k).isSome = (dfind (kD k) ks ws).isSome := by
      cases hf : dfind (kD k) ks ws with
      | none => rw [f2 hf]; rfl
      | some d => obtain ⟨z, e, _⟩ := f1 d hf; rw [e]; rfl
    rw [e]
    exact h _ (I.tok _)
  · obtain ⟨xs, S⟩ := dict_deep I da rk h2
    obtain ⟨b, rfl⟩ := deep_key h1 rq
    cases ru
    have kk := deepK_iff h1
    obtain ⟨f1, f2⟩ := find_deep q S.vvs rw_
    rw [S.ks] at f1 f2
    refine wpAny_notIn_heap hu.deep ⟨rq.keyAt I kk.1 rfl, kk.2.1⟩ S.sys S.at_ ?_
    have e : (atKey xs q).isSome = (dfind q ks ws).isSome := by
      cases hf : dfind q ks ws with
      | none => rw [f2 hf]; rfl
      | some d => obtain ⟨p, z, e, _⟩ := f1 d hf; rw [e]; rfl
    rw [e]
    exact h _ (I.tok _)
end
/-! ### in, not in; subscripts -/
def dIn (x y : D) (M : Mem) : Res D :=
  match y with
  | .tup ys => if plain x && plainL ys && nle (dep x) 64 then .ok (.bl (ys.any fun z => deq z x)) M else .bad
  | .str t => match x with
    | .str i => .ok (.bl (!(Builtin.Str.occurrences t i 0 t.length 1).isEmpty)) M
    | _ => .bad
  | y => match asD M y with
    | some (ks, ws) => if kok ks x then .ok (.bl (dfind x ks ws).isSome) M else .bad
    | none => match asL M y with
      | some ys => if plain x && plainL ys && nle (dep x) 64 then .ok (.bl (ys.any fun z => deq z x)) M else .bad
      | none => .bad
def dNot (r : Res D) : Res D :=
  match r with
  | .ok (.bl b) M => .ok (.bl (!b)) M
  | _ => .bad
def dNotIn (x y : D) (M : Mem) : Res D := dNot (dIn x y M)
section
variable {X : Cx} {T : Tb}
theorem any_eqv : ∀ {ys : List D} {ps : List PyData} {x : D} {p : PyData}, pdL ys = some ps → pd x = some p → (ps.any fun z => PyData.eqv z p) = ys.any fun z => deq z x
  | [], ps, x, p, h, _ => by simp [pdL] at h; subst h; rfl
  | y :: ys, ps, x, p, h, hx => by
    simp only [pdL] at h
    split at h
    · rename_i e1 e2
      cases h
      simp only [List.any_cons, deq_eqv e1 hx, any_eqv e2 hx]
    · cases h
theorem reads_pl {pins : List (Addr × Obj)} {s : Shared} {σ : L2.St} {H : Hp} {as : List Addr} {x : D} {v : V} {u : Value} (I : Inv X pins σ H s) (q : RV (gx X T) as H v x) (ru : RelV v u) (hp : plain x = true) :
    ∃ p bs, pd x = some p ∧ Reads s.heap u p bs ∧ p.canLay0 = true := by
  obtain ⟨p, e⟩ := plain_pd hp
  obtain ⟨d, c⟩ := q.dp e
  obtain ⟨bs, h⟩ := Dp.reads I p v u d ru
  exact ⟨p, bs, e, h, c⟩
theorem reads_tup {pins : List (Addr × Obj)} {s : Shared} {σ : L2.St} {H : Hp} {as : List Addr} {ys : List D} {v : V} {u : Value} (I : Inv X pins σ H s) (q : RV (gx X T) as H v (.tup ys)) (ru : RelV v u) (hp : plainL ys = true) :
    ∃ ps bs, pdL ys = some ps ∧ Reads s.heap u (.tuple ps) bs ∧ PyData.canLayAll0 ps = true := by
  obtain ⟨p, bs, e, h, c⟩ := reads_pl I q ru (by simpa [plain] using hp)
  simp [pd] at e
  obtain ⟨ps, e, rfl⟩ := e
  exact ⟨ps, bs, e, h, by simpa [PyData.canLay0] using c⟩
theorem reads_lst {pins : List (Addr × Obj)} {s : Shared} {σ : L2.St} {H : Hp} {as : List Addr} {M : Mem} {y : D} {ys : List D} {v : V} {u : Value} (I : Inv X pins σ H s) (r : Rel (gx X T) as M H) (q : RV (gx X T) as H v y) (ru : RelV v u) (hl : asL M y = some ys) (hp : plainL ys = true) :
    ∃ ps bs, pdL ys = some ps ∧ Reads s.heap u (.list ps) bs ∧ PyData.canLayAll0 ps = true := by
  obtain ⟨a, vs, rfl, h1, h2⟩ := asL_ok r q hl
  obtain ⟨ps, e⟩ := plainL_pd hp
  obtain ⟨d, c⟩ := h2.dp e
  obtain ⟨bs, h⟩ := Dp.reads I (.list ps) (.ref a) u (.lst (.inl (.inl h1)) d) ru
  exact ⟨ps, bs, e, h, c⟩
theorem room_in {x : D} {p : PyData} {n : Nat} (hu : Rm X) (e : pd x = some p) (h : nle (dep x) 64 = true) : X.A.units + 1 + min n p.depth < cLine := by
  have := nle_iff.mp h
  have := Nat.min_le_right n p.depth
  have := dep_pd e
  unfold Rm at hu
  omega
theorem op_dIn (hu : Rm X) : OpD X T (compareOp .In) dIn := by
  intro pins s σ H as M x y v w u z Q W σ₀ I r rx ry ru rz h
  unfold dIn at h
  split at h
  · split at h
    · rename_i ys hc
      simp only [Bool.and_eq_true] at hc
      obtain ⟨p, bs, e, h1, c1⟩ := reads_pl I rx ru hc.1.1
      obtain ⟨ps, cs, e2, h2, c2⟩ := reads_tup I ry rz hc.1.2
      refine SeqAt.in_tuple_reads h2 h1 c2 c1 (room_in hu e hc.2) ?_
      rw [any_eqv e2 e]
      exact ⟨.bl _, H, I, rfl, h.fin r (.bl _)⟩
    · exact h.elim
  · split at h
    · cases rx; cases ry
      exact op_in_str pins s σ H _ _ u z Q I ru rz ⟨_, _, rfl, rfl, h.fin r (.bl _)⟩
    · exact h.elim
  · split at h
    · rename_i ks ws e
      split at h
      · rename_i hk
        obtain ⟨a, kvs, vvs, rfl, d1, d2, d3⟩ := asD_ok r ry e
        cases rz
        exact e_in hu I d1 d2 d3 hk rx ru fun s' I' => ⟨.bl _, H, I', rfl, h.fin r (.bl _)⟩
      · exact h.elim
    · split at h
      · rename_i ys e
        split at h
        · rename_i hc
          simp only [Bool.and_eq_true] at hc
          obtain ⟨p, bs, e1, h1, c1⟩ := reads_pl I rx ru hc.1.1
          obtain ⟨ps, cs, e2, h2, c2⟩ := reads_lst I r ry rz e hc.1.2
          refine SeqAt.in_list_reads h2 h1 c2 c1 (room_in hu e1 hc.2) ?_
          rw [any_eqv e2 e1]
          exact ⟨.bl _, H, I, rfl, h.fin r (.bl _)⟩
        · exact h.elim
      · exact h.elim
theorem op_dNotIn (hu : Rm X) : OpD X T (compareOp .NotIn) dNotIn := by
  intro pins s σ H as M x y v w u z Q W σ₀ I r rx ry ru rz h
  unfold dNotIn dIn at h
  split at h
  · split at h
    · rename_i ys hc
      simp only [Bool.and_eq_true] at hc
      obtain ⟨p, bs, e, h1, c1⟩ := reads_pl I rx ru hc.1.1
      obtain ⟨ps, cs, e2, h2, c2⟩ := reads_tup I ry rz hc.1.2
      refine SeqAt.notIn_tuple_reads h2 h1 c2 c1 (room_in hu e hc.2) ?_
      rw [any_eqv e2 e]
      exact ⟨.bl _, H, I, rfl, PostE.fin r h (.bl _)⟩
    · exact h.elim
  · split at h
    · cases rx; cases ry
      exact op_notin_str pins s σ H _ _ u z Q I ru rz ⟨_, _, rfl, rfl, PostE.fin r h (.bl _)⟩
    · exact h.elim
  · split at h
    · rename_i ks ws e
      split at h
      · rename_i hk
        obtain ⟨a, kvs, vvs, rfl, d1, d2, d3⟩ := asD_ok r ry e
        cases rz
        exact e_notIn hu I d1 d2 d3 hk rx ru fun s' I' => ⟨.bl _, H, I', rfl, PostE.fin r h (.bl _)⟩
      · exact h.elim
    · split at h
      · rename_i ys e
        split at h
        · rename_i hc
          simp only [Bool.and_eq_true] at hc
          obtain ⟨p, bs, e1, h1, c1⟩ := reads_pl I rx ru hc.1.1
          obtain ⟨ps, cs, e2, h2, c2⟩ := reads_lst I r ry rz e hc.1.2
          refine SeqAt.notIn_list_reads h2 h1 c2 c1 (room_in hu e1 hc.2) ?_
          rw [any_eqv e2 e1]
          exact ⟨.bl _, H, I, rfl, PostE.fin r h (.bl _)⟩
        · exact h.elim
      · exact h.elim
end
end EV

set_option Elab.async false
set_option linter.all false
set_option autoImplicit false
set_option maxRecDepth 100000
set_option maxHeartbeats 4000000
namespace EV
open PySem PySem.Spec PyProof.Rows L2
/-! ### < <= > >=, is None -/
def dLt (x y : D) (M : Mem) : Res D :=
  match x, y with
  | .int i, .int j => .ok (.bl (decide (i < j))) M
  | x, y => if plain x && plain y && nle (dep x) 64 then (match dlt x y with | some b => .ok (.bl b) M | none => .bad) else .bad
def dLe (x y : D) (M : Mem) : Res D :=
  match x, y with
  | .int i, .int j => .ok (.bl (decide (i ≤ j))) M
  | _, _ => .bad
def dGt (x y : D) (M : Mem) : Res D :=
  match x, y with
  | .int i, .int j => .ok (.bl (decide (j < i))) M
  | _, _ => .bad
def dGe (x y : D) (M : Mem) : Res D :=
  match x, y with
  | .int i, .int j => .ok (.bl (decide (j ≤ i))) M
  | _, _ => .bad
def isNon : D → Bool
  | .non => true
  | _ => false
def dIs (x y : D) (M : Mem) : Res D := if isNon y then .ok (.bl (isNon x)) M else .bad
def dIsNot (x y : D) (M : Mem) : Res D := if isNon y then .ok (.bl (!isNon x)) M else .bad
def dNeg (x : D) (M : Mem) : Res D :=
  match x with
  | .int i => .ok (.int (-i)) M
  | _ => .bad
section
variable {X : Cx} {T : Tb}
theorem op_dLt (hu : Rm X) : OpD X T (compareOp .Lt) dLt := by
  intro pins s σ H as M x y v w u z Q W σ₀ I r rx ry ru rz h
  unfold dLt at h
  split at h
  · cases rx; cases ry
    exact op_lt pins s σ H _ _ u z Q I ru rz ⟨_, _, rfl, rfl, h.fin r (.bl _)⟩
  · split at h
    · rename_i hc
      simp only [Bool.and_eq_true] at hc
      split at h
      · rename_i b hb
        obtain ⟨p, bs, e1, h1, c1⟩ := reads_pl I rx ru hc.1.1
        obtain ⟨q, cs, e2, h2, c2⟩ := reads_pl I ry rz hc.1.2
        exact lt_ok _ _ p q u z bs cs b X.A s e1 e2 h1 h2 c1 c2 (by have := nle_iff.mp hc.2; unfold Rm at hu; omega) hb X.prog X.w X.xe _ ⟨.bl b, H, I, rfl, h.fin r (.bl b)⟩
      · exact h.elim
    · exact h.elim
theorem op_dLe : OpD X T (compareOp .LtE) dLe := by
  intro pins s σ H as M x y v w u z Q W σ₀ I r rx ry ru rz h
  unfold dLe at h
  split at h
  · cases rx; cases ry
    exact op_le pins s σ H _ _ u z Q I ru rz ⟨_, _, rfl, rfl, h.fin r (.bl _)⟩
  · exact h.elim
theorem op_dGt : OpD X T (compareOp .Gt) dGt := by
  intro pins s σ H as M x y v w u z Q W σ₀ I r rx ry ru rz h
  unfold dGt at h
  split at h
  · cases rx; cases ry
    exact op_gt pins s σ H _ _ u z Q I ru rz ⟨_, _, rfl, rfl, h.fin r (.bl _)⟩
  · exact h.elim
theorem op_dGe : OpD X T (compareOp .GtE) dGe := by
  intro pins s σ H as M x y v w u z Q W σ₀ I r rx ry ru rz h
  unfold dGe at h
  split at h
  · cases rx; cases ry
    exact op_ge pins s σ H _ _ u z Q I ru rz ⟨_, _, rfl, rfl, h.fin r (.bl _)⟩
  · exact h.elim
theorem isNon_ok {G : Kx} {as : List Addr} {H : Hp} {v : V} {d : D} (r : RV G as H v d) : decide (v = .non) = isNon d := by
  cases r <;> simp [isNon]
theorem op_dIs : OpD X T (compareOp .Is) dIs := by
  intro pins s σ H as M x y v w u z Q W σ₀ I r rx ry ru rz h
  unfold dIs at h
  split at h
  · rename_i hc
    have e : w = .non := by have := isNon_ok ry; rw [hc] at this; exact of_decide_eq_true this
    subst e
    refine op_isN pins s σ H _ _ u z Q I ru rz ⟨rfl, ?_⟩
    rw [isNon_ok rx]
    exact h.fin r (.bl _)
  · exact h.elim
theorem op_dIsNot : OpD X T (compareOp .IsNot) dIsNot := by
  intro pins s σ H as M x y v w u z Q W σ₀ I r rx ry ru rz h
  unfold dIsNot at h
  split at h
  · rename_i hc
    have e : w = .non := by have := isNon_ok ry; rw [hc] at this; exact of_decide_eq_true this
    subst e
    refine op_notN pins s σ H _ _ u z Q I ru rz ⟨rfl, ?_⟩
    rw [isNon_ok rx]
    exact h.fin r (.bl _)
  · exact h.elim
theorem un_dNeg : UnD X T (unaryOp .USub) dNeg := by
  intro pins s σ H as M x v u Q W I r rx ru h
  unfold dNeg at h
  split at h
  · cases rx
    exact un_neg pins s σ H _ u Q I ru ⟨_, rfl, h.fin r (.int _)⟩
  · exact h.elim
end

/-! ### tests -/
def Res.bool (r : Res D) : Res Bool :=
  match r with
  | .ok (.bl b) M => .ok b M
  | .exc c fs M => .exc c fs M
  | _ => .bad
/-- a value as a test: a bool -/
def xB (t : Ex) : Tx := fun e M => (t e M).bool
/-- a test as a value -/
def eB (t : Tx) : Ex := fun e M => (t e M).bind fun b M1 => .ok (.bl b) M1
def xNot (t : Tx) : Tx := fun e M => (t e M).bind fun b M1 => .ok (!b) M1
def xAnd (t u : Tx) : Tx := fun e M => (t e M).bind fun b M1 => if b then u e M1 else .ok false M1
def xOr (t u : Tx) : Tx := fun e M => (t e M).bind fun b M1 => if b then .ok true M1 else u e M1
def eAnd (t u : Ex) : Ex := fun e M => ((t e M).bool).bind fun b M1 => if b then u e M1 else .ok (.bl false) M1
def eOr (t u : Ex) : Ex := fun e M => ((t e M).bool).bind fun b M1 => if b then .ok (.bl true) M1 else u e M1
def eNot (t : Ex) : Ex := fun e M => ((t e M).bool).bind fun b M1 => .ok (.bl (!b)) M1
def eIf (c : Tx) (t u : Ex) : Ex := fun e M => (c e M).bind fun b M1 => if b then t e M1 else u e M1
section
variable {X : Cx} {T : Tb} {W : WX} {pos : Pos} {a b c : Expr} {ta tb tc : Ex} {xa xb : Tx} {rest : List Expr}
theorem post_bool {G : Kx} {σ : L2.St} {as : List Addr} {M : Mem} {H : Hp} {Q : Bool → Hp → Prop} {r : Res D} (h : PostT G W σ as M H Q r.bool) : PostE G W σ as M H (fun v H1 => ∃ k, v = .bl k ∧ Q k H1) r := by
  cases r with
  | ok d M' =>
    cases d <;> try exact h.elim
    exact fun as' H' v s r rv => by cases rv; exact ⟨_, rfl, h as' H' s r⟩
  | exc c fs M' => exact h
  | bad => exact h
theorem tE_bool {σ : L2.St} {H : Hp} {Q : Bool → Hp → Prop} (h : tT (gx X T) W (xB ta) σ H Q) : tE (gx X T) W ta σ H (fun v H1 => ∃ k, v = .bl k ∧ Q k H1) := by
  obtain ⟨as, M, e, r, q, h⟩ := h
  exact ⟨as, M, e, r, q, post_bool h⟩
/-- any expression with a bool as its value, as a test -/
theorem st_val (ha : SE X T W a ta) (he : ∀ whole, isTrue a X.env whole = (do let v ← whole; standAt a.pos; holding [v] (truthy v)) := by intro _; rfl) : ST X T W a (xB ta) :=
  (pt_val ha he).weak fun σ H Q h => tE_bool h
theorem st_cmp {op : CmpOp} {g : D → D → Mem → Res D} (ho : OpD X T (compareOp op) g) (ha : SE X T W a ta) (hb : SE X T W b tb) (hm : behindInMarks op b = false := by first | exact nomark _ | rfl) : ST X T W (.Compare a [op] [b] pos) (xB (eOp g ta tb)) := by
  refine ⟨fun pins s σ H Q I h => ?_⟩
  refine wpAny_isTrue_Compare1 (thn (opd_bin ho ha hb I (tE_bool h)) fun v s1 h1 => thn h1 fun u s2 h2 => thn h2 fun d s3 ⟨x, H3, I3, r3, k, e, q⟩ => ?_) hm
  subst e
  cases r3
  exact wpAny_truthy_bool ⟨H3, I3, q⟩
theorem st_not (ha : ST X T W a xa) : ST X T W (.UnaryOp .Not a pos) (xNot xa) :=
  (pt_not ha).weak fun σ H Q ⟨as, M, e, r, q, h⟩ => bindTT r q h fun d as1 M1 H1 r1 q1 s1 h1 => h1 as1 H1 Stp.refl r1
theorem sw_and1 (ha : ST X T W a xa) : SW X T W (.BoolOp .And [a] pos) xa := pw_and1 ha
theorem sw_or1 (ha : ST X T W a xa) : SW X T W (.BoolOp .Or [a] pos) xa := pw_or1 ha
theorem sw_and (ha : ST X T W a xa) (hb : SW X T W (.BoolOp .And (b :: rest) pos) xb) : SW X T W (.BoolOp .And (a :: b :: rest) pos) (xAnd xa xb) :=
  (pw_and ha hb).weak fun σ H Q ⟨as, M, e, r, q, h⟩ => bindTT r q h fun d as1 M1 H1 r1 q1 s1 h1 => by
    cases d with
    | true => exact ⟨as1, M1, e, r1, q1, h1⟩
    | false => exact h1 as1 H1 Stp.refl r1
theorem sw_or (ha : ST X T W a xa) (hb : SW X T W (.BoolOp .Or (b :: rest) pos) xb) : SW X T W (.BoolOp .Or (a :: b :: rest) pos) (xOr xa xb) :=
  (pw_or ha hb).weak fun σ H Q ⟨as, M, e, r, q, h⟩ => bindTT r q h fun d as1 M1 H1 r1 q1 s1 h1 => by
    cases d with
    | true => exact h1 as1 H1 Stp.refl r1
    | false => exact ⟨as1, M1, e, r1, q1, h1⟩
theorem sw_t (h : SW X T W a xa) : ST X T W a xa := h.pt
/-- .. as values -/
theorem se_one {op : BoolOp} (h : SE X T W a ta) : SE X T W (.BoolOp op [a] pos) ta := pe_one h
theorem bindB {G : Kx} {σ : L2.St} {as : List Addr} {M : Mem} {H : Hp} {Q R : VK} {t : Ex} {k : Bool → Mem → Res D} {e : Sl} (r : Rel G as M H) (q : RSl G as H σ e) (h : PostE G W σ as M H Q ((t e M).bool.bind k))
    (hk : ∀ d as' M' H', Rel G as' M' H' → RSl G as' H' σ e → Stp as M H as' M' H' → PostE G W σ as' M' H' Q (k d M') → R (.bl d) H') : tE G W t σ H R := by
  refine ⟨as, M, e, r, q, ?_⟩
  cases ht : t e M with
  | ok d M' =>
    rw [ht] at h
    cases d <;> try exact h.elim
    exact fun a b v s r' rv => by cases rv; exact hk _ a M' b r' (q.step r s) s (h.re s)
  | exc c fs M' => rw [ht] at h; exact h
  | bad => rw [ht] at h; exact h
theorem se_and (ha : SE X T W a ta) (hb : SE X T W (.BoolOp .And (b :: rest) pos) tb) : SE X T W (.BoolOp .And (a :: b :: rest) pos) (eAnd ta tb) :=
  (pe_and ha hb).weak fun σ H Q ⟨as, M, e, r, q, h⟩ => bindB r q h fun d as1 M1 H1 r1 q1 s1 h1 => ⟨d, rfl, by
    cases d with
    | true => exact ⟨as1, M1, e, r1, q1, h1⟩
    | false => exact h1.fin r1 (.bl false)⟩
theorem se_or (ha : SE X T W a ta) (hb : SE X T W (.BoolOp .Or (b :: rest) pos) tb) : SE X T W (.BoolOp .Or (a :: b :: rest) pos) (eOr ta tb) :=
  (pe_or ha hb).weak fun σ H Q ⟨as, M, e, r, q, h⟩ => bindB r q h fun d as1 M1 H1 r1 q1 s1 h1 => ⟨d, rfl, by
    cases d with
    | true => exact h1.fin r1 (.bl true)
    | false => exact ⟨as1, M1, e, r1, q1, h1⟩⟩
theorem se_not (ha : SE X T W a ta) : SE X T W (.UnaryOp .Not a pos) (eNot ta) :=
  (pe_not ha).weak fun σ H Q ⟨as, M, e, r, q, h⟩ => bindB r q h fun d as1 M1 H1 r1 q1 s1 h1 => ⟨d, rfl, h1.fin r1 (.bl _)⟩
theorem se_if (hc : ST X T W c xa) (ha : SE X T W a ta) (hb : SE X T W b tb) : SE X T W (.IfExp c a b pos) (eIf xa ta tb) :=
  (pe_ifExp hc ha hb).weak fun σ H Q ⟨as, M, e, r, q, h⟩ => bindTE r q h fun d as1 M1 H1 r1 q1 s1 h1 => by
    cases d with
    | true => exact ⟨as1, M1, e, r1, q1, h1⟩
    | false => exact ⟨as1, M1, e, r1, q1, h1⟩
/-- a op1 b op2 c -/
def eChain (g g' : D → D → Mem → Res D) (ta tb tc : Ex) : Ex := fun e M => (ta e M).bind fun x M1 => (tb e M1).bind fun y M2 => (g x y M2).bool.bind fun k M3 => if k then (tc e M3).bind fun z M4 => g' y z M4 else .ok (.bl false) M3
/-- an operator's rule, read off OpD -/
def rD (X : Cx) (T : Tb) (W : WX) (σ : L2.St) (g : D → D → Mem → Res D) : R2 := fun v w H Q => ∃ as M x y, Rel (gx X T) as M H ∧ RV (gx X T) as H v x ∧ RV (gx X T) as H w y ∧ PostE (gx X T) W σ as M H Q (g x y M)
theorem opr_of {σ₀ : L2.St} {f : Value → Value → Sem Value} {g : D → D → Mem → Res D} (ho : OpD X T f g) {pins : List (Addr × Obj)} {s : Shared} {σ : L2.St} {H : Hp} {v w : V} {u z : Value} {Q : VK} (I : Inv X pins σ H s) (ru : RelV v u) (rz : RelV w z) (h : rD X T W σ₀ g v w H Q) :
    wpAny (model X.prog X.w) X.A (f u z) (EP X pins σ Q) X.xe s := by
  obtain ⟨as, M, x, y, r, rx, ry, h⟩ := h
  exact ho pins s σ H as M x y v w u z Q W σ₀ I r rx ry ru rz h
theorem chain_read {g g' : D → D → Mem → Res D} {σ : L2.St} {H : Hp} {Q : VK} (h : tE (gx X T) W (eChain g g' ta tb tc) σ H Q) : tE (gx X T) W ta σ H fun x H1 => tE (gx X T) W tb σ H1 fun y H2 => rD X T W σ g x y H2 fun z H3 => ∃ k, z = .bl k ∧
    (if k = true then tE (gx X T) W tc σ H3 fun w' H4 => rD X T W σ g' y w' H4 Q else Q (.bl false) H3) := by
  obtain ⟨as, M, e, r, q, h⟩ := h
  refine bindE r q h fun d v as1 M1 H1 r1 q1 s1 rv h1 => bindE r1 q1 h1 fun d2 v2 as2 M2 H2 r2 q2 s2 rv2 h2 => ⟨as2, M2, d, d2, r2, rv.step r1 s2, rv2, ?_⟩
  cases hg : g d d2 M2 with
  | ok k M3 =>
    rw [hg] at h2
    cases k <;> try exact h2.elim
    rename_i k
    intro as3 H3 v3 s3 r3 rv3
    cases rv3
    refine ⟨k, rfl, ?_⟩
    have h3 := h2.re s3
    cases k with
    | true => exact bindE r3 (q2.step r2 s3) h3 fun d4 v4 as4 M4 H4 r4 q4 s4 rv4 h4 => ⟨as4, M4, d2, d4, r4, (rv2.step r2 s3).step r3 s4, rv4, h4⟩
    | false => exact PostE.fin r3 h3 (.bl false)
  | exc c fs M3 => rw [hg] at h2; exact h2
  | bad => rw [hg] at h2; exact h2
theorem se_chain {op op' : CmpOp} {g g' : D → D → Mem → Res D} (ho : OpD X T (compareOp op) g) (ho' : OpD X T (compareOp op') g') (ha : SE X T W a ta) (hb : SE X T W b tb) (hc : SE X T W c tc) (hm : lastMarks [op, op'] [b, c] = false := by with_unfolding_all rfl) :
    SE X T W (.Compare a [op, op'] [b, c] pos) (eChain g g' ta tb tc) := by
  refine ⟨fun pins s σ H Q I h => ?_⟩
  refine Compare_chain (thn (ha.run pins s σ H _ I (chain_read h)) fun v s1 ⟨x, H1, I1, r1, q1⟩ => chain_link (thn (hb.run pins s1 σ H1 _ I1 q1) fun u s2 ⟨y, H2, I2, r2, q2⟩ =>
    thn (opr_of ho I2 r1 r2 q2) fun d s3 ⟨z, H3, I3, r3, k, e, q3⟩ => ?_)) hm
  subst e
  cases r3
  refine wpAny_truthy_bool ?_
  cases k with
  | false => exact ite_ff ⟨.bl false, H3, I3, rfl, q3⟩
  | true => exact ite_tt (chain_last (thn (hc.run pins s3 σ H3 _ I3 q3) fun w' s4 ⟨z', H4, I4, r4, q4⟩ => opr_of ho' I4 r2 r4 q4))
theorem st_chain {op op' : CmpOp} {g g' : D → D → Mem → Res D} (ho : OpD X T (compareOp op) g) (ho' : OpD X T (compareOp op') g') (ha : SE X T W a ta) (hb : SE X T W b tb) (hc : SE X T W c tc) (hm : lastMarks [op, op'] [b, c] = false := by with_unfolding_all rfl) :
    ST X T W (.Compare a [op, op'] [b, c] pos) (xB (eChain g g' ta tb tc)) := by
  refine ⟨fun pins s σ H Q I h => ?_⟩
  refine isTrue_chain (thn (ha.run pins s σ H _ I (chain_read (tE_bool h))) fun v s1 ⟨x, H1, I1, r1, q1⟩ => test_link (thn (hb.run pins s1 σ H1 _ I1 q1) fun u s2 ⟨y, H2, I2, r2, q2⟩ =>
    thn (opr_of ho I2 r1 r2 q2) fun d s3 ⟨z, H3, I3, r3, k, e, q3⟩ => ?_)) hm
  subst e
  cases r3
  refine wpAny_truthy_bool ?_
  cases k with
  | false =>
    obtain ⟨k', e', q'⟩ := q3
    cases e'
    exact ite_ff ⟨H3, I3, q'⟩
  | true =>
    refine ite_tt (test_last (thn (hc.run pins s3 σ H3 _ I3 q3) fun w' s4 ⟨z', H4, I4, r4, q4⟩ => thn (opr_of ho' I4 r2 r4 q4) fun d' s5 ⟨z2, H5, I5, r5, k2, e2, q5⟩ => ?_))
    subst e2
    cases r5
    exact wpAny_truthy_bool ⟨H5, I5, q5⟩
end

/-! ### subscripts -/
def dIx (x y : D) (M : Mem) : Res D :=
  match x, y with
  | .tup xs, .int i => match atI xs i with
    | some d => .ok d M
    | none => .bad
  | .str z, .int i => if nle z.length sizeLine then (match atI z.cps.toList i with | some c => .ok (.str ⟨#[c]⟩) M | none => .bad) else .bad
  | x, y => match asD M x with
    | some (ks, ws) => if kok ks y then (match dfind y ks ws with | some d => .ok d M | none => .bad) else .bad
    | none => match asL M x, y with
      | some xs, .int i => match atI xs i with
        | some d => .ok d M
        | none => .bad
      | _, _ => .bad
theorem RVs.atI {G : Kx} {as : List Addr} {H : Hp} {vs : List V} {ds : List D} {i : Int} {d : D} (h : RVs G as H vs ds) (e : L2.atI ds i = some d) : ∃ v, L2.atI vs i = some v ∧ RV G as H v d := by
  unfold L2.atI at e ⊢
  rw [h.len]
  cases hx : ixN ds.length i with
  | none => rw [hx] at e; cases e
  | some j =>
    rw [hx] at e
    exact h.get e
section
variable {X : Cx} {T : Tb} {W : WX} {pos : Pos} {a b : Expr} {ta tb : Ex}
theorem strOk_at {z : Str} {i : Int} {c : Nat} (h : PyData.strOk z = true) (e : atI z.cps.toList i = some c) : PyData.strOk ⟨#[c]⟩ = true := by
  obtain ⟨j, _, e, _⟩ := atI_get e
  unfold PyData.strOk at h ⊢
  rw [Array.all_eq_true_iff_forall_mem] at h
  have := h c (by rw [← Array.mem_toList_iff]; exact List.mem_of_getElem? e)
  simpa using this
theorem ix_dIx (hu : Rm X) (value slice : Expr) (pins : List (Addr × Obj)) (s : Shared) (σ : L2.St) (H : Hp) (as : List Addr) (M : Mem) (x y : D) (v w : V) (u z : Value) (Q : VK) (I : Inv X pins σ H s) (r : Rel (gx X T) as M H) (rx : RV (gx X T) as H v x) (ry : RV (gx X T) as H w y) (ru : RelV v u) (rz : RelV w z)
    (h : PostE (gx X T) W σ as M H Q (dIx x y M)) (hs : subscripted slice false u z = operate [u, z] (getItem u z)) : wpAny (model X.prog X.w) X.A (subscriptTail value slice u z) (EP X pins σ Q) X.xe s := by
  unfold dIx at h
  split at h
  · split at h
    · rename_i e
      obtain ⟨a, vs, rfl, h1, h2⟩ := tup_ok rx
      cases ry
      obtain ⟨v', e1, e2⟩ := h2.atI e
      exact ix_tup value slice pins s σ H _ _ u z Q I ru rz ⟨a, vs, _, v', rfl, rfl, h1, e1, h.fin r e2⟩ hs
    · exact h.elim
  · split at h
    · rename_i hz
      split at h
      · rename_i e
        cases rx with
        | str _ sx =>
          cases ry
          exact ix_str value slice pins s σ H _ _ u z Q I ru rz ⟨_, _, _, rfl, rfl, nle_iff.mp hz, e, h.fin r (.str _ (strOk_at sx e))⟩ hs
      · exact h.elim
    · exact h.elim
  · split at h
    · rename_i ks ws e
      split at h
      · rename_i hk
        split at h
        · rename_i d hf
          obtain ⟨a, kvs, vvs, rfl, d1, d2, d3⟩ := asD_ok r rx e
          cases ru
          have ty : s.TypeIs (.ref a) "dict" := by
            obtain ⟨ep, raw, e1, _⟩ := d1
            obtain ⟨⟨o, es, g1, g2, _⟩, _⟩ := (show ObjOk X.prog X.w H s.heap a (dictO X.w a ep raw) from I.hok a _ e1)
            exact ⟨o, g1, g2.1⟩
          exact tail_any ty slot_dict_getitem.lookup (e_getItem hu I d1 d2 d3 hk ry rz hf fun w' zz s' I' rz' rd => ⟨zz, H, I', rz', h.fin r rd⟩) hs
        · exact h.elim
      · exact h.elim
    · split at h
      · rename_i e1 _ _
        split at h
        · rename_i e
          obtain ⟨a, vs, rfl, h1, h2⟩ := asL_ok r rx (by assumption)
          cases ry
          obtain ⟨v', e1, e2⟩ := h2.atI e
          exact ix_list value slice pins s σ H _ _ u z Q I ru rz ⟨a, vs, _, v', rfl, rfl, .inl (.inl h1), e1, h.fin r e2⟩ hs
        · exact h.elim
      · exact h.elim
theorem se_ix (hu : Rm X) (ha : SE X T W a ta) (hb : SE X T W b tb) (hs : PlainIx b := by intro _ _; rfl) : SE X T W (.Subscript a b pos) (eOp dIx ta tb) := by
  refine ⟨fun pins s σ H Q I ⟨as, M, e, r, q, h⟩ => Subscript_ ?_⟩
  refine binT ha hb I (R := fun v w H2 => rD X T W σ dIx v w H2 Q) (bindE r q h fun d v as1 M1 H1 r1 q1 s1 rv h1 => bindE r1 q1 h1 fun d2 v2 as2 M2 H2 r2 q2 s2 rv2 h2 => ⟨as2, M2, d, d2, r2, rv.step r1 s2, rv2, h2⟩) fun v u s2 x y H2 I2 rx ry h2 => ?_
  obtain ⟨as2, M2, dx, dy, r2, rx2, ry2, h2⟩ := h2
  exact ix_dIx hu a b pins s2 σ H2 as2 M2 dx dy x y v u Q I2 r2 rx2 ry2 rx ry h2 (hs _ _)
/-! ### slices -/
def cutD (xs : List D) (lo hi : Option Int) : List D := (xs.drop (HT.sIx xs.length 0 lo)).take (HT.sIx xs.length xs.length hi - HT.sIx xs.length 0 lo)
def dSl (x : D) (lo hi : Option Int) (M : Mem) : Res D :=
  match x with
  | .tup xs => .ok (.tup (cutD xs lo hi)) M
  | .str z => if nle z.length sizeLine then .ok (.str (cutS z lo hi)) M else .bad
  | .fz xs => .ok (.lst (cutD (xs.map D.int) lo hi)) M
  | x => match asL M x with
    | some xs => .ok (.lst (cutD xs lo hi)) M
    | none => .bad
def Res.int (r : Res D) : Res Int :=
  match r with
  | .ok (.int i) M => .ok i M
  | .exc c fs M => .exc c fs M
  | _ => .bad
/-- a slice's end -/
def oN : Sl → Mem → Res (Option Int) := fun _ M => .ok none M
def oS (t : Ex) : Sl → Mem → Res (Option Int) := fun e M => (t e M).int.bind fun i M1 => .ok (some i) M1
def eSl (t : Ex) (lo hi : Sl → Mem → Res (Option Int)) : Ex := fun e M => (t e M).bind fun x M1 => (lo e M1).bind fun l M2 => (hi e M2).bind fun u M3 => dSl x l u M3
/-- an end's reading -/
def SO (X : Cx) (T : Tb) (W : WX) (lo : Option Expr) (t : Sl → Mem → Res (Option Int)) : Prop := ∃ to, PO X lo to ∧
  ∀ (σ : L2.St) (H : Hp) (as : List Addr) (M : Mem) (e : Sl) (Q : VK) (k : Option Int → Mem → Res D) (R : Option Int → Hp → Prop), Rel (gx X T) as M H → RSl (gx X T) as H σ e → PostE (gx X T) W σ as M H Q ((t e M).bind k) →
    (∀ i as1 M1 H1, Rel (gx X T) as1 M1 H1 → RSl (gx X T) as1 H1 σ e → Stp as M H as1 M1 H1 → PostE (gx X T) W σ as1 M1 H1 Q (k i M1) → R i H1) → to σ H R
theorem so_none : SO X T W none oN := ⟨_, po_none, fun σ H as M e Q k R r q h hk => hk none as M H r q Stp.refl h⟩
theorem so_some (ha : SE X T W a ta) : SO X T W (some a) (oS ta) := ⟨_, po_some ha, fun σ H as M e Q k R r q h hk => by
  refine ⟨as, M, e, r, q, ?_⟩
  unfold oS at h
  cases ht : ta e M with
  | ok d M' =>
    rw [ht] at h
    cases d <;> try exact h.elim
    exact fun a b v s r' rv => by cases rv; exact ⟨_, rfl, hk _ a M' b r' (q.step r s) s (PostE.re s h)⟩
  | exc c fs M' => rw [ht] at h; exact h
  | bad => rw [ht] at h; exact h⟩
theorem cut_rv {G : Kx} {as : List Addr} {H : Hp} {vs : List V} {ds : List D} (h : RVs G as H vs ds) (lo hi : Option Int) : RVs G as H (cutV vs lo hi) (cutD ds lo hi) := by
  unfold cutV cutD
  rw [h.len]
  exact (h.drop _).take _
theorem strOk_cut {z : Str} (h : PyData.strOk z = true) (lo hi : Option Int) : PyData.strOk (cutS z lo hi) = true := by
  unfold PyData.strOk at h ⊢
  rw [Array.all_eq_true_iff_forall_mem] at h ⊢
  intro c hc
  refine h c ?_
  unfold cutS at hc
  simp at hc
  have := List.mem_of_mem_take hc
  exact Array.mem_toList_iff.mp (List.mem_of_mem_drop this)
theorem cutD_map (xs : List Int) (lo hi : Option Int) : ∃ ys, cutD (xs.map D.int) lo hi = ys := ⟨_, rfl⟩
theorem ints_rv {G : Kx} {as : List Addr} {H : Hp} : ∀ xs : List Int, RVs G as H (xs.map V.int) (xs.map D.int)
  | [] => .nil
  | x :: xs => .cons (.int x) (ints_rv xs)
theorem sl_dSl {σ₀ : L2.St} (pins : List (Addr × Obj)) (s : Shared) (σ : L2.St) (H : Hp) (as : List Addr) (M : Mem) (x : D) (v : V) (u vl vu : Value) (lo hi : Option Int) (sl : Addr) (Q : VK) (I : Inv X pins σ H s) (r : Rel (gx X T) as M H) (rx : RV (gx X T) as H v x) (ru : RelV v u)
    (hsl : s.heap.IsSliceOf sl vl vu .none) (pl : IsPart vl lo) (pu : IsPart vu hi) (h : PostE (gx X T) W σ₀ as M H Q (dSl x lo hi M)) :
    ∃ T id, typeLookup (.type T) "__getitem__" = pure (some (.builtin id)) ∧ s.TypeIs u T ∧ wpAny (model X.prog X.w) X.A (getItem u (.ref sl)) (EP X pins σ Q) X.xe s := by
  unfold dSl at h
  split at h
  · obtain ⟨a, vs, rfl, h1, h2⟩ := tup_ok rx
    refine sl_tupA pins s σ H _ u vl vu lo hi sl Q I ru hsl pl pu ⟨a, vs, rfl, h1, fun e => ?_, fun _ => h.newT r (cut_rv h2 lo hi)⟩
    rename_i xs
    have : cutD xs lo hi = xs := by
      unfold cutD
      rw [← h2.len, e.1, e.2]
      simp
      rw [h2.len]
      exact List.take_length
    rw [this] at h
    exact h.fin r (.tup h1 h2)
  · split at h
    · rename_i hz
      cases rx with
      | str _ sx => exact sl_str pins s σ H _ u vl vu lo hi sl Q I ru hsl pl pu ⟨_, rfl, nle_iff.mp hz, h.fin r (.str _ (strOk_cut sx lo hi))⟩
    · exact h.elim
  · cases rx with
    | fz h1 => exact sl_list pins s σ H _ u vl vu lo hi sl Q I ru hsl pl pu ⟨_, _, rfl, h1.sql, h.newL r (cut_rv (ints_rv _) lo hi)⟩
  · split at h
    · rename_i e
      obtain ⟨a, vs, rfl, h1, h2⟩ := asL_ok r rx e
      exact sl_list pins s σ H _ u vl vu lo hi sl Q I ru hsl pl pu ⟨a, vs, rfl, .inl (.inl h1), h.newL r (cut_rv h2 lo hi)⟩
    · exact h.elim
/-- the reading of a slice by values -/
def rSlD (X : Cx) (T : Tb) (W : WX) (σ₀ : L2.St) : V → Option Int → Option Int → Hp → VK → Prop := fun v lo hi H Q => ∃ as M x, Rel (gx X T) as M H ∧ RV (gx X T) as H v x ∧ PostE (gx X T) W σ₀ as M H Q (dSl x lo hi M)
theorem se_slice {lo hi : Option Expr} {tl th : Sl → Mem → Res (Option Int)} {p2 : Pos} (ha : SE X T W a ta) (hl : SO X T W lo tl) (hh : SO X T W hi th) : SE X T W (.Subscript a (.Slice lo hi none p2) pos) (eSl ta tl th) := by
  obtain ⟨ol, pl, kl⟩ := hl
  obtain ⟨oh, ph, kh⟩ := hh
  refine ⟨fun pins s σ H Q I ⟨as, M, e, r, q, h⟩ => ?_⟩
  refine (pe_slice (r := rSlD X T W σ) (fun pins s σ' H x v vl vu lo hi sl Q I rx hs pl pu ⟨as, M, d, r, rx', h⟩ => ?_) ha pl ph).run pins s σ H Q I ?_
  · exact sl_dSl pins s σ' H as M d x v vl vu lo hi sl Q I r rx' rx hs pl pu h
  · exact bindE r q h fun d v as1 M1 H1 r1 q1 s1 rv h1 => kl σ H1 as1 M1 e Q _ _ r1 q1 h1 fun i as2 M2 H2 r2 q2 s2 h2 => kh σ H2 as2 M2 e Q _ _ r2 q2 h2 fun j as3 M3 H3 r3 q3 s3 h3 =>
      ⟨as3, M3, d, r3, ((rv.step r1 s2).step r2 s3), h3⟩
end
end EV

set_option Elab.async false
set_option linter.all false
set_option autoImplicit false
set_option maxRecDepth 100000
set_option maxHeartbeats 4000000
namespace EV
open PySem PySem.Spec PyProof.Rows L2
/-! ### writing a numbered place -/
def Mem.set (M : Mem) (k : Nat) (c : Cell) : Mem := ⟨M.b, M.c.set k c⟩
/-- the new content may stand in place k -/
def wok (M : Mem) (k : Nat) (c : Cell) : Bool := Nat.ble M.b k || c.refsLt (k + 1)
theorem Cell.refsLt.mono {m n : Nat} (h : m ≤ n) {c : Cell} (q : c.refsLt m = true) : c.refsLt n = true := by
  cases c with
  | lst f xs => exact refsLtL.mono h q
  | dct f ks vs => simp only [Cell.refsLt, Bool.and_eq_true] at q ⊢; exact ⟨refsLtL.mono h q.1, refsLtL.mono h q.2⟩
  | ins c fs => exact refsLtL.mono h q
  | hid => rfl
theorem nd_ix {as : List Addr} (h : as.Nodup) {i j : Nat} {a : Addr} (e1 : as[i]? = some a) (e2 : as[j]? = some a) : i = j :=
  (List.getElem?_inj (List.getElem?_eq_some_iff.mp e1).1 h).mp (e1.trans e2.symm)
section
variable {G : Kx} {as : List Addr} {M : Mem} {H : Hp} {k : Nat} {a : Addr} {c0 c : Cell} {o : HO}
theorem write_stp (hk : as[k]? = some a) (hc : M.c[k]? = some c0) (hf : c0.frz = false) (hw : wok M k c = true) : Stp as M H as (M.set k c) (upd H a o) where
  pre := fun _ _ h => h
  new := fun _ h => .inl h
  keep0 := fun b u e n _ => by
    by_cases q : b = a
    · exact absurd ⟨k, c0, q ▸ hk, hc, hf⟩ n
    · rw [upd_ne q]; exact e
  tbk := fun b ps e n => ⟨ps, by rw [upd_ne (ne_at hk n)]; exact e⟩
  frz := fun b _ ⟨j, x, e1, e2, f⟩ => by
    by_cases q : j = k
    · subst q
      rw [hk] at e1; cases e1
      exact ⟨j, c0, hk, hc, hf⟩
    · refine ⟨j, x, e1, ?_, f⟩
      unfold Mem.set at e2
      rw [List.getElem?_set_ne (Ne.symm q)] at e2
      exact e2
  b := rfl
  low := fun n hn h j x hj e => by
    unfold Mem.set at e
    by_cases q : k = j
    · subst q
      rw [List.getElem?_set_self (List.getElem?_eq_some_iff.mp hc).1] at e
      cases e
      simp only [wok, Bool.or_eq_true] at hw
      rcases hw with hw | hw
      · have := Nat.le_of_ble_eq_true hw; omega
      · exact Cell.refsLt.mono (by omega) hw
    · rw [List.getElem?_set_ne q] at e
      exact h j x hj e
  hd := fun j h => by
    unfold Mem.set
    by_cases q : k = j
    · subst q
      rw [hc] at h; cases h; cases hf
    · rw [List.getElem?_set_ne q]; exact h
theorem write_rel (r : Rel G as M H) (hk : as[k]? = some a) (hc : M.c[k]? = some c0) (hf : c0.frz = false) (hw : wok M k c = true) (hn : CellAt G as (upd H a o) a c) : Rel G as (M.set k c) (upd H a o) where
  len := by simp [Mem.set, r.len]
  nd := r.nd
  bl := by simp [Mem.set]; exact r.bl
  cell := fun j b x e1 e2 => by
    unfold Mem.set at e2
    by_cases q : k = j
    · subst q
      rw [List.getElem?_set_self (List.getElem?_eq_some_iff.mp hc).1] at e2
      cases e2
      rw [hk] at e1; cases e1
      exact hn
    · rw [List.getElem?_set_ne q] at e2
      have p := r.cell j b x e1 e2
      refine p.step r (write_stp (o := o) hk hc hf hw) (upd_ne fun e => ?_)
      subst e
      exact q (nd_ix r.nd hk e1)
  tab := fun p hp => let ⟨⟨ps, e, t⟩, n⟩ := r.tab p hp; ⟨⟨ps, by rw [upd_ne (ne_at hk n)]; exact e, t⟩, n⟩
theorem write_lst {ds : List D} {vs : List V} {f : Bool} (r : Rel G as M H) (hk : as[k]? = some a) (hc : M.c[k]? = some c0) (hf : c0.frz = false) (hw : wok M k (.lst f ds) = true) (q : RVs G as H vs ds) :
    Stp as M H as (M.set k (.lst f ds)) (upd H a (.lst vs)) ∧ Rel G as (M.set k (.lst f ds)) (upd H a (.lst vs)) :=
  let st := write_stp (H := H) (o := .lst vs) hk hc hf hw
  ⟨st, write_rel r hk hc hf hw ⟨vs, upd_same, q.step r st⟩⟩
end
theorem obj_ok {G : Kx} {as : List Addr} {H : Hp} {v : V} {k : Nat} (q : RV G as H v (.obj k)) : ∃ a, v = .ref a ∧ as[k]? = some a := by
  cases q with
  | obj h => exact ⟨_, rfl, h⟩

/-! ### methods -/
def MtD (X : Cx) (T : Tb) (id : String) (g : D → List D → Mem → Res D) : Prop :=
  ∀ (pins : List (Addr × Obj)) (s : Shared) (σ : L2.St) (H : Hp) (as : List Addr) (M : Mem) (x : D) (ys : List D) (v : V) (ws : List V) (u : Value) (zs : List Value) (Q : VK) (W : WX), Inv X pins σ H s → Rel (gx X T) as M H → RV (gx X T) as H v x → RVs (gx X T) as H ws ys → RelV v u → Vals ws zs →
    PostE (gx X T) W σ as M H Q (g x ys M) → wpAny (model X.prog X.w) X.A (call (.builtin id) (u :: zs)) (EP X pins σ Q) X.xe s
def mAppend (x : D) (ys : List D) (M : Mem) : Res D :=
  match x, ys with
  | .obj k, [y] => match M.c[k]? with
    | some (.lst false xs) => if nle (xs.length + 1) sizeLine && wok M k (.lst false (xs ++ [y])) then .ok .non (M.set k (.lst false (xs ++ [y]))) else .bad
    | _ => .bad
  | _, _ => .bad
def mExtend (x : D) (ys : List D) (M : Mem) : Res D :=
  match x, ys with
  | .obj k, [y] => match M.c[k]?, asL M y with
    | some (.lst false xs), some zs => if nle (xs.length + zs.length) sizeLine && wok M k (.lst false (xs ++ zs)) then .ok .non (M.set k (.lst false (xs ++ zs))) else .bad
    | _, _ => .bad
  | _, _ => .bad
def mPop (x : D) (ys : List D) (M : Mem) : Res D :=
  match x, ys with
  | .obj k, [] => match M.c[k]? with
    | some (.lst false xs) => match xs[xs.length - 1]? with
      | some y => if wok M k (.lst false xs.dropLast) then .ok y (M.set k (.lst false xs.dropLast)) else .bad
      | none => .bad
    | _ => .bad
  | _, _ => .bad
theorem RVs.dropLast {G : Kx} {as : List Addr} {H : Hp} {vs : List V} {ds : List D} (h : RVs G as H vs ds) : RVs G as H vs.dropLast ds.dropLast := by
  rw [List.dropLast_eq_take, List.dropLast_eq_take, h.len]
  exact h.take _
section
variable {X : Cx} {T : Tb} {W : WX}
theorem mt_dAppend : MtD X T "list.append" mAppend := by
  intro pins s σ H as M x ys v ws u zs Q W I r rx ry ru rz h
  unfold mAppend at h
  split at h
  · rename_i k y
    split at h
    · rename_i xs hc
      split at h
      · rename_i hz
        simp only [Bool.and_eq_true, nle_iff] at hz
        obtain ⟨a, rfl, hk⟩ := obj_ok rx
        obtain ⟨vs, e1, e2⟩ := r.cell k a _ hk hc
        cases ry with
        | @cons w _ _ _ q1 q2 =>
          cases q2
          obtain ⟨st, rl⟩ := write_lst (vs := vs ++ [w]) r hk hc rfl hz.2 (e2.app (.cons q1 .nil))
          exact mt_append pins s σ H _ _ u zs Q I ru rz ⟨a, vs, w, rfl, rfl, e1, by rw [e2.len]; omega, h as _ .non st rl .non⟩
      · exact h.elim
    · exact h.elim
  · exact h.elim
theorem mt_dExtend : MtD X T "list.extend" mExtend := by
  intro pins s σ H as M x ys v ws u zs Q W I r rx ry ru rz h
  unfold mExtend at h
  split at h
  · rename_i k y
    split at h
    · rename_i xs zs' hc hl
      split at h
      · rename_i hz
        simp only [Bool.and_eq_true, nle_iff] at hz
        obtain ⟨a, rfl, hk⟩ := obj_ok rx
        obtain ⟨vs, e1, e2⟩ := r.cell k a _ hk hc
        cases ry with
        | @cons w _ _ _ q1 q2 =>
          cases q2
          obtain ⟨b, vz, rfl, g1, g2⟩ := asL_ok r q1 hl
          obtain ⟨st, rl⟩ := write_lst (vs := vs ++ vz) r hk hc rfl hz.2 (e2.app g2)
          exact mt_extend pins s σ H _ _ u zs Q I ru rz ⟨a, b, vs, vz, rfl, rfl, e1, g1, by rw [e2.len, g2.len]; exact hz.1, h as _ .non st rl .non⟩
      · exact h.elim
    · exact h.elim
  · exact h.elim
theorem mt_dPop : MtD X T "list.pop" mPop := by
  intro pins s σ H as M x ys v ws u zs Q W I r rx ry ru rz h
  unfold mPop at h
  split at h
  · rename_i k
    split at h
    · rename_i xs hc
      split at h
      · rename_i y hy
        split at h
        · rename_i hz
          obtain ⟨a, rfl, hk⟩ := obj_ok rx
          obtain ⟨vs, e1, e2⟩ := r.cell k a _ hk hc
          cases ry
          obtain ⟨st, rl⟩ := write_lst (vs := vs.dropLast) r hk hc rfl hz e2.dropLast
          obtain ⟨w, g1, g2⟩ := e2.get hy
          rw [← e2.len] at g1
          exact mt_pop pins s σ H _ _ u zs Q I ru rz ⟨a, vs, w, rfl, rfl, e1, g1, h as _ w st rl (g2.step r st)⟩
        · exact h.elim
      · exact h.elim
    · exact h.elim
  · exact h.elim
/-- the receiver's type: a list, a dict, a tuple, a text -/
def tyD (M : Mem) (T : String) (x : D) : Bool :=
  match x with
  | .lst _ => T == "list"
  | .tup _ => false
  | .str _ => T == "str"
  | .dct _ _ => T == "dict"
  | .obj k => match M.c[k]? with
    | some (.lst _ _) => T == "list"
    | some (.dct _ _ _) => T == "dict"
    | _ => false
  | _ => false
theorem dict_ty {pins : List (Addr × Obj)} {s : Shared} {σ : L2.St} {H : Hp} {a : Addr} {ks : List D} {kvs vvs : List V} (I : Inv X pins σ H s) (d : DictAt (gx X T) H a ks kvs vvs) : s.TypeIs (.ref a) "dict" ∧ ∀ b, Value.ref a = .ref b → ∃ ob, s.heap.get? b = some ob ∧ ob.dict = none := by
  obtain ⟨ep, raw, e1, _⟩ := d
  obtain ⟨⟨o, es, g1, g2, _⟩, _⟩ := (show ObjOk X.prog X.w H s.heap a (dictO X.w a ep raw) from I.hok a _ e1)
  exact ⟨⟨o, g1, g2.1⟩, fun b e => by cases e; exact ⟨o, g1, g2.2.1⟩⟩
theorem tyD_is {pins : List (Addr × Obj)} {s : Shared} {σ : L2.St} {H : Hp} {as : List Addr} {M : Mem} {N : String} {x : D} {v : V} {u : Value} (I : Inv X pins σ H s) (r : Rel (gx X T) as M H) (rx : RV (gx X T) as H v x) (ru : RelV v u) (h : tyD M N x = true) :
    s.TypeIs u N ∧ ∀ a, u = .ref a → ∃ ob, s.heap.get? a = some ob ∧ ob.dict = none := by
  cases rx with
  | str z _ =>
    simp [tyD] at h; subst h
    exact tyV_is (x := .str z) I ru rfl
  | lst e1 _ _ =>
    simp [tyD] at h; subst h
    exact tyV_is I ru (.inl ⟨rfl, _, .inl (.inl e1)⟩)
  | dct e1 _ _ _ =>
    simp [tyD] at h; subst h
    cases ru
    exact dict_ty I e1
  | @obj a k hk =>
    simp only [tyD] at h
    split at h
    · rename_i hc
      have e := eq_of_beq h
      subst e
      obtain ⟨vs, e1, e2⟩ := r.cell k a _ hk hc
      exact tyV_is I ru (.inl ⟨rfl, _, .inl (.inl e1)⟩)
    · rename_i hc
      have e := eq_of_beq h
      subst e
      cases ru
      obtain ⟨_, _, e1, _⟩ := r.cell k a _ hk hc
      exact dict_ty I e1
    · cases h
  | non => simp [tyD] at h
  | bl => simp [tyD] at h
  | int => simp [tyD] at h
  | tup => simp [tyD] at h
  | fz => simp [tyD] at h
/-- x.m(ys), m a method of the built-in type N -/
def eMt (N : String) (g : D → List D → Mem → Res D) (t : Ex) (u : Ax) : Ex := fun e M => (t e M).bind fun x M1 => if tyD M1 N x then (u e M1).bind fun ys M2 => g x ys M2 else .bad
variable {o e : Expr} {es : List Expr} {name : Str} {id N : String} {apos cpos : Pos} {to : Ex} {ta : Ax} {g : D → List D → Mem → Res D}
theorem se_mt0 (pa : PlainAttrs N) (slot : Slot N name id) (hty : typeOf (.builtin id) = pure (.type "method_descriptor")) (hm : MtD X T id g) (ho : SE X T W o to)
    (hbase : attributeBase o name X.env (eval o X.env) = eval o X.env := by rfl) (hline : (apos.endLine == cpos.line) = true := by rfl) : SE X T W (.Call (.Attribute o name apos) [] [] cpos) (eMt N g to aNil) := by
  refine ⟨fun pins s σ H Q I ⟨as, M, e, r, q, h⟩ => ?_⟩
  refine wpAny_Call_method0_late hbase hline (thn (ho.run pins s σ H (fun v H1 => ∃ as1 M1 x, Rel (gx X T) as1 M1 H1 ∧ RV (gx X T) as1 H1 v x ∧ tyD M1 N x = true ∧ PostE (gx X T) W σ as1 M1 H1 Q (g x [] M1)) I (bindE r q h fun d v as1 M1 H1 r1 q1 s1 rv h1 => ?_)) fun v s1 ⟨x, H1, I1, r1, as1, M1, d, rl, rv, ty, q1⟩ => ?_)
  · split at h1
    · rename_i ty
      exact ⟨as1, M1, d, r1, rv, ty, h1⟩
    · exact h1.elim
  · obtain ⟨h1, h2⟩ := tyD_is I1 rl rv r1 ty
    exact ⟨N, id, pa, slot, hty, h1, h2, Calls.callWith_builtin rfl (PySem.evalArgs_none (hm pins s1 σ H1 as1 M1 d [] x [] v [] Q W I1 rl rv .nil r1 .nil q1))⟩
theorem se_mt (pa : PlainAttrs N) (slot : Slot N name id) (hty : typeOf (.builtin id) = pure (.type "method_descriptor")) (hm : MtD X T id g) (ho : SE X T W o to) (ha : SA X T W (e :: es) ta)
    (hbase : attributeBase o name X.env (eval o X.env) = eval o X.env := by rfl)
    (hfew : ((backTo cpos (starEach (e :: es) X.env)).all (fun x => !x.1) && (backToKw cpos (keywordEach [] X.env)).all (fun x => x.1.isSome)
      && decide ((e :: es).length + ([] : List Keyword).length + (if ([] : List Keyword).isEmpty then 0 else 1) < 30)) = true := by rfl)
    (hline : (apos.endLine == cpos.line) = true := by rfl) (hs : starEach (e :: es) X.env = (false, eval e X.env) :: starEach es X.env := by rfl) (hplain : (backTo cpos (starEach es X.env)).any (·.1) = false := by rfl) :
    SE X T W (.Call (.Attribute o name apos) (e :: es) [] cpos) (eMt N g to ta) := by
  refine ⟨fun pins s σ H Q I ⟨as, M, e', r, q, h⟩ => ?_⟩
  refine wpAny_Call_method_late hbase hfew hline rfl (thn (ho.run pins s σ H (fun v H1 => ∃ as1 M1 x, Rel (gx X T) as1 M1 H1 ∧ RSl (gx X T) as1 H1 σ e' ∧ RV (gx X T) as1 H1 v x ∧ tyD M1 N x = true ∧ PostE (gx X T) W σ as1 M1 H1 Q ((ta e' M1).bind fun ys M2 => g x ys M2)) I (bindE r q h fun d v as1 M1 H1 r1 q1 s1 rv h1 => ?_)) fun v s1 ⟨x, H1, I1, r1, as1, M1, d, rl, q1, rv, ty, h1⟩ => ?_)
  · split at h1
    · rename_i ty
      exact ⟨as1, M1, d, r1, q1, rv, ty, h1⟩
    · exact h1.elim
  · obtain ⟨t1, t2⟩ := tyD_is I1 rl rv r1 ty
    refine ⟨N, id, pa, slot, hty, t1, t2, ?_⟩
    have hA := ha.run cpos pins s1 σ H1 (fun ws H2 => ∃ as2 M2 ys, Rel (gx X T) as2 M2 H2 ∧ RV (gx X T) as2 H2 x d ∧ RVs (gx X T) as2 H2 ws ys ∧ PostE (gx X T) W σ as2 M2 H2 Q (g d ys M2)) I1 (bindAE rl q1 h1 fun ys ws as2 M2 H2 r2 q2 s2 rvs h2 => ⟨as2, M2, ys, r2, rv.step rl s2, rvs, h2⟩)
    rw [hs] at hA ⊢
    refine Calls.callWith_builtin (by show (false || (backTo cpos (starEach es X.env)).any (·.1)) = false; rw [hplain]; rfl) (Calls.evalArgs_plain ?_)
    exact thn hA fun us s2 ⟨vs, H2, I2, r2, as2, M2, ys, rl2, rv2, rvs, h2⟩ => hm pins s2 σ H2 as2 M2 d ys x vs v us Q W I2 rl2 rv2 rvs r1 r2 h2
end
end EV

set_option Elab.async false
set_option linter.all false
set_option autoImplicit false
set_option maxRecDepth 100000
set_option maxHeartbeats 4000000
namespace EV
open PySem PySem.Spec PyProof.Rows L2
section
variable {G : Kx} {as : List Addr} {H : Hp} {σ : L2.St} {e : Sl}
theorem RSl.set {v : V} {d : D} (q : RSl G as H σ e) (i : Nat) (rv : RV G as H v d) : RSl G as H (σ.set i (some v)) (e.set i (some d)) := by
  refine ⟨by simp [q.1], fun j x h => ?_⟩
  by_cases hj : i = j
  · subst hj
    by_cases hl : i < e.length
    · rw [List.getElem?_set_self hl] at h
      cases h
      exact ⟨v, by rw [List.getElem?_set_self (by rw [q.1]; exact hl)], rv⟩
    · rw [List.getElem?_eq_none (by simp; omega)] at h; cases h
  · rw [List.getElem?_set_ne hj] at h ⊢
    exact q.2 j x h
theorem RSl.unset (q : RSl G as H σ e) (i : Nat) : RSl G as H (σ.set i none) (e.set i none) := by
  refine ⟨by simp [q.1], fun j x h => ?_⟩
  by_cases hj : i = j
  · subst hj
    by_cases hl : i < e.length
    · rw [List.getElem?_set_self hl] at h; cases h
    · rw [List.getElem?_eq_none (by simp; omega)] at h; cases h
  · rw [List.getElem?_set_ne hj] at h ⊢
    exact q.2 j x h
end
/-! ### blocks -/
def sNil : Sx := fun e M => .nx e M
def Fl.seq (r : Fl) (f : Sl → Mem → Fl) : Fl :=
  match r with
  | .nx e M => f e M
  | .rt d M => .rt d M
  | .bk e M => .bk e M
  | .ct e M => .ct e M
  | .exc c fs e M => .exc c fs e M
  | .bad => .bad
def sSeq (t u : Sx) : Sx := fun e M => (t e M).seq u
def sBrk : Sx := fun e M => .bk e M
def sCnt : Sx := fun e M => .ct e M
def sBad : Sx := fun _ _ => .bad
def sEx (t : Ex) : Sx := fun e M => (t e M).thn e fun _ M1 => .nx e M1
def sRet (t : Ex) : Sx := fun e M => (t e M).thn e fun d M1 => .rt d M1
def sRetN : Sx := fun _ M => .rt .non M
def sIf (x : Tx) (t u : Sx) : Sx := fun e M => (x e M).thn e fun b M1 => if b then t e M1 else u e M1
def sSet (i : Nat) (t : Ex) : Sx := fun e M => (t e M).thn e fun d M1 => .nx (e.set i (some d)) M1
section
variable {X : Cx} {T : Tb} {W : WX} {pos : Pos} {st : Stmt} {rest a b : List Stmt} {t u : Sx} {ex c : Expr} {te : Ex} {xc : Tx}
theorem PostS.seq {G : Kx} {as : List Addr} {M : Mem} {H : Hp} {D' : Ends} {r : Fl} {f : Sl → Mem → Fl} (h : PostS G W as M H D' (r.seq f)) : PostS G W as M H { D' with nx := tS G W f D' } r := by
  cases r with
  | nx e M' => exact fun as' H' σ' s r q => ⟨as', M', e, r, q, PostS.re s h⟩
  | rt d M' => exact h
  | bk e M' => exact h
  | ct e M' => exact h
  | exc c fs e M' => exact h
  | bad => exact h
theorem sb_nil : SB X T W [] sNil := pss_nil.weak fun D' σ H ⟨as, M, e, r, q, h⟩ => h as H σ Stp.refl r q
theorem sb_cons (h1 : SS X T W st t) (h2 : SB X T W rest u) : SB X T W (st :: rest) (sSeq t u) :=
  (pss_cons h1 h2).weak fun D' σ H ⟨as, M, e, r, q, h⟩ => ⟨as, M, e, r, q, h.seq⟩
theorem sb_one (h1 : SS X T W st t) : SB X T W [st] t := pss_one h1
theorem ss_pass : SS X T W (.Pass pos) sNil := ps_pass.weak fun D' σ H ⟨as, M, e, r, q, h⟩ => h as H σ Stp.refl r q
theorem ss_brk : SS X T W (.Break pos) sBrk := ps_break.weak fun D' σ H ⟨as, M, e, r, q, h⟩ => h as H σ Stp.refl r q
theorem ss_cnt : SS X T W (.Continue pos) sCnt := ps_continue.weak fun D' σ H ⟨as, M, e, r, q, h⟩ => h as H σ Stp.refl r q
/-- what is never come to -/
theorem ss_bad : SS X T W st sBad := ps_never.weak fun D' σ H ⟨as, M, e, r, q, h⟩ => h
theorem ss_ex (he : SE X T W ex te) (hs : swapsWith ex none pos.line X.env = pure false := by rfl) : SS X T W (.Expr ex pos) (sEx te) :=
  (ps_expr he hs).weak fun D' σ H ⟨as, M, e, r, q, h⟩ => bindES r q h fun d v as1 M1 H1 r1 q1 s1 rv h1 => h1 as1 H1 σ Stp.refl r1 q1
theorem ss_ret (he : SE X T W ex te) : SS X T W (.Return (some ex) pos) (sRet te) :=
  (ps_ret he).weak fun D' σ H ⟨as, M, e, r, q, h⟩ => bindES r q h fun d v as1 M1 H1 r1 q1 s1 rv h1 => h1 as1 H1 v Stp.refl r1 rv
theorem ss_retN : SS X T W (.Return none pos) sRetN := ps_retN.weak fun D' σ H ⟨as, M, e, r, q, h⟩ => h as H .non Stp.refl r .non
theorem ss_if (hc : ST X T W c xc) (ha : SB X T W a t) (hb : SB X T W b u) : SS X T W (.If c a b pos) (sIf xc t u) :=
  (ps_if hc ha hb).weak fun D' σ H ⟨as, M, e, r, q, h⟩ => bindTS r q h fun d as1 M1 H1 r1 q1 s1 h1 => by
    cases d with
    | true => exact ⟨as1, M1, e, r1, q1, h1⟩
    | false => exact ⟨as1, M1, e, r1, q1, h1⟩
theorem ss_set (i : Nat) {x : Str} {pos' : Pos} (hN : X.N.Nodup) (he : SE X T W ex te) (hi : X.N[i]? = some x := by rfl) (hx : Loc X.env.scope x := by first | exact Or.inl rfl | exact Or.inr rfl) (hs : swapsWith ex (some (.Name x pos')) pos.line X.env = pure false := by rfl) (hf : X.fn x = true ∨ X.env.scope.names.lookup x = some .local := by first | exact .inl rfl | exact .inr rfl | assumption) :
    SS X T W (.Assign [.Name x pos'] ex pos) (sSet i te) :=
  (ps_set hN hi hx he hs hf).weak fun D' σ H ⟨as, M, e, r, q, h⟩ => bindES r q h fun d v as1 M1 H1 r1 q1 s1 rv h1 => h1 as1 H1 _ Stp.refl r1 (q1.set i rv)
end
/-! ### targets -/
abbrev Gt := D → Sl → Mem → Option Sl
abbrev Gts := List D → Sl → Mem → Option Sl
/-- alike but for the slots sl -/
def But (sl : List Nat) (σ σ' : L2.St) : Prop := σ'.length = σ.length ∧ ∀ i : Nat, i ∉ sl → σ'[i]? = σ[i]?
def PostG (G : Kx) (as : List Addr) (H : Hp) (sl : List Nat) (σ₀ : L2.St) (R : L2.St → Hp → Prop) : Option Sl → Prop
  | some e => ∀ σ, RSl G as H σ e → But sl σ₀ σ → R σ H
  | none => False
def tG (G : Kx) (sl : List Nat) (g : Gt) : TG := fun v σ H R => ∃ as M d e, Rel G as M H ∧ RSl G as H σ e ∧ RV G as H v d ∧ PostG G as H sl σ R (g d e M)
def tGs (G : Kx) (sl : List Nat) (g : Gts) : TGs := fun vs σ H R => ∃ as M ds e, Rel G as M H ∧ RSl G as H σ e ∧ RVs G as H vs ds ∧ PostG G as H sl σ R (g ds e M)
abbrev SG (X : Cx) (T : Tb) (tg : Expr) (sl : List Nat) (g : Gt) : Prop := PG X tg (tG (gx X T) sl g)
abbrev SGs (X : Cx) (T : Tb) (tg : List Expr) (sl : List Nat) (g : Gts) : Prop := PGs X tg (tGs (gx X T) sl g)
theorem But.refl (sl : List Nat) (σ : L2.St) : But sl σ σ := ⟨rfl, fun _ _ => rfl⟩
theorem But.set (i : Nat) (σ : L2.St) (v : Option V) : But [i] σ (σ.set i v) := ⟨by simp, fun j hj => by rw [List.getElem?_set_ne (fun e => hj (by simp [e]))]⟩
theorem But.trans {sl sm : List Nat} {σ σ1 σ2 : L2.St} (a : But sl σ σ1) (b : But sm σ1 σ2) : But (sl ++ sm) σ σ2 := ⟨b.1.trans a.1, fun i hi => by
  rw [List.mem_append, not_or] at hi
  rw [b.2 i hi.2, a.2 i hi.1]⟩
theorem _root_.L2.PG.weak {X : Cx} {e : Expr} {t t' : TG} (h : PG X e t) (w : ∀ v σ H R, t' v σ H R → t v σ H R) : PG X e t' := ⟨fun pins s σ H v u R I rv q => h.run pins s σ H v u R I rv (w v σ H R q)⟩
theorem _root_.L2.PGs.weak {X : Cx} {e : List Expr} {t t' : TGs} (h : PGs X e t) (w : ∀ v σ H R, t' v σ H R → t v σ H R) : PGs X e t' := ⟨fun pins s σ H v u R I rv q => h.run pins s σ H v u R I rv (w v σ H R q)⟩
def gN (i : Nat) : Gt := fun d e _ => some (e.set i (some d))
def gsN : Gts := fun ds e _ => match ds with
  | [] => some e
  | _ => none
def gsC (g : Gt) (gs : Gts) : Gts := fun ds e M => match ds with
  | d :: ds => match g d e M with
    | some e1 => gs ds e1 M
    | none => none
  | [] => none
def gT (n : Nat) (gs : Gts) : Gt := fun d e M => match d with
  | .tup ds => if Nat.beq ds.length n then gs ds e M else none
  | _ => none
section
variable {X : Cx} {T : Tb} {W : WX} {pos : Pos} {tg : Expr} {tgs : List Expr} {g : Gt} {gs : Gts}
theorem sg_name (i : Nat) {x : Str} (hN : X.N.Nodup) (hi : X.N[i]? = some x := by rfl) (hx : Loc X.env.scope x := by first | exact Or.inl rfl | exact Or.inr rfl) (hf : X.fn x = true ∨ X.env.scope.names.lookup x = some .local := by first | exact .inl rfl | exact .inr rfl | assumption) : SG X T (.Name x pos) [i] (gN i) :=
  (pg_name hN hi hx hf).weak fun v σ H R ⟨as, M, d, e, r, q, rv, h⟩ => h _ (q.set i rv) (But.set i σ (some v))
theorem sgs_nil : SGs X T [] [] gsN := pgs_nil.weak fun v σ H R ⟨as, M, ds, e, r, q, rv, h⟩ => by
  cases rv with
  | nil => exact ⟨rfl, h σ q (But.refl _ _)⟩
  | cons _ _ => exact h.elim
theorem sgs_cons {sl sm : List Nat} (h1 : SG X T tg sl g) (h2 : SGs X T tgs sm gs) (hs : (assignEach (tg :: tgs) X.env).map (·.2) = assign tg X.env :: (assignEach tgs X.env).map (·.2) := by rfl) : SGs X T (tg :: tgs) (sl ++ sm) (gsC g gs) :=
  (pgs_cons h1 h2 hs).weak fun v σ H R ⟨as, M, ds, e, r, q, rv, h⟩ => by
    cases rv with
    | nil => exact h.elim
    | @cons w ws d ds r1 r2 =>
      refine ⟨w, ws, rfl, as, M, d, e, r, q, r1, ?_⟩
      simp only [gsC] at h
      split at h
      · rename_i e1 he
        rw [he]
        refine fun σ' q' b' => ⟨as, M, ds, e1, r, q', r2, ?_⟩
        cases hg : gs ds e1 M with
        | none => rw [hg] at h; exact h
        | some e2 => rw [hg] at h; exact fun σ2 q2 b2 => h σ2 q2 (b'.trans b2)
      · exact h.elim
theorem sg_tup {n k : Nat} {sl : List Nat} (hc : X.calm = true) (h : SGs X T tgs sl gs) (hn : (assignEach tgs X.env).length = n := by rfl) (hst : (assignEach tgs X.env).findIdx? (·.1) = none := by rfl) : SG X T (.Tuple tgs k pos) sl (gT n gs) :=
  (pg_tup hc h hn hst).weak fun v σ H R ⟨as, M, d, e, r, q, rv, hp⟩ => by
    unfold gT at hp
    split at hp
    · split at hp
      · rename_i hl
        obtain ⟨a, vs, rfl, h1, h2⟩ := tup_ok rv
        exact ⟨a, vs, rfl, h1, by rw [h2.len]; exact Nat.eq_of_beq_eq_true hl, as, M, _, e, r, q, h2, hp⟩
      · exact hp.elim
    · exact hp.elim
/-- target = value -/
def sTg (g : Gt) (t : Ex) : Sx := fun e M => (t e M).thn e fun d M1 => match g d e M1 with
  | some e1 => .nx e1 M1
  | none => .bad
theorem PostG.nx {G : Kx} {as : List Addr} {M : Mem} {H : Hp} {D' : Ends} {o : Option Sl} {sl : List Nat} {σ : L2.St} (r : Rel G as M H) (h : PostS G W as M H D' (match o with | some e1 => .nx e1 M | none => .bad)) : PostG G as H sl σ D'.nx o := by
  cases o with
  | none => exact h
  | some e => exact fun σ q _ => h as H σ Stp.refl r q
theorem ss_tg {ex : Expr} {te : Ex} {sl : List Nat} (he : SE X T W ex te) (hg : SG X T tg sl g) (hs : swapsWithSole [tg] ex pos.line X.env = pure false := by rfl) (hw : swappedStores [tg] ex X.env = pure none := by rfl) (h1 : (assignEach [tg] X.env).map (·.2) = [assign tg X.env] := by rfl) :
    SS X T W (.Assign [tg] ex pos) (sTg g te) :=
  (ps_asg he hg hs hw h1).weak fun D' σ H ⟨as, M, e, r, q, h⟩ => bindES r q h fun d v as1 M1 H1 r1 q1 s1 rv h1 => ⟨as1, M1, d, e, r1, q1, rv, PostG.nx r1 h1⟩
/-- a, b = x, y -/
def sPar (is : List Nat) (ta : Ax) : Sx := fun e M => (ta e M).thn e fun ds M1 => match setAll is ds e with
  | some e1 => .nx e1 M1
  | none => .bad
where setAll : List Nat → List D → Sl → Option Sl
  | [], [], e => some e
  | i :: is, d :: ds, e => setAll is ds (e.set i (some d))
  | _, _, _ => none
theorem ss_par2 {i j : Nat} {x y : Str} {a b : Expr} {ta : Ax} {px py pt pt2 : Pos} {kt k2 : Nat} (hc : X.calm = true) (hN : X.N.Nodup) (hi : X.N[i]? = some x := by rfl) (hj : X.N[j]? = some y := by rfl) (hij : i ≠ j := by decide)
    (hx : X.env.scope.names.lookup x = some .local := by rfl) (hy : X.env.scope.names.lookup y = some .local := by rfl) (ha : SA X T W [a, b] ta)
    (hw : swappedStores [.Tuple [.Name x px, .Name y py] kt pt] (.Tuple [a, b] k2 pt2) X.env = pure (some [x, y]) := by rfl)
    (hs : swapsWithSole [.Tuple [.Name x px, .Name y py] kt pt] (.Tuple [a, b] k2 pt2) pos.line X.env = pure false := by rfl) :
    SS X T W (.Assign [.Tuple [.Name x px, .Name y py] kt pt] (.Tuple [a, b] k2 pt2) pos) (sPar [i, j] ta) :=
  (ps_par hc hN hi hj hij hx hy ha hw hs).weak fun D' σ H ⟨as, M, e, r, q, h⟩ => bindAS r q h fun ds vs as1 M1 H1 r1 q1 s1 rvs h1 => by
    cases rvs with
    | nil => exact h1.elim
    | @cons v _ d _ p1 p2 =>
      cases p2 with
      | nil => exact h1.elim
      | @cons v2 _ d2 _ p3 p4 =>
        cases p4 with
        | cons _ _ => exact h1.elim
        | nil => exact ⟨v, v2, rfl, h1 as1 H1 _ Stp.refl r1 ((q1.set i p1).set j p3)⟩
theorem ss_par3 {i j l : Nat} {x y z : Str} {a b c : Expr} {ta : Ax} {px py pz pt pt2 : Pos} {kt k2 : Nat} (hc : X.calm = true) (hN : X.N.Nodup) (hi : X.N[i]? = some x := by rfl) (hj : X.N[j]? = some y := by rfl) (hl : X.N[l]? = some z := by rfl) (hij : i ≠ j := by decide) (hil : i ≠ l := by decide) (hjl : j ≠ l := by decide)
    (hx : X.env.scope.names.lookup x = some .local := by rfl) (hy : X.env.scope.names.lookup y = some .local := by rfl) (hz : X.env.scope.names.lookup z = some .local := by rfl) (ha : SA X T W [a, b, c] ta)
    (hw : swappedStores [.Tuple [.Name x px, .Name y py, .Name z pz] kt pt] (.Tuple [a, b, c] k2 pt2) X.env = pure (some [x, y, z]) := by rfl)
    (hs : swapsWithSole [.Tuple [.Name x px, .Name y py, .Name z pz] kt pt] (.Tuple [a, b, c] k2 pt2) pos.line X.env = pure false := by rfl) :
    SS X T W (.Assign [.Tuple [.Name x px, .Name y py, .Name z pz] kt pt] (.Tuple [a, b, c] k2 pt2) pos) (sPar [i, j, l] ta) :=
  (ps_par3 hc hN hi hj hl hij hil hjl hx hy hz ha hw hs).weak fun D' σ H ⟨as, M, e, r, q, h⟩ => bindAS r q h fun ds vs as1 M1 H1 r1 q1 s1 rvs h1 => by
    cases rvs with
    | nil => exact h1.elim
    | @cons v _ d _ p1 p2 =>
      cases p2 with
      | nil => exact h1.elim
      | @cons v2 _ d2 _ p3 p4 =>
        cases p4 with
        | nil => exact h1.elim
        | @cons v3 _ d3 _ p5 p6 =>
          cases p6 with
          | cons _ _ => exact h1.elim
          | nil => exact ⟨v, v2, v3, rfl, h1 as1 H1 _ Stp.refl r1 (((q1.set i p1).set j p3).set l p5)⟩
/-! ### x op= e -/
def sAug (i : Nat) (g : D → D → Mem → Res D) (t : Ex) : Sx := fun e M => match e[i]? with
  | some (some x) => (t e M).thn e fun y M1 => (g x y M1).thn e fun z M2 => .nx (e.set i (some z)) M2
  | _ => .bad
theorem ss_aug (i : Nat) {x : Str} {ex : Expr} {te : Ex} {op : Operator} {g : D → D → Mem → Res D} {pos' : Pos} (hN : X.N.Nodup) (ho : OpD X T (inplaceOp op) g) (he : SE X T W ex te) (hi : X.N[i]? = some x := by rfl) (hx : Loc X.env.scope x := by first | exact Or.inl rfl | exact Or.inr rfl)
    (hf : X.fn x = true ∨ X.env.scope.names.lookup x = some .local := by first | exact .inl rfl | exact .inr rfl | assumption) : SS X T W (.AugAssign (.Name x pos') op ex pos) (sAug i g te) := by
  refine ⟨fun pins s σ H D' I ⟨as, M, e, r, q, h⟩ => ?_⟩
  unfold sAug at h
  split at h
  · rename_i d hd
    obtain ⟨v, hv, rv⟩ := q.2 i d hd
    refine (ps_aug (ti := fun x y H Q => rD X T W σ g x y H Q) hN hi hx he (fun pins' s' σ' H' x y u w Q I' r1 r2 ⟨as', M', dx, dy, rl, rx, ry, hp⟩ => ?_) hf).run pins s σ H D' I ?_
    · exact ho pins' s' σ' H' as' M' dx dy x y u w Q W σ I' rl rx ry r1 r2 hp
    · refine ⟨v, hv, ?_⟩
      refine bindES r q h fun y w as1 M1 H1 r1 q1 s1 rw h1 => ?_
      refine ⟨as1, M1, d, y, r1, rv.step r s1, rw, ?_⟩
      cases hg : g d y M1 with
      | ok z M2 =>
        rw [hg] at h1
        exact fun as2 H2 vz s2 r2 rz => h1 as2 H2 _ s2 r2 ((q1.step r1 s2).set i rz)
      | exc c fs M2 => rw [hg] at h1; exact fun as2 H2 od s2 r2 rx => h1 as2 H2 σ od s2 r2 (q1.step r1 s2) rx
      | bad => rw [hg] at h1; exact h1
  · exact h.elim
end
end EV

set_option Elab.async false
set_option linter.all false
set_option autoImplicit false
set_option maxRecDepth 100000
set_option maxHeartbeats 4000000
namespace EV
open PySem PySem.Spec PyProof.Rows L2
/-! ### the keys of a dict, walked -/
def ItD (w : World) (d : Addr) (ep : Nat) (raw : List (D × V × V)) : It :=
  ⟨fun i H => H d = some (dictO w d ep raw) ∧ i < raw.length, fun i H x H' => H' = H ∧ ∃ r, raw[i]? = some r ∧ x = r.2.1, fun i H => H d = some (dictO w d ep raw) ∧ raw.length ≤ i⟩
theorem turn_dict {P : Program} {w : World} {K : PySem.W.Frag} {tg : Expr} {d : Addr} {ep : Nat} {raw : List (D × V × V)} (it : Addr) : Turn P w K tg (ItD w d ep raw) [it] it (fun i h => h.IsKeyIter it d i raw.length ep) where
  mem := by simp
  obj := fun i h st b hb => by
    obtain rfl : b = it := by simpa using hb
    obtain ⟨oi, e, c, dd⟩ := st
    exact ⟨oi, e, fun v z => by rw [dd] at z; cases z⟩
  keep := fun i h h' st k => st.at fun oi e => k it (by simp) oi e
  item := by
    intro X hP hw hK hc i pins s σ H E I hf st hg
    subst hP hw hK
    obtain ⟨hd, hi⟩ := hg
    obtain ⟨f0, f1, f2, f3, f4, f5⟩ := hf it (by simp)
    obtain ⟨⟨o, es, g1, g2, g3, g4⟩, _⟩ := (show ObjOk X.prog X.w H s.heap d (dictO X.w d ep raw) from I.hok d _ hd)
    have hl := Paired.length g4
    obtain ⟨en, he, q1, q2, q3⟩ := paired_get g4 (List.getElem?_eq_getElem hi)
    refine next_key_item st g1 g3 (by rw [hl]; simp) (by rw [← Array.getElem?_toList]; exact he) fun h' st' sb => ?_
    have I1 : Inv X pins σ H { s with heap := h' } := I.turned (t' := s.toks) (fun b ob hb e => (sb.2 b hb).trans e) f0 f1 f3 f4 f5
    obtain ⟨oi, e, c, dd⟩ := id st'
    exact ⟨en.key, rfl, go_of (s := { s with heap := h' }) e c dd (by decide) ⟨raw[i].2.1, H, I1, q2, ⟨rfl, raw[i], List.getElem?_eq_getElem hi, rfl⟩, st', fun b hb => (hf b hb).1⟩⟩
  done := by
    intro X hP hw hK hc i pins s σ H E I hf st hg
    subst hP hw hK
    obtain ⟨hd, hi⟩ := hg
    obtain ⟨f0, f1, f2, f3, f4, f5⟩ := hf it (by simp)
    obtain ⟨⟨o, es, g1, g2, g3, g4⟩, _⟩ := (show ObjOk X.prog X.w H s.heap d (dictO X.w d ep raw) from I.hok d _ hd)
    have hl := Paired.length g4
    exact next_key_end (I.ok.hd hc) st g1 g3 (by rw [hl]; simp) hi fun h' eb => ⟨rfl, I.turned (t' := s.toks) (fun b ob hb e => eb b ob hb e) f0 f1 f3 f4 f5⟩
  self := fun A i s Q E st h => wpAny_pyIter_keyiter st h

/-! ### a hidden place, changed -/
mutual
theorem RV.at {G : Kx} {as : List Addr} {H : Hp} {p : Addr} {o u : HO} (hp : p ∈ as) (h : H p = some u) (h1 : ∀ xs, u ≠ .tup xs) (h2 : ∀ q z, u ≠ .frz q z) : ∀ {v : V} {d : D}, RV G as H v d → RV G as (upd H p o) v d
  | _, _, .non => .non
  | _, _, .bl b => .bl b
  | _, _, .int i => .int i
  | _, _, .str x s => .str x s
  | _, _, @RV.tup _ _ _ a vs ds q t => .tup (by
      rcases q with (q | ⟨ob, q⟩) | q
      · exact .inl (.inl (by rw [upd_ne (fun y => by subst y; rw [h] at q; exact h1 vs (Option.some.inj q))]; exact q))
      · exact .inl (.inr ⟨ob, by rw [upd_ne (fun y => by subst y; rw [h] at q; exact h2 ob _ (Option.some.inj q))]; exact q⟩)
      · exact .inr q) (RVs.at hp h h1 h2 t)
  | _, _, .lst q n t => .lst (by rw [upd_ne (fun y => n (by rw [y]; exact hp))]; exact q) n (RVs.at hp h h1 h2 t)
  | _, _, .dct q n t z => .dct (q.at (upd_ne (fun y => n (by rw [y]; exact hp)))) n (RVs.at hp h h1 h2 t) (RVs.at hp h h1 h2 z)
  | _, _, .obj q => .obj q
  | _, _, .fz q => .fz (by
      rcases q with ⟨q | ⟨ob, q⟩, n⟩ | q
      · exact .inl ⟨.inl (by rw [upd_ne (fun y => n (by rw [y]; exact hp))]; exact q), n⟩
      · exact .inl ⟨.inr ⟨ob, by rw [upd_ne (fun y => n (by rw [y]; exact hp))]; exact q⟩, n⟩
      · exact .inr q)
theorem RVs.at {G : Kx} {as : List Addr} {H : Hp} {p : Addr} {o u : HO} (hp : p ∈ as) (h : H p = some u) (h1 : ∀ xs, u ≠ .tup xs) (h2 : ∀ q z, u ≠ .frz q z) : ∀ {v : List V} {d : List D}, RVs G as H v d → RVs G as (upd H p o) v d
  | _, _, .nil => .nil
  | _, _, .cons a b => .cons (RV.at hp h h1 h2 a) (RVs.at hp h h1 h2 b)
end
theorem CellAt.at_ {G : Kx} {as : List Addr} {H : Hp} {p a : Addr} {o u : HO} {c : Cell} (hp : p ∈ as) (h : H p = some u) (h1 : ∀ xs, u ≠ .tup xs) (h2 : ∀ q z, u ≠ .frz q z) (ne : a ≠ p) (q : CellAt G as H a c) : CellAt G as (upd H p o) a c := by
  have e : upd H p o a = H a := upd_ne ne
  cases c with
  | lst f xs => obtain ⟨vs, z, t⟩ := q; exact ⟨vs, e.trans z, t.at hp h h1 h2⟩
  | dct f ks vs => obtain ⟨kvs, vvs, d, z, t⟩ := q; exact ⟨kvs, vvs, d.at e, z.at hp h h1 h2, t.at hp h h1 h2⟩
  | ins c fs => obtain ⟨dx, fvs, z, n, t⟩ := q; exact ⟨dx, fvs, e.trans z, n, t.at hp h h1 h2⟩
  | hid => obtain ⟨x, z, t⟩ := q; exact ⟨x, e.trans z, t⟩
theorem Rel.at {G : Kx} {as : List Addr} {M : Mem} {H : Hp} {p : Addr} {o u : HO} {k : Nat} (r : Rel G as M H) (hk : as[k]? = some p) (hc : M.c[k]? = some .hid) (h : H p = some u) (h1 : ∀ xs, u ≠ .tup xs) (h2 : ∀ q z, u ≠ .frz q z) (h3 : ∀ xs, o ≠ .tup xs) (h4 : ∀ q z, o ≠ .frz q z) : Rel G as M (upd H p o) where
  len := r.len
  nd := r.nd
  bl := r.bl
  cell := fun j a c e1 e2 => by
    by_cases q : a = p
    · subst q
      have := nd_ix r.nd hk e1
      subst this
      rw [hc] at e2; cases e2
      exact ⟨o, upd_same, h3, h4⟩
    · exact (r.cell j a c e1 e2).at_ (List.mem_of_getElem? hk) h h1 h2 q
  tab := fun p' hp => let ⟨⟨ps, e, t⟩, n⟩ := r.tab p' hp; ⟨⟨ps, by rw [upd_ne (ne_at hk n)]; exact e, t⟩, n⟩
theorem sqt_at {G : Kx} {H : Hp} {p a : Addr} {o u : HO} {vs : List V} (h : H p = some u) (h1 : ∀ xs, u ≠ .tup xs) (h2 : ∀ q z, u ≠ .frz q z) (q : SqT G.K H a vs) : SqT G.K (upd H p o) a vs := by
  rcases q with (q | ⟨ob, q⟩) | q
  · exact .inl (.inl (by rw [upd_ne (fun y => by subst y; rw [h] at q; exact h1 vs (Option.some.inj q))]; exact q))
  · exact .inl (.inr ⟨ob, by rw [upd_ne (fun y => by subst y; rw [h] at q; exact h2 ob _ (Option.some.inj q))]; exact q⟩)
  · exact .inr q
/-! ### what an iterator yields -/
structure Itm0 (G : Kx) (as0 : List Addr) (M0 : Mem) (H0 : Hp) (J : It) (ds : List D) : Prop where
  go : ∀ i as M H, Stp as0 M0 H0 as M H → Rel G as M H → i < ds.length → J.go i H
  stop : ∀ i as M H, Stp as0 M0 H0 as M H → Rel G as M H → ds.length ≤ i → J.stop i H
  yld : ∀ (i : Nat) as M H x H' d, Stp as0 M0 H0 as M H → Rel G as M H → ds[i]? = some d → J.yld i H x H' → Grow H H' ∧ RV G as H' x d
structure Itm (G : Kx) (as0 : List Addr) (M0 : Mem) (H0 : Hp) (J : It) (ds : List D) : Prop extends Itm0 G as0 M0 H0 J ds where
  more : ∀ (k : Nat) p o, as0[k]? = some p → M0.c[k]? = some .hid → (∀ xs, o ≠ .tup xs) → (∀ q z, o ≠ .frz q z) → Itm0 G as0 M0 (upd H0 p o) J ds
abbrev Ix := Sl → Mem → Res (List D × Option Nat)
/-- M' is M, or M with the place k locked for the walk -/
def Lk (as : List Addr) (fz : Option Nat) (M M' : Mem) : Prop :=
  match fz with
  | none => M = M'
  | some k => ∃ a c c', as[k]? = some a ∧ M.c[k]? = some c ∧ c.frz = false ∧ M' = M.set k c' ∧ ∀ n, c'.refsLt n = c.refsLt n
def PostI (G : Kx) (W : WX) (σ : L2.St) (as : List Addr) (M : Mem) (H : Hp) (R : It → Hp → Prop) : Res (List D × Option Nat) → Prop
  | .ok (ds, fz) M' => ∀ as' H' J Mb, Stp as M H as' Mb H' → Lk as' fz Mb M' → Rel G as' M' H' → Itm G as' M' H' J ds → R J H'
  | .exc c fs M' => ∀ as' H' od, Stp as M H as' M' H' → Rel G as' M' H' → RX G as' H' od c fs → W (.ref (G.T.xc c)) od σ H'
  | .bad => False
def tI (G : Kx) (W : WX) (t : Ix) : TI := fun σ H R => ∃ as M e, Rel G as M H ∧ RSl G as H σ e ∧ PostI G W σ as M H R (t e M)
abbrev SI (X : Cx) (T : Tb) (W : WX) (tg iter : Expr) (t : Ix) : Prop := PI X tg iter (tI (gx X T) W t)
theorem PostI.re {G : Kx} {W : WX} {σ : L2.St} {as as1 : List Addr} {M M1 : Mem} {H H1 : Hp} {R : It → Hp → Prop} {r : Res (List D × Option Nat)} (s : Stp as M H as1 M1 H1) (h : PostI G W σ as M H R r) : PostI G W σ as1 M1 H1 R r := by
  cases r with
  | ok d M' => exact fun a b v c t => h a b v c (s.trans t)
  | exc c fs M' => exact fun a b v t => h a b v (s.trans t)
  | bad => exact h
def frzC : Cell → Cell
  | .lst _ xs => .lst true xs
  | .dct _ ks vs => .dct true ks vs
  | c => c
def thawC : Cell → Cell
  | .lst _ xs => .lst false xs
  | .dct _ ks vs => .dct false ks vs
  | c => c
/-- the signs of a text -/
def signs (z : Str) : List D := z.cps.toList.map fun c => .str ⟨#[c]⟩
def iterD (x : D) (M : Mem) : Res (List D × Option Nat) :=
  match x with
  | .tup xs => .ok (xs, none) M
  | .lst xs => .ok (xs, none) M
  | .dct ks _ => .ok (ks, none) M
  | .str z => .ok (signs z, none) M
  | .obj k => match M.c[k]? with
    | some (.lst f xs) => if f then .ok (xs, none) M else .ok (xs, some k) (M.set k (.lst true xs))
    | some (.dct f ks vs) => if f then .ok (ks, none) M else .ok (ks, some k) (M.set k (.dct true ks vs))
    | _ => .bad
  | _ => .bad
def iEx (t : Ex) : Ix := fun e M => (t e M).bind fun x M1 => iterD x M1
section
variable {G : Kx} {as : List Addr} {M : Mem} {H : Hp}
theorem itm0_list {a : Addr} {vs : List V} {ds : List D} (r : Rel G as M H) (h : H a = some (.lst vs)) (hw : ¬ Wr as M a) (q : RVs G as H vs ds) : Itm0 G as M H (Itl G.K a) ds where
  go := fun i as' M' H' s r' hi => by
    obtain ⟨v, e, _⟩ := q.get (List.getElem?_eq_getElem hi)
    exact ⟨vs, v, .inl (.inl (s.keep a _ h hw)), e⟩
  stop := fun i as' M' H' s r' hi => ⟨vs, .inl (.inl (s.keep a _ h hw)), by rw [q.len]; exact hi⟩
  yld := fun i as' M' H' x H2 d s r' hd hy => by
    obtain ⟨rfl, hy⟩ := hy
    obtain ⟨v, e, rv⟩ := q.get hd
    have := hy vs (.inl (.inl (s.keep a _ h hw)))
    rw [e] at this; cases this
    exact ⟨Grow.refl _, rv.step r s⟩
theorem itm0_tup {a : Addr} {vs : List V} {ds : List D} (r : Rel G as M H) (h : SqT G.K H a vs) (q : RVs G as H vs ds) : Itm0 G as M H (Itt G.K a) ds where
  go := fun i as' M' H' s r' hi => by
    obtain ⟨v, e, _⟩ := q.get (List.getElem?_eq_getElem hi)
    exact ⟨vs, v, s.sqt r h, e⟩
  stop := fun i as' M' H' s r' hi => ⟨vs, s.sqt r h, by rw [q.len]; exact hi⟩
  yld := fun i as' M' H' x H2 d s r' hd hy => by
    obtain ⟨rfl, hy⟩ := hy
    obtain ⟨v, e, rv⟩ := q.get hd
    have := hy vs (s.sqt r h)
    rw [e] at this; cases this
    exact ⟨Grow.refl _, rv.step r s⟩
theorem itm0_dict {a : Addr} {ep : Nat} {raw : List (D × V × V)} (r : Rel G as M H) (h : H a = some (dictO G.w a ep raw)) (hw : ¬ Wr as M a) (q : RVs G as H (raw.map (·.2.1)) (raw.map (·.1))) : Itm0 G as M H (ItD G.w a ep raw) (raw.map (·.1)) where
  go := fun i as' M' H' s r' hi => ⟨s.keep a _ h hw, by simpa using hi⟩
  stop := fun i as' M' H' s r' hi => ⟨s.keep a _ h hw, by simpa using hi⟩
  yld := fun i as' M' H' x H2 d s r' hd hy => by
    obtain ⟨rfl, rr, e, rfl⟩ := hy
    obtain ⟨v, e2, rv⟩ := q.get hd
    rw [List.getElem?_map, e] at e2
    cases e2
    exact ⟨Grow.refl _, rv.step r s⟩
theorem itm0_str {z : Str} (hz : PyData.strOk z = true) : Itm0 G as M H (Its z) (signs z) where
  go := fun i as' M' H' s r' hi => by simpa [signs, Its] using hi
  stop := fun i as' M' H' s r' hi => by simpa [signs, Its] using hi
  yld := fun i as' M' H' x H2 d s r' hd hy => by
    obtain ⟨rfl, c, e, rfl⟩ := hy
    unfold signs at hd
    rw [List.getElem?_map, Array.getElem?_toList, e] at hd
    cases hd
    refine ⟨Grow.refl _, .str _ ?_⟩
    unfold PyData.strOk at hz ⊢
    rw [Array.all_eq_true_iff_forall_mem] at hz
    have := hz c (Array.mem_of_getElem? e)
    simpa using this
/-- no hidden place -/
def Nh (as : List Addr) (M : Mem) (a : Addr) : Prop := ∀ k : Nat, as[k]? = some a → M.c[k]? ≠ some .hid
theorem nh_of {a : Addr} (h : a ∉ as) : Nh as M a := fun k e => (h (List.mem_of_getElem? e)).elim
theorem nh_cell {a : Addr} {k : Nat} {c : Cell} (nd : as.Nodup) (hk : as[k]? = some a) (hc : M.c[k]? = some c) (hn : c ≠ .hid) : Nh as M a := fun j e z => by
  have := nd_ix nd hk e
  subst this
  rw [hc] at z; cases z; exact hn rfl
theorem Rel.hidk (r : Rel G as M H) {k : Nat} {p : Addr} (hk : as[k]? = some p) (hc : M.c[k]? = some .hid) : ∃ u, H p = some u ∧ (∀ xs, u ≠ .tup xs) ∧ ∀ q z, u ≠ .frz q z := r.cell k p _ hk hc
theorem itm_list {a : Addr} {vs : List V} {ds : List D} (r : Rel G as M H) (h : H a = some (.lst vs)) (hw : ¬ Wr as M a) (hh : Nh as M a) (q : RVs G as H vs ds) : Itm G as M H (Itl G.K a) ds where
  toItm0 := itm0_list r h hw q
  more := fun k p o hk hc h1 h2 => by
    obtain ⟨u, e, k1, k2⟩ := r.hidk hk hc
    have ne : a ≠ p := fun z => hh k (by rw [z]; exact hk) hc
    exact itm0_list (r.at hk hc e k1 k2 h1 h2) (by rw [upd_ne ne]; exact h) hw (q.at (List.mem_of_getElem? hk) e k1 k2)
theorem itm_tup {a : Addr} {vs : List V} {ds : List D} (r : Rel G as M H) (h : SqT G.K H a vs) (q : RVs G as H vs ds) : Itm G as M H (Itt G.K a) ds where
  toItm0 := itm0_tup r h q
  more := fun k p o hk hc h1 h2 => by
    obtain ⟨u, e, k1, k2⟩ := r.hidk hk hc
    exact itm0_tup (r.at hk hc e k1 k2 h1 h2) (sqt_at e k1 k2 h) (q.at (List.mem_of_getElem? hk) e k1 k2)
theorem itm_dict {a : Addr} {ep : Nat} {raw : List (D × V × V)} (r : Rel G as M H) (h : H a = some (dictO G.w a ep raw)) (hw : ¬ Wr as M a) (hh : Nh as M a) (q : RVs G as H (raw.map (·.2.1)) (raw.map (·.1))) : Itm G as M H (ItD G.w a ep raw) (raw.map (·.1)) where
  toItm0 := itm0_dict r h hw q
  more := fun k p o hk hc h1 h2 => by
    obtain ⟨u, e, k1, k2⟩ := r.hidk hk hc
    have ne : a ≠ p := fun z => hh k (by rw [z]; exact hk) hc
    exact itm0_dict (r.at hk hc e k1 k2 h1 h2) (by rw [upd_ne ne]; exact h) hw (q.at (List.mem_of_getElem? hk) e k1 k2)
theorem itm_str {z : Str} (hz : PyData.strOk z = true) : Itm G as M H (Its z) (signs z) where
  toItm0 := itm0_str hz
  more := fun k p o hk hc h1 h2 => itm0_str hz
/-- a place is locked for a walk -/
theorem frz_stp {k : Nat} {a : Addr} {c c' : Cell} (hk : as[k]? = some a) (hc : M.c[k]? = some c) (hf : c.frz = false) (hr : ∀ n, c'.refsLt n = c.refsLt n) : Stp as M H as (M.set k c') H where
  pre := fun _ _ h => h
  new := fun _ h => .inl h
  keep0 := fun b u e n _ => e
  tbk := fun b ps e _ => ⟨ps, e⟩
  frz := fun b _ ⟨j, x, e1, e2, f⟩ => by
    by_cases q : j = k
    · subst q
      rw [hk] at e1; cases e1
      exact ⟨j, c, hk, hc, hf⟩
    · refine ⟨j, x, e1, ?_, f⟩
      unfold Mem.set at e2
      rw [List.getElem?_set_ne (Ne.symm q)] at e2
      exact e2
  b := rfl
  low := fun n hn h j x hj e => by
    unfold Mem.set at e
    by_cases q : k = j
    · subst q
      rw [List.getElem?_set_self (List.getElem?_eq_some_iff.mp hc).1] at e
      cases e
      rw [hr]
      exact h k c hj hc
    · rw [List.getElem?_set_ne q] at e
      exact h j x hj e
  hd := fun j h => by
    unfold Mem.set
    by_cases q : k = j
    · subst q
      rw [hc] at h; cases h; cases hf
    · rw [List.getElem?_set_ne q]; exact h
theorem cell_rel {k : Nat} {a : Addr} {c c' : Cell} (r : Rel G as M H) (hk : as[k]? = some a) (hc : M.c[k]? = some c) (hn : CellAt G as H a c → CellAt G as H a c') : Rel G as (M.set k c') H where
  len := by simp [Mem.set, r.len]
  nd := r.nd
  bl := by simp [Mem.set]; exact r.bl
  cell := fun j b x e1 e2 => by
    unfold Mem.set at e2
    by_cases q : k = j
    · subst q
      rw [List.getElem?_set_self (List.getElem?_eq_some_iff.mp hc).1] at e2
      cases e2
      rw [hk] at e1; cases e1
      exact hn (r.cell k a c hk hc)
    · rw [List.getElem?_set_ne q] at e2
      exact r.cell j b x e1 e2
  tab := r.tab
theorem frz_nwr {k : Nat} {a : Addr} {c : Cell} (nd : as.Nodup) (hk : as[k]? = some a) (hc : M.c[k]? = some c) (hf : c.frz = true) : ¬ Wr as M a := fun ⟨j, x, e1, e2, f⟩ => by
  have := nd_ix nd hk e1
  subst this
  rw [hc] at e2; cases e2
  rw [hf] at f; cases f
end
section
variable {X : Cx} {T : Tb} {W : WX} {tg : Expr}
theorem iter_any {pins : List (Addr × Obj)} {s : Shared} {σ σ₀ : L2.St} {H : Hp} {as : List Addr} {M : Mem} {x : D} {v : V} {u : Value} {R : It → Hp → Prop} (I : Inv X pins σ H s) (r : Rel (gx X T) as M H) (rx : RV (gx X T) as H v x) (ru : RelV v u) (h : PostI (gx X T) W σ₀ as M H R (iterD x M)) :
    wpAny (model X.prog X.w) X.A (pyIter u) (PIE X pins σ tg R) X.xe s := by
  have lst : ∀ (a : Addr) (vs : List V), SqL X.K H a vs → R (Itl X.K a) H → wpAny (model X.prog X.w) X.A (pyIter (.ref a)) (PIE X pins σ tg R) X.xe s := fun a vs hq q => by
    obtain ⟨its, rv, p, hz⟩ := I.list hq
    refine wpAny_pyIter_list p.isList ?_
    exact pi_one (tk := s.toks) I _ (turn_list a _) ⟨_, Heap.get?_push_size _ rfl, rfl, rfl⟩ q
  have dct : ∀ (a : Addr) (ks : List D) (kvs vvs : List V), DictAt (gx X T) H a ks kvs vvs → (∀ ep raw, H a = some (dictO X.w a ep raw) → ks = raw.map (·.1) → kvs = raw.map (·.2.1) → R (ItD X.w a ep raw) H) → wpAny (model X.prog X.w) X.A (pyIter (.ref a)) (PIE X pins σ tg R) X.xe s := fun a ks kvs vvs hd q => by
    obtain ⟨ep, raw, e, e1, e2, e3, nd, hkey, hl, hs⟩ := hd
    obtain ⟨⟨o, es, g1, g2, g3, g4⟩, _⟩ := (show ObjOk X.prog X.w H s.heap a (dictO X.w a ep raw) from I.hok a _ e)
    have hlen := Paired.length g4
    refine iter_keys hs g1 g2 g3 (pi_one (tk := s.toks) I _ (turn_dict _) ⟨_, Heap.get?_push_size _ rfl, rfl, ?_⟩ (q ep raw e e1 e2))
    have : raw.length = es.size := by rw [hlen]; simp
    rw [this]
    rfl
  unfold iterD at h
  split at h
  · obtain ⟨a, vs, rfl, h1, h2⟩ := tup_ok rx
    cases ru
    obtain ⟨its, rv, p, hz⟩ := I.tuple h1
    refine wpAny_pyIter_tuple (show s.heap.IsTuple a its.toArray from p) ?_
    exact pi_one (tk := s.toks) I _ (turn_tuple a _) ⟨_, Heap.get?_push_size _ rfl, rfl, rfl⟩ (h as H _ M Stp.refl rfl r (itm_tup r h1 h2))
  · cases rx with
    | lst h1 h2 h3 =>
      cases ru
      exact lst _ _ (.inl (.inl h1)) (h as H _ M Stp.refl rfl r (itm_list r h1 (nwr_of h2) (nh_of h2) h3))
  · cases rx with
    | dct h1 h2 h3 h4 =>
      cases ru
      refine dct _ _ _ _ h1 fun ep raw e e1 e2 => ?_
      subst e1 e2
      exact h as H _ M Stp.refl rfl r (itm_dict r e (nwr_of h2) (nh_of h2) h3)
  · cases rx with
    | str z hz =>
      obtain ⟨t, rfl⟩ := ru
      have q := h as H _ M Stp.refl rfl r (itm_str hz)
      rename_i z
      cases ha : z.cps.all (· < 128)
      · exact wpAny_pyIter_wide ha (pi_one (tk := s.toks) I _ (turn_str _ z t "str_iterator" (.inr rfl)) ⟨_, Heap.get?_push_size _ rfl, rfl, rfl⟩ q)
      · exact wpAny_pyIter_ascii ha (pi_one (tk := s.toks) I _ (turn_str _ z t "str_ascii_iterator" (.inl rfl)) ⟨_, Heap.get?_push_size _ rfl, rfl, rfl⟩ q)
  · obtain ⟨a, rfl, hk⟩ := obj_ok rx
    cases ru
    split at h
    · rename_i f xs hc
      obtain ⟨vs, e1, e2⟩ := r.cell _ a _ hk hc
      split at h
      · rename_i hf
        subst hf
        exact lst _ _ (.inl (.inl e1)) (h as H _ M Stp.refl rfl r (itm_list r e1 (frz_nwr r.nd hk hc rfl) (nh_cell r.nd hk hc (by intro z; cases z)) e2))
      · rename_i hf
        have hf : f = false := by simpa using hf
        subst hf
        have st := frz_stp (H := H) (c' := .lst true xs) hk hc rfl fun n => rfl
        have rl := cell_rel (c' := .lst true xs) r hk hc fun q => q
        have hc2 : (M.set _ (.lst true xs)).c[_]? = some (Cell.lst true xs) := List.getElem?_set_self (List.getElem?_eq_some_iff.mp hc).1
        refine lst _ _ (.inl (.inl e1)) (h as H _ M Stp.refl ⟨a, _, _, hk, hc, rfl, rfl, fun n => rfl⟩ rl (itm_list rl e1 (frz_nwr (c := .lst true xs) rl.nd hk hc2 rfl) (nh_cell rl.nd hk hc2 (by intro z; cases z)) e2))
    · rename_i f ks vs hc
      obtain ⟨kvs, vvs, e1, e2, e3⟩ := r.cell _ a _ hk hc
      split at h
      · rename_i hf
        subst hf
        refine dct _ _ _ _ e1 fun ep raw e q1 q2 => ?_
        subst q1 q2
        exact h as H _ M Stp.refl rfl r (itm_dict r e (frz_nwr r.nd hk hc rfl) (nh_cell r.nd hk hc (by intro z; cases z)) e2)
      · rename_i hf
        have hf : f = false := by simpa using hf
        subst hf
        have st := frz_stp (H := H) (c' := .dct true ks vs) hk hc rfl fun n => rfl
        have rl := cell_rel (c' := .dct true ks vs) r hk hc fun q => q
        have hc2 : (M.set _ (.dct true ks vs)).c[_]? = some (Cell.dct true ks vs) := List.getElem?_set_self (List.getElem?_eq_some_iff.mp hc).1
        refine dct _ _ _ _ e1 fun ep raw e q1 q2 => ?_
        subst q1 q2
        refine h as H _ M Stp.refl ⟨a, _, _, hk, hc, rfl, rfl, fun n => rfl⟩ rl (itm_dict rl e (frz_nwr rl.nd hk hc2 rfl) (nh_cell rl.nd hk hc2 (by intro z; cases z)) e2)
    · exact h.elim
  · exact h.elim
/-- any expression, walked -/
theorem si_any {l : Expr} {t : Ex} (hl : SE X T W l t) : SI X T W tg l (iEx t) := by
  refine ⟨fun pins s σ H R I ⟨as, M, e, r, q, h⟩ => ?_⟩
  refine thn (hl.run pins s σ H (fun v H1 => ∃ as1 M1 x, Rel (gx X T) as1 M1 H1 ∧ RV (gx X T) as1 H1 v x ∧ PostI (gx X T) W σ as1 M1 H1 R (iterD x M1)) I ?_) fun u s1 ⟨v, H1, I1, ru, as1, M1, x, r1, rx, h1⟩ => iter_any I1 r1 rx ru h1
  refine ⟨as, M, e, r, q, ?_⟩
  unfold iEx at h
  cases ht : t e M with
  | ok d M' =>
    rw [ht] at h
    exact fun as1 H1 v s1 r1 rv => ⟨as1, M', d, r1, rv, PostI.re s1 h⟩
  | exc c fs M' => rw [ht] at h; exact h
  | bad => rw [ht] at h; exact h
/-! ### range -/
def rng (lo : Int) (n : Nat) : List D := (List.range n).map fun (i : Nat) => .int (lo + (i : Int))
def small62 (i : Int) : Bool := decide (-(2 ^ 62) ≤ i) && decide (i < 2 ^ 62)
def iR1 (t : Ax) : Ix := fun e M => (t e M).bind fun xs M1 => match xs with
  | [.int j] => if small62 j then .ok (rng 0 j.toNat, none) M1 else .bad
  | _ => .bad
def iR2 (t : Ax) : Ix := fun e M => (t e M).bind fun xs M1 => match xs with
  | [.int i, .int j] => if small62 i && small62 j then .ok (rng i (j - i).toNat, none) M1 else .bad
  | _ => .bad
theorem itm0_rng {G : Kx} {as : List Addr} {M : Mem} {H : Hp} (lo : Int) (n : Nat) : Itm0 G as M H (Itr lo n) (rng lo n) where
  go := fun i as' M' H' s r' hi => by simpa [rng, Itr] using hi
  stop := fun i as' M' H' s r' hi => by simpa [rng, Itr] using hi
  yld := fun i as' M' H' x H2 d s r' hd hy => by
    obtain ⟨rfl, rfl⟩ := hy
    unfold rng at hd
    rw [List.getElem?_map] at hd
    have hi : i < n := by
      by_cases q : i < n
      · exact q
      · rw [List.getElem?_eq_none (by simpa using q)] at hd; cases hd
    rw [List.getElem?_range hi] at hd
    cases hd
    exact ⟨Grow.refl _, .int _⟩
theorem itm_rng {G : Kx} {as : List Addr} {M : Mem} {H : Hp} (lo : Int) (n : Nat) : Itm G as M H (Itr lo n) (rng lo n) where
  toItm0 := itm0_rng lo n
  more := fun k p o hk hc h1 h2 => itm0_rng lo n
theorem bindAI {G : Kx} {σ : L2.St} {as : List Addr} {M : Mem} {H : Hp} {R : It → Hp → Prop} {S : List V → Hp → Prop} {t : Ax} {k : List D → Mem → Res (List D × Option Nat)} {e : Sl} (r : Rel G as M H) (q : RSl G as H σ e) (h : PostI G W σ as M H R ((t e M).bind k))
    (hk : ∀ d v as' M' H', Rel G as' M' H' → Stp as M H as' M' H' → RVs G as' H' v d → PostI G W σ as' M' H' R (k d M') → S v H') : tA G W t σ H S := by
  refine ⟨as, M, e, r, q, ?_⟩
  cases ht : t e M with
  | ok d M' =>
    rw [ht] at h
    exact fun a b v s r' rv => hk d v a M' b r' s rv (PostI.re s h)
  | exc c fs M' => rw [ht] at h; exact h
  | bad => rw [ht] at h; exact h
theorem _root_.L2.PI.weak {X : Cx} {tg e : Expr} {t t' : TI} (h : PI X tg e t) (w : ∀ σ H R, t' σ H R → t σ H R) : PI X tg e t' := ⟨fun pins s σ H R I q => h.run pins s σ H R I (w σ H R q)⟩
theorem small_of {i : Int} (h : small62 i = true) : -(2 ^ 62) ≤ i ∧ i < 2 ^ 62 := by simpa [small62] using h
theorem si_r1 {a : Expr} {t : Ax} {p pos : Pos} (hm : X.mg "range" = none) (ha : SA X T W [a] t) (hg : Gl X "range" := by rfl) (hs : starEach [a] X.env = [(false, eval a X.env)] := by rfl) : SI X T W tg (.Call (.Name "range" p) [a] [] pos) (iR1 t) :=
  (pi_range1 hg hm ha hs).weak fun σ H R ⟨as, M, e, r, q, h⟩ => bindAI r q h fun ds vs as1 M1 H1 r1 s1 rvs h1 => by
    split at h1
    · split at h1
      · rename_i j hj
        cases rvs with
        | cons p1 p2 =>
          cases p1; cases p2
          exact ⟨j, rfl, (small_of hj).1, (small_of hj).2, h1 as1 H1 _ M1 Stp.refl rfl r1 (itm_rng 0 j.toNat)⟩
      · exact h1.elim
    · exact h1.elim
theorem si_r2 {a b : Expr} {t : Ax} {p pos : Pos} (hm : X.mg "range" = none) (ha : SA X T W [a, b] t) (hg : Gl X "range" := by rfl) (hs : starEach [a, b] X.env = [(false, eval a X.env), (false, eval b X.env)] := by rfl) (hs2 : starEach [b] X.env = [(false, eval b X.env)] := by rfl) : SI X T W tg (.Call (.Name "range" p) [a, b] [] pos) (iR2 t) :=
  (pi_range2 hg hm ha hs hs2).weak fun σ H R ⟨as, M, e, r, q, h⟩ => bindAI r q h fun ds vs as1 M1 H1 r1 s1 rvs h1 => by
    split at h1
    · split at h1
      · rename_i i j hj
        simp only [Bool.and_eq_true] at hj
        cases rvs with
        | cons p1 p2 =>
          cases p2 with
          | cons p3 p4 =>
            cases p1; cases p3; cases p4
            exact ⟨i, j, rfl, ⟨(small_of hj.1).1, (small_of hj.1).2, (small_of hj.2).1, (small_of hj.2).2⟩, h1 as1 H1 _ M1 Stp.refl rfl r1 (itm_rng i (j - i).toNat)⟩
      · exact h1.elim
    · exact h1.elim
end
end EV

set_option Elab.async false
set_option linter.all false
set_option autoImplicit false
set_option maxRecDepth 100000
set_option maxHeartbeats 4000000
namespace EV
open PySem PySem.Spec PyProof.Rows L2
/-! ### for -/
def forL (g : Gt) (body : Sx) : List D → Sl → Mem → Fl
  | [], e, M => .nx e M
  | d :: ds, e, M => match g d e M with
    | none => .bad
    | some e1 => match body e1 M with
      | .nx e2 M2 => forL g body ds e2 M2
      | .ct e2 M2 => forL g body ds e2 M2
      | .bk e2 M2 => .nx e2 M2
      | .rt d M2 => .rt d M2
      | .exc c fs e2 M2 => .exc c fs e2 M2
      | .bad => .bad
/-- a walked place is given free again -/
def thaw (k : Nat) (M : Mem) : Option Mem :=
  match M.c[k]? with
  | some (.lst true xs) => some (M.set k (.lst false xs))
  | some (.dct true ks vs) => some (M.set k (.dct false ks vs))
  | _ => none
def thawO (fz : Option Nat) (M : Mem) : Option Mem :=
  match fz with
  | none => some M
  | some k => thaw k M
def Fl.thaw (fz : Option Nat) (r : Fl) : Fl :=
  match r with
  | .nx e M => match thawO fz M with
    | some M1 => .nx e M1
    | none => .bad
  | .rt d M => match thawO fz M with
    | some M1 => .rt d M1
    | none => .bad
  | .exc c fs e M => match thawO fz M with
    | some M1 => .exc c fs e M1
    | none => .bad
  | _ => .bad
def sFor (it : Ix) (g : Gt) (body : Sx) : Sx := fun e M => match it e M with
  | .ok (ds, fz) M1 => (forL g body ds e M1).thaw fz
  | .exc c fs M1 => .exc c fs e M1
  | .bad => .bad
/-- the place k may be written -/
def Locked (as : List Addr) (fz : Option Nat) (M : Mem) : Prop :=
  match fz with
  | none => True
  | some k => ∃ a c, as[k]? = some a ∧ M.c[k]? = some c ∧ c.frz = false
theorem Lk.locked {as : List Addr} {fz : Option Nat} {M M1 : Mem} (h : Lk as fz M M1) : Locked as fz M := by
  cases fz with
  | none => exact True.intro
  | some k => obtain ⟨a, c, c', h1, h2, h3, _⟩ := h; exact ⟨a, c, h1, h2, h3⟩
theorem Lk.stp {as : List Addr} {fz : Option Nat} {M M1 : Mem} {H : Hp} (h : Lk as fz M M1) : Stp as M H as M1 H := by
  cases fz with
  | none => cases h; exact Stp.refl
  | some k => obtain ⟨a, c, c', h1, h2, h3, rfl, h5⟩ := h; exact frz_stp h1 h2 h3 h5
section
variable {G : Kx} {W : WX} {as as1 as' : List Addr} {M M1 M' M2 : Mem} {H H1 H' : Hp} {fz : Option Nat}
theorem thaw_ok (L : Locked as fz M) (s : Stp as M H as' M' H') (r : Rel G as' M' H') (h : thawO fz M' = some M2) : Stp as M H as' M2 H' ∧ Rel G as' M2 H' := by
  cases fz with
  | none => cases h; exact ⟨s, r⟩
  | some k =>
    obtain ⟨a, c, hk, hc, hf⟩ := L
    have hk' := s.pre k a hk
    have key : ∀ c1 c2 : Cell, M'.c[k]? = some c1 → (∀ n, c2.refsLt n = c1.refsLt n) → (CellAt G as' H' a c1 → CellAt G as' H' a c2) → Stp as M H as' (M'.set k c2) H' ∧ Rel G as' (M'.set k c2) H' := fun c1 c2 e1 e2 e3 => by
      refine ⟨⟨s.pre, s.new, s.keep0, s.tbk, fun b hb ⟨j, x, q1, q2, q3⟩ => ?_, s.b, fun n hn hl j x hj q => ?_, fun j q => ?_⟩, cell_rel r hk' e1 e3⟩
      · by_cases q : k = j
        · subst q
          rw [hk'] at q1; cases q1
          exact ⟨k, c, hk, hc, hf⟩
        · refine s.frz b hb ⟨j, x, q1, ?_, q3⟩
          unfold Mem.set at q2
          rw [List.getElem?_set_ne q] at q2
          exact q2
      · have h0 := s.low n hn hl
        unfold Mem.set at q
        by_cases z : k = j
        · subst z
          rw [List.getElem?_set_self (List.getElem?_eq_some_iff.mp e1).1] at q
          cases q
          rw [e2]
          exact h0 k c1 hj e1
        · rw [List.getElem?_set_ne z] at q
          exact h0 j x hj q
      · have z : k ≠ j := fun z => by
          subst z
          rw [hc] at q; cases q; cases hf
        unfold Mem.set
        rw [List.getElem?_set_ne z]
        exact s.hd j q
    simp only [thawO, thaw] at h
    split at h
    · rename_i e1; cases h; exact key _ _ e1 (fun n => rfl) fun q => q
    · rename_i e1; cases h; exact key _ _ e1 (fun n => rfl) fun q => q
    · cases h
end
section
variable {X : Cx} {T : Tb} {W : WX} {pos : Pos} {tg iter : Expr} {body : List Stmt} {g : Gt} {it : Ix} {tb : Sx}
theorem ss_for (hp : PassesOwn (model X.prog X.w) X.A X.env X.xe) (hc : X.calm = true) {sl : List Nat} (hi : SI X T W tg iter it) (hg : SG X T tg sl g) (hb : SB X T W body tb) (hs : ∀ x, foldedSetIterable iter X.env x = pure x := by intro _; rfl) :
    SS X T W (.For tg iter body [] pos) (sFor it g tb) :=
  (ps_for hp hc hi hg hb hs).weak fun D' σ H ⟨as, M, e, r, q, h⟩ => by
    refine ⟨as, M, e, r, q, ?_⟩
    unfold sFor at h
    cases ht : it e M with
    | bad => rw [ht] at h; exact h
    | exc c fs M1 => rw [ht] at h; exact fun a b o s r' rx => h a b σ o s r' (q.step r s) rx
    | ok p M1 =>
      obtain ⟨ds, fz⟩ := p
      rw [ht] at h
      intro as0 H0 J Mb sb lk r0 im
      have L := lk.locked
      have s0 := sb.trans (lk.stp (H := H0))
      have st : ∀ as2 M2 H2, Stp as0 M1 H0 as2 M2 H2 → Stp as0 Mb H0 as2 M2 H2 := fun _ _ _ z => lk.stp.trans z
      -- the end, from any state behind the start
      have endN : ∀ {e' M' as' H' σ'}, PostS (gx X T) W as M H D' (Fl.thaw fz (.nx e' M')) → Stp as0 M1 H0 as' M' H' → Rel (gx X T) as' M' H' → RSl (gx X T) as' H' σ' e' → D'.nx σ' H' := fun {e' M' as' H' σ'} h s r' q' => by
        simp only [Fl.thaw] at h
        split at h
        · rename_i M2 hM
          obtain ⟨s2, r2⟩ := thaw_ok L (st _ _ _ s) r' hM
          exact h as' H' σ' (sb.trans s2) r2 q'
        · exact h.elim
      have endR : ∀ {d M' as' H' v}, PostS (gx X T) W as M H D' (Fl.thaw fz (.rt d M')) → Stp as0 M1 H0 as' M' H' → Rel (gx X T) as' M' H' → RV (gx X T) as' H' v d → D'.rt v H' := fun {d M' as' H' v} h s r' q' => by
        simp only [Fl.thaw] at h
        split at h
        · rename_i M2 hM
          obtain ⟨s2, r2⟩ := thaw_ok L (st _ _ _ s) r' hM
          exact h as' H' v (sb.trans s2) r2 q'
        · exact h.elim
      have endX : ∀ {c fs e' M' as' H' σ' od}, PostS (gx X T) W as M H D' (Fl.thaw fz (.exc c fs e' M')) → Stp as0 M1 H0 as' M' H' → Rel (gx X T) as' M' H' → RSl (gx X T) as' H' σ' e' → RX (gx X T) as' H' od c fs → W (.ref ((gx X T).T.xc c)) od σ' H' := fun {c fs e' M' as' H' σ' od} h s r' q' rx => by
        simp only [Fl.thaw] at h
        split at h
        · rename_i M2 hM
          obtain ⟨s2, r2⟩ := thaw_ok L (st _ _ _ s) r' hM
          exact h as' H' σ' od (sb.trans s2) r2 q' rx
        · exact h.elim
      refine ⟨fun i m σ' H' => ∃ as' M' e', Stp as0 M1 H0 as' M' H' ∧ Rel (gx X T) as' M' H' ∧ RSl (gx X T) as' H' σ' e' ∧ m = ds.length - i ∧ i ≤ ds.length ∧ PostS (gx X T) W as M H D' (Fl.thaw fz (forL g tb (ds.drop i) e' M')),
        ⟨ds.length, as0, M1, e, Stp.refl, r0, q.step r s0, rfl, Nat.zero_le _, h⟩, ?_⟩
      rintro i m σ' H' ⟨as', M', e', s', r', q', rfl, hi, hpost⟩
      by_cases hlt : i < ds.length
      · refine .inr ⟨im.go i as' M' H' s' r' hlt, fun σ2 H2 => ∃ as2 M2 e2, Stp as0 M1 H0 as2 M2 H2 ∧ Rel (gx X T) as2 M2 H2 ∧ RSl (gx X T) as2 H2 σ2 e2 ∧ PostS (gx X T) W as M H D' (Fl.thaw fz (forL g tb (ds.drop (i + 1)) e2 M2)), ?_, ?_⟩
        · rintro σ2 H2 ⟨as2, M2, e2, a1, a2, a3, a4⟩
          exact ⟨ds.length - (i + 1), by omega, as2, M2, e2, a1, a2, a3, rfl, hlt, a4⟩
        · intro x Hx hy
          obtain ⟨gx', rv⟩ := im.yld i as' M' H' x Hx ds[i] s' r' (List.getElem?_eq_getElem hlt) hy
          have sx := gx'.stp (as := as') (M := M')
          have rx := gx'.rel r'
          rw [List.drop_eq_getElem_cons hlt] at hpost
          simp only [forL] at hpost
          refine ⟨as', M', ds[i], e', rx, q'.step r' sx, rv, ?_⟩
          cases hg : g ds[i] e' M' with
          | none => rw [hg] at hpost; exact hpost.elim
          | some e1 =>
            rw [hg] at hpost
            intro σ1 q1 _
            refine ⟨as', M', e1, rx, q1, ?_⟩
            have sx' := s'.trans sx
            simp only at hpost
            cases hbd : tb e1 M' with
            | nx e2 M2 => rw [hbd] at hpost; exact fun a b c s2 r2 q2 => ⟨a, M2, e2, sx'.trans s2, r2, q2, hpost⟩
            | ct e2 M2 => rw [hbd] at hpost; exact fun a b c s2 r2 q2 => ⟨a, M2, e2, sx'.trans s2, r2, q2, hpost⟩
            | bk e2 M2 => rw [hbd] at hpost; exact fun a b c s2 r2 q2 => endN hpost (sx'.trans s2) r2 q2
            | rt d M2 => rw [hbd] at hpost; exact fun a b c s2 r2 q2 => endR hpost (sx'.trans s2) r2 q2
            | exc c fs e2 M2 => rw [hbd] at hpost; exact fun a b c od s2 r2 q2 rx => endX hpost (sx'.trans s2) r2 q2 rx
            | bad => rw [hbd] at hpost; exact hpost
      · have e : i = ds.length := by omega
        subst e
        rw [List.drop_length] at hpost
        exact .inl ⟨im.stop _ as' M' H' s' r' (Nat.le_refl _), endN hpost s' r' q'⟩
end
/-! ### while -/
def whL (c : Tx) (body : Sx) : Nat → Sl → Mem → Fl
  | 0, _, _ => .bad
  | n + 1, e, M => (c e M).thn e fun b M1 => if b then (match body e M1 with
      | .nx e2 M2 => whL c body n e2 M2
      | .ct e2 M2 => whL c body n e2 M2
      | .bk e2 M2 => .nx e2 M2
      | .rt d M2 => .rt d M2
      | .exc c fs e2 M2 => .exc c fs e2 M2
      | .bad => .bad) else .nx e M1
def sWh (n : Nat) (c : Tx) (body : Sx) : Sx := whL c body n
section
variable {X : Cx} {T : Tb} {W : WX} {pos : Pos} {c : Expr} {body : List Stmt} {xc : Tx} {tb : Sx}
theorem ss_wh (n : Nat) (hp : PassesOwn (model X.prog X.w) X.A X.env X.xe) (hc : ST X T W c xc) (hb : SB X T W body tb) : SS X T W (.While c body [] pos) (sWh n xc tb) :=
  (ps_while hp hc hb).weak fun D' σ H ⟨as, M, e, r, q, h⟩ => by
    refine ⟨fun m σ' H' => ∃ as' M' e', Rel (gx X T) as' M' H' ∧ RSl (gx X T) as' H' σ' e' ∧ PostS (gx X T) W as' M' H' D' (whL xc tb m e' M'), ⟨n, as, M, e, r, q, h⟩, ?_⟩
    rintro m σ1 H1 ⟨as1, M1, e1, r1, q1, h1⟩
    cases m with
    | zero => exact h1.elim
    | succ m =>
      simp only [whL] at h1
      refine bindTS r1 q1 h1 fun b as2 M2 H2 r2 q2 s2 h2 => ?_
      cases b with
      | false => exact h2 as2 H2 σ1 Stp.refl r2 q2
      | true =>
        refine ⟨fun σ' H' => ∃ as' M' e', Rel (gx X T) as' M' H' ∧ RSl (gx X T) as' H' σ' e' ∧ PostS (gx X T) W as' M' H' D' (whL xc tb m e' M'), fun σ' H' z => ⟨m, Nat.lt_succ_self m, z⟩, as2, M2, e1, r2, q2, ?_⟩
        simp only [if_true] at h2
        cases hbd : tb e1 M2 with
        | nx e2 M3 => rw [hbd] at h2; exact fun a b c s3 r3 q3 => ⟨a, M3, e2, r3, q3, PostS.re s3 h2⟩
        | ct e2 M3 => rw [hbd] at h2; exact fun a b c s3 r3 q3 => ⟨a, M3, e2, r3, q3, PostS.re s3 h2⟩
        | bk e2 M3 => rw [hbd] at h2; exact h2
        | rt d M3 => rw [hbd] at h2; exact h2
        | exc c fs e2 M3 => rw [hbd] at h2; exact h2
        | bad => rw [hbd] at h2; exact h2
end
end EV

set_option Elab.async false
set_option linter.all false
set_option autoImplicit false
set_option maxRecDepth 100000
set_option maxHeartbeats 4000000
namespace EV
open PySem PySem.Spec PyProof.Rows L2
/-! ### a def's end: the places that it made are dropped -/
def byval (n : Nat) (M : Mem) (d : D) : D :=
  match d with
  | .obj k => if Nat.blt k n then .obj k else match M.c[k]? with
    | some (.lst _ xs) => .lst xs
    | some (.dct _ ks vs) => .dct ks vs
    | _ => .obj k
  | d => d
def finR (tr : Bool) (M0 : Mem) (d : D) (M : Mem) : Res D :=
  if tr then
    if Nat.beq M.c.length M0.c.length then .ok d ⟨M0.b, M.c⟩
    else if refsLt M0.c.length (byval M0.c.length M d) then .ok (byval M0.c.length M d) ⟨M0.b, M.c.take M0.c.length⟩ else .bad
  else .ok d M
def finX (tr : Bool) (M0 : Mem) (c : Nat) (fs : List D) (M : Mem) : Res D :=
  if tr then
    if refsLtL M0.c.length fs then .exc c fs ⟨M0.b, M.c.take M0.c.length⟩ else .bad
  else .exc c fs M
def entM (tr : Bool) (M : Mem) : Mem := if tr then ⟨M.c.length, M.c⟩ else M
def Fl.fin (tr : Bool) (M0 : Mem) (r : Fl) : Res D :=
  match r with
  | .nx _ M => finR tr M0 .non M
  | .rt d M => finR tr M0 d M
  | .exc c fs _ M => finX tr M0 c fs M
  | _ => .bad
def mkFn (N : Nat) (tr : Bool) (body : Sx) : Fn := fun ds M => (body (ds.map some ++ List.replicate (N - ds.length) none) (entM tr M)).fin tr M
section
variable {G : Kx} {as as' : List Addr} {M M' : Mem} {H H' : Hp}
mutual
theorem RV.shrink {n : Nat} : ∀ {v : V} {d : D}, RV G as H v d → refsLt n d = true → RV G (as.take n) H v d
  | _, _, .non, _ => .non
  | _, _, .bl b, _ => .bl b
  | _, _, .int i, _ => .int i
  | _, _, .str x h, _ => .str x h
  | _, _, .tup h q, r => .tup h (RVs.shrink q (by simpa [refsLt] using r))
  | _, _, .lst h n q, r => .lst h (fun z => n (List.mem_of_mem_take z)) (RVs.shrink q (by simpa [refsLt] using r))
  | _, _, .dct h n q t, r => by
    simp only [refsLt, Bool.and_eq_true] at r
    exact .dct h (fun z => n (List.mem_of_mem_take z)) (RVs.shrink q r.1) (RVs.shrink t r.2)
  | _, _, .obj h, r => by
    simp [refsLt, Nat.blt] at r
    exact .obj (by rw [List.getElem?_take_of_lt (by omega)]; exact h)
  | _, _, .fz h, _ => .fz (h.imp (fun z => ⟨z.1, fun y => z.2 (List.mem_of_mem_take y)⟩) id)
theorem RVs.shrink {n : Nat} : ∀ {v : List V} {d : List D}, RVs G as H v d → refsLtL n d = true → RVs G (as.take n) H v d
  | _, _, .nil, _ => .nil
  | _, _, .cons a b, r => by
    simp only [refsLtL, Bool.and_eq_true] at r
    exact .cons (RV.shrink a r.1) (RVs.shrink b r.2)
end
theorem CellAt.shrink {n : Nat} {a : Addr} {c : Cell} (h : CellAt G as H a c) (r : c.refsLt n = true) : CellAt G (as.take n) H a c := by
  cases c with
  | lst f xs => obtain ⟨vs, e, q⟩ := h; exact ⟨vs, e, q.shrink r⟩
  | dct f ks vs =>
    obtain ⟨kvs, vvs, e, q, t⟩ := h
    simp only [Cell.refsLt, Bool.and_eq_true] at r
    exact ⟨kvs, vvs, e, q.shrink r.1, t.shrink r.2⟩
  | ins c fs => obtain ⟨dx, fvs, e, e2, q⟩ := h; exact ⟨dx, fvs, e, e2, q.shrink r⟩
  | hid => exact h
theorem take_pre (r : Rel G as M H) (s : Stp as ⟨M.c.length, M.c⟩ H as' M' H') : as'.take M.c.length = as := by
  apply List.ext_getElem?
  intro k
  by_cases hk : k < M.c.length
  · rw [List.getElem?_take_of_lt hk]
    have hk' : k < as.length := by rw [r.len]; exact hk
    rw [s.pre k _ (List.getElem?_eq_getElem hk'), List.getElem?_eq_getElem hk']
  · rw [List.getElem?_eq_none (by simp; omega), List.getElem?_eq_none (by rw [r.len]; omega)]
theorem wr_same : Wr as ⟨M.c.length, M.c⟩ = Wr as M := rfl
theorem trunc_ok (r : Rel G as M H) (s : Stp as ⟨M.c.length, M.c⟩ H as' M' H') (r' : Rel G as' M' H') : Stp as M H as ⟨M.b, M'.c.take M.c.length⟩ H' ∧ Rel G as ⟨M.b, M'.c.take M.c.length⟩ H' := by
  have tp := take_pre r s
  have hlow : Low M.c.length M'.c := s.low M.c.length (Nat.le_refl _) r.low
  have hlen : M.c.length ≤ M'.c.length := by
    rw [← r'.len, ← r.len]
    have := congrArg List.length tp
    rw [List.length_take, ← r.len] at this
    omega
  refine ⟨⟨fun _ _ h => h, fun _ h => .inl h, fun a o e n => s.keep0 a o e n, s.tbk, fun a ha ⟨k, c, e1, e2, f⟩ => ?_, rfl, fun n hn hl k x hk e => ?_, fun k h => by
    have hk := (List.getElem?_eq_some_iff.mp h).1
    simp only
    rw [List.getElem?_take_of_lt hk]
    exact s.hd k h⟩, ⟨?_, r.nd, ?_, fun k a c e1 e2 => ?_, fun p hp => ⟨(r'.tab p hp).1, (r.tab p hp).2⟩⟩⟩
  · have hk : k < M.c.length := by rw [← r.len]; exact (List.getElem?_eq_some_iff.mp e1).1
    simp only at e2
    rw [List.getElem?_take_of_lt hk] at e2
    exact s.frz a ha ⟨k, c, s.pre k a e1, e2, f⟩
  · have h0 := s.low n (Nat.le_trans hn r.bl) hl
    have := r.bl
    simp only at e
    rw [List.getElem?_take_of_lt (by omega)] at e
    exact h0 k x hk e
  · simp only [List.length_take]
    rw [r.len]
    omega
  · have := r.bl
    simp only [List.length_take]
    omega
  · have hk : k < M.c.length := by rw [← r.len]; exact (List.getElem?_eq_some_iff.mp e1).1
    simp only at e2
    rw [List.getElem?_take_of_lt hk] at e2
    have q := (r'.cell k a c (s.pre k a e1) e2).shrink (hlow k c hk e2)
    rw [tp] at q
    exact q
theorem same_len (r : Rel G as M H) (s : Stp as ⟨M.c.length, M.c⟩ H as' M' H') (r' : Rel G as' M' H') (h : M'.c.length = M.c.length) : as' = as ∧ M'.c.take M.c.length = M'.c := by
  have tp := take_pre r s
  refine ⟨?_, by rw [← h]; exact List.take_length⟩
  rw [← tp, List.take_of_length_le (by rw [r'.len, h]; exact Nat.le_refl _)]
theorem byval_ok {n : Nat} {v : V} {d : D} (r : Rel G as M H) (q : RV G as H v d) (h : refsLt n (byval n M d) = true) : RV G (as.take n) H v (byval n M d) := by
  cases d with
  | obj k =>
    simp only [byval] at h ⊢
    split at h
    · rename_i hk
      rw [if_pos hk]
      exact q.shrink h
    · rename_i hk
      rw [if_neg hk]
      obtain ⟨a, rfl, ha⟩ := obj_ok q
      have hge : n ≤ k := by
        simp [Nat.blt] at hk
        omega
      have nin : a ∉ as.take n := fun z => by
        obtain ⟨j, hj⟩ := List.mem_iff_getElem?.mp z
        have hjn : j < n := by
          have := (List.getElem?_eq_some_iff.mp hj).1
          rw [List.length_take] at this
          omega
        rw [List.getElem?_take_of_lt hjn] at hj
        have := nd_ix r.nd ha hj
        omega
      split
      · rename_i f xs hc
        rw [hc] at h
        obtain ⟨vs, e1, e2⟩ := r.cell k a _ ha hc
        exact .lst e1 nin (e2.shrink (by simpa [refsLt] using h))
      · rename_i f ks vs hc
        rw [hc] at h
        obtain ⟨kvs, vvs, e1, e2, e3⟩ := r.cell k a _ ha hc
        simp only [refsLt, Bool.and_eq_true] at h
        exact .dct e1 nin (e2.shrink h.1) (e3.shrink h.2)
      · rename_i x1 x2
        split at h
        · rename_i f xs hc; exact absurd hc (x1 f xs)
        · rename_i f ks vs hc; exact absurd hc (x2 f ks vs)
        · exact q.shrink h
  | _ => exact q.shrink h
end
/-! ### promises -/
def PostF (G : Kx) (as : List Addr) (M : Mem) (H : Hp) (Q : VK) (E : XK) : Res D → Prop
  | .ok d M' => ∀ as' H' v, Stp as M H as' M' H' → Rel G as' M' H' → RV G as' H' v d → Q v H'
  | .exc c fs M' => ∀ as' H' od, Stp as M H as' M' H' → Rel G as' M' H' → RX G as' H' od c fs → E (.ref (G.T.xc c)) od H'
  | .bad => False
def spF (G : Kx) (n : Nat) (den : Fn) : Sp := fun vs H Q E => vs.length = n ∧ ∃ as M ds, Rel G as M H ∧ RVs G as H vs ds ∧ PostF G as M H Q E (den ds M)
theorem start_rsl {G : Kx} {as : List Addr} {H : Hp} {N : List Str} {vs : List V} {ds : List D} (q : RVs G as H vs ds) : RSl G as H (L2.start N vs) (ds.map some ++ List.replicate (N.length - ds.length) none) := by
  refine ⟨by simp [L2.start, q.len], fun i d h => ?_⟩
  by_cases hi : i < ds.length
  · rw [List.getElem?_append_left (by simpa using hi), List.getElem?_map, List.getElem?_eq_getElem hi] at h
    cases h
    obtain ⟨v, e, rv⟩ := q.get (List.getElem?_eq_getElem hi)
    refine ⟨v, ?_, rv⟩
    unfold L2.start
    rw [List.getElem?_append_left (by simp [q.len]; exact hi), List.getElem?_map, e]
    rfl
  · rw [List.getElem?_append_right (by simpa using hi), List.getElem?_replicate] at h
    split at h <;> cases h
theorem RX.shrink {G : Kx} {as : List Addr} {H : Hp} {od : Option Addr} {c n : Nat} {fs : List D} (h : RX G as H od c fs) (r : refsLtL n fs = true) : RX G (as.take n) H od c fs := by
  unfold RX at h ⊢
  split
  · exact h
  · rename_i hne
    split at h
    · exact absurd rfl (hne)
    · obtain ⟨da, vs, e1, e2, e3, e4⟩ := h
      exact ⟨da, vs, e1, e2, e3.shrink r, fun z => e4 (List.mem_of_mem_take z)⟩
theorem fin_post {G : Kx} {as : List Addr} {M : Mem} {H : Hp} {Q : VK} {E : XK} {tr : Bool} {r : Fl} (rl : Rel G as M H) (h : PostF G as M H Q E (r.fin tr M)) :
    PostS G (fun cls d _ H' => E cls d H') as (entM tr M) H { nx := fun _ H' => Q .non H', rt := Q } r := by
  have ret : ∀ {d : D} {M' : Mem}, PostF G as M H Q E (finR tr M d M') → ∀ as' H' v, Stp as (entM tr M) H as' M' H' → Rel G as' M' H' → RV G as' H' v d → Q v H' := fun {d M'} h as' H' v s r' rv => by
    unfold finR at h
    cases tr with
    | false =>
      simp only [Bool.false_eq_true, if_false] at h
      exact h as' H' v s r' rv
    | true =>
      simp only [if_true] at h
      have s : Stp as ⟨M.c.length, M.c⟩ H as' M' H' := s
      obtain ⟨s2, r2⟩ := trunc_ok rl s r'
      split at h
      · rename_i hl
        obtain ⟨e1, e2⟩ := same_len rl s r' (Nat.eq_of_beq_eq_true hl)
        subst e1
        rw [e2] at s2 r2
        exact h _ H' v s2 r2 rv
      · split at h
        · rename_i hb
          have q := byval_ok r' rv hb
          rw [take_pre rl s] at q
          exact h as H' v s2 r2 q
        · exact h.elim
  cases r with
  | nx e M' => exact fun as' H' σ' s r' q => ret h as' H' .non s r' .non
  | rt d M' => exact ret h
  | exc c fs e M' =>
    intro as' H' σ' od s r' q rx
    simp only [Fl.fin] at h
    unfold finX at h
    cases tr with
    | false =>
      simp only [Bool.false_eq_true, if_false] at h
      exact h as' H' od s r' rx
    | true =>
      simp only [if_true] at h
      have s : Stp as ⟨M.c.length, M.c⟩ H as' M' H' := s
      obtain ⟨s2, r2⟩ := trunc_ok rl s r'
      split at h
      · rename_i hb
        have q := rx.shrink hb
        rw [take_pre rl s] at q
        exact h as H' od s2 r2 q
      · exact h.elim
  | bk e M' => exact h.elim
  | ct e M' => exact h.elim
  | bad => exact h
theorem ent_rel {G : Kx} {as : List Addr} {M : Mem} {H : Hp} (tr : Bool) (r : Rel G as M H) : Rel G as (entM tr M) H := by
  cases tr with
  | false => exact r
  | true => exact ⟨r.len, r.nd, Nat.le_refl _, r.cell, r.tab⟩
section
variable {P : Program} {w : World} {K : PySem.W.Frag} {mg : Str → Option Value} {base : Heap} {T : Tb}
/-- a def keeps the promise of its body's reading -/
theorem fn_ok {x qual : Str} {st : Stmt} {f : Addr} {fd : FuncData} {N ps : List Str} {k : Nat} {tr : Bool} {body : Sx} (F : Fun K x qual st f fd) (S : FnScope N ps (defScope st))
    (hb : ∀ (cdv : Value) (A : Around) (outer : List Env) (s : Shared) (H : Hp) (E : XK), Room k (A.deeper (envOfC qual (defScope st) s.heap.objs.size f cdv)) →
      SB (cxOf (L2.CX P w) P w K mg base N qual (defScope st) f cdv A outer s H E) T (fun cls d _ H' => E cls d H') (defBody st) body) :
    FnOk P w K mg base (L2.CX P w) (k + 1) f fd ps (spF ⟨K, w, P, T⟩ ps.length (mkFn N.length tr body)) := by
  refine F.okX S (fun vs H Q E h => h.1) fun cdv A outer s H vs Q E hr h => ⟨_, hb cdv A outer s H E hr, ?_⟩
  obtain ⟨hl, as, M, ds, r, rvs, hp⟩ := h
  exact ⟨as, entM tr M, _, ent_rel tr r, start_rsl rvs, fin_post r hp⟩
end
/-! ### calls -/
def eCall (den : Fn) (t : Ax) : Ex := fun e M => (t e M).bind fun ds M1 => den ds M1
section
variable {X : Cx} {T : Tb} {W : WX} {k n : Nat} {f : Addr} {fd : FuncData} {ps : List Str} {x : Str} {p pos : Pos} {e : Expr} {es : List Expr} {t : Ax} {den : Fn}
theorem run_den {pins : List (Addr × Obj)} {σ : L2.St} {H : Hp} {s : Shared} {Q : VK} {us : List Value} {vs : List V} {ds : List D} {as : List Addr} {M : Mem} (F : FnOk X.prog X.w X.K X.mg X.base (L2.CX X.prog X.w) k f fd ps (spF (gx X T) ps.length den)) (hr : Room k X.A) (hb : Binds X.K fd ps []) (tk : Takes X W)
    (I : Inv X pins σ H s) (r : Vals vs us) (hl : vs.length = ps.length) (rl : Rel (gx X T) as M H) (rvs : RVs (gx X T) as H vs ds) (h : PostE (gx X T) W σ as M H Q (den ds M)) : wpAny (model X.prog X.w) X.A (call (.ref f) us) (EP X pins σ Q) X.xe s := by
  have hl2 : (us ++ []).length = ps.length := by rw [List.append_nil, ← r.length]; exact hl
  have hbb := hb s us I.kIn hl2
  rw [List.append_nil] at hbb
  refine wpAny_call (codeAny_mono (F.run X.A X.stack s H ⟨us, []⟩ us vs Q (fun cls d H' => W cls d σ H') hr I.env0 hbb r ⟨hl, as, M, ds, rl, rvs, ?_⟩) fun rr s' hq => ?_)
  · cases hd : den ds M with
    | ok d M' => rw [hd] at h; exact h
    | exc c fs M' => rw [hd] at h; exact h
    | bad => rw [hd] at h; exact h
  · cases rr with
    | error u => exact tk u s' (XE.of_call I (fun cls d H' z => z) hq)
    | ok fl =>
      cases fl with
      | ret u => exact I.after hq
      | next => exact False.elim hq
      | brk => exact False.elim hq
      | cont => exact False.elim hq
theorem se_call (F : FnOk X.prog X.w X.K X.mg X.base (L2.CX X.prog X.w) k f fd ps (spF (gx X T) ps.length den)) (hr : Room k X.A) (hm : X.mg x = some (.ref f)) (hk : PySem.W.keepIn X.K (.ref f) = true) (hb : Binds X.K fd ps []) (tk : Takes X W) (ha : SA X T W (e :: es) t) (hn : ALen ps.length t)
    (hg : Gl X x := by rfl) (hdb : (x == ("__debug__" : Str)) = false := by decide) (he : starEach (e :: es) X.env = (false, eval e X.env) :: starEach es X.env := by rfl) (hpl : (backTo pos (starEach es X.env)).any (·.1) = false := by rfl) :
    SE X T W (.Call (.Name x p) (e :: es) [] pos) (eCall den t) := by
  refine ⟨fun pins s σ H Q I ⟨as, M, e', r, q, h⟩ => ?_⟩
  refine wpAny_Call_Name_kw (ld_glob I hg hm ?_ hdb)
  have key : tA (gx X T) W t σ H fun vs H1 => ∃ as1 M1 ds, vs.length = ps.length ∧ Rel (gx X T) as1 M1 H1 ∧ RVs (gx X T) as1 H1 vs ds ∧ PostE (gx X T) W σ as1 M1 H1 Q (den ds M1) := by
    refine ⟨as, M, e', r, q, ?_⟩
    unfold eCall at h
    cases ht : t e' M with
    | ok ds M1 => rw [ht] at h; exact fun as1 H1 vs s1 r1 rvs => ⟨as1, M1, ds, by rw [rvs.len]; exact hn _ _ _ _ ht, r1, rvs, PostE.re s1 h⟩
    | exc c fs M1 => rw [ht] at h; exact h
    | bad => rw [ht] at h; exact h
  refine PySem.W.callWith_K (h₀ := X.base) I.ok.mod.kin hk (thn (ha.run pos pins s σ H _ I key) fun us s1 ⟨vs, H1, I1, rr, as1, M1, ds, hl, r1, rvs, h1⟩ => ⟨I1.kIn, ?_⟩) he hpl
  exact run_den F hr hb tk I1 rr hl r1 rvs h1
end
end EV

set_option Elab.async false
set_option linter.all false
set_option autoImplicit false
set_option maxRecDepth 100000
set_option maxHeartbeats 4000000
namespace EV
open PySem PySem.Spec PyProof.Rows L2
/-- nothing may be raised -/
def wF : WX := fun _ _ _ _ => False
def wipeD (e : Sl) : List Nat → Sl
  | [] => e
  | v :: vs => (wipeD e vs).set v none
theorem wipe_rsl {G : Kx} {as : List Addr} {H : Hp} {σ : L2.St} {e : Sl} (q : RSl G as H σ e) : ∀ vs : List Nat, RSl G as H (wipe σ vs) (wipeD e vs)
  | [] => q
  | v :: vs => (wipe_rsl q vs).unset v
theorem wipe_get (σ : L2.St) (i : Nat) : ∀ vs : List Nat, (wipe σ vs)[i]? = if i ∈ vs ∧ i < σ.length then some none else σ[i]?
  | [] => by simp [wipe]
  | v :: vs => by
    unfold wipe
    by_cases h : v = i
    · subst h
      by_cases hl : v < σ.length
      · rw [List.getElem?_set_self (by rw [wipe_length]; exact hl), if_pos ⟨List.mem_cons_self, hl⟩]
      · rw [List.getElem?_eq_none (by simp [wipe_length]; omega), if_neg (fun z => hl z.2), List.getElem?_eq_none (by omega)]
    · rw [List.getElem?_set_ne h, wipe_get σ i vs]
      have : (i ∈ v :: vs ∧ i < σ.length) ↔ (i ∈ vs ∧ i < σ.length) := by
        rw [List.mem_cons]
        exact ⟨fun z => ⟨z.1.resolve_left (fun e => h e.symm), z.2⟩, fun z => ⟨.inr z.1, z.2⟩⟩
      simp only [this]
theorem wipe_but {sl vs : List Nat} {σ σ' : L2.St} (b : But sl (wipe σ vs) σ') (hs : ∀ i ∈ sl, i ∈ vs) : wipe σ' vs = wipe σ vs := by
  apply List.ext_getElem?
  intro i
  have hl : σ'.length = σ.length := b.1.trans (wipe_length σ vs)
  rw [wipe_get, wipe_get, hl]
  by_cases h : i ∈ vs ∧ i < σ.length
  · rw [if_pos h, if_pos h]
  · rw [if_neg h, if_neg h]
    by_cases hv : i ∈ vs
    · have : ¬ i < σ.length := fun z => h ⟨hv, z⟩
      rw [List.getElem?_eq_none (by omega), List.getElem?_eq_none (by omega)]
    · rw [b.2 i (fun z => hv (hs i z)), wipe_get, if_neg h]
abbrev STs (X : Cx) (T : Tb) (W : WX) (ifs : List Expr) (t : Tx) : Prop := PTs X ifs (tT (gx X T) W t)
def xYes : Tx := fun _ M => .ok true M
theorem sts_nil {X : Cx} {T : Tb} {W : WX} : STs X T W [] xYes := ⟨fun pins s σ H Q I ⟨as, M, e, r, q, h⟩ => pts_nil.run pins s σ H Q I (h as H Stp.refl r)⟩
theorem sts_one {X : Cx} {T : Tb} {W : WX} {c : Expr} {t : Tx} (h : ST X T W c t) : STs X T W [c] t := pts_one h
/-- the items of a comprehension -/
def compL (g : Gt) (tt : Tx) (te : Ex) (e : Sl) : List D → Mem → Res (List D)
  | [], M => .ok [] M
  | d :: ds, M => match g d e M with
    | none => .bad
    | some e1 => match tt e1 M with
      | .ok true M1 => match te e1 M1 with
        | .ok y M2 => match compL g tt te e ds M2 with
          | .ok ys M3 => .ok (y :: ys) M3
          | _ => .bad
        | _ => .bad
      | .ok false M1 => compL g tt te e ds M1
      | _ => .bad
/-- the end of a comprehension that began with n places: as a value, or (o) as a numbered place -/
def lcEnd (o : Bool) (b n : Nat) (fz : Option Nat) (r : Res (List D)) : Res D :=
  match r with
  | .ok ys M => if o then (match thawO fz ⟨b, M.c.set n (.lst false ys)⟩ with | some M1 => .ok (.obj n) M1 | none => .bad)
    else if Nat.beq M.c.length (n + 1) && refsLtL n ys then (match thawO fz ⟨b, M.c.take n⟩ with | some M1 => .ok (.lst ys) M1 | none => .bad) else .bad
  | _ => .bad
def eLc (o : Bool) (vs : List Nat) (it : Ix) (g : Gt) (tt : Tx) (te : Ex) : Ex := fun e M => match it e M with
  | .ok (ds, fz) M1 => if nle ds.length sizeLine then lcEnd o M1.b M1.c.length fz (compL g tt te (wipeD e vs) ds ⟨M1.c.length, M1.c ++ [.hid]⟩) else .bad
  | .exc c fs M1 => .exc c fs M1
  | .bad => .bad
section
variable {G : Kx} {as as' : List Addr} {M M' : Mem} {H H' : Hp} {p : Addr} {o : HO}
/-- a hidden place is made -/
theorem hid_start (r : Rel G as M H) (hp : H p = none) (h1 : ∀ xs, o ≠ .tup xs) (h2 : ∀ q u, o ≠ .frz q u) : Rel G (as ++ [p]) ⟨M.c.length, M.c ++ [.hid]⟩ (upd H p o) := by
  have q := r.add (o := o) (c := .hid) hp ⟨o, upd_same, h1, h2⟩
  exact ⟨q.len, q.nd, by simp, q.cell, q.tab⟩
/-- what the block kept, seen from outside -/
theorem hid_keep (r : Rel G as M H) (hp : H p = none) (s : Stp (as ++ [p]) ⟨M.c.length, M.c ++ [.hid]⟩ (upd H p o) as' M' H') : ∀ a u, H a = some u → ¬ Wr as M a → (∀ ps, u ≠ .tbl ps) → H' a = some u := fun a u e n ht => by
  have ne := ne_of_none e hp
  refine s.keep a u (by rw [upd_ne ne]; exact e) (fun ⟨k, c, e1, e2, f⟩ => ?_) ht
  by_cases hk : k < as.length
  · rw [List.getElem?_append_left hk] at e1
    simp only at e2
    rw [List.getElem?_append_left (by rw [← r.len]; exact hk)] at e2
    exact n ⟨k, c, e1, e2, f⟩
  · rw [List.getElem?_append_right (by omega)] at e1
    have h0 : k - as.length = 0 := by
      have := (List.getElem?_eq_some_iff.mp e1).1
      simpa using this
    rw [h0] at e1
    simp at e1
    exact ne e1.symm
theorem hid_tbk (r : Rel G as M H) (hp : H p = none) (s : Stp (as ++ [p]) ⟨M.c.length, M.c ++ [.hid]⟩ (upd H p o) as' M' H') : ∀ a ps, H a = some (.tbl ps) → a ∉ as → ∃ qs, H' a = some (.tbl qs) := fun a ps e n => by
  have ne := ne_of_none e hp
  refine s.tbk a ps (by rw [upd_ne ne]; exact e) fun z => ?_
  rcases List.mem_append.mp z with z | z
  · exact n z
  · exact ne (List.mem_singleton.mp z)
theorem hid_frz (r : Rel G as M H) (hp : H p = none) (s : Stp (as ++ [p]) ⟨M.c.length, M.c ++ [.hid]⟩ (upd H p o) as' M' H') : ∀ a, a ∈ as → Wr as' M' a → Wr as M a := fun a ha w => by
  obtain ⟨k, c, e1, e2, f⟩ := s.frz a (List.mem_append_left _ ha) w
  have hk : k < as.length := by
    by_cases hk : k < as.length
    · exact hk
    · rw [List.getElem?_append_right (by omega)] at e1
      have h0 : k - as.length = 0 := by
        have := (List.getElem?_eq_some_iff.mp e1).1
        simpa using this
      rw [h0] at e1
      simp at e1
      exact absurd ha (e1 ▸ r.fresh hp)
  rw [List.getElem?_append_left hk] at e1
  simp only at e2
  rw [List.getElem?_append_left (by rw [← r.len]; exact hk)] at e2
  exact ⟨k, c, e1, e2, f⟩
theorem low_snoc {n : Nat} {c : List Cell} (h : Low n c) (hn : n ≤ c.length) : Low n (c ++ [.hid]) := fun k x hk e => by
  rw [List.getElem?_append_left (by omega)] at e
  exact h k x hk e
theorem hid_pre (r : Rel G as M H) (s : Stp (as ++ [p]) ⟨M.c.length, M.c ++ [.hid]⟩ (upd H p o) as' M' H') : ∀ (k : Nat) (a : Addr), as[k]? = some a → as'[k]? = some a := fun k a e =>
  s.pre k a (by rw [List.getElem?_append_left (List.getElem?_eq_some_iff.mp e).1]; exact e)
theorem hid_at (r : Rel G as M H) (s : Stp (as ++ [p]) ⟨M.c.length, M.c ++ [.hid]⟩ (upd H p o) as' M' H') : as'[M.c.length]? = some p :=
  s.pre _ _ (by rw [← r.len, List.getElem?_append_right (Nat.le_refl _)]; simp)
theorem hid_take (r : Rel G as M H) (s : Stp (as ++ [p]) ⟨M.c.length, M.c ++ [.hid]⟩ (upd H p o) as' M' H') : as'.take M.c.length = as := by
  apply List.ext_getElem?
  intro k
  by_cases hk : k < M.c.length
  · rw [List.getElem?_take_of_lt hk]
    have hk' : k < as.length := by rw [r.len]; exact hk
    rw [hid_pre r s k _ (List.getElem?_eq_getElem hk'), List.getElem?_eq_getElem hk']
  · rw [List.getElem?_eq_none (by simp; omega), List.getElem?_eq_none (by rw [r.len]; omega)]
theorem hid_low (r : Rel G as M H) (s : Stp (as ++ [p]) ⟨M.c.length, M.c ++ [.hid]⟩ (upd H p o) as' M' H') : Low M.c.length M'.c := s.low _ (Nat.le_refl _) (low_snoc r.low (Nat.le_refl _))
/-- the block's places are dropped -/
theorem hid_drop (r : Rel G as M H) (hp : H p = none) (s : Stp (as ++ [p]) ⟨M.c.length, M.c ++ [.hid]⟩ (upd H p o) as' M' H') (r' : Rel G as' M' H') : Stp as M H as ⟨M.b, M'.c.take M.c.length⟩ H' ∧ Rel G as ⟨M.b, M'.c.take M.c.length⟩ H' := by
  have tp := hid_take r s
  have hlow := hid_low r s
  have hlen : M.c.length ≤ M'.c.length := by
    have := (List.getElem?_eq_some_iff.mp (hid_at r s)).1
    rw [r'.len] at this
    omega
  refine ⟨⟨fun _ _ h => h, fun _ h => .inl h, hid_keep r hp s, hid_tbk r hp s, fun a ha ⟨k, c, e1, e2, f⟩ => ?_, rfl, fun n hn hl k x hk e => ?_, fun k h => by
    have hk := (List.getElem?_eq_some_iff.mp h).1
    simp only
    rw [List.getElem?_take_of_lt hk]
    exact s.hd k (by show (M.c ++ [.hid])[k]? = _; rw [List.getElem?_append_left hk]; exact h)⟩, ⟨?_, r.nd, ?_, fun k a c e1 e2 => ?_, fun p hp => ⟨(r'.tab p hp).1, (r.tab p hp).2⟩⟩⟩
  · have hk : k < M.c.length := by rw [← r.len]; exact (List.getElem?_eq_some_iff.mp e1).1
    simp only at e2
    rw [List.getElem?_take_of_lt hk] at e2
    exact hid_frz r hp s a ha ⟨k, c, hid_pre r s k a e1, e2, f⟩
  · have := r.bl
    have h0 := s.low n (by show n ≤ M.c.length; omega) (low_snoc hl (by omega))
    simp only at e
    rw [List.getElem?_take_of_lt (by omega)] at e
    exact h0 k x hk e
  · simp only [List.length_take]
    rw [r.len]
    omega
  · have := r.bl
    simp only [List.length_take]
    omega
  · have hk : k < M.c.length := by rw [← r.len]; exact (List.getElem?_eq_some_iff.mp e1).1
    simp only at e2
    rw [List.getElem?_take_of_lt hk] at e2
    have q := (r'.cell k a c (hid_pre r s k a e1) e2).shrink (hlow k c hk e2)
    rw [tp] at q
    exact q
/-- the block's places are kept, the hidden one comes to be c -/
theorem hid_open {c : Cell} (r : Rel G as M H) (hp : H p = none) (s : Stp (as ++ [p]) ⟨M.c.length, M.c ++ [.hid]⟩ (upd H p o) as' M' H') (r' : Rel G as' M' H') (hc : CellAt G as' H' p c) : Stp as M H as' ⟨M.b, M'.c.set M.c.length c⟩ H' ∧ Rel G as' ⟨M.b, M'.c.set M.c.length c⟩ H' := by
  have ha := hid_at r s
  have hlt : M.c.length < M'.c.length := by
    have := (List.getElem?_eq_some_iff.mp ha).1
    rw [r'.len] at this
    exact this
  have hcell : M'.c[M.c.length]? = some M'.c[M.c.length] := List.getElem?_eq_getElem hlt
  have rr := cell_rel (c' := c) r' ha hcell fun _ => hc
  refine ⟨⟨hid_pre r s, fun a h => ?_, hid_keep r hp s, hid_tbk r hp s, fun a hm ⟨k, x, e1, e2, f⟩ => ?_, rfl, fun n hn hl k x hk e => ?_, fun k h => by
    have hk := (List.getElem?_eq_some_iff.mp h).1
    simp only
    rw [List.getElem?_set_ne (by omega)]
    exact s.hd k (by show (M.c ++ [.hid])[k]? = _; rw [List.getElem?_append_left hk]; exact h)⟩, ⟨rr.len, rr.nd, ?_, rr.cell, rr.tab⟩⟩
  · rcases s.new a h with z | z
    · rcases List.mem_append.mp z with z | z
      · exact .inl z
      · rw [List.mem_singleton.mp z]; exact .inr hp
    · by_cases e : a = p
      · rw [e]; exact .inr hp
      · rw [upd_ne e] at z; exact .inr z
  · refine hid_frz r hp s a hm ⟨k, x, e1, ?_, f⟩
    simp only at e2
    rw [List.getElem?_set_ne] at e2
    · exact e2
    · intro z
      subst z
      rw [ha] at e1; cases e1
      exact r.fresh hp hm
  · have := r.bl
    have h0 := s.low n (by show n ≤ M.c.length; omega) (low_snoc hl (by omega))
    simp only at e
    rw [List.getElem?_set_ne (by omega)] at e
    exact h0 k x hk e
  · have := r.bl
    simp only [List.length_set]
    omega
end
/-- the object at D, known to the walk alone, is another now -/
theorem Stp.at {as as' : List Addr} {M M' : Mem} {H H' : Hp} {p : Addr} {o o' : HO} (s : Stp as M (upd H p o) as' M' H') : Stp as M (upd H p o') as' M' (upd H' p o') := by
  refine ⟨s.pre, fun a h => ?_, fun a u e n ht => ?_, fun a ps e n => ?_, s.frz, s.b, s.low, s.hd⟩
  · rcases s.new a h with z | z
    · exact .inl z
    · by_cases e : a = p
      · subst e; rw [upd_same] at z; cases z
      · rw [upd_ne e] at z ⊢; exact .inr z
  · by_cases q : a = p
    · subst q; rw [upd_same] at e ⊢; exact e
    · rw [upd_ne q] at e ⊢
      exact s.keep a u (by rw [upd_ne q]; exact e) n ht
  · by_cases q : a = p
    · subst q; rw [upd_same] at e ⊢; exact ⟨ps, e⟩
    · rw [upd_ne q] at e ⊢
      exact s.tbk a ps (by rw [upd_ne q]; exact e) n
section
variable {X : Cx} {T : Tb} {W : WX} {pos : Pos} {tg iter elt : Expr} {ifs : List Expr} {scope : Scope} {own : List (Str × Nat)} {g : Gt} {it : Ix} {tt : Tx} {te : Ex} {sl : List Nat}
theorem lc_read (o : Bool) {vs : List Nat} (hsl : ∀ i ∈ sl, i ∈ vs) {σ : L2.St} {H : Hp} {Q : VK} (h : tE (gx X T) W (eLc o vs it g tt te) σ H Q) : tLc (tI (gx X T) W it) (tG (gx X T) sl g) (tT (gx X T) wF tt) (tE (gx X T) wF te) vs σ H Q := by
  obtain ⟨as, M, e, r, q, h⟩ := h
  refine ⟨as, M, e, r, q, ?_⟩
  unfold eLc at h
  cases ht : it e M with
  | bad => rw [ht] at h; exact h
  | exc c fs M1 => rw [ht] at h; exact h
  | ok pr M1 =>
    obtain ⟨ds, fz⟩ := pr
    rw [ht] at h
    simp only at h
    split at h
    · rename_i hz
      have hz := nle_iff.mp hz
      intro as1 H1 J Mb sb lk r1 im Dl hD
      have s1 := sb.trans (lk.stp (H := H1))
      have q1 := q.step r s1
      have nD : Dl ∉ as1 := r1.fresh hD
      have hst := hid_start (o := .lst []) r1 hD (fun _ z => nomatch z) (fun _ _ z => nomatch z)
      -- behind turn i: the list so far stands at Dl
      refine ⟨fun i m H2 => ∃ as2 M2 acc vacc, m = ds.length - i ∧ i ≤ ds.length ∧ Stp (as1 ++ [Dl]) ⟨M1.c.length, M1.c ++ [.hid]⟩ (upd H1 Dl (.lst vacc)) as2 M2 H2 ∧ Rel (gx X T) as2 M2 H2 ∧ H2 Dl = some (.lst vacc) ∧ RVs (gx X T) as2 H2 vacc acc ∧ acc.length ≤ i ∧
        ∃ R, compL g tt te (wipeD e vs) (ds.drop i) M2 = R ∧ PostE (gx X T) W σ as M H Q (lcEnd o M1.b M1.c.length fz (match R with | .ok ys M3 => .ok (acc ++ ys) M3 | _ => .bad)),
        ⟨ds.length, as1 ++ [Dl], ⟨M1.c.length, M1.c ++ [.hid]⟩, [], [], rfl, Nat.zero_le _, Stp.refl, hst, upd_same, .nil, Nat.le_refl _, _, rfl, ?_⟩, ?_⟩
      · simp only [List.drop_zero]
        cases hR : compL g tt te (wipeD e vs) ds ⟨M1.c.length, M1.c ++ [.hid]⟩ with
        | ok ys M3 => rw [hR] at h; simpa using h
        | exc c fs M3 => rw [hR] at h; exact h
        | bad => rw [hR] at h; exact h
      · rintro i m H2 ⟨as2, M2, acc, vacc, rfl, hi, s2, r2, hDl, rva, hacc, R, hR, hpost⟩
        have atD := hid_at r1 s2
        -- the iterator in the block's states
        have imgo : ∀ {as3 M3 H3}, Stp (as1 ++ [Dl]) ⟨M1.c.length, M1.c ++ [.hid]⟩ (upd H1 Dl (.lst vacc)) as3 M3 H3 → Rel (gx X T) as3 M3 H3 → ∃ Mx, Stp as1 M1 H1 as3 Mx H3 ∧ Rel (gx X T) as3 Mx H3 := fun {as3 M3 H3} s3 r3 => by
          have hl : M1.c.length < M3.c.length := by
            have := (List.getElem?_eq_some_iff.mp (hid_at r1 s3)).1
            rw [r3.len] at this
            exact this
          have hcc : CellAt (gx X T) as3 H3 Dl M3.c[M1.c.length] := r3.cell _ _ _ (hid_at r1 s3) (List.getElem?_eq_getElem hl)
          obtain ⟨o', eo, k1, k2⟩ := hcc.kind
          obtain ⟨a1, a2⟩ := hid_open (c := .hid) r1 hD s3 r3 ⟨o', eo, k1, k2⟩
          exact ⟨_, a1, a2⟩
        obtain ⟨Mx, sx, rx⟩ := imgo s2 r2
        by_cases hlt : i < ds.length
        · refine .inr ⟨im.go i as2 Mx H2 sx rx hlt, fun H5 => ∃ as5 M5 acc5 vacc5, Stp (as1 ++ [Dl]) ⟨M1.c.length, M1.c ++ [.hid]⟩ (upd H1 Dl (.lst vacc5)) as5 M5 H5 ∧ Rel (gx X T) as5 M5 H5 ∧ H5 Dl = some (.lst vacc5) ∧ RVs (gx X T) as5 H5 vacc5 acc5 ∧ acc5.length ≤ i + 1 ∧
              ∃ R, compL g tt te (wipeD e vs) (ds.drop (i + 1)) M5 = R ∧ PostE (gx X T) W σ as M H Q (lcEnd o M1.b M1.c.length fz (match R with | .ok ys M3 => .ok (acc5 ++ ys) M3 | _ => .bad)), ?_, ?_⟩
          · rintro H5 ⟨as5, M5, acc5, vacc5, a1, a2, a3, a4, a5, a6⟩
            exact ⟨ds.length - (i + 1), by omega, as5, M5, acc5, vacc5, rfl, hlt, a1, a2, a3, a4, a5, a6⟩
          · intro x H3 hy
            obtain ⟨gy, rvx⟩ := im.yld i as2 Mx H2 x H3 ds[i] sx rx (List.getElem?_eq_getElem hlt) hy
            have sy := gy.stp (as := as2) (M := M2)
            have ry := gy.rel r2
            have qw : RSl (gx X T) as2 H3 (wipe σ vs) (wipeD e vs) := wipe_rsl ((q1.step r1 sx).step rx gy.stp) vs
            have hid2 : M2.c[M1.c.length]? = some .hid := s2.hd _ (by show (M1.c ++ [Cell.hid])[M1.c.length]? = _; rw [List.getElem?_append_right (Nat.le_refl _)]; simp)
            refine ⟨as2, M2, ds[i], wipeD e vs, ry, qw, rvx, ?_⟩
            rw [List.drop_eq_getElem_cons hlt] at hR
            simp only [compL] at hR
            cases hg : g ds[i] (wipeD e vs) M2 with
            | none => rw [hg] at hR; subst hR; exact hpost.elim
            | some e1 =>
              rw [hg] at hR
              intro σ' q' b'
              refine ⟨wipe_but b' hsl, as2, M2, e1, ry, q', ?_⟩
              simp only at hR
              cases htt : tt e1 M2 with
              | bad => rw [htt] at hR; subst hR; exact hpost.elim
              | exc c fs M3 => rw [htt] at hR; subst hR; exact hpost.elim
              | ok b M3 =>
                rw [htt] at hR
                intro as3 H4 s3 r3
                have s23 := s2.trans (sy.trans s3)
                have hD4 : H4 Dl = some (.lst vacc) := s3.keep Dl _ (gy Dl _ hDl) (frz_nwr r2.nd atD hid2 rfl)
                cases b with
                | false =>
                  rw [if_neg Bool.false_ne_true]
                  exact ⟨as3, M3, acc, vacc, s23, r3, hD4, (rva.step r2 sy).step ry s3, by omega, R, hR, hpost⟩
                | true =>
                  rw [if_pos rfl]
                  refine ⟨as3, M3, e1, r3, q'.step ry s3, ?_⟩
                  simp only at hR
                  cases hte : te e1 M3 with
                  | bad => rw [hte] at hR; subst hR; exact hpost.elim
                  | exc c fs M4 => rw [hte] at hR; subst hR; exact hpost.elim
                  | ok y M4 =>
                    rw [hte] at hR
                    intro as4 H5 v s4 r4 rv
                    have hid3 : M3.c[M1.c.length]? = some .hid := (sy.trans s3).hd _ hid2
                    have at3 := hid_at r1 s23
                    have hD5 : H5 Dl = some (.lst vacc) := s4.keep Dl _ hD4 (frz_nwr r3.nd at3 hid3 rfl)
                    have rva4 := ((rva.step r2 sy).step ry s3).step r3 s4
                    refine ⟨vacc, hD5, by rw [rva4.len]; omega, as4, M4, acc ++ [y], vacc ++ [v], (s23.trans s4).at, ?_, upd_same, ?_, by simp; omega, _, rfl, ?_⟩
                    · exact r4.at (hid_at r1 (s23.trans s4)) (s4.hd _ hid3) hD5 (fun _ z => nomatch z) (fun _ _ z => nomatch z) (fun _ z => nomatch z) (fun _ _ z => nomatch z)
                    · exact (rva4.app (.cons rv .nil)).at (List.mem_of_getElem? (hid_at r1 (s23.trans s4))) hD5 (fun _ z => nomatch z) (fun _ _ z => nomatch z)
                    · simp only at hR
                      cases hcc : compL g tt te (wipeD e vs) (ds.drop (i + 1)) M4 with
                      | ok ys M5 => rw [hcc] at hR; subst hR; simpa using hpost
                      | exc c fs M5 => rw [hcc] at hR; subst hR; exact hpost
                      | bad => rw [hcc] at hR; subst hR; exact hpost
        · have e' : i = ds.length := by omega
          subst e'
          refine .inl ⟨im.stop _ as2 Mx H2 sx rx (Nat.le_refl _), ?_⟩
          rw [List.drop_length] at hR
          simp only [compL] at hR
          subst hR
          simp only [List.append_nil] at hpost
          unfold lcEnd at hpost
          simp only at hpost
          split at hpost
          · split at hpost
            · rename_i M4 hM
              obtain ⟨a1, a2⟩ := hid_open (c := .lst false acc) r1 hD s2 r2 ⟨vacc, hDl, rva⟩
              obtain ⟨b1, b2⟩ := thaw_ok (G := gx X T) lk.locked (lk.stp.trans a1) a2 hM
              exact hpost as2 H2 (.ref Dl) (sb.trans b1) b2 (.obj atD)
            · exact hpost.elim
          · split at hpost
            · rename_i hb
              simp only [Bool.and_eq_true] at hb
              split at hpost
              · rename_i M4 hM
                obtain ⟨a1, a2⟩ := hid_drop r1 hD s2 r2
                obtain ⟨b1, b2⟩ := thaw_ok (G := gx X T) lk.locked (lk.stp.trans a1) a2 hM
                have rv := rva.shrink hb.2
                rw [hid_take r1 s2] at rv
                exact hpost as1 H2 (.ref Dl) (sb.trans b1) b2 (.lst hDl nD rv)
              · exact hpost.elim
            · exact hpost.elim
    · exact h.elim
end
end EV

set_option Elab.async false
set_option linter.all false
set_option autoImplicit false
set_option maxRecDepth 100000
set_option maxHeartbeats 4000000
namespace EV
open PySem PySem.Spec PyProof.Rows L2
section
variable {X : Cx} {T : Tb} {W : WX} {pos : Pos} {tg iter elt : Expr} {ifs : List Expr} {scope : Scope} {own : List (Str × Nat)} {g : Gt} {it : Ix} {tt : Tx} {te : Ex} {sl : List Nat}
theorem se_lc (o : Bool) (own : List (Str × Nat)) (hc : X.calm = true) (hN : X.N.Nodup) (hi : SI X T W tg iter it)
    (hg : ∀ (s : Shared) (H : Hp) (C : Addr) (cl : List (Str × Addr)) (fp : List Addr), SG (X.blk s H scope (compEnvC scope cl C X.env) fp) T tg sl g)
    (ht : ∀ (s : Shared) (H : Hp) (C : Addr) (cl : List (Str × Addr)) (fp : List Addr), STs (X.blk s H scope (compEnvC scope cl C X.env) fp) T wF ifs tt)
    (he : ∀ (s : Shared) (H : Hp) (C : Addr) (cl : List (Str × Addr)) (fp : List Addr), SE (X.blk s H scope (compEnvC scope cl C X.env) fp) T wF elt te)
    (ok : blkC X.N X.env.scope scope own = true := by rfl) (hsl : ∀ i ∈ sl, i ∈ own.map (·.2) := by decide) (hs : ∀ x, foldedSetIterable iter X.env x = pure x := by intro _; rfl) :
    SE X T W (.ListComp elt [⟨tg, iter, ifs, 0⟩] scope pos) (eLc o (own.map (·.2)) it g tt te) :=
  (pe_lc hc hN hi (blkOk_by ok) hg ht he hs).weak fun σ H Q h => lc_read o hsl h
theorem ss_setLc (i : Nat) {y : Str} {py spos : Pos} (o : Bool) (own : List (Str × Nat)) (hc : X.calm = true) (hN : X.N.Nodup) (hi : SI X T W tg iter it)
    (hg : ∀ (s : Shared) (H : Hp) (C : Addr) (cl : List (Str × Addr)) (fp : List Addr), SG (X.blk s H scope (compEnvC scope cl C X.env) fp) T tg sl g)
    (ht : ∀ (s : Shared) (H : Hp) (C : Addr) (cl : List (Str × Addr)) (fp : List Addr), STs (X.blk s H scope (compEnvC scope cl C X.env) fp) T wF ifs tt)
    (he : ∀ (s : Shared) (H : Hp) (C : Addr) (cl : List (Str × Addr)) (fp : List Addr), SE (X.blk s H scope (compEnvC scope cl C X.env) fp) T wF elt te)
    (hy : X.N[i]? = some y := by rfl) (hyl : X.env.scope.names.lookup y = some .local := by rfl)
    (hsw : swapsWith (.ListComp elt [⟨tg, iter, ifs, 0⟩] scope pos) (some (.Name y py)) spos.line X.env = pure true := by rfl)
    (ok : blkC X.N X.env.scope scope own = true := by rfl) (hsl : ∀ i ∈ sl, i ∈ own.map (·.2) := by decide) (hs : ∀ x, foldedSetIterable iter X.env x = pure x := by intro _; rfl) :
    SS X T W (.Assign [.Name y py] (.ListComp elt [⟨tg, iter, ifs, 0⟩] scope pos) spos) (sSet i (eLc o (own.map (·.2)) it g tt te)) :=
  (ps_setLc hc hN hy hyl hsw hi (blkOk_by ok) hg ht he hs).weak fun D' σ H ⟨as, M, e, r, q, h⟩ => lc_read o hsl (bindES r q h fun d v as1 M1 H1 r1 q1 s1 rv h1 => h1 as1 H1 _ Stp.refl r1 (q1.set i rv))
end
end EV

set_option Elab.async false
set_option linter.all false
set_option autoImplicit false
set_option maxRecDepth 100000
set_option maxHeartbeats 4000000
namespace EV
open PySem PySem.Spec PyProof.Rows L2
/-! ### a hidden list that grows -/
section
variable {G : Kx} {asB : List Addr} {MB : Mem} {HB : Hp} {Dl : Addr} {n : Nat}
/-- the list so far stands at Dl, the n-th place, hidden -/
def Acc (G : Kx) (asB : List Addr) (MB : Mem) (HB : Hp) (Dl : Addr) (n : Nat) (acc : List D) (as : List Addr) (M : Mem) (H : Hp) : Prop :=
  asB[n]? = some Dl ∧ MB.c[n]? = some .hid ∧ ∃ vacc, Stp asB MB (upd HB Dl (.lst vacc)) as M H ∧ Rel G as M H ∧ H Dl = some (.lst vacc) ∧ RVs G as H vacc acc
theorem Acc.rel {acc as M H} (A : Acc G asB MB HB Dl n acc as M H) : Rel G as M H := by obtain ⟨_, _, v, _, r, _⟩ := A; exact r
theorem Acc.at_ {acc as M H} (A : Acc G asB MB HB Dl n acc as M H) : as[n]? = some Dl := by obtain ⟨h, _, v, s, _⟩ := A; exact s.pre n _ h
theorem Acc.hid {acc as M H} (A : Acc G asB MB HB Dl n acc as M H) : M.c[n]? = some .hid := by obtain ⟨h, h2, v, s, _⟩ := A; exact s.hd n h2
theorem Acc.mono {acc as M H as' M' H'} (A : Acc G asB MB HB Dl n acc as M H) (s : Stp as M H as' M' H') (r : Rel G as' M' H') : Acc G asB MB HB Dl n acc as' M' H' := by
  have a1 := A.at_
  have a2 := A.hid
  obtain ⟨h, h2, v, s0, r0, e, rv⟩ := A
  exact ⟨h, h2, v, s0.trans s, r, s.keep Dl _ e (frz_nwr r0.nd a1 a2 rfl), rv.step r0 s⟩
theorem Acc.app {acc as M H y v} (A : Acc G asB MB HB Dl n acc as M H) (rv : RV G as H v y) : ∃ vacc, H Dl = some (.lst vacc) ∧ vacc.length = acc.length ∧ Acc G asB MB HB Dl n (acc ++ [y]) as M (upd H Dl (.lst (vacc ++ [v]))) := by
  have a1 := A.at_
  have a2 := A.hid
  obtain ⟨h, h2, w, s0, r0, e, rvs⟩ := A
  refine ⟨w, e, rvs.len, h, h2, w ++ [v], s0.at, ?_, upd_same, ?_⟩
  · exact r0.at a1 a2 e (fun _ z => nomatch z) (fun _ _ z => nomatch z) (fun _ z => nomatch z) (fun _ _ z => nomatch z)
  · exact (rvs.app (.cons rv .nil)).at (List.mem_of_getElem? a1) e (fun _ z => nomatch z) (fun _ _ z => nomatch z)
theorem RSl.at {as : List Addr} {M : Mem} {H : Hp} {p : Addr} {o u : HO} {σ : L2.St} {e : Sl} (q : RSl G as H σ e) (hp : p ∈ as) (h : H p = some u) (h1 : ∀ xs, u ≠ .tup xs) (h2 : ∀ q z, u ≠ .frz q z) : RSl G as (upd H p o) σ e :=
  ⟨q.1, fun i d hd => let ⟨v, k1, k2⟩ := q.2 i d hd; ⟨v, k1, k2.at hp h h1 h2⟩⟩
end
section
variable {X : Cx} {T : Tb} {W : WX} {g1 : Gt} {tt1 : Tx} {te : Ex} {it1 : Ix} {sl1 vs1 : List Nat}
theorem lc_inner {asB : List Addr} {MB : Mem} {HB : Hp} {Dl : Addr} {n : Nat} {acc ys ds1 : List D} {as3 : List Addr} {M3 M2 M4 M5 : Mem} {H3 : Hp} {σ2 : L2.St} {e1 : Sl} {fz1 : Option Nat} {Nx : Hp → Prop}
    (A : Acc (gx X T) asB MB HB Dl n acc as3 M3 H3) (q : RSl (gx X T) as3 H3 σ2 e1) (hsl : ∀ i ∈ sl1, i ∈ vs1)
    (hit : it1 e1 M3 = .ok (ds1, fz1) M2) (hcomp : compL g1 tt1 te (wipeD e1 vs1) ds1 M2 = .ok ys M4) (hth : thawO fz1 M4 = some M5) (hlen : acc.length + ys.length ≤ sizeLine)
    (hnx : ∀ as H, Acc (gx X T) asB MB HB Dl n (acc ++ ys) as M5 H → Nx H) :
    tI (gx X T) wF it1 σ2 H3 fun J1 H4 => ∃ W1 : Nat → Nat → Hp → Prop, (∃ m, W1 0 m H4) ∧ ∀ j k H, W1 j k H →
      (J1.stop j H ∧ Nx H) ∨ (J1.go j H ∧ ∃ Nx1 : Hp → Prop, (∀ H', Nx1 H' → ∃ k', k' < k ∧ W1 (j + 1) k' H') ∧ ∀ x H', J1.yld j H x H' → tG (gx X T) sl1 g1 x (wipe σ2 vs1) H' fun σ3 H5 => wipe σ3 vs1 = wipe σ2 vs1 ∧ tT (gx X T) wF tt1 σ3 H5 fun b H6 =>
        if b = true then tE (gx X T) wF te σ3 H6 fun y H7 => ∃ acc, H7 Dl = some (.lst acc) ∧ acc.length < sizeLine ∧ Nx1 (upd H7 Dl (.lst (acc ++ [y]))) else Nx1 H6) := by
  refine ⟨as3, M3, e1, A.rel, q, ?_⟩
  rw [hit]
  intro as4 H4 J1 Mb sb lk r4 im
  have L := lk.locked
  have sl : Stp as4 Mb H4 as4 M2 H4 := lk.stp
  have A4 := A.mono (sb.trans sl) r4
  have q4 := q.step A.rel (sb.trans sl)
  have at4 := A4.at_
  have hd4 := A4.hid
  obtain ⟨u4, hu4, ku1, ku2⟩ := r4.hidk at4 hd4
  have hu4' : ∃ w, H4 Dl = some (.lst w) := by obtain ⟨_, _, w, _, _, e, _⟩ := A4; exact ⟨w, e⟩
  obtain ⟨w4, hw4⟩ := hu4'
  have hself : upd H4 Dl (.lst w4) = H4 := by
    funext a
    by_cases z : a = Dl
    · subst z; rw [upd_same, hw4]
    · rw [upd_ne z]
  have rat : ∀ w, Rel (gx X T) as4 M2 (upd H4 Dl (.lst w)) := fun w => r4.at at4 hd4 hu4 ku1 ku2 (fun _ z => nomatch z) (fun _ _ z => nomatch z)
  have iat : ∀ w, Itm0 (gx X T) as4 M2 (upd H4 Dl (.lst w)) J1 ds1 := fun w => im.more n Dl _ at4 hd4 (fun _ z => nomatch z) (fun _ _ z => nomatch z)
  refine ⟨fun j k H => ∃ as M acc' w zs, k = ds1.length - j ∧ j ≤ ds1.length ∧ Acc (gx X T) asB MB HB Dl n acc' as M H ∧ H Dl = some (.lst w) ∧ Stp as4 M2 (upd H4 Dl (.lst w)) as M H ∧ compL g1 tt1 te (wipeD e1 vs1) (ds1.drop j) M = .ok zs M4 ∧ acc' ++ zs = acc ++ ys,
    ⟨ds1.length, as4, M2, acc, w4, ys, rfl, Nat.zero_le _, A4, hw4, by rw [hself]; exact Stp.refl, by simpa using hcomp, rfl⟩, ?_⟩
  rintro j k H ⟨as, M, acc', w, zs, rfl, hj, A', hw, s', hR, hz⟩
  have rr := A'.rel
  by_cases hlt : j < ds1.length
  · refine .inr ⟨(iat w).go j as M H s' rr hlt, fun H5 => ∃ as M acc' w zs, Acc (gx X T) asB MB HB Dl n acc' as M H5 ∧ H5 Dl = some (.lst w) ∧ Stp as4 M2 (upd H4 Dl (.lst w)) as M H5 ∧ compL g1 tt1 te (wipeD e1 vs1) (ds1.drop (j + 1)) M = .ok zs M4 ∧ acc' ++ zs = acc ++ ys, ?_, ?_⟩
    · rintro H5 ⟨as, M, acc', w, zs, a1, a2, a3, a4, a5⟩
      exact ⟨ds1.length - (j + 1), by omega, as, M, acc', w, zs, rfl, hlt, a1, a2, a3, a4, a5⟩
    · intro x H6 hy
      obtain ⟨gy, rvx⟩ := (iat w).yld j as M H x H6 ds1[j] s' rr (List.getElem?_eq_getElem hlt) hy
      have sy := gy.stp (as := as) (M := M)
      have ry := gy.rel rr
      have A6 := A'.mono sy ry
      have qw : RSl (gx X T) as H6 (wipe σ2 vs1) (wipeD e1 vs1) := wipe_rsl (((RSl.at (M := M2) q4 (List.mem_of_getElem? at4) hu4 ku1 ku2).step (rat w) s').step rr sy) vs1
      refine ⟨as, M, ds1[j], wipeD e1 vs1, ry, qw, rvx, ?_⟩
      rw [List.drop_eq_getElem_cons hlt] at hR
      simp only [compL] at hR
      cases hg : g1 ds1[j] (wipeD e1 vs1) M with
      | none => rw [hg] at hR; cases hR
      | some e2 =>
        rw [hg] at hR
        intro σ' q' b'
        refine ⟨wipe_but b' hsl, as, M, e2, ry, q', ?_⟩
        simp only at hR
        cases htt : tt1 e2 M with
        | bad => rw [htt] at hR; cases hR
        | exc c fs M3 => rw [htt] at hR; cases hR
        | ok b M7 =>
          rw [htt] at hR
          intro as7 H7 s7 r7
          have A7 := A6.mono s7 r7
          have s47 := (s'.trans sy).trans s7
          have hw7 : H7 Dl = some (.lst w) := s7.keep Dl _ (gy Dl _ hw) (frz_nwr rr.nd A'.at_ A'.hid rfl)
          cases b with
          | false =>
            rw [if_neg Bool.false_ne_true]
            exact ⟨as7, M7, acc', w, zs, A7, hw7, s47, hR, hz⟩
          | true =>
            rw [if_pos rfl]
            refine ⟨as7, M7, e2, r7, q'.step ry s7, ?_⟩
            simp only at hR
            cases hte : te e2 M7 with
            | bad => rw [hte] at hR; cases hR
            | exc c fs M8 => rw [hte] at hR; cases hR
            | ok y M8 =>
              rw [hte] at hR
              simp only at hR
              intro as8 H8 v s8 r8 rv
              have A8 := A7.mono s8 r8
              obtain ⟨w8, hw8, hl8, A9⟩ := A8.app rv
              cases hcc : compL g1 tt1 te (wipeD e1 vs1) (ds1.drop (j + 1)) M8 with
              | exc c fs M9 => rw [hcc] at hR; cases hR
              | bad => rw [hcc] at hR; cases hR
              | ok zs' M9 =>
                rw [hcc] at hR
                simp only [Res.ok.injEq] at hR
                obtain ⟨rfl, rfl⟩ := hR
                refine ⟨w8, hw8, ?_, as8, M8, acc' ++ [y], w8 ++ [v], zs', A9, upd_same, ?_, hcc, by simpa using hz⟩
                · have := congrArg List.length hz
                  simp only [List.length_append, List.length_cons] at this
                  omega
                · exact (s47.trans s8).at
  · have e' : j = ds1.length := by omega
    subst e'
    refine .inl ⟨(iat w).stop _ as M H s' rr (Nat.le_refl _), ?_⟩
    rw [List.drop_length] at hR
    simp only [compL, Res.ok.injEq] at hR
    obtain ⟨rfl, rfl⟩ := hR
    rw [List.append_nil] at hz
    subst hz
    -- the inner walk's place is free again
    obtain ⟨h1, h2, wB, sB, rB, eB, rvB⟩ := id A'
    rw [hw] at eB; cases eB
    obtain ⟨b1, b2⟩ := thaw_ok (G := gx X T) (H := upd H4 Dl (.lst w)) L (lk.stp.trans s') rr hth
    obtain ⟨_, _, w3, s3, r3, e3, rv3⟩ := id A
    have hk3 : H4 Dl = some (.lst w3) := sb.keep Dl _ e3 (frz_nwr A.rel.nd A.at_ A.hid rfl)
    have s34 : Stp asB MB (upd HB Dl (.lst w)) as4 Mb (upd H4 Dl (.lst w)) := (s3.trans sb).at
    exact hnx as H ⟨h1, h2, w, s34.trans b1, b2, hw, rvB⟩
end
end EV

set_option Elab.async false
set_option linter.all false
set_option autoImplicit false
set_option maxRecDepth 100000
set_option maxHeartbeats 4000000
namespace EV
open PySem PySem.Spec PyProof.Rows L2
/-! ### two clauses -/
def compL2 (g : Gt) (tt : Tx) (it1 : Ix) (vs1 : List Nat) (g1 : Gt) (tt1 : Tx) (te : Ex) (e : Sl) : List D → Mem → Res (List D)
  | [], M => .ok [] M
  | d :: ds, M => match g d e M with
    | none => .bad
    | some e1 => match tt e1 M with
      | .ok true M1 => match it1 e1 M1 with
        | .ok (ds1, fz1) M2 => match compL g1 tt1 te (wipeD e1 vs1) ds1 M2 with
          | .ok ys M3 => match thawO fz1 M3 with
            | some M4 => match compL2 g tt it1 vs1 g1 tt1 te e ds M4 with
              | .ok zs M5 => .ok (ys ++ zs) M5
              | _ => .bad
            | none => .bad
          | _ => .bad
        | _ => .bad
      | .ok false M1 => compL2 g tt it1 vs1 g1 tt1 te e ds M1
      | _ => .bad
def chkL (r : Res (List D)) : Res (List D) := match r with
  | .ok ys M => if nle ys.length sizeLine then .ok ys M else .bad
  | _ => .bad
def eLc2 (o : Bool) (vs : List Nat) (it : Ix) (g : Gt) (tt : Tx) (vs1 : List Nat) (it1 : Ix) (g1 : Gt) (tt1 : Tx) (te : Ex) : Ex := fun e M => match it e M with
  | .ok (ds, fz) M1 => lcEnd o M1.b M1.c.length fz (chkL (compL2 g tt it1 vs1 g1 tt1 te (wipeD e vs) ds ⟨M1.c.length, M1.c ++ [.hid]⟩))
  | .exc c fs M1 => .exc c fs M1
  | .bad => .bad
section
variable {X : Cx} {T : Tb} {W : WX} {pos : Pos} {tg iter elt tg1 iter1 : Expr} {ifs ifs1 : List Expr} {scope : Scope} {own : List (Str × Nat)} {g g1 : Gt} {it it1 : Ix} {tt tt1 : Tx} {te : Ex} {sl sl1 : List Nat}
/-- the end, read -/
theorem lc_end {o : Bool} {fz : Option Nat} {σ : L2.St} {as as1 as2 : List Addr} {M Mb M1 M2 : Mem} {H H1 H2 : Hp} {Q : VK} {Dl : Addr} {acc : List D} (hD : H1 Dl = none) (sb : Stp as M H as1 Mb H1) (lk : Lk as1 fz Mb M1) (r1 : Rel (gx X T) as1 M1 H1)
    (A : Acc (gx X T) (as1 ++ [Dl]) ⟨M1.c.length, M1.c ++ [.hid]⟩ H1 Dl M1.c.length acc as2 M2 H2) (h : PostE (gx X T) W σ as M H Q (lcEnd o M1.b M1.c.length fz (.ok acc M2))) : Q (.ref Dl) H2 := by
  have atD := A.at_
  obtain ⟨_, _, vacc, s2, r2, hDl, rva⟩ := A
  have nD : Dl ∉ as1 := r1.fresh hD
  unfold lcEnd at h
  simp only at h
  split at h
  · split at h
    · rename_i M4 hM
      obtain ⟨a1, a2⟩ := hid_open (c := .lst false acc) r1 hD s2 r2 ⟨vacc, hDl, rva⟩
      obtain ⟨b1, b2⟩ := thaw_ok (G := gx X T) lk.locked (lk.stp.trans a1) a2 hM
      exact h as2 H2 (.ref Dl) (sb.trans b1) b2 (.obj atD)
    · exact h.elim
  · split at h
    · rename_i hb
      simp only [Bool.and_eq_true] at hb
      split at h
      · rename_i M4 hM
        obtain ⟨a1, a2⟩ := hid_drop r1 hD s2 r2
        obtain ⟨b1, b2⟩ := thaw_ok (G := gx X T) lk.locked (lk.stp.trans a1) a2 hM
        have rv := rva.shrink hb.2
        rw [hid_take r1 s2] at rv
        exact h as1 H2 (.ref Dl) (sb.trans b1) b2 (.lst hDl nD rv)
      · exact h.elim
    · exact h.elim
theorem lc_read2 (o : Bool) {vs vs1 : List Nat} (hsl : ∀ i ∈ sl, i ∈ vs) (hsl1 : ∀ i ∈ sl1, i ∈ vs1) {σ : L2.St} {H : Hp} {Q : VK} (h : tE (gx X T) W (eLc2 o vs it g tt vs1 it1 g1 tt1 te) σ H Q) :
    tLc2 (tI (gx X T) W it) (tG (gx X T) sl g) (tT (gx X T) wF tt) (tI (gx X T) wF it1) (tG (gx X T) sl1 g1) (tT (gx X T) wF tt1) (tE (gx X T) wF te) vs vs1 σ H Q := by
  obtain ⟨as, M, e, r, q, h⟩ := h
  refine ⟨as, M, e, r, q, ?_⟩
  unfold eLc2 at h
  cases ht : it e M with
  | bad => rw [ht] at h; exact h
  | exc c fs M1 => rw [ht] at h; exact h
  | ok pr M1 =>
    obtain ⟨ds, fz⟩ := pr
    rw [ht] at h
    simp only at h
    cases hR : compL2 g tt it1 vs1 g1 tt1 te (wipeD e vs) ds ⟨M1.c.length, M1.c ++ [.hid]⟩ with
    | bad => rw [hR] at h; exact h.elim
    | exc c fs M3 => rw [hR] at h; exact h.elim
    | ok tot Mz =>
      rw [hR] at h
      simp only [chkL] at h
      split at h
      case isFalse => exact h.elim
      case isTrue hz =>
        have hz := nle_iff.mp hz
        intro as1 H1 J Mb sb lk r1 im Dl hD
        have s1 := sb.trans (lk.stp (H := H1))
        have q1 := q.step r s1
        have hst := hid_start (o := .lst []) r1 hD (fun _ z => nomatch z) (fun _ _ z => nomatch z)
        have A0 : Acc (gx X T) (as1 ++ [Dl]) ⟨M1.c.length, M1.c ++ [.hid]⟩ H1 Dl M1.c.length [] (as1 ++ [Dl]) ⟨M1.c.length, M1.c ++ [.hid]⟩ (upd H1 Dl (.lst [])) :=
          ⟨by rw [← r1.len, List.getElem?_append_right (Nat.le_refl _)]; simp, by show (M1.c ++ [Cell.hid])[M1.c.length]? = _; rw [List.getElem?_append_right (Nat.le_refl _)]; simp, [], Stp.refl, hst, upd_same, .nil⟩
        refine ⟨fun i m H2 => ∃ as2 M2 acc zs, m = ds.length - i ∧ i ≤ ds.length ∧ Acc (gx X T) (as1 ++ [Dl]) ⟨M1.c.length, M1.c ++ [.hid]⟩ H1 Dl M1.c.length acc as2 M2 H2 ∧ compL2 g tt it1 vs1 g1 tt1 te (wipeD e vs) (ds.drop i) M2 = .ok zs Mz ∧ acc ++ zs = tot,
          ⟨ds.length, as1 ++ [Dl], ⟨M1.c.length, M1.c ++ [.hid]⟩, [], tot, rfl, Nat.zero_le _, A0, by simpa using hR, rfl⟩, ?_⟩
        rintro i m H2 ⟨as2, M2, acc, zs, rfl, hi, A2, hR2, hzs⟩
        have r2 := A2.rel
        obtain ⟨u2, hu2, ku1, ku2⟩ := r2.hidk A2.at_ A2.hid
        have sx : ∃ Mx, Stp as1 M1 H1 as2 Mx H2 ∧ Rel (gx X T) as2 Mx H2 := by
          obtain ⟨_, _, va, s2, _, hdl, _⟩ := id A2
          obtain ⟨a1, a2⟩ := hid_open (c := .hid) r1 hD s2 r2 ⟨u2, hu2, ku1, ku2⟩
          exact ⟨_, a1, a2⟩
        obtain ⟨Mx, sx, rx⟩ := sx
        by_cases hlt : i < ds.length
        · refine .inr ⟨im.go i as2 Mx H2 sx rx hlt, fun H5 => ∃ as5 M5 acc zs, Acc (gx X T) (as1 ++ [Dl]) ⟨M1.c.length, M1.c ++ [.hid]⟩ H1 Dl M1.c.length acc as5 M5 H5 ∧ compL2 g tt it1 vs1 g1 tt1 te (wipeD e vs) (ds.drop (i + 1)) M5 = .ok zs Mz ∧ acc ++ zs = tot, ?_, ?_⟩
          · rintro H5 ⟨as5, M5, acc5, zs5, a1, a2, a3⟩
            exact ⟨ds.length - (i + 1), by omega, as5, M5, acc5, zs5, rfl, hlt, a1, a2, a3⟩
          · intro x H3 hy
            obtain ⟨gy, rvx⟩ := im.yld i as2 Mx H2 x H3 ds[i] sx rx (List.getElem?_eq_getElem hlt) hy
            have sy := gy.stp (as := as2) (M := M2)
            have ry := gy.rel r2
            have A3 := A2.mono sy ry
            have qw : RSl (gx X T) as2 H3 (wipe σ vs) (wipeD e vs) := wipe_rsl ((q1.step r1 sx).step rx gy.stp) vs
            refine ⟨as2, M2, ds[i], wipeD e vs, ry, qw, rvx, ?_⟩
            rw [List.drop_eq_getElem_cons hlt] at hR2
            simp only [compL2] at hR2
            cases hg : g ds[i] (wipeD e vs) M2 with
            | none => rw [hg] at hR2; cases hR2
            | some e1 =>
              rw [hg] at hR2
              intro σ' q' b'
              refine ⟨wipe_but b' hsl, as2, M2, e1, ry, q', ?_⟩
              simp only at hR2
              cases htt : tt e1 M2 with
              | bad => rw [htt] at hR2; cases hR2
              | exc c fs M3 => rw [htt] at hR2; cases hR2
              | ok b M3 =>
                rw [htt] at hR2
                intro as3 H4 s3 r3
                have A4 := A3.mono s3 r3
                cases b with
                | false =>
                  rw [if_neg Bool.false_ne_true]
                  exact ⟨as3, M3, acc, zs, A4, hR2, hzs⟩
                | true =>
                  rw [if_pos rfl]
                  simp only at hR2
                  cases hit : it1 e1 M3 with
                  | bad => rw [hit] at hR2; cases hR2
                  | exc c fs M4 => rw [hit] at hR2; cases hR2
                  | ok pr M4 =>
                    obtain ⟨ds1, fz1⟩ := pr
                    rw [hit] at hR2
                    simp only at hR2
                    cases hcp : compL g1 tt1 te (wipeD e1 vs1) ds1 M4 with
                    | bad => rw [hcp] at hR2; cases hR2
                    | exc c fs M5 => rw [hcp] at hR2; cases hR2
                    | ok ys M5 =>
                      rw [hcp] at hR2
                      simp only at hR2
                      cases hth : thawO fz1 M5 with
                      | none => rw [hth] at hR2; cases hR2
                      | some M6 =>
                        rw [hth] at hR2
                        simp only at hR2
                        cases hc2 : compL2 g tt it1 vs1 g1 tt1 te (wipeD e vs) (ds.drop (i + 1)) M6 with
                        | bad => rw [hc2] at hR2; cases hR2
                        | exc c fs M7 => rw [hc2] at hR2; cases hR2
                        | ok zs' M7 =>
                          rw [hc2] at hR2
                          simp only [Res.ok.injEq] at hR2
                          obtain ⟨rfl, rfl⟩ := hR2
                          refine lc_inner A4 (q'.step ry s3) hsl1 hit hcp hth ?_ fun as5 H5 A5 => ⟨as5, M6, acc ++ ys, zs', A5, hc2, by simpa using hzs⟩
                          have := congrArg List.length hzs
                          simp only [List.length_append] at this
                          omega
        · have e' : i = ds.length := by omega
          subst e'
          refine .inl ⟨im.stop _ as2 Mx H2 sx rx (Nat.le_refl _), ?_⟩
          rw [List.drop_length] at hR2
          simp only [compL2, Res.ok.injEq] at hR2
          obtain ⟨rfl, rfl⟩ := hR2
          rw [List.append_nil] at hzs
          subst hzs
          exact lc_end hD sb lk r1 A2 h
theorem se_lc2 (o : Bool) (own own1 : List (Str × Nat)) (hc : X.calm = true) (hN : X.N.Nodup) (hi : SI X T W tg iter it)
    (hg : ∀ (s : Shared) (H : Hp) (C : Addr) (cl : List (Str × Addr)) (fp : List Addr), SG (X.blk s H scope (compEnvC scope cl C X.env) fp) T tg sl g)
    (ht : ∀ (s : Shared) (H : Hp) (C : Addr) (cl : List (Str × Addr)) (fp : List Addr), STs (X.blk s H scope (compEnvC scope cl C X.env) fp) T wF ifs tt)
    (hi1 : ∀ (s : Shared) (H : Hp) (C : Addr) (cl : List (Str × Addr)) (fp : List Addr), SI (X.blk s H scope (compEnvC scope cl C X.env) fp) T wF tg1 iter1 it1)
    (hg1 : ∀ (s : Shared) (H : Hp) (C : Addr) (cl : List (Str × Addr)) (fp : List Addr), SG (X.blk s H scope (compEnvC scope cl C X.env) fp) T tg1 sl1 g1)
    (ht1 : ∀ (s : Shared) (H : Hp) (C : Addr) (cl : List (Str × Addr)) (fp : List Addr), STs (X.blk s H scope (compEnvC scope cl C X.env) fp) T wF ifs1 tt1)
    (he : ∀ (s : Shared) (H : Hp) (C : Addr) (cl : List (Str × Addr)) (fp : List Addr), SE (X.blk s H scope (compEnvC scope cl C X.env) fp) T wF elt te)
    (ok : blkC X.N X.env.scope scope own = true := by rfl) (hsl : ∀ i ∈ sl, i ∈ own.map (·.2) := by decide) (hsl1 : ∀ i ∈ sl1, i ∈ own1.map (·.2) := by decide) (hv : ∀ i ∈ own1.map (·.2), i ∈ own.map (·.2) := by decide)
    (hs : ∀ x, foldedSetIterable iter X.env x = pure x := by intro _; rfl) (hs1 : ∀ env x, foldedSetIterable iter1 env x = pure x := by intro _ _; rfl) :
    SE X T W (.ListComp elt [⟨tg, iter, ifs, 0⟩, ⟨tg1, iter1, ifs1, 0⟩] scope pos) (eLc2 o (own.map (·.2)) it g tt (own1.map (·.2)) it1 g1 tt1 te) :=
  (pe_lc2 hc hN hi (blkOk_by ok) hv hg ht hi1 hg1 ht1 he hs hs1).weak fun σ H Q h => lc_read2 o hsl hsl1 h
theorem ss_setLc2 (i : Nat) {y : Str} {py spos : Pos} (o : Bool) (own own1 : List (Str × Nat)) (hc : X.calm = true) (hN : X.N.Nodup) (hi : SI X T W tg iter it)
    (hg : ∀ (s : Shared) (H : Hp) (C : Addr) (cl : List (Str × Addr)) (fp : List Addr), SG (X.blk s H scope (compEnvC scope cl C X.env) fp) T tg sl g)
    (ht : ∀ (s : Shared) (H : Hp) (C : Addr) (cl : List (Str × Addr)) (fp : List Addr), STs (X.blk s H scope (compEnvC scope cl C X.env) fp) T wF ifs tt)
    (hi1 : ∀ (s : Shared) (H : Hp) (C : Addr) (cl : List (Str × Addr)) (fp : List Addr), SI (X.blk s H scope (compEnvC scope cl C X.env) fp) T wF tg1 iter1 it1)
    (hg1 : ∀ (s : Shared) (H : Hp) (C : Addr) (cl : List (Str × Addr)) (fp : List Addr), SG (X.blk s H scope (compEnvC scope cl C X.env) fp) T tg1 sl1 g1)
    (ht1 : ∀ (s : Shared) (H : Hp) (C : Addr) (cl : List (Str × Addr)) (fp : List Addr), STs (X.blk s H scope (compEnvC scope cl C X.env) fp) T wF ifs1 tt1)
    (he : ∀ (s : Shared) (H : Hp) (C : Addr) (cl : List (Str × Addr)) (fp : List Addr), SE (X.blk s H scope (compEnvC scope cl C X.env) fp) T wF elt te)
    (hy : X.N[i]? = some y := by rfl) (hyl : X.env.scope.names.lookup y = some .local := by rfl)
    (hsw : swapsWith (.ListComp elt [⟨tg, iter, ifs, 0⟩, ⟨tg1, iter1, ifs1, 0⟩] scope pos) (some (.Name y py)) spos.line X.env = pure true := by rfl)
    (ok : blkC X.N X.env.scope scope own = true := by rfl) (hsl : ∀ i ∈ sl, i ∈ own.map (·.2) := by decide) (hsl1 : ∀ i ∈ sl1, i ∈ own1.map (·.2) := by decide) (hv : ∀ i ∈ own1.map (·.2), i ∈ own.map (·.2) := by decide)
    (hs : ∀ x, foldedSetIterable iter X.env x = pure x := by intro _; rfl) (hs1 : ∀ env x, foldedSetIterable iter1 env x = pure x := by intro _ _; rfl) :
    SS X T W (.Assign [.Name y py] (.ListComp elt [⟨tg, iter, ifs, 0⟩, ⟨tg1, iter1, ifs1, 0⟩] scope pos) spos) (sSet i (eLc2 o (own.map (·.2)) it g tt (own1.map (·.2)) it1 g1 tt1 te)) :=
  (ps_setLc2 hc hN hy hyl hsw hi (blkOk_by ok) hv hg ht hi1 hg1 ht1 he hs hs1).weak fun D' σ H ⟨as, M, e, r, q, h⟩ => lc_read2 o hsl hsl1 (bindES r q h fun d v as1 M1 H1 r1 q1 s1 rv h1 => h1 as1 H1 _ Stp.refl r1 (q1.set i rv))
end
end EV

set_option Elab.async false
set_option linter.all false
set_option autoImplicit false
set_option maxRecDepth 100000
set_option maxHeartbeats 4000000
namespace EV
open PySem PySem.Spec PyProof.Rows L2
/-! ### calls of built-in functions and types -/
/-- what a built-in makes of its arguments -/
def CbD (X : Cx) (T : Tb) (f : Value) (g : List D → Mem → Res D) : Prop :=
  ∀ (pins : List (Addr × Obj)) (s : Shared) (σ σ₀ : L2.St) (H : Hp) (as : List Addr) (M : Mem) (ds : List D) (vs : List V) (us : List Value) (Q : VK) (W : WX),
    Inv X pins σ H s → Rel (gx X T) as M H → RVs (gx X T) as H vs ds → Vals vs us → PostE (gx X T) W σ₀ as M H Q (g ds M) → wpAny (model X.prog X.w) X.A (call f us) (EP X pins σ Q) X.xe s
def eCb (g : List D → Mem → Res D) (t : Ax) : Ex := fun e M => (t e M).bind g
section
variable {X : Cx} {T : Tb} {W : WX} {p pos : Pos} {x : Str} {id : String} {e : Expr} {es : List Expr} {t : Ax} {g : List D → Mem → Res D}
theorem cb_read {f : Value} {σ : L2.St} {H : Hp} {Q : VK} (h : tE (gx X T) W (eCb g t) σ H Q) : tA (gx X T) W t σ H fun vs H1 => ∃ as M ds, Rel (gx X T) as M H1 ∧ RVs (gx X T) as H1 vs ds ∧ PostE (gx X T) W σ as M H1 Q (g ds M) := by
  obtain ⟨as, M, e', r, q, h⟩ := h
  exact bindAE r q h fun d v as1 M1 H1 r1 q1 s1 rv h1 => ⟨as1, M1, d, r1, rv, h1⟩
theorem se_cb (hc : CbD X T (.builtin id) g) (hm : X.mg x = none) (hv : bootBuiltins x = some (.builtin id)) (ha : SA X T W (e :: es) t) (hg : Gl X x := by rfl) (hn : x ≠ "__name__" := by decide) (hdb : (x == ("__debug__" : Str)) = false := by decide)
    (he : starEach (e :: es) X.env = (false, eval e X.env) :: starEach es X.env := by rfl) (hpl : (backTo pos (starEach es X.env)).any (·.1) = false := by rfl) : SE X T W (.Call (.Name x p) (e :: es) [] pos) (eCb g t) := by
  refine ⟨fun pins s σ H Q I h => ?_⟩
  refine wpAny_Call_Name_kw (ld_blt I hg hm hv ?_ hn hdb)
  refine PyProof.Rows.callWith_builtin1 (thn (ha.run pos pins s σ H _ I (cb_read (f := .builtin id) h)) fun us s1 ⟨vs, H1, I1, r1, as, M, ds, rl, rv, q1⟩ => hc pins s1 σ σ H1 as M ds vs us Q W I1 rl rv r1 q1) he hpl
theorem se_ct (hc : CbD X T (.type id) g) (hm : X.mg x = none) (hv : bootBuiltins x = some (.type id)) (ha : SA X T W (e :: es) t) (hg : Gl X x := by rfl) (hn : x ≠ "__name__" := by decide) (hdb : (x == ("__debug__" : Str)) = false := by decide)
    (he : starEach (e :: es) X.env = (false, eval e X.env) :: starEach es X.env := by rfl) (hpl : (backTo pos (starEach es X.env)).any (·.1) = false := by rfl) : SE X T W (.Call (.Name x p) (e :: es) [] pos) (eCb g t) := by
  refine ⟨fun pins s σ H Q I h => ?_⟩
  refine wpAny_Call_Name_kw (ld_blt I hg hm hv ?_ hn hdb)
  refine PyProof.Rows.callWith_type1 (thn (ha.run pos pins s σ H _ I (cb_read (f := .type id) h)) fun us s1 ⟨vs, H1, I1, r1, as, M, ds, rl, rv, q1⟩ => hc pins s1 σ σ H1 as M ds vs us Q W I1 rl rv r1 q1) he hpl
theorem one_rvs {G : Kx} {as : List Addr} {H : Hp} {vs : List V} {d : D} (h : RVs G as H vs [d]) : ∃ v, vs = [v] ∧ RV G as H v d := by
  cases h with
  | cons a b => cases b; exact ⟨_, rfl, a⟩
theorem two_rvs {G : Kx} {as : List Addr} {H : Hp} {vs : List V} {d d' : D} (h : RVs G as H vs [d, d']) : ∃ v v', vs = [v, v'] ∧ RV G as H v d ∧ RV G as H v' d' := by
  cases h with
  | cons a b => obtain ⟨v', rfl, q⟩ := one_rvs b; exact ⟨_, _, rfl, a, q⟩
theorem paired_vals {α β : Type} {R : α → β → Prop} {f : α → V} {k : β → Value} (hr : ∀ a b, R a b → RelV (f a) (k b)) : ∀ {l : List α} {m : List β}, Paired R l m → Vals (l.map f) (m.map k)
  | _, _, .nil => .nil
  | _, _, .cons a b => .cons (hr _ _ a) (paired_vals hr b)
/-- the dict as it lies -/
theorem dict_raw {pins : List (Addr × Obj)} {s : Shared} {σ : L2.St} {H : Hp} {a : Addr} {ks : List D} {kvs vvs : List V} (I : Inv X pins σ H s) (d : DictAt (gx X T) H a ks kvs vvs) :
    ∃ es ep, s.heap.DictRaw a es ep ∧ es.size = ks.length ∧ Vals kvs (es.toList.map (·.key)) ∧ Vals vvs (es.toList.map (·.val)) ∧ ks.length ≤ sizeLine ∧ (a == sysModules) = false := by
  obtain ⟨ep, raw, e, rfl, rfl, rfl, nd, hkey, hl, hs⟩ := d
  obtain ⟨⟨o, es, g1, g2, g3, g4⟩, _⟩ := (show ObjOk X.prog X.w H s.heap a (dictO X.w a ep raw) from I.hok a _ e)
  have hlen := Paired.length g4
  refine ⟨es, ep, ⟨o, g1, g2, g3⟩, by simpa using hlen.symm, ?_, ?_, by simpa using hl, hs⟩
  · exact paired_vals (fun a b h => h.2.1) g4
  · exact paired_vals (fun a b h => h.2.2) g4
theorem len_raw {prog : Program} {w : World} {A : Around} {E : Value → Shared → Prop} {s : Shared} {d : Addr} {es : Array DictEntry} {ep : Nat} {Q : Value → Shared → Prop} (hd : (d == sysModules) = false) (hm : s.heap.DictRaw d es ep) (hfit : es.size ≤ sizeLine)
    (h : Q (.int es.size (s.toks + 1)) { s with toks := s.toks + 1 + 1 }) : wpAny (model prog w) A (call (.builtin "len") [.ref d]) Q E s := by
  have hz : sizeLine = 16777216 := sizeLine_eq
  refine Calls.call_function_entry kind_len plain_len entry_len (args_len1 _) ?_
  unfold Builtin.«len»
  refine wpAny_bind (m := oneArg "len" _) (wpAny_pure ?_)
  refine wpAny_bind (m := callSpecial? (.ref d) (Str.ofString "__len__")) (wpAny_callSpecial?_slot (name := Str.ofString "__len__") hm.typeIs F.slot_dict_len (call_len_raw hd hm ?_))
  show wpAny _ _ _ _ _ { s with toks := s.toks + 1 }
  refine wpAny_bind (wpAny_holding (wpAny_pure ?_))
  refine wpAny_bind (wpAny_letGo ?_)
  show wpAny _ _ (if ((es.size : Nat) : Int) < 0 then _ else _) _ _ _
  rw [if_neg (by omega)]
  show wpAny _ _ (if ((es.size : Nat) : Int) ≥ 2 ^ 63 then _ else _) _ _ _
  rw [if_neg (by omega)]
  exact wpAny_bind (wpAny_mkInt (wpAny_pure ⟨_, rfl, h⟩))
/-! len -/
def bLen : List D → Mem → Res D := fun ds M => match ds with
  | [.tup xs] => .ok (.int xs.length) M
  | [.str z] => if nle z.length sizeLine then .ok (.int z.length) M else .bad
  | [d] => match asL M d with
    | some xs => .ok (.int xs.length) M
    | none => match asD M d with
      | some (ks, _) => .ok (.int ks.length) M
      | none => match d with
        | .fz xs => .ok (.int xs.length) M
        | _ => .bad
  | _ => .bad
theorem cb_len : CbD X T (.builtin "len") bLen := by
  intro pins s σ σ₀ H as M ds vs us Q W I r rv ru h
  unfold bLen at h
  split at h
  · obtain ⟨v, rfl, q⟩ := one_rvs rv
    obtain ⟨a, ws, rfl, h1, h2⟩ := tup_ok q
    exact call_len_seq pins s σ H _ us Q I ru ⟨_, ws, rfl, .inr h1, by rw [h2.len]; exact h.fin r (.int _)⟩
  · split at h
    · rename_i z hz
      obtain ⟨v, rfl, q⟩ := one_rvs rv
      cases q
      exact call_len_str pins s σ H _ us Q I ru ⟨_, rfl, nle_iff.mp hz, h.fin r (.int _)⟩
    · exact h.elim
  · obtain ⟨v, rfl, q⟩ := one_rvs rv
    split at h
    · rename_i xs hx
      obtain ⟨a, ws, rfl, h1, h2⟩ := asL_ok r q hx
      exact call_len pins s σ H _ us Q I ru ⟨_, _, rfl, .inl ⟨ws, .inl (.inl h1), rfl⟩, by rw [h2.len]; exact h.fin r (.int _)⟩
    · split at h
      · rename_i ks wss hx
        obtain ⟨a, kvs, vvs, rfl, h1, h2, h3⟩ := asD_ok r q hx
        obtain ⟨u, rfl, ru2⟩ := vals1 ru
        cases (show u = Value.ref a from ru2)
        obtain ⟨es, ep, d1, d2, d3, d4, d5, d6⟩ := dict_raw I h1
        exact len_raw d6 d1 (by rw [d2]; exact d5) ⟨.int _, H, I.tok _, ⟨_, rfl⟩, by rw [d2]; exact h.fin r (.int _)⟩
      · split at h
        · cases q with
          | fz q1 =>
            exact call_len pins s σ H _ us Q I ru ⟨_, _, rfl, .inl ⟨_, q1.sql, rfl⟩, by rw [List.length_map]; exact h.fin r (.int _)⟩
        · exact h.elim
  · exact h.elim
/-! scalars -/
def bAbs : List D → Mem → Res D := fun ds M => match ds with
  | [.int i] => .ok (.int (if i < 0 then -i else i)) M
  | _ => .bad
theorem cb_abs : CbD X T (.builtin "abs") bAbs := by
  intro pins s σ σ₀ H as M ds vs us Q W I r rv ru h
  unfold bAbs at h
  split at h
  · obtain ⟨v, rfl, q⟩ := one_rvs rv
    cases q
    exact call_abs pins s σ H _ us Q I ru ⟨_, rfl, h.fin r (.int _)⟩
  · exact h.elim
def bInt : List D → Mem → Res D := fun ds M => match ds with
  | [.int i] => .ok (.int i) M
  | [.bl b] => .ok (.int (if b then 1 else 0)) M
  | _ => .bad
theorem cb_int : CbD X T (.type "int") bInt := by
  intro pins s σ σ₀ H as M ds vs us Q W I r rv ru h
  unfold bInt at h
  split at h
  · obtain ⟨v, rfl, q⟩ := one_rvs rv
    cases q
    exact call_int1 pins s σ H _ us Q I ru (.inl ⟨_, rfl, h.fin r (.int _)⟩)
  · obtain ⟨v, rfl, q⟩ := one_rvs rv
    cases q
    exact call_int1 pins s σ H _ us Q I ru (.inr ⟨_, rfl, h.fin r (.int _)⟩)
  · exact h.elim
/-- the ints of a list -/
def intsOf : List D → Option (List Int)
  | [] => some []
  | .int i :: xs => (intsOf xs).map (i :: ·)
  | _ :: _ => none
theorem intsOf_rvs {G : Kx} {as : List Addr} {H : Hp} : ∀ {ds : List D} {ns : List Int} {vs : List V}, intsOf ds = some ns → RVs G as H vs ds → vs = ns.map V.int
  | [], _, _, h, .nil => by cases h; rfl
  | d :: ds, ns, _, h, .cons a b => by
    cases d <;> simp [intsOf] at h
    obtain ⟨ms, e, rfl⟩ := h
    cases a
    rw [intsOf_rvs e b]
    rfl
def minI : Int → List Int → Int
  | m, [] => m
  | m, x :: xs => minI (if x < m then x else m) xs
def maxI : Int → List Int → Int
  | m, [] => m
  | m, x :: xs => maxI (if x > m then x else m) xs
theorem minI_spec : ∀ (xs : List Int) (m : Int), minI m xs ∈ m :: xs ∧ ∀ y ∈ m :: xs, minI m xs ≤ y
  | [], m => by simp [minI]
  | x :: xs, m => by
    obtain ⟨a, b⟩ := minI_spec xs (if x < m then x else m)
    unfold minI
    refine ⟨?_, fun y hy => ?_⟩
    · rcases List.mem_cons.mp a with z | z
      · rw [z]; split <;> simp
      · simp [z]
    · have h1 := b _ List.mem_cons_self
      have h2 : (if x < m then x else m) ≤ x ∧ (if x < m then x else m) ≤ m := by split <;> omega
      rcases List.mem_cons.mp hy with rfl | hy
      · omega
      · rcases List.mem_cons.mp hy with rfl | hy
        · omega
        · exact b y (List.mem_cons_of_mem _ hy)
theorem maxI_spec : ∀ (xs : List Int) (m : Int), maxI m xs ∈ m :: xs ∧ ∀ y ∈ m :: xs, y ≤ maxI m xs
  | [], m => by simp [maxI]
  | x :: xs, m => by
    obtain ⟨a, b⟩ := maxI_spec xs (if x > m then x else m)
    unfold maxI
    refine ⟨?_, fun y hy => ?_⟩
    · rcases List.mem_cons.mp a with z | z
      · rw [z]; split <;> simp
      · simp [z]
    · have h1 := b _ List.mem_cons_self
      have h2 : x ≤ (if x > m then x else m) ∧ m ≤ (if x > m then x else m) := by split <;> omega
      rcases List.mem_cons.mp hy with rfl | hy
      · omega
      · rcases List.mem_cons.mp hy with rfl | hy
        · omega
        · exact b y (List.mem_cons_of_mem _ hy)
def bMin : List D → Mem → Res D := fun ds M => match ds with
  | [.int i, .int j] => .ok (.int (if j < i then j else i)) M
  | [d] => match asL M d with
    | some xs => match intsOf xs with
      | some (n :: ns) => .ok (.int (minI n ns)) M
      | _ => .bad
    | none => .bad
  | _ => .bad
def bMax : List D → Mem → Res D := fun ds M => match ds with
  | [.int i, .int j] => .ok (.int (if j > i then j else i)) M
  | [d] => match asL M d with
    | some xs => match intsOf xs with
      | some (n :: ns) => .ok (.int (maxI n ns)) M
      | _ => .bad
    | none => .bad
  | _ => .bad
theorem cb_min (hc : X.calm = true) : CbD X T (.builtin "min") bMin := by
  intro pins s σ σ₀ H as M ds vs us Q W I r rv ru h
  unfold bMin at h
  split at h
  · obtain ⟨v, v', rfl, q1, q2⟩ := two_rvs rv
    cases q1; cases q2
    exact call_min2 hc pins s σ H _ us Q I ru ⟨_, _, rfl, h.fin r (.int _)⟩
  · obtain ⟨v, rfl, q⟩ := one_rvs rv
    split at h
    · rename_i xs hx
      obtain ⟨a, ws, rfl, h1, h2⟩ := asL_ok r q hx
      split at h
      · rename_i n ns hn
        have e := intsOf_rvs hn h2
        subst e
        refine cr_min hc pins s σ H _ us Q I ru ⟨a, n :: ns, rfl, .inl (.inl h1), by simp, fun m hm hle => ?_⟩
        obtain ⟨a1, a2⟩ := minI_spec ns n
        have := hle _ a1
        have := a2 m hm
        have e : m = minI n ns := by omega
        rw [e]
        exact h.fin r (.int _)
      · exact h.elim
    · exact h.elim
  · exact h.elim
theorem cb_max (hc : X.calm = true) : CbD X T (.builtin "max") bMax := by
  intro pins s σ σ₀ H as M ds vs us Q W I r rv ru h
  unfold bMax at h
  split at h
  · obtain ⟨v, v', rfl, q1, q2⟩ := two_rvs rv
    cases q1; cases q2
    exact call_max2 hc pins s σ H _ us Q I ru ⟨_, _, rfl, h.fin r (.int _)⟩
  · obtain ⟨v, rfl, q⟩ := one_rvs rv
    split at h
    · rename_i xs hx
      obtain ⟨a, ws, rfl, h1, h2⟩ := asL_ok r q hx
      split at h
      · rename_i n ns hn
        have e := intsOf_rvs hn h2
        subst e
        refine cr_max hc pins s σ H _ us Q I ru ⟨a, n :: ns, rfl, .inl (.inl h1), by simp, fun m hm hle => ?_⟩
        obtain ⟨a1, a2⟩ := maxI_spec ns n
        have := hle _ a1
        have := a2 m hm
        have e : m = maxI n ns := by omega
        rw [e]
        exact h.fin r (.int _)
      · exact h.elim
    · exact h.elim
  · exact h.elim
def sumI : List Int → Int
  | [] => 0
  | x :: xs => x + sumI xs
theorem sumI_eq : ∀ ns : List Int, ns.sum = sumI ns
  | [] => rfl
  | x :: xs => by rw [List.sum_cons, sumI_eq xs]; rfl
def bSum : List D → Mem → Res D := fun ds M => match ds with
  | [d] => match asL M d with
    | some xs => match intsOf xs with
      | some ns => .ok (.int (sumI ns)) M
      | _ => .bad
    | none => .bad
  | _ => .bad
theorem cb_sum (hc : X.calm = true) : CbD X T (.builtin "sum") bSum := by
  intro pins s σ σ₀ H as M ds vs us Q W I r rv ru h
  unfold bSum at h
  split at h
  · obtain ⟨v, rfl, q⟩ := one_rvs rv
    split at h
    · rename_i xs hx
      obtain ⟨a, ws, rfl, h1, h2⟩ := asL_ok r q hx
      split at h
      · rename_i ns hn
        have e := intsOf_rvs hn h2
        subst e
        exact cr_sum hc pins s σ H _ us Q I ru ⟨a, ns, rfl, .inl (.inl h1), by rw [sumI_eq]; exact h.fin r (.int _)⟩
      · exact h.elim
    · exact h.elim
  · exact h.elim
/-! tuple, list -/
def bTuple : List D → Mem → Res D := fun ds M => match ds with
  | [.tup xs] => .ok (.tup xs) M
  | [d] => match asL M d with
    | some xs => .ok (.tup xs) M
    | none => .bad
  | _ => .bad
theorem cb_tuple : CbD X T (.type "tuple") bTuple := by
  intro pins s σ σ₀ H as M ds vs us Q W I r rv ru h
  unfold bTuple at h
  split at h
  · obtain ⟨v, rfl, q⟩ := one_rvs rv
    obtain ⟨a, ws, rfl, h1, h2⟩ := tup_ok q
    exact call_tuple_of pins s σ H _ us Q I ru ⟨a, ws, rfl, .inr ⟨h1, h.fin r q⟩⟩
  · obtain ⟨v, rfl, q⟩ := one_rvs rv
    split at h
    · rename_i xs hx
      obtain ⟨a, ws, rfl, h1, h2⟩ := asL_ok r q hx
      exact call_tuple_of pins s σ H _ us Q I ru ⟨a, ws, rfl, .inl ⟨.inl (.inl h1), fun p hp => h as _ (.ref p) (Stp.laid hp) (r.laid hp) (tup_new r hp h2)⟩⟩
    · exact h.elim
  · exact h.elim
def bList (o : Bool) : List D → Mem → Res D := fun ds M => match ds with
  | [.tup xs] => mkL o xs M
  | [d] => match asL M d with
    | some xs => mkL o xs M
    | none => match asD M d with
      | some (ks, _) => mkL o ks M
      | none => .bad
  | _ => .bad
theorem vals_items {l : List Value} {acc : Array Value} {n : Nat} {P : Nat → Value → Prop} (h : ItemsOf P acc n) (hl : l.length = n) (hp : ∀ i v, P i v → l[i]? = some v) : acc.toList = l := by
  apply List.ext_getElem?
  intro i
  by_cases hi : i < n
  · have h1 : i < acc.size := by rw [h.1]; exact hi
    have e : acc[i]? = some acc[i] := by simp [h1]
    rw [Array.getElem?_toList, e, hp i _ (h.2 i _ e)]
  · have h1 := h.1
    rw [List.getElem?_eq_none (by rw [Array.length_toList]; omega), List.getElem?_eq_none (by omega)]
theorem keys_items {es : Array DictEntry} {acc : Array Value} (h : ItemsOf (fun i v => ∃ hi : i < es.size, v = es[i].key) acc es.size) : acc.toList = es.toList.map (·.key) :=
  vals_items h (by simp) fun i v ⟨hi, e⟩ => by
    rw [List.getElem?_map, Array.getElem?_toList, Array.getElem?_eq_getElem hi, e]
    rfl
theorem cb_list (o : Bool) (hc : X.calm = true) : CbD X T (.type "list") (bList o) := by
  intro pins s σ σ₀ H as M ds vs us Q W I r rv ru h
  unfold bList at h
  split at h
  · obtain ⟨v, rfl, q⟩ := one_rvs rv
    obtain ⟨a, ws, rfl, h1, h2⟩ := tup_ok q
    exact call_list_of pins s σ H _ us Q I ru ⟨a, ws, rfl, .inr h1, PostE.mkL r h h2⟩
  · obtain ⟨v, rfl, q⟩ := one_rvs rv
    split at h
    · rename_i xs hx
      obtain ⟨a, ws, rfl, h1, h2⟩ := asL_ok r q hx
      exact call_list_of pins s σ H _ us Q I ru ⟨a, ws, rfl, .inl (.inl (.inl h1)), PostE.mkL r h h2⟩
    · split at h
      · rename_i ks wss hx
        obtain ⟨a, kvs, vvs, rfl, h1, h2, h3⟩ := asD_ok r q hx
        obtain ⟨u, rfl, ru2⟩ := vals1 ru
        cases (show u = Value.ref a from ru2)
        obtain ⟨es, ep, d1, d2, d3, d4, d5, d6⟩ := dict_raw I h1
        refine PySem.W.kdl_call (PySem.KdlSrc.rawDict (es := es) (ep := ep) d6) (I.ok.hd hc) d1 (by rw [d2]; exact d5) fun h' tk acc' c' hk e hacc => ?_
        have e2 := keys_items hacc
        refine ⟨.ref s.heap.objs.size, upd H s.heap.objs.size (.lst kvs), I.laid (t' := tk) hk (Nat.le_refl _) (show ObjOk X.prog X.w _ h' _ (.lst kvs) from ⟨?_, acc'.toList, c', by rw [e2]; exact d3, by rw [Array.toArray_toList]; exact e⟩), rfl, PostE.mkL r h h2 _ (I.hok.fresh (Nat.le_refl _))⟩
        rw [h2.len]; exact d5
      · exact h.elim
  · exact h.elim
end
end EV

set_option Elab.async false
set_option linter.all false
set_option autoImplicit false
set_option maxRecDepth 100000
set_option maxHeartbeats 4000000
namespace EV
open PySem PySem.Spec PyProof.Rows L2
/-! ### sorting, plainly -/
section
variable {α : Type}
def insB (lt : α → α → Bool) (x : α) : List α → List α
  | [] => [x]
  | y :: ys => if lt y x then y :: insB lt x ys else x :: y :: ys
def sortB (lt : α → α → Bool) : List α → List α
  | [] => []
  | x :: xs => insB lt x (sortB lt xs)
theorem insB_mem {lt : α → α → Bool} {x z : α} : ∀ {l : List α}, z ∈ insB lt x l ↔ z = x ∨ z ∈ l
  | [] => by simp [insB]
  | y :: ys => by
    unfold insB
    split
    · rw [List.mem_cons, insB_mem, List.mem_cons]
      constructor
      · rintro (h | h | h)
        · exact .inr (.inl h)
        · exact .inl h
        · exact .inr (.inr h)
      · rintro (h | h | h)
        · exact .inr (.inl h)
        · exact .inl h
        · exact .inr (.inr h)
    · simp
theorem sortB_mem {lt : α → α → Bool} {z : α} : ∀ {l : List α}, z ∈ sortB lt l ↔ z ∈ l
  | [] => by simp [sortB]
  | x :: xs => by unfold sortB; rw [insB_mem, sortB_mem, List.mem_cons]
theorem insB_len {lt : α → α → Bool} {x : α} : ∀ {l : List α}, (insB lt x l).length = l.length + 1
  | [] => rfl
  | y :: ys => by
    unfold insB
    split
    · simp [insB_len]
    · simp
theorem sortB_len {lt : α → α → Bool} : ∀ {l : List α}, (sortB lt l).length = l.length
  | [] => rfl
  | x :: xs => by unfold sortB; rw [insB_len, sortB_len]; rfl
theorem insB_congr {lt lt' : α → α → Bool} {x : α} : ∀ {l : List α}, (∀ y ∈ l, lt y x = lt' y x) → insB lt x l = insB lt' x l
  | [], _ => rfl
  | y :: ys, h => by
    unfold insB
    rw [h y List.mem_cons_self, insB_congr fun z hz => h z (List.mem_cons_of_mem _ hz)]
theorem sortB_congr {lt lt' : α → α → Bool} : ∀ {l : List α}, (∀ x ∈ l, ∀ y ∈ l, lt y x = lt' y x) → sortB lt l = sortB lt' l
  | [], _ => rfl
  | x :: xs, h => by
    unfold sortB
    rw [sortB_congr fun a ha b hb => h a (List.mem_cons_of_mem _ ha) b (List.mem_cons_of_mem _ hb)]
    exact insB_congr fun y hy => h x List.mem_cons_self y (List.mem_cons_of_mem _ (sortB_mem.mp hy))
open PySem.W in
theorem insB_sorted {le : α → α → Bool} (T : TotalLe le) {x : α} : ∀ {l : List α}, l.Pairwise (fun a b => le a b = true) → (insB (fun y x => !le x y) x l).Pairwise (fun a b => le a b = true)
  | [], _ => by simp [insB]
  | y :: ys, h => by
    obtain ⟨h1, h2⟩ := List.pairwise_cons.mp h
    unfold insB
    split
    · rename_i q
      refine List.pairwise_cons.mpr ⟨fun z hz => ?_, insB_sorted T h2⟩
      rcases insB_mem.mp hz with rfl | hz
      · rcases T.total y z with e | e
        · exact e
        · rw [e] at q; simp at q
      · exact h1 z hz
    · rename_i q
      have q : le x y = true := by simpa using q
      refine List.pairwise_cons.mpr ⟨fun z hz => ?_, h⟩
      rcases List.mem_cons.mp hz with rfl | hz
      · exact q
      · exact T.trans x y z q (h1 z hz)
open PySem.W in
theorem insB_rank {le : α → α → Bool} (T : TotalLe le) {x : α} (c : α) : ∀ {l : List α}, (insB (fun y x => !le x y) x l).filter (sameRank le c) = (x :: l).filter (sameRank le c)
  | [] => by simp [insB]
  | y :: ys => by
    unfold insB
    split
    · rename_i q
      have q : le x y = false := by simpa using q
      rw [List.filter_cons, insB_rank T c, List.filter_cons (x := x), List.filter_cons (x := x), List.filter_cons (x := y)]
      cases hy : sameRank le c y with
      | false => simp
      | true =>
        cases hx : sameRank le c x with
        | false => simp
        | true =>
          unfold sameRank at hx hy
          rw [Bool.and_eq_true] at hx hy
          rw [T.trans x c y hx.2 hy.1] at q
          cases q
    · rfl
open PySem.W in
theorem sortB_rank {le : α → α → Bool} (T : TotalLe le) (c : α) : ∀ {l : List α}, (sortB (fun y x => !le x y) l).filter (sameRank le c) = l.filter (sameRank le c)
  | [] => rfl
  | x :: xs => by
    unfold sortB
    rw [insB_rank T c, List.filter_cons, sortB_rank T c, List.filter_cons]
open PySem.W in
theorem sortB_sorted {le : α → α → Bool} (T : TotalLe le) : ∀ {l : List α}, (sortB (fun y x => !le x y) l).Pairwise (fun a b => le a b = true)
  | [] => .nil
  | x :: xs => by unfold sortB; exact insB_sorted T (sortB_sorted T)
open PySem.W in
theorem sortB_eq {le : α → α → Bool} (T : TotalLe le) (l : List α) : sortB (fun y x => !le x y) l = l.mergeSort le := sort_unique T (sortB_sorted T) fun c => sortB_rank T c
end
/-! ### the order of data -/
inductive Ty where
  | i | s | b
  | l (t : Ty)
  | p (t u : Ty)
  | e
def fits : Ty → D → Bool
  | .i, .int _ => true
  | .s, .str _ => true
  | .b, .bl _ => true
  | .l t, .tup xs => xs.all (fits t)
  | .p t u, .tup (x :: xs) => fits t x && fits u (.tup xs)
  | .p _ _, .tup [] => true
  | .e, .tup [] => true
  | _, _ => false
def pdX (d : D) : PyData := (pd d).getD .none
mutual
def cmpD : D → D → Ordering
  | .int i, .int j => if i < j then .lt else if i = j then .eq else .gt
  | .str x, .str y => if strLt x y then .lt else if x = y then .eq else .gt
  | .bl x, .bl y => if x == y then .eq else if y then .lt else .gt
  | .tup xs, .tup ys => cmpL xs ys
  | .lst xs, .lst ys => cmpL xs ys
  | _, _ => .eq
def cmpL : List D → List D → Ordering
  | [], [] => .eq
  | [], _ :: _ => .lt
  | _ :: _, [] => .gt
  | x :: xs, y :: ys => match cmpD x y with
    | .eq => cmpL xs ys
    | r => r
end
theorem fits_l {t : Ty} {x : D} (h : fits (.l t) x = true) : ∃ xs, x = .tup xs ∧ xs.all (fits t) = true := by
  cases x with
  | tup xs => exact ⟨xs, rfl, by rw [fits] at h; exact h⟩
  | _ => rw [fits] at h <;> first | (cases h; done) | (intros; contradiction)
theorem fits_p {t u : Ty} {x : D} (h : fits (.p t u) x = true) : ∃ xs, x = .tup xs := by
  cases x with
  | tup xs => exact ⟨xs, rfl⟩
  | _ => rw [fits] at h <;> first | (cases h; done) | (intros; contradiction)
theorem fits_e {x : D} (h : fits .e x = true) : x = .tup [] := by
  cases x with
  | tup xs =>
    cases xs with
    | nil => rfl
    | cons a b => simp [fits] at h
  | _ => rw [fits] at h <;> first | (cases h; done) | (intros; contradiction)
open PySem.W in
theorem fits_alike : ∀ (t : Ty) {x y : D}, fits t x = true → fits t y = true → ∃ p q, pd x = some p ∧ pd y = some q ∧ alike p q = true
  | .i, x, y, h1, h2 => by
    cases x <;> simp [fits] at h1
    cases y <;> simp [fits] at h2
    exact ⟨_, _, rfl, rfl, by simp [alike]⟩
  | .s, x, y, h1, h2 => by
    cases x <;> simp [fits] at h1
    cases y <;> simp [fits] at h2
    exact ⟨_, _, rfl, rfl, by simp [alike]⟩
  | .b, x, y, h1, h2 => by
    cases x <;> simp [fits] at h1
    cases y <;> simp [fits] at h2
    exact ⟨_, _, rfl, rfl, by simp [alike]⟩
  | .e, x, y, h1, h2 => by
    have e1 := fits_e h1
    have e2 := fits_e h2
    subst e1 e2
    exact ⟨.tuple [], .tuple [], rfl, rfl, by simp [alike, alikeAll]⟩
  | .l t, x, y, h1, h2 => by
    obtain ⟨xs, rfl, h1⟩ := fits_l h1
    obtain ⟨ys, rfl, h2⟩ := fits_l h2
    have key : ∀ xs ys : List D, xs.all (fits t) = true → ys.all (fits t) = true → ∃ ps qs, pdL xs = some ps ∧ pdL ys = some qs ∧ alikeAll ps qs = true := by
      intro xs
      induction xs with
      | nil =>
        intro ys _ hy
        have : ∃ qs, pdL ys = some qs := by
          clear h1 h2
          induction ys with
          | nil => exact ⟨[], rfl⟩
          | cons y ys ih =>
            simp only [List.all_cons, Bool.and_eq_true] at hy
            obtain ⟨qs, e⟩ := ih hy.2
            obtain ⟨p, q, e1, e2, _⟩ := fits_alike t hy.1 hy.1
            exact ⟨q :: qs, by simp [pdL, e2, e]⟩
        obtain ⟨qs, e⟩ := this
        exact ⟨[], qs, rfl, e, by simp [alikeAll]⟩
      | cons x xs ih =>
        intro ys hx hy
        simp only [List.all_cons, Bool.and_eq_true] at hx
        cases ys with
        | nil =>
          obtain ⟨ps, qs, e1, e2, _⟩ := ih [] hx.2 rfl
          obtain ⟨p, q, e3, _, _⟩ := fits_alike t hx.1 hx.1
          exact ⟨p :: ps, [], by simp [pdL, e1, e3], rfl, by simp [alikeAll]⟩
        | cons y ys =>
          simp only [List.all_cons, Bool.and_eq_true] at hy
          obtain ⟨ps, qs, e1, e2, e3⟩ := ih ys hx.2 hy.2
          obtain ⟨p, q, e4, e5, e6⟩ := fits_alike t hx.1 hy.1
          exact ⟨p :: ps, q :: qs, by simp [pdL, e1, e4], by simp [pdL, e2, e5], by rw [alikeAll, e6, e3]; rfl⟩
    obtain ⟨ps, qs, e1, e2, e3⟩ := key xs ys h1 h2
    exact ⟨.tuple ps, .tuple qs, by simp [pd, e1], by simp [pd, e2], by rw [alike]; exact e3⟩
  | .p t u, x, y, h1, h2 => by
    obtain ⟨xs, rfl⟩ := fits_p h1
    obtain ⟨ys, rfl⟩ := fits_p h2
    have one : ∀ xs : List D, fits (.p t u) (.tup xs) = true → ∃ ps, pdL xs = some ps := fun xs h => by
      cases xs with
      | nil => exact ⟨[], rfl⟩
      | cons x xs =>
        simp only [fits, Bool.and_eq_true] at h
        obtain ⟨p, q, e1, e2, _⟩ := fits_alike t h.1 h.1
        obtain ⟨p', q', e3, e4, _⟩ := fits_alike u h.2 h.2
        simp [pd] at e3
        obtain ⟨ps, e5, _⟩ := e3
        exact ⟨p :: ps, by simp [pdL, e1, e5]⟩
    cases xs with
    | nil =>
      obtain ⟨qs, e⟩ := one ys h2
      exact ⟨.tuple [], .tuple qs, rfl, by simp [pd, e], by simp [alike, alikeAll]⟩
    | cons x xs =>
      cases ys with
      | nil =>
        obtain ⟨ps, e⟩ := one (x :: xs) h1
        exact ⟨.tuple ps, .tuple [], by simp [pd, e], rfl, by cases ps <;> simp [alike, alikeAll]⟩
      | cons y ys =>
        simp only [fits, Bool.and_eq_true] at h1 h2
        obtain ⟨p, q, e1, e2, e3⟩ := fits_alike t h1.1 h2.1
        obtain ⟨p', q', e4, e5, e6⟩ := fits_alike u h1.2 h2.2
        simp [pd] at e4 e5
        obtain ⟨ps, e7, rfl⟩ := e4
        obtain ⟨qs, e8, rfl⟩ := e5
        exact ⟨.tuple (p :: ps), .tuple (q :: qs), by simp [pd, pdL, e1, e7], by simp [pd, pdL, e2, e8], by rw [alike, alikeAll, e3]; simpa [alike] using e6⟩
theorem pdL_cons {x : D} {xs : List D} {ps : List PyData} (h : pdL (x :: xs) = some ps) : ∃ p qs, pd x = some p ∧ pdL xs = some qs ∧ ps = p :: qs := by
  simp only [pdL] at h
  split at h
  · rename_i p qs e1 e2
    cases h
    exact ⟨p, qs, e1, e2, rfl⟩
  · cases h
open PySem.W in
mutual
theorem cmp_alike : ∀ (x y : D) {p q : PyData}, pd x = some p → pd y = some q → alike p q = true → (cmpD x y == .lt) = dataLt p q ∧ (cmpD x y == .eq) = PyData.eqv p q
  | .int i, y, p, q, h1, h2, ha => by
    simp [pd] at h1; subst h1
    cases y <;> simp [pd] at h2 <;> (first | subst h2 | (obtain ⟨_, _, rfl⟩ := h2)) <;> simp [alike] at ha
    rename_i j
    rw [dataLt_int]
    simp only [cmpD, PyData.eqv]
    by_cases h : i < j
    · rw [if_pos h]; exact ⟨by simp [h], by have : i ≠ j := by omega
                                            simp [this]⟩
    · rw [if_neg h]
      by_cases e : i = j
      · rw [if_pos e]; exact ⟨by simp [h], by simp [e]⟩
      · rw [if_neg e]; exact ⟨by simp [h], by simp [e]⟩
  | .str x, y, p, q, h1, h2, ha => by
    simp [pd] at h1; subst h1
    cases y <;> simp [pd] at h2 <;> (first | subst h2 | (obtain ⟨_, _, rfl⟩ := h2)) <;> simp [alike] at ha
    rename_i y
    rw [dataLt_str]
    simp only [cmpD, PyData.eqv]
    by_cases h : strLt x y = true
    · rw [if_pos h]
      have hn : x ≠ y := fun e => by
        subst e
        simp only [strLt, decide_eq_true_eq] at h
        exact List.lt_irrefl _ h
      exact ⟨by unfold strLt at h; rw [h]; rfl, by simp [hn]⟩
    · rw [if_neg h]
      have h' : decide (x.cps.toList < y.cps.toList) = false := by unfold strLt at h; simpa using h
      by_cases e : x = y
      · rw [if_pos e]; exact ⟨by rw [h']; rfl, by simp [e]⟩
      · rw [if_neg e]; exact ⟨by rw [h']; rfl, by simp [e]⟩
  | .bl x, y, p, q, h1, h2, ha => by
    simp [pd] at h1; subst h1
    cases y <;> simp [pd] at h2 <;> (first | subst h2 | (obtain ⟨_, _, rfl⟩ := h2)) <;> simp [alike] at ha
    rename_i y
    rw [dataLt_bool]
    simp only [cmpD, PyData.eqv]
    cases x <;> cases y <;> exact ⟨by decide, by decide⟩
  | .tup xs, y, p, q, h1, h2, ha => by
    simp [pd] at h1
    obtain ⟨ps, e1, rfl⟩ := h1
    cases y with
    | tup ys =>
      simp [pd] at h2
      obtain ⟨qs, e2, rfl⟩ := h2
      obtain ⟨a, b⟩ := cmpL_alike xs ys e1 e2 (by simpa only [alike] using ha)
      rw [dataLt_tuple]
      simp only [cmpD, PyData.eqv]
      exact ⟨a, b⟩
    | lst ys => simp [pd] at h2; obtain ⟨qs, e2, rfl⟩ := h2; simp [alike] at ha
    | _ => simp [pd] at h2 <;> (subst h2; simp [alike] at ha)
  | .lst xs, y, p, q, h1, h2, ha => by
    simp [pd] at h1
    obtain ⟨ps, e1, rfl⟩ := h1
    cases y with
    | lst ys =>
      simp [pd] at h2
      obtain ⟨qs, e2, rfl⟩ := h2
      obtain ⟨a, b⟩ := cmpL_alike xs ys e1 e2 (by simpa only [alike] using ha)
      rw [dataLt_list]
      simp only [cmpD, PyData.eqv]
      exact ⟨a, b⟩
    | tup ys => simp [pd] at h2; obtain ⟨qs, e2, rfl⟩ := h2; simp [alike] at ha
    | _ => simp [pd] at h2 <;> (subst h2; simp [alike] at ha)
  | .non, y, p, q, h1, h2, ha => by
    simp [pd] at h1; subst h1
    cases y <;> simp [pd] at h2 <;> (first | subst h2 | (obtain ⟨_, _, rfl⟩ := h2)) <;> simp [alike] at ha
    exact ⟨by simp [cmpD, dataLt, keyToks, PyProof.Rows.lex_irrefl], by simp [cmpD, PyData.eqv]⟩
  | .dct _ _, _, _, _, h1, _, _ => by simp [pd] at h1
  | .obj _, _, _, _, h1, _, _ => by simp [pd] at h1
  | .fz _, _, _, _, h1, _, _ => by simp [pd] at h1
theorem cmpL_alike : ∀ (xs ys : List D) {ps qs : List PyData}, pdL xs = some ps → pdL ys = some qs → alikeAll ps qs = true → (cmpL xs ys == .lt) = PyProof.Rows.lexLt itemOrd (keyToksAll ps) (keyToksAll qs) ∧ (cmpL xs ys == .eq) = PyData.eqvAll ps qs
  | [], [], ps, qs, h1, h2, ha => by
    cases h1; cases h2
    exact ⟨by simp [cmpL, PyProof.Rows.lex_irrefl], by simp [cmpL, PyData.eqvAll]⟩
  | [], y :: ys, ps, qs, h1, h2, ha => by
    cases h1
    obtain ⟨q, qs, e1, e2, rfl⟩ := pdL_cons h2
    refine ⟨?_, by simp [cmpL, PyData.eqvAll]⟩
    rw [toks_all_cons]
    simp only [keyToksAll]
    rw [lex_diff (O := itemOrd) (by simp)]
    simp [cmpL, itemLt]
  | x :: xs, [], ps, qs, h1, h2, ha => by
    cases h2
    obtain ⟨q, qs, e1, e2, rfl⟩ := pdL_cons h1
    refine ⟨?_, by simp [cmpL, PyData.eqvAll]⟩
    rw [toks_all_cons]
    simp only [keyToksAll]
    rw [lex_diff (O := itemOrd) (by simp)]
    simp [cmpL, itemLt]
  | x :: xs, y :: ys, ps, qs, h1, h2, ha => by
    obtain ⟨p, ps, e1, e2, rfl⟩ := pdL_cons h1
    obtain ⟨q, qs, e3, e4, rfl⟩ := pdL_cons h2
    obtain ⟨a1, a2⟩ := alike_all_cons ha
    obtain ⟨b1, b2⟩ := cmp_alike x y e1 e3 a1
    obtain ⟨c1, c2⟩ := cmpL_alike xs ys e2 e4 a2
    rw [eqv_all_cons]
    simp only [cmpL]
    cases hx : cmpD x y with
    | eq =>
      rw [hx] at b2
      have b2 : PyData.eqv p q = true := by rw [← b2]; rfl
      rw [dataLt_all_yes a1 b2, b2]
      exact ⟨c1, by simpa using c2⟩
    | lt =>
      rw [hx] at b1 b2
      have b2 : PyData.eqv p q = false := by rw [← b2]; rfl
      rw [dataLt_all_no a1 b2, ← b1, b2]
      exact ⟨rfl, rfl⟩
    | gt =>
      rw [hx] at b1 b2
      have b2 : PyData.eqv p q = false := by rw [← b2]; rfl
      rw [dataLt_all_no a1 b2, ← b1, b2]
      exact ⟨rfl, rfl⟩
end
end EV

set_option Elab.async false
set_option linter.all false
set_option autoImplicit false
set_option maxRecDepth 100000
set_option maxHeartbeats 4000000
namespace EV
open PySem PySem.Spec PyProof.Rows L2
/-! ### sorted -/
/-- what an iterable holds -/
def itemsD (M : Mem) (d : D) : Option (List D) := match d with
  | .tup xs => some xs
  | d => match asL M d with
    | some xs => some xs
    | none => match asD M d with
      | some (ks, _) => some ks
      | none => none
def isLt : Ordering → Bool
  | .lt => true
  | _ => false
def dLess (y x : D) : Bool := isLt (cmpD y x)
def srt (xs : List D) : List D := sortB dLess xs
def tyOk : List Ty → List D → Bool
  | [], _ => false
  | t :: ts, xs => xs.all (fits t) || tyOk ts xs
def tupN : D → Bool
  | .tup (_ :: _) => true
  | _ => false
def notTup : D → Bool
  | .tup _ => false
  | .non => false
  | _ => true
def lowD (d : D) : Bool := Nat.ble (dep d) 60
def srtOk (tys : List Ty) (xs : List D) : Bool := tyOk tys xs && (xs.all tupN || xs.all notTup) && xs.all lowD
def bSorted (o : Bool) (tys : List Ty) : List D → Mem → Res D := fun ds M => match ds with
  | [d] => match itemsD M d with
    | some xs => if srtOk tys xs then mkL o (srt xs) M else .bad
    | none => .bad
  | _ => .bad
section
variable {X : Cx} {T : Tb} {W : WX}
theorem collect_any {pins : List (Addr × Obj)} {s : Shared} {σ : L2.St} {H : Hp} {as : List Addr} {M : Mem} {x : D} {v : V} {u : Value} {xs : List D} {A : Around} {Q : List Value → Shared → Prop} {E : Value → Shared → Prop} (hh : A.handled = none)
    (I : Inv X pins σ H s) (r : Rel (gx X T) as M H) (q : RV (gx X T) as H v x) (ru : RelV v u) (h : itemsD M x = some xs)
    (hQ : ∀ h' tk its ws, (∀ b o, s.heap.get? b = some o → h'.get? b = some o) → Vals ws its → RVs (gx X T) as H ws xs → its.length ≤ sizeLine → Q its { s with heap := h', toks := tk }) : wpAny (model X.prog X.w) A (collect u) Q E s := by
  unfold itemsD at h
  split at h
  · cases h
    obtain ⟨a, ws, rfl, h1, h2⟩ := tup_ok q
    cases ru
    obtain ⟨its, rv, pl, hz⟩ := I.tuple h1
    have hl := rv.length
    obtain ⟨o, ho, hc, n, hd⟩ := pl
    refine wpAny_collect_seq a (.inr rfl) ho hc hd (fun h' kp => ?_) (by simp only [List.size_toArray]; omega)
    exact hQ h' s.toks _ ws kp rv h2 (by show its.length ≤ sizeLine; omega)
  · split at h
    · rename_i ys hx
      cases h
      obtain ⟨a, ws, rfl, h1, h2⟩ := asL_ok r q hx
      cases ru
      obtain ⟨its, rv, pl, hz⟩ := I.list (show SqL X.K H a ws from .inl (.inl h1))
      have hl := rv.length
      obtain ⟨o, ho, hc, n, hd⟩ := pl.isList
      refine wpAny_collect_seq a (.inl rfl) ho hc hd (fun h' kp => ?_) (by simp only [List.size_toArray]; omega)
      exact hQ h' s.toks _ ws kp rv h2 (by show its.length ≤ sizeLine; omega)
    · split at h
      · rename_i ks wss hx
        cases h
        obtain ⟨a, kvs, vvs, rfl, h1, h2, h3⟩ := asD_ok r q hx
        cases ru
        obtain ⟨es, ep, d1, d2, d3, d4, d5, d6⟩ := dict_raw I h1
        refine PySem.W.kdu_collect (PySem.KdlSrc.rawDict (es := es) (ep := ep) d6) hh d1 (by rw [d2]; exact d5) fun h' tk acc hk hacc => ?_
        have e2 := keys_items hacc
        exact hQ h' tk _ kvs hk (by rw [e2]; exact d3) h2 (by rw [e2]; simp; omega)
      · cases h
open PySem.W in
theorem each_vals {G : Kx} {as : List Addr} {H : Hp} : ∀ {ws : List V} {its : List Value} {xs : List D}, Vals ws its → RVs G as H ws xs → EachIs (fun u d => ∃ w, RelV w u ∧ RV G as H w d) its xs
  | _, _, _, .nil, .nil => .nil
  | _, _, _, .cons a b, .cons c d => .cons ⟨_, a, c⟩ (each_vals b d)
open PySem.W in
theorem vals_each {G : Kx} {as : List Addr} {H : Hp} : ∀ {its : List Value} {xs : List D}, EachIs (fun u d => ∃ w, RelV w u ∧ RV G as H w d) its xs → ∃ ws, Vals ws its ∧ RVs G as H ws xs
  | _, _, .nil => ⟨[], .nil, .nil⟩
  | _, _, .cons ⟨w, a, b⟩ t => by
    obtain ⟨ws, h1, h2⟩ := vals_each t
    exact ⟨w :: ws, .cons a h1, .cons b h2⟩
theorem tyOk_fits : ∀ {tys : List Ty} {xs : List D}, tyOk tys xs = true → ∃ t, ∀ x ∈ xs, fits t x = true
  | [], _, h => by cases h
  | t :: ts, xs, h => by
    simp only [tyOk, Bool.or_eq_true, List.all_eq_true] at h
    rcases h with h | h
    · exact ⟨t, h⟩
    · exact tyOk_fits h
open PySem.W in
theorem dLess_eq {x y : D} {p q : PyData} (h1 : pd x = some p) (h2 : pd y = some q) (h : alike p q = true) : dLess x y = dataLt p q := by
  rw [← (cmp_alike x y h1 h2 h).1]
  unfold dLess
  cases cmpD x y <;> rfl
/-- the sign row of a datum -/
def kx (d : D) : List (Int ⊕ List Nat) := PySem.W.keyToks (pdX d)
open PySem.W in
theorem srt_merge {xs : List D} (ha : ∀ x ∈ xs, ∀ y ∈ xs, ∃ p q, pd x = some p ∧ pd y = some q ∧ alike p q = true) : srt xs = xs.mergeSort (sortLe (listOrd itemOrd) false kx) := by
  rw [← sortB_eq (sortLe_total (listOrd itemOrd) false kx)]
  refine sortB_congr fun x hx y hy => ?_
  obtain ⟨p, q, e1, e2, e3⟩ := ha y hy x hx
  rw [dLess_eq e1 e2 e3]
  show dataLt p q = !(!PyProof.Rows.lexLt itemOrd (kx y) (kx x))
  rw [Bool.not_not]
  unfold kx pdX
  rw [e1, e2]
  rfl
open PySem.W in
theorem cb_sorted (o : Bool) (tys : List Ty) (hc : X.calm = true) (hu : Rm X) : CbD X T (.builtin "sorted") (bSorted o tys) := by
  intro pins s σ σ₀ H as M ds vs us Q W I r rv ru h
  unfold bSorted at h
  split at h
  case h_2 => exact h.elim
  rename_i d
  obtain ⟨v, rfl, q⟩ := one_rvs rv
  obtain ⟨u, rfl, ru2⟩ := vals1 ru
  split at h
  case h_2 => exact h.elim
  rename_i xs hx
  split at h
  case isFalse => exact h.elim
  rename_i hok
  simp only [srtOk, Bool.and_eq_true, Bool.or_eq_true, List.all_eq_true] at hok
  obtain ⟨⟨k1, k2⟩, k3⟩ := hok
  obtain ⟨t, ht⟩ := tyOk_fits k1
  have hal : ∀ x ∈ xs, ∀ y ∈ xs, ∃ p q, pd x = some p ∧ pd y = some q ∧ alike p q = true := fun x hx y hy => fits_alike t (ht x hx) (ht y hy)
  refine Calls.call_function_entry PyProof.Rows.kind_sorted PyProof.Rows.plain_sorted PyProof.Rows.entry_sorted (PyProof.Rows.args_sorted1 _) ?_
  unfold Builtin.«sorted»
  refine wpAny_bind (m := checkCount "sorted" 1 1 _) (wpAny_pure ?_)
  refine wpAny_bind (collect_any (A := X.A.in1) (I.ok.hd hc) I r q ru2 hx fun h' tk its ws hk rw' rx hz => ?_)
  have I1 : Inv X pins σ H { s with heap := h', toks := tk } := I.kept hk
  refine wpAny_bind (wpAny_newList ?_ hz)
  have hoL : (h'.push (seqObj "list" its.toArray 0)).get? h'.objs.size = some (seqObj "list" its.toArray 0) := Heap.get?_push_size _ rfl
  show wpAny _ _ _ _ _ { s with heap := h'.push (seqObj "list" its.toArray 0), toks := tk }
  -- the items' data
  have old : ∀ b ob, s.heap.get? b = some ob → (sortingHeap (h'.push (seqObj "list" its.toArray 0)) h'.objs.size its).get? b = some ob := fun b ob e => by
    have := hk b ob e
    exact sortingHeap_old (Nat.ne_of_lt (Heap.lt_size this)) (Heap.get?_push_of_some _ this)
  have I2 : Inv X pins σ H { s with heap := sortingHeap (h'.push (seqObj "list" its.toArray 0)) h'.objs.size its, toks := tk } := I.kept old
  have hpd : ∀ x ∈ xs, pd x = some (pdX x) := fun x hx => by
    obtain ⟨p, _, e, _⟩ := hal x hx x hx
    unfold pdX
    rw [e]; rfl
  have each : EachIs (fun v d => ∃ as, Reads (sortingHeap (h'.push (seqObj "list" its.toArray 0)) h'.objs.size its) v d as) its (xs.map pdX) := by
    have key : ∀ {ws : List V} {its' : List Value} {xs : List D}, Vals ws its' → RVs (gx X T) as H ws xs → (∀ x ∈ xs, pd x = some (pdX x)) → EachIs (fun v d => ∃ as, Reads (sortingHeap (h'.push (seqObj "list" its.toArray 0)) h'.objs.size its) v d as) its' (xs.map pdX) := by
      intro ws its' xs a
      induction a generalizing xs with
      | nil => intro b _; cases b; exact .nil
      | cons a1 a2 ih =>
        intro b hp
        cases b with
        | cons b1 b2 =>
          obtain ⟨d1, d2⟩ := b1.dp (hp _ List.mem_cons_self)
          obtain ⟨bs, hr⟩ := Dp.reads I2 _ _ _ d1 a1
          exact .cons ⟨bs, hr⟩ (ih b2 fun x hx => hp x (List.mem_cons_of_mem _ hx))
    exact key rw' rx hpd
  have hAll : AllAlike (xs.map pdX) := by
    intro d hd d' hd'
    obtain ⟨x, hx, rfl⟩ := List.mem_map.mp hd
    obtain ⟨y, hy, rfl⟩ := List.mem_map.mp hd'
    obtain ⟨p, q, e1, e2, e3⟩ := hal x hx y hy
    rw [hpd x hx] at e1
    rw [hpd y hy] at e2
    cases e1; cases e2
    exact e3
  have hSo : Sortable (xs.map pdX) := by
    rcases k2 with k2 | k2
    · refine .inl fun d hd => ?_
      obtain ⟨x, hx, rfl⟩ := List.mem_map.mp hd
      have := k2 x hx
      unfold tupN at this
      split at this
      · rename_i y ys
        have e := hpd _ hx
        simp [pd] at e
        obtain ⟨ps, e1, e2⟩ := e
        obtain ⟨p, qs, _, _, rfl⟩ := pdL_cons e1
        exact ⟨p, qs, e2.symm⟩
      · cases this
    · refine .inr fun d hd => ?_
      obtain ⟨x, hx, rfl⟩ := List.mem_map.mp hd
      have := k2 x hx
      have e := hpd _ hx
      cases x <;> simp [notTup] at this <;> simp [pd] at e <;> (first | (rw [← e]; exact ⟨by simp, by simp⟩) | (obtain ⟨ps, e1, e2⟩ := e; rw [← e2]; exact ⟨by simp, by simp⟩))
  have S : SortsAt X.prog X.w X.A.in1.in1 { s with heap := sortingHeap (h'.push (seqObj "list" its.toArray 0)) h'.objs.size its, toks := tk } (dataKind (sortingHeap (h'.push (seqObj "list" its.toArray 0)) h'.objs.size its) (xs.map pdX)) its := by
    refine SortsAt.data each hAll hSo fun d hd => ?_
    obtain ⟨x, hx, rfl⟩ := List.mem_map.mp hd
    have h1 := Nat.le_of_ble_eq_true (k3 x hx)
    rw [dep_pd (hpd x hx)]
    unfold Rm at hu
    show X.A.units + 1 + 1 + dep x < cLine
    omega
  refine wpAny_bind (wpAny_holding (wpAny_call_entry PyProof.Rows.slot_list_sort ⟨_, hoL, rfl⟩ PyProof.Rows.entry_list_sort
    (list_sort_vals (s := { s with heap := h'.push (seqObj "list" its.toArray 0), toks := tk }) hoL S hz ⟨_, rfl, ?_⟩) (PyProof.Rows.args_list_sort _)))
  generalize hκ : dataKind (sortingHeap (h'.push (seqObj "list" its.toArray 0)) h'.objs.size its) (xs.map pdX) = κ at S
  -- what is sorted
  have hkeys : EachIs (fun v d => (dataKind (sortingHeap (h'.push (seqObj "list" its.toArray 0)) h'.objs.size its) (xs.map pdX)).keyOf v = some (kx d)) its xs := by
    have key : ∀ {its' : List Value} {ys : List D}, EachIs (fun v d => ∃ as, Reads (sortingHeap (h'.push (seqObj "list" its.toArray 0)) h'.objs.size its) v d as) its' (ys.map pdX) → (∀ y ∈ ys, y ∈ xs) →
        EachIs (fun v d => (dataKind (sortingHeap (h'.push (seqObj "list" its.toArray 0)) h'.objs.size its) (xs.map pdX)).keyOf v = some (kx d)) its' ys := by
      intro its' ys
      induction ys generalizing its' with
      | nil => intro a _; cases a; exact .nil
      | cons y ys ih =>
        intro a hm
        cases a with
        | cons a1 a2 =>
          obtain ⟨bs, hr⟩ := a1
          exact .cons (dataKind_some hAll (List.mem_map_of_mem (hm y List.mem_cons_self)) hr) (ih a2 fun z hz => hm z (List.mem_cons_of_mem _ hz))
    exact key each fun y hy => hy
  have out := sortVals_each (κ := dataKind (sortingHeap (h'.push (seqObj "list" its.toArray 0)) h'.objs.size its) (xs.map pdX)) (rev := false) kx (each_vals rw' rx) hkeys
  have hm : xs.mergeSort (sortLe (dataKind (sortingHeap (h'.push (seqObj "list" its.toArray 0)) h'.objs.size its) (xs.map pdX)).toKeyOrd false kx) = srt xs := (srt_merge hal).symm
  rw [hm] at out
  rw [hκ] at out
  obtain ⟨ws', g1, g2⟩ := vals_each out
  obtain ⟨e', he'⟩ := PyProof.Rows.sortedHeap_at (vs := its) (out := (sortVals κ false its its).toArray) hoL
  have hlen : ws'.length ≤ sizeLine := by
    rw [g2.len]
    unfold srt
    rw [sortB_len, ← rx.len, rw'.length]
    exact hz
  refine wpAny_pure ⟨_, rfl, .ref h'.objs.size, upd H h'.objs.size (.lst ws'), I1.laid (t' := tk) (fun b u e => ?_) (Nat.le_refl _)
    (show ObjOk X.prog X.w _ _ _ (.lst ws') from ⟨hlen, sortVals κ false its its, e', g1, he'⟩), rfl, PostE.mkL r h g2 _ (I1.hok.fresh (Nat.le_refl _))⟩
  have hb : b < h'.objs.size := Heap.lt_size e
  rw [PyProof.Rows.sortedHeap_old (Nat.ne_of_lt hb) (by rw [size_push']; exact Nat.lt_succ_of_lt hb)]
  exact Heap.get?_push_of_some _ e
end
end EV

set_option Elab.async false
set_option linter.all false
set_option autoImplicit false
set_option maxRecDepth 100000
set_option maxHeartbeats 4000000
namespace EV
open PySem PySem.Spec PyProof.Rows L2
/-! ### dicts, written -/
section
variable {G : Kx} {as : List Addr} {H : Hp}
theorem dputK_old {q : D} : ∀ {ks : List D}, q ∈ ks → dputK q ks = ks
  | [], h => nomatch h
  | x :: xs, h => by
    unfold dputK
    split
    · rfl
    · rename_i n
      rcases List.mem_cons.mp h with e | h
      · exact absurd (e ▸ D.beq_refl q) n
      · rw [dputK_old h]
theorem dputK_new {q : D} : ∀ {ks : List D}, q ∉ ks → dputK q ks = ks ++ [q]
  | [], _ => rfl
  | x :: xs, h => by
    unfold dputK
    rw [if_neg (fun e => h (by rw [D.beq_eq e]; exact List.mem_cons_self)), dputK_new (fun z => h (List.mem_cons_of_mem _ z))]
    rfl
theorem dputV_new {q d : D} : ∀ {ks ws : List D}, ks.length = ws.length → q ∉ ks → dputV q d ks ws = ws ++ [d]
  | [], [], _, _ => rfl
  | [], _ :: _, e, _ => by simp at e
  | _ :: _, [], e, _ => by simp at e
  | x :: xs, y :: ys, e, h => by
    unfold dputV
    rw [if_neg (fun e => h (by rw [D.beq_eq e]; exact List.mem_cons_self)), dputV_new (by simpa using e) (fun z => h (List.mem_cons_of_mem _ z))]
    rfl
theorem dputK_nodup {q : D} {ks : List D} (h : ks.Nodup) : (dputK q ks).Nodup := by
  by_cases e : q ∈ ks
  · rw [dputK_old e]; exact h
  · rw [dputK_new e, List.nodup_append]
    exact ⟨h, by simp, fun a ha b hb z => by rw [List.mem_singleton.mp hb] at z; subst z; exact e ha⟩
theorem dputK_all {q : D} {ks : List D} {p : D → Prop} (h : ∀ d ∈ ks, p d) (hq : p q) : ∀ d ∈ dputK q ks, p d := by
  by_cases e : q ∈ ks
  · rw [dputK_old e]; exact h
  · rw [dputK_new e]
    intro d hd
    rcases List.mem_append.mp hd with z | z
    · exact h d z
    · rw [List.mem_singleton.mp z]; exact hq
theorem dputK_len {q : D} {ks : List D} : (dputK q ks).length ≤ ks.length + 1 := by
  by_cases e : q ∈ ks
  · rw [dputK_old e]; omega
  · rw [dputK_new e]; simp
theorem ddelK_sub {q : D} : ∀ {ks : List D}, (ddelK q ks).Sublist ks
  | [] => List.Sublist.refl _
  | x :: xs => by
    unfold ddelK
    split
    · exact List.sublist_cons_self _ _
    · exact List.Sublist.cons_cons _ ddelK_sub
theorem put_oldV {q d : D} {z : V} {r : Value} : ∀ {xs : List (D × Addr × Value)} {vvs : List V} {ws : List D}, Vals vvs (xs.map (·.2.2)) → RVs G as H vvs ws → (xs.map (·.1)).Nodup → q ∈ xs.map (·.1) → RelV z r → RV G as H z d →
    ∃ vvs', Vals vvs' ((xs.map (putAt q r)).map (·.2.2)) ∧ RVs G as H vvs' (dputV q d (xs.map (·.1)) ws)
  | [], _, _, _, _, _, h, _, _ => nomatch h
  | (x, b, u) :: xs, vvs, ws, hv, hr, nd, hm, rz, rd => by
    rw [List.map_cons] at hv hm nd
    obtain ⟨n1, n2⟩ := List.nodup_cons.mp nd
    cases hv with
    | @cons v _ vs _ r1 t =>
      cases hr with
      | @cons _ _ e es g1 g2 =>
        simp only [List.map_cons, dputV]
        by_cases q1 : x = q
        · subst q1
          rw [if_pos (D.beq_refl x), map_putAt_of_not_mem xs x r n1]
          exact ⟨z :: vs, by unfold putAt; rw [if_pos rfl]; exact .cons rz t, .cons rd g2⟩
        · rw [if_neg (fun y => q1 (D.beq_eq y))]
          rcases List.mem_cons.mp hm with y | hm
          · exact absurd y.symm q1
          obtain ⟨vvs', a1, a2⟩ := put_oldV t g2 n2 hm rz rd
          exact ⟨v :: vvs', by unfold putAt; rw [if_neg q1]; exact .cons r1 a1, .cons g1 a2⟩
theorem keys_putAt {q : D} {r : Value} (xs : List (D × Addr × Value)) : (xs.map (putAt q r)).map (·.1) = xs.map (·.1) ∧ (xs.map (putAt q r)).map (fun x => V.ref x.2.1) = xs.map (fun x => V.ref x.2.1) := by
  induction xs with
  | nil => exact ⟨rfl, rfl⟩
  | cons x xs ih =>
    have e1 : (putAt q r x).1 = x.1 := by unfold putAt; split <;> rfl
    have e2 : (putAt q r x).2.1 = x.2.1 := by unfold putAt; split <;> rfl
    simp only [List.map_cons, ih.1, ih.2, e1, e2]
    exact ⟨trivial, trivial⟩
theorem Vals.snoc : ∀ {vs : List V} {us : List Value} {v : V} {u : Value}, Vals vs us → RelV v u → Vals (vs ++ [v]) (us ++ [u])
  | _, _, _, _, .nil, r => .cons r .nil
  | _, _, _, _, .cons a b, r => .cons a (Vals.snoc b r)
/-- storedH, as the two lists say it -/
theorem put_deep {q d : D} {b : Addr} {z : V} {r : Value} {xs : List (D × Addr × Value)} {ks ws : List D} {kvs vvs : List V} (e1 : xs.map (·.1) = ks) (e2 : xs.map (fun x => V.ref x.2.1) = kvs) (hv : Vals vvs (xs.map (·.2.2))) (nd : ks.Nodup)
    (rk : RVs G as H kvs ks) (rw_ : RVs G as H vvs ws) (rq : RV G as H (.ref b) q) (rz : RelV z r) (rd : RV G as H z d) :
    ∃ kvs' vvs', (storedH xs q b r).map (·.1) = dputK q ks ∧ (storedH xs q b r).map (fun x => V.ref x.2.1) = kvs' ∧ Vals vvs' ((storedH xs q b r).map (·.2.2)) ∧ RVs G as H kvs' (dputK q ks) ∧ RVs G as H vvs' (dputV q d ks ws) := by
  subst e1 e2
  by_cases hm : q ∈ xs.map (·.1)
  · have hs : ∃ p, atKey xs q = some p := by
      obtain ⟨x, hx, e⟩ := List.mem_map.mp hm
      have : (xs.find? fun x => decide (x.1 = q)).isSome = true := by rw [List.find?_isSome]; exact ⟨x, hx, by simp [e]⟩
      unfold atKey
      obtain ⟨y, hy⟩ := Option.isSome_iff_exists.mp this
      exact ⟨y.2, by rw [hy]; rfl⟩
    obtain ⟨p, hp⟩ := hs
    obtain ⟨vvs', a1, a2⟩ := put_oldV hv rw_ nd hm rz rd
    obtain ⟨k1, k2⟩ := keys_putAt (q := q) (r := r) xs
    rw [storedH_old hp, dputK_old hm]
    exact ⟨_, vvs', k1, rfl, a1, by rw [k2]; exact rk, a2⟩
  · have hp : atKey xs q = none := by
      unfold atKey
      rw [Option.map_eq_none_iff, List.find?_eq_none]
      intro x hx z
      exact hm (List.mem_map.mpr ⟨x, hx, by simpa using z⟩)
    have hl : (xs.map (·.1)).length = ws.length := by
      rw [← rk.len, List.length_map, ← rw_.len, hv.length, List.length_map]
    rw [storedH_new hp, dputK_new hm, dputV_new hl hm]
    refine ⟨xs.map (fun x => V.ref x.2.1) ++ [.ref b], vvs ++ [z], by simp, by simp, ?_, rk.app (.cons rq .nil), rw_.app (.cons rd .nil)⟩
    rw [List.map_append]
    exact Vals.snoc hv rz
theorem sca_keys : ∀ {l : List (Key × V)} {kvs : List V}, RVs G as H kvs (l.map fun p => kD p.1) → kvs = l.map fun p => kV p.1
  | [], _, .nil => rfl
  | (k, v) :: l, _, .cons a b => by
    rw [sca_keys b]
    cases k <;> cases a <;> rfl
theorem put_oldS {k : Key} {d : D} {z : V} : ∀ {l : List (Key × V)} {ws : List D}, RVs G as H (l.map (·.2)) ws → (l.map (·.1)).Nodup → k ∈ l.map (·.1) → RV G as H z d →
    RVs G as H ((l.map fun p => if p.1 = k then (p.1, z) else p).map (·.2)) (dputV (kD k) d (l.map fun p => kD p.1) ws)
  | [], _, _, _, h, _ => nomatch h
  | (x, u) :: l, ws, hr, nd, hm, rd => by
    rw [List.map_cons] at hr hm nd
    obtain ⟨n1, n2⟩ := List.nodup_cons.mp nd
    cases hr with
    | @cons _ _ e es g1 g2 =>
      simp only [List.map_cons, dputV]
      by_cases q1 : x = k
      · subst q1
        rw [if_pos (D.beq_refl _), if_pos rfl]
        have : (l.map fun p => if p.1 = x then (p.1, z) else p) = l := by
          conv => rhs; rw [← List.map_id l]
          refine List.map_congr_left fun p hp => ?_
          rw [if_neg (fun y => n1 (List.mem_map.mpr ⟨p, hp, y⟩))]
          rfl
        rw [this]
        exact .cons rd g2
      · rw [if_neg (fun y => q1 (kD_inj (D.beq_eq y))), if_neg q1]
        rcases List.mem_cons.mp hm with y | hm
        · exact absurd y.symm q1
        exact .cons g1 (put_oldS g2 n2 hm rd)
theorem put_scal {k : Key} {d : D} {z : V} {l : List (Key × V)} {ks ws : List D} {kvs : List V} (e1 : l.map (fun p => kD p.1) = ks) (nd : ks.Nodup) (rk : RVs G as H kvs ks) (rw_ : RVs G as H (l.map (·.2)) ws) (rq : RV G as H (kV k) (kD k)) (rd : RV G as H z d) :
    (putK l k z).map (fun p => kD p.1) = dputK (kD k) ks ∧ RVs G as H ((putK l k z).map fun p => kV p.1) (dputK (kD k) ks) ∧ RVs G as H ((putK l k z).map (·.2)) (dputV (kD k) d ks ws) := by
  subst e1
  have ek := sca_keys rk
  subst ek
  unfold putK
  by_cases hm : k ∈ l.map (·.1)
  · have hany : (l.any fun kv => decide (kv.1 = k)) = true := by
      obtain ⟨x, hx, e⟩ := List.mem_map.mp hm
      rw [List.any_eq_true]
      exact ⟨x, hx, by simp [e]⟩
    have hm2 : kD k ∈ l.map (fun p => kD p.1) := by
      obtain ⟨x, hx, e⟩ := List.mem_map.mp hm
      exact List.mem_map.mpr ⟨x, hx, by rw [e]⟩
    rw [if_pos hany, dputK_old hm2]
    have m1 : ∀ (f : Key → D), (l.map fun kv => if kv.1 = k then (kv.1, z) else kv).map (fun p => f p.1) = l.map fun p => f p.1 := fun f => by
      rw [List.map_map]
      refine List.map_congr_left fun p hp => ?_
      simp only [Function.comp]
      split <;> rfl
    have m2 : ∀ (f : Key → V), (l.map fun kv => if kv.1 = k then (kv.1, z) else kv).map (fun p => f p.1) = l.map fun p => f p.1 := fun f => by
      rw [List.map_map]
      refine List.map_congr_left fun p hp => ?_
      simp only [Function.comp]
      split <;> rfl
    exact ⟨m1 kD, by rw [m2 kV]; exact rk, put_oldS rw_ (nodup_kD nd) hm rd⟩
  · have hany : ¬ (l.any fun kv => decide (kv.1 = k)) = true := by
      rw [List.any_eq_true]
      rintro ⟨x, hx, e⟩
      exact hm (List.mem_map.mpr ⟨x, hx, by simpa using e⟩)
    have hm2 : kD k ∉ l.map (fun p => kD p.1) := fun h => by
      obtain ⟨x, hx, e⟩ := List.mem_map.mp h
      exact hm (List.mem_map.mpr ⟨x, hx, kD_inj e⟩)
    have hl : (l.map (fun p => kD p.1)).length = ws.length := by rw [← rw_.len]; simp
    rw [if_neg hany, dputK_new hm2, dputV_new hl hm2]
    simp only [List.map_append, List.map_cons, List.map_nil]
    exact ⟨trivial, rk.app (.cons rq .nil), rw_.app (.cons rd .nil)⟩
theorem sca_to {P : Program} {w : World} : ∀ {l : List (Key × V)} {vs : List (Key × Value)} {es : List DictEntry}, KV l vs → Pairs (mixKind P w) es vs → (∀ e ∈ es, ∃ k, (mixKind P w).is k e.key = true ∧ e.hash = (mixKind P w).hash k) →
    ∃ raw : List (D × V × V), Paired (fun (r : D × V × V) (e : DictEntry) => e.hash = kHash w r.1 ∧ RelV r.2.1 e.key ∧ RelV r.2.2 e.val) raw es ∧ raw.map (·.1) = l.map (fun p => kD p.1) ∧ raw.map (·.2.1) = l.map (fun p => kV p.1) ∧ raw.map (·.2.2) = l.map (·.2)
  | _, _, _, .nil, h, _ => by cases h; exact ⟨[], .nil, rfl, rfl, rfl⟩
  | _, _, _, @Paired.cons _ _ _ p q l vs h t, hp, hk => by
    cases hp with
    | @cons e _ es _ h1 h2 h3 =>
      obtain ⟨raw, a1, a2, a3, a4⟩ := sca_to (P := P) (w := w) t h3 fun x hx => hk x (List.mem_cons_of_mem _ hx)
      obtain ⟨g1, g2⟩ := h
      obtain ⟨k, k1, k2⟩ := hk e List.mem_cons_self
      have ek : k = q.1 := (mixKind P w).inj e.key _ _ k1 h1
      subst ek
      have rk : RelV (kV p.1) e.key := by
        rw [g1]
        rcases keyIs_shape (show keyIs q.1 e.key = true from h1) with ⟨i, t, e1, e2⟩ | ⟨i, t, e1, e2⟩
        · rw [e1, e2]; exact ⟨t, rfl⟩
        · rw [e1, e2]; exact ⟨t, rfl⟩
      exact ⟨(kD p.1, kV p.1, p.2) :: raw, .cons ⟨by rw [k2, g1]; exact (kHash_kD P w _).symm, rk, by rw [h2]; exact g2⟩ a1, by simp [a2], by simp [a3], by simp [a4]⟩
end
section
variable {X : Cx} {T : Tb} {pins : List (Addr × Obj)} {σ : L2.St} {H : Hp} {s : Shared} {as : List Addr} {a : Addr} {ks ws ks' ws' : List D} {kvs vvs : List V} {q d : D} {v z : V} {u r : Value}
theorem ext_ok {P : Program} {w : World} {Hx : Hp} {h' : Heap} {a : Addr} {ep : Nat} {raw : List (D × V × V)} {o : Obj} {es : Array DictEntry} (h1 : h'.get? a = some o) (h2 : o.ExactDict) (h3 : o.data = .dict es ep)
    (h4 : Paired (fun (r : D × V × V) (e : DictEntry) => e.hash = kHash w r.1 ∧ RelV r.2.1 e.key ∧ RelV r.2.2 e.val) raw es.toList) : ObjOk P w Hx h' a (dictO w a ep raw) :=
  ⟨⟨o, es, h1, h2, h3, h4⟩, ⟨o, h1⟩, fun g1 g2 ⟨o', es', k1, k2, k3, k4⟩ hk => ⟨o', es', hk o' k1, k2, k3, k4⟩⟩
/-- a dict as it lies now -/
def NewD (X : Cx) (T : Tb) (as : List Addr) (H : Hp) (a : Addr) (ks' ws' : List D) (h' : Heap) : Prop :=
  ∃ (o : HO) (kvs' vvs' : List V), (∀ Hx, ObjOk X.prog X.w Hx h' a o) ∧ (∃ φ, o = .ext φ) ∧ (∀ H', H' a = some o → DictAt (gx X T) H' a ks' kvs' vvs') ∧ RVs (gx X T) as H kvs' ks' ∧ RVs (gx X T) as H vvs' ws'
theorem new_deep {h' : Heap} {xs : List (D × Addr × Value)} {kvs' vvs' : List V} (hd : h'.DictOfH (deepKind X.prog X.w) a xs) (e1 : xs.map (·.1) = ks') (e2 : xs.map (fun x => V.ref x.2.1) = kvs') (hv : Vals vvs' (xs.map (·.2.2))) (rk : RVs (gx X T) as H kvs' ks') (rw_ : RVs (gx X T) as H vvs' ws')
    (nd : ks'.Nodup) (hk : ∀ d ∈ ks', deepK d = true) (hl : ks'.length ≤ sizeLine) (hs : (a == sysModules) = false) : NewD X T as H a ks' ws' h' := by
  obtain ⟨o, es, ep, g1, g2, g3, g4, _, _⟩ := hd
  obtain ⟨raw, p, a1, a2, a3⟩ := raw_to (w := X.w) hv
  refine ⟨dictO X.w a ep raw, kvs', vvs', fun Hx => ext_ok g1 g2 g3 (by rw [g4]; exact p), ⟨_, rfl⟩, fun H' e => ⟨ep, raw, e, by rw [a1, e1], by rw [a2, e2], a3.symm, nd, .inr hk, ?_, hs⟩, rk, rw_⟩
  have := congrArg List.length a1
  have e3 := congrArg List.length e1
  simp at this e3
  omega
theorem new_scal {h' : Heap} {l : List (Key × V)} {vs : List (Key × Value)} (hd : h'.DictOf (mixKind X.prog X.w) a vs) (kv : KV l vs) (e1 : l.map (fun p => kD p.1) = ks') (rk : RVs (gx X T) as H (l.map fun p => kV p.1) ks') (rw_ : RVs (gx X T) as H (l.map (·.2)) ws')
    (nd : ks'.Nodup) (hk : ∀ d ∈ ks', EV.scal d = true) (hl : ks'.length ≤ sizeLine) (hs : (a == sysModules) = false) : NewD X T as H a ks' ws' h' := by
  obtain ⟨o, es, ep, g1, g2, g3, g4, g5, _⟩ := hd
  obtain ⟨raw, p, a1, a2, a3⟩ := sca_to kv g5 fun e he => g4 e (Array.mem_toList_iff.mp he)
  refine ⟨dictO X.w a ep raw, _, _, fun Hx => ext_ok g1 g2 g3 p, ⟨_, rfl⟩, fun H' e => ⟨ep, raw, e, by rw [a1, e1], a2.symm, a3.symm, nd, .inl hk, ?_, hs⟩, rk, rw_⟩
  have := congrArg List.length a1
  have e3 := congrArg List.length e1
  simp at this e3
  omega
theorem dict_facts (da : DictAt (gx X T) H a ks kvs vvs) : ks.Nodup ∧ ks.length ≤ sizeLine ∧ (a == sysModules) = false ∧ (∃ φ, H a = some (L2.HO.ext φ)) ∧ ((∀ d ∈ ks, EV.scal d = true) ∨ ∀ d ∈ ks, deepK d = true) := by
  obtain ⟨ep, raw, e, rfl, rfl, rfl, nd, hkey, hl, hs⟩ := da
  exact ⟨nd, by simpa using hl, hs, ⟨_, e⟩, hkey⟩
theorem all_scal (h : (∀ d ∈ ks, EV.scal d = true) ∨ ∀ d ∈ ks, deepK d = true) (hk : ks.head?.all EV.scal = true) : ∀ d ∈ ks, EV.scal d = true := by
  rcases h with h | h
  · exact h
  · cases ks with
    | nil => intro d hd; exact nomatch hd
    | cons k ks =>
      have := h k List.mem_cons_self
      simp at hk
      exact (scal_deep hk this).elim
theorem all_deep (h : (∀ d ∈ ks, EV.scal d = true) ∨ ∀ d ∈ ks, deepK d = true) (hk : ks.head?.all (fun k => !EV.scal k) = true) : ∀ d ∈ ks, deepK d = true := by
  rcases h with h | h
  · cases ks with
    | nil => intro d hd; exact nomatch hd
    | cons k ks =>
      have := h k List.mem_cons_self
      simp [this] at hk
  · exact h
/-- the write, seen from the abstract heap -/
theorem new_write {h' : Heap} {t' : Nat} (I : Inv X pins σ H s) (da : DictAt (gx X T) H a ks kvs vvs) (N : NewD X T as H a ks' ws' h') (hs : Heap.SameBut a s.heap h') :
    ∃ o kvs' vvs', Inv X pins σ (upd H a o) { s with heap := h', toks := t' } ∧ (∃ φ, o = .ext φ) ∧ (∀ H', H' a = some o → DictAt (gx X T) H' a ks' kvs' vvs') ∧ RVs (gx X T) as H kvs' ks' ∧ RVs (gx X T) as H vvs' ws' := by
  obtain ⟨o, kvs', vvs', n1, n2, n3, n4, n5⟩ := N
  obtain ⟨_, _, _, ⟨φ, e⟩, _⟩ := dict_facts da
  obtain ⟨φ', rfl⟩ := n2
  have he : ∃ x, h'.get? a = some x := (n1 H).2.1
  exact ⟨_, kvs', vvs', d_write I (by rw [e]; exact True.intro) hs he (n1 _), ⟨_, rfl⟩, n3, n4, n5⟩
/-- d[q] = v, by setItem or by dictSet -/
theorem e_put {A : Around} {E : Value → Shared → Prop} {m : Sem Unit} {Q : Unit → Shared → Prop} (hm : m = setItem (.ref a) u r ∧ (deepKind X.prog X.w).room A.in1 ∨ m = dictSet a u r ∧ (deepKind X.prog X.w).room A) (I : Inv X pins σ H s) (da : DictAt (gx X T) H a ks kvs vvs) (rk : RVs (gx X T) as H kvs ks) (rw_ : RVs (gx X T) as H vvs ws) (hk : kok ks q = true) (hz : ks.length < sizeLine)
    (rq : RV (gx X T) as H v q) (ru : RelV v u) (rd : RV (gx X T) as H z d) (rr : RelV z r)
    (h : ∀ s' o kvs' vvs', Inv X pins σ (upd H a o) s' → (∃ φ, o = .ext φ) → (∀ H', H' a = some o → DictAt (gx X T) H' a (dputK q ks) kvs' vvs') → RVs (gx X T) as H kvs' (dputK q ks) → RVs (gx X T) as H vvs' (dputV q d ks ws) → Q () s') :
    wpAny (model X.prog X.w) A m Q E s := by
  obtain ⟨nd, hl, hs, _, hkey⟩ := dict_facts da
  have hl' : (dputK q ks).length ≤ sizeLine := by have := dputK_len (q := q) (ks := ks); omega
  rcases kok_cases hk with ⟨h1, h2⟩ | ⟨h1, h2⟩
  · obtain ⟨l, vs, S⟩ := dict_scal I da rk h2
    obtain ⟨k, rfl, rfl⟩ := scal_key h1 rq
    have go : ∀ h' t', h'.DictOf (mixKind X.prog X.w) a (stored vs k r) → Heap.SameBut a s.heap h' → Q () { s with heap := h', toks := t' } := fun h' t' dd hsb => by
      obtain ⟨e1, e2, e3⟩ := put_scal (z := z) (d := d) S.ks nd rk (by rw [S.vvs]; exact rw_) rq rd
      have N : NewD X T as H a _ _ h' := new_scal dd (S.rel.put k rr) e1 e2 e3 (dputK_nodup nd) (dputK_all (all_scal hkey h2) h1) hl' hs
      obtain ⟨o, kvs', vvs', I', ho, n3, n4, n5⟩ := new_write (t' := t') I da N hsb
      exact h _ o kvs' vvs' I' ho n3 n4 n5
    have hzz : vs.length ≤ sizeLine := by rw [← S.rel.length]; exact S.len
    rcases hm with ⟨hm, _⟩ | ⟨hm, _⟩
    · rw [hm]; exact wpAny_setItem_pairs (hsz := hzz) (kV_is ru) S.at_ fun h' dd hsb => go h' _ dd hsb
    · rw [hm]; exact wpAny_dictSet_pairs (hsz := hzz) (kV_is ru) S.at_ fun h' dd hsb => go h' _ dd hsb
  · obtain ⟨xs, S⟩ := dict_deep I da rk h2
    obtain ⟨b, rfl⟩ := deep_key h1 rq
    cases ru
    have kk := deepK_iff h1
    have go : ∀ h' t', h'.DictOfH (deepKind X.prog X.w) a (storedH xs q b r) → Heap.SameBut a s.heap h' → Q () { s with heap := h', toks := t' } := fun h' t' dd hsb => by
      obtain ⟨kvs', vvs', e1, e2, e3, e4, e5⟩ := put_deep (q := q) (b := b) S.ks S.kvs S.vvs nd rk rw_ rq rr rd
      have N : NewD X T as H a _ _ h' := new_deep dd e1 e2 e3 e4 e5 (dputK_nodup nd) (dputK_all (all_deep hkey h2) h1) hl' hs
      obtain ⟨o, kvs', vvs', I', ho, n3, n4, n5⟩ := new_write (t' := t') I da N hsb
      exact h _ o kvs' vvs' I' ho n3 n4 n5
    rcases hm with ⟨hm, hr⟩ | ⟨hm, hr⟩
    · rw [hm]; exact wpAny_setItem_heap (hsz := S.len) hr ⟨rq.keyAt I kk.1 rfl, kk.2.1⟩ S.at_ fun h' dd hsb => go h' _ dd hsb
    · rw [hm]; exact wpAny_dictSet_heap (hsz := S.len) hr ⟨rq.keyAt I kk.1 rfl, kk.2.1⟩ S.at_ fun h' dd hsb => go h' _ dd hsb
end
end EV

set_option Elab.async false
set_option linter.all false
set_option autoImplicit false
set_option maxRecDepth 100000
set_option maxHeartbeats 4000000
namespace EV
open PySem PySem.Spec PyProof.Rows L2
/-! ### o[i] = v -/
def dSet (x i v : D) (M : Mem) : Option Mem :=
  match x with
  | .obj k => match M.c[k]? with
    | some (.lst false xs) => match i with
      | .int j => match ixN xs.length j with
        | some n => if wok M k (.lst false (xs.set n v)) then some (M.set k (.lst false (xs.set n v))) else none
        | none => none
      | _ => none
    | some (.dct false ks ws) => if kok ks i && nle (ks.length + 1) sizeLine && wok M k (.dct false (dputK i ks) (dputV i v ks ws)) then some (M.set k (.dct false (dputK i ks) (dputV i v ks ws))) else none
    | _ => none
  | _ => none
def rSetD (X : Cx) (T : Tb) : TSet := fun o i v H Q => ∃ as M x y d, Rel (gx X T) as M H ∧ RV (gx X T) as H o x ∧ RV (gx X T) as H i y ∧ RV (gx X T) as H v d ∧ ∃ M', dSet x y d M = some M' ∧ ∀ as' H', Stp as M H as' M' H' → Rel (gx X T) as' M' H' → Q H'
section
variable {X : Cx} {T : Tb} {W : WX}
theorem Rm.put (hu : Rm X) : (deepKind X.prog X.w).room X.A := by
  show X.A.units + 8 < cLine
  unfold Rm at hu
  omega
/-- a dict at a numbered place, written -/
theorem write_dct {G : Kx} {as : List Addr} {M : Mem} {H : Hp} {k : Nat} {a : Addr} {c0 : Cell} {o : HO} {ks ws : List D} {kvs vvs : List V} {f : Bool} (r : Rel G as M H) (hk : as[k]? = some a) (hc : M.c[k]? = some c0) (hf : c0.frz = false) (hw : wok M k (.dct f ks ws) = true)
    (hd : ∀ H', H' a = some o → DictAt G H' a ks kvs vvs) (q1 : RVs G as H kvs ks) (q2 : RVs G as H vvs ws) : Stp as M H as (M.set k (.dct f ks ws)) (upd H a o) ∧ Rel G as (M.set k (.dct f ks ws)) (upd H a o) :=
  let st := write_stp (H := H) (o := o) hk hc hf hw
  ⟨st, write_rel r hk hc hf hw ⟨kvs, vvs, hd _ upd_same, q1.step r st, q2.step r st⟩⟩
theorem pset_d (hu : Rm X) : PSet X (rSetD X T) := by
  intro pins s σ H o i v ov iv u Q I ro ri rv ⟨as, M, x, y, d, r, rx, ry, rd, M', hM, h⟩
  unfold dSet at hM
  split at hM
  case h_2 => cases hM
  rename_i k
  obtain ⟨a, rfl, hk⟩ := obj_ok rx
  split at hM
  · rename_i xs hc
    split at hM
    · rename_i j
      split at hM
      · rename_i n hn
        split at hM
        · rename_i hw
          cases hM
          obtain ⟨vs, e1, e2⟩ := r.cell k a _ hk hc
          cases ry
          obtain ⟨st, rl⟩ := write_lst (vs := vs.set n v) r hk hc rfl hw (RVs.set rd n e2)
          exact set_list pins s σ H _ _ v ov iv u Q I ro ri rv ⟨a, vs, j, n, rfl, rfl, e1, by rw [e2.len]; exact hn, h as _ st rl⟩
        · cases hM
      · cases hM
    · cases hM
  · rename_i ks ws hc
    split at hM
    · rename_i hw
      cases hM
      simp only [Bool.and_eq_true, nle_iff] at hw
      obtain ⟨⟨w1, w2⟩, w3⟩ := hw
      obtain ⟨kvs, vvs, d1, d2, d3⟩ := r.cell k a _ hk hc
      cases (show ov = Value.ref a from ro)
      refine e_put (.inl ⟨rfl, hu.deep⟩) I d1 d2 d3 w1 (by omega) ry ri rd rv fun s' o kvs' vvs' I' ho n3 n4 n5 => ?_
      obtain ⟨st, rl⟩ := write_dct r hk hc rfl w3 n3 n4 n5
      exact ⟨_, I', h as _ st rl⟩
    · cases hM
  · cases hM
/-- o[i] = value -/
def sSub (to ti te : Ex) : Sx := fun e M => (te e M).thn e fun d M1 => (to e M1).thn e fun x M2 => (ti e M2).thn e fun i M3 => match dSet x i d M3 with
  | some M4 => .nx e M4
  | none => .bad
variable {o i ex : Expr} {to ti te : Ex} {pos pt : Pos}
theorem ss_sub (hu : Rm X) (ho : SE X T W o to) (hi : SE X T W i ti) (he : SE X T W ex te) (hs : swapsWithSole [.Subscript o i pt] ex pos.line X.env = pure false := by rfl) (hw : swappedStores [.Subscript o i pt] ex X.env = pure none := by rfl) (h1 : (assignEach [.Subscript o i pt] X.env).map (·.2) = [assign (.Subscript o i pt) X.env] := by rfl)
    (ha : ∀ v, assign (.Subscript o i pt) X.env v = (do
      let ov ← holding [v] (eval o X.env)
      let iv ← holding [v, ov] (eval i X.env)
      standAt pt
      holding [v, ov, iv] (setItem ov iv v)
      release [v, ov, iv] []) := by intro _; rfl) : SS X T W (.Assign [.Subscript o i pt] ex pos) (sSub to ti te) :=
  (ps_asg he (pg_sub ho hi (pset_d (T := T) hu) ha) hs hw h1).weak fun D' σ H ⟨as, M, e, r, q, h⟩ =>
    bindES r q h fun d v as1 M1 H1 r1 q1 s1 rv h1 => bindES r1 q1 h1 fun x vo as2 M2 H2 r2 q2 s2 ro h2 => bindES r2 q2 h2 fun y vi as3 M3 H3 r3 q3 s3 ri h3 => by
      refine ⟨as3, M3, x, y, d, r3, ro.step r2 s3, ri, (rv.step r1 s2).step r2 s3, ?_⟩
      split at h3
      · rename_i M4 hM
        exact ⟨M4, hM, fun as' H' st rl => h3 as' H' σ st rl (q3.step r3 st)⟩
      · exact h3.elim
/-! ### displays of dicts -/
def eDct0 (o : Bool) : Ex := fun _ M => mkD o [] [] M
/-- {k: v} -/
def eDct1 (o : Bool) (tk tv : Ex) : Ex := fun e M => (tk e M).bind fun k M1 => (tv e M1).bind fun v M2 => if kok [] k then mkD o [k] [v] M2 else .bad
theorem emp_at {P : Program} {w : World} {Hx : Hp} (h : Heap) : ObjOk P w Hx (h.push { cls := .type "dict", data := .dict #[] }) h.objs.size (dictO w h.objs.size 0 []) :=
  ext_ok (Heap.get?_push_size _ rfl) ⟨rfl, rfl, rfl⟩ rfl .nil
theorem emp_dict {G : Kx} {H : Hp} {a : Addr} (hs : (a == sysModules) = false) (h : H a = some (dictO G.w a 0 [])) : DictAt G H a [] [] [] := ⟨0, [], h, rfl, rfl, rfl, List.nodup_nil, .inl (fun d hd => nomatch hd), Nat.zero_le _, hs⟩
/-- a new dict: by value, or as a numbered place -/
theorem PostE.mkD {G : Kx} {W : WX} {σ : L2.St} {as : List Addr} {M : Mem} {H : Hp} {Q : VK} {o : Bool} {ks vs : List D} {kvs vvs : List V} {p : Addr} {ob : HO} (r : Rel G as M H) (h : PostE G W σ as M H Q (EV.mkD o ks vs M)) (hp : H p = none) (hd : ∀ H', H' p = some ob → DictAt G H' p ks kvs vvs) (q1 : RVs G as H kvs ks) (q2 : RVs G as H vvs vs) : Q (.ref p) (upd H p ob) := by
  unfold EV.mkD at h
  split at h
  · have st := Stp.add (o := ob) (.dct false ks vs) r hp
    exact h (as ++ [p]) _ (.ref p) st (r.add hp ⟨kvs, vvs, hd _ upd_same, q1.step r st, q2.step r st⟩) (.obj (by rw [List.getElem?_append_right (by rw [r.len]; exact Nat.le_refl _)]; simp [r.len]))
  · exact h as _ (.ref p) (Stp.laid hp) (r.laid hp) (.dct (hd _ upd_same) (r.fresh hp) (q1.step r (Stp.laid hp)) (q2.step r (Stp.laid hp)))
theorem new_sys {pins : List (Addr × Obj)} {σ : L2.St} {H : Hp} {s : Shared} (I : Inv X pins σ H s) : (s.heap.objs.size == sysModules) = false := beq_eq_false_iff_ne.mpr (Ne.symm (Nat.ne_of_lt I.big))
theorem se_dct0 (o : Bool) {pos : Pos} : SE X T W (.Dict [] [] pos) (eDct0 o) := ⟨fun pins s σ H Q I ⟨as, M, e, r, q, h⟩ => by
  refine wpAny_Dict_empty ⟨.ref s.heap.objs.size, _, I.laid (a := s.heap.objs.size) (o := dictO X.w s.heap.objs.size 0 []) (t' := s.toks) (fun _ _ q => Heap.get?_push_of_some _ q) (Nat.le_refl _) (emp_at s.heap), rfl, ?_⟩
  exact PostE.mkD r h (I.hok.fresh (Nat.le_refl _)) (fun H' e => emp_dict (new_sys I) e) .nil .nil⟩
theorem upd_upd {H : Hp} {p : Addr} {a b : HO} : upd (upd H p a) p b = upd H p b := by
  funext x
  by_cases e : x = p
  · subst e; rw [upd_same, upd_same]
  · rw [upd_ne e, upd_ne e, upd_ne e]
theorem se_dct1 (o : Bool) {k v : Expr} {tk tv : Ex} {pos : Pos} (hu : Rm X) (hk : SE X T W k tk) (hv : SE X T W v tv) : SE X T W (.Dict [some k] [v] pos) (eDct1 o tk tv) := by
  refine ⟨fun pins s σ H Q I ⟨as, M, e, r, q, h⟩ => ?_⟩
  refine wpAny_Dict_any rfl rfl (by simp) (by simp) ?_
  have hn : H s.heap.objs.size = none := I.hok.fresh (Nat.le_refl _)
  have sys := new_sys I
  generalize hp : s.heap.objs.size = p at hn sys
  have I1 : Inv X pins σ H { s with heap := s.heap.push { cls := .type "dict", data := .dict #[] } } := I.kept (t' := s.toks) fun b u e => Heap.get?_push_of_some _ e
  have g1 : (s.heap.push { cls := .type "dict", data := .dict #[] }).get? p = some { cls := .type "dict", data := .dict #[] } := by rw [← hp]; exact Heap.get?_push_size _ rfl
  have f1 : FpOk X pins H p := I.fpOk (by rw [hp]; exact Nat.le_refl _) hn
  have I2 := I1.pinned (fp := [p]) (fun b hb => by rw [List.mem_singleton.mp hb]; exact f1) (fun b hb => by rw [List.mem_singleton.mp hb]; exact ⟨_, g1, fun v z => nomatch z⟩)
  show wpAny _ _ (do let kv ← eval k X.env; let vv ← holding [kv] (do let x ← eval v X.env; standAt pos; pure x); return (kv, vv) :: (← holding [kv, vv] (pure []))) _ _ _
  refine wpAny_bind (thn (hk.run _ _ σ H (fun x H1 => ∃ as1 M1 d, Rel (gx X T) as1 M1 H1 ∧ RSl (gx X T) as1 H1 σ e ∧ RV (gx X T) as1 H1 x d ∧ PostE (gx X T) W σ as1 M1 H1 Q ((tv e M1).bind fun v M2 => if kok [] d then EV.mkD o [d] [v] M2 else .bad)) I2 ?_) fun kv s1 ⟨x, H1, I3, rk, as1, M1, d, r1, q1, rx, h1⟩ => ?_)
  · exact bindE r q h fun d v as1 M1 H1 r1 q1 s1 rv h1 => ⟨as1, M1, d, r1, q1, rv, h1⟩
  refine wpAny_bind (wpAny_holding (wpAny_bind (thn (hv.run _ s1 σ H1 (fun y H2 => ∃ as2 M2 d2, Rel (gx X T) as2 M2 H2 ∧ RV (gx X T) as2 H2 x d ∧ RV (gx X T) as2 H2 y d2 ∧ PostE (gx X T) W σ as2 M2 H2 Q (if kok [] d then EV.mkD o [d] [d2] M2 else .bad)) I3 ?_) fun vv s2 ⟨y, H2, I4, rv, as2, M2, d2, r2, rx2, ry2, h2⟩ => wpAny_bind (wpAny_standAt (wpAny_pure ?_)))))
  · exact bindE r1 q1 h1 fun d2 y as2 M2 H2 r2 q2 s2 rv h2 => ⟨as2, M2, d2, r2, rx.step r1 s2, rv, h2⟩
  refine wpAny_bind (wpAny_holding (wpAny_pure (wpAny_pure ?_)))
  split at h2
  case isFalse => exact h2.elim
  rename_i hkk
  have pn := I4.pin (p, { cls := .type "dict", data := .dict #[] }) (List.mem_append_right _ (List.mem_append_right _ (mem_pinsAt (List.mem_singleton.mpr rfl) g1)))
  have hn2 : H2 p = none := pn.2.1
  have g2 : s2.heap.get? p = some { cls := .type "dict", data := .dict #[] } := pn.1
  have I5 : Inv X pins σ H2 s2 := I4.unpinned
  have I6 : Inv X pins σ (upd H2 p (dictO X.w p 0 [])) s2 := I5.take (h' := s2.heap) (t' := s2.toks) (fun b ob _ e => e) ⟨hn2, f1.2⟩ (ext_ok g2 ⟨rfl, rfl, rfl⟩ rfl .nil)
  have hst := hid_start (o := dictO X.w p 0 []) r2 hn2 (fun _ z => nomatch z) (fun _ _ z => nomatch z)
  have st := Stp.add (o := dictO X.w p 0 []) .hid r2 hn2
  have hmem : p ∈ as2 ++ [p] := List.mem_append_right _ (List.mem_singleton.mpr rfl)
  show wpAny _ _ (forIn [(kv, vv)] _ _) _ _ s2
  have hput : wpAny (model X.prog X.w) X.A (dictSet p kv vv) (fun _ s3 => EP X pins σ Q (.ref p) s3) X.xe s2 := by
    refine e_put (T := T) (as := as2 ++ [p]) (.inr ⟨rfl, hu.put⟩) I6 (emp_dict (G := gx X T) sys upd_same) .nil .nil hkk (by rw [sizeLine_eq]; decide) (rx2.step r2 st) rk (ry2.step r2 st) rv fun s' ob kvs' vvs' I' ho n3 n4 n5 => ?_
    obtain ⟨φ, rfl⟩ := ho
    rw [upd_upd] at I'
    have m4 : RVs (gx X T) (as2 ++ [p]) (upd H2 p (.ext φ)) kvs' [d] := by
      have := RVs.at (o := .ext φ) hmem (upd_same (a := p) (H := H2) (o := dictO X.w p 0 [])) (fun _ z => nomatch z) (fun _ _ z => nomatch z) n4
      rw [upd_upd] at this
      exact this
    have m5 : RVs (gx X T) (as2 ++ [p]) (upd H2 p (.ext φ)) vvs' [d2] := by
      have := RVs.at (o := .ext φ) hmem (upd_same (a := p) (H := H2) (o := dictO X.w p 0 [])) (fun _ z => nomatch z) (fun _ _ z => nomatch z) n5
      rw [upd_upd] at this
      exact this
    refine ⟨.ref p, _, I', rfl, ?_⟩
    unfold EV.mkD at h2
    split at h2
    · have st2 := Stp.add (o := .ext φ) (.dct false [d] [d2]) r2 hn2
      exact h2 (as2 ++ [p]) _ (.ref p) st2 (r2.add hn2 ⟨kvs', vvs', n3 _ upd_same, m4, m5⟩) (.obj (by rw [List.getElem?_append_right (by rw [r2.len]; exact Nat.le_refl _)]; simp [r2.len]))
    · have l1 : refsLtL as2.length [d] = true := by rw [refsLtL, rx2.refs]; rfl
      have l2 : refsLtL as2.length [d2] = true := by rw [refsLtL, ry2.refs]; rfl
      have tk : (as2 ++ [p]).take as2.length = as2 := by simp
      have k4 := m4.shrink l1
      have k5 := m5.shrink l2
      rw [tk] at k4 k5
      exact h2 as2 _ (.ref p) (Stp.laid hn2) (r2.laid hn2) (.dct (n3 _ upd_same) (r2.fresh hn2) k4 k5)
  rw [List.forIn_cons]
  exact wpAny_bind (wpAny_bind (thn hput fun _ s3 h3 => wpAny_pure (by dsimp only; rw [List.forIn_nil]; exact wpAny_pure h3)))
end
end EV

set_option Elab.async false
set_option linter.all false
set_option autoImplicit false
set_option maxRecDepth 100000
set_option maxHeartbeats 4000000
namespace EV
open PySem PySem.Spec PyProof.Rows L2
/-! ### methods of dicts -/
def mGet (x : D) (ys : List D) (M : Mem) : Res D :=
  match ys with
  | [k, d] => match asD M x with
    | some (ks, ws) => if kok ks k then .ok ((dfind k ks ws).getD d) M else .bad
    | none => .bad
  | _ => .bad
/-- d.pop(k), d.pop(k, x) -/
def mDPop (x : D) (ys : List D) (M : Mem) : Res D :=
  match x with
  | .obj n => match M.c[n]? with
    | some (.dct false ks ws) => match ys with
      | [] => .bad
      | k :: more => match dfind k ks ws with
        | some v => if kok ks k && nle more.length 1 && wok M n (.dct false (ddelK k ks) (ddelV k ks ws)) then .ok v (M.set n (.dct false (ddelK k ks) (ddelV k ks ws))) else .bad
        | none => match more with
          | [d] => if kok ks k then .ok d M else .bad
          | _ => .bad
    | _ => .bad
  | _ => .bad
section
variable {G : Kx} {as : List Addr} {H : Hp}
theorem ddelK_out {q : D} : ∀ {ks : List D}, q ∉ ks → ddelK q ks = ks
  | [], _ => rfl
  | x :: xs, h => by
    unfold ddelK
    rw [if_neg (fun e => h (by rw [D.beq_eq e]; exact List.mem_cons_self)), ddelK_out (fun z => h (List.mem_cons_of_mem _ z))]
theorem del_deep {q : D} : ∀ {xs : List (D × Addr × Value)} {ks ws : List D} {kvs vvs : List V}, xs.map (·.1) = ks → xs.map (fun x => V.ref x.2.1) = kvs → Vals vvs (xs.map (·.2.2)) → ks.Nodup → RVs G as H kvs ks → RVs G as H vvs ws →
    ∃ kvs' vvs', (withoutH xs q).map (·.1) = ddelK q ks ∧ (withoutH xs q).map (fun x => V.ref x.2.1) = kvs' ∧ Vals vvs' ((withoutH xs q).map (·.2.2)) ∧ RVs G as H kvs' (ddelK q ks) ∧ RVs G as H vvs' (ddelV q ks ws)
  | [], _, _, _, _, e1, e2, hv, _, rk, rw_ => by
    subst e1 e2
    cases hv
    cases rw_
    exact ⟨[], [], rfl, rfl, .nil, .nil, .nil⟩
  | (x, b, u) :: xs, _, _, _, vvs, e1, e2, hv, nd, rk, rw_ => by
    subst e1 e2
    rw [List.map_cons] at hv nd rk
    obtain ⟨n1, n2⟩ := List.nodup_cons.mp nd
    cases hv with
    | @cons v _ vs _ r1 t =>
      cases rw_ with
      | @cons _ _ e es g1 g2 =>
        rw [List.map_cons] at rk
        cases rk with
        | cons k1 k2 =>
          simp only [List.map_cons, ddelK, ddelV]
          by_cases q1 : x = q
          · subst q1
            have hw : withoutH ((x, b, u) :: xs) x = xs := by
              have : withoutH ((x, b, u) :: xs) x = withoutH xs x := by simp [withoutH]
              rw [this, withoutH_of_not_mem xs x n1]
            rw [if_pos (D.beq_refl x), if_pos (D.beq_refl x), hw]
            exact ⟨_, vs, rfl, rfl, t, k2, g2⟩
          · have hw : withoutH ((x, b, u) :: xs) q = (x, b, u) :: withoutH xs q := by simp [withoutH, q1]
            rw [if_neg (fun y => q1 (D.beq_eq y)), if_neg (fun y => q1 (D.beq_eq y)), hw]
            obtain ⟨kvs', vvs', a1, a2, a3, a4, a5⟩ := del_deep (q := q) rfl rfl t n2 k2 g2
            exact ⟨V.ref b :: kvs', v :: vvs', by simp [a1], by simp [a2], .cons r1 a3, .cons k1 a4, .cons g1 a5⟩
theorem del_scal {k : Key} : ∀ {l : List (Key × V)} {ws : List D}, (l.map (fun p => kD p.1)).Nodup → RVs G as H (l.map fun p => kV p.1) (l.map fun p => kD p.1) → RVs G as H (l.map (·.2)) ws →
    (dropK l k).map (fun p => kD p.1) = ddelK (kD k) (l.map fun p => kD p.1) ∧ RVs G as H ((dropK l k).map fun p => kV p.1) (ddelK (kD k) (l.map fun p => kD p.1)) ∧ RVs G as H ((dropK l k).map (·.2)) (ddelV (kD k) (l.map fun p => kD p.1) ws)
  | [], _, _, _, h => by cases h; exact ⟨rfl, .nil, .nil⟩
  | (x, u) :: l, ws, nd, rk, rw_ => by
    rw [List.map_cons] at nd rk rw_
    rw [List.map_cons] at rk
    obtain ⟨n1, n2⟩ := List.nodup_cons.mp nd
    cases rk with
    | cons k1 k2 =>
      cases rw_ with
      | @cons _ _ e es g1 g2 =>
        simp only [List.map_cons, ddelK, ddelV]
        by_cases q1 : x = k
        · subst q1
          have hw : dropK ((x, u) :: l) x = l := by
            unfold dropK
            rw [List.filter_cons_of_neg (by simp), List.filter_eq_self]
            intro p hp
            simp only [decide_eq_true_eq]
            intro z
            exact n1 (List.mem_map.mpr ⟨p, hp, by rw [z]⟩)
          rw [if_pos (D.beq_refl _), if_pos (D.beq_refl _), hw]
          exact ⟨rfl, k2, g2⟩
        · have hw : dropK ((x, u) :: l) k = (x, u) :: dropK l k := by simp [dropK, q1]
          rw [if_neg (fun y => q1 (kD_inj (D.beq_eq y))), if_neg (fun y => q1 (kD_inj (D.beq_eq y))), hw]
          obtain ⟨a1, a2, a3⟩ := del_scal (k := k) n2 k2 g2
          exact ⟨by simp [a1], .cons k1 a2, .cons g1 a3⟩
end
section
variable {X : Cx} {T : Tb} {W : WX}
theorem mt_dGet (hu : Rm X) : MtD X T "dict.get" mGet := by
  intro pins s σ H as M x ys v ws u zs Q W I r rx ry ru rz h
  unfold mGet at h
  split at h
  case h_2 => exact h.elim
  rename_i k d
  split at h
  case h_2 => exact h.elim
  rename_i ks vs hx
  split at h
  case isFalse => exact h.elim
  rename_i hk
  obtain ⟨a, kvs, vvs, rfl, d1, d2, d3⟩ := asD_ok r rx hx
  cases (show u = Value.ref a from ru)
  obtain ⟨vk, vd, rfl, rk, rd⟩ := two_rvs ry
  obtain ⟨uk, ud, rfl, ruk, rud⟩ := vals2 rz
  obtain ⟨nd, hl, hs, _, hkey⟩ := dict_facts d1
  rcases kok_cases hk with ⟨h1, h2⟩ | ⟨h1, h2⟩
  · obtain ⟨l, ws', S⟩ := dict_scal I d1 d2 h2
    obtain ⟨q, rfl, rfl⟩ := scal_key h1 rk
    obtain ⟨f1, f2⟩ := find_scal q (show RVs (gx X T) as H (l.map (·.2)) vs by rw [S.vvs]; exact d3)
    rw [S.ks] at f1 f2
    refine call_meetsIn PySem.F.slot_dict_get S.at_.typeIs PySem.F.entry_dict_get (PySem.F.args_dict_get_3 _ _ _) (meets_dict_get_default (mixKind X.prog X.w) a (kV_is ruk) hs ud) ⟨_, S.at_.mapOf, ?_⟩
    cases hf : dfind (kD q) ks vs with
    | none =>
      rw [hf] at h
      have e := f2 hf
      have e2 : valueAt ws' q = none := RelO.none_of (by rw [← e]; exact S.rel.val q)
      rw [e2]
      exact ⟨vd, H, I.tok _, rud, h.fin r rd⟩
    | some y =>
      rw [hf] at h
      obtain ⟨z, e, rzz⟩ := f1 y hf
      obtain ⟨w', hw, rw'⟩ := RelO.some_of (v := z) (o := valueAt ws' q) (by rw [← e]; exact S.rel.val q)
      rw [hw]
      exact ⟨z, H, I.tok _, rw', h.fin r rzz⟩
  · obtain ⟨xs, S⟩ := dict_deep I d1 d2 h2
    obtain ⟨b, rfl⟩ := deep_key h1 rk
    cases (show uk = Value.ref b from ruk)
    have kk := deepK_iff h1
    obtain ⟨f1, f2⟩ := find_deep k S.vvs d3
    rw [S.ks] at f1 f2
    refine call_meetsIn PySem.F.slot_dict_get S.at_.typeIs PySem.F.entry_dict_get (PySem.F.args_dict_get_3 _ _ _) (meetsH_dict_get_default (deepKind X.prog X.w) a b hs ud) ⟨?_, k, xs, ⟨rk.keyAt I kk.1 rfl, kk.2.1⟩, S.at_, ?_⟩
    · exact hu.deep
    · cases hf : dfind k ks vs with
      | none =>
        rw [hf] at h
        rw [f2 hf]
        exact ⟨vd, H, I.tok _, rud, h.fin r rd⟩
      | some y =>
        rw [hf] at h
        obtain ⟨p, z, e, r1, rzz⟩ := f1 y hf
        rw [e]
        exact ⟨z, H, I.tok _, r1, h.fin r rzz⟩
theorem key_part {k : Key} {u : Value} (ry : RelV (kV k) u) : (keyPart u).isSome = true := by
  cases k with
  | inl i => obtain ⟨t, e⟩ := (show ∃ t, u = Value.int i t from ry); rw [e]; rfl
  | inr x => obtain ⟨t, e⟩ := (show ∃ t, u = Value.str x t from ry); rw [e]; rfl
theorem mt_dDPop (hu : Rm X) : MtD X T "dict.pop" mDPop := by
  intro pins s σ H as M x ys v ws u zs Q W I r rx ry ru rz h
  unfold mDPop at h
  split at h
  case h_2 => exact h.elim
  rename_i n
  split at h
  case h_2 => exact h.elim
  rename_i ks vs hc
  split at h
  case h_1 => exact h.elim
  rename_i k more
  obtain ⟨a, rfl, hk⟩ := obj_ok rx
  cases (show u = Value.ref a from ru)
  obtain ⟨kvs, vvs, d1, d2, d3⟩ := r.cell n a _ hk hc
  obtain ⟨nd, hl, hs, _, hkey⟩ := dict_facts d1
  cases ry with
  | @cons vk wm _ _ rk rm =>
    cases rz with
    | @cons _ uk _ um ruk rum =>
      have hargs : more.length ≤ 1 → argsOk "dict.pop" ⟨.ref a :: uk :: um, []⟩ ∧ (um = [] ∨ ∃ x, um = [x]) := fun hm => by
        have e1 := rm.len
        have e2 := rum.length
        cases um with
        | nil => exact ⟨PySem.F.args_dict_pop_2 _ _, .inl rfl⟩
        | cons y l =>
          cases l with
          | nil => exact ⟨PySem.F.args_dict_pop_3 _ _ _, .inr ⟨y, rfl⟩⟩
          | cons z l => simp at e2; omega
      split at h
      · rename_i y hf
        split at h
        case isFalse => exact h.elim
        rename_i hw
        simp only [Bool.and_eq_true, nle_iff] at hw
        obtain ⟨⟨w1, w2⟩, w3⟩ := hw
        obtain ⟨ha, hm⟩ := hargs w2
        have sub : (ddelK k ks).Sublist ks := ddelK_sub
        have hl' : (ddelK k ks).length ≤ sizeLine := Nat.le_trans sub.length_le hl
        have fin : ∀ h' t' z w', NewD X T as H a (ddelK k ks) (ddelV k ks vs) h' → Heap.SameBut a s.heap h' → RelV z w' → RV (gx X T) as H z y → EP X pins σ Q w' { s with heap := h', toks := t' } := fun h' t' z w' N hsb r1 r2 => by
          obtain ⟨o, kvs', vvs', I', ho, n3, n4, n5⟩ := new_write (t' := t') I d1 N hsb
          obtain ⟨st, rl⟩ := write_dct r hk hc rfl w3 n3 n4 n5
          exact ⟨z, _, I', r1, h as _ z st rl (r2.step r st)⟩
        rcases kok_cases w1 with ⟨h1, h2⟩ | ⟨h1, h2⟩
        · obtain ⟨l, ws', S⟩ := dict_scal I d1 d2 h2
          obtain ⟨q, rfl, rfl⟩ := scal_key h1 rk
          obtain ⟨f1, _⟩ := find_scal q (show RVs (gx X T) as H (l.map (·.2)) vs by rw [S.vvs]; exact d3)
          rw [S.ks] at f1
          obtain ⟨z, e, rzz⟩ := f1 y hf
          obtain ⟨w', hw, rw'⟩ := RelO.some_of (v := z) (o := valueAt ws' q) (by rw [← e]; exact S.rel.val q)
          refine call_meetsIn PySem.F.slot_dict_pop S.at_.typeIs PySem.F.entry_dict_pop ha (meets_dict_pop_there (mixKind X.prog X.w) a (kV_is ruk) um hm (key_part ruk)) ⟨ws', w', S.at_, by rw [← S.rel.length]; exact S.len, hw, fun h' dd' hsb => ?_⟩
          have ek := sca_keys (by rw [S.ks]; exact d2)
          obtain ⟨a1, a2, a3⟩ := del_scal (k := q) (by rw [S.ks]; exact nd) (by rw [← ek, S.ks]; exact d2) (show RVs (gx X T) as H (l.map (·.2)) vs by rw [S.vvs]; exact d3)
          rw [S.ks] at a1 a2 a3
          exact fin h' _ z w' (new_scal dd' (S.rel.drop q) a1 a2 a3 (nd.sublist sub) (fun d hd => all_scal hkey h2 d (sub.subset hd)) hl' hs) hsb rw' rzz
        · obtain ⟨xs, S⟩ := dict_deep I d1 d2 h2
          obtain ⟨b, rfl⟩ := deep_key h1 rk
          cases (show uk = Value.ref b from ruk)
          have kk := deepK_iff h1
          obtain ⟨f1, _⟩ := find_deep k S.vvs d3
          rw [S.ks] at f1
          obtain ⟨p, z, e, r1, rzz⟩ := f1 y hf
          refine call_pop_heap (hsz := S.len) hm ha hu.deep ⟨rk.keyAt I kk.1 rfl, kk.2.1⟩ hs S.at_ e fun h' dd' hsb => ?_
          obtain ⟨kvs', vvs', a1, a2, a3, a4, a5⟩ := del_deep (q := k) S.ks S.kvs S.vvs nd d2 d3
          exact fin h' _ z p.2 (new_deep dd' a1 a2 a3 a4 a5 (nd.sublist sub) (fun d hd => all_deep hkey h2 d (sub.subset hd)) hl' hs) hsb r1 rzz
      · rename_i hf
        split at h
        case h_2 => exact h.elim
        rename_i d
        split at h
        case isFalse => exact h.elim
        rename_i w1
        obtain ⟨vd, rfl, rd⟩ := one_rvs rm
        obtain ⟨ud, rfl, rud⟩ := vals1 rum
        rcases kok_cases w1 with ⟨h1, h2⟩ | ⟨h1, h2⟩
        · obtain ⟨l, ws', S⟩ := dict_scal I d1 d2 h2
          obtain ⟨q, rfl, rfl⟩ := scal_key h1 rk
          obtain ⟨_, f2⟩ := find_scal q (show RVs (gx X T) as H (l.map (·.2)) vs by rw [S.vvs]; exact d3)
          rw [S.ks] at f2
          have e2 : valueAt ws' q = none := RelO.none_of (by rw [← f2 hf]; exact S.rel.val q)
          exact call_meetsIn PySem.F.slot_dict_pop S.at_.typeIs PySem.F.entry_dict_pop (PySem.F.args_dict_pop_3 _ _ _) (meets_dict_pop_default (mixKind X.prog X.w) a (kV_is ruk) hs (key_part ruk) ud) ⟨ws', S.at_, e2, ⟨vd, H, I.tok _, rud, h.fin r rd⟩⟩
        · obtain ⟨xs, S⟩ := dict_deep I d1 d2 h2
          obtain ⟨b, rfl⟩ := deep_key h1 rk
          cases (show uk = Value.ref b from ruk)
          have kk := deepK_iff h1
          obtain ⟨_, f2⟩ := find_deep k S.vvs d3
          rw [S.ks] at f2
          exact call_pop_default_heap (hsz := S.len) hu.deep ⟨rk.keyAt I kk.1 rfl, kk.2.1⟩ hs S.at_ (f2 hf) fun tk => ⟨vd, H, I.tok _, rud, h.fin r rd⟩
/-! ### isinstance -/
def tyName (M : Mem) : D → Option String
  | .non => some "NoneType"
  | .bl _ => some "bool"
  | .int _ => some "int"
  | .str _ => some "str"
  | .tup _ => some "tuple"
  | .lst _ => some "list"
  | .dct _ _ => some "dict"
  | .fz _ => some "list"
  | .obj k => match M.c[k]? with
    | some (.lst _ _) => some "list"
    | some (.dct _ _ _) => some "dict"
    | _ => none
/-- isinstance(x, c), c one of the built-in types -/
def isT (c t : String) : Bool := c == t || (c == "int" && t == "bool")
def eIsi (c : String) (t : Ex) : Ex := fun e M => (t e M).bind fun x M1 => match tyName M1 x with
  | some n => .ok (.bl (isT c n)) M1
  | none => .bad
/-- the answers, once for all -/
def KitC (K : PySem.W.Frag) (c : String) : Prop := ∀ n, n = "NoneType" ∨ n = "bool" ∨ n = "int" ∨ n = "str" ∨ n = "tuple" ∨ n = "list" ∨ n = "dict" → PySem.W.kitOne K (.type n) (.type c) = some (isT c n)
theorem kit_int (K : PySem.W.Frag) : KitC K "int" := by rintro n (rfl | rfl | rfl | rfl | rfl | rfl | rfl) <;> rfl
theorem kit_bool (K : PySem.W.Frag) : KitC K "bool" := by rintro n (rfl | rfl | rfl | rfl | rfl | rfl | rfl) <;> rfl
theorem kit_tuple (K : PySem.W.Frag) : KitC K "tuple" := by rintro n (rfl | rfl | rfl | rfl | rfl | rfl | rfl) <;> rfl
theorem kit_str (K : PySem.W.Frag) : KitC K "str" := by rintro n (rfl | rfl | rfl | rfl | rfl | rfl | rfl) <;> rfl
theorem kit_list (K : PySem.W.Frag) : KitC K "list" := by rintro n (rfl | rfl | rfl | rfl | rfl | rfl | rfl) <;> rfl
theorem kit_dict (K : PySem.W.Frag) : KitC K "dict" := by rintro n (rfl | rfl | rfl | rfl | rfl | rfl | rfl) <;> rfl
theorem isi_any {pins : List (Addr × Obj)} {s : Shared} {σ : L2.St} {H : Hp} {as : List Addr} {M : Mem} {x : D} {v : V} {u : Value} {c n : String} {Q : Value → Shared → Prop} {E : Value → Shared → Prop} {A : Around} (hk : KitC X.K c) (I : Inv X pins σ H s) (r : Rel (gx X T) as M H) (rx : RV (gx X T) as H v x) (ru : RelV v u) (h : tyName M x = some n)
    (hQ : ∀ tk, Q (.bool (isT c n)) { s with toks := tk }) : wpAny (model X.prog X.w) A (call (.builtin "isinstance") [u, .type c]) Q E s := by
  have go : ∀ {P : Heap → Prop}, PySem.W.KitX X.K u (.type n) P → P s.heap → u ≠ .builtin "__main__.__loader__#opaque" → (n = "NoneType" ∨ n = "bool" ∨ n = "int" ∨ n = "str" ∨ n = "tuple" ∨ n = "list" ∨ n = "dict") → wpAny (model X.prog X.w) A (call (.builtin "isinstance") [u, .type c]) Q E s := fun k p hx hn =>
    PySem.W.kia_one k I.kIn p (hk n hn) hx hQ
  have byty : TyX X.K H v (.type n) → (n = "NoneType" ∨ n = "bool" ∨ n = "int" ∨ n = "str" ∨ n = "tuple" ∨ n = "list" ∨ n = "dict") → wpAny (model X.prog X.w) A (call (.builtin "isinstance") [u, .type c]) Q E s := fun ty hn => by
    obtain ⟨P, k, p, hx⟩ := kit_of I ru ty
    exact go k p hx hn
  have dct : ∀ a ks kvs vvs, v = .ref a → DictAt (gx X T) H a ks kvs vvs → n = "dict" → wpAny (model X.prog X.w) A (call (.builtin "isinstance") [u, .type c]) Q E s := fun a ks kvs vvs e d hn => by
    subst e hn
    cases (show u = Value.ref a from ru)
    obtain ⟨es, ep, ⟨o, g1, g2, _⟩, _⟩ := dict_raw I d
    exact go PySem.W.kitx_dict ⟨o, g1, g2.1⟩ (fun z => nomatch z) (by simp)
  cases rx with
  | non => cases h; exact byty (.base .non) (by simp)
  | bl b => cases h; exact byty (.base (.bl b)) (by simp)
  | int i => cases h; exact byty (.base (.int i)) (by simp)
  | str z _ => cases h; exact byty (.base (.str z)) (by simp)
  | tup q _ =>
    cases h
    rcases q with (q | ⟨ob, q⟩) | q
    · exact byty (.base (.tup q)) (by simp)
    · exact byty (.fTuple q) (by simp)
    · obtain ⟨o, its, m, e, cc, _⟩ := q
      exact byty (.kTuple e cc) (by simp)
  | lst q _ _ => cases h; exact byty (.base (.lst q)) (by simp)
  | dct q _ _ _ => cases h; exact dct _ _ _ _ rfl q rfl
  | fz q =>
    cases h
    rcases q with ⟨q | ⟨ob, q⟩, _⟩ | ⟨o, its, m, e, cc, _⟩
    · exact byty (.base (.lst q)) (by simp)
    · exact byty (.base (.frz q)) (by simp)
    · exact byty (.kList e cc) (by simp)
  | @obj a k hk =>
    simp only [tyName] at h
    split at h
    · rename_i hc
      cases h
      obtain ⟨vs, e1, e2⟩ := r.cell k a _ hk hc
      exact byty (.base (.lst e1)) (by simp)
    · rename_i hc
      cases h
      obtain ⟨kvs, vvs, d1, d2, d3⟩ := r.cell k a _ hk hc
      exact dct a _ _ _ rfl d1 rfl
    · cases h
theorem se_isi {c : String} {x : Str} {a : Expr} {ta : Ex} {p p2 pos : Pos} (hk : KitC X.K c) (ha : SE X T W a ta) (hm : X.mg "isinstance" = none) (hm2 : X.mg x = none) (hv2 : bootBuiltins x = some (.type c)) (hg : Gl X "isinstance" := by rfl) (hg2 : Gl X x := by rfl) (hn : x ≠ "__name__" := by decide) (hdb : (x == ("__debug__" : Str)) = false := by decide)
    (hv : bootBuiltins "isinstance" = some (.builtin "isinstance") := by rfl)
    (he : starEach [a, .Name x p2] X.env = (false, eval a X.env) :: starEach [.Name x p2] X.env := by rfl) (he2 : starEach [.Name x p2] X.env = (false, eval (.Name x p2) X.env) :: starEach [] X.env := by rfl) (hpl : (backTo pos (starEach [.Name x p2] X.env)).any (·.1) = false := by rfl) :
    SE X T W (.Call (.Name "isinstance" p) [a, .Name x p2] [] pos) (eIsi c ta) := by
  refine ⟨fun pins s σ H Q I ⟨as, M, e, r, q, h⟩ => ?_⟩
  refine wpAny_Call_Name_kw (ld_blt I hg hm hv ?_ (by decide) (by decide))
  have hb : PE X (.Name x p2) (tC (.ty c)) := pe_bltn hg2 hm2 hv2 rfl hn hdb
  refine PyProof.Rows.callWith_builtin1 (thn ((pa_cons ha (pa_cons hb pa_nil he2) he).run pos pins s σ H (fun vs H1 => ∃ as1 M1 d v, vs = [v, .ty c] ∧ Rel (gx X T) as1 M1 H1 ∧ RV (gx X T) as1 H1 v d ∧ PostE (gx X T) W σ as1 M1 H1 Q (match tyName M1 d with | some n => .ok (.bl (isT c n)) M1 | none => .bad)) I ?_) fun us s1 ⟨vs, H1, I1, r1, as1, M1, d, v, ev, rl, rv, q1⟩ => ?_) he hpl
  · exact bindE r q h fun d v as1 M1 H1 r1 q1 s1 rv h1 => ⟨as1, M1, d, v, rfl, r1, rv, h1⟩
  · subst ev
    obtain ⟨u1, u2, rfl, ru1, ru2⟩ := vals2 r1
    cases (show u2 = Value.type c from ru2)
    split at q1
    · rename_i n hn
      exact isi_any hk I1 rl rv ru1 hn fun tk => ⟨.bl _, H1, I1.tok tk, rfl, q1.fin rl (.bl _)⟩
    · exact q1.elim
end
end EV

set_option Elab.async false
set_option linter.all false
set_option autoImplicit false
set_option maxRecDepth 100000
set_option maxHeartbeats 4000000
namespace EV
open PySem PySem.Spec PyProof.Rows L2
/-! ### dict comprehensions -/
section
variable {X : Cx} {T : Tb}
/-- the turn's put into the dict at Dl -/
def putR (X : Cx) (T : Tb) (Dl : Addr) (y z : V) (H : Hp) (Nx : Hp → Prop) : Prop := ∃ as ks ws kvs vvs q d, DictAt (gx X T) H Dl ks kvs vvs ∧ RVs (gx X T) as H kvs ks ∧ RVs (gx X T) as H vvs ws ∧ kok ks q = true ∧ ks.length < sizeLine ∧ RV (gx X T) as H y q ∧ RV (gx X T) as H z d ∧
  ∀ o kvs' vvs', (∃ φ, o = .ext φ) → (∀ H', H' Dl = some o → DictAt (gx X T) H' Dl (dputK q ks) kvs' vvs') → RVs (gx X T) as H kvs' (dputK q ks) → RVs (gx X T) as H vvs' (dputV q d ks ws) → Nx (upd H Dl o)
def tDcx (X : Cx) (T : Tb) (wi : TI) (g : TG) (tt : TT) (tk tv : TE) (vs : List Nat) : TE := fun σ H Q => wi σ H fun J H1 => ∀ Dl, H1 Dl = none → (Dl == sysModules) = false → ∃ Wn : Nat → Nat → Hp → Prop, (∃ m, Wn 0 m (upd H1 Dl (dictO X.w Dl 0 []))) ∧ ∀ i m Hn, Wn i m Hn →
  (J.stop i Hn ∧ Q (.ref Dl) Hn) ∨ (J.go i Hn ∧ ∃ Nx : Hp → Prop, (∀ Ha, Nx Ha → ∃ m', m' < m ∧ Wn (i + 1) m' Ha) ∧ ∀ x Ha, J.yld i Hn x Ha → g x (wipe σ vs) Ha fun σa Hb => wipe σa vs = wipe σ vs ∧ tt σa Hb fun b Hc =>
    if b = true then tk σa Hc fun y Hd => tv σa Hd fun z He => putR X T Dl y z He Nx else Nx Hc)
theorem dcx_core {pins : List (Addr × Obj)} {s : Shared} {σ : L2.St} {H : Hp} {Q : VK} {ke ve tg iter : Expr} {ifs : List Expr} {scope : Scope} {own : List (Str × Nat)} {pos pos' : Pos} {wi : TI} {g : TG} {tt : TT} {tk tv : TE} {use : Option (Value → Sem Unit)} {Qf : Value → Shared → Prop}
    (hu : Rm X) (calm : X.calm = true) (nodup : X.N.Nodup) (I : Inv X pins σ H s) (walk : PI X tg iter wi) (ok : BlkOk X.N X.env.scope scope own)
    (targ : ∀ (sa : Shared) (Ha : Hp) (Ca : Addr) (cl : List (Str × Addr)) (fp : List Addr), PG (X.blk sa Ha scope (compEnvC scope cl Ca X.env) fp) tg g) (tests : ∀ (sa : Shared) (Ha : Hp) (Ca : Addr) (cl : List (Str × Addr)) (fp : List Addr), PTs (X.blk sa Ha scope (compEnvC scope cl Ca X.env) fp) ifs tt)
    (keyp : ∀ (sa : Shared) (Ha : Hp) (Ca : Addr) (cl : List (Str × Addr)) (fp : List Addr), PE (X.blk sa Ha scope (compEnvC scope cl Ca X.env) fp) ke tk)
    (valp : ∀ (sa : Shared) (Ha : Hp) (Ca : Addr) (cl : List (Str × Addr)) (fp : List Addr), PE (X.blk sa Ha scope (compEnvC scope cl Ca X.env) fp) ve tv) (fold : ∀ x, foldedSetIterable iter X.env x = pure x)
    (h : tDcx X T wi g tt tk tv (own.map (·.2)) σ H Q)
    (out : ∀ Dl Ca sz m Hz, Inv X pins σ Hz sz → Q (.ref Dl) Hz → sz.heap.Ns Ca m → FpOk X pins Hz Ca → compPost (model X.prog X.w) X.A X.xe use Qf (.ref Dl) Ca (.ok .next) sz) :
    wpAny (model X.prog X.w) X.A (comprehension (.DictComp ke ve [⟨tg, iter, ifs, 0⟩] scope pos) scope X.env pos' newDict false (eval iter X.env) use) Qf X.xe s := by
  have frees : ∀ y ∈ scope.names, y.2 = .free → ∃ c, X.env.cells.lookup y.1 = some c := fun y hy ey => (ok.free y hy ey).elim (fun kk => I.ok.has _ (.inl kk)) fun kk => I.ok.has _ (.inr kk)
  refine wpAny_comprehension_free (use := use) rfl fold (closure_ok frees) ok.kind (fun y hy ey => by rw [ok.uniq y hy, ey])
    (thn (walk.run pins s σ H _ I h) fun xv sa hx => thn hx fun itv sb hb => ?_)
  obtain ⟨it, fp, tn, J, Hb, eit, Ib, Tu, stb, fb, q⟩ := hb
  subst eit
  refine wpAny_newObj_type (newEnv_comp ?_)
  have sysD := new_sys Ib
  generalize eD : sb.heap.objs.size = Dl at sysD
  have noneD : Hb Dl = none := Ib.hok.fresh (Nat.le_of_eq eD)
  obtain ⟨Wn, ⟨m0, w0⟩, turn⟩ := q Dl noneD sysD
  generalize e3 : ({ sb with heap := sb.heap.push { cls := .type "dict", data := .dict #[] } } : Shared) = sc
  have Ic : Inv X pins σ (upd Hb Dl (dictO X.w Dl 0 [])) sc := by
    rw [← e3]
    refine Ib.laid (t' := sb.toks) (fun b u eb => Heap.get?_push_of_some _ eb) (Nat.le_of_eq eD) ?_
    rw [← eD]
    exact emp_at sb.heap
  have hc3 : sc.heap = sb.heap.push { cls := .type "dict", data := .dict #[] } := by rw [← e3]
  have ltfp : ∀ b ∈ fp, b < sb.heap.objs.size := fun b hb => Heap.lt_size (Tu.obj _ _ stb b hb).choose_spec.1
  have fc : ∀ b ∈ fp, FpOk X pins (upd Hb Dl (dictO X.w Dl 0 [])) b ∧ b < sc.heap.objs.size := fun b hb => by
    have hlt := ltfp b hb
    refine ⟨⟨?_, (fb b hb).2⟩, by rw [hc3, Heap.size_push]; exact Nat.lt_succ_of_lt hlt⟩
    rw [upd_ne (by rw [← eD]; exact Nat.ne_of_lt hlt)]
    exact (fb b hb).1
  have stc : tn 0 sc.heap := Tu.keep _ _ _ stb fun b _ u eb => by rw [hc3]; exact Heap.get?_push_of_some _ eb
  have Id := block_start Ic ok nodup fc
  have pg := targ sc (upd Hb Dl (dictO X.w Dl 0 [])) sc.heap.objs.size (cellsFrom (sc.heap.objs.size + 1) scope.names (cloFrom X.env.cells scope.names [])) fp
  have pt := tests sc (upd Hb Dl (dictO X.w Dl 0 [])) sc.heap.objs.size (cellsFrom (sc.heap.objs.size + 1) scope.names (cloFrom X.env.cells scope.names [])) fp
  have pk := keyp sc (upd Hb Dl (dictO X.w Dl 0 [])) sc.heap.objs.size (cellsFrom (sc.heap.objs.size + 1) scope.names (cloFrom X.env.cells scope.names [])) fp
  have pe := valp sc (upd Hb Dl (dictO X.w Dl 0 [])) sc.heap.objs.size (cellsFrom (sc.heap.objs.size + 1) scope.names (cloFrom X.env.cells scope.names [])) fp
  show codeAny _ _ (.compStart (.DictComp ke ve [⟨tg, iter, ifs, 0⟩] scope pos) 0 (.ref it) (.ref Dl) (compEnvC scope (cellsFrom (sc.heap.objs.size + 1) scope.names (cloFrom X.env.cells scope.names [])) sc.heap.objs.size X.env)) (compPost (model X.prog X.w) X.A X.xe use Qf (.ref Dl) sc.heap.objs.size) { sc with heap := pushCells (sc.heap.push { cls := .type "dict", data := .dict #[] }) scope.names }
  have nofp : ∀ b ∈ fp, (upd Hb Dl (dictO X.w Dl 0 [])) b = none := fun b hb => (fc b hb).1.1
  generalize ece : compEnvC scope (cellsFrom (sc.heap.objs.size + 1) scope.names (cloFrom X.env.cells scope.names [])) sc.heap.objs.size X.env = cenv at Id pg pt pk pe ⊢
  have locs : cenv.locals = sc.heap.objs.size := by subst ece; rfl
  generalize eH3 : upd Hb Dl (dictO X.w Dl 0 []) = Hc at Ic Id pg pt pk pe w0 nofp fc
  generalize es4 : ({ sc with heap := pushCells (sc.heap.push { cls := .type "dict", data := .dict #[] }) scope.names } : Shared) = sd at Id ⊢
  have std : tn 0 sd.heap := Tu.keep _ _ _ stc fun b _ u eb => by rw [← es4]; exact pushCells_keeps _ _ _ _ (Heap.get?_push_of_some _ eb)
  have stay : ∀ {σx : L2.St} {Hx : Hp} {sx : Shared}, Inv (X.blk sc Hc scope cenv fp) [] σx Hx sx → (∀ b ∈ fp, Hx b = none) → ∀ b ∈ fp, FpOk (X.blk sc Hc scope cenv fp) [] Hx b := fun {σx Hx sx} Ix hn b hb =>
    ⟨hn b hb, (Ix.ok.exf b hb).1, Ix.ok.exfs b hb, .inl hb, fun x c ec => (Ix.ok.exf b hb).2 x c ec, fun p hp => absurd (show p ∈ ([] : List (Addr × Obj)) ++ [] from hp) (by simp)⟩
  have loop : codeAny (model X.prog X.w) X.A (.compLoop (.DictComp ke ve [⟨tg, iter, ifs, 0⟩] scope pos) 0 (.ref it) (.ref Dl) cenv) (compPost (model X.prog X.w) X.A X.xe use Qf (.ref Dl) sc.heap.objs.size) sd := by
    refine compLoop_anyD (fun n sx => ∃ i Hx, Inv (X.blk sc Hc scope cenv fp) [] (wipe σ (own.map (·.2))) Hx sx ∧ tn i sx.heap ∧ (∀ b ∈ fp, Hx b = none) ∧ Wn i n Hx) ?_ m0 ⟨0, Hc, Id, std, nofp, w0⟩
    rintro n s5 ⟨i, H5, I5, st5, n5, w5⟩
    rcases turn i n H5 w5 with ⟨stop, fin⟩ | ⟨go, Nx, hNx, step⟩
    · have td := Tu.done (X.blk sc Hc scope cenv fp) rfl rfl rfl calm i [] s5 _ H5 (fun _ _ => False) I5 (stay I5 n5) st5 stop
      refine thnF td fun r s6 ⟨hr, I6⟩ => ?_
      subst hr
      have I7 : Inv X pins σ H5 s6 := Ic.call' (ch := fp) I6.os I6.base I6.hok I6.bare fun b hb => ⟨(fc b hb).1.2.2.2.1, (fc b hb).1.2.1, (fc b hb).1.2.2.2.2.1, (fc b hb).1.2.2.2.2.2⟩
      have nC : H5 sc.heap.objs.size = none := by rw [← locs]; exact I6.free
      obtain ⟨m, hm, _⟩ := I6.loc
      have hm : s6.heap.Ns cenv.locals m := hm
      rw [locs] at hm
      exact out Dl sc.heap.objs.size s6 m H5 I7 fin hm (Ic.fpOk (Nat.le_refl _) nC)
    · have ti := Tu.item (X.blk sc Hc scope cenv fp) rfl rfl rfl calm i [] s5 _ H5 (fun _ _ => False) I5 (stay I5 n5) st5 go
      refine thnF ti fun r s6 ⟨u, hr, h6⟩ => ?_
      subst hr
      refine thnF h6 fun _ s7 ⟨x, H7, I7, r7, y7, st7, n7⟩ => ?_
      have Ip := I7.pinned (stay I7 n7) (Tu.obj _ _ st7)
      refine thnF (pg.run _ s7 _ H7 x u _ Ip r7 (step x H7 y7)) fun _ s8 ⟨σ8, H8, I8, hw8, q8⟩ => ?_
      refine thnF (pt.run _ s8 σ8 H8 _ I8 q8) fun b s9 ⟨H9, I9, q9⟩ => ?_
      have done : ∀ {sx : Shared} {Hx : Hp}, Inv (X.blk sc Hc scope cenv fp) ([] ++ pinsAt fp s7.heap) σ8 Hx sx → Nx Hx → ∃ m, m < n ∧ ∃ i Hy, Inv (X.blk sc Hc scope cenv fp) [] (wipe σ (own.map (·.2))) Hy sx ∧ tn i sx.heap ∧ (∀ b ∈ fp, Hy b = none) ∧ Wn i m Hy := fun {sx Hx} Ix nx => by
        obtain ⟨m', hm, w'⟩ := hNx Hx nx
        have pinx : ∀ b ∈ fp, ∀ u, s7.heap.get? b = some u → sx.heap.get? b = some u ∧ Hx b = none := fun b hb u eb =>
          let zz := Ix.pin (b, u) (List.mem_append_right _ (List.mem_append_right _ (mem_pinsAt hb eb)))
          ⟨zz.1, zz.2.1⟩
        have hlen : (wipe σ (own.map (·.2))).length = σ8.length := by rw [← hw8, wipe_length]
        refine ⟨m', hm, i + 1, Hx, (Ix.unpinned (pins := [])).weak hlen (fun j v ev => ?_), Tu.keep _ _ _ st7 fun b hb u eb => (pinx b hb u eb).1, fun b hb => ?_, w'⟩
        · rw [← hw8] at ev
          exact (wipe_some ev).1
        · obtain ⟨u, eb, _⟩ := Tu.obj _ _ st7 b hb
          exact (pinx b hb u eb).2
      cases b with
      | false =>
        simp only [Bool.false_eq_true, if_false] at q9 ⊢
        exact done I9 q9
      | true =>
        simp only [if_true] at q9 ⊢
        refine thnF (pk.run _ s9 σ8 H9 _ I9 q9) fun z s10 ⟨yk, H10, I10, r10, q10⟩ => ?_
        refine thnF (pe.run _ s10 σ8 H10 _ I10 q10) fun z2 s11 ⟨yv, H11, I11, r11, as, ks, ws, kvs, vvs, qk, d, da, rk, rw_, hk, hz, rq, rd, nx⟩ => ?_
        exact e_put (X := X.blk sc Hc scope cenv fp) (T := T) (.inr ⟨rfl, (show Rm X from hu).put⟩) I11 da rk rw_ hk hz rq r10 rd r11 fun s12 o kvs' vvs' I12 ho n3 n4 n5 => done I12 (nx o kvs' vvs' ho n3 n4 n5)
  exact codeAny_compStart_dict loop (Tu.self X.A 0 _ _ _ std loop)
theorem pe_dcx {ke ve tg iter : Expr} {ifs : List Expr} {scope : Scope} {own : List (Str × Nat)} {pos : Pos} {wi : TI} {g : TG} {tt : TT} {tk tv : TE} (hu : Rm X) (calm : X.calm = true) (nodup : X.N.Nodup) (walk : PI X tg iter wi) (ok : BlkOk X.N X.env.scope scope own)
    (targ : ∀ (sa : Shared) (Ha : Hp) (Ca : Addr) (cl : List (Str × Addr)) (fp : List Addr), PG (X.blk sa Ha scope (compEnvC scope cl Ca X.env) fp) tg g) (tests : ∀ (sa : Shared) (Ha : Hp) (Ca : Addr) (cl : List (Str × Addr)) (fp : List Addr), PTs (X.blk sa Ha scope (compEnvC scope cl Ca X.env) fp) ifs tt)
    (keyp : ∀ (sa : Shared) (Ha : Hp) (Ca : Addr) (cl : List (Str × Addr)) (fp : List Addr), PE (X.blk sa Ha scope (compEnvC scope cl Ca X.env) fp) ke tk)
    (valp : ∀ (sa : Shared) (Ha : Hp) (Ca : Addr) (cl : List (Str × Addr)) (fp : List Addr), PE (X.blk sa Ha scope (compEnvC scope cl Ca X.env) fp) ve tv) (fold : ∀ x, foldedSetIterable iter X.env x = pure x := by intro _; rfl) :
    PE X (.DictComp ke ve [⟨tg, iter, ifs, 0⟩] scope pos) (tDcx X T wi g tt tk tv (own.map (·.2))) := by
  refine ⟨fun pins s σ H Q I h => ?_⟩
  rw [arm_eval_DictComp]
  refine dcx_core hu calm nodup I walk ok targ tests keyp valp fold h fun Dl Ca sz m Hz Iz q hn f => ⟨m, hn, fun hh sb => ?_⟩
  obtain ⟨f0, f1, f2, f3, f4, f5⟩ := f
  exact ⟨.ref Dl, Hz, Iz.turned (t' := sz.toks) (fun b u hb eb => (sb.2 b hb).trans eb) f0 f1 f3 f4 f5, rfl, q⟩
end
end EV

set_option Elab.async false
set_option linter.all false
set_option autoImplicit false
set_option maxRecDepth 100000
set_option maxHeartbeats 4000000
namespace EV
open PySem PySem.Spec PyProof.Rows L2
/-- the pairs of a dict comprehension, put one after another -/
def compD (g : Gt) (tt : Tx) (tk tv : Ex) (e : Sl) : List D → List D → List D → Mem → Res (List D × List D)
  | [], ks, ws, M => .ok (ks, ws) M
  | d :: ds, ks, ws, M => match g d e M with
    | none => .bad
    | some e1 => match tt e1 M with
      | .ok true M1 => match tk e1 M1 with
        | .ok k M2 => match tv e1 M2 with
          | .ok v M3 => if kok ks k && nle (ks.length + 1) sizeLine then compD g tt tk tv e ds (dputK k ks) (dputV k v ks ws) M3 else .bad
          | _ => .bad
        | _ => .bad
      | .ok false M1 => compD g tt tk tv e ds ks ws M1
      | _ => .bad
def dcEnd (o : Bool) (b n : Nat) (fz : Option Nat) (r : Res (List D × List D)) : Res D :=
  match r with
  | .ok (ks, ws) M => if o then (match thawO fz ⟨b, M.c.set n (.dct false ks ws)⟩ with | some M1 => .ok (.obj n) M1 | none => .bad)
    else if Nat.beq M.c.length (n + 1) && (refsLtL n ks && refsLtL n ws) then (match thawO fz ⟨b, M.c.take n⟩ with | some M1 => .ok (.dct ks ws) M1 | none => .bad) else .bad
  | _ => .bad
def eDc (o : Bool) (vs : List Nat) (it : Ix) (g : Gt) (tt : Tx) (tk tv : Ex) : Ex := fun e M => match it e M with
  | .ok (ds, fz) M1 => dcEnd o M1.b M1.c.length fz (compD g tt tk tv (wipeD e vs) ds [] [] ⟨M1.c.length, M1.c ++ [.hid]⟩)
  | .exc c fs M1 => .exc c fs M1
  | .bad => .bad
section
variable {G : Kx} {asB : List Addr} {MB : Mem} {HB : Hp} {Dl : Addr} {n : Nat} {ks ws : List D}
/-- the dict so far stands at Dl, hidden -/
def AccD (G : Kx) (asB : List Addr) (MB : Mem) (HB : Hp) (Dl : Addr) (n : Nat) (ks ws : List D) (as : List Addr) (M : Mem) (H : Hp) : Prop :=
  asB[n]? = some Dl ∧ MB.c[n]? = some .hid ∧ ∃ φ kvs vvs, Stp asB MB (upd HB Dl (.ext φ)) as M H ∧ Rel G as M H ∧ H Dl = some (.ext φ) ∧ DictAt G H Dl ks kvs vvs ∧ RVs G as H kvs ks ∧ RVs G as H vvs ws
theorem AccD.rel {as M H} (A : AccD G asB MB HB Dl n ks ws as M H) : Rel G as M H := by obtain ⟨_, _, _, _, _, _, r, _⟩ := A; exact r
theorem AccD.at_ {as M H} (A : AccD G asB MB HB Dl n ks ws as M H) : as[n]? = some Dl := by obtain ⟨h, _, _, _, _, s, _⟩ := A; exact s.pre n _ h
theorem AccD.hid {as M H} (A : AccD G asB MB HB Dl n ks ws as M H) : M.c[n]? = some .hid := by obtain ⟨_, h2, _, _, _, s, _⟩ := A; exact s.hd n h2
theorem AccD.mono {as M H as' M' H'} (A : AccD G asB MB HB Dl n ks ws as M H) (s : Stp as M H as' M' H') (r : Rel G as' M' H') : AccD G asB MB HB Dl n ks ws as' M' H' := by
  have a1 := A.at_
  have a2 := A.hid
  obtain ⟨h, h2, φ, kvs, vvs, s0, r0, e, da, rk, rw_⟩ := A
  have e' := s.keep Dl _ e (frz_nwr r0.nd a1 a2 rfl)
  exact ⟨h, h2, φ, kvs, vvs, s0.trans s, r, e', da.at (e'.trans e.symm), rk.step r0 s, rw_.step r0 s⟩
theorem AccD.put {as M H φ kvs' vvs'} {ks' ws' : List D} (A : AccD G asB MB HB Dl n ks ws as M H) (hd : ∀ H', H' Dl = some (.ext φ) → DictAt G H' Dl ks' kvs' vvs') (rk : RVs G as H kvs' ks') (rw_ : RVs G as H vvs' ws') : AccD G asB MB HB Dl n ks' ws' as M (upd H Dl (.ext φ)) := by
  have a1 := A.at_
  have a2 := A.hid
  obtain ⟨h, h2, φ0, kvs, vvs, s0, r0, e, da, _, _⟩ := A
  refine ⟨h, h2, φ, kvs', vvs', s0.at, ?_, upd_same, hd _ upd_same, ?_, ?_⟩
  · exact r0.at a1 a2 e (fun _ z => nomatch z) (fun _ _ z => nomatch z) (fun _ z => nomatch z) (fun _ _ z => nomatch z)
  · exact rk.at (List.mem_of_getElem? a1) e (fun _ z => nomatch z) (fun _ _ z => nomatch z)
  · exact rw_.at (List.mem_of_getElem? a1) e (fun _ z => nomatch z) (fun _ _ z => nomatch z)
end
section
variable {X : Cx} {T : Tb} {W : WX} {pos : Pos} {tg iter ke ve : Expr} {ifs : List Expr} {scope : Scope} {own : List (Str × Nat)} {g : Gt} {it : Ix} {tt : Tx} {tk tv : Ex} {sl : List Nat}
theorem dc_end {o : Bool} {fz : Option Nat} {σ : L2.St} {as as1 as2 : List Addr} {M Mb M1 M2 : Mem} {H H1 H2 : Hp} {Q : VK} {Dl : Addr} {ks ws : List D} (hD : H1 Dl = none) (sb : Stp as M H as1 Mb H1) (lk : Lk as1 fz Mb M1) (r1 : Rel (gx X T) as1 M1 H1)
    (A : AccD (gx X T) (as1 ++ [Dl]) ⟨M1.c.length, M1.c ++ [.hid]⟩ H1 Dl M1.c.length ks ws as2 M2 H2) (h : PostE (gx X T) W σ as M H Q (dcEnd o M1.b M1.c.length fz (.ok (ks, ws) M2))) : Q (.ref Dl) H2 := by
  have atD := A.at_
  obtain ⟨_, _, φ, kvs, vvs, s2, r2, hDl, da, rk, rw_⟩ := A
  have nD : Dl ∉ as1 := r1.fresh hD
  unfold dcEnd at h
  simp only at h
  split at h
  · split at h
    · rename_i M4 hM
      obtain ⟨a1, a2⟩ := hid_open (c := .dct false ks ws) r1 hD s2 r2 ⟨kvs, vvs, da, rk, rw_⟩
      obtain ⟨b1, b2⟩ := thaw_ok (G := gx X T) lk.locked (lk.stp.trans a1) a2 hM
      exact h as2 H2 (.ref Dl) (sb.trans b1) b2 (.obj atD)
    · exact h.elim
  · split at h
    · rename_i hb
      simp only [Bool.and_eq_true] at hb
      split at h
      · rename_i M4 hM
        obtain ⟨a1, a2⟩ := hid_drop r1 hD s2 r2
        obtain ⟨b1, b2⟩ := thaw_ok (G := gx X T) lk.locked (lk.stp.trans a1) a2 hM
        have k1 := rk.shrink hb.2.1
        have k2 := rw_.shrink hb.2.2
        rw [hid_take r1 s2] at k1 k2
        exact h as1 H2 (.ref Dl) (sb.trans b1) b2 (.dct da nD k1 k2)
      · exact h.elim
    · exact h.elim
theorem dc_read (o : Bool) {vs : List Nat} (hsl : ∀ i ∈ sl, i ∈ vs) {σ : L2.St} {H : Hp} {Q : VK} (h : tE (gx X T) W (eDc o vs it g tt tk tv) σ H Q) : tDcx X T (tI (gx X T) W it) (tG (gx X T) sl g) (tT (gx X T) wF tt) (tE (gx X T) wF tk) (tE (gx X T) wF tv) vs σ H Q := by
  obtain ⟨as, M, e, r, q, h⟩ := h
  refine ⟨as, M, e, r, q, ?_⟩
  unfold eDc at h
  cases ht : it e M with
  | bad => rw [ht] at h; exact h
  | exc c fs M1 => rw [ht] at h; exact h
  | ok pr M1 =>
    obtain ⟨ds, fz⟩ := pr
    rw [ht] at h
    simp only at h
    cases hR : compD g tt tk tv (wipeD e vs) ds [] [] ⟨M1.c.length, M1.c ++ [.hid]⟩ with
    | bad => rw [hR] at h; exact h.elim
    | exc c fs M3 => rw [hR] at h; exact h.elim
    | ok tot Mz =>
      obtain ⟨kz, wz⟩ := tot
      rw [hR] at h
      intro as1 H1 J Mb sb lk r1 im Dl hD sys
      have s1 := sb.trans (lk.stp (H := H1))
      have q1 := q.step r s1
      have hst := hid_start (o := dictO X.w Dl 0 []) r1 hD (fun _ z => nomatch z) (fun _ _ z => nomatch z)
      have A0 : AccD (gx X T) (as1 ++ [Dl]) ⟨M1.c.length, M1.c ++ [.hid]⟩ H1 Dl M1.c.length [] [] (as1 ++ [Dl]) ⟨M1.c.length, M1.c ++ [.hid]⟩ (upd H1 Dl (dictO X.w Dl 0 [])) :=
        ⟨by rw [← r1.len, List.getElem?_append_right (Nat.le_refl _)]; simp, by show (M1.c ++ [Cell.hid])[M1.c.length]? = _; rw [List.getElem?_append_right (Nat.le_refl _)]; simp, _, [], [], Stp.refl, hst, upd_same, emp_dict (G := gx X T) sys upd_same, .nil, .nil⟩
      refine ⟨fun i m H2 => ∃ as2 M2 ks ws, m = ds.length - i ∧ i ≤ ds.length ∧ AccD (gx X T) (as1 ++ [Dl]) ⟨M1.c.length, M1.c ++ [.hid]⟩ H1 Dl M1.c.length ks ws as2 M2 H2 ∧ compD g tt tk tv (wipeD e vs) (ds.drop i) ks ws M2 = .ok (kz, wz) Mz,
        ⟨ds.length, as1 ++ [Dl], ⟨M1.c.length, M1.c ++ [.hid]⟩, [], [], rfl, Nat.zero_le _, A0, by simpa using hR⟩, ?_⟩
      rintro i m H2 ⟨as2, M2, ks, ws, rfl, hi, A2, hR2⟩
      have r2 := A2.rel
      obtain ⟨u2, hu2, ku1, ku2⟩ := r2.hidk A2.at_ A2.hid
      have sx : ∃ Mx, Stp as1 M1 H1 as2 Mx H2 ∧ Rel (gx X T) as2 Mx H2 := by
        obtain ⟨_, _, _, _, _, s2, _⟩ := id A2
        obtain ⟨a1, a2⟩ := hid_open (c := .hid) r1 hD s2 r2 ⟨u2, hu2, ku1, ku2⟩
        exact ⟨_, a1, a2⟩
      obtain ⟨Mx, sx, rx⟩ := sx
      by_cases hlt : i < ds.length
      · refine .inr ⟨im.go i as2 Mx H2 sx rx hlt, fun H5 => ∃ as5 M5 ks ws, AccD (gx X T) (as1 ++ [Dl]) ⟨M1.c.length, M1.c ++ [.hid]⟩ H1 Dl M1.c.length ks ws as5 M5 H5 ∧ compD g tt tk tv (wipeD e vs) (ds.drop (i + 1)) ks ws M5 = .ok (kz, wz) Mz, ?_, ?_⟩
        · rintro H5 ⟨as5, M5, ks5, ws5, a1, a2⟩
          exact ⟨ds.length - (i + 1), by omega, as5, M5, ks5, ws5, rfl, hlt, a1, a2⟩
        · intro x H3 hy
          obtain ⟨gy, rvx⟩ := im.yld i as2 Mx H2 x H3 ds[i] sx rx (List.getElem?_eq_getElem hlt) hy
          have sy := gy.stp (as := as2) (M := M2)
          have ry := gy.rel r2
          have A3 := A2.mono sy ry
          have qw : RSl (gx X T) as2 H3 (wipe σ vs) (wipeD e vs) := wipe_rsl ((q1.step r1 sx).step rx gy.stp) vs
          refine ⟨as2, M2, ds[i], wipeD e vs, ry, qw, rvx, ?_⟩
          rw [List.drop_eq_getElem_cons hlt] at hR2
          simp only [compD] at hR2
          cases hg : g ds[i] (wipeD e vs) M2 with
          | none => rw [hg] at hR2; cases hR2
          | some e1 =>
            rw [hg] at hR2
            intro σ' q' b'
            refine ⟨wipe_but b' hsl, as2, M2, e1, ry, q', ?_⟩
            simp only at hR2
            cases htt : tt e1 M2 with
            | bad => rw [htt] at hR2; cases hR2
            | exc c fs M3 => rw [htt] at hR2; cases hR2
            | ok b M3 =>
              rw [htt] at hR2
              intro as3 H4 s3 r3
              have A4 := A3.mono s3 r3
              cases b with
              | false =>
                rw [if_neg Bool.false_ne_true]
                exact ⟨as3, M3, ks, ws, A4, hR2⟩
              | true =>
                rw [if_pos rfl]
                refine ⟨as3, M3, e1, r3, q'.step ry s3, ?_⟩
                simp only at hR2
                cases hk : tk e1 M3 with
                | bad => rw [hk] at hR2; cases hR2
                | exc c fs M4 => rw [hk] at hR2; cases hR2
                | ok k M4 =>
                  rw [hk] at hR2
                  simp only at hR2
                  intro as4 H5 vk s4 r4 rk
                  have A5 := A4.mono s4 r4
                  refine ⟨as4, M4, e1, r4, (q'.step ry s3).step r3 s4, ?_⟩
                  cases hv : tv e1 M4 with
                  | bad => rw [hv] at hR2; cases hR2
                  | exc c fs M5 => rw [hv] at hR2; cases hR2
                  | ok v M5 =>
                    rw [hv] at hR2
                    simp only at hR2
                    intro as5 H6 vv s5 r5 rv
                    have A6 := A5.mono s5 r5
                    split at hR2
                    case isFalse => cases hR2
                    rename_i hok
                    simp only [Bool.and_eq_true, nle_iff] at hok
                    obtain ⟨_, _, φ, kvs, vvs, _, _, _, da, rks, rws⟩ := id A6
                    refine ⟨as5, ks, ws, kvs, vvs, k, v, da, rks, rws, hok.1, by omega, rk.step r4 s5, rv, fun o kvs' vvs' ho n3 n4 n5 => ?_⟩
                    obtain ⟨φ', rfl⟩ := ho
                    exact ⟨as5, M5, _, _, A6.put n3 n4 n5, hR2⟩
      · have e' : i = ds.length := by omega
        subst e'
        refine .inl ⟨im.stop _ as2 Mx H2 sx rx (Nat.le_refl _), ?_⟩
        rw [List.drop_length] at hR2
        simp only [compD, Res.ok.injEq, Prod.mk.injEq] at hR2
        obtain ⟨⟨rfl, rfl⟩, rfl⟩ := hR2
        exact dc_end hD sb lk r1 A2 h
theorem se_dc (o : Bool) (own : List (Str × Nat)) (hu : Rm X) (hc : X.calm = true) (hN : X.N.Nodup) (hi : SI X T W tg iter it)
    (hg : ∀ (s : Shared) (H : Hp) (C : Addr) (cl : List (Str × Addr)) (fp : List Addr), SG (X.blk s H scope (compEnvC scope cl C X.env) fp) T tg sl g)
    (ht : ∀ (s : Shared) (H : Hp) (C : Addr) (cl : List (Str × Addr)) (fp : List Addr), STs (X.blk s H scope (compEnvC scope cl C X.env) fp) T wF ifs tt)
    (hk : ∀ (s : Shared) (H : Hp) (C : Addr) (cl : List (Str × Addr)) (fp : List Addr), SE (X.blk s H scope (compEnvC scope cl C X.env) fp) T wF ke tk)
    (hv : ∀ (s : Shared) (H : Hp) (C : Addr) (cl : List (Str × Addr)) (fp : List Addr), SE (X.blk s H scope (compEnvC scope cl C X.env) fp) T wF ve tv)
    (ok : blkC X.N X.env.scope scope own = true := by rfl) (hsl : ∀ i ∈ sl, i ∈ own.map (·.2) := by decide) (hs : ∀ x, foldedSetIterable iter X.env x = pure x := by intro _; rfl) :
    SE X T W (.DictComp ke ve [⟨tg, iter, ifs, 0⟩] scope pos) (eDc o (own.map (·.2)) it g tt tk tv) :=
  (pe_dcx hu hc hN hi (blkOk_by ok) hg ht hk hv hs).weak fun σ H Q h => dc_read o hsl h
theorem ss_setDc (i : Nat) {y : Str} {py spos : Pos} (o : Bool) (own : List (Str × Nat)) (hu : Rm X) (hc : X.calm = true) (hN : X.N.Nodup) (hi : SI X T W tg iter it)
    (hg : ∀ (s : Shared) (H : Hp) (C : Addr) (cl : List (Str × Addr)) (fp : List Addr), SG (X.blk s H scope (compEnvC scope cl C X.env) fp) T tg sl g)
    (ht : ∀ (s : Shared) (H : Hp) (C : Addr) (cl : List (Str × Addr)) (fp : List Addr), STs (X.blk s H scope (compEnvC scope cl C X.env) fp) T wF ifs tt)
    (hk : ∀ (s : Shared) (H : Hp) (C : Addr) (cl : List (Str × Addr)) (fp : List Addr), SE (X.blk s H scope (compEnvC scope cl C X.env) fp) T wF ke tk)
    (hv : ∀ (s : Shared) (H : Hp) (C : Addr) (cl : List (Str × Addr)) (fp : List Addr), SE (X.blk s H scope (compEnvC scope cl C X.env) fp) T wF ve tv)
    (hy : X.N[i]? = some y := by rfl) (hyl : X.env.scope.names.lookup y = some .local := by rfl)
    (hsw : swapsWith (.DictComp ke ve [⟨tg, iter, ifs, 0⟩] scope pos) (some (.Name y py)) spos.line X.env = pure true := by rfl)
    (ok : blkC X.N X.env.scope scope own = true := by rfl) (hsl : ∀ i ∈ sl, i ∈ own.map (·.2) := by decide) (hs : ∀ x, foldedSetIterable iter X.env x = pure x := by intro _; rfl) :
    SS X T W (.Assign [.Name y py] (.DictComp ke ve [⟨tg, iter, ifs, 0⟩] scope pos) spos) (sSet i (eDc o (own.map (·.2)) it g tt tk tv)) := by
  refine ⟨fun pins s σ H D' I ⟨as, M, e, r, q, h⟩ => ?_⟩
  rw [exec_Assign_Name_used _ _ _ _ hsw]
  refine wpAny_bind (wpAny_standAt (wpAny_bind ?_))
  show wpAny _ X.A (do let _ ← comprehension (.DictComp ke ve [⟨tg, iter, ifs, 0⟩] scope pos) scope X.env (firstIterPos [⟨tg, iter, ifs, 0⟩] pos) newDict false (eval iter X.env) (some (assign (.Name y py) X.env))) _ _ s
  have h : tDcx X T (tI (gx X T) W it) (tG (gx X T) sl g) (tT (gx X T) wF tt) (tE (gx X T) wF tk) (tE (gx X T) wF tv) (own.map (·.2)) σ H (fun x H1 => gName i x σ H1 D'.nx) :=
    dc_read o hsl (bindES r q h fun d v as1 M1 H1 r1 q1 s1 rv h1 => h1 as1 H1 _ Stp.refl r1 (q1.set i rv))
  refine wpAny_bind (thn (dcx_core (Qf := fun _ sz => SP X pins D' .next sz) hu hc hN I hi (blkOk_by ok) hg ht hk hv hs h fun Dl Ca sz m Hz Iz qz hn f => ?_) fun _ sz hq => wpAny_pure (wpAny_pure hq))
  show wpAny _ _ (assign (.Name y py) X.env (.ref Dl)) _ _ _
  refine wpAny_assign_Name (store_ok2 (v := V.ref Dl) Iz hN hy (.inl hyl) rfl (fun s2 I2 ⟨a, sb, ha⟩ => ?_) (.inr hyl))
  obtain ⟨f0, f1, f2, f3, f4, f5⟩ := f
  have apart : Ca ≠ a := ha.elim (fun z => by rw [z]; exact f1) fun z => fun e => f4 y a z e.symm
  refine ⟨m, hn.sameBut sb apart, fun h3 sb3 => ?_⟩
  exact ⟨_, Hz, I2.turned (t' := s2.toks) (fun b u hb eb => (sb3.2 b hb).trans eb) f0 f1 f3 f4 f5, qz⟩
end
end EV

set_option Elab.async false
set_option linter.all false
set_option autoImplicit false
set_option maxRecDepth 100000
set_option maxHeartbeats 4000000
namespace EV
open PySem PySem.Spec PyProof.Rows L2
/-! ### products, no tuple's -/
def dMulI (x y : D) (M : Mem) : Res D :=
  match x, y with
  | .int i, .int j => if mulOk i j then .ok (.int (i * j)) M else .bad
  | x, .int k => match asL M x with
    | some xs => if decide (-(2 ^ 63) ≤ k) && decide (k < 2 ^ 63) && nle (xs.length * k.toNat) sizeLine then .ok (.lst (repL k.toNat xs)) M else .bad
    | _ => .bad
  | _, _ => .bad
section
variable {X : Cx} {T : Tb} {W : WX}
theorem op_dMulI : OpD X T (binaryOp .Mult) dMulI := by
  intro pins s σ H as M x y v w u z Q W σ₀ I r rx ry ru rz h
  unfold dMulI at h
  split at h
  · split at h
    · rename_i hc
      cases rx; cases ry
      refine op_mul pins s σ H _ _ u z Q I ru rz ⟨_, _, rfl, rfl, ?_, h.fin r (.int _)⟩
      simpa [mulOk, CMul] using hc
    · exact h.elim
  · split at h
    · rename_i xs e1
      split at h
      · rename_i hc
        simp only [Bool.and_eq_true, decide_eq_true_eq, nle_iff] at hc
        obtain ⟨a, vs, rfl, g1, g2⟩ := asL_ok r rx e1
        cases ry
        exact op_rep pins s σ H _ _ u z Q I ru rz ⟨a, _, vs, rfl, rfl, g1, hc.1.1, hc.1.2, by rw [g2.len]; exact hc.2, h.newL r (g2.rep _)⟩
      · exact h.elim
    · exact h.elim
  · exact h.elim
theorem takes_no : Takes X wF := fun u s' ⟨a, B, sI, pins, σ, H, cls, d, e, I, nb, up, sky, na, os, ag, w⟩ => w.elim
theorem rm_of {k : Nat} (r : Room k X.A) : Rm X := by
  have := r.un
  unfold Rm
  omega
end
/-! ### defs by name -/
/-- the module's name x stands for a def that keeps the promise den, with n arguments, where k rooms are left -/
def Cal (P : Program) (w : World) (K : PySem.W.Frag) (mg : Str → Option Value) (base : Heap) (T : Tb) (x : Str) (k n : Nat) (den : Fn) : Prop :=
  ∃ f fd ps, FnOk P w K mg base (L2.CX P w) k f fd ps (spF ⟨K, w, P, T⟩ ps.length den) ∧ mg x = some (.ref f) ∧ PySem.W.keepIn K (.ref f) = true ∧ Binds K fd ps [] ∧ ps.length = n
section
variable {P : Program} {w : World} {K : PySem.W.Frag} {mg : Str → Option Value} {base : Heap} {T : Tb}
/-- a def of the text: where it stands -/
structure Dd (K : PySem.W.Frag) (mg : Str → Option Value) (x : Str) (st : Stmt) (ps : List Str) : Prop where
  ex : ∃ f fd, FunD K x x (defArgs st) (defBody st) (defScope st) [] [] f fd ∧ mg x = some (.ref f) ∧ Binds K fd ps []
theorem cal_of {x : Str} {st : Stmt} {N ps : List Str} {k n : Nat} (tr : Bool) {body : Sx} (dd : Dd K mg x st ps) (S : FnScope N ps (defScope st)) (hn : ps.length = n)
    (hb : ∀ (f : Addr) (cdv : Value) (A : Around) (outer : List Env) (s : Shared) (H : Hp) (E : XK), Room k (A.deeper (envOfC x (defScope st) s.heap.objs.size f cdv)) →
      SB (cxOf (L2.CX P w) P w K mg base N x (defScope st) f cdv A outer s H E) T (fun cls d _ H' => E cls d H') (defBody st) body) :
    Cal P w K mg base T x (k + 1) n (mkFn N.length tr body) := by
  obtain ⟨f, fd, F, hm, hbd⟩ := dd.ex
  refine ⟨f, fd, ps, FunD.ok F S (fun vs H Q E h => h.1) fun cdv A outer s H vs Q E hr h => ⟨_, hb f cdv A outer s H E hr, ?_⟩, hm, F.kp, hbd, hn⟩
  obtain ⟨hl, as, M, ds, r, rvs, hp⟩ := h
  exact ⟨as, entM tr M, _, ent_rel tr r, start_rsl rvs, fin_post r hp⟩
def fnBad : Fn := fun _ _ => .bad
theorem cal_bad {x : Str} {st : Stmt} {ps : List Str} {k n : Nat} (dd : Dd K mg x st ps) (hn : ps.length = n) : Cal P w K mg base T x k n fnBad := by
  obtain ⟨f, fd, F, hm, hbd⟩ := dd.ex
  refine ⟨f, fd, ps, ⟨fun vs H Q E h => h.1, fun A outer s H args us vs Q E hr e0 hb r hsp => ?_⟩, hm, F.kp, hbd, hn⟩
  obtain ⟨_, as, M, ds, _, _, hp⟩ := hsp
  exact hp.elim
end
section
variable {X : Cx} {T : Tb} {W : WX} {k n m : Nat} {x : Str} {p pos : Pos} {e : Expr} {es : List Expr} {t : Ax} {den : Fn}
theorem se_cal (C : Cal X.prog X.w X.K X.mg X.base T x k n den) (hr : Room m X.A) (hkm : k ≤ m) (tk : Takes X W) (ha : SA X T W (e :: es) t) (hn : ALen n t)
    (hg : Gl X x := by rfl) (hdb : (x == ("__debug__" : Str)) = false := by decide) (he : starEach (e :: es) X.env = (false, eval e X.env) :: starEach es X.env := by rfl) (hpl : (backTo pos (starEach es X.env)).any (·.1) = false := by rfl) :
    SE X T W (.Call (.Name x p) (e :: es) [] pos) (eCall den t) := by
  obtain ⟨f, fd, ps, F, hm, hk, hb, rfl⟩ := C
  exact se_call F (hr.mono hkm) hm hk hb tk ha hn hg hdb he hpl
end
/-! ### constants of the module -/
/-- the value u stands for d wherever the written part K lies -/
def repB (K : PySem.W.Frag) : Nat → Value → D → Bool
  | _, .none, .non => true
  | _, .bool a, .bl b => a == b
  | _, .int i _, .int j => decide (i = j)
  | _, .str a _, .str b => decide (a = b) && PyData.strOk b
  | n + 1, .ref a, .tup ds => match K.lookup a with
    | some ⟨.type c, _, .seq its _, _⟩ => decide (c = "tuple") && (decide (its.size ≤ sizeLine) && (decide (its.size = ds.length) && (its.toList.zip ds).all fun p => repB K n p.1 p.2))
    | _ => false
  | _, _, _ => false
/-- K says of the module's name x: d -/
def conB (K : PySem.W.Frag) (x : Str) (d : D) : Bool := match PySem.W.nsIn K mainGlobals x with
  | some (some u) => repB K 8 u d
  | _ => false
theorem repB_ok {w : World} {P : Program} {T : Tb} {K : PySem.W.Frag} : ∀ (n : Nat) {u : Value} {d : D}, repB K n u d = true → ∃ v, RelV v u ∧ ∀ as H, RV ⟨K, w, P, T⟩ as H v d := by
  intro n
  induction n with
  | zero =>
    intro u d h
    cases u <;> cases d <;> simp [repB] at h
    · exact ⟨.non, rfl, fun _ _ => .non⟩
    · subst h; exact ⟨.bl _, rfl, fun _ _ => .bl _⟩
    · subst h; exact ⟨.int _, ⟨_, rfl⟩, fun _ _ => .int _⟩
    · obtain ⟨h, hs⟩ := h; subst h; exact ⟨.str _, ⟨_, rfl⟩, fun _ _ => .str _ hs⟩
  | succ n ih =>
    intro u d h
    cases u with
    | ref a =>
      cases d with
      | tup ds =>
        simp only [repB] at h
        split at h
        · rename_i c dd its m sl hl
          simp only [Bool.and_eq_true, decide_eq_true_eq] at h
          obtain ⟨h1, h2, h3, h4⟩ := h
          have key : ∀ (us : List Value) (ds : List D), us.length = ds.length → (us.zip ds).all (fun p => repB K n p.1 p.2) = true → ∃ vs, Vals vs us ∧ ∀ as H, RVs (⟨K, w, P, T⟩ : Kx) as H vs ds := by
            intro us
            induction us with
            | nil => intro ds hl _; cases ds with
              | nil => exact ⟨[], .nil, fun _ _ => .nil⟩
              | cons _ _ => simp at hl
            | cons u us ihu =>
              intro ds hl ha
              cases ds with
              | nil => simp at hl
              | cons d ds =>
                simp only [List.zip_cons_cons, List.all_cons, Bool.and_eq_true] at ha
                obtain ⟨v, r1, r2⟩ := ih ha.1
                obtain ⟨vs, r3, r4⟩ := ihu ds (by simpa using hl) ha.2
                exact ⟨v :: vs, .cons r1 r3, fun as H => .cons (r2 as H) (r4 as H)⟩
          obtain ⟨vs, r1, r2⟩ := key its.toList ds (by simpa using h3) h4
          exact ⟨.ref a, rfl, fun as H => .tup (.inr ⟨_, its, m, hl, by rw [h1], rfl, h2, r1⟩) (r2 as H)⟩
        · cases h
      | _ => simp [repB] at h
    | _ =>
      cases d <;> simp [repB] at h
      all_goals first
        | exact ⟨.non, rfl, fun _ _ => .non⟩
        | (subst h; exact ⟨.bl _, rfl, fun _ _ => .bl _⟩)
        | (subst h; exact ⟨.int _, ⟨_, rfl⟩, fun _ _ => .int _⟩)
        | (obtain ⟨h, hs⟩ := h; subst h; exact ⟨.str _, ⟨_, rfl⟩, fun _ _ => .str _ hs⟩)
/-- the module's name x holds the constant d -/
def Con (G : Kx) (mg : Str → Option Value) (x : Str) (d : D) : Prop := ∃ v u, mg x = some u ∧ RelV v u ∧ ∀ as H, RV G as H v d
theorem conB_ok {w : World} {P : Program} {T : Tb} {K : PySem.W.Frag} {h : Heap} {mg : Str → Option Value} (X : K.In h) (G : h.Ns mainGlobals mg) {x : Str} {d : D} (c : conB K x d = true) : Con ⟨K, w, P, T⟩ mg x d := by
  unfold conB at c
  split at c
  · rename_i u e
    obtain ⟨v, r1, r2⟩ := repB_ok (w := w) (P := P) (T := T) 8 c
    exact ⟨v, u, PySem.W.mg_of X G e, r1, r2⟩
  · cases c
theorem se_con {X : Cx} {T : Tb} {W : WX} {x : Str} {d : D} {pos : Pos} (c : Con (gx X T) X.mg x d) (hg : Gl X x := by rfl) (hdb : (x == ("__debug__" : Str)) = false := by decide) : SE X T W (.Name x pos) (eC d) := by
  obtain ⟨v, u, hm, r, hv⟩ := c
  exact se_glob hg hm r hv hdb
/-! ### the head's facts, with constants -/
abbrev ConL := List (Str × D)
def obsE (xt : ConL) (fa : List He.Fa) (fn : List He.DefD) (K : PySem.W.Frag) : He.AlD := ((xt.all fun c => conB K c.1 c.2) && (He.obsD fa fn K).1, (He.obsD fa fn K).2)
/-- not an empty table of code objects -/
def noTab (p : Addr × Obj) : Bool := match p.2.cls, p.2.data with
  | .none, .fields vs => Nat.blt 0 vs.size
  | _, _ => true
def frE (g : Addr → Option Obj) (as : List Addr) : PySem.W.Frag := (He.frG g as).filter noTab
theorem frG_all {g : Addr → Option Obj} : ∀ {as : List Addr} {p : Addr × Obj}, p ∈ He.frG g as → g p.1 = some p.2
  | as, p, h => by
    unfold He.frG at h
    obtain ⟨a, ha, e⟩ := List.mem_filterMap.mp h
    cases hg : g a with
    | none => rw [hg] at e; cases e
    | some o => rw [hg] at e; cases e; exact hg
theorem lookup_mem {a : Addr} {o : Obj} : ∀ {l : List (Addr × Obj)}, l.lookup a = some o → (a, o) ∈ l
  | (b, u) :: r, e => by
    rw [List.lookup_cons] at e
    split at e
    · rename_i q
      cases e
      have q := eq_of_beq q
      simp [q]
    · exact List.mem_cons_of_mem _ (lookup_mem e)
theorem frE_in {as : List Addr} {h : Heap} : (frE h.get? as).In h := fun a o e => by
  have m : (a, o) ∈ (He.frG h.get? as).filter noTab := lookup_mem e
  exact frG_all (p := (a, o)) (List.mem_filter.mp m).1
/-- the code object of the def x, its table -/
def tabOf (K : PySem.W.Frag) (x : Str) : Addr × Addr := match K.lookup (He.ga K x) with
  | some ⟨_, _, .func fd, _⟩ => (match fd.code with
    | .ref c => (match K.lookup c with
      | some ⟨_, _, .fields vs, _⟩ => (match (vs : Array Value)[11]? with
        | some (Value.ref p) => (c, p)
        | _ => (0, 0))
      | _ => (0, 0))
    | _ => (0, 0))
  | _ => (0, 0)
def isTab0 : Option Obj → Bool
  | some ⟨.none, none, .fields vs, sl⟩ => Nat.beq vs.size 0 && Nat.beq sl.size 0
  | _ => false
def codeOk (o : Obj) (p : Addr) : Bool := match o with
  | ⟨.type t, _, .fields vs, _⟩ => decide (t = "code") && (match (vs : Array Value)[11]?, vs.getD 11 .none, vs.getD 18 .none with
    | some (Value.ref q), .ref r, .str _ _ => Nat.beq q p && Nat.beq r p && (match vs.getD 7 .none, vs.getD 9 .none, vs.getD 10 .none with
      | .int _ _, .bool _, .int _ _ => true
      | _, _, _ => false)
    | _, _, _ => false)
  | _ => false
def codeAt? (K : PySem.W.Frag) (x : Str) : Bool := match K.lookup (He.ga K x) with
  | some ⟨_, _, .func fd, _⟩ => (match fd.code with
    | .ref c => Nat.beq c (tabOf K x).1
    | _ => false)
  | _ => false
def tabB (K : PySem.W.Frag) (g : Addr → Option Obj) (x : Str) : Bool :=
  codeAt? K x && (match g (tabOf K x).1 with | some o => codeOk o (tabOf K x).2 | none => false) && isTab0 (g (tabOf K x).2) && (K.lookup (tabOf K x).2).isNone && !Nat.beq (tabOf K x).1 (tabOf K x).2
structure TabH (K : PySem.W.Frag) (h : Heap) (x : Str) : Prop where
  ex : ∃ oc od fd osl, K.lookup (He.ga K x) = some ⟨oc, od, .func fd, osl⟩ ∧ fd.code = .ref (tabOf K x).1
  code : PySem.W.CodeHd h (tabOf K x).1 (tabOf K x).2
  tab : h.get? (tabOf K x).2 = some { cls := .none, data := .fields #[] }
  out : K.lookup (tabOf K x).2 = none
theorem TabH.keeps {K : PySem.W.Frag} {h h' : Heap} {x : Str} (t : TabH K h x) (k : ∀ b o, h.get? b = some o → h'.get? b = some o) : TabH K h' x := ⟨t.ex, t.code.keeps k, k _ _ t.tab, t.out⟩
theorem isTab0_ok {o : Option Obj} (h : isTab0 o = true) : o = some { cls := .none, data := .fields #[] } := by
  unfold isTab0 at h
  split at h
  · rename_i vs sl
    rw [Bool.and_eq_true] at h
    have h1 : vs = #[] := Array.eq_empty_of_size_eq_zero (Nat.eq_of_beq_eq_true h.1)
    have h2 : sl = #[] := Array.eq_empty_of_size_eq_zero (Nat.eq_of_beq_eq_true h.2)
    subst h1 h2
    rfl
  · cases h
theorem tabB_ok {K : PySem.W.Frag} {h : Heap} {x : Str} (t : tabB K h.get? x = true) : TabH K h x := by
  unfold tabB at t
  simp only [Bool.and_eq_true] at t
  obtain ⟨⟨⟨⟨t1, t2⟩, t3⟩, t4⟩, t5⟩ := t
  have ne : (tabOf K x).1 ≠ (tabOf K x).2 := fun z => by
    rw [z] at t5
    simp at t5
  refine ⟨?_, ?_, isTab0_ok t3, Option.isNone_iff_eq_none.mp t4⟩
  · unfold codeAt? at t1
    split at t1
    · rename_i oc od fd osl e
      split at t1
      · rename_i c hc
        exact ⟨_, _, fd, _, e, by rw [hc, Nat.eq_of_beq_eq_true t1]⟩
      · cases t1
    · cases t1
  · split at t2
    · rename_i o ho
      unfold codeOk at t2
      split at t2
      · rename_i t dd vs sl
        rw [Bool.and_eq_true] at t2
        obtain ⟨u1, u2⟩ := t2
        split at u2
        · rename_i q r st tk e1 e2 e3
          simp only [Bool.and_eq_true] at u2
          obtain ⟨⟨v1, v2⟩, v3⟩ := u2
          split at v3
          · rename_i a b c d f e4 e5 e6
            refine ⟨_, vs, _, _, _, _, _, _, _, ho, congrArg Value.type (of_decide_eq_true u1), rfl, ?_, ?_, e3, e4, e5, e6, ne⟩
            · rw [← Nat.eq_of_beq_eq_true v1]; exact e1
            · rw [← Nat.eq_of_beq_eq_true v2]; exact e2
          · cases v3
        · cases u2
      · cases t2
    · cases t2
def obsEG (n : Nat) (gd : List Str) (xt : ConL) (fa : List He.Fa) (fn : List He.DefD) (g : Addr → Option Obj) : He.AlD × Bool := (obsE xt fa fn (frE g (He.asD g n)), gd.all fun x => tabB (frE g (He.asD g n)) g x)
def hookE (n : Nat) (gd : List Str) (xt : ConL) (fa : List He.Fa) (fn : List He.DefD) : PySem.W.Hook where
  α := He.AlD × Bool
  obs := fun s => obsEG n gd xt fa fn s.heap.get?
  val := fun _ => (He.valD fn, true)
  says := fun _ h => ∃ K : PySem.W.Frag, K.In h ∧ obsE xt fa fn K = He.valD fn ∧ ∀ x ∈ gd, TabH K h x
  of := fun _ s e => ⟨_, frE_in, congrArg Prod.fst e, fun x hx => tabB_ok (List.all_eq_true.mp (show (gd.all fun x => tabB (frE s.heap.get? (He.asD s.heap.get? n)) s.heap.get? x) = true from congrArg Prod.snd e) x hx)⟩
  keeps := fun _ _ _ ⟨K, hK, c, t⟩ k => ⟨K, PySem.W.Frag.In.keeps hK k, c, fun x hx => (t x hx).keeps k⟩
theorem obsEG_eq {n : Nat} {gd : List Str} {xt : ConL} {fa : List He.Fa} {fn : List He.DefD} {g : Addr → Option Obj} {s : Shared} (h : ∀ a, g a = s.heap.get? a) : obsEG n gd xt fa fn g = (hookE n gd xt fa fn).obs s := by
  have e : g = s.heap.get? := funext h
  rw [e] <;> rfl
theorem says_e {xt : ConL} {fa : List He.Fa} {fn : List He.DefD} {K : PySem.W.Frag} (c : obsE xt fa fn K = He.valD fn) : (∀ x d, (x, d) ∈ xt → conB K x d = true) ∧ He.SaysD fa fn K := by
  have h1 : ((xt.all fun c => conB K c.1 c.2) && (He.obsD fa fn K).1) = true := congrArg (fun z : He.AlD => z.1) c
  have h0 : (obsE xt fa fn K).2 = (He.valD fn).2 := congrArg (fun z : He.AlD => z.2) c
  have h2 : (He.obsD fa fn K).2 = (He.valD fn).2 := h0
  rw [Bool.and_eq_true] at h1
  refine ⟨fun x d hm => List.all_eq_true.mp h1.1 (x, d) hm, ?_⟩
  show He.obsD fa fn K = He.valD fn
  have e1 : (He.obsD fa fn K).1 = (He.valD fn).1 := h1.2
  exact Prod.ext e1 h2
/-! ### a law's end -/
theorem walk_den {l : PySem.W.OpenLaw} {n k : Nat} {q : Program} {loose : List Str} {XP : (Str → Option Value) → Heap → Prop} {YP : World → Heap → Prop} {d : DefRec} {x : Str} {den : Fn} {T : PySem.W.Frag → Tb} {gd : List Str}
    (hn : l.most = some n) (hn2 : n ≤ sizeLine) (hdf : d.params.defaults = []) (hr : Room k callerA)
    (F : ∀ (w : World) (mg : Str → Option Value) (fa : Addr) (h : Heap), YP w h → h.Ns mainGlobals mg → mg d.name = some (.ref fa) →
      ∃ (K : PySem.W.Frag) (fd : FuncData), K.In h ∧ (∀ (s : Shared) (u : Value), BindsTo s fd ⟨[u], []⟩ [(x, u)]) ∧ (T K).tabs = gd.map (fun y => (tabOf K y).2) ∧ (∀ y ∈ gd, TabH K h y) ∧
        ∀ base : Heap, K.In base → base.Ns mainGlobals mg → (∀ y ∈ gd, LamX.TabB base mg (tabOf K y).1 (tabOf K y).2) → FnOk l.prog w K mg base (L2.CX l.prog w) k fa fd [x] (spF ⟨K, w, l.prog, T K⟩ 1 den))
    (hden : ∀ ns : List Int, ns.length ≤ n → ∃ M, den [.fz ns] ⟨0, []⟩ = .ok (.bl true) M) :
    PySem.W.WalkO q loose XP YP l.row.toRowW d [] (fun f vs => PySem.call f vs) := by
  refine Att.attach_call hn hdf fun w s₀ s₁ mg mb fa o pm cd doc a vs ns G Y ho hd hcd hmg hobj hints hlen hg => ?_
  obtain ⟨K, fd, KX, hb, hT, hTab, hF⟩ := F w mg fa _ Y G.T.g hmg
  have mem : ∀ p ∈ gd.map (tabOf K), ∃ y ∈ gd, p = tabOf K y := fun p hp => by
    obtain ⟨y, hy, e⟩ := List.mem_map.mp hp
    exact ⟨y, hy, e.symm⟩
  refine LamX.law_callTs (cs := gd.map (tabOf K)) KX G.T.g G.T.b G.T.builtins G.T.nolimit hg (fun p hp => ?_) (fun p hp => ?_) (fun p hp => ?_) G.T.bmain hobj hints (Nat.le_trans hlen hn2) hr
    (fun base h1 h2 h3 => hF base h1 h2 fun y hy => h3 _ (List.mem_map.mpr ⟨y, hy, rfl⟩)) hb (fun H hO hS => ?_) fun H e s' hc => ?_
  · obtain ⟨y, hy, rfl⟩ := mem p hp; exact (hTab y hy).tab
  · obtain ⟨y, hy, rfl⟩ := mem p hp; exact (hTab y hy).out
  · obtain ⟨y, hy, rfl⟩ := mem p hp; exact (hTab y hy).code
  · obtain ⟨M, hM⟩ := hden ns hlen
    refine ⟨rfl, [], ⟨0, []⟩, [.fz ns], ⟨rfl, List.nodup_nil, Nat.le_refl _, fun k a c e1 e2 => by simp at e1, fun p hp => ⟨?_, by simp⟩⟩, .cons (.fz ?_) .nil, ?_⟩
    · have hp' : p ∈ (T K).tabs := hp
      rw [hT] at hp'
      obtain ⟨y, hy, e⟩ := List.mem_map.mp hp'
      exact ⟨#[], by rw [← e]; exact hO _ (List.mem_map.mpr ⟨y, hy, rfl⟩), trivial⟩
    · rcases hS with hS | hS
      · exact .inl ⟨hS, by simp⟩
      · exact .inr hS
    · rw [hM]
      intro as' H' v st rl rv
      cases rv
      rfl
  · obtain ⟨_, _, _, _, _, _, _, _, _, _, _, _, hE⟩ := hc
    exact hE
end EV

set_option Elab.async false
set_option linter.all false
set_option autoImplicit false
set_option maxRecDepth 100000
set_option maxHeartbeats 4000000
namespace EV
open PySem PySem.Spec PyProof.Rows L2
section
variable {P : Program} {w : World} {K : PySem.W.Frag} {mg : Str → Option Value} {base : Heap} {T : Tb}
theorem cal_by {x : Str} {st : Stmt} {N ps : List Str} {k n : Nat} (tr : Bool) {body : Sx} (dd : Dd K mg x st ps) (S : FnScope N ps (defScope st)) (hn : ps.length = n)
    (hb : ∀ (f : Addr) (cdv : Value) (A : Around) (outer : List Env) (s : Shared) (H : Hp) (E : XK), Room k (cxOf (L2.CX P w) P w K mg base N x (defScope st) f cdv A outer s H E).A → N.Nodup → Rm (cxOf (L2.CX P w) P w K mg base N x (defScope st) f cdv A outer s H E) →
      Takes (cxOf (L2.CX P w) P w K mg base N x (defScope st) f cdv A outer s H E) (fun cls d _ H' => E cls d H') →
      PassesOwn (model P w) (cxOf (L2.CX P w) P w K mg base N x (defScope st) f cdv A outer s H E).A (cxOf (L2.CX P w) P w K mg base N x (defScope st) f cdv A outer s H E).env (cxOf (L2.CX P w) P w K mg base N x (defScope st) f cdv A outer s H E).xe →
      SB (cxOf (L2.CX P w) P w K mg base N x (defScope st) f cdv A outer s H E) T (fun cls d _ H' => E cls d H') (defBody st) body) :
    Cal P w K mg base T x (k + 1) n (mkFn N.length tr body) :=
  cal_of tr dd S hn fun f cdv A outer s H E hr => hb f cdv A outer s H E hr S.nd (rm_of (X := cxOf (L2.CX P w) P w K mg base N x (defScope st) f cdv A outer s H E) hr)
    (takes_of (X := cxOf (L2.CX P w) P w K mg base N x (defScope st) f cdv A outer s H E) rfl rfl rfl rfl) (passes_of (X := cxOf (L2.CX P w) P w K mg base N x (defScope st) f cdv A outer s H E) rfl)
theorem Cal.le {x : Str} {k k' n : Nat} {den : Fn} (h : k ≤ k') (c : Cal P w K mg base T x k n den) : Cal P w K mg base T x k' n den := by
  obtain ⟨f, fd, ps, F, r⟩ := c
  exact ⟨f, fd, ps, ⟨F.len, fun A outer s H args us vs Q E hr e0 hb rv hsp => F.run A outer s H args us vs Q E (hr.mono h) e0 hb rv hsp⟩, r⟩
end
end EV

set_option Elab.async false
set_option linter.all false
set_option autoImplicit false
set_option maxRecDepth 100000
set_option maxHeartbeats 4000000
namespace EV
open PySem PySem.Spec PyProof.Rows L2
def tII : Ty := .p .i (.p .i .e)
def tys0 : List Ty := [.i, tII, .l tII, .l (.l tII), .s]
def tb0 : Tb := ⟨fun _ => 0, fun _ => [], fun _ => 0, fun _ => [], []⟩
def tbT (gd : List Str) (K : PySem.W.Frag) : Tb := ⟨fun _ => 0, fun _ => [], fun _ => 0, fun _ => [], gd.map fun y => (tabOf K y).2⟩
def M0 : Mem := ⟨0, []⟩
def isTrue (r : Res D) : Bool := match r with
  | .ok (.bl true) _ => true
  | _ => false
end EV

set_option Elab.async false
set_option linter.all false
set_option autoImplicit false
set_option maxRecDepth 100000
set_option maxHeartbeats 4000000
namespace EV
open PySem PySem.Spec PyProof.Rows L2
/-! ### x op= e for ints -/
section
variable {X : Cx} {T : Tb}
def dAddI (x y : D) (M : Mem) : Res D :=
  match x, y with
  | .int i, .int j => .ok (.int (i + j)) M
  | _, _ => .bad
def dMulJ (x y : D) (M : Mem) : Res D :=
  match x, y with
  | .int i, .int j => if mulOk i j then .ok (.int (i * j)) M else .bad
  | _, _ => .bad
theorem ip_dAdd : OpD X T (inplaceOp .Add) dAddI := by
  intro pins s σ H as M x y v w u z Q W σ₀ I r rx ry ru rz h
  unfold dAddI at h
  split at h
  · cases rx; cases ry
    exact iop_add pins s σ H _ _ u z Q I ru rz ⟨_, _, rfl, rfl, h.fin r (.int _)⟩
  · exact h.elim
theorem ip_dSub : OpD X T (inplaceOp .Sub) dSub := by
  intro pins s σ H as M x y v w u z Q W σ₀ I r rx ry ru rz h
  unfold dSub at h
  split at h
  · cases rx; cases ry
    exact iop_sub pins s σ H _ _ u z Q I ru rz ⟨_, _, rfl, rfl, h.fin r (.int _)⟩
  · exact h.elim
theorem ip_dDiv : OpD X T (inplaceOp .FloorDiv) dDiv := by
  intro pins s σ H as M x y v w u z Q W σ₀ I r rx ry ru rz h
  unfold dDiv at h
  split at h
  · split at h
    · rename_i hc
      cases rx; cases ry
      simp only [Bool.and_eq_true, decide_eq_true_eq] at hc
      exact iop_fdiv pins s σ H _ _ u z Q I ru rz ⟨_, _, rfl, rfl, hc, h.fin r (.int _)⟩
    · exact h.elim
  · exact h.elim
theorem ip_dMul : OpD X T (inplaceOp .Mult) dMulJ := by
  intro pins s σ H as M x y v w u z Q W σ₀ I r rx ry ru rz h
  unfold dMulJ at h
  split at h
  · split at h
    · rename_i hc
      cases rx; cases ry
      refine iop_mul pins s σ H _ _ u z Q I ru rz ⟨_, _, rfl, rfl, ?_, h.fin r (.int _)⟩
      simpa [mulOk, CMul] using hc
    · exact h.elim
  · exact h.elim
end
end EV

set_option Elab.async false
set_option linter.all false
set_option autoImplicit false
set_option maxRecDepth 100000
set_option maxHeartbeats 4000000
namespace EV
open PySem PySem.Spec PyProof.Rows L2
/-! ### enumerate(tuple) -/
set_option maxHeartbeats 4000000 in
theorem meets_enumT {v : Value} {o : Obj} {Hh : Heap → Prop} (B : Begins v o Hh) :
    Meets (Builtin.«enumerate.__new__» ⟨[.type "enumerate", v], []⟩) (fun _ R s => Hh s.heap ∧
      R (.ok (.ret (.ref (s.heap.push o).objs.size))) { s with heap := (s.heap.push o).push { cls := .type "enumerate", data := .fields #[.none, .bool false, .ref s.heap.objs.size, rawInt 0, .none, .none] } }) :=
  .of_wp fun prog w A R s hh => by
    obtain ⟨hp, g, d, tk, os⟩ := s; obtain ⟨y1, y2⟩ := hh
    have hsub := sub_enumerate
    have q1 : ∀ {A' : Around} {E : Value → Shared → Prop} {Q : Value → Shared → Prop}, Q (.ref hp.objs.size) ⟨hp.push o, g, d, tk, os⟩ → wpAny (model prog w) A' (pyIter v) Q E ⟨hp, g, d, tk, os⟩ :=
      fun q => B.iter prog w _ _ ⟨hp, g, d, tk, os⟩ _ y1 q
    wp_walk using q1
    refine wpAny_stack_any fun st => wpAny_pure ?_
    split
    · rename_i c _ _ _ _ _
      cases (c == Value.type "enumerate")
      · wp_walk using q1
        exact ⟨_, rfl, y2⟩
      · wp_walk using q1
        exact ⟨_, rfl, y2⟩
    · wp_walk using q1
      exact ⟨_, rfl, y2⟩
theorem call_enumT {prog : Program} {w : World} {A : Around} {E : Value → Shared → Prop} {s : Shared} {t : Addr} {its : Array Value} {Q : Value → Shared → Prop} (ht : s.heap.IsTuple t its)
    (h : ∀ h', IsEnum h' (s.heap.objs.size + 1) s.heap.objs.size 0 .none → h'.IsTupleIter s.heap.objs.size t 0 → h'.objs.size = s.heap.objs.size + 2 →
      (∀ b o, s.heap.get? b = some o → h'.get? b = some o) → Q (.ref (s.heap.objs.size + 1)) { s with heap := h' }) :
    wpAny (model prog w) A (call (.type "enumerate") [.ref t]) Q E s := by
  refine callType_new F.called_enumerate (by decide) (F.typeCall_enumerate_1 _) (F.newCall_enumerate_1 _) (fun obj => F.args_object_init_2 obj _) F.entry_enumerate_new
    (meets_enumT (begins_tuple t its)) ⟨ht, ?_⟩
  have zz : (s.heap.push { cls := .type "tuple_iterator", data := .fields #[.ref t, .int 0 0] }).objs.size = s.heap.objs.size + 1 := Heap.size_push ..
  show _ ∧ _
  rw [zz]
  have he : IsEnum ((s.heap.push { cls := .type "tuple_iterator", data := .fields #[.ref t, .int 0 0] }).push
      { cls := .type "enumerate", data := .fields #[.none, .bool false, .ref s.heap.objs.size, rawInt 0, .none, .none] }) (s.heap.objs.size + 1) s.heap.objs.size 0 .none := by
    have := Heap.get?_push_size (s.heap.push { cls := .type "tuple_iterator", data := .fields #[.ref t, .int 0 0] })
      (o := { cls := .type "enumerate", data := .fields #[.none, .bool false, .ref s.heap.objs.size, rawInt 0, .none, .none] }) rfl
    rw [zz] at this; exact this
  refine ⟨⟨_, he, rfl⟩, h _ he ⟨_, Heap.get?_push_of_some _ (Heap.get?_push_size _ rfl), rfl, rfl⟩ (by rw [Heap.size_push, zz]) fun b o x => Heap.get?_push_of_some _ (Heap.get?_push_of_some _ x)⟩
def IteT (K : PySem.W.Frag) (a : Addr) : It :=
  ⟨fun i H => ∃ (xs : List V) (x : V), SqT K H a xs ∧ xs[i]? = some x, fun i H v H' => ∃ T x, v = .ref T ∧ H T = none ∧ H' = upd H T (.tup [.int (i : Nat), x]) ∧ ∀ xs, SqT K H a xs → xs[i]? = some x, fun i H => ∃ xs : List V, SqT K H a xs ∧ xs.length ≤ i⟩
theorem draws_end {prog : Program} {w : World} {A : Around} (hh : A.handled = none) (it t : Addr) (items : Array Value) {n : Nat} (hn : items.size ≤ n) :
    Draws prog w A it [it, t] n (fun _ _ => True) (fun j h => j = n ∧ h.IsTupleIter it t n ∧ h.IsTuple t items) where
  live := fun _ _ st => let ⟨o, ho, _⟩ := st.2.1; ⟨o, ho⟩
  frame := fun _ _ _ st hk => ⟨st.1, st.2.1.at fun o e => hk it (by simp) o e, st.2.2.at fun o e => hk t (by simp) o e⟩
  item := fun i s Q E hi st hQ => by have := st.1; omega
  done := fun s Q E st hE => wpAny_nextOf_tuple_end hh st.2.1 st.2.2 (by simpa using hn) hE
theorem turn_enumT {P : Program} {w : World} {K : PySem.W.Frag} {elts : List Expr} {kk : Nat} {tpos : Pos} (a e it : Addr) (hai : a ≠ it) (hae : a ≠ e) :
    Turn P w K (.Tuple elts kk tpos) (IteT K a) [e, it] e (fun i h => (∃ old, IsEnum h e it ((i : Nat) : Int) old) ∧ h.IsTupleIter it a i ∧ e ≠ it) where
  mem := by simp
  obj := fun i h st b hb => by
    obtain ⟨⟨old, he⟩, ⟨o, ho, hc, hd⟩, _⟩ := st
    have e' : b = e ∨ b = it := by simpa using hb
    rcases e' with z | z
    · rw [z]; exact ⟨_, he, fun v q => nomatch q⟩
    · rw [z]; exact ⟨o, ho, fun v q => by rw [hd] at q; cases q⟩
  keep := fun i h h' st k => let ⟨⟨old, he⟩, hi, hne⟩ := st; ⟨⟨old, k e (by simp) _ he⟩, hi.at fun o q => k it (by simp) o q, hne⟩
  item := by
    intro X hP hw hK hc i pins s σ H E I hf st hg
    subst hP hw hK
    obtain ⟨⟨old, he⟩, hit, hne⟩ := st
    obtain ⟨xs, x, hq, hx⟩ := hg
    obtain ⟨its, rv, p, hz⟩ := I.tuple hq
    obtain ⟨u, hu, ru⟩ := rv.get hx
    have hel : e < s.heap.objs.size := Heap.lt_size he
    have hil : it < s.heap.objs.size := by obtain ⟨_, q, _⟩ := hit; exact Heap.lt_size q
    have hd : X.A.in1.handled = none := I.ok.hd hc
    have hlt : i < its.toArray.size := by
      have := (List.getElem?_eq_some_iff.mp hu).1
      simpa using this
    refine wpAny_pyNext_enum_itemD (Draws.tuple hd it a hai its.toArray) he ⟨hit, p⟩ hlt hne (by simp [hne, Ne.symm hae]) fun x' h' tk px ho hst' hT hsz hk => ?_
    have ex : x' = u := by
      have e1 : its.toArray[i]? = some u := by simpa using hu
      rw [e1] at px; cases px; rfl
    subst ex
    refine ⟨_, rfl, wpAny_letOwnedTupleGo_enum (s := { s with heap := h', toks := tk + 1 }) ho fun h'' he' sb => ?_⟩
    have tt : h''.get? s.heap.objs.size = some { cls := .type "tuple", data := .seq #[.int i tk, x'] } := (sb.2 _ (Nat.ne_of_gt hel)).trans hT
    have new : ObjOk X.prog X.w (upd H s.heap.objs.size (.tup [.int (i : Nat), x])) h'' s.heap.objs.size (.tup [.int (i : Nat), x]) :=
      ⟨by show 2 ≤ sizeLine; decide, [.int i tk, x'], .cons ⟨_, rfl⟩ (.cons ru .nil), ⟨_, tt, rfl, _, rfl⟩⟩
    have I1 : Inv X pins σ (upd H s.heap.objs.size (.tup [.int (i : Nat), x])) { s with heap := h'', toks := tk + 1 } :=
      I.turnedNew (ch := [e, it]) (fun b ob hb q => (sb.2 b (fun z => hb (by simp [z]))).trans (hk b ob (fun z => hb (by simp [z])) (fun z => hb (by simp [z])) q)) hf (Nat.le_refl _) new
    refine ⟨.ref s.heap.objs.size, _, I1, rfl, ⟨_, x, rfl, I.hok.fresh (Nat.le_refl _), rfl, fun ys hy => by rw [I.tuple_inj hy hq]; exact hx⟩, ⟨⟨x', ?_⟩, hst'.1.at fun o q => (sb.2 it (Ne.symm hne)).trans q, hne⟩, fun b hb => ?_⟩
    · have e1 : ((i + 1 : Nat) : Int) = (i : Int) + 1 := by omega
      rw [e1]; exact he'
    · have hb' : b < s.heap.objs.size := by
        have e' : b = e ∨ b = it := by simpa using hb
        rcases e' with z | z
        · rw [z]; exact hel
        · rw [z]; exact hil
      rw [upd_ne (Nat.ne_of_lt hb')]
      exact (hf b hb).1
  done := by
    intro X hP hw hK hc i pins s σ H E I hf st hg
    subst hP hw hK
    obtain ⟨⟨old, he⟩, hit, hne⟩ := st
    obtain ⟨xs, hq, hx⟩ := hg
    obtain ⟨its, rv, p, hz⟩ := I.tuple hq
    obtain ⟨f0, f1, f2, f3, f4, f5⟩ := hf it (by simp)
    have hl := rv.length
    have hd : X.A.in1.handled = none := I.ok.hd hc
    exact wpAny_pyNext_enum_endD (draws_end hd it a its.toArray (by simp; omega)) he ⟨rfl, hit, p⟩ fun h' eb => ⟨rfl, I.turned (t' := s.toks) (fun b o hb q => eb b o hb q) f0 f1 f3 f4 f5⟩
  self := fun A i s Q E st h => let ⟨⟨_, he⟩, _⟩ := st; wpAny_pyIter_enum he h
def iEnumT (K : PySem.W.Frag) (ta : TA) : TI := fun σ H R => ta σ H fun vs H1 => ∃ a xs, vs = [.ref a] ∧ SqT K H1 a xs ∧ R (IteT K a) H1
theorem pi_enumT {X : Cx} {e : Expr} {ta : TA} {p pos tpos : Pos} {elts : List Expr} {kk : Nat} (hg : Gl X "enumerate") (hm : X.mg "enumerate" = none) (ha : PA X [e] ta) (hs : starEach [e] X.env = [(false, eval e X.env)] := by rfl) :
    PI X (.Tuple elts kk tpos) (.Call (.Name "enumerate" p) [e] [] pos) (iEnumT X.K ta) := by
  refine ⟨fun pins s σ H R I h => ?_⟩
  refine Call_ (ld_blt I hg hm boot_enumerate (PyProof.Rows.callWith_type1 (thn (ha.run pos pins s σ H _ I h) fun us s1 ⟨vs, H1, I1, r1, q1⟩ => ?_) hs rfl))
  obtain ⟨a, xs, ex, hq, q⟩ := q1
  subst ex
  cases r1 with
  | cons r rr =>
    cases rr
    cases r
    obtain ⟨its, rv, p', hz⟩ := I1.tuple hq
    have hal : a < s1.heap.objs.size := by obtain ⟨_, w, _⟩ := p'; exact Heap.lt_size w
    refine call_enumT p' fun h' he hit hsz hk => wpAny_pyIter_enum he ?_
    have I2 : Inv X pins σ H1 { s1 with heap := h' } := I1.kept (t' := s1.toks) hk
    refine ⟨s1.heap.objs.size + 1, [s1.heap.objs.size + 1, s1.heap.objs.size], _, _, H1, rfl, I2, turn_enumT a (s1.heap.objs.size + 1) s1.heap.objs.size (Nat.ne_of_lt hal) (Nat.ne_of_lt (Nat.lt_succ_of_lt hal)), ⟨⟨.none, he⟩, hit, Nat.succ_ne_self _⟩, fun b hb => ?_, q⟩
    have e' : b = s1.heap.objs.size + 1 ∨ b = s1.heap.objs.size := by simpa using hb
    have low : s1.heap.objs.size ≤ b := by
      rcases e' with z | z
      · rw [z]; exact Nat.le_add_right _ _
      · rw [z]; exact Nat.le_refl _
    exact I1.fpOk low (I1.hok.fresh low)
/-- (0, x), (1, y), .. -/
def enumD (k : Nat) : List D → List D
  | [] => []
  | d :: ds => .tup [.int (k : Nat), d] :: enumD (k + 1) ds
theorem enumD_len : ∀ (ds : List D) (k : Nat), (enumD k ds).length = ds.length
  | [], _ => rfl
  | d :: ds, k => by simp [enumD, enumD_len ds]
theorem enumD_get : ∀ {ds : List D} {k i : Nat} {x : D}, (enumD k ds)[i]? = some x → ∃ d, ds[i]? = some d ∧ x = .tup [.int ((k + i : Nat) : Int), d]
  | [], k, i, x, h => by simp [enumD] at h
  | d :: ds, k, 0, x, h => by
    simp [enumD] at h
    exact ⟨d, rfl, h.symm⟩
  | d :: ds, k, i + 1, x, h => by
    simp only [enumD, List.getElem?_cons_succ] at h
    obtain ⟨d', h1, h2⟩ := enumD_get h
    exact ⟨d', by simpa using h1, by rw [h2]; simp; omega⟩
theorem itm0_enumT {G : Kx} {as : List Addr} {M : Mem} {H : Hp} {a : Addr} {vs : List V} {ds : List D} (r : Rel G as M H) (hq : SqT G.K H a vs) (rv : RVs G as H vs ds) : Itm0 G as M H (IteT G.K a) (enumD 0 ds) where
  go := fun i as' M' H' s r' hi => by
    rw [enumD_len] at hi
    have hv : i < vs.length := by rw [rv.len]; exact hi
    exact ⟨vs, vs[i], s.sqt r hq, List.getElem?_eq_getElem hv⟩
  stop := fun i as' M' H' s r' hi => ⟨vs, s.sqt r hq, by rw [enumD_len] at hi; rw [rv.len]; exact hi⟩
  yld := fun i as' M' H' x H2 d s r' hd hy => by
    obtain ⟨T, y, rfl, hT, rfl, hx⟩ := hy
    have hy := hx vs (s.sqt r hq)
    obtain ⟨d', h1, rfl⟩ := enumD_get hd
    obtain ⟨y', g1, g2⟩ := rv.get h1
    rw [hy] at g1; cases g1
    have gr : Grow H' (upd H' T (.tup [.int (i : Nat), y])) := fun b o hb => by rw [upd_ne (ne_of_none hb hT)]; exact hb
    refine ⟨gr, .tup (.inl (.inl upd_same)) (.cons ?_ (.cons ((g2.step r s).step r' gr.stp) .nil))⟩
    rw [Nat.zero_add]
    exact .int _
theorem itm_enumT {G : Kx} {as : List Addr} {M : Mem} {H : Hp} {a : Addr} {vs : List V} {ds : List D} (r : Rel G as M H) (hq : SqT G.K H a vs) (q : RVs G as H vs ds) : Itm G as M H (IteT G.K a) (enumD 0 ds) where
  toItm0 := itm0_enumT r hq q
  more := fun k p o hk hc h1 h2 => by
    obtain ⟨u, e, k1, k2⟩ := r.hidk hk hc
    exact itm0_enumT (r.at hk hc e k1 k2 h1 h2) (sqt_at e k1 k2 hq) (q.at (List.mem_of_getElem? hk) e k1 k2)
def iEn (t : Ax) : Ix := fun e M => (t e M).bind fun xs M1 => match xs with
  | [.tup ds] => .ok (enumD 0 ds, none) M1
  | _ => .bad
section
variable {X : Cx} {T : Tb} {W : WX}
theorem si_en {a : Expr} {t : Ax} {p pos tpos : Pos} {elts : List Expr} {kk : Nat} (hm : X.mg "enumerate" = none) (ha : SA X T W [a] t) (hg : Gl X "enumerate" := by rfl) (hs : starEach [a] X.env = [(false, eval a X.env)] := by rfl) : SI X T W (.Tuple elts kk tpos) (.Call (.Name "enumerate" p) [a] [] pos) (iEn t) :=
  (pi_enumT hg hm ha hs).weak fun σ H R ⟨as, M, e, r, q, h⟩ => bindAI r q h fun ds vs as1 M1 H1 r1 s1 rvs h1 => by
    split at h1
    · rename_i xs
      cases rvs with
      | cons p1 p2 =>
        cases p2
        obtain ⟨b, ws, rfl, g1, g2⟩ := tup_ok p1
        exact ⟨b, ws, rfl, g1, h1 as1 H1 _ M1 Stp.refl rfl r1 (itm_enumT r1 g1 g2)⟩
    · exact h1.elim
end
end EV

set_option Elab.async false
set_option linter.all false
set_option autoImplicit false
set_option maxRecDepth 100000
set_option maxHeartbeats 4000000
namespace EV
open PySem PySem.Spec PyProof.Rows L2
/-! ### the count of generators never sinks -/
theorem runs_gens {M : Model} {Γ : PySem.Ctx} {p : Pos} {t : Sem Fin} {fs : List Frame} {s s' : Shared} {e : End} (h : Runs M Γ p t fs s e s') : s.gens.size ≤ s'.gens.size := by
  induction h <;> (try simp only [Shared.setGen, Array.size_push, Array.set!_eq_setIfInBounds, Array.size_setIfInBounds] at *) <;> omega
theorem returns_gens {M : Model} {Γ : PySem.Ctx} {p : Pos} {s s' : Shared} {r : Result} (h : Returns M Γ p s r s') : s.gens.size ≤ s'.gens.size := runs_gens h
theorem setGen_size (s : Shared) (g : Nat) (x : GenState) : (s.setGen g x).gens.size = s.gens.size := by simp [Shared.setGen]
theorem wakes_gens {M : Model} {Γ : PySem.Ctx} {p : Pos} {g : Nat} {r : Resume} {s s' : Shared} {res : GenResult} (h : Wakes M Γ p g r s res s') : s.gens.size ≤ s'.gens.size := by
  unfold Wakes at h
  split at h
  · exact h.elim
  · split at h
    · obtain ⟨e₁, s₁, hr, _, _, rfl⟩ := h
      have := runs_gens hr
      rw [setGen_size] at this ⊢
      exact this
    · rw [h.2]; first | exact Nat.le_refl _ | (rw [setGen_size]; exact Nat.le_refl _)
    · rw [h.2]; first | exact Nat.le_refl _ | (rw [setGen_size]; exact Nat.le_refl _)
  · obtain ⟨e₁, s₁, hr, _, _, rfl⟩ := h
    have := runs_gens hr
    rw [setGen_size] at this ⊢
    exact this
  · rw [h.2]; exact Nat.le_refl _
  · rw [h.2]; exact Nat.le_refl _
theorem wp_gens {α : Type} (M : Model) (Γ : PySem.Ctx) (n : Nat) (t : Sem α) : ∀ (Q : α → Pos → Shared → Prop) (E : Value → Pos → Shared → Prop) (p : Pos) (s : Shared), n ≤ s.gens.size → Sem.wp M Γ t Q E p s →
    Sem.wp M Γ t (fun a p' s' => n ≤ s'.gens.size ∧ Q a p' s') (fun e p' s' => n ≤ s'.gens.size ∧ E e p' s') p s := by
  induction t with
  | pure a => intro Q E p s hn h; exact ⟨hn, h⟩
  | raise e => intro Q E p s hn h; exact ⟨hn, h⟩
  | unsupported _ => intro Q E p s _ h; exact h
  | finish _ => intro Q E p s _ h; exact h
  | rule _ k ih => intro Q E p s hn h; exact ih () Q E p s hn h
  | «at» p' k ih => intro Q E p s hn h; exact ih () Q E p' s hn h
  | load a _ k ih => intro Q E p s hn h; obtain ⟨o, ho, h⟩ := h; exact ⟨o, ho, ih o Q E p s hn h⟩
  | update a _ f k ih => intro Q E p s hn h; exact ⟨h.1, ih () Q E p _ hn h.2⟩
  | loadIfAlive a k ih => intro Q E p s hn h; exact ih _ Q E p s hn h
  | point _ k ih => intro Q E p s hn h; exact ih () Q E p s hn h
  | register _ _ => intro Q E p s _ h; exact h
  | alloc o k ih => intro Q E p s hn h; exact ih _ Q E p _ hn h
  | fresh k ih => intro Q E p s hn h; exact ih _ Q E p _ hn h
  | ask k ih => intro Q E p s hn h; exact ih _ Q E p s hn h
  | choose src m k ih => intro Q E p s hn h; exact ⟨h.1, ih _ Q E p _ hn h.2⟩
  | os q _ k ih => intro Q E p s hn h; exact ih _ Q E p _ hn h
  | call c hd _ _ k ih => intro Q E p s hn h; obtain ⟨r, s', hr, h⟩ := h; exact ⟨r, s', hr, ih r Q E p s' (Nat.le_trans hn (returns_gens hr)) h⟩
  | handled own k ih => intro Q E p s hn h; exact ih _ Q E p s hn h
  | genState g k ih => intro Q E p s hn h; obtain ⟨st, hs, h⟩ := h; exact ⟨st, hs, ih _ Q E p s hn h⟩
  | newGen c k ih => intro Q E p s hn h; exact ih _ Q E p _ (by simp; omega) h
  | resume g r _ k ih => intro Q E p s hn h; obtain ⟨res, s', hw, h⟩ := h; exact ⟨res, s', hw, ih res Q E p s' (Nat.le_trans hn (wakes_gens hw)) h⟩
  | yield _ _ _ _ => intro Q E p s _ h; exact h
  | stack k ih => intro Q E p s hn h; exact ih _ Q E p s hn h
  | fork _ _ => intro Q E p s _ h; exact h
  | thread k ih => intro Q E p s hn h; exact ih _ Q E p s hn h
  | await _ _ _ _ _ => intro Q E p s _ h; exact h
theorem with_gens {α : Type} {M : Model} {A : Around} {s : Shared} {t : Sem α} {Q : α → Shared → Prop} {E : Value → Shared → Prop} {n : Nat} (hn : n ≤ s.gens.size)
    (h : wpAny M A t (fun a s' => n ≤ s'.gens.size → Q a s') (fun e s' => n ≤ s'.gens.size → E e s') s) : wpAny M A t Q E s :=
  wpAny_mono (fun Γ p hΓ => wp_gens M Γ n t _ _ p s hn (h Γ p hΓ) : wpAny M A t (fun a s' => n ≤ s'.gens.size ∧ (n ≤ s'.gens.size → Q a s')) (fun e s' => n ≤ s'.gens.size ∧ (n ≤ s'.gens.size → E e s')) s) (fun _ _ x => x.2 x.1) (fun _ _ x => x.2 x.1)
end EV

set_option Elab.async false
set_option linter.all false
set_option autoImplicit false
set_option maxRecDepth 100000
set_option maxHeartbeats 4000000
namespace EV
open PySem PySem.Spec PyProof.Rows L2
/-! ### the frame of a generator expression -/
abbrev genCx (X : Cx) (A' : Around) (s : Shared) (H : Hp) (cenv : Env) (fp : List Addr) : Cx :=
  { X with A := A', s_0 := s, H_0 := H, env := cenv, outer := X.stack, stack := cenv :: X.stack, ex := fp, fn := fun _ => false, calm := true, pn := [], xe := fun _ _ => False }
structure GenOk (N : List Str) (sc scope : Scope) (own : List (Str × Nat)) : Prop where
  kind : scope.kind = .function
  co : scope.isCoroutine = false
  cell : ∀ y ∈ scope.names, y.2 ≠ .cell
  uniq : ∀ y ∈ scope.names, scope.names.lookup y.1 = some y.2
  dot : scope.names.lookup (".0" : Str) = some NameKind.local
  ix : ∀ p ∈ own, N[p.2]? = some p.1
  free : ∀ y ∈ scope.names, y.2 = .free → sc.names.lookup y.1 = some .cell ∨ sc.names.lookup y.1 = some .free
  own : ∀ y ∈ scope.names, y.2 = .local → y.1 ∈ own.map (·.1) ∨ y.1 ∉ N
def isKd (a b : NameKind) : Bool := match a, b with
  | .local, .local => true
  | .cell, .cell => true
  | .free, .free => true
  | _, _ => false
theorem isKd_eq {a b : NameKind} (h : isKd a b = true) : a = b := by cases a <;> cases b <;> simp [isKd] at h <;> rfl
def genC (N : List Str) (sc scope : Scope) (own : List (Str × Nat)) : Bool :=
  decide (scope.kind = .function) && !scope.isCoroutine && decide (∀ y ∈ scope.names, y.2 ≠ .cell) && decide (∀ y ∈ scope.names, scope.names.lookup y.1 = some y.2) && decide (scope.names.lookup (".0" : Str) = some NameKind.local) &&
  decide (∀ p ∈ own, N[p.2]? = some p.1) && decide (∀ y ∈ scope.names, y.2 = .free → sc.names.lookup y.1 = some .cell ∨ sc.names.lookup y.1 = some .free) && decide (∀ y ∈ scope.names, y.2 = .local → y.1 ∈ own.map (·.1) ∨ y.1 ∉ N)
theorem genOk_by {N : List Str} {sc scope : Scope} {own : List (Str × Nat)} (h : genC N sc scope own = true) : GenOk N sc scope own := by
  unfold genC at h
  simp only [Bool.and_eq_true, decide_eq_true_eq] at h
  obtain ⟨⟨⟨⟨⟨⟨⟨h1, h2⟩, h3⟩, h4⟩, h5⟩, h6⟩, h7⟩, h8⟩ := h
  exact ⟨h1, by simpa using h2, h3, h4, h5, h6, h7, h8⟩
section
variable {X : Cx} {pins : List (Addr × Obj)} {σ : L2.St} {H : Hp} {s : Shared}
theorem gen_start {scope : Scope} {own : List (Str × Nat)} {fp : List Addr} {A' : Around} {code : Value} {m : Str → Option Value} {s5 : Shared} {cenv : Env} (I : Inv X pins σ H s) (ok : GenOk X.N X.env.scope scope own) (hN : X.N.Nodup)
    (hfp : ∀ b ∈ fp, FpOk X pins H b ∧ b < s.heap.objs.size) (hcenv : genEnv scope (cloFrom X.env.cells scope.names []) s.heap.objs.size code builtinsNs X.env = cenv) (hh : A'.handled = none) (hfr : A'.frames = some (cenv :: X.stack))
    (hns : s5.heap.Ns s.heap.objs.size m) (kp : ∀ b o, s.heap.get? b = some o → s5.heap.get? b = some o) (hos : s5.os = s.os) (hb : AllBare s5.gens) :
    Inv (genCx X A' s H cenv fp) [] (wipe σ (own.map (·.2))) H s5 := by
  have hfree : ∀ y ∈ scope.names, y.2 = .free → ∃ c, X.env.cells.lookup y.1 = some c := fun y hy e => by
    rcases ok.free y hy e with k | k
    · exact I.ok.has _ (.inl k)
    · exact I.ok.has _ (.inr k)
  have hL : cenv.locals = s.heap.objs.size := by rw [← hcenv]; rfl
  have hcl : cenv.cells = cloFrom X.env.cells scope.names [] := by rw [← hcenv]; rfl
  have hsc : cenv.scope = scope := by rw [← hcenv]; rfl
  have cm : ∀ {y c}, cenv.cells.lookup y = some c → X.env.cells.lookup y = some c ∧ c < s.heap.objs.size := fun {y c} e => by
    rw [hcl] at e
    rcases cloFrom_mem (PySem.mem_of_lookup e) with hm | ⟨h1, rfl⟩
    · cases hm
    · obtain ⟨c, hc⟩ := hfree _ h1 rfl
      rw [hc]
      obtain ⟨w, z⟩ := I.cell _ _ hc
      exact ⟨rfl, z.lt⟩
  have look : ∀ {y}, scope.names.lookup y = some .free → ∃ c, cenv.cells.lookup y = some c ∧ X.env.cells.lookup y = some c := fun {y} hl => by
    have hy : (y, NameKind.free) ∈ scope.names := PySem.mem_of_lookup hl
    obtain ⟨c', e'⟩ := mem_lookup (cloFrom_has (cells := X.env.cells) (acc := []) hy)
    rw [← hcl] at e'
    exact ⟨c', e', (cm e').1⟩
  have nocell : ∀ {y}, scope.names.lookup y ≠ some .cell := fun {y} e => ok.cell _ (PySem.mem_of_lookup e) rfl
  have okB : (genCx X A' s H cenv fp).Ok := by
    refine ⟨I.ok.mod, by show cenv.scope.kind = _; rw [hsc]; exact ok.kind, by show cenv.globals = _; rw [← hcenv]; exact I.ok.glob, by show cenv.builtins = _; rw [← hcenv]; rfl, by show s.heap.objs.size ≤ cenv.locals; rw [hL]; exact Nat.le_refl _,
      fun y z c e1 e2 => I.ok.inj y z c (cm e1).1 (cm e2).1, fun y hy => ?_, fun y c z e => absurd z Bool.false_ne_true, fun _ => hh, hfr, .inr ⟨rfl, by show cenv.frame = _; rw [← hcenv]; rfl⟩, fun b hb => ⟨?_, fun y c e z => ?_⟩, I.bs, Nat.le_trans I.ok.bsz I.sz, fun b o e hb => ?_, fun b hb z => ?_, I.stack, I.stkFree⟩
    · show ∃ c, cenv.cells.lookup y = some c
      have key : ∀ k, cenv.kindOf y = some k → scope.names.lookup y = some k := fun k hk => by
        unfold Env.kindOf at hk
        rw [hsc] at hk
        exact hk
      rcases hy with hy | hy
      · exact absurd (key _ hy) nocell
      · obtain ⟨c, h1, _⟩ := look (key _ hy)
        exact ⟨c, h1⟩
    · show b ≠ cenv.locals
      rw [hL]; exact Nat.ne_of_lt (hfp b hb).2
    · exact (hfp b hb).1.2.2.2.2.1 y c (cm e).1 z
    · rcases (hfp b hb).1.2.2.2.1 with z | z
      · exact I.ok.noex b o e z
      · exact absurd (Nat.lt_of_lt_of_le (Heap.lt_size e) (Nat.le_trans I.ok.bsz z)) (Nat.lt_irrefl _)
    · rcases List.mem_cons.mp (I.stkSub b z) with z | z
      · exact (hfp b hb).1.2.1 z
      · exact (hfp b hb).1.2.2.1 z
  refine ⟨okB, hos, hb, Un.kept kp, ⟨m, by show Heap.Ns _ cenv.locals _; rw [hL]; exact hns, fun i y av e1 e2 e3 => ?_⟩, fun y c e => ?_, ?_, fun y c e => I.freeC y c (cm e).1, fun p hp => absurd (show p ∈ ([] : List (Addr × Obj)) ++ [] from hp) (by simp), I.hok.kept kp, by rw [wipe_length]; exact I.len⟩
  · obtain ⟨e2, hne⟩ := wipe_some e2
    have hfr : scope.names.lookup y = some .free := by
      have e3 : Vis cenv.scope y := e3
      rw [hsc] at e3
      rcases e3 with z | z | z
      · have hm : (y, NameKind.local) ∈ scope.names := PySem.mem_of_lookup z
        rcases ok.own _ hm rfl with w | w
        · obtain ⟨p, hp, ep⟩ := List.mem_map.mp w
          have h1 := ok.ix p hp
          rw [ep] at h1
          have hip := nodup_ix hN e1 h1
          exact absurd (List.mem_map.mpr ⟨p, hp, hip.symm⟩) hne
        · exact absurd (List.mem_of_getElem? e1) w
      · exact absurd z nocell
      · exact z
    obtain ⟨c, h1, h2⟩ := look hfr
    obtain ⟨mX, hnX, hlX⟩ := I.loc
    have hv : Vis X.env.scope y := (ok.free _ (PySem.mem_of_lookup hfr) rfl).elim (fun k => .inr (.inl k)) fun k => .inr (.inr k)
    obtain ⟨u, ru, lk⟩ := hlX i y av e1 e2 hv
    refine ⟨u, ru, .inr ⟨.inr (by unfold Env.kindOf; show cenv.scope.names.lookup y = _; rw [hsc]; exact hfr), c, h1, ?_⟩⟩
    rcases lk with ⟨k, _⟩ | ⟨_, c', e, o, ho, hd⟩
    · have k : X.env.scope.names.lookup y = some .local := k
      rcases ok.free _ (PySem.mem_of_lookup hfr) rfl with z | z
      · rw [k] at z; cases z
      · rw [k] at z; cases z
    · rw [h2] at e; cases e
      exact ⟨o, kp _ _ ho, hd⟩
  · obtain ⟨v, o, ho, hd⟩ := I.cell y c (cm e).1
    exact ⟨v, o, kp _ _ ho, hd⟩
  · show H cenv.locals = none
    rw [hL]
    exact I.hok.fresh (Nat.le_refl _)
end
end EV

set_option Elab.async false
set_option linter.all false
set_option autoImplicit false
set_option maxRecDepth 100000
set_option maxHeartbeats 4000000
namespace EV
open PySem PySem.Spec PyProof.Rows L2
/-! ### the run of a generator expression -/
theorem inv_gens {X : Cx} {pins : List (Addr × Obj)} {σ : L2.St} {H : Hp} {s : Shared} (I : Inv X pins σ H s) {g' : Array GenState} (hb : AllBare g') : Inv X pins σ H { s with gens := g' } :=
  ⟨I.ok, I.os, hb, I.base, I.loc, I.cell, I.free, I.freeC, I.pin, I.hok, I.len⟩
theorem inv_heap {X : Cx} {pins : List (Addr × Obj)} {σ : L2.St} {H : Hp} {s s' : Shared} (I : Inv X pins σ H s) (h1 : s'.heap = s.heap) (h2 : s'.os = s.os) (hb : AllBare s'.gens) : Inv X pins σ H s' := by
  obtain ⟨h', g', d', t', o'⟩ := s'
  obtain ⟨h, g, d, t, o⟩ := s
  cases h1
  cases h2
  exact ⟨I.ok, I.os, hb, I.base, I.loc, I.cell, I.free, I.freeC, I.pin, I.hok, I.len⟩
structure GV where
  X : Cx
  A : Around
  sB : Shared
  HB : Hp
  cenv : Env
  fp : List Addr
  L : List Addr
  it : Addr
  tn : Nat → Heap → Prop
  σ : L2.St
  vs : List Nat
  γ : Type
  tie : γ → Heap → Prop
  Wn : Nat → Nat → γ → Hp → Prop
  Fn : γ → Hp → Prop
  Cy : γ → V → Hp → (γ → Hp → Prop) → Prop
  elt : Expr
  tg : Expr
  iter : Expr
  ifs : List Expr
  scope : Scope
  pos : Pos
  ag : Addr
  gn : Nat
abbrev GV.lp (v : GV) : Code := .compLoop (.GeneratorExp v.elt [⟨v.tg, v.iter, v.ifs, 0⟩] v.scope v.pos) 0 (.ref v.it) .none v.cenv
abbrev GV.st (v : GV) : Code := .compStart (.GeneratorExp v.elt [⟨v.tg, v.iter, v.ifs, 0⟩] v.scope v.pos) 0 (.ref v.it) .none v.cenv
abbrev GV.Xg (v : GV) : Cx := genCx v.X (v.A.over v.lp []) v.sB v.HB v.cenv v.fp
def GV.GS (v : GV) (n : Nat) (s0 s : Shared) : Prop := ∃ i m a Hx, m ≤ n ∧ Inv v.Xg (pinsAt v.L s0.heap) v.σ Hx s ∧ v.tn i s.heap ∧ (∀ b ∈ v.fp, Hx b = none) ∧ v.Wn i m a Hx ∧ v.tie a s0.heap
def GV.gR (v : GV) : GenEnd := fun n s0 r s1 => r = .ok .next ∧ ∃ a Hx, Inv v.Xg (pinsAt v.L s0.heap) v.σ Hx s1 ∧ (∀ b ∈ v.fp, Hx b = none) ∧ v.Fn a Hx ∧ v.tie a s0.heap
def GV.Yd (v : GV) (k : Nat) (s0 : Shared) (u : Value) (s : Shared) : Prop := ∃ i m a y Hd σ8 Nx, m ≤ k + 1 ∧ Inv v.Xg (pinsAt v.L s0.heap) σ8 Hd s ∧ wipe σ8 v.vs = v.σ ∧ v.tn (i + 1) s.heap ∧ (∀ b ∈ v.fp, Hd b = none) ∧ RelV y u ∧ v.Cy a y Hd Nx ∧ v.tie a s0.heap ∧
  ∀ a' Ha, Nx a' Ha → ∃ m', m' < m ∧ v.Wn (i + 1) m' a' Ha
def GV.gY (v : GV) : Protocol := fun k s0 u s kap => v.Yd k s0 u s ∧ ∀ s'', v.GS k s'' s'' → kap (.send .none) s''
structure GV.Ok (v : GV) (J : It) (g : TG) (tt : TT) (te : TE) : Prop where
  Tu : Turn v.X.prog v.X.w v.X.K v.tg J v.fp v.it v.tn
  pg : PG v.Xg v.tg g
  pt : PTs v.Xg v.ifs tt
  pe : PE v.Xg v.elt te
  co : v.cenv.scope.isCoroutine = false
  Lf : ∀ b ∈ v.L, b ∉ v.fp
  hh : v.A.handled = none
  turn : ∀ i m a Hn, v.Wn i m a Hn → (J.stop i Hn ∧ v.Fn a Hn) ∨ (J.go i Hn ∧ 0 < m ∧ ∃ Nx : v.γ → Hp → Prop, (∀ a' Ha, Nx a' Ha → ∃ m', m' < m ∧ v.Wn (i + 1) m' a' Ha) ∧ ∀ x Ha, J.yld i Hn x Ha →
    g x v.σ Ha fun σa Hb => wipe σa v.vs = v.σ ∧ tt σa Hb fun b Hc => if b = true then te σa Hc fun y Hd => v.Cy a y Hd Nx else Nx a Hc)
section
variable {v : GV} {J : It} {g : TG} {tt : TT} {te : TE}
theorem GV.Ok.stay (K : v.Ok J g tt te) {pins : List (Addr × Obj)} {σx : L2.St} {Hx : Hp} {sx : Shared} (Ix : Inv v.Xg pins σx Hx sx) (hp : ∀ p ∈ pins, p.1 ∉ v.fp) (hn : ∀ b ∈ v.fp, Hx b = none) : ∀ b ∈ v.fp, FpOk v.Xg pins Hx b := fun b hb =>
  ⟨hn b hb, (Ix.ok.exf b hb).1, Ix.ok.exfs b hb, .inl hb, fun x c ec => (Ix.ok.exf b hb).2 x c ec, fun p hm z => hp p (by simpa using hm) (z ▸ hb)⟩
theorem GV.Ok.seg (K : v.Ok J g tt te) : ∀ (n m : Nat) (s0 s : Shared) (i : Nat) (a : v.γ) (Hx : Hp), m ≤ n → Inv v.Xg (pinsAt v.L s0.heap) v.σ Hx s → v.tn i s.heap → (∀ b ∈ v.fp, Hx b = none) → v.Wn i m a Hx → v.tie a s0.heap →
    Seg (model v.X.prog v.X.w) v.A v.gR v.gY n s0 v.lp ((model v.X.prog v.X.w).den v.lp) [] s := by
  intro n
  induction n using Nat.strongRecOn with
  | _ n ihn =>
  intro m
  induction m using Nat.strongRecOn with
  | _ m ihm =>
  intro s0 s i a Hx hmn I st hf w tie
  have pL : ∀ p ∈ pinsAt v.L s0.heap, p.1 ∉ v.fp := fun p hp => K.Lf p.1 (of_pinsAt hp).1
  show Seg _ v.A _ _ n s0 _ ((compTurn (.GeneratorExp v.elt [⟨v.tg, v.iter, v.ifs, 0⟩] v.scope v.pos) 0 (.ref v.it) .none v.cenv).onRaise (leaving v.cenv)) [] s
  rw [compTurn_gen, Sem.onRaise_eq_wrap]
  refine seg_bind_wrap (wpAny_standAt ?_)
  rcases K.turn i m a Hx w with ⟨stop, fin⟩ | ⟨go, hm0, Nx, hNx, step⟩
  · have td := K.Tu.done v.Xg rfl rfl rfl rfl i _ s _ Hx (fun _ _ => False) I (K.stay I pL hf) st stop
    refine seg_bind_wrap (thnF td fun r s6 ⟨hr, I6⟩ => ?_)
    subst hr
    exact seg_end (.ok .next) ⟨rfl, a, Hx, I6, hf, fin, tie⟩
  · have ti := K.Tu.item v.Xg rfl rfl rfl rfl i _ s _ Hx (fun _ _ => False) I (K.stay I pL hf) st go
    refine seg_bind_wrap (thnF ti fun r s6 ⟨u, hr, h6⟩ => ?_)
    subst hr
    refine seg_bind_wrap (thnF h6 fun _ s7 ⟨x, H7, I7, r7, y7, st7, n7⟩ => ?_)
    have Ip := I7.pinned (K.stay I7 pL n7) (K.Tu.obj _ _ st7)
    refine seg_bind_wrap (thnF (K.pg.run _ s7 _ H7 x u _ Ip r7 (step x H7 y7)) fun _ s8 ⟨σ8, H8, I8, hw8, q8⟩ => ?_)
    refine seg_bind_wrap (thnF (K.pt.run _ s8 σ8 H8 _ I8 q8) fun b s9 ⟨H9, I9, q9⟩ => ?_)
    have pinx : ∀ {sx : Shared} {Hy : Hp} {σy : L2.St}, Inv v.Xg (pinsAt v.L s0.heap ++ pinsAt v.fp s7.heap) σy Hy sx → v.tn (i + 1) sx.heap ∧ ∀ b ∈ v.fp, Hy b = none := fun {sx Hy σy} Iy => by
      have px : ∀ b ∈ v.fp, ∀ u, s7.heap.get? b = some u → sx.heap.get? b = some u ∧ Hy b = none := fun b hb u eb =>
        let zz := Iy.pin (b, u) (List.mem_append_right _ (List.mem_append_right _ (mem_pinsAt hb eb)))
        ⟨zz.1, zz.2.1⟩
      refine ⟨K.Tu.keep _ _ _ st7 fun b hb u eb => (px b hb u eb).1, fun b hb => ?_⟩
      obtain ⟨u, eb, _⟩ := K.Tu.obj _ _ st7 b hb
      exact (px b hb u eb).2
    cases b with
    | false =>
      simp only [Bool.false_eq_true, if_false] at q9 ⊢
      obtain ⟨m', hm', w'⟩ := hNx a H9 q9
      obtain ⟨st9, f9⟩ := pinx I9
      refine seg_again rfl (ihm m' hm' s0 s9 (i + 1) a H9 (by omega) ((I9.unpinned (pins := pinsAt v.L s0.heap)).weak (by rw [← hw8, wipe_length]) fun j z ev => ?_) st9 f9 w' tie)
      rw [← hw8] at ev
      exact (wipe_some ev).1
    | true =>
      simp only [if_true] at q9 ⊢
      have hy : ∀ z, yieldOut v.cenv z = yieldValue z := fun z => by simp only [yieldOut, K.co, Bool.false_eq_true, if_false]
      simp only [hy]
      rw [Sem.bind_eq_wrap', Sem.bind_eq_wrap', Sem.wrap_wrap, Sem.wrap_wrap]
      refine seg_wrap (thnF (K.pe.run _ s9 σ8 H9 _ I9 q9) fun z s10 ⟨y, H10, I10, r10, q10⟩ => ?_)
      obtain ⟨st10, f10⟩ := pinx I10
      obtain ⟨n', rfl⟩ : ∃ n', n = n' + 1 := ⟨n - 1, by omega⟩
      refine seg_at (seg_yield rfl rfl rfl ⟨⟨i, m, a, y, H10, σ8, Nx, hmn, I10.unpinned (pins := pinsAt v.L s0.heap), hw8, st10, f10, r10, q10, tie, hNx⟩, fun s'' hg => ?_⟩)
      obtain ⟨i2, m2, a2, H2, h1, h2, h3, h4, h5, h6⟩ := hg
      exact seg_again rfl (ihn n' (by omega) m2 s'' s'' i2 a2 H2 h1 h2 h3 h4 h5 h6)
theorem GV.Ok.goes (K : v.Ok J g tt te) (n : Nat) (s : Shared) (h : v.GS n s s) : (GenState.fresh v.st).Goes (model v.X.prog v.X.w) v.A v.gR v.gY n (.send .none) s := by
  refine ⟨rfl, ?_⟩
  obtain ⟨i, m, a, Hx, h1, h2, h3, h4, h5, h6⟩ := h
  have loop := K.seg n m s s i a Hx h1 h2 h3 h4 h5 h6
  show Seg _ v.A _ _ _ s _ ((compStart (.GeneratorExp v.elt [⟨v.tg, v.iter, v.ifs, 0⟩] v.scope v.pos) 0 (.ref v.it) .none v.cenv).onRaise (leaving v.cenv)) [] s
  unfold compStart
  rw [Sem.onRaise_eq_wrap]
  show Seg _ v.A _ _ _ s _ ((ask >>= _).wrap _ _ _ _) [] s
  refine seg_bind_wrap (wpAny_askSetting ?_)
  split
  · exact seg_again rfl loop
  · first
      | exact seg_bind_wrap (wpAny_rule (seg_bind_wrap (wpAny_standAt (seg_bind_wrap (K.Tu.self _ i s _ _ h3 (seg_again rfl loop))))))
      | (refine seg_bind_wrap (wpAny_rule ?_); show Seg _ v.A _ _ _ s _ ((standAt v.iter.pos >>= _).wrap _ _ _ _) [] s; exact seg_bind_wrap (wpAny_standAt (seg_bind_wrap (K.Tu.self _ i s _ _ h3 (seg_again rfl loop)))))
end
end EV

set_option Elab.async false
set_option linter.all false
set_option autoImplicit false
set_option maxRecDepth 100000
set_option maxHeartbeats 4000000
namespace EV
open PySem PySem.Spec PyProof.Rows L2
theorem bare_set {s : Shared} {g : Nat} {x : GenState} (h : AllBare s.gens) (hx : x.bare = true) : AllBare (s.setGen g x).gens := by
  intro y hy
  simp only [Shared.setGen] at hy
  rcases Array.mem_or_eq_of_mem_setIfInBounds (by simpa using hy) with z | z
  · exact h _ z
  · rw [z]; exact hx
theorem inv_set {X : Cx} {pins : List (Addr × Obj)} {σ : L2.St} {H : Hp} {s : Shared} (I : Inv X pins σ H s) {g : Nat} {x : GenState} (hx : x.bare = true) : Inv X pins σ H (s.setGen g x) := inv_heap I rfl rfl (bare_set I.bare hx)
theorem gens_set {s : Shared} {g : Nat} {x : GenState} (h : g < s.gens.size) : (s.setGen g x).gens[g]? = some x := by simp [Shared.setGen, h]
section
variable {v : GV} {J : It} {g : TG} {tt : TT} {te : TE}
def GV.GJ (v : GV) (n : Nat) (s : Shared) : Prop := s.heap.IsGen v.ag v.gn ∧ v.GS n s s ∧ ∃ gs, s.gens[v.gn]? = some gs ∧ ∀ s'', v.GS n s'' s'' → gs.Goes (model v.X.prog v.X.w) v.A v.gR v.gY n (.send .none) s''
def GV.Nxt (v : GV) (n : Nat) (s : Shared) : Option Value → Shared → Prop := fun r s' => match r with
  | none => ∃ a Hx, Inv v.Xg (pinsAt v.L s.heap) v.σ Hx s' ∧ (∀ b ∈ v.fp, Hx b = none) ∧ v.Fn a Hx ∧ v.tie a s.heap
  | some u => ∃ k, k < n ∧ v.Yd k s u s' ∧ s'.heap.IsGen v.ag v.gn ∧ ∃ gs, s'.gens[v.gn]? = some gs ∧ ∀ s'', v.GS k s'' s'' → gs.Goes (model v.X.prog v.X.w) v.A v.gR v.gY k (.send .none) s''
theorem GS_set {n : Nat} {s : Shared} {x : GenState} (hx : x.bare = true) (h : v.GS n s s) : v.GS n (s.setGen v.gn x) (s.setGen v.gn x) := by
  obtain ⟨i, m, a, Hx, h1, h2, h3, h4, h5⟩ := h
  exact ⟨i, m, a, Hx, h1, inv_set h2 hx, h3, h4, h5⟩
theorem isGen_pin {σ : L2.St} {H : Hp} {s s' : Shared} {X : Cx} {L : List Addr} {a : Addr} {g : Nat} (hL : a ∈ L) (hg : s.heap.IsGen a g) (I : Inv X (pinsAt L s.heap) σ H s') : s'.heap.IsGen a g := by
  obtain ⟨o, nm, qn, ho, r⟩ := hg
  exact ⟨o, nm, qn, (I.pin (a, o) (List.mem_append_right _ (mem_pinsAt hL ho))).1, r⟩
theorem GV.Ok.next (K : v.Ok J g tt te) {A : Around} (hA : v.A = A.in1) (hroom : A.depth < recursionLimit) (hL : v.ag ∈ v.L) {n : Nat} {s : Shared} (G : v.GJ n s) {E : Value → Shared → Prop} :
    wpAny (model v.X.prog v.X.w) A (pyNext (.ref v.ag)) (v.Nxt n s) E s := by
  obtain ⟨hg, hS, gs, hgs, hgo⟩ := G
  have hhA : A.handled = none := by have := K.hh; rw [hA] at this; exact this
  have nl : s.heap.NoLimit := by obtain ⟨i, m, a, Hx, h1, h2, _⟩ := hS; exact h2.nolimit
  have hgo' := hgo _ (GS_set (x := .running) rfl hS)
  rw [hA] at hgo'
  refine with_gens (Nat.le_refl s.gens.size) ?_
  refine wpAny_pyNext_genexpQ (P := fun n s0 s1 => ∃ a Hx, Inv v.Xg (pinsAt v.L s0.heap) v.σ Hx s1 ∧ (∀ b ∈ v.fp, Hx b = none) ∧ v.Fn a Hx ∧ v.tie a s0.heap) hhA nl hroom hg hgs hgo' (fun u s1 gs' hb hv hsz => ?_) (fun s1 hp h' hk hsz => ?_)
  · obtain ⟨yd, hkap⟩ := hv
    cases n with
    | zero => exact (hkap (s.setGen v.gn .running) (GS_set rfl hS)).elim
    | succ k =>
      have hlt : v.gn < s.gens.size := by
        rcases Nat.lt_or_ge v.gn s.gens.size with h' | h'
        · exact h'
        · rw [Array.getElem?_eq_none h'] at hgs; cases hgs
      rw [setGen_size] at hsz
      obtain ⟨i, m, a, y, Hd, σ8, Nx, y1, y2, y3, y4, y5, y6, y7, yt, y8⟩ := yd
      refine ⟨k, Nat.lt_succ_self k, ⟨i, m, a, y, Hd, σ8, Nx, y1, inv_set y2 hb, y3, y4, y5, y6, y7, yt, y8⟩, ?_, gs', gens_set (by omega), fun s'' h'' => ?_⟩
      · exact isGen_pin (X := v.Xg) hL hg (inv_set y2 hb)
      · rw [hA]
        exact hkap s'' h''
  · obtain ⟨a, Hx, h1, h2, h3, h4⟩ := hp
    have J := (inv_set (g := v.gn) (x := .finished) h1 rfl).kept (h' := h') (t' := (s1.setGen v.gn .finished).toks) hk
    exact ⟨a, Hx, J, h2, h3, h4⟩
end
/-! ### who takes what it yields -/
section
variable {prog : Program} {w : World} {A : Around} {E : Value → Shared → Prop} {s : Shared} {ag : Addr} {J : Nat → Shared → Prop} {Q : Value → Shared → Prop}
def stepAll (J : Nat → Shared → Prop) (Q : Value → Shared → Prop) (stop : Bool) (n : Nat) : Option Value → Shared → Prop := fun r s' => match r with
  | none => Q (.bool (!stop)) s'
  | some u => ∃ b, u = .bool b ∧ (if b = stop then Q (.bool stop) s' else ∃ k, k < n ∧ J k s')
theorem loop_all (hn : ∀ n s, J n s → wpAny (model prog w) A.in1 (pyNext (.ref ag)) (stepAll J Q false n) E s) : ∀ (n : Nat) (s : Shared), J n s →
    codeAny (model prog w) A (.builtin "all.loop" ⟨[.ref ag], []⟩) (fun r s' => match r with | .ok (.ret v) => Q v s' | .ok _ => False | .error e => E e s') s := by
  intro n
  induction n using Nat.strongRecOn with
  | _ n ih =>
  intro s hJ
  refine codeAny_builtin F.entry_all_loop ?_
  rw [Around.under_plainId F.plain_all_loop _]
  show wpAny _ A.in1 (pyNext (.ref ag) >>= _) _ _ s
  refine wpAny_bind (wpAny_mono (hn n s hJ) (fun r s' h => ?_) fun _ _ e => e)
  cases r with
  | none => exact wpAny_bind (wpAny_rule (wpAny_pure h))
  | some u =>
    obtain ⟨b, rfl, h⟩ := h
    refine wpAny_bind (wpAny_holding (wpAny_truthy_bool ?_))
    refine wpAny_bind (wpAny_letGo ?_)
    cases b with
    | true =>
      simp only [if_true]
      rw [if_neg (by simp)] at h
      obtain ⟨k, hk, j⟩ := h
      exact wpAny_pure ⟨plainId_quiet F.plain_all_loop _, ih k hk _ j⟩
    | false =>
      simp only [Bool.false_eq_true, if_false]
      rw [if_pos rfl] at h
      exact wpAny_bind (wpAny_rule (wpAny_pure h))
theorem loop_any (hn : ∀ n s, J n s → wpAny (model prog w) A.in1 (pyNext (.ref ag)) (stepAll J Q true n) E s) : ∀ (n : Nat) (s : Shared), J n s →
    codeAny (model prog w) A (.builtin "any.loop" ⟨[.ref ag], []⟩) (fun r s' => match r with | .ok (.ret v) => Q v s' | .ok _ => False | .error e => E e s') s := by
  intro n
  induction n using Nat.strongRecOn with
  | _ n ih =>
  intro s hJ
  refine codeAny_builtin F.entry_any_loop ?_
  rw [Around.under_plainId F.plain_any_loop _]
  show wpAny _ A.in1 (pyNext (.ref ag) >>= _) _ _ s
  refine wpAny_bind (wpAny_mono (hn n s hJ) (fun r s' h => ?_) fun _ _ e => e)
  cases r with
  | none => exact wpAny_bind (wpAny_rule (wpAny_pure h))
  | some u =>
    obtain ⟨b, rfl, h⟩ := h
    refine wpAny_bind (wpAny_holding (wpAny_truthy_bool ?_))
    refine wpAny_bind (wpAny_letGo ?_)
    cases b with
    | false =>
      simp only [Bool.false_eq_true, if_false]
      rw [if_neg (by simp)] at h
      obtain ⟨k, hk, j⟩ := h
      exact wpAny_pure ⟨plainId_quiet F.plain_any_loop _, ih k hk _ j⟩
    | true =>
      simp only [if_true]
      rw [if_pos rfl] at h
      exact wpAny_bind (wpAny_rule (wpAny_pure h))
theorem call_allG {n gn : Nat} (hg : s.heap.IsGen ag gn) (hn : ∀ n s, J n s → wpAny (model prog w) A.in1 (pyNext (.ref ag)) (stepAll J Q false n) E s) (j : J n s) : wpAny (model prog w) A (call (.builtin "all") [.ref ag]) Q E s := by
  refine call_function_tree F.kind_all F.plain_all F.entry_all (F.args_all1 _) ?_
  unfold Builtin.«all»
  refine wpAny_bind (m := oneArg "all" _) (wpAny_pure ?_)
  refine wpAny_bind (wpAny_pyIter_gen hg ?_)
  exact wpAny_pure ⟨plainId_quiet F.plain_all_loop _, loop_all hn n s j⟩
theorem call_anyG {n gn : Nat} (hg : s.heap.IsGen ag gn) (hn : ∀ n s, J n s → wpAny (model prog w) A.in1 (pyNext (.ref ag)) (stepAll J Q true n) E s) (j : J n s) : wpAny (model prog w) A (call (.builtin "any") [.ref ag]) Q E s := by
  refine call_function_tree F.kind_any F.plain_any F.entry_any (F.args_any1 _) ?_
  unfold Builtin.«any»
  refine wpAny_bind (m := oneArg "any" _) (wpAny_pure ?_)
  refine wpAny_bind (wpAny_pyIter_gen hg ?_)
  exact wpAny_pure ⟨plainId_quiet F.plain_any_loop _, loop_any hn n s j⟩
end
end EV

set_option Elab.async false
set_option linter.all false
set_option autoImplicit false
set_option maxRecDepth 100000
set_option maxHeartbeats 4000000
namespace EV
open PySem PySem.Spec PyProof.Rows L2
/-! ### a generator expression is made -/
structure Born (X : Cx) (pins : List (Addr × Obj)) (σ : L2.St) (elt tg iter : Expr) (ifs : List Expr) (scope : Scope) (gpos : Pos) (J : It) (H2 : Hp) (it : Addr) (fp : List Addr) (tn : Nat → Heap → Prop) (sB : Shared) (cenv : Env) (ag gn : Nat) (s5 : Shared) : Prop where
  inv : Inv X pins σ H2 sB
  Tu : Turn X.prog X.w X.K tg J fp it tn
  fpk : ∀ b ∈ fp, FpOk X pins H2 b ∧ b < sB.heap.objs.size
  tn0 : tn 0 s5.heap
  env : ∃ code, genEnv scope (cloFrom X.env.cells scope.names []) sB.heap.objs.size code builtinsNs X.env = cenv
  ns : ∃ m, s5.heap.Ns sB.heap.objs.size m
  kp : ∀ b o, sB.heap.get? b = some o → s5.heap.get? b = some o
  os : s5.os = sB.os
  bare : AllBare s5.gens
  isg : s5.heap.IsGen ag gn
  gst : s5.gens[gn]? = some (.fresh (.compStart (.GeneratorExp elt [⟨tg, iter, ifs, 0⟩] scope gpos) 0 (.ref it) .none cenv))
  agl : sB.heap.objs.size < ag
section
variable {X : Cx} {pins : List (Addr × Obj)} {σ : L2.St} {H : Hp} {s : Shared}
theorem gen_make {c P : Addr} {elt tg iter : Expr} {ifs : List Expr} {scope : Scope} {gpos : Pos} {own : List (Str × Nat)} {wi : TI} {Q' : Value → Shared → Prop} {R : It → Hp → Prop}
    (hd : X.A.depth < recursionLimit) (TB : LamX.TabB X.base X.mg c P) (hcode : X.env.code = .ref c) (ok : GenOk X.N X.env.scope scope own) (walk : PI X tg iter wi) (hs : ∀ x, genFold iter X.env x = pure x)
    (I : Inv X pins σ H s) (h : wi σ H fun J H1 => GxR.TabG H1 P ∧ ∀ H2, GxR.Tabbed P H1 H2 → R J H2)
    (hQ : ∀ J H2 it fp tn sB cenv ag gn s5, R J H2 → Born X pins σ elt tg iter ifs scope gpos J H2 it fp tn sB cenv ag gn s5 → Q' (.ref ag) s5) :
    wpAny (model X.prog X.w) X.A (eval (.GeneratorExp elt [⟨tg, iter, ifs, 0⟩] scope gpos) X.env) Q' X.xe s := by
  have frees : ∀ y ∈ scope.names, y.2 = .free → ∃ c, X.env.cells.lookup y.1 = some c := fun y hy ey => (ok.free y hy ey).elim (fun kk => I.ok.has _ (.inl kk)) fun kk => I.ok.has _ (.inr kk)
  refine wpAny_GeneratorExp_make ok.co (closure_ok frees) ok.cell ok.dot ok.kind hd ?_ hs
  refine thn (walk.run pins s σ H _ I h) fun xv sa hx => thn hx fun itv sb hb => ?_
  obtain ⟨it, fp, tn, J, H1, rfl, I1, Tu, st1, f1, ⟨ps, hP, ht⟩, q1⟩ := hb
  have hPs : sb.heap.get? P = some { cls := .none, data := .fields ps } := I1.hok P _ hP
  have cd : PySem.W.CodeHd sb.heap c P := TB.code.keeps fun b u e => I1.bk b u e
  have nfP : ∀ b ∈ fp, b ≠ P := fun b hb z => by
    have := (f1 b hb).1
    rw [z, hP] at this
    cases this
  have cont : ∀ (code : Value) (h3 : Heap) (tk : Nat) (ps' : Array Value), Heap.ExtBut P sb.heap h3 → sb.heap.objs.size ≤ h3.objs.size → h3.get? P = some { cls := .none, data := .fields ps' } → (∃ more, ps' = ps ++ more) → TriplesOk ps'.toList →
      wpAny (model X.prog X.w) X.A (builtinsFor X.env.globals X.env.builtins) (fun bi s₄ => ∀ h', h'.Ns s₄.heap.objs.size (fun y => if y = ".0" then some (.ref it) else none) → Heap.SameBut s₄.heap.objs.size (s₄.heap.push { cls := .type "frame", data := .dict #[] }) h' →
          Q' (.ref h'.objs.size) { s₄ with
            gens := s₄.gens.push (.fresh (.compStart (.GeneratorExp elt [⟨tg, iter, ifs, 0⟩] scope gpos) 0 (.ref it) .none (genEnv scope (cloFrom X.env.cells scope.names []) s₄.heap.objs.size code bi X.env))),
            toks := s₄.toks + 1 + 1 + 1,
            heap := h'.push { cls := .type "generator", data := .fields #[.int s₄.gens.size 0, .str "<genexpr>" (s₄.toks + 1), .str (X.env.qual ++ "<genexpr>") (s₄.toks + 1 + 1)] } }) X.xe { sb with heap := h3, toks := tk } := by
    intro code h3 tk ps' hx hsz hP3 hmore ht3
    obtain ⟨bm, ob, e1, e2, e3, e4, e5, e6, e7, e8⟩ := TB.bm
    have keep3 : ∀ b u, b ≠ P → sb.heap.get? b = some u → h3.get? b = some u := fun b u hb e => hx b u hb e
    refine wpAny_builtinsFor (m := X.mg) (by rw [I1.ok.glob]; exact (I1.mod.glob.keeps I1.bk).extBut hx TB.gP) e1 e2 (keep3 _ _ e4 (I1.bk _ _ e5)) e6 e7 e8 ?_
    intro h' hn' hs'
    obtain ⟨more, rfl⟩ := hmore
    have J2 := GxR.inv_tab (more := more) (h' := h3) (g' := sb.gens) (d' := sb.drawn) (t' := tk) I1 hP keep3 hP3 I1.bare
    have keep' : ∀ b o, h3.get? b = some o → h'.get? b = some o := fun b o e => hs'.extBut b o (Nat.ne_of_lt (Heap.lt_size e)) (Heap.get?_push_of_some _ e)
    have hszz : h'.objs.size = h3.objs.size + 1 := by rw [hs'.1, Heap.size_push]
    have neq : ∀ b ∈ fp, upd H1 P (.tbl (ps ++ more)) b = none := fun b hb => by rw [upd_ne (nfP b hb)]; exact (f1 b hb).1
    refine hQ J (upd H1 P (.tbl (ps ++ more))) it fp tn { sb with heap := h3, toks := tk } (genEnv scope (cloFrom X.env.cells scope.names []) h3.objs.size code builtinsNs X.env) h'.objs.size sb.gens.size _ (q1 _ ⟨⟨_, upd_same, ht3⟩, fun b hb => upd_ne hb⟩) ?_
    refine ⟨J2, Tu, fun b hb => ⟨⟨neq b hb, (f1 b hb).2⟩, ?_⟩, ?_, ⟨code, rfl⟩, ⟨_, Heap.Ns.push hn' _⟩, fun b o e => Heap.get?_push_of_some _ (keep' b o e), rfl, I1.bare.push rfl, ⟨_, _, _, Heap.get?_push_size _ rfl, rfl, rfl, rfl⟩, Array.getElem?_push_size .., ?_⟩
    · obtain ⟨o, ho, _⟩ := Tu.obj _ _ st1 b hb
      exact Nat.lt_of_lt_of_le (Heap.lt_size ho) hsz
    · exact Tu.keep _ _ _ st1 fun b hb o e => Heap.get?_push_of_some _ (keep' b o (keep3 b o (nfP b hb) e))
    · show h3.objs.size < h'.objs.size
      omega
  refine ⟨I1.nolimit, ?_⟩
  cases hf : codeAmong gpos ps.toList with
  | none =>
    refine wpAny_genexprCodeX hcode (cd.code hPs ht) (cd.tab hPs) hf fun c' h' tk hx hge hlt hco' _ htab' _ => ?_
    obtain ⟨o1, vs, f1, tf, fl, tg, inF, tx, tt, op, _, _, _, _, _, _, _, _, _, htr, _⟩ := hco'
    exact cont _ h' tk _ hx (Nat.le_trans hge (Nat.le_of_lt hlt)) htab'.2 ⟨_, rfl⟩ htr
  | some cv =>
    refine wpAny_genexprCode_hit hcode (cd.code hPs ht) hf ?_
    exact cont cv sb.heap sb.toks ps (Heap.ExtBut.refl _ _) (Nat.le_refl _) hPs ⟨#[], by simp⟩ ht
end
end EV

set_option Elab.async false
set_option linter.all false
set_option autoImplicit false
set_option maxRecDepth 100000
set_option maxHeartbeats 4000000
namespace EV
open PySem PySem.Spec PyProof.Rows L2
/-! ### all, any of a generator expression -/
theorem repin {X : Cx} {σ : L2.St} {H : Hp} {s s' : Shared} {L : List Addr} (hL : ∀ b ∈ L, ∃ o, s.heap.get? b = some o) (I : Inv X (pinsAt L s.heap) σ H s') : Inv X (pinsAt L s'.heap) σ H s' :=
  I.pins_of fun p hp => by
    obtain ⟨hb, e⟩ := of_pinsAt hp
    obtain ⟨o, ho⟩ := hL p.1 hb
    have z := I.pin (p.1, o) (List.mem_append_right _ (mem_pinsAt hb ho))
    have e' : o = p.2 := by
      have := z.1.symm.trans e
      exact Option.some.inj this
    rw [e'] at z
    exact z
section
variable {X : Cx} {pins : List (Addr × Obj)} {σ : L2.St} {H : Hp} {s : Shared}
variable {elt tg iter : Expr} {ifs : List Expr} {scope : Scope} {gpos : Pos} {J : It} {H2 : Hp} {it : Addr} {fp : List Addr} {tn : Nat → Heap → Prop} {sB : Shared} {cenv : Env} {ag gn : Nat} {s5 : Shared}
theorem over_frames {A : Around} {st : List Env} {cenv : Env} (h : A.frames = some st) {it : Value} : (A.over (.compLoop (.GeneratorExp elt [⟨tg, iter, ifs, 0⟩] scope gpos) 0 it .none cenv) []).frames = some (cenv :: st) := by
  show pushEnvs [cenv] (pushEnvs [] A.frames) = _
  rw [h]; rfl
theorem Born.start {own : List (Str × Nat)} {A1 : Around} (B : Born X pins σ elt tg iter ifs scope gpos J H2 it fp tn sB cenv ag gn s5) (ok : GenOk X.N X.env.scope scope own) (hN : X.N.Nodup) (hh : A1.handled = none) (hf : A1.frames = X.A.frames) :
    Inv (genCx X (A1.over (.compLoop (.GeneratorExp elt [⟨tg, iter, ifs, 0⟩] scope gpos) 0 (.ref it) .none cenv) []) sB H2 cenv fp) (pinsAt [ag] s5.heap) (wipe σ (own.map (·.2))) H2 s5 := by
  obtain ⟨code, hc⟩ := B.env
  obtain ⟨m, hn⟩ := B.ns
  have I := gen_start (s5 := s5) (A' := A1.over (.compLoop (.GeneratorExp elt [⟨tg, iter, ifs, 0⟩] scope gpos) 0 (.ref it) .none cenv) []) B.inv ok hN B.fpk hc hh (over_frames (hf.trans B.inv.ok.frames)) hn B.kp B.os B.bare
  have hL : cenv.locals = sB.heap.objs.size := by rw [← hc]; rfl
  obtain ⟨o, nm, qn, ho, hcl, hdt⟩ := B.isg
  have := I.pinned (fp := [ag]) (fun b hb => ?_) (fun b hb => ?_)
  · exact this
  · have e : b = ag := by simpa using hb
    subst e
    refine ⟨B.inv.hok.fresh (Nat.le_of_lt B.agl), ?_, fun z => ?_, .inr (Nat.le_of_lt B.agl), fun x c ec z => ?_, fun p hp => absurd (show p ∈ ([] : List (Addr × Obj)) ++ [] from hp) (by simp)⟩
    · show b ≠ cenv.locals
      rw [hL]; exact Nat.ne_of_gt B.agl
    · obtain ⟨_, o', ho', _⟩ := B.inv.stack.mem z
      exact absurd (Nat.lt_trans (Heap.lt_size ho') B.agl) (Nat.lt_irrefl _)
    · have ec : cenv.cells.lookup x = some c := ec
      have : c < sB.heap.objs.size := by
        have hcl : cenv.cells = cloFrom X.env.cells scope.names [] := by rw [← hc]; rfl
        rw [hcl] at ec
        rcases cloFrom_mem (PySem.mem_of_lookup ec) with hm | ⟨h1, rfl⟩
        · cases hm
        · obtain ⟨c', hc'⟩ : ∃ c, X.env.cells.lookup x = some c := (ok.free _ h1 rfl).elim (fun kk => B.inv.ok.has _ (.inl kk)) fun kk => B.inv.ok.has _ (.inr kk)
          rw [hc']
          obtain ⟨w, z⟩ := B.inv.cell _ _ hc'
          exact z.lt
      rw [z] at this
      exact absurd (Nat.lt_trans this B.agl) (Nat.lt_irrefl _)
  · have e : b = ag := by simpa using hb
    subst e
    exact ⟨o, ho, fun v z => by rw [hdt.1] at z; cases z⟩
/-- what is known behind it, seen from outside -/
theorem Born.out {A' : Around} {own : List (Str × Nat)} {pl : List (Addr × Obj)} {σ8 : L2.St} {Hx : Hp} {s' : Shared} (B : Born X pins σ elt tg iter ifs scope gpos J H2 it fp tn sB cenv ag gn s5) (I : Inv (genCx X A' sB H2 cenv fp) pl σ8 Hx s') : Inv X pins σ Hx s' :=
  B.inv.call' (ch := fp) I.os I.base I.hok I.bare fun b hb => ⟨(B.fpk b hb).1.2.2.2.1, (B.fpk b hb).1.2.1, (B.fpk b hb).1.2.2.2.2.1, (B.fpk b hb).1.2.2.2.2.2⟩
def tGb (P : Addr) (stop : Bool) (wi : TI) (g : TG) (tt : TT) (te : TE) (vs : List Nat) : TE := fun σ H Q => wi σ H fun J H1 => GxR.TabG H1 P ∧ ∀ H2, GxR.Tabbed P H1 H2 → ∃ Wn : Nat → Nat → Hp → Prop, (∃ m, Wn 0 m H2) ∧ ∀ i m Hn, Wn i m Hn →
  (J.stop i Hn ∧ Q (.bl (!stop)) Hn) ∨ (J.go i Hn ∧ 0 < m ∧ ∃ Nx : Hp → Prop, (∀ Ha, Nx Ha → ∃ m', m' < m ∧ Wn (i + 1) m' Ha) ∧ ∀ x Ha, J.yld i Hn x Ha → g x (wipe σ vs) Ha fun σa Hb => wipe σa vs = wipe σ vs ∧ tt σa Hb fun b Hc =>
    if b = true then te σa Hc fun y Hd => ∃ k, y = .bl k ∧ (if k = stop then Q (.bl stop) Hd else Nx Hd) else Nx Hc)
abbrev gvB (X : Cx) (A : Around) (σ : L2.St) (vs : List Nat) (stop : Bool) (Q : VK) (Wn : Nat → Nat → Hp → Prop) (elt tg iter : Expr) (ifs : List Expr) (scope : Scope) (gpos : Pos) (H2 : Hp) (it : Addr) (fp : List Addr) (tn : Nat → Heap → Prop) (sB : Shared) (cenv : Env) (ag gn : Nat) : GV where
  X := X
  A := A
  sB := sB
  HB := H2
  cenv := cenv
  fp := fp
  L := [ag]
  it := it
  tn := tn
  σ := wipe σ vs
  vs := vs
  γ := Unit
  tie := fun _ _ => True
  Wn := fun i m _ H => Wn i m H
  Fn := fun _ Hx => Q (.bl (!stop)) Hx
  Cy := fun _ y Hd Nx => ∃ k, y = .bl k ∧ (if k = stop then Q (.bl stop) Hd else Nx () Hd)
  elt := elt
  tg := tg
  iter := iter
  ifs := ifs
  scope := scope
  pos := gpos
  ag := ag
  gn := gn
/-- the contexts of the element -/
def GenCtx (X : Cx) (A' : Around) (Z : Cx) : Prop := ∃ sB H2 cenv fp, Z = genCx X A' sB H2 cenv fp
theorem gen_call {c P : Addr} {own : List (Str × Nat)} {wi : TI} {g : TG} {tt : TT} {te : TE} {stop : Bool} {name : String} {Q : VK}
    (hcall : ∀ {J : Nat → Shared → Prop} {Q : Value → Shared → Prop} {E : Value → Shared → Prop} {s : Shared} {ag n gn : Nat}, s.heap.IsGen ag gn → (∀ n s, J n s → wpAny (model X.prog X.w) X.A.in1 (pyNext (.ref ag)) (stepAll J Q stop n) E s) → J n s → wpAny (model X.prog X.w) X.A (call (.builtin name) [.ref ag]) Q E s)
    (hd : X.A.depth < recursionLimit) (hh : X.A.handled = none) (TB : LamX.TabB X.base X.mg c P) (hcode : X.env.code = .ref c) (hN : X.N.Nodup) (ok : GenOk X.N X.env.scope scope own) (walk : PI X tg iter wi)
    (pg : ∀ (s : Shared) (H : Hp) (C : Addr) (cl : List (Str × Addr)) (code : Value) (fp : List Addr) (it : Value), PG (genCx X (X.A.in1.in1.over (.compLoop (.GeneratorExp elt [⟨tg, iter, ifs, 0⟩] scope gpos) 0 it .none (genEnv scope cl C code builtinsNs X.env)) []) s H (genEnv scope cl C code builtinsNs X.env) fp) tg g)
    (pt : ∀ (s : Shared) (H : Hp) (C : Addr) (cl : List (Str × Addr)) (code : Value) (fp : List Addr) (it : Value), PTs (genCx X (X.A.in1.in1.over (.compLoop (.GeneratorExp elt [⟨tg, iter, ifs, 0⟩] scope gpos) 0 it .none (genEnv scope cl C code builtinsNs X.env)) []) s H (genEnv scope cl C code builtinsNs X.env) fp) ifs tt)
    (pe : ∀ (s : Shared) (H : Hp) (C : Addr) (cl : List (Str × Addr)) (code : Value) (fp : List Addr) (it : Value), PE (genCx X (X.A.in1.in1.over (.compLoop (.GeneratorExp elt [⟨tg, iter, ifs, 0⟩] scope gpos) 0 it .none (genEnv scope cl C code builtinsNs X.env)) []) s H (genEnv scope cl C code builtinsNs X.env) fp) elt te)
    (hs : ∀ x, genFold iter X.env x = pure x) (I : Inv X pins σ H s) (h : tGb P stop wi g tt te (own.map (·.2)) σ H Q) :
    wpAny (model X.prog X.w) X.A (eval (.GeneratorExp elt [⟨tg, iter, ifs, 0⟩] scope gpos) X.env) (fun a s1 => wpAny (model X.prog X.w) X.A (call (.builtin name) [a]) (EP X pins σ Q) X.xe s1) X.xe s := by
  refine gen_make hd TB hcode ok walk hs I h fun J H2 it fp tn sB cenv ag gn s5 hR B => ?_
  obtain ⟨Wn, ⟨m0, w0⟩, turn⟩ := hR
  have stt := B.start (A1 := X.A.in1.in1) ok hN hh rfl
  obtain ⟨code, hc⟩ := B.env
  have K : (gvB X X.A.in1.in1 σ (own.map (·.2)) stop Q Wn elt tg iter ifs scope gpos H2 it fp tn sB cenv ag gn).Ok J g tt te := by
    subst hc
    refine ⟨B.Tu, pg _ _ _ _ _ _ _, pt _ _ _ _ _ _ _, pe _ _ _ _ _ _ _, ok.co, fun b hb z => ?_, hh, fun i m a Hn w => ?_⟩
    · have e : b = ag := by simpa using hb
      subst e
      exact absurd (Nat.lt_trans (B.fpk b z).2 B.agl) (Nat.lt_irrefl _)
    · rcases turn i m Hn w with q | ⟨q1, q2, Nx, q3, q4⟩
      · exact .inl q
      · exact .inr ⟨q1, q2, fun _ => Nx, fun _ Ha z => q3 Ha z, fun x Ha y => q4 x Ha y⟩
  generalize hv : gvB X X.A.in1.in1 σ (own.map (·.2)) stop Q Wn elt tg iter ifs scope gpos H2 it fp tn sB cenv ag gn = v at K
  have obs : ∀ b ∈ v.L, ∃ o, s5.heap.get? b = some o := fun b hb => by
    subst hv
    have e : b = ag := by simpa using hb
    subst e
    obtain ⟨o, _, _, ho, _⟩ := B.isg
    exact ⟨o, ho⟩
  refine hcall (J := v.GJ) (n := m0) B.isg (fun n s1 hJ => ?_) ?_
  · have nx := K.next (A := X.A.in1) (by subst hv; rfl) hd (by subst hv; simp) hJ (E := X.xe)
    subst hv
    refine wpAny_mono nx (fun r s2 hr => ?_) fun _ _ e => e
    cases r with
    | none =>
      obtain ⟨a, Hx, I2, f2, q2, _⟩ := hr
      exact ⟨.bl (!stop), Hx, B.out (own := own) I2, rfl, q2⟩
    | some u =>
      obtain ⟨k, hk, ⟨i, m, a, y, Hd, σ8, Nx, y1, y2, y3, y4, y5, y6, y7, _, y8⟩, isg, gs, hgs, hgo⟩ := hr
      obtain ⟨b, rfl, hb⟩ := y7
      have hu : u = .bool b := y6
      refine ⟨b, hu, ?_⟩
      by_cases hbs : b = stop
      · rw [if_pos hbs] at hb ⊢
        exact ⟨.bl stop, Hd, B.out (own := own) y2, rfl, hb⟩
      · rw [if_neg hbs] at hb ⊢
        obtain ⟨m', hm', w'⟩ := y8 () Hd hb
        have obs1 : ∀ b ∈ [ag], ∃ o, s1.heap.get? b = some o := fun b hb => by
          have e : b = ag := by simpa using hb
          subst e
          obtain ⟨⟨o, _, _, ho, _⟩, _⟩ := hJ
          exact ⟨o, ho⟩
        refine ⟨k, hk, isg, ⟨i + 1, m', (), Hd, by omega, ?_, y4, y5, w', trivial⟩, gs, hgs, hgo⟩
        exact (repin obs1 y2).weak (by show (wipe σ (own.map (·.2))).length = _; have y3 : wipe σ8 (own.map (·.2)) = wipe σ (own.map (·.2)) := y3; rw [← y3, wipe_length]) fun j z ev => by
          have y3 : wipe σ8 (own.map (·.2)) = wipe σ (own.map (·.2)) := y3
          have ev : (wipe σ (own.map (·.2)))[j]? = some (some z) := ev
          rw [← y3] at ev
          exact (wipe_some ev).1
  · subst hv
    exact ⟨B.isg, ⟨0, m0, (), H2, Nat.le_refl _, stt, B.tn0, fun b hb => (B.fpk b hb).1.1, w0, trivial⟩, _, B.gst, fun s'' hg => K.goes m0 s'' hg⟩
end
end EV

set_option Elab.async false
set_option linter.all false
set_option autoImplicit false
set_option maxRecDepth 100000
set_option maxHeartbeats 4000000
namespace EV
open PySem PySem.Spec PyProof.Rows L2
/-! ### all, any: what they mean -/
def genB (g : Gt) (tt : Tx) (te : Ex) (e : Sl) (stop : Bool) : List D → Mem → Res Bool
  | [], M => .ok (!stop) M
  | d :: ds, M => match g d e M with
    | none => .bad
    | some e1 => match tt e1 M with
      | .ok true M1 => match te e1 M1 with
        | .ok (.bl k) M2 => if k = stop then .ok stop M2 else genB g tt te e stop ds M2
        | _ => .bad
      | .ok false M1 => genB g tt te e stop ds M1
      | _ => .bad
def gbEnd (b n : Nat) (fz : Option Nat) (r : Res Bool) : Res D :=
  match r with
  | .ok k M => match thawO fz ⟨b, M.c.take n⟩ with
    | some M1 => .ok (.bl k) M1
    | none => .bad
  | _ => .bad
def eGb (stop : Bool) (vs : List Nat) (it : Ix) (g : Gt) (tt : Tx) (te : Ex) : Ex := fun e M => match it e M with
  | .ok (ds, fz) M1 => gbEnd M1.b M1.c.length fz (genB g tt te (wipeD e vs) stop ds ⟨M1.c.length, M1.c⟩)
  | .exc c fs M1 => .exc c fs M1
  | .bad => .bad
section
variable {G : Kx} {as as' : List Addr} {M M' : Mem} {H H' : Hp}
theorem tabbed_ok {P : Addr} (r : Rel G as M H) (hP : P ∈ G.T.tabs) (t : GxR.Tabbed P H H') : Stp as M H as M H' ∧ Rel G as M H' := by
  obtain ⟨⟨ps, eP, _⟩, nP⟩ := r.tab P hP
  have st : Stp as M H as M H' := by
    refine ⟨fun _ _ h => h, fun _ h => .inl h, fun a o e n ht => ?_, fun a qs e n => ?_, fun _ _ h => h, rfl, fun _ _ h => h, fun _ h => h⟩
    · rw [t.2 a (fun z => ht ps (by rw [z, eP] at e; exact (Option.some.inj e).symm))]; exact e
    · by_cases z : a = P
      · rw [z]
        obtain ⟨qs, e', _⟩ := t.1
        exact ⟨qs, e'⟩
      · exact ⟨qs, by rw [t.2 a z]; exact e⟩
  refine ⟨st, r.len, r.nd, r.bl, fun k a c e1 e2 => (r.cell k a c e1 e2).step r st (t.2 a (ne_at e1 nP).symm), fun p hp => ⟨?_, (r.tab p hp).2⟩⟩
  by_cases z : p = P
  · rw [z]; exact t.1
  · obtain ⟨qs, e, w⟩ := (r.tab p hp).1
    exact ⟨qs, by rw [t.2 p z]; exact e, w⟩
theorem unb (r : Rel G as M H) (s : Stp as ⟨M.c.length, M.c⟩ H as' M' H') (r' : Rel G as' M' H') : Stp as M H as' ⟨M.b, M'.c⟩ H' ∧ Rel G as' ⟨M.b, M'.c⟩ H' := by
  have hl : M.c.length ≤ M'.c.length := by have h1 := r'.bl; have h2 := s.b; simp only at h2; omega
  exact ⟨⟨s.pre, s.new, s.keep0, s.tbk, s.frz, rfl, fun n hn h => s.low n (Nat.le_trans hn r.bl) h, s.hd⟩, ⟨r'.len, r'.nd, Nat.le_trans r.bl hl, r'.cell, r'.tab⟩⟩
end
section
variable {X : Cx} {T : Tb} {W : WX} {pos : Pos} {tg iter elt : Expr} {ifs : List Expr} {scope : Scope} {own : List (Str × Nat)} {g : Gt} {it : Ix} {tt : Tx} {te : Ex} {sl : List Nat}
theorem gb_read (stop : Bool) {P : Addr} (hP : P ∈ T.tabs) {vs : List Nat} (hsl : ∀ i ∈ sl, i ∈ vs) {σ : L2.St} {H : Hp} {Q : VK} (h : tE (gx X T) W (eGb stop vs it g tt te) σ H Q) : tGb P stop (tI (gx X T) W it) (tG (gx X T) sl g) (tT (gx X T) wF tt) (tE (gx X T) wF te) vs σ H Q := by
  obtain ⟨as, M, e, r, q, h⟩ := h
  refine ⟨as, M, e, r, q, ?_⟩
  unfold eGb at h
  cases ht : it e M with
  | bad => rw [ht] at h; exact h
  | exc c fs M1 => rw [ht] at h; exact h
  | ok pr M1 =>
    obtain ⟨ds, fz⟩ := pr
    rw [ht] at h
    simp only at h
    intro as1 H1 J Mb sb lk r1 im
    refine ⟨(r1.tab P hP).1, fun H2 tb => ?_⟩
    obtain ⟨s12, r2⟩ := tabbed_ok r1 hP tb
    have s1 := sb.trans (lk.stp (H := H1))
    have q1 := (q.step r s1).step r1 s12
    have rb : Rel (gx X T) as1 ⟨M1.c.length, M1.c⟩ H2 := ent_rel true r2
    refine ⟨fun i m Hn => ∃ as2 M2, m = ds.length - i ∧ i ≤ ds.length ∧ Stp as1 ⟨M1.c.length, M1.c⟩ H2 as2 M2 Hn ∧ Rel (gx X T) as2 M2 Hn ∧ PostE (gx X T) W σ as M H Q (gbEnd M1.b M1.c.length fz (genB g tt te (wipeD e vs) stop (ds.drop i) M2)),
      ⟨ds.length, as1, ⟨M1.c.length, M1.c⟩, rfl, Nat.zero_le _, Stp.refl, rb, h⟩, ?_⟩
    -- the result, seen from outside
    have fin : ∀ {k as2 M2 Hn}, Stp as1 ⟨M1.c.length, M1.c⟩ H2 as2 M2 Hn → Rel (gx X T) as2 M2 Hn → PostE (gx X T) W σ as M H Q (gbEnd M1.b M1.c.length fz (.ok k M2)) → Q (.bl k) Hn := fun {k as2 M2 Hn} s2 r2' hp => by
      unfold gbEnd at hp
      simp only at hp
      split at hp
      · rename_i M4 hM
        obtain ⟨a1, a2⟩ := trunc_ok r2 s2 r2'
        obtain ⟨b1, b2⟩ := thaw_ok (G := gx X T) lk.locked (lk.stp.trans (s12.trans a1)) a2 hM
        exact hp as1 Hn (.bl k) (sb.trans b1) b2 (.bl k)
      · exact hp.elim
    rintro i m Hn ⟨as2, M2, rfl, hi, s2, r2', hpost⟩
    obtain ⟨sx, rx⟩ := unb r2 s2 r2'
    have sx := s12.trans sx
    by_cases hlt : i < ds.length
    · refine .inr ⟨im.go i as2 _ Hn sx rx hlt, by omega, fun H5 => ∃ as5 M5, Stp as1 ⟨M1.c.length, M1.c⟩ H2 as5 M5 H5 ∧ Rel (gx X T) as5 M5 H5 ∧ PostE (gx X T) W σ as M H Q (gbEnd M1.b M1.c.length fz (genB g tt te (wipeD e vs) stop (ds.drop (i + 1)) M5)), ?_, ?_⟩
      · rintro H5 ⟨as5, M5, a1, a2, a3⟩
        exact ⟨ds.length - (i + 1), by omega, as5, M5, rfl, hlt, a1, a2, a3⟩
      · intro x H3 hy
        obtain ⟨gy, rvx⟩ := im.yld i as2 _ Hn x H3 ds[i] sx rx (List.getElem?_eq_getElem hlt) hy
        have sy := gy.stp (as := as2) (M := M2)
        have ry := gy.rel r2'
        have qw : RSl (gx X T) as2 H3 (wipe σ vs) (wipeD e vs) := wipe_rsl (((q.step r s1).step r1 sx).step rx gy.stp) vs
        refine ⟨as2, M2, ds[i], wipeD e vs, ry, qw, rvx, ?_⟩
        rw [List.drop_eq_getElem_cons hlt] at hpost
        simp only [genB] at hpost
        cases hg : g ds[i] (wipeD e vs) M2 with
        | none => rw [hg] at hpost; exact hpost.elim
        | some e1 =>
          rw [hg] at hpost
          intro σ' q' b'
          refine ⟨wipe_but b' hsl, as2, M2, e1, ry, q', ?_⟩
          simp only at hpost
          cases htt : tt e1 M2 with
          | bad => rw [htt] at hpost; exact hpost.elim
          | exc c fs M3 => rw [htt] at hpost; exact hpost.elim
          | ok b M3 =>
            rw [htt] at hpost
            intro as3 H4 s3 r3
            have s23 := s2.trans (sy.trans s3)
            cases b with
            | false =>
              rw [if_neg Bool.false_ne_true]
              exact ⟨as3, M3, s23, r3, hpost⟩
            | true =>
              rw [if_pos rfl]
              refine ⟨as3, M3, e1, r3, q'.step ry s3, ?_⟩
              simp only at hpost
              cases hte : te e1 M3 with
              | bad => rw [hte] at hpost; exact hpost.elim
              | exc c fs M4 => rw [hte] at hpost; exact hpost.elim
              | ok y M4 =>
                rw [hte] at hpost
                intro as4 H5 v s4 r4 rv
                cases y with
                | bl k =>
                  cases rv
                  refine ⟨k, rfl, ?_⟩
                  simp only at hpost
                  by_cases hk : k = stop
                  · rw [if_pos hk] at hpost ⊢
                    exact fin (s23.trans s4) r4 hpost
                  · rw [if_neg hk] at hpost ⊢
                    exact ⟨as4, M4, s23.trans s4, r4, hpost⟩
                | non => exact hpost.elim
                | int _ => exact hpost.elim
                | str _ => exact hpost.elim
                | tup _ => exact hpost.elim
                | lst _ => exact hpost.elim
                | dct _ _ => exact hpost.elim
                | obj _ => exact hpost.elim
                | fz _ => exact hpost.elim
    · have e' : i = ds.length := by omega
      subst e'
      refine .inl ⟨im.stop _ as2 _ Hn sx rx (Nat.le_refl _), ?_⟩
      rw [List.drop_length] at hpost
      simp only [genB] at hpost
      exact fin s2 r2' hpost
end
end EV

set_option Elab.async false
set_option linter.all false
set_option autoImplicit false
set_option maxRecDepth 100000
set_option maxHeartbeats 4000000
namespace EV
open PySem PySem.Spec PyProof.Rows L2
theorem boot_all : bootBuiltins "all" = some (.builtin "all") := by with_unfolding_all rfl
/-- what a def's generator expressions ask of its code object -/
structure TabX (X : Cx) (T : Tb) : Prop where
  ex : ∃ c P, LamX.TabB X.base X.mg c P ∧ X.env.code = .ref c ∧ P ∈ T.tabs
section
variable {X : Cx} {T : Tb} {W : WX} {pos p gpos : Pos} {tg iter elt : Expr} {ifs : List Expr} {scope : Scope} {own : List (Str × Nat)} {g : Gt} {it : Ix} {tt : Tx} {te : Ex} {sl : List Nat} {k m : Nat}
/-- the context of a generator expression's element -/
abbrev gX (X : Cx) (elt tg iter : Expr) (ifs : List Expr) (scope : Scope) (gpos : Pos) (s : Shared) (H : Hp) (C : Addr) (cl : List (Str × Addr)) (code : Value) (fp : List Addr) (it : Value) : Cx :=
  genCx X (X.A.in1.in1.over (.compLoop (.GeneratorExp elt [⟨tg, iter, ifs, 0⟩] scope gpos) 0 it .none (genEnv scope cl C code builtinsNs X.env)) []) s H (genEnv scope cl C code builtinsNs X.env) fp
theorem room_gen {A : Around} {code : Code} (hr : Room m A) (hk : k + 1 ≤ m) (hw : code.weight = 1) (hu : code.cUnits = 3) : Room k (A.in1.in1.over code []) := by
  have h1 := hr.dp
  have h2 := hr.un
  refine ⟨hr.hd, ?_, ?_⟩
  · show A.depth + 0 + code.weight + 3 * k + 5 < _
    omega
  · show A.units + 1 + 1 + 0 + code.cUnits + 16 * k + 200 < _
    omega
theorem rm_gen {A : Around} {code : Code} (hr : Room m A) (hu : code.cUnits = 3) : (A.in1.in1.over code []).units + 66 < cLine := by
  have h2 := hr.un
  show A.units + 1 + 1 + 0 + code.cUnits + 66 < _
  omega
theorem se_gb0 (stop : Bool) (name : String) (k : Nat) (own : List (Str × Nat)) {x : Str}
    (hcall : ∀ {J : Nat → Shared → Prop} {Q : Value → Shared → Prop} {E : Value → Shared → Prop} {s : Shared} {ag n gn : Nat}, s.heap.IsGen ag gn → (∀ n s, J n s → wpAny (model X.prog X.w) X.A.in1 (pyNext (.ref ag)) (stepAll J Q stop n) E s) → J n s → wpAny (model X.prog X.w) X.A (call (.builtin name) [.ref ag]) Q E s)
    (hb : bootBuiltins x = some (.builtin name)) (tx : TabX X T) (hr : Room m X.A) (hk : k + 1 ≤ m) (hN : X.N.Nodup) (hm : X.mg x = none) (hi : SI X T W tg iter it)
    (hg : ∀ (s : Shared) (H : Hp) (C : Addr) (cl : List (Str × Addr)) (code : Value) (fp : List Addr) (it : Value), Room k (gX X elt tg iter ifs scope gpos s H C cl code fp it).A → Rm (gX X elt tg iter ifs scope gpos s H C cl code fp it) → SG (gX X elt tg iter ifs scope gpos s H C cl code fp it) T tg sl g)
    (ht : ∀ (s : Shared) (H : Hp) (C : Addr) (cl : List (Str × Addr)) (code : Value) (fp : List Addr) (it : Value), Room k (gX X elt tg iter ifs scope gpos s H C cl code fp it).A → Rm (gX X elt tg iter ifs scope gpos s H C cl code fp it) → STs (gX X elt tg iter ifs scope gpos s H C cl code fp it) T wF ifs tt)
    (he : ∀ (s : Shared) (H : Hp) (C : Addr) (cl : List (Str × Addr)) (code : Value) (fp : List Addr) (it : Value), Room k (gX X elt tg iter ifs scope gpos s H C cl code fp it).A → Rm (gX X elt tg iter ifs scope gpos s H C cl code fp it) → SE (gX X elt tg iter ifs scope gpos s H C cl code fp it) T wF elt te)
    (hgl : Gl X x) (ok : genC X.N X.env.scope scope own = true) (hsl : ∀ i ∈ sl, i ∈ own.map (·.2)) (hs : ∀ x, genFold iter X.env x = pure x) (hn : x ≠ "__name__") (hdb : (x == ("__debug__" : Str)) = false)
    (hst : starEach [.GeneratorExp elt [⟨tg, iter, ifs, 0⟩] scope gpos] X.env = (false, eval (.GeneratorExp elt [⟨tg, iter, ifs, 0⟩] scope gpos) X.env) :: starEach [] X.env) :
    SE X T W (.Call (.Name x p) [.GeneratorExp elt [⟨tg, iter, ifs, 0⟩] scope gpos] [] pos) (eGb stop (own.map (·.2)) it g tt te) := by
  refine ⟨fun pins s σ H Q I h => ?_⟩
  obtain ⟨c, P, TB, hc, hP⟩ := tx.ex
  have hh := gb_read (X := X) stop hP hsl h
  refine wpAny_Call_Name_kw (ld_blt I hgl hm hb ?_ hn hdb)
  refine PyProof.Rows.callWith_builtin1 ?_ hst (by rfl)
  rw [hst]
  show wpAny _ _ (spliced ((false, eval (.GeneratorExp elt [⟨tg, iter, ifs, 0⟩] scope gpos) X.env) :: backTo pos (starEach [] X.env))) _ _ s
  refine Calls.spliced_cons ?_
  have key := gen_call (pins := pins) (s := s) (Q := Q) hcall (by have := hr.dp; omega) hr.hd TB hc hN (genOk_by ok) hi (fun s H C cl code fp it => hg s H C cl code fp it (room_gen hr hk rfl rfl) (rm_gen hr rfl)) (fun s H C cl code fp it => ht s H C cl code fp it (room_gen hr hk rfl rfl) (rm_gen hr rfl))
    (fun s H C cl code fp it => he s H C cl code fp it (room_gen hr hk rfl rfl) (rm_gen hr rfl)) hs I hh
  exact wpAny_mono key (fun a s1 h1 => Calls.spliced_nil h1) fun _ _ e => e
theorem se_all (k : Nat) (own : List (Str × Nat)) (tx : TabX X T) (hr : Room m X.A) (hk : k + 1 ≤ m) (hN : X.N.Nodup) (hm : X.mg "all" = none) (hi : SI X T W tg iter it)
    (hg : ∀ (s : Shared) (H : Hp) (C : Addr) (cl : List (Str × Addr)) (code : Value) (fp : List Addr) (it : Value), Room k (gX X elt tg iter ifs scope gpos s H C cl code fp it).A → Rm (gX X elt tg iter ifs scope gpos s H C cl code fp it) → SG (gX X elt tg iter ifs scope gpos s H C cl code fp it) T tg sl g)
    (ht : ∀ (s : Shared) (H : Hp) (C : Addr) (cl : List (Str × Addr)) (code : Value) (fp : List Addr) (it : Value), Room k (gX X elt tg iter ifs scope gpos s H C cl code fp it).A → Rm (gX X elt tg iter ifs scope gpos s H C cl code fp it) → STs (gX X elt tg iter ifs scope gpos s H C cl code fp it) T wF ifs tt)
    (he : ∀ (s : Shared) (H : Hp) (C : Addr) (cl : List (Str × Addr)) (code : Value) (fp : List Addr) (it : Value), Room k (gX X elt tg iter ifs scope gpos s H C cl code fp it).A → Rm (gX X elt tg iter ifs scope gpos s H C cl code fp it) → SE (gX X elt tg iter ifs scope gpos s H C cl code fp it) T wF elt te)
    (hgl : Gl X "all" := by rfl) (ok : genC X.N X.env.scope scope own = true := by rfl) (hsl : ∀ i ∈ sl, i ∈ own.map (·.2) := by decide) (hs : ∀ x, genFold iter X.env x = pure x := by intro _; rfl)
    (hst : starEach [.GeneratorExp elt [⟨tg, iter, ifs, 0⟩] scope gpos] X.env = (false, eval (.GeneratorExp elt [⟨tg, iter, ifs, 0⟩] scope gpos) X.env) :: starEach [] X.env := by rfl) :
    SE X T W (.Call (.Name "all" p) [.GeneratorExp elt [⟨tg, iter, ifs, 0⟩] scope gpos] [] pos) (eGb false (own.map (·.2)) it g tt te) :=
  se_gb0 false "all" k own (fun a b c => call_allG a b c) boot_all tx hr hk hN hm hi hg ht he hgl ok hsl hs (by decide) (by decide) hst
theorem se_any (k : Nat) (own : List (Str × Nat)) (tx : TabX X T) (hr : Room m X.A) (hk : k + 1 ≤ m) (hN : X.N.Nodup) (hm : X.mg "any" = none) (hi : SI X T W tg iter it)
    (hg : ∀ (s : Shared) (H : Hp) (C : Addr) (cl : List (Str × Addr)) (code : Value) (fp : List Addr) (it : Value), Room k (gX X elt tg iter ifs scope gpos s H C cl code fp it).A → Rm (gX X elt tg iter ifs scope gpos s H C cl code fp it) → SG (gX X elt tg iter ifs scope gpos s H C cl code fp it) T tg sl g)
    (ht : ∀ (s : Shared) (H : Hp) (C : Addr) (cl : List (Str × Addr)) (code : Value) (fp : List Addr) (it : Value), Room k (gX X elt tg iter ifs scope gpos s H C cl code fp it).A → Rm (gX X elt tg iter ifs scope gpos s H C cl code fp it) → STs (gX X elt tg iter ifs scope gpos s H C cl code fp it) T wF ifs tt)
    (he : ∀ (s : Shared) (H : Hp) (C : Addr) (cl : List (Str × Addr)) (code : Value) (fp : List Addr) (it : Value), Room k (gX X elt tg iter ifs scope gpos s H C cl code fp it).A → Rm (gX X elt tg iter ifs scope gpos s H C cl code fp it) → SE (gX X elt tg iter ifs scope gpos s H C cl code fp it) T wF elt te)
    (hgl : Gl X "any" := by rfl) (ok : genC X.N X.env.scope scope own = true := by rfl) (hsl : ∀ i ∈ sl, i ∈ own.map (·.2) := by decide) (hs : ∀ x, genFold iter X.env x = pure x := by intro _; rfl)
    (hst : starEach [.GeneratorExp elt [⟨tg, iter, ifs, 0⟩] scope gpos] X.env = (false, eval (.GeneratorExp elt [⟨tg, iter, ifs, 0⟩] scope gpos) X.env) :: starEach [] X.env := by rfl) :
    SE X T W (.Call (.Name "any" p) [.GeneratorExp elt [⟨tg, iter, ifs, 0⟩] scope gpos] [] pos) (eGb true (own.map (·.2)) it g tt te) :=
  se_gb0 true "any" k own (fun a b c => call_anyG a b c) boot_any tx hr hk hN hm hi hg ht he hgl ok hsl hs (by decide) (by decide) hst
end
/-! ### defs whose text holds generator expressions -/
section
variable {P : Program} {w : World} {K : PySem.W.Frag} {mg : Str → Option Value} {base : Heap} {T : Tb}
structure TabK (K : PySem.W.Frag) (mg : Str → Option Value) (base : Heap) (T : Tb) (x : Str) : Prop where
  ex : ∃ oc od fd osl, K.lookup (He.ga K x) = some ⟨oc, od, .func fd, osl⟩ ∧ fd.code = .ref (tabOf K x).1
  nm : mg x = some (.ref (He.ga K x))
  tb : LamX.TabB base mg (tabOf K x).1 (tabOf K x).2
  tm : (tabOf K x).2 ∈ T.tabs
theorem cal_ofG {x : Str} {st : Stmt} {N ps : List Str} {k n : Nat} (tr : Bool) {body : Sx} (dd : Dd K mg x st ps) (tk : TabK K mg base T x) (S : FnScope N ps (defScope st)) (hn : ps.length = n)
    (hb : ∀ (f : Addr) (cdv : Value) (A : Around) (outer : List Env) (s : Shared) (H : Hp) (E : XK), TabX (cxOf (L2.CX P w) P w K mg base N x (defScope st) f cdv A outer s H E) T → Room k (A.deeper (envOfC x (defScope st) s.heap.objs.size f cdv)) →
      SB (cxOf (L2.CX P w) P w K mg base N x (defScope st) f cdv A outer s H E) T (fun cls d _ H' => E cls d H') (defBody st) body) :
    Cal P w K mg base T x (k + 1) n (mkFn N.length tr body) := by
  obtain ⟨f, fd, F, hm, hbd⟩ := dd.ex
  have hf : f = He.ga K x := by
    have := hm.symm.trans tk.nm
    cases this
    rfl
  refine ⟨f, fd, ps, ?_, hm, F.kp, hbd, hn⟩
  obtain ⟨oc, od, dV, kV, doc, pm, an, cdv, ct, osl, rfl, lk, hcd, _, _⟩ := F.ex
  obtain ⟨oc', od', fd', osl', lk', hc'⟩ := tk.ex
  rw [← hf, lk] at lk'
  have hce : cdv = .ref (tabOf K x).1 := by
    cases lk'
    exact hc'
  refine fn_of lk hcd S (fun vs H Q E h => h.1) fun A outer s H vs Q E hr h => ⟨_, hb f cdv A outer s H E ⟨_, _, tk.tb, hce, tk.tm⟩ hr, ?_⟩
  obtain ⟨hl, as, M, ds, r, rvs, hp⟩ := h
  exact ⟨as, entM tr M, _, ent_rel tr r, start_rsl rvs, fin_post r hp⟩
theorem cal_byG {x : Str} {st : Stmt} {N ps : List Str} {k n : Nat} (tr : Bool) {body : Sx} (dd : Dd K mg x st ps) (tk : TabK K mg base T x) (S : FnScope N ps (defScope st)) (hn : ps.length = n)
    (hb : ∀ (f : Addr) (cdv : Value) (A : Around) (outer : List Env) (s : Shared) (H : Hp) (E : XK), TabX (cxOf (L2.CX P w) P w K mg base N x (defScope st) f cdv A outer s H E) T → Room k (cxOf (L2.CX P w) P w K mg base N x (defScope st) f cdv A outer s H E).A → N.Nodup → Rm (cxOf (L2.CX P w) P w K mg base N x (defScope st) f cdv A outer s H E) →
      Takes (cxOf (L2.CX P w) P w K mg base N x (defScope st) f cdv A outer s H E) (fun cls d _ H' => E cls d H') →
      PassesOwn (model P w) (cxOf (L2.CX P w) P w K mg base N x (defScope st) f cdv A outer s H E).A (cxOf (L2.CX P w) P w K mg base N x (defScope st) f cdv A outer s H E).env (cxOf (L2.CX P w) P w K mg base N x (defScope st) f cdv A outer s H E).xe →
      SB (cxOf (L2.CX P w) P w K mg base N x (defScope st) f cdv A outer s H E) T (fun cls d _ H' => E cls d H') (defBody st) body) :
    Cal P w K mg base T x (k + 1) n (mkFn N.length tr body) :=
  cal_ofG tr dd tk S hn fun f cdv A outer s H E tx hr => hb f cdv A outer s H E tx hr S.nd (rm_of (X := cxOf (L2.CX P w) P w K mg base N x (defScope st) f cdv A outer s H E) hr)
    (takes_of (X := cxOf (L2.CX P w) P w K mg base N x (defScope st) f cdv A outer s H E) rfl rfl rfl rfl) (passes_of (X := cxOf (L2.CX P w) P w K mg base N x (defScope st) f cdv A outer s H E) rfl)
end
end EV

set_option Elab.async false
set_option linter.all false
set_option autoImplicit false
set_option maxRecDepth 100000
set_option maxHeartbeats 4000000
namespace EV
open PySem PySem.Spec PyProof.Rows L2
/-! ### evaluation, plainly -/
/-- data without numbered places -/
def Flat (ds : List D) : Prop := ∀ n, refsLtL n ds = true
theorem refsLtL_all {n : Nat} : ∀ {ds : List D}, (∀ d ∈ ds, refsLt n d = true) → refsLtL n ds = true
  | [], _ => rfl
  | d :: ds, h => by rw [refsLtL, h d List.mem_cons_self, refsLtL_all fun x hx => h x (List.mem_cons_of_mem _ hx)]; rfl
theorem flat_map {α : Type} {f : α → D} {xs : List α} (h : ∀ x n, refsLt n (f x) = true) : Flat (xs.map f) := fun n => refsLtL_all fun d hd => by
  obtain ⟨x, _, rfl⟩ := List.mem_map.mp hd
  exact h x n
theorem compL_map {α : Type} {g : Gt} {tt : Tx} {te : Ex} {e : Sl} (f h : α → D) (p : α → Bool) : ∀ (xs : List α) (M : Mem), (∀ x ∈ xs, ∃ e1, g (f x) e M = some e1 ∧ tt e1 M = .ok (p x) M ∧ (p x = true → te e1 M = .ok (h x) M)) → compL g tt te e (xs.map f) M = .ok ((xs.filter p).map h) M
  | [], M, _ => rfl
  | x :: xs, M, H => by
    obtain ⟨e1, h1, h2, h3⟩ := H x List.mem_cons_self
    have ih := compL_map f h p xs M fun y hy => H y (List.mem_cons_of_mem _ hy)
    rw [List.map_cons, compL, h1]
    simp only [h2]
    cases hp : p x with
    | true => simp only [h3 hp, ih, List.filter_cons_of_pos hp, List.map_cons]
    | false => simp only [ih, List.filter_cons_of_neg (by simp [hp] : ¬ p x = true)]
theorem lcEnd_val {b : Nat} {l : List Cell} {ys : List D} (h : Flat ys) : lcEnd false b l.length none (.ok ys ⟨l.length, l ++ [.hid]⟩) = .ok (.lst ys) ⟨b, l⟩ := by
  unfold lcEnd
  simp only [Bool.false_eq_true, if_false, h l.length, Bool.and_true, List.length_append, List.length_cons, List.length_nil, thawO]
  rw [if_pos (by simp)]
  simp
theorem eLc_map {α : Type} {vs : List Nat} {it : Ix} {g : Gt} {tt : Tx} {te : Ex} {e : Sl} {M : Mem} (f h : α → D) (p : α → Bool) (xs : List α) (hi : it e M = .ok (xs.map f, none) M) (hl : xs.length ≤ sizeLine)
    (H : ∀ x ∈ xs, ∃ e1, g (f x) (wipeD e vs) ⟨M.c.length, M.c ++ [.hid]⟩ = some e1 ∧ tt e1 ⟨M.c.length, M.c ++ [.hid]⟩ = .ok (p x) ⟨M.c.length, M.c ++ [.hid]⟩ ∧ (p x = true → te e1 ⟨M.c.length, M.c ++ [.hid]⟩ = .ok (h x) ⟨M.c.length, M.c ++ [.hid]⟩))
    (hf : ∀ x n, refsLt n (h x) = true) : eLc false vs it g tt te e M = .ok (.lst ((xs.filter p).map h)) M := by
  unfold eLc
  rw [hi]
  simp only [List.length_map]
  rw [if_pos (nle_iff.mpr hl), compL_map f h p xs _ H, lcEnd_val (flat_map hf)]
/-- a def that keeps the memory -/
theorem mkFn_rt {N : Nat} {body : Sx} {ds : List D} {M : Mem} {d : D} (h : body (ds.map some ++ List.replicate (N - ds.length) none) ⟨M.c.length, M.c⟩ = .rt d ⟨M.c.length, M.c⟩) : mkFn N true body ds M = .ok d M := by
  unfold mkFn entM
  simp only [if_true]
  rw [h]
  simp only [Fl.fin, finR, if_true]
  rw [if_pos (by simp)]
/-- a def with own places, which are let go -/
theorem mkFn_loc {N : Nat} {body : Sx} {ds : List D} {M : Mem} {d : D} {l : List Cell} (h : body (ds.map some ++ List.replicate (N - ds.length) none) ⟨M.c.length, M.c⟩ = .rt d ⟨M.c.length, M.c ++ l⟩) (hd : ∀ n, refsLt n d = true) : mkFn N true body ds M = .ok d M := by
  have hb : byval M.c.length ⟨M.c.length, M.c ++ l⟩ d = d := by
    cases d with
    | obj k =>
      have := hd 0
      simp [refsLt] at this
    | _ => rfl
  unfold mkFn entM
  simp only [if_true]
  rw [h]
  simp only [Fl.fin, finR, if_true, hb, hd]
  split
  · rename_i hl
    have : l = [] := by
      have := Nat.eq_of_beq_eq_true hl
      simp at this
      exact this
    subst this
    simp
  · simp
end EV
namespace EV
theorem Res.bind_ok {α β : Type} {a : α} {M : Mem} {f : α → Mem → Res β} : (Res.ok a M).bind f = f a M := rfl
theorem Res.thn_ok {α : Type} {a : α} {M : Mem} {e : Sl} {f : α → Mem → Fl} : (Res.ok a M).thn e f = f a M := rfl
theorem Fl.seq_nx {e : Sl} {M : Mem} {f : Sl → Mem → Fl} : (Fl.nx e M).seq f = f e M := rfl
theorem Fl.seq_rt {d : D} {M : Mem} {f : Sl → Mem → Fl} : (Fl.rt d M).seq f = .rt d M := rfl
theorem Res.bool_ok {b : Bool} {M : Mem} : (Res.ok (.bl b) M).bool = .ok b M := rfl
theorem beq_len2 {α : Type} {a b : α} : Nat.beq [a, b].length 2 = true := rfl
end EV

set_option Elab.async false
set_option linter.all false
set_option autoImplicit false
set_option maxRecDepth 100000
set_option maxHeartbeats 400000
namespace EV
open PySem PySem.Spec PyProof.Rows L2
/-! ### the second layer: no memory; a slot holds a value, or an object that it alone owns -/
inductive PS where
  | v (d : D)
  | o (f : Bool) (d : D)
abbrev PSl := List (Option PS)
/-- a value: plain data, or the object that stands in a slot -/
inductive PV where
  | v (d : D)
  | s (i : Nat)
def gp : PSl → Nat → Option PS
  | [], _ => none
  | x :: _, 0 => x
  | _ :: xs, n + 1 => gp xs n
def dv (ps : PSl) : PV → D
  | .v d => d
  | .s i => match gp ps i with
    | some (.o _ d) => d
    | some (.v d) => d
    | none => .non
abbrev PX := PSl → Option (PV × PSl)
abbrev PAx := PSl → Option (List PV × PSl)
abbrev PTx := PSl → Option (Bool × PSl)
abbrev PIx := PSl → Option ((List D × Option Nat) × PSl)
abbrev PGt := D → PSl → Option PSl
abbrev PGts := List D → PSl → Option PSl
inductive PFl where
  | nx (ps : PSl)
  | rt (x : PV) (ps : PSl)
  | bk (ps : PSl)
  | ct (ps : PSl)
  | bad
abbrev PSx := PSl → PFl
abbrev PFn := List PS → Option (D × PSl)

theorem gp_iff : ∀ {ps : PSl} {i : Nat} {x : PS}, gp ps i = some x ↔ ps[i]? = some (some x)
  | [], i, x => by simp [gp]
  | y :: ps, 0, x => by simp [gp]
  | y :: ps, i + 1, x => by simp [gp, gp_iff]
theorem gp_lt {ps : PSl} {i : Nat} {x : PS} (h : gp ps i = some x) : i < ps.length := (List.getElem?_eq_some_iff.mp (gp_iff.mp h)).1
theorem gp_ne : ∀ {ps : PSl} {i j : Nat} {x : Option PS}, i ≠ j → gp (ps.set i x) j = gp ps j
  | [], i, j, x, _ => by simp
  | y :: ps, 0, 0, x, h => absurd rfl h
  | y :: ps, 0, j + 1, x, _ => by simp [gp]
  | y :: ps, i + 1, 0, x, _ => by simp [gp]
  | y :: ps, i + 1, j + 1, x, h => by simp [gp]; exact gp_ne (by omega)
theorem gp_self : ∀ {ps : PSl} {i : Nat} {x : Option PS}, i < ps.length → gp (ps.set i x) i = x
  | [], i, x, h => by simp at h
  | y :: ps, 0, x, _ => by simp [gp]
  | y :: ps, i + 1, x, h => by simp [gp]; exact gp_self (by simpa using h)
theorem gp_set {ps : PSl} {i j : Nat} {x : Option PS} {y : PS} (h : gp (ps.set i x) j = some y) : (i = j ∧ i < ps.length ∧ x = some y) ∨ (i ≠ j ∧ gp ps j = some y) := by
  by_cases e : i = j
  · subst e
    have hl := gp_lt h
    simp at hl
    rw [gp_self hl] at h
    exact .inl ⟨rfl, hl, h⟩
  · rw [gp_ne e] at h
    exact .inr ⟨e, h⟩
theorem gp_app : ∀ {ps qs : PSl} {i : Nat}, i < ps.length → gp (ps ++ qs) i = gp ps i
  | [], _, i, h => by simp at h
  | y :: ps, qs, 0, _ => rfl
  | y :: ps, qs, i + 1, h => by simp [gp]; exact gp_app (by simpa using h)
theorem gp_end : ∀ {ps : PSl} {x : Option PS}, gp (ps ++ [x]) ps.length = x
  | [], x => rfl
  | y :: ps, x => by simp [gp]; exact gp_end
theorem gp_take : ∀ {ps : PSl} {n i : Nat} {y : PS}, gp (ps.take n) i = some y → gp ps i = some y
  | [], n, i, y, h => by simpa using h
  | x :: ps, 0, i, y, h => by simp [gp] at h
  | x :: ps, n + 1, 0, y, h => by simpa [gp] using h
  | x :: ps, n + 1, i + 1, y, h => by simp [gp] at h ⊢; exact gp_take h
theorem gp_take' {ps : PSl} {n i : Nat} (h : i < n) : gp (ps.take n) i = gp ps i := by
  induction ps generalizing n i with
  | nil => simp
  | cons x ps ih =>
    cases n with
    | zero => omega
    | succ n => cases i with
      | zero => rfl
      | succ i => simp [gp]; exact ih (by omega)
/-- without numbered places -/
abbrev Fd (d : D) : Prop := refsLt 0 d = true
abbrev Fds (d : List D) : Prop := refsLtL 0 d = true
theorem Fds.iff : ∀ {ds : List D}, Fds ds ↔ ∀ d ∈ ds, Fd d
  | [] => by simp [Fds, refsLtL]
  | x :: xs => by simp only [Fds, refsLtL, Bool.and_eq_true, List.mem_cons, forall_eq_or_imp]; rw [← Fds.iff (ds := xs)]
theorem Fd.up {d : D} {n : Nat} (h : Fd d) : refsLt n d = true := refsLt.mono (Nat.zero_le n) h
theorem Fds.up {d : List D} {n : Nat} (h : Fds d) : refsLtL n d = true := refsLtL.mono (Nat.zero_le n) h
def cellOf (f : Bool) : D → Option Cell
  | .lst xs => some (.lst f xs)
  | .dct ks vs => some (.dct f ks vs)
  | _ => none
structure Rep (F : Nat → Prop) (N : Nat) (ps : PSl) (κ : List Nat) (e : Sl) (M : Mem) : Prop where
  lk : κ.length = ps.length
  le : e.length = N
  ln : N ≤ ps.length
  val : ∀ (i : Nat) d, gp ps i = some (.v d) → Fd d ∧ (i < N → e[i]? = some (some d))
  own : ∀ (i : Nat) f d, gp ps i = some (.o f d) → Fd d ∧ ∃ k c, κ[i]? = some k ∧ ¬ F k ∧ cellOf f d = some c ∧ M.c[k]? = some c ∧ (i < N → e[i]? = some (some (.obj k)))
  dis : ∀ (i j : Nat) f d g d' k, gp ps i = some (.o f d) → gp ps j = some (.o g d') → κ[i]? = some k → κ[j]? = some k → i = j
  fr : ∀ k, F k → k < M.c.length
structure StE (F : Nat → Prop) (ps : PSl) (κ : List Nat) (M : Mem) (ps' : PSl) (κ' : List Nat) (M' : Mem) : Prop where
  pre : ∀ (i k : Nat), κ[i]? = some k → κ'[i]? = some k
  own : ∀ (i : Nat) f d, gp ps i = some (.o f d) → ∃ d', gp ps' i = some (.o f d') ∧ (f = true → d' = d)
  b : M'.b = M.b
  frm : ∀ k, F k → M'.c[k]? = M.c[k]?
  len : M'.c.length + ps.length = M.c.length + ps'.length
  mono : ps.length ≤ ps'.length
def IsV (ps : PSl) (κ : List Nat) (x : PV) (d' : D) : Prop :=
  match x with
  | .v d => d' = d ∧ Fd d
  | .s i => ∃ k f d, κ[i]? = some k ∧ d' = .obj k ∧ gp ps i = some (.o f d)
inductive IsVs (ps : PSl) (κ : List Nat) : List PV → List D → Prop
  | nil : IsVs ps κ [] []
  | cons {x : PV} {d : D} {xs : List PV} {ds : List D} : IsV ps κ x d → IsVs ps κ xs ds → IsVs ps κ (x :: xs) (d :: ds)
/-- what is read there -/
def Rdv (M : Mem) (d' d : D) : Prop := Fd d ∧ (d' = d ∨ ∃ k f c, d' = .obj k ∧ M.c[k]? = some c ∧ cellOf f d = some c)
inductive Rdvs (M : Mem) : List D → List D → Prop
  | nil : Rdvs M [] []
  | cons {x d : D} {xs ds : List D} : Rdv M x d → Rdvs M xs ds → Rdvs M (x :: xs) (d :: ds)
section
variable {F : Nat → Prop} {N : Nat} {ps ps1 ps2 : PSl} {κ κ1 κ2 : List Nat} {e : Sl} {M M1 M2 : Mem}
theorem StE.refl : StE F ps κ M ps κ M := ⟨fun _ _ h => h, fun _ _ d h => ⟨d, h, fun _ => rfl⟩, rfl, fun _ _ => rfl, rfl, Nat.le_refl _⟩
theorem StE.trans (s : StE F ps κ M ps1 κ1 M1) (t : StE F ps1 κ1 M1 ps2 κ2 M2) : StE F ps κ M ps2 κ2 M2 where
  pre := fun i k h => t.pre i k (s.pre i k h)
  own := fun i f d h => by
    obtain ⟨d1, h1, e1⟩ := s.own i f d h
    obtain ⟨d2, h2, e2⟩ := t.own i f d1 h1
    exact ⟨d2, h2, fun z => (e2 z).trans (e1 z)⟩
  b := t.b.trans s.b
  frm := fun k h => (t.frm k h).trans (s.frm k h)
  len := by have := s.len; have := t.len; omega
  mono := Nat.le_trans s.mono t.mono
theorem IsV.step {x : PV} {d' : D} (s : StE F ps κ M ps1 κ1 M1) (h : IsV ps κ x d') : IsV ps1 κ1 x d' := by
  cases x with
  | v d => exact h
  | s i =>
    obtain ⟨k, f, d, h1, h2, h3⟩ := h
    obtain ⟨d2, h4, _⟩ := s.own i f d h3
    exact ⟨k, f, d2, s.pre i k h1, h2, h4⟩
theorem IsVs.step {xs : List PV} {ds : List D} (s : StE F ps κ M ps1 κ1 M1) (h : IsVs ps κ xs ds) : IsVs ps1 κ1 xs ds := by
  induction h with
  | nil => exact .nil
  | cons a _ ih => exact .cons (a.step s) ih
theorem Rep.rdv (r : Rep F N ps κ e M) {x : PV} {d' : D} (h : IsV ps κ x d') : Rdv M d' (dv ps x) := by
  cases x with
  | v d => exact ⟨h.2, .inl h.1⟩
  | s i =>
    obtain ⟨k, f, d, h1, h2, h3⟩ := h
    obtain ⟨hf, k', c, h4, _, h6, h7, _⟩ := r.own i f d h3
    rw [h1] at h4; cases h4
    simp only [dv, h3]
    exact ⟨hf, .inr ⟨k, f, c, h2, h7, h6⟩⟩
theorem Rep.rdvs (r : Rep F N ps κ e M) {xs : List PV} {ds : List D} (h : IsVs ps κ xs ds) : Rdvs M ds (xs.map (dv ps)) := by
  induction h with
  | nil => exact .nil
  | cons a _ ih => exact .cons (r.rdv a) ih
end
/-! ### judgements -/
def JE (N : Nat) (te : Ex) (p : PX) : Prop := ∀ (F : Nat → Prop) (ps : PSl) (κ : List Nat) (e : Sl) (M : Mem) (x : PV) (ps' : PSl), Rep F N ps κ e M → p ps = some (x, ps') →
  ∃ d' κ' M', te e M = .ok d' M' ∧ Rep F N ps' κ' e M' ∧ StE F ps κ M ps' κ' M' ∧ IsV ps' κ' x d'
def JA (N : Nat) (te : Ax) (p : PAx) : Prop := ∀ (F : Nat → Prop) (ps : PSl) (κ : List Nat) (e : Sl) (M : Mem) (x : List PV) (ps' : PSl), Rep F N ps κ e M → p ps = some (x, ps') →
  ∃ d' κ' M', te e M = .ok d' M' ∧ Rep F N ps' κ' e M' ∧ StE F ps κ M ps' κ' M' ∧ IsVs ps' κ' x d'
def JT (N : Nat) (te : Tx) (p : PTx) : Prop := ∀ (F : Nat → Prop) (ps : PSl) (κ : List Nat) (e : Sl) (M : Mem) (b : Bool) (ps' : PSl), Rep F N ps κ e M → p ps = some (b, ps') →
  ∃ κ' M', te e M = .ok b M' ∧ Rep F N ps' κ' e M' ∧ StE F ps κ M ps' κ' M'
def pVar (i : Nat) : PX := fun ps => match gp ps i with
  | some (.v d) => some (.v d, ps)
  | some (.o _ _) => some (.s i, ps)
  | none => none
def pC (d : D) : PX := fun ps => some (.v d, ps)
def qNil : PAx := fun ps => some ([], ps)
def qCons (p : PX) (q : PAx) : PAx := fun ps => match p ps with
  | some (x, ps1) => match q ps1 with
    | some (xs, ps2) => some (x :: xs, ps2)
    | none => none
  | none => none
theorem je_var (i : Nat) {N : Nat} (hi : i < N) : JE N (eVar i) (pVar i) := fun F ps κ e M x ps' r h => by
  unfold pVar at h
  split at h
  · rename_i d hd
    cases h
    obtain ⟨h1, h2⟩ := r.val i d hd
    exact ⟨d, κ, M, by simp [eVar, h2 hi], r, .refl, rfl, h1⟩
  · rename_i f d hd
    cases h
    obtain ⟨h1, k, c, h2, h3, h4, h5, h6⟩ := r.own i f d hd
    exact ⟨.obj k, κ, M, by simp [eVar, h6 hi], r, .refl, k, f, d, h2, rfl, hd⟩
  · cases h
theorem je_c {N : Nat} {d : D} (h : Fd d) : JE N (eC d) (pC d) := fun F ps κ e M x ps' r hp => by
  cases hp
  exact ⟨d, κ, M, rfl, r, .refl, rfl, h⟩
theorem ja_nil {N : Nat} : JA N aNil qNil := fun F ps κ e M x ps' r hp => by
  cases hp
  exact ⟨[], κ, M, rfl, r, .refl, .nil⟩
theorem ja_cons {N : Nat} {t : Ex} {u : Ax} {p : PX} {q : PAx} (h1 : JE N t p) (h2 : JA N u q) : JA N (aCons t u) (qCons p q) := fun F ps κ e M x ps' r hp => by
  unfold qCons at hp
  split at hp
  · rename_i x1 ps1 e1
    split at hp
    · rename_i xs ps2 e2
      cases hp
      obtain ⟨d, κ1, M1, a1, r1, s1, v1⟩ := h1 F ps κ e M x1 ps1 r e1
      obtain ⟨ds, κ2, M2, a2, r2, s2, v2⟩ := h2 F ps1 κ1 e M1 xs _ r1 e2
      exact ⟨d :: ds, κ2, M2, by simp [aCons, a1, a2, Res.bind], r2, s1.trans s2, .cons (v1.step s2) v2⟩
    · cases hp
  · cases hp
end EV

set_option Elab.async false
set_option linter.all false
set_option autoImplicit false
set_option maxRecDepth 100000
set_option maxHeartbeats 1000000
namespace EV
open PySem PySem.Spec PyProof.Rows L2
/-! ### operators read through objects -/
inductive Qr (M : Mem) : D → D → Prop
  | non : Qr M .non .non
  | bl (b : Bool) : Qr M (.bl b) (.bl b)
  | int (i : Int) : Qr M (.int i) (.int i)
  | str (x : Str) : Qr M (.str x) (.str x)
  | tup (xs : List D) : Qr M (.tup xs) (.tup xs)
  | lst (xs : List D) : Qr M (.lst xs) (.lst xs)
  | dct (ks vs : List D) : Qr M (.dct ks vs) (.dct ks vs)
  | fz (xs : List Int) : Qr M (.fz xs) (.fz xs)
  | ol (k : Nat) (f : Bool) (xs : List D) : M.c[k]? = some (.lst f xs) → Qr M (.obj k) (.lst xs)
  | od (k : Nat) (f : Bool) (ks vs : List D) : M.c[k]? = some (.dct f ks vs) → Qr M (.obj k) (.dct ks vs)
theorem nobj {k : Nat} (h : Fd (.obj k)) : False := by simp [Fd, refsLt, Nat.blt] at h
theorem Rdv.q {M : Mem} {d' d : D} (h : Rdv M d' d) : Qr M d' d := by
  obtain ⟨hf, rfl | ⟨k, f, c, rfl, h2, h3⟩⟩ := h
  · cases d' <;> first | exact (nobj hf).elim | constructor
  · cases d <;> simp [cellOf] at h3
    · subst h3; exact .ol k f _ h2
    · subst h3; exact .od k f _ _ h2
theorem Fds.app {xs ys : List D} (h1 : Fds xs) (h2 : Fds ys) : Fds (xs ++ ys) := Fds.iff.mpr fun d hd => by
  rcases List.mem_append.mp hd with z | z
  · exact Fds.iff.mp h1 d z
  · exact Fds.iff.mp h2 d z
theorem Fds.sub {xs ys : List D} (h1 : Fds xs) (h2 : ∀ y ∈ ys, y ∈ xs) : Fds ys := Fds.iff.mpr fun d hd => Fds.iff.mp h1 d (h2 d hd)
theorem Fd.tup {xs : List D} : Fd (.tup xs) ↔ Fds xs := by simp [Fd, refsLt]
theorem Fd.lst {xs : List D} : Fd (.lst xs) ↔ Fds xs := by simp [Fd, refsLt]
theorem Fd.dct {xs ys : List D} : Fd (.dct xs ys) ↔ Fds xs ∧ Fds ys := by simp [Fd, refsLt]
/-- what the operator sees of the memory -/
def thru (M : Mem) (r : Res D) : Res D := match r with
  | .ok d _ => .ok d M
  | .exc c fs _ => .exc c fs M
  | .bad => .bad
theorem thru_if {M : Mem} {b : Bool} {r s : Res D} : thru M (if b = true then r else s) = if b = true then thru M r else thru M s := by cases b <;> rfl
def OpR (g : D → D → Mem → Res D) : Prop := ∀ (M : Mem) (x' y' x y r : D) (M1 : Mem), Rdv M x' x → Rdv M y' y → g x y M0 = .ok r M1 → g x' y' M = .ok r M ∧ Fd r
def UnR (g : D → Mem → Res D) : Prop := ∀ (M : Mem) (x' x r : D) (M1 : Mem), Rdv M x' x → g x M0 = .ok r M1 → g x' M = .ok r M ∧ Fd r
def CbR (g : List D → Mem → Res D) : Prop := ∀ (M : Mem) (x' x : List D) (r : D) (M1 : Mem), Rdvs M x' x → g x M0 = .ok r M1 → g x' M = .ok r M ∧ Fd r
theorem opR_mk {g : D → D → Mem → Res D} (h1 : ∀ M x' y' x y, Qr M x' x → Qr M y' y → g x' y' M = thru M (g x y M0)) (h2 : ∀ x y r M1, Fd x → Fd y → g x y M0 = .ok r M1 → Fd r) : OpR g := fun M x' y' x y r M1 hx hy h => by
  rw [h1 M x' y' x y hx.q hy.q, h]
  exact ⟨rfl, h2 x y r M1 hx.1 hy.1 h⟩
theorem unR_mk {g : D → Mem → Res D} (h1 : ∀ M x' x, Qr M x' x → g x' M = thru M (g x M0)) (h2 : ∀ x r M1, Fd x → g x M0 = .ok r M1 → Fd r) : UnR g := fun M x' x r M1 hx h => by
  rw [h1 M x' x hx.q, h]
  exact ⟨rfl, h2 x r M1 hx.1 h⟩
theorem asL_q {M : Mem} {d' d : D} (h : Qr M d' d) : asL M d' = asL M0 d := by cases h <;> simp [asL, *]
theorem asD_q {M : Mem} {d' d : D} (h : Qr M d' d) : asD M d' = asD M0 d := by cases h <;> simp [asD, *]
theorem look_q {M : Mem} {d' d : D} (h : Qr M d' d) : plain (look M d') = plain d ∧ (plain d = true → look M d' = d) := by cases h <;> simp [look, plain, *]
theorem look_0 {d : D} : plain (look M0 d) = plain d ∧ (plain d = true → look M0 d = d) := by cases d <;> simp [look, plain, M0]
theorem or_dAdd : OpR dAdd := opR_mk (fun M x' y' x y hx hy => by
    cases hx <;> cases hy <;> simp [dAdd, asL, thru, *] <;> (try split) <;> rfl) fun x y r M1 hx hy h => by
    cases x <;> cases y <;> simp [dAdd, asL, M0] at h <;> first
      | (split at h <;> first | (cases h; done) | (cases h; first | rfl | exact Fd.tup.mpr ((Fd.tup.mp hx).app (Fd.tup.mp hy)) | exact Fd.lst.mpr ((Fd.lst.mp hx).app (Fd.lst.mp hy))))
      | (obtain ⟨rfl, _⟩ := h; rfl)
theorem or_dSub : OpR dSub := opR_mk (fun M x' y' x y hx hy => by
    cases hx <;> cases hy <;> simp [dSub, thru]) fun x y r M1 hx hy h => by
    cases x <;> cases y <;> simp [dSub] at h
    obtain ⟨rfl, _⟩ := h; rfl
theorem or_dDiv : OpR dDiv := opR_mk (fun M x' y' x y hx hy => by
    cases hx <;> cases hy <;> simp [dDiv, thru] <;> (try split) <;> rfl) fun x y r M1 hx hy h => by
    cases x <;> cases y <;> simp [dDiv] at h
    split at h <;> cases h; rfl
theorem or_dMod : OpR dMod := opR_mk (fun M x' y' x y hx hy => by
    cases hx <;> cases hy <;> simp [dMod, thru] <;> (try split) <;> rfl) fun x y r M1 hx hy h => by
    cases x <;> cases y <;> simp [dMod] at h
    split at h <;> cases h; rfl
theorem or_dPow : OpR dPow := opR_mk (fun M x' y' x y hx hy => by
    cases hx <;> cases hy <;> simp [dPow, thru] <;> (try split) <;> rfl) fun x y r M1 hx hy h => by
    cases x <;> cases y <;> simp [dPow] at h
    split at h <;> cases h; rfl
theorem Fds.rep {xs : List D} (n : Nat) (h : Fds xs) : Fds (repL n xs) := h.sub fun y hy => by
  unfold repL at hy
  obtain ⟨l, h1, h2⟩ := List.mem_flatten.mp hy
  rw [List.eq_of_mem_replicate h1] at h2
  exact h2
theorem or_dMulI : OpR dMulI := opR_mk (fun M x' y' x y hx hy => by
    cases hx <;> cases hy <;> simp [dMulI, asL, thru, *] <;> (try split) <;> rfl) fun x y r M1 hx hy h => by
    cases x <;> cases y <;> simp [dMulI, asL, M0] at h <;> first
      | (split at h <;> first | (cases h; done) | (cases h; first | rfl | exact Fd.lst.mpr ((Fd.lst.mp hx).rep _)))
theorem or_dMul : OpR dMul := opR_mk (fun M x' y' x y hx hy => by
    cases hx <;> cases hy <;> simp only [dMul, asL, thru_if, *] <;> rfl) fun x y r M1 hx hy h => by
    cases x <;> cases y <;> simp [dMul, asL, M0] at h <;> first
      | (split at h <;> first | (cases h; done) | (cases h; first | rfl | exact Fd.lst.mpr ((Fd.lst.mp hx).rep _)))
      | (split at h <;> first | (cases h; exact hx) | (split at h <;> first | (cases h; done) | (cases h; exact Fd.tup.mpr ((Fd.tup.mp hx).rep _))))
theorem or_dEq : OpR dEq := fun M x' y' x y r M1 hx hy h => by
  obtain ⟨a1, a2⟩ := look_q hx.q
  obtain ⟨b1, b2⟩ := look_q hy.q
  obtain ⟨c1, c2⟩ := look_0 (d := x)
  obtain ⟨d1, d2⟩ := look_0 (d := y)
  unfold dEq at h ⊢
  rw [c1, d1] at h
  rw [a1, b1]
  by_cases p1 : plain x = true
  · by_cases p2 : plain y = true
    · rw [c2 p1, d2 p2] at h
      rw [a2 p1, b2 p2]
      split at h
      · rename_i hh
        cases h
        rw [if_pos hh]
        exact ⟨rfl, rfl⟩
      · cases h
    · simp [p2] at h
  · simp [p1] at h
theorem or_dNe : OpR dNe := fun M x' y' x y r M1 hx hy h => by
  obtain ⟨a1, a2⟩ := look_q hx.q
  obtain ⟨b1, b2⟩ := look_q hy.q
  obtain ⟨c1, c2⟩ := look_0 (d := x)
  obtain ⟨d1, d2⟩ := look_0 (d := y)
  unfold dNe at h ⊢
  rw [c1, d1] at h
  rw [a1, b1]
  by_cases p1 : plain x = true
  · by_cases p2 : plain y = true
    · rw [c2 p1, d2 p2] at h
      rw [a2 p1, b2 p2]
      split at h
      · rename_i hh
        cases h
        rw [if_pos hh]
        exact ⟨rfl, rfl⟩
      · cases h
    · simp [p2] at h
  · simp [p1] at h
theorem or_dLt : OpR dLt := fun M x' y' x y r M1 hx hy h => by
  have q1 := hx.q
  have q2 := hy.q
  cases q1 <;> cases q2 <;> simp [dLt, plain, dlt, thru] at h ⊢ <;> first
    | (obtain ⟨rfl, _⟩ := h; exact ⟨rfl, rfl⟩)
    | (split at h
       · rename_i hh
         split at h
         · rename_i b hb
           cases h
           simp only [hh, hb, and_self, if_true, true_and]
           rfl
         · cases h
       · cases h)
    | (split at h
       · rename_i b hb
         cases h
         simp only [hb, true_and]
         rfl
       · cases h)
    | skip
theorem or_dLe : OpR dLe := opR_mk (fun M x' y' x y hx hy => by
    cases hx <;> cases hy <;> simp [dLe, thru]) fun x y r M1 hx hy h => by
    cases x <;> cases y <;> simp [dLe] at h
    obtain ⟨rfl, _⟩ := h; rfl
theorem or_dGt : OpR dGt := opR_mk (fun M x' y' x y hx hy => by
    cases hx <;> cases hy <;> simp [dGt, thru]) fun x y r M1 hx hy h => by
    cases x <;> cases y <;> simp [dGt] at h
    obtain ⟨rfl, _⟩ := h; rfl
theorem or_dGe : OpR dGe := opR_mk (fun M x' y' x y hx hy => by
    cases hx <;> cases hy <;> simp [dGe, thru]) fun x y r M1 hx hy h => by
    cases x <;> cases y <;> simp [dGe] at h
    obtain ⟨rfl, _⟩ := h; rfl
theorem or_dIs : OpR dIs := opR_mk (fun M x' y' x y hx hy => by
    cases hx <;> cases hy <;> simp [dIs, thru, isNon]) fun x y r M1 hx hy h => by
    unfold dIs at h
    split at h <;> cases h; rfl
theorem or_dIsNot : OpR dIsNot := opR_mk (fun M x' y' x y hx hy => by
    cases hx <;> cases hy <;> simp [dIsNot, thru, isNon]) fun x y r M1 hx hy h => by
    unfold dIsNot at h
    split at h <;> cases h; rfl
theorem ur_dNeg : UnR dNeg := unR_mk (fun M x' x hx => by
    cases hx <;> simp [dNeg, thru]) fun x r M1 hx h => by
    cases x <;> simp [dNeg] at h
    obtain ⟨rfl, _⟩ := h; rfl
end EV

set_option Elab.async false
set_option linter.all false
set_option autoImplicit false
set_option maxRecDepth 100000
set_option maxHeartbeats 1000000
namespace EV
open PySem PySem.Spec PyProof.Rows L2
theorem Res.ok_inj {α : Type} {a b : α} {M N : Mem} (h : Res.ok a M = Res.ok b N) : a = b := by cases h; rfl
theorem asL_M0 {d : D} {xs : List D} (h : Fd d) (e : asL M0 d = some xs) : Fds xs := by
  cases d <;> simp [asL, M0] at e
  subst e; exact Fd.lst.mp h
theorem asD_M0 {d : D} {ks vs : List D} (h : Fd d) (e : asD M0 d = some (ks, vs)) : Fds ks ∧ Fds vs := by
  cases d <;> simp [asD, M0] at e
  obtain ⟨rfl, rfl⟩ := e
  exact Fd.dct.mp h
theorem Qr.same {M : Mem} {x' x : D} (h : Qr M x' x) (hp : plain x = true) (hl : ∀ xs, x ≠ .lst xs) : x' = x := by
  cases h <;> first | rfl | simp [plain] at hp
  exact absurd rfl (hl _)
/-- a member must be by value -/
theorem or_dIn {x : D} (M : Mem) (y' y r : D) (M1 : Mem) (hx : Fd x) (hy : Rdv M y' y) (h : dIn x y M0 = .ok r M1) : dIn x y' M = .ok r M ∧ Fd r := by
  have q := hy.q
  have : dIn x y' M = thru M (dIn x y M0) := by
    cases q <;> simp only [dIn, asD, asL, thru_if, *] <;> first | rfl | (cases x <;> rfl)
  rw [this, h]
  refine ⟨rfl, ?_⟩
  unfold dIn at h
  split at h
  · split at h <;> cases h; rfl
  · split at h <;> cases h; rfl
  · split at h
    · split at h <;> cases h; rfl
    · split at h
      · split at h <;> cases h; rfl
      · cases h
theorem or_dNotIn {x : D} (M : Mem) (y' y r : D) (M1 : Mem) (hx : Fd x) (hy : Rdv M y' y) (h : dNotIn x y M0 = .ok r M1) : dNotIn x y' M = .ok r M ∧ Fd r := by
  unfold dNotIn at h ⊢
  cases e : dIn x y M0 with
  | ok d M2 =>
    obtain ⟨h1, h2⟩ := or_dIn M y' y d M2 hx hy e
    rw [e] at h
    rw [h1]
    cases d <;> simp [dNot] at h ⊢
    obtain ⟨rfl, _⟩ := h
    exact ⟨rfl, rfl⟩
  | exc c fs M2 => rw [e] at h; cases h
  | bad => rw [e] at h; cases h
theorem atI_mem {α : Type} {xs : List α} {i : Int} {d : α} (h : atI xs i = some d) : d ∈ xs := by
  unfold atI at h
  obtain ⟨j, _, h2⟩ := Option.bind_eq_some_iff.mp h
  exact List.mem_of_getElem? h2
theorem dfind_mem {k d : D} : ∀ {ks vs : List D}, dfind k ks vs = some d → d ∈ vs
  | [], _, h => by simp [dfind] at h
  | _ :: _, [], h => by simp [dfind] at h
  | x :: xs, y :: ys, h => by
    simp only [dfind] at h
    split at h
    · cases h; exact List.mem_cons_self
    · exact List.mem_cons_of_mem _ (dfind_mem h)
theorem or_dIx {y : D} (M : Mem) (x' x r : D) (M1 : Mem) (hx : Rdv M x' x) (hy : Fd y) (h : dIx x y M0 = .ok r M1) : dIx x' y M = .ok r M ∧ Fd r := by
  have q := hx.q
  have f := hx.1
  have : dIx x' y M = thru M (dIx x y M0) := by
    cases q <;> cases y <;> simp only [dIx, asD, asL, *] <;> (try simp only [thru_if]) <;> (try rfl) <;> (try split) <;> (try split) <;> first | rfl | simp_all [thru]
  rw [this, h]
  refine ⟨rfl, ?_⟩
  cases x with
  | tup xs =>
    cases y <;> simp only [dIx, asD, asL] at h <;> first | (cases h; done) | skip
    split at h
    · rename_i e; cases h; exact Fds.iff.mp (Fd.tup.mp f) _ (atI_mem e)
    · cases h
  | str z =>
    cases y <;> simp only [dIx, asD, asL] at h <;> first | (cases h; done) | skip
    split at h
    · split at h <;> cases h; rfl
    · cases h
  | lst xs =>
    cases y <;> simp only [dIx, asD, asL] at h <;> first | (cases h; done) | skip
    split at h
    · rename_i e; cases h; exact Fds.iff.mp (Fd.lst.mp f) _ (atI_mem e)
    · cases h
  | dct ks vs =>
    have h' : (if kok ks y = true then (match dfind y ks vs with | some d => Res.ok d M0 | none => .bad) else .bad) = Res.ok r M1 := by
      cases y <;> exact h
    split at h'
    · split at h'
      · rename_i e; cases h'; exact Fds.iff.mp (Fd.dct.mp f).2 _ (dfind_mem e)
      · cases h'
    · cases h'
  | obj k => exact (nobj f).elim
  | _ => cases y <;> simp [dIx, asD, asL] at h
theorem Fds.cut {xs : List D} (lo hi : Option Int) (h : Fds xs) : Fds (cutD xs lo hi) := h.sub fun y hy => List.mem_of_mem_drop (List.mem_of_mem_take hy)
theorem or_dSl (M : Mem) (x' x r : D) (lo hi : Option Int) (M1 : Mem) (hx : Rdv M x' x) (h : dSl x lo hi M0 = .ok r M1) : dSl x' lo hi M = .ok r M ∧ Fd r := by
  have q := hx.q
  have f := hx.1
  have : dSl x' lo hi M = thru M (dSl x lo hi M0) := by
    cases q <;> simp only [dSl, asL, thru_if, *] <;> rfl
  rw [this, h]
  refine ⟨rfl, ?_⟩
  unfold dSl at h
  split at h
  · cases h; exact Fd.tup.mpr ((Fd.tup.mp f).cut _ _)
  · split at h <;> cases h; rfl
  · cases h
    refine Fd.lst.mpr (Fds.cut _ _ (Fds.iff.mpr fun d hd => ?_))
    obtain ⟨i, _, rfl⟩ := List.mem_map.mp hd
    rfl
  · split at h
    · rename_i e; cases h; exact Fd.lst.mpr ((asL_M0 f e).cut _ _)
    · cases h
/-! ### built-ins -/
theorem cbR_1 {g : List D → Mem → Res D} (h0 : ∀ ds M, (∀ d, ds ≠ [d]) → g ds M = .bad) (h1 : ∀ M x' x, Qr M x' x → g [x'] M = thru M (g [x] M0)) (h2 : ∀ x r M1, Fd x → g [x] M0 = .ok r M1 → Fd r) : CbR g := fun M x' x r M1 hx h => by
  cases hx with
  | nil => rw [h0 [] M0 (by simp)] at h; cases h
  | cons a b => cases b with
    | nil =>
      rw [h1 M _ _ a.q, h]
      exact ⟨rfl, h2 _ r M1 a.1 h⟩
    | cons c d => rw [h0 _ M0 (by simp)] at h; cases h
theorem cr_len : CbR bLen := cbR_1 (fun ds M h => by
    match ds, h with
    | [], _ => rfl
    | [d], h => exact absurd rfl (h d)
    | a :: _ :: _, _ => cases a <;> rfl) (fun M x' x hx => by cases hx <;> simp only [bLen, asL, asD, thru_if, *] <;> rfl) fun x r M1 hx h => by
    cases x <;> simp [bLen, asL, asD] at h <;> first | (obtain ⟨rfl, _⟩ := h; rfl) | (split at h <;> cases h; rfl) | simp [M0] at h
theorem cr_abs : CbR bAbs := cbR_1 (fun ds M h => by
    match ds, h with
    | [], _ => rfl
    | [d], h => exact absurd rfl (h d)
    | a :: _ :: _, _ => cases a <;> rfl) (fun M x' x hx => by cases hx <;> simp only [bAbs] <;> rfl) fun x r M1 hx h => by
    cases x <;> simp [bAbs] at h; obtain ⟨rfl, _⟩ := h; rfl
theorem cr_int : CbR bInt := cbR_1 (fun ds M h => by
    match ds, h with
    | [], _ => rfl
    | [d], h => exact absurd rfl (h d)
    | a :: _ :: _, _ => cases a <;> rfl) (fun M x' x hx => by cases hx <;> simp only [bInt] <;> rfl) fun x r M1 hx h => by
    cases x <;> simp [bInt] at h <;> (obtain ⟨rfl, _⟩ := h; rfl)
theorem thru_ints {M : Mem} {o : Option (List Int)} (f : List Int → D) : (match o with | some (n :: ns) => Res.ok (f (n :: ns)) M | _ => .bad) = thru M (match o with | some (n :: ns) => Res.ok (f (n :: ns)) M0 | _ => .bad) := by
  cases o with
  | none => rfl
  | some l => cases l <;> rfl
theorem cr_tuple : CbR bTuple := cbR_1 (fun ds M h => by
    match ds, h with
    | [], _ => rfl
    | [d], h => exact absurd rfl (h d)
    | a :: _ :: _, _ => cases a <;> rfl) (fun M x' x hx => by cases hx <;> simp only [bTuple, asL, *] <;> rfl) fun x r M1 hx h => by
    cases x <;> simp [bTuple, asL, M0] at h <;> (obtain ⟨rfl, _⟩ := h; first | exact hx | exact Fd.tup.mpr (Fd.lst.mp hx))
theorem cr_list : CbR (bList false) := cbR_1 (fun ds M h => by
    match ds, h with
    | [], _ => rfl
    | [d], h => exact absurd rfl (h d)
    | a :: _ :: _, _ => cases a <;> rfl) (fun M x' x hx => by cases hx <;> simp only [bList, asL, asD, mkL, *] <;> rfl) fun x r M1 hx h => by
    cases x <;> simp [bList, asL, asD, mkL, M0] at h <;> (obtain ⟨rfl, _⟩ := h; first | exact Fd.lst.mpr (Fd.tup.mp hx) | exact hx | exact Fd.lst.mpr (Fd.dct.mp hx).1)
theorem mem_insB {α : Type} {lt : α → α → Bool} {x y : α} : ∀ {l : List α}, y ∈ insB lt x l → y = x ∨ y ∈ l
  | [], h => by simp [insB] at h; exact .inl h
  | z :: zs, h => by
    simp only [insB] at h
    split at h
    · rcases List.mem_cons.mp h with e | e
      · exact .inr (e ▸ List.mem_cons_self)
      · rcases mem_insB e with e | e
        · exact .inl e
        · exact .inr (List.mem_cons_of_mem _ e)
    · rcases List.mem_cons.mp h with e | e
      · exact .inl e
      · exact .inr e
theorem mem_sortB {α : Type} {lt : α → α → Bool} {y : α} : ∀ {l : List α}, y ∈ sortB lt l → y ∈ l
  | [], h => h
  | z :: zs, h => by
    rcases mem_insB h with e | e
    · exact e ▸ List.mem_cons_self
    · exact List.mem_cons_of_mem _ (mem_sortB e)
theorem itemsD_q {M : Mem} {d' d : D} (h : Qr M d' d) : itemsD M d' = itemsD M0 d := by cases h <;> simp [itemsD, asL, asD, *]
theorem itemsD_fd {d : D} {xs : List D} (h : Fd d) (e : itemsD M0 d = some xs) : Fds xs := by
  cases d <;> simp [itemsD, asL, asD, M0] at e <;> subst e
  · exact Fd.tup.mp h
  · exact Fd.lst.mp h
  · exact (Fd.dct.mp h).1
theorem Fds.srt {xs : List D} (h : Fds xs) : Fds (srt xs) := h.sub fun y hy => mem_sortB hy
theorem cr_sorted (tys : List Ty) : CbR (bSorted false tys) := cbR_1 (fun ds M h => by
    match ds, h with
    | [], _ => rfl
    | [d], h => exact absurd rfl (h d)
    | a :: _ :: _, _ => rfl) (fun M x' x hx => by
    simp only [bSorted, itemsD_q hx]
    cases itemsD M0 x with
    | none => rfl
    | some xs => simp only [mkL, thru_if]; rfl) fun x r M1 hx h => by
    simp only [bSorted] at h
    cases e : itemsD M0 x with
    | none => rw [e] at h; cases h
    | some xs =>
      rw [e] at h
      simp only [mkL] at h
      split at h
      · cases h; exact Fd.lst.mpr (itemsD_fd hx e).srt
      · cases h
theorem cr_sum : CbR bSum := cbR_1 (fun ds M h => by
    match ds, h with
    | [], _ => rfl
    | [d], h => exact absurd rfl (h d)
    | a :: _ :: _, _ => rfl) (fun M x' x hx => by
    simp only [bSum, asL_q hx]
    cases asL M0 x with
    | none => rfl
    | some xs => cases h : intsOf xs <;> simp [thru, h]) fun x r M1 hx h => by
    simp only [bSum] at h
    split at h
    · split at h <;> cases h; rfl
    · cases h
theorem cr_min : CbR bMin := fun M x' x r M1 hx h => by
  cases hx with
  | nil => simp [bMin] at h
  | cons a b =>
    have qa := a.q
    cases b with
    | nil =>
      rename_i y' y
      have : bMin [y'] M = thru M (bMin [y] M0) := by
        simp only [bMin, asL_q qa]
        cases asL M0 y with
        | none => rfl
        | some xs => cases hi : intsOf xs with
          | none => simp [hi, thru]
          | some l => cases l <;> simp [hi, thru]
      rw [this, h]
      refine ⟨rfl, ?_⟩
      simp only [bMin] at h
      split at h
      · split at h <;> cases h; rfl
      · cases h
    | cons c d =>
      have qc := c.q
      cases d with
      | nil => cases qa <;> cases qc <;> simp [bMin] at h ⊢ <;> (obtain ⟨rfl, _⟩ := h; exact ⟨rfl, rfl⟩)
      | cons _ _ => simp [bMin] at h
theorem cr_max : CbR bMax := fun M x' x r M1 hx h => by
  cases hx with
  | nil => simp [bMax] at h
  | cons a b =>
    have qa := a.q
    cases b with
    | nil =>
      rename_i y' y
      have : bMax [y'] M = thru M (bMax [y] M0) := by
        simp only [bMax, asL_q qa]
        cases asL M0 y with
        | none => rfl
        | some xs => cases hi : intsOf xs with
          | none => simp [hi, thru]
          | some l => cases l <;> simp [hi, thru]
      rw [this, h]
      refine ⟨rfl, ?_⟩
      simp only [bMax] at h
      split at h
      · split at h <;> cases h; rfl
      · cases h
    | cons c d =>
      have qc := c.q
      cases d with
      | nil => cases qa <;> cases qc <;> simp [bMax] at h ⊢ <;> (obtain ⟨rfl, _⟩ := h; exact ⟨rfl, rfl⟩)
      | cons _ _ => simp [bMax] at h
theorem tyName_q {M : Mem} {d' d : D} (h : Qr M d' d) : tyName M d' = tyName M0 d := by cases h <;> simp [tyName, *]
theorem iterD_0 {d : D} {xs : List D} {fz : Option Nat} {M1 : Mem} (h : iterD d M0 = .ok (xs, fz) M1) (hf : Fd d) : Fds xs := by
  cases d <;> simp [iterD, M0] at h
  · obtain ⟨⟨rfl, _⟩, _⟩ := h
    refine Fds.iff.mpr fun d hd => ?_
    obtain ⟨c, _, rfl⟩ := List.mem_map.mp hd
    rfl
  · obtain ⟨⟨rfl, _⟩, _⟩ := h; exact Fd.tup.mp hf
  · obtain ⟨⟨rfl, _⟩, _⟩ := h; exact Fd.lst.mp hf
  · obtain ⟨⟨rfl, _⟩, _⟩ := h; exact (Fd.dct.mp hf).1
end EV

set_option Elab.async false
set_option linter.all false
set_option autoImplicit false
set_option maxRecDepth 100000
set_option maxHeartbeats 400000
namespace EV
open PySem PySem.Spec PyProof.Rows L2
/-! ### expressions -/
def allV : List PV → Option (List D)
  | [] => some []
  | .v d :: xs => match allV xs with
    | some ds => some (d :: ds)
    | none => none
  | .s _ :: _ => none
theorem allV_ok {ps : PSl} {κ : List Nat} : ∀ {xs : List PV} {ds' ds : List D}, IsVs ps κ xs ds' → allV xs = some ds → ds' = ds ∧ Fds ds
  | _, _, _, .nil, h => by cases h; exact ⟨rfl, rfl⟩
  | _, _, _, .cons (x := x) a b, h => by
    cases x with
    | s i => simp [allV] at h
    | v d =>
      simp only [allV] at h
      split at h
      · rename_i ds0 e0
        cases h
        obtain ⟨rfl, h2⟩ := allV_ok b e0
        obtain ⟨rfl, h3⟩ := a
        refine ⟨rfl, Fds.iff.mpr fun z hz => ?_⟩
        rcases List.mem_cons.mp hz with e | e
        · rw [e]; exact h3
        · exact Fds.iff.mp h2 z e
      · cases h
section
variable {F : Nat → Prop} {N : Nat} {ps : PSl} {κ : List Nat} {e : Sl} {M : Mem}
theorem Rep.alloc (r : Rep F N ps κ e M) {d : D} {c : Cell} (hd : Fd d) (hc : cellOf false d = some c) :
    Rep F N (ps ++ [some (.o false d)]) (κ ++ [M.c.length]) e ⟨M.b, M.c ++ [c]⟩ ∧ StE F ps κ M (ps ++ [some (.o false d)]) (κ ++ [M.c.length]) ⟨M.b, M.c ++ [c]⟩ ∧ IsV (ps ++ [some (.o false d)]) (κ ++ [M.c.length]) (.s ps.length) (.obj M.c.length) := by
  have hk : ∀ (i k : Nat), κ[i]? = some k → (κ ++ [M.c.length])[i]? = some k := fun i k h => by
    rw [List.getElem?_append_left (List.getElem?_eq_some_iff.mp h).1]; exact h
  have old : ∀ (i : Nat) (x : PS), gp (ps ++ [some (.o false d)]) i = some x → (i < ps.length ∧ gp ps i = some x) ∨ (i = ps.length ∧ x = .o false d) := fun i x h => by
    by_cases hi : i < ps.length
    · rw [gp_app hi] at h; exact .inl ⟨hi, h⟩
    · have := gp_lt h
      simp at this
      have e1 : i = ps.length := by omega
      subst e1
      rw [gp_end] at h; cases h
      exact .inr ⟨rfl, rfl⟩
  have hn : (κ ++ [M.c.length])[ps.length]? = some M.c.length := by rw [← r.lk]; simp
  have ownlt : ∀ (i k : Nat) f d0, gp ps i = some (.o f d0) → κ[i]? = some k → k < M.c.length := fun i k f d0 h1 h2 => by
    obtain ⟨_, k', c', h3, _, _, h4, _⟩ := r.own i f d0 h1
    rw [h2] at h3; cases h3
    exact (List.getElem?_eq_some_iff.mp h4).1
  refine ⟨⟨by simp [r.lk], r.le, by have := r.ln; simp; omega, fun i d0 h => ?_, fun i f d0 h => ?_, fun i j f d1 g d2 k h1 h2 h3 h4 => ?_, fun k hk => by have := r.fr k hk; simp; omega⟩, ⟨hk, fun i f d0 h => ⟨d0, by rw [gp_app (gp_lt h)]; exact h, fun _ => rfl⟩, rfl, fun k hk => by rw [List.getElem?_append_left (r.fr k hk)], by simp; omega, by simp⟩, ⟨_, false, d, hn, rfl, gp_end⟩⟩
  · rcases old i _ h with ⟨_, h⟩ | ⟨_, h⟩
    · exact r.val i d0 h
    · cases h
  · rcases old i _ h with ⟨hi, h⟩ | ⟨hi, h⟩
    · obtain ⟨h1, k, c0, h2, h3, h4, h5, h6⟩ := r.own i f d0 h
      exact ⟨h1, k, c0, hk i k h2, h3, h4, by rw [List.getElem?_append_left (List.getElem?_eq_some_iff.mp h5).1]; exact h5, h6⟩
    · cases h
      subst hi
      refine ⟨hd, M.c.length, c, hn, fun z => ?_, hc, by simp, fun z => ?_⟩
      · have := r.fr _ z; omega
      · have := r.ln; omega
  · rcases old i _ h1 with ⟨hi, h1⟩ | ⟨hi, h1⟩ <;> rcases old j _ h2 with ⟨hj, h2⟩ | ⟨hj, h2⟩
    · rw [List.getElem?_append_left (by rw [r.lk]; exact hi)] at h3
      rw [List.getElem?_append_left (by rw [r.lk]; exact hj)] at h4
      exact r.dis i j f d1 g d2 k h1 h2 h3 h4
    · rw [List.getElem?_append_left (by rw [r.lk]; exact hi)] at h3
      subst hj
      rw [hn] at h4; cases h4
      have := ownlt i _ f d1 h1 h3; omega
    · rw [List.getElem?_append_left (by rw [r.lk]; exact hj)] at h4
      subst hi
      rw [hn] at h3; cases h3
      have := ownlt j _ g d2 h2 h4; omega
    · omega
theorem Rep.put (r : Rep F N ps κ e M) {i k : Nat} {f f2 : Bool} {d0 d : D} {c : Cell} (h0 : gp ps i = some (.o f d0)) (hk : κ[i]? = some k) (hd : Fd d) (hc : cellOf f2 d = some c) :
    Rep F N (ps.set i (some (.o f2 d))) κ e (M.set k c) := by
  have hi := gp_lt h0
  obtain ⟨_, k', c', h3, hF, _, h4, h5⟩ := r.own i f d0 h0
  rw [hk] at h3; cases h3
  have hl := (List.getElem?_eq_some_iff.mp h4).1
  refine ⟨by simp [r.lk], r.le, by simp [r.ln], fun j d1 h => ?_, fun j g d1 h => ?_, fun a b g d1 g2 d2 q h1 h2 h3 h4 => ?_, fun q hq => by simp [Mem.set]; exact r.fr q hq⟩
  · rcases gp_set h with ⟨_, _, h⟩ | ⟨_, h⟩
    · cases h
    · exact r.val j d1 h
  · rcases gp_set h with ⟨e1, _, h⟩ | ⟨e1, h⟩
    · cases h; subst e1
      exact ⟨hd, k, c, hk, hF, hc, by simp [Mem.set, hl], h5⟩
    · obtain ⟨a1, q, c1, a2, a3, a4, a5, a6⟩ := r.own j g d1 h
      refine ⟨a1, q, c1, a2, a3, a4, ?_, a6⟩
      have : k ≠ q := fun z => e1 (r.dis i j f d0 g d1 k h0 h hk (z ▸ a2))
      simp only [Mem.set]
      rw [List.getElem?_set_ne this]; exact a5
  · have old : ∀ (j : Nat) g d1, gp (ps.set i (some (.o f2 d))) j = some (.o g d1) → ∃ g' d', gp ps j = some (.o g' d') := fun j g d1 h => by
      rcases gp_set h with ⟨e1, _, _⟩ | ⟨_, h⟩
      · exact ⟨f, d0, e1 ▸ h0⟩
      · exact ⟨g, d1, h⟩
    obtain ⟨_, _, o1⟩ := old a g d1 h1
    obtain ⟨_, _, o2⟩ := old b g2 d2 h2
    exact r.dis a b _ _ _ _ q o1 o2 h3 h4
theorem Rep.putS (r : Rep F N ps κ e M) {i k : Nat} {d0 d : D} {c : Cell} (h0 : gp ps i = some (.o false d0)) (hk : κ[i]? = some k) :
    StE F ps κ M (ps.set i (some (.o false d))) κ (M.set k c) := by
  obtain ⟨_, k', c', h3, hF, _, h4, h5⟩ := r.own i false d0 h0
  rw [hk] at h3; cases h3
  refine ⟨fun _ _ h => h, fun j f d1 h => ?_, rfl, fun q hq => ?_, by simp [Mem.set], by simp⟩
  · by_cases e1 : i = j
    · subst e1
      rw [h0] at h; cases h
      exact ⟨d, by rw [gp_self (gp_lt h0)], fun z => by cases z⟩
    · exact ⟨d1, by rw [gp_ne e1]; exact h, fun _ => rfl⟩
  · have : k ≠ q := fun z => hF (z ▸ hq)
    simp only [Mem.set]
    rw [List.getElem?_set_ne this]
end
def pTup (q : PAx) : PX := fun ps => match q ps with
  | some (xs, ps1) => match allV xs with
    | some ds => some (.v (.tup ds), ps1)
    | none => none
  | none => none
theorem je_tup {N : Nat} {t : Ax} {q : PAx} (h : JA N t q) : JE N (eTup t) (pTup q) := fun F ps κ e M x ps' r hp => by
  unfold pTup at hp
  split at hp
  · rename_i xs ps1 e1
    split at hp
    · rename_i ds e2
      cases hp
      obtain ⟨ds', κ1, M1, a1, r1, s1, v1⟩ := h F ps κ e M xs _ r e1
      obtain ⟨rfl, hf⟩ := allV_ok v1 e2
      exact ⟨_, κ1, M1, by simp [eTup, a1, Res.bind], r1, s1, rfl, Fd.tup.mpr hf⟩
    · cases hp
  · cases hp
def pLst (q : PAx) : PX := fun ps => match q ps with
  | some (xs, ps1) => match allV xs with
    | some ds => some (.v (.lst ds), ps1)
    | none => none
  | none => none
theorem je_lst {N : Nat} {t : Ax} {q : PAx} (h : JA N t q) : JE N (eLst false t) (pLst q) := fun F ps κ e M x ps' r hp => by
  unfold pLst at hp
  split at hp
  · rename_i xs ps1 e1
    split at hp
    · rename_i ds e2
      cases hp
      obtain ⟨ds', κ1, M1, a1, r1, s1, v1⟩ := h F ps κ e M xs _ r e1
      obtain ⟨rfl, hf⟩ := allV_ok v1 e2
      exact ⟨_, κ1, M1, by simp [eLst, a1, Res.bind, mkL], r1, s1, rfl, Fd.lst.mpr hf⟩
    · cases hp
  · cases hp
/-- a new object -/
def newP (d : D) (ps : PSl) : Option (PV × PSl) := some (.s ps.length, ps ++ [some (.o false d)])
def pLstN (q : PAx) : PX := fun ps => match q ps with
  | some (xs, ps1) => match allV xs with
    | some ds => newP (.lst ds) ps1
    | none => none
  | none => none
theorem je_lstN {N : Nat} {t : Ax} {q : PAx} (h : JA N t q) : JE N (eLst true t) (pLstN q) := fun F ps κ e M x ps' r hp => by
  unfold pLstN at hp
  split at hp
  · rename_i xs ps1 e1
    split at hp
    · rename_i ds e2
      cases hp
      obtain ⟨ds', κ1, M1, a1, r1, s1, v1⟩ := h F ps κ e M xs _ r e1
      obtain ⟨rfl, hf⟩ := allV_ok v1 e2
      obtain ⟨r2, s2, v2⟩ := r1.alloc (Fd.lst.mpr hf) rfl
      exact ⟨_, _, _, by simp [eLst, a1, Res.bind, mkL], r2, s1.trans s2, v2⟩
    · cases hp
  · cases hp
def pOp (g : D → D → Mem → Res D) (p q : PX) : PX := fun ps => match p ps with
  | some (x, ps1) => match q ps1 with
    | some (y, ps2) => match g (dv ps2 x) (dv ps2 y) M0 with
      | .ok r _ => some (.v r, ps2)
      | _ => none
    | none => none
  | none => none
theorem je_op {N : Nat} {g : D → D → Mem → Res D} {t u : Ex} {p q : PX} (hg : OpR g) (h1 : JE N t p) (h2 : JE N u q) : JE N (eOp g t u) (pOp g p q) := fun F ps κ e M x ps' r hp => by
  unfold pOp at hp
  split at hp
  · rename_i x1 ps1 e1
    split at hp
    · rename_i y1 ps2 e2
      split at hp
      · rename_i rr MM e3
        cases hp
        obtain ⟨d1, κ1, M1, a1, r1, s1, v1⟩ := h1 F ps κ e M x1 ps1 r e1
        obtain ⟨d2, κ2, M2, a2, r2, s2, v2⟩ := h2 F ps1 κ1 e M1 y1 _ r1 e2
        obtain ⟨b1, b2⟩ := hg M2 d1 d2 _ _ rr MM (r2.rdv (v1.step s2)) (r2.rdv v2) e3
        exact ⟨rr, κ2, M2, by simp [eOp, a1, a2, b1, Res.bind], r2, s1.trans s2, rfl, b2⟩
      · cases hp
    · cases hp
  · cases hp
/-- the left one by value -/
def pOpI (g : D → D → Mem → Res D) (p q : PX) : PX := fun ps => match p ps with
  | some (.v x, ps1) => match q ps1 with
    | some (y, ps2) => match g x (dv ps2 y) M0 with
      | .ok r _ => some (.v r, ps2)
      | _ => none
    | none => none
  | _ => none
def OpI (g : D → D → Mem → Res D) : Prop := ∀ (x : D) (M : Mem) (y' y r : D) (M1 : Mem), Fd x → Rdv M y' y → g x y M0 = .ok r M1 → g x y' M = .ok r M ∧ Fd r
theorem oi_dIn : OpI dIn := fun x M y' y r M1 h1 h2 h => or_dIn M y' y r M1 h1 h2 h
theorem oi_dNotIn : OpI dNotIn := fun x M y' y r M1 h1 h2 h => or_dNotIn M y' y r M1 h1 h2 h
theorem je_opI {N : Nat} {g : D → D → Mem → Res D} {t u : Ex} {p q : PX} (hg : OpI g) (h1 : JE N t p) (h2 : JE N u q) : JE N (eOp g t u) (pOpI g p q) := fun F ps κ e M x ps' r hp => by
  unfold pOpI at hp
  split at hp
  · rename_i x1 ps1 e1
    split at hp
    · rename_i y1 ps2 e2
      split at hp
      · rename_i rr MM e3
        cases hp
        obtain ⟨d1, κ1, M1, a1, r1, s1, rfl, f1⟩ := h1 F ps κ e M _ ps1 r e1
        obtain ⟨d2, κ2, M2, a2, r2, s2, v2⟩ := h2 F ps1 κ1 e M1 y1 _ r1 e2
        obtain ⟨b1, b2⟩ := hg d1 M2 d2 _ rr MM f1 (r2.rdv v2) e3
        exact ⟨rr, κ2, M2, by simp [eOp, a1, a2, b1, Res.bind], r2, s1.trans s2, rfl, b2⟩
      · cases hp
    · cases hp
  · cases hp
/-- the right one by value -/
def pOpX (g : D → D → Mem → Res D) (p q : PX) : PX := fun ps => match p ps with
  | some (x, ps1) => match q ps1 with
    | some (.v y, ps2) => match g (dv ps2 x) y M0 with
      | .ok r _ => some (.v r, ps2)
      | _ => none
    | _ => none
  | none => none
def OpX (g : D → D → Mem → Res D) : Prop := ∀ (y : D) (M : Mem) (x' x r : D) (M1 : Mem), Rdv M x' x → Fd y → g x y M0 = .ok r M1 → g x' y M = .ok r M ∧ Fd r
theorem ox_dIx : OpX dIx := fun y M x' x r M1 h1 h2 h => or_dIx M x' x r M1 h1 h2 h
theorem je_opX {N : Nat} {g : D → D → Mem → Res D} {t u : Ex} {p q : PX} (hg : OpX g) (h1 : JE N t p) (h2 : JE N u q) : JE N (eOp g t u) (pOpX g p q) := fun F ps κ e M x ps' r hp => by
  unfold pOpX at hp
  split at hp
  · rename_i x1 ps1 e1
    split at hp
    · rename_i y1 ps2 e2
      split at hp
      · rename_i rr MM e3
        cases hp
        obtain ⟨d1, κ1, M1, a1, r1, s1, v1⟩ := h1 F ps κ e M x1 ps1 r e1
        obtain ⟨d2, κ2, M2, a2, r2, s2, rfl, f2⟩ := h2 F ps1 κ1 e M1 _ _ r1 e2
        obtain ⟨b1, b2⟩ := hg d2 M2 d1 _ rr MM (r2.rdv (v1.step s2)) f2 e3
        exact ⟨rr, κ2, M2, by simp [eOp, a1, a2, b1, Res.bind], r2, s1.trans s2, rfl, b2⟩
      · cases hp
    · cases hp
  · cases hp
def pUn (g : D → Mem → Res D) (p : PX) : PX := fun ps => match p ps with
  | some (x, ps1) => match g (dv ps1 x) M0 with
    | .ok r _ => some (.v r, ps1)
    | _ => none
  | none => none
theorem je_un {N : Nat} {g : D → Mem → Res D} {t : Ex} {p : PX} (hg : UnR g) (h1 : JE N t p) : JE N (eUn g t) (pUn g p) := fun F ps κ e M x ps' r hp => by
  unfold pUn at hp
  split at hp
  · rename_i x1 ps1 e1
    split at hp
    · rename_i rr MM e3
      cases hp
      obtain ⟨d1, κ1, M1, a1, r1, s1, v1⟩ := h1 F ps κ e M x1 _ r e1
      obtain ⟨b1, b2⟩ := hg M1 d1 _ rr MM (r1.rdv v1) e3
      exact ⟨rr, κ1, M1, by simp [eUn, a1, b1, Res.bind], r1, s1, rfl, b2⟩
    · cases hp
  · cases hp
def pCb (g : List D → Mem → Res D) (q : PAx) : PX := fun ps => match q ps with
  | some (xs, ps1) => match g (xs.map (dv ps1)) M0 with
    | .ok r _ => some (.v r, ps1)
    | _ => none
  | none => none
theorem je_cb {N : Nat} {g : List D → Mem → Res D} {t : Ax} {q : PAx} (hg : CbR g) (h1 : JA N t q) : JE N (eCb g t) (pCb g q) := fun F ps κ e M x ps' r hp => by
  unfold pCb at hp
  split at hp
  · rename_i x1 ps1 e1
    split at hp
    · rename_i rr MM e3
      cases hp
      obtain ⟨d1, κ1, M1, a1, r1, s1, v1⟩ := h1 F ps κ e M x1 _ r e1
      obtain ⟨b1, b2⟩ := hg M1 d1 _ rr MM (r1.rdvs v1) e3
      exact ⟨rr, κ1, M1, by simp [eCb, a1, b1, Res.bind], r1, s1, rfl, b2⟩
    · cases hp
  · cases hp
/-- a built-in that makes a new object -/
def CbN (gT gF : List D → Mem → Res D) : Prop := ∀ (M : Mem) (x' x : List D) (r : D) (M1 : Mem), Rdvs M x' x → gF x M0 = .ok r M1 → ∃ c, cellOf false r = some c ∧ gT x' M = .ok (.obj M.c.length) ⟨M.b, M.c ++ [c]⟩ ∧ Fd r
def pCbN (g : List D → Mem → Res D) (q : PAx) : PX := fun ps => match q ps with
  | some (xs, ps1) => match g (xs.map (dv ps1)) M0 with
    | .ok r _ => newP r ps1
    | _ => none
  | none => none
theorem je_cbN {N : Nat} {gT g : List D → Mem → Res D} {t : Ax} {q : PAx} (hg : CbN gT g) (h1 : JA N t q) : JE N (eCb gT t) (pCbN g q) := fun F ps κ e M x ps' r hp => by
  unfold pCbN at hp
  split at hp
  · rename_i x1 ps1 e1
    split at hp
    · rename_i rr MM e3
      cases hp
      obtain ⟨d1, κ1, M1, a1, r1, s1, v1⟩ := h1 F ps κ e M x1 _ r e1
      obtain ⟨c, b0, b1, b2⟩ := hg M1 d1 _ rr MM (r1.rdvs v1) e3
      obtain ⟨r2, s2, v2⟩ := r1.alloc b2 b0
      exact ⟨_, _, _, by simp [eCb, a1, b1, Res.bind], r2, s1.trans s2, v2⟩
    · cases hp
  · cases hp
theorem cn_sorted (tys : List Ty) : CbN (bSorted true tys) (bSorted false tys) := fun M x' x r M1 hx h => by
  cases hx with
  | nil => simp [bSorted] at h
  | cons a b => cases b with
    | cons _ _ => simp [bSorted] at h
    | nil =>
      have h2 := (cr_sorted tys M _ _ r M1 (.cons a .nil) h).2
      simp only [bSorted, itemsD_q a.q] at h ⊢
      split at h
      · split at h
        · rename_i hs; cases h
          exact ⟨_, rfl, by rw [if_pos hs]; rfl, h2⟩
        · cases h
      · cases h
theorem cn_list : CbN (bList true) (bList false) := fun M x' x r M1 hx h => by
  cases hx with
  | nil => simp [bList] at h
  | cons a b => cases b with
    | cons x xs => rename_i d _ ; simp [bList] at h
    | nil =>
      have h2 := (cr_list M _ _ r M1 (.cons a .nil) h).2
      have q := a.q
      cases q <;> simp [bList, asL, asD, mkL, *] at h ⊢ <;> first
        | (obtain ⟨rfl, _⟩ := h; exact ⟨_, rfl, rfl, h2⟩)
        | (simp [M0] at h)
        | skip
/-! tests -/
def tB (p : PX) : PTx := fun ps => match p ps with
  | some (.v (.bl b), ps1) => some (b, ps1)
  | _ => none
theorem jt_b {N : Nat} {t : Ex} {p : PX} (h : JE N t p) : JT N (xB t) (tB p) := fun F ps κ e M b ps' r hp => by
  unfold tB at hp
  split at hp
  · rename_i b1 ps1 e1
    cases hp
    obtain ⟨d1, κ1, M1, a1, r1, s1, rfl, _⟩ := h F ps κ e M _ _ r e1
    exact ⟨κ1, M1, by simp [xB, a1, Res.bool], r1, s1⟩
  · cases hp
def tNot (p : PTx) : PTx := fun ps => match p ps with
  | some (b, ps1) => some (!b, ps1)
  | none => none
theorem jt_not {N : Nat} {t : Tx} {p : PTx} (h : JT N t p) : JT N (xNot t) (tNot p) := fun F ps κ e M b ps' r hp => by
  unfold tNot at hp
  split at hp
  · rename_i b1 ps1 e1
    cases hp
    obtain ⟨κ1, M1, a1, r1, s1⟩ := h F ps κ e M _ _ r e1
    exact ⟨κ1, M1, by simp [xNot, a1, Res.bind], r1, s1⟩
  · cases hp
def tAnd (p q : PTx) : PTx := fun ps => match p ps with
  | some (true, ps1) => q ps1
  | some (false, ps1) => some (false, ps1)
  | none => none
theorem jt_and {N : Nat} {t u : Tx} {p q : PTx} (h1 : JT N t p) (h2 : JT N u q) : JT N (xAnd t u) (tAnd p q) := fun F ps κ e M b ps' r hp => by
  unfold tAnd at hp
  split at hp
  · rename_i ps1 e1
    obtain ⟨κ1, M1, a1, r1, s1⟩ := h1 F ps κ e M _ _ r e1
    obtain ⟨κ2, M2, a2, r2, s2⟩ := h2 F ps1 κ1 e M1 _ _ r1 hp
    exact ⟨κ2, M2, by simp [xAnd, a1, a2, Res.bind], r2, s1.trans s2⟩
  · rename_i ps1 e1
    cases hp
    obtain ⟨κ1, M1, a1, r1, s1⟩ := h1 F ps κ e M _ _ r e1
    exact ⟨κ1, M1, by simp [xAnd, a1, Res.bind], r1, s1⟩
  · cases hp
def tOr (p q : PTx) : PTx := fun ps => match p ps with
  | some (false, ps1) => q ps1
  | some (true, ps1) => some (true, ps1)
  | none => none
theorem jt_or {N : Nat} {t u : Tx} {p q : PTx} (h1 : JT N t p) (h2 : JT N u q) : JT N (xOr t u) (tOr p q) := fun F ps κ e M b ps' r hp => by
  unfold tOr at hp
  split at hp
  · rename_i ps1 e1
    obtain ⟨κ1, M1, a1, r1, s1⟩ := h1 F ps κ e M _ _ r e1
    obtain ⟨κ2, M2, a2, r2, s2⟩ := h2 F ps1 κ1 e M1 _ _ r1 hp
    exact ⟨κ2, M2, by simp [xOr, a1, a2, Res.bind], r2, s1.trans s2⟩
  · rename_i ps1 e1
    cases hp
    obtain ⟨κ1, M1, a1, r1, s1⟩ := h1 F ps κ e M _ _ r e1
    exact ⟨κ1, M1, by simp [xOr, a1, Res.bind], r1, s1⟩
  · cases hp
def tYes : PTx := fun ps => some (true, ps)
theorem jt_yes {N : Nat} : JT N xYes tYes := fun F ps κ e M b ps' r hp => by
  cases hp
  exact ⟨κ, M, rfl, r, .refl⟩
def pBl (p : PTx) : PX := fun ps => match p ps with
  | some (b, ps1) => some (.v (.bl b), ps1)
  | none => none
def pAnd (p q : PX) : PX := fun ps => match p ps with
  | some (.v (.bl true), ps1) => q ps1
  | some (.v (.bl false), ps1) => some (.v (.bl false), ps1)
  | _ => none
theorem je_and {N : Nat} {t u : Ex} {p q : PX} (h1 : JE N t p) (h2 : JE N u q) : JE N (eAnd t u) (pAnd p q) := fun F ps κ e M x ps' r hp => by
  unfold pAnd at hp
  split at hp
  · rename_i ps1 e1
    obtain ⟨_, κ1, M1, a1, r1, s1, rfl, _⟩ := h1 F ps κ e M _ _ r e1
    obtain ⟨d2, κ2, M2, a2, r2, s2, v2⟩ := h2 F ps1 κ1 e M1 _ _ r1 hp
    exact ⟨d2, κ2, M2, by simp [eAnd, a1, a2, Res.bind, Res.bool], r2, s1.trans s2, v2⟩
  · rename_i ps1 e1
    cases hp
    obtain ⟨_, κ1, M1, a1, r1, s1, rfl, _⟩ := h1 F ps κ e M _ _ r e1
    exact ⟨_, κ1, M1, by simp [eAnd, a1, Res.bind, Res.bool], r1, s1, rfl, rfl⟩
  · cases hp
def pOr (p q : PX) : PX := fun ps => match p ps with
  | some (.v (.bl false), ps1) => q ps1
  | some (.v (.bl true), ps1) => some (.v (.bl true), ps1)
  | _ => none
theorem je_or {N : Nat} {t u : Ex} {p q : PX} (h1 : JE N t p) (h2 : JE N u q) : JE N (eOr t u) (pOr p q) := fun F ps κ e M x ps' r hp => by
  unfold pOr at hp
  split at hp
  · rename_i ps1 e1
    obtain ⟨_, κ1, M1, a1, r1, s1, rfl, _⟩ := h1 F ps κ e M _ _ r e1
    obtain ⟨d2, κ2, M2, a2, r2, s2, v2⟩ := h2 F ps1 κ1 e M1 _ _ r1 hp
    exact ⟨d2, κ2, M2, by simp [eOr, a1, a2, Res.bind, Res.bool], r2, s1.trans s2, v2⟩
  · rename_i ps1 e1
    cases hp
    obtain ⟨_, κ1, M1, a1, r1, s1, rfl, _⟩ := h1 F ps κ e M _ _ r e1
    exact ⟨_, κ1, M1, by simp [eOr, a1, Res.bind, Res.bool], r1, s1, rfl, rfl⟩
  · cases hp
def pNot (p : PX) : PX := fun ps => match p ps with
  | some (.v (.bl b), ps1) => some (.v (.bl (!b)), ps1)
  | _ => none
theorem je_not {N : Nat} {t : Ex} {p : PX} (h1 : JE N t p) : JE N (eNot t) (pNot p) := fun F ps κ e M x ps' r hp => by
  unfold pNot at hp
  split at hp
  · rename_i ps1 e1
    cases hp
    obtain ⟨_, κ1, M1, a1, r1, s1, rfl, _⟩ := h1 F ps κ e M _ _ r e1
    exact ⟨_, κ1, M1, by simp [eNot, a1, Res.bind, Res.bool], r1, s1, rfl, rfl⟩
  · cases hp
def pIf (c : PTx) (p q : PX) : PX := fun ps => match c ps with
  | some (true, ps1) => p ps1
  | some (false, ps1) => q ps1
  | none => none
theorem je_if {N : Nat} {c : Tx} {t u : Ex} {pc : PTx} {p q : PX} (h0 : JT N c pc) (h1 : JE N t p) (h2 : JE N u q) : JE N (eIf c t u) (pIf pc p q) := fun F ps κ e M x ps' r hp => by
  unfold pIf at hp
  split at hp
  · rename_i ps1 e1
    obtain ⟨κ1, M1, a1, r1, s1⟩ := h0 F ps κ e M _ _ r e1
    obtain ⟨d2, κ2, M2, a2, r2, s2, v2⟩ := h1 F ps1 κ1 e M1 _ _ r1 hp
    exact ⟨d2, κ2, M2, by simp [eIf, a1, a2, Res.bind], r2, s1.trans s2, v2⟩
  · rename_i ps1 e1
    obtain ⟨κ1, M1, a1, r1, s1⟩ := h0 F ps κ e M _ _ r e1
    obtain ⟨d2, κ2, M2, a2, r2, s2, v2⟩ := h2 F ps1 κ1 e M1 _ _ r1 hp
    exact ⟨d2, κ2, M2, by simp [eIf, a1, a2, Res.bind], r2, s1.trans s2, v2⟩
  · cases hp
def pChain (g g' : D → D → Mem → Res D) (p q w : PX) : PX := fun ps => match p ps with
  | some (x, ps1) => match q ps1 with
    | some (y, ps2) => match g (dv ps2 x) (dv ps2 y) M0 with
      | .ok (.bl true) _ => match w ps2 with
        | some (z, ps3) => match g' (dv ps3 y) (dv ps3 z) M0 with
          | .ok r _ => some (.v r, ps3)
          | _ => none
        | none => none
      | .ok (.bl false) _ => some (.v (.bl false), ps2)
      | _ => none
    | none => none
  | none => none
theorem je_chain {N : Nat} {g g' : D → D → Mem → Res D} {t u v : Ex} {p q w : PX} (hg : OpR g) (hg' : OpR g') (h1 : JE N t p) (h2 : JE N u q) (h3 : JE N v w) : JE N (eChain g g' t u v) (pChain g g' p q w) := fun F ps κ e M x ps' r hp => by
  unfold pChain at hp
  split at hp
  · rename_i x1 ps1 e1
    obtain ⟨d1, κ1, M1, a1, r1, s1, v1⟩ := h1 F ps κ e M x1 ps1 r e1
    split at hp
    · rename_i y1 ps2 e2
      obtain ⟨d2, κ2, M2, a2, r2, s2, v2⟩ := h2 F ps1 κ1 e M1 y1 _ r1 e2
      split at hp
      · rename_i MM e3
        obtain ⟨b1, b2⟩ := hg M2 d1 d2 _ _ _ MM (r2.rdv (v1.step s2)) (r2.rdv v2) e3
        split at hp
        · rename_i z1 ps3 e4
          obtain ⟨d3, κ3, M3, a3, r3, s3, v3⟩ := h3 F ps2 κ2 e M2 z1 _ r2 e4
          split at hp
          · rename_i rr MM' e5
            cases hp
            obtain ⟨c1, c2⟩ := hg' M3 d2 d3 _ _ rr MM' (r3.rdv (v2.step s3)) (r3.rdv v3) e5
            exact ⟨rr, κ3, M3, by simp [eChain, a1, a2, b1, a3, c1, Res.bind, Res.bool], r3, (s1.trans s2).trans s3, rfl, c2⟩
          · cases hp
        · cases hp
      · rename_i MM e3
        cases hp
        obtain ⟨b1, b2⟩ := hg M2 d1 d2 _ _ _ MM (r2.rdv (v1.step s2)) (r2.rdv v2) e3
        exact ⟨_, κ2, M2, by simp [eChain, a1, a2, b1, Res.bind, Res.bool], r2, s1.trans s2, rfl, rfl⟩
      · cases hp
    · cases hp
  · cases hp
/-! slices -/
def JO (N : Nat) (t : Sl → Mem → Res (Option Int)) (p : PSl → Option (Option Int × PSl)) : Prop := ∀ (F : Nat → Prop) (ps : PSl) (κ : List Nat) (e : Sl) (M : Mem) (x : Option Int) (ps' : PSl), Rep F N ps κ e M → p ps = some (x, ps') →
  ∃ κ' M', t e M = .ok x M' ∧ Rep F N ps' κ' e M' ∧ StE F ps κ M ps' κ' M'
def oNp : PSl → Option (Option Int × PSl) := fun ps => some (none, ps)
def oSp (p : PX) : PSl → Option (Option Int × PSl) := fun ps => match p ps with
  | some (.v (.int i), ps1) => some (some i, ps1)
  | _ => none
theorem jo_n {N : Nat} : JO N oN oNp := fun F ps κ e M x ps' r hp => by
  cases hp
  exact ⟨κ, M, rfl, r, .refl⟩
theorem jo_s {N : Nat} {t : Ex} {p : PX} (h : JE N t p) : JO N (oS t) (oSp p) := fun F ps κ e M x ps' r hp => by
  unfold oSp at hp
  split at hp
  · rename_i ps1 e1
    cases hp
    obtain ⟨_, κ1, M1, a1, r1, s1, rfl, _⟩ := h F ps κ e M _ _ r e1
    exact ⟨κ1, M1, by simp [oS, a1, Res.bind, Res.int], r1, s1⟩
  · cases hp
def pSl (p : PX) (lo hi : PSl → Option (Option Int × PSl)) : PX := fun ps => match p ps with
  | some (x, ps1) => match lo ps1 with
    | some (l, ps2) => match hi ps2 with
      | some (h, ps3) => match dSl (dv ps3 x) l h M0 with
        | .ok r _ => some (.v r, ps3)
        | _ => none
      | none => none
    | none => none
  | none => none
theorem je_sl {N : Nat} {t : Ex} {lo hi : Sl → Mem → Res (Option Int)} {p : PX} {pl ph : PSl → Option (Option Int × PSl)} (h1 : JE N t p) (h2 : JO N lo pl) (h3 : JO N hi ph) : JE N (eSl t lo hi) (pSl p pl ph) := fun F ps κ e M x ps' r hp => by
  unfold pSl at hp
  split at hp
  · rename_i x1 ps1 e1
    obtain ⟨d1, κ1, M1, a1, r1, s1, v1⟩ := h1 F ps κ e M x1 ps1 r e1
    split at hp
    · rename_i l ps2 e2
      obtain ⟨κ2, M2, a2, r2, s2⟩ := h2 F ps1 κ1 e M1 _ _ r1 e2
      split at hp
      · rename_i h ps3 e3
        obtain ⟨κ3, M3, a3, r3, s3⟩ := h3 F ps2 κ2 e M2 _ _ r2 e3
        split at hp
        · rename_i rr MM e4
          cases hp
          obtain ⟨b1, b2⟩ := or_dSl M3 d1 _ rr l h MM (r3.rdv ((v1.step s2).step s3)) e4
          exact ⟨rr, κ3, M3, by simp [eSl, a1, a2, a3, b1, Res.bind], r3, (s1.trans s2).trans s3, rfl, b2⟩
        · cases hp
      · cases hp
    · cases hp
  · cases hp
def pIsi (c : String) (p : PX) : PX := fun ps => match p ps with
  | some (x, ps1) => match tyName M0 (dv ps1 x) with
    | some n => some (.v (.bl (isT c n)), ps1)
    | none => none
  | none => none
theorem je_isi {N : Nat} {c : String} {t : Ex} {p : PX} (h1 : JE N t p) : JE N (eIsi c t) (pIsi c p) := fun F ps κ e M x ps' r hp => by
  unfold pIsi at hp
  split at hp
  · rename_i x1 ps1 e1
    split at hp
    · rename_i n e3
      cases hp
      obtain ⟨d1, κ1, M1, a1, r1, s1, v1⟩ := h1 F ps κ e M x1 _ r e1
      have q := tyName_q (r1.rdv v1).q
      exact ⟨_, κ1, M1, by simp [eIsi, a1, Res.bind, q, e3], r1, s1, rfl, rfl⟩
    · cases hp
  · cases hp
def pDct0 : PX := fun ps => some (.v (.dct [] []), ps)
theorem je_dct0 {N : Nat} : JE N (eDct0 false) pDct0 := fun F ps κ e M x ps' r hp => by
  cases hp
  exact ⟨_, κ, M, rfl, r, .refl, rfl, rfl⟩
def pDct0N : PX := fun ps => newP (.dct [] []) ps
theorem je_dct0N {N : Nat} : JE N (eDct0 true) pDct0N := fun F ps κ e M x ps' r hp => by
  cases hp
  obtain ⟨r2, s2, v2⟩ := r.alloc (d := .dct [] []) rfl rfl
  exact ⟨_, _, _, rfl, r2, s2, v2⟩
def pDct1 (p q : PX) : PX := fun ps => match p ps with
  | some (.v k, ps1) => match q ps1 with
    | some (.v w, ps2) => if kok [] k then some (.v (.dct [k] [w]), ps2) else none
    | _ => none
  | _ => none
theorem fd1 {d : D} (h : Fd d) : Fds [d] := by simp [Fds, refsLtL]; exact h
theorem je_dct1 {N : Nat} {t u : Ex} {p q : PX} (h1 : JE N t p) (h2 : JE N u q) : JE N (eDct1 false t u) (pDct1 p q) := fun F ps κ e M x ps' r hp => by
  unfold pDct1 at hp
  split at hp
  · rename_i k1 ps1 e1
    split at hp
    · rename_i w1 ps2 e2
      split at hp
      · rename_i hk
        cases hp
        obtain ⟨d1, κ1, M1, a1, r1, s1, rfl, f1⟩ := h1 F ps κ e M _ ps1 r e1
        obtain ⟨d2, κ2, M2, a2, r2, s2, rfl, f2⟩ := h2 F ps1 κ1 e M1 _ _ r1 e2
        exact ⟨_, κ2, M2, by simp [eDct1, a1, a2, Res.bind, hk, mkD], r2, s1.trans s2, rfl, Fd.dct.mpr ⟨fd1 f1, fd1 f2⟩⟩
      · cases hp
    · cases hp
  · cases hp
def pDct1N (p q : PX) : PX := fun ps => match p ps with
  | some (.v k, ps1) => match q ps1 with
    | some (.v w, ps2) => if kok [] k then newP (.dct [k] [w]) ps2 else none
    | _ => none
  | _ => none
theorem je_dct1N {N : Nat} {t u : Ex} {p q : PX} (h1 : JE N t p) (h2 : JE N u q) : JE N (eDct1 true t u) (pDct1N p q) := fun F ps κ e M x ps' r hp => by
  unfold pDct1N at hp
  split at hp
  · rename_i k1 ps1 e1
    split at hp
    · rename_i w1 ps2 e2
      split at hp
      · rename_i hk
        cases hp
        obtain ⟨d1, κ1, M1, a1, r1, s1, rfl, f1⟩ := h1 F ps κ e M _ ps1 r e1
        obtain ⟨d2, κ2, M2, a2, r2, s2, rfl, f2⟩ := h2 F ps1 κ1 e M1 _ _ r1 e2
        obtain ⟨r3, s3, v3⟩ := r2.alloc (d := .dct [d1] [d2]) (Fd.dct.mpr ⟨fd1 f1, fd1 f2⟩) rfl
        exact ⟨_, _, _, by simp [eDct1, a1, a2, Res.bind, hk, mkD], r3, (s1.trans s2).trans s3, v3⟩
      · cases hp
    · cases hp
  · cases hp
end EV

set_option Elab.async false
set_option linter.all false
set_option autoImplicit false
set_option maxRecDepth 100000
set_option maxHeartbeats 400000
namespace EV
open PySem PySem.Spec PyProof.Rows L2
/-! ### methods -/
theorem refs_flat {d : D} (h : Fd d) (n : Nat) : refsLt n d = true := h.up
theorem wok_flat {M : Mem} {k : Nat} {f : Bool} {d : D} {c : Cell} (h : Fd d) (hc : cellOf f d = some c) : wok M k c = true := by
  unfold wok
  rw [Bool.or_eq_true]
  refine .inr ?_
  cases d <;> simp [cellOf] at hc <;> subst hc
  · exact (Fd.lst.mp h).up
  · simp only [Cell.refsLt, Bool.and_eq_true]
    exact ⟨(Fd.dct.mp h).1.up, (Fd.dct.mp h).2.up⟩
section
variable {F : Nat → Prop} {N : Nat} {ps : PSl} {κ : List Nat} {e : Sl} {M : Mem}
theorem Rep.list (r : Rep F N ps κ e M) {i : Nat} {f : Bool} {xs : List D} (h : gp ps i = some (.o f (.lst xs))) : ∃ k, κ[i]? = some k ∧ M.c[k]? = some (.lst f xs) ∧ Fds xs := by
  obtain ⟨h1, k, c, h2, _, h4, h5, _⟩ := r.own i f _ h
  simp [cellOf] at h4; subst h4
  exact ⟨k, h2, h5, Fd.lst.mp h1⟩
theorem Rep.dict (r : Rep F N ps κ e M) {i : Nat} {f : Bool} {ks ws : List D} (h : gp ps i = some (.o f (.dct ks ws))) : ∃ k, κ[i]? = some k ∧ M.c[k]? = some (.dct f ks ws) ∧ Fds ks ∧ Fds ws := by
  obtain ⟨h1, k, c, h2, _, h4, h5, _⟩ := r.own i f _ h
  simp [cellOf] at h4; subst h4
  exact ⟨k, h2, h5, Fd.dct.mp h1⟩
theorem IsV.at {i : Nat} {d' : D} {k : Nat} (v : IsV ps κ (.s i) d') (h : κ[i]? = some k) : d' = .obj k := by
  obtain ⟨k', f, d, h1, h2, _⟩ := v
  rw [h] at h1; cases h1; exact h2
theorem IsV.obj {x : PV} {k : Nat} (v : IsV ps κ x (.obj k)) : ∃ i f d, x = .s i ∧ κ[i]? = some k ∧ gp ps i = some (.o f d) := by
  cases x with
  | v d => obtain ⟨rfl, h⟩ := v; exact (nobj h).elim
  | s i => obtain ⟨k', f, d, h1, h2, h3⟩ := v; cases h2; exact ⟨i, f, d, rfl, h1, h3⟩
end
/-- a method that writes: slot's object, arguments by value -> result, new object -/
abbrev MW := D → List D → Option (D × D)
theorem ty_list {M : Mem} {k : Nat} {f : Bool} {xs : List D} (h : M.c[k]? = some (.lst f xs)) : tyD M "list" (.obj k) = true := by simp [tyD, h]
theorem ty_dict {M : Mem} {k : Nat} {f : Bool} {xs ys : List D} (h : M.c[k]? = some (.dct f xs ys)) : tyD M "dict" (.obj k) = true := by simp [tyD, h]
def pMwLr (m : MW) (p : PX) (q : PAx) : PX := fun ps => match p ps with
  | some (.s i, ps1) => match gp ps1 i with
    | some (.o _ (.lst _)) => match q ps1 with
      | some (ys, ps2) => match gp ps2 i with
        | some (.o false d) => match m d (ys.map (dv ps2)) with
          | some (r, d2) => some (.v r, ps2.set i (some (.o false d2)))
          | none => none
        | _ => none
      | none => none
    | _ => none
  | _ => none
def pMwL (m : MW) (p : PX) (q : PAx) : PX := fun ps => match p ps with
  | some (.s i, ps1) => match gp ps1 i with
    | some (.o _ (.lst _)) => match q ps1 with
      | some (ys, ps2) => match gp ps2 i with
        | some (.o false d) => match allV ys with
          | some ds => match m d ds with
            | some (r, d2) => some (.v r, ps2.set i (some (.o false d2)))
            | none => none
          | none => none
        | _ => none
      | none => none
    | _ => none
  | _ => none
def pMwD (m : MW) (p : PX) (q : PAx) : PX := fun ps => match p ps with
  | some (.s i, ps1) => match gp ps1 i with
    | some (.o _ (.dct _ _)) => match q ps1 with
      | some (ys, ps2) => match gp ps2 i with
        | some (.o false d) => match allV ys with
          | some ds => match m d ds with
            | some (r, d2) => some (.v r, ps2.set i (some (.o false d2)))
            | none => none
          | none => none
        | _ => none
      | none => none
    | _ => none
  | _ => none
def MwS (g : D → List D → Mem → Res D) (m : MW) : Prop := ∀ (M : Mem) (k : Nat) (d : D) (c : Cell) (ys' ys : List D) (r d2 : D), Fd d → cellOf false d = some c → M.c[k]? = some c → Rdvs M ys' ys → m d ys = some (r, d2) →
  ∃ c2, cellOf false d2 = some c2 ∧ Fd d2 ∧ Fd r ∧ g (.obj k) ys' M = .ok r (M.set k c2)
def MwV (g : D → List D → Mem → Res D) (m : MW) : Prop := ∀ (M : Mem) (k : Nat) (d : D) (c : Cell) (ys : List D) (r d2 : D), Fd d → cellOf false d = some c → M.c[k]? = some c → Fds ys → m d ys = some (r, d2) →
  ∃ c2, cellOf false d2 = some c2 ∧ Fd d2 ∧ Fd r ∧ g (.obj k) ys M = .ok r (M.set k c2)
theorem je_mwLr {N : Nat} {g : D → List D → Mem → Res D} {m : MW} {t : Ex} {u : Ax} {p : PX} {q : PAx} (hg : MwS g m) (h1 : JE N t p) (h2 : JA N u q) : JE N (eMt "list" g t u) (pMwLr m p q) := fun F ps κ e M x ps' r hp => by
  unfold pMwLr at hp
  split at hp
  · rename_i i ps1 e1
    obtain ⟨d1, κ1, M1, a1, r1, s1, v1⟩ := h1 F ps κ e M _ _ r e1
    split at hp
    · rename_i f0 xs0 g0
      obtain ⟨k, k1, k2, _⟩ := r1.list g0
      have := v1.at k1; subst this
      split at hp
      · rename_i ys ps2 e2
        obtain ⟨ds, κ2, M2, a2, r2, s2, v2⟩ := h2 F ps1 κ1 e M1 _ _ r1 e2
        split at hp
        · rename_i d g1
          split at hp
          · rename_i rr d2 e3
            cases hp
            obtain ⟨fd, k', c, b1, _, b2, b3, _⟩ := r2.own i false d g1
            have hk := s2.pre i k k1
            rw [hk] at b1; cases b1
            obtain ⟨c2, w1, w2, w3, w4⟩ := hg M2 k d c ds _ rr d2 fd b2 b3 (r2.rdvs v2) e3
            exact ⟨rr, κ2, M2.set k c2, by simp [eMt, a1, Res.bind, ty_list k2, a2, w4], r2.put g1 hk w2 w1, (s1.trans s2).trans (r2.putS g1 hk), rfl, w3⟩
          · cases hp
        · cases hp
      · cases hp
    · cases hp
  · cases hp
theorem je_mwL {N : Nat} {g : D → List D → Mem → Res D} {m : MW} {t : Ex} {u : Ax} {p : PX} {q : PAx} (hg : MwV g m) (h1 : JE N t p) (h2 : JA N u q) : JE N (eMt "list" g t u) (pMwL m p q) := fun F ps κ e M x ps' r hp => by
  unfold pMwL at hp
  split at hp
  · rename_i i ps1 e1
    obtain ⟨d1, κ1, M1, a1, r1, s1, v1⟩ := h1 F ps κ e M _ _ r e1
    split at hp
    · rename_i f0 xs0 g0
      obtain ⟨k, k1, k2, _⟩ := r1.list g0
      have := v1.at k1; subst this
      split at hp
      · rename_i ys ps2 e2
        obtain ⟨ds, κ2, M2, a2, r2, s2, v2⟩ := h2 F ps1 κ1 e M1 _ _ r1 e2
        split at hp
        · rename_i d g1
          split at hp
          · rename_i ds1 ea
            obtain ⟨rfl, fds⟩ := allV_ok v2 ea
            split at hp
            case h_2 => cases hp
            rename_i rr d2 e3
            cases hp
            obtain ⟨fd, k', c, b1, _, b2, b3, _⟩ := r2.own i false d g1
            have hk := s2.pre i k k1
            rw [hk] at b1; cases b1
            obtain ⟨c2, w1, w2, w3, w4⟩ := hg M2 k d c ds rr d2 fd b2 b3 fds e3
            exact ⟨rr, κ2, M2.set k c2, by simp [eMt, a1, Res.bind, ty_list k2, a2, w4], r2.put g1 hk w2 w1, (s1.trans s2).trans (r2.putS g1 hk), rfl, w3⟩
          · cases hp
        · cases hp
      · cases hp
    · cases hp
  · cases hp
theorem je_mwD {N : Nat} {g : D → List D → Mem → Res D} {m : MW} {t : Ex} {u : Ax} {p : PX} {q : PAx} (hg : MwV g m) (h1 : JE N t p) (h2 : JA N u q) : JE N (eMt "dict" g t u) (pMwD m p q) := fun F ps κ e M x ps' r hp => by
  unfold pMwD at hp
  split at hp
  · rename_i i ps1 e1
    obtain ⟨d1, κ1, M1, a1, r1, s1, v1⟩ := h1 F ps κ e M _ _ r e1
    split at hp
    · rename_i f0 ks0 ws0 g0
      obtain ⟨k, k1, k2, _⟩ := r1.dict g0
      have := v1.at k1; subst this
      split at hp
      · rename_i ys ps2 e2
        obtain ⟨ds, κ2, M2, a2, r2, s2, v2⟩ := h2 F ps1 κ1 e M1 _ _ r1 e2
        split at hp
        · rename_i d g1
          split at hp
          · rename_i ds1 ea
            obtain ⟨rfl, fds⟩ := allV_ok v2 ea
            split at hp
            case h_2 => cases hp
            rename_i rr d2 e3
            cases hp
            obtain ⟨fd, k', c, b1, _, b2, b3, _⟩ := r2.own i false d g1
            have hk := s2.pre i k k1
            rw [hk] at b1; cases b1
            obtain ⟨c2, w1, w2, w3, w4⟩ := hg M2 k d c ds rr d2 fd b2 b3 fds e3
            exact ⟨rr, κ2, M2.set k c2, by simp [eMt, a1, Res.bind, ty_dict k2, a2, w4], r2.put g1 hk w2 w1, (s1.trans s2).trans (r2.putS g1 hk), rfl, w3⟩
          · cases hp
        · cases hp
      · cases hp
    · cases hp
  · cases hp
def wAppend : MW := fun d ys => match d, ys with
  | .lst xs, [y] => if nle (xs.length + 1) sizeLine then some (.non, .lst (xs ++ [y])) else none
  | _, _ => none
theorem Qr.val {M : Mem} {x' x : D} (h : Qr M x' x) (h1 : ∀ xs, x ≠ .lst xs) (h2 : ∀ ks vs, x ≠ .dct ks vs) : x' = x := by
  cases h <;> first | rfl | exact absurd rfl (h1 _) | exact absurd rfl (h2 _ _)
theorem mw_append : MwV mAppend wAppend := fun M k d c ys r d2 hd hc hk hy h => by
  unfold wAppend at h
  split at h
  · rename_i xs y
    split at h
    · rename_i hl
      cases h
      simp [cellOf] at hc; subst hc
      have hf : Fd (.lst (xs ++ [y])) := Fd.lst.mpr ((Fd.lst.mp hd).app hy)
      refine ⟨_, rfl, hf, rfl, ?_⟩
      simp only [mAppend, hk]
      rw [hl, wok_flat hf rfl]
      rfl
    · cases h
  · cases h
def wExtend : MW := fun d ys => match d, ys with
  | .lst xs, [y] => match asL M0 y with
    | some zs => if nle (xs.length + zs.length) sizeLine then some (.non, .lst (xs ++ zs)) else none
    | none => none
  | _, _ => none
theorem mw_extend : MwS mExtend wExtend := fun M k d c ys' ys r d2 hd hc hk hy h => by
  unfold wExtend at h
  split at h
  · rename_i xs y
    cases hy with
    | cons a b =>
      cases b
      split at h
      · rename_i zs hz
        split at h
        · rename_i hl
          cases h
          simp [cellOf] at hc; subst hc
          have hf : Fd (.lst (xs ++ zs)) := Fd.lst.mpr ((Fd.lst.mp hd).app (asL_M0 a.1 hz))
          refine ⟨_, rfl, hf, rfl, ?_⟩
          simp only [mExtend, hk, asL_q a.q, hz]
          rw [hl, wok_flat hf rfl]
          rfl
        · cases h
      · cases h
  · cases h
def wPop : MW := fun d ys => match d, ys with
  | .lst xs, [] => match xs[xs.length - 1]? with
    | some y => some (y, .lst xs.dropLast)
    | none => none
  | _, _ => none
theorem mw_pop : MwV mPop wPop := fun M k d c ys r d2 hd hc hk hy h => by
  unfold wPop at h
  split at h
  · rename_i xs
    split at h
    · rename_i y hz
      cases h
      simp [cellOf] at hc; subst hc
      have hf : Fd (.lst xs.dropLast) := Fd.lst.mpr ((Fd.lst.mp hd).sub fun z hz => (List.dropLast_sublist _).subset hz)
      refine ⟨_, rfl, hf, Fds.iff.mp (Fd.lst.mp hd) _ (List.mem_of_getElem? hz), ?_⟩
      simp only [mPop, hk, hz]
      rw [wok_flat hf rfl]
      rfl
    · cases h
  · cases h
theorem ddelK_mem {k y : D} : ∀ {ks : List D}, y ∈ ddelK k ks → y ∈ ks
  | [], h => h
  | x :: xs, h => by
    simp only [ddelK] at h
    split at h
    · exact List.mem_cons_of_mem _ h
    · rcases List.mem_cons.mp h with e | e
      · exact e ▸ List.mem_cons_self
      · exact List.mem_cons_of_mem _ (ddelK_mem e)
theorem ddelV_mem {k y : D} : ∀ {ks vs : List D}, y ∈ ddelV k ks vs → y ∈ vs
  | [], _, h => by simp [ddelV] at h
  | _ :: _, [], h => by simp [ddelV] at h
  | x :: xs, z :: zs, h => by
    simp only [ddelV] at h
    split at h
    · exact List.mem_cons_of_mem _ h
    · rcases List.mem_cons.mp h with e | e
      · exact e ▸ List.mem_cons_self
      · exact List.mem_cons_of_mem _ (ddelV_mem e)
theorem dputK_mem {k y : D} : ∀ {ks : List D}, y ∈ dputK k ks → y = k ∨ y ∈ ks
  | [], h => by simp [dputK] at h; exact .inl h
  | x :: xs, h => by
    simp only [dputK] at h
    split at h
    · exact .inr h
    · rcases List.mem_cons.mp h with e | e
      · exact .inr (e ▸ List.mem_cons_self)
      · rcases dputK_mem e with e | e
        · exact .inl e
        · exact .inr (List.mem_cons_of_mem _ e)
theorem dputV_mem {k v y : D} : ∀ {ks vs : List D}, y ∈ dputV k v ks vs → y = v ∨ y ∈ vs
  | [], _, h => by simp [dputV] at h; exact .inl h
  | _ :: _, [], h => by simp [dputV] at h; exact .inl h
  | x :: xs, z :: zs, h => by
    simp only [dputV] at h
    split at h
    · rcases List.mem_cons.mp h with e | e
      · exact .inl e
      · exact .inr (List.mem_cons_of_mem _ e)
    · rcases List.mem_cons.mp h with e | e
      · exact .inr (e ▸ List.mem_cons_self)
      · rcases dputV_mem e with e | e
        · exact .inl e
        · exact .inr (List.mem_cons_of_mem _ e)
/-- pop(k) of a dict -/
def wDPop : MW := fun d ys => match d, ys with
  | .dct ks ws, [t] => if kok ks t then (match dfind t ks ws with
    | some v => some (v, .dct (ddelK t ks) (ddelV t ks ws))
    | none => none) else none
  | _, _ => none
theorem mw_dpop : MwV mDPop wDPop := fun M k d c ys r d2 hd hc hk hy h => by
  unfold wDPop at h
  split at h
  · rename_i ks ws t
    split at h
    · rename_i hkk
      split at h
      · rename_i v hv
        cases h
        simp [cellOf] at hc; subst hc
        have fd := Fd.dct.mp hd
        have hf : Fd (.dct (ddelK t ks) (ddelV t ks ws)) := Fd.dct.mpr ⟨fd.1.sub fun z hz => ddelK_mem hz, fd.2.sub fun z hz => ddelV_mem hz⟩
        refine ⟨_, rfl, hf, Fds.iff.mp fd.2 _ (dfind_mem hv), ?_⟩
        simp only [mDPop, hk, hv, hkk]
        rw [wok_flat hf rfl]
        rfl
      · cases h
    · cases h
  · cases h
/-- get(k, d), both by value -/
def pGet (p : PX) (q : PAx) : PX := fun ps => match p ps with
  | some (x, ps1) => match asD M0 (dv ps1 x) with
    | some _ => match q ps1 with
      | some (ys, ps2) => match allV ys, asD M0 (dv ps2 x) with
        | some [k, d], some (ks, ws) => if kok ks k then some (.v ((dfind k ks ws).getD d), ps2) else none
        | _, _ => none
      | none => none
    | none => none
  | none => none
theorem tyD_dict {M : Mem} {d' d : D} {z : List D × List D} (h : Qr M d' d) (e : asD M0 d = some z) : tyD M "dict" d' = true := by
  cases h <;> simp [asD, M0] at e <;> simp [tyD, *]
theorem je_get {N : Nat} {t : Ex} {u : Ax} {p : PX} {q : PAx} (h1 : JE N t p) (h2 : JA N u q) : JE N (eMt "dict" mGet t u) (pGet p q) := fun F ps κ e M x ps' r hp => by
  unfold pGet at hp
  split at hp
  · rename_i x1 ps1 e1
    obtain ⟨d1, κ1, M1, a1, r1, s1, v1⟩ := h1 F ps κ e M _ _ r e1
    split at hp
    · rename_i z0 ez
      have ty := tyD_dict (r1.rdv v1).q ez
      split at hp
      · rename_i ys ps2 e2
        obtain ⟨ds, κ2, M2, a2, r2, s2, v2⟩ := h2 F ps1 κ1 e M1 _ _ r1 e2
        split at hp
        · rename_i k d ks ws ea ed
          split at hp
          · rename_i hk
            cases hp
            obtain ⟨rfl, ff⟩ := allV_ok v2 ea
            have rd := r2.rdv (v1.step s2)
            have q2 := asD_q rd.q
            rw [ed] at q2
            have ff2 := asD_M0 rd.1 ed
            refine ⟨(dfind k ks ws).getD d, κ2, M2, by simp [eMt, a1, Res.bind, ty, a2, mGet, q2, hk], r2, s1.trans s2, rfl, ?_⟩
            cases hz : dfind k ks ws with
            | none => exact Fds.iff.mp ff d (by simp)
            | some w => exact Fds.iff.mp ff2.2 w (dfind_mem hz)
          · cases hp
        · cases hp
      · cases hp
    · cases hp
  · cases hp
end EV

set_option Elab.async false
set_option linter.all false
set_option autoImplicit false
set_option maxRecDepth 100000
set_option maxHeartbeats 400000
namespace EV
open PySem PySem.Spec PyProof.Rows L2
/-! ### iteration -/
def Frz (κ : List Nat) (ps1 : PSl) (M1 : Mem) (fz fz' : Option Nat) (ps' : PSl) (M' : Mem) : Prop :=
  (fz = none ∧ fz' = none ∧ ps' = ps1 ∧ M' = M1) ∨ ∃ i k d c, fz = some i ∧ fz' = some k ∧ κ[i]? = some k ∧ gp ps1 i = some (.o false d) ∧ cellOf true d = some c ∧ ps' = ps1.set i (some (.o true d)) ∧ M' = M1.set k c
def JI (N : Nat) (it : Ix) (p : PIx) : Prop := ∀ (F : Nat → Prop) (ps : PSl) (κ : List Nat) (e : Sl) (M : Mem) (ds : List D) (fz : Option Nat) (ps' : PSl), Rep F N ps κ e M → p ps = some ((ds, fz), ps') →
  ∃ κ' ps1 M1 M' fz', it e M = .ok (ds, fz') M' ∧ Rep F N ps1 κ' e M1 ∧ StE F ps κ M ps1 κ' M1 ∧ Fds ds ∧ Frz κ' ps1 M1 fz fz' ps' M'
theorem Frz.rep {F : Nat → Prop} {N : Nat} {κ : List Nat} {ps1 ps' : PSl} {e : Sl} {M1 M' : Mem} {fz fz' : Option Nat} (h : Frz κ ps1 M1 fz fz' ps' M') (r : Rep F N ps1 κ e M1) : Rep F N ps' κ e M' := by
  rcases h with ⟨_, _, rfl, rfl⟩ | ⟨i, k, d, c, _, _, h1, h2, h3, rfl, rfl⟩
  · exact r
  · exact r.put h2 h1 (r.own i _ d h2).1 h3
def iterP : D → Option (List D)
  | .tup xs => some xs
  | .lst xs => some xs
  | .dct ks _ => some ks
  | .str z => some (signs z)
  | _ => none
theorem iterP_fd {d : D} {xs : List D} (h : Fd d) (e : iterP d = some xs) : Fds xs := by
  cases d <;> simp [iterP] at e <;> subst e
  · refine Fds.iff.mpr fun d hd => ?_
    obtain ⟨c, _, rfl⟩ := List.mem_map.mp hd
    rfl
  · exact Fd.tup.mp h
  · exact Fd.lst.mp h
  · exact (Fd.dct.mp h).1
def pEach (p : PX) : PIx := fun ps => match p ps with
  | some (.v d, ps1) => match iterP d with
    | some xs => some ((xs, none), ps1)
    | none => none
  | some (.s i, ps1) => match gp ps1 i with
    | some (.o true d) => match iterP d with
      | some xs => some ((xs, none), ps1)
      | none => none
    | some (.o false d) => match iterP d with
      | some xs => some ((xs, some i), ps1.set i (some (.o true d)))
      | none => none
    | _ => none
  | none => none
theorem ji_ex {N : Nat} {t : Ex} {p : PX} (h : JE N t p) : JI N (iEx t) (pEach p) := fun F ps κ e M ds fz ps' r hp => by
  unfold pEach at hp
  split at hp
  · rename_i d ps1 e1
    split at hp
    · rename_i xs e2
      cases hp
      obtain ⟨d1, κ1, M1, a1, r1, s1, rfl, f1⟩ := h F ps κ e M _ _ r e1
      refine ⟨κ1, _, M1, M1, none, ?_, r1, s1, iterP_fd f1 e2, .inl ⟨rfl, rfl, rfl, rfl⟩⟩
      simp only [iEx, a1, Res.bind]
      cases d1 <;> simp [iterP] at e2 <;> subst e2 <;> rfl
    · cases hp
  · rename_i i ps1 e1
    obtain ⟨d1, κ1, M1, a1, r1, s1, v1⟩ := h F ps κ e M _ _ r e1
    split at hp
    · rename_i d g1
      split at hp
      · rename_i xs e2
        cases hp
        obtain ⟨fd, k, c, b1, _, b2, b3, _⟩ := r1.own i true d g1
        have := v1.at b1; subst this
        refine ⟨κ1, _, M1, M1, none, ?_, r1, s1, iterP_fd fd e2, .inl ⟨rfl, rfl, rfl, rfl⟩⟩
        simp only [iEx, a1, Res.bind]
        cases d <;> simp [cellOf] at b2 <;> subst b2 <;> simp [iterP] at e2 <;> subst e2 <;> simp [iterD, b3]
      · cases hp
    · rename_i d g1
      split at hp
      · rename_i xs e2
        cases hp
        obtain ⟨fd, k, c, b1, _, b2, b3, _⟩ := r1.own i false d g1
        have := v1.at b1; subst this
        cases d <;> simp [cellOf] at b2 <;> subst b2 <;> simp [iterP] at e2 <;> subst e2
        · exact ⟨κ1, ps1, M1, _, some k, by simp [iEx, a1, Res.bind, iterD, b3], r1, s1, Fd.lst.mp fd, .inr ⟨i, k, _, _, rfl, rfl, b1, g1, rfl, rfl, rfl⟩⟩
        · exact ⟨κ1, ps1, M1, _, some k, by simp [iEx, a1, Res.bind, iterD, b3], r1, s1, (Fd.dct.mp fd).1, .inr ⟨i, k, _, _, rfl, rfl, b1, g1, rfl, rfl, rfl⟩⟩
      · cases hp
    · cases hp
  · cases hp
theorem rng_fd (lo : Int) (n : Nat) : Fds (rng lo n) := Fds.iff.mpr fun d hd => by
  obtain ⟨c, _, rfl⟩ := List.mem_map.mp hd
  rfl
def pR1 (q : PAx) : PIx := fun ps => match q ps with
  | some ([.v (.int j)], ps1) => if small62 j then some ((rng 0 j.toNat, none), ps1) else none
  | _ => none
theorem ji_r1 {N : Nat} {t : Ax} {q : PAx} (h : JA N t q) : JI N (iR1 t) (pR1 q) := fun F ps κ e M ds fz ps' r hp => by
  unfold pR1 at hp
  split at hp
  · rename_i j ps1 e1
    split at hp
    · rename_i hj
      cases hp
      obtain ⟨d1, κ1, M1, a1, r1, s1, v1⟩ := h F ps κ e M _ _ r e1
      cases v1 with
      | cons v v' =>
        cases v'
        obtain ⟨rfl, _⟩ := v
        exact ⟨κ1, _, M1, M1, none, by simp [iR1, a1, Res.bind, hj], r1, s1, rng_fd _ _, .inl ⟨rfl, rfl, rfl, rfl⟩⟩
    · cases hp
  · cases hp
def pR2 (q : PAx) : PIx := fun ps => match q ps with
  | some ([.v (.int i), .v (.int j)], ps1) => if small62 i && small62 j then some ((rng i (j - i).toNat, none), ps1) else none
  | _ => none
theorem ji_r2 {N : Nat} {t : Ax} {q : PAx} (h : JA N t q) : JI N (iR2 t) (pR2 q) := fun F ps κ e M ds fz ps' r hp => by
  unfold pR2 at hp
  split at hp
  · rename_i i j ps1 e1
    split at hp
    · rename_i hj
      cases hp
      obtain ⟨d1, κ1, M1, a1, r1, s1, v1⟩ := h F ps κ e M _ _ r e1
      cases v1 with
      | cons v v' =>
        obtain ⟨rfl, _⟩ := v
        cases v' with
        | cons w w' =>
          cases w'
          obtain ⟨rfl, _⟩ := w
          exact ⟨κ1, _, M1, M1, none, by simp only [iR2, a1, Res.bind, hj, if_true], r1, s1, rng_fd _ _, .inl ⟨rfl, rfl, rfl, rfl⟩⟩
    · cases hp
  · cases hp
/-! ### targets -/
structure GtO (sl : List Nat) (ps ps' : PSl) (e e' : Sl) : Prop where
  frz : ∀ (i : Nat) d, gp ps i = some (.o true d) → gp ps' i = some (.o true d)
  out : ∀ i : Nat, i ∉ sl → gp ps' i = gp ps i ∧ e'[i]? = e[i]?
  len : ps'.length = ps.length
theorem GtO.refl {sl : List Nat} {ps : PSl} {e : Sl} : GtO sl ps ps e e := ⟨fun _ _ h => h, fun _ _ => ⟨rfl, rfl⟩, rfl⟩
theorem GtO.trans {sl : List Nat} {ps ps1 ps2 : PSl} {e e1 e2 : Sl} (s : GtO sl ps ps1 e e1) (t : GtO sl ps1 ps2 e1 e2) : GtO sl ps ps2 e e2 :=
  ⟨fun i d h => t.frz i d (s.frz i d h), fun i h => ⟨(t.out i h).1.trans (s.out i h).1, (t.out i h).2.trans (s.out i h).2⟩, t.len.trans s.len⟩
theorem GtO.mono {sl sl' : List Nat} {ps ps' : PSl} {e e' : Sl} (s : GtO sl ps ps' e e') (h : ∀ i ∈ sl, i ∈ sl') : GtO sl' ps ps' e e' := ⟨s.frz, fun i hi => s.out i fun z => hi (h i z), s.len⟩
def JG (N : Nat) (sl : List Nat) (g : Gt) (pg : PGt) : Prop := ∀ (F : Nat → Prop) (ps : PSl) (κ : List Nat) (e : Sl) (M : Mem) (d : D) (ps' : PSl), Rep F N ps κ e M → Fd d → pg d ps = some ps' →
  ∃ e', g d e M = some e' ∧ Rep F N ps' κ e' M ∧ GtO sl ps ps' e e'
def JGs (N : Nat) (sl : List Nat) (g : Gts) (pg : PGts) : Prop := ∀ (F : Nat → Prop) (ps : PSl) (κ : List Nat) (e : Sl) (M : Mem) (d : List D) (ps' : PSl), Rep F N ps κ e M → Fds d → pg d ps = some ps' →
  ∃ e', g d e M = some e' ∧ Rep F N ps' κ e' M ∧ GtO sl ps ps' e e'
def frzAt (ps : PSl) (i : Nat) : Bool := match gp ps i with
  | some (.o true _) => true
  | _ => false
theorem Rep.setV {F : Nat → Prop} {N : Nat} {ps : PSl} {κ : List Nat} {e : Sl} {M : Mem} (r : Rep F N ps κ e M) {i : Nat} {d : D} (hi : i < N) (hd : Fd d) : Rep F N (ps.set i (some (.v d))) κ (e.set i (some d)) M := by
  refine ⟨by simp [r.lk], by simp [r.le], by simp [r.ln], fun j d1 h => ?_, fun j g d1 h => ?_, fun a b g d1 g2 d2 q h1 h2 h3 h4 => ?_, r.fr⟩
  · rcases gp_set h with ⟨e1, _, h⟩ | ⟨e1, h⟩
    · cases h; subst e1
      exact ⟨hd, fun _ => by rw [List.getElem?_set_self (by rw [r.le]; exact hi)]⟩
    · obtain ⟨a, b⟩ := r.val j d1 h
      exact ⟨a, fun z => by rw [List.getElem?_set_ne e1]; exact b z⟩
  · rcases gp_set h with ⟨e1, _, h⟩ | ⟨e1, h⟩
    · cases h
    · obtain ⟨a1, q, c1, a2, a3, a4, a5, a6⟩ := r.own j g d1 h
      exact ⟨a1, q, c1, a2, a3, a4, a5, fun z => by rw [List.getElem?_set_ne e1]; exact a6 z⟩
  · rcases gp_set h1 with ⟨_, _, h1⟩ | ⟨_, h1⟩
    · cases h1
    · rcases gp_set h2 with ⟨_, _, h2⟩ | ⟨_, h2⟩
      · cases h2
      · exact r.dis a b _ _ _ _ q h1 h2 h3 h4
def hN (i : Nat) : PGt := fun d ps => if frzAt ps i then none else some (ps.set i (some (.v d)))
theorem frz_set {ps : PSl} {i : Nat} {x : Option PS} (h : ¬ frzAt ps i = true) : ∀ (j : Nat) d, gp ps j = some (.o true d) → gp (ps.set i x) j = some (.o true d) := fun j d hj => by
  have : i ≠ j := fun z => h (by subst z; simp [frzAt, hj])
  rw [gp_ne this]; exact hj
theorem jg_n {N : Nat} (i : Nat) (hi : i < N) : JG N [i] (gN i) (hN i) := fun F ps κ e M d ps' r hd hp => by
  unfold hN at hp
  split at hp
  · cases hp
  · rename_i hz
    cases hp
    exact ⟨_, rfl, r.setV hi hd, frz_set hz, fun j hj => by
      have : i ≠ j := fun z => hj (by simp [z])
      exact ⟨gp_ne this, List.getElem?_set_ne this⟩, by simp⟩
def hsN : PGts := fun ds ps => match ds with
  | [] => some ps
  | _ => none
def hsC (g : PGt) (gs : PGts) : PGts := fun ds ps => match ds with
  | d :: ds => match g d ps with
    | some ps1 => gs ds ps1
    | none => none
  | [] => none
def hT (n : Nat) (gs : PGts) : PGt := fun d ps => match d with
  | .tup ds => if Nat.beq ds.length n then gs ds ps else none
  | _ => none
theorem jgs_n {N : Nat} : JGs N [] gsN hsN := fun F ps κ e M d ps' r hd hp => by
  cases d with
  | nil => cases hp; exact ⟨e, rfl, r, .refl⟩
  | cons _ _ => cases hp
theorem jgs_c {N : Nat} {sl sl' : List Nat} {g : Gt} {gs : Gts} {pg : PGt} {pgs : PGts} (h1 : JG N sl g pg) (h2 : JGs N sl' gs pgs) : JGs N (sl ++ sl') (gsC g gs) (hsC pg pgs) := fun F ps κ e M d ps' r hd hp => by
  cases d with
  | nil => cases hp
  | cons d ds =>
    have hd' := Fds.iff.mp hd
    simp only [hsC] at hp
    split at hp
    · rename_i ps1 e1
      obtain ⟨e2, a1, r1, o1⟩ := h1 F ps κ e M d ps1 r (hd' d List.mem_cons_self) e1
      obtain ⟨e3, a2, r2, o2⟩ := h2 F ps1 κ e2 M ds ps' r1 (Fds.iff.mpr fun z hz => hd' z (List.mem_cons_of_mem _ hz)) hp
      exact ⟨e3, by simp [gsC, a1, a2], r2, (o1.mono fun i hi => List.mem_append_left _ hi).trans (o2.mono fun i hi => List.mem_append_right _ hi)⟩
    · cases hp
theorem jg_t {N n : Nat} {sl : List Nat} {gs : Gts} {pgs : PGts} (h : JGs N sl gs pgs) : JG N sl (gT n gs) (hT n pgs) := fun F ps κ e M d ps' r hd hp => by
  cases d <;> simp [hT] at hp
  obtain ⟨hl, hp⟩ := hp
  obtain ⟨e2, a1, r1, o1⟩ := h F ps κ e M _ ps' r (Fd.tup.mp hd) hp
  exact ⟨e2, by simp [gT, hl, a1], r1, o1⟩
/-! ### comprehensions -/
def wipeP (ps : PSl) : List Nat → PSl
  | [] => ps
  | v :: vs => (wipeP ps vs).set v none
def restP (ps0 ps : PSl) : List Nat → PSl
  | [] => ps
  | v :: vs => (restP ps0 ps vs).set v (gp ps0 v)
def noOwn (ps : PSl) : List Nat → Bool
  | [] => true
  | v :: vs => match gp ps v with
    | some (.o _ _) => false
    | _ => noOwn ps vs
theorem wipeP_len {ps : PSl} : ∀ {vs : List Nat}, (wipeP ps vs).length = ps.length
  | [] => rfl
  | v :: vs => by simp [wipeP, wipeP_len]
theorem restP_len {ps0 ps : PSl} : ∀ {vs : List Nat}, (restP ps0 ps vs).length = ps.length
  | [] => rfl
  | v :: vs => by simp [restP, restP_len]
theorem gp_wipe {ps : PSl} {i : Nat} : ∀ {vs : List Nat}, i ∉ vs → gp (wipeP ps vs) i = gp ps i
  | [], _ => rfl
  | v :: vs, h => by
    rw [wipeP, gp_ne (fun z => h (by simp [z])), gp_wipe (fun z => h (List.mem_cons_of_mem _ z))]
theorem gp_none : ∀ {ps : PSl} {i : Nat}, ps.length ≤ i → gp ps i = none
  | [], _, _ => rfl
  | _ :: _, 0, h => by simp at h
  | _ :: ps, i + 1, h => by simp [gp]; exact gp_none (by simpa using h)
theorem gp_wiped {ps : PSl} {i : Nat} : ∀ {vs : List Nat}, i ∈ vs → gp (wipeP ps vs) i = none
  | v :: vs, h => by
    rw [wipeP]
    by_cases e : v = i
    · subst e
      by_cases hl : v < (wipeP ps vs).length
      · exact gp_self hl
      · exact gp_none (by simp; omega)
    · rw [gp_ne e]
      rcases List.mem_cons.mp h with z | z
      · exact absurd z.symm e
      · exact gp_wiped z
theorem gp_rest {ps0 ps : PSl} {i : Nat} : ∀ {vs : List Nat}, i ∉ vs → gp (restP ps0 ps vs) i = gp ps i
  | [], _ => rfl
  | v :: vs, h => by
    rw [restP, gp_ne (fun z => h (by simp [z])), gp_rest (fun z => h (List.mem_cons_of_mem _ z))]
theorem gp_resto {ps0 ps : PSl} {i : Nat} (hl : ps0.length ≤ ps.length) : ∀ {vs : List Nat}, i ∈ vs → gp (restP ps0 ps vs) i = gp ps0 i
  | v :: vs, h => by
    rw [restP]
    by_cases e : v = i
    · subst e
      by_cases hv : v < (restP ps0 ps vs).length
      · exact gp_self hv
      · rw [gp_none (by simp; omega)]
        rw [restP_len] at hv
        exact (gp_none (by omega)).symm
    · rw [gp_ne e]
      rcases List.mem_cons.mp h with z | z
      · exact absurd z.symm e
      · exact gp_resto hl z
theorem noOwn_ok {ps : PSl} : ∀ {vs : List Nat}, noOwn ps vs = true → ∀ v ∈ vs, ∀ f d, gp ps v ≠ some (.o f d)
  | v :: vs, h, w, hw, f, d, hz => by
    simp only [noOwn] at h
    split at h
    · cases h
    · rename_i hn
      rcases List.mem_cons.mp hw with z | z
      · subst z; exact hn f d hz
      · exact noOwn_ok h w z f d hz
theorem wipeD_len {e : Sl} : ∀ {vs : List Nat}, (wipeD e vs).length = e.length
  | [] => rfl
  | v :: vs => by simp [wipeD, wipeD_len]
theorem wipeD_out {e : Sl} {i : Nat} : ∀ {vs : List Nat}, i ∉ vs → (wipeD e vs)[i]? = e[i]?
  | [], _ => rfl
  | v :: vs, h => by
    rw [wipeD, List.getElem?_set_ne (fun z => h (by simp [z])), wipeD_out (fun z => h (List.mem_cons_of_mem _ z))]
/-- the slots vs are empty; the others as they are -/
theorem Rep.wipe {F : Nat → Prop} {N : Nat} {ps : PSl} {κ : List Nat} {e e' : Sl} {M : Mem} (vs : List Nat) (r : Rep F N ps κ e M) (hl : e'.length = e.length) (h : ∀ i : Nat, i ∉ vs → e'[i]? = e[i]?) : Rep F N (wipeP ps vs) κ e' M := by
  have old : ∀ (i : Nat) x, gp (wipeP ps vs) i = some x → i ∉ vs ∧ gp ps i = some x := fun i x hx => by
    by_cases hv : i ∈ vs
    · rw [gp_wiped hv] at hx; cases hx
    · rw [gp_wipe hv] at hx; exact ⟨hv, hx⟩
  refine ⟨by rw [wipeP_len]; exact r.lk, hl.trans r.le, by rw [wipeP_len]; exact r.ln, fun i d hi => ?_, fun i f d hi => ?_, fun a b g d1 g2 d2 q h1 h2 h3 h4 => r.dis a b _ _ _ _ q (old _ _ h1).2 (old _ _ h2).2 h3 h4, r.fr⟩
  · obtain ⟨o1, o2⟩ := old _ _ hi
    obtain ⟨a, b⟩ := r.val i d o2
    exact ⟨a, fun z => by rw [h i o1]; exact b z⟩
  · obtain ⟨o1, o2⟩ := old _ _ hi
    obtain ⟨a1, q, c1, a2, a3, a4, a5, a6⟩ := r.own i f d o2
    exact ⟨a1, q, c1, a2, a3, a4, a5, fun z => by rw [h i o1]; exact a6 z⟩
def JB {α : Type} (N : Nat) (vs : List Nat) (Ft : α → Prop) (L : Sl → Mem → Res α) (B : PSl → Option (α × PSl)) : Prop := ∀ (F : Nat → Prop) (ps : PSl) (κ : List Nat) (e : Sl) (M : Mem) (a : α) (ps' : PSl), Rep F N ps κ e M → (∀ v ∈ vs, gp ps v = none) → B ps = some (a, ps') →
  ∃ κ' M', L e M = .ok a M' ∧ Rep F N ps' κ' e M' ∧ StE F ps κ M ps' κ' M' ∧ Ft a
def thawP (fz : Option Nat) (ps : PSl) : PSl := match fz with
  | none => ps
  | some i => match gp ps i with
    | some (.o _ d) => ps.set i (some (.o false d))
    | _ => ps
def blkP {α : Type} (vs : List Nat) (it : PIx) (B : List D → PSl → Option (α × PSl)) : PSl → Option (α × PSl) := fun ps => match it ps with
  | some ((ds, fz), ps1) => if noOwn ps1 vs then (match B ds (wipeP ps1 vs) with
    | some (a, ps2) => if Nat.beq ps2.length ps1.length then some (a, thawP fz (restP ps1 ps2 vs)) else none
    | none => none) else none
  | none => none
theorem take_set {α : Type} {l : List α} {n : Nat} {c : α} (h : l.length = n + 1) : l.set n c = l.take n ++ [c] := by
  apply List.ext_getElem?
  intro i
  by_cases h1 : i < n
  · rw [List.getElem?_set_ne (by omega), List.getElem?_append_left (by simp; omega), List.getElem?_take_of_lt h1]
  · by_cases h2 : i = n
    · subst h2
      rw [List.getElem?_set_self (by omega), List.getElem?_append_right (by simp; omega)]
      simp [h]
    · rw [List.getElem?_eq_none (by simp; omega), List.getElem?_eq_none (by simp; omega)]
theorem blk_ok {α : Type} {N : Nat} {vs : List Nat} {Ft : α → Prop} {it : Ix} {pit : PIx} {L : List D → Sl → Mem → Res α} {B : List D → PSl → Option (α × PSl)} (hi : JI N it pit) (hb : ∀ ds, Fds ds → JB N vs Ft (L ds) (B ds)) :
    ∀ (F : Nat → Prop) (ps : PSl) (κ : List Nat) (e : Sl) (M : Mem) (a : α) (ps' : PSl), Rep F N ps κ e M → blkP vs pit B ps = some (a, ps') →
    ∃ ds fz M1 M2 κ2 Mt, it e M = .ok (ds, fz) M1 ∧ L ds (wipeD e vs) ⟨M1.c.length, M1.c ++ [.hid]⟩ = .ok a M2 ∧ M2.c.length = M1.c.length + 1 ∧ thawO fz ⟨M1.b, M2.c.take M1.c.length⟩ = some Mt ∧ Rep F N ps' κ2 e Mt ∧ StE F ps κ M ps' κ2 Mt ∧ Ft a ∧
      (∀ c, thawO fz ⟨M1.b, M2.c.set M1.c.length c⟩ = some ⟨Mt.b, Mt.c ++ [c]⟩) ∧ Mt.c.length = M1.c.length := fun F ps κ e M a ps' r hp => by
  unfold blkP at hp
  split at hp
  · rename_i ds fz ps1 e1
    obtain ⟨κ1, ps0, M0', M1, fz', a1, r0, s0, fd, hz⟩ := hi F ps κ e M ds fz ps1 r e1
    have r1 := hz.rep r0
    split at hp
    · rename_i hno
      have hno := noOwn_ok hno
      split at hp
      · rename_i a2 ps2 e2
        split at hp
        · rename_i hl
          cases hp
          have hl : ps2.length = ps1.length := Nat.eq_of_beq_eq_true hl
          -- inner memory
          have rw1 : Rep F N (wipeP ps1 vs) κ1 (wipeD e vs) M1 := r1.wipe vs wipeD_len (fun i h => wipeD_out h)
          have ri : Rep (fun k => F k ∨ k = M1.c.length) N (wipeP ps1 vs) κ1 (wipeD e vs) ⟨M1.c.length, M1.c ++ [.hid]⟩ := by
            refine ⟨rw1.lk, rw1.le, rw1.ln, rw1.val, fun i f d h => ?_, rw1.dis, fun k hk => ?_⟩
            · obtain ⟨b1, k, c, b2, b3, b4, b5, b6⟩ := rw1.own i f d h
              have hk := (List.getElem?_eq_some_iff.mp b5).1
              exact ⟨b1, k, c, b2, fun z => z.elim b3 (by omega), b4, by rw [List.getElem?_append_left hk]; exact b5, b6⟩
            · rcases hk with hk | hk
              · have := r1.fr k hk; simp; omega
              · simp [hk]
          obtain ⟨κ2, M2, c1, r2, s2, ft⟩ := hb ds fd _ _ _ _ _ _ _ ri (fun v hv => gp_wiped hv) e2
          have hM2 : M2.c.length = M1.c.length + 1 := by
            have := s2.len
            rw [wipeP_len, hl] at this
            simp at this
            omega
          -- taken back
          have rt : Rep F N (restP ps1 ps2 vs) κ2 e ⟨M1.b, M2.c.take M1.c.length⟩ := by
            have old : ∀ (i : Nat) f d, gp (restP ps1 ps2 vs) i = some (.o f d) → i ∉ vs ∧ gp ps2 i = some (.o f d) := fun i f d h => by
              by_cases hv : i ∈ vs
              · rw [gp_resto (by omega) hv] at h
                exact absurd h (hno i hv f d)
              · rw [gp_rest hv] at h; exact ⟨hv, h⟩
            refine ⟨by rw [restP_len]; exact r2.lk, r.le, by rw [restP_len, hl]; exact r1.ln, fun i d h => ?_, fun i f d h => ?_, fun a b g d1 g2 d2 q h1 h2 h3 h4 => r2.dis a b _ _ _ _ q (old _ _ _ h1).2 (old _ _ _ h2).2 h3 h4, fun k hk => ?_⟩
            · by_cases hv : i ∈ vs
              · rw [gp_resto (by omega) hv] at h
                exact r1.val i d h
              · rw [gp_rest hv] at h
                obtain ⟨b1, b2⟩ := r2.val i d h
                exact ⟨b1, fun z => by rw [← wipeD_out (vs := vs) hv]; exact b2 z⟩
            · obtain ⟨hv, h⟩ := old i f d h
              obtain ⟨b1, k, c, b2, b3, b4, b5, b6⟩ := r2.own i f d h
              have hk := (List.getElem?_eq_some_iff.mp b5).1
              have hk2 : k < M1.c.length := by
                have : k ≠ M1.c.length := fun z => b3 (.inr z)
                omega
              exact ⟨b1, k, c, b2, fun z => b3 (.inl z), b4, by simp only []; rw [List.getElem?_take_of_lt hk2]; exact b5, fun z => by rw [← wipeD_out (vs := vs) hv]; exact b6 z⟩
            · have := r1.fr k hk
              simp; omega
          have lt : (M2.c.take M1.c.length).length = M1.c.length := by simp; omega
          -- how own slots go
          have own2 : ∀ (i : Nat) f d, gp ps1 i = some (.o f d) → ∃ d', gp (restP ps1 ps2 vs) i = some (.o f d') ∧ (f = true → d' = d) := fun i f d h => by
            have hv : i ∉ vs := fun z => hno i z f d h
            obtain ⟨d', g1, g2⟩ := s2.own i f d (by rw [gp_wipe hv]; exact h)
            exact ⟨d', by rw [gp_rest hv]; exact g1, g2⟩
          have frm2 : ∀ k, F k → (M2.c.take M1.c.length)[k]? = M1.c[k]? := fun k hk => by
            have hl := r1.fr k hk
            rw [List.getElem?_take_of_lt hl, s2.frm k (.inl hk), List.getElem?_append_left hl]
          rcases hz with ⟨rfl, rfl, rfl, rfl⟩ | ⟨i, k, d, c, rfl, rfl, z1, z2, z3, rfl, rfl⟩
          · refine ⟨ds, none, M1, M2, κ2, _, a1, c1, hM2, rfl, rt, ?_, ft, fun c => ?_, lt⟩
            · refine s0.trans ⟨s2.pre, own2, rfl, frm2, ?_, ?_⟩
              · show (M2.c.take M1.c.length).length + ps1.length = M1.c.length + (restP ps1 ps2 vs).length
                rw [restP_len]; omega
              · show ps1.length ≤ (restP ps1 ps2 vs).length
                rw [restP_len]; omega
            · simp only [thawO]
              rw [take_set hM2]
          · -- thawed
            have hlt := gp_lt z2
            obtain ⟨d', g1, g2⟩ := own2 i true d (gp_self hlt)
            have := g2 rfl; subst this
            obtain ⟨b1, k', c', b2, b3, b4, b5, b6⟩ := rt.own i true d' g1
            have hk := s2.pre i k z1
            rw [hk] at b2; cases b2
            have hkl := (List.getElem?_eq_some_iff.mp b5).1
            have hpr : ∃ cf, cellOf false d' = some cf ∧ ∀ (l : List Cell) b, l[k]? = some c' → EV.thaw k ⟨b, l⟩ = some (Mem.set ⟨b, l⟩ k cf) := by
              cases d' <;> simp [cellOf] at b4 <;> subst b4
              · exact ⟨_, rfl, fun l b h => by simp [EV.thaw, h]⟩
              · exact ⟨_, rfl, fun l b h => by simp [EV.thaw, h]⟩
            obtain ⟨cf, p1, p2⟩ := hpr
            have tp : thawP (some i) (restP (ps0.set i (some (.o true d'))) ps2 vs) = (restP (ps0.set i (some (.o true d'))) ps2 vs).set i (some (.o false d')) := by
              simp only [thawP, g1]
            refine ⟨ds, some k, M0'.set k c, M2, κ2, _, a1, c1, hM2, by simp only [thawO]; exact p2 _ _ b5, by rw [tp]; exact rt.put g1 hk b1 p1, ?_, ft, fun c0 => ?_, ?_⟩
            · rw [tp]
              refine s0.trans ⟨s2.pre, fun j f d1 h => ?_, rfl, fun q hq => ?_, ?_, ?_⟩
              · by_cases e5 : i = j
                · subst e5
                  rw [z2] at h; cases h
                  exact ⟨d', gp_self (gp_lt g1), fun _ => rfl⟩
                · obtain ⟨d2, g3, g4⟩ := own2 j f d1 (by rw [gp_ne e5]; exact h)
                  exact ⟨d2, by rw [gp_ne e5]; exact g3, g4⟩
              · have hq1 : k ≠ q := fun z => b3 (z ▸ hq)
                simp only [Mem.set]
                rw [List.getElem?_set_ne hq1]
                have := frm2 q hq
                simp only [Mem.set] at this
                rw [this, List.getElem?_set_ne hq1]
              · simp only [Mem.set, List.length_set, restP_len] at hl lt ⊢
                rw [lt]; omega
              · simp only [List.length_set, restP_len] at hl ⊢
                omega
            · simp only [thawO]
              rw [take_set hM2, p2 _ _ (by rw [List.getElem?_append_left hkl]; exact b5)]
              simp only [Mem.set] at hkl ⊢
              rw [List.set_append_left _ _ hkl]
            · simp only [Mem.set, List.length_set] at lt ⊢
              exact lt
        · cases hp
      · cases hp
    · cases hp
  · cases hp
end EV

set_option Elab.async false
set_option linter.all false
set_option autoImplicit false
set_option maxRecDepth 100000
set_option maxHeartbeats 400000
namespace EV
open PySem PySem.Spec PyProof.Rows L2
section
variable {F : Nat → Prop} {N : Nat} {ps ps1 ps2 ps3 : PSl} {κ κ1 κ2 : List Nat} {e e1 : Sl} {M M1 M2 : Mem}
theorem StE.wipe {sl vs : List Nat} (o : GtO sl ps ps1 e e1) (hs : ∀ i ∈ sl, i ∈ vs) (hv : ∀ v ∈ vs, gp ps v = none) (s : StE F ps1 κ M ps3 κ1 M1) : StE F ps κ M (wipeP ps3 vs) κ1 M1 := by
  refine ⟨s.pre, fun i f d h => ?_, s.b, s.frm, ?_, ?_⟩
  · have hi : i ∉ vs := fun z => by rw [hv i z] at h; cases h
    obtain ⟨d', h1, h2⟩ := s.own i f d (by rw [(o.out i fun z => hi (hs i z)).1]; exact h)
    exact ⟨d', by rw [gp_wipe hi]; exact h1, h2⟩
  · have := s.len; have := o.len; rw [wipeP_len]; omega
  · have := s.mono; have := o.len; rw [wipeP_len]; omega
theorem StE.frozen {fz fz' : Option Nat} {psf ps4 : PSl} {Mf M4 : Mem} {κ4 : List Nat} {e4 : Sl} (z : Frz κ1 ps1 M1 fz fz' psf Mf) (s : StE F psf κ1 Mf ps4 κ4 M4) (r : Rep F N ps4 κ4 e4 M4) (rf : ∀ k, F k → k < M1.c.length) :
    ∃ M5, thawO fz' M4 = some M5 ∧ Rep F N (thawP fz ps4) κ4 e4 M5 ∧ StE F ps1 κ1 M1 (thawP fz ps4) κ4 M5 := by
  rcases z with ⟨rfl, rfl, rfl, rfl⟩ | ⟨i, k, d, c, rfl, rfl, z1, z2, z3, rfl, rfl⟩
  · exact ⟨M4, rfl, r, s⟩
  · have hlt := gp_lt z2
    obtain ⟨d', g1, g2⟩ := s.own i true d (gp_self hlt)
    have := g2 rfl; subst this
    obtain ⟨b1, k', c', b2, b3, b4, b5, b6⟩ := r.own i true d' g1
    have hk := s.pre i k z1
    rw [hk] at b2; cases b2
    have hpr : ∃ cf, cellOf false d' = some cf ∧ ∀ (l : List Cell) b, l[k]? = some c' → EV.thaw k ⟨b, l⟩ = some (Mem.set ⟨b, l⟩ k cf) := by
      cases d' <;> simp [cellOf] at b4 <;> subst b4
      · exact ⟨_, rfl, fun l b h => by simp [EV.thaw, h]⟩
      · exact ⟨_, rfl, fun l b h => by simp [EV.thaw, h]⟩
    obtain ⟨cf, p1, p2⟩ := hpr
    have tp : thawP (some i) ps4 = ps4.set i (some (.o false d')) := by simp only [thawP, g1]
    refine ⟨M4.set k cf, p2 M4.c M4.b b5, by rw [tp]; exact r.put g1 hk b1 p1, ?_⟩
    rw [tp]
    refine ⟨s.pre, fun j f d1 h => ?_, s.b, fun q hq => ?_, ?_, ?_⟩
    · by_cases e5 : i = j
      · subst e5
        rw [z2] at h; cases h
        exact ⟨d', gp_self (gp_lt g1), fun _ => rfl⟩
      · obtain ⟨d2, g3, g4⟩ := s.own j f d1 (by rw [gp_ne e5]; exact h)
        exact ⟨d2, by rw [gp_ne e5]; exact g3, g4⟩
    · have hq1 : k ≠ q := fun z => b3 (z ▸ hq)
      have h1 := s.frm q hq
      simp only [Mem.set] at h1 ⊢
      rw [List.getElem?_set_ne hq1, h1, List.getElem?_set_ne hq1]
    · have := s.len
      simp only [Mem.set, List.length_set] at this ⊢
      exact this
    · have := s.mono
      simp only [List.length_set] at this ⊢
      exact this
end
def pCompL (g : PGt) (tt : PTx) (te : PX) (vs : List Nat) : List D → PSl → Option (List D × PSl)
  | [], ps => some ([], ps)
  | d :: ds, ps => match g d ps with
    | none => none
    | some ps1 => match tt ps1 with
      | some (true, ps2) => match te ps2 with
        | some (.v y, ps3) => match pCompL g tt te vs ds (wipeP ps3 vs) with
          | some (ys, ps4) => some (y :: ys, ps4)
          | none => none
        | _ => none
      | some (false, ps2) => pCompL g tt te vs ds (wipeP ps2 vs)
      | none => none
theorem jb_comp {N : Nat} {vs sl : List Nat} {g : Gt} {tt : Tx} {te : Ex} {pg : PGt} {pt : PTx} {pe : PX} (h1 : JG N sl g pg) (hs : ∀ i ∈ sl, i ∈ vs) (h2 : JT N tt pt) (h3 : JE N te pe) :
    ∀ ds, Fds ds → JB N vs Fds (fun e M => compL g tt te e ds M) (pCompL pg pt pe vs ds)
  | [], _ => fun F ps κ e M a ps' r hv hp => by
    cases hp
    exact ⟨κ, M, rfl, r, .refl, rfl⟩
  | d :: ds, fd => fun F ps κ e M a ps' r hv hp => by
    have fd1 := Fds.iff.mp fd d List.mem_cons_self
    have fd2 : Fds ds := Fds.iff.mpr fun z hz => Fds.iff.mp fd z (List.mem_cons_of_mem _ hz)
    have ih := jb_comp h1 hs h2 h3 ds fd2
    simp only [pCompL] at hp
    split at hp
    · cases hp
    · rename_i ps1 e1
      obtain ⟨ee, a1, r1, o1⟩ := h1 F ps κ e M d ps1 r fd1 e1
      have hl : e.length = ee.length := by rw [r.le, r1.le]
      have ho : ∀ i : Nat, i ∉ vs → e[i]? = ee[i]? := fun i hi => ((o1.out i fun z => hi (hs i z)).2).symm
      split at hp
      · rename_i ps2 e2
        obtain ⟨κ2, M2, a2, r2, s2⟩ := h2 F ps1 κ ee M _ _ r1 e2
        split at hp
        · rename_i y ps3 e3
          obtain ⟨d3, κ3, M3, a3, r3, s3, rfl, f3⟩ := h3 F ps2 κ2 ee M2 _ _ r2 e3
          split at hp
          · rename_i ys ps4 e4
            cases hp
            have rw' := r3.wipe vs hl ho
            have sw := StE.wipe o1 hs hv (s2.trans s3)
            obtain ⟨κ4, M4, a4, r4, s4, f4⟩ := ih F _ κ3 e M3 ys _ rw' (fun v hv => gp_wiped hv) e4
            refine ⟨κ4, M4, by simp only [compL, a1, a2, a3]; simp only at a4; rw [a4], r4, sw.trans s4, Fds.iff.mpr fun z hz => ?_⟩
            rcases List.mem_cons.mp hz with q | q
            · rw [q]; exact f3
            · exact Fds.iff.mp f4 z q
          · cases hp
        · cases hp
      · rename_i ps2 e2
        obtain ⟨κ2, M2, a2, r2, s2⟩ := h2 F ps1 κ ee M _ _ r1 e2
        have rw' := r2.wipe vs hl ho
        have sw := StE.wipe o1 hs hv s2
        obtain ⟨κ4, M4, a4, r4, s4, f4⟩ := ih F _ κ2 e M2 a _ rw' (fun v hv => gp_wiped hv) hp
        exact ⟨κ4, M4, by simp only [compL, a1, a2]; exact a4, r4, sw.trans s4, f4⟩
      · cases hp
def lcB (g : PGt) (tt : PTx) (te : PX) (vs : List Nat) : List D → PSl → Option (List D × PSl) := fun ds ps => if nle ds.length sizeLine then pCompL g tt te vs ds ps else none
theorem jb_lc {N : Nat} {vs sl : List Nat} {g : Gt} {tt : Tx} {te : Ex} {pg : PGt} {pt : PTx} {pe : PX} (h1 : JG N sl g pg) (hs : ∀ i ∈ sl, i ∈ vs) (h2 : JT N tt pt) (h3 : JE N te pe) :
    ∀ ds, Fds ds → JB N vs Fds (fun e M => if nle ds.length sizeLine then compL g tt te e ds M else .bad) (lcB pg pt pe vs ds) := fun ds fd F ps κ e M a ps' r hv hp => by
  unfold lcB at hp
  split at hp
  · rename_i hn
    simp only [hn, if_true]
    exact jb_comp h1 hs h2 h3 ds fd F ps κ e M a ps' r hv hp
  · cases hp
def pLc (vs : List Nat) (it : PIx) (g : PGt) (tt : PTx) (te : PX) : PX := fun ps => match blkP vs it (lcB g tt te vs) ps with
  | some (ys, ps1) => some (.v (.lst ys), ps1)
  | none => none
def pLcN (vs : List Nat) (it : PIx) (g : PGt) (tt : PTx) (te : PX) : PX := fun ps => match blkP vs it (lcB g tt te vs) ps with
  | some (ys, ps1) => newP (.lst ys) ps1
  | none => none
/-- sl: what the target writes -/
theorem je_lc {N : Nat} {vs sl : List Nat} {it : Ix} {g : Gt} {tt : Tx} {te : Ex} {pit : PIx} {pg : PGt} {pt : PTx} {pe : PX} (hs : ∀ i ∈ sl, i ∈ vs) (h0 : JI N it pit) (h1 : JG N sl g pg) (h2 : JT N tt pt) (h3 : JE N te pe) :
    JE N (eLc false vs it g tt te) (pLc vs pit pg pt pe) := fun F ps κ e M x ps' r hp => by
  unfold pLc at hp
  split at hp
  · rename_i ys ps1 e1
    cases hp
    obtain ⟨ds, fz, M1, M2, κ2, Mt, a1, a2, a3, a4, r1, s1, f1, _, _⟩ := blk_ok h0 (jb_lc h1 hs h2 h3) F ps κ e M ys _ r e1
    try simp only at a2
    split at a2
    · rename_i hn
      refine ⟨.lst ys, κ2, Mt, ?_, r1, s1, rfl, Fd.lst.mpr f1⟩
      simp only [eLc, a1, hn, if_true, a2, lcEnd, a3, Nat.beq_refl, f1.up, Bool.and_self, Bool.false_eq_true, if_false, a4]
    · cases a2
  · cases hp
theorem je_lcN {N : Nat} {vs sl : List Nat} {it : Ix} {g : Gt} {tt : Tx} {te : Ex} {pit : PIx} {pg : PGt} {pt : PTx} {pe : PX} (hs : ∀ i ∈ sl, i ∈ vs) (h0 : JI N it pit) (h1 : JG N sl g pg) (h2 : JT N tt pt) (h3 : JE N te pe) :
    JE N (eLc true vs it g tt te) (pLcN vs pit pg pt pe) := fun F ps κ e M x ps' r hp => by
  unfold pLcN at hp
  split at hp
  · rename_i ys ps1 e1
    cases hp
    obtain ⟨ds, fz, M1, M2, κ2, Mt, a1, a2, a3, a4, r1, s1, f1, a5, a6⟩ := blk_ok h0 (jb_lc h1 hs h2 h3) F ps κ e M ys _ r e1
    try simp only at a2
    split at a2
    · rename_i hn
      obtain ⟨r2, s2, v2⟩ := r1.alloc (d := .lst ys) (Fd.lst.mpr f1) rfl
      rw [a6] at v2 r2 s2
      refine ⟨_, _, _, ?_, r2, s1.trans s2, v2⟩
      simp only [eLc, a1, hn, if_true, a2, lcEnd, a5]
    · cases a2
  · cases hp
/-! two clauses -/
def pCompL2 (g : PGt) (tt : PTx) (it1 : PIx) (vs1 : List Nat) (g1 : PGt) (tt1 : PTx) (te : PX) (vs : List Nat) : List D → PSl → Option (List D × PSl)
  | [], ps => some ([], ps)
  | d :: ds, ps => match g d ps with
    | none => none
    | some ps1 => match tt ps1 with
      | some (true, ps2) => match it1 ps2 with
        | some ((ds1, fz1), ps3) => if noOwn ps3 vs then (match pCompL g1 tt1 te vs1 ds1 (wipeP ps3 vs1) with
          | some (ys, ps4) => match pCompL2 g tt it1 vs1 g1 tt1 te vs ds (thawP fz1 (wipeP ps4 vs)) with
            | some (zs, ps5) => some (ys ++ zs, ps5)
            | none => none
          | none => none) else none
        | none => none
      | some (false, ps2) => pCompL2 g tt it1 vs1 g1 tt1 te vs ds (wipeP ps2 vs)
      | none => none
theorem jb_comp2 {N : Nat} {vs sl vs1 sl1 : List Nat} {g g1 : Gt} {tt tt1 : Tx} {it1 : Ix} {te : Ex} {pg pg1 : PGt} {pt pt1 : PTx} {pit : PIx} {pe : PX} (h1 : JG N sl g pg) (hs : ∀ i ∈ sl, i ∈ vs) (h2 : JT N tt pt) (h0 : JI N it1 pit) (h4 : JG N sl1 g1 pg1) (hs1 : ∀ i ∈ sl1, i ∈ vs1) (hs2 : ∀ i ∈ vs1, i ∈ vs) (h5 : JT N tt1 pt1) (h3 : JE N te pe) :
    ∀ ds, Fds ds → JB N vs Fds (fun e M => compL2 g tt it1 vs1 g1 tt1 te e ds M) (pCompL2 pg pt pit vs1 pg1 pt1 pe vs ds)
  | [], _ => fun F ps κ e M a ps' r hv hp => by
    cases hp
    exact ⟨κ, M, rfl, r, .refl, rfl⟩
  | d :: ds, fd => fun F ps κ e M a ps' r hv hp => by
    have fd1 := Fds.iff.mp fd d List.mem_cons_self
    have fd2 : Fds ds := Fds.iff.mpr fun z hz => Fds.iff.mp fd z (List.mem_cons_of_mem _ hz)
    have ih := jb_comp2 h1 hs h2 h0 h4 hs1 hs2 h5 h3 ds fd2
    simp only [pCompL2] at hp
    split at hp
    · cases hp
    · rename_i ps1 e1
      obtain ⟨ee, a1, r1, o1⟩ := h1 F ps κ e M d ps1 r fd1 e1
      have hl : e.length = ee.length := by rw [r.le, r1.le]
      have ho : ∀ i : Nat, i ∉ vs → e[i]? = ee[i]? := fun i hi => ((o1.out i fun z => hi (hs i z)).2).symm
      split at hp
      · rename_i ps2 e2
        obtain ⟨κ2, M2, a2, r2, s2⟩ := h2 F ps1 κ ee M _ _ r1 e2
        split at hp
        · rename_i ds1 fz1 ps3 e3
          obtain ⟨κ3, psb, Mb, M3, fz', a3, rb, sb, f3, hz⟩ := h0 F ps2 κ2 ee M2 ds1 fz1 ps3 r2 e3
          have r3 := hz.rep rb
          split at hp
          · rename_i hno
            have hno := noOwn_ok hno
            split at hp
            · rename_i ys ps4 e4
              split at hp
              · rename_i zs ps5 e5
                cases hp
                obtain ⟨κ4, M4, a4, r4, s4, f4⟩ := jb_comp h4 hs1 h5 h3 ds1 f3 F _ κ3 (wipeD ee vs1) M3 ys ps4 (r3.wipe vs1 wipeD_len fun i h => wipeD_out h) (fun v hv => gp_wiped hv) e4
                have rw4 : Rep F N (wipeP ps4 vs) κ4 e M4 := r4.wipe vs (by rw [wipeD_len]; exact hl) fun i hi => by rw [wipeD_out fun z => hi (hs2 i z)]; exact ho i hi
                have sw4 : StE F ps3 κ3 M3 (wipeP ps4 vs) κ4 M4 := by
                  refine ⟨s4.pre, fun i f d h => ?_, s4.b, s4.frm, ?_, ?_⟩
                  · have hi : i ∉ vs := fun z => hno i z f d h
                    obtain ⟨d', q1, q2⟩ := s4.own i f d (by rw [gp_wipe fun z => hi (hs2 i z)]; exact h)
                    exact ⟨d', by rw [gp_wipe hi]; exact q1, q2⟩
                  · have := s4.len; rw [wipeP_len] at this ⊢; exact this
                  · have := s4.mono; rw [wipeP_len] at this ⊢; exact this
                obtain ⟨M5, t1, t2, t3⟩ := StE.frozen hz sw4 rw4 rb.fr
                -- from ps to the thawed one
                have st : StE F ps κ M (thawP fz1 (wipeP ps4 vs)) κ4 M5 := by
                  have q := (s2.trans sb).trans t3
                  refine ⟨q.pre, fun i f d h => ?_, q.b, q.frm, ?_, ?_⟩
                  · have hi : i ∉ vs := fun z => by rw [hv i z] at h; cases h
                    exact q.own i f d (by rw [(o1.out i fun z => hi (hs i z)).1]; exact h)
                  · have := q.len; have := o1.len; omega
                  · have := q.mono; have := o1.len; omega
                have hv2 : ∀ v ∈ vs, gp (thawP fz1 (wipeP ps4 vs)) v = none := fun v hv => by
                  have w := gp_wiped (ps := ps4) hv
                  unfold thawP
                  split
                  · exact w
                  · rename_i i
                    split
                    · rename_i f0 d0 g0
                      have : i ≠ v := fun z => by rw [z, w] at g0; cases g0
                      rw [gp_ne this]; exact w
                    · exact w
                obtain ⟨κ6, M6, a6, r6, s6, f6⟩ := ih F _ κ4 e M5 zs _ t2 hv2 e5
                simp only at a4 a6
                exact ⟨κ6, M6, by simp only [compL2, a1, a2, a3, a4, t1, a6], r6, st.trans s6, f4.app f6⟩
              · cases hp
            · cases hp
          · cases hp
        · cases hp
      · rename_i ps2 e2
        obtain ⟨κ2, M2, a2, r2, s2⟩ := h2 F ps1 κ ee M _ _ r1 e2
        have rw' := r2.wipe vs hl ho
        have sw := StE.wipe o1 hs hv s2
        obtain ⟨κ4, M4, a4, r4, s4, f4⟩ := ih F _ κ2 e M2 a _ rw' (fun v hv => gp_wiped hv) hp
        exact ⟨κ4, M4, by simp only [compL2, a1, a2]; exact a4, r4, sw.trans s4, f4⟩
      · cases hp
def lc2B (g : PGt) (tt : PTx) (it1 : PIx) (vs1 : List Nat) (g1 : PGt) (tt1 : PTx) (te : PX) (vs : List Nat) : List D → PSl → Option (List D × PSl) := fun ds ps => match pCompL2 g tt it1 vs1 g1 tt1 te vs ds ps with
  | some (ys, ps1) => if nle ys.length sizeLine then some (ys, ps1) else none
  | none => none
theorem jb_lc2 {N : Nat} {vs sl vs1 sl1 : List Nat} {g g1 : Gt} {tt tt1 : Tx} {it1 : Ix} {te : Ex} {pg pg1 : PGt} {pt pt1 : PTx} {pit : PIx} {pe : PX} (h1 : JG N sl g pg) (hs : ∀ i ∈ sl, i ∈ vs) (h2 : JT N tt pt) (h0 : JI N it1 pit) (h4 : JG N sl1 g1 pg1) (hs1 : ∀ i ∈ sl1, i ∈ vs1) (hs2 : ∀ i ∈ vs1, i ∈ vs) (h5 : JT N tt1 pt1) (h3 : JE N te pe) :
    ∀ ds, Fds ds → JB N vs Fds (fun e M => chkL (compL2 g tt it1 vs1 g1 tt1 te e ds M)) (lc2B pg pt pit vs1 pg1 pt1 pe vs ds) := fun ds fd F ps κ e M a ps' r hv hp => by
  unfold lc2B at hp
  split at hp
  · rename_i ys ps1 e1
    split at hp
    · rename_i hn
      cases hp
      obtain ⟨κ1, M1, a1, r1, s1, f1⟩ := jb_comp2 h1 hs h2 h0 h4 hs1 hs2 h5 h3 ds fd F ps κ e M _ _ r hv e1
      simp only at a1
      exact ⟨κ1, M1, by simp only [a1, chkL, hn, if_true], r1, s1, f1⟩
    · cases hp
  · cases hp
def pLc2 (vs : List Nat) (it : PIx) (g : PGt) (tt : PTx) (vs1 : List Nat) (it1 : PIx) (g1 : PGt) (tt1 : PTx) (te : PX) : PX := fun ps => match blkP vs it (lc2B g tt it1 vs1 g1 tt1 te vs) ps with
  | some (ys, ps1) => some (.v (.lst ys), ps1)
  | none => none
def pLc2N (vs : List Nat) (it : PIx) (g : PGt) (tt : PTx) (vs1 : List Nat) (it1 : PIx) (g1 : PGt) (tt1 : PTx) (te : PX) : PX := fun ps => match blkP vs it (lc2B g tt it1 vs1 g1 tt1 te vs) ps with
  | some (ys, ps1) => newP (.lst ys) ps1
  | none => none
theorem je_lc2 {N : Nat} {vs sl vs1 sl1 : List Nat} {g g1 : Gt} {tt tt1 : Tx} {it it1 : Ix} {te : Ex} {pg pg1 : PGt} {pt pt1 : PTx} {pit pit1 : PIx} {pe : PX} (hs : ∀ i ∈ sl, i ∈ vs) (hs1 : ∀ i ∈ sl1, i ∈ vs1) (hs2 : ∀ i ∈ vs1, i ∈ vs) (h00 : JI N it pit) (h1 : JG N sl g pg) (h2 : JT N tt pt) (h0 : JI N it1 pit1) (h4 : JG N sl1 g1 pg1) (h5 : JT N tt1 pt1) (h3 : JE N te pe) :
    JE N (eLc2 false vs it g tt vs1 it1 g1 tt1 te) (pLc2 vs pit pg pt vs1 pit1 pg1 pt1 pe) := fun F ps κ e M x ps' r hp => by
  unfold pLc2 at hp
  split at hp
  · rename_i ys ps1 e1
    cases hp
    obtain ⟨ds, fz, M1, M2, κ2, Mt, a1, a2, a3, a4, r1, s1, f1, _, _⟩ := blk_ok h00 (jb_lc2 h1 hs h2 h0 h4 hs1 hs2 h5 h3) F ps κ e M ys _ r e1
    try simp only at a2
    refine ⟨.lst ys, κ2, Mt, ?_, r1, s1, rfl, Fd.lst.mpr f1⟩
    simp only [eLc2, a1, a2, lcEnd, a3, Nat.beq_refl, f1.up, Bool.and_self, Bool.false_eq_true, if_false, if_true, a4]
  · cases hp
theorem je_lc2N {N : Nat} {vs sl vs1 sl1 : List Nat} {g g1 : Gt} {tt tt1 : Tx} {it it1 : Ix} {te : Ex} {pg pg1 : PGt} {pt pt1 : PTx} {pit pit1 : PIx} {pe : PX} (hs : ∀ i ∈ sl, i ∈ vs) (hs1 : ∀ i ∈ sl1, i ∈ vs1) (hs2 : ∀ i ∈ vs1, i ∈ vs) (h00 : JI N it pit) (h1 : JG N sl g pg) (h2 : JT N tt pt) (h0 : JI N it1 pit1) (h4 : JG N sl1 g1 pg1) (h5 : JT N tt1 pt1) (h3 : JE N te pe) :
    JE N (eLc2 true vs it g tt vs1 it1 g1 tt1 te) (pLc2N vs pit pg pt vs1 pit1 pg1 pt1 pe) := fun F ps κ e M x ps' r hp => by
  unfold pLc2N at hp
  split at hp
  · rename_i ys ps1 e1
    cases hp
    obtain ⟨ds, fz, M1, M2, κ2, Mt, a1, a2, a3, a4, r1, s1, f1, a5, a6⟩ := blk_ok h00 (jb_lc2 h1 hs h2 h0 h4 hs1 hs2 h5 h3) F ps κ e M ys _ r e1
    try simp only at a2
    obtain ⟨r2, s2, v2⟩ := r1.alloc (d := .lst ys) (Fd.lst.mpr f1) rfl
    rw [a6] at v2 r2 s2
    refine ⟨_, _, _, ?_, r2, s1.trans s2, v2⟩
    simp only [eLc2, a1, a2, lcEnd, a5, if_true]
  · cases hp
/-! dict comprehensions -/
def pCompD (g : PGt) (tt : PTx) (tk tv : PX) (vs : List Nat) : List D → List D → List D → PSl → Option ((List D × List D) × PSl)
  | [], ks, ws, ps => some ((ks, ws), ps)
  | d :: ds, ks, ws, ps => match g d ps with
    | none => none
    | some ps1 => match tt ps1 with
      | some (true, ps2) => match tk ps2 with
        | some (.v k, ps3) => match tv ps3 with
          | some (.v w, ps4) => if kok ks k && nle (ks.length + 1) sizeLine then pCompD g tt tk tv vs ds (dputK k ks) (dputV k w ks ws) (wipeP ps4 vs) else none
          | _ => none
        | _ => none
      | some (false, ps2) => pCompD g tt tk tv vs ds ks ws (wipeP ps2 vs)
      | none => none
def Fd2 (a : List D × List D) : Prop := Fds a.1 ∧ Fds a.2
theorem jb_compD {N : Nat} {vs sl : List Nat} {g : Gt} {tt : Tx} {tk tv : Ex} {pg : PGt} {pt : PTx} {pk pv : PX} (h1 : JG N sl g pg) (hs : ∀ i ∈ sl, i ∈ vs) (h2 : JT N tt pt) (h3 : JE N tk pk) (h4 : JE N tv pv) :
    ∀ ds ks ws, Fds ds → Fds ks → Fds ws → JB N vs Fd2 (fun e M => compD g tt tk tv e ds ks ws M) (pCompD pg pt pk pv vs ds ks ws)
  | [], ks, ws, _, fk, fw => fun F ps κ e M a ps' r hv hp => by
    cases hp
    exact ⟨κ, M, rfl, r, .refl, fk, fw⟩
  | d :: ds, ks, ws, fd, fk, fw => fun F ps κ e M a ps' r hv hp => by
    have fd1 := Fds.iff.mp fd d List.mem_cons_self
    have fd2 : Fds ds := Fds.iff.mpr fun z hz => Fds.iff.mp fd z (List.mem_cons_of_mem _ hz)
    simp only [pCompD] at hp
    split at hp
    · cases hp
    · rename_i ps1 e1
      obtain ⟨ee, a1, r1, o1⟩ := h1 F ps κ e M d ps1 r fd1 e1
      have hl : e.length = ee.length := by rw [r.le, r1.le]
      have ho : ∀ i : Nat, i ∉ vs → e[i]? = ee[i]? := fun i hi => ((o1.out i fun z => hi (hs i z)).2).symm
      split at hp
      · rename_i ps2 e2
        obtain ⟨κ2, M2, a2, r2, s2⟩ := h2 F ps1 κ ee M _ _ r1 e2
        split at hp
        · rename_i k ps3 e3
          obtain ⟨d3, κ3, M3, a3, r3, s3, rfl, f3⟩ := h3 F ps2 κ2 ee M2 _ _ r2 e3
          split at hp
          · rename_i w ps4 e4
            obtain ⟨d4, κ4, M4, a4, r4, s4, rfl, f4⟩ := h4 F ps3 κ3 ee M3 _ _ r3 e4
            split at hp
            · rename_i hk
              have rw' := r4.wipe vs hl ho
              have sw := StE.wipe o1 hs hv ((s2.trans s3).trans s4)
              have ih := jb_compD h1 hs h2 h3 h4 ds (dputK d3 ks) (dputV d3 d4 ks ws) fd2 (Fds.iff.mpr fun z hz => by
                rcases dputK_mem hz with q | q
                · rw [q]; exact f3
                · exact Fds.iff.mp fk z q) (Fds.iff.mpr fun z hz => by
                rcases dputV_mem hz with q | q
                · rw [q]; exact f4
                · exact Fds.iff.mp fw z q)
              obtain ⟨κ5, M5, a5, r5, s5, f5⟩ := ih F _ κ4 e M4 a _ rw' (fun v hv => gp_wiped hv) hp
              exact ⟨κ5, M5, by simp only [compD, a1, a2, a3, a4, hk, if_true]; exact a5, r5, sw.trans s5, f5⟩
            · cases hp
          · cases hp
        · cases hp
      · rename_i ps2 e2
        obtain ⟨κ2, M2, a2, r2, s2⟩ := h2 F ps1 κ ee M _ _ r1 e2
        have rw' := r2.wipe vs hl ho
        have sw := StE.wipe o1 hs hv s2
        obtain ⟨κ4, M4, a4, r4, s4, f4⟩ := jb_compD h1 hs h2 h3 h4 ds ks ws fd2 fk fw F _ κ2 e M2 a _ rw' (fun v hv => gp_wiped hv) hp
        exact ⟨κ4, M4, by simp only [compD, a1, a2]; exact a4, r4, sw.trans s4, f4⟩
      · cases hp
def dcB (g : PGt) (tt : PTx) (tk tv : PX) (vs : List Nat) : List D → PSl → Option ((List D × List D) × PSl) := fun ds ps => pCompD g tt tk tv vs ds [] [] ps
def pDc (vs : List Nat) (it : PIx) (g : PGt) (tt : PTx) (tk tv : PX) : PX := fun ps => match blkP vs it (dcB g tt tk tv vs) ps with
  | some ((ks, ws), ps1) => some (.v (.dct ks ws), ps1)
  | none => none
def pDcN (vs : List Nat) (it : PIx) (g : PGt) (tt : PTx) (tk tv : PX) : PX := fun ps => match blkP vs it (dcB g tt tk tv vs) ps with
  | some ((ks, ws), ps1) => newP (.dct ks ws) ps1
  | none => none
theorem je_dc {N : Nat} {vs sl : List Nat} {it : Ix} {g : Gt} {tt : Tx} {tk tv : Ex} {pit : PIx} {pg : PGt} {pt : PTx} {pk pv : PX} (hs : ∀ i ∈ sl, i ∈ vs) (h0 : JI N it pit) (h1 : JG N sl g pg) (h2 : JT N tt pt) (h3 : JE N tk pk) (h4 : JE N tv pv) :
    JE N (eDc false vs it g tt tk tv) (pDc vs pit pg pt pk pv) := fun F ps κ e M x ps' r hp => by
  unfold pDc at hp
  split at hp
  · rename_i ks ws ps1 e1
    cases hp
    obtain ⟨ds, fz, M1, M2, κ2, Mt, a1, a2, a3, a4, r1, s1, ⟨f1, f2⟩, _, _⟩ := blk_ok h0 (fun ds fd => jb_compD h1 hs h2 h3 h4 ds [] [] fd rfl rfl) F ps κ e M (ks, ws) _ r e1
    simp only at a2 f1 f2
    refine ⟨.dct ks ws, κ2, Mt, ?_, r1, s1, rfl, Fd.dct.mpr ⟨f1, f2⟩⟩
    simp only [eDc, a1, a2, dcEnd, a3, Nat.beq_refl, f1.up, f2.up, Bool.and_self, Bool.false_eq_true, if_false, if_true, a4]
  · cases hp
theorem je_dcN {N : Nat} {vs sl : List Nat} {it : Ix} {g : Gt} {tt : Tx} {tk tv : Ex} {pit : PIx} {pg : PGt} {pt : PTx} {pk pv : PX} (hs : ∀ i ∈ sl, i ∈ vs) (h0 : JI N it pit) (h1 : JG N sl g pg) (h2 : JT N tt pt) (h3 : JE N tk pk) (h4 : JE N tv pv) :
    JE N (eDc true vs it g tt tk tv) (pDcN vs pit pg pt pk pv) := fun F ps κ e M x ps' r hp => by
  unfold pDcN at hp
  split at hp
  · rename_i ks ws ps1 e1
    cases hp
    obtain ⟨ds, fz, M1, M2, κ2, Mt, a1, a2, a3, a4, r1, s1, ⟨f1, f2⟩, a5, a6⟩ := blk_ok h0 (fun ds fd => jb_compD h1 hs h2 h3 h4 ds [] [] fd rfl rfl) F ps κ e M (ks, ws) _ r e1
    simp only at a2 f1 f2
    obtain ⟨r2, s2, v2⟩ := r1.alloc (d := .dct ks ws) (Fd.dct.mpr ⟨f1, f2⟩) rfl
    rw [a6] at v2 r2 s2
    refine ⟨_, _, _, ?_, r2, s1.trans s2, v2⟩
    simp only [eDc, a1, a2, dcEnd, a5, if_true]
  · cases hp
end EV

set_option Elab.async false
set_option linter.all false
set_option autoImplicit false
set_option maxRecDepth 100000
set_option maxHeartbeats 400000
namespace EV
open PySem PySem.Spec PyProof.Rows L2
/-! ### statements; pn: slots that keep their object (parameters) -/
structure StS (F : Nat → Prop) (pn : List Nat) (ps : PSl) (κ : List Nat) (M : Mem) (ps' : PSl) (κ' : List Nat) (M' : Mem) : Prop where
  frz : ∀ (i : Nat) d k, gp ps i = some (.o true d) → κ[i]? = some k → gp ps' i = some (.o true d) ∧ κ'[i]? = some k
  pin : ∀ i ∈ pn, ∀ f d k, gp ps i = some (.o f d) → κ[i]? = some k → (∃ d', gp ps' i = some (.o f d')) ∧ κ'[i]? = some k
  b : M'.b = M.b
  frm : ∀ k, F k → M'.c[k]? = M.c[k]?
section
variable {F : Nat → Prop} {N : Nat} {pn : List Nat} {ps ps1 ps2 ps3 : PSl} {κ κ1 κ2 : List Nat} {e e1 : Sl} {M M1 M2 : Mem}
theorem StS.refl : StS F pn ps κ M ps κ M := ⟨fun _ _ _ h q => ⟨h, q⟩, fun _ _ _ d _ h q => ⟨⟨d, h⟩, q⟩, rfl, fun _ _ => rfl⟩
theorem StS.trans (s : StS F pn ps κ M ps1 κ1 M1) (t : StS F pn ps1 κ1 M1 ps2 κ2 M2) : StS F pn ps κ M ps2 κ2 M2 where
  frz := fun i d k h q => t.frz i d k (s.frz i d k h q).1 (s.frz i d k h q).2
  pin := fun i hi f d k h q => by
    obtain ⟨⟨d1, h1⟩, h2⟩ := s.pin i hi f d k h q
    exact t.pin i hi f d1 k h1 h2
  b := t.b.trans s.b
  frm := fun k h => (t.frm k h).trans (s.frm k h)
theorem StE.s (s : StE F ps κ M ps1 κ1 M1) : StS F pn ps κ M ps1 κ1 M1 where
  frz := fun i d k h q => by
    obtain ⟨d', h1, h2⟩ := s.own i true d h
    rw [h2 rfl] at h1
    exact ⟨h1, s.pre i k q⟩
  pin := fun i _ f d k h q => by
    obtain ⟨d', h1, _⟩ := s.own i f d h
    exact ⟨⟨d', h1⟩, s.pre i k q⟩
  b := s.b
  frm := s.frm
theorem GtO.s {sl : List Nat} (o : GtO sl ps ps1 e e1) (hp : ∀ i ∈ pn, i ∉ sl) : StS F pn ps κ M ps1 κ M where
  frz := fun i d k h q => ⟨o.frz i d h, q⟩
  pin := fun i hi f d k h q => ⟨⟨d, by rw [(o.out i (hp i hi)).1]; exact h⟩, q⟩
  b := rfl
  frm := fun _ _ => rfl
end
def PostP (F : Nat → Prop) (N : Nat) (pn : List Nat) (ps : PSl) (κ : List Nat) (M : Mem) (r : Fl) : PFl → Prop
  | .nx ps' => ∃ e' κ' M', r = .nx e' M' ∧ Rep F N ps' κ' e' M' ∧ StS F pn ps κ M ps' κ' M'
  | .bk ps' => ∃ e' κ' M', r = .bk e' M' ∧ Rep F N ps' κ' e' M' ∧ StS F pn ps κ M ps' κ' M'
  | .ct ps' => ∃ e' κ' M', r = .ct e' M' ∧ Rep F N ps' κ' e' M' ∧ StS F pn ps κ M ps' κ' M'
  | .rt x ps' => ∃ d' e' κ' M', r = .rt d' M' ∧ Rep F N ps' κ' e' M' ∧ StS F pn ps κ M ps' κ' M' ∧ IsV ps' κ' x d'
  | .bad => True
def JS (N : Nat) (pn : List Nat) (s : Sx) (p : PSx) : Prop := ∀ (F : Nat → Prop) (ps : PSl) (κ : List Nat) (e : Sl) (M : Mem), Rep F N ps κ e M → PostP F N pn ps κ M (s e M) (p ps)
theorem PostP.pre {F : Nat → Prop} {N : Nat} {pn : List Nat} {ps ps1 : PSl} {κ κ1 : List Nat} {M M1 : Mem} {r : Fl} {q : PFl} (s : StS F pn ps κ M ps1 κ1 M1) (h : PostP F N pn ps1 κ1 M1 r q) : PostP F N pn ps κ M r q := by
  cases q with
  | nx p => obtain ⟨e', κ', M', a, b, c⟩ := h; exact ⟨e', κ', M', a, b, s.trans c⟩
  | bk p => obtain ⟨e', κ', M', a, b, c⟩ := h; exact ⟨e', κ', M', a, b, s.trans c⟩
  | ct p => obtain ⟨e', κ', M', a, b, c⟩ := h; exact ⟨e', κ', M', a, b, s.trans c⟩
  | rt x p => obtain ⟨d', e', κ', M', a, b, c, d⟩ := h; exact ⟨d', e', κ', M', a, b, s.trans c, d⟩
  | bad => trivial
section
variable {N : Nat} {pn : List Nat}
def rNil : PSx := fun ps => .nx ps
theorem js_nil : JS N pn sNil rNil := fun F ps κ e M r => ⟨e, κ, M, rfl, r, .refl⟩
def rBrk : PSx := fun ps => .bk ps
theorem js_brk : JS N pn sBrk rBrk := fun F ps κ e M r => ⟨e, κ, M, rfl, r, .refl⟩
def rCnt : PSx := fun ps => .ct ps
theorem js_cnt : JS N pn sCnt rCnt := fun F ps κ e M r => ⟨e, κ, M, rfl, r, .refl⟩
def rBad : PSx := fun _ => .bad
theorem js_bad {s : Sx} : JS N pn s rBad := fun F ps κ e M r => trivial
def rSeq (s t : PSx) : PSx := fun ps => match s ps with
  | .nx ps1 => t ps1
  | q => q
theorem js_seq {s t : Sx} {p q : PSx} (h1 : JS N pn s p) (h2 : JS N pn t q) : JS N pn (sSeq s t) (rSeq p q) := fun F ps κ e M r => by
  have a := h1 F ps κ e M r
  simp only [rSeq, sSeq]
  cases hp : p ps with
  | nx ps1 =>
    rw [hp] at a
    obtain ⟨e', κ', M', a1, a2, a3⟩ := a
    rw [a1]
    exact (h2 F ps1 κ' e' M' a2).pre a3
  | bk ps1 => rw [hp] at a; obtain ⟨e', κ', M', a1, a2, a3⟩ := a; rw [a1]; exact ⟨e', κ', M', rfl, a2, a3⟩
  | ct ps1 => rw [hp] at a; obtain ⟨e', κ', M', a1, a2, a3⟩ := a; rw [a1]; exact ⟨e', κ', M', rfl, a2, a3⟩
  | rt x ps1 => rw [hp] at a; obtain ⟨d', e', κ', M', a1, a2, a3, a4⟩ := a; rw [a1]; exact ⟨d', e', κ', M', rfl, a2, a3, a4⟩
  | bad => trivial
def rEx (p : PX) : PSx := fun ps => match p ps with
  | some (_, ps1) => .nx ps1
  | none => .bad
theorem js_ex {t : Ex} {p : PX} (h : JE N t p) : JS N pn (sEx t) (rEx p) := fun F ps κ e M r => by
  simp only [rEx]
  cases hp : p ps with
  | none => trivial
  | some z =>
    obtain ⟨x, ps1⟩ := z
    obtain ⟨d, κ1, M1, a1, r1, s1, v1⟩ := h F ps κ e M x ps1 r hp
    exact ⟨e, κ1, M1, by simp [sEx, a1, Res.thn], r1, s1.s⟩
def rRet (p : PX) : PSx := fun ps => match p ps with
  | some (x, ps1) => .rt x ps1
  | none => .bad
theorem js_ret {t : Ex} {p : PX} (h : JE N t p) : JS N pn (sRet t) (rRet p) := fun F ps κ e M r => by
  simp only [rRet]
  cases hp : p ps with
  | none => trivial
  | some z =>
    obtain ⟨x, ps1⟩ := z
    obtain ⟨d, κ1, M1, a1, r1, s1, v1⟩ := h F ps κ e M x ps1 r hp
    exact ⟨d, e, κ1, M1, by simp [sRet, a1, Res.thn], r1, s1.s, v1⟩
def rRetN : PSx := fun ps => .rt (.v .non) ps
theorem js_retN : JS N pn sRetN rRetN := fun F ps κ e M r => ⟨.non, e, κ, M, rfl, r, .refl, rfl, rfl⟩
def rIf (c : PTx) (s t : PSx) : PSx := fun ps => match c ps with
  | some (true, ps1) => s ps1
  | some (false, ps1) => t ps1
  | none => .bad
theorem js_if {c : Tx} {s t : Sx} {pc : PTx} {p q : PSx} (h0 : JT N c pc) (h1 : JS N pn s p) (h2 : JS N pn t q) : JS N pn (sIf c s t) (rIf pc p q) := fun F ps κ e M r => by
  simp only [rIf]
  cases hp : pc ps with
  | none => trivial
  | some z =>
    obtain ⟨b, ps1⟩ := z
    obtain ⟨κ1, M1, a1, r1, s1⟩ := h0 F ps κ e M b ps1 r hp
    cases b with
    | true => simp only [sIf, a1, Res.thn, if_true]; exact (h1 F ps1 κ1 e M1 r1).pre s1.s
    | false => simp only [sIf, a1, Res.thn, Bool.false_eq_true, if_false]; exact (h2 F ps1 κ1 e M1 r1).pre s1.s
/-! assignment -/
theorem Rep.move {F : Nat → Prop} {ps : PSl} {κ : List Nat} {e : Sl} {M : Mem} (r : Rep F N ps κ e M) {i j k : Nat} {d : D} (hi : i < N) (hj : gp ps j = some (.o false d)) (hk : κ[j]? = some k) :
    Rep F N ((ps.set j none).set i (some (.o false d))) (κ.set i k) (e.set i (some (.obj k))) M := by
  have hil : i < ps.length := Nat.lt_of_lt_of_le hi r.ln
  have old : ∀ (l : Nat) x, gp ((ps.set j none).set i (some (.o false d))) l = some x → (l = i ∧ x = .o false d) ∨ (l ≠ i ∧ l ≠ j ∧ gp ps l = some x) := fun l x h => by
    rcases gp_set h with ⟨e1, _, h⟩ | ⟨e1, h⟩
    · cases h; exact .inl ⟨e1.symm, rfl⟩
    · rcases gp_set h with ⟨_, _, h⟩ | ⟨e2, h⟩
      · cases h
      · exact .inr ⟨fun z => e1 z.symm, fun z => e2 z.symm, h⟩
  obtain ⟨f1, k', c, h1, h2, h3, h4, _⟩ := r.own j false d hj
  rw [hk] at h1; cases h1
  refine ⟨by simp [r.lk], by simp [r.le], by simp [r.ln], fun l d1 h => ?_, fun l g d1 h => ?_, fun a b g d1 g2 d2 q h5 h6 h7 h8 => ?_, r.fr⟩
  · rcases old l _ h with ⟨_, h⟩ | ⟨n1, n2, h⟩
    · cases h
    · obtain ⟨a, b⟩ := r.val l d1 h
      exact ⟨a, fun z => by rw [List.getElem?_set_ne (Ne.symm n1)]; exact b z⟩
  · rcases old l _ h with ⟨n1, h⟩ | ⟨n1, n2, h⟩
    · cases h; subst n1
      exact ⟨f1, k, c, by rw [List.getElem?_set_self (by rw [r.lk]; exact hil)], h2, h3, h4, fun _ => by rw [List.getElem?_set_self (by rw [r.le]; exact hi)]⟩
    · obtain ⟨a1, q, c1, a2, a3, a4, a5, a6⟩ := r.own l g d1 h
      exact ⟨a1, q, c1, by rw [List.getElem?_set_ne (Ne.symm n1)]; exact a2, a3, a4, a5, fun z => by rw [List.getElem?_set_ne (Ne.symm n1)]; exact a6 z⟩
  · rcases old a _ h5 with ⟨n1, g5⟩ | ⟨n1, n2, g5⟩ <;> rcases old b _ h6 with ⟨n3, g6⟩ | ⟨n3, n4, g6⟩
    · omega
    · subst n1
      rw [List.getElem?_set_self (by rw [r.lk]; exact hil)] at h7; cases h7
      rw [List.getElem?_set_ne (Ne.symm n3)] at h8
      exact absurd (r.dis b j _ _ _ _ _ g6 hj h8 hk) n4
    · subst n3
      rw [List.getElem?_set_self (by rw [r.lk]; exact hil)] at h8; cases h8
      rw [List.getElem?_set_ne (Ne.symm n1)] at h7
      exact absurd (r.dis a j _ _ _ _ _ g5 hj h7 hk) n2
    · rw [List.getElem?_set_ne (Ne.symm n1)] at h7
      rw [List.getElem?_set_ne (Ne.symm n3)] at h8
      exact r.dis a b _ _ _ _ q g5 g6 h7 h8
def rSet (pn : List Nat) (i : Nat) (p : PX) : PSx := fun ps => match p ps with
  | some (.v d, ps1) => if frzAt ps1 i then .bad else .nx (ps1.set i (some (.v d)))
  | some (.s j, ps1) => match gp ps1 j with
    | some (.o false d) => if frzAt ps1 i || pn.contains j then .bad else .nx ((ps1.set j none).set i (some (.o false d)))
    | _ => .bad
  | none => .bad
theorem js_set {t : Ex} {p : PX} (i : Nat) (hi : i < N) (hp : i ∉ pn) (h : JE N t p) : JS N pn (sSet i t) (rSet pn i p) := fun F ps κ e M r => by
  simp only [rSet]
  cases he : p ps with
  | none => trivial
  | some z =>
    obtain ⟨x, ps1⟩ := z
    obtain ⟨d', κ1, M1, a1, r1, s1, v1⟩ := h F ps κ e M x ps1 r he
    cases x with
    | v d =>
      obtain ⟨rfl, fd⟩ := v1
      simp only
      split
      · trivial
      · rename_i hz
        refine ⟨_, κ1, M1, by simp [sSet, a1, Res.thn], r1.setV hi fd, s1.s.trans ⟨fun l d k h q => ⟨frz_set hz l d h, q⟩, fun l hl f d k h q => ⟨⟨d, ?_⟩, q⟩, rfl, fun _ _ => rfl⟩⟩
        rw [gp_ne (fun (z : i = l) => hp (by rw [z]; exact hl))]; exact h
    | s j =>
      simp only
      split
      · rename_i d hj
        split
        · trivial
        · rename_i hz
          simp only [Bool.or_eq_true, not_or] at hz
          obtain ⟨k, f, d0, k1, rfl, k2⟩ := v1
          have hjp : j ∉ pn := fun z => hz.2 (by simpa using z)
          refine ⟨_, _, M1, by simp [sSet, a1, Res.thn], r1.move hi hj k1, s1.s.trans ⟨fun l d2 q h5 h6 => ?_, fun l hl f2 d2 q h5 h6 => ?_, rfl, fun _ _ => rfl⟩⟩
          · have n1 : i ≠ l := fun z => hz.1 (by subst z; simp [frzAt, h5])
            have n2 : j ≠ l := fun z => by subst z; rw [hj] at h5; cases h5
            exact ⟨by rw [gp_ne n1, gp_ne n2]; exact h5, by rw [List.getElem?_set_ne n1]; exact h6⟩
          · have n1 : i ≠ l := fun z => hp (z ▸ hl)
            have n2 : j ≠ l := fun z => hjp (z ▸ hl)
            exact ⟨⟨d2, by rw [gp_ne n1, gp_ne n2]; exact h5⟩, by rw [List.getElem?_set_ne n1]; exact h6⟩
      · trivial
/-- slots beyond the ones there were are dropped -/
def cutFl (n : Nat) : PFl → PFl
  | .nx ps => .nx (ps.take n)
  | q => q
theorem Rep.cut {F : Nat → Prop} {ps : PSl} {κ : List Nat} {e : Sl} {M : Mem} (r : Rep F N ps κ e M) {n : Nat} (hn : N ≤ n) : Rep F N (ps.take n) (κ.take n) e M := by
  have hk : ∀ (i : Nat) y, gp (ps.take n) i = some y → (κ.take n)[i]? = κ[i]? := fun i y h => by
    have := gp_lt h
    simp at this
    rw [List.getElem?_take_of_lt (by omega)]
  refine ⟨by simp [r.lk], r.le, by have := r.ln; simp; omega, fun i d h => r.val i d (gp_take h), fun i f d h => ?_, fun a b g d1 g2 d2 q h1 h2 h3 h4 => ?_, r.fr⟩
  · obtain ⟨a1, q, c1, a2, a3, a4, a5, a6⟩ := r.own i f d (gp_take h)
    exact ⟨a1, q, c1, by rw [hk i _ h]; exact a2, a3, a4, a5, a6⟩
  · rw [hk a _ h1] at h3
    rw [hk b _ h2] at h4
    exact r.dis a b _ _ _ _ q (gp_take h1) (gp_take h2) h3 h4
def rCut (p : PSx) : PSx := fun ps => cutFl ps.length (p ps)
theorem js_cut {s : Sx} {p : PSx} (h : JS N pn s p) : JS N pn s (rCut p) := fun F ps κ e M r => by
  have a := h F ps κ e M r
  simp only [rCut]
  cases hp : p ps with
  | nx ps1 =>
    rw [hp] at a
    obtain ⟨e', κ', M', a1, a2, a3⟩ := a
    refine ⟨e', _, M', a1, a2.cut r.ln, ⟨fun i d k h q => ?_, fun i hi f d k h q => ?_, a3.b, a3.frm⟩⟩
    · have hl := gp_lt h
      obtain ⟨b1, b2⟩ := a3.frz i d k h q
      exact ⟨by rw [gp_take' hl]; exact b1, by rw [List.getElem?_take_of_lt hl]; exact b2⟩
    · have hl := gp_lt h
      obtain ⟨⟨d', b1⟩, b2⟩ := a3.pin i hi f d k h q
      exact ⟨⟨d', by rw [gp_take' hl]; exact b1⟩, by rw [List.getElem?_take_of_lt hl]; exact b2⟩
  | bk _ => rw [hp] at a; exact a
  | ct _ => rw [hp] at a; exact a
  | rt _ _ => rw [hp] at a; exact a
  | bad => trivial
/-- slots that are needed no more are emptied -/
def wipeS (ps : PSl) : List Nat → PSl
  | [] => ps
  | v :: vs => if frzAt ps v then wipeS ps vs else wipeS (ps.set v none) vs
def wipeFl (vs : List Nat) : PFl → PFl
  | .nx ps => .nx (wipeS ps vs)
  | .ct ps => .ct (wipeS ps vs)
  | q => q
theorem Rep.wipe1 {F : Nat → Prop} {ps : PSl} {κ : List Nat} {e : Sl} {M : Mem} (r : Rep F N ps κ e M) (v : Nat) : Rep F N (ps.set v none) κ e M := r.wipe [v] rfl fun _ _ => rfl
theorem Rep.wipeS {F : Nat → Prop} {κ : List Nat} {e : Sl} {M : Mem} : ∀ {ps : PSl} (vs : List Nat), (∀ i ∈ pn, i ∉ vs) → Rep F N ps κ e M → Rep F N (wipeS ps vs) κ e M ∧ StS F pn ps κ M (EV.wipeS ps vs) κ M
  | ps, [], _, r => ⟨r, .refl⟩
  | ps, v :: vs, hp, r => by
    have hp' : ∀ i ∈ pn, i ∉ vs := fun i hi z => hp i hi (List.mem_cons_of_mem _ z)
    unfold EV.wipeS
    split
    · exact Rep.wipeS vs hp' r
    · rename_i hz
      obtain ⟨a, b⟩ := Rep.wipeS vs hp' (r.wipe1 v)
      refine ⟨a, StS.trans ⟨fun l d k h q => ⟨frz_set hz l d h, q⟩, fun l hl f d k h q => ⟨⟨d, ?_⟩, q⟩, rfl, fun _ _ => rfl⟩ b⟩
      rw [gp_ne (fun z => hp l hl (by simp [z]))]; exact h
def rWipe (vs : List Nat) (p : PSx) : PSx := fun ps => wipeFl vs (p ps)
theorem js_wipe {s : Sx} {p : PSx} (vs : List Nat) (hv : ∀ i ∈ pn, i ∉ vs) (h : JS N pn s p) : JS N pn s (rWipe vs p) := fun F ps κ e M r => by
  have a := h F ps κ e M r
  simp only [rWipe]
  cases hp : p ps with
  | nx ps1 =>
    rw [hp] at a
    obtain ⟨e', κ', M', a1, a2, a3⟩ := a
    obtain ⟨b1, b2⟩ := a2.wipeS vs hv
    exact ⟨e', κ', M', a1, b1, a3.trans b2⟩
  | ct ps1 =>
    rw [hp] at a
    obtain ⟨e', κ', M', a1, a2, a3⟩ := a
    obtain ⟨b1, b2⟩ := a2.wipeS vs hv
    exact ⟨e', κ', M', a1, b1, a3.trans b2⟩
  | bk _ => rw [hp] at a; exact a
  | rt _ _ => rw [hp] at a; exact a
  | bad => trivial
def rTg (g : PGt) (p : PX) : PSx := fun ps => match p ps with
  | some (.v d, ps1) => match g d ps1 with
    | some ps2 => .nx ps2
    | none => .bad
  | _ => .bad
theorem js_tg {sl : List Nat} {g : Gt} {t : Ex} {pg : PGt} {p : PX} (hs : ∀ i ∈ pn, i ∉ sl) (h : JE N t p) (hg : JG N sl g pg) : JS N pn (sTg g t) (rTg pg p) := fun F ps κ e M r => by
  simp only [rTg]
  cases he : p ps with
  | none => trivial
  | some z =>
    obtain ⟨x, ps1⟩ := z
    obtain ⟨d', κ1, M1, a1, r1, s1, v1⟩ := h F ps κ e M x ps1 r he
    cases x with
    | s j => trivial
    | v d =>
      obtain ⟨rfl, fd⟩ := v1
      simp only
      split
      · rename_i ps2 e2
        obtain ⟨e', b1, b2, b3⟩ := hg F ps1 κ1 e M1 d' ps2 r1 fd e2
        exact ⟨e', κ1, M1, by simp [sTg, a1, Res.thn, b1], b2, s1.s.trans (b3.s hs)⟩
      · trivial
/-- o[x] = d -/
def wSet (o x d : D) : Option D := match o with
  | .lst xs => match x with
    | .int j => match ixN xs.length j with
      | some n => some (.lst (xs.set n d))
      | none => none
    | _ => none
  | .dct ks ws => if kok ks x && nle (ks.length + 1) sizeLine then some (.dct (dputK x ks) (dputV x d ks ws)) else none
  | _ => none
theorem wSet_ok {o x d o2 : D} {M : Mem} {k : Nat} {c : Cell} (fo : Fd o) (fx : Fd x) (fd : Fd d) (hc : cellOf false o = some c) (hk : M.c[k]? = some c) (h : wSet o x d = some o2) : ∃ c2, cellOf false o2 = some c2 ∧ Fd o2 ∧ dSet (.obj k) x d M = some (M.set k c2) := by
  unfold wSet at h
  split at h
  · rename_i xs
    split at h
    · split at h
      · rename_i n hn
        cases h
        simp [cellOf] at hc; subst hc
        have hf : Fd (.lst (xs.set n d)) := Fd.lst.mpr (Fds.iff.mpr fun z hz => by
          rcases List.mem_or_eq_of_mem_set hz with q | q
          · exact Fds.iff.mp (Fd.lst.mp fo) z q
          · rw [q]; exact fd)
        refine ⟨_, rfl, hf, ?_⟩
        simp only [dSet, hk, hn]
        rw [wok_flat hf rfl]; rfl
      · cases h
    · cases h
  · rename_i ks ws
    split at h
    · rename_i hq
      cases h
      simp [cellOf] at hc; subst hc
      obtain ⟨f1, f2⟩ := Fd.dct.mp fo
      have hf : Fd (.dct (dputK x ks) (dputV x d ks ws)) := Fd.dct.mpr ⟨Fds.iff.mpr fun z hz => by
          rcases dputK_mem hz with q | q
          · rw [q]; exact fx
          · exact Fds.iff.mp f1 z q, Fds.iff.mpr fun z hz => by
          rcases dputV_mem hz with q | q
          · rw [q]; exact fd
          · exact Fds.iff.mp f2 z q⟩
      refine ⟨_, rfl, hf, ?_⟩
      simp only [dSet, hk, hq]
      rw [wok_flat hf rfl]; rfl
    · cases h
  · cases h
def rSub (po pi pe : PX) : PSx := fun ps => match pe ps with
  | some (.v d, ps1) => match po ps1 with
    | some (.s i, ps2) => match pi ps2 with
      | some (.v x, ps3) => match gp ps3 i with
        | some (.o false o) => match wSet o x d with
          | some o2 => .nx (ps3.set i (some (.o false o2)))
          | none => .bad
        | _ => .bad
      | _ => .bad
    | _ => .bad
  | _ => .bad
theorem js_sub {to ti te : Ex} {po pi pe : PX} (h1 : JE N to po) (h2 : JE N ti pi) (h3 : JE N te pe) : JS N pn (sSub to ti te) (rSub po pi pe) := fun F ps κ e M r => by
  unfold rSub
  split
  · rename_i d ps1 e1
    obtain ⟨_, κ1, M1, a1, r1, s1, rfl, f1⟩ := h3 F ps κ e M _ ps1 r e1
    split
    · rename_i i ps2 e2
      obtain ⟨d2, κ2, M2, a2, r2, s2, v2⟩ := h1 F ps1 κ1 e M1 _ ps2 r1 e2
      split
      · rename_i x ps3 e3
        obtain ⟨_, κ3, M3, a3, r3, s3, rfl, f3⟩ := h2 F ps2 κ2 e M2 _ ps3 r2 e3
        split
        · rename_i o g1
          split
          · rename_i o2 e4
            obtain ⟨fo, k, c, b1, b2, b3, b4, b5⟩ := r3.own i false o g1
            have hv := (v2.step s3).at b1
            subst hv
            obtain ⟨c2, w1, w2, w3⟩ := wSet_ok fo f3 f1 b3 b4 e4
            exact ⟨e, κ3, _, by simp [sSub, a1, a2, a3, Res.thn, w3], r3.put g1 b1 w2 w1, ((s1.trans s2).trans s3).s.trans (r3.putS g1 b1).s⟩
          · trivial
        · trivial
      · trivial
    · trivial
  · trivial
/-! loops -/
def forP (g : PGt) (body : PSx) : List D → PSl → PFl
  | [], ps => .nx ps
  | d :: ds, ps => match g d ps with
    | none => .bad
    | some ps1 => match body ps1 with
      | .nx ps2 => forP g body ds ps2
      | .ct ps2 => forP g body ds ps2
      | .bk ps2 => .nx ps2
      | .rt x ps2 => .rt x ps2
      | .bad => .bad
theorem for_ok {sl : List Nat} {g : Gt} {body : Sx} {pg : PGt} {pb : PSx} (hs : ∀ i ∈ pn, i ∉ sl) (hg : JG N sl g pg) (hb : JS N pn body pb) : ∀ (ds : List D), Fds ds → JS N pn (fun e M => forL g body ds e M) (forP pg pb ds)
  | [], _ => fun F ps κ e M r => ⟨e, κ, M, rfl, r, .refl⟩
  | d :: ds, fd => fun F ps κ e M r => by
    have fd1 := Fds.iff.mp fd d List.mem_cons_self
    have fd2 : Fds ds := Fds.iff.mpr fun z hz => Fds.iff.mp fd z (List.mem_cons_of_mem _ hz)
    simp only [forP]
    cases he : pg d ps with
    | none => trivial
    | some ps1 =>
      obtain ⟨e1, a1, r1, o1⟩ := hg F ps κ e M d ps1 r fd1 he
      have s1 : StS F pn ps κ M ps1 κ M := o1.s hs
      have b := hb F ps1 κ e1 M r1
      simp only
      cases hp : pb ps1 with
      | nx ps2 =>
        rw [hp] at b
        obtain ⟨e2, κ2, M2, b1, b2, b3⟩ := b
        have ih := for_ok hs hg hb ds fd2 F ps2 κ2 e2 M2 b2
        simp only [forL, a1, b1] at ih ⊢
        exact ih.pre (s1.trans b3)
      | ct ps2 =>
        rw [hp] at b
        obtain ⟨e2, κ2, M2, b1, b2, b3⟩ := b
        have ih := for_ok hs hg hb ds fd2 F ps2 κ2 e2 M2 b2
        simp only [forL, a1, b1] at ih ⊢
        exact ih.pre (s1.trans b3)
      | bk ps2 =>
        rw [hp] at b
        obtain ⟨e2, κ2, M2, b1, b2, b3⟩ := b
        exact ⟨e2, κ2, M2, by simp only [forL, a1, b1], b2, s1.trans b3⟩
      | rt x ps2 =>
        rw [hp] at b
        obtain ⟨d2, e2, κ2, M2, b1, b2, b3, b4⟩ := b
        exact ⟨d2, e2, κ2, M2, by simp only [forL, a1, b1], b2, s1.trans b3, b4⟩
      | bad => trivial
def PFl.thaw (fz : Option Nat) : PFl → PFl
  | .nx ps => .nx (thawP fz ps)
  | .rt x ps => .rt x (thawP fz ps)
  | _ => .bad
theorem StS.frozen {F : Nat → Prop} {ps1 : PSl} {κ1 : List Nat} {M1 : Mem} {fz fz' : Option Nat} {psf ps4 : PSl} {Mf M4 : Mem} {κ4 : List Nat} {e4 : Sl} (z : Frz κ1 ps1 M1 fz fz' psf Mf) (s : StS F pn psf κ1 Mf ps4 κ4 M4) (r : Rep F N ps4 κ4 e4 M4) :
    ∃ M5, thawO fz' M4 = some M5 ∧ Rep F N (thawP fz ps4) κ4 e4 M5 ∧ StS F pn ps1 κ1 M1 (thawP fz ps4) κ4 M5 ∧ ∀ i f d, gp ps4 i = some (.o f d) → ∃ f', gp (thawP fz ps4) i = some (.o f' d) := by
  rcases z with ⟨rfl, rfl, rfl, rfl⟩ | ⟨i, k, d, c, rfl, rfl, z1, z2, z3, rfl, rfl⟩
  · exact ⟨M4, rfl, r, s, fun i f d h => ⟨f, h⟩⟩
  · have hlt := gp_lt z2
    obtain ⟨g1, hk⟩ := s.frz i d k (gp_self hlt) z1
    obtain ⟨b1, k', c', b2, b3, b4, b5, b6⟩ := r.own i true d g1
    rw [hk] at b2; cases b2
    have hpr : ∃ cf, cellOf false d = some cf ∧ ∀ (l : List Cell) b, l[k]? = some c' → EV.thaw k ⟨b, l⟩ = some (Mem.set ⟨b, l⟩ k cf) := by
      cases d <;> simp [cellOf] at b4 <;> subst b4
      · exact ⟨_, rfl, fun l b h => by simp [EV.thaw, h]⟩
      · exact ⟨_, rfl, fun l b h => by simp [EV.thaw, h]⟩
    obtain ⟨cf, p1, p2⟩ := hpr
    have tp : thawP (some i) ps4 = ps4.set i (some (.o false d)) := by simp only [thawP, g1]
    refine ⟨M4.set k cf, p2 M4.c M4.b b5, by rw [tp]; exact r.put g1 hk b1 p1, ?_, ?_⟩
    · rw [tp]
      refine ⟨fun j d1 q h h' => ?_, fun j hj f d1 q h h' => ?_, s.b, fun q hq => ?_⟩
      · have n1 : i ≠ j := fun z => by subst z; rw [z2] at h; cases h
        obtain ⟨g3, g4⟩ := s.frz j d1 q (by rw [gp_ne n1]; exact h) h'
        exact ⟨by rw [gp_ne n1]; exact g3, g4⟩
      · by_cases n1 : i = j
        · subst n1
          rw [z2] at h; cases h
          rw [z1] at h'; cases h'
          exact ⟨⟨d, gp_self (gp_lt g1)⟩, hk⟩
        · obtain ⟨⟨d2, g3⟩, g4⟩ := s.pin j hj f d1 q (by rw [gp_ne n1]; exact h) h'
          exact ⟨⟨d2, by rw [gp_ne n1]; exact g3⟩, g4⟩
      · have hq1 : k ≠ q := fun z => b3 (z ▸ hq)
        have h1 := s.frm q hq
        simp only [Mem.set] at h1 ⊢
        rw [List.getElem?_set_ne hq1, h1, List.getElem?_set_ne hq1]
    · rw [tp]
      intro j f d1 h
      by_cases n1 : i = j
      · subst n1
        rw [g1] at h; cases h
        exact ⟨false, gp_self (gp_lt g1)⟩
      · exact ⟨f, by rw [gp_ne n1]; exact h⟩
def rFor (it : PIx) (g : PGt) (body : PSx) : PSx := fun ps => match it ps with
  | some ((ds, fz), ps1) => (forP g body ds ps1).thaw fz
  | none => .bad
theorem js_for {sl : List Nat} {it : Ix} {g : Gt} {body : Sx} {pit : PIx} {pg : PGt} {pb : PSx} (hs : ∀ i ∈ pn, i ∉ sl) (hi : JI N it pit) (hg : JG N sl g pg) (hb : JS N pn body pb) : JS N pn (sFor it g body) (rFor pit pg pb) := fun F ps κ e M r => by
  simp only [rFor]
  cases he : pit ps with
  | none => trivial
  | some z =>
    obtain ⟨⟨ds, fz⟩, psf⟩ := z
    obtain ⟨κ1, ps1, M1, Mf, fz', a1, r1, s1, fd, hz⟩ := hi F ps κ e M ds fz psf r he
    have b := for_ok hs hg hb ds fd F psf κ1 e Mf (hz.rep r1)
    simp only [sFor, a1]
    cases hp : forP pg pb ds psf with
    | nx ps2 =>
      rw [hp] at b
      obtain ⟨e2, κ2, M2, b1, b2, b3⟩ := b
      obtain ⟨M5, t1, t2, t3, _⟩ := StS.frozen hz b3 b2
      exact ⟨e2, κ2, M5, by simp only at b1; rw [b1]; simp only [Fl.thaw, t1], t2, s1.s.trans t3⟩
    | rt x ps2 =>
      rw [hp] at b
      obtain ⟨d2, e2, κ2, M2, b1, b2, b3, b4⟩ := b
      obtain ⟨M5, t1, t2, t3, t4⟩ := StS.frozen hz b3 b2
      refine ⟨d2, e2, κ2, M5, by simp only at b1; rw [b1]; simp only [Fl.thaw, t1], t2, s1.s.trans t3, ?_⟩
      cases x with
      | v d => exact b4
      | s i =>
        obtain ⟨k, f, d, c1, c2, c3⟩ := b4
        obtain ⟨f', c4⟩ := t4 i f d c3
        exact ⟨k, f', d, c1, c2, c4⟩
    | bk _ => trivial
    | ct _ => trivial
    | bad => trivial
def whP (c : PTx) (body : PSx) : Nat → PSl → PFl
  | 0, _ => .bad
  | n + 1, ps => match c ps with
    | some (true, ps1) => match body ps1 with
      | .nx ps2 => whP c body n ps2
      | .ct ps2 => whP c body n ps2
      | .bk ps2 => .nx ps2
      | .rt x ps2 => .rt x ps2
      | .bad => .bad
    | some (false, ps1) => .nx ps1
    | none => .bad
def rWh (n : Nat) (c : PTx) (body : PSx) : PSx := whP c body n
theorem js_wh {c : Tx} {body : Sx} {pc : PTx} {pb : PSx} (hc : JT N c pc) (hb : JS N pn body pb) : ∀ n, JS N pn (sWh n c body) (rWh n pc pb)
  | 0 => fun F ps κ e M r => trivial
  | n + 1 => fun F ps κ e M r => by
    have ihh := js_wh hc hb n
    simp only [rWh, whP, sWh, whL]
    cases hp : pc ps with
    | none => trivial
    | some z =>
      obtain ⟨b, ps1⟩ := z
      obtain ⟨κ1, M1, a1, r1, s1⟩ := hc F ps κ e M b ps1 r hp
      cases b with
      | false => exact ⟨e, κ1, M1, by simp [a1, Res.thn], r1, s1.s⟩
      | true =>
        have q := hb F ps1 κ1 e M1 r1
        simp only [a1, Res.thn, if_true]
        cases hq : pb ps1 with
        | nx ps2 =>
          rw [hq] at q
          obtain ⟨e2, κ2, M2, b1, b2, b3⟩ := q
          have ih := ihh F ps2 κ2 e2 M2 b2
          simp only [rWh, sWh] at ih
          simp only [b1]
          exact ih.pre (s1.s.trans b3)
        | ct ps2 =>
          rw [hq] at q
          obtain ⟨e2, κ2, M2, b1, b2, b3⟩ := q
          have ih := ihh F ps2 κ2 e2 M2 b2
          simp only [rWh, sWh] at ih
          simp only [b1]
          exact ih.pre (s1.s.trans b3)
        | bk ps2 =>
          rw [hq] at q
          obtain ⟨e2, κ2, M2, b1, b2, b3⟩ := q
          exact ⟨e2, κ2, M2, by simp only [b1], b2, s1.s.trans b3⟩
        | rt x ps2 =>
          rw [hq] at q
          obtain ⟨d2, e2, κ2, M2, b1, b2, b3, b4⟩ := q
          exact ⟨d2, e2, κ2, M2, by simp only [b1], b2, s1.s.trans b3, b4⟩
        | bad => trivial
end
end EV

set_option Elab.async false
set_option linter.all false
set_option autoImplicit false
set_option maxRecDepth 100000
set_option maxHeartbeats 400000
namespace EV
open PySem PySem.Spec PyProof.Rows L2
/-! ### several targets at once -/
section
variable {N : Nat} {pn : List Nat}
def parP (pn all : List Nat) : List Nat → List PV → PSl → Option PSl
  | [], [], ps => some ps
  | i :: is, .v d :: xs, ps => if frzAt ps i then none else parP pn all is xs (ps.set i (some (.v d)))
  | i :: is, .s j :: xs, ps => if all.contains j then none else match gp ps j with
    | some (.o false d) => if frzAt ps i || pn.contains j then none else parP pn all is xs ((ps.set j none).set i (some (.o false d)))
    | _ => none
  | _, _, _ => none
inductive IsK (all : List Nat) (κ : List Nat) : List PV → List D → Prop
  | nil : IsK all κ [] []
  | v {d : D} {xs : List PV} {ds : List D} : Fd d → IsK all κ xs ds → IsK all κ (.v d :: xs) (d :: ds)
  | s {j : Nat} {d : D} {xs : List PV} {ds : List D} : (j ∉ all → ∃ k, κ[j]? = some k ∧ d = .obj k) → IsK all κ xs ds → IsK all κ (.s j :: xs) (d :: ds)
theorem IsVs.k {ps : PSl} {all κ : List Nat} : ∀ {xs : List PV} {ds : List D}, IsVs ps κ xs ds → IsK all κ xs ds
  | _, _, .nil => .nil
  | _, _, .cons (x := x) a b => by
    cases x with
    | v d => obtain ⟨rfl, f⟩ := a; exact .v f b.k
    | s j => obtain ⟨k, f, d, h1, h2, h3⟩ := a; exact .s (fun _ => ⟨k, h1, h2⟩) b.k
theorem IsK.set {all κ : List Nat} {i k : Nat} (hi : i ∈ all) : ∀ {xs : List PV} {ds : List D}, IsK all κ xs ds → IsK all (κ.set i k) xs ds
  | _, _, .nil => .nil
  | _, _, .v f b => .v f (b.set hi)
  | _, _, .s (j := j) h b => .s (fun hj => by
      obtain ⟨k', h1, h2⟩ := h hj
      have n : i ≠ j := fun z => hj (by rw [← z]; exact hi)
      exact ⟨k', by rw [List.getElem?_set_ne n]; exact h1, h2⟩) (b.set hi)
theorem par_ok {F : Nat → Prop} {M : Mem} {all : List Nat} (hN : ∀ i ∈ all, i < N) (hp : ∀ i ∈ all, i ∉ pn) : ∀ {is : List Nat} {xs : List PV} {ds : List D} {ps : PSl} {κ : List Nat} {e : Sl} {ps' : PSl}, (∀ i ∈ is, i ∈ all) → Rep F N ps κ e M → IsK all κ xs ds → parP pn all is xs ps = some ps' →
    ∃ e' κ', sPar.setAll is ds e = some e' ∧ Rep F N ps' κ' e' M ∧ StS F pn ps κ M ps' κ' M
  | [], _, _, ps, κ, e, ps', _, r, .nil, h => by
    cases h
    exact ⟨e, κ, rfl, r, .refl⟩
  | _ :: _, _, _, ps, κ, e, ps', _, r, .nil, h => by simp [parP] at h
  | [], _, _, ps, κ, e, ps', _, r, .v _ _, h => by simp [parP] at h
  | [], _, _, ps, κ, e, ps', _, r, .s _ _, h => by simp [parP] at h
  | i :: is, _, _, ps, κ, e, ps', ha, r, .v (d := d) f b, h => by
    simp only [parP] at h
    split at h
    · cases h
    · rename_i hz
      have hi := ha i List.mem_cons_self
      obtain ⟨e', κ', a1, a2, a3⟩ := par_ok hN hp (fun j hj => ha j (List.mem_cons_of_mem _ hj)) (r.setV (hN i hi) f) b h
      refine ⟨e', κ', a1, a2, StS.trans ⟨fun l d k h q => ⟨frz_set hz l d h, q⟩, fun l hl f d k h q => ⟨⟨d, ?_⟩, q⟩, rfl, fun _ _ => rfl⟩ a3⟩
      rw [gp_ne (fun (z : i = l) => hp i hi (z ▸ hl))]; exact h
  | i :: is, _, _, ps, κ, e, ps', ha, r, .s (j := j) (d := d') f b, h => by
    simp only [parP] at h
    split at h
    · cases h
    · rename_i hc
      have hc : j ∉ all := fun z => hc (by simpa using z)
      split at h
      · rename_i d hj
        split at h
        · cases h
        · rename_i hz
          simp only [Bool.or_eq_true, not_or] at hz
          have hjp : j ∉ pn := fun z => hz.2 (by simpa using z)
          have hi := ha i List.mem_cons_self
          obtain ⟨k, k1, rfl⟩ := f hc
          obtain ⟨e', κ', a1, a2, a3⟩ := par_ok hN hp (fun j hj => ha j (List.mem_cons_of_mem _ hj)) (r.move (hN i hi) hj k1) (b.set hi) h
          refine ⟨e', κ', a1, a2, StS.trans ⟨fun l d2 q h5 h6 => ?_, fun l hl f2 d2 q h5 h6 => ?_, rfl, fun _ _ => rfl⟩ a3⟩
          · have n1 : i ≠ l := fun z => hz.1 (by subst z; simp [frzAt, h5])
            have n2 : j ≠ l := fun z => by subst z; rw [hj] at h5; cases h5
            exact ⟨by rw [gp_ne n1, gp_ne n2]; exact h5, by rw [List.getElem?_set_ne n1]; exact h6⟩
          · have n1 : i ≠ l := fun z => hp i hi (z ▸ hl)
            have n2 : j ≠ l := fun z => hjp (z ▸ hl)
            exact ⟨⟨d2, by rw [gp_ne n1, gp_ne n2]; exact h5⟩, by rw [List.getElem?_set_ne n1]; exact h6⟩
      · cases h
def rPar (pn : List Nat) (is : List Nat) (q : PAx) : PSx := fun ps => match q ps with
  | some (xs, ps1) => match parP pn is is xs ps1 with
    | some ps2 => .nx ps2
    | none => .bad
  | none => .bad
theorem js_par {is : List Nat} {t : Ax} {q : PAx} (hN : ∀ i ∈ is, i < N) (hp : ∀ i ∈ is, i ∉ pn) (h : JA N t q) : JS N pn (sPar is t) (rPar pn is q) := fun F ps κ e M r => by
  simp only [rPar]
  cases he : q ps with
  | none => trivial
  | some z =>
    obtain ⟨xs, ps1⟩ := z
    obtain ⟨ds, κ1, M1, a1, r1, s1, v1⟩ := h F ps κ e M xs ps1 r he
    simp only
    cases hq : parP pn is is xs ps1 with
    | none => trivial
    | some ps2 =>
      obtain ⟨e', κ', b1, b2, b3⟩ := par_ok hN hp (fun i hi => hi) r1 v1.k hq
      exact ⟨e', κ', M1, by simp [sPar, a1, Res.thn, b1], b2, s1.s.trans b3⟩
end
/-! ### calls -/
structure ArgR (args : List PS) (ks : List Nat) (ds : List D) (M : Mem) : Prop where
  l1 : ks.length = args.length
  l2 : ds.length = args.length
  v : ∀ (j : Nat) d, args[j]? = some (.v d) → ds[j]? = some d ∧ Fd d
  o : ∀ (j : Nat) f d, args[j]? = some (.o f d) → Fd d ∧ ∃ k c, ks[j]? = some k ∧ ds[j]? = some (.obj k) ∧ cellOf f d = some c ∧ M.c[k]? = some c
  dis : ∀ (i j : Nat) f d g d' k, args[i]? = some (.o f d) → args[j]? = some (.o g d') → ks[i]? = some k → ks[j]? = some k → i = j
structure ArgF (args : List PS) (ks : List Nat) (fin : PSl) (M M' : Mem) : Prop where
  o : ∀ (j : Nat) f d k, args[j]? = some (.o f d) → ks[j]? = some k → (f = true → M'.c[k]? = M.c[k]?) ∧ ∀ d', f = false → gp fin j = some (.o false d') → Fd d' ∧ ∃ c, cellOf false d' = some c ∧ M'.c[k]? = some c
  out : ∀ k : Nat, (∀ (j : Nat) f d, args[j]? = some (.o f d) → ks[j]? ≠ some k) → M'.c[k]? = M.c[k]?
  b : M'.b = M.b
  len : M'.c.length = M.c.length
def JF (den : Fn) (pf : PFn) : Prop := ∀ (args : List PS) (ks : List Nat) (ds : List D) (M : Mem) (r : D) (fin : PSl), ArgR args ks ds M → pf args = some (r, fin) →
  ∃ M', den ds M = .ok r M' ∧ Fd r ∧ ArgF args ks fin M M'
def isS (i : Nat) : PV → Bool
  | .s j => Nat.beq i j
  | _ => false
def mkArgs (ps : PSl) : List PV → Option (List PS)
  | [] => some []
  | .v d :: xs => match mkArgs ps xs with
    | some as => some (.v d :: as)
    | none => none
  | .s i :: xs => match gp ps i with
    | some (.o f d) => if xs.any (isS i) then none else match mkArgs ps xs with
      | some as => some (.o f d :: as)
      | none => none
    | _ => none
def putBack : List PV → PSl → PSl → Option PSl
  | [], _, ps => some ps
  | .v _ :: xs, fin, ps => putBack xs fin.tail ps
  | .s i :: xs, fin, ps => match gp ps i with
    | some (.o true _) => putBack xs fin.tail ps
    | some (.o false _) => match gp fin 0 with
      | some (.o false d) => putBack xs fin.tail (ps.set i (some (.o false d)))
      | _ => none
    | _ => none
theorem gp_tail {fin : PSl} {j : Nat} : gp fin.tail j = gp fin (j + 1) := by cases fin <;> simp [gp]
theorem mkArgs_len {ps : PSl} : ∀ {xs : List PV} {as : List PS}, mkArgs ps xs = some as → as.length = xs.length
  | [], as, h => by cases h; rfl
  | .v d :: xs, as, h => by
    simp only [mkArgs] at h
    split at h
    · rename_i as0 e0; cases h; simp [mkArgs_len e0]
    · cases h
  | .s i :: xs, as, h => by
    simp only [mkArgs] at h
    split at h
    · split at h
      · cases h
      · split at h
        · rename_i as0 e0; cases h; simp [mkArgs_len e0]
        · cases h
    · cases h
theorem mkArgs_at {ps : PSl} : ∀ {xs : List PV} {as : List PS} {j : Nat} {a : PS}, mkArgs ps xs = some as → as[j]? = some a → (∃ d, a = .v d ∧ xs[j]? = some (.v d)) ∨ ∃ f d i, a = .o f d ∧ xs[j]? = some (.s i) ∧ gp ps i = some (.o f d)
  | [], as, j, a, h, e => by cases h; simp at e
  | .v d :: xs, as, j, a, h, e => by
    simp only [mkArgs] at h
    split at h
    · rename_i as0 e0
      cases h
      cases j with
      | zero => simp at e; subst e; exact .inl ⟨d, rfl, rfl⟩
      | succ j => simp only [List.getElem?_cons_succ] at e ⊢; exact mkArgs_at e0 e
    · cases h
  | .s i :: xs, as, j, a, h, e => by
    simp only [mkArgs] at h
    split at h
    · rename_i f d g
      split at h
      · cases h
      · split at h
        · rename_i as0 e0
          cases h
          cases j with
          | zero => simp at e; subst e; exact .inr ⟨f, d, i, rfl, rfl, g⟩
          | succ j => simp only [List.getElem?_cons_succ] at e ⊢; exact mkArgs_at e0 e
        · cases h
    · cases h
theorem mkArgs_dis {ps : PSl} : ∀ {xs : List PV} {as : List PS} {a b i : Nat}, mkArgs ps xs = some as → xs[a]? = some (.s i) → xs[b]? = some (.s i) → a = b
  | [], as, a, b, i, h, e, _ => by simp at e
  | .v d :: xs, as, a, b, i, h, e1, e2 => by
    simp only [mkArgs] at h
    split at h
    · rename_i as0 e0
      cases a with
      | zero => simp at e1
      | succ a => cases b with
        | zero => simp at e2
        | succ b =>
          simp only [List.getElem?_cons_succ] at e1 e2
          rw [mkArgs_dis e0 e1 e2]
    · cases h
  | .s i0 :: xs, as, a, b, i, h, e1, e2 => by
    simp only [mkArgs] at h
    split at h
    · split at h
      · cases h
      · rename_i hn
        have no : ∀ c : Nat, xs[c]? ≠ some (.s i0) := fun c hc => hn (List.any_eq_true.mpr ⟨_, List.mem_of_getElem? hc, by simp [isS]⟩)
        split at h
        · rename_i as0 e0
          cases a with
          | zero =>
            simp at e1; subst e1
            cases b with
            | zero => rfl
            | succ b => simp only [List.getElem?_cons_succ] at e2; exact absurd e2 (no b)
          | succ a =>
            simp only [List.getElem?_cons_succ] at e1
            cases b with
            | zero => simp at e2; subst e2; exact absurd e1 (no a)
            | succ b =>
              simp only [List.getElem?_cons_succ] at e2
              rw [mkArgs_dis e0 e1 e2]
        · cases h
    · cases h
theorem putBack_ok : ∀ {xs : List PV} {fin ps ps2 : PSl}, (∀ a b i : Nat, xs[a]? = some (.s i) → xs[b]? = some (.s i) → a = b) → putBack xs fin ps = some ps2 →
    ps2.length = ps.length ∧ (∀ l : Nat, (∀ j : Nat, xs[j]? ≠ some (.s l)) → gp ps2 l = gp ps l) ∧ ∀ j l : Nat, xs[j]? = some (.s l) → ∃ f d, gp ps l = some (.o f d) ∧ (f = true → gp ps2 l = some (.o f d)) ∧ (f = false → ∃ d', gp fin j = some (.o false d') ∧ gp ps2 l = some (.o false d'))
  | [], fin, ps, ps2, _, h => by
    cases h
    exact ⟨rfl, fun _ _ => rfl, fun j l h => by simp at h⟩
  | .v d :: xs, fin, ps, ps2, hd, h => by
    simp only [putBack] at h
    obtain ⟨h1, h2, h3⟩ := putBack_ok (fun a b i e1 e2 => by have := hd (a + 1) (b + 1) i (by simpa using e1) (by simpa using e2); omega) h
    refine ⟨h1, fun l hl => h2 l fun j => by have := hl (j + 1); simpa using this, fun j l hj => ?_⟩
    cases j with
    | zero => simp at hj
    | succ j =>
      simp only [List.getElem?_cons_succ] at hj
      obtain ⟨f, d, q1, q2, q3⟩ := h3 j l hj
      exact ⟨f, d, q1, q2, fun z => by have := q3 z; rw [gp_tail] at this; exact this⟩
  | .s i :: xs, fin, ps, ps2, hd, h => by
    have hd' : ∀ a b i : Nat, xs[a]? = some (.s i) → xs[b]? = some (.s i) → a = b := fun a b i e1 e2 => by have := hd (a + 1) (b + 1) i (by simpa using e1) (by simpa using e2); omega
    have no : ∀ c : Nat, xs[c]? ≠ some (.s i) := fun c hc => by have := hd 0 (c + 1) i (by simp) (by simpa using hc); omega
    simp only [putBack] at h
    split at h
    · rename_i d0 g0
      obtain ⟨h1, h2, h3⟩ := putBack_ok hd' h
      refine ⟨h1, fun l hl => h2 l fun j => by have := hl (j + 1); simpa using this, fun j l hj => ?_⟩
      cases j with
      | zero =>
        simp at hj; subst hj
        exact ⟨true, d0, g0, fun _ => by rw [h2 i no]; exact g0, fun z => by cases z⟩
      | succ j =>
        simp only [List.getElem?_cons_succ] at hj
        obtain ⟨f, d, q1, q2, q3⟩ := h3 j l hj
        exact ⟨f, d, q1, q2, fun z => by have := q3 z; rw [gp_tail] at this; exact this⟩
    · rename_i d0 g0
      split at h
      · rename_i d1 g1
        obtain ⟨h1, h2, h3⟩ := putBack_ok hd' h
        refine ⟨by simpa using h1, fun l hl => ?_, fun j l hj => ?_⟩
        · have n : i ≠ l := fun z => hl 0 (by simp [z])
          rw [h2 l fun j => by have := hl (j + 1); simpa using this, gp_ne n]
        · cases j with
          | zero =>
            simp at hj; subst hj
            exact ⟨false, d0, g0, ⟨fun z => (nomatch z), fun _ => ⟨d1, g1, by rw [h2 i no, gp_self (gp_lt g0)]⟩⟩⟩
          | succ j =>
            simp only [List.getElem?_cons_succ] at hj
            have n : i ≠ l := fun z => by subst z; exact no j hj
            obtain ⟨f, d, q1, q2, q3⟩ := h3 j l hj
            rw [gp_ne n] at q1
            exact ⟨f, d, q1, q2, fun z => by have := q3 z; rw [gp_tail] at this; exact this⟩
      · cases h
    · cases h
theorem IsVs.get {ps : PSl} {κ : List Nat} : ∀ {xs : List PV} {ds : List D} {j : Nat} {x : PV}, IsVs ps κ xs ds → xs[j]? = some x → ∃ d, ds[j]? = some d ∧ IsV ps κ x d
  | _, _, _, _, .nil, h => by simp at h
  | _, _, 0, _, .cons a _, h => by simp at h; subst h; exact ⟨_, rfl, a⟩
  | _, _, j + 1, _, .cons _ b, h => by
    obtain ⟨d, h1, h2⟩ := IsVs.get (j := j) b (by simpa using h)
    exact ⟨d, by simpa using h1, h2⟩
theorem IsVs.len {ps : PSl} {κ : List Nat} : ∀ {xs : List PV} {ds : List D}, IsVs ps κ xs ds → ds.length = xs.length
  | _, _, .nil => rfl
  | _, _, .cons _ b => by simp [b.len]
def kOf (κ : List Nat) : PV → Nat
  | .v _ => 0
  | .s i => (κ[i]?).getD 0
def pCall (pf : PFn) (q : PAx) : PX := fun ps => match q ps with
  | some (xs, ps1) => match mkArgs ps1 xs with
    | some args => match pf args with
      | some (r, fin) => match putBack xs fin ps1 with
        | some ps2 => some (.v r, ps2)
        | none => none
      | none => none
    | none => none
  | none => none
theorem je_call {N : Nat} {den : Fn} {pf : PFn} {t : Ax} {q : PAx} (hf : JF den pf) (h : JA N t q) : JE N (eCall den t) (pCall pf q) := fun F ps κ e M x ps' r hp => by
  unfold pCall at hp
  split at hp
  · rename_i xs ps1 e1
    split at hp
    · rename_i args e2
      split at hp
      · rename_i rr fin e3
        split at hp
        · rename_i ps2 e4
          cases hp
          obtain ⟨ds, κ1, M1, a1, r1, s1, v1⟩ := h F ps κ e M xs ps1 r e1
          have hl := mkArgs_len e2
          have dis := @mkArgs_dis ps1 xs args
          have own : ∀ (j : Nat) f d, args[j]? = some (.o f d) → ∃ i k, xs[j]? = some (.s i) ∧ gp ps1 i = some (.o f d) ∧ κ1[i]? = some k ∧ (xs.map (kOf κ1))[j]? = some k ∧ ds[j]? = some (.obj k) := fun j f d hj => by
            rcases mkArgs_at e2 hj with ⟨d0, z, _⟩ | ⟨f0, d0, i, z, z1, z2⟩
            · cases z
            · cases z
              obtain ⟨d', w1, k, f1, d1, w2, w3, w4⟩ := v1.get z1
              subst w3
              exact ⟨i, k, z1, z2, w2, by rw [List.getElem?_map, z1]; simp [kOf, w2], w1⟩
          have ar : ArgR args (xs.map (kOf κ1)) ds M1 := by
            refine ⟨by simp [hl], by rw [v1.len, hl], fun j d hj => ?_, fun j f d hj => ?_, fun a b f d g d' k h1 h2 h3 h4 => ?_⟩
            · rcases mkArgs_at e2 hj with ⟨d0, z, z1⟩ | ⟨f0, d0, i, z, _⟩
              · cases z
                obtain ⟨d', w1, w2, w3⟩ := v1.get z1
                subst w2
                exact ⟨w1, w3⟩
              · cases z
            · obtain ⟨i, k, z1, z2, z3, z4, z5⟩ := own j f d hj
              obtain ⟨b1, k', c, b2, _, b3, b4, _⟩ := r1.own i f d z2
              rw [z3] at b2; cases b2
              exact ⟨b1, k, c, z4, z5, b3, b4⟩
            · obtain ⟨i1, k1, y1, y2, y3, y4, _⟩ := own a f d h1
              obtain ⟨i2, k2, z1, z2, z3, z4, _⟩ := own b g d' h2
              rw [y4] at h3; cases h3
              rw [z4] at h4; cases h4
              have := r1.dis i1 i2 _ _ _ _ _ y2 z2 y3 z3
              subst this
              exact dis e2 y1 z1
          obtain ⟨M2, c1, c2, c3⟩ := hf args _ ds M1 rr fin ar e3
          obtain ⟨p1, p2, p3⟩ := putBack_ok (fun a b i h1 h2 => dis e2 h1 h2) e4
          have inj : ∀ (l k : Nat) f d, gp ps1 l = some (.o f d) → κ1[l]? = some k → (∀ j : Nat, xs[j]? ≠ some (.s l)) → M2.c[k]? = M1.c[k]? := fun l k f d h1 h2 h3 => c3.out k fun j f1 d1 hj hk => by
            obtain ⟨i, k', z1, z2, z3, z4, _⟩ := own j f1 d1 hj
            rw [z4] at hk; cases hk
            have := r1.dis l i _ _ _ _ _ h1 z2 h2 z3
            subst this
            exact h3 j z1
          have dec : ∀ l : Nat, (∀ j : Nat, xs[j]? ≠ some (.s l)) ∨ ∃ j : Nat, xs[j]? = some (.s l) := fun l => by
            by_cases hh : ∃ j : Nat, xs[j]? = some (.s l)
            · exact .inr hh
            · exact .inl fun j hj => hh ⟨j, hj⟩
          have argOf : ∀ (j l : Nat) f d, xs[j]? = some (.s l) → gp ps1 l = some (.o f d) → args[j]? = some (.o f d) := fun j l f d h1 h2 => by
            have hj : j < args.length := by rw [hl]; exact (List.getElem?_eq_some_iff.mp h1).1
            have e5 := List.getElem?_eq_getElem hj
            rcases mkArgs_at e2 e5 with ⟨d0, _, z1⟩ | ⟨f0, d0, i, z, z1, z2⟩
            · rw [h1] at z1; cases z1
            · rw [h1] at z1; cases z1
              rw [h2] at z2; cases z2
              rw [e5, z]
          have rp : Rep F N ps' κ1 e M2 := by
            refine ⟨by rw [r1.lk, p1], r1.le, by rw [p1]; exact r1.ln, fun l d hd => ?_, fun l f d hd => ?_, fun a b f d g d' k h1 h2 h3 h4 => ?_, fun k hk => by rw [c3.len]; exact r1.fr k hk⟩
            · rcases dec l with hx | ⟨j, hx⟩
              · rw [p2 l hx] at hd; exact r1.val l d hd
              · obtain ⟨f, d0, q1, q2, q3⟩ := p3 j l hx
                cases f with
                | true => rw [q2 rfl] at hd; cases hd
                | false => obtain ⟨d', _, q4⟩ := q3 rfl; rw [q4] at hd; cases hd
            · rcases dec l with hx | ⟨j, hx⟩
              · rw [p2 l hx] at hd
                obtain ⟨b1, k, c, b2, b3, b4, b5, b6⟩ := r1.own l f d hd
                exact ⟨b1, k, c, b2, b3, b4, by rw [inj l k f d hd b2 hx]; exact b5, b6⟩
              · obtain ⟨f0, d0, q1, q2, q3⟩ := p3 j l hx
                obtain ⟨b1, k, c, b2, b3, b4, b5, b6⟩ := r1.own l f0 d0 q1
                have ha := argOf j l f0 d0 hx q1
                obtain ⟨i, k', z1, z2, z3, z4, _⟩ := own j f0 d0 ha
                rw [hx] at z1; cases z1
                rw [b2] at z3; cases z3
                obtain ⟨o1, o2⟩ := c3.o j f0 d0 k ha z4
                cases f0 with
                | true =>
                  rw [q2 rfl] at hd; cases hd
                  exact ⟨b1, k, c, b2, b3, b4, by rw [o1 rfl]; exact b5, b6⟩
                | false =>
                  obtain ⟨d', q4, q5⟩ := q3 rfl
                  rw [q5] at hd; cases hd
                  obtain ⟨o3, c', o4, o5⟩ := o2 _ rfl q4
                  exact ⟨o3, k, c', b2, b3, o4, o5, b6⟩
            · have old : ∀ (l : Nat) f d, gp ps' l = some (.o f d) → ∃ f' d', gp ps1 l = some (.o f' d') := fun l f d hd => by
                rcases dec l with hx | ⟨j, hx⟩
                · rw [p2 l hx] at hd; exact ⟨f, d, hd⟩
                · obtain ⟨f0, d0, q1, _⟩ := p3 j l hx; exact ⟨f0, d0, q1⟩
              obtain ⟨_, _, o1⟩ := old a f d h1
              obtain ⟨_, _, o2⟩ := old b g d' h2
              exact r1.dis a b _ _ _ _ k o1 o2 h3 h4
          refine ⟨rr, κ1, M2, by simp [eCall, a1, Res.bind, c1], rp, s1.trans ⟨fun _ _ h => h, fun l f d hd => ?_, c3.b, fun k hk => c3.out k fun j f d hj hkk => ?_, by rw [c3.len, p1], by rw [p1]; exact Nat.le_refl _⟩, rfl, c2⟩
          · rcases dec l with hx | ⟨j, hx⟩
            · exact ⟨d, by rw [p2 l hx]; exact hd, fun _ => rfl⟩
            · obtain ⟨f0, d0, q1, q2, q3⟩ := p3 j l hx
              rw [hd] at q1; cases q1
              cases f with
              | true => exact ⟨d, q2 rfl, fun _ => rfl⟩
              | false =>
                obtain ⟨d', _, q4⟩ := q3 rfl
                exact ⟨d', q4, fun z => (nomatch z)⟩
          · obtain ⟨i, k', z1, z2, z3, z4, _⟩ := own j f d hj
            rw [z4] at hkk; cases hkk
            obtain ⟨_, k'', c, b2, b3, _⟩ := r1.own i f d z2
            rw [z3] at b2; cases b2
            exact b3 hk
        · cases hp
      · cases hp
    · cases hp
  · cases hp
end EV

set_option Elab.async false
set_option linter.all false
set_option autoImplicit false
set_option maxRecDepth 100000
set_option maxHeartbeats 400000
namespace EV
open PySem PySem.Spec PyProof.Rows L2
/-! ### a def's end -/
def okA (pn : List Nat) : Nat → List PS → Bool
  | _, [] => true
  | j, .v _ :: as => okA pn (j + 1) as
  | j, .o _ _ :: as => pn.contains j && okA pn (j + 1) as
def allP : List PS → Bool
  | [] => true
  | .v _ :: as => allP as
  | .o _ _ :: _ => false
theorem okA_ok {pn : List Nat} : ∀ {as : List PS} {b j : Nat} {f : Bool} {d : D}, okA pn b as = true → as[j]? = some (.o f d) → b + j ∈ pn
  | [], _, _, _, _, _, e => by simp at e
  | .v _ :: as, b, 0, f, d, h, e => by simp at e
  | .v _ :: as, b, j + 1, f, d, h, e => by
    simp only [okA] at h
    have := okA_ok (j := j) h (by simpa using e)
    rw [show b + (j + 1) = b + 1 + j by omega]; exact this
  | .o _ _ :: as, b, 0, f, d, h, e => by
    simp only [okA, Bool.and_eq_true] at h
    simpa using h.1
  | .o _ _ :: as, b, j + 1, f, d, h, e => by
    simp only [okA, Bool.and_eq_true] at h
    have := okA_ok (j := j) h.2 (by simpa using e)
    rw [show b + (j + 1) = b + 1 + j by omega]; exact this
theorem allP_ok : ∀ {as : List PS} {j : Nat} {f : Bool} {d : D}, allP as = true → as[j]? ≠ some (.o f d)
  | [], _, _, _, _ => by simp
  | .v _ :: as, 0, f, d, h => by simp
  | .v _ :: as, j + 1, f, d, h => by simp only [allP] at h; simpa using allP_ok (j := j) h
  | .o _ _ :: as, _, _, _, h => by simp [allP] at h
def pFn (N n : Nat) (pn : List Nat) (p : PSx) : PFn := fun args => if Nat.beq args.length n && okA pn 0 args then (match p (args.map some ++ List.replicate (N - args.length) none) with
  | .rt (.v d) ps => some (d, ps.take args.length)
  | .rt (.s i) ps => if allP args then (match gp ps i with
    | some (.o _ d) => some (d, ps.take args.length)
    | _ => none) else none
  | .nx ps => some (.non, ps.take args.length)
  | _ => none) else none
theorem args_map {args : List PS} {n i : Nat} {x : PS} (h : gp (args.map some ++ List.replicate n none) i = some x) : args[i]? = some x := by
  have h := gp_iff.mp h
  by_cases hi : i < args.length
  · rw [List.getElem?_append_left (by simpa using hi), List.getElem?_map] at h
    cases e : args[i]? with
    | none => rw [e] at h; cases h
    | some y => rw [e] at h; cases h; rfl
  · rw [List.getElem?_append_right (by simp; omega), List.getElem?_replicate] at h
    split at h <;> cases h
theorem jf_fn {N : Nat} {pn : List Nat} {body : Sx} {p : PSx} {n : Nat} (hn : n ≤ N) (h : JS N pn body p) : JF (mkFn N true body) (pFn N n pn p) := fun args ks ds M r fin ar hp => by
  unfold pFn at hp
  split at hp
  · rename_i hc
    rw [Bool.and_eq_true] at hc
    have hal : args.length = n := Nat.eq_of_beq_eq_true hc.1
    have hok := hc.2
    have hdl : ds.length = n := by rw [ar.l2, hal]
    · -- the start
      have gpa : ∀ (i : Nat) x, gp (args.map some ++ List.replicate (N - args.length) none) i = some x → args[i]? = some x := fun i x h => args_map h
      have gpb : ∀ (i : Nat) x, args[i]? = some x → gp (args.map some ++ List.replicate (N - args.length) none) i = some x := fun i x h => gp_iff.mpr (by
        rw [List.getElem?_append_left (by simpa using (List.getElem?_eq_some_iff.mp h).1), List.getElem?_map, h]; rfl)
      have dsi : ∀ (i : Nat) d, ds[i]? = some d → (ds.map some ++ List.replicate (N - ds.length) none)[i]? = some (some d) := fun i d h => by
        rw [List.getElem?_append_left (by simpa using (List.getElem?_eq_some_iff.mp h).1), List.getElem?_map, h]; rfl
      have ki : ∀ (i k : Nat), ks[i]? = some k → (ks ++ List.replicate (N - args.length) 0)[i]? = some k := fun i k h => by
        rw [List.getElem?_append_left (List.getElem?_eq_some_iff.mp h).1]; exact h
      have ki' : ∀ (i k : Nat) x, args[i]? = some x → (ks ++ List.replicate (N - args.length) 0)[i]? = some k → ks[i]? = some k := fun i k x h1 h2 => by
        rw [List.getElem?_append_left (by rw [ar.l1]; exact (List.getElem?_eq_some_iff.mp h1).1)] at h2; exact h2
      have r0 : Rep (fun k => k < M.c.length ∧ ∀ (j : Nat) f d, args[j]? = some (.o f d) → ks[j]? ≠ some k) N (args.map some ++ List.replicate (N - args.length) none) (ks ++ List.replicate (N - args.length) 0) (ds.map some ++ List.replicate (N - ds.length) none) ⟨M.c.length, M.c⟩ := by
        refine ⟨by simp [ar.l1], by simp; omega, by simp; omega, fun i d hi => ?_, fun i f d hi => ?_, fun a b f d g d' k h1 h2 h3 h4 => ?_, fun k hk => hk.1⟩
        · obtain ⟨a1, a2⟩ := ar.v i d (gpa i _ hi)
          exact ⟨a2, fun _ => dsi i d a1⟩
        · obtain ⟨a1, k, c, a2, a3, a4, a5⟩ := ar.o i f d (gpa i _ hi)
          exact ⟨a1, k, c, ki i k a2, fun z => z.2 i f d (gpa i _ hi) a2, a4, a5, fun _ => dsi i _ a3⟩
        · exact ar.dis a b f d g d' k (gpa _ _ h1) (gpa _ _ h2) (ki' a k _ (gpa _ _ h1) h3) (ki' b k _ (gpa _ _ h2) h4)
      have b := h _ _ _ _ _ r0
      -- what stands at the end
      have fin_ok : ∀ (ps' : PSl) (κ' : List Nat) (e' : Sl) (M' : Mem), Rep (fun k => k < M.c.length ∧ ∀ (j : Nat) f d, args[j]? = some (.o f d) → ks[j]? ≠ some k) N ps' κ' e' M' → StS (fun k => k < M.c.length ∧ ∀ (j : Nat) f d, args[j]? = some (.o f d) → ks[j]? ≠ some k) pn (args.map some ++ List.replicate (N - args.length) none) (ks ++ List.replicate (N - args.length) 0) ⟨M.c.length, M.c⟩ ps' κ' M' →
          M.c.length ≤ M'.c.length ∧ ArgF args ks (ps'.take args.length) M ⟨M.b, M'.c.take M.c.length⟩ := fun ps' κ' e' M' rr ss => by
        have own : ∀ (j : Nat) f d k, args[j]? = some (.o f d) → ks[j]? = some k → (∃ d', gp ps' j = some (.o f d')) ∧ κ'[j]? = some k := fun j f d k h1 h2 =>
          ss.pin j (by have := okA_ok hok h1; simpa using this) f d k (gpb j _ h1) (ki j k h2)
        have cell : ∀ (j : Nat) f d k, args[j]? = some (.o f d) → ks[j]? = some k → ∃ d' c, gp ps' j = some (.o f d') ∧ Fd d' ∧ cellOf f d' = some c ∧ M'.c[k]? = some c := fun j f d k h1 h2 => by
          obtain ⟨⟨d', h3⟩, h4⟩ := own j f d k h1 h2
          obtain ⟨b1, k', c, b2, _, b3, b4, _⟩ := rr.own j f d' h3
          rw [h4] at b2; cases b2
          exact ⟨d', c, h3, b1, b3, b4⟩
        have some_all : ∀ k, k < M.c.length → ∃ c, M'.c[k]? = some c := fun k hk => by
          by_cases hx : ∀ (j : Nat) f d, args[j]? = some (.o f d) → ks[j]? ≠ some k
          · rw [ss.frm k ⟨hk, hx⟩]
            exact ⟨_, List.getElem?_eq_getElem hk⟩
          · simp only [Classical.not_forall] at hx
            obtain ⟨j, f, d, h1, h2⟩ := hx
            have h2 := Classical.not_not.mp h2
            obtain ⟨_, c, _, _, _, h3⟩ := cell j f d k h1 h2
            exact ⟨c, h3⟩
        have hlen : M.c.length ≤ M'.c.length := by
          by_cases hz : M.c.length = 0
          · omega
          · obtain ⟨c, hc⟩ := some_all (M.c.length - 1) (by omega)
            have := (List.getElem?_eq_some_iff.mp hc).1
            omega
        refine ⟨hlen, ⟨fun j f d k h1 h2 => ⟨fun hf => ?_, fun d' hf hd => ?_⟩, fun k hk => ?_, rfl, by simp; omega⟩⟩
        · subst hf
          obtain ⟨_, k0, c, a2, _, _, a5⟩ := ar.o j true d h1
          rw [h2] at a2; cases a2
          have hkl := (List.getElem?_eq_some_iff.mp a5).1
          obtain ⟨g1, g2⟩ := ss.frz j d k (gpb j _ h1) (ki j k h2)
          obtain ⟨_, k', c2, b2, _, b3, b4, _⟩ := rr.own j true d g1
          rw [g2] at b2; cases b2
          simp only
          rw [List.getElem?_take_of_lt hkl, b4, a5]
          obtain ⟨_, k1, c1, q2, _, q4, q5⟩ := ar.o j true d h1
          rw [h2] at q2; cases q2
          rw [a5] at q5; cases q5
          rw [b3] at q4; exact q4
        · subst hf
          obtain ⟨_, k0, c0, a2, _, _, a5⟩ := ar.o j false d h1
          rw [h2] at a2; cases a2
          have hkl := (List.getElem?_eq_some_iff.mp a5).1
          obtain ⟨d2, c, h3, h4, h5, h6⟩ := cell j false d k h1 h2
          have hjl : j < args.length := (List.getElem?_eq_some_iff.mp h1).1
          rw [gp_take' hjl, h3] at hd
          cases hd
          exact ⟨h4, c, h5, by simp only; rw [List.getElem?_take_of_lt hkl]; exact h6⟩
        · simp only
          by_cases hkl : k < M.c.length
          · rw [List.getElem?_take_of_lt hkl, ss.frm k ⟨hkl, hk⟩]
          · rw [List.getElem?_eq_none (by simp; omega), List.getElem?_eq_none (by omega)]
      have ent : entM true M = ⟨M.c.length, M.c⟩ := rfl
      split at hp
      · -- a plain value is returned
        rename_i d ps' e1
        cases hp
        rw [e1] at b
        obtain ⟨d', e', κ', M', b1, b2, b3, rfl, b5⟩ := b
        obtain ⟨hlen, af⟩ := fin_ok _ _ _ _ b2 b3
        refine ⟨⟨M.b, M'.c.take M.c.length⟩, ?_, b5, af⟩
        simp only [if_true, mkFn, ent, b1, Fl.fin, finR]
        split
        · rename_i hq
          have := Nat.eq_of_beq_eq_true hq
          rw [List.take_of_length_le (by omega)]
        · have hb : byval M.c.length M' d' = d' := by
            cases d' <;> first | rfl | exact (nobj b5).elim
          rw [hb, b5.up]; rfl
      · rename_i i ps' e1
        split at hp
        · rename_i hall
          split at hp
          · rename_i f0 d g1
            cases hp
            rw [e1] at b
            obtain ⟨d', e', κ', M', b1, b2, b3, k, f1, d1, c1, rfl, c3⟩ := b
            rw [g1] at c3; cases c3
            obtain ⟨hlen, af⟩ := fin_ok _ _ _ _ b2 b3
            obtain ⟨q1, k', c, q2, q3, q4, q5, _⟩ := b2.own i _ r g1
            rw [c1] at q2; cases q2
            have hk : ¬ k < M.c.length := fun z => q3 ⟨z, fun j f d h _ => allP_ok hall h⟩
            have hkl := (List.getElem?_eq_some_iff.mp q5).1
            refine ⟨⟨M.b, M'.c.take M.c.length⟩, ?_, q1, af⟩
            simp only [if_true, mkFn, ent, b1, Fl.fin, finR]
            rw [if_neg (fun z => by have := Nat.eq_of_beq_eq_true z; omega)]
            have hb : byval M.c.length M' (.obj k) = r := by
              have : Nat.blt k M.c.length = false := by cases hq : Nat.blt k M.c.length with | false => rfl | true => exact absurd (Nat.blt_eq.mp hq) hk
              simp only [byval, this, Bool.false_eq_true, if_false, q5]
              cases r <;> simp [cellOf] at q4 <;> subst q4 <;> rfl
            rw [hb, q1.up]; rfl
          · cases hp
        · cases hp
      · rename_i ps' e1
        cases hp
        rw [e1] at b
        obtain ⟨e', κ', M', b1, b2, b3⟩ := b
        obtain ⟨hlen, af⟩ := fin_ok _ _ _ _ b2 b3
        refine ⟨⟨M.b, M'.c.take M.c.length⟩, ?_, rfl, af⟩
        simp only [if_true, mkFn, ent, b1, Fl.fin, finR]
        split
        · rename_i hq
          have := Nat.eq_of_beq_eq_true hq
          rw [List.take_of_length_le (by omega)]
        · rfl
      · cases hp
  · cases hp
end EV

set_option Elab.async false
set_option linter.all false
set_option autoImplicit false
set_option maxRecDepth 100000
set_option maxHeartbeats 400000
namespace EV
open PySem PySem.Spec PyProof.Rows L2
/-! ### generator expressions in the second layer -/
theorem blk_okG {α : Type} {N : Nat} {vs : List Nat} {Ft : α → Prop} {it : Ix} {pit : PIx} {L : List D → Sl → Mem → Res α} {B : List D → PSl → Option (α × PSl)} (hi : JI N it pit) (hb : ∀ ds, Fds ds → JB N vs Ft (L ds) (B ds)) :
    ∀ (F : Nat → Prop) (ps : PSl) (κ : List Nat) (e : Sl) (M : Mem) (a : α) (ps' : PSl), Rep F N ps κ e M → blkP vs pit B ps = some (a, ps') →
    ∃ ds fz M1 M2 κ2 Mt, it e M = .ok (ds, fz) M1 ∧ L ds (wipeD e vs) ⟨M1.c.length, M1.c⟩ = .ok a M2 ∧ M2.c.length = M1.c.length ∧ thawO fz ⟨M1.b, M2.c.take M1.c.length⟩ = some Mt ∧ Rep F N ps' κ2 e Mt ∧ StE F ps κ M ps' κ2 Mt ∧ Ft a := fun F ps κ e M a ps' r hp => by
  unfold blkP at hp
  split at hp
  · rename_i ds fz ps1 e1
    obtain ⟨κ1, ps0, M0', M1, fz', a1, r0, s0, fd, hz⟩ := hi F ps κ e M ds fz ps1 r e1
    have r1 := hz.rep r0
    split at hp
    · rename_i hno
      have hno := noOwn_ok hno
      split at hp
      · rename_i a2 ps2 e2
        split at hp
        · rename_i hl
          cases hp
          have hl : ps2.length = ps1.length := Nat.eq_of_beq_eq_true hl
          have rw1 : Rep F N (wipeP ps1 vs) κ1 (wipeD e vs) M1 := r1.wipe vs wipeD_len (fun i h => wipeD_out h)
          have ri : Rep F N (wipeP ps1 vs) κ1 (wipeD e vs) ⟨M1.c.length, M1.c⟩ := ⟨rw1.lk, rw1.le, rw1.ln, rw1.val, rw1.own, rw1.dis, rw1.fr⟩
          obtain ⟨κ2, M2, c1, r2, s2, ft⟩ := hb ds fd _ _ _ _ _ _ _ ri (fun v hv => gp_wiped hv) e2
          have hM2 : M2.c.length = M1.c.length := by
            have := s2.len
            rw [wipeP_len, hl] at this
            simp at this
            omega
          have tk : M2.c.take M1.c.length = M2.c := List.take_of_length_le (by omega)
          have rt : Rep F N (restP ps1 ps2 vs) κ2 e ⟨M1.b, M2.c.take M1.c.length⟩ := by
            rw [tk]
            have old : ∀ (i : Nat) f d, gp (restP ps1 ps2 vs) i = some (.o f d) → i ∉ vs ∧ gp ps2 i = some (.o f d) := fun i f d h => by
              by_cases hv : i ∈ vs
              · rw [gp_resto (by omega) hv] at h
                exact absurd h (hno i hv f d)
              · rw [gp_rest hv] at h; exact ⟨hv, h⟩
            refine ⟨by rw [restP_len]; exact r2.lk, r.le, by rw [restP_len, hl]; exact r1.ln, fun i d h => ?_, fun i f d h => ?_, fun a b g d1 g2 d2 q h1 h2 h3 h4 => r2.dis a b _ _ _ _ q (old _ _ _ h1).2 (old _ _ _ h2).2 h3 h4, fun k hk => ?_⟩
            · by_cases hv : i ∈ vs
              · rw [gp_resto (by omega) hv] at h
                exact r1.val i d h
              · rw [gp_rest hv] at h
                obtain ⟨b1, b2⟩ := r2.val i d h
                exact ⟨b1, fun z => by rw [← wipeD_out (vs := vs) hv]; exact b2 z⟩
            · obtain ⟨hv, h⟩ := old i f d h
              obtain ⟨b1, k, c, b2, b3, b4, b5, b6⟩ := r2.own i f d h
              exact ⟨b1, k, c, b2, b3, b4, b5, fun z => by rw [← wipeD_out (vs := vs) hv]; exact b6 z⟩
            · have := r1.fr k hk
              show k < M2.c.length
              omega
          have own2 : ∀ (i : Nat) f d, gp ps1 i = some (.o f d) → ∃ d', gp (restP ps1 ps2 vs) i = some (.o f d') ∧ (f = true → d' = d) := fun i f d h => by
            have hv : i ∉ vs := fun z => hno i z f d h
            obtain ⟨d', g1, g2⟩ := s2.own i f d (by rw [gp_wipe hv]; exact h)
            exact ⟨d', by rw [gp_rest hv]; exact g1, g2⟩
          have frm2 : ∀ k, F k → M2.c[k]? = M1.c[k]? := fun k hk => s2.frm k hk
          rcases hz with ⟨rfl, rfl, rfl, rfl⟩ | ⟨i, k, d, c, rfl, rfl, z1, z2, z3, rfl, rfl⟩
          · refine ⟨ds, none, M1, M2, κ2, _, a1, c1, hM2, rfl, rt, ?_, ft⟩
            rw [tk]
            refine s0.trans ⟨s2.pre, own2, rfl, frm2, ?_, ?_⟩
            · show M2.c.length + ps1.length = M1.c.length + (restP ps1 ps2 vs).length
              rw [restP_len]; omega
            · show ps1.length ≤ (restP ps1 ps2 vs).length
              rw [restP_len]; omega
          · have hlt := gp_lt z2
            obtain ⟨d', g1, g2⟩ := own2 i true d (gp_self hlt)
            have := g2 rfl; subst this
            rw [tk] at rt
            obtain ⟨b1, k', c', b2, b3, b4, b5, b6⟩ := rt.own i true d' g1
            have hk := s2.pre i k z1
            rw [hk] at b2; cases b2
            have hkl := (List.getElem?_eq_some_iff.mp b5).1
            have hpr : ∃ cf, cellOf false d' = some cf ∧ ∀ (l : List Cell) b, l[k]? = some c' → EV.thaw k ⟨b, l⟩ = some (Mem.set ⟨b, l⟩ k cf) := by
              cases d' <;> simp [cellOf] at b4 <;> subst b4
              · exact ⟨_, rfl, fun l b h => by simp [EV.thaw, h]⟩
              · exact ⟨_, rfl, fun l b h => by simp [EV.thaw, h]⟩
            obtain ⟨cf, p1, p2⟩ := hpr
            have tp : thawP (some i) (restP (ps0.set i (some (.o true d'))) ps2 vs) = (restP (ps0.set i (some (.o true d'))) ps2 vs).set i (some (.o false d')) := by
              simp only [thawP, g1]
            refine ⟨ds, some k, M0'.set k c, M2, κ2, _, a1, c1, hM2, by rw [tk]; simp only [thawO]; exact p2 _ _ b5, by rw [tp]; exact rt.put g1 hk b1 p1, ?_, ft⟩
            rw [tp]
            refine s0.trans ⟨s2.pre, fun j f d1 h => ?_, rfl, fun q hq => ?_, ?_, ?_⟩
            · by_cases e5 : i = j
              · subst e5
                rw [z2] at h; cases h
                exact ⟨d', gp_self (gp_lt g1), fun _ => rfl⟩
              · obtain ⟨d2, g3, g4⟩ := own2 j f d1 (by rw [gp_ne e5]; exact h)
                exact ⟨d2, by rw [gp_ne e5]; exact g3, g4⟩
            · have hq1 : k ≠ q := fun z => b3 (z ▸ hq)
              simp only [Mem.set]
              rw [List.getElem?_set_ne hq1]
              have := frm2 q hq
              simp only [Mem.set] at this
              rw [this, List.getElem?_set_ne hq1]
            · simp only [Mem.set, List.length_set, restP_len] at hl hM2 ⊢
              omega
            · simp only [List.length_set, restP_len] at hl ⊢
              omega
        · cases hp
      · cases hp
    · cases hp
  · cases hp
def pGenB (g : PGt) (tt : PTx) (te : PX) (vs : List Nat) (stop : Bool) : List D → PSl → Option (Bool × PSl)
  | [], ps => some (!stop, ps)
  | d :: ds, ps => match g d ps with
    | none => none
    | some ps1 => match tt ps1 with
      | some (true, ps2) => match te ps2 with
        | some (.v (.bl k), ps3) => match k, stop with
          | true, true => some (true, wipeP ps3 vs)
          | false, false => some (false, wipeP ps3 vs)
          | _, _ => pGenB g tt te vs stop ds (wipeP ps3 vs)
        | _ => none
      | some (false, ps2) => pGenB g tt te vs stop ds (wipeP ps2 vs)
      | none => none
theorem jb_gen {N : Nat} {vs sl : List Nat} {g : Gt} {tt : Tx} {te : Ex} {pg : PGt} {pt : PTx} {pe : PX} (stop : Bool) (h1 : JG N sl g pg) (hs : ∀ i ∈ sl, i ∈ vs) (h2 : JT N tt pt) (h3 : JE N te pe) :
    ∀ ds, Fds ds → JB N vs (fun _ => True) (fun e M => genB g tt te e stop ds M) (pGenB pg pt pe vs stop ds)
  | [], _ => fun F ps κ e M a ps' r hv hp => by
    cases hp
    exact ⟨κ, M, rfl, r, .refl, trivial⟩
  | d :: ds, fd => fun F ps κ e M a ps' r hv hp => by
    have fd1 := Fds.iff.mp fd d List.mem_cons_self
    have fd2 : Fds ds := Fds.iff.mpr fun z hz => Fds.iff.mp fd z (List.mem_cons_of_mem _ hz)
    have ih := jb_gen stop h1 hs h2 h3 ds fd2
    simp only [pGenB] at hp
    split at hp
    · cases hp
    · rename_i ps1 e1
      obtain ⟨ee, a1, r1, o1⟩ := h1 F ps κ e M d ps1 r fd1 e1
      have hl : e.length = ee.length := by rw [r.le, r1.le]
      have ho : ∀ i : Nat, i ∉ vs → e[i]? = ee[i]? := fun i hi => ((o1.out i fun z => hi (hs i z)).2).symm
      split at hp
      · rename_i ps2 e2
        obtain ⟨κ2, M2, a2, r2, s2⟩ := h2 F ps1 κ ee M _ _ r1 e2
        split at hp
        · rename_i k ps3 e3
          obtain ⟨d3, κ3, M3, a3, r3, s3, rfl, f3⟩ := h3 F ps2 κ2 ee M2 _ _ r2 e3
          have rw' := r3.wipe vs hl ho
          have sw := StE.wipe o1 hs hv (s2.trans s3)
          have go : k ≠ stop → pGenB pg pt pe vs stop ds (wipeP ps3 vs) = some (a, ps') → ∃ κ' M', genB g tt te e stop (d :: ds) M = .ok a M' ∧ Rep F N ps' κ' e M' ∧ StE F ps κ M ps' κ' M' ∧ True := fun hk hp => by
            obtain ⟨κ4, M4, a4, r4, s4, f4⟩ := ih F _ κ3 e M3 a _ rw' (fun v hv => gp_wiped hv) hp
            exact ⟨κ4, M4, by simp only [genB, a1, a2, a3]; rw [if_neg hk]; exact a4, r4, sw.trans s4, trivial⟩
          cases k <;> cases stop
          · cases hp
            exact ⟨κ3, M3, by simp only [genB, a1, a2, a3]; simp, rw', sw, trivial⟩
          · exact go (by simp) hp
          · exact go (by simp) hp
          · cases hp
            exact ⟨κ3, M3, by simp only [genB, a1, a2, a3]; simp, rw', sw, trivial⟩
        · cases hp
      · rename_i ps2 e2
        obtain ⟨κ2, M2, a2, r2, s2⟩ := h2 F ps1 κ ee M _ _ r1 e2
        have rw' := r2.wipe vs hl ho
        have sw := StE.wipe o1 hs hv s2
        obtain ⟨κ4, M4, a4, r4, s4, f4⟩ := ih F _ κ2 e M2 a _ rw' (fun v hv => gp_wiped hv) hp
        exact ⟨κ4, M4, by simp only [genB, a1, a2]; exact a4, r4, sw.trans s4, trivial⟩
      · cases hp
def pGb (stop : Bool) (vs : List Nat) (it : PIx) (g : PGt) (tt : PTx) (te : PX) : PX := fun ps => match blkP vs it (pGenB g tt te vs stop) ps with
  | some (k, ps1) => some (.v (.bl k), ps1)
  | none => none
theorem je_gb {N : Nat} {vs sl : List Nat} {it : Ix} {g : Gt} {tt : Tx} {te : Ex} {pit : PIx} {pg : PGt} {pt : PTx} {pe : PX} (stop : Bool) (hs : ∀ i ∈ sl, i ∈ vs) (h0 : JI N it pit) (h1 : JG N sl g pg) (h2 : JT N tt pt) (h3 : JE N te pe) :
    JE N (eGb stop vs it g tt te) (pGb stop vs pit pg pt pe) := fun F ps κ e M x ps' r hp => by
  unfold pGb at hp
  split at hp
  · rename_i k ps1 e1
    cases hp
    obtain ⟨ds, fz, M1, M2, κ2, Mt, a1, a2, a3, a4, r1, s1, f1⟩ := blk_okG h0 (jb_gen stop h1 hs h2 h3) F ps κ e M k _ r e1
    refine ⟨.bl k, κ2, Mt, ?_, r1, s1, rfl, rfl⟩
    try simp only at a2
    simp only [eGb, a1, a2, gbEnd, a4]
  · cases hp
end EV

set_option Elab.async false
set_option linter.all false
set_option autoImplicit false
set_option maxRecDepth 100000
set_option maxHeartbeats 400000
namespace Law
open PySem PySem.Spec PyProof.Rows L2 EV
/-! ### what the dice do, alike in every law -/
def body__law_dice : Sx := sSeq (sIf (xB (eChain dLt dLt (eOp dSub (eC (.int 0)) (eC (.int 10))) (eVar 0) (eC (.int 10)))) (sRet (eLst true (aCons (eCb bAbs (aCons (eVar 0) (aNil))) (aCons (eC (.int 0)) (aCons (eC (.int 2)) (aNil)))))) (sNil)) (sRet (eLst true (aCons (eVar 0) (aCons (eOp dAdd (eC (.int 1)) (eOp dMod (eCb bInt (aCons (eVar 0) (aNil))) (eC (.int 1009)))) (aCons (eCb bInt (aCons (eOp dGe (eVar 0) (eOp dPow (eC (.int 10)) (eC (.int 18)))) (aNil))) (aNil))))))
def den__law_dice : Fn := mkFn 1 false body__law_dice
def body__law_rounds : Sx := sSeq (sSet 2 (eSl (eVar 0) (oN) (oS (eVar 1)))) (sSeq (sIf (xB (eOp dEq (eVar 2) (eLst false (aNil)))) (sSet 2 (eLst false (aCons (eC (.int 0)) (aNil)))) (sNil)) (sRet (eLc true [3] (iEx (eVar 2)) (gN 3) (xYes) (eCall den__law_dice (aCons (eVar 3) (aNil))))))
def den__law_rounds : Fn := mkFn 4 false body__law_rounds
def body__law_roll : Sx := sSeq (sIf (xOr (xB (eOp dEq (eOp dIx (eVar 0) (eC (.int 2))) (eC (.int 2)))) (xAnd (xB (eOp dEq (eOp dIx (eVar 0) (eC (.int 2))) (eC (.int 1)))) (xB (eOp dGt (eOp dIx (eVar 0) (eC (.int 0))) (eC (.int 0)))))) (sSeq (sSet 2 (eOp dMod (eCb bInt (aCons (eOp dIx (eVar 0) (eC (.int 0))) (aNil))) (eVar 1))) (sSeq (sSub (eVar 0) (eC (.int 0)) (eOp dDiv (eOp dIx (eVar 0) (eC (.int 0))) (eVar 1))) (sRet (eVar 2)))) (sNil)) (sSeq (sSub (eVar 0) (eC (.int 2)) (eC (.int 0))) (sSeq (sSub (eVar 0) (eC (.int 0)) (eOp dMod (eCb bInt (aCons (eOp dAdd (eOp dAdd (eOp dMulI (eOp dIx (eVar 0) (eC (.int 0))) (eC (.int 48271))) (eOp dMulI (eOp dIx (eVar 0) (eC (.int 1))) (eC (.int 69621)))) (eC (.int 11))) (aNil))) (eC (.int 2147483647)))) (sSeq (sSub (eVar 0) (eC (.int 1)) (eOp dAdd (eOp dIx (eVar 0) (eC (.int 1))) (eC (.int 1)))) (sRet (eOp dMod (eCb bInt (aCons (eOp dAdd (eOp dDiv (eOp dIx (eVar 0) (eC (.int 0))) (eC (.int 7))) (eOp dIx (eVar 0) (eC (.int 0)))) (aNil))) (eVar 1))))))
def den__law_roll : Fn := mkFn 3 true body__law_roll
theorem iter_lst {ds : List D} {e : Sl} {M : Mem} {i : Nat} (h : e[i]? = some (some (.lst ds))) : iEx (eVar i) e M = .ok (ds, none) M := by simp [iEx, eVar, h, Res.bind, iterD]
theorem plainL_map {α : Type} {f : α → D} (h : ∀ x, EV.plain (f x) = true) : ∀ xs : List α, plainL (xs.map f) = true
  | [] => rfl
  | x :: xs => by rw [List.map_cons, plainL, h x, plainL_map h xs]; rfl
theorem depL_le {α : Type} {f : α → D} {k : Nat} (h : ∀ x, dep (f x) ≤ k) : ∀ xs : List α, depL (xs.map f) ≤ k
  | [] => by simp [depL]
  | x :: xs => by
    rw [List.map_cons, depL]
    exact Nat.max_le.mpr ⟨h x, depL_le h xs⟩
/-! ### dice -/
def dl (a b c : Int) : Cell := .lst false [.int a, .int b, .int c]
theorem dice_0 {M : Mem} {k : Nat} {a b c : Int} (h : M.c[k]? = some (dl a b c)) : dIx (.obj k) (.int 0) M = .ok (.int a) M := by simp [dIx, asD, asL, h, dl, atI, ixN]
theorem dice_1 {M : Mem} {k : Nat} {a b c : Int} (h : M.c[k]? = some (dl a b c)) : dIx (.obj k) (.int 1) M = .ok (.int b) M := by simp [dIx, asD, asL, h, dl, atI, ixN]
theorem dice_2 {M : Mem} {k : Nat} {a b c : Int} (h : M.c[k]? = some (dl a b c)) : dIx (.obj k) (.int 2) M = .ok (.int c) M := by simp [dIx, asD, asL, h, dl, atI, ixN]
theorem put_0 {M : Mem} {k : Nat} {a b c v : Int} (h : M.c[k]? = some (dl a b c)) : dSet (.obj k) (.int 0) (.int v) M = some (M.set k (dl v b c)) := by simp [dSet, h, dl, ixN, wok, Cell.refsLt, refsLtL, refsLt]
theorem put_1 {M : Mem} {k : Nat} {a b c v : Int} (h : M.c[k]? = some (dl a b c)) : dSet (.obj k) (.int 1) (.int v) M = some (M.set k (dl a v c)) := by simp [dSet, h, dl, ixN, wok, Cell.refsLt, refsLtL, refsLt]
theorem put_2 {M : Mem} {k : Nat} {a b c v : Int} (h : M.c[k]? = some (dl a b c)) : dSet (.obj k) (.int 2) (.int v) M = some (M.set k (dl a b v)) := by simp [dSet, h, dl, ixN, wok, Cell.refsLt, refsLtL, refsLt]
theorem set_at {M : Mem} {k : Nat} {x y : Cell} (h : M.c[k]? = some x) : (M.set k y).c[k]? = some y := by
  unfold Mem.set
  exact List.getElem?_set_self (List.getElem?_eq_some_iff.mp h).1
theorem set_two {M : Mem} {k : Nat} {x y : Cell} : (M.set k x).set k y = M.set k y := by simp [Mem.set]
theorem eq_int (i j : Int) (M : Mem) : dEq (.int i) (.int j) M = .ok (.bl (i == j)) M := by simp [dEq, look, EV.plain, dep, deq]
theorem mul_r {i j : Int} (h1 : -(2 ^ 64) < j) (h2 : j < 2 ^ 64) (M : Mem) : dMulI (.int i) (.int j) M = .ok (.int (i * j)) M := by
  have : mulOk i j = true := by
    unfold mulOk
    simp only [Bool.or_eq_true, Bool.and_eq_true, decide_eq_true_eq]
    exact .inr ⟨h1, h2⟩
  simp only [dMulI, this, if_true]
theorem mod_p {i j : Int} (h : 0 < j) (M : Mem) : dMod (.int i) (.int j) M = .ok (.int (i % j)) M := by simp [dMod, h]
theorem div_p {i j : Int} (h : 0 < j) (h2 : j < 1073741824) (M : Mem) : dDiv (.int i) (.int j) M = .ok (.int (i / j)) M := by simp [dDiv, h, h2]
theorem roll_fin {N : Nat} {body : Sx} {ds : List D} {M : Mem} {d : D} {k : Nat} {c : Cell} (h : body (ds.map some ++ List.replicate (N - ds.length) none) ⟨M.c.length, M.c⟩ = .rt d (Mem.set ⟨M.c.length, M.c⟩ k c)) : mkFn N true body ds M = .ok d (M.set k c) := by
  unfold mkFn entM
  simp only [if_true]
  rw [h]
  simp only [Fl.fin, finR, if_true, Mem.set, List.length_set]
  rw [if_pos (by simp)]
theorem gt_int (i j : Int) (M : Mem) : dGt (.int i) (.int j) M = .ok (.bl (decide (i > j))) M := by simp [dGt]
theorem add_int (i j : Int) (M : Mem) : dAdd (.int i) (.int j) M = .ok (.int (i + j)) M := rfl
theorem int_int (i : Int) (M : Mem) : bInt [.int i] M = .ok (.int i) M := rfl
theorem roll_a (M : Mem) (k : Nat) (a b c m : Int) (h : M.c[k]? = some (dl a b c)) (hm : 0 < m) (hm2 : m < 1073741824) (q : (c == 2 || (c == 1 && decide (a > 0))) = true) :
    body__law_roll [some (.obj k), some (.int m), none] M = .rt (.int (a % m)) (M.set k (dl (a / m) b c)) := by
  have hx : xOr (xB (eOp dEq (eOp dIx (eVar 0) (eC (.int 2))) (eC (.int 2)))) (xAnd (xB (eOp dEq (eOp dIx (eVar 0) (eC (.int 2))) (eC (.int 1)))) (xB (eOp dGt (eOp dIx (eVar 0) (eC (.int 0))) (eC (.int 0))))) [some (.obj k), some (.int m), none] M = .ok true M := by
    simp only [sSeq, sRet, sRetN, sSet, sIf, sEx, sTg, sNil, Fl.seq_nx, Fl.seq_rt, Res.thn_ok, Res.bind_ok, Res.bool_ok, beq_len2, eC, eVar, eOp, eUn, eTup, aCons, aNil, eCb, eCall, xB, xNot, xAnd, xOr, eAnd, eOr, eNot, eIf, eChain, xYes, gN, gT, gsC, gsN, List.getElem?_cons_zero, List.getElem?_cons_succ, List.set_cons_zero, List.set_cons_succ, Bool.false_eq_true, if_true, if_false, dice_2 h, dice_0 h, eq_int, gt_int]
    cases h1 : (c == 2)
    · rw [h1] at q
      simp only [Bool.false_or, Bool.and_eq_true] at q
      simp only [q.1, q.2, sSeq, sRet, sRetN, sSet, sIf, sEx, sTg, sNil, Fl.seq_nx, Fl.seq_rt, Res.thn_ok, Res.bind_ok, Res.bool_ok, beq_len2, eC, eVar, eOp, eUn, eTup, aCons, aNil, eCb, eCall, xB, xNot, xAnd, xOr, eAnd, eOr, eNot, eIf, eChain, xYes, gN, gT, gsC, gsN, List.getElem?_cons_zero, List.getElem?_cons_succ, List.set_cons_zero, List.set_cons_succ, Bool.false_eq_true, if_true, if_false]
    · simp only [sSeq, sRet, sRetN, sSet, sIf, sEx, sTg, sNil, Fl.seq_nx, Fl.seq_rt, Res.thn_ok, Res.bind_ok, Res.bool_ok, beq_len2, eC, eVar, eOp, eUn, eTup, aCons, aNil, eCb, eCall, xB, xNot, xAnd, xOr, eAnd, eOr, eNot, eIf, eChain, xYes, gN, gT, gsC, gsN, List.getElem?_cons_zero, List.getElem?_cons_succ, List.set_cons_zero, List.set_cons_succ, Bool.false_eq_true, if_true, if_false]
  unfold body__law_roll
  simp only [sSeq, sIf, hx, Res.thn_ok, if_true]
  simp only [sSeq, sRet, sRetN, sSet, sIf, sEx, sTg, sNil, Fl.seq_nx, Fl.seq_rt, Res.thn_ok, Res.bind_ok, Res.bool_ok, beq_len2, eC, eVar, eOp, eUn, eTup, aCons, aNil, eCb, eCall, xB, xNot, xAnd, xOr, eAnd, eOr, eNot, eIf, eChain, xYes, gN, gT, gsC, gsN, List.getElem?_cons_zero, List.getElem?_cons_succ, List.set_cons_zero, List.set_cons_succ, Bool.false_eq_true, if_true, if_false, dice_0 h, int_int, mod_p hm, sSub, div_p hm hm2, put_0 h]
theorem roll_b (M : Mem) (k : Nat) (a b c m : Int) (h : M.c[k]? = some (dl a b c)) (hm : 0 < m) (q : (c == 2 || (c == 1 && decide (a > 0))) = false) :
    body__law_roll [some (.obj k), some (.int m), none] M = .rt (.int (((a * 48271 + b * 69621 + 11) % 2147483647 / 7 + (a * 48271 + b * 69621 + 11) % 2147483647) % m)) (M.set k (dl ((a * 48271 + b * 69621 + 11) % 2147483647) (b + 1) 0)) := by
  have hx : xOr (xB (eOp dEq (eOp dIx (eVar 0) (eC (.int 2))) (eC (.int 2)))) (xAnd (xB (eOp dEq (eOp dIx (eVar 0) (eC (.int 2))) (eC (.int 1)))) (xB (eOp dGt (eOp dIx (eVar 0) (eC (.int 0))) (eC (.int 0))))) [some (.obj k), some (.int m), none] M = .ok false M := by
    simp only [sSeq, sRet, sRetN, sSet, sIf, sEx, sTg, sNil, Fl.seq_nx, Fl.seq_rt, Res.thn_ok, Res.bind_ok, Res.bool_ok, beq_len2, eC, eVar, eOp, eUn, eTup, aCons, aNil, eCb, eCall, xB, xNot, xAnd, xOr, eAnd, eOr, eNot, eIf, eChain, xYes, gN, gT, gsC, gsN, List.getElem?_cons_zero, List.getElem?_cons_succ, List.set_cons_zero, List.set_cons_succ, Bool.false_eq_true, if_true, if_false, dice_2 h, dice_0 h, eq_int, gt_int]
    simp only [Bool.or_eq_false_iff] at q
    rw [q.1]
    simp only [sSeq, sRet, sRetN, sSet, sIf, sEx, sTg, sNil, Fl.seq_nx, Fl.seq_rt, Res.thn_ok, Res.bind_ok, Res.bool_ok, beq_len2, eC, eVar, eOp, eUn, eTup, aCons, aNil, eCb, eCall, xB, xNot, xAnd, xOr, eAnd, eOr, eNot, eIf, eChain, xYes, gN, gT, gsC, gsN, List.getElem?_cons_zero, List.getElem?_cons_succ, List.set_cons_zero, List.set_cons_succ, Bool.false_eq_true, if_true, if_false]
    cases h1 : (c == 1)
    · simp only [sSeq, sRet, sRetN, sSet, sIf, sEx, sTg, sNil, Fl.seq_nx, Fl.seq_rt, Res.thn_ok, Res.bind_ok, Res.bool_ok, beq_len2, eC, eVar, eOp, eUn, eTup, aCons, aNil, eCb, eCall, xB, xNot, xAnd, xOr, eAnd, eOr, eNot, eIf, eChain, xYes, gN, gT, gsC, gsN, List.getElem?_cons_zero, List.getElem?_cons_succ, List.set_cons_zero, List.set_cons_succ, Bool.false_eq_true, if_true, if_false]
    · rw [h1] at q
      simp only [Bool.true_and] at q
      simp only [q.2, sSeq, sRet, sRetN, sSet, sIf, sEx, sTg, sNil, Fl.seq_nx, Fl.seq_rt, Res.thn_ok, Res.bind_ok, Res.bool_ok, beq_len2, eC, eVar, eOp, eUn, eTup, aCons, aNil, eCb, eCall, xB, xNot, xAnd, xOr, eAnd, eOr, eNot, eIf, eChain, xYes, gN, gT, gsC, gsN, List.getElem?_cons_zero, List.getElem?_cons_succ, List.set_cons_zero, List.set_cons_succ, Bool.false_eq_true, if_true, if_false]
  have h2 : (M.set k (dl a b 0)).c[k]? = some (dl a b 0) := set_at h
  have h3 : (M.set k (dl ((a * 48271 + b * 69621 + 11) % 2147483647) b 0)).c[k]? = some (dl ((a * 48271 + b * 69621 + 11) % 2147483647) b 0) := set_at h
  have h4 : (M.set k (dl ((a * 48271 + b * 69621 + 11) % 2147483647) (b + 1) 0)).c[k]? = some (dl ((a * 48271 + b * 69621 + 11) % 2147483647) (b + 1) 0) := set_at h
  unfold body__law_roll
  simp only [sSeq, sIf, hx, Res.thn_ok, Bool.false_eq_true, if_false]
  simp only [sSeq, sRet, sRetN, sSet, sIf, sEx, sTg, sNil, Fl.seq_nx, Fl.seq_rt, Res.thn_ok, Res.bind_ok, Res.bool_ok, beq_len2, eC, eVar, eOp, eUn, eTup, aCons, aNil, eCb, eCall, xB, xNot, xAnd, xOr, eAnd, eOr, eNot, eIf, eChain, xYes, gN, gT, gsC, gsN, List.getElem?_cons_zero, List.getElem?_cons_succ, List.set_cons_zero, List.set_cons_succ, Bool.false_eq_true, if_true, if_false, sSub, put_2 h, dice_0 h2, dice_1 h2, mul_r (j := 48271) (by decide) (by decide), mul_r (j := 69621) (by decide) (by decide), add_int, int_int, mod_p (j := 2147483647) (by decide), put_0 h2, set_two, dice_1 h3, put_1 h3, dice_0 h4, div_p (j := 7) (by decide) (by decide), mod_p hm]
theorem roll_c (M : Mem) (k : Nat) (a b c m : Int) (h : M.c[k]? = some (dl a b c)) (hm : 0 < m) (hm2 : m < 1073741824) : ∃ r a' b' c', 0 ≤ r ∧ r < m ∧ den__law_roll [.obj k, .int m] M = .ok (.int r) (M.set k (dl a' b' c')) := by
  cases q : (c == 2 || (c == 1 && decide (a > 0)))
  · exact ⟨_, _, _, _, Int.emod_nonneg _ (by omega), Int.emod_lt_of_pos _ hm, roll_fin (roll_b ⟨M.c.length, M.c⟩ k a b c m h hm q)⟩
  · exact ⟨_, _, _, _, Int.emod_nonneg _ (by omega), Int.emod_lt_of_pos _ hm, roll_fin (roll_a ⟨M.c.length, M.c⟩ k a b c m h hm hm2 q)⟩
theorem pow_18 (M : Mem) : dPow (.int 10) (.int 18) M = .ok (.int (10 ^ 18)) M := by
  unfold dPow
  simp only
  rw [if_pos (by decide)]
  rfl
theorem dice_c (c : Int) (M : Mem) : ∃ x y z, den__law_dice [.int c] M = .ok (.obj M.c.length) ⟨M.b, M.c ++ [dl x y z]⟩ := by
  have e : den__law_dice [.int c] M = (body__law_dice [some (.int c)] M).fin false M := rfl
  rw [e]
  have hlt : ∀ i j : Int, dLt (.int i) (.int j) M = .ok (.bl (decide (i < j))) M := fun i j => by simp [dLt]
  have hsub : dSub (.int 0) (.int 10) M = .ok (.int (-10)) M := rfl
  have habs : bAbs [.int c] M = .ok (.int (if c < 0 then -c else c)) M := rfl
  have hge : dGe (.int c) (.int (10 ^ 18)) M = .ok (.bl (decide (c ≥ 10 ^ 18))) M := by simp [dGe]
  have hb : ∀ b : Bool, bInt [.bl b] M = .ok (.int (if b then 1 else 0)) M := fun b => rfl
  unfold body__law_dice
  by_cases h1 : -10 < c
  · by_cases h2 : c < 10
    · refine ⟨if c < 0 then -c else c, 0, 2, ?_⟩
      simp only [sSeq, sRet, sRetN, sSet, sIf, sEx, sTg, sNil, Fl.seq_nx, Fl.seq_rt, Res.thn_ok, Res.bind_ok, Res.bool_ok, beq_len2, eC, eVar, eOp, eUn, eTup, aCons, aNil, eCb, eCall, xB, xNot, xAnd, xOr, eAnd, eOr, eNot, eIf, eChain, xYes, gN, gT, gsC, gsN, List.getElem?_cons_zero, List.getElem?_cons_succ, List.set_cons_zero, List.set_cons_succ, Bool.false_eq_true, if_true, if_false, hsub, hlt, h1, h2, decide_true, eLst, habs, mkL]
      rfl
    · refine ⟨c, 1 + c % 1009, if decide (c ≥ 10 ^ 18) then 1 else 0, ?_⟩
      simp only [sSeq, sRet, sRetN, sSet, sIf, sEx, sTg, sNil, Fl.seq_nx, Fl.seq_rt, Res.thn_ok, Res.bind_ok, Res.bool_ok, beq_len2, eC, eVar, eOp, eUn, eTup, aCons, aNil, eCb, eCall, xB, xNot, xAnd, xOr, eAnd, eOr, eNot, eIf, eChain, xYes, gN, gT, gsC, gsN, List.getElem?_cons_zero, List.getElem?_cons_succ, List.set_cons_zero, List.set_cons_succ, Bool.false_eq_true, if_true, if_false, hsub, hlt, h1, h2, decide_true, decide_false, eLst, int_int, mod_p (j := 1009) (by decide), add_int, pow_18, hge, hb, mkL]
      rfl
  · refine ⟨c, 1 + c % 1009, if decide (c ≥ 10 ^ 18) then 1 else 0, ?_⟩
    simp only [sSeq, sRet, sRetN, sSet, sIf, sEx, sTg, sNil, Fl.seq_nx, Fl.seq_rt, Res.thn_ok, Res.bind_ok, Res.bool_ok, beq_len2, eC, eVar, eOp, eUn, eTup, aCons, aNil, eCb, eCall, xB, xNot, xAnd, xOr, eAnd, eOr, eNot, eIf, eChain, xYes, gN, gT, gsC, gsN, List.getElem?_cons_zero, List.getElem?_cons_succ, List.set_cons_zero, List.set_cons_succ, Bool.false_eq_true, if_true, if_false, hsub, hlt, h1, decide_false, eLst, int_int, mod_p (j := 1009) (by decide), add_int, pow_18, hge, hb, mkL]
    rfl
/-- all are dice -/
def Dice (cs : List Cell) : Prop := ∀ c ∈ cs, ∃ x y z, c = dl x y z
theorem rounds_comp (x0 x1 x2 : Option D) : ∀ (xs : List Int) (M : Mem), ∃ cs, cs.length = xs.length ∧ Dice cs ∧
    compL (gN 3) xYes (eCall den__law_dice (aCons (eVar 3) (aNil))) [x0, x1, x2, none] (xs.map D.int) M = .ok ((List.range' M.c.length xs.length).map D.obj) ⟨M.b, M.c ++ cs⟩
  | [], M => by
    refine ⟨[], rfl, fun c h => ?_, ?_⟩
    · simp at h
    · simp only [List.map_nil, compL, List.length_nil, List.range'_zero, List.append_nil]
  | v :: xs, M => by
    obtain ⟨x, y, z, h⟩ := dice_c v M
    obtain ⟨cs, h1, h2, h3⟩ := rounds_comp x0 x1 x2 xs ⟨M.b, M.c ++ [dl x y z]⟩
    refine ⟨dl x y z :: cs, by simp [h1], fun c hc => ?_, ?_⟩
    · rcases List.mem_cons.mp hc with e | e
      · exact ⟨x, y, z, e⟩
      · exact h2 c e
    · simp only [List.length_append, List.length_cons, List.length_nil, Nat.zero_add] at h3
      rw [List.map_cons, compL]
      simp only [sSeq, sRet, sRetN, sSet, sIf, sEx, sTg, sNil, Fl.seq_nx, Fl.seq_rt, Res.thn_ok, Res.bind_ok, Res.bool_ok, beq_len2, eC, eVar, eOp, eUn, eTup, aCons, aNil, eCb, eCall, xB, xNot, xAnd, xOr, eAnd, eOr, eNot, eIf, eChain, xYes, gN, gT, gsC, gsN, List.getElem?_cons_zero, List.getElem?_cons_succ, List.set_cons_zero, List.set_cons_succ, Bool.false_eq_true, if_true, if_false, h, h3, List.length_cons, List.range'_succ, List.map_cons, List.append_assoc, List.cons_append, List.nil_append]
theorem cut_ints (ns : List Int) (lo hi : Option Int) : ∃ xs : List Int, EV.cutD (ns.map D.int) lo hi = xs.map D.int ∧ xs.length ≤ ns.length := by
  refine ⟨(ns.drop (HT.sIx ns.length 0 lo)).take (HT.sIx ns.length ns.length hi - HT.sIx ns.length 0 lo), ?_, ?_⟩
  · unfold EV.cutD
    simp only [List.length_map, ← List.map_drop, ← List.map_take]
  · simp only [List.length_take, List.length_drop]
    omega
theorem eq_nil (xs : List Int) (M : Mem) : dEq (.lst (xs.map D.int)) (.lst []) M = .ok (.bl xs.isEmpty) M := by
  have h1 : EV.plain (.lst (xs.map D.int)) = true := by rw [EV.plain]; exact plainL_map (fun _ => rfl) xs
  have h2 : Nat.ble (dep (.lst (xs.map D.int))) 64 = true := by
    rw [Nat.ble_eq, dep]
    have := depL_le (f := D.int) (k := 0) (fun _ => Nat.le_refl 0) xs
    omega
  have h3 : deq (.lst (xs.map D.int)) (.lst []) = xs.isEmpty := by
    cases xs <;> simp [deq, deqL]
  unfold dEq
  rw [show look M (.lst (xs.map D.int)) = .lst (xs.map D.int) from rfl, show look M (.lst []) = .lst [] from rfl, h1, h2, h3]
  rfl
theorem rounds_lc (ys : List Int) (x0 x1 : Option D) (hl : ys.length ≤ sizeLine) : ∃ cs, cs.length = ys.length ∧ Dice cs ∧
    eLc true [3] (iEx (eVar 2)) (gN 3) xYes (eCall den__law_dice (aCons (eVar 3) (aNil))) [x0, x1, some (.lst (ys.map D.int)), none] ⟨0, []⟩ = .ok (.obj 0) ⟨0, .lst false ((List.range' 1 ys.length).map D.obj) :: cs⟩ := by
  obtain ⟨cs, h1, h2, h3⟩ := rounds_comp x0 x1 (some (.lst (ys.map D.int))) ys ⟨0, [.hid]⟩
  refine ⟨cs, h1, h2, ?_⟩
  unfold eLc
  rw [iter_lst (ds := ys.map D.int) rfl]
  simp only [List.length_map]
  rw [if_pos (nle_iff.mpr hl)]
  show lcEnd true 0 0 none (compL (gN 3) xYes (eCall den__law_dice (aCons (eVar 3) (aNil))) [x0, x1, some (.lst (ys.map D.int)), none] (ys.map D.int) ⟨0, [.hid]⟩) = _
  rw [h3]
  rfl
theorem rounds_c (ns : List Int) (k : Int) (hn : ns.length ≤ 63) : ∃ cs, 0 < cs.length ∧ cs.length ≤ 63 ∧ Dice cs ∧ den__law_rounds [.fz ns, .int k] ⟨0, []⟩ = .ok (.obj 0) ⟨0, .lst false ((List.range' 1 cs.length).map D.obj) :: cs⟩ := by
  have hz : sizeLine = 16777216 := sizeLine_eq
  obtain ⟨xs, hx, hl⟩ := cut_ints ns none (some k)
  have e : den__law_rounds [.fz ns, .int k] ⟨0, []⟩ = (body__law_rounds [some (.fz ns), some (.int k), none, none] ⟨0, []⟩).fin false ⟨0, []⟩ := rfl
  have hs : eSl (eVar 0) oN (oS (eVar 1)) [some (.fz ns), some (.int k), none, none] ⟨0, []⟩ = .ok (.lst (xs.map D.int)) ⟨0, []⟩ := by
    show (Res.ok (D.lst (EV.cutD (ns.map D.int) none (some k))) (⟨0, []⟩ : Mem) : Res D) = _
    rw [hx]
  cases xs with
  | nil =>
    obtain ⟨cs, h1, h2, h3⟩ := rounds_lc [0] (some (.fz ns)) (some (.int k)) (by simp; omega)
    refine ⟨cs, by rw [h1]; simp, by rw [h1]; simp, h2, ?_⟩
    rw [e]
    unfold body__law_rounds
    simp only [sSeq, sRet, sRetN, sSet, sIf, sEx, sTg, sNil, Fl.seq_nx, Fl.seq_rt, Res.thn_ok, Res.bind_ok, Res.bool_ok, beq_len2, eC, eVar, eOp, eUn, eTup, aCons, aNil, eCb, eCall, xB, xNot, xAnd, xOr, eAnd, eOr, eNot, eIf, eChain, xYes, gN, gT, gsC, gsN, List.getElem?_cons_zero, List.getElem?_cons_succ, List.set_cons_zero, List.set_cons_succ, Bool.false_eq_true, if_true, if_false, hs, eLst, mkL, eq_nil, List.isEmpty_nil]
    simp only [List.map_cons, List.map_nil] at h3
    rw [h3, h1]
    rfl
  | cons x xs =>
    obtain ⟨cs, h1, h2, h3⟩ := rounds_lc (x :: xs) (some (.fz ns)) (some (.int k)) (by omega)
    refine ⟨cs, by rw [h1]; simp, by rw [h1]; omega, h2, ?_⟩
    rw [e]
    unfold body__law_rounds
    simp only [sSeq, sRet, sRetN, sSet, sIf, sEx, sTg, sNil, Fl.seq_nx, Fl.seq_rt, Res.thn_ok, Res.bind_ok, Res.bool_ok, beq_len2, eC, eVar, eOp, eUn, eTup, aCons, aNil, eCb, eCall, xB, xNot, xAnd, xOr, eAnd, eOr, eNot, eIf, eChain, xYes, gN, gT, gsC, gsN, List.getElem?_cons_zero, List.getElem?_cons_succ, List.set_cons_zero, List.set_cons_succ, Bool.false_eq_true, if_true, if_false, hs, eLst, mkL, eq_nil, List.isEmpty_cons]
    rw [h3, h1]
    rfl
/-! ### the loop of a law -/
def start (N i : Nat) (a b c : Int) : PSl := (List.replicate N none).set i (some (.o false (.lst [.int a, .int b, .int c])))
def isGo : PFl → Bool
  | .nx _ => true
  | .ct _ => true
  | _ => false
theorem loop_ok {N i : Nat} {B : Sx} {pB : PSx} (hi : i < N) (hB : JS N [] B pB) (hg : ∀ a b c : Int, isGo (pB (start N i a b c)) = true) (objs : List D) (n : Nat) : ∀ (m t : Nat) (e : Sl) (M : Mem), t + m = n → e.length = N → M.c[0]? = some (.lst true objs) → (∀ j, t ≤ j → j < n → ∃ a b c, M.c[1 + j]? = some (dl a b c)) →
    ∃ e' M', forL (gN i) B ((List.range' (1 + t) m).map D.obj) e M = .nx e' M' ∧ e'.length = N ∧ M'.c[0]? = some (.lst true objs)
  | 0, t, e, M, _, he, h0, _ => ⟨e, M, rfl, he, h0⟩
  | m + 1, t, e, M, hm, he, h0, hd => by
    obtain ⟨a, b, c, hc⟩ := hd t (Nat.le_refl t) (by omega)
    have hil : i < (List.replicate N (none : Option PS)).length := by simpa using hi
    have gs : ∀ (j : Nat) x, gp (start N i a b c) j = some x → j = i ∧ x = .o false (.lst [.int a, .int b, .int c]) := fun j x h => by
      rcases gp_set h with ⟨h1, _, h3⟩ | ⟨_, h3⟩
      · cases h3; exact ⟨h1.symm, rfl⟩
      · have := gp_iff.mp h3
        rw [List.getElem?_replicate] at this
        split at this <;> cases this
    have r : Rep (fun k => k = 0 ∨ ∃ j, t < j ∧ j < n ∧ k = 1 + j) N (start N i a b c) ((List.replicate N 0).set i (1 + t)) (e.set i (some (.obj (1 + t)))) M := by
      refine ⟨by simp [start], by simpa using he, by simp [start], fun j d h => ?_, fun j f d h => ?_, fun p q f d g d' k h1 h2 _ _ => by rw [(gs p _ h1).1, (gs q _ h2).1], fun k hk => ?_⟩
      · obtain ⟨_, h⟩ := gs j _ h; cases h
      · obtain ⟨h1, h⟩ := gs j _ h
        cases h
        subst h1
        refine ⟨rfl, 1 + t, _, by rw [List.getElem?_set_self (by simpa using hi)], ?_, rfl, hc, fun _ => by rw [List.getElem?_set_self (by rw [he]; exact hi)]⟩
        rintro (z | ⟨j, h1, h2, h3⟩) <;> omega
      · rcases hk with rfl | ⟨j, h1, h2, rfl⟩
        · exact (List.getElem?_eq_some_iff.mp h0).1
        · obtain ⟨_, _, _, h3⟩ := hd j (by omega) h2
          exact (List.getElem?_eq_some_iff.mp h3).1
    have post := hB _ _ _ _ _ r
    have hgo := hg a b c
    have next : ∀ (e2 : Sl) (M2 : Mem) (κ2 : List Nat) (ps2 : PSl), Rep (fun k => k = 0 ∨ ∃ j, t < j ∧ j < n ∧ k = 1 + j) N ps2 κ2 e2 M2 → StS (fun k => k = 0 ∨ ∃ j, t < j ∧ j < n ∧ k = 1 + j) [] (start N i a b c) ((List.replicate N 0).set i (1 + t)) M ps2 κ2 M2 →
        ∃ e' M', forL (gN i) B ((List.range' (1 + (t + 1)) m).map D.obj) e2 M2 = .nx e' M' ∧ e'.length = N ∧ M'.c[0]? = some (.lst true objs) := fun e2 M2 κ2 ps2 r2 s2 =>
      loop_ok hi hB hg objs n m (t + 1) e2 M2 (by omega) r2.le (by rw [s2.frm 0 (.inl rfl)]; exact h0) fun j h1 h2 => by
        obtain ⟨a, b, c, h3⟩ := hd j (by omega) h2
        exact ⟨a, b, c, by rw [s2.frm (1 + j) (.inr ⟨j, by omega, h2, rfl⟩)]; exact h3⟩
    rw [List.range'_succ, List.map_cons, forL, show 1 + t + 1 = 1 + (t + 1) by omega]
    simp only [gN]
    cases hp : pB (start N i a b c) with
    | nx ps2 =>
      rw [hp] at post
      obtain ⟨e2, κ2, M2, b1, b2, b3⟩ := post
      rw [b1]
      exact next e2 M2 κ2 ps2 b2 b3
    | ct ps2 =>
      rw [hp] at post
      obtain ⟨e2, κ2, M2, b1, b2, b3⟩ := post
      rw [b1]
      exact next e2 M2 κ2 ps2 b2 b3
    | bk _ => rw [hp] at hgo; cases hgo
    | rt _ _ => rw [hp] at hgo; cases hgo
    | bad => rw [hp] at hgo; cases hgo
theorem law_main {N i : Nat} {k : Int} {B E : Sx} {pB pE : PSx} (h1 : 1 ≤ N) (hi : i < N) (hB : JS N [] B pB) (hE : JS N [] E pE) (hg : ∀ a b c : Int, isGo (pB (start N i a b c)) = true) (he : ∃ ps, pE (List.replicate N none) = .rt (.v (.bl true)) ps) (ns : List Int) (hn : ns.length ≤ 63) :
    ∃ M, mkFn N true (sSeq (sFor (iEx (eCall den__law_rounds (aCons (eVar 0) (aCons (eC (.int k)) (aNil))))) (gN i) B) E) [.fz ns] ⟨0, []⟩ = .ok (.bl true) M := by
  obtain ⟨cs, c1, c2, c3, c4⟩ := rounds_c ns k hn
  obtain ⟨N', rfl⟩ : ∃ N', N = N' + 1 := ⟨N - 1, by omega⟩
  have hit : iEx (eCall den__law_rounds (aCons (eVar 0) (aCons (eC (.int k)) (aNil)))) (some (.fz ns) :: List.replicate N' none) ⟨0, []⟩ = .ok ((List.range' 1 cs.length).map D.obj, some 0) ⟨0, .lst true ((List.range' 1 cs.length).map D.obj) :: cs⟩ := by
    simp only [iEx, eCall, aCons, aNil, eC, eVar, List.getElem?_cons_zero, Res.bind, c4, iterD, Bool.false_eq_true, if_false, Mem.set, List.set_cons_zero]
  obtain ⟨e', M', l1, l2, l3⟩ := loop_ok hi hB hg ((List.range' 1 cs.length).map D.obj) cs.length cs.length 0 (some (.fz ns) :: List.replicate N' none) ⟨0, .lst true ((List.range' 1 cs.length).map D.obj) :: cs⟩ (by omega) (by simp) rfl fun j _ hj => by
    obtain ⟨a, b, c, h⟩ := c3 cs[j] (List.getElem_mem hj)
    refine ⟨a, b, c, ?_⟩
    rw [show 1 + j = j + 1 by omega]
    simp only [List.getElem?_cons_succ]
    rw [List.getElem?_eq_getElem hj, h]
  obtain ⟨pse, he⟩ := he
  have rE : Rep (fun _ => False) (N' + 1) (List.replicate (N' + 1) none) (List.replicate (N' + 1) 0) e' (M'.set 0 (.lst false ((List.range' 1 cs.length).map D.obj))) := by
    have no : ∀ (j : Nat) x, gp (List.replicate (N' + 1) none) j = some x → False := fun j x h => by
      have := gp_iff.mp h
      rw [List.getElem?_replicate] at this
      split at this <;> cases this
    exact ⟨by simp, l2, by simp, fun j d h => (no j _ h).elim, fun j f d h => (no j _ h).elim, fun a b _ _ _ _ _ h => (no a _ h).elim, fun k h => h.elim⟩
  have pE := hE _ _ _ _ _ rE
  rw [he] at pE
  obtain ⟨d', e2, κ2, M2, q1, q2, q3, rfl, q5⟩ := pE
  have hb : mkFn (N' + 1) true (sSeq (sFor (iEx (eCall den__law_rounds (aCons (eVar 0) (aCons (eC (.int k)) (aNil))))) (gN i) B) E) [.fz ns] ⟨0, []⟩ = ((sSeq (sFor (iEx (eCall den__law_rounds (aCons (eVar 0) (aCons (eC (.int k)) (aNil))))) (gN i) B) E) (some (.fz ns) :: List.replicate N' none) ⟨0, []⟩).fin true ⟨0, []⟩ := rfl
  rw [hb]
  have l1 : forL (gN i) B ((List.range' 1 cs.length).map D.obj) (some (.fz ns) :: List.replicate N' none) ⟨0, .lst true ((List.range' 1 cs.length).map D.obj) :: cs⟩ = .nx e' M' := l1
  have ht : thawO (some 0) M' = some (M'.set 0 (.lst false ((List.range' 1 cs.length).map D.obj))) := by simp only [thawO, thaw, l3]
  simp only [sSeq, sFor, hit, l1, Fl.thaw, ht, Fl.seq, q1, Fl.fin, finR, if_true]
  split
  · exact ⟨_, rfl⟩
  · exact ⟨_, rfl⟩
end Law

set_option Elab.async false
set_option linter.all false
set_option autoImplicit false
set_option maxRecDepth 100000
set_option maxHeartbeats 4000000
namespace Law
open PySem PySem.Spec PyProof.Rows EV
/-! ### the roll, second layer -/
def pb__law_roll : PSx := rSeq (rIf (tOr (tB (pOp dEq (pOpX dIx (pVar 0) (pC (.int 2))) (pC (.int 2)))) (tAnd (tB (pOp dEq (pOpX dIx (pVar 0) (pC (.int 2))) (pC (.int 1)))) (tB (pOp dGt (pOpX dIx (pVar 0) (pC (.int 0))) (pC (.int 0)))))) (rSeq (rSet [0, 1] 2 (pOp dMod (pCb bInt (qCons (pOpX dIx (pVar 0) (pC (.int 0))) (qNil))) (pVar 1))) (rSeq (rSub (pVar 0) (pC (.int 0)) (pOp dDiv (pOpX dIx (pVar 0) (pC (.int 0))) (pVar 1))) (rRet (pVar 2)))) (rNil)) (rSeq (rSub (pVar 0) (pC (.int 2)) (pC (.int 0))) (rSeq (rSub (pVar 0) (pC (.int 0)) (pOp dMod (pCb bInt (qCons (pOp dAdd (pOp dAdd (pOp dMulI (pOpX dIx (pVar 0) (pC (.int 0))) (pC (.int 48271))) (pOp dMulI (pOpX dIx (pVar 0) (pC (.int 1))) (pC (.int 69621)))) (pC (.int 11))) (qNil))) (pC (.int 2147483647)))) (rSeq (rSub (pVar 0) (pC (.int 1)) (pOp dAdd (pOpX dIx (pVar 0) (pC (.int 1))) (pC (.int 1)))) (rRet (pOp dMod (pCb bInt (qCons (pOp dAdd (pOp dDiv (pOpX dIx (pVar 0) (pC (.int 0))) (pC (.int 7))) (pOpX dIx (pVar 0) (pC (.int 0)))) (qNil))) (pVar 1))))))
def pf__law_roll : PFn := pFn 3 2 [0, 1] pb__law_roll
theorem jf__law_roll : JF den__law_roll pf__law_roll := jf_fn (by decide) (js_seq (js_if (jt_or (jt_b (je_op or_dEq (je_opX ox_dIx (je_var 0 (by decide)) (je_c rfl)) (je_c rfl))) (jt_and (jt_b (je_op or_dEq (je_opX ox_dIx (je_var 0 (by decide)) (je_c rfl)) (je_c rfl))) (jt_b (je_op or_dGt (je_opX ox_dIx (je_var 0 (by decide)) (je_c rfl)) (je_c rfl))))) (js_seq (js_set 2 (by decide) (by decide) (je_op or_dMod (je_cb cr_int (ja_cons (je_opX ox_dIx (je_var 0 (by decide)) (je_c rfl)) (ja_nil))) (je_var 1 (by decide)))) (js_seq (js_sub (je_var 0 (by decide)) (je_c rfl) (je_op or_dDiv (je_opX ox_dIx (je_var 0 (by decide)) (je_c rfl)) (je_var 1 (by decide)))) (js_ret (je_var 2 (by decide))))) (js_nil)) (js_seq (js_sub (je_var 0 (by decide)) (je_c rfl) (je_c rfl)) (js_seq (js_sub (je_var 0 (by decide)) (je_c rfl) (je_op or_dMod (je_cb cr_int (ja_cons (je_op or_dAdd (je_op or_dAdd (je_op or_dMulI (je_opX ox_dIx (je_var 0 (by decide)) (je_c rfl)) (je_c rfl)) (je_op or_dMulI (je_opX ox_dIx (je_var 0 (by decide)) (je_c rfl)) (je_c rfl))) (je_c rfl)) (ja_nil))) (je_c rfl))) (js_seq (js_sub (je_var 0 (by decide)) (je_c rfl) (je_op or_dAdd (je_opX ox_dIx (je_var 0 (by decide)) (je_c rfl)) (je_c rfl))) (js_ret (je_op or_dMod (je_cb cr_int (ja_cons (je_op or_dAdd (je_op or_dDiv (je_opX ox_dIx (je_var 0 (by decide)) (je_c rfl)) (je_c rfl)) (je_opX ox_dIx (je_var 0 (by decide)) (je_c rfl))) (ja_nil))) (je_var 1 (by decide))))))))
theorem rollP (a b c m : Int) (hm : 0 < m) (hm2 : m < 1073741824) : ∃ r a' b' c', 0 ≤ r ∧ r < m ∧ pf__law_roll [.o false (.lst [.int a, .int b, .int c]), .v (.int m)] = some (.int r, [some (.o false (.lst [.int a', .int b', .int c'])), some (.v (.int m))]) := by
  have e : pf__law_roll [.o false (.lst [.int a, .int b, .int c]), .v (.int m)] = (match pb__law_roll [some (.o false (.lst [.int a, .int b, .int c])), some (.v (.int m)), none] with
    | .rt (.v d) ps => some (d, ps.take 2)
    | .rt (.s i) ps => none
    | .nx ps => some (.non, ps.take 2)
    | _ => none) := rfl
  rw [e]
  have i0 : ∀ x y z : Int, dIx (.lst [.int x, .int y, .int z]) (.int 0) M0 = .ok (.int x) M0 := fun x y z => rfl
  have i1 : ∀ x y z : Int, dIx (.lst [.int x, .int y, .int z]) (.int 1) M0 = .ok (.int y) M0 := fun x y z => rfl
  have i2 : ∀ x y z : Int, dIx (.lst [.int x, .int y, .int z]) (.int 2) M0 = .ok (.int z) M0 := fun x y z => rfl
  have w0 : ∀ x y z v : Int, wSet (.lst [.int x, .int y, .int z]) (.int 0) (.int v) = some (.lst [.int v, .int y, .int z]) := fun x y z v => rfl
  have w1 : ∀ x y z v : Int, wSet (.lst [.int x, .int y, .int z]) (.int 1) (.int v) = some (.lst [.int x, .int v, .int z]) := fun x y z v => rfl
  have w2 : ∀ x y z v : Int, wSet (.lst [.int x, .int y, .int z]) (.int 2) (.int v) = some (.lst [.int x, .int y, .int v]) := fun x y z v => rfl
  cases h1 : (c == 2 || (c == 1 && decide (a > 0)))
  · refine ⟨((a * 48271 + b * 69621 + 11) % 2147483647 / 7 + (a * 48271 + b * 69621 + 11) % 2147483647) % m, (a * 48271 + b * 69621 + 11) % 2147483647, b + 1, 0, Int.emod_nonneg _ (by omega), Int.emod_lt_of_pos _ hm, ?_⟩
    have hx : tOr (tB (pOp dEq (pOpX dIx (pVar 0) (pC (.int 2))) (pC (.int 2)))) (tAnd (tB (pOp dEq (pOpX dIx (pVar 0) (pC (.int 2))) (pC (.int 1)))) (tB (pOp dGt (pOpX dIx (pVar 0) (pC (.int 0))) (pC (.int 0))))) [some (.o false (.lst [.int a, .int b, .int c])), some (.v (.int m)), none] = some (false, [some (.o false (.lst [.int a, .int b, .int c])), some (.v (.int m)), none]) := by
      simp only [Bool.or_eq_false_iff] at h1
      obtain ⟨h1, h3⟩ := h1
      cases h2 : (c == 1)
      · simp only [tOr, tAnd, tB, pOp, pOpX, pVar, pC, gp, dv, i2, i0, eq_int, gt_int, h1, h2]
      · rw [h2] at h3
        simp only [Bool.true_and] at h3
        simp only [tOr, tAnd, tB, pOp, pOpX, pVar, pC, gp, dv, i2, i0, eq_int, gt_int, h1, h2, h3]
    unfold pb__law_roll
    simp only [rSeq, rIf, hx, rNil, rSub, pC, pVar, gp, w2, List.set_cons_zero, rSet, pCb, qCons, qNil, pOp, pOpX, dv, i0, i1, mul_r (j := 48271) (by decide) (by decide), mul_r (j := 69621) (by decide) (by decide), add_int, List.map_cons, List.map_nil, int_int, mod_p (j := 2147483647) (by decide), w0, w1, rRet, div_p (j := 7) (by decide) (by decide), mod_p hm]
    rfl
  · refine ⟨a % m, a / m, b, c, Int.emod_nonneg _ (by omega), Int.emod_lt_of_pos _ hm, ?_⟩
    have hx : tOr (tB (pOp dEq (pOpX dIx (pVar 0) (pC (.int 2))) (pC (.int 2)))) (tAnd (tB (pOp dEq (pOpX dIx (pVar 0) (pC (.int 2))) (pC (.int 1)))) (tB (pOp dGt (pOpX dIx (pVar 0) (pC (.int 0))) (pC (.int 0))))) [some (.o false (.lst [.int a, .int b, .int c])), some (.v (.int m)), none] = some (true, [some (.o false (.lst [.int a, .int b, .int c])), some (.v (.int m)), none]) := by
      cases h2 : (c == 2)
      · rw [h2] at h1
        simp only [Bool.false_or, Bool.and_eq_true] at h1
        obtain ⟨h1, h3⟩ := h1
        simp only [tOr, tAnd, tB, pOp, pOpX, pVar, pC, gp, dv, i2, i0, eq_int, gt_int, h2, h1, h3]
      · simp only [tOr, tAnd, tB, pOp, pOpX, pVar, pC, gp, dv, i2, i0, eq_int, gt_int, h2]
    unfold pb__law_roll
    simp only [rSeq, rIf, hx, rSub, pC, pVar, gp, w0, List.set_cons_zero, rSet, pCb, qCons, qNil, pOp, pOpX, dv, i0, List.map_cons, List.map_nil, int_int, mod_p hm, div_p hm hm2, frzAt, List.set_cons_succ, Bool.false_eq_true, if_false, rRet]
    rfl
end Law

set_option Elab.async false
set_option linter.all false
set_option autoImplicit false
set_option maxRecDepth 100000
set_option maxHeartbeats 400000
namespace EV
open PySem PySem.Spec PyProof.Rows
theorem or_dAddI : OpR dAddI := opR_mk (fun M x' y' x y hx hy => by
    cases hx <;> cases hy <;> simp [dAddI, thru]) fun x y r M1 hx hy h => by
    cases x <;> cases y <;> simp [dAddI] at h
    obtain ⟨rfl, _⟩ := h; rfl
theorem or_dMulJ : OpR dMulJ := opR_mk (fun M x' y' x y hx hy => by
    cases hx <;> cases hy <;> simp [dMulJ, thru] <;> (try split) <;> rfl) fun x y r M1 hx hy h => by
    cases x <;> cases y <;> simp [dMulJ] at h
    split at h <;> cases h; rfl
/-- x op= e, x by value -/
def rAug (i : Nat) (g : D → D → Mem → Res D) (p : PX) : PSx := fun ps => match gp ps i with
  | some (.v x) => match p ps with
    | some (y, ps1) => match g x (dv ps1 y) M0 with
      | .ok r _ => if frzAt ps1 i then .bad else .nx (ps1.set i (some (.v r)))
      | _ => .bad
    | none => .bad
  | _ => .bad
theorem js_aug {N : Nat} {pn : List Nat} {g : D → D → Mem → Res D} {t : Ex} {p : PX} (i : Nat) (hi : i < N) (hp : i ∉ pn) (hg : OpR g) (h : JE N t p) : JS N pn (sAug i g t) (rAug i g p) := fun F ps κ e M r => by
  unfold rAug
  split
  · rename_i x hx
    obtain ⟨fx, ex⟩ := r.val i x hx
    split
    · rename_i y ps1 e1
      obtain ⟨d', κ1, M1, a1, r1, s1, v1⟩ := h F ps κ e M y ps1 r e1
      split
      · rename_i rr MM e2
        obtain ⟨b1, b2⟩ := hg M1 x d' x _ rr MM ⟨fx, .inl rfl⟩ (r1.rdv v1) e2
        split
        · trivial
        · rename_i hz
          refine ⟨_, κ1, M1, by simp [sAug, ex hi, a1, Res.thn, b1], r1.setV hi b2, s1.s.trans ⟨fun l d k h q => ⟨frz_set hz l d h, q⟩, fun l hl f d k h q => ⟨⟨d, ?_⟩, q⟩, rfl, fun _ _ => rfl⟩⟩
          rw [gp_ne (fun (z : i = l) => hp (by rw [z]; exact hl))]; exact h
      · trivial
    · trivial
  · trivial
end EV

set_option Elab.async false
set_option linter.all false
set_option autoImplicit false
set_option maxRecDepth 100000
set_option maxHeartbeats 400000
namespace EV
open PySem PySem.Spec PyProof.Rows
theorem enumD_fd : ∀ {ds : List D} (k : Nat), Fds ds → Fds (enumD k ds)
  | [], _, _ => rfl
  | d :: ds, k, h => by
    have h' := Fds.iff.mp h
    have h2 := enumD_fd (k + 1) (Fds.iff.mpr fun z hz => h' z (List.mem_cons_of_mem _ hz))
    have h1 : Fd (.tup [.int (k : Nat), d]) := by
      rw [Fd.tup]
      exact Fds.iff.mpr fun z hz => by
        simp at hz
        rcases hz with rfl | rfl
        · rfl
        · exact h' _ List.mem_cons_self
    refine Fds.iff.mpr fun z hz => ?_
    rcases List.mem_cons.mp hz with e | e
    · rw [e]; exact h1
    · exact Fds.iff.mp h2 z e
def pEn (q : PAx) : PIx := fun ps => match q ps with
  | some ([.v (.tup ds)], ps1) => some ((enumD 0 ds, none), ps1)
  | _ => none
theorem ji_en {N : Nat} {t : Ax} {q : PAx} (h : JA N t q) : JI N (iEn t) (pEn q) := fun F ps κ e M ds fz ps' r hp => by
  unfold pEn at hp
  split at hp
  · rename_i xs ps1 e1
    cases hp
    obtain ⟨d1, κ1, M1, a1, r1, s1, v1⟩ := h F ps κ e M _ _ r e1
    cases v1 with
    | cons v v' =>
      cases v'
      obtain ⟨rfl, f⟩ := v
      exact ⟨κ1, _, M1, M1, none, by simp [iEn, a1, Res.bind], r1, s1, enumD_fd 0 (Fd.tup.mp f), .inl ⟨rfl, rfl, rfl, rfl⟩⟩
  · cases hp
end EV

set_option Elab.async false
set_option linter.all false
set_option autoImplicit false
set_option maxRecDepth 100000
set_option maxHeartbeats 400000
namespace Law
open PySem PySem.Spec PyProof.Rows EV
/-! ### places, shapes as data -/
abbrev Pl := Int × Int
def pD (p : Pl) : D := .tup [.int p.1, .int p.2]
def sD (s : List Pl) : D := .tup (s.map pD)
theorem pD_refs (p : Pl) (n : Nat) : refsLt n (pD p) = true := by simp [pD, refsLt, refsLtL]
theorem sD_refs (s : List Pl) (n : Nat) : refsLt n (sD s) = true := by simp only [sD, refsLt]; exact flat_map (fun p n => pD_refs p n) n
theorem filter_yes {α : Type} (xs : List α) : xs.filter (fun _ => true) = xs := by simp
theorem pD_inj {p q : Pl} (h : pD p = pD q) : p = q := by
  simp [pD] at h
  exact Prod.ext h.1 h.2
theorem pD_beq (p q : Pl) : D.beq (pD p) (pD q) = decide (p = q) := by
  by_cases h : p = q
  · rw [h, D.beq_refl]; simp
  · have : ¬ D.beq (pD p) (pD q) = true := fun z => h (pD_inj (D.beq_eq z))
    simp [h, this]
def pLt (y x : Pl) : Bool := decide (y.1 < x.1) || (decide (y.1 = x.1) && decide (y.2 < x.2))
def pSort (xs : List Pl) : List Pl := sortB pLt xs
theorem insB_map {α β : Type} {f : α → β} {lt : β → β → Bool} {lt' : α → α → Bool} (h : ∀ a b, lt (f a) (f b) = lt' a b) (x : α) : ∀ xs : List α, insB lt (f x) (xs.map f) = (insB lt' x xs).map f
  | [] => rfl
  | y :: ys => by
    simp only [List.map_cons, insB, h]
    split
    · rw [insB_map h x ys]; rfl
    · rfl
theorem sortB_map {α β : Type} {f : α → β} {lt : β → β → Bool} {lt' : α → α → Bool} (h : ∀ a b, lt (f a) (f b) = lt' a b) : ∀ xs : List α, sortB lt (xs.map f) = (sortB lt' xs).map f
  | [] => rfl
  | x :: xs => by
    simp only [List.map_cons, sortB]
    rw [sortB_map h xs, insB_map h x]
theorem cmp_int (i j : Int) : cmpD (.int i) (.int j) = if i < j then .lt else if i = j then .eq else .gt := by rw [cmpD]
theorem cmp_pD (p q : Pl) : cmpD (pD p) (pD q) = if pLt p q then .lt else if p = q then .eq else .gt := by
  obtain ⟨a, b⟩ := p
  obtain ⟨c, d⟩ := q
  simp only [pD, cmpD, cmpL, pLt, Prod.mk.injEq]
  by_cases h1 : a < c
  · simp [h1]
  · by_cases h2 : a = c
    · subst h2
      by_cases h3 : b < d
      · simp [h3]
      · by_cases h4 : b = d
        · simp [h4]
        · simp [h3, h4]
    · simp [h1, h2]
theorem less_pD (p q : Pl) : dLess (pD p) (pD q) = pLt p q := by
  unfold dLess
  rw [cmp_pD]
  cases h : pLt p q with
  | true => simp [isLt]
  | false =>
    simp only [Bool.false_eq_true, if_false]
    split <;> rfl
theorem srt_pD (xs : List Pl) : srt (xs.map pD) = (pSort xs).map pD := sortB_map less_pD xs
theorem fits_pD (p : Pl) : fits tII (pD p) = true := by simp [fits, tII, pD]
theorem srtOk_pD (xs : List Pl) : srtOk tys0 (xs.map pD) = true := by
  have h1 : (xs.map pD).all (fits tII) = true := by
    rw [List.all_eq_true]
    intro d hd
    obtain ⟨p, _, rfl⟩ := List.mem_map.mp hd
    exact fits_pD p
  have h2 : (xs.map pD).all tupN = true := by
    rw [List.all_eq_true]
    intro d hd
    obtain ⟨p, _, rfl⟩ := List.mem_map.mp hd
    rfl
  have h3 : (xs.map pD).all lowD = true := by
    rw [List.all_eq_true]
    intro d hd
    obtain ⟨p, _, rfl⟩ := List.mem_map.mp hd
    simp [lowD, pD, dep, depL]
  unfold srtOk
  rw [h2, h3]
  simp only [tys0, tyOk, h1, Bool.true_or, Bool.or_true, Bool.and_true]
def pPut (p : Pl) : List Pl → List Pl
  | x :: xs => if x = p then x :: xs else x :: pPut p xs
  | [] => [p]
def pKeys (acc : List Pl) : List Pl → List Pl
  | [] => acc
  | x :: xs => pKeys (pPut x acc) xs
def pShape (xs : List Pl) : List Pl := pSort (pKeys [] xs)
theorem dputK_pD (p : Pl) : ∀ ks : List Pl, dputK (pD p) (ks.map pD) = (pPut p ks).map pD
  | [] => rfl
  | x :: xs => by
    simp only [List.map_cons, dputK, pPut, pD_beq, decide_eq_true_eq]
    split
    · rfl
    · rw [dputK_pD p xs]; rfl
theorem pPut_len (p : Pl) : ∀ ks : List Pl, (pPut p ks).length ≤ ks.length + 1
  | [] => by simp [pPut]
  | x :: xs => by
    unfold pPut
    split
    · simp
    · have := pPut_len p xs; simp; omega
theorem kok_pD (ks : List Pl) (p : Pl) : kok (ks.map pD) (pD p) = true := by
  cases ks with
  | nil => simp [kok, pD, EV.scal, deepK, isKeys, isKey, depL, dep]
  | cons k ks => simp [kok, pD, EV.scal, deepK, isKeys, isKey, depL, dep]
def vT (n : Nat) : List D := List.replicate n (.bl true)
theorem dputV_pD (p : Pl) : ∀ ks : List Pl, dputV (pD p) (.bl true) (ks.map pD) (vT ks.length) = vT (pPut p ks).length
  | [] => rfl
  | x :: xs => by
    simp only [List.map_cons, List.length_cons, vT, List.replicate_succ, dputV, pPut, pD_beq, decide_eq_true_eq]
    split
    · rfl
    · have := dputV_pD p xs
      unfold vT at this
      rw [this]
      rfl
theorem vT_refs (m n : Nat) : refsLtL n (vT m) = true := refsLtL_all fun d hd => by rw [List.eq_of_mem_replicate hd]; rfl
theorem plain_pD (p : Pl) : EV.plain (pD p) = true := by simp [pD, EV.plain, plainL]
theorem plain_sD (s : List Pl) : EV.plain (sD s) = true := by rw [sD, EV.plain]; exact plainL_map plain_pD s
theorem dep_pD (p : Pl) : dep (pD p) = 1 := by simp [pD, dep, depL]
theorem dep_sD (s : List Pl) : dep (sD s) ≤ 2 := by
  rw [sD, dep]
  have := depL_le (k := 1) (fun p => Nat.le_of_eq (dep_pD p)) s
  omega
theorem deq_pD (p q : Pl) : deq (pD p) (pD q) = decide (p = q) := by
  obtain ⟨a, b⟩ := p
  obtain ⟨c, d⟩ := q
  simp only [pD, deq, deqL, Prod.mk.injEq, Bool.and_true]
  by_cases h1 : a = c <;> by_cases h2 : b = d <;> simp [h1, h2]
theorem deqL_map {α : Type} [DecidableEq α] {f : α → D} (h : ∀ x y, deq (f x) (f y) = decide (x = y)) : ∀ xs ys : List α, deqL (xs.map f) (ys.map f) = decide (xs = ys)
  | [], [] => rfl
  | [], _ :: _ => by simp [deqL]
  | _ :: _, [] => by simp [deqL]
  | x :: xs, y :: ys => by
    rw [List.map_cons, List.map_cons, deqL, h x y, deqL_map h xs ys]
    by_cases h1 : x = y <;> by_cases h2 : xs = ys <;> simp [h1, h2]
theorem deq_sD (s t : List Pl) : deq (sD s) (sD t) = decide (s = t) := by
  rw [sD, sD, deq]
  exact deqL_map deq_pD s t
theorem sD_inj {s t : List Pl} (h : sD s = sD t) : s = t := by
  have := deq_sD s t
  rw [h, deq_sD t t] at this
  simpa using this.symm
def pIn (p : Pl) (s : List Pl) : Bool := s.any fun q => decide (q = p)
def sIn (s : List Pl) (l : List (List Pl)) : Bool := l.any fun q => decide (q = s)
theorem in_sD (p : Pl) (s : List Pl) (M : Mem) : dIn (pD p) (sD s) M = .ok (.bl (pIn p s)) M := by
  show dIn (pD p) (.tup (s.map pD)) M = _
  simp only [dIn]
  rw [plain_pD, plainL_map plain_pD s, dep_pD, if_pos (by decide), List.any_map]
  simp only [pIn, Function.comp_def, deq_pD]
theorem notin_sD (p : Pl) (s : List Pl) (M : Mem) : dNotIn (pD p) (sD s) M = .ok (.bl (!pIn p s)) M := by
  simp only [dNotIn, in_sD, dNot]
theorem eq_sD (s t : List Pl) (M : Mem) : dEq (sD s) (sD t) M = .ok (.bl (decide (s = t))) M := by
  have hl : Nat.ble (dep (sD s)) 64 = true := by rw [Nat.ble_eq]; have := dep_sD s; omega
  unfold dEq
  rw [show look M (sD s) = sD s from rfl, show look M (sD t) = sD t from rfl, plain_sD, plain_sD, hl, if_pos (by rfl), deq_sD]
def sLt : List Pl → List Pl → Bool
  | [], [] => false
  | [], _ :: _ => true
  | _ :: _, [] => false
  | x :: xs, y :: ys => if pLt x y then true else if x = y then sLt xs ys else false
theorem less_sD (s t : List Pl) : dLess (sD s) (sD t) = sLt s t := by
  unfold dLess
  rw [sD, sD, cmpD]
  induction s generalizing t with
  | nil => cases t <;> rfl
  | cons x xs ih =>
    cases t with
    | nil => rfl
    | cons y ys =>
      rw [List.map_cons, List.map_cons, cmpL, cmp_pD, sLt]
      cases h : pLt x y with
      | true => rfl
      | false =>
        simp only [Bool.false_eq_true, if_false]
        by_cases e : x = y
        · rw [if_pos e, if_pos e]; exact ih ys
        · rw [if_neg e, if_neg e]; rfl
def sSort (l : List (List Pl)) : List (List Pl) := sortB sLt l
theorem srt_sD (l : List (List Pl)) : srt (l.map sD) = (sSort l).map sD := sortB_map less_sD l
theorem srtOk_sD (l : List (List Pl)) (h : ∀ s ∈ l, s ≠ []) : srtOk tys0 (l.map sD) = true := by
  have h1 : (l.map sD).all (fits (.l tII)) = true := by
    rw [List.all_eq_true]
    intro d hd
    obtain ⟨s, _, rfl⟩ := List.mem_map.mp hd
    rw [sD, fits, List.all_eq_true]
    intro d hd
    obtain ⟨p, _, rfl⟩ := List.mem_map.mp hd
    exact fits_pD p
  have h2 : (l.map sD).all tupN = true := by
    rw [List.all_eq_true]
    intro d hd
    obtain ⟨s, hs, rfl⟩ := List.mem_map.mp hd
    cases s with
    | nil => exact absurd rfl (h _ hs)
    | cons p ps => rfl
  have h3 : (l.map sD).all lowD = true := by
    rw [List.all_eq_true]
    intro d hd
    obtain ⟨s, _, rfl⟩ := List.mem_map.mp hd
    unfold lowD
    rw [Nat.ble_eq]
    have := dep_sD s
    omega
  unfold srtOk
  rw [h2, h3]
  simp only [tys0, tyOk, h1, Bool.true_or, Bool.or_true, Bool.and_true]
theorem intsOf_map : ∀ xs : List Int, intsOf (xs.map D.int) = some xs
  | [] => rfl
  | x :: xs => by rw [List.map_cons, intsOf, intsOf_map xs]; rfl
/-! ### loops and comprehensions, second layer -/
/-- a loop with an early end -/
def runT {α σ ρ : Type} (step : α → σ → σ ⊕ ρ) : List α → σ → σ ⊕ ρ
  | [], w => .inl w
  | x :: xs, w => match step x w with
    | .inl w' => runT step xs w'
    | .inr r => .inr r
def Out {σ : Type} (st : σ → PSl) (r : σ ⊕ D) (fl : PFl) : Prop := match r with
  | .inl w => fl = .nx (st w)
  | .inr d => ∃ ps, fl = .rt (.v d) ps
theorem for_out {α σ : Type} {g : PGt} {body : PSx} {enc : α → D} {st : σ → PSl} {step : α → σ → σ ⊕ D} (I : Nat → σ → Prop) : ∀ (xs : List α) (w : σ), I xs.length w →
    (∀ x ∈ xs, ∀ n w, I (n + 1) w → ∃ ps1, g (enc x) (st w) = some ps1 ∧ Out st (step x w) (body ps1) ∧ ∀ w', step x w = .inl w' → I n w') → Out st (runT step xs w) (forP g body (xs.map enc) (st w))
  | [], w, _, _ => rfl
  | x :: xs, w, hw, h => by
    obtain ⟨ps1, h1, h2, h3⟩ := h x List.mem_cons_self xs.length w hw
    simp only [List.map_cons, forP, h1, runT]
    cases hs : step x w with
    | inl w' =>
      rw [hs] at h2
      simp only [Out] at h2
      rw [h2]
      exact for_out I xs w' (h3 w' hs) fun y hy => h y (List.mem_cons_of_mem _ hy)
    | inr d =>
      rw [hs] at h2
      obtain ⟨ps, h2⟩ := h2
      rw [h2]
      exact ⟨ps, rfl⟩
theorem for_nx {α σ : Type} {g : PGt} {body : PSx} {enc : α → D} {st : σ → PSl} {step : σ → α → σ} (I : Nat → σ → Prop) : ∀ (xs : List α) (w : σ), I xs.length w →
    (∀ x ∈ xs, ∀ n w, I (n + 1) w → ∃ ps1, g (enc x) (st w) = some ps1 ∧ body ps1 = .nx (st (step w x)) ∧ I n (step w x)) → forP g body (xs.map enc) (st w) = .nx (st (xs.foldl step w))
  | [], w, _, _ => rfl
  | x :: xs, w, hw, h => by
    obtain ⟨ps1, h1, h2, h3⟩ := h x List.mem_cons_self xs.length w hw
    simp only [List.map_cons, forP, h1, h2, List.foldl_cons]
    exact for_nx I xs (step w x) h3 fun y hy => h y (List.mem_cons_of_mem _ hy)
theorem pCompL_map {α : Type} {g : PGt} {tt : PTx} {te : PX} {vs : List Nat} {pw : PSl} (f h : α → D) (p : α → Bool) : ∀ xs : List α, (∀ x ∈ xs, ∃ ps1, g (f x) pw = some ps1 ∧ tt ps1 = some (p x, ps1) ∧ (p x = true → te ps1 = some (.v (h x), ps1)) ∧ wipeP ps1 vs = pw) → pCompL g tt te vs (xs.map f) pw = some ((xs.filter p).map h, pw)
  | [], _ => rfl
  | x :: xs, H => by
    obtain ⟨ps1, h1, h2, h3, h4⟩ := H x List.mem_cons_self
    have ih := pCompL_map f h p xs fun y hy => H y (List.mem_cons_of_mem _ hy)
    simp only [List.map_cons, pCompL, h1, h2]
    cases hp : p x with
    | true => simp only [h3 hp, h4, ih, List.filter_cons_of_pos hp, List.map_cons]
    | false => simp only [h4, ih, List.filter_cons_of_neg (by simp [hp] : ¬ p x = true)]
theorem pLc_map {α : Type} {g : PGt} {tt : PTx} {te : PX} {vs : List Nat} {it : PIx} {ps : PSl} (f h : α → D) (p : α → Bool) (xs : List α) (hi : it ps = some ((xs.map f, none), ps)) (hn : noOwn ps vs = true) (hl : xs.length ≤ sizeLine) (hr : restP ps (wipeP ps vs) vs = ps)
    (H : ∀ x ∈ xs, ∃ ps1, g (f x) (wipeP ps vs) = some ps1 ∧ tt ps1 = some (p x, ps1) ∧ (p x = true → te ps1 = some (.v (h x), ps1)) ∧ wipeP ps1 vs = wipeP ps vs) : pLc vs it g tt te ps = some (.v (.lst ((xs.filter p).map h)), ps) := by
  simp only [pLc, blkP, hi, hn, if_true, lcB, List.length_map]
  rw [if_pos (nle_iff.mpr hl), pCompL_map f h p xs H]
  simp only [wipeP_len, Nat.beq_refl, if_true, thawP, hr]
theorem tOr_v {p q : PTx} {ps : PSl} {b c : Bool} (h1 : p ps = some (b, ps)) (h2 : q ps = some (c, ps)) : EV.tOr p q ps = some (b || c, ps) := by cases b <;> simp [EV.tOr, h1, h2]
theorem tAnd_v {p q : PTx} {ps : PSl} {b c : Bool} (h1 : p ps = some (b, ps)) (h2 : q ps = some (c, ps)) : EV.tAnd p q ps = some (b && c, ps) := by cases b <;> simp [EV.tAnd, h1, h2]
theorem tNot_v {p : PTx} {ps : PSl} {b : Bool} (h1 : p ps = some (b, ps)) : EV.tNot p ps = some (!b, ps) := by simp [EV.tNot, h1]
theorem tB_v {p : PX} {ps : PSl} {b : Bool} (h1 : p ps = some (.v (.bl b), ps)) : EV.tB p ps = some (b, ps) := by simp [EV.tB, h1]
theorem pOp_v {g : D → D → Mem → Res D} {p q : PX} {ps : PSl} {x y r : D} {M : Mem} (h1 : p ps = some (.v x, ps)) (h2 : q ps = some (.v y, ps)) (h3 : g x y M0 = .ok r M) : pOp g p q ps = some (.v r, ps) := by simp [pOp, h1, h2, dv, h3]
end Law

set_option Elab.async false
set_option linter.all false
set_option autoImplicit false
set_option maxRecDepth 100000
set_option maxHeartbeats 400000
namespace Law
open EV
/-! ### sorting, plainly -/
section
variable {α : Type} {lt : α → α → Bool}
theorem insB_perm (x : α) : ∀ l : List α, (insB lt x l).Perm (x :: l)
  | [] => .refl _
  | y :: ys => by
    simp only [insB]
    split
    · exact ((insB_perm x ys).cons y).trans (List.Perm.swap x y ys)
    · exact .refl _
theorem sortB_perm : ∀ l : List α, (sortB lt l).Perm l
  | [] => .refl _
  | x :: xs => (insB_perm x _).trans ((sortB_perm xs).cons x)
/-- a strict order, all things comparable -/
structure Ord (lt : α → α → Bool) : Prop where
  asym : ∀ a b, lt a b = true → lt b a = false
  tr : ∀ a b c, lt b a = false → lt c b = false → lt c a = false
  tot : ∀ a b, lt a b = false → lt b a = false → a = b
theorem insB_sorted (o : Ord lt) (x : α) : ∀ l : List α, l.Pairwise (fun a b => lt b a = false) → (insB lt x l).Pairwise (fun a b => lt b a = false)
  | [], _ => by simp [insB]
  | y :: ys, h => by
    have hc := List.pairwise_cons.mp h
    simp only [insB]
    split
    · rename_i hx
      refine List.pairwise_cons.mpr ⟨fun z hz => ?_, insB_sorted o x ys hc.2⟩
      rcases List.mem_cons.mp ((insB_perm x ys).mem_iff.mp hz) with e | e
      · rw [e]; exact o.asym y x hx
      · exact hc.1 z e
    · rename_i hx
      have hx : lt y x = false := by simpa using hx
      refine List.pairwise_cons.mpr ⟨fun z hz => ?_, h⟩
      rcases List.mem_cons.mp hz with e | e
      · rw [e]; exact hx
      · exact o.tr x y z hx (hc.1 z e)
theorem sortB_sorted (o : Ord lt) : ∀ l : List α, (sortB lt l).Pairwise (fun a b => lt b a = false)
  | [] => List.Pairwise.nil
  | x :: xs => insB_sorted o x _ (sortB_sorted o xs)
/-- what is sorted and has the same things is the sort -/
theorem sortB_eq (o : Ord lt) {l m : List α} (h : l.Perm m) (hm : m.Pairwise (fun a b => lt b a = false)) : sortB lt l = m :=
  List.Perm.eq_of_pairwise (le := fun a b => lt b a = false) (fun a b _ _ h1 h2 => o.tot a b h2 h1) (sortB_sorted o l) hm ((sortB_perm l).trans h)
end
theorem ord_pLt : Ord pLt where
  asym := fun ⟨a, b⟩ ⟨c, d⟩ h => by
    simp only [pLt, Bool.or_eq_true, Bool.and_eq_true, decide_eq_true_eq, Bool.or_eq_false_iff, Bool.and_eq_false_iff, decide_eq_false_iff_not] at h ⊢
    omega
  tr := fun ⟨a, b⟩ ⟨c, d⟩ ⟨e, f⟩ h1 h2 => by
    simp only [pLt, Bool.or_eq_false_iff, Bool.and_eq_false_iff, decide_eq_false_iff_not] at h1 h2 ⊢
    omega
  tot := fun ⟨a, b⟩ ⟨c, d⟩ h1 h2 => by
    simp only [pLt, Bool.or_eq_false_iff, Bool.and_eq_false_iff, decide_eq_false_iff_not, Prod.mk.injEq] at h1 h2 ⊢
    omega
theorem perm_of_sub {α : Type} [DecidableEq α] : ∀ {l m : List α}, l.Nodup → (∀ x ∈ l, x ∈ m) → m.length ≤ l.length → l.Perm m
  | [], m, _, _, h => by
    have : m = [] := List.length_eq_zero_iff.mp (by simpa using h)
    rw [this]
  | a :: t, m, hn, hs, h => by
    have ha := hs a List.mem_cons_self
    have hc := List.nodup_cons.mp hn
    have h2 := List.length_erase_of_mem ha
    have hl := List.length_pos_of_mem ha
    refine (List.Perm.cons a (perm_of_sub hc.2 (fun x hx => ?_) ?_)).trans (List.perm_cons_erase ha).symm
    · have hne : x ≠ a := fun e => hc.1 (e ▸ hx)
      exact (List.mem_erase_of_ne hne).mpr (hs x (List.mem_cons_of_mem _ hx))
    · simp at h; omega
theorem runT_flat {α β σ ρ : Type} (step : β → σ → σ ⊕ ρ) (f : α → List β) : ∀ (xs : List α) (w : σ), runT (fun x w => runT step (f x) w) xs w = runT step (xs.flatMap f) w
  | [], w => rfl
  | x :: xs, w => by
    have app : ∀ (ys zs : List β) (w : σ), runT step (ys ++ zs) w = match runT step ys w with | .inl w' => runT step zs w' | .inr r => .inr r := fun ys => by
      induction ys with
      | nil => intro zs w; rfl
      | cons y ys ih =>
        intro zs w
        simp only [List.cons_append, runT]
        cases step y w with
        | inl w' => exact ih zs w'
        | inr r => rfl
    simp only [runT, List.flatMap_cons, app]
    cases runT step (f x) w with
    | inl w' => exact runT_flat step f xs w'
    | inr r => rfl
/-! whole numbers in a row -/
def ivl (lo : Int) (n : Nat) : List Int := (List.range n).map fun (i : Nat) => lo + (i : Int)
theorem rng_ivl (lo : Int) (n : Nat) : rng lo n = (ivl lo n).map D.int := by simp [rng, ivl]
theorem mem_ivl {lo x : Int} {n : Nat} : x ∈ ivl lo n ↔ lo ≤ x ∧ x < lo + n := by
  simp only [ivl, List.mem_map, List.mem_range]
  constructor
  · rintro ⟨i, h, rfl⟩; omega
  · intro h; exact ⟨(x - lo).toNat, by omega, by omega⟩
theorem ivl_len {lo : Int} {n : Nat} : (ivl lo n).length = n := by simp [ivl]
theorem ivl_lt (lo : Int) (n : Nat) : (ivl lo n).Pairwise (· < ·) := by
  unfold ivl
  rw [List.pairwise_map]
  exact List.Pairwise.imp (fun h => by omega) List.pairwise_lt_range
theorem ivl_add (lo d : Int) (n : Nat) : (ivl lo n).map (d + ·) = ivl (d + lo) n := by
  simp [ivl, Function.comp_def, Int.add_assoc]
end Law

set_option Elab.async false
set_option linter.all false
set_option autoImplicit false
set_option maxRecDepth 100000
set_option maxHeartbeats 400000
namespace Law
open PySem PySem.Spec PyProof.Rows EV
/-! ### more for the second layer -/
theorem small_of {i : Int} (h1 : -1000 ≤ i) (h2 : i ≤ 1000) : small62 i = true := by
  unfold small62
  rw [Bool.and_eq_true]
  refine ⟨decide_eq_true ?_, decide_eq_true ?_⟩
  · have : (-(2 ^ 62) : Int) = -4611686018427387904 := by decide
    omega
  · have : ((2 : Int) ^ 62) = 4611686018427387904 := by decide
    omega
theorem lt_int (i j : Int) (M : Mem) : dLt (.int i) (.int j) M = .ok (.bl (decide (i < j))) M := by simp [dLt]
theorem for_rel {α σ : Type} {g : PGt} {body : PSx} {enc : α → D} (S : σ → PSl → Prop) (step : σ → α → σ) (I : Nat → σ → Prop) : ∀ (xs : List α) (w : σ) (ps : PSl), S w ps → I xs.length w →
    (∀ x ∈ xs, ∀ n w ps, S w ps → I (n + 1) w → ∃ ps1 ps2, g (enc x) ps = some ps1 ∧ body ps1 = .nx ps2 ∧ S (step w x) ps2 ∧ I n (step w x)) → ∃ ps', forP g body (xs.map enc) ps = .nx ps' ∧ S (xs.foldl step w) ps'
  | [], w, ps, hs, _, _ => ⟨ps, rfl, hs⟩
  | x :: xs, w, ps, hs, hw, h => by
    obtain ⟨ps1, ps2, h1, h2, h3, h4⟩ := h x List.mem_cons_self xs.length w ps hs hw
    obtain ⟨ps', h5, h6⟩ := for_rel S step I xs (step w x) ps2 h3 h4 fun y hy => h y (List.mem_cons_of_mem _ hy)
    exact ⟨ps', by simp only [List.map_cons, forP, h1, h2, h5], h6⟩
theorem r1_v {p : PX} {ps : PSl} {j : Int} (h : p ps = some (.v (.int j), ps)) (h1 : -1000 ≤ j) (h2 : j ≤ 1000) : pR1 (qCons p (qNil)) ps = some (((ivl 0 j.toNat).map D.int, none), ps) := by
  simp only [pR1, qCons, qNil, h, small_of h1 h2, if_true, rng_ivl]
def Jk (x : Option PS) : Prop := x = none ∨ ∃ d, x = some (.v d)
theorem Jk.v (d : D) : Jk (some (.v d)) := .inr ⟨d, rfl⟩
theorem pCall_v {pf : PFn} {q : PAx} {ps : PSl} {ds : List D} {r : D} {fin : PSl} (hq : q ps = some (ds.map .v, ps)) (hf : pf (ds.map .v) = some (r, fin)) : pCall pf q ps = some (.v r, ps) := by
  have h1 : ∀ l : List D, mkArgs ps (l.map .v) = some (l.map .v) := fun l => by
    induction l with
    | nil => rfl
    | cons a l ih => simp only [List.map_cons, mkArgs, ih]
  have h2 : ∀ (l : List D) (fin : PSl), putBack (l.map .v) fin ps = some ps := fun l => by
    induction l with
    | nil => intro fin; rfl
    | cons a l ih => intro fin; simp only [List.map_cons, putBack, ih]
  simp only [pCall, hq, h1, hf, h2]
theorem roll_at {ps : PSl} {i : Nat} {a b c m : Int} {p : PX} (h0 : gp ps i = some (.o false (.lst [.int a, .int b, .int c]))) (hp : p ps = some (.v (.int m), ps)) (hm : 0 < m) (hm2 : m < 1073741824) :
    ∃ r a' b' c', 0 ≤ r ∧ r < m ∧ pCall pf__law_roll (qCons (pVar i) (qCons p (qNil))) ps = some (.v (.int r), ps.set i (some (.o false (.lst [.int a', .int b', .int c'])))) := by
  obtain ⟨r, a', b', c', h1, h2, h3⟩ := rollP a b c m hm hm2
  refine ⟨r, a', b', c', h1, h2, ?_⟩
  simp only [pCall, qCons, qNil, pVar, h0, hp, mkArgs, List.any_cons, List.any_nil, isS, Bool.or_self, Bool.false_eq_true, if_false, h3, putBack, gp, List.tail_cons]
theorem rSeq_assoc (s t u : PSx) (ps : PSl) : rSeq (rSeq s t) u ps = rSeq s (rSeq t u) ps := by
  simp only [rSeq]
  cases s ps <;> rfl
def dc (a b c : Int) : Option PS := some (.o false (.lst [.int a, .int b, .int c]))
theorem le_int (i j : Int) (M : Mem) : dLe (.int i) (.int j) M = .ok (.bl (decide (i ≤ j))) M := by simp [dLe]
theorem ge_int (i j : Int) (M : Mem) : dGe (.int i) (.int j) M = .ok (.bl (decide (j ≤ i))) M := by simp [dGe]
theorem sub_int (i j : Int) (M : Mem) : dSub (.int i) (.int j) M = .ok (.int (i - j)) M := rfl
theorem ne_int (i j : Int) (M : Mem) : dNe (.int i) (.int j) M = .ok (.bl (!(i == j))) M := by simp [dNe, look, EV.plain, dep, deq]
theorem r2_v {p q : PX} {ps : PSl} {i j : Int} (h : p ps = some (.v (.int i), ps)) (h' : q ps = some (.v (.int j), ps)) (h1 : -1000 ≤ i) (h2 : i ≤ 1000) (h3 : -1000 ≤ j) (h4 : j ≤ 1000) : pR2 (qCons p (qCons q (qNil))) ps = some (((ivl i (j - i).toNat).map D.int, none), ps) := by
  simp only [pR2, qCons, qNil, h, h', small_of h1 h2, small_of h3 h4, Bool.and_self, if_true, rng_ivl]
theorem pOpX_v {g : D → D → Mem → Res D} {p q : PX} {ps : PSl} {x y r : D} {M : Mem} (h1 : p ps = some (.v x, ps)) (h2 : q ps = some (.v y, ps)) (h3 : g x y M0 = .ok r M) : pOpX g p q ps = some (.v r, ps) := by simp [pOpX, h1, h2, dv, h3]
theorem qC_v {p : PX} {q : PAx} {ps : PSl} {x : PV} {xs : List PV} (h1 : p ps = some (x, ps)) (h2 : q ps = some (xs, ps)) : qCons p q ps = some (x :: xs, ps) := by simp [qCons, h1, h2]
theorem qN_v {ps : PSl} : qNil ps = some ([], ps) := rfl
theorem pTup_v {q : PAx} {ps : PSl} {xs : List PV} {ds : List D} (h1 : q ps = some (xs, ps)) (h2 : allV xs = some ds) : pTup q ps = some (.v (.tup ds), ps) := by simp [pTup, h1, h2]
theorem pCb_v {g : List D → Mem → Res D} {q : PAx} {ps : PSl} {xs : List PV} {r : D} {M : Mem} (h1 : q ps = some (xs, ps)) (h2 : g (xs.map (dv ps)) M0 = .ok r M) : pCb g q ps = some (.v r, ps) := by simp [pCb, h1, h2]
theorem pFn_v {N n : Nat} {pn : List Nat} {p : PSx} {args : List PS} {d : D} {ps : PSl} (h1 : Nat.beq args.length n = true) (h2 : okA pn 0 args = true) (h3 : p (args.map some ++ List.replicate (N - args.length) none) = .rt (.v d) ps) : pFn N n pn p args = some (d, ps.take args.length) := by
  simp only [pFn, h1, h2, Bool.and_self, if_true, h3]
theorem pFn_n {N n : Nat} {pn : List Nat} {p : PSx} {args : List PS} {ps : PSl} (h1 : Nat.beq args.length n = true) (h2 : okA pn 0 args = true) (h3 : p (args.map some ++ List.replicate (N - args.length) none) = .nx ps) : pFn N n pn p args = some (.non, ps.take args.length) := by
  simp only [pFn, h1, h2, Bool.and_self, if_true, h3]
end Law

set_option Elab.async false
set_option linter.all false
set_option autoImplicit false
set_option maxRecDepth 100000
set_option maxHeartbeats 4000000
namespace Law
open PySem PySem.Spec PyProof.Rows L2 EV
/-! ### what the defs compute -/
def body_is_whole : Sx := sRet (eAnd (eIsi "int" (eVar 0)) (eAnd (eNot (eIsi "bool" (eVar 0))) (eChain dLe dLe (eVar 1) (eVar 0) (eVar 2))))
def den_is_whole : Fn := mkFn 3 true body_is_whole
def body_is_shape : Sx := sSeq (sIf (xOr (xNot (xB (eIsi "tuple" (eVar 0)))) (xB (eOp dGt (eCb bLen (aCons (eVar 0) (aNil))) (eC (.int 400))))) (sRet (eC (.bl false))) (sNil)) (sSeq (sFor (iEx (eVar 0)) (gN 1) (sIf (xOr (xNot (xB (eIsi "tuple" (eVar 1)))) (xOr (xB (eOp dNe (eCb bLen (aCons (eVar 1) (aNil))) (eC (.int 2)))) (xNot (xB (eGb false [3] (iEx (eVar 1)) (gN 3) (xYes) (eCall den_is_whole (aCons (eVar 3) (aCons (eUn dNeg (eC (.int 1000))) (aCons (eC (.int 1000)) (aNil)))))))))) (sRet (eC (.bl false))) (sNil))) (sRet (eGb false [2] (iR1 (aCons (eOp dSub (eCb bLen (aCons (eVar 0) (aNil))) (eC (.int 1))) (aNil))) (gN 2) (xYes) (eOp dLt (eOp dIx (eVar 0) (eVar 2)) (eOp dIx (eVar 0) (eOp dAdd (eVar 2) (eC (.int 1))))))))
def den_is_shape : Fn := mkFn 4 true body_is_shape
def body_check_shape : Sx := sIf (xNot (xB (eCall den_is_shape (aCons (eVar 0) (aNil))))) (sBad) (sNil)
def den_check_shape : Fn := mkFn 1 true body_check_shape
def body_how_many : Sx := sSeq (sEx (eCall den_check_shape (aCons (eVar 0) (aNil)))) (sSeq (sSet 1 (eDct1 false (eTup (aNil)) (eC (.int 1)))) (sSeq (sFor (iEx (eVar 0)) (gN 2) (sSeq (sSet 3 (eDct0 true)) (sSeq (sTg (gT 2 (gsC (gN 5) (gsC (gN 6) (gsN)))) (eVar 2)) (sSeq (sPar [7, 8] (aCons (eTup (aCons (eVar 5) (aCons (eOp dAdd (eVar 6) (eC (.int 1))) (aNil)))) (aCons (eTup (aCons (eOp dAdd (eVar 5) (eC (.int 1))) (aCons (eVar 6) (aNil)))) (aNil)))) (sSeq (sFor (iEx (eVar 1)) (gN 4) (sSeq (sIf (xB (eOp dIn (eVar 2) (eVar 4))) (sSet 10 (eLst false (aCons (eCb bTuple (aCons (eLc false [13] (iEx (eVar 4)) (gN 13) (xB (eOp dNe (eVar 13) (eVar 2))) (eVar 13)) (aNil))) (aNil)))) (sSeq (sSet 11 (eLc false [12] (iEx (eTup (aCons (eVar 7) (aCons (eVar 8) (aNil))))) (gN 12) (xAnd (xB (eOp dIn (eVar 12) (eVar 0))) (xB (eOp dNotIn (eVar 12) (eVar 4)))) (eVar 12))) (sSet 10 (eLc false [12] (iEx (eVar 11)) (gN 12) (xYes) (eCb bTuple (aCons (eCb (bSorted false tys0) (aCons (eOp dAdd (eVar 4) (eTup (aCons (eVar 12) (aNil)))) (aNil))) (aNil))))))) (sFor (iEx (eVar 10)) (gN 9) (sSub (eVar 3) (eVar 9) (eOp dAdd (eMt "dict" mGet (eVar 3) (aCons (eVar 9) (aCons (eC (.int 0)) (aNil)))) (eOp dIx (eVar 1) (eVar 4))))))) (sSeq (sSet 1 (eVar 3)) (sIf (xB (eOp dGt (eCb bLen (aCons (eVar 1) (aNil))) (eC (.int 20000)))) (sBad) (sNil)))))))) (sRet (eMt "dict" mGet (eVar 1) (aCons (eTup (aNil)) (aCons (eC (.int 0)) (aNil)))))))
def den_how_many : Fn := mkFn 14 true body_how_many
def body_block : Sx := sRet (eCb bTuple (aCons (eLc2 false [2, 3] (iR1 (aCons (eVar 0) (aNil))) (gN 2) (xYes) [3] (iR1 (aCons (eVar 1) (aNil))) (gN 3) (xYes) (eTup (aCons (eVar 2) (aCons (eVar 3) (aNil))))) (aNil)))
def den_block : Fn := mkFn 4 true body_block
def body_shape_of : Sx := sSeq (sSet 1 (eDc false [2] (iEx (eVar 0)) (gN 2) (xYes) (eVar 2) (eC (.bl true)))) (sRet (eCb bTuple (aCons (eCb (bSorted false tys0) (aCons (eVar 1) (aNil))) (aNil))))
def den_shape_of : Fn := mkFn 3 true body_shape_of
def body_diamond : Sx := sSeq (sIf (xNot (xB (eCall den_is_whole (aCons (eVar 0) (aCons (eC (.int 0)) (aCons (eC (.int 12)) (aNil))))))) (sBad) (sNil)) (sSeq (sSet 1 (eLst true (aNil))) (sSeq (sFor (iR1 (aCons (eOp dMulI (eC (.int 2)) (eVar 0)) (aNil))) (gN 2) (sSeq (sSet 3 (eOp dMulI (eC (.int 2)) (eCb bMin (aCons (eOp dAdd (eVar 2) (eC (.int 1))) (aCons (eOp dSub (eOp dMulI (eC (.int 2)) (eVar 0)) (eVar 2)) (aNil)))))) (sSeq (sSet 4 (eOp dSub (eVar 0) (eOp dDiv (eVar 3) (eC (.int 2))))) (sEx (eMt "list" mExtend (eVar 1) (aCons (eLc false [5] (iR1 (aCons (eVar 3) (aNil))) (gN 5) (xYes) (eTup (aCons (eVar 2) (aCons (eOp dAdd (eVar 4) (eVar 5)) (aNil))))) (aNil))))))) (sRet (eCall den_shape_of (aCons (eVar 1) (aNil))))))
def den_diamond : Fn := mkFn 6 true body_diamond
def body_moved : Sx := sRet (eCb bTuple (aCons (eLc false [3, 4] (iEx (eVar 0)) (gT 2 (gsC (gN 3) (gsC (gN 4) (gsN)))) (xYes) (eTup (aCons (eOp dAdd (eVar 3) (eVar 1)) (aCons (eOp dAdd (eVar 4) (eVar 2)) (aNil))))) (aNil)))
def den_moved : Fn := mkFn 5 true body_moved
def body_is_white : Sx := sRet (eOp dEq (eOp dMod (eOp dAdd (eOp dIx (eVar 0) (eC (.int 0))) (eOp dIx (eVar 0) (eC (.int 1)))) (eC (.int 2))) (eC (.int 0)))
def den_is_white : Fn := mkFn 1 true body_is_white
def body_beside : Sx := sRet (eLc false [1, 2] (iEx (eC (.tup [(.tup [(.int (-1)), (.int 0)]), (.tup [(.int 0), (.int (-1))]), (.tup [(.int 0), (.int 1)]), (.tup [(.int 1), (.int 0)])]))) (gT 2 (gsC (gN 1) (gsC (gN 2) (gsN)))) (xYes) (eTup (aCons (eOp dAdd (eOp dIx (eVar 0) (eC (.int 0))) (eVar 1)) (aCons (eOp dAdd (eOp dIx (eVar 0) (eC (.int 1))) (eVar 2)) (aNil)))))
def den_beside : Fn := mkFn 3 true body_beside
def body_near : Sx := sRet (eCb (bSorted false tys0) (aCons (eLc false [2] (iEx (eCall den_beside (aCons (eVar 1) (aNil)))) (gN 2) (xB (eOp dIn (eVar 2) (eVar 0))) (eVar 2)) (aNil)))
def den_near : Fn := mkFn 3 true body_near
def body_helped (me : Fn) : Sx := sSeq (sFor (iEx (eCall den_near (aCons (eVar 0) (aCons (eVar 1) (aNil))))) (gN 4) (sIf (xB (eOp dNotIn (eVar 4) (eVar 3))) (sSeq (sSub (eVar 3) (eVar 4) (eC (.bl true))) (sIf (xOr (xB (eOp dNotIn (eVar 4) (eVar 2))) (xB (eCall me (aCons (eVar 0) (aCons (eOp dIx (eVar 2) (eVar 4)) (aCons (eVar 2) (aCons (eVar 3) (aNil)))))))) (sSeq (sSub (eVar 2) (eVar 4) (eVar 1)) (sRet (eC (.bl true)))) (sNil))) (sNil))) (sRet (eC (.bl false)))
def rec_helped : Nat → Fn
  | 0 => fnBad
  | j + 1 => mkFn 5 true (body_helped (rec_helped j))
def den_helped : Fn := rec_helped 64
def body_most_pairs : Sx := sSeq (sEx (eCall den_check_shape (aCons (eVar 0) (aNil)))) (sSeq (sSet 1 (eDct0 true)) (sSeq (sFor (iEx (eVar 0)) (gN 2) (sIf (xB (eCall den_is_white (aCons (eVar 2) (aNil)))) (sEx (eCall den_helped (aCons (eVar 0) (aCons (eVar 2) (aCons (eVar 1) (aCons (eDct0 true) (aNil))))))) (sNil))) (sRet (eCb bTuple (aCons (eCb (bSorted false tys0) (aCons (eLc false [3] (iEx (eVar 1)) (gN 3) (xYes) (eCb bTuple (aCons (eCb (bSorted false tys0) (aCons (eLst false (aCons (eOp dIx (eVar 1) (eVar 3)) (aCons (eVar 3) (aNil)))) (aNil))) (aNil)))) (aNil))) (aNil))))))
def den_most_pairs : Fn := mkFn 4 true body_most_pairs
def body_can_be_laid : Sx := sRet (eOp dEq (eOp dMulI (eC (.int 2)) (eCb bLen (aCons (eCall den_most_pairs (aCons (eVar 0) (aNil))) (aNil)))) (eCb bLen (aCons (eVar 0) (aNil))))
def den_can_be_laid : Fn := mkFn 1 true body_can_be_laid
def body_law : Sx := sSeq (sFor (iEx (eCall den__law_rounds (aCons (eVar 0) (aCons (eC (.int 2)) (aNil))))) (gN 1) (sSeq (sSet 2 (eCall den__law_roll (aCons (eVar 1) (aCons (eC (.int 25)) (aNil))))) (sSeq (sSet 3 (eLst true (aCons (eC (.int 1)) (aCons (eC (.int 1)) (aNil))))) (sSeq (sFor (iR1 (aCons (eVar 2) (aNil))) (gN 4) (sEx (eMt "list" mAppend (eVar 3) (aCons (eOp dAdd (eOp dIx (eVar 3) (eUn dNeg (eC (.int 1)))) (eOp dIx (eVar 3) (eOp dSub (eCb bLen (aCons (eVar 3) (aNil))) (eC (.int 2))))) (aNil))))) (sSeq (sIf (xOr (xB (eOp dNe (eCall den_how_many (aCons (eCall den_block (aCons (eVar 2) (aCons (eC (.int 2)) (aNil)))) (aNil))) (eOp dIx (eVar 3) (eVar 2)))) (xB (eOp dNe (eCall den_how_many (aCons (eCall den_block (aCons (eVar 2) (aCons (eC (.int 1)) (aNil)))) (aNil))) (eOp dAdd (eOp dSub (eC (.int 1)) (eVar 2)) (eOp dMulI (eOp dDiv (eVar 2) (eC (.int 2))) (eC (.int 2))))))) (sRet (eC (.bl false))) (sNil)) (sSeq (sSet 5 (eCall den__law_roll (aCons (eVar 1) (aCons (eC (.int 4)) (aNil))))) (sSeq (sSet 6 (eC (.int 1))) (sSeq (sFor (iR1 (aCons (eOp dDiv (eOp dMulI (eVar 5) (eOp dAdd (eVar 5) (eC (.int 1)))) (eC (.int 2))) (aNil))) (gN 4) (sSet 6 (eOp dMulI (eVar 6) (eC (.int 2))))) (sSeq (sIf (xB (eOp dNe (eCall den_how_many (aCons (eCall den_diamond (aCons (eVar 5) (aNil))) (aNil))) (eVar 6))) (sRet (eC (.bl false))) (sNil)) (sSeq (sPar [8, 9] (aCons (eOp dAdd (eC (.int 1)) (eCall den__law_roll (aCons (eVar 1) (aCons (eC (.int 4)) (aNil))))) (aCons (eOp dAdd (eC (.int 1)) (eCall den__law_roll (aCons (eVar 1) (aCons (eC (.int 5)) (aNil))))) (aNil)))) (sSeq (sSet 7 (eCall den_how_many (aCons (eCall den_block (aCons (eVar 8) (aCons (eVar 9) (aNil)))) (aNil)))) (sSeq (sIf (xOr (xB (eOp dNe (eCall den_how_many (aCons (eCall den_block (aCons (eVar 9) (aCons (eVar 8) (aNil)))) (aNil))) (eVar 7))) (xB (eOp dNe (eCall den_how_many (aCons (eOp dAdd (eCall den_block (aCons (eVar 8) (aCons (eVar 9) (aNil)))) (eCall den_moved (aCons (eCall den_diamond (aCons (eC (.int 1)) (aNil))) (aCons (eC (.int 60)) (aCons (eC (.int 60)) (aNil)))))) (aNil))) (eOp dMulI (eC (.int 2)) (eVar 7))))) (sRet (eC (.bl false))) (sNil)) (sIf (xOr (xB (eOp dNe (eCall den_can_be_laid (aCons (eCall den_block (aCons (eVar 8) (aCons (eVar 9) (aNil)))) (aNil))) (eOp dEq (eOp dMulI (eOp dDiv (eOp dMulI (eVar 8) (eVar 9)) (eC (.int 2))) (eC (.int 2))) (eOp dMulI (eVar 8) (eVar 9))))) (xB (eOp dNe (eCb bLen (aCons (eCall den_most_pairs (aCons (eCall den_block (aCons (eVar 8) (aCons (eVar 9) (aNil)))) (aNil))) (aNil))) (eOp dDiv (eOp dMulI (eVar 8) (eVar 9)) (eC (.int 2)))))) (sRet (eC (.bl false))) (sNil)))))))))))))) (sRet (eC (.bl true)))
def den_law : Fn := mkFn 10 true body_law

end Law

set_option Elab.async false
set_option linter.all false
set_option autoImplicit false
set_option maxRecDepth 100000
set_option maxHeartbeats 4000000
namespace Law
open PySem PySem.Spec PyProof.Rows EV
/-! ### the second layer -/
def pb_is_whole : PSx := rRet (pAnd (pIsi "int" (pVar 0)) (pAnd (pNot (pIsi "bool" (pVar 0))) (pChain dLe dLe (pVar 1) (pVar 0) (pVar 2))))
def pf_is_whole : PFn := pFn 3 3 [0, 1, 2] pb_is_whole
theorem jf_is_whole : JF den_is_whole pf_is_whole := jf_fn (by decide) (js_ret (je_and (je_isi (je_var 0 (by decide))) (je_and (je_not (je_isi (je_var 0 (by decide)))) (je_chain or_dLe or_dLe (je_var 1 (by decide)) (je_var 0 (by decide)) (je_var 2 (by decide))))))
def pb_is_shape : PSx := rSeq (rIf (tOr (tNot (tB (pIsi "tuple" (pVar 0)))) (tB (pOp dGt (pCb bLen (qCons (pVar 0) (qNil))) (pC (.int 400))))) (rRet (pC (.bl false))) (rNil)) (rSeq (rFor (pEach (pVar 0)) (hN 1) (rWipe [1] (rIf (tOr (tNot (tB (pIsi "tuple" (pVar 1)))) (tOr (tB (pOp dNe (pCb bLen (qCons (pVar 1) (qNil))) (pC (.int 2)))) (tNot (tB (pGb false [3] (pEach (pVar 1)) (hN 3) (tYes) (pCall pf_is_whole (qCons (pVar 3) (qCons (pUn dNeg (pC (.int 1000))) (qCons (pC (.int 1000)) (qNil)))))))))) (rRet (pC (.bl false))) (rNil)))) (rRet (pGb false [2] (pR1 (qCons (pOp dSub (pCb bLen (qCons (pVar 0) (qNil))) (pC (.int 1))) (qNil))) (hN 2) (tYes) (pOp dLt (pOpX dIx (pVar 0) (pVar 2)) (pOpX dIx (pVar 0) (pOp dAdd (pVar 2) (pC (.int 1))))))))
def pf_is_shape : PFn := pFn 4 1 [0] pb_is_shape
theorem jf_is_shape : JF den_is_shape pf_is_shape := jf_fn (by decide) (js_seq (js_if (jt_or (jt_not (jt_b (je_isi (je_var 0 (by decide))))) (jt_b (je_op or_dGt (je_cb cr_len (ja_cons (je_var 0 (by decide)) (ja_nil))) (je_c rfl)))) (js_ret (je_c rfl)) (js_nil)) (js_seq (js_for (by decide) (ji_ex (je_var 0 (by decide))) (jg_n 1 (by decide)) (js_wipe [1] (by decide) (js_if (jt_or (jt_not (jt_b (je_isi (je_var 1 (by decide))))) (jt_or (jt_b (je_op or_dNe (je_cb cr_len (ja_cons (je_var 1 (by decide)) (ja_nil))) (je_c rfl))) (jt_not (jt_b (je_gb false (by decide) (ji_ex (je_var 1 (by decide))) (jg_n 3 (by decide)) (jt_yes) (je_call jf_is_whole (ja_cons (je_var 3 (by decide)) (ja_cons (je_un ur_dNeg (je_c rfl)) (ja_cons (je_c rfl) (ja_nil)))))))))) (js_ret (je_c rfl)) (js_nil)))) (js_ret (je_gb false (by decide) (ji_r1 (ja_cons (je_op or_dSub (je_cb cr_len (ja_cons (je_var 0 (by decide)) (ja_nil))) (je_c rfl)) (ja_nil))) (jg_n 2 (by decide)) (jt_yes) (je_op or_dLt (je_opX ox_dIx (je_var 0 (by decide)) (je_var 2 (by decide))) (je_opX ox_dIx (je_var 0 (by decide)) (je_op or_dAdd (je_var 2 (by decide)) (je_c rfl))))))))
def pb_check_shape : PSx := rIf (tNot (tB (pCall pf_is_shape (qCons (pVar 0) (qNil))))) (rBad) (rNil)
def pf_check_shape : PFn := pFn 1 1 [0] pb_check_shape
theorem jf_check_shape : JF den_check_shape pf_check_shape := jf_fn (by decide) (js_if (jt_not (jt_b (je_call jf_is_shape (ja_cons (je_var 0 (by decide)) (ja_nil))))) (js_bad) (js_nil))
def pb_how_many : PSx := rSeq (rEx (pCall pf_check_shape (qCons (pVar 0) (qNil)))) (rSeq (rSet [0] 1 (pDct1 (pTup (qNil)) (pC (.int 1)))) (rSeq (rFor (pEach (pVar 0)) (hN 2) (rWipe [2, 3, 4, 5, 6, 7, 8, 9] (rSeq (rCut (rSet [0] 3 (pDct0N))) (rSeq (rTg (hT 2 (hsC (hN 5) (hsC (hN 6) (hsN)))) (pVar 2)) (rSeq (rPar [0] [7, 8] (qCons (pTup (qCons (pVar 5) (qCons (pOp dAdd (pVar 6) (pC (.int 1))) (qNil)))) (qCons (pTup (qCons (pOp dAdd (pVar 5) (pC (.int 1))) (qCons (pVar 6) (qNil)))) (qNil)))) (rSeq (rFor (pEach (pVar 1)) (hN 4) (rWipe [4, 9] (rSeq (rIf (tB (pOpI dIn (pVar 2) (pVar 4))) (rSet [0] 10 (pLst (qCons (pCb bTuple (qCons (pLc [13] (pEach (pVar 4)) (hN 13) (tB (pOp dNe (pVar 13) (pVar 2))) (pVar 13)) (qNil))) (qNil)))) (rSeq (rSet [0] 11 (pLc [12] (pEach (pTup (qCons (pVar 7) (qCons (pVar 8) (qNil))))) (hN 12) (tAnd (tB (pOpI dIn (pVar 12) (pVar 0))) (tB (pOpI dNotIn (pVar 12) (pVar 4)))) (pVar 12))) (rSet [0] 10 (pLc [12] (pEach (pVar 11)) (hN 12) (tYes) (pCb bTuple (qCons (pCb (bSorted false tys0) (qCons (pOp dAdd (pVar 4) (pTup (qCons (pVar 12) (qNil)))) (qNil))) (qNil))))))) (rFor (pEach (pVar 10)) (hN 9) (rWipe [9] (rSub (pVar 3) (pVar 9) (pOp dAdd (pGet (pVar 3) (qCons (pVar 9) (qCons (pC (.int 0)) (qNil)))) (pOpX dIx (pVar 1) (pVar 4))))))))) (rSeq (rSet [0] 1 (pVar 3)) (rIf (tB (pOp dGt (pCb bLen (qCons (pVar 1) (qNil))) (pC (.int 20000)))) (rBad) (rNil))))))))) (rRet (pGet (pVar 1) (qCons (pTup (qNil)) (qCons (pC (.int 0)) (qNil)))))))
def pf_how_many : PFn := pFn 14 1 [0] pb_how_many
theorem jf_how_many : JF den_how_many pf_how_many := jf_fn (by decide) (js_seq (js_ex (je_call jf_check_shape (ja_cons (je_var 0 (by decide)) (ja_nil)))) (js_seq (js_set 1 (by decide) (by decide) (je_dct1 (je_tup (ja_nil)) (je_c rfl))) (js_seq (js_for (by decide) (ji_ex (je_var 0 (by decide))) (jg_n 2 (by decide)) (js_wipe [2, 3, 4, 5, 6, 7, 8, 9] (by decide) (js_seq (js_cut (js_set 3 (by decide) (by decide) (je_dct0N))) (js_seq (js_tg (by decide) (je_var 2 (by decide)) (jg_t (jgs_c (jg_n 5 (by decide)) (jgs_c (jg_n 6 (by decide)) (jgs_n))))) (js_seq (js_par (by decide) (by decide) (ja_cons (je_tup (ja_cons (je_var 5 (by decide)) (ja_cons (je_op or_dAdd (je_var 6 (by decide)) (je_c rfl)) (ja_nil)))) (ja_cons (je_tup (ja_cons (je_op or_dAdd (je_var 5 (by decide)) (je_c rfl)) (ja_cons (je_var 6 (by decide)) (ja_nil)))) (ja_nil)))) (js_seq (js_for (by decide) (ji_ex (je_var 1 (by decide))) (jg_n 4 (by decide)) (js_wipe [4, 9] (by decide) (js_seq (js_if (jt_b (je_opI oi_dIn (je_var 2 (by decide)) (je_var 4 (by decide)))) (js_set 10 (by decide) (by decide) (je_lst (ja_cons (je_cb cr_tuple (ja_cons (je_lc (by decide) (ji_ex (je_var 4 (by decide))) (jg_n 13 (by decide)) (jt_b (je_op or_dNe (je_var 13 (by decide)) (je_var 2 (by decide)))) (je_var 13 (by decide))) (ja_nil))) (ja_nil)))) (js_seq (js_set 11 (by decide) (by decide) (je_lc (by decide) (ji_ex (je_tup (ja_cons (je_var 7 (by decide)) (ja_cons (je_var 8 (by decide)) (ja_nil))))) (jg_n 12 (by decide)) (jt_and (jt_b (je_opI oi_dIn (je_var 12 (by decide)) (je_var 0 (by decide)))) (jt_b (je_opI oi_dNotIn (je_var 12 (by decide)) (je_var 4 (by decide))))) (je_var 12 (by decide)))) (js_set 10 (by decide) (by decide) (je_lc (by decide) (ji_ex (je_var 11 (by decide))) (jg_n 12 (by decide)) (jt_yes) (je_cb cr_tuple (ja_cons (je_cb (cr_sorted tys0) (ja_cons (je_op or_dAdd (je_var 4 (by decide)) (je_tup (ja_cons (je_var 12 (by decide)) (ja_nil)))) (ja_nil))) (ja_nil))))))) (js_for (by decide) (ji_ex (je_var 10 (by decide))) (jg_n 9 (by decide)) (js_wipe [9] (by decide) (js_sub (je_var 3 (by decide)) (je_var 9 (by decide)) (je_op or_dAdd (je_get (je_var 3 (by decide)) (ja_cons (je_var 9 (by decide)) (ja_cons (je_c rfl) (ja_nil)))) (je_opX ox_dIx (je_var 1 (by decide)) (je_var 4 (by decide)))))))))) (js_seq (js_set 1 (by decide) (by decide) (je_var 3 (by decide))) (js_if (jt_b (je_op or_dGt (je_cb cr_len (ja_cons (je_var 1 (by decide)) (ja_nil))) (je_c rfl))) (js_bad) (js_nil))))))))) (js_ret (je_get (je_var 1 (by decide)) (ja_cons (je_tup (ja_nil)) (ja_cons (je_c rfl) (ja_nil))))))))
def pb_block : PSx := rRet (pCb bTuple (qCons (pLc2 [2, 3] (pR1 (qCons (pVar 0) (qNil))) (hN 2) (tYes) [3] (pR1 (qCons (pVar 1) (qNil))) (hN 3) (tYes) (pTup (qCons (pVar 2) (qCons (pVar 3) (qNil))))) (qNil)))
def pf_block : PFn := pFn 4 2 [0, 1] pb_block
theorem jf_block : JF den_block pf_block := jf_fn (by decide) (js_ret (je_cb cr_tuple (ja_cons (je_lc2 (by decide) (by decide) (by decide) (ji_r1 (ja_cons (je_var 0 (by decide)) (ja_nil))) (jg_n 2 (by decide)) (jt_yes) (ji_r1 (ja_cons (je_var 1 (by decide)) (ja_nil))) (jg_n 3 (by decide)) (jt_yes) (je_tup (ja_cons (je_var 2 (by decide)) (ja_cons (je_var 3 (by decide)) (ja_nil))))) (ja_nil))))
def pb_shape_of : PSx := rSeq (rSet [0] 1 (pDc [2] (pEach (pVar 0)) (hN 2) (tYes) (pVar 2) (pC (.bl true)))) (rRet (pCb bTuple (qCons (pCb (bSorted false tys0) (qCons (pVar 1) (qNil))) (qNil))))
def pf_shape_of : PFn := pFn 3 1 [0] pb_shape_of
theorem jf_shape_of : JF den_shape_of pf_shape_of := jf_fn (by decide) (js_seq (js_set 1 (by decide) (by decide) (je_dc (by decide) (ji_ex (je_var 0 (by decide))) (jg_n 2 (by decide)) (jt_yes) (je_var 2 (by decide)) (je_c rfl))) (js_ret (je_cb cr_tuple (ja_cons (je_cb (cr_sorted tys0) (ja_cons (je_var 1 (by decide)) (ja_nil))) (ja_nil)))))
def pb_diamond : PSx := rSeq (rIf (tNot (tB (pCall pf_is_whole (qCons (pVar 0) (qCons (pC (.int 0)) (qCons (pC (.int 12)) (qNil))))))) (rBad) (rNil)) (rSeq (rCut (rSet [0] 1 (pLstN (qNil)))) (rSeq (rFor (pR1 (qCons (pOp dMulI (pC (.int 2)) (pVar 0)) (qNil))) (hN 2) (rWipe [2, 3, 4] (rSeq (rSet [0] 3 (pOp dMulI (pC (.int 2)) (pCb bMin (qCons (pOp dAdd (pVar 2) (pC (.int 1))) (qCons (pOp dSub (pOp dMulI (pC (.int 2)) (pVar 0)) (pVar 2)) (qNil)))))) (rSeq (rSet [0] 4 (pOp dSub (pVar 0) (pOp dDiv (pVar 3) (pC (.int 2))))) (rEx (pMwLr wExtend (pVar 1) (qCons (pLc [5] (pR1 (qCons (pVar 3) (qNil))) (hN 5) (tYes) (pTup (qCons (pVar 2) (qCons (pOp dAdd (pVar 4) (pVar 5)) (qNil))))) (qNil)))))))) (rRet (pCall pf_shape_of (qCons (pVar 1) (qNil))))))
def pf_diamond : PFn := pFn 6 1 [0] pb_diamond
theorem jf_diamond : JF den_diamond pf_diamond := jf_fn (by decide) (js_seq (js_if (jt_not (jt_b (je_call jf_is_whole (ja_cons (je_var 0 (by decide)) (ja_cons (je_c rfl) (ja_cons (je_c rfl) (ja_nil))))))) (js_bad) (js_nil)) (js_seq (js_cut (js_set 1 (by decide) (by decide) (je_lstN (ja_nil)))) (js_seq (js_for (by decide) (ji_r1 (ja_cons (je_op or_dMulI (je_c rfl) (je_var 0 (by decide))) (ja_nil))) (jg_n 2 (by decide)) (js_wipe [2, 3, 4] (by decide) (js_seq (js_set 3 (by decide) (by decide) (je_op or_dMulI (je_c rfl) (je_cb cr_min (ja_cons (je_op or_dAdd (je_var 2 (by decide)) (je_c rfl)) (ja_cons (je_op or_dSub (je_op or_dMulI (je_c rfl) (je_var 0 (by decide))) (je_var 2 (by decide))) (ja_nil)))))) (js_seq (js_set 4 (by decide) (by decide) (je_op or_dSub (je_var 0 (by decide)) (je_op or_dDiv (je_var 3 (by decide)) (je_c rfl)))) (js_ex (je_mwLr mw_extend (je_var 1 (by decide)) (ja_cons (je_lc (by decide) (ji_r1 (ja_cons (je_var 3 (by decide)) (ja_nil))) (jg_n 5 (by decide)) (jt_yes) (je_tup (ja_cons (je_var 2 (by decide)) (ja_cons (je_op or_dAdd (je_var 4 (by decide)) (je_var 5 (by decide))) (ja_nil))))) (ja_nil)))))))) (js_ret (je_call jf_shape_of (ja_cons (je_var 1 (by decide)) (ja_nil)))))))
def pb_moved : PSx := rRet (pCb bTuple (qCons (pLc [3, 4] (pEach (pVar 0)) (hT 2 (hsC (hN 3) (hsC (hN 4) (hsN)))) (tYes) (pTup (qCons (pOp dAdd (pVar 3) (pVar 1)) (qCons (pOp dAdd (pVar 4) (pVar 2)) (qNil))))) (qNil)))
def pf_moved : PFn := pFn 5 3 [0, 1, 2] pb_moved
theorem jf_moved : JF den_moved pf_moved := jf_fn (by decide) (js_ret (je_cb cr_tuple (ja_cons (je_lc (by decide) (ji_ex (je_var 0 (by decide))) (jg_t (jgs_c (jg_n 3 (by decide)) (jgs_c (jg_n 4 (by decide)) (jgs_n)))) (jt_yes) (je_tup (ja_cons (je_op or_dAdd (je_var 3 (by decide)) (je_var 1 (by decide))) (ja_cons (je_op or_dAdd (je_var 4 (by decide)) (je_var 2 (by decide))) (ja_nil))))) (ja_nil))))
def pb_is_white : PSx := rRet (pOp dEq (pOp dMod (pOp dAdd (pOpX dIx (pVar 0) (pC (.int 0))) (pOpX dIx (pVar 0) (pC (.int 1)))) (pC (.int 2))) (pC (.int 0)))
def pf_is_white : PFn := pFn 1 1 [0] pb_is_white
theorem jf_is_white : JF den_is_white pf_is_white := jf_fn (by decide) (js_ret (je_op or_dEq (je_op or_dMod (je_op or_dAdd (je_opX ox_dIx (je_var 0 (by decide)) (je_c rfl)) (je_opX ox_dIx (je_var 0 (by decide)) (je_c rfl))) (je_c rfl)) (je_c rfl)))
def pb_beside : PSx := rRet (pLc [1, 2] (pEach (pC (.tup [(.tup [(.int (-1)), (.int 0)]), (.tup [(.int 0), (.int (-1))]), (.tup [(.int 0), (.int 1)]), (.tup [(.int 1), (.int 0)])]))) (hT 2 (hsC (hN 1) (hsC (hN 2) (hsN)))) (tYes) (pTup (qCons (pOp dAdd (pOpX dIx (pVar 0) (pC (.int 0))) (pVar 1)) (qCons (pOp dAdd (pOpX dIx (pVar 0) (pC (.int 1))) (pVar 2)) (qNil)))))
def pf_beside : PFn := pFn 3 1 [0] pb_beside
theorem jf_beside : JF den_beside pf_beside := jf_fn (by decide) (js_ret (je_lc (by decide) (ji_ex (je_c rfl)) (jg_t (jgs_c (jg_n 1 (by decide)) (jgs_c (jg_n 2 (by decide)) (jgs_n)))) (jt_yes) (je_tup (ja_cons (je_op or_dAdd (je_opX ox_dIx (je_var 0 (by decide)) (je_c rfl)) (je_var 1 (by decide))) (ja_cons (je_op or_dAdd (je_opX ox_dIx (je_var 0 (by decide)) (je_c rfl)) (je_var 2 (by decide))) (ja_nil))))))
def pb_near : PSx := rRet (pCb (bSorted false tys0) (qCons (pLc [2] (pEach (pCall pf_beside (qCons (pVar 1) (qNil)))) (hN 2) (tB (pOpI dIn (pVar 2) (pVar 0))) (pVar 2)) (qNil)))
def pf_near : PFn := pFn 3 2 [0, 1] pb_near
theorem jf_near : JF den_near pf_near := jf_fn (by decide) (js_ret (je_cb (cr_sorted tys0) (ja_cons (je_lc (by decide) (ji_ex (je_call jf_beside (ja_cons (je_var 1 (by decide)) (ja_nil)))) (jg_n 2 (by decide)) (jt_b (je_opI oi_dIn (je_var 2 (by decide)) (je_var 0 (by decide)))) (je_var 2 (by decide))) (ja_nil))))
def pb_helped (me : PFn) : PSx := rSeq (rFor (pEach (pCall pf_near (qCons (pVar 0) (qCons (pVar 1) (qNil))))) (hN 4) (rWipe [4] (rIf (tB (pOpI dNotIn (pVar 4) (pVar 3))) (rSeq (rSub (pVar 3) (pVar 4) (pC (.bl true))) (rIf (tOr (tB (pOpI dNotIn (pVar 4) (pVar 2))) (tB (pCall me (qCons (pVar 0) (qCons (pOpX dIx (pVar 2) (pVar 4)) (qCons (pVar 2) (qCons (pVar 3) (qNil)))))))) (rSeq (rSub (pVar 2) (pVar 4) (pVar 1)) (rRet (pC (.bl true)))) (rNil))) (rNil)))) (rRet (pC (.bl false)))
def pr_helped : Nat → PFn
  | 0 => fun _ => none
  | j + 1 => pFn 5 4 [0, 1, 2, 3] (pb_helped (pr_helped j))
def pf_helped : PFn := pr_helped 64
theorem jr_helped : ∀ j, JF (rec_helped j) (pr_helped j)
  | 0 => fun _ _ _ _ _ _ _ h => by cases h
  | j + 1 => by
    have ih := jr_helped j
    exact jf_fn (by decide) (js_seq (js_for (by decide) (ji_ex (je_call jf_near (ja_cons (je_var 0 (by decide)) (ja_cons (je_var 1 (by decide)) (ja_nil))))) (jg_n 4 (by decide)) (js_wipe [4] (by decide) (js_if (jt_b (je_opI oi_dNotIn (je_var 4 (by decide)) (je_var 3 (by decide)))) (js_seq (js_sub (je_var 3 (by decide)) (je_var 4 (by decide)) (je_c rfl)) (js_if (jt_or (jt_b (je_opI oi_dNotIn (je_var 4 (by decide)) (je_var 2 (by decide)))) (jt_b (je_call ih (ja_cons (je_var 0 (by decide)) (ja_cons (je_opX ox_dIx (je_var 2 (by decide)) (je_var 4 (by decide))) (ja_cons (je_var 2 (by decide)) (ja_cons (je_var 3 (by decide)) (ja_nil)))))))) (js_seq (js_sub (je_var 2 (by decide)) (je_var 4 (by decide)) (je_var 1 (by decide))) (js_ret (je_c rfl))) (js_nil))) (js_nil)))) (js_ret (je_c rfl)))
theorem jf_helped : JF den_helped pf_helped := jr_helped 64
def pb_most_pairs : PSx := rSeq (rEx (pCall pf_check_shape (qCons (pVar 0) (qNil)))) (rSeq (rCut (rSet [0] 1 (pDct0N))) (rSeq (rFor (pEach (pVar 0)) (hN 2) (rWipe [2] (rIf (tB (pCall pf_is_white (qCons (pVar 2) (qNil)))) (rCut (rEx (pCall pf_helped (qCons (pVar 0) (qCons (pVar 2) (qCons (pVar 1) (qCons (pDct0N) (qNil)))))))) (rNil)))) (rRet (pCb bTuple (qCons (pCb (bSorted false tys0) (qCons (pLc [3] (pEach (pVar 1)) (hN 3) (tYes) (pCb bTuple (qCons (pCb (bSorted false tys0) (qCons (pLst (qCons (pOpX dIx (pVar 1) (pVar 3)) (qCons (pVar 3) (qNil)))) (qNil))) (qNil)))) (qNil))) (qNil))))))
def pf_most_pairs : PFn := pFn 4 1 [0] pb_most_pairs
theorem jf_most_pairs : JF den_most_pairs pf_most_pairs := jf_fn (by decide) (js_seq (js_ex (je_call jf_check_shape (ja_cons (je_var 0 (by decide)) (ja_nil)))) (js_seq (js_cut (js_set 1 (by decide) (by decide) (je_dct0N))) (js_seq (js_for (by decide) (ji_ex (je_var 0 (by decide))) (jg_n 2 (by decide)) (js_wipe [2] (by decide) (js_if (jt_b (je_call jf_is_white (ja_cons (je_var 2 (by decide)) (ja_nil)))) (js_cut (js_ex (je_call jf_helped (ja_cons (je_var 0 (by decide)) (ja_cons (je_var 2 (by decide)) (ja_cons (je_var 1 (by decide)) (ja_cons (je_dct0N) (ja_nil)))))))) (js_nil)))) (js_ret (je_cb cr_tuple (ja_cons (je_cb (cr_sorted tys0) (ja_cons (je_lc (by decide) (ji_ex (je_var 1 (by decide))) (jg_n 3 (by decide)) (jt_yes) (je_cb cr_tuple (ja_cons (je_cb (cr_sorted tys0) (ja_cons (je_lst (ja_cons (je_opX ox_dIx (je_var 1 (by decide)) (je_var 3 (by decide))) (ja_cons (je_var 3 (by decide)) (ja_nil)))) (ja_nil))) (ja_nil)))) (ja_nil))) (ja_nil)))))))
def pb_can_be_laid : PSx := rRet (pOp dEq (pOp dMulI (pC (.int 2)) (pCb bLen (qCons (pCall pf_most_pairs (qCons (pVar 0) (qNil))) (qNil)))) (pCb bLen (qCons (pVar 0) (qNil))))
def pf_can_be_laid : PFn := pFn 1 1 [0] pb_can_be_laid
theorem jf_can_be_laid : JF den_can_be_laid pf_can_be_laid := jf_fn (by decide) (js_ret (je_op or_dEq (je_op or_dMulI (je_c rfl) (je_cb cr_len (ja_cons (je_call jf_most_pairs (ja_cons (je_var 0 (by decide)) (ja_nil))) (ja_nil)))) (je_cb cr_len (ja_cons (je_var 0 (by decide)) (ja_nil)))))
def lp_0 : PSx := rSet [] 2 (pCall pf__law_roll (qCons (pVar 1) (qCons (pC (.int 25)) (qNil))))
def lp_1 : PSx := rCut (rSet [] 3 (pLstN (qCons (pC (.int 1)) (qCons (pC (.int 1)) (qNil)))))
def lp_2 : PSx := rFor (pR1 (qCons (pVar 2) (qNil))) (hN 4) (rWipe [4] (rEx (pMwL wAppend (pVar 3) (qCons (pOp dAdd (pOpX dIx (pVar 3) (pUn dNeg (pC (.int 1)))) (pOpX dIx (pVar 3) (pOp dSub (pCb bLen (qCons (pVar 3) (qNil))) (pC (.int 2))))) (qNil)))))
def lp_3 : PSx := rIf (tOr (tB (pOp dNe (pCall pf_how_many (qCons (pCall pf_block (qCons (pVar 2) (qCons (pC (.int 2)) (qNil)))) (qNil))) (pOpX dIx (pVar 3) (pVar 2)))) (tB (pOp dNe (pCall pf_how_many (qCons (pCall pf_block (qCons (pVar 2) (qCons (pC (.int 1)) (qNil)))) (qNil))) (pOp dAdd (pOp dSub (pC (.int 1)) (pVar 2)) (pOp dMulI (pOp dDiv (pVar 2) (pC (.int 2))) (pC (.int 2))))))) (rRet (pC (.bl false))) (rNil)
def lp_4 : PSx := rSet [] 5 (pCall pf__law_roll (qCons (pVar 1) (qCons (pC (.int 4)) (qNil))))
def lp_5 : PSx := rSet [] 6 (pC (.int 1))
def lp_6 : PSx := rFor (pR1 (qCons (pOp dDiv (pOp dMulI (pVar 5) (pOp dAdd (pVar 5) (pC (.int 1)))) (pC (.int 2))) (qNil))) (hN 4) (rWipe [4] (rSet [] 6 (pOp dMulI (pVar 6) (pC (.int 2)))))
def lp_7 : PSx := rIf (tB (pOp dNe (pCall pf_how_many (qCons (pCall pf_diamond (qCons (pVar 5) (qNil))) (qNil))) (pVar 6))) (rRet (pC (.bl false))) (rNil)
def lp_8 : PSx := rPar [] [8, 9] (qCons (pOp dAdd (pC (.int 1)) (pCall pf__law_roll (qCons (pVar 1) (qCons (pC (.int 4)) (qNil))))) (qCons (pOp dAdd (pC (.int 1)) (pCall pf__law_roll (qCons (pVar 1) (qCons (pC (.int 5)) (qNil))))) (qNil)))
def lp_9 : PSx := rSet [] 7 (pCall pf_how_many (qCons (pCall pf_block (qCons (pVar 8) (qCons (pVar 9) (qNil)))) (qNil)))
def lp_10 : PSx := rIf (tOr (tB (pOp dNe (pCall pf_how_many (qCons (pCall pf_block (qCons (pVar 9) (qCons (pVar 8) (qNil)))) (qNil))) (pVar 7))) (tB (pOp dNe (pCall pf_how_many (qCons (pOp dAdd (pCall pf_block (qCons (pVar 8) (qCons (pVar 9) (qNil)))) (pCall pf_moved (qCons (pCall pf_diamond (qCons (pC (.int 1)) (qNil))) (qCons (pC (.int 60)) (qCons (pC (.int 60)) (qNil)))))) (qNil))) (pOp dMulI (pC (.int 2)) (pVar 7))))) (rRet (pC (.bl false))) (rNil)
def lp_11 : PSx := rIf (tOr (tB (pOp dNe (pCall pf_can_be_laid (qCons (pCall pf_block (qCons (pVar 8) (qCons (pVar 9) (qNil)))) (qNil))) (pOp dEq (pOp dMulI (pOp dDiv (pOp dMulI (pVar 8) (pVar 9)) (pC (.int 2))) (pC (.int 2))) (pOp dMulI (pVar 8) (pVar 9))))) (tB (pOp dNe (pCb bLen (qCons (pCall pf_most_pairs (qCons (pCall pf_block (qCons (pVar 8) (qCons (pVar 9) (qNil)))) (qNil))) (qNil))) (pOp dDiv (pOp dMulI (pVar 8) (pVar 9)) (pC (.int 2)))))) (rRet (pC (.bl false))) (rNil)
def lr_11 : PSx := lp_11
def lr_10 : PSx := rSeq lp_10 lr_11
def lr_9 : PSx := rSeq lp_9 lr_10
def lr_8 : PSx := rSeq lp_8 lr_9
def lr_7 : PSx := rSeq lp_7 lr_8
def lr_6 : PSx := rSeq lp_6 lr_7
def lr_5 : PSx := rSeq lp_5 lr_6
def lr_4 : PSx := rSeq lp_4 lr_5
def lr_3 : PSx := rSeq lp_3 lr_4
def lr_2 : PSx := rSeq lp_2 lr_3
def lr_1 : PSx := rSeq lp_1 lr_2
def lr_0 : PSx := rSeq lp_0 lr_1
def lawS : Sx := sSeq (sSet 2 (eCall den__law_roll (aCons (eVar 1) (aCons (eC (.int 25)) (aNil))))) (sSeq (sSet 3 (eLst true (aCons (eC (.int 1)) (aCons (eC (.int 1)) (aNil))))) (sSeq (sFor (iR1 (aCons (eVar 2) (aNil))) (gN 4) (sEx (eMt "list" mAppend (eVar 3) (aCons (eOp dAdd (eOp dIx (eVar 3) (eUn dNeg (eC (.int 1)))) (eOp dIx (eVar 3) (eOp dSub (eCb bLen (aCons (eVar 3) (aNil))) (eC (.int 2))))) (aNil))))) (sSeq (sIf (xOr (xB (eOp dNe (eCall den_how_many (aCons (eCall den_block (aCons (eVar 2) (aCons (eC (.int 2)) (aNil)))) (aNil))) (eOp dIx (eVar 3) (eVar 2)))) (xB (eOp dNe (eCall den_how_many (aCons (eCall den_block (aCons (eVar 2) (aCons (eC (.int 1)) (aNil)))) (aNil))) (eOp dAdd (eOp dSub (eC (.int 1)) (eVar 2)) (eOp dMulI (eOp dDiv (eVar 2) (eC (.int 2))) (eC (.int 2))))))) (sRet (eC (.bl false))) (sNil)) (sSeq (sSet 5 (eCall den__law_roll (aCons (eVar 1) (aCons (eC (.int 4)) (aNil))))) (sSeq (sSet 6 (eC (.int 1))) (sSeq (sFor (iR1 (aCons (eOp dDiv (eOp dMulI (eVar 5) (eOp dAdd (eVar 5) (eC (.int 1)))) (eC (.int 2))) (aNil))) (gN 4) (sSet 6 (eOp dMulI (eVar 6) (eC (.int 2))))) (sSeq (sIf (xB (eOp dNe (eCall den_how_many (aCons (eCall den_diamond (aCons (eVar 5) (aNil))) (aNil))) (eVar 6))) (sRet (eC (.bl false))) (sNil)) (sSeq (sPar [8, 9] (aCons (eOp dAdd (eC (.int 1)) (eCall den__law_roll (aCons (eVar 1) (aCons (eC (.int 4)) (aNil))))) (aCons (eOp dAdd (eC (.int 1)) (eCall den__law_roll (aCons (eVar 1) (aCons (eC (.int 5)) (aNil))))) (aNil)))) (sSeq (sSet 7 (eCall den_how_many (aCons (eCall den_block (aCons (eVar 8) (aCons (eVar 9) (aNil)))) (aNil)))) (sSeq (sIf (xOr (xB (eOp dNe (eCall den_how_many (aCons (eCall den_block (aCons (eVar 9) (aCons (eVar 8) (aNil)))) (aNil))) (eVar 7))) (xB (eOp dNe (eCall den_how_many (aCons (eOp dAdd (eCall den_block (aCons (eVar 8) (aCons (eVar 9) (aNil)))) (eCall den_moved (aCons (eCall den_diamond (aCons (eC (.int 1)) (aNil))) (aCons (eC (.int 60)) (aCons (eC (.int 60)) (aNil)))))) (aNil))) (eOp dMulI (eC (.int 2)) (eVar 7))))) (sRet (eC (.bl false))) (sNil)) (sIf (xOr (xB (eOp dNe (eCall den_can_be_laid (aCons (eCall den_block (aCons (eVar 8) (aCons (eVar 9) (aNil)))) (aNil))) (eOp dEq (eOp dMulI (eOp dDiv (eOp dMulI (eVar 8) (eVar 9)) (eC (.int 2))) (eC (.int 2))) (eOp dMulI (eVar 8) (eVar 9))))) (xB (eOp dNe (eCb bLen (aCons (eCall den_most_pairs (aCons (eCall den_block (aCons (eVar 8) (aCons (eVar 9) (aNil)))) (aNil))) (aNil))) (eOp dDiv (eOp dMulI (eVar 8) (eVar 9)) (eC (.int 2)))))) (sRet (eC (.bl false))) (sNil))))))))))))
def lawP : PSx := lr_0
theorem lawJ : JS 10 [] lawS lawP := js_seq (js_set 2 (by decide) (by decide) (je_call jf__law_roll (ja_cons (je_var 1 (by decide)) (ja_cons (je_c rfl) (ja_nil))))) (js_seq (js_cut (js_set 3 (by decide) (by decide) (je_lstN (ja_cons (je_c rfl) (ja_cons (je_c rfl) (ja_nil)))))) (js_seq (js_for (by decide) (ji_r1 (ja_cons (je_var 2 (by decide)) (ja_nil))) (jg_n 4 (by decide)) (js_wipe [4] (by decide) (js_ex (je_mwL mw_append (je_var 3 (by decide)) (ja_cons (je_op or_dAdd (je_opX ox_dIx (je_var 3 (by decide)) (je_un ur_dNeg (je_c rfl))) (je_opX ox_dIx (je_var 3 (by decide)) (je_op or_dSub (je_cb cr_len (ja_cons (je_var 3 (by decide)) (ja_nil))) (je_c rfl)))) (ja_nil)))))) (js_seq (js_if (jt_or (jt_b (je_op or_dNe (je_call jf_how_many (ja_cons (je_call jf_block (ja_cons (je_var 2 (by decide)) (ja_cons (je_c rfl) (ja_nil)))) (ja_nil))) (je_opX ox_dIx (je_var 3 (by decide)) (je_var 2 (by decide))))) (jt_b (je_op or_dNe (je_call jf_how_many (ja_cons (je_call jf_block (ja_cons (je_var 2 (by decide)) (ja_cons (je_c rfl) (ja_nil)))) (ja_nil))) (je_op or_dAdd (je_op or_dSub (je_c rfl) (je_var 2 (by decide))) (je_op or_dMulI (je_op or_dDiv (je_var 2 (by decide)) (je_c rfl)) (je_c rfl)))))) (js_ret (je_c rfl)) (js_nil)) (js_seq (js_set 5 (by decide) (by decide) (je_call jf__law_roll (ja_cons (je_var 1 (by decide)) (ja_cons (je_c rfl) (ja_nil))))) (js_seq (js_set 6 (by decide) (by decide) (je_c rfl)) (js_seq (js_for (by decide) (ji_r1 (ja_cons (je_op or_dDiv (je_op or_dMulI (je_var 5 (by decide)) (je_op or_dAdd (je_var 5 (by decide)) (je_c rfl))) (je_c rfl)) (ja_nil))) (jg_n 4 (by decide)) (js_wipe [4] (by decide) (js_set 6 (by decide) (by decide) (je_op or_dMulI (je_var 6 (by decide)) (je_c rfl))))) (js_seq (js_if (jt_b (je_op or_dNe (je_call jf_how_many (ja_cons (je_call jf_diamond (ja_cons (je_var 5 (by decide)) (ja_nil))) (ja_nil))) (je_var 6 (by decide)))) (js_ret (je_c rfl)) (js_nil)) (js_seq (js_par (by decide) (by decide) (ja_cons (je_op or_dAdd (je_c rfl) (je_call jf__law_roll (ja_cons (je_var 1 (by decide)) (ja_cons (je_c rfl) (ja_nil))))) (ja_cons (je_op or_dAdd (je_c rfl) (je_call jf__law_roll (ja_cons (je_var 1 (by decide)) (ja_cons (je_c rfl) (ja_nil))))) (ja_nil)))) (js_seq (js_set 7 (by decide) (by decide) (je_call jf_how_many (ja_cons (je_call jf_block (ja_cons (je_var 8 (by decide)) (ja_cons (je_var 9 (by decide)) (ja_nil)))) (ja_nil)))) (js_seq (js_if (jt_or (jt_b (je_op or_dNe (je_call jf_how_many (ja_cons (je_call jf_block (ja_cons (je_var 9 (by decide)) (ja_cons (je_var 8 (by decide)) (ja_nil)))) (ja_nil))) (je_var 7 (by decide)))) (jt_b (je_op or_dNe (je_call jf_how_many (ja_cons (je_op or_dAdd (je_call jf_block (ja_cons (je_var 8 (by decide)) (ja_cons (je_var 9 (by decide)) (ja_nil)))) (je_call jf_moved (ja_cons (je_call jf_diamond (ja_cons (je_c rfl) (ja_nil))) (ja_cons (je_c rfl) (ja_cons (je_c rfl) (ja_nil)))))) (ja_nil))) (je_op or_dMulI (je_c rfl) (je_var 7 (by decide)))))) (js_ret (je_c rfl)) (js_nil)) (js_if (jt_or (jt_b (je_op or_dNe (je_call jf_can_be_laid (ja_cons (je_call jf_block (ja_cons (je_var 8 (by decide)) (ja_cons (je_var 9 (by decide)) (ja_nil)))) (ja_nil))) (je_op or_dEq (je_op or_dMulI (je_op or_dDiv (je_op or_dMulI (je_var 8 (by decide)) (je_var 9 (by decide))) (je_c rfl)) (je_c rfl)) (je_op or_dMulI (je_var 8 (by decide)) (je_var 9 (by decide)))))) (jt_b (je_op or_dNe (je_cb cr_len (ja_cons (je_call jf_most_pairs (ja_cons (je_call jf_block (ja_cons (je_var 8 (by decide)) (ja_cons (je_var 9 (by decide)) (ja_nil)))) (ja_nil))) (ja_nil))) (je_op or_dDiv (je_op or_dMulI (je_var 8 (by decide)) (je_var 9 (by decide))) (je_c rfl))))) (js_ret (je_c rfl)) (js_nil))))))))))))
def endS : Sx := sRet (eC (.bl true))
def endP : PSx := rRet (pC (.bl true))
theorem endJ : JS 10 [] endS endP := js_ret (je_c rfl)
theorem main_of (hg : ∀ a b c : Int, isGo (lawP (start 10 1 a b c)) = true) (he : ∃ ps, endP (List.replicate 10 none) = .rt (.v (.bl true)) ps) (ns : List Int) (hn : ns.length ≤ 63) : ∃ M, den_law [.fz ns] ⟨0, []⟩ = .ok (.bl true) M := law_main (k := 2) (by decide) (by decide) lawJ endJ hg he ns hn

end Law

set_option Elab.async false
set_option linter.all false
set_option autoImplicit false
set_option maxRecDepth 100000
set_option maxHeartbeats 400000
namespace Law
open PySem PySem.Spec PyProof.Rows EV
def stA (a b c n : Int) : PSl := [none, dc a b c, some (.v (.int n)), none, none, none, none, none, none, none]
def stB (a b c : Int) (x2 x3 : Option PS) (s : Int) : PSl := [none, dc a b c, x2, x3, none, some (.v (.int s)), none, none, none, none]
def stC (a b c : Int) (x2 x3 x5 x6 : Option PS) (t w : Int) : PSl := [none, dc a b c, x2, x3, none, x5, x6, none, some (.v (.int t)), some (.v (.int w))]
def segA : PSx := rSeq lp_1 (rSeq lp_2 lp_3)
def segB : PSx := rSeq lp_5 (rSeq lp_6 lp_7)
def okA (r : PFl) : Bool := match r with
  | .nx [none, some (.o false (.lst [.int _, .int _, .int _])), _, _, none, none, none, none, none, none] => true
  | _ => false
def okB (r : PFl) : Bool := match r with
  | .nx [none, some (.o false (.lst [.int _, .int _, .int _])), _, _, none, _, _, none, none, none] => true
  | _ => false
theorem okA_ok {r : PFl} (h : okA r = true) : ∃ a b c x2 x3, r = .nx [none, dc a b c, x2, x3, none, none, none, none, none, none] := by
  unfold okA at h
  split at h
  · exact ⟨_, _, _, _, _, rfl⟩
  · cases h
theorem okB_ok {r : PFl} (h : okB r = true) : ∃ a b c x2 x3 x5 x6, r = .nx [none, dc a b c, x2, x3, none, x5, x6, none, none, none] := by
  unfold okB at h
  split at h
  · exact ⟨_, _, _, _, _, _, _, rfl⟩
  · cases h
theorem sA_0 (a b c : Int) : okA (segA (stA a b c 0)) = true := by kernel_rfl
theorem sA_1 (a b c : Int) : okA (segA (stA a b c 1)) = true := by kernel_rfl
theorem sA_2 (a b c : Int) : okA (segA (stA a b c 2)) = true := by kernel_rfl
theorem sA_3 (a b c : Int) : okA (segA (stA a b c 3)) = true := by kernel_rfl
theorem sA_4 (a b c : Int) : okA (segA (stA a b c 4)) = true := by kernel_rfl
theorem sA_5 (a b c : Int) : okA (segA (stA a b c 5)) = true := by kernel_rfl
theorem sA_6 (a b c : Int) : okA (segA (stA a b c 6)) = true := by kernel_rfl
theorem sA_7 (a b c : Int) : okA (segA (stA a b c 7)) = true := by kernel_rfl
theorem sA_8 (a b c : Int) : okA (segA (stA a b c 8)) = true := by kernel_rfl
theorem sA_9 (a b c : Int) : okA (segA (stA a b c 9)) = true := by kernel_rfl
theorem sA_10 (a b c : Int) : okA (segA (stA a b c 10)) = true := by kernel_rfl
theorem sA_11 (a b c : Int) : okA (segA (stA a b c 11)) = true := by kernel_rfl
theorem sA_12 (a b c : Int) : okA (segA (stA a b c 12)) = true := by kernel_rfl
theorem sA_13 (a b c : Int) : okA (segA (stA a b c 13)) = true := by kernel_rfl
theorem sA_14 (a b c : Int) : okA (segA (stA a b c 14)) = true := by kernel_rfl
theorem sA_15 (a b c : Int) : okA (segA (stA a b c 15)) = true := by kernel_rfl
theorem sA_16 (a b c : Int) : okA (segA (stA a b c 16)) = true := by kernel_rfl
theorem sA_17 (a b c : Int) : okA (segA (stA a b c 17)) = true := by kernel_rfl
theorem sA_18 (a b c : Int) : okA (segA (stA a b c 18)) = true := by kernel_rfl
theorem sA_19 (a b c : Int) : okA (segA (stA a b c 19)) = true := by kernel_rfl
theorem sA_20 (a b c : Int) : okA (segA (stA a b c 20)) = true := by kernel_rfl
theorem sA_21 (a b c : Int) : okA (segA (stA a b c 21)) = true := by kernel_rfl
theorem sA_22 (a b c : Int) : okA (segA (stA a b c 22)) = true := by kernel_rfl
theorem sA_23 (a b c : Int) : okA (segA (stA a b c 23)) = true := by kernel_rfl
theorem sA_24 (a b c : Int) : okA (segA (stA a b c 24)) = true := by kernel_rfl
theorem sB_0 (a b c : Int) (x2 x3 : Option PS) : okB (segB (stB a b c x2 x3 0)) = true := by kernel_rfl
theorem sB_1 (a b c : Int) (x2 x3 : Option PS) : okB (segB (stB a b c x2 x3 1)) = true := by kernel_rfl
theorem sB_2 (a b c : Int) (x2 x3 : Option PS) : okB (segB (stB a b c x2 x3 2)) = true := by kernel_rfl
theorem sB_3 (a b c : Int) (x2 x3 : Option PS) : okB (segB (stB a b c x2 x3 3)) = true := by kernel_rfl
theorem sC_1_1 (a b c : Int) (x2 x3 x5 x6 : Option PS) : isGo (lr_9 (stC a b c x2 x3 x5 x6 1 1)) = true := by kernel_rfl
theorem sC_1_2 (a b c : Int) (x2 x3 x5 x6 : Option PS) : isGo (lr_9 (stC a b c x2 x3 x5 x6 1 2)) = true := by kernel_rfl
theorem sC_1_3 (a b c : Int) (x2 x3 x5 x6 : Option PS) : isGo (lr_9 (stC a b c x2 x3 x5 x6 1 3)) = true := by kernel_rfl
theorem sC_1_4 (a b c : Int) (x2 x3 x5 x6 : Option PS) : isGo (lr_9 (stC a b c x2 x3 x5 x6 1 4)) = true := by kernel_rfl
theorem sC_1_5 (a b c : Int) (x2 x3 x5 x6 : Option PS) : isGo (lr_9 (stC a b c x2 x3 x5 x6 1 5)) = true := by kernel_rfl
theorem sC_2_1 (a b c : Int) (x2 x3 x5 x6 : Option PS) : isGo (lr_9 (stC a b c x2 x3 x5 x6 2 1)) = true := by kernel_rfl
theorem sC_2_2 (a b c : Int) (x2 x3 x5 x6 : Option PS) : isGo (lr_9 (stC a b c x2 x3 x5 x6 2 2)) = true := by kernel_rfl
theorem sC_2_3 (a b c : Int) (x2 x3 x5 x6 : Option PS) : isGo (lr_9 (stC a b c x2 x3 x5 x6 2 3)) = true := by kernel_rfl
theorem sC_2_4 (a b c : Int) (x2 x3 x5 x6 : Option PS) : isGo (lr_9 (stC a b c x2 x3 x5 x6 2 4)) = true := by kernel_rfl
theorem sC_2_5 (a b c : Int) (x2 x3 x5 x6 : Option PS) : isGo (lr_9 (stC a b c x2 x3 x5 x6 2 5)) = true := by kernel_rfl
theorem sC_3_1 (a b c : Int) (x2 x3 x5 x6 : Option PS) : isGo (lr_9 (stC a b c x2 x3 x5 x6 3 1)) = true := by kernel_rfl
theorem sC_3_2 (a b c : Int) (x2 x3 x5 x6 : Option PS) : isGo (lr_9 (stC a b c x2 x3 x5 x6 3 2)) = true := by kernel_rfl
theorem sC_3_3 (a b c : Int) (x2 x3 x5 x6 : Option PS) : isGo (lr_9 (stC a b c x2 x3 x5 x6 3 3)) = true := by kernel_rfl
theorem sC_3_4 (a b c : Int) (x2 x3 x5 x6 : Option PS) : isGo (lr_9 (stC a b c x2 x3 x5 x6 3 4)) = true := by kernel_rfl
theorem sC_3_5 (a b c : Int) (x2 x3 x5 x6 : Option PS) : isGo (lr_9 (stC a b c x2 x3 x5 x6 3 5)) = true := by kernel_rfl
theorem sC_4_1 (a b c : Int) (x2 x3 x5 x6 : Option PS) : isGo (lr_9 (stC a b c x2 x3 x5 x6 4 1)) = true := by kernel_rfl
theorem sC_4_2 (a b c : Int) (x2 x3 x5 x6 : Option PS) : isGo (lr_9 (stC a b c x2 x3 x5 x6 4 2)) = true := by kernel_rfl
theorem sC_4_3 (a b c : Int) (x2 x3 x5 x6 : Option PS) : isGo (lr_9 (stC a b c x2 x3 x5 x6 4 3)) = true := by kernel_rfl
theorem sC_4_4 (a b c : Int) (x2 x3 x5 x6 : Option PS) : isGo (lr_9 (stC a b c x2 x3 x5 x6 4 4)) = true := by kernel_rfl
theorem sC_4_5 (a b c : Int) (x2 x3 x5 x6 : Option PS) : isGo (lr_9 (stC a b c x2 x3 x5 x6 4 5)) = true := by kernel_rfl
end Law

set_option Elab.async false
set_option linter.all false
set_option autoImplicit false
set_option maxRecDepth 100000
set_option maxHeartbeats 400000
namespace Law
open PySem PySem.Spec PyProof.Rows EV
theorem seq_nx {s t : PSx} {ps ps1 : PSl} (h : s ps = .nx ps1) : rSeq s t ps = t ps1 := by simp only [rSeq, h]
theorem sA (a b c n : Int) (h : 0 ≤ n ∧ n < 25) : okA (segA (stA a b c n)) = true := by
  have : n = 0 ∨ n = 1 ∨ n = 2 ∨ n = 3 ∨ n = 4 ∨ n = 5 ∨ n = 6 ∨ n = 7 ∨ n = 8 ∨ n = 9 ∨ n = 10 ∨ n = 11 ∨ n = 12 ∨ n = 13 ∨ n = 14 ∨ n = 15 ∨ n = 16 ∨ n = 17 ∨ n = 18 ∨ n = 19 ∨ n = 20 ∨ n = 21 ∨ n = 22 ∨ n = 23 ∨ n = 24 := by omega
  rcases this with rfl | rfl | rfl | rfl | rfl | rfl | rfl | rfl | rfl | rfl | rfl | rfl | rfl | rfl | rfl | rfl | rfl | rfl | rfl | rfl | rfl | rfl | rfl | rfl | rfl
  · exact sA_0 a b c
  · exact sA_1 a b c
  · exact sA_2 a b c
  · exact sA_3 a b c
  · exact sA_4 a b c
  · exact sA_5 a b c
  · exact sA_6 a b c
  · exact sA_7 a b c
  · exact sA_8 a b c
  · exact sA_9 a b c
  · exact sA_10 a b c
  · exact sA_11 a b c
  · exact sA_12 a b c
  · exact sA_13 a b c
  · exact sA_14 a b c
  · exact sA_15 a b c
  · exact sA_16 a b c
  · exact sA_17 a b c
  · exact sA_18 a b c
  · exact sA_19 a b c
  · exact sA_20 a b c
  · exact sA_21 a b c
  · exact sA_22 a b c
  · exact sA_23 a b c
  · exact sA_24 a b c
theorem sB (a b c s : Int) (x2 x3 : Option PS) (h : 0 ≤ s ∧ s < 4) : okB (segB (stB a b c x2 x3 s)) = true := by
  have : s = 0 ∨ s = 1 ∨ s = 2 ∨ s = 3 := by omega
  rcases this with rfl | rfl | rfl | rfl
  · exact sB_0 a b c x2 x3
  · exact sB_1 a b c x2 x3
  · exact sB_2 a b c x2 x3
  · exact sB_3 a b c x2 x3
theorem sC (a b c t w : Int) (x2 x3 x5 x6 : Option PS) (ht : 1 ≤ t ∧ t < 5) (hw : 1 ≤ w ∧ w < 6) : isGo (lr_9 (stC a b c x2 x3 x5 x6 t w)) = true := by
  have h1 : t = 1 ∨ t = 2 ∨ t = 3 ∨ t = 4 := by omega
  have h2 : w = 1 ∨ w = 2 ∨ w = 3 ∨ w = 4 ∨ w = 5 := by omega
  rcases h1 with rfl | rfl | rfl | rfl
  · rcases h2 with rfl | rfl | rfl | rfl | rfl
    · exact sC_1_1 a b c x2 x3 x5 x6
    · exact sC_1_2 a b c x2 x3 x5 x6
    · exact sC_1_3 a b c x2 x3 x5 x6
    · exact sC_1_4 a b c x2 x3 x5 x6
    · exact sC_1_5 a b c x2 x3 x5 x6
  · rcases h2 with rfl | rfl | rfl | rfl | rfl
    · exact sC_2_1 a b c x2 x3 x5 x6
    · exact sC_2_2 a b c x2 x3 x5 x6
    · exact sC_2_3 a b c x2 x3 x5 x6
    · exact sC_2_4 a b c x2 x3 x5 x6
    · exact sC_2_5 a b c x2 x3 x5 x6
  · rcases h2 with rfl | rfl | rfl | rfl | rfl
    · exact sC_3_1 a b c x2 x3 x5 x6
    · exact sC_3_2 a b c x2 x3 x5 x6
    · exact sC_3_3 a b c x2 x3 x5 x6
    · exact sC_3_4 a b c x2 x3 x5 x6
    · exact sC_3_5 a b c x2 x3 x5 x6
  · rcases h2 with rfl | rfl | rfl | rfl | rfl
    · exact sC_4_1 a b c x2 x3 x5 x6
    · exact sC_4_2 a b c x2 x3 x5 x6
    · exact sC_4_3 a b c x2 x3 x5 x6
    · exact sC_4_4 a b c x2 x3 x5 x6
    · exact sC_4_5 a b c x2 x3 x5 x6
theorem at0 (a b c : Int) : ∃ n a' b' c', (0 ≤ n ∧ n < 25) ∧ lp_0 (start 10 1 a b c) = .nx (stA a' b' c' n) := by
  have e : start 10 1 a b c = [none, dc a b c, none, none, none, none, none, none, none, none] := rfl
  rw [e]
  obtain ⟨r, a', b', c', h1, h2, h3⟩ := roll_at (ps := [none, dc a b c, none, none, none, none, none, none, none, none]) (i := 1) (p := pC (.int 25)) rfl rfl (by decide) (by decide)
  refine ⟨r, a', b', c', ⟨h1, h2⟩, ?_⟩
  simp only [lp_0, rSet, h3]
  rfl
theorem at4 (a b c : Int) (x2 x3 : Option PS) : ∃ s a' b' c', (0 ≤ s ∧ s < 4) ∧ lp_4 [none, dc a b c, x2, x3, none, none, none, none, none, none] = .nx (stB a' b' c' x2 x3 s) := by
  obtain ⟨r, a', b', c', h1, h2, h3⟩ := roll_at (ps := [none, dc a b c, x2, x3, none, none, none, none, none, none]) (i := 1) (p := pC (.int 4)) rfl rfl (by decide) (by decide)
  refine ⟨r, a', b', c', ⟨h1, h2⟩, ?_⟩
  simp only [lp_4, rSet, h3]
  rfl
theorem at8 (a b c : Int) (x2 x3 x5 x6 : Option PS) : ∃ t w a' b' c', (1 ≤ t ∧ t < 5) ∧ (1 ≤ w ∧ w < 6) ∧ lp_8 [none, dc a b c, x2, x3, none, x5, x6, none, none, none] = .nx (stC a' b' c' x2 x3 x5 x6 t w) := by
  obtain ⟨r, a1, b1, c1, h1, h2, h3⟩ := roll_at (ps := [none, dc a b c, x2, x3, none, x5, x6, none, none, none]) (i := 1) (p := pC (.int 4)) rfl rfl (by decide) (by decide)
  obtain ⟨s, a2, b2, c2, h4, h5, h6⟩ := roll_at (ps := [none, dc a1 b1 c1, x2, x3, none, x5, x6, none, none, none]) (i := 1) (p := pC (.int 5)) rfl rfl (by decide) (by decide)
  refine ⟨1 + r, 1 + s, a2, b2, c2, by omega, by omega, ?_⟩
  have h3' : pCall pf__law_roll (qCons (pVar 1) (qCons (pC (.int 4)) (qNil))) [none, dc a b c, x2, x3, none, x5, x6, none, none, none] = some (.v (.int r), [none, dc a1 b1 c1, x2, x3, none, x5, x6, none, none, none]) := h3
  have h6' : pCall pf__law_roll (qCons (pVar 1) (qCons (pC (.int 5)) (qNil))) [none, dc a1 b1 c1, x2, x3, none, x5, x6, none, none, none] = some (.v (.int s), [none, dc a2 b2 c2, x2, x3, none, x5, x6, none, none, none]) := h6
  have hc : ∀ ps : PSl, pC (.int 1) ps = some (.v (.int 1), ps) := fun _ => rfl
  simp only [lp_8, rPar, EV.qCons, pOp, hc, h3', h6', dv, add_int, qNil]
  rfl
theorem go (a b c : Int) : isGo (lawP (start 10 1 a b c)) = true := by
  obtain ⟨n, a1, b1, c1, hn, e1⟩ := at0 a b c
  have s1 : lawP (start 10 1 a b c) = rSeq segA lr_4 (stA a1 b1 c1 n) := by
    simp only [lawP, lr_0]
    rw [seq_nx e1]
    simp only [lr_1, lr_2, lr_3, segA, rSeq_assoc, rSeq]
    cases lp_1 (stA a1 b1 c1 n) with
    | nx ps => simp only; cases lp_2 ps <;> rfl
    | _ => rfl
  rw [s1]
  obtain ⟨a2, b2, c2, x2, x3, e2⟩ := okA_ok (sA a1 b1 c1 n hn)
  rw [seq_nx e2]
  obtain ⟨s, a3, b3, c3, hs, e3⟩ := at4 a2 b2 c2 x2 x3
  have s2 : lr_4 [none, dc a2 b2 c2, x2, x3, none, none, none, none, none, none] = rSeq segB lr_8 (stB a3 b3 c3 x2 x3 s) := by
    simp only [lr_4]
    rw [seq_nx e3]
    simp only [lr_5, lr_6, lr_7, segB, rSeq]
    cases lp_5 (stB a3 b3 c3 x2 x3 s) with
    | nx ps => simp only; cases lp_6 ps <;> rfl
    | _ => rfl
  rw [s2]
  obtain ⟨a4, b4, c4, y2, y3, x5, x6, e4⟩ := okB_ok (sB a3 b3 c3 s x2 x3 hs)
  rw [seq_nx e4]
  obtain ⟨t, w, a5, b5, c5, ht, hw, e5⟩ := at8 a4 b4 c4 y2 y3 x5 x6
  simp only [lr_8]
  rw [seq_nx e5]
  exact sC a5 b5 c5 t w y2 y3 x5 x6 ht hw
theorem main : ∀ ns : List Int, ns.length ≤ 63 → ∃ M, den_law [.fz ns] ⟨0, []⟩ = .ok (.bl true) M := main_of go ⟨_, rfl⟩
end Law

set_option Elab.async false
set_option linter.all false
set_option autoImplicit false
set_option maxRecDepth 100000
set_option maxHeartbeats 4000000
namespace Law
open PySem PySem.Spec PyProof.Rows L2 EV
/-! ### the text -/
def tpS (i : Nat) : Stmt := PySem.Challenge.pw_tilehall_k14_known_counts_of_pairs.main.body.getD i (.Pass ⟨0, 0, 0, 0⟩)
abbrev t__law_dice : Stmt := tpS 27
abbrev t__law_rounds : Stmt := tpS 29
abbrev t__law_roll : Stmt := tpS 28
abbrev t_is_whole : Stmt := tpS 9
abbrev t_is_shape : Stmt := tpS 10
abbrev t_check_shape : Stmt := tpS 11
abbrev t_how_many : Stmt := tpS 23
abbrev t_block : Stmt := tpS 15
abbrev t_shape_of : Stmt := tpS 12
abbrev t_diamond : Stmt := tpS 25
abbrev t_moved : Stmt := tpS 13
abbrev t_is_white : Stmt := tpS 18
abbrev t_beside : Stmt := tpS 14
abbrev t_near : Stmt := tpS 19
abbrev t_helped : Stmt := tpS 20
abbrev t_most_pairs : Stmt := tpS 21
abbrev t_can_be_laid : Stmt := tpS 22
abbrev t_law : Stmt := tpS 30
structure Gd (P : Program) (w : World) (K : PySem.W.Frag) (mg : Str → Option Value) (T : Tb) (base : Heap) : Prop where
  g_abs : mg "abs" = none
  g_all : mg "all" = none
  g_bool : mg "bool" = none
  g_int : mg "int" = none
  g_isinstance : mg "isinstance" = none
  g_len : mg "len" = none
  g_min : mg "min" = none
  g_range : mg "range" = none
  g_sorted : mg "sorted" = none
  g_tuple : mg "tuple" = none
  c_CELLS : Con ⟨K, w, P, T⟩ mg "CELLS" (.int 400)
  c_FAR : Con ⟨K, w, P, T⟩ mg "FAR" (.int 1000)
  c_MOST : Con ⟨K, w, P, T⟩ mg "MOST" (.int 20000)
  c_SIDES : Con ⟨K, w, P, T⟩ mg "SIDES" (.tup [(.tup [(.int (-1)), (.int 0)]), (.tup [(.int 0), (.int (-1))]), (.tup [(.int 0), (.int 1)]), (.tup [(.int 1), (.int 0)])])
  d__law_dice : Dd K mg "_law_dice" t__law_dice ["cell"]
  d__law_rounds : Dd K mg "_law_rounds" t__law_rounds ["script", "most"]
  d__law_roll : Dd K mg "_law_roll" t__law_roll ["dice", "many"]
  d_is_whole : Dd K mg "is_whole" t_is_whole ["thing", "low", "high"]
  d_is_shape : Dd K mg "is_shape" t_is_shape ["thing"]
  d_check_shape : Dd K mg "check_shape" t_check_shape ["thing"]
  d_how_many : Dd K mg "how_many" t_how_many ["floor"]
  d_block : Dd K mg "block" t_block ["rows", "columns"]
  d_shape_of : Dd K mg "shape_of" t_shape_of ["places"]
  d_diamond : Dd K mg "diamond" t_diamond ["steps"]
  d_moved : Dd K mg "moved" t_moved ["shape", "down", "along"]
  d_is_white : Dd K mg "is_white" t_is_white ["place"]
  d_beside : Dd K mg "beside" t_beside ["place"]
  d_near : Dd K mg "near" t_near ["floor", "place"]
  d_helped : Dd K mg "helped" t_helped ["floor", "place", "found", "tried"]
  d_most_pairs : Dd K mg "most_pairs" t_most_pairs ["floor"]
  d_can_be_laid : Dd K mg "can_be_laid" t_can_be_laid ["floor"]
  d_law : Dd K mg "law" t_law ["script"]
  t_is_shape : TabK K mg base T "is_shape"
section
variable {P : Program} {w : World} {K : PySem.W.Frag} {mg : Str → Option Value} {base : Heap} {T : Tb}
theorem sc__law_dice : FnScope ["cell"] ["cell"] (defScope t__law_dice) := ⟨rfl, rfl, rfl, by decide +kernel, rfl, by decide +kernel, by decide +kernel⟩
theorem cal__law_dice (g : Gd P w K mg T base) : Cal P w K mg base T "_law_dice" 1 1 den__law_dice := by
  refine cal_by false (k := 0) g.d__law_dice sc__law_dice rfl fun f cdv A outer s H E hr hN hu tk hp => ?_
  exact sb_cons (ss_if (st_chain (op_dLt hu) (op_dLt hu) (se_op op_dSub (se_int) (se_int)) (se_var 0) (se_int)) (sb_one (ss_ret (se_lst true (sa_cons (se_cb cb_abs g.g_abs boot_abs (sa_cons (se_var 0) (sa_nil))) (sa_cons (se_int) (sa_cons (se_int) (sa_nil)))) (alen_cons (alen_cons (alen_cons (alen_nil))))))) (sb_nil)) (sb_one (ss_ret (se_lst true (sa_cons (se_var 0) (sa_cons (se_op op_dAdd (se_int) (se_op op_dMod (se_ct cb_int g.g_int boot_int (sa_cons (se_var 0) (sa_nil))) (se_int))) (sa_cons (se_ct cb_int g.g_int boot_int (sa_cons (se_cmp op_dGe (se_var 0) (se_op op_dPow (se_int) (se_int))) (sa_nil))) (sa_nil)))) (alen_cons (alen_cons (alen_cons (alen_nil)))))))
theorem sc__law_rounds : FnScope ["script", "most", "cells", "cell"] ["script", "most"] (defScope t__law_rounds) := ⟨rfl, rfl, rfl, by decide +kernel, rfl, by decide +kernel, by decide +kernel⟩
theorem cal__law_rounds (g : Gd P w K mg T base) : Cal P w K mg base T "_law_rounds" 2 2 den__law_rounds := by
  refine cal_by false (k := 1) g.d__law_rounds sc__law_rounds rfl fun f cdv A outer s H E hr hN hu tk hp => ?_
  exact sb_cons (ss_set 2 hN (se_slice (se_var 0) (so_none) (so_some (se_var 1)))) (sb_cons (ss_if (st_cmp (op_dEq hu) (se_var 2) (se_lst false (sa_nil) (alen_nil))) (sb_one (ss_set 2 hN (se_lst false (sa_cons (se_int) (sa_nil)) (alen_cons (alen_nil))))) (sb_nil)) (sb_one (ss_ret (se_lc true [("cell", 3)] rfl hN (si_any (se_var 2)) (fun _ _ _ _ _ => sg_name 3 hN) (fun _ _ _ _ _ => sts_nil) (fun _ _ _ _ _ => se_cal (cal__law_dice g) hr (by decide) takes_no (sa_cons (se_var 3) (sa_nil)) (alen_cons (alen_nil)))))))
theorem sc__law_roll : FnScope ["dice", "many", "found"] ["dice", "many"] (defScope t__law_roll) := ⟨rfl, rfl, rfl, by decide +kernel, rfl, by decide +kernel, by decide +kernel⟩
theorem cal__law_roll (g : Gd P w K mg T base) : Cal P w K mg base T "_law_roll" 1 2 den__law_roll := by
  refine cal_by true (k := 0) g.d__law_roll sc__law_roll rfl fun f cdv A outer s H E hr hN hu tk hp => ?_
  exact sb_cons (ss_if (sw_t (sw_or (st_cmp (op_dEq hu) (se_ix hu (se_var 0) (se_int)) (se_int)) (sw_or1 (sw_t (sw_and (st_cmp (op_dEq hu) (se_ix hu (se_var 0) (se_int)) (se_int)) (sw_and1 (st_cmp op_dGt (se_ix hu (se_var 0) (se_int)) (se_int)))))))) (sb_cons (ss_set 2 hN (se_op op_dMod (se_ct cb_int g.g_int boot_int (sa_cons (se_ix hu (se_var 0) (se_int)) (sa_nil))) (se_var 1))) (sb_cons (ss_sub hu (se_var 0) (se_int) (se_op op_dDiv (se_ix hu (se_var 0) (se_int)) (se_var 1))) (sb_one (ss_ret (se_var 2))))) (sb_nil)) (sb_cons (ss_sub hu (se_var 0) (se_int) (se_int)) (sb_cons (ss_sub hu (se_var 0) (se_int) (se_op op_dMod (se_ct cb_int g.g_int boot_int (sa_cons (se_op op_dAdd (se_op op_dAdd (se_op op_dMulI (se_ix hu (se_var 0) (se_int)) (se_int)) (se_op op_dMulI (se_ix hu (se_var 0) (se_int)) (se_int))) (se_int)) (sa_nil))) (se_int))) (sb_cons (ss_sub hu (se_var 0) (se_int) (se_op op_dAdd (se_ix hu (se_var 0) (se_int)) (se_int))) (sb_one (ss_ret (se_op op_dMod (se_ct cb_int g.g_int boot_int (sa_cons (se_op op_dAdd (se_op op_dDiv (se_ix hu (se_var 0) (se_int)) (se_int)) (se_ix hu (se_var 0) (se_int))) (sa_nil))) (se_var 1)))))))
theorem sc_is_whole : FnScope ["thing", "low", "high"] ["thing", "low", "high"] (defScope t_is_whole) := ⟨rfl, rfl, rfl, by decide +kernel, rfl, by decide +kernel, by decide +kernel⟩
theorem cal_is_whole (g : Gd P w K mg T base) : Cal P w K mg base T "is_whole" 1 3 den_is_whole := by
  refine cal_by true (k := 0) g.d_is_whole sc_is_whole rfl fun f cdv A outer s H E hr hN hu tk hp => ?_
  exact sb_one (ss_ret (se_and (se_isi (kit_int _) (se_var 0) g.g_isinstance g.g_int boot_int) (se_and (se_not (se_isi (kit_bool _) (se_var 0) g.g_isinstance g.g_bool boot_bool)) (se_one (se_chain op_dLe op_dLe (se_var 1) (se_var 0) (se_var 2))))))
theorem sc_is_shape : FnScope ["thing", "place", "k", "part"] ["thing"] (defScope t_is_shape) := ⟨rfl, rfl, rfl, by decide +kernel, rfl, by decide +kernel, by decide +kernel⟩
theorem cal_is_shape (g : Gd P w K mg T base) : Cal P w K mg base T "is_shape" 3 1 den_is_shape := by
  refine cal_byG true (k := 2) g.d_is_shape g.t_is_shape sc_is_shape rfl fun f cdv A outer s H E tx hr hN hu tk hp => ?_
  exact sb_cons (ss_if (sw_t (sw_or (st_not (st_val (se_isi (kit_tuple _) (se_var 0) g.g_isinstance g.g_tuple boot_tuple))) (sw_or1 (st_cmp op_dGt (se_cb cb_len g.g_len boot_len (sa_cons (se_var 0) (sa_nil))) (se_con g.c_CELLS))))) (sb_one (ss_ret (se_bl))) (sb_nil)) (sb_cons (ss_for hp rfl (si_any (se_var 0)) (sg_name 1 hN) (sb_one (ss_if (sw_t (sw_or (st_not (st_val (se_isi (kit_tuple _) (se_var 1) g.g_isinstance g.g_tuple boot_tuple))) (sw_or (st_cmp (op_dNe hu) (se_cb cb_len g.g_len boot_len (sa_cons (se_var 1) (sa_nil))) (se_int)) (sw_or1 (st_not (st_val (se_all 1 [("part", 3)] ⟨tx.ex⟩ hr (by decide) hN g.g_all (si_any (se_var 1)) (fun _ _ _ _ _ _ _ hr hu => sg_name 3 hN) (fun _ _ _ _ _ _ _ hr hu => sts_nil) (fun _ _ _ _ _ _ _ hr hu => se_cal (cal_is_whole g) hr (by decide) takes_no (sa_cons (se_var 3) (sa_cons (se_un un_dNeg (se_con g.c_FAR)) (sa_cons (se_con g.c_FAR) (sa_nil)))) (alen_cons (alen_cons (alen_cons (alen_nil)))))))))))) (sb_one (ss_ret (se_bl))) (sb_nil)))) (sb_one (ss_ret (se_all 0 [("k", 2)] ⟨tx.ex⟩ hr (by decide) hN g.g_all (si_r1 g.g_range (sa_cons (se_op op_dSub (se_cb cb_len g.g_len boot_len (sa_cons (se_var 0) (sa_nil))) (se_int)) (sa_nil))) (fun _ _ _ _ _ _ _ hr hu => sg_name 2 hN) (fun _ _ _ _ _ _ _ hr hu => sts_nil) (fun _ _ _ _ _ _ _ hr hu => se_cmp (op_dLt hu) (se_ix hu (se_var 0) (se_var 2)) (se_ix hu (se_var 0) (se_op op_dAdd (se_var 2) (se_int))))))))
theorem sc_check_shape : FnScope ["thing"] ["thing"] (defScope t_check_shape) := ⟨rfl, rfl, rfl, by decide +kernel, rfl, by decide +kernel, by decide +kernel⟩
theorem cal_check_shape (g : Gd P w K mg T base) : Cal P w K mg base T "check_shape" 4 1 den_check_shape := by
  refine cal_by true (k := 3) g.d_check_shape sc_check_shape rfl fun f cdv A outer s H E hr hN hu tk hp => ?_
  exact sb_one (ss_if (st_not (st_val (se_cal (cal_is_shape g) hr (by decide) tk (sa_cons (se_var 0) (sa_nil)) (alen_cons (alen_nil))))) (sb_one (ss_bad)) (sb_nil))
theorem sc_how_many : FnScope ["floor", "table", "place", "after", "covered", "row", "column", "right", "below", "goal", "goals", "rest", "other", "one"] ["floor"] (defScope t_how_many) := ⟨rfl, rfl, rfl, by decide +kernel, rfl, by decide +kernel, by decide +kernel⟩
theorem cal_how_many (g : Gd P w K mg T base) : Cal P w K mg base T "how_many" 5 1 den_how_many := by
  refine cal_by true (k := 4) g.d_how_many sc_how_many rfl fun f cdv A outer s H E hr hN hu tk hp => ?_
  exact sb_cons (ss_ex (se_cal (cal_check_shape g) hr (by decide) tk (sa_cons (se_var 0) (sa_nil)) (alen_cons (alen_nil)))) (sb_cons (ss_set 1 hN (se_dct1 false hu (se_tup (sa_nil) (alen_nil)) (se_int))) (sb_cons (ss_for hp rfl (si_any (se_var 0)) (sg_name 2 hN) (sb_cons (ss_set 3 hN (se_dct0 true)) (sb_cons (ss_tg (se_var 2) (sg_tup rfl (sgs_cons (sg_name 5 hN) (sgs_cons (sg_name 6 hN) (sgs_nil))))) (sb_cons (ss_par2 (i := 7) (j := 8) rfl hN (ha := sa_cons (se_tup (sa_cons (se_var 5) (sa_cons (se_op op_dAdd (se_var 6) (se_int)) (sa_nil))) (alen_cons (alen_cons (alen_nil)))) (sa_cons (se_tup (sa_cons (se_op op_dAdd (se_var 5) (se_int)) (sa_cons (se_var 6) (sa_nil))) (alen_cons (alen_cons (alen_nil)))) (sa_nil)))) (sb_cons (ss_for hp rfl (si_any (se_var 1)) (sg_name 4 hN) (sb_cons (ss_if (st_cmp (op_dIn hu) (se_var 2) (se_var 4)) (sb_one (ss_set 10 hN (se_lst false (sa_cons (se_ct cb_tuple g.g_tuple boot_tuple (sa_cons (se_lc false [("one", 13)] rfl hN (si_any (se_var 4)) (fun _ _ _ _ _ => sg_name 13 hN) (fun _ _ _ _ _ => sts_one (st_cmp (op_dNe hu) (se_var 13) (se_var 2))) (fun _ _ _ _ _ => se_var 13)) (sa_nil))) (sa_nil)) (alen_cons (alen_nil))))) (sb_cons (ss_setLc 11 false [("other", 12)] rfl hN (si_any (se_tup (sa_cons (se_var 7) (sa_cons (se_var 8) (sa_nil))) (alen_cons (alen_cons (alen_nil))))) (fun _ _ _ _ _ => sg_name 12 hN) (fun _ _ _ _ _ => sts_one (sw_t (sw_and (st_cmp (op_dIn hu) (se_var 12) (se_var 0)) (sw_and1 (st_cmp (op_dNotIn hu) (se_var 12) (se_var 4)))))) (fun _ _ _ _ _ => se_var 12)) (sb_one (ss_setLc 10 false [("other", 12)] rfl hN (si_any (se_var 11)) (fun _ _ _ _ _ => sg_name 12 hN) (fun _ _ _ _ _ => sts_nil) (fun _ _ _ _ _ => se_ct cb_tuple g.g_tuple boot_tuple (sa_cons (se_cb (cb_sorted false tys0 rfl hu) g.g_sorted boot_sorted (sa_cons (se_op op_dAdd (se_var 4) (se_tup (sa_cons (se_var 12) (sa_nil)) (alen_cons (alen_nil)))) (sa_nil))) (sa_nil))))))) (sb_one (ss_for hp rfl (si_any (se_var 10)) (sg_name 9 hN) (sb_one (ss_sub hu (se_var 3) (se_var 9) (se_op op_dAdd (se_mt PySem.F.plainAttrs_dict PySem.F.slot_dict_get PySem.F.type_dict_get (mt_dGet hu) (se_var 3) (sa_cons (se_var 9) (sa_cons (se_int) (sa_nil)))) (se_ix hu (se_var 1) (se_var 4))))))))) (sb_cons (ss_set 1 hN (se_var 3)) (sb_one (ss_if (st_cmp op_dGt (se_cb cb_len g.g_len boot_len (sa_cons (se_var 1) (sa_nil))) (se_con g.c_MOST)) (sb_one (ss_bad)) (sb_nil))))))))) (sb_one (ss_ret (se_mt PySem.F.plainAttrs_dict PySem.F.slot_dict_get PySem.F.type_dict_get (mt_dGet hu) (se_var 1) (sa_cons (se_tup (sa_nil) (alen_nil)) (sa_cons (se_int) (sa_nil))))))))
theorem sc_block : FnScope ["rows", "columns", "row", "column"] ["rows", "columns"] (defScope t_block) := ⟨rfl, rfl, rfl, by decide +kernel, rfl, by decide +kernel, by decide +kernel⟩
theorem cal_block (g : Gd P w K mg T base) : Cal P w K mg base T "block" 1 2 den_block := by
  refine cal_by true (k := 0) g.d_block sc_block rfl fun f cdv A outer s H E hr hN hu tk hp => ?_
  exact sb_one (ss_ret (se_ct cb_tuple g.g_tuple boot_tuple (sa_cons (se_lc2 false [("row", 2), ("column", 3)] [("column", 3)] rfl hN (si_r1 g.g_range (sa_cons (se_var 0) (sa_nil))) (fun _ _ _ _ _ => sg_name 2 hN) (fun _ _ _ _ _ => sts_nil) (fun _ _ _ _ _ => si_r1 g.g_range (sa_cons (se_var 1) (sa_nil))) (fun _ _ _ _ _ => sg_name 3 hN) (fun _ _ _ _ _ => sts_nil) (fun _ _ _ _ _ => se_tup (sa_cons (se_var 2) (sa_cons (se_var 3) (sa_nil))) (alen_cons (alen_cons (alen_nil))))) (sa_nil))))
theorem sc_shape_of : FnScope ["places", "found", "place"] ["places"] (defScope t_shape_of) := ⟨rfl, rfl, rfl, by decide +kernel, rfl, by decide +kernel, by decide +kernel⟩
theorem cal_shape_of (g : Gd P w K mg T base) : Cal P w K mg base T "shape_of" 1 1 den_shape_of := by
  refine cal_by true (k := 0) g.d_shape_of sc_shape_of rfl fun f cdv A outer s H E hr hN hu tk hp => ?_
  exact sb_cons (ss_setDc 1 false [("place", 2)] hu rfl hN (si_any (se_var 0)) (fun _ _ _ _ _ => sg_name 2 hN) (fun _ _ _ _ _ => sts_nil) (fun _ _ _ _ _ => se_var 2) (fun _ _ _ _ _ => se_bl)) (sb_one (ss_ret (se_ct cb_tuple g.g_tuple boot_tuple (sa_cons (se_cb (cb_sorted false tys0 rfl hu) g.g_sorted boot_sorted (sa_cons (se_var 1) (sa_nil))) (sa_nil)))))
theorem sc_diamond : FnScope ["steps", "found", "row", "wide", "first", "k"] ["steps"] (defScope t_diamond) := ⟨rfl, rfl, rfl, by decide +kernel, rfl, by decide +kernel, by decide +kernel⟩
theorem cal_diamond (g : Gd P w K mg T base) : Cal P w K mg base T "diamond" 2 1 den_diamond := by
  refine cal_by true (k := 1) g.d_diamond sc_diamond rfl fun f cdv A outer s H E hr hN hu tk hp => ?_
  exact sb_cons (ss_if (st_not (st_val (se_cal (cal_is_whole g) hr (by decide) tk (sa_cons (se_var 0) (sa_cons (se_int) (sa_cons (se_int) (sa_nil)))) (alen_cons (alen_cons (alen_cons (alen_nil))))))) (sb_one (ss_bad)) (sb_nil)) (sb_cons (ss_set 1 hN (se_lst true (sa_nil) (alen_nil))) (sb_cons (ss_for hp rfl (si_r1 g.g_range (sa_cons (se_op op_dMulI (se_int) (se_var 0)) (sa_nil))) (sg_name 2 hN) (sb_cons (ss_set 3 hN (se_op op_dMulI (se_int) (se_cb (cb_min rfl) g.g_min boot_min (sa_cons (se_op op_dAdd (se_var 2) (se_int)) (sa_cons (se_op op_dSub (se_op op_dMulI (se_int) (se_var 0)) (se_var 2)) (sa_nil)))))) (sb_cons (ss_set 4 hN (se_op op_dSub (se_var 0) (se_op op_dDiv (se_var 3) (se_int)))) (sb_one (ss_ex (se_mt PySem.F.plainAttrs_list PySem.F.slot_list_extend PySem.F.type_list_extend mt_dExtend (se_var 1) (sa_cons (se_lc false [("k", 5)] rfl hN (si_r1 g.g_range (sa_cons (se_var 3) (sa_nil))) (fun _ _ _ _ _ => sg_name 5 hN) (fun _ _ _ _ _ => sts_nil) (fun _ _ _ _ _ => se_tup (sa_cons (se_var 2) (sa_cons (se_op op_dAdd (se_var 4) (se_var 5)) (sa_nil))) (alen_cons (alen_cons (alen_nil))))) (sa_nil)))))))) (sb_one (ss_ret (se_cal (cal_shape_of g) hr (by decide) tk (sa_cons (se_var 1) (sa_nil)) (alen_cons (alen_nil)))))))
theorem sc_moved : FnScope ["shape", "down", "along", "row", "column"] ["shape", "down", "along"] (defScope t_moved) := ⟨rfl, rfl, rfl, by decide +kernel, rfl, by decide +kernel, by decide +kernel⟩
theorem cal_moved (g : Gd P w K mg T base) : Cal P w K mg base T "moved" 1 3 den_moved := by
  refine cal_by true (k := 0) g.d_moved sc_moved rfl fun f cdv A outer s H E hr hN hu tk hp => ?_
  exact sb_one (ss_ret (se_ct cb_tuple g.g_tuple boot_tuple (sa_cons (se_lc false [("row", 3), ("column", 4)] rfl hN (si_any (se_var 0)) (fun _ _ _ _ _ => sg_tup rfl (sgs_cons (sg_name 3 hN) (sgs_cons (sg_name 4 hN) (sgs_nil)))) (fun _ _ _ _ _ => sts_nil) (fun _ _ _ _ _ => se_tup (sa_cons (se_op op_dAdd (se_var 3) (se_var 1)) (sa_cons (se_op op_dAdd (se_var 4) (se_var 2)) (sa_nil))) (alen_cons (alen_cons (alen_nil))))) (sa_nil))))
theorem sc_is_white : FnScope ["place"] ["place"] (defScope t_is_white) := ⟨rfl, rfl, rfl, by decide +kernel, rfl, by decide +kernel, by decide +kernel⟩
theorem cal_is_white (g : Gd P w K mg T base) : Cal P w K mg base T "is_white" 1 1 den_is_white := by
  refine cal_by true (k := 0) g.d_is_white sc_is_white rfl fun f cdv A outer s H E hr hN hu tk hp => ?_
  exact sb_one (ss_ret (se_cmp (op_dEq hu) (se_op op_dMod (se_op op_dAdd (se_ix hu (se_var 0) (se_int)) (se_ix hu (se_var 0) (se_int))) (se_int)) (se_int)))
theorem sc_beside : FnScope ["place", "down", "along"] ["place"] (defScope t_beside) := ⟨rfl, rfl, rfl, by decide +kernel, rfl, by decide +kernel, by decide +kernel⟩
theorem cal_beside (g : Gd P w K mg T base) : Cal P w K mg base T "beside" 1 1 den_beside := by
  refine cal_by true (k := 0) g.d_beside sc_beside rfl fun f cdv A outer s H E hr hN hu tk hp => ?_
  exact sb_one (ss_ret (se_lc false [("down", 1), ("along", 2)] rfl hN (si_any (se_con g.c_SIDES)) (fun _ _ _ _ _ => sg_tup rfl (sgs_cons (sg_name 1 hN) (sgs_cons (sg_name 2 hN) (sgs_nil)))) (fun _ _ _ _ _ => sts_nil) (fun _ _ _ _ _ => se_tup (sa_cons (se_op op_dAdd (se_ix hu (se_var 0) (se_int)) (se_var 1)) (sa_cons (se_op op_dAdd (se_ix hu (se_var 0) (se_int)) (se_var 2)) (sa_nil))) (alen_cons (alen_cons (alen_nil))))))
theorem sc_near : FnScope ["floor", "place", "other"] ["floor", "place"] (defScope t_near) := ⟨rfl, rfl, rfl, by decide +kernel, rfl, by decide +kernel, by decide +kernel⟩
theorem cal_near (g : Gd P w K mg T base) : Cal P w K mg base T "near" 2 2 den_near := by
  refine cal_by true (k := 1) g.d_near sc_near rfl fun f cdv A outer s H E hr hN hu tk hp => ?_
  exact sb_one (ss_ret (se_cb (cb_sorted false tys0 rfl hu) g.g_sorted boot_sorted (sa_cons (se_lc false [("other", 2)] rfl hN (si_any (se_cal (cal_beside g) hr (by decide) tk (sa_cons (se_var 1) (sa_nil)) (alen_cons (alen_nil)))) (fun _ _ _ _ _ => sg_name 2 hN) (fun _ _ _ _ _ => sts_one (st_cmp (op_dIn hu) (se_var 2) (se_var 0))) (fun _ _ _ _ _ => se_var 2)) (sa_nil))))
theorem sc_helped : FnScope ["floor", "place", "found", "tried", "other"] ["floor", "place", "found", "tried"] (defScope t_helped) := ⟨rfl, rfl, rfl, by decide +kernel, rfl, by decide +kernel, by decide +kernel⟩
theorem calr_helped (g : Gd P w K mg T base) : ∀ j, Cal P w K mg base T "helped" (3 + j) 4 (rec_helped j)
  | 0 => cal_bad g.d_helped rfl
  | j + 1 => by
    have ih := calr_helped g j
    refine cal_by true (k := 3 + j) g.d_helped sc_helped rfl fun f cdv A outer s H E hr hN hu tk hp => ?_
    exact sb_cons (ss_for hp rfl (si_any (se_cal (cal_near g) hr (by omega) tk (sa_cons (se_var 0) (sa_cons (se_var 1) (sa_nil))) (alen_cons (alen_cons (alen_nil))))) (sg_name 4 hN) (sb_one (ss_if (st_cmp (op_dNotIn hu) (se_var 4) (se_var 3)) (sb_cons (ss_sub hu (se_var 3) (se_var 4) (se_bl)) (sb_one (ss_if (sw_t (sw_or (st_cmp (op_dNotIn hu) (se_var 4) (se_var 2)) (sw_or1 (st_val (se_cal ih hr (Nat.le_refl _) tk (sa_cons (se_var 0) (sa_cons (se_ix hu (se_var 2) (se_var 4)) (sa_cons (se_var 2) (sa_cons (se_var 3) (sa_nil))))) (alen_cons (alen_cons (alen_cons (alen_cons (alen_nil)))))))))) (sb_cons (ss_sub hu (se_var 2) (se_var 4) (se_var 1)) (sb_one (ss_ret (se_bl)))) (sb_nil)))) (sb_nil)))) (sb_one (ss_ret (se_bl)))
theorem cal_helped (g : Gd P w K mg T base) : Cal P w K mg base T "helped" 67 4 den_helped := calr_helped g 64
theorem sc_most_pairs : FnScope ["floor", "found", "place", "other"] ["floor"] (defScope t_most_pairs) := ⟨rfl, rfl, rfl, by decide +kernel, rfl, by decide +kernel, by decide +kernel⟩
theorem cal_most_pairs (g : Gd P w K mg T base) : Cal P w K mg base T "most_pairs" 68 1 den_most_pairs := by
  refine cal_by true (k := 67) g.d_most_pairs sc_most_pairs rfl fun f cdv A outer s H E hr hN hu tk hp => ?_
  exact sb_cons (ss_ex (se_cal (cal_check_shape g) hr (by decide) tk (sa_cons (se_var 0) (sa_nil)) (alen_cons (alen_nil)))) (sb_cons (ss_set 1 hN (se_dct0 true)) (sb_cons (ss_for hp rfl (si_any (se_var 0)) (sg_name 2 hN) (sb_one (ss_if (st_val (se_cal (cal_is_white g) hr (by decide) tk (sa_cons (se_var 2) (sa_nil)) (alen_cons (alen_nil)))) (sb_one (ss_ex (se_cal (cal_helped g) hr (by decide) tk (sa_cons (se_var 0) (sa_cons (se_var 2) (sa_cons (se_var 1) (sa_cons (se_dct0 true) (sa_nil))))) (alen_cons (alen_cons (alen_cons (alen_cons (alen_nil)))))))) (sb_nil)))) (sb_one (ss_ret (se_ct cb_tuple g.g_tuple boot_tuple (sa_cons (se_cb (cb_sorted false tys0 rfl hu) g.g_sorted boot_sorted (sa_cons (se_lc false [("other", 3)] rfl hN (si_any (se_var 1)) (fun _ _ _ _ _ => sg_name 3 hN) (fun _ _ _ _ _ => sts_nil) (fun _ _ _ _ _ => se_ct cb_tuple g.g_tuple boot_tuple (sa_cons (se_cb (cb_sorted false tys0 rfl hu) g.g_sorted boot_sorted (sa_cons (se_lst false (sa_cons (se_ix hu (se_var 1) (se_var 3)) (sa_cons (se_var 3) (sa_nil))) (alen_cons (alen_cons (alen_nil)))) (sa_nil))) (sa_nil)))) (sa_nil))) (sa_nil)))))))
theorem sc_can_be_laid : FnScope ["floor"] ["floor"] (defScope t_can_be_laid) := ⟨rfl, rfl, rfl, by decide +kernel, rfl, by decide +kernel, by decide +kernel⟩
theorem cal_can_be_laid (g : Gd P w K mg T base) : Cal P w K mg base T "can_be_laid" 69 1 den_can_be_laid := by
  refine cal_by true (k := 68) g.d_can_be_laid sc_can_be_laid rfl fun f cdv A outer s H E hr hN hu tk hp => ?_
  exact sb_one (ss_ret (se_cmp (op_dEq hu) (se_op op_dMulI (se_int) (se_cb cb_len g.g_len boot_len (sa_cons (se_cal (cal_most_pairs g) hr (by decide) tk (sa_cons (se_var 0) (sa_nil)) (alen_cons (alen_nil))) (sa_nil)))) (se_cb cb_len g.g_len boot_len (sa_cons (se_var 0) (sa_nil)))))
theorem sc_law : FnScope ["script", "dice", "columns", "row", "turn", "steps", "power", "many", "tall", "wide"] ["script"] (defScope t_law) := ⟨rfl, rfl, rfl, by decide +kernel, rfl, by decide +kernel, by decide +kernel⟩
theorem cal_law (g : Gd P w K mg T base) : Cal P w K mg base T "law" 70 1 den_law := by
  refine cal_by true (k := 69) g.d_law sc_law rfl fun f cdv A outer s H E hr hN hu tk hp => ?_
  exact sb_cons (ss_for hp rfl (si_any (se_cal (cal__law_rounds g) hr (by decide) tk (sa_cons (se_var 0) (sa_cons (se_int) (sa_nil))) (alen_cons (alen_cons (alen_nil))))) (sg_name 1 hN) (sb_cons (ss_set 2 hN (se_cal (cal__law_roll g) hr (by decide) tk (sa_cons (se_var 1) (sa_cons (se_int) (sa_nil))) (alen_cons (alen_cons (alen_nil))))) (sb_cons (ss_set 3 hN (se_lst true (sa_cons (se_int) (sa_cons (se_int) (sa_nil))) (alen_cons (alen_cons (alen_nil))))) (sb_cons (ss_for hp rfl (si_r1 g.g_range (sa_cons (se_var 2) (sa_nil))) (sg_name 4 hN) (sb_one (ss_ex (se_mt PySem.F.plainAttrs_list PySem.F.slot_list_append PySem.F.type_list_append mt_dAppend (se_var 3) (sa_cons (se_op op_dAdd (se_ix hu (se_var 3) (se_un un_dNeg (se_int))) (se_ix hu (se_var 3) (se_op op_dSub (se_cb cb_len g.g_len boot_len (sa_cons (se_var 3) (sa_nil))) (se_int)))) (sa_nil)))))) (sb_cons (ss_if (sw_t (sw_or (st_cmp (op_dNe hu) (se_cal (cal_how_many g) hr (by decide) tk (sa_cons (se_cal (cal_block g) hr (by decide) tk (sa_cons (se_var 2) (sa_cons (se_int) (sa_nil))) (alen_cons (alen_cons (alen_nil)))) (sa_nil)) (alen_cons (alen_nil))) (se_ix hu (se_var 3) (se_var 2))) (sw_or1 (st_cmp (op_dNe hu) (se_cal (cal_how_many g) hr (by decide) tk (sa_cons (se_cal (cal_block g) hr (by decide) tk (sa_cons (se_var 2) (sa_cons (se_int) (sa_nil))) (alen_cons (alen_cons (alen_nil)))) (sa_nil)) (alen_cons (alen_nil))) (se_op op_dAdd (se_op op_dSub (se_int) (se_var 2)) (se_op op_dMulI (se_op op_dDiv (se_var 2) (se_int)) (se_int))))))) (sb_one (ss_ret (se_bl))) (sb_nil)) (sb_cons (ss_set 5 hN (se_cal (cal__law_roll g) hr (by decide) tk (sa_cons (se_var 1) (sa_cons (se_int) (sa_nil))) (alen_cons (alen_cons (alen_nil))))) (sb_cons (ss_set 6 hN (se_int)) (sb_cons (ss_for hp rfl (si_r1 g.g_range (sa_cons (se_op op_dDiv (se_op op_dMulI (se_var 5) (se_op op_dAdd (se_var 5) (se_int))) (se_int)) (sa_nil))) (sg_name 4 hN) (sb_one (ss_set 6 hN (se_op op_dMulI (se_var 6) (se_int))))) (sb_cons (ss_if (st_cmp (op_dNe hu) (se_cal (cal_how_many g) hr (by decide) tk (sa_cons (se_cal (cal_diamond g) hr (by decide) tk (sa_cons (se_var 5) (sa_nil)) (alen_cons (alen_nil))) (sa_nil)) (alen_cons (alen_nil))) (se_var 6)) (sb_one (ss_ret (se_bl))) (sb_nil)) (sb_cons (ss_par2 (i := 8) (j := 9) rfl hN (ha := sa_cons (se_op op_dAdd (se_int) (se_cal (cal__law_roll g) hr (by decide) tk (sa_cons (se_var 1) (sa_cons (se_int) (sa_nil))) (alen_cons (alen_cons (alen_nil))))) (sa_cons (se_op op_dAdd (se_int) (se_cal (cal__law_roll g) hr (by decide) tk (sa_cons (se_var 1) (sa_cons (se_int) (sa_nil))) (alen_cons (alen_cons (alen_nil))))) (sa_nil)))) (sb_cons (ss_set 7 hN (se_cal (cal_how_many g) hr (by decide) tk (sa_cons (se_cal (cal_block g) hr (by decide) tk (sa_cons (se_var 8) (sa_cons (se_var 9) (sa_nil))) (alen_cons (alen_cons (alen_nil)))) (sa_nil)) (alen_cons (alen_nil)))) (sb_cons (ss_if (sw_t (sw_or (st_cmp (op_dNe hu) (se_cal (cal_how_many g) hr (by decide) tk (sa_cons (se_cal (cal_block g) hr (by decide) tk (sa_cons (se_var 9) (sa_cons (se_var 8) (sa_nil))) (alen_cons (alen_cons (alen_nil)))) (sa_nil)) (alen_cons (alen_nil))) (se_var 7)) (sw_or1 (st_cmp (op_dNe hu) (se_cal (cal_how_many g) hr (by decide) tk (sa_cons (se_op op_dAdd (se_cal (cal_block g) hr (by decide) tk (sa_cons (se_var 8) (sa_cons (se_var 9) (sa_nil))) (alen_cons (alen_cons (alen_nil)))) (se_cal (cal_moved g) hr (by decide) tk (sa_cons (se_cal (cal_diamond g) hr (by decide) tk (sa_cons (se_int) (sa_nil)) (alen_cons (alen_nil))) (sa_cons (se_int) (sa_cons (se_int) (sa_nil)))) (alen_cons (alen_cons (alen_cons (alen_nil)))))) (sa_nil)) (alen_cons (alen_nil))) (se_op op_dMulI (se_int) (se_var 7)))))) (sb_one (ss_ret (se_bl))) (sb_nil)) (sb_one (ss_if (sw_t (sw_or (st_cmp (op_dNe hu) (se_cal (cal_can_be_laid g) hr (by decide) tk (sa_cons (se_cal (cal_block g) hr (by decide) tk (sa_cons (se_var 8) (sa_cons (se_var 9) (sa_nil))) (alen_cons (alen_cons (alen_nil)))) (sa_nil)) (alen_cons (alen_nil))) (se_cmp (op_dEq hu) (se_op op_dMulI (se_op op_dDiv (se_op op_dMulI (se_var 8) (se_var 9)) (se_int)) (se_int)) (se_op op_dMulI (se_var 8) (se_var 9)))) (sw_or1 (st_cmp (op_dNe hu) (se_cb cb_len g.g_len boot_len (sa_cons (se_cal (cal_most_pairs g) hr (by decide) tk (sa_cons (se_cal (cal_block g) hr (by decide) tk (sa_cons (se_var 8) (sa_cons (se_var 9) (sa_nil))) (alen_cons (alen_cons (alen_nil)))) (sa_nil)) (alen_cons (alen_nil))) (sa_nil))) (se_op op_dDiv (se_op op_dMulI (se_var 8) (se_var 9)) (se_int)))))) (sb_one (ss_ret (se_bl))) (sb_nil))))))))))))))) (sb_one (ss_ret (se_bl)))
end

end Law

set_option Elab.async false
set_option linter.all false
set_option autoImplicit false
set_option maxRecDepth 100000
set_option maxHeartbeats 4000000
namespace Law
open PySem PySem.Spec PyProof.Rows L2 EV
/-! ### the head -/
def q__law_dice : He.DefD := ⟨("_law_dice", none), "_law_dice", "_law_dice", defArgs t__law_dice, defBody t__law_dice, defScope t__law_dice, [], []⟩
def q__law_rounds : He.DefD := ⟨("_law_rounds", none), "_law_rounds", "_law_rounds", defArgs t__law_rounds, defBody t__law_rounds, defScope t__law_rounds, [], []⟩
def q__law_roll : He.DefD := ⟨("_law_roll", none), "_law_roll", "_law_roll", defArgs t__law_roll, defBody t__law_roll, defScope t__law_roll, [], []⟩
def q_is_whole : He.DefD := ⟨("is_whole", none), "is_whole", "is_whole", defArgs t_is_whole, defBody t_is_whole, defScope t_is_whole, [], []⟩
def q_is_shape : He.DefD := ⟨("is_shape", none), "is_shape", "is_shape", defArgs t_is_shape, defBody t_is_shape, defScope t_is_shape, [], []⟩
def q_check_shape : He.DefD := ⟨("check_shape", none), "check_shape", "check_shape", defArgs t_check_shape, defBody t_check_shape, defScope t_check_shape, [], []⟩
def q_how_many : He.DefD := ⟨("how_many", none), "how_many", "how_many", defArgs t_how_many, defBody t_how_many, defScope t_how_many, [], []⟩
def q_block : He.DefD := ⟨("block", none), "block", "block", defArgs t_block, defBody t_block, defScope t_block, [], []⟩
def q_shape_of : He.DefD := ⟨("shape_of", none), "shape_of", "shape_of", defArgs t_shape_of, defBody t_shape_of, defScope t_shape_of, [], []⟩
def q_diamond : He.DefD := ⟨("diamond", none), "diamond", "diamond", defArgs t_diamond, defBody t_diamond, defScope t_diamond, [], []⟩
def q_moved : He.DefD := ⟨("moved", none), "moved", "moved", defArgs t_moved, defBody t_moved, defScope t_moved, [], []⟩
def q_is_white : He.DefD := ⟨("is_white", none), "is_white", "is_white", defArgs t_is_white, defBody t_is_white, defScope t_is_white, [], []⟩
def q_beside : He.DefD := ⟨("beside", none), "beside", "beside", defArgs t_beside, defBody t_beside, defScope t_beside, [], []⟩
def q_near : He.DefD := ⟨("near", none), "near", "near", defArgs t_near, defBody t_near, defScope t_near, [], []⟩
def q_helped : He.DefD := ⟨("helped", none), "helped", "helped", defArgs t_helped, defBody t_helped, defScope t_helped, [], []⟩
def q_most_pairs : He.DefD := ⟨("most_pairs", none), "most_pairs", "most_pairs", defArgs t_most_pairs, defBody t_most_pairs, defScope t_most_pairs, [], []⟩
def q_can_be_laid : He.DefD := ⟨("can_be_laid", none), "can_be_laid", "can_be_laid", defArgs t_can_be_laid, defBody t_can_be_laid, defScope t_can_be_laid, [], []⟩
def q_law : He.DefD := ⟨("law", none), "law", "law", defArgs t_law, defBody t_law, defScope t_law, [], []⟩
def fn : List He.DefD := [q__law_dice, q__law_rounds, q__law_roll, q_is_whole, q_is_shape, q_check_shape, q_how_many, q_block, q_shape_of, q_diamond, q_moved, q_is_white, q_beside, q_near, q_helped, q_most_pairs, q_can_be_laid, q_law]
def fa : List He.Fa := [.glo "_law_dice", .glo "_law_rounds", .glo "_law_roll", .glo "is_whole", .glo "is_shape", .glo "check_shape", .glo "how_many", .glo "block", .glo "shape_of", .glo "diamond", .glo "moved", .glo "is_white", .glo "beside", .glo "near", .glo "helped", .glo "most_pairs", .glo "can_be_laid", .glo "law", .free "abs", .free "all", .free "bool", .free "int", .free "isinstance", .free "len", .free "min", .free "range", .free "sorted", .free "tuple"]
def xt : ConL := [("CELLS", (.int 400)), ("FAR", (.int 1000)), ("MOST", (.int 20000)), ("SIDES", (.tup [(.tup [(.int (-1)), (.int 0)]), (.tup [(.int 0), (.int (-1))]), (.tup [(.int 0), (.int 1)]), (.tup [(.int 1), (.int 0)])]))]
abbrev R : PySem.W.OpenRow := PySem.W.OpenLaw.row PySem.Challenge.rw_tilehall_k14_known_counts_of_pairs
def gd : List Str := ["is_shape"]
abbrev hk : PySem.W.Hook := hookE 4 gd xt fa fn
def ob (s : PySem.W.SharedT) : He.AlD × Bool := obsEG 4 gd xt fa fn (HandSHeadRun.getT s)
theorem ob_eq (s : PySem.W.SharedT) : ob s = hk.obs s.abs := obsEG_eq (HandSHeadRun.getT_eq s)
def names : List Str := ["TileError", "BadShape", "BadNumber", "TooLarge", "FAR", "CELLS", "SIDES", "is_whole", "is_shape", "check_shape", "shape_of", "moved", "beside", "block", "MOST", "is_white", "near", "helped", "most_pairs", "can_be_laid", "how_many", "diamond", "_law_dice", "_law_roll", "_law_rounds"]
theorem run (w : World) : HandSHeadRun.RunEq R (PySem.W.view R.prog [30]) hk ob 4000 names w := by
  intro os
  kernel_rfl
theorem facts {P : Program} {w : World} {K : PySem.W.Frag} {h : Heap} {mg : Str → Option Value} (X : K.In h) (G : h.Ns mainGlobals mg) (c0 : obsE xt fa fn K = He.valD fn) (T : Tb) (base : Heap) (ht : ∀ y ∈ gd, TabH K h y) (tb : ∀ y ∈ gd, LamX.TabB base mg (tabOf K y).1 (tabOf K y).2) (tm : T.tabs = gd.map fun y => (tabOf K y).2) : Gd P w K mg T base := by
  obtain ⟨cx, c⟩ := says_e c0
  exact {
    g_abs := He.free_ok X G (c.fact 18 (f := .free "abs") rfl)
    g_all := He.free_ok X G (c.fact 19 (f := .free "all") rfl)
    g_bool := He.free_ok X G (c.fact 20 (f := .free "bool") rfl)
    g_int := He.free_ok X G (c.fact 21 (f := .free "int") rfl)
    g_isinstance := He.free_ok X G (c.fact 22 (f := .free "isinstance") rfl)
    g_len := He.free_ok X G (c.fact 23 (f := .free "len") rfl)
    g_min := He.free_ok X G (c.fact 24 (f := .free "min") rfl)
    g_range := He.free_ok X G (c.fact 25 (f := .free "range") rfl)
    g_sorted := He.free_ok X G (c.fact 26 (f := .free "sorted") rfl)
    g_tuple := He.free_ok X G (c.fact 27 (f := .free "tuple") rfl)
    c_CELLS := conB_ok X G (cx "CELLS" (.int 400) (by simp [xt]))
    c_FAR := conB_ok X G (cx "FAR" (.int 1000) (by simp [xt]))
    c_MOST := conB_ok X G (cx "MOST" (.int 20000) (by simp [xt]))
    c_SIDES := conB_ok X G (cx "SIDES" (.tup [(.tup [(.int (-1)), (.int 0)]), (.tup [(.int 0), (.int (-1))]), (.tup [(.int 0), (.int 1)]), (.tup [(.int 1), (.int 0)])]) (by simp [xt]))
    d__law_dice := by
      obtain ⟨fd, F⟩ := c.def_ 0 (d := q__law_dice) rfl
      exact ⟨_, fd, F, He.glo_ok X G (c.fact 0 (f := .glo "_law_dice") rfl), FunD.bindsN F fun _ _ _ _ _ _ us hl => match us, hl with | [_], _ => rfl⟩
    d__law_rounds := by
      obtain ⟨fd, F⟩ := c.def_ 1 (d := q__law_rounds) rfl
      exact ⟨_, fd, F, He.glo_ok X G (c.fact 1 (f := .glo "_law_rounds") rfl), FunD.bindsN F fun _ _ _ _ _ _ us hl => match us, hl with | [_, _], _ => rfl⟩
    d__law_roll := by
      obtain ⟨fd, F⟩ := c.def_ 2 (d := q__law_roll) rfl
      exact ⟨_, fd, F, He.glo_ok X G (c.fact 2 (f := .glo "_law_roll") rfl), FunD.bindsN F fun _ _ _ _ _ _ us hl => match us, hl with | [_, _], _ => rfl⟩
    d_is_whole := by
      obtain ⟨fd, F⟩ := c.def_ 3 (d := q_is_whole) rfl
      exact ⟨_, fd, F, He.glo_ok X G (c.fact 3 (f := .glo "is_whole") rfl), FunD.bindsN F fun _ _ _ _ _ _ us hl => match us, hl with | [_, _, _], _ => rfl⟩
    d_is_shape := by
      obtain ⟨fd, F⟩ := c.def_ 4 (d := q_is_shape) rfl
      exact ⟨_, fd, F, He.glo_ok X G (c.fact 4 (f := .glo "is_shape") rfl), FunD.bindsN F fun _ _ _ _ _ _ us hl => match us, hl with | [_], _ => rfl⟩
    d_check_shape := by
      obtain ⟨fd, F⟩ := c.def_ 5 (d := q_check_shape) rfl
      exact ⟨_, fd, F, He.glo_ok X G (c.fact 5 (f := .glo "check_shape") rfl), FunD.bindsN F fun _ _ _ _ _ _ us hl => match us, hl with | [_], _ => rfl⟩
    d_how_many := by
      obtain ⟨fd, F⟩ := c.def_ 6 (d := q_how_many) rfl
      exact ⟨_, fd, F, He.glo_ok X G (c.fact 6 (f := .glo "how_many") rfl), FunD.bindsN F fun _ _ _ _ _ _ us hl => match us, hl with | [_], _ => rfl⟩
    d_block := by
      obtain ⟨fd, F⟩ := c.def_ 7 (d := q_block) rfl
      exact ⟨_, fd, F, He.glo_ok X G (c.fact 7 (f := .glo "block") rfl), FunD.bindsN F fun _ _ _ _ _ _ us hl => match us, hl with | [_, _], _ => rfl⟩
    d_shape_of := by
      obtain ⟨fd, F⟩ := c.def_ 8 (d := q_shape_of) rfl
      exact ⟨_, fd, F, He.glo_ok X G (c.fact 8 (f := .glo "shape_of") rfl), FunD.bindsN F fun _ _ _ _ _ _ us hl => match us, hl with | [_], _ => rfl⟩
    d_diamond := by
      obtain ⟨fd, F⟩ := c.def_ 9 (d := q_diamond) rfl
      exact ⟨_, fd, F, He.glo_ok X G (c.fact 9 (f := .glo "diamond") rfl), FunD.bindsN F fun _ _ _ _ _ _ us hl => match us, hl with | [_], _ => rfl⟩
    d_moved := by
      obtain ⟨fd, F⟩ := c.def_ 10 (d := q_moved) rfl
      exact ⟨_, fd, F, He.glo_ok X G (c.fact 10 (f := .glo "moved") rfl), FunD.bindsN F fun _ _ _ _ _ _ us hl => match us, hl with | [_, _, _], _ => rfl⟩
    d_is_white := by
      obtain ⟨fd, F⟩ := c.def_ 11 (d := q_is_white) rfl
      exact ⟨_, fd, F, He.glo_ok X G (c.fact 11 (f := .glo "is_white") rfl), FunD.bindsN F fun _ _ _ _ _ _ us hl => match us, hl with | [_], _ => rfl⟩
    d_beside := by
      obtain ⟨fd, F⟩ := c.def_ 12 (d := q_beside) rfl
      exact ⟨_, fd, F, He.glo_ok X G (c.fact 12 (f := .glo "beside") rfl), FunD.bindsN F fun _ _ _ _ _ _ us hl => match us, hl with | [_], _ => rfl⟩
    d_near := by
      obtain ⟨fd, F⟩ := c.def_ 13 (d := q_near) rfl
      exact ⟨_, fd, F, He.glo_ok X G (c.fact 13 (f := .glo "near") rfl), FunD.bindsN F fun _ _ _ _ _ _ us hl => match us, hl with | [_, _], _ => rfl⟩
    d_helped := by
      obtain ⟨fd, F⟩ := c.def_ 14 (d := q_helped) rfl
      exact ⟨_, fd, F, He.glo_ok X G (c.fact 14 (f := .glo "helped") rfl), FunD.bindsN F fun _ _ _ _ _ _ us hl => match us, hl with | [_, _, _, _], _ => rfl⟩
    d_most_pairs := by
      obtain ⟨fd, F⟩ := c.def_ 15 (d := q_most_pairs) rfl
      exact ⟨_, fd, F, He.glo_ok X G (c.fact 15 (f := .glo "most_pairs") rfl), FunD.bindsN F fun _ _ _ _ _ _ us hl => match us, hl with | [_], _ => rfl⟩
    d_can_be_laid := by
      obtain ⟨fd, F⟩ := c.def_ 16 (d := q_can_be_laid) rfl
      exact ⟨_, fd, F, He.glo_ok X G (c.fact 16 (f := .glo "can_be_laid") rfl), FunD.bindsN F fun _ _ _ _ _ _ us hl => match us, hl with | [_], _ => rfl⟩
    d_law := by
      obtain ⟨fd, F⟩ := c.def_ 17 (d := q_law) rfl
      exact ⟨_, fd, F, He.glo_ok X G (c.fact 17 (f := .glo "law") rfl), FunD.bindsN F fun _ _ _ _ _ _ us hl => match us, hl with | [_], _ => rfl⟩
    t_is_shape := ⟨(ht "is_shape" (by simp [gd])).ex, He.glo_ok X G (c.fact 4 (f := .glo "is_shape") rfl), tb "is_shape" (by simp [gd]), by rw [tm]; exact List.mem_map.mpr ⟨"is_shape", by simp [gd], rfl⟩⟩ }
theorem cover {P : Program} {w : World} {K : PySem.W.Frag} {h : Heap} {mg : Str → Option Value} {f : Addr} (X : K.In h) (G : h.Ns mainGlobals mg) (hfa : mg ("law" : Str) = some (.ref f)) (c0 : obsE xt fa fn K = He.valD fn) (T : Tb) (ht : ∀ y ∈ gd, TabH K h y) (tm : T.tabs = gd.map fun y => (tabOf K y).2) :
    ∃ fd : FuncData, (∀ (s : Shared) (v : Value), BindsTo s fd ⟨[v], []⟩ [("script", v)]) ∧ ∀ base : Heap, (∀ y ∈ gd, LamX.TabB base mg (tabOf K y).1 (tabOf K y).2) → FnOk P w K mg base (L2.CX P w) 70 f fd ["script"] (spF ⟨K, w, P, T⟩ 1 den_law) := by
  obtain ⟨cx, c⟩ := says_e c0
  obtain ⟨fd, F⟩ := c.def_ 17 (d := q_law) rfl
  have e := hfa.symm.trans (He.glo_ok X G (c.fact 17 (f := .glo "law") rfl))
  cases e
  have b := FunD.bindsA (ps := ["script"]) F fun _ _ _ _ _ _ us hl => match us, hl with | [_], _ => rfl
  refine ⟨fd, fun s v => b s [v] rfl, fun base tb => ?_⟩
  have g : Gd P w K mg T base := facts X G c0 T base ht tb tm
  refine FunD.ok F sc_law (fun vs H Q E h => h.1) fun cdv A outer s H vs Q E hr h => ?_
  have hN := sc_law.nd
  have hu := rm_of (X := (cxOf (L2.CX P w) P w K mg base ["script", "dice", "columns", "row", "turn", "steps", "power", "many", "tall", "wide"] "law" (defScope t_law) (He.fAd K ("law", none)) cdv A outer s H E)) hr
  have tk := takes_of (X := (cxOf (L2.CX P w) P w K mg base ["script", "dice", "columns", "row", "turn", "steps", "power", "many", "tall", "wide"] "law" (defScope t_law) (He.fAd K ("law", none)) cdv A outer s H E)) rfl rfl rfl rfl
  have hp := passes_of (X := (cxOf (L2.CX P w) P w K mg base ["script", "dice", "columns", "row", "turn", "steps", "power", "many", "tall", "wide"] "law" (defScope t_law) (He.fAd K ("law", none)) cdv A outer s H E)) rfl
  have bd : SB (cxOf (L2.CX P w) P w K mg base ["script", "dice", "columns", "row", "turn", "steps", "power", "many", "tall", "wide"] "law" (defScope t_law) (He.fAd K ("law", none)) cdv A outer s H E) T (fun cls d _ H' => E cls d H') (defBody t_law) body_law := sb_cons (ss_for hp rfl (si_any (se_cal (cal__law_rounds g) hr (by decide) tk (sa_cons (se_var 0) (sa_cons (se_int) (sa_nil))) (alen_cons (alen_cons (alen_nil))))) (sg_name 1 hN) (sb_cons (ss_set 2 hN (se_cal (cal__law_roll g) hr (by decide) tk (sa_cons (se_var 1) (sa_cons (se_int) (sa_nil))) (alen_cons (alen_cons (alen_nil))))) (sb_cons (ss_set 3 hN (se_lst true (sa_cons (se_int) (sa_cons (se_int) (sa_nil))) (alen_cons (alen_cons (alen_nil))))) (sb_cons (ss_for hp rfl (si_r1 g.g_range (sa_cons (se_var 2) (sa_nil))) (sg_name 4 hN) (sb_one (ss_ex (se_mt PySem.F.plainAttrs_list PySem.F.slot_list_append PySem.F.type_list_append mt_dAppend (se_var 3) (sa_cons (se_op op_dAdd (se_ix hu (se_var 3) (se_un un_dNeg (se_int))) (se_ix hu (se_var 3) (se_op op_dSub (se_cb cb_len g.g_len boot_len (sa_cons (se_var 3) (sa_nil))) (se_int)))) (sa_nil)))))) (sb_cons (ss_if (sw_t (sw_or (st_cmp (op_dNe hu) (se_cal (cal_how_many g) hr (by decide) tk (sa_cons (se_cal (cal_block g) hr (by decide) tk (sa_cons (se_var 2) (sa_cons (se_int) (sa_nil))) (alen_cons (alen_cons (alen_nil)))) (sa_nil)) (alen_cons (alen_nil))) (se_ix hu (se_var 3) (se_var 2))) (sw_or1 (st_cmp (op_dNe hu) (se_cal (cal_how_many g) hr (by decide) tk (sa_cons (se_cal (cal_block g) hr (by decide) tk (sa_cons (se_var 2) (sa_cons (se_int) (sa_nil))) (alen_cons (alen_cons (alen_nil)))) (sa_nil)) (alen_cons (alen_nil))) (se_op op_dAdd (se_op op_dSub (se_int) (se_var 2)) (se_op op_dMulI (se_op op_dDiv (se_var 2) (se_int)) (se_int))))))) (sb_one (ss_ret (se_bl))) (sb_nil)) (sb_cons (ss_set 5 hN (se_cal (cal__law_roll g) hr (by decide) tk (sa_cons (se_var 1) (sa_cons (se_int) (sa_nil))) (alen_cons (alen_cons (alen_nil))))) (sb_cons (ss_set 6 hN (se_int)) (sb_cons (ss_for hp rfl (si_r1 g.g_range (sa_cons (se_op op_dDiv (se_op op_dMulI (se_var 5) (se_op op_dAdd (se_var 5) (se_int))) (se_int)) (sa_nil))) (sg_name 4 hN) (sb_one (ss_set 6 hN (se_op op_dMulI (se_var 6) (se_int))))) (sb_cons (ss_if (st_cmp (op_dNe hu) (se_cal (cal_how_many g) hr (by decide) tk (sa_cons (se_cal (cal_diamond g) hr (by decide) tk (sa_cons (se_var 5) (sa_nil)) (alen_cons (alen_nil))) (sa_nil)) (alen_cons (alen_nil))) (se_var 6)) (sb_one (ss_ret (se_bl))) (sb_nil)) (sb_cons (ss_par2 (i := 8) (j := 9) rfl hN (ha := sa_cons (se_op op_dAdd (se_int) (se_cal (cal__law_roll g) hr (by decide) tk (sa_cons (se_var 1) (sa_cons (se_int) (sa_nil))) (alen_cons (alen_cons (alen_nil))))) (sa_cons (se_op op_dAdd (se_int) (se_cal (cal__law_roll g) hr (by decide) tk (sa_cons (se_var 1) (sa_cons (se_int) (sa_nil))) (alen_cons (alen_cons (alen_nil))))) (sa_nil)))) (sb_cons (ss_set 7 hN (se_cal (cal_how_many g) hr (by decide) tk (sa_cons (se_cal (cal_block g) hr (by decide) tk (sa_cons (se_var 8) (sa_cons (se_var 9) (sa_nil))) (alen_cons (alen_cons (alen_nil)))) (sa_nil)) (alen_cons (alen_nil)))) (sb_cons (ss_if (sw_t (sw_or (st_cmp (op_dNe hu) (se_cal (cal_how_many g) hr (by decide) tk (sa_cons (se_cal (cal_block g) hr (by decide) tk (sa_cons (se_var 9) (sa_cons (se_var 8) (sa_nil))) (alen_cons (alen_cons (alen_nil)))) (sa_nil)) (alen_cons (alen_nil))) (se_var 7)) (sw_or1 (st_cmp (op_dNe hu) (se_cal (cal_how_many g) hr (by decide) tk (sa_cons (se_op op_dAdd (se_cal (cal_block g) hr (by decide) tk (sa_cons (se_var 8) (sa_cons (se_var 9) (sa_nil))) (alen_cons (alen_cons (alen_nil)))) (se_cal (cal_moved g) hr (by decide) tk (sa_cons (se_cal (cal_diamond g) hr (by decide) tk (sa_cons (se_int) (sa_nil)) (alen_cons (alen_nil))) (sa_cons (se_int) (sa_cons (se_int) (sa_nil)))) (alen_cons (alen_cons (alen_cons (alen_nil)))))) (sa_nil)) (alen_cons (alen_nil))) (se_op op_dMulI (se_int) (se_var 7)))))) (sb_one (ss_ret (se_bl))) (sb_nil)) (sb_one (ss_if (sw_t (sw_or (st_cmp (op_dNe hu) (se_cal (cal_can_be_laid g) hr (by decide) tk (sa_cons (se_cal (cal_block g) hr (by decide) tk (sa_cons (se_var 8) (sa_cons (se_var 9) (sa_nil))) (alen_cons (alen_cons (alen_nil)))) (sa_nil)) (alen_cons (alen_nil))) (se_cmp (op_dEq hu) (se_op op_dMulI (se_op op_dDiv (se_op op_dMulI (se_var 8) (se_var 9)) (se_int)) (se_int)) (se_op op_dMulI (se_var 8) (se_var 9)))) (sw_or1 (st_cmp (op_dNe hu) (se_cb cb_len g.g_len boot_len (sa_cons (se_cal (cal_most_pairs g) hr (by decide) tk (sa_cons (se_cal (cal_block g) hr (by decide) tk (sa_cons (se_var 8) (sa_cons (se_var 9) (sa_nil))) (alen_cons (alen_cons (alen_nil)))) (sa_nil)) (alen_cons (alen_nil))) (sa_nil))) (se_op op_dDiv (se_op op_dMulI (se_var 8) (se_var 9)) (se_int)))))) (sb_one (ss_ret (se_bl))) (sb_nil))))))))))))))) (sb_one (ss_ret (se_bl)))
  obtain ⟨hl, as, M, ds, r, rvs, hpp⟩ := h
  exact ⟨_, bd, as, entM true M, _, ent_rel true r, start_rsl rvs, fin_post r hpp⟩

end Law

set_option Elab.async false
set_option linter.all false
set_option autoImplicit false
set_option maxRecDepth 100000
set_option maxHeartbeats 4000000
namespace Law
open PySem PySem.Spec PyProof.Rows L2 EV
end Law
open PySem PySem.W PySem.Calls PyProof.Rows
theorem PySem.Challenge.cw_tilehall_k14_known_counts_of_pairs_holds : PySem.Challenge.rw_tilehall_k14_known_counts_of_pairs.Holds := by
  w_on; o_law
  refine HandSHeadRun.head_any (r := OpenLaw.row PySem.Challenge.rw_tilehall_k14_known_counts_of_pairs) (q := view (OpenLaw.row PySem.Challenge.rw_tilehall_k14_known_counts_of_pairs).prog [30]) (H := Law.hk) (ob := Law.ob) (M := 4000) (loose := Law.names) (d := HandSHeadRun.topDef (OpenLaw.row PySem.Challenge.rw_tilehall_k14_known_counts_of_pairs).prog 30) (kwd := []) Law.ob_eq
    (by kernel_rfl) (fun s => by kernel_rfl) Law.run (by kernel_rfl) (by kernel_rfl) (by kernel_rfl) (by rfl) (by first | assumption | decide +kernel) (by decide +kernel) ⟨rfl, rfl, rfl, rfl, rfl, by decide +kernel⟩ ?hw ?hc
  case hw => w_witness2
  case hc =>
    refine EV.walk_den (l := PySem.Challenge.rw_tilehall_k14_known_counts_of_pairs) (n := 63) (k := 70) (x := "script") (den := Law.den_law) (T := EV.tbT Law.gd) (gd := Law.gd) rfl (by decide) (by kernel_rfl) ⟨rfl, by decide, by decide⟩ ?F Law.main
    intro w mg fa h Y G hmg0
    obtain ⟨K, KX, c, ht⟩ := Y
    have hmg : mg ("law" : PySem.Str) = some (.ref fa) := by
      have e : (HandSHeadRun.topDef (OpenLaw.row PySem.Challenge.rw_tilehall_k14_known_counts_of_pairs).prog 30).name = ("law" : PySem.Str) := by kernel_rfl
      rw [← e]
      exact hmg0
    obtain ⟨fd, hb, hF⟩ := Law.cover (P := (PySem.Challenge.rw_tilehall_k14_known_counts_of_pairs).prog) (w := w) KX G hmg c (EV.tbT Law.gd K) ht rfl
    exact ⟨K, fd, KX, hb, rfl, ht, fun base _ _ tb => hF base tb⟩


